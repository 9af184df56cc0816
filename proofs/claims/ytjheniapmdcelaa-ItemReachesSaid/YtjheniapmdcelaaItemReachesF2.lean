/- The law ItemReaches: whatever the input, it answers true. No conditions. (Part ItemReachesF2 of its proof.) -/
import Derived.Test.YtjheniapmdcelaaItemReachesF1
set_option linter.unusedVariables false
set_option linter.unusedSimpArgs false
set_option linter.unusedSectionVars false
/- Printed by gen (walk.py). -/
namespace Go.Proofs.Abs
open Go Go.Proofs
set_option linter.unusedVariables false
set_option maxRecDepth 100000
set_option maxHeartbeats 0
noncomputable def ref01_Div_j1 (j5 : Int) : Option (Int × Bool) :=
  bind1 (ref01_Round j5) fun r6 =>
  some (r6, true)
noncomputable def ref01_Div  (p0 : Int) (p1 : Int) : Option (Int × Bool) :=
  if (p1 == 0) = true then (some (0, false))
  else (bind1 (quoI .i64 (IntKind.wrap .i64 p0) (IntKind.wrap .i64 p1)) fun v2 =>
  if (((IntKind.wrap .i64 (v2 * (IntKind.wrap .i64 p1))) != (IntKind.wrap .i64 p0)) && ((decide ((IntKind.wrap .i64 p0) < 0)) != (decide ((IntKind.wrap .i64 p1) < 0)))) = true then (ref01_Div_j1 (IntKind.wrap .i64 (v2 - 1)))
  else (ref01_Div_j1 v2))
theorem ok_ref01_Div (H : Heap) {p0 : Int} {p1 : Int} {ra : Int} {rb : Bool} (hF : ref01_Div p0 p1 = some (ra, rb)) : evS X 73 [.one .top (.int .i32 p0), .one .top (.int .i32 p1)] H = some (.tup [.one .top (.int .i32 ra), .one .top (.bool rb)], H) := by
  let E1 : EN := (0, .one .top (.int .i32 p0))
  let E2 : EN := (1, .one .top (.int .i32 p1))
  let E3 : EN := (6, .one .top (.int .i64 (IntKind.wrap .i64 p0)))
  let E4 : EN := (7, .one .top (.int .i64 (IntKind.wrap .i64 p1)))
  let E6 : EN := (15, .one .top (.int .i64 (IntKind.wrap .i64 p0)))
  let E7 : EN := (16, .one .top (.int .i64 (IntKind.wrap .i64 p1)))
  let E10 : EN := (19, .one .top (.int .i64 (IntKind.wrap .i64 p1)))
  let E12 : EN := (21, .one .top (.int .i64 (IntKind.wrap .i64 p0)))
  let E14 : EN := (5, .one .top (.bool true))
  let S18 : St := ⟨[E1, E2], [], H⟩
  let S19 : St := ⟨[E3, E4, E6, E7], [], H⟩
  refine yf Try.func73 true S18 ?_
  unfold ref01_Div at hF
  refine ysg S18 ?_
  refine w_seq ?_
  refine ysg ⟨[E1, E2, (10, .one .top (.bool (p1 == 0)))], [], H⟩ ?_
  rcases if_inv hF with ⟨h1, hF⟩ | ⟨h1, hF⟩
  refine yT h1 ⟨[], [], H⟩ ?_
  refine ysg ⟨[(4, .one .top (.int .i32 0)), (5, .one .top (.bool false))], [], H⟩ ?_
  refine w_ret ?_
  obtain ⟨e0, e1⟩ := some2_inv hF
  subst e0
  subst e1
  exact yp (.tup [.one .top (.int .i32 0), .one .top (.bool false)])
  refine yF h1 S18 ?_
  refine w_skip ?_
  refine ysg ⟨[E3, E4], [], H⟩ ?_
  refine w_seq ?_
  obtain ⟨v2, h3, hF⟩ := bind1_inv hF
  let E5 : EN := (8, .one .top (.int .i64 v2))
  let E8 : EN := (17, .one .top (.int .i64 v2))
  let E9 : EN := (18, .one .top (.int .i64 v2))
  let E11 : EN := (20, .one .top (.int .i64 (IntKind.wrap .i64 (v2 * (IntKind.wrap .i64 p1)))))
  refine w_regO ⟨[E3, E4, E5], [], H⟩ ?_ ?_
  refine yr 2 S19 ?_
  refine o_one ⟨[E3, E4, E6, E7, E8], [], H⟩ (st_binI S19 .i64 h3 (ev_quo (P := X.P) (ty := 3) (x := (.tmp 15)) (y := (.tmp 16)) (m := .top) (m' := .top) (k := .i64) (a := (IntKind.wrap .i64 p0)) (b := (IntKind.wrap .i64 p1))) (some 17) (by kernel_rfl) (by kernel_rfl)) ?_
  refine yr 1 ⟨[E3, E4, E5, E6, E7, E8], [], H⟩ ?_
  exact ye
  refine w_seq ?_
  refine yso ⟨[E5, (29, .one .top (.bool (((IntKind.wrap .i64 (v2 * (IntKind.wrap .i64 p1))) != (IntKind.wrap .i64 p0)) && ((decide ((IntKind.wrap .i64 p0) < 0)) != (decide ((IntKind.wrap .i64 p1) < 0))))))], [], H⟩ ?_ ?_
  refine yr 6 ⟨[E3, E4, E5, E9, E10, E11, E12, (22, .one .top (.bool ((IntKind.wrap .i64 (v2 * (IntKind.wrap .i64 p1))) != (IntKind.wrap .i64 p0)))), (23, .one .top (.bool ((IntKind.wrap .i64 (v2 * (IntKind.wrap .i64 p1))) != (IntKind.wrap .i64 p0))))], [], H⟩ ?_
  rcases bool_cases ((IntKind.wrap .i64 (v2 * (IntKind.wrap .i64 p1))) != (IntKind.wrap .i64 p0)) with h4 | h4
  refine o_eq (congrArg (fun q => (⟨[E3, E4, E5, E9, E10, E11, E12, (22, .one .top (.bool q)), (23, .one .top (.bool q))], [], H⟩ : St)) h4) ?_
  refine yr 6 ⟨[E3, E4, E5, E9, E10, E11, E12, (22, .one .top (.bool true)), (23, .one .top (.bool true)), (24, .one .top (.int .i64 (IntKind.wrap .i64 p0))), (25, .one .top (.bool (decide ((IntKind.wrap .i64 p0) < 0)))), (26, .one .top (.int .i64 (IntKind.wrap .i64 p1))), (27, .one .top (.bool (decide ((IntKind.wrap .i64 p1) < 0)))), (28, .one .top (.bool ((decide ((IntKind.wrap .i64 p0) < 0)) != (decide ((IntKind.wrap .i64 p1) < 0))))), (29, .one .top (.bool ((decide ((IntKind.wrap .i64 p0) < 0)) != (decide ((IntKind.wrap .i64 p1) < 0)))))], [], H⟩ ?_
  refine o_eq2 (congrArg (fun q0 => (⟨[E5, (29, .one .top (.bool q0))], [], H⟩ : St)) (show ((decide ((IntKind.wrap .i64 p0) < 0)) != (decide ((IntKind.wrap .i64 p1) < 0))) = (((IntKind.wrap .i64 (v2 * (IntKind.wrap .i64 p1))) != (IntKind.wrap .i64 p0)) && ((decide ((IntKind.wrap .i64 p0) < 0)) != (decide ((IntKind.wrap .i64 p1) < 0)))) by simp [h4])) ?_
  exact ye
  refine o_eq (congrArg (fun q => (⟨[E3, E4, E5, E9, E10, E11, E12, (22, .one .top (.bool q)), (23, .one .top (.bool q))], [], H⟩ : St)) h4) ?_
  refine yr 6 ⟨[E3, E4, E5, E9, E10, E11, E12, (22, .one .top (.bool false)), (23, .one .top (.bool false)), (24, .tup []), (25, .tup []), (26, .tup []), (27, .tup []), (28, .tup []), (29, .one .top (.bool false))], [], H⟩ ?_
  refine o_eq2 (congrArg (fun q0 => (⟨[E5, (29, .one .top (.bool q0))], [], H⟩ : St)) (show false = (((IntKind.wrap .i64 (v2 * (IntKind.wrap .i64 p1))) != (IntKind.wrap .i64 p0)) && ((decide ((IntKind.wrap .i64 p0) < 0)) != (decide ((IntKind.wrap .i64 p1) < 0)))) by simp [h4])) ?_
  exact ye
  refine w_join (α := (Int)) (fun x => (⟨[(8, .one .top (.int .i64 x))], [], H⟩ : St)) (fun x => ref01_Div_j1 x = some (ra, rb)) ?_ ?_
  rintro j5 hF
  replace hF : ref01_Div_j1 j5 = some (ra, rb) := hF
  let E15 : EN := (8, .one .top (.int .i64 j5))
  let E16 : EN := (32, .one .top (.int .i64 j5))
  unfold ref01_Div_j1 at hF
  refine w_seq ?_
  obtain ⟨r6, c7, hF⟩ := bind1_inv hF
  let E13 : EN := (4, .one .top (.int .i32 r6))
  let E17 : EN := (33, .one .top (.int .i32 r6))
  refine w_regO ⟨[E13, E14], [], H⟩ ?_ ?_
  refine yr 1 ⟨[E15, E16], [], H⟩ ?_
  refine o_one ⟨[E15, E16, E17], [], H⟩ (yc (some 33) true false (⟨[E15, E16], [], H⟩ : St) (ok_ref01_Round H c7)) ?_
  refine yr 2 ⟨[E13, E14, E15, E16, E17], [], H⟩ ?_
  exact ye
  refine w_ret ?_
  obtain ⟨e0, e1⟩ := some2_inv hF
  subst e0
  subst e1
  exact yp (.tup [.one .top (.int .i32 r6), .one .top (.bool true)])
  rcases if_inv hF with ⟨h8, hF⟩ | ⟨h8, hF⟩
  refine yT h8 ⟨[E5], [], H⟩ ?_
  refine yg ⟨[(8, .one .top (.int .i64 (IntKind.wrap .i64 (v2 - 1))))], [], H⟩ ?_
  exact ⟨(IntKind.wrap .i64 (v2 - 1)), hF, (by kernel_rfl)⟩
  refine yF h8 ⟨[E5], [], H⟩ ?_
  refine w_skip ?_
  exact ⟨v2, hF, (by kernel_rfl)⟩
noncomputable def ref01_Mod  (p0 : Int) (p1 : Int) : Option (Int × Bool) :=
  bind2 (ref01_Div p0 p1) fun r1 r2 =>
  if (!r2) = true then (some (0, false))
  else (bind1 (ref01_Round (IntKind.wrap .i64 ((IntKind.wrap .i64 p0) - (IntKind.wrap .i64 ((IntKind.wrap .i64 r1) * (IntKind.wrap .i64 p1)))))) fun r5 =>
  some (r5, true))
theorem ok_ref01_Mod (H : Heap) {p0 : Int} {p1 : Int} {ra : Int} {rb : Bool} (hF : ref01_Mod p0 p1 = some (ra, rb)) : evS X 74 [.one .top (.int .i32 p0), .one .top (.int .i32 p1)] H = some (.tup [.one .top (.int .i32 ra), .one .top (.bool rb)], H) := by
  let E1 : EN := (0, .one .top (.int .i32 p0))
  let E2 : EN := (1, .one .top (.int .i32 p1))
  let E4 : EN := (9, .one .top (.int .i32 p0))
  let E5 : EN := (10, .one .top (.int .i32 p1))
  let E8 : EN := (5, .one .top (.bool true))
  let E9 : EN := (16, .one .top (.int .i32 p0))
  let E10 : EN := (17, .one .top (.int .i64 (IntKind.wrap .i64 p0)))
  let E13 : EN := (20, .one .top (.int .i32 p1))
  let E14 : EN := (21, .one .top (.int .i64 (IntKind.wrap .i64 p1)))
  let S18 : St := ⟨[E1, E2, E4, E5], [], H⟩
  refine yf Try.func74 true ⟨[E1, E2], [], H⟩ ?_
  unfold ref01_Mod at hF
  refine ysg ⟨[E1, E2], [], H⟩ ?_
  refine w_seq ?_
  obtain ⟨r1, r2, c3, hF⟩ := bind2_inv hF
  let E3 : EN := (6, .one .top (.int .i32 r1))
  let E6 : EN := (11, .tup [.one .top (.int .i32 r1), .one .top (.bool r2)])
  let E11 : EN := (18, .one .top (.int .i32 r1))
  let E12 : EN := (19, .one .top (.int .i64 (IntKind.wrap .i64 r1)))
  let E15 : EN := (22, .one .top (.int .i64 (IntKind.wrap .i64 ((IntKind.wrap .i64 r1) * (IntKind.wrap .i64 p1)))))
  let E16 : EN := (23, .one .top (.int .i64 (IntKind.wrap .i64 ((IntKind.wrap .i64 p0) - (IntKind.wrap .i64 ((IntKind.wrap .i64 r1) * (IntKind.wrap .i64 p1)))))))
  let S19 : St := ⟨[E1, E2, E3, E9, E10, E11, E12, E13, E14, E15, E16], [], H⟩
  refine w_regO ⟨[E1, E2, E3, (7, .one .top (.bool r2))], [], H⟩ ?_ ?_
  refine yr 2 S18 ?_
  refine o_one ⟨[E1, E2, E4, E5, E6], [], H⟩ (yc (some 11) true false S18 (ok_ref01_Div H c3)) ?_
  refine yr 5 ⟨[E1, E2, E3, (7, .one .top (.bool r2)), (8, .tup [.one .top (.int .i32 r1), .one .top (.bool r2)]), E4, E5, E6, (12, .one .top (.int .i32 r1)), (13, .one .top (.bool r2))], [], H⟩ ?_
  exact ye
  refine w_seq ?_
  refine ysg ⟨[E1, E2, E3, (15, .one .top (.bool (!r2)))], [], H⟩ ?_
  rcases if_inv hF with ⟨h4, hF⟩ | ⟨h4, hF⟩
  refine yT h4 ⟨[], [], H⟩ ?_
  refine ysg ⟨[(4, .one .top (.int .i32 0)), (5, .one .top (.bool false))], [], H⟩ ?_
  refine w_ret ?_
  obtain ⟨e0, e1⟩ := some2_inv hF
  subst e0
  subst e1
  exact yp (.tup [.one .top (.int .i32 0), .one .top (.bool false)])
  refine yF h4 ⟨[E1, E2, E3], [], H⟩ ?_
  refine w_skip ?_
  refine w_seq ?_
  obtain ⟨r5, c6, hF⟩ := bind1_inv hF
  let E7 : EN := (4, .one .top (.int .i32 r5))
  let E17 : EN := (24, .one .top (.int .i32 r5))
  refine w_regO ⟨[E7, E8], [], H⟩ ?_ ?_
  refine yr 8 S19 ?_
  refine o_one ⟨[E1, E2, E3, E9, E10, E11, E12, E13, E14, E15, E16, E17], [], H⟩ (yc (some 24) true false S19 (ok_ref01_Round H c6)) ?_
  refine yr 2 ⟨[E1, E2, E7, E8, E3, E9, E10, E11, E12, E13, E14, E15, E16, E17], [], H⟩ ?_
  exact ye
  refine w_ret ?_
  obtain ⟨e0, e1⟩ := some2_inv hF
  subst e0
  subst e1
  exact yp (.tup [.one .top (.int .i32 r5), .one .top (.bool true)])
noncomputable def ref04_is  (p0 : Bool) : Option (Int) :=
  if p0 = true then (some 1)
  else (some 0)
theorem ok_ref04_is (H : Heap) {p0 : Bool} {ra : Int} (hF : ref04_is p0 = some ra) : evS X 135 [.one .top (.bool p0)] H = some (.one .top (.int .u32 ra), H) := by
  let S1 : St := ⟨[(0, .one .top (.bool p0))], [], H⟩
  refine yf Try.func135 true S1 ?_
  unfold ref04_is at hF
  refine ysg S1 ?_
  refine w_seq ?_
  refine ysg ⟨[(3, .one .top (.bool p0))], [], H⟩ ?_
  rcases if_inv hF with ⟨h1, hF⟩ | ⟨h1, hF⟩
  refine yT h1 ⟨[], [], H⟩ ?_
  refine ysg ⟨[(2, .one .top (.int .u32 1))], [], H⟩ ?_
  refine w_ret ?_
  obtain e0 := some1_inv hF
  subst e0
  exact yp (.one .top (.int .u32 1))
  refine yF h1 ⟨[], [], H⟩ ?_
  refine w_skip ?_
  refine ysg ⟨[(2, .one .top (.int .u32 0))], [], H⟩ ?_
  refine w_ret ?_
  obtain e0 := some1_inv hF
  subst e0
  exact yp (.one .top (.int .u32 0))
noncomputable def ref04_reckon  (p0 : Int) (p1 : Int) (p2 : Int) : Option (Int × Bool) :=
  if (p0 == 6) = true then (some ((IntKind.wrap .u32 (p1 + p2)), true))
  else (if (p0 == 7) = true then (some ((IntKind.wrap .u32 (p1 - p2)), true))
  else (if (p0 == 8) = true then (bind1 (ref01_Times (IntKind.wrap .i32 p1) (IntKind.wrap .i32 p2)) fun r4 =>
  some ((IntKind.wrap .u32 r4), true))
  else (if (p0 == 9) = true then (bind2 (ref01_Div (IntKind.wrap .i32 p1) (IntKind.wrap .i32 p2)) fun r7 r8 =>
  some ((IntKind.wrap .u32 r7), r8))
  else (if (p0 == 10) = true then (bind2 (ref01_Mod (IntKind.wrap .i32 p1) (IntKind.wrap .i32 p2)) fun r11 r12 =>
  some ((IntKind.wrap .u32 r11), r12))
  else (if (p0 == 11) = true then (some ((bitsOf .and .u32 p1 p2), true))
  else (if (p0 == 12) = true then (some ((bitsOf .or .u32 p1 p2), true))
  else (if (p0 == 13) = true then (some ((bitsOf .xor .u32 p1 p2), true))
  else (if (p0 == 14) = true then (bind1 (ref04_is (decide ((IntKind.wrap .i32 p1) < (IntKind.wrap .i32 p2)))) fun r18 =>
  some (r18, true))
  else (if (p0 == 15) = true then (bind1 (ref04_is (decide ((IntKind.wrap .i32 p1) ≤ (IntKind.wrap .i32 p2)))) fun r21 =>
  some (r21, true))
  else (if (p0 == 16) = true then (bind1 (ref04_is (p1 == p2)) fun r24 =>
  some (r24, true))
  else (if (p0 == 17) = true then (bind1 (ref04_is (p1 != p2)) fun r27 =>
  some (r27, true))
  else (some (0, true)))))))))))))
theorem ok_ref04_reckon (H : Heap) {p0 : Int} {p1 : Int} {p2 : Int} {ra : Int} {rb : Bool} (hF : ref04_reckon p0 p1 p2 = some (ra, rb)) : evS X 116 [.one .top (.int .i64 p0), .one .top (.int .u32 p1), .one .top (.int .u32 p2)] H = some (.tup [.one .top (.int .u32 ra), .one .top (.bool rb)], H) := by
  let E1 : EN := (0, .one .top (.int .i64 p0))
  let E2 : EN := (1, .one .top (.int .u32 p1))
  let E3 : EN := (2, .one .top (.int .u32 p2))
  let E4 : EN := (8, .one .top (.int .i32 (IntKind.wrap .i32 p1)))
  let E5 : EN := (9, .one .top (.int .i32 (IntKind.wrap .i32 p2)))
  let E6 : EN := (18, .one .top (.int .i64 p0))
  let E7 : EN := (7, .one .top (.bool true))
  let E9 : EN := (31, .one .top (.int .i32 (IntKind.wrap .i32 p1)))
  let E10 : EN := (32, .one .top (.int .i32 (IntKind.wrap .i32 p2)))
  let E13 : EN := (38, .one .top (.int .i32 (IntKind.wrap .i32 p1)))
  let E14 : EN := (39, .one .top (.int .i32 (IntKind.wrap .i32 p2)))
  let E18 : EN := (49, .one .top (.int .i32 (IntKind.wrap .i32 p1)))
  let E19 : EN := (50, .one .top (.int .i32 (IntKind.wrap .i32 p2)))
  let E22 : EN := (74, .one .top (.int .i32 (IntKind.wrap .i32 p1)))
  let E23 : EN := (75, .one .top (.int .i32 (IntKind.wrap .i32 p2)))
  let E24 : EN := (76, .one .top (.bool (decide ((IntKind.wrap .i32 p1) < (IntKind.wrap .i32 p2)))))
  let E27 : EN := (80, .one .top (.int .i32 (IntKind.wrap .i32 p1)))
  let E28 : EN := (81, .one .top (.int .i32 (IntKind.wrap .i32 p2)))
  let E29 : EN := (82, .one .top (.bool (decide ((IntKind.wrap .i32 p1) ≤ (IntKind.wrap .i32 p2)))))
  let E32 : EN := (86, .one .top (.int .u32 p1))
  let E33 : EN := (87, .one .top (.int .u32 p2))
  let E34 : EN := (88, .one .top (.bool (p1 == p2)))
  let E37 : EN := (92, .one .top (.int .u32 p1))
  let E38 : EN := (93, .one .top (.int .u32 p2))
  let E39 : EN := (94, .one .top (.bool (p1 != p2)))
  let S41 : St := ⟨[E2, E3, E4, E5, E6], [], H⟩
  let S42 : St := ⟨[E2, E3], [], H⟩
  let S43 : St := ⟨[E4, E5], [], H⟩
  let S44 : St := ⟨[E4, E5, E9, E10], [], H⟩
  let S45 : St := ⟨[E4, E5, E13, E14], [], H⟩
  let S46 : St := ⟨[E4, E5, E18, E19], [], H⟩
  let S47 : St := ⟨[E4, E5, E22, E23, E24], [], H⟩
  let S48 : St := ⟨[E4, E5, E27, E28, E29], [], H⟩
  let S49 : St := ⟨[E2, E3, E32, E33, E34], [], H⟩
  let S50 : St := ⟨[E2, E3, E37, E38, E39], [], H⟩
  refine yf Try.func116 true ⟨[E1, E2, E3], [], H⟩ ?_
  unfold ref04_reckon at hF
  refine ysg ⟨[E1, E2, E3], [], H⟩ ?_
  refine ysg ⟨[E1, E2, E3, E4, E5], [], H⟩ ?_
  refine ysg S41 ?_
  refine w_block ?_
  refine ysg ⟨[E2, E3, E4, E5, E6, (19, .one .top (.bool (p0 == 6)))], [], H⟩ ?_
  rcases if_inv hF with ⟨h1, hF⟩ | ⟨h1, hF⟩
  refine yT h1 S42 ?_
  refine ysg ⟨[(6, .one .top (.int .u32 (IntKind.wrap .u32 (p1 + p2)))), E7], [], H⟩ ?_
  refine w_ret ?_
  obtain ⟨e0, e1⟩ := some2_inv hF
  subst e0
  subst e1
  exact yp (.tup [.one .top (.int .u32 (IntKind.wrap .u32 (p1 + p2))), .one .top (.bool true)])
  refine yF h1 S41 ?_
  refine ysg ⟨[E2, E3, E4, E5, E6, (24, .one .top (.bool (p0 == 7)))], [], H⟩ ?_
  rcases if_inv hF with ⟨h2, hF⟩ | ⟨h2, hF⟩
  refine yT h2 S42 ?_
  refine ysg ⟨[(6, .one .top (.int .u32 (IntKind.wrap .u32 (p1 - p2)))), E7], [], H⟩ ?_
  refine w_ret ?_
  obtain ⟨e0, e1⟩ := some2_inv hF
  subst e0
  subst e1
  exact yp (.tup [.one .top (.int .u32 (IntKind.wrap .u32 (p1 - p2))), .one .top (.bool true)])
  refine yF h2 S41 ?_
  refine ysg ⟨[E2, E3, E4, E5, E6, (29, .one .top (.bool (p0 == 8)))], [], H⟩ ?_
  rcases if_inv hF with ⟨h3, hF⟩ | ⟨h3, hF⟩
  refine yT h3 S43 ?_
  refine w_seq ?_
  obtain ⟨r4, c5, hF⟩ := bind1_inv hF
  let E8 : EN := (6, .one .top (.int .u32 (IntKind.wrap .u32 r4)))
  let E11 : EN := (33, .one .top (.int .i32 r4))
  refine w_regO ⟨[E8, E7], [], H⟩ ?_ ?_
  refine yr 2 S44 ?_
  refine o_one ⟨[E4, E5, E9, E10, E11], [], H⟩ (yc (some 33) true false S44 (ok_ref01_Times H c5)) ?_
  refine yr 3 ⟨[E8, E7, E4, E5, E9, E10, E11, (34, .one .top (.int .u32 (IntKind.wrap .u32 r4)))], [], H⟩ ?_
  exact ye
  refine w_ret ?_
  obtain ⟨e0, e1⟩ := some2_inv hF
  subst e0
  subst e1
  exact yp (.tup [.one .top (.int .u32 (IntKind.wrap .u32 r4)), .one .top (.bool true)])
  refine yF h3 S41 ?_
  refine ysg ⟨[E2, E3, E4, E5, E6, (35, .one .top (.bool (p0 == 9)))], [], H⟩ ?_
  rcases if_inv hF with ⟨h6, hF⟩ | ⟨h6, hF⟩
  refine yT h6 S43 ?_
  refine w_seq ?_
  obtain ⟨r7, r8, c9, hF⟩ := bind2_inv hF
  let E12 : EN := (10, .one .top (.int .i32 r7))
  let E15 : EN := (40, .tup [.one .top (.int .i32 r7), .one .top (.bool r8)])
  refine w_regO ⟨[E12, (11, .one .top (.bool r8))], [], H⟩ ?_ ?_
  refine yr 2 S45 ?_
  refine o_one ⟨[E4, E5, E13, E14, E15], [], H⟩ (yc (some 40) true false S45 (ok_ref01_Div H c9)) ?_
  refine yr 5 ⟨[E4, E5, E12, (11, .one .top (.bool r8)), (37, .tup [.one .top (.int .i32 r7), .one .top (.bool r8)]), E13, E14, E15, (41, .one .top (.int .i32 r7)), (42, .one .top (.bool r8))], [], H⟩ ?_
  exact ye
  refine ysg ⟨[(6, .one .top (.int .u32 (IntKind.wrap .u32 r7))), (7, .one .top (.bool r8))], [], H⟩ ?_
  refine w_ret ?_
  obtain ⟨e0, e1⟩ := some2_inv hF
  subst e0
  subst e1
  exact yp (.tup [.one .top (.int .u32 (IntKind.wrap .u32 r7)), .one .top (.bool r8)])
  refine yF h6 S41 ?_
  refine ysg ⟨[E2, E3, E4, E5, E6, (46, .one .top (.bool (p0 == 10)))], [], H⟩ ?_
  rcases if_inv hF with ⟨h10, hF⟩ | ⟨h10, hF⟩
  refine yT h10 S43 ?_
  refine w_seq ?_
  obtain ⟨r11, r12, c13, hF⟩ := bind2_inv hF
  let E16 : EN := (12, .one .top (.int .i32 r11))
  let E17 : EN := (13, .one .top (.bool r12))
  let E20 : EN := (51, .tup [.one .top (.int .i32 r11), .one .top (.bool r12)])
  refine w_regO ⟨[E16, E17], [], H⟩ ?_ ?_
  refine yr 2 S46 ?_
  refine o_one ⟨[E4, E5, E18, E19, E20], [], H⟩ (yc (some 51) true false S46 (ok_ref01_Mod H c13)) ?_
  refine yr 5 ⟨[E4, E5, E16, E17, (48, .tup [.one .top (.int .i32 r11), .one .top (.bool r12)]), E18, E19, E20, (52, .one .top (.int .i32 r11)), (53, .one .top (.bool r12))], [], H⟩ ?_
  exact ye
  refine ysg ⟨[(6, .one .top (.int .u32 (IntKind.wrap .u32 r11))), (7, .one .top (.bool r12))], [], H⟩ ?_
  refine w_ret ?_
  obtain ⟨e0, e1⟩ := some2_inv hF
  subst e0
  subst e1
  exact yp (.tup [.one .top (.int .u32 (IntKind.wrap .u32 r11)), .one .top (.bool r12)])
  refine yF h10 S41 ?_
  refine ysg ⟨[E2, E3, E4, E5, E6, (57, .one .top (.bool (p0 == 11)))], [], H⟩ ?_
  rcases if_inv hF with ⟨h14, hF⟩ | ⟨h14, hF⟩
  refine yT h14 S42 ?_
  refine ysg ⟨[(6, .one .top (.int .u32 (bitsOf .and .u32 p1 p2))), E7], [], H⟩ ?_
  refine w_ret ?_
  obtain ⟨e0, e1⟩ := some2_inv hF
  subst e0
  subst e1
  exact yp (.tup [.one .top (.int .u32 (bitsOf .and .u32 p1 p2)), .one .top (.bool true)])
  refine yF h14 S41 ?_
  refine ysg ⟨[E2, E3, E4, E5, E6, (62, .one .top (.bool (p0 == 12)))], [], H⟩ ?_
  rcases if_inv hF with ⟨h15, hF⟩ | ⟨h15, hF⟩
  refine yT h15 S42 ?_
  refine ysg ⟨[(6, .one .top (.int .u32 (bitsOf .or .u32 p1 p2))), E7], [], H⟩ ?_
  refine w_ret ?_
  obtain ⟨e0, e1⟩ := some2_inv hF
  subst e0
  subst e1
  exact yp (.tup [.one .top (.int .u32 (bitsOf .or .u32 p1 p2)), .one .top (.bool true)])
  refine yF h15 S41 ?_
  refine ysg ⟨[E2, E3, E4, E5, E6, (67, .one .top (.bool (p0 == 13)))], [], H⟩ ?_
  rcases if_inv hF with ⟨h16, hF⟩ | ⟨h16, hF⟩
  refine yT h16 S42 ?_
  refine ysg ⟨[(6, .one .top (.int .u32 (bitsOf .xor .u32 p1 p2))), E7], [], H⟩ ?_
  refine w_ret ?_
  obtain ⟨e0, e1⟩ := some2_inv hF
  subst e0
  subst e1
  exact yp (.tup [.one .top (.int .u32 (bitsOf .xor .u32 p1 p2)), .one .top (.bool true)])
  refine yF h16 S41 ?_
  refine ysg ⟨[E2, E3, E4, E5, E6, (72, .one .top (.bool (p0 == 14)))], [], H⟩ ?_
  rcases if_inv hF with ⟨h17, hF⟩ | ⟨h17, hF⟩
  refine yT h17 S43 ?_
  refine w_seq ?_
  obtain ⟨r18, c19, hF⟩ := bind1_inv hF
  let E21 : EN := (6, .one .top (.int .u32 r18))
  let E25 : EN := (77, .one .top (.int .u32 r18))
  refine w_regO ⟨[E21, E7], [], H⟩ ?_ ?_
  refine yr 3 S47 ?_
  refine o_one ⟨[E4, E5, E22, E23, E24, E25], [], H⟩ (yc (some 77) true false S47 (ok_ref04_is H c19)) ?_
  refine yr 2 ⟨[E21, E7, E4, E5, E22, E23, E24, E25], [], H⟩ ?_
  exact ye
  refine w_ret ?_
  obtain ⟨e0, e1⟩ := some2_inv hF
  subst e0
  subst e1
  exact yp (.tup [.one .top (.int .u32 r18), .one .top (.bool true)])
  refine yF h17 S41 ?_
  refine ysg ⟨[E2, E3, E4, E5, E6, (78, .one .top (.bool (p0 == 15)))], [], H⟩ ?_
  rcases if_inv hF with ⟨h20, hF⟩ | ⟨h20, hF⟩
  refine yT h20 S43 ?_
  refine w_seq ?_
  obtain ⟨r21, c22, hF⟩ := bind1_inv hF
  let E26 : EN := (6, .one .top (.int .u32 r21))
  let E30 : EN := (83, .one .top (.int .u32 r21))
  refine w_regO ⟨[E26, E7], [], H⟩ ?_ ?_
  refine yr 3 S48 ?_
  refine o_one ⟨[E4, E5, E27, E28, E29, E30], [], H⟩ (yc (some 83) true false S48 (ok_ref04_is H c22)) ?_
  refine yr 2 ⟨[E26, E7, E4, E5, E27, E28, E29, E30], [], H⟩ ?_
  exact ye
  refine w_ret ?_
  obtain ⟨e0, e1⟩ := some2_inv hF
  subst e0
  subst e1
  exact yp (.tup [.one .top (.int .u32 r21), .one .top (.bool true)])
  refine yF h20 ⟨[E2, E3, E6], [], H⟩ ?_
  refine ysg ⟨[E2, E3, E6, (84, .one .top (.bool (p0 == 16)))], [], H⟩ ?_
  rcases if_inv hF with ⟨h23, hF⟩ | ⟨h23, hF⟩
  refine yT h23 S42 ?_
  refine w_seq ?_
  obtain ⟨r24, c25, hF⟩ := bind1_inv hF
  let E31 : EN := (6, .one .top (.int .u32 r24))
  let E35 : EN := (89, .one .top (.int .u32 r24))
  refine w_regO ⟨[E31, E7], [], H⟩ ?_ ?_
  refine yr 3 S49 ?_
  refine o_one ⟨[E2, E3, E32, E33, E34, E35], [], H⟩ (yc (some 89) true false S49 (ok_ref04_is H c25)) ?_
  refine yr 2 ⟨[E2, E3, E31, E7, E32, E33, E34, E35], [], H⟩ ?_
  exact ye
  refine w_ret ?_
  obtain ⟨e0, e1⟩ := some2_inv hF
  subst e0
  subst e1
  exact yp (.tup [.one .top (.int .u32 r24), .one .top (.bool true)])
  refine yF h23 ⟨[E2, E3, E6], [], H⟩ ?_
  refine ysg ⟨[E2, E3, (90, .one .top (.bool (p0 == 17)))], [], H⟩ ?_
  rcases if_inv hF with ⟨h26, hF⟩ | ⟨h26, hF⟩
  refine yT h26 S42 ?_
  refine w_seq ?_
  obtain ⟨r27, c28, hF⟩ := bind1_inv hF
  let E36 : EN := (6, .one .top (.int .u32 r27))
  let E40 : EN := (95, .one .top (.int .u32 r27))
  refine w_regO ⟨[E36, E7], [], H⟩ ?_ ?_
  refine yr 3 S50 ?_
  refine o_one ⟨[E2, E3, E37, E38, E39, E40], [], H⟩ (yc (some 95) true false S50 (ok_ref04_is H c28)) ?_
  refine yr 2 ⟨[E2, E3, E36, E7, E37, E38, E39, E40], [], H⟩ ?_
  exact ye
  refine w_ret ?_
  obtain ⟨e0, e1⟩ := some2_inv hF
  subst e0
  subst e1
  exact yp (.tup [.one .top (.int .u32 r27), .one .top (.bool true)])
  refine yF h26 ⟨[], [], H⟩ ?_
  refine ysg ⟨[(6, .one .top (.int .u32 0)), E7], [], H⟩ ?_
  refine w_ret ?_
  obtain ⟨e0, e1⟩ := some2_inv hF
  subst e0
  subst e1
  exact yp (.tup [.one .top (.int .u32 0), .one .top (.bool true)])
noncomputable def ref04_trap  (p0 : T_ref04_Cpu) (p1 : Int) : Option (T_ref04_Cpu) :=
  if (decide (p0.PC_ < p0.Guard_)) = true then (bind1 (ref04_fault p0 111) fun r2 =>
  some r2)
  else (some (T_ref04_Cpu.mk p0.R_ p0.Vector_ p0.PC_ p1 p0.State_ p0.Why_ p0.Steps_ p0.Taken_ p0.Out_ p0.Entry_ p0.Vector_ p0.Guard_ p0.Limit_ p0.Input_))
theorem ok_ref04_trap (H : Heap) {p0 : T_ref04_Cpu} {p1 : Int} {ra : T_ref04_Cpu} (hF : ref04_trap p0 p1 = some ra) : evS X 117 [.agg (m1_ref04_Cpu p0), .one .top (.int .u32 p1)] H = some (.agg (m1_ref04_Cpu ra), H) := by
  let E1 : EN := (1, .one .top (.int .u32 p1))
  let E2 : EN := (2, .one .top (.loc 2 0))
  let E3 : EN := (4, .one .top (.loc 4 0))
  let B4 : EB := (2, (m1_ref04_Cpu p0))
  let B5 : EB := (4, (List.replicate 19 (.top, .int .u32 0) ++ List.replicate 4 (.top, .int .i64 0) ++ [((.own 1), .sl 2 (List.map e_api_Event ([] : List T_api_Event)))] ++ List.replicate 4 (.top, .int .u32 0) ++ [((.own 1), .sl 1 (List.map (eI .i32) ([] : List Int)))]))
  let E6 : EN := (10, .agg (m1_ref04_Cpu p0))
  let S8 : St := ⟨[E1, E2, E3], [B4, B5], H⟩
  let S9 : St := ⟨[E2, E3, E6], [B4, B5], H⟩
  refine yf Try.func117 true ⟨[(0, .agg (m1_ref04_Cpu p0)), E1], [], H⟩ ?_
  unfold ref04_trap at hF
  refine ysg S8 ?_
  refine w_seq ?_
  refine ysg ⟨[E1, E2, E3, (9, .one .top (.bool (decide (p0.PC_ < p0.Guard_))))], [B4, B5], H⟩ ?_
  rcases if_inv hF with ⟨h1, hF⟩ | ⟨h1, hF⟩
  refine yT h1 ⟨[E2, E3], [B4, B5], H⟩ ?_
  refine w_seq ?_
  obtain ⟨r2, c3, hF⟩ := bind1_inv hF
  let E7 : EN := (11, .agg (m1_ref04_Cpu r2))
  refine w_regO ⟨[E3], [(4, (m1_ref04_Cpu r2))], H⟩ ?_ ?_
  refine yr 1 S9 ?_
  refine o_one ⟨[E2, E3, E6, E7], [B4, B5], H⟩ (yc (some 11) true false S9 (ok_ref04_fault H c3)) ?_
  refine yr 1 ⟨[E2, E3, E6, E7], [B4, (4, (m1_ref04_Cpu r2))], H⟩ ?_
  exact ye
  refine w_ret ?_
  obtain e0 := some1_inv hF
  subst e0
  exact yp (.agg (m1_ref04_Cpu r2))
  refine yF h1 S8 ?_
  refine w_skip ?_
  refine ysg ⟨[E2, E3], [(2, (arM .u32 16 p0.R_ ++ [(.top, .int .u32 p0.Vector_), (.top, .int .u32 p0.PC_), (.top, .int .u32 p1), (.top, .int .i64 p0.State_), (.top, .int .i64 p0.Why_), (.top, .int .i64 p0.Steps_), (.top, .int .i64 p0.Taken_), ((.own 0), .sl 2 (List.map e_api_Event p0.Out_)), (.top, .int .u32 p0.Entry_), (.top, .int .u32 p0.Vector_), (.top, .int .u32 p0.Guard_), (.top, .int .u32 p0.Limit_), ((.own 0), .sl 1 (List.map (eI .i32) p0.Input_))])), B5], H⟩ ?_
  refine ysg ⟨[E3], [(4, (arM .u32 16 p0.R_ ++ [(.top, .int .u32 p0.Vector_), (.top, .int .u32 p0.PC_), (.top, .int .u32 p1), (.top, .int .i64 p0.State_), (.top, .int .i64 p0.Why_), (.top, .int .i64 p0.Steps_), (.top, .int .i64 p0.Taken_), ((.own 0), .sl 2 (List.map e_api_Event p0.Out_)), (.top, .int .u32 p0.Entry_), (.top, .int .u32 p0.Vector_), (.top, .int .u32 p0.Guard_), (.top, .int .u32 p0.Limit_), ((.own 0), .sl 1 (List.map (eI .i32) p0.Input_))]))], H⟩ ?_
  refine w_ret ?_
  obtain e0 := some1_inv hF
  subst e0
  exact yp (.agg (arM .u32 16 p0.R_ ++ [(.top, .int .u32 p0.Vector_), (.top, .int .u32 p0.PC_), (.top, .int .u32 p1), (.top, .int .i64 p0.State_), (.top, .int .i64 p0.Why_), (.top, .int .i64 p0.Steps_), (.top, .int .i64 p0.Taken_), ((.own 0), .sl 2 (List.map e_api_Event p0.Out_)), (.top, .int .u32 p0.Entry_), (.top, .int .u32 p0.Vector_), (.top, .int .u32 p0.Guard_), (.top, .int .u32 p0.Limit_), ((.own 0), .sl 1 (List.map (eI .i32) p0.Input_))]))
theorem ok_ref03_with_2 (H : Heap) {p0 : T_ref03_Mem} {p1 : Int} {p2 : (List Int)} {ra : T_ref03_Mem} (hF : ref03_with p0 p1 p2 = some ra) : evS X 94 [.agg (m0_ref03_Mem p0), .one .top (.int .i64 p1), .one (.own 1) (.sl 1 (List.map (eI .u32) p2))] H = some (.agg (m0_ref03_Mem ra), H) := by
  let E1 : EN := (1, .one .top (.int .i64 p1))
  let E2 : EN := (2, .one (.own 1) (.sl 1 (List.map (eI .u32) p2)))
  let E3 : EN := (3, .one .top (.loc 3 0))
  let E4 : EN := (6, .one .top (.loc 6 0))
  let B5 : EB := (3, (m0_ref03_Mem p0))
  let B6 : EB := (6, (List.replicate 5 (.top, .int .u32 0) ++ [((.own 1), .sl 1 (List.map (eI .u32) ([] : List Int)))]))
  let E8 : EN := (9, .one .top (.loc 3 5))
  let E9 : EN := (10, .one (.own 0) (.sl 1 (List.map (eI .u32) p0.W_)))
  let E10 : EN := (11, .one .top (.int .i64 (p0.W_.length : Int)))
  let E13 : EN := (14, .one .top (.loc 3 5))
  let E14 : EN := (15, .one (.own 0) (.sl 1 (List.map (eI .u32) p0.W_)))
  let E19 : EN := (18, .one .bl (.sl 1 (List.map (eI .u32) p2)))
  let E20 : EN := (19, .one .top (.int .i64 (p2.length : Int)))
  let E23 : EN := (24, .one .top (.int .i64 p1))
  let E26 : EN := (27, .one .bl (.sl 1 (List.map (eI .u32) p2)))
  let S31 : St := ⟨[E1, E2, E3, E4, E8, E9], [B5, B6], H⟩
  let S32 : St := ⟨[E1, E2, E3, E4, E8, E9, E10], [B5, B6], H⟩
  refine yf Try.func94 true ⟨[(0, .agg (m0_ref03_Mem p0)), E1, E2], [], H⟩ ?_
  unfold ref03_with at hF
  refine ysg ⟨[E1, E2, E3, E4], [B5, B6], H⟩ ?_
  refine w_seq ?_
  obtain ⟨v1, h2, hF⟩ := bind1_inv hF
  let E7 : EN := (7, .one (.own 1) (.sl 1 (List.map (eI .u32) v1)))
  let E12 : EN := (13, .one .top (.at_ (.tmp 7) 0 ((List.map (eI .u32) v1).length)))
  let S33 : St := ⟨[E1, E2, E3, E4, E7, E12, E13, E14], [B5, B6], H⟩
  refine w_regO ⟨[E1, E2, E3, E4, E7], [B5, B6], H⟩ ?_ ?_
  refine yr 2 S31 ?_
  refine o_one S32 (yl S31 p0.W_ (eI .u32) (some 11)) ?_
  refine o_one ⟨[E1, E2, E3, E4, E8, E9, E10, (12, .one (.own 1) (.sl 1 (List.map (eI .u32) v1)))], [B5, B6], H⟩ (st_mk (X := X) S32 4 h2 42 35 1 [(.top, .int .u32 0)] (eI .u32) 0 (.i64) (.i64) (some 12) (by kernel_rfl) (by kernel_rfl) (by kernel_rfl) (by kernel_rfl) (by kernel_rfl) (by kernel_rfl) (by kernel_rfl) (by kernel_rfl) (by kernel_rfl) (by kernel_rfl)) ?_
  refine yr 1 ⟨[E1, E2, E3, E4, E7, E8, E9, E10, (12, .one .top .junk)], [B5, B6], H⟩ ?_
  exact ye
  refine w_seq ?_
  obtain ⟨v3, h4, hF⟩ := bnd_inv hF
  let E11 : EN := (7, .one (.own 1) (.sl 1 (List.map (eI .u32) v3)))
  refine w_regO ⟨[E1, E2, E3, E4, E11], [B5, B6], H⟩ ?_ ?_
  refine yr 3 S33 ?_
  refine o_one ⟨[E1, E2, E3, E4, E11, E12, E13, E14, (16, .one .top (.int .i64 (((min p0.W_.length (v1.length - 0) : Nat)) : Int)))], [B5, B6], H⟩ (st_cpT (X := X) S33 42 35 0 1 (eI .u32) 7 (.own 0) v1 p0.W_ 0 h4 (some 16) ⟨true, []⟩ (Nat.zero_le _) (by kernel_rfl) (by kernel_rfl) (by kernel_rfl) (fun _ => rfl) (fun _ => rfl) (by kernel_rfl) (by kernel_rfl)) ?_
  exact ye
  refine w_seq ?_
  refine ysg ⟨[E1, E2, E3, E4, E11, (8, .one .top (.int .i64 0))], [B5, B6], H⟩ ?_
  refine w_block ?_
  obtain ⟨r14, hL15, hF⟩ := bind1_inv hF
  refine w_loop (fun (x : ((List Int) × Int)) => (⟨[E1, E2, E3, E4, (7, .one (.own 1) (.sl 1 (List.map (eI .u32) x.1))), (8, .one .top (.int .i64 x.2))], [B5, B6], H⟩ : St)) (fun (y : ((List Int))) => ((.exit 0, (⟨[E3, E4, (7, .one (.own 1) (.sl 1 (List.map (eI .u32) y)))], [B5, B6], H⟩ : St)) : Ex × St)) hL15 (by kernel_rfl) ?_ ?_
  rintro ⟨a5, a6⟩ o hF
  replace hF : ref03_with_L1 p2 p1 a5 a6 = some o := hF
  let E15 : EN := (7, .one (.own 1) (.sl 1 (List.map (eI .u32) a5)))
  let E16 : EN := (8, .one .top (.int .i64 a6))
  let E17 : EN := (20, .one .top (.bool (decide (a6 < (p2.length : Int)))))
  let E18 : EN := (17, .one .top (.int .i64 a6))
  let E22 : EN := (23, .one .top (.at_ (.tmp 7) 0 ((List.map (eI .u32) a5).length)))
  let E24 : EN := (25, .one .top (.int .i64 a6))
  let E25 : EN := (26, .one .top (.int .i64 (IntKind.wrap .i64 (p1 + a6))))
  let E27 : EN := (28, .one .top (.int .i64 a6))
  let E30 : EN := (31, .one .top (.el (.tmp 7) (Int.toNat (IntKind.wrap .i64 (p1 + a6))) 0))
  let S34 : St := ⟨[E1, E2, E3, E4, E15, E16, E18, E19], [B5, B6], H⟩
  let S35 : St := ⟨[E1, E2, E3, E4, E15, E16, E22, E23, E24, E25, E26, E27], [B5, B6], H⟩
  unfold ref03_with_L1 at hF
  refine w_seq ?_
  refine yso ⟨[E1, E2, E3, E4, E15, E16, E17], [B5, B6], H⟩ ?_ ?_
  refine yr 2 S34 ?_
  refine o_one ⟨[E1, E2, E3, E4, E15, E16, E18, E19, E20], [B5, B6], H⟩ (yl S34 p2 (eI .u32) (some 19)) ?_
  refine yr 1 ⟨[E1, E2, E3, E4, E15, E16, E18, E19, E20, E17], [B5, B6], H⟩ ?_
  exact ye
  rcases if_inv hF with ⟨h7, hF⟩ | ⟨h7, hF⟩
  refine yT h7 ⟨[E1, E2, E3, E4, E15, E16], [B5, B6], H⟩ ?_
  refine w_skip ?_
  refine w_seq ?_
  refine w_block ?_
  obtain ⟨x8, h9, hF⟩ := bind1_inv hF
  let E28 : EN := (29, .one .top (.rd .bl .bl [.int .u32 x8] 0))
  let E29 : EN := (30, .one .top (.int .u32 x8))
  let S36 : St := ⟨[E1, E2, E3, E4, E15, E16, E22, E23, E24, E25, E26, E27, E28, E29], [B5, B6], H⟩
  let S37 : St := ⟨[E1, E2, E3, E4, E15, E16, E22, E23, E24, E25, E26, E27, E28, E29, E30], [B5, B6], H⟩
  obtain ⟨x10, h11, hF⟩ := bind1_inv hF
  obtain ⟨v12, h13, hF⟩ := bind1_inv hF
  let E21 : EN := (7, .one (.own 1) (.sl 1 (List.map (eI .u32) v12)))
  refine w_regO ⟨[E1, E2, E3, E4, E21, E16], [B5, B6], H⟩ ?_ ?_
  refine yr 6 S35 ?_
  refine o_one ⟨[E1, E2, E3, E4, E15, E16, E22, E23, E24, E25, E26, E27, E28], [B5, B6], H⟩ (st_ix (X := X) S35 42 35 1 h9 (eI .u32) .bl (some 29) (by kernel_rfl) (by kernel_rfl) (by kernel_rfl) (by kernel_rfl)) ?_
  refine yr 1 S36 ?_
  refine o_one S37 (st_ixA (X := X) S36 42 35 1 h11 (eI .u32) (.tmp 7) 0 (List.map (eI .u32) a5).length 0 (some 31) (by kernel_rfl) (by kernel_rfl) (by kernel_rfl) (by kernel_rfl) rfl (List.length_map _) (by kernel_rfl)) ?_
  refine o_one ⟨[E1, E2, E3, E4, E21, E16, E22, E23, E24, E25, (27, .one .top .junk), E27, (29, .one .top .junk), E29, E30], [B5, B6], H⟩ (st_stE (X := X) S37 (⟨[E1, E2, E3, E4, E21, E16, E22, E23, E24, E25, E26, E27, E28, E29, E30], [B5, B6], H⟩ : St) ⟨true, []⟩ 35 (.tmp 7) (Int.toNat (IntKind.wrap .i64 (p1 + a6))) 0 1 0 (List.map (eI .u32) a5) [.int .u32 x10] ((eI .u32) x8) (List.map (eI .u32) v12) 1 (.one .top (.int .u32 x8)) (by kernel_rfl) (by kernel_rfl) (by kernel_rfl) (by kernel_rfl) (by kernel_rfl) (by kernel_rfl) (el_at h11) (by kernel_rfl) (by kernel_rfl) (el_put h13) (by kernel_rfl) (by kernel_rfl)) ?_
  exact ye
  refine yg ⟨[E1, E2, E3, E4, E21, (8, .one .top (.int .i64 (IntKind.wrap .i64 (a6 + 1))))], [B5, B6], H⟩ ?_
  cases hF
  exact ⟨_, rfl, (by kernel_rfl)⟩
  refine yF h7 ⟨[E3, E4, E15], [B5, B6], H⟩ ?_
  refine w_exit ?_
  cases hF
  exact ⟨_, rfl, (by kernel_rfl)⟩
  obtain ⟨b16, hy⟩ : ∃ y, y = r14 := ⟨_, rfl⟩
  subst hy
  refine w_oe (i := 0) (s := (⟨[E3, E4, (7, .one (.own 1) (.sl 1 (List.map (eI .u32) b16)))], [B5, B6], H⟩ : St)) (by kernel_rfl) ?_
  refine e_here ?_
  refine ysg ⟨[E3, E4], [(3, (arM .u32 5 p0.Ends_ ++ [((.own 1), .sl 1 (List.map (eI .u32) b16))])), B6], H⟩ ?_
  refine ysg ⟨[E4], [(6, (arM .u32 5 p0.Ends_ ++ [((.own 1), .sl 1 (List.map (eI .u32) b16))]))], H⟩ ?_
  refine w_ret ?_
  obtain e0 := some1_inv hF
  subst e0
  exact yp (.agg (arM .u32 5 p0.Ends_ ++ [((.own 1), .sl 1 (List.map (eI .u32) b16))]))
noncomputable def ref03_Store  (p0 : T_ref03_Mem) (p1 : Int) (p2 : Int) : Option (T_ref03_Mem × Int) :=
  bind2 (ref03_Load p0 p1) fun r1 r2 =>
  if (r2 != 0) = true then (some (p0, r2))
  else (if (decide (p1 < (p0.Ends_.g 1))) = true then (some (p0, 32))
  else (bind1 (ref03_with p0 (IntKind.wrap .i64 (IntKind.wrap .u32 (Int.tdiv p1 4))) ([p2] : List Int)) fun r6 =>
  some (r6, 0)))
theorem ok_ref03_Store (H : Heap) {p0 : T_ref03_Mem} {p1 : Int} {p2 : Int} {ra : T_ref03_Mem} {rb : Int} (hF : ref03_Store p0 p1 p2 = some (ra, rb)) : evS X 118 [.agg (m0_ref03_Mem p0), .one .top (.int .u32 p1), .one .top (.int .u32 p2)] H = some (.tup [.agg (m0_ref03_Mem ra), .one .top (.int .i64 rb)], H) := by
  let E1 : EN := (1, .one .top (.int .u32 p1))
  let E2 : EN := (2, .one .top (.int .u32 p2))
  let E3 : EN := (3, .one .top (.loc 3 0))
  let E4 : EN := (6, .one .top (.loc 6 0))
  let B5 : EB := (3, (m0_ref03_Mem p0))
  let B6 : EB := (6, (List.replicate 5 (.top, .int .u32 0) ++ [((.own 1), .sl 1 (List.map (eI .u32) ([] : List Int)))]))
  let E8 : EN := (11, .agg (m0_ref03_Mem p0))
  let E9 : EN := (12, .one .top (.int .u32 p1))
  let E11 : EN := (7, .one .top (.int .i64 0))
  let E12 : EN := (26, .agg (m0_ref03_Mem p0))
  let E13 : EN := (27, .one .top (.int .u32 p1))
  let E14 : EN := (28, .one .top (.int .u32 (IntKind.wrap .u32 (Int.tdiv p1 4))))
  let E15 : EN := (29, .one .top (.int .i64 (IntKind.wrap .i64 (IntKind.wrap .u32 (Int.tdiv p1 4)))))
  let E16 : EN := (30, .one .top (.int .u32 p2))
  let E17 : EN := (31, .one .top .junk)
  let S19 : St := ⟨[E1, E2, E3, E4], [B5, B6], H⟩
  let S20 : St := ⟨[E1, E2, E3, E4, E8, E9], [B5, B6], H⟩
  refine yf Try.func118 true ⟨[(0, .agg (m0_ref03_Mem p0)), E1, E2], [], H⟩ ?_
  unfold ref03_Store at hF
  refine ysg S19 ?_
  refine w_seq ?_
  refine w_seq ?_
  obtain ⟨r1, r2, c3, hF⟩ := bind2_inv hF
  let E7 : EN := (9, .one .top (.int .i64 r2))
  let E10 : EN := (13, .tup [.one .top (.int .u32 r1), .one .top (.int .i64 r2)])
  refine w_regO ⟨[E1, E2, E3, E4, E7], [B5, B6], H⟩ ?_ ?_
  refine yr 2 S20 ?_
  refine o_one ⟨[E1, E2, E3, E4, E8, E9, E10], [B5, B6], H⟩ (yc (some 13) true false S20 (ok_ref03_Load H c3)) ?_
  refine yr 5 ⟨[E1, E2, E3, E4, (8, .one .top (.int .u32 r1)), E7, (10, .tup [.one .top (.int .u32 r1), .one .top (.int .i64 r2)]), E8, E9, E10, (14, .one .top (.int .u32 r1)), (15, .one .top (.int .i64 r2))], [B5, B6], H⟩ ?_
  exact ye
  refine ysg ⟨[E1, E2, E3, E4, E7, (17, .one .top (.bool (r2 != 0)))], [B5, B6], H⟩ ?_
  rcases if_inv hF with ⟨h4, hF⟩ | ⟨h4, hF⟩
  refine yT h4 ⟨[E3, E4, E7], [B5, B6], H⟩ ?_
  refine ysg ⟨[E4, (7, .one .top (.int .i64 r2))], [(6, (m0_ref03_Mem p0))], H⟩ ?_
  refine w_ret ?_
  obtain ⟨e0, e1⟩ := some2_inv hF
  subst e0
  subst e1
  exact yp (.tup [.agg (m0_ref03_Mem p0), .one .top (.int .i64 r2)])
  refine yF h4 S19 ?_
  refine w_skip ?_
  refine w_seq ?_
  refine ysg ⟨[E1, E2, E3, E4, (24, .one .top (.bool (decide (p1 < (p0.Ends_.g 1)))))], [B5, B6], H⟩ ?_
  rcases if_inv hF with ⟨h5, hF⟩ | ⟨h5, hF⟩
  refine yT h5 ⟨[E3, E4], [B5, B6], H⟩ ?_
  refine ysg ⟨[E4, (7, .one .top (.int .i64 32))], [(6, (m0_ref03_Mem p0))], H⟩ ?_
  refine w_ret ?_
  obtain ⟨e0, e1⟩ := some2_inv hF
  subst e0
  subst e1
  exact yp (.tup [.agg (m0_ref03_Mem p0), .one .top (.int .i64 32)])
  refine yF h5 S19 ?_
  refine w_skip ?_
  refine w_seq ?_
  obtain ⟨r6, c7, hF⟩ := bind1_inv hF
  let E18 : EN := (32, .agg (m0_ref03_Mem r6))
  refine w_regO ⟨[E4, E11], [(6, (m0_ref03_Mem r6))], H⟩ ?_ ?_
  refine yr 6 ⟨[E1, E2, E3, E4, E12, E13, E14, E15, E16, (31, .one (.own 1) (.sl 1 (List.map (eI .u32) ([p2] : List Int))))], [B5, B6], H⟩ ?_
  refine o_one ⟨[E1, E2, E3, E4, E12, E13, E14, E15, E16, E17, E18], [B5, B6], H⟩ (yc (some 32) true true (⟨[E1, E2, E3, E4, E12, E13, E14, E15, E16, E17], [B5, B6], H⟩ : St) (ok_ref03_with_2 H c7)) ?_
  refine yr 2 ⟨[E1, E2, E3, E4, E11, E12, E13, E14, E15, E16, E17, E18], [B5, (6, (m0_ref03_Mem r6))], H⟩ ?_
  exact ye
  refine w_ret ?_
  obtain ⟨e0, e1⟩ := some2_inv hF
  subst e0
  subst e1
  exact yp (.tup [.agg (m0_ref03_Mem r6), .one .top (.int .i64 0)])
noncomputable def ref04_others_j1 (j1 : Int) (j2 : T_ref04_Cpu) : Option (T_ref04_Cpu) :=
  some (T_ref04_Cpu.mk j2.R_ j1 j2.EPC_ j2.Cause_ j2.State_ j2.Why_ j2.Steps_ j2.Taken_ j2.Out_ j2.Entry_ j2.Vector_ j2.Guard_ j2.Limit_ j2.Input_)
noncomputable def ref04_others_j2 (j4 : Int) (j5 : T_ref04_Cpu) : Option (T_ref04_Cpu) :=
  ref04_others_j1 j4 j5
noncomputable def ref04_others_j3 (p0 : T_ref04_Cpu) (j7 : T_ref04_Cpu) : Option (T_ref04_Cpu) :=
  ref04_others_j2 (IntKind.wrap .u32 (p0.PC_ + 4)) j7
noncomputable def ref04_others_j4 (p0 : T_ref04_Cpu) (j12 : T_ref04_Cpu) : Option (T_ref04_Cpu) :=
  ref04_others_j3 p0 j12
noncomputable def ref04_others_j5 (p0 : T_ref04_Cpu) (j23 : T_ref04_Cpu) : Option (T_ref04_Cpu) :=
  ref04_others_j4 p0 j23
noncomputable def ref04_others_j6 (p0 : T_ref04_Cpu) (j29 : T_ref04_Cpu) : Option (T_ref04_Cpu) :=
  ref04_others_j5 p0 j29
noncomputable def ref04_others_j7 (p0 : T_ref04_Cpu) (j40 : T_ref04_Cpu) : Option (T_ref04_Cpu) :=
  ref04_others_j6 p0 j40
noncomputable def ref04_others_j8 (p0 : T_ref04_Cpu) (j45 : T_ref04_Cpu) : Option (T_ref04_Cpu) :=
  ref04_others_j7 p0 j45
noncomputable def ref04_others_j9 (p0 : T_ref04_Cpu) (j54 : T_ref04_Cpu) : Option (T_ref04_Cpu) :=
  ref04_others_j8 p0 j54
noncomputable def ref04_others  (p0 : T_ref04_Cpu) (p1 : T_ref02_Instr) (p2 : Int) : Option (T_ref04_Cpu) :=
  if (p1.Op_ == 24) = true then (ref04_others_j1 p2 p0)
  else (if (p1.Op_ == 25) = true then (ref04_others_j2 p2 (T_ref04_Cpu.mk (arrL [(p0.R_.g 0), (p0.R_.g 1), (p0.R_.g 2), (p0.R_.g 3), (p0.R_.g 4), (p0.R_.g 5), (p0.R_.g 6), (p0.R_.g 7), (p0.R_.g 8), (p0.R_.g 9), (p0.R_.g 10), (p0.R_.g 11), (p0.R_.g 12), (p0.R_.g 13), (IntKind.wrap .u32 (p0.PC_ + 4)), (p0.R_.g 15)] : Arr 16 Int) p0.PC_ p0.EPC_ p0.Cause_ p0.State_ p0.Why_ p0.Steps_ p0.Taken_ p0.Out_ p0.Entry_ p0.Vector_ p0.Guard_ p0.Limit_ p0.Input_))
  else (if (p1.Op_ == 26) = true then (if (decide (p2 ≥ (IntKind.wrap .u32 p1.Imm_))) = true then (bind1 (ref04_trap p0 (IntKind.wrap .u32 p1.B_)) fun r10 =>
  some r10)
  else (ref04_others_j3 p0 p0))
  else (if (p1.Op_ == 27) = true then (if (p2 == 0) = true then (bind1 (ref04_trap p0 2) fun r15 =>
  some r15)
  else (ref04_others_j4 p0 p0))
  else (if (p1.Op_ == 28) = true then (bind1 (ref04_trap p0 (IntKind.wrap .u32 p1.Imm_)) fun r18 =>
  some r18)
  else (if (p1.Op_ == 29) = true then (bind1 (ref04_trap p0 p2) fun r21 =>
  some r21)
  else (if (p1.Op_ == 30) = true then (bind1 (app 16 ([] : List T_api_Event) p0.Out_) fun v25 =>
  bind1 (app 16 v25 ([(T_api_Event.mk p1.Imm_ (IntKind.wrap .i32 p2))] : List T_api_Event)) fun v27 =>
  ref04_others_j5 p0 (T_ref04_Cpu.mk p0.R_ p0.PC_ p0.EPC_ p0.Cause_ p0.State_ p0.Why_ p0.Steps_ p0.Taken_ v27 p0.Entry_ p0.Vector_ p0.Guard_ p0.Limit_ p0.Input_))
  else (if (p1.Op_ == 31) = true then (if (decide (p0.Taken_ ≥ (p0.Input_.length : Int))) = true then (bind1 (ref04_trap p0 7) fun r32 =>
  some r32)
  else (bind1 (gi p0.Input_ p0.Taken_) fun x34 =>
  bind1 (ga p0.R_ p1.A_) fun v36 =>
  bind1 (sa p0.R_ p1.A_ (IntKind.wrap .u32 x34)) fun v38 =>
  ref04_others_j6 p0 (T_ref04_Cpu.mk v38 p0.PC_ p0.EPC_ p0.Cause_ p0.State_ p0.Why_ p0.Steps_ (IntKind.wrap .i64 (p0.Taken_ + 1)) p0.Out_ p0.Entry_ p0.Vector_ p0.Guard_ p0.Limit_ p0.Input_)))
  else (if (p1.Op_ == 32) = true then (if (decide ((IntKind.wrap .i32 p2) < (IntKind.wrap .i32 p0.Limit_))) = true then (bind1 (ref04_trap p0 5) fun r43 =>
  some r43)
  else (ref04_others_j7 p0 p0))
  else (if (p1.Op_ == 33) = true then (if (decide (p1.Imm_ > 1)) = true then (bind1 (ref04_fault p0 20) fun r48 =>
  some r48)
  else (bind1 (ga p0.R_ p1.A_) fun v50 =>
  bind1 (sa p0.R_ p1.A_ p0.EPC_) fun v52 =>
  if (p1.Imm_ == 1) = true then (bind1 (ga v52 p1.A_) fun v56 =>
  bind1 (sa v52 p1.A_ p0.Cause_) fun v58 =>
  ref04_others_j9 p0 (T_ref04_Cpu.mk v58 p0.PC_ p0.EPC_ p0.Cause_ p0.State_ p0.Why_ p0.Steps_ p0.Taken_ p0.Out_ p0.Entry_ p0.Vector_ p0.Guard_ p0.Limit_ p0.Input_))
  else (ref04_others_j9 p0 (T_ref04_Cpu.mk v52 p0.PC_ p0.EPC_ p0.Cause_ p0.State_ p0.Why_ p0.Steps_ p0.Taken_ p0.Out_ p0.Entry_ p0.Vector_ p0.Guard_ p0.Limit_ p0.Input_))))
  else (ref04_others_j8 p0 p0))))))))))
theorem ok_ref04_others (H : Heap) {p0 : T_ref04_Cpu} {p1 : T_ref02_Instr} {p2 : Int} {ra : T_ref04_Cpu} (hF : ref04_others p0 p1 p2 = some ra) : evS X 119 [.agg (m1_ref04_Cpu p0), .agg (m0_ref02_Instr p1), .one .top (.int .u32 p2)] H = some (.agg (m1_ref04_Cpu ra), H) := by
  let E1 : EN := (2, .one .top (.int .u32 p2))
  let E2 : EN := (3, .one .top (.loc 3 0))
  let E3 : EN := (4, .one .top (.loc 4 0))
  let E4 : EN := (6, .one .top (.loc 6 0))
  let B5 : EB := (3, (m1_ref04_Cpu p0))
  let B6 : EB := (4, (m0_ref02_Instr p1))
  let B7 : EB := (6, (List.replicate 19 (.top, .int .u32 0) ++ List.replicate 4 (.top, .int .i64 0) ++ [((.own 1), .sl 2 (List.map e_api_Event ([] : List T_api_Event)))] ++ List.replicate 4 (.top, .int .u32 0) ++ [((.own 1), .sl 1 (List.map (eI .i32) ([] : List Int)))]))
  let E8 : EN := (7, .one .top (.int .u32 (IntKind.wrap .u32 (p0.PC_ + 4))))
  let E9 : EN := (12, .one .top (.int .i64 p1.Op_))
  let E10 : EN := (7, .one .top (.int .u32 p2))
  let B11 : EB := (3, (arM .u32 14 p0.R_ ++ [(.top, .int .u32 (IntKind.wrap .u32 (p0.PC_ + 4))), (.top, .int .u32 (p0.R_.g 15)), (.top, .int .u32 p0.PC_), (.top, .int .u32 p0.EPC_), (.top, .int .u32 p0.Cause_), (.top, .int .i64 p0.State_), (.top, .int .i64 p0.Why_), (.top, .int .i64 p0.Steps_), (.top, .int .i64 p0.Taken_), ((.own 0), .sl 2 (List.map e_api_Event p0.Out_)), (.top, .int .u32 p0.Entry_), (.top, .int .u32 p0.Vector_), (.top, .int .u32 p0.Guard_), (.top, .int .u32 p0.Limit_), ((.own 0), .sl 1 (List.map (eI .i32) p0.Input_))]))
  let E12 : EN := (29, .agg (m1_ref04_Cpu p0))
  let E13 : EN := (30, .one .top (.loc 4 2))
  let E14 : EN := (31, .one .top (.int .i64 p1.B_))
  let E15 : EN := (32, .one .top (.int .u32 (IntKind.wrap .u32 p1.B_)))
  let E17 : EN := (38, .agg (m1_ref04_Cpu p0))
  let E19 : EN := (42, .agg (m1_ref04_Cpu p0))
  let E20 : EN := (43, .one .top (.loc 4 4))
  let E21 : EN := (44, .one .top (.int .i64 p1.Imm_))
  let E22 : EN := (45, .one .top (.int .u32 (IntKind.wrap .u32 p1.Imm_)))
  let E24 : EN := (49, .agg (m1_ref04_Cpu p0))
  let E25 : EN := (50, .one .top (.int .u32 p2))
  let E28 : EN := (55, .one .top (.loc 3 23))
  let E29 : EN := (58, .one .top (.loc 4 4))
  let E30 : EN := (59, .one .top (.int .i64 p1.Imm_))
  let E31 : EN := (60, .one .top (.int .u32 p2))
  let E32 : EN := (61, .one .top (.int .i32 (IntKind.wrap .i32 p2)))
  let E33 : EN := (62, .agg [(.top, .int .i64 p1.Imm_), (.top, .int .i32 (IntKind.wrap .i32 p2))])
  let E34 : EN := (54, .one .top .junk)
  let E35 : EN := (56, .one (.own 0) (.sl 2 (List.map e_api_Event p0.Out_)))
  let E36 : EN := (57, .one .top .junk)
  let E37 : EN := (63, .one .top .junk)
  let E39 : EN := (65, .one .top (.loc 3 23))
  let E40 : EN := (54, .one (.own 1) (.sl 2 (List.map e_api_Event ([] : List T_api_Event))))
  let E42 : EN := (63, .one (.own 1) (.sl 2 (List.map e_api_Event ([(T_api_Event.mk p1.Imm_ (IntKind.wrap .i32 p2))] : List T_api_Event))))
  let E43 : EN := (73, .one .top (.bool (decide (p0.Taken_ ≥ (p0.Input_.length : Int)))))
  let E44 : EN := (68, .one .top (.loc 3 22))
  let E45 : EN := (69, .one .top (.int .i64 p0.Taken_))
  let E46 : EN := (70, .one .top (.loc 3 28))
  let E47 : EN := (71, .one (.own 0) (.sl 1 (List.map (eI .i32) p0.Input_)))
  let E48 : EN := (72, .one .top (.int .i64 (p0.Input_.length : Int)))
  let E49 : EN := (74, .agg (m1_ref04_Cpu p0))
  let E52 : EN := (76, .one .top (.loc 4 1))
  let E53 : EN := (77, .one .top (.int .i64 p1.A_))
  let E54 : EN := (78, .one .top (.loc 3 28))
  let E55 : EN := (80, .one .top (.loc 3 22))
  let E56 : EN := (85, .one .top (.loc 3 0))
  let E57 : EN := (79, .one (.own 0) (.sl 1 (List.map (eI .i32) p0.Input_)))
  let E58 : EN := (81, .one .top (.int .i64 p0.Taken_))
  let E62 : EN := (86, .one .top (.loc 3 (0 + Int.toNat p1.A_)))
  let E63 : EN := (99, .agg (m1_ref04_Cpu p0))
  let E65 : EN := (106, .agg (m1_ref04_Cpu p0))
  let E68 : EN := (108, .one .top (.loc 4 1))
  let E69 : EN := (109, .one .top (.int .i64 p1.A_))
  let E70 : EN := (110, .one .top (.loc 3 17))
  let E71 : EN := (111, .one .top (.int .u32 p0.EPC_))
  let E72 : EN := (112, .one .top (.loc 3 0))
  let E73 : EN := (113, .one .top (.loc 3 (0 + Int.toNat p1.A_)))
  let E75 : EN := (117, .one .top (.loc 4 1))
  let E76 : EN := (118, .one .top (.int .i64 p1.A_))
  let E77 : EN := (119, .one .top (.loc 3 18))
  let E78 : EN := (120, .one .top (.int .u32 p0.Cause_))
  let E79 : EN := (121, .one .top (.loc 3 0))
  let E80 : EN := (122, .one .top (.loc 3 (0 + Int.toNat p1.A_)))
  let S81 : St := ⟨[E1, E2, E3, E4, E8], [B5, B6, B7], H⟩
  let S82 : St := ⟨[E1, E2, E3, E4, E8, E9], [B5, B6, B7], H⟩
  let S83 : St := ⟨[E1, E2, E4], [B5, B7], H⟩
  let S84 : St := ⟨[E1, E2, E4, E8], [B5, B7], H⟩
  let S85 : St := ⟨[E2, E3, E4], [B5, B6, B7], H⟩
  let S86 : St := ⟨[E2, E3, E4, E12, E13, E14, E15], [B5, B6, B7], H⟩
  let S87 : St := ⟨[E2, E4, E8], [B5, B7], H⟩
  let S88 : St := ⟨[E2, E4], [B5, B7], H⟩
  let S89 : St := ⟨[E2, E4, E17], [B5, B7], H⟩
  let S90 : St := ⟨[E2, E3, E4, E19, E20, E21, E22], [B5, B6, B7], H⟩
  let S91 : St := ⟨[E1, E2, E4, E24, E25], [B5, B7], H⟩
  let S93 : St := ⟨[E1, E2, E3, E4, E8, E40, E28, E35, E29, E30, E31, E32, E33], [B5, B6, B7], H⟩
  let S95 : St := ⟨[E1, E2, E3, E4, E8, E34, E28, E35, E29, E30, E31, E32, E33], [B5, B6, B7], H⟩
  let S98 : St := ⟨[E1, E2, E3, E4, E8, E34, E28, E35, E36, E29, E30, E31, E32, E33, E37], [B5, B6, B7], H⟩
  let S100 : St := ⟨[E1, E2, E3, E4, E8, E40, E28, E35, E29, E30, E31, E32, E33, E42], [B5, B6, B7], H⟩
  let S101 : St := ⟨[E1, E2, E3, E4, E8, E34, E28, E35, E29, E30, E31, E32, E33, E42], [B5, B6, B7], H⟩
  let S102 : St := ⟨[E1, E2, E3, E4, E8, E40, E28, E29, E30, E31, E32, E33, E42], [B5, B6, B7], H⟩
  let S103 : St := ⟨[E1, E2, E3, E4, E8, E28, E35, E29, E30, E31, E32, E33, E42], [B5, B6, B7], H⟩
  let S104 : St := ⟨[E2, E3, E4, E8], [B5, B6, B7], H⟩
  let S105 : St := ⟨[E2, E3, E4, E8, E44, E45, E46, E47], [B5, B6, B7], H⟩
  let S106 : St := ⟨[E2, E4, E49], [B5, B7], H⟩
  let S108 : St := ⟨[E2, E3, E4, E8, E52, E53, E54, E57, E55, E58, E56], [B5, B6, B7], H⟩
  let S113 : St := ⟨[E2, E4, E63], [B5, B7], H⟩
  let S114 : St := ⟨[E2, E4, E65], [B5, B7], H⟩
  let S116 : St := ⟨[E2, E3, E4, E8, E68, E69, E70, E71, E72], [B5, B6, B7], H⟩
  let S117 : St := ⟨[E2, E3, E4, E8, E68, E69, E70, E71, E72, E73], [B5, B6, B7], H⟩
  refine yf Try.func119 true ⟨[(0, .agg (m1_ref04_Cpu p0)), (1, .agg (m0_ref02_Instr p1)), E1], [], H⟩ ?_
  unfold ref04_others at hF
  refine ysg ⟨[E1, E2, E3, E4], [B5, B6, B7], H⟩ ?_
  refine ysg S81 ?_
  refine w_seq ?_
  refine ysg S82 ?_
  refine w_block ?_
  refine ysg ⟨[E1, E2, E3, E4, E8, E9, (13, .one .top (.bool (p1.Op_ == 24)))], [B5, B6, B7], H⟩ ?_
  refine w_join (α := (Int × T_ref04_Cpu)) (fun x => (⟨[E2, E4, (7, .one .top (.int .u32 x.1))], [(3, (m1_ref04_Cpu x.2)), B7], H⟩ : St)) (fun x => ref04_others_j1 x.1 x.2 = some ra) ?_ ?_
  rintro ⟨j1, j2⟩ hF
  replace hF : ref04_others_j1 j1 j2 = some ra := hF
  unfold ref04_others_j1 at hF
  refine ysg ⟨[E2, E4], [(3, (arM .u32 16 j2.R_ ++ [(.top, .int .u32 j1), (.top, .int .u32 j2.EPC_), (.top, .int .u32 j2.Cause_), (.top, .int .i64 j2.State_), (.top, .int .i64 j2.Why_), (.top, .int .i64 j2.Steps_), (.top, .int .i64 j2.Taken_), ((.own 0), .sl 2 (List.map e_api_Event j2.Out_)), (.top, .int .u32 j2.Entry_), (.top, .int .u32 j2.Vector_), (.top, .int .u32 j2.Guard_), (.top, .int .u32 j2.Limit_), ((.own 0), .sl 1 (List.map (eI .i32) j2.Input_))])), B7], H⟩ ?_
  refine ysg ⟨[E4], [(6, (arM .u32 16 j2.R_ ++ [(.top, .int .u32 j1), (.top, .int .u32 j2.EPC_), (.top, .int .u32 j2.Cause_), (.top, .int .i64 j2.State_), (.top, .int .i64 j2.Why_), (.top, .int .i64 j2.Steps_), (.top, .int .i64 j2.Taken_), ((.own 0), .sl 2 (List.map e_api_Event j2.Out_)), (.top, .int .u32 j2.Entry_), (.top, .int .u32 j2.Vector_), (.top, .int .u32 j2.Guard_), (.top, .int .u32 j2.Limit_), ((.own 0), .sl 1 (List.map (eI .i32) j2.Input_))]))], H⟩ ?_
  refine w_ret ?_
  obtain e0 := some1_inv hF
  subst e0
  exact yp (.agg (arM .u32 16 j2.R_ ++ [(.top, .int .u32 j1), (.top, .int .u32 j2.EPC_), (.top, .int .u32 j2.Cause_), (.top, .int .i64 j2.State_), (.top, .int .i64 j2.Why_), (.top, .int .i64 j2.Steps_), (.top, .int .i64 j2.Taken_), ((.own 0), .sl 2 (List.map e_api_Event j2.Out_)), (.top, .int .u32 j2.Entry_), (.top, .int .u32 j2.Vector_), (.top, .int .u32 j2.Guard_), (.top, .int .u32 j2.Limit_), ((.own 0), .sl 1 (List.map (eI .i32) j2.Input_))]))
  rcases if_inv hF with ⟨h3, hF⟩ | ⟨h3, hF⟩
  refine yT h3 S83 ?_
  refine yg ⟨[E2, E4, E10], [B5, B7], H⟩ ?_
  exact ⟨(p2, p0), hF, (by kernel_rfl)⟩
  refine yF h3 S82 ?_
  refine ysg ⟨[E1, E2, E3, E4, E8, E9, (16, .one .top (.bool (p1.Op_ == 25)))], [B5, B6, B7], H⟩ ?_
  refine w_join (α := (Int × T_ref04_Cpu)) (fun x => (⟨[E2, E4, (7, .one .top (.int .u32 x.1))], [(3, (m1_ref04_Cpu x.2)), B7], H⟩ : St)) (fun x => ref04_others_j2 x.1 x.2 = some ra) ?_ ?_
  rintro ⟨j4, j5⟩ hF
  replace hF : ref04_others_j2 j4 j5 = some ra := hF
  unfold ref04_others_j2 at hF
  exact ⟨(j4, j5), hF, (by kernel_rfl)⟩
  rcases if_inv hF with ⟨h6, hF⟩ | ⟨h6, hF⟩
  refine yT h6 S84 ?_
  refine ysg ⟨[E1, E2, E4], [B11, B7], H⟩ ?_
  refine yg ⟨[E2, E4, E10], [B11, B7], H⟩ ?_
  exact ⟨(p2, (T_ref04_Cpu.mk (arrL [(p0.R_.g 0), (p0.R_.g 1), (p0.R_.g 2), (p0.R_.g 3), (p0.R_.g 4), (p0.R_.g 5), (p0.R_.g 6), (p0.R_.g 7), (p0.R_.g 8), (p0.R_.g 9), (p0.R_.g 10), (p0.R_.g 11), (p0.R_.g 12), (p0.R_.g 13), (IntKind.wrap .u32 (p0.PC_ + 4)), (p0.R_.g 15)] : Arr 16 Int) p0.PC_ p0.EPC_ p0.Cause_ p0.State_ p0.Why_ p0.Steps_ p0.Taken_ p0.Out_ p0.Entry_ p0.Vector_ p0.Guard_ p0.Limit_ p0.Input_)), hF, (by kernel_rfl)⟩
  refine yF h6 S82 ?_
  refine ysg ⟨[E1, E2, E3, E4, E8, E9, (22, .one .top (.bool (p1.Op_ == 26)))], [B5, B6, B7], H⟩ ?_
  refine w_join (α := (T_ref04_Cpu)) (fun x => (⟨[E2, E4, E8], [(3, (m1_ref04_Cpu x)), B7], H⟩ : St)) (fun x => ref04_others_j3 p0 x = some ra) ?_ ?_
  rintro j7 hF
  replace hF : ref04_others_j3 p0 j7 = some ra := hF
  unfold ref04_others_j3 at hF
  exact ⟨((IntKind.wrap .u32 (p0.PC_ + 4)), j7), hF, (by kernel_rfl)⟩
  rcases if_inv hF with ⟨h8, hF⟩ | ⟨h8, hF⟩
  refine yT h8 S81 ?_
  refine ysg ⟨[E2, E3, E4, E8, (28, .one .top (.bool (decide (p2 ≥ (IntKind.wrap .u32 p1.Imm_)))))], [B5, B6, B7], H⟩ ?_
  rcases if_inv hF with ⟨h9, hF⟩ | ⟨h9, hF⟩
  refine yT h9 S85 ?_
  refine w_seq ?_
  obtain ⟨r10, c11, hF⟩ := bind1_inv hF
  let E16 : EN := (33, .agg (m1_ref04_Cpu r10))
  refine w_regO ⟨[E4], [(6, (m1_ref04_Cpu r10))], H⟩ ?_ ?_
  refine yr 4 S86 ?_
  refine o_one ⟨[E2, E3, E4, E12, E13, E14, E15, E16], [B5, B6, B7], H⟩ (yc (some 33) true false S86 (ok_ref04_trap H c11)) ?_
  refine yr 1 ⟨[E2, E3, E4, E12, E13, E14, E15, E16], [B5, B6, (6, (m1_ref04_Cpu r10))], H⟩ ?_
  exact ye
  refine w_ret ?_
  obtain e0 := some1_inv hF
  subst e0
  exact yp (.agg (m1_ref04_Cpu r10))
  refine yF h9 S87 ?_
  refine w_skip ?_
  exact ⟨p0, hF, (by kernel_rfl)⟩
  refine yF h8 S82 ?_
  refine ysg ⟨[E1, E2, E3, E4, E8, E9, (34, .one .top (.bool (p1.Op_ == 27)))], [B5, B6, B7], H⟩ ?_
  refine w_join (α := (T_ref04_Cpu)) (fun x => (⟨[E2, E4, E8], [(3, (m1_ref04_Cpu x)), B7], H⟩ : St)) (fun x => ref04_others_j4 p0 x = some ra) ?_ ?_
  rintro j12 hF
  replace hF : ref04_others_j4 p0 j12 = some ra := hF
  unfold ref04_others_j4 at hF
  exact ⟨j12, hF, (by kernel_rfl)⟩
  rcases if_inv hF with ⟨h13, hF⟩ | ⟨h13, hF⟩
  refine yT h13 S84 ?_
  refine ysg ⟨[E2, E4, E8, (37, .one .top (.bool (p2 == 0)))], [B5, B7], H⟩ ?_
  rcases if_inv hF with ⟨h14, hF⟩ | ⟨h14, hF⟩
  refine yT h14 S88 ?_
  refine w_seq ?_
  obtain ⟨r15, c16, hF⟩ := bind1_inv hF
  let E18 : EN := (39, .agg (m1_ref04_Cpu r15))
  refine w_regO ⟨[E4], [(6, (m1_ref04_Cpu r15))], H⟩ ?_ ?_
  refine yr 1 S89 ?_
  refine o_one ⟨[E2, E4, E17, E18], [B5, B7], H⟩ (yc (some 39) true false S89 (ok_ref04_trap H c16)) ?_
  refine yr 1 ⟨[E2, E4, E17, E18], [B5, (6, (m1_ref04_Cpu r15))], H⟩ ?_
  exact ye
  refine w_ret ?_
  obtain e0 := some1_inv hF
  subst e0
  exact yp (.agg (m1_ref04_Cpu r15))
  refine yF h14 S87 ?_
  refine w_skip ?_
  exact ⟨p0, hF, (by kernel_rfl)⟩
  refine yF h13 S82 ?_
  refine ysg ⟨[E1, E2, E3, E4, E8, E9, (40, .one .top (.bool (p1.Op_ == 28)))], [B5, B6, B7], H⟩ ?_
  rcases if_inv hF with ⟨h17, hF⟩ | ⟨h17, hF⟩
  refine yT h17 S85 ?_
  refine w_seq ?_
  obtain ⟨r18, c19, hF⟩ := bind1_inv hF
  let E23 : EN := (46, .agg (m1_ref04_Cpu r18))
  refine w_regO ⟨[E4], [(6, (m1_ref04_Cpu r18))], H⟩ ?_ ?_
  refine yr 4 S90 ?_
  refine o_one ⟨[E2, E3, E4, E19, E20, E21, E22, E23], [B5, B6, B7], H⟩ (yc (some 46) true false S90 (ok_ref04_trap H c19)) ?_
  refine yr 1 ⟨[E2, E3, E4, E19, E20, E21, E22, E23], [B5, B6, (6, (m1_ref04_Cpu r18))], H⟩ ?_
  exact ye
  refine w_ret ?_
  obtain e0 := some1_inv hF
  subst e0
  exact yp (.agg (m1_ref04_Cpu r18))
  refine yF h17 S82 ?_
  refine ysg ⟨[E1, E2, E3, E4, E8, E9, (47, .one .top (.bool (p1.Op_ == 29)))], [B5, B6, B7], H⟩ ?_
  rcases if_inv hF with ⟨h20, hF⟩ | ⟨h20, hF⟩
  refine yT h20 S83 ?_
  refine w_seq ?_
  obtain ⟨r21, c22, hF⟩ := bind1_inv hF
  let E26 : EN := (51, .agg (m1_ref04_Cpu r21))
  refine w_regO ⟨[E4], [(6, (m1_ref04_Cpu r21))], H⟩ ?_ ?_
  refine yr 2 S91 ?_
  refine o_one ⟨[E1, E2, E4, E24, E25, E26], [B5, B7], H⟩ (yc (some 51) true false S91 (ok_ref04_trap H c22)) ?_
  refine yr 1 ⟨[E1, E2, E4, E24, E25, E26], [B5, (6, (m1_ref04_Cpu r21))], H⟩ ?_
  exact ye
  refine w_ret ?_
  obtain e0 := some1_inv hF
  subst e0
  exact yp (.agg (m1_ref04_Cpu r21))
  refine yF h20 S82 ?_
  refine ysg ⟨[E1, E2, E3, E4, E8, E9, (52, .one .top (.bool (p1.Op_ == 30)))], [B5, B6, B7], H⟩ ?_
  refine w_join (α := (T_ref04_Cpu)) (fun x => (⟨[E2, E4, E8], [(3, (m1_ref04_Cpu x)), B7], H⟩ : St)) (fun x => ref04_others_j5 p0 x = some ra) ?_ ?_
  rintro j23 hF
  replace hF : ref04_others_j5 p0 j23 = some ra := hF
  unfold ref04_others_j5 at hF
  exact ⟨j23, hF, (by kernel_rfl)⟩
  rcases if_inv hF with ⟨h24, hF⟩ | ⟨h24, hF⟩
  refine yT h24 S81 ?_
  obtain ⟨v25, h26, hF⟩ := bind1_inv hF
  let E41 : EN := (57, .one (.own 1) (.sl 2 (List.map e_api_Event v25)))
  let S94 : St := ⟨[E1, E2, E3, E4, E8, E34, E28, E35, E41, E29, E30, E31, E32, E33], [B5, B6, B7], H⟩
  let S96 : St := ⟨[E1, E2, E3, E4, E8, E34, E28, E35, E41, E29, E30, E31, E32, E33, E42], [B5, B6, B7], H⟩
  obtain ⟨v27, h28, hF⟩ := bind1_inv hF
  let B27 : EB := (3, (arM .u32 16 p0.R_ ++ [(.top, .int .u32 p0.PC_), (.top, .int .u32 p0.EPC_), (.top, .int .u32 p0.Cause_), (.top, .int .i64 p0.State_), (.top, .int .i64 p0.Why_), (.top, .int .i64 p0.Steps_), (.top, .int .i64 p0.Taken_), ((.own 0), .sl 2 (List.map e_api_Event v27)), (.top, .int .u32 p0.Entry_), (.top, .int .u32 p0.Vector_), (.top, .int .u32 p0.Guard_), (.top, .int .u32 p0.Limit_), ((.own 0), .sl 1 (List.map (eI .i32) p0.Input_))]))
  let E38 : EN := (64, .one (.own 0) (.sl 2 (List.map e_api_Event v27)))
  let S92 : St := ⟨[E1, E2, E3, E4, E8, E34, E28, E35, E36, E29, E30, E31, E32, E33, E37, E38, E39], [B27, B6, B7], H⟩
  let S97 : St := ⟨[E1, E2, E3, E4, E8, E34, E28, E35, E36, E29, E30, E31, E32, E33, E37, E38], [B5, B6, B7], H⟩
  let S99 : St := ⟨[E1, E2, E3, E4, E8, E34, E28, E35, E36, E29, E30, E31, E32, E33, E37, E38, E39], [B5, B6, B7], H⟩
  let K121 : Sch := .last 2 (.last 3 (.last 10 (.take 11 (.last 12 .done))))
  let K122 : Sch := .last 0 (.last 3 (.last 10 (.take 11 (.last 12 .done))))
  let K120 : Sch := .alt 3 (.last 9 (.last 10 (.take 11 (.last 12 .done)))) (.last 9 (.last 3 (.last 10 (.take 11 (.last 12 .done)))))
  refine w_regD (.take 1 (.take 4 (.take 5 (.take 6 (.take 7 (.take 8 (.alt 0 (.alt 2 K120 (.last 9 K121)) (.alt 2 (.alt 0 K120 (.last 9 K122)) (.last 9 (.alt 0 K121 (.last 2 K122))))))))))) (by kernel_rfl) (⟨[E2, E4, E8], [B27, B7], H⟩ : St) ?_ ?_
  refine ydt ⟨[E1, E2, E3, E4, E8, E28], [B5, B6, B7], H⟩ ?_
  refine ydt ⟨[E1, E2, E3, E4, E8, E28, E29], [B5, B6, B7], H⟩ ?_
  refine ydt ⟨[E1, E2, E3, E4, E8, E28, E29, E30], [B5, B6, B7], H⟩ ?_
  refine ydt ⟨[E1, E2, E3, E4, E8, E28, E29, E30, E31], [B5, B6, B7], H⟩ ?_
  refine ydt ⟨[E1, E2, E3, E4, E8, E28, E29, E30, E31, E32], [B5, B6, B7], H⟩ ?_
  refine ydt ⟨[E1, E2, E3, E4, E8, E28, E29, E30, E31, E32, E33], [B5, B6, B7], H⟩ ?_
  refine q_in S92 ?_ ?_
  refine q_alt ⟨[E1, E2, E3, E4, E8, E40, E28, E29, E30, E31, E32, E33], [B5, B6, B7], H⟩ (by kernel_rfl) ?_ ?_
  refine q_alt S93 (by kernel_rfl) ?_ ?_
  refine q_alt S94 (st_app (X := X) S95 16 h26 47 47 67 2 0 [(.top, .int .i64 0), (.top, .int .i32 0)] (.own 0) e_api_Event 0 (some 57) (by kernel_rfl) (by kernel_rfl) (by kernel_rfl) (by kernel_rfl) (by kernel_rfl) (by kernel_rfl) (by kernel_rfl) (by kernel_rfl) (by kernel_rfl) (fun _ => rfl) (by kernel_rfl)) ?_ ?_
  refine yql S96 ?_
  refine q_last S97 (st_appZ (X := X) S98 16 h28 47 47 67 2 0 [(.top, .int .i64 0), (.top, .int .i32 0)] (.own 1) e_api_Event 0 (some 64) (by kernel_rfl) (by kernel_rfl) (by kernel_rfl) (by kernel_rfl) (by kernel_rfl) (by kernel_rfl) (by kernel_rfl) (by kernel_rfl) (by kernel_rfl) (fun _ => rfl) (by kernel_rfl)) ?_
  refine yqt S99 ?_
  refine yql S92 ?_
  exact yqe
  refine yql S100 ?_
  refine q_last S96 (st_app (X := X) S101 16 h26 47 47 67 2 0 [(.top, .int .i64 0), (.top, .int .i32 0)] (.own 0) e_api_Event 0 (some 57) (by kernel_rfl) (by kernel_rfl) (by kernel_rfl) (by kernel_rfl) (by kernel_rfl) (by kernel_rfl) (by kernel_rfl) (by kernel_rfl) (by kernel_rfl) (fun _ => rfl) (by kernel_rfl)) ?_
  refine q_last S97 (st_appZ (X := X) S98 16 h28 47 47 67 2 0 [(.top, .int .i64 0), (.top, .int .i32 0)] (.own 1) e_api_Event 0 (some 64) (by kernel_rfl) (by kernel_rfl) (by kernel_rfl) (by kernel_rfl) (by kernel_rfl) (by kernel_rfl) (by kernel_rfl) (by kernel_rfl) (by kernel_rfl) (fun _ => rfl) (by kernel_rfl)) ?_
  refine yqt S99 ?_
  refine yql S92 ?_
  exact yqe
  refine yql S102 ?_
  refine yql S100 ?_
  refine q_last S96 (st_app (X := X) S101 16 h26 47 47 67 2 0 [(.top, .int .i64 0), (.top, .int .i32 0)] (.own 0) e_api_Event 0 (some 57) (by kernel_rfl) (by kernel_rfl) (by kernel_rfl) (by kernel_rfl) (by kernel_rfl) (by kernel_rfl) (by kernel_rfl) (by kernel_rfl) (by kernel_rfl) (fun _ => rfl) (by kernel_rfl)) ?_
  refine q_last S97 (st_appZ (X := X) S98 16 h28 47 47 67 2 0 [(.top, .int .i64 0), (.top, .int .i32 0)] (.own 1) e_api_Event 0 (some 64) (by kernel_rfl) (by kernel_rfl) (by kernel_rfl) (by kernel_rfl) (by kernel_rfl) (by kernel_rfl) (by kernel_rfl) (by kernel_rfl) (by kernel_rfl) (fun _ => rfl) (by kernel_rfl)) ?_
  refine yqt S99 ?_
  refine yql S92 ?_
  exact yqe
  refine q_alt ⟨[E1, E2, E3, E4, E8, E28, E35, E29, E30, E31, E32, E33], [B5, B6, B7], H⟩ (by kernel_rfl) ?_ ?_
  refine q_alt S93 (by kernel_rfl) ?_ ?_
  refine q_alt S94 (st_app (X := X) S95 16 h26 47 47 67 2 0 [(.top, .int .i64 0), (.top, .int .i32 0)] (.own 0) e_api_Event 0 (some 57) (by kernel_rfl) (by kernel_rfl) (by kernel_rfl) (by kernel_rfl) (by kernel_rfl) (by kernel_rfl) (by kernel_rfl) (by kernel_rfl) (by kernel_rfl) (fun _ => rfl) (by kernel_rfl)) ?_ ?_
  refine yql S96 ?_
  refine q_last S97 (st_appZ (X := X) S98 16 h28 47 47 67 2 0 [(.top, .int .i64 0), (.top, .int .i32 0)] (.own 1) e_api_Event 0 (some 64) (by kernel_rfl) (by kernel_rfl) (by kernel_rfl) (by kernel_rfl) (by kernel_rfl) (by kernel_rfl) (by kernel_rfl) (by kernel_rfl) (by kernel_rfl) (fun _ => rfl) (by kernel_rfl)) ?_
  refine yqt S99 ?_
  refine yql S92 ?_
  exact yqe
  refine yql S100 ?_
  refine q_last S96 (st_app (X := X) S101 16 h26 47 47 67 2 0 [(.top, .int .i64 0), (.top, .int .i32 0)] (.own 0) e_api_Event 0 (some 57) (by kernel_rfl) (by kernel_rfl) (by kernel_rfl) (by kernel_rfl) (by kernel_rfl) (by kernel_rfl) (by kernel_rfl) (by kernel_rfl) (by kernel_rfl) (fun _ => rfl) (by kernel_rfl)) ?_
  refine q_last S97 (st_appZ (X := X) S98 16 h28 47 47 67 2 0 [(.top, .int .i64 0), (.top, .int .i32 0)] (.own 1) e_api_Event 0 (some 64) (by kernel_rfl) (by kernel_rfl) (by kernel_rfl) (by kernel_rfl) (by kernel_rfl) (by kernel_rfl) (by kernel_rfl) (by kernel_rfl) (by kernel_rfl) (fun _ => rfl) (by kernel_rfl)) ?_
  refine yqt S99 ?_
  refine yql S92 ?_
  exact yqe
  refine yql S103 ?_
  refine yql S100 ?_
  refine q_last S96 (st_app (X := X) S101 16 h26 47 47 67 2 0 [(.top, .int .i64 0), (.top, .int .i32 0)] (.own 0) e_api_Event 0 (some 57) (by kernel_rfl) (by kernel_rfl) (by kernel_rfl) (by kernel_rfl) (by kernel_rfl) (by kernel_rfl) (by kernel_rfl) (by kernel_rfl) (by kernel_rfl) (fun _ => rfl) (by kernel_rfl)) ?_
  refine q_last S97 (st_appZ (X := X) S98 16 h28 47 47 67 2 0 [(.top, .int .i64 0), (.top, .int .i32 0)] (.own 1) e_api_Event 0 (some 64) (by kernel_rfl) (by kernel_rfl) (by kernel_rfl) (by kernel_rfl) (by kernel_rfl) (by kernel_rfl) (by kernel_rfl) (by kernel_rfl) (by kernel_rfl) (fun _ => rfl) (by kernel_rfl)) ?_
  refine yqt S99 ?_
  refine yql S92 ?_
  exact yqe
  refine yql ⟨[E1, E2, E3, E4, E8, E28, E29, E30, E31, E32, E33, E42], [B5, B6, B7], H⟩ ?_
  refine q_alt S102 (by kernel_rfl) ?_ ?_
  refine yql S100 ?_
  refine q_last S96 (st_app (X := X) S101 16 h26 47 47 67 2 0 [(.top, .int .i64 0), (.top, .int .i32 0)] (.own 0) e_api_Event 0 (some 57) (by kernel_rfl) (by kernel_rfl) (by kernel_rfl) (by kernel_rfl) (by kernel_rfl) (by kernel_rfl) (by kernel_rfl) (by kernel_rfl) (by kernel_rfl) (fun _ => rfl) (by kernel_rfl)) ?_
  refine q_last S97 (st_appZ (X := X) S98 16 h28 47 47 67 2 0 [(.top, .int .i64 0), (.top, .int .i32 0)] (.own 1) e_api_Event 0 (some 64) (by kernel_rfl) (by kernel_rfl) (by kernel_rfl) (by kernel_rfl) (by kernel_rfl) (by kernel_rfl) (by kernel_rfl) (by kernel_rfl) (by kernel_rfl) (fun _ => rfl) (by kernel_rfl)) ?_
  refine yqt S99 ?_
  refine yql S92 ?_
  exact yqe
  refine yql S103 ?_
  refine yql S100 ?_
  refine q_last S96 (st_app (X := X) S101 16 h26 47 47 67 2 0 [(.top, .int .i64 0), (.top, .int .i32 0)] (.own 0) e_api_Event 0 (some 57) (by kernel_rfl) (by kernel_rfl) (by kernel_rfl) (by kernel_rfl) (by kernel_rfl) (by kernel_rfl) (by kernel_rfl) (by kernel_rfl) (by kernel_rfl) (fun _ => rfl) (by kernel_rfl)) ?_
  refine q_last S97 (st_appZ (X := X) S98 16 h28 47 47 67 2 0 [(.top, .int .i64 0), (.top, .int .i32 0)] (.own 1) e_api_Event 0 (some 64) (by kernel_rfl) (by kernel_rfl) (by kernel_rfl) (by kernel_rfl) (by kernel_rfl) (by kernel_rfl) (by kernel_rfl) (by kernel_rfl) (by kernel_rfl) (fun _ => rfl) (by kernel_rfl)) ?_
  refine yqt S99 ?_
  refine yql S92 ?_
  exact yqe
  kernel_rfl
  exact ⟨(T_ref04_Cpu.mk p0.R_ p0.PC_ p0.EPC_ p0.Cause_ p0.State_ p0.Why_ p0.Steps_ p0.Taken_ v27 p0.Entry_ p0.Vector_ p0.Guard_ p0.Limit_ p0.Input_), hF, (by kernel_rfl)⟩
  refine yF h24 S82 ?_
  refine ysg ⟨[E1, E2, E3, E4, E8, E9, (66, .one .top (.bool (p1.Op_ == 31)))], [B5, B6, B7], H⟩ ?_
  refine w_join (α := (T_ref04_Cpu)) (fun x => (⟨[E2, E4, E8], [(3, (m1_ref04_Cpu x)), B7], H⟩ : St)) (fun x => ref04_others_j6 p0 x = some ra) ?_ ?_
  rintro j29 hF
  replace hF : ref04_others_j6 p0 j29 = some ra := hF
  unfold ref04_others_j6 at hF
  exact ⟨j29, hF, (by kernel_rfl)⟩
  rcases if_inv hF with ⟨h30, hF⟩ | ⟨h30, hF⟩
  refine yT h30 S104 ?_
  refine w_seq ?_
  refine yso ⟨[E2, E3, E4, E8, E43], [B5, B6, B7], H⟩ ?_ ?_
  refine yr 4 S105 ?_
  refine o_one ⟨[E2, E3, E4, E8, E44, E45, E46, E47, E48], [B5, B6, B7], H⟩ (yl S105 p0.Input_ (eI .i32) (some 72)) ?_
  refine yr 1 ⟨[E2, E3, E4, E8, E44, E45, E46, E47, E48, E43], [B5, B6, B7], H⟩ ?_
  exact ye
  rcases if_inv hF with ⟨h31, hF⟩ | ⟨h31, hF⟩
  refine yT h31 S88 ?_
  refine w_seq ?_
  obtain ⟨r32, c33, hF⟩ := bind1_inv hF
  let E50 : EN := (75, .agg (m1_ref04_Cpu r32))
  refine w_regO ⟨[E4], [(6, (m1_ref04_Cpu r32))], H⟩ ?_ ?_
  refine yr 1 S106 ?_
  refine o_one ⟨[E2, E4, E49, E50], [B5, B7], H⟩ (yc (some 75) true false S106 (ok_ref04_trap H c33)) ?_
  refine yr 1 ⟨[E2, E4, E49, E50], [B5, (6, (m1_ref04_Cpu r32))], H⟩ ?_
  exact ye
  refine w_ret ?_
  obtain e0 := some1_inv hF
  subst e0
  exact yp (.agg (m1_ref04_Cpu r32))
  refine yF h31 S104 ?_
  refine w_skip ?_
  refine w_seq ?_
  obtain ⟨x34, h35, hF⟩ := bind1_inv hF
  let E59 : EN := (82, .one .top (.rd (.own 0) (.own 0) [.int .i32 x34] 0))
  let E60 : EN := (83, .one .top (.int .i32 x34))
  let E61 : EN := (84, .one .top (.int .u32 (IntKind.wrap .u32 x34)))
  let S109 : St := ⟨[E2, E3, E4, E8, E52, E53, E54, E57, E55, E58, E59, E56], [B5, B6, B7], H⟩
  let S110 : St := ⟨[E2, E3, E4, E8, E52, E53, E54, E57, E55, E58, E59, E60, E56], [B5, B6, B7], H⟩
  let S111 : St := ⟨[E2, E3, E4, E8, E52, E53, E54, E57, E55, E58, E59, E60, E61, E56], [B5, B6, B7], H⟩
  let S112 : St := ⟨[E2, E3, E4, E8, E52, E53, E54, E57, E55, E58, E59, E60, E61, E56, E62], [B5, B6, B7], H⟩
  obtain ⟨v36, h37, hF⟩ := bind1_inv hF
  obtain ⟨v38, h39, hF⟩ := bind1_inv hF
  let B51 : EB := (3, (arM .u32 16 v38 ++ [(.top, .int .u32 p0.PC_), (.top, .int .u32 p0.EPC_), (.top, .int .u32 p0.Cause_), (.top, .int .i64 p0.State_), (.top, .int .i64 p0.Why_), (.top, .int .i64 p0.Steps_), (.top, .int .i64 p0.Taken_), ((.own 0), .sl 2 (List.map e_api_Event p0.Out_)), (.top, .int .u32 p0.Entry_), (.top, .int .u32 p0.Vector_), (.top, .int .u32 p0.Guard_), (.top, .int .u32 p0.Limit_), ((.own 0), .sl 1 (List.map (eI .i32) p0.Input_))]))
  let S107 : St := ⟨[E2, E3, E4, E8, E52, E53, E54, E57, E55, E58, E59, E60, E61, E56, E62], [B51, B6, B7], H⟩
  let K123 : Sch := .take 6 (.take 7 (.take 8 (.take 10 (.last 11 .done))))
  refine w_regD (.take 0 (.take 1 (.take 2 (.take 4 (.take 9 (.alt 3 (.last 5 K123) (.last 5 (.last 3 K123)))))))) (by kernel_rfl) (⟨[E2, E4, E8], [B51, B7], H⟩ : St) ?_ ?_
  refine ydt ⟨[E2, E3, E4, E8, E52], [B5, B6, B7], H⟩ ?_
  refine ydt ⟨[E2, E3, E4, E8, E52, E53], [B5, B6, B7], H⟩ ?_
  refine ydt ⟨[E2, E3, E4, E8, E52, E53, E54], [B5, B6, B7], H⟩ ?_
  refine ydt ⟨[E2, E3, E4, E8, E52, E53, E54, E55], [B5, B6, B7], H⟩ ?_
  refine ydt ⟨[E2, E3, E4, E8, E52, E53, E54, E55, E56], [B5, B6, B7], H⟩ ?_
  refine q_in S107 ?_ ?_
  refine q_alt ⟨[E2, E3, E4, E8, E52, E53, E54, E57, E55, E56], [B5, B6, B7], H⟩ (by kernel_rfl) ?_ ?_
  refine yql S108 ?_
  refine q_take S109 (st_ix (X := X) S108 48 21 1 h35 (eI .i32) (.own 0) (some 82) (by kernel_rfl) (by kernel_rfl) (by kernel_rfl) (by kernel_rfl)) ?_
  refine yqt S110 ?_
  refine yqt S111 ?_
  refine q_take S112 (st_ixL (X := X) S111 46 35 16 h37 3 0 (some 86) (by kernel_rfl) (by kernel_rfl) (by kernel_rfl) (by kernel_rfl)) ?_
  refine q_last S107 (st_stL (X := X) S112 35 16 h39 3 0 (arM .u32 16 p0.R_ ++ [(.top, .int .u32 p0.PC_), (.top, .int .u32 p0.EPC_), (.top, .int .u32 p0.Cause_), (.top, .int .i64 p0.State_), (.top, .int .i64 p0.Why_), (.top, .int .i64 p0.Steps_), (.top, .int .i64 p0.Taken_), ((.own 0), .sl 2 (List.map e_api_Event p0.Out_)), (.top, .int .u32 p0.Entry_), (.top, .int .u32 p0.Vector_), (.top, .int .u32 p0.Guard_), (.top, .int .u32 p0.Limit_), ((.own 0), .sl 1 (List.map (eI .i32) p0.Input_))]) (fun q => .int .u32 q) ⟨true, [4, 6]⟩ (by kernel_rfl) (by kernel_rfl) (by kernel_rfl) (by kernel_rfl) (by kernel_rfl) (fun _ => rfl) (by kernel_rfl)) ?_
  exact yqe
  refine yql ⟨[E2, E3, E4, E8, E52, E53, E54, E55, E58, E56], [B5, B6, B7], H⟩ ?_
  refine yql S108 ?_
  refine q_take S109 (st_ix (X := X) S108 48 21 1 h35 (eI .i32) (.own 0) (some 82) (by kernel_rfl) (by kernel_rfl) (by kernel_rfl) (by kernel_rfl)) ?_
  refine yqt S110 ?_
  refine yqt S111 ?_
  refine q_take S112 (st_ixL (X := X) S111 46 35 16 h37 3 0 (some 86) (by kernel_rfl) (by kernel_rfl) (by kernel_rfl) (by kernel_rfl)) ?_
  refine q_last S107 (st_stL (X := X) S112 35 16 h39 3 0 (arM .u32 16 p0.R_ ++ [(.top, .int .u32 p0.PC_), (.top, .int .u32 p0.EPC_), (.top, .int .u32 p0.Cause_), (.top, .int .i64 p0.State_), (.top, .int .i64 p0.Why_), (.top, .int .i64 p0.Steps_), (.top, .int .i64 p0.Taken_), ((.own 0), .sl 2 (List.map e_api_Event p0.Out_)), (.top, .int .u32 p0.Entry_), (.top, .int .u32 p0.Vector_), (.top, .int .u32 p0.Guard_), (.top, .int .u32 p0.Limit_), ((.own 0), .sl 1 (List.map (eI .i32) p0.Input_))]) (fun q => .int .u32 q) ⟨true, [4, 6]⟩ (by kernel_rfl) (by kernel_rfl) (by kernel_rfl) (by kernel_rfl) (by kernel_rfl) (fun _ => rfl) (by kernel_rfl)) ?_
  exact yqe
  kernel_rfl
  refine yg ⟨[E2, E4, E8], [(3, (arM .u32 16 v38 ++ [(.top, .int .u32 p0.PC_), (.top, .int .u32 p0.EPC_), (.top, .int .u32 p0.Cause_), (.top, .int .i64 p0.State_), (.top, .int .i64 p0.Why_), (.top, .int .i64 p0.Steps_), (.top, .int .i64 (IntKind.wrap .i64 (p0.Taken_ + 1))), ((.own 0), .sl 2 (List.map e_api_Event p0.Out_)), (.top, .int .u32 p0.Entry_), (.top, .int .u32 p0.Vector_), (.top, .int .u32 p0.Guard_), (.top, .int .u32 p0.Limit_), ((.own 0), .sl 1 (List.map (eI .i32) p0.Input_))])), B7], H⟩ ?_
  exact ⟨(T_ref04_Cpu.mk v38 p0.PC_ p0.EPC_ p0.Cause_ p0.State_ p0.Why_ p0.Steps_ (IntKind.wrap .i64 (p0.Taken_ + 1)) p0.Out_ p0.Entry_ p0.Vector_ p0.Guard_ p0.Limit_ p0.Input_), hF, (by kernel_rfl)⟩
  refine yF h30 S82 ?_
  refine ysg ⟨[E1, E2, E3, E4, E8, E9, (91, .one .top (.bool (p1.Op_ == 32)))], [B5, B6, B7], H⟩ ?_
  refine w_join (α := (T_ref04_Cpu)) (fun x => (⟨[E2, E4, E8], [(3, (m1_ref04_Cpu x)), B7], H⟩ : St)) (fun x => ref04_others_j7 p0 x = some ra) ?_ ?_
  rintro j40 hF
  replace hF : ref04_others_j7 p0 j40 = some ra := hF
  unfold ref04_others_j7 at hF
  exact ⟨j40, hF, (by kernel_rfl)⟩
  rcases if_inv hF with ⟨h41, hF⟩ | ⟨h41, hF⟩
  refine yT h41 S84 ?_
  refine ysg ⟨[E2, E4, E8, (98, .one .top (.bool (decide ((IntKind.wrap .i32 p2) < (IntKind.wrap .i32 p0.Limit_)))))], [B5, B7], H⟩ ?_
  rcases if_inv hF with ⟨h42, hF⟩ | ⟨h42, hF⟩
  refine yT h42 S88 ?_
  refine w_seq ?_
  obtain ⟨r43, c44, hF⟩ := bind1_inv hF
  let E64 : EN := (100, .agg (m1_ref04_Cpu r43))
  refine w_regO ⟨[E4], [(6, (m1_ref04_Cpu r43))], H⟩ ?_ ?_
  refine yr 1 S113 ?_
  refine o_one ⟨[E2, E4, E63, E64], [B5, B7], H⟩ (yc (some 100) true false S113 (ok_ref04_trap H c44)) ?_
  refine yr 1 ⟨[E2, E4, E63, E64], [B5, (6, (m1_ref04_Cpu r43))], H⟩ ?_
  exact ye
  refine w_ret ?_
  obtain e0 := some1_inv hF
  subst e0
  exact yp (.agg (m1_ref04_Cpu r43))
  refine yF h42 S87 ?_
  refine w_skip ?_
  exact ⟨p0, hF, (by kernel_rfl)⟩
  refine yF h41 ⟨[E2, E3, E4, E8, E9], [B5, B6, B7], H⟩ ?_
  refine ysg ⟨[E2, E3, E4, E8, (101, .one .top (.bool (p1.Op_ == 33)))], [B5, B6, B7], H⟩ ?_
  refine w_join (α := (T_ref04_Cpu)) (fun x => (⟨[E2, E4, E8], [(3, (m1_ref04_Cpu x)), B7], H⟩ : St)) (fun x => ref04_others_j8 p0 x = some ra) ?_ ?_
  rintro j45 hF
  replace hF : ref04_others_j8 p0 j45 = some ra := hF
  unfold ref04_others_j8 at hF
  exact ⟨j45, hF, (by kernel_rfl)⟩
  rcases if_inv hF with ⟨h46, hF⟩ | ⟨h46, hF⟩
  refine yT h46 S104 ?_
  refine w_seq ?_
  refine ysg ⟨[E2, E3, E4, E8, (105, .one .top (.bool (decide (p1.Imm_ > 1))))], [B5, B6, B7], H⟩ ?_
  rcases if_inv hF with ⟨h47, hF⟩ | ⟨h47, hF⟩
  refine yT h47 S88 ?_
  refine w_seq ?_
  obtain ⟨r48, c49, hF⟩ := bind1_inv hF
  let E66 : EN := (107, .agg (m1_ref04_Cpu r48))
  refine w_regO ⟨[E4], [(6, (m1_ref04_Cpu r48))], H⟩ ?_ ?_
  refine yr 1 S114 ?_
  refine o_one ⟨[E2, E4, E65, E66], [B5, B7], H⟩ (yc (some 107) true false S114 (ok_ref04_fault H c49)) ?_
  refine yr 1 ⟨[E2, E4, E65, E66], [B5, (6, (m1_ref04_Cpu r48))], H⟩ ?_
  exact ye
  refine w_ret ?_
  obtain e0 := some1_inv hF
  subst e0
  exact yp (.agg (m1_ref04_Cpu r48))
  refine yF h47 S104 ?_
  refine w_skip ?_
  refine w_seq ?_
  obtain ⟨v50, h51, hF⟩ := bind1_inv hF
  obtain ⟨v52, h53, hF⟩ := bind1_inv hF
  let B67 : EB := (3, (arM .u32 16 v52 ++ [(.top, .int .u32 p0.PC_), (.top, .int .u32 p0.EPC_), (.top, .int .u32 p0.Cause_), (.top, .int .i64 p0.State_), (.top, .int .i64 p0.Why_), (.top, .int .i64 p0.Steps_), (.top, .int .i64 p0.Taken_), ((.own 0), .sl 2 (List.map e_api_Event p0.Out_)), (.top, .int .u32 p0.Entry_), (.top, .int .u32 p0.Vector_), (.top, .int .u32 p0.Guard_), (.top, .int .u32 p0.Limit_), ((.own 0), .sl 1 (List.map (eI .i32) p0.Input_))]))
  let S115 : St := ⟨[E2, E3, E4, E8], [B67, B6, B7], H⟩
  let S118 : St := ⟨[E2, E3, E4, E8, E75, E76, E77, E78, E79], [B67, B6, B7], H⟩
  let S119 : St := ⟨[E2, E3, E4, E8, E75, E76, E77, E78, E79, E80], [B67, B6, B7], H⟩
  refine w_regO S115 ?_ ?_
  refine yr 5 S116 ?_
  refine o_one S117 (st_ixL (X := X) S116 46 35 16 h51 3 0 (some 113) (by kernel_rfl) (by kernel_rfl) (by kernel_rfl) (by kernel_rfl)) ?_
  refine o_one ⟨[E2, E3, E4, E8, E68, E69, E70, E71, E72, E73], [B67, B6, B7], H⟩ (st_stL (X := X) S117 35 16 h53 3 0 (arM .u32 16 p0.R_ ++ [(.top, .int .u32 p0.PC_), (.top, .int .u32 p0.EPC_), (.top, .int .u32 p0.Cause_), (.top, .int .i64 p0.State_), (.top, .int .i64 p0.Why_), (.top, .int .i64 p0.Steps_), (.top, .int .i64 p0.Taken_), ((.own 0), .sl 2 (List.map e_api_Event p0.Out_)), (.top, .int .u32 p0.Entry_), (.top, .int .u32 p0.Vector_), (.top, .int .u32 p0.Guard_), (.top, .int .u32 p0.Limit_), ((.own 0), .sl 1 (List.map (eI .i32) p0.Input_))]) (fun q => .int .u32 q) ⟨true, []⟩ (by kernel_rfl) (by kernel_rfl) (by kernel_rfl) (by kernel_rfl) (by kernel_rfl) (fun _ => rfl) (by kernel_rfl)) ?_
  exact ye
  refine ysg ⟨[E2, E3, E4, E8, (116, .one .top (.bool (p1.Imm_ == 1)))], [B67, B6, B7], H⟩ ?_
  refine w_join (α := (T_ref04_Cpu)) (fun x => (⟨[E2, E4, E8], [(3, (m1_ref04_Cpu x)), B7], H⟩ : St)) (fun x => ref04_others_j9 p0 x = some ra) ?_ ?_
  rintro j54 hF
  replace hF : ref04_others_j9 p0 j54 = some ra := hF
  unfold ref04_others_j9 at hF
  exact ⟨j54, hF, (by kernel_rfl)⟩
  rcases if_inv hF with ⟨h55, hF⟩ | ⟨h55, hF⟩
  refine yT h55 S115 ?_
  obtain ⟨v56, h57, hF⟩ := bind1_inv hF
  obtain ⟨v58, h59, hF⟩ := bind1_inv hF
  let B74 : EB := (3, (arM .u32 16 v58 ++ [(.top, .int .u32 p0.PC_), (.top, .int .u32 p0.EPC_), (.top, .int .u32 p0.Cause_), (.top, .int .i64 p0.State_), (.top, .int .i64 p0.Why_), (.top, .int .i64 p0.Steps_), (.top, .int .i64 p0.Taken_), ((.own 0), .sl 2 (List.map e_api_Event p0.Out_)), (.top, .int .u32 p0.Entry_), (.top, .int .u32 p0.Vector_), (.top, .int .u32 p0.Guard_), (.top, .int .u32 p0.Limit_), ((.own 0), .sl 1 (List.map (eI .i32) p0.Input_))]))
  refine w_regO ⟨[E2, E4, E8], [B74, B7], H⟩ ?_ ?_
  refine yr 5 S118 ?_
  refine o_one S119 (st_ixL (X := X) S118 46 35 16 h57 3 0 (some 122) (by kernel_rfl) (by kernel_rfl) (by kernel_rfl) (by kernel_rfl)) ?_
  refine o_one ⟨[E2, E3, E4, E8, E75, E76, E77, E78, E79, E80], [B74, B6, B7], H⟩ (st_stL (X := X) S119 35 16 h59 3 0 (arM .u32 16 v52 ++ [(.top, .int .u32 p0.PC_), (.top, .int .u32 p0.EPC_), (.top, .int .u32 p0.Cause_), (.top, .int .i64 p0.State_), (.top, .int .i64 p0.Why_), (.top, .int .i64 p0.Steps_), (.top, .int .i64 p0.Taken_), ((.own 0), .sl 2 (List.map e_api_Event p0.Out_)), (.top, .int .u32 p0.Entry_), (.top, .int .u32 p0.Vector_), (.top, .int .u32 p0.Guard_), (.top, .int .u32 p0.Limit_), ((.own 0), .sl 1 (List.map (eI .i32) p0.Input_))]) (fun q => .int .u32 q) ⟨true, []⟩ (by kernel_rfl) (by kernel_rfl) (by kernel_rfl) (by kernel_rfl) (by kernel_rfl) (fun _ => rfl) (by kernel_rfl)) ?_
  exact ye
  exact ⟨(T_ref04_Cpu.mk v58 p0.PC_ p0.EPC_ p0.Cause_ p0.State_ p0.Why_ p0.Steps_ p0.Taken_ p0.Out_ p0.Entry_ p0.Vector_ p0.Guard_ p0.Limit_ p0.Input_), hF, (by kernel_rfl)⟩
  refine yF h55 ⟨[E2, E4, E8], [B67, B7], H⟩ ?_
  refine w_skip ?_
  exact ⟨(T_ref04_Cpu.mk v52 p0.PC_ p0.EPC_ p0.Cause_ p0.State_ p0.Why_ p0.Steps_ p0.Taken_ p0.Out_ p0.Entry_ p0.Vector_ p0.Guard_ p0.Limit_ p0.Input_), hF, (by kernel_rfl)⟩
  refine yF h46 S87 ?_
  refine w_skip ?_
  exact ⟨p0, hF, (by kernel_rfl)⟩
noncomputable def ref04_do_j1 (j20 : Int) (j21 : T_ref04_Cpu) (j22 : T_ref03_Mem) : Option (T_ref04_Cpu × T_ref03_Mem) :=
  some ((T_ref04_Cpu.mk j21.R_ j20 j21.EPC_ j21.Cause_ j21.State_ j21.Why_ j21.Steps_ j21.Taken_ j21.Out_ j21.Entry_ j21.Vector_ j21.Guard_ j21.Limit_ j21.Input_), j22)
noncomputable def ref04_do_j2 (j28 : Int) (j29 : T_ref04_Cpu) (j30 : T_ref03_Mem) : Option (T_ref04_Cpu × T_ref03_Mem) :=
  ref04_do_j1 j28 j29 j30
noncomputable def ref04_do_j3 (j36 : Int) (j37 : T_ref04_Cpu) (j38 : T_ref03_Mem) : Option (T_ref04_Cpu × T_ref03_Mem) :=
  ref04_do_j2 j36 j37 j38
noncomputable def ref04_do_j4 (j44 : Int) (j45 : T_ref04_Cpu) (j46 : T_ref03_Mem) : Option (T_ref04_Cpu × T_ref03_Mem) :=
  ref04_do_j3 j44 j45 j46
noncomputable def ref04_do_j5 (j52 : Int) (j53 : T_ref04_Cpu) (j54 : T_ref03_Mem) : Option (T_ref04_Cpu × T_ref03_Mem) :=
  ref04_do_j4 j52 j53 j54
noncomputable def ref04_do_j6 (j60 : Int) (j61 : T_ref04_Cpu) (j62 : T_ref03_Mem) : Option (T_ref04_Cpu × T_ref03_Mem) :=
  ref04_do_j5 j60 j61 j62
noncomputable def ref04_do_j7 (j74 : Int) (j75 : T_ref04_Cpu) (j76 : T_ref03_Mem) : Option (T_ref04_Cpu × T_ref03_Mem) :=
  ref04_do_j6 j74 j75 j76
noncomputable def ref04_do_j8 (p1 : T_ref03_Mem) (j84 : Int) (j85 : T_ref04_Cpu) : Option (T_ref04_Cpu × T_ref03_Mem) :=
  ref04_do_j7 j84 j85 p1
noncomputable def ref04_do_j9 (p1 : T_ref03_Mem) (p0 : T_ref04_Cpu) (j87 : Int) : Option (T_ref04_Cpu × T_ref03_Mem) :=
  ref04_do_j8 p1 j87 p0
noncomputable def ref04_do_j10 (p1 : T_ref03_Mem) (j89 : Int) (j90 : T_ref04_Cpu) : Option (T_ref04_Cpu × T_ref03_Mem) :=
  ref04_do_j8 p1 j89 j90
noncomputable def ref04_do_j11 (p1 : T_ref03_Mem) (p0 : T_ref04_Cpu) (j92 : Int) : Option (T_ref04_Cpu × T_ref03_Mem) :=
  ref04_do_j10 p1 j92 p0
noncomputable def ref04_do_j12 (p1 : T_ref03_Mem) (p0 : T_ref04_Cpu) (p2 : T_ref02_Instr) (j94 : T_ref04_Cpu) : Option (T_ref04_Cpu × T_ref03_Mem) :=
  ref04_do_j10 p1 (IntKind.wrap .u32 ((IntKind.wrap .u32 (p0.PC_ + 4)) + (IntKind.wrap .u32 (4 * (IntKind.wrap .u32 p2.Imm_))))) j94
noncomputable def ref04_do  (p0 : T_ref04_Cpu) (p1 : T_ref03_Mem) (p2 : T_ref02_Instr) : Option (T_ref04_Cpu × T_ref03_Mem) :=
  bind1 (ga p0.R_ p2.A_) fun v1 =>
  bind1 (ga p0.R_ p2.B_) fun v3 =>
  if ((decide (p2.Op_ ≥ 6)) && (decide (p2.Op_ ≤ 17))) = true then (bind1 (ga p0.R_ p2.C_) fun v7 =>
  bind2 (ref04_reckon p2.Op_ v3 v7) fun r9 r10 =>
  if (!r10) = true then (bind1 (ref04_trap p0 3) fun r13 =>
  some (r13, p1))
  else (bind1 (ga p0.R_ p2.A_) fun v15 =>
  bind1 (sa p0.R_ p2.A_ r9) fun v17 =>
  some ((T_ref04_Cpu.mk v17 (IntKind.wrap .u32 (p0.PC_ + 4)) p0.EPC_ p0.Cause_ p0.State_ p0.Why_ p0.Steps_ p0.Taken_ p0.Out_ p0.Entry_ p0.Vector_ p0.Guard_ p0.Limit_ p0.Input_), p1)))
  else (if (p2.Op_ == 1) = true then (some ((T_ref04_Cpu.mk p0.R_ p0.PC_ p0.EPC_ p0.Cause_ 1 p0.Why_ p0.Steps_ p0.Taken_ p0.Out_ p0.Entry_ p0.Vector_ p0.Guard_ p0.Limit_ p0.Input_), p1))
  else (if (p2.Op_ == 2) = true then (bind1 (ga p0.R_ p2.A_) fun v24 =>
  bind1 (sa p0.R_ p2.A_ (IntKind.wrap .u32 p2.Imm_)) fun v26 =>
  ref04_do_j1 (IntKind.wrap .u32 (p0.PC_ + 4)) (T_ref04_Cpu.mk v26 p0.PC_ p0.EPC_ p0.Cause_ p0.State_ p0.Why_ p0.Steps_ p0.Taken_ p0.Out_ p0.Entry_ p0.Vector_ p0.Guard_ p0.Limit_ p0.Input_) p1)
  else (if (p2.Op_ == 3) = true then (bind1 (ga p0.R_ p2.A_) fun v32 =>
  bind1 (sa p0.R_ p2.A_ (IntKind.wrap .u32 ((IntKind.wrap .u32 p2.Imm_) * 65536))) fun v34 =>
  ref04_do_j2 (IntKind.wrap .u32 (p0.PC_ + 4)) (T_ref04_Cpu.mk v34 p0.PC_ p0.EPC_ p0.Cause_ p0.State_ p0.Why_ p0.Steps_ p0.Taken_ p0.Out_ p0.Entry_ p0.Vector_ p0.Guard_ p0.Limit_ p0.Input_) p1)
  else (if (p2.Op_ == 4) = true then (bind1 (ga p0.R_ p2.A_) fun v40 =>
  bind1 (sa p0.R_ p2.A_ (bitsOf .or .u32 v3 (IntKind.wrap .u32 p2.Imm_))) fun v42 =>
  ref04_do_j3 (IntKind.wrap .u32 (p0.PC_ + 4)) (T_ref04_Cpu.mk v42 p0.PC_ p0.EPC_ p0.Cause_ p0.State_ p0.Why_ p0.Steps_ p0.Taken_ p0.Out_ p0.Entry_ p0.Vector_ p0.Guard_ p0.Limit_ p0.Input_) p1)
  else (if (p2.Op_ == 5) = true then (bind1 (ga p0.R_ p2.A_) fun v48 =>
  bind1 (sa p0.R_ p2.A_ (IntKind.wrap .u32 (v3 + (IntKind.wrap .u32 p2.Imm_)))) fun v50 =>
  ref04_do_j4 (IntKind.wrap .u32 (p0.PC_ + 4)) (T_ref04_Cpu.mk v50 p0.PC_ p0.EPC_ p0.Cause_ p0.State_ p0.Why_ p0.Steps_ p0.Taken_ p0.Out_ p0.Entry_ p0.Vector_ p0.Guard_ p0.Limit_ p0.Input_) p1)
  else (if (p2.Op_ == 34) = true then (bind1 (ga p0.R_ p2.A_) fun v56 =>
  bind1 (sa p0.R_ p2.A_ (bitsOf .xor .u32 v3 (IntKind.wrap .u32 p2.Imm_))) fun v58 =>
  ref04_do_j5 (IntKind.wrap .u32 (p0.PC_ + 4)) (T_ref04_Cpu.mk v58 p0.PC_ p0.EPC_ p0.Cause_ p0.State_ p0.Why_ p0.Steps_ p0.Taken_ p0.Out_ p0.Entry_ p0.Vector_ p0.Guard_ p0.Limit_ p0.Input_) p1)
  else (if (p2.Op_ == 18) = true then (bind2 (ref03_Load p1 (IntKind.wrap .u32 (v3 + (IntKind.wrap .u32 p2.Imm_)))) fun r64 r65 =>
  if (r65 != 0) = true then (bind1 (ref04_fault p0 r65) fun r68 =>
  some (r68, p1))
  else (bind1 (ga p0.R_ p2.A_) fun v70 =>
  bind1 (sa p0.R_ p2.A_ r64) fun v72 =>
  ref04_do_j6 (IntKind.wrap .u32 (p0.PC_ + 4)) (T_ref04_Cpu.mk v72 p0.PC_ p0.EPC_ p0.Cause_ p0.State_ p0.Why_ p0.Steps_ p0.Taken_ p0.Out_ p0.Entry_ p0.Vector_ p0.Guard_ p0.Limit_ p0.Input_) p1))
  else (if (p2.Op_ == 19) = true then (bind2 (ref03_Store p1 (IntKind.wrap .u32 (v3 + (IntKind.wrap .u32 p2.Imm_))) v1) fun r78 r79 =>
  if (r79 != 0) = true then (bind1 (ref04_fault p0 r79) fun r82 =>
  some (r82, p1))
  else (ref04_do_j7 (IntKind.wrap .u32 (p0.PC_ + 4)) p0 r78))
  else (if (p2.Op_ == 20) = true then (if (v1 == 0) = true then (ref04_do_j9 p1 p0 (IntKind.wrap .u32 ((IntKind.wrap .u32 (p0.PC_ + 4)) + (IntKind.wrap .u32 (4 * (IntKind.wrap .u32 p2.Imm_))))))
  else (ref04_do_j9 p1 p0 (IntKind.wrap .u32 (p0.PC_ + 4))))
  else (if (p2.Op_ == 21) = true then (if (v1 != 0) = true then (ref04_do_j11 p1 p0 (IntKind.wrap .u32 ((IntKind.wrap .u32 (p0.PC_ + 4)) + (IntKind.wrap .u32 (4 * (IntKind.wrap .u32 p2.Imm_))))))
  else (ref04_do_j11 p1 p0 (IntKind.wrap .u32 (p0.PC_ + 4))))
  else (if (p2.Op_ == 22) = true then (ref04_do_j12 p1 p0 p2 p0)
  else (if (p2.Op_ == 23) = true then (ref04_do_j12 p1 p0 p2 (T_ref04_Cpu.mk (arrL [(p0.R_.g 0), (p0.R_.g 1), (p0.R_.g 2), (p0.R_.g 3), (p0.R_.g 4), (p0.R_.g 5), (p0.R_.g 6), (p0.R_.g 7), (p0.R_.g 8), (p0.R_.g 9), (p0.R_.g 10), (p0.R_.g 11), (p0.R_.g 12), (p0.R_.g 13), (IntKind.wrap .u32 (p0.PC_ + 4)), (p0.R_.g 15)] : Arr 16 Int) p0.PC_ p0.EPC_ p0.Cause_ p0.State_ p0.Why_ p0.Steps_ p0.Taken_ p0.Out_ p0.Entry_ p0.Vector_ p0.Guard_ p0.Limit_ p0.Input_))
  else (bind1 (ref04_others p0 p2 v1) fun r97 =>
  some (r97, p1))))))))))))))
theorem ok_ref04_do (H : Heap) {p0 : T_ref04_Cpu} {p1 : T_ref03_Mem} {p2 : T_ref02_Instr} {ra : T_ref04_Cpu} {rb : T_ref03_Mem} (hF : ref04_do p0 p1 p2 = some (ra, rb)) : evS X 98 [.agg (m1_ref04_Cpu p0), .agg (m0_ref03_Mem p1), .agg (m0_ref02_Instr p2)] H = some (.tup [.agg (m1_ref04_Cpu ra), .agg (m0_ref03_Mem rb)], H) := by
  let E1 : EN := (3, .one .top (.loc 3 0))
  let E2 : EN := (4, .one .top (.loc 4 0))
  let E3 : EN := (5, .one .top (.loc 5 0))
  let E4 : EN := (6, .one .top (.loc 6 0))
  let E5 : EN := (7, .one .top (.loc 7 0))
  let B6 : EB := (3, (m1_ref04_Cpu p0))
  let B7 : EB := (4, (m0_ref03_Mem p1))
  let B8 : EB := (5, (m0_ref02_Instr p2))
  let B9 : EB := (6, (List.replicate 19 (.top, .int .u32 0) ++ List.replicate 4 (.top, .int .i64 0) ++ [((.own 1), .sl 2 (List.map e_api_Event ([] : List T_api_Event)))] ++ List.replicate 4 (.top, .int .u32 0) ++ [((.own 1), .sl 1 (List.map (eI .i32) ([] : List Int)))]))
  let B10 : EB := (7, (List.replicate 5 (.top, .int .u32 0) ++ [((.own 1), .sl 1 (List.map (eI .u32) ([] : List Int)))]))
  let E13 : EN := (20, .one .top (.loc 5 1))
  let E14 : EN := (21, .one .top (.int .i64 p2.A_))
  let E15 : EN := (22, .one .top (.loc 3 0))
  let E16 : EN := (23, .one .top (.loc 3 (0 + Int.toNat p2.A_)))
  let E18 : EN := (25, .one .top (.loc 5 2))
  let E19 : EN := (26, .one .top (.int .i64 p2.B_))
  let E20 : EN := (27, .one .top (.loc 3 0))
  let E21 : EN := (28, .one .top (.loc 3 (0 + Int.toNat p2.B_)))
  let E23 : EN := (10, .one .top (.int .u32 (IntKind.wrap .u32 p2.Imm_)))
  let E24 : EN := (11, .one .top (.int .u32 p0.PC_))
  let E25 : EN := (12, .one .top (.int .u32 (IntKind.wrap .u32 (p0.PC_ + 4))))
  let E26 : EN := (13, .one .top (.int .u32 (IntKind.wrap .u32 ((IntKind.wrap .u32 (p0.PC_ + 4)) + (IntKind.wrap .u32 (4 * (IntKind.wrap .u32 p2.Imm_)))))))
  let E27 : EN := (42, .one .top (.loc 5 0))
  let E28 : EN := (43, .one .top (.int .i64 p2.Op_))
  let E31 : EN := (51, .one .top (.loc 5 0))
  let E32 : EN := (52, .one .top (.int .i64 p2.Op_))
  let E34 : EN := (54, .one .top (.loc 5 3))
  let E35 : EN := (55, .one .top (.int .i64 p2.C_))
  let E36 : EN := (56, .one .top (.loc 3 0))
  let E37 : EN := (57, .one .top (.loc 3 (0 + Int.toNat p2.C_)))
  let B44 : EB := (7, (m0_ref03_Mem p1))
  let E45 : EN := (64, .agg (m1_ref04_Cpu p0))
  let E46 : EN := (66, .agg (m0_ref03_Mem p1))
  let E49 : EN := (67, .one .top (.loc 5 1))
  let E50 : EN := (68, .one .top (.int .i64 p2.A_))
  let E52 : EN := (70, .one .top (.loc 3 0))
  let E53 : EN := (71, .one .top (.loc 3 (0 + Int.toNat p2.A_)))
  let E57 : EN := (75, .agg (m0_ref03_Mem p1))
  let E58 : EN := (77, .one .top (.int .i64 p2.Op_))
  let B59 : EB := (3, (arM .u32 16 p0.R_ ++ [(.top, .int .u32 p0.PC_), (.top, .int .u32 p0.EPC_), (.top, .int .u32 p0.Cause_), (.top, .int .i64 1), (.top, .int .i64 p0.Why_), (.top, .int .i64 p0.Steps_), (.top, .int .i64 p0.Taken_), ((.own 0), .sl 2 (List.map e_api_Event p0.Out_)), (.top, .int .u32 p0.Entry_), (.top, .int .u32 p0.Vector_), (.top, .int .u32 p0.Guard_), (.top, .int .u32 p0.Limit_), ((.own 0), .sl 1 (List.map (eI .i32) p0.Input_))]))
  let B60 : EB := (6, (arM .u32 16 p0.R_ ++ [(.top, .int .u32 p0.PC_), (.top, .int .u32 p0.EPC_), (.top, .int .u32 p0.Cause_), (.top, .int .i64 1), (.top, .int .i64 p0.Why_), (.top, .int .i64 p0.Steps_), (.top, .int .i64 p0.Taken_), ((.own 0), .sl 2 (List.map e_api_Event p0.Out_)), (.top, .int .u32 p0.Entry_), (.top, .int .u32 p0.Vector_), (.top, .int .u32 p0.Guard_), (.top, .int .u32 p0.Limit_), ((.own 0), .sl 1 (List.map (eI .i32) p0.Input_))]))
  let E61 : EN := (86, .agg (arM .u32 16 p0.R_ ++ [(.top, .int .u32 p0.PC_), (.top, .int .u32 p0.EPC_), (.top, .int .u32 p0.Cause_), (.top, .int .i64 1), (.top, .int .i64 p0.Why_), (.top, .int .i64 p0.Steps_), (.top, .int .i64 p0.Taken_), ((.own 0), .sl 2 (List.map e_api_Event p0.Out_)), (.top, .int .u32 p0.Entry_), (.top, .int .u32 p0.Vector_), (.top, .int .u32 p0.Guard_), (.top, .int .u32 p0.Limit_), ((.own 0), .sl 1 (List.map (eI .i32) p0.Input_))]))
  let E62 : EN := (87, .agg (m0_ref03_Mem p1))
  let E69 : EN := (90, .one .top (.loc 5 1))
  let E70 : EN := (91, .one .top (.int .i64 p2.A_))
  let E71 : EN := (92, .one .top (.int .u32 (IntKind.wrap .u32 p2.Imm_)))
  let E72 : EN := (93, .one .top (.loc 3 0))
  let E73 : EN := (94, .one .top (.loc 3 (0 + Int.toNat p2.A_)))
  let E75 : EN := (97, .one .top (.loc 5 1))
  let E76 : EN := (98, .one .top (.int .i64 p2.A_))
  let E77 : EN := (99, .one .top (.int .u32 (IntKind.wrap .u32 p2.Imm_)))
  let E78 : EN := (100, .one .top (.int .u32 (IntKind.wrap .u32 ((IntKind.wrap .u32 p2.Imm_) * 65536))))
  let E79 : EN := (101, .one .top (.loc 3 0))
  let E80 : EN := (102, .one .top (.loc 3 (0 + Int.toNat p2.A_)))
  let E82 : EN := (105, .one .top (.loc 5 1))
  let E83 : EN := (106, .one .top (.int .i64 p2.A_))
  let E85 : EN := (108, .one .top (.int .u32 (IntKind.wrap .u32 p2.Imm_)))
  let E87 : EN := (110, .one .top (.loc 3 0))
  let E88 : EN := (111, .one .top (.loc 3 (0 + Int.toNat p2.A_)))
  let E90 : EN := (114, .one .top (.loc 5 1))
  let E91 : EN := (115, .one .top (.int .i64 p2.A_))
  let E93 : EN := (117, .one .top (.int .u32 (IntKind.wrap .u32 p2.Imm_)))
  let E95 : EN := (119, .one .top (.loc 3 0))
  let E96 : EN := (120, .one .top (.loc 3 (0 + Int.toNat p2.A_)))
  let E98 : EN := (123, .one .top (.loc 5 1))
  let E99 : EN := (124, .one .top (.int .i64 p2.A_))
  let E101 : EN := (126, .one .top (.int .u32 (IntKind.wrap .u32 p2.Imm_)))
  let E103 : EN := (128, .one .top (.loc 3 0))
  let E104 : EN := (129, .one .top (.loc 3 (0 + Int.toNat p2.A_)))
  let E107 : EN := (133, .agg (m0_ref03_Mem p1))
  let E109 : EN := (135, .one .top (.int .u32 (IntKind.wrap .u32 p2.Imm_)))
  let E113 : EN := (142, .agg (m1_ref04_Cpu p0))
  let E115 : EN := (145, .agg (m0_ref03_Mem p1))
  let E118 : EN := (146, .one .top (.loc 5 1))
  let E119 : EN := (147, .one .top (.int .i64 p2.A_))
  let E121 : EN := (149, .one .top (.loc 3 0))
  let E122 : EN := (150, .one .top (.loc 3 (0 + Int.toNat p2.A_)))
  let E123 : EN := (18, .one .top (.loc 18 0))
  let E126 : EN := (154, .agg (m0_ref03_Mem p1))
  let E128 : EN := (156, .one .top (.int .u32 (IntKind.wrap .u32 p2.Imm_)))
  let E133 : EN := (164, .agg (m1_ref04_Cpu p0))
  let E135 : EN := (167, .agg (m0_ref03_Mem p1))
  let E137 : EN := (12, .one .top (.int .u32 (IntKind.wrap .u32 ((IntKind.wrap .u32 (p0.PC_ + 4)) + (IntKind.wrap .u32 (4 * (IntKind.wrap .u32 p2.Imm_)))))))
  let B138 : EB := (3, (arM .u32 14 p0.R_ ++ [(.top, .int .u32 (IntKind.wrap .u32 (p0.PC_ + 4))), (.top, .int .u32 (p0.R_.g 15)), (.top, .int .u32 p0.PC_), (.top, .int .u32 p0.EPC_), (.top, .int .u32 p0.Cause_), (.top, .int .i64 p0.State_), (.top, .int .i64 p0.Why_), (.top, .int .i64 p0.Steps_), (.top, .int .i64 p0.Taken_), ((.own 0), .sl 2 (List.map e_api_Event p0.Out_)), (.top, .int .u32 p0.Entry_), (.top, .int .u32 p0.Vector_), (.top, .int .u32 p0.Guard_), (.top, .int .u32 p0.Limit_), ((.own 0), .sl 1 (List.map (eI .i32) p0.Input_))]))
  let E140 : EN := (78, .agg (m1_ref04_Cpu p0))
  let E141 : EN := (79, .agg (m0_ref02_Instr p2))
  let E143 : EN := (82, .agg (m0_ref03_Mem p1))
  let S145 : St := ⟨[E1, E2, E3, E4, E5, E13, E14, E15], [B6, B7, B8, B9, B10], H⟩
  let S146 : St := ⟨[E1, E2, E3, E4, E5, E13, E14, E15, E16], [B6, B7, B8, B9, B10], H⟩
  let S153 : St := ⟨[E1, E2, E4, E5], [B6, B7, B9, B10], H⟩
  let S154 : St := ⟨[E1, E2, E4, E5, E45, E46], [B6, B7, B9, B10], H⟩
  let S158 : St := ⟨[E1, E2, E3, E4, E5, E23, E25], [B6, B7, B8, B9, B10], H⟩
  let S159 : St := ⟨[E1, E2, E3, E4, E5, E23, E25, E69, E70, E71, E72], [B6, B7, B8, B9, B10], H⟩
  let S160 : St := ⟨[E1, E2, E3, E4, E5, E23, E25, E69, E70, E71, E72, E73], [B6, B7, B8, B9, B10], H⟩
  let S161 : St := ⟨[E1, E2, E3, E4, E5, E23, E25, E75, E76, E77, E78, E79], [B6, B7, B8, B9, B10], H⟩
  let S162 : St := ⟨[E1, E2, E3, E4, E5, E23, E25, E75, E76, E77, E78, E79, E80], [B6, B7, B8, B9, B10], H⟩
  let S178 : St := ⟨[E1, E2, E4, E5, E26], [B6, B7, B9, B10], H⟩
  let S179 : St := ⟨[E1, E2, E4, E5, E137], [B6, B7, B9, B10], H⟩
  let S180 : St := ⟨[E1, E2, E4, E5, E25], [B6, B7, B9, B10], H⟩
  refine yf Try.func98 true ⟨[(0, .agg (m1_ref04_Cpu p0)), (1, .agg (m0_ref03_Mem p1)), (2, .agg (m0_ref02_Instr p2))], [], H⟩ ?_
  unfold ref04_do at hF
  refine ysg ⟨[E1, E2, E3, E4, E5], [B6, B7, B8, B9, B10], H⟩ ?_
  refine w_seq ?_
  obtain ⟨v1, h2, hF⟩ := bind1_inv hF
  let E11 : EN := (8, .one .top (.int .u32 v1))
  let E17 : EN := (24, .one .top (.int .u32 v1))
  let E130 : EN := (158, .one .top (.int .u32 v1))
  let E142 : EN := (80, .one .top (.int .u32 v1))
  let S147 : St := ⟨[E1, E2, E3, E4, E5, E13, E14, E15, E16, E17, E18, E19, E20], [B6, B7, B8, B9, B10], H⟩
  let S148 : St := ⟨[E1, E2, E3, E4, E5, E13, E14, E15, E16, E17, E18, E19, E20, E21], [B6, B7, B8, B9, B10], H⟩
  let S176 : St := ⟨[E1, E2, E3, E4, E5, E11, E24, E25, E26, E58], [B6, B7, B8, B9, B10], H⟩
  let S177 : St := ⟨[E1, E2, E4, E5, E11, E25, E26], [B6, B7, B9, B10], H⟩
  let S181 : St := ⟨[E1, E2, E3, E4, E5, E11, E24, E26, E58], [B6, B7, B8, B9, B10], H⟩
  let S182 : St := ⟨[E1, E2, E3, E4, E5, E11, E140, E141, E142, E143], [B6, B7, B8, B9, B10], H⟩
  obtain ⟨v3, h4, hF⟩ := bind1_inv hF
  let E12 : EN := (9, .one .top (.int .u32 v3))
  let E22 : EN := (29, .one .top (.int .u32 v3))
  let E33 : EN := (53, .one .top (.int .u32 v3))
  let E84 : EN := (107, .one .top (.int .u32 v3))
  let E86 : EN := (109, .one .top (.int .u32 (bitsOf .or .u32 v3 (IntKind.wrap .u32 p2.Imm_))))
  let E92 : EN := (116, .one .top (.int .u32 v3))
  let E94 : EN := (118, .one .top (.int .u32 (IntKind.wrap .u32 (v3 + (IntKind.wrap .u32 p2.Imm_)))))
  let E100 : EN := (125, .one .top (.int .u32 v3))
  let E102 : EN := (127, .one .top (.int .u32 (bitsOf .xor .u32 v3 (IntKind.wrap .u32 p2.Imm_))))
  let E108 : EN := (134, .one .top (.int .u32 v3))
  let E110 : EN := (136, .one .top (.int .u32 (IntKind.wrap .u32 (v3 + (IntKind.wrap .u32 p2.Imm_)))))
  let E127 : EN := (155, .one .top (.int .u32 v3))
  let E129 : EN := (157, .one .top (.int .u32 (IntKind.wrap .u32 (v3 + (IntKind.wrap .u32 p2.Imm_)))))
  let S149 : St := ⟨[E1, E2, E3, E4, E5, E11, E12, E23, E24, E25, E26], [B6, B7, B8, B9, B10], H⟩
  let S150 : St := ⟨[E1, E2, E3, E4, E5, E12, E25, E31, E32, E33, E34, E35, E36], [B6, B7, B8, B9, B10], H⟩
  let S151 : St := ⟨[E1, E2, E3, E4, E5, E12, E25, E31, E32, E33, E34, E35, E36, E37], [B6, B7, B8, B9, B10], H⟩
  let S157 : St := ⟨[E1, E2, E3, E4, E5, E11, E12, E23, E24, E25, E26, E58], [B6, B7, B8, B9, B10], H⟩
  let S163 : St := ⟨[E1, E2, E3, E4, E5, E12, E23, E25], [B6, B7, B8, B9, B10], H⟩
  let S164 : St := ⟨[E1, E2, E3, E4, E5, E12, E23, E25, E82, E83, E84, E85, E86, E87], [B6, B7, B8, B9, B10], H⟩
  let S165 : St := ⟨[E1, E2, E3, E4, E5, E12, E23, E25, E82, E83, E84, E85, E86, E87, E88], [B6, B7, B8, B9, B10], H⟩
  let S166 : St := ⟨[E1, E2, E3, E4, E5, E12, E23, E25, E90, E91, E92, E93, E94, E95], [B6, B7, B8, B9, B10], H⟩
  let S167 : St := ⟨[E1, E2, E3, E4, E5, E12, E23, E25, E90, E91, E92, E93, E94, E95, E96], [B6, B7, B8, B9, B10], H⟩
  let S168 : St := ⟨[E1, E2, E3, E4, E5, E12, E23, E25, E98, E99, E100, E101, E102, E103], [B6, B7, B8, B9, B10], H⟩
  let S169 : St := ⟨[E1, E2, E3, E4, E5, E12, E23, E25, E98, E99, E100, E101, E102, E103, E104], [B6, B7, B8, B9, B10], H⟩
  let S170 : St := ⟨[E1, E2, E3, E4, E5, E12, E23, E25, E107, E108, E109, E110], [B6, B7, B8, B9, B10], H⟩
  let S174 : St := ⟨[E1, E2, E4, E5, E11, E12, E23, E25, E126, E127, E128, E129, E130], [B6, B7, B9, B10], H⟩
  refine w_regD (.take 0 (.take 1 (.take 2 (.take 3 (.take 4 (.take 5 (.take 6 (.take 7 (.take 8 (.take 9 (.take 10 (.take 11 .done)))))))))))) (by kernel_rfl) (⟨[E1, E2, E3, E4, E5, E11, E12], [B6, B7, B8, B9, B10], H⟩ : St) ?_ ?_
  refine ydt ⟨[E1, E2, E3, E4, E5, E13], [B6, B7, B8, B9, B10], H⟩ ?_
  refine ydt ⟨[E1, E2, E3, E4, E5, E13, E14], [B6, B7, B8, B9, B10], H⟩ ?_
  refine ydt S145 ?_
  refine d_take S146 (st_ixL (X := X) S145 46 35 16 h2 3 0 (some 23) (by kernel_rfl) (by kernel_rfl) (by kernel_rfl) (by kernel_rfl)) ?_
  refine d_take ⟨[E1, E2, E3, E4, E5, E13, E14, E15, E16, E17], [B6, B7, B8, B9, B10], H⟩ (st_ldL (X := X) S146 35 16 h2 3 0 (arM .u32 16 p0.R_ ++ [(.top, .int .u32 p0.PC_), (.top, .int .u32 p0.EPC_), (.top, .int .u32 p0.Cause_), (.top, .int .i64 p0.State_), (.top, .int .i64 p0.Why_), (.top, .int .i64 p0.Steps_), (.top, .int .i64 p0.Taken_), ((.own 0), .sl 2 (List.map e_api_Event p0.Out_)), (.top, .int .u32 p0.Entry_), (.top, .int .u32 p0.Vector_), (.top, .int .u32 p0.Guard_), (.top, .int .u32 p0.Limit_), ((.own 0), .sl 1 (List.map (eI .i32) p0.Input_))]) (fun q => .int .u32 q) (some 24) (by kernel_rfl) (by kernel_rfl) (by kernel_rfl) (by kernel_rfl) (by kernel_rfl) (by kernel_rfl)) ?_
  refine ydt ⟨[E1, E2, E3, E4, E5, E13, E14, E15, E16, E17, E18], [B6, B7, B8, B9, B10], H⟩ ?_
  refine ydt ⟨[E1, E2, E3, E4, E5, E13, E14, E15, E16, E17, E18, E19], [B6, B7, B8, B9, B10], H⟩ ?_
  refine ydt S147 ?_
  refine d_take S148 (st_ixL (X := X) S147 46 35 16 h4 3 0 (some 28) (by kernel_rfl) (by kernel_rfl) (by kernel_rfl) (by kernel_rfl)) ?_
  refine d_take ⟨[E1, E2, E3, E4, E5, E13, E14, E15, E16, E17, E18, E19, E20, E21, E22], [B6, B7, B8, B9, B10], H⟩ (st_ldL (X := X) S148 35 16 h4 3 0 (arM .u32 16 p0.R_ ++ [(.top, .int .u32 p0.PC_), (.top, .int .u32 p0.EPC_), (.top, .int .u32 p0.Cause_), (.top, .int .i64 p0.State_), (.top, .int .i64 p0.Why_), (.top, .int .i64 p0.Steps_), (.top, .int .i64 p0.Taken_), ((.own 0), .sl 2 (List.map e_api_Event p0.Out_)), (.top, .int .u32 p0.Entry_), (.top, .int .u32 p0.Vector_), (.top, .int .u32 p0.Guard_), (.top, .int .u32 p0.Limit_), ((.own 0), .sl 1 (List.map (eI .i32) p0.Input_))]) (fun q => .int .u32 q) (some 29) (by kernel_rfl) (by kernel_rfl) (by kernel_rfl) (by kernel_rfl) (by kernel_rfl) (by kernel_rfl)) ?_
  refine ydt ⟨[E1, E2, E3, E4, E5, E11, E13, E14, E15, E16, E17, E18, E19, E20, E21, E22], [B6, B7, B8, B9, B10], H⟩ ?_
  refine ydt ⟨[E1, E2, E3, E4, E5, E11, E12, E13, E14, E15, E16, E17, E18, E19, E20, E21, E22], [B6, B7, B8, B9, B10], H⟩ ?_
  exact yde
  refine ysg ⟨[E1, E2, E3, E4, E5, E11, E12, E23], [B6, B7, B8, B9, B10], H⟩ ?_
  refine ysg ⟨[E1, E2, E3, E4, E5, E11, E12, E23, E24], [B6, B7, B8, B9, B10], H⟩ ?_
  refine ysg ⟨[E1, E2, E3, E4, E5, E11, E12, E23, E24, E25], [B6, B7, B8, B9, B10], H⟩ ?_
  refine ysg S149 ?_
  refine w_seq ?_
  refine yso ⟨[E1, E2, E3, E4, E5, E11, E12, E23, E24, E25, E26, (49, .one .top (.bool ((decide (p2.Op_ ≥ 6)) && (decide (p2.Op_ ≤ 17)))))], [B6, B7, B8, B9, B10], H⟩ ?_ ?_
  refine yr 4 ⟨[E1, E2, E3, E4, E5, E11, E12, E23, E24, E25, E26, E27, E28, (44, .one .top (.bool (decide (p2.Op_ ≥ 6)))), (45, .one .top (.bool (decide (p2.Op_ ≥ 6))))], [B6, B7, B8, B9, B10], H⟩ ?_
  rcases bool_cases (decide (p2.Op_ ≥ 6)) with h5 | h5
  refine o_eq (congrArg (fun q => (⟨[E1, E2, E3, E4, E5, E11, E12, E23, E24, E25, E26, E27, E28, (44, .one .top (.bool q)), (45, .one .top (.bool q))], [B6, B7, B8, B9, B10], H⟩ : St)) h5) ?_
  refine yr 4 ⟨[E1, E2, E3, E4, E5, E11, E12, E23, E24, E25, E26, E27, E28, (44, .one .top (.bool true)), (45, .one .top (.bool true)), (46, .one .top (.loc 5 0)), (47, .one .top (.int .i64 p2.Op_)), (48, .one .top (.bool (decide (p2.Op_ ≤ 17)))), (49, .one .top (.bool (decide (p2.Op_ ≤ 17))))], [B6, B7, B8, B9, B10], H⟩ ?_
  refine o_eq2 (congrArg (fun q0 => (⟨[E1, E2, E3, E4, E5, E11, E12, E23, E24, E25, E26, (49, .one .top (.bool q0))], [B6, B7, B8, B9, B10], H⟩ : St)) (show (decide (p2.Op_ ≤ 17)) = ((decide (p2.Op_ ≥ 6)) && (decide (p2.Op_ ≤ 17))) by simp [h5])) ?_
  exact ye
  refine o_eq (congrArg (fun q => (⟨[E1, E2, E3, E4, E5, E11, E12, E23, E24, E25, E26, E27, E28, (44, .one .top (.bool q)), (45, .one .top (.bool q))], [B6, B7, B8, B9, B10], H⟩ : St)) h5) ?_
  refine yr 4 ⟨[E1, E2, E3, E4, E5, E11, E12, E23, E24, E25, E26, E27, E28, (44, .one .top (.bool false)), (45, .one .top (.bool false)), (46, .tup []), (47, .tup []), (48, .tup []), (49, .one .top (.bool false))], [B6, B7, B8, B9, B10], H⟩ ?_
  refine o_eq2 (congrArg (fun q0 => (⟨[E1, E2, E3, E4, E5, E11, E12, E23, E24, E25, E26, (49, .one .top (.bool q0))], [B6, B7, B8, B9, B10], H⟩ : St)) (show false = ((decide (p2.Op_ ≥ 6)) && (decide (p2.Op_ ≤ 17))) by simp [h5])) ?_
  exact ye
  rcases if_inv hF with ⟨h6, hF⟩ | ⟨h6, hF⟩
  refine yT h6 ⟨[E1, E2, E3, E4, E5, E12, E25], [B6, B7, B8, B9, B10], H⟩ ?_
  refine w_seq ?_
  obtain ⟨v7, h8, hF⟩ := bind1_inv hF
  let E38 : EN := (58, .one .top (.int .u32 v7))
  let S152 : St := ⟨[E1, E2, E3, E4, E5, E12, E25, E31, E32, E33, E34, E35, E36, E37, E38], [B6, B7, B8, B9, B10], H⟩
  obtain ⟨r9, r10, c11, hF⟩ := bind2_inv hF
  let E29 : EN := (14, .one .top (.int .u32 r9))
  let E30 : EN := (15, .one .top (.bool r10))
  let E39 : EN := (59, .tup [.one .top (.int .u32 r9), .one .top (.bool r10)])
  let E40 : EN := (50, .tup [.one .top (.int .u32 r9), .one .top (.bool r10)])
  let E41 : EN := (60, .one .top (.int .u32 r9))
  let E42 : EN := (61, .one .top (.bool r10))
  let E51 : EN := (69, .one .top (.int .u32 r9))
  let S155 : St := ⟨[E1, E2, E3, E4, E5, E25, E29, E49, E50, E51, E52], [B6, B7, B8, B9, B10], H⟩
  let S156 : St := ⟨[E1, E2, E3, E4, E5, E25, E29, E49, E50, E51, E52, E53], [B6, B7, B8, B9, B10], H⟩
  refine w_regD (.take 0 (.take 1 (.take 2 (.take 3 (.take 4 (.take 5 (.take 6 (.last 7 (.last 8 (.take 9 (.take 10 (.take 11 (.take 12 (.take 13 .done)))))))))))))) (by kernel_rfl) (⟨[E1, E2, E3, E4, E5, E25, E29, E30], [B6, B7, B8, B9, B10], H⟩ : St) ?_ ?_
  refine ydt ⟨[E1, E2, E3, E4, E5, E12, E25, E31], [B6, B7, B8, B9, B10], H⟩ ?_
  refine ydt ⟨[E1, E2, E3, E4, E5, E12, E25, E31, E32], [B6, B7, B8, B9, B10], H⟩ ?_
  refine ydt ⟨[E1, E2, E3, E4, E5, E12, E25, E31, E32, E33], [B6, B7, B8, B9, B10], H⟩ ?_
  refine ydt ⟨[E1, E2, E3, E4, E5, E12, E25, E31, E32, E33, E34], [B6, B7, B8, B9, B10], H⟩ ?_
  refine ydt ⟨[E1, E2, E3, E4, E5, E12, E25, E31, E32, E33, E34, E35], [B6, B7, B8, B9, B10], H⟩ ?_
  refine ydt S150 ?_
  refine d_take S151 (st_ixL (X := X) S150 46 35 16 h8 3 0 (some 57) (by kernel_rfl) (by kernel_rfl) (by kernel_rfl) (by kernel_rfl)) ?_
  refine d_last S152 (st_ldL (X := X) S151 35 16 h8 3 0 (arM .u32 16 p0.R_ ++ [(.top, .int .u32 p0.PC_), (.top, .int .u32 p0.EPC_), (.top, .int .u32 p0.Cause_), (.top, .int .i64 p0.State_), (.top, .int .i64 p0.Why_), (.top, .int .i64 p0.Steps_), (.top, .int .i64 p0.Taken_), ((.own 0), .sl 2 (List.map e_api_Event p0.Out_)), (.top, .int .u32 p0.Entry_), (.top, .int .u32 p0.Vector_), (.top, .int .u32 p0.Guard_), (.top, .int .u32 p0.Limit_), ((.own 0), .sl 1 (List.map (eI .i32) p0.Input_))]) (fun q => .int .u32 q) (some 58) (by kernel_rfl) (by kernel_rfl) (by kernel_rfl) (by kernel_rfl) (by kernel_rfl) (by kernel_rfl)) ?_
  refine d_last ⟨[E1, E2, E3, E4, E5, E12, E25, E31, E32, E33, E34, E35, E36, E37, E38, E39], [B6, B7, B8, B9, B10], H⟩ (yc (some 59) true false S152 (ok_ref04_reckon H c11)) ?_
  refine ydt ⟨[E1, E2, E3, E4, E5, E12, E25, E40, E31, E32, E33, E34, E35, E36, E37, E38, E39], [B6, B7, B8, B9, B10], H⟩ ?_
  refine ydt ⟨[E1, E2, E3, E4, E5, E12, E25, E40, E31, E32, E33, E34, E35, E36, E37, E38, E39, E41], [B6, B7, B8, B9, B10], H⟩ ?_
  refine ydt ⟨[E1, E2, E3, E4, E5, E12, E25, E40, E31, E32, E33, E34, E35, E36, E37, E38, E39, E41, E42], [B6, B7, B8, B9, B10], H⟩ ?_
  refine ydt ⟨[E1, E2, E3, E4, E5, E12, E25, E29, E40, E31, E32, E33, E34, E35, E36, E37, E38, E39, E41, E42], [B6, B7, B8, B9, B10], H⟩ ?_
  refine ydt ⟨[E1, E2, E3, E4, E5, E12, E25, E29, E30, E40, E31, E32, E33, E34, E35, E36, E37, E38, E39, E41, E42], [B6, B7, B8, B9, B10], H⟩ ?_
  exact yde
  refine w_seq ?_
  refine ysg ⟨[E1, E2, E3, E4, E5, E25, E29, (63, .one .top (.bool (!r10)))], [B6, B7, B8, B9, B10], H⟩ ?_
  rcases if_inv hF with ⟨h12, hF⟩ | ⟨h12, hF⟩
  refine yT h12 S153 ?_
  refine w_seq ?_
  obtain ⟨r13, c14, hF⟩ := bind1_inv hF
  let B43 : EB := (6, (m1_ref04_Cpu r13))
  let E47 : EN := (65, .agg (m1_ref04_Cpu r13))
  refine w_regD (.take 0 (.take 2 (.last 1 (.last 3 (.last 4 .done))))) (by kernel_rfl) (⟨[E4, E5], [B43, B44], H⟩ : St) ?_ ?_
  refine ydt ⟨[E1, E2, E4, E5, E45], [B6, B7, B9, B10], H⟩ ?_
  refine ydt S154 ?_
  refine d_last ⟨[E1, E2, E4, E5, E45, E47, E46], [B6, B7, B9, B10], H⟩ (yc (some 65) true false S154 (ok_ref04_trap H c14)) ?_
  refine ydl ⟨[E1, E2, E4, E5, E45, E47, E46], [B6, B7, B43, B10], H⟩ ?_
  refine ydl ⟨[E1, E2, E4, E5, E45, E47, E46], [B6, B7, B43, B44], H⟩ ?_
  exact yde
  refine w_ret ?_
  obtain ⟨e0, e1⟩ := some2_inv hF
  subst e0
  subst e1
  exact yp (.tup [.agg (m1_ref04_Cpu r13), .agg (m0_ref03_Mem p1)])
  refine yF h12 ⟨[E1, E2, E3, E4, E5, E25, E29], [B6, B7, B8, B9, B10], H⟩ ?_
  refine w_skip ?_
  refine w_seq ?_
  obtain ⟨v15, h16, hF⟩ := bind1_inv hF
  obtain ⟨v17, h18, hF⟩ := bind1_inv hF
  let B48 : EB := (3, (arM .u32 16 v17 ++ [(.top, .int .u32 p0.PC_), (.top, .int .u32 p0.EPC_), (.top, .int .u32 p0.Cause_), (.top, .int .i64 p0.State_), (.top, .int .i64 p0.Why_), (.top, .int .i64 p0.Steps_), (.top, .int .i64 p0.Taken_), ((.own 0), .sl 2 (List.map e_api_Event p0.Out_)), (.top, .int .u32 p0.Entry_), (.top, .int .u32 p0.Vector_), (.top, .int .u32 p0.Guard_), (.top, .int .u32 p0.Limit_), ((.own 0), .sl 1 (List.map (eI .i32) p0.Input_))]))
  let B54 : EB := (3, (arM .u32 16 v17 ++ [(.top, .int .u32 (IntKind.wrap .u32 (p0.PC_ + 4))), (.top, .int .u32 p0.EPC_), (.top, .int .u32 p0.Cause_), (.top, .int .i64 p0.State_), (.top, .int .i64 p0.Why_), (.top, .int .i64 p0.Steps_), (.top, .int .i64 p0.Taken_), ((.own 0), .sl 2 (List.map e_api_Event p0.Out_)), (.top, .int .u32 p0.Entry_), (.top, .int .u32 p0.Vector_), (.top, .int .u32 p0.Guard_), (.top, .int .u32 p0.Limit_), ((.own 0), .sl 1 (List.map (eI .i32) p0.Input_))]))
  let B55 : EB := (6, (arM .u32 16 v17 ++ [(.top, .int .u32 (IntKind.wrap .u32 (p0.PC_ + 4))), (.top, .int .u32 p0.EPC_), (.top, .int .u32 p0.Cause_), (.top, .int .i64 p0.State_), (.top, .int .i64 p0.Why_), (.top, .int .i64 p0.Steps_), (.top, .int .i64 p0.Taken_), ((.own 0), .sl 2 (List.map e_api_Event p0.Out_)), (.top, .int .u32 p0.Entry_), (.top, .int .u32 p0.Vector_), (.top, .int .u32 p0.Guard_), (.top, .int .u32 p0.Limit_), ((.own 0), .sl 1 (List.map (eI .i32) p0.Input_))]))
  let E56 : EN := (74, .agg (arM .u32 16 v17 ++ [(.top, .int .u32 (IntKind.wrap .u32 (p0.PC_ + 4))), (.top, .int .u32 p0.EPC_), (.top, .int .u32 p0.Cause_), (.top, .int .i64 p0.State_), (.top, .int .i64 p0.Why_), (.top, .int .i64 p0.Steps_), (.top, .int .i64 p0.Taken_), ((.own 0), .sl 2 (List.map e_api_Event p0.Out_)), (.top, .int .u32 p0.Entry_), (.top, .int .u32 p0.Vector_), (.top, .int .u32 p0.Guard_), (.top, .int .u32 p0.Limit_), ((.own 0), .sl 1 (List.map (eI .i32) p0.Input_))]))
  refine w_regO ⟨[E1, E2, E4, E5, E25], [B48, B7, B9, B10], H⟩ ?_ ?_
  refine yr 4 S155 ?_
  refine o_one S156 (st_ixL (X := X) S155 46 35 16 h16 3 0 (some 71) (by kernel_rfl) (by kernel_rfl) (by kernel_rfl) (by kernel_rfl)) ?_
  refine o_one ⟨[E1, E2, E3, E4, E5, E25, E29, E49, E50, E51, E52, E53], [B48, B7, B8, B9, B10], H⟩ (st_stL (X := X) S156 35 16 h18 3 0 (arM .u32 16 p0.R_ ++ [(.top, .int .u32 p0.PC_), (.top, .int .u32 p0.EPC_), (.top, .int .u32 p0.Cause_), (.top, .int .i64 p0.State_), (.top, .int .i64 p0.Why_), (.top, .int .i64 p0.Steps_), (.top, .int .i64 p0.Taken_), ((.own 0), .sl 2 (List.map e_api_Event p0.Out_)), (.top, .int .u32 p0.Entry_), (.top, .int .u32 p0.Vector_), (.top, .int .u32 p0.Guard_), (.top, .int .u32 p0.Limit_), ((.own 0), .sl 1 (List.map (eI .i32) p0.Input_))]) (fun q => .int .u32 q) ⟨true, []⟩ (by kernel_rfl) (by kernel_rfl) (by kernel_rfl) (by kernel_rfl) (by kernel_rfl) (fun _ => rfl) (by kernel_rfl)) ?_
  exact ye
  refine ysg ⟨[E1, E2, E4, E5], [B54, B7, B9, B10], H⟩ ?_
  refine w_seq ?_
  refine w_regD (.take 0 (.take 1 (.last 2 (.last 3 .done)))) (by kernel_rfl) (⟨[E4, E5], [B55, B44], H⟩ : St) ?_ ?_
  refine ydt ⟨[E1, E2, E4, E5, E56], [B54, B7, B9, B10], H⟩ ?_
  refine ydt ⟨[E1, E2, E4, E5, E56, E57], [B54, B7, B9, B10], H⟩ ?_
  refine ydl ⟨[E1, E2, E4, E5, E56, E57], [B54, B7, B55, B10], H⟩ ?_
  refine ydl ⟨[E1, E2, E4, E5, E56, E57], [B54, B7, B55, B44], H⟩ ?_
  exact yde
  refine w_ret ?_
  obtain ⟨e0, e1⟩ := some2_inv hF
  subst e0
  subst e1
  exact yp (.tup [.agg (arM .u32 16 v17 ++ [(.top, .int .u32 (IntKind.wrap .u32 (p0.PC_ + 4))), (.top, .int .u32 p0.EPC_), (.top, .int .u32 p0.Cause_), (.top, .int .i64 p0.State_), (.top, .int .i64 p0.Why_), (.top, .int .i64 p0.Steps_), (.top, .int .i64 p0.Taken_), ((.own 0), .sl 2 (List.map e_api_Event p0.Out_)), (.top, .int .u32 p0.Entry_), (.top, .int .u32 p0.Vector_), (.top, .int .u32 p0.Guard_), (.top, .int .u32 p0.Limit_), ((.own 0), .sl 1 (List.map (eI .i32) p0.Input_))]), .agg (m0_ref03_Mem p1)])
  refine yF h6 S149 ?_
  refine w_skip ?_
  refine w_seq ?_
  refine ysg S157 ?_
  refine w_block ?_
  refine ysg ⟨[E1, E2, E3, E4, E5, E11, E12, E23, E24, E25, E26, E58, (83, .one .top (.bool (p2.Op_ == 1)))], [B6, B7, B8, B9, B10], H⟩ ?_
  rcases if_inv hF with ⟨h19, hF⟩ | ⟨h19, hF⟩
  refine yT h19 S153 ?_
  refine ysg ⟨[E1, E2, E4, E5], [B59, B7, B9, B10], H⟩ ?_
  refine w_seq ?_
  refine w_regD (.take 0 (.take 1 (.last 2 (.last 3 .done)))) (by kernel_rfl) (⟨[E4, E5], [B60, B44], H⟩ : St) ?_ ?_
  refine ydt ⟨[E1, E2, E4, E5, E61], [B59, B7, B9, B10], H⟩ ?_
  refine ydt ⟨[E1, E2, E4, E5, E61, E62], [B59, B7, B9, B10], H⟩ ?_
  refine ydl ⟨[E1, E2, E4, E5, E61, E62], [B59, B7, B60, B10], H⟩ ?_
  refine ydl ⟨[E1, E2, E4, E5, E61, E62], [B59, B7, B60, B44], H⟩ ?_
  exact yde
  refine w_ret ?_
  obtain ⟨e0, e1⟩ := some2_inv hF
  subst e0
  subst e1
  exact yp (.tup [.agg (arM .u32 16 p0.R_ ++ [(.top, .int .u32 p0.PC_), (.top, .int .u32 p0.EPC_), (.top, .int .u32 p0.Cause_), (.top, .int .i64 1), (.top, .int .i64 p0.Why_), (.top, .int .i64 p0.Steps_), (.top, .int .i64 p0.Taken_), ((.own 0), .sl 2 (List.map e_api_Event p0.Out_)), (.top, .int .u32 p0.Entry_), (.top, .int .u32 p0.Vector_), (.top, .int .u32 p0.Guard_), (.top, .int .u32 p0.Limit_), ((.own 0), .sl 1 (List.map (eI .i32) p0.Input_))]), .agg (m0_ref03_Mem p1)])
  refine yF h19 S157 ?_
  refine ysg ⟨[E1, E2, E3, E4, E5, E11, E12, E23, E24, E25, E26, E58, (88, .one .top (.bool (p2.Op_ == 2)))], [B6, B7, B8, B9, B10], H⟩ ?_
  refine w_join (α := (Int × T_ref04_Cpu × T_ref03_Mem)) (fun x => (⟨[E1, E2, E4, E5, (12, .one .top (.int .u32 x.1))], [(3, (m1_ref04_Cpu x.2.1)), (4, (m0_ref03_Mem x.2.2)), B9, B10], H⟩ : St)) (fun x => ref04_do_j1 x.1 x.2.1 x.2.2 = some (ra, rb)) ?_ ?_
  rintro ⟨j20, j21, j22⟩ hF
  replace hF : ref04_do_j1 j20 j21 j22 = some (ra, rb) := hF
  let B63 : EB := (3, (arM .u32 16 j21.R_ ++ [(.top, .int .u32 j20), (.top, .int .u32 j21.EPC_), (.top, .int .u32 j21.Cause_), (.top, .int .i64 j21.State_), (.top, .int .i64 j21.Why_), (.top, .int .i64 j21.Steps_), (.top, .int .i64 j21.Taken_), ((.own 0), .sl 2 (List.map e_api_Event j21.Out_)), (.top, .int .u32 j21.Entry_), (.top, .int .u32 j21.Vector_), (.top, .int .u32 j21.Guard_), (.top, .int .u32 j21.Limit_), ((.own 0), .sl 1 (List.map (eI .i32) j21.Input_))]))
  let B64 : EB := (4, (m0_ref03_Mem j22))
  let B65 : EB := (6, (arM .u32 16 j21.R_ ++ [(.top, .int .u32 j20), (.top, .int .u32 j21.EPC_), (.top, .int .u32 j21.Cause_), (.top, .int .i64 j21.State_), (.top, .int .i64 j21.Why_), (.top, .int .i64 j21.Steps_), (.top, .int .i64 j21.Taken_), ((.own 0), .sl 2 (List.map e_api_Event j21.Out_)), (.top, .int .u32 j21.Entry_), (.top, .int .u32 j21.Vector_), (.top, .int .u32 j21.Guard_), (.top, .int .u32 j21.Limit_), ((.own 0), .sl 1 (List.map (eI .i32) j21.Input_))]))
  let E66 : EN := (191, .agg (arM .u32 16 j21.R_ ++ [(.top, .int .u32 j20), (.top, .int .u32 j21.EPC_), (.top, .int .u32 j21.Cause_), (.top, .int .i64 j21.State_), (.top, .int .i64 j21.Why_), (.top, .int .i64 j21.Steps_), (.top, .int .i64 j21.Taken_), ((.own 0), .sl 2 (List.map e_api_Event j21.Out_)), (.top, .int .u32 j21.Entry_), (.top, .int .u32 j21.Vector_), (.top, .int .u32 j21.Guard_), (.top, .int .u32 j21.Limit_), ((.own 0), .sl 1 (List.map (eI .i32) j21.Input_))]))
  let E67 : EN := (192, .agg (m0_ref03_Mem j22))
  unfold ref04_do_j1 at hF
  refine ysg ⟨[E1, E2, E4, E5], [B63, B64, B9, B10], H⟩ ?_
  refine w_seq ?_
  refine w_regD (.take 0 (.take 1 (.last 2 (.last 3 .done)))) (by kernel_rfl) (⟨[E4, E5], [B65, (7, (m0_ref03_Mem j22))], H⟩ : St) ?_ ?_
  refine ydt ⟨[E1, E2, E4, E5, E66], [B63, B64, B9, B10], H⟩ ?_
  refine ydt ⟨[E1, E2, E4, E5, E66, E67], [B63, B64, B9, B10], H⟩ ?_
  refine ydl ⟨[E1, E2, E4, E5, E66, E67], [B63, B64, B65, B10], H⟩ ?_
  refine ydl ⟨[E1, E2, E4, E5, E66, E67], [B63, B64, B65, (7, (m0_ref03_Mem j22))], H⟩ ?_
  exact yde
  refine w_ret ?_
  obtain ⟨e0, e1⟩ := some2_inv hF
  subst e0
  subst e1
  exact yp (.tup [.agg (arM .u32 16 j21.R_ ++ [(.top, .int .u32 j20), (.top, .int .u32 j21.EPC_), (.top, .int .u32 j21.Cause_), (.top, .int .i64 j21.State_), (.top, .int .i64 j21.Why_), (.top, .int .i64 j21.Steps_), (.top, .int .i64 j21.Taken_), ((.own 0), .sl 2 (List.map e_api_Event j21.Out_)), (.top, .int .u32 j21.Entry_), (.top, .int .u32 j21.Vector_), (.top, .int .u32 j21.Guard_), (.top, .int .u32 j21.Limit_), ((.own 0), .sl 1 (List.map (eI .i32) j21.Input_))]), .agg (m0_ref03_Mem j22)])
  rcases if_inv hF with ⟨h23, hF⟩ | ⟨h23, hF⟩
  refine yT h23 S158 ?_
  obtain ⟨v24, h25, hF⟩ := bind1_inv hF
  obtain ⟨v26, h27, hF⟩ := bind1_inv hF
  let B68 : EB := (3, (arM .u32 16 v26 ++ [(.top, .int .u32 p0.PC_), (.top, .int .u32 p0.EPC_), (.top, .int .u32 p0.Cause_), (.top, .int .i64 p0.State_), (.top, .int .i64 p0.Why_), (.top, .int .i64 p0.Steps_), (.top, .int .i64 p0.Taken_), ((.own 0), .sl 2 (List.map e_api_Event p0.Out_)), (.top, .int .u32 p0.Entry_), (.top, .int .u32 p0.Vector_), (.top, .int .u32 p0.Guard_), (.top, .int .u32 p0.Limit_), ((.own 0), .sl 1 (List.map (eI .i32) p0.Input_))]))
  refine w_regO ⟨[E1, E2, E4, E5, E25], [B68, B7, B9, B10], H⟩ ?_ ?_
  refine yr 4 S159 ?_
  refine o_one S160 (st_ixL (X := X) S159 46 35 16 h25 3 0 (some 94) (by kernel_rfl) (by kernel_rfl) (by kernel_rfl) (by kernel_rfl)) ?_
  refine o_one ⟨[E1, E2, E3, E4, E5, E23, E25, E69, E70, E71, E72, E73], [B68, B7, B8, B9, B10], H⟩ (st_stL (X := X) S160 35 16 h27 3 0 (arM .u32 16 p0.R_ ++ [(.top, .int .u32 p0.PC_), (.top, .int .u32 p0.EPC_), (.top, .int .u32 p0.Cause_), (.top, .int .i64 p0.State_), (.top, .int .i64 p0.Why_), (.top, .int .i64 p0.Steps_), (.top, .int .i64 p0.Taken_), ((.own 0), .sl 2 (List.map e_api_Event p0.Out_)), (.top, .int .u32 p0.Entry_), (.top, .int .u32 p0.Vector_), (.top, .int .u32 p0.Guard_), (.top, .int .u32 p0.Limit_), ((.own 0), .sl 1 (List.map (eI .i32) p0.Input_))]) (fun q => .int .u32 q) ⟨true, []⟩ (by kernel_rfl) (by kernel_rfl) (by kernel_rfl) (by kernel_rfl) (by kernel_rfl) (fun _ => rfl) (by kernel_rfl)) ?_
  exact ye
  exact ⟨((IntKind.wrap .u32 (p0.PC_ + 4)), (T_ref04_Cpu.mk v26 p0.PC_ p0.EPC_ p0.Cause_ p0.State_ p0.Why_ p0.Steps_ p0.Taken_ p0.Out_ p0.Entry_ p0.Vector_ p0.Guard_ p0.Limit_ p0.Input_), p1), hF, (by kernel_rfl)⟩
  refine yF h23 S157 ?_
  refine ysg ⟨[E1, E2, E3, E4, E5, E11, E12, E23, E24, E25, E26, E58, (95, .one .top (.bool (p2.Op_ == 3)))], [B6, B7, B8, B9, B10], H⟩ ?_
  refine w_join (α := (Int × T_ref04_Cpu × T_ref03_Mem)) (fun x => (⟨[E1, E2, E4, E5, (12, .one .top (.int .u32 x.1))], [(3, (m1_ref04_Cpu x.2.1)), (4, (m0_ref03_Mem x.2.2)), B9, B10], H⟩ : St)) (fun x => ref04_do_j2 x.1 x.2.1 x.2.2 = some (ra, rb)) ?_ ?_
  rintro ⟨j28, j29, j30⟩ hF
  replace hF : ref04_do_j2 j28 j29 j30 = some (ra, rb) := hF
  unfold ref04_do_j2 at hF
  exact ⟨(j28, j29, j30), hF, (by kernel_rfl)⟩
  rcases if_inv hF with ⟨h31, hF⟩ | ⟨h31, hF⟩
  refine yT h31 S158 ?_
  obtain ⟨v32, h33, hF⟩ := bind1_inv hF
  obtain ⟨v34, h35, hF⟩ := bind1_inv hF
  let B74 : EB := (3, (arM .u32 16 v34 ++ [(.top, .int .u32 p0.PC_), (.top, .int .u32 p0.EPC_), (.top, .int .u32 p0.Cause_), (.top, .int .i64 p0.State_), (.top, .int .i64 p0.Why_), (.top, .int .i64 p0.Steps_), (.top, .int .i64 p0.Taken_), ((.own 0), .sl 2 (List.map e_api_Event p0.Out_)), (.top, .int .u32 p0.Entry_), (.top, .int .u32 p0.Vector_), (.top, .int .u32 p0.Guard_), (.top, .int .u32 p0.Limit_), ((.own 0), .sl 1 (List.map (eI .i32) p0.Input_))]))
  refine w_regO ⟨[E1, E2, E4, E5, E25], [B74, B7, B9, B10], H⟩ ?_ ?_
  refine yr 5 S161 ?_
  refine o_one S162 (st_ixL (X := X) S161 46 35 16 h33 3 0 (some 102) (by kernel_rfl) (by kernel_rfl) (by kernel_rfl) (by kernel_rfl)) ?_
  refine o_one ⟨[E1, E2, E3, E4, E5, E23, E25, E75, E76, E77, E78, E79, E80], [B74, B7, B8, B9, B10], H⟩ (st_stL (X := X) S162 35 16 h35 3 0 (arM .u32 16 p0.R_ ++ [(.top, .int .u32 p0.PC_), (.top, .int .u32 p0.EPC_), (.top, .int .u32 p0.Cause_), (.top, .int .i64 p0.State_), (.top, .int .i64 p0.Why_), (.top, .int .i64 p0.Steps_), (.top, .int .i64 p0.Taken_), ((.own 0), .sl 2 (List.map e_api_Event p0.Out_)), (.top, .int .u32 p0.Entry_), (.top, .int .u32 p0.Vector_), (.top, .int .u32 p0.Guard_), (.top, .int .u32 p0.Limit_), ((.own 0), .sl 1 (List.map (eI .i32) p0.Input_))]) (fun q => .int .u32 q) ⟨true, []⟩ (by kernel_rfl) (by kernel_rfl) (by kernel_rfl) (by kernel_rfl) (by kernel_rfl) (fun _ => rfl) (by kernel_rfl)) ?_
  exact ye
  exact ⟨((IntKind.wrap .u32 (p0.PC_ + 4)), (T_ref04_Cpu.mk v34 p0.PC_ p0.EPC_ p0.Cause_ p0.State_ p0.Why_ p0.Steps_ p0.Taken_ p0.Out_ p0.Entry_ p0.Vector_ p0.Guard_ p0.Limit_ p0.Input_), p1), hF, (by kernel_rfl)⟩
  refine yF h31 S157 ?_
  refine ysg ⟨[E1, E2, E3, E4, E5, E11, E12, E23, E24, E25, E26, E58, (103, .one .top (.bool (p2.Op_ == 4)))], [B6, B7, B8, B9, B10], H⟩ ?_
  refine w_join (α := (Int × T_ref04_Cpu × T_ref03_Mem)) (fun x => (⟨[E1, E2, E4, E5, (12, .one .top (.int .u32 x.1))], [(3, (m1_ref04_Cpu x.2.1)), (4, (m0_ref03_Mem x.2.2)), B9, B10], H⟩ : St)) (fun x => ref04_do_j3 x.1 x.2.1 x.2.2 = some (ra, rb)) ?_ ?_
  rintro ⟨j36, j37, j38⟩ hF
  replace hF : ref04_do_j3 j36 j37 j38 = some (ra, rb) := hF
  unfold ref04_do_j3 at hF
  exact ⟨(j36, j37, j38), hF, (by kernel_rfl)⟩
  rcases if_inv hF with ⟨h39, hF⟩ | ⟨h39, hF⟩
  refine yT h39 S163 ?_
  obtain ⟨v40, h41, hF⟩ := bind1_inv hF
  obtain ⟨v42, h43, hF⟩ := bind1_inv hF
  let B81 : EB := (3, (arM .u32 16 v42 ++ [(.top, .int .u32 p0.PC_), (.top, .int .u32 p0.EPC_), (.top, .int .u32 p0.Cause_), (.top, .int .i64 p0.State_), (.top, .int .i64 p0.Why_), (.top, .int .i64 p0.Steps_), (.top, .int .i64 p0.Taken_), ((.own 0), .sl 2 (List.map e_api_Event p0.Out_)), (.top, .int .u32 p0.Entry_), (.top, .int .u32 p0.Vector_), (.top, .int .u32 p0.Guard_), (.top, .int .u32 p0.Limit_), ((.own 0), .sl 1 (List.map (eI .i32) p0.Input_))]))
  refine w_regO ⟨[E1, E2, E4, E5, E25], [B81, B7, B9, B10], H⟩ ?_ ?_
  refine yr 6 S164 ?_
  refine o_one S165 (st_ixL (X := X) S164 46 35 16 h41 3 0 (some 111) (by kernel_rfl) (by kernel_rfl) (by kernel_rfl) (by kernel_rfl)) ?_
  refine o_one ⟨[E1, E2, E3, E4, E5, E12, E23, E25, E82, E83, E84, E85, E86, E87, E88], [B81, B7, B8, B9, B10], H⟩ (st_stL (X := X) S165 35 16 h43 3 0 (arM .u32 16 p0.R_ ++ [(.top, .int .u32 p0.PC_), (.top, .int .u32 p0.EPC_), (.top, .int .u32 p0.Cause_), (.top, .int .i64 p0.State_), (.top, .int .i64 p0.Why_), (.top, .int .i64 p0.Steps_), (.top, .int .i64 p0.Taken_), ((.own 0), .sl 2 (List.map e_api_Event p0.Out_)), (.top, .int .u32 p0.Entry_), (.top, .int .u32 p0.Vector_), (.top, .int .u32 p0.Guard_), (.top, .int .u32 p0.Limit_), ((.own 0), .sl 1 (List.map (eI .i32) p0.Input_))]) (fun q => .int .u32 q) ⟨true, []⟩ (by kernel_rfl) (by kernel_rfl) (by kernel_rfl) (by kernel_rfl) (by kernel_rfl) (fun _ => rfl) (by kernel_rfl)) ?_
  exact ye
  exact ⟨((IntKind.wrap .u32 (p0.PC_ + 4)), (T_ref04_Cpu.mk v42 p0.PC_ p0.EPC_ p0.Cause_ p0.State_ p0.Why_ p0.Steps_ p0.Taken_ p0.Out_ p0.Entry_ p0.Vector_ p0.Guard_ p0.Limit_ p0.Input_), p1), hF, (by kernel_rfl)⟩
  refine yF h39 S157 ?_
  refine ysg ⟨[E1, E2, E3, E4, E5, E11, E12, E23, E24, E25, E26, E58, (112, .one .top (.bool (p2.Op_ == 5)))], [B6, B7, B8, B9, B10], H⟩ ?_
  refine w_join (α := (Int × T_ref04_Cpu × T_ref03_Mem)) (fun x => (⟨[E1, E2, E4, E5, (12, .one .top (.int .u32 x.1))], [(3, (m1_ref04_Cpu x.2.1)), (4, (m0_ref03_Mem x.2.2)), B9, B10], H⟩ : St)) (fun x => ref04_do_j4 x.1 x.2.1 x.2.2 = some (ra, rb)) ?_ ?_
  rintro ⟨j44, j45, j46⟩ hF
  replace hF : ref04_do_j4 j44 j45 j46 = some (ra, rb) := hF
  unfold ref04_do_j4 at hF
  exact ⟨(j44, j45, j46), hF, (by kernel_rfl)⟩
  rcases if_inv hF with ⟨h47, hF⟩ | ⟨h47, hF⟩
  refine yT h47 S163 ?_
  obtain ⟨v48, h49, hF⟩ := bind1_inv hF
  obtain ⟨v50, h51, hF⟩ := bind1_inv hF
  let B89 : EB := (3, (arM .u32 16 v50 ++ [(.top, .int .u32 p0.PC_), (.top, .int .u32 p0.EPC_), (.top, .int .u32 p0.Cause_), (.top, .int .i64 p0.State_), (.top, .int .i64 p0.Why_), (.top, .int .i64 p0.Steps_), (.top, .int .i64 p0.Taken_), ((.own 0), .sl 2 (List.map e_api_Event p0.Out_)), (.top, .int .u32 p0.Entry_), (.top, .int .u32 p0.Vector_), (.top, .int .u32 p0.Guard_), (.top, .int .u32 p0.Limit_), ((.own 0), .sl 1 (List.map (eI .i32) p0.Input_))]))
  refine w_regO ⟨[E1, E2, E4, E5, E25], [B89, B7, B9, B10], H⟩ ?_ ?_
  refine yr 6 S166 ?_
  refine o_one S167 (st_ixL (X := X) S166 46 35 16 h49 3 0 (some 120) (by kernel_rfl) (by kernel_rfl) (by kernel_rfl) (by kernel_rfl)) ?_
  refine o_one ⟨[E1, E2, E3, E4, E5, E12, E23, E25, E90, E91, E92, E93, E94, E95, E96], [B89, B7, B8, B9, B10], H⟩ (st_stL (X := X) S167 35 16 h51 3 0 (arM .u32 16 p0.R_ ++ [(.top, .int .u32 p0.PC_), (.top, .int .u32 p0.EPC_), (.top, .int .u32 p0.Cause_), (.top, .int .i64 p0.State_), (.top, .int .i64 p0.Why_), (.top, .int .i64 p0.Steps_), (.top, .int .i64 p0.Taken_), ((.own 0), .sl 2 (List.map e_api_Event p0.Out_)), (.top, .int .u32 p0.Entry_), (.top, .int .u32 p0.Vector_), (.top, .int .u32 p0.Guard_), (.top, .int .u32 p0.Limit_), ((.own 0), .sl 1 (List.map (eI .i32) p0.Input_))]) (fun q => .int .u32 q) ⟨true, []⟩ (by kernel_rfl) (by kernel_rfl) (by kernel_rfl) (by kernel_rfl) (by kernel_rfl) (fun _ => rfl) (by kernel_rfl)) ?_
  exact ye
  exact ⟨((IntKind.wrap .u32 (p0.PC_ + 4)), (T_ref04_Cpu.mk v50 p0.PC_ p0.EPC_ p0.Cause_ p0.State_ p0.Why_ p0.Steps_ p0.Taken_ p0.Out_ p0.Entry_ p0.Vector_ p0.Guard_ p0.Limit_ p0.Input_), p1), hF, (by kernel_rfl)⟩
  refine yF h47 S157 ?_
  refine ysg ⟨[E1, E2, E3, E4, E5, E11, E12, E23, E24, E25, E26, E58, (121, .one .top (.bool (p2.Op_ == 34)))], [B6, B7, B8, B9, B10], H⟩ ?_
  refine w_join (α := (Int × T_ref04_Cpu × T_ref03_Mem)) (fun x => (⟨[E1, E2, E4, E5, (12, .one .top (.int .u32 x.1))], [(3, (m1_ref04_Cpu x.2.1)), (4, (m0_ref03_Mem x.2.2)), B9, B10], H⟩ : St)) (fun x => ref04_do_j5 x.1 x.2.1 x.2.2 = some (ra, rb)) ?_ ?_
  rintro ⟨j52, j53, j54⟩ hF
  replace hF : ref04_do_j5 j52 j53 j54 = some (ra, rb) := hF
  unfold ref04_do_j5 at hF
  exact ⟨(j52, j53, j54), hF, (by kernel_rfl)⟩
  rcases if_inv hF with ⟨h55, hF⟩ | ⟨h55, hF⟩
  refine yT h55 S163 ?_
  obtain ⟨v56, h57, hF⟩ := bind1_inv hF
  obtain ⟨v58, h59, hF⟩ := bind1_inv hF
  let B97 : EB := (3, (arM .u32 16 v58 ++ [(.top, .int .u32 p0.PC_), (.top, .int .u32 p0.EPC_), (.top, .int .u32 p0.Cause_), (.top, .int .i64 p0.State_), (.top, .int .i64 p0.Why_), (.top, .int .i64 p0.Steps_), (.top, .int .i64 p0.Taken_), ((.own 0), .sl 2 (List.map e_api_Event p0.Out_)), (.top, .int .u32 p0.Entry_), (.top, .int .u32 p0.Vector_), (.top, .int .u32 p0.Guard_), (.top, .int .u32 p0.Limit_), ((.own 0), .sl 1 (List.map (eI .i32) p0.Input_))]))
  refine w_regO ⟨[E1, E2, E4, E5, E25], [B97, B7, B9, B10], H⟩ ?_ ?_
  refine yr 6 S168 ?_
  refine o_one S169 (st_ixL (X := X) S168 46 35 16 h57 3 0 (some 129) (by kernel_rfl) (by kernel_rfl) (by kernel_rfl) (by kernel_rfl)) ?_
  refine o_one ⟨[E1, E2, E3, E4, E5, E12, E23, E25, E98, E99, E100, E101, E102, E103, E104], [B97, B7, B8, B9, B10], H⟩ (st_stL (X := X) S169 35 16 h59 3 0 (arM .u32 16 p0.R_ ++ [(.top, .int .u32 p0.PC_), (.top, .int .u32 p0.EPC_), (.top, .int .u32 p0.Cause_), (.top, .int .i64 p0.State_), (.top, .int .i64 p0.Why_), (.top, .int .i64 p0.Steps_), (.top, .int .i64 p0.Taken_), ((.own 0), .sl 2 (List.map e_api_Event p0.Out_)), (.top, .int .u32 p0.Entry_), (.top, .int .u32 p0.Vector_), (.top, .int .u32 p0.Guard_), (.top, .int .u32 p0.Limit_), ((.own 0), .sl 1 (List.map (eI .i32) p0.Input_))]) (fun q => .int .u32 q) ⟨true, []⟩ (by kernel_rfl) (by kernel_rfl) (by kernel_rfl) (by kernel_rfl) (by kernel_rfl) (fun _ => rfl) (by kernel_rfl)) ?_
  exact ye
  exact ⟨((IntKind.wrap .u32 (p0.PC_ + 4)), (T_ref04_Cpu.mk v58 p0.PC_ p0.EPC_ p0.Cause_ p0.State_ p0.Why_ p0.Steps_ p0.Taken_ p0.Out_ p0.Entry_ p0.Vector_ p0.Guard_ p0.Limit_ p0.Input_), p1), hF, (by kernel_rfl)⟩
  refine yF h55 S157 ?_
  refine ysg ⟨[E1, E2, E3, E4, E5, E11, E12, E23, E24, E25, E26, E58, (130, .one .top (.bool (p2.Op_ == 18)))], [B6, B7, B8, B9, B10], H⟩ ?_
  refine w_join (α := (Int × T_ref04_Cpu × T_ref03_Mem)) (fun x => (⟨[E1, E2, E4, E5, (12, .one .top (.int .u32 x.1))], [(3, (m1_ref04_Cpu x.2.1)), (4, (m0_ref03_Mem x.2.2)), B9, B10], H⟩ : St)) (fun x => ref04_do_j6 x.1 x.2.1 x.2.2 = some (ra, rb)) ?_ ?_
  rintro ⟨j60, j61, j62⟩ hF
  replace hF : ref04_do_j6 j60 j61 j62 = some (ra, rb) := hF
  unfold ref04_do_j6 at hF
  exact ⟨(j60, j61, j62), hF, (by kernel_rfl)⟩
  rcases if_inv hF with ⟨h63, hF⟩ | ⟨h63, hF⟩
  refine yT h63 S163 ?_
  refine w_seq ?_
  obtain ⟨r64, r65, c66, hF⟩ := bind2_inv hF
  let E105 : EN := (16, .one .top (.int .u32 r64))
  let E106 : EN := (17, .one .top (.int .i64 r65))
  let E111 : EN := (137, .tup [.one .top (.int .u32 r64), .one .top (.int .i64 r65)])
  let E114 : EN := (143, .one .top (.int .i64 r65))
  let E120 : EN := (148, .one .top (.int .u32 r64))
  let S171 : St := ⟨[E1, E2, E4, E5, E106, E113, E114, E115], [B6, B7, B9, B10], H⟩
  let S172 : St := ⟨[E1, E2, E3, E4, E5, E25, E105, E118, E119, E120, E121], [B6, B7, B8, B9, B10], H⟩
  let S173 : St := ⟨[E1, E2, E3, E4, E5, E25, E105, E118, E119, E120, E121, E122], [B6, B7, B8, B9, B10], H⟩
  refine w_regO ⟨[E1, E2, E3, E4, E5, E25, E105, E106], [B6, B7, B8, B9, B10], H⟩ ?_ ?_
  refine yr 4 S170 ?_
  refine o_one ⟨[E1, E2, E3, E4, E5, E12, E23, E25, E107, E108, E109, E110, E111], [B6, B7, B8, B9, B10], H⟩ (yc (some 137) true false S170 (ok_ref03_Load H c66)) ?_
  refine yr 5 ⟨[E1, E2, E3, E4, E5, E12, E23, E25, E105, E106, (132, .tup [.one .top (.int .u32 r64), .one .top (.int .i64 r65)]), E107, E108, E109, E110, E111, (138, .one .top (.int .u32 r64)), (139, .one .top (.int .i64 r65))], [B6, B7, B8, B9, B10], H⟩ ?_
  exact ye
  refine w_seq ?_
  refine ysg ⟨[E1, E2, E3, E4, E5, E25, E105, E106, (141, .one .top (.bool (r65 != 0)))], [B6, B7, B8, B9, B10], H⟩ ?_
  rcases if_inv hF with ⟨h67, hF⟩ | ⟨h67, hF⟩
  refine yT h67 ⟨[E1, E2, E4, E5, E106], [B6, B7, B9, B10], H⟩ ?_
  refine w_seq ?_
  obtain ⟨r68, c69, hF⟩ := bind1_inv hF
  let B112 : EB := (6, (m1_ref04_Cpu r68))
  let E116 : EN := (144, .agg (m1_ref04_Cpu r68))
  refine w_regD (.take 0 (.take 1 (.take 3 (.last 2 (.last 4 (.last 5 .done)))))) (by kernel_rfl) (⟨[E4, E5], [B112, B44], H⟩ : St) ?_ ?_
  refine ydt ⟨[E1, E2, E4, E5, E106, E113], [B6, B7, B9, B10], H⟩ ?_
  refine ydt ⟨[E1, E2, E4, E5, E106, E113, E114], [B6, B7, B9, B10], H⟩ ?_
  refine ydt S171 ?_
  refine d_last ⟨[E1, E2, E4, E5, E106, E113, E114, E116, E115], [B6, B7, B9, B10], H⟩ (yc (some 144) true false S171 (ok_ref04_fault H c69)) ?_
  refine ydl ⟨[E1, E2, E4, E5, E106, E113, E114, E116, E115], [B6, B7, B112, B10], H⟩ ?_
  refine ydl ⟨[E1, E2, E4, E5, E106, E113, E114, E116, E115], [B6, B7, B112, B44], H⟩ ?_
  exact yde
  refine w_ret ?_
  obtain ⟨e0, e1⟩ := some2_inv hF
  subst e0
  subst e1
  exact yp (.tup [.agg (m1_ref04_Cpu r68), .agg (m0_ref03_Mem p1)])
  refine yF h67 ⟨[E1, E2, E3, E4, E5, E25, E105], [B6, B7, B8, B9, B10], H⟩ ?_
  refine w_skip ?_
  obtain ⟨v70, h71, hF⟩ := bind1_inv hF
  obtain ⟨v72, h73, hF⟩ := bind1_inv hF
  let B117 : EB := (3, (arM .u32 16 v72 ++ [(.top, .int .u32 p0.PC_), (.top, .int .u32 p0.EPC_), (.top, .int .u32 p0.Cause_), (.top, .int .i64 p0.State_), (.top, .int .i64 p0.Why_), (.top, .int .i64 p0.Steps_), (.top, .int .i64 p0.Taken_), ((.own 0), .sl 2 (List.map e_api_Event p0.Out_)), (.top, .int .u32 p0.Entry_), (.top, .int .u32 p0.Vector_), (.top, .int .u32 p0.Guard_), (.top, .int .u32 p0.Limit_), ((.own 0), .sl 1 (List.map (eI .i32) p0.Input_))]))
  refine w_regO ⟨[E1, E2, E4, E5, E25], [B117, B7, B9, B10], H⟩ ?_ ?_
  refine yr 4 S172 ?_
  refine o_one S173 (st_ixL (X := X) S172 46 35 16 h71 3 0 (some 150) (by kernel_rfl) (by kernel_rfl) (by kernel_rfl) (by kernel_rfl)) ?_
  refine o_one ⟨[E1, E2, E3, E4, E5, E25, E105, E118, E119, E120, E121, E122], [B117, B7, B8, B9, B10], H⟩ (st_stL (X := X) S173 35 16 h73 3 0 (arM .u32 16 p0.R_ ++ [(.top, .int .u32 p0.PC_), (.top, .int .u32 p0.EPC_), (.top, .int .u32 p0.Cause_), (.top, .int .i64 p0.State_), (.top, .int .i64 p0.Why_), (.top, .int .i64 p0.Steps_), (.top, .int .i64 p0.Taken_), ((.own 0), .sl 2 (List.map e_api_Event p0.Out_)), (.top, .int .u32 p0.Entry_), (.top, .int .u32 p0.Vector_), (.top, .int .u32 p0.Guard_), (.top, .int .u32 p0.Limit_), ((.own 0), .sl 1 (List.map (eI .i32) p0.Input_))]) (fun q => .int .u32 q) ⟨true, []⟩ (by kernel_rfl) (by kernel_rfl) (by kernel_rfl) (by kernel_rfl) (by kernel_rfl) (fun _ => rfl) (by kernel_rfl)) ?_
  exact ye
  exact ⟨((IntKind.wrap .u32 (p0.PC_ + 4)), (T_ref04_Cpu.mk v72 p0.PC_ p0.EPC_ p0.Cause_ p0.State_ p0.Why_ p0.Steps_ p0.Taken_ p0.Out_ p0.Entry_ p0.Vector_ p0.Guard_ p0.Limit_ p0.Input_), p1), hF, (by kernel_rfl)⟩
  refine yF h63 S157 ?_
  refine ysg ⟨[E1, E2, E3, E4, E5, E11, E12, E23, E24, E25, E26, E58, (151, .one .top (.bool (p2.Op_ == 19)))], [B6, B7, B8, B9, B10], H⟩ ?_
  refine w_join (α := (Int × T_ref04_Cpu × T_ref03_Mem)) (fun x => (⟨[E1, E2, E4, E5, (12, .one .top (.int .u32 x.1))], [(3, (m1_ref04_Cpu x.2.1)), (4, (m0_ref03_Mem x.2.2)), B9, B10], H⟩ : St)) (fun x => ref04_do_j7 x.1 x.2.1 x.2.2 = some (ra, rb)) ?_ ?_
  rintro ⟨j74, j75, j76⟩ hF
  replace hF : ref04_do_j7 j74 j75 j76 = some (ra, rb) := hF
  unfold ref04_do_j7 at hF
  exact ⟨(j74, j75, j76), hF, (by kernel_rfl)⟩
  rcases if_inv hF with ⟨h77, hF⟩ | ⟨h77, hF⟩
  refine yT h77 ⟨[E1, E2, E4, E5, E11, E12, E23, E25], [B6, B7, B9, B10], H⟩ ?_
  refine w_seq ?_
  obtain ⟨r78, r79, c80, hF⟩ := bind2_inv hF
  let E124 : EN := (19, .one .top (.int .i64 r79))
  let B125 : EB := (18, (m0_ref03_Mem r78))
  let E131 : EN := (159, .tup [.agg (m0_ref03_Mem r78), .one .top (.int .i64 r79)])
  let E134 : EN := (165, .one .top (.int .i64 r79))
  let S175 : St := ⟨[E1, E2, E4, E5, E124, E133, E134, E135], [B6, B7, B9, B10], H⟩
  refine w_regO ⟨[E1, E2, E4, E5, E25, E123, E124], [B6, B7, B9, B10, B125], H⟩ ?_ ?_
  refine yr 5 S174 ?_
  refine o_one ⟨[E1, E2, E4, E5, E11, E12, E23, E25, E126, E127, E128, E129, E130, E131], [B6, B7, B9, B10], H⟩ (yc (some 159) true false S174 (ok_ref03_Store H c80)) ?_
  refine yr 6 ⟨[E1, E2, E4, E5, E11, E12, E23, E25, E123, E124, (153, .tup [.agg (m0_ref03_Mem r78), .one .top (.int .i64 r79)]), E126, E127, E128, E129, E130, E131, (160, .agg (m0_ref03_Mem r78)), (161, .one .top (.int .i64 r79))], [B6, B7, B9, B10, B125], H⟩ ?_
  exact ye
  refine w_seq ?_
  refine ysg ⟨[E1, E2, E4, E5, E25, E123, E124, (163, .one .top (.bool (r79 != 0)))], [B6, B7, B9, B10, B125], H⟩ ?_
  rcases if_inv hF with ⟨h81, hF⟩ | ⟨h81, hF⟩
  refine yT h81 ⟨[E1, E2, E4, E5, E124], [B6, B7, B9, B10], H⟩ ?_
  refine w_seq ?_
  obtain ⟨r82, c83, hF⟩ := bind1_inv hF
  let B132 : EB := (6, (m1_ref04_Cpu r82))
  let E136 : EN := (166, .agg (m1_ref04_Cpu r82))
  refine w_regD (.take 0 (.take 1 (.take 3 (.last 2 (.last 4 (.last 5 .done)))))) (by kernel_rfl) (⟨[E4, E5], [B132, B44], H⟩ : St) ?_ ?_
  refine ydt ⟨[E1, E2, E4, E5, E124, E133], [B6, B7, B9, B10], H⟩ ?_
  refine ydt ⟨[E1, E2, E4, E5, E124, E133, E134], [B6, B7, B9, B10], H⟩ ?_
  refine ydt S175 ?_
  refine d_last ⟨[E1, E2, E4, E5, E124, E133, E134, E136, E135], [B6, B7, B9, B10], H⟩ (yc (some 166) true false S175 (ok_ref04_fault H c83)) ?_
  refine ydl ⟨[E1, E2, E4, E5, E124, E133, E134, E136, E135], [B6, B7, B132, B10], H⟩ ?_
  refine ydl ⟨[E1, E2, E4, E5, E124, E133, E134, E136, E135], [B6, B7, B132, B44], H⟩ ?_
  exact yde
  refine w_ret ?_
  obtain ⟨e0, e1⟩ := some2_inv hF
  subst e0
  subst e1
  exact yp (.tup [.agg (m1_ref04_Cpu r82), .agg (m0_ref03_Mem p1)])
  refine yF h81 ⟨[E1, E2, E4, E5, E25, E123], [B6, B7, B9, B10, B125], H⟩ ?_
  refine w_skip ?_
  refine yg ⟨[E1, E2, E4, E5, E25], [B6, (4, (m0_ref03_Mem r78)), B9, B10], H⟩ ?_
  exact ⟨((IntKind.wrap .u32 (p0.PC_ + 4)), p0, r78), hF, (by kernel_rfl)⟩
  refine yF h77 S176 ?_
  refine ysg ⟨[E1, E2, E3, E4, E5, E11, E24, E25, E26, E58, (169, .one .top (.bool (p2.Op_ == 20)))], [B6, B7, B8, B9, B10], H⟩ ?_
  refine w_join (α := (Int × T_ref04_Cpu)) (fun x => (⟨[E1, E2, E4, E5, (12, .one .top (.int .u32 x.1))], [(3, (m1_ref04_Cpu x.2)), B7, B9, B10], H⟩ : St)) (fun x => ref04_do_j8 p1 x.1 x.2 = some (ra, rb)) ?_ ?_
  rintro ⟨j84, j85⟩ hF
  replace hF : ref04_do_j8 p1 j84 j85 = some (ra, rb) := hF
  unfold ref04_do_j8 at hF
  exact ⟨(j84, j85, p1), hF, (by kernel_rfl)⟩
  rcases if_inv hF with ⟨h86, hF⟩ | ⟨h86, hF⟩
  refine yT h86 S177 ?_
  refine ysg ⟨[E1, E2, E4, E5, E25, E26, (172, .one .top (.bool (v1 == 0)))], [B6, B7, B9, B10], H⟩ ?_
  refine w_join (α := (Int)) (fun x => (⟨[E1, E2, E4, E5, (12, .one .top (.int .u32 x))], [B6, B7, B9, B10], H⟩ : St)) (fun x => ref04_do_j9 p1 p0 x = some (ra, rb)) ?_ ?_
  rintro j87 hF
  replace hF : ref04_do_j9 p1 p0 j87 = some (ra, rb) := hF
  unfold ref04_do_j9 at hF
  exact ⟨(j87, p0), hF, (by kernel_rfl)⟩
  rcases if_inv hF with ⟨h88, hF⟩ | ⟨h88, hF⟩
  refine yT h88 S178 ?_
  refine yg S179 ?_
  exact ⟨(IntKind.wrap .u32 ((IntKind.wrap .u32 (p0.PC_ + 4)) + (IntKind.wrap .u32 (4 * (IntKind.wrap .u32 p2.Imm_))))), hF, (by kernel_rfl)⟩
  refine yF h88 S180 ?_
  refine w_skip ?_
  exact ⟨(IntKind.wrap .u32 (p0.PC_ + 4)), hF, (by kernel_rfl)⟩
  refine yF h86 S176 ?_
  refine ysg ⟨[E1, E2, E3, E4, E5, E11, E24, E25, E26, E58, (174, .one .top (.bool (p2.Op_ == 21)))], [B6, B7, B8, B9, B10], H⟩ ?_
  refine w_join (α := (Int × T_ref04_Cpu)) (fun x => (⟨[E1, E2, E4, E5, (12, .one .top (.int .u32 x.1))], [(3, (m1_ref04_Cpu x.2)), B7, B9, B10], H⟩ : St)) (fun x => ref04_do_j10 p1 x.1 x.2 = some (ra, rb)) ?_ ?_
  rintro ⟨j89, j90⟩ hF
  replace hF : ref04_do_j10 p1 j89 j90 = some (ra, rb) := hF
  unfold ref04_do_j10 at hF
  exact ⟨(j89, j90), hF, (by kernel_rfl)⟩
  rcases if_inv hF with ⟨h91, hF⟩ | ⟨h91, hF⟩
  refine yT h91 S177 ?_
  refine ysg ⟨[E1, E2, E4, E5, E25, E26, (177, .one .top (.bool (v1 != 0)))], [B6, B7, B9, B10], H⟩ ?_
  refine w_join (α := (Int)) (fun x => (⟨[E1, E2, E4, E5, (12, .one .top (.int .u32 x))], [B6, B7, B9, B10], H⟩ : St)) (fun x => ref04_do_j11 p1 p0 x = some (ra, rb)) ?_ ?_
  rintro j92 hF
  replace hF : ref04_do_j11 p1 p0 j92 = some (ra, rb) := hF
  unfold ref04_do_j11 at hF
  exact ⟨(j92, p0), hF, (by kernel_rfl)⟩
  rcases if_inv hF with ⟨h93, hF⟩ | ⟨h93, hF⟩
  refine yT h93 S178 ?_
  refine yg S179 ?_
  exact ⟨(IntKind.wrap .u32 ((IntKind.wrap .u32 (p0.PC_ + 4)) + (IntKind.wrap .u32 (4 * (IntKind.wrap .u32 p2.Imm_))))), hF, (by kernel_rfl)⟩
  refine yF h93 S180 ?_
  refine w_skip ?_
  exact ⟨(IntKind.wrap .u32 (p0.PC_ + 4)), hF, (by kernel_rfl)⟩
  refine yF h91 S181 ?_
  refine ysg ⟨[E1, E2, E3, E4, E5, E11, E24, E26, E58, (179, .one .top (.bool (p2.Op_ == 22)))], [B6, B7, B8, B9, B10], H⟩ ?_
  refine w_join (α := (T_ref04_Cpu)) (fun x => (⟨[E1, E2, E4, E5, E137], [(3, (m1_ref04_Cpu x)), B7, B9, B10], H⟩ : St)) (fun x => ref04_do_j12 p1 p0 p2 x = some (ra, rb)) ?_ ?_
  rintro j94 hF
  replace hF : ref04_do_j12 p1 p0 p2 j94 = some (ra, rb) := hF
  unfold ref04_do_j12 at hF
  exact ⟨((IntKind.wrap .u32 ((IntKind.wrap .u32 (p0.PC_ + 4)) + (IntKind.wrap .u32 (4 * (IntKind.wrap .u32 p2.Imm_))))), j94), hF, (by kernel_rfl)⟩
  rcases if_inv hF with ⟨h95, hF⟩ | ⟨h95, hF⟩
  refine yT h95 S178 ?_
  refine yg S179 ?_
  exact ⟨p0, hF, (by kernel_rfl)⟩
  refine yF h95 S181 ?_
  refine ysg ⟨[E1, E2, E3, E4, E5, E11, E24, E26, (182, .one .top (.bool (p2.Op_ == 23)))], [B6, B7, B8, B9, B10], H⟩ ?_
  rcases if_inv hF with ⟨h96, hF⟩ | ⟨h96, hF⟩
  refine yT h96 ⟨[E1, E2, E4, E5, E24, E26], [B6, B7, B9, B10], H⟩ ?_
  refine ysg ⟨[E1, E2, E4, E5, E26], [B138, B7, B9, B10], H⟩ ?_
  refine yg ⟨[E1, E2, E4, E5, E137], [B138, B7, B9, B10], H⟩ ?_
  exact ⟨(T_ref04_Cpu.mk (arrL [(p0.R_.g 0), (p0.R_.g 1), (p0.R_.g 2), (p0.R_.g 3), (p0.R_.g 4), (p0.R_.g 5), (p0.R_.g 6), (p0.R_.g 7), (p0.R_.g 8), (p0.R_.g 9), (p0.R_.g 10), (p0.R_.g 11), (p0.R_.g 12), (p0.R_.g 13), (IntKind.wrap .u32 (p0.PC_ + 4)), (p0.R_.g 15)] : Arr 16 Int) p0.PC_ p0.EPC_ p0.Cause_ p0.State_ p0.Why_ p0.Steps_ p0.Taken_ p0.Out_ p0.Entry_ p0.Vector_ p0.Guard_ p0.Limit_ p0.Input_), hF, (by kernel_rfl)⟩
  refine yF h96 ⟨[E1, E2, E3, E4, E5, E11], [B6, B7, B8, B9, B10], H⟩ ?_
  refine w_seq ?_
  obtain ⟨r97, c98, hF⟩ := bind1_inv hF
  let B139 : EB := (6, (m1_ref04_Cpu r97))
  let E144 : EN := (81, .agg (m1_ref04_Cpu r97))
  refine w_regD (.take 0 (.take 1 (.take 2 (.take 4 (.last 3 (.last 5 (.last 6 .done))))))) (by kernel_rfl) (⟨[E4, E5], [B139, B44], H⟩ : St) ?_ ?_
  refine ydt ⟨[E1, E2, E3, E4, E5, E11, E140], [B6, B7, B8, B9, B10], H⟩ ?_
  refine ydt ⟨[E1, E2, E3, E4, E5, E11, E140, E141], [B6, B7, B8, B9, B10], H⟩ ?_
  refine ydt ⟨[E1, E2, E3, E4, E5, E11, E140, E141, E142], [B6, B7, B8, B9, B10], H⟩ ?_
  refine ydt S182 ?_
  refine d_last ⟨[E1, E2, E3, E4, E5, E11, E140, E141, E142, E144, E143], [B6, B7, B8, B9, B10], H⟩ (yc (some 81) true false S182 (ok_ref04_others H c98)) ?_
  refine ydl ⟨[E1, E2, E3, E4, E5, E11, E140, E141, E142, E144, E143], [B6, B7, B8, B139, B10], H⟩ ?_
  refine ydl ⟨[E1, E2, E3, E4, E5, E11, E140, E141, E142, E144, E143], [B6, B7, B8, B139, B44], H⟩ ?_
  exact yde
  refine w_ret ?_
  obtain ⟨e0, e1⟩ := some2_inv hF
  subst e0
  subst e1
  exact yp (.tup [.agg (m1_ref04_Cpu r97), .agg (m0_ref03_Mem p1)])
noncomputable def ref04_Step  (p0 : T_ref04_Cpu) (p1 : T_ref03_Mem) : Option (T_ref04_Cpu × T_ref03_Mem) :=
  if (p0.State_ != 0) = true then (some (p0, p1))
  else (bind2 (ref03_Fetch p1 p0.PC_) fun r2 r3 =>
  if (r3 != 0) = true then (bind1 (ref04_fault (T_ref04_Cpu.mk p0.R_ p0.PC_ p0.EPC_ p0.Cause_ p0.State_ p0.Why_ (IntKind.wrap .i64 (p0.Steps_ + 1)) p0.Taken_ p0.Out_ p0.Entry_ p0.Vector_ p0.Guard_ p0.Limit_ p0.Input_) r3) fun r6 =>
  some (r6, p1))
  else (bind2 (ref02_Decode r2) fun r8 r9 =>
  if (r9 != 0) = true then (bind1 (ref04_fault (T_ref04_Cpu.mk p0.R_ p0.PC_ p0.EPC_ p0.Cause_ p0.State_ p0.Why_ (IntKind.wrap .i64 (p0.Steps_ + 1)) p0.Taken_ p0.Out_ p0.Entry_ p0.Vector_ p0.Guard_ p0.Limit_ p0.Input_) r9) fun r12 =>
  some (r12, p1))
  else (bind2 (ref04_do (T_ref04_Cpu.mk p0.R_ p0.PC_ p0.EPC_ p0.Cause_ p0.State_ p0.Why_ (IntKind.wrap .i64 (p0.Steps_ + 1)) p0.Taken_ p0.Out_ p0.Entry_ p0.Vector_ p0.Guard_ p0.Limit_ p0.Input_) p1 r8) fun r14 r15 =>
  some (r14, r15))))
theorem ok_ref04_Step (H : Heap) {p0 : T_ref04_Cpu} {p1 : T_ref03_Mem} {ra : T_ref04_Cpu} {rb : T_ref03_Mem} (hF : ref04_Step p0 p1 = some (ra, rb)) : evS X 58 [.agg (m1_ref04_Cpu p0), .agg (m0_ref03_Mem p1)] H = some (.tup [.agg (m1_ref04_Cpu ra), .agg (m0_ref03_Mem rb)], H) := by
  let E1 : EN := (2, .one .top (.loc 2 0))
  let E2 : EN := (3, .one .top (.loc 3 0))
  let E3 : EN := (4, .one .top (.loc 4 0))
  let E4 : EN := (5, .one .top (.loc 5 0))
  let B5 : EB := (2, (m1_ref04_Cpu p0))
  let B6 : EB := (3, (m0_ref03_Mem p1))
  let B7 : EB := (4, (List.replicate 19 (.top, .int .u32 0) ++ List.replicate 4 (.top, .int .i64 0) ++ [((.own 1), .sl 2 (List.map e_api_Event ([] : List T_api_Event)))] ++ List.replicate 4 (.top, .int .u32 0) ++ [((.own 1), .sl 1 (List.map (eI .i32) ([] : List Int)))]))
  let B8 : EB := (5, (List.replicate 5 (.top, .int .u32 0) ++ [((.own 1), .sl 1 (List.map (eI .u32) ([] : List Int)))]))
  let B9 : EB := (4, (m1_ref04_Cpu p0))
  let B10 : EB := (5, (m0_ref03_Mem p1))
  let E11 : EN := (12, .agg (m1_ref04_Cpu p0))
  let E12 : EN := (13, .agg (m0_ref03_Mem p1))
  let B13 : EB := (2, (arM .u32 16 p0.R_ ++ [(.top, .int .u32 p0.PC_), (.top, .int .u32 p0.EPC_), (.top, .int .u32 p0.Cause_), (.top, .int .i64 p0.State_), (.top, .int .i64 p0.Why_), (.top, .int .i64 (IntKind.wrap .i64 (p0.Steps_ + 1))), (.top, .int .i64 p0.Taken_), ((.own 0), .sl 2 (List.map e_api_Event p0.Out_)), (.top, .int .u32 p0.Entry_), (.top, .int .u32 p0.Vector_), (.top, .int .u32 p0.Guard_), (.top, .int .u32 p0.Limit_), ((.own 0), .sl 1 (List.map (eI .i32) p0.Input_))]))
  let E16 : EN := (19, .agg (m0_ref03_Mem p1))
  let E17 : EN := (20, .one .top (.loc 2 16))
  let E18 : EN := (21, .one .top (.int .u32 p0.PC_))
  let E21 : EN := (27, .agg (arM .u32 16 p0.R_ ++ [(.top, .int .u32 p0.PC_), (.top, .int .u32 p0.EPC_), (.top, .int .u32 p0.Cause_), (.top, .int .i64 p0.State_), (.top, .int .i64 p0.Why_), (.top, .int .i64 (IntKind.wrap .i64 (p0.Steps_ + 1))), (.top, .int .i64 p0.Taken_), ((.own 0), .sl 2 (List.map e_api_Event p0.Out_)), (.top, .int .u32 p0.Entry_), (.top, .int .u32 p0.Vector_), (.top, .int .u32 p0.Guard_), (.top, .int .u32 p0.Limit_), ((.own 0), .sl 1 (List.map (eI .i32) p0.Input_))]))
  let E23 : EN := (30, .agg (m0_ref03_Mem p1))
  let E26 : EN := (8, .one .top (.loc 8 0))
  let E31 : EN := (38, .agg (arM .u32 16 p0.R_ ++ [(.top, .int .u32 p0.PC_), (.top, .int .u32 p0.EPC_), (.top, .int .u32 p0.Cause_), (.top, .int .i64 p0.State_), (.top, .int .i64 p0.Why_), (.top, .int .i64 (IntKind.wrap .i64 (p0.Steps_ + 1))), (.top, .int .i64 p0.Taken_), ((.own 0), .sl 2 (List.map e_api_Event p0.Out_)), (.top, .int .u32 p0.Entry_), (.top, .int .u32 p0.Vector_), (.top, .int .u32 p0.Guard_), (.top, .int .u32 p0.Limit_), ((.own 0), .sl 1 (List.map (eI .i32) p0.Input_))]))
  let E33 : EN := (41, .agg (m0_ref03_Mem p1))
  let E35 : EN := (42, .agg (arM .u32 16 p0.R_ ++ [(.top, .int .u32 p0.PC_), (.top, .int .u32 p0.EPC_), (.top, .int .u32 p0.Cause_), (.top, .int .i64 p0.State_), (.top, .int .i64 p0.Why_), (.top, .int .i64 (IntKind.wrap .i64 (p0.Steps_ + 1))), (.top, .int .i64 p0.Taken_), ((.own 0), .sl 2 (List.map e_api_Event p0.Out_)), (.top, .int .u32 p0.Entry_), (.top, .int .u32 p0.Vector_), (.top, .int .u32 p0.Guard_), (.top, .int .u32 p0.Limit_), ((.own 0), .sl 1 (List.map (eI .i32) p0.Input_))]))
  let E36 : EN := (43, .agg (m0_ref03_Mem p1))
  let S39 : St := ⟨[E1, E2, E3, E4], [B5, B6, B7, B8], H⟩
  let S40 : St := ⟨[E1, E2, E3, E4, E16, E17, E18], [B13, B6, B7, B8], H⟩
  refine yf Try.func58 true ⟨[(0, .agg (m1_ref04_Cpu p0)), (1, .agg (m0_ref03_Mem p1))], [], H⟩ ?_
  unfold ref04_Step at hF
  refine ysg S39 ?_
  refine w_seq ?_
  refine ysg ⟨[E1, E2, E3, E4, (11, .one .top (.bool (p0.State_ != 0)))], [B5, B6, B7, B8], H⟩ ?_
  rcases if_inv hF with ⟨h1, hF⟩ | ⟨h1, hF⟩
  refine yT h1 S39 ?_
  refine w_seq ?_
  refine w_regD (.take 0 (.take 1 (.last 2 (.last 3 .done)))) (by kernel_rfl) (⟨[E3, E4], [B9, B10], H⟩ : St) ?_ ?_
  refine ydt ⟨[E1, E2, E3, E4, E11], [B5, B6, B7, B8], H⟩ ?_
  refine ydt ⟨[E1, E2, E3, E4, E11, E12], [B5, B6, B7, B8], H⟩ ?_
  refine ydl ⟨[E1, E2, E3, E4, E11, E12], [B5, B6, B9, B8], H⟩ ?_
  refine ydl ⟨[E1, E2, E3, E4, E11, E12], [B5, B6, B9, B10], H⟩ ?_
  exact yde
  refine w_ret ?_
  obtain ⟨e0, e1⟩ := some2_inv hF
  subst e0
  subst e1
  exact yp (.tup [.agg (m1_ref04_Cpu p0), .agg (m0_ref03_Mem p1)])
  refine yF h1 S39 ?_
  refine w_skip ?_
  refine ysg ⟨[E1, E2, E3, E4], [B13, B6, B7, B8], H⟩ ?_
  refine w_seq ?_
  obtain ⟨r2, r3, c4, hF⟩ := bind2_inv hF
  let E14 : EN := (6, .one .top (.int .u32 r2))
  let E15 : EN := (7, .one .top (.int .i64 r3))
  let E19 : EN := (22, .tup [.one .top (.int .u32 r2), .one .top (.int .i64 r3)])
  let E22 : EN := (28, .one .top (.int .i64 r3))
  let E28 : EN := (32, .one .top (.int .u32 r2))
  let S41 : St := ⟨[E1, E2, E3, E4, E15, E21, E22, E23], [B13, B6, B7, B8], H⟩
  let S42 : St := ⟨[E1, E2, E3, E4, E14, E28], [B13, B6, B7, B8], H⟩
  refine w_regO ⟨[E1, E2, E3, E4, E14, E15], [B13, B6, B7, B8], H⟩ ?_ ?_
  refine yr 3 S40 ?_
  refine o_one ⟨[E1, E2, E3, E4, E16, E17, E18, E19], [B13, B6, B7, B8], H⟩ (yc (some 22) true false S40 (ok_ref03_Fetch H c4)) ?_
  refine yr 5 ⟨[E1, E2, E3, E4, E14, E15, (18, .tup [.one .top (.int .u32 r2), .one .top (.int .i64 r3)]), E16, E17, E18, E19, (23, .one .top (.int .u32 r2)), (24, .one .top (.int .i64 r3))], [B13, B6, B7, B8], H⟩ ?_
  exact ye
  refine w_seq ?_
  refine ysg ⟨[E1, E2, E3, E4, E14, E15, (26, .one .top (.bool (r3 != 0)))], [B13, B6, B7, B8], H⟩ ?_
  rcases if_inv hF with ⟨h5, hF⟩ | ⟨h5, hF⟩
  refine yT h5 ⟨[E1, E2, E3, E4, E15], [B13, B6, B7, B8], H⟩ ?_
  refine w_seq ?_
  obtain ⟨r6, c7, hF⟩ := bind1_inv hF
  let B20 : EB := (4, (m1_ref04_Cpu r6))
  let E24 : EN := (29, .agg (m1_ref04_Cpu r6))
  refine w_regD (.take 0 (.take 1 (.take 3 (.last 2 (.last 4 (.last 5 .done)))))) (by kernel_rfl) (⟨[E3, E4], [B20, B10], H⟩ : St) ?_ ?_
  refine ydt ⟨[E1, E2, E3, E4, E15, E21], [B13, B6, B7, B8], H⟩ ?_
  refine ydt ⟨[E1, E2, E3, E4, E15, E21, E22], [B13, B6, B7, B8], H⟩ ?_
  refine ydt S41 ?_
  refine d_last ⟨[E1, E2, E3, E4, E15, E21, E22, E24, E23], [B13, B6, B7, B8], H⟩ (yc (some 29) true false S41 (ok_ref04_fault H c7)) ?_
  refine ydl ⟨[E1, E2, E3, E4, E15, E21, E22, E24, E23], [B13, B6, B20, B8], H⟩ ?_
  refine ydl ⟨[E1, E2, E3, E4, E15, E21, E22, E24, E23], [B13, B6, B20, B10], H⟩ ?_
  exact yde
  refine w_ret ?_
  obtain ⟨e0, e1⟩ := some2_inv hF
  subst e0
  subst e1
  exact yp (.tup [.agg (m1_ref04_Cpu r6), .agg (m0_ref03_Mem p1)])
  refine yF h5 ⟨[E1, E2, E3, E4, E14], [B13, B6, B7, B8], H⟩ ?_
  refine w_skip ?_
  refine w_seq ?_
  obtain ⟨r8, r9, c10, hF⟩ := bind2_inv hF
  let E25 : EN := (7, .one .top (.int .i64 r9))
  let B27 : EB := (8, (m0_ref02_Instr r8))
  let E29 : EN := (33, .tup [.agg (m0_ref02_Instr r8), .one .top (.int .i64 r9)])
  let E32 : EN := (39, .one .top (.int .i64 r9))
  let E37 : EN := (44, .agg (m0_ref02_Instr r8))
  let S43 : St := ⟨[E1, E2, E3, E4, E25, E31, E32, E33], [B13, B6, B7, B8], H⟩
  let S44 : St := ⟨[E1, E2, E3, E4, E26, E35, E36, E37], [B13, B6, B7, B8, B27], H⟩
  refine w_regO ⟨[E1, E2, E3, E4, E25, E26], [B13, B6, B7, B8, B27], H⟩ ?_ ?_
  refine yr 1 S42 ?_
  refine o_one ⟨[E1, E2, E3, E4, E14, E28, E29], [B13, B6, B7, B8], H⟩ (yc (some 33) true false S42 (ok_ref02_Decode H c10)) ?_
  refine yr 6 ⟨[E1, E2, E3, E4, E14, E25, E26, (31, .tup [.agg (m0_ref02_Instr r8), .one .top (.int .i64 r9)]), E28, E29, (34, .agg (m0_ref02_Instr r8)), (35, .one .top (.int .i64 r9))], [B13, B6, B7, B8, B27], H⟩ ?_
  exact ye
  refine w_seq ?_
  refine ysg ⟨[E1, E2, E3, E4, E25, E26, (37, .one .top (.bool (r9 != 0)))], [B13, B6, B7, B8, B27], H⟩ ?_
  rcases if_inv hF with ⟨h11, hF⟩ | ⟨h11, hF⟩
  refine yT h11 ⟨[E1, E2, E3, E4, E25], [B13, B6, B7, B8], H⟩ ?_
  refine w_seq ?_
  obtain ⟨r12, c13, hF⟩ := bind1_inv hF
  let B30 : EB := (4, (m1_ref04_Cpu r12))
  let E34 : EN := (40, .agg (m1_ref04_Cpu r12))
  refine w_regD (.take 0 (.take 1 (.take 3 (.last 2 (.last 4 (.last 5 .done)))))) (by kernel_rfl) (⟨[E3, E4], [B30, B10], H⟩ : St) ?_ ?_
  refine ydt ⟨[E1, E2, E3, E4, E25, E31], [B13, B6, B7, B8], H⟩ ?_
  refine ydt ⟨[E1, E2, E3, E4, E25, E31, E32], [B13, B6, B7, B8], H⟩ ?_
  refine ydt S43 ?_
  refine d_last ⟨[E1, E2, E3, E4, E25, E31, E32, E34, E33], [B13, B6, B7, B8], H⟩ (yc (some 40) true false S43 (ok_ref04_fault H c13)) ?_
  refine ydl ⟨[E1, E2, E3, E4, E25, E31, E32, E34, E33], [B13, B6, B30, B8], H⟩ ?_
  refine ydl ⟨[E1, E2, E3, E4, E25, E31, E32, E34, E33], [B13, B6, B30, B10], H⟩ ?_
  exact yde
  refine w_ret ?_
  obtain ⟨e0, e1⟩ := some2_inv hF
  subst e0
  subst e1
  exact yp (.tup [.agg (m1_ref04_Cpu r12), .agg (m0_ref03_Mem p1)])
  refine yF h11 ⟨[E1, E2, E3, E4, E26], [B13, B6, B7, B8, B27], H⟩ ?_
  refine w_skip ?_
  refine w_seq ?_
  obtain ⟨r14, r15, c16, hF⟩ := bind2_inv hF
  let E38 : EN := (45, .tup [.agg (m1_ref04_Cpu r14), .agg (m0_ref03_Mem r15)])
  refine w_regO ⟨[E3, E4], [(4, (m1_ref04_Cpu r14)), (5, (m0_ref03_Mem r15))], H⟩ ?_ ?_
  refine yr 3 S44 ?_
  refine o_one ⟨[E1, E2, E3, E4, E26, E35, E36, E37, E38], [B13, B6, B7, B8, B27], H⟩ (yc (some 45) true false S44 (ok_ref04_do H c16)) ?_
  refine yr 4 ⟨[E1, E2, E3, E4, E26, E35, E36, E37, E38, (46, .agg (m1_ref04_Cpu r14)), (47, .agg (m0_ref03_Mem r15))], [B13, B6, (4, (m1_ref04_Cpu r14)), (5, (m0_ref03_Mem r15)), B27], H⟩ ?_
  exact ye
  refine w_ret ?_
  obtain ⟨e0, e1⟩ := some2_inv hF
  subst e0
  subst e1
  exact yp (.tup [.agg (m1_ref04_Cpu r14), .agg (m0_ref03_Mem r15)])
noncomputable def ref19_Run_L1 (p5 : Int) (a12 : Int) (a13 : T_ref03_Mem) (a14 : T_ref04_Cpu) : Option ((Int × T_ref03_Mem × T_ref04_Cpu) ⊕ ((T_ref03_Mem × T_ref04_Cpu))) :=
  if ((decide (a12 < p5)) && (a14.State_ == 0)) = true then (bind2 (ref04_Step a14 a13) fun r17 r18 =>
  some (Sum.inl ((IntKind.wrap .i64 (a12 + 1)), r18, r17)))
  else (some (Sum.inr (a13, a14)))
noncomputable def ref19_Run  (p0 : (List Int)) (p1 : (List Int)) (p2 : Int) (p3 : (List Int)) (p4 : (Arr 16 Int)) (p5 : Int) : Option (T_ref04_Cpu × T_ref03_Mem) :=
  bind1 (ref03_New (arrL [(IntKind.wrap .u32 (IntKind.wrap .i64 (4 * (p0.length : Int)))), (IntKind.wrap .u32 (IntKind.wrap .i64 (4 * (p0.length : Int)))), (IntKind.wrap .u32 ((IntKind.wrap .u32 (IntKind.wrap .i64 (4 * (p0.length : Int)))) + (IntKind.wrap .u32 (IntKind.wrap .i64 (4 * (p1.length : Int)))))), (IntKind.wrap .u32 ((IntKind.wrap .u32 ((IntKind.wrap .u32 (IntKind.wrap .i64 (4 * (p0.length : Int)))) + (IntKind.wrap .u32 (IntKind.wrap .i64 (4 * (p1.length : Int)))))) + (IntKind.wrap .u32 p2))), (IntKind.wrap .u32 ((IntKind.wrap .u32 ((IntKind.wrap .u32 ((IntKind.wrap .u32 (IntKind.wrap .i64 (4 * (p0.length : Int)))) + (IntKind.wrap .u32 (IntKind.wrap .i64 (4 * (p1.length : Int)))))) + (IntKind.wrap .u32 p2))) + (IntKind.wrap .u32 (IntKind.wrap .i64 (4 * (p3.length : Int))))))] : Arr 5 Int)) fun r1 =>
  bind2 (ref03_Fill r1 0 p0) fun r3 r4 =>
  bind2 (ref03_Fill r3 (IntKind.wrap .u32 (IntKind.wrap .i64 (4 * (p0.length : Int)))) p1) fun r6 r7 =>
  bind2 (ref03_Fill r6 (IntKind.wrap .u32 ((IntKind.wrap .u32 ((IntKind.wrap .u32 (IntKind.wrap .i64 (4 * (p0.length : Int)))) + (IntKind.wrap .u32 (IntKind.wrap .i64 (4 * (p1.length : Int)))))) + (IntKind.wrap .u32 p2))) p3) fun r9 r10 =>
  bind1 (loopO (fun (x : (Int × T_ref03_Mem × T_ref04_Cpu)) => ref19_Run_L1 p5 x.1 x.2.1 x.2.2) (0, r9, (T_ref04_Cpu.mk p4 4 0 0 0 0 0 0 ([] : List T_api_Event) 4 0 4 (IntKind.wrap .u32 ((IntKind.wrap .u32 ((IntKind.wrap .u32 (IntKind.wrap .i64 (4 * (p0.length : Int)))) + (IntKind.wrap .u32 (IntKind.wrap .i64 (4 * (p1.length : Int)))))) + (IntKind.wrap .u32 p2))) ([] : List Int)))) (tup2 fun b22 b23 =>
  some (b23, b22))
theorem ok_ref19_Run (H : Heap) {p0 : (List Int)} {p1 : (List Int)} {p2 : Int} {p3 : (List Int)} {p4 : (Arr 16 Int)} {p5 : Int} {ra : T_ref04_Cpu} {rb : T_ref03_Mem} (hF : ref19_Run p0 p1 p2 p3 p4 p5 = some (ra, rb)) : evS X 38 [.one .ro (.sl 1 (List.map (eI .u32) p0)), .one (.own 1) (.sl 1 (List.map (eI .u32) p1)), .one .top (.int .i64 p2), .one .bl (.sl 1 (List.map (eI .u32) p3)), .agg (arM .u32 16 p4), .one .top (.int .i64 p5)] H = some (.tup [.agg (m1_ref04_Cpu ra), .agg (m0_ref03_Mem rb)], H) := by
  let E1 : EN := (0, .one .ro (.sl 1 (List.map (eI .u32) p0)))
  let E2 : EN := (1, .one (.own 1) (.sl 1 (List.map (eI .u32) p1)))
  let E3 : EN := (2, .one .top (.int .i64 p2))
  let E4 : EN := (3, .one .bl (.sl 1 (List.map (eI .u32) p3)))
  let E5 : EN := (5, .one .top (.int .i64 p5))
  let E6 : EN := (10, .one .top (.loc 10 0))
  let E7 : EN := (12, .one .top (.loc 12 0))
  let E8 : EN := (13, .one .top (.loc 13 0))
  let B9 : EB := (10, (arM .u32 16 p4))
  let B10 : EB := (12, (List.replicate 19 (.top, .int .u32 0) ++ List.replicate 4 (.top, .int .i64 0) ++ [((.own 1), .sl 2 (List.map e_api_Event ([] : List T_api_Event)))] ++ List.replicate 4 (.top, .int .u32 0) ++ [((.own 1), .sl 1 (List.map (eI .i32) ([] : List Int)))]))
  let B11 : EB := (13, (List.replicate 5 (.top, .int .u32 0) ++ [((.own 1), .sl 1 (List.map (eI .u32) ([] : List Int)))]))
  let E12 : EN := (14, .one .top (.int .u32 (IntKind.wrap .u32 (IntKind.wrap .i64 (4 * (p0.length : Int))))))
  let E13 : EN := (20, .one .ro (.sl 1 (List.map (eI .u32) p0)))
  let E14 : EN := (21, .one .top (.int .i64 (p0.length : Int)))
  let E15 : EN := (15, .one .top (.int .u32 (IntKind.wrap .u32 ((IntKind.wrap .u32 (IntKind.wrap .i64 (4 * (p0.length : Int)))) + (IntKind.wrap .u32 (IntKind.wrap .i64 (4 * (p1.length : Int))))))))
  let E16 : EN := (24, .one .top (.int .u32 (IntKind.wrap .u32 (IntKind.wrap .i64 (4 * (p0.length : Int))))))
  let E17 : EN := (25, .one .bl (.sl 1 (List.map (eI .u32) p1)))
  let E18 : EN := (26, .one .top (.int .i64 (p1.length : Int)))
  let E19 : EN := (16, .one .top (.int .u32 (IntKind.wrap .u32 ((IntKind.wrap .u32 ((IntKind.wrap .u32 (IntKind.wrap .i64 (4 * (p0.length : Int)))) + (IntKind.wrap .u32 (IntKind.wrap .i64 (4 * (p1.length : Int)))))) + (IntKind.wrap .u32 p2)))))
  let E20 : EN := (17, .one .top (.loc 17 0))
  let E22 : EN := (34, .one .top (.int .u32 (IntKind.wrap .u32 (IntKind.wrap .i64 (4 * (p0.length : Int))))))
  let E23 : EN := (35, .one .top (.int .u32 (IntKind.wrap .u32 (IntKind.wrap .i64 (4 * (p0.length : Int))))))
  let E24 : EN := (36, .one .top (.int .u32 (IntKind.wrap .u32 ((IntKind.wrap .u32 (IntKind.wrap .i64 (4 * (p0.length : Int)))) + (IntKind.wrap .u32 (IntKind.wrap .i64 (4 * (p1.length : Int))))))))
  let E25 : EN := (37, .one .top (.int .u32 (IntKind.wrap .u32 ((IntKind.wrap .u32 ((IntKind.wrap .u32 (IntKind.wrap .i64 (4 * (p0.length : Int)))) + (IntKind.wrap .u32 (IntKind.wrap .i64 (4 * (p1.length : Int)))))) + (IntKind.wrap .u32 p2)))))
  let E26 : EN := (38, .one .top (.int .u32 (IntKind.wrap .u32 ((IntKind.wrap .u32 ((IntKind.wrap .u32 (IntKind.wrap .i64 (4 * (p0.length : Int)))) + (IntKind.wrap .u32 (IntKind.wrap .i64 (4 * (p1.length : Int)))))) + (IntKind.wrap .u32 p2)))))
  let E27 : EN := (39, .one .bl (.sl 1 (List.map (eI .u32) p3)))
  let E28 : EN := (40, .one .top (.int .i64 (p3.length : Int)))
  let E29 : EN := (41, .one .top (.int .i64 (IntKind.wrap .i64 (4 * (p3.length : Int)))))
  let E30 : EN := (42, .one .top (.int .u32 (IntKind.wrap .u32 (IntKind.wrap .i64 (4 * (p3.length : Int))))))
  let E31 : EN := (43, .one .top (.int .u32 (IntKind.wrap .u32 ((IntKind.wrap .u32 ((IntKind.wrap .u32 ((IntKind.wrap .u32 (IntKind.wrap .i64 (4 * (p0.length : Int)))) + (IntKind.wrap .u32 (IntKind.wrap .i64 (4 * (p1.length : Int)))))) + (IntKind.wrap .u32 p2))) + (IntKind.wrap .u32 (IntKind.wrap .i64 (4 * (p3.length : Int))))))))
  let E32 : EN := (44, .agg [(.top, .int .u32 (IntKind.wrap .u32 (IntKind.wrap .i64 (4 * (p0.length : Int))))), (.top, .int .u32 (IntKind.wrap .u32 (IntKind.wrap .i64 (4 * (p0.length : Int))))), (.top, .int .u32 (IntKind.wrap .u32 ((IntKind.wrap .u32 (IntKind.wrap .i64 (4 * (p0.length : Int)))) + (IntKind.wrap .u32 (IntKind.wrap .i64 (4 * (p1.length : Int))))))), (.top, .int .u32 (IntKind.wrap .u32 ((IntKind.wrap .u32 ((IntKind.wrap .u32 (IntKind.wrap .i64 (4 * (p0.length : Int)))) + (IntKind.wrap .u32 (IntKind.wrap .i64 (4 * (p1.length : Int)))))) + (IntKind.wrap .u32 p2)))), (.top, .int .u32 (IntKind.wrap .u32 ((IntKind.wrap .u32 ((IntKind.wrap .u32 ((IntKind.wrap .u32 (IntKind.wrap .i64 (4 * (p0.length : Int)))) + (IntKind.wrap .u32 (IntKind.wrap .i64 (4 * (p1.length : Int)))))) + (IntKind.wrap .u32 p2))) + (IntKind.wrap .u32 (IntKind.wrap .i64 (4 * (p3.length : Int)))))))])
  let E36 : EN := (48, .one .ro (.sl 1 (List.map (eI .u32) p0)))
  let E40 : EN := (54, .one .top (.int .u32 (IntKind.wrap .u32 (IntKind.wrap .i64 (4 * (p0.length : Int))))))
  let E41 : EN := (55, .one .bl (.sl 1 (List.map (eI .u32) p1)))
  let E45 : EN := (61, .one .top (.int .u32 (IntKind.wrap .u32 ((IntKind.wrap .u32 ((IntKind.wrap .u32 (IntKind.wrap .i64 (4 * (p0.length : Int)))) + (IntKind.wrap .u32 (IntKind.wrap .i64 (4 * (p1.length : Int)))))) + (IntKind.wrap .u32 p2)))))
  let E46 : EN := (62, .one .bl (.sl 1 (List.map (eI .u32) p3)))
  let E48 : EN := (18, .one .top (.loc 18 0))
  let B49 : EB := (18, (arM .u32 16 p4 ++ [(.top, .int .u32 4), (.top, .int .u32 0), (.top, .int .u32 0)] ++ List.replicate 4 (.top, .int .i64 0) ++ [((.own 0), .sl 2 (List.map e_api_Event ([] : List T_api_Event))), (.top, .int .u32 4), (.top, .int .u32 0), (.top, .int .u32 4), (.top, .int .u32 (IntKind.wrap .u32 ((IntKind.wrap .u32 ((IntKind.wrap .u32 (IntKind.wrap .i64 (4 * (p0.length : Int)))) + (IntKind.wrap .u32 (IntKind.wrap .i64 (4 * (p1.length : Int)))))) + (IntKind.wrap .u32 p2)))), ((.own 0), .sl 1 (List.map (eI .i32) ([] : List Int)))]))
  let E54 : EN := (70, .one .top (.int .i64 p5))
  let S65 : St := ⟨[E1, E2, E3, E4, E5, E6, E7, E8, E13], [B9, B10, B11], H⟩
  let S66 : St := ⟨[E1, E2, E3, E4, E5, E6, E7, E8, E12, E16, E17], [B9, B10, B11], H⟩
  let S67 : St := ⟨[E1, E2, E4, E5, E6, E7, E8, E12, E15, E19, E22, E23, E24, E25, E26, E27], [B9, B10, B11], H⟩
  let S68 : St := ⟨[E1, E2, E4, E5, E6, E7, E8, E12, E15, E19, E22, E23, E24, E25, E26, E27, E28, E29, E30, E31, E32], [B9, B10, B11], H⟩
  refine yf Try.func38 true ⟨[E1, E2, E3, E4, (4, .agg (arM .u32 16 p4)), E5], [], H⟩ ?_
  unfold ref19_Run at hF
  refine ysg ⟨[E1, E2, E3, E4, E5, E6, E7, E8], [B9, B10, B11], H⟩ ?_
  refine yso ⟨[E1, E2, E3, E4, E5, E6, E7, E8, E12], [B9, B10, B11], H⟩ ?_ ?_
  refine yr 1 S65 ?_
  refine o_one ⟨[E1, E2, E3, E4, E5, E6, E7, E8, E13, E14], [B9, B10, B11], H⟩ (yl S65 p0 (eI .u32) (some 21)) ?_
  refine yr 3 ⟨[E1, E2, E3, E4, E5, E6, E7, E8, E12, E13, E14, (22, .one .top (.int .i64 (IntKind.wrap .i64 (4 * (p0.length : Int))))), (23, .one .top (.int .u32 (IntKind.wrap .u32 (IntKind.wrap .i64 (4 * (p0.length : Int))))))], [B9, B10, B11], H⟩ ?_
  exact ye
  refine yso ⟨[E1, E2, E3, E4, E5, E6, E7, E8, E12, E15], [B9, B10, B11], H⟩ ?_ ?_
  refine yr 2 S66 ?_
  refine o_one ⟨[E1, E2, E3, E4, E5, E6, E7, E8, E12, E16, E17, E18], [B9, B10, B11], H⟩ (yl S66 p1 (eI .u32) (some 26)) ?_
  refine yr 4 ⟨[E1, E2, E3, E4, E5, E6, E7, E8, E12, E15, E16, E17, E18, (27, .one .top (.int .i64 (IntKind.wrap .i64 (4 * (p1.length : Int))))), (28, .one .top (.int .u32 (IntKind.wrap .u32 (IntKind.wrap .i64 (4 * (p1.length : Int)))))), (29, .one .top (.int .u32 (IntKind.wrap .u32 ((IntKind.wrap .u32 (IntKind.wrap .i64 (4 * (p0.length : Int)))) + (IntKind.wrap .u32 (IntKind.wrap .i64 (4 * (p1.length : Int))))))))], [B9, B10, B11], H⟩ ?_
  exact ye
  refine ysg ⟨[E1, E2, E4, E5, E6, E7, E8, E12, E15, E19], [B9, B10, B11], H⟩ ?_
  refine w_seq ?_
  obtain ⟨r1, c2, hF⟩ := bind1_inv hF
  let B21 : EB := (17, (m0_ref03_Mem r1))
  let E33 : EN := (45, .agg (m0_ref03_Mem r1))
  let E35 : EN := (47, .agg (m0_ref03_Mem r1))
  let S69 : St := ⟨[E1, E2, E4, E5, E6, E7, E8, E12, E19, E20, E35, E36], [B9, B10, B11, B21], H⟩
  refine w_regO ⟨[E1, E2, E4, E5, E6, E7, E8, E12, E19, E20], [B9, B10, B11, B21], H⟩ ?_ ?_
  refine yr 6 S67 ?_
  refine o_one ⟨[E1, E2, E4, E5, E6, E7, E8, E12, E15, E19, E22, E23, E24, E25, E26, E27, E28], [B9, B10, B11], H⟩ (yl S67 p3 (eI .u32) (some 40)) ?_
  refine yr 4 S68 ?_
  refine o_one ⟨[E1, E2, E4, E5, E6, E7, E8, E12, E15, E19, E22, E23, E24, E25, E26, E27, E28, E29, E30, E31, E32, E33], [B9, B10, B11], H⟩ (yc (some 45) true false S68 (ok_ref03_New H c2)) ?_
  refine yr 2 ⟨[E1, E2, E4, E5, E6, E7, E8, E12, E15, E19, E20, E22, E23, E24, E25, E26, E27, E28, E29, E30, E31, E32, E33], [B9, B10, B11, B21], H⟩ ?_
  exact ye
  refine w_seq ?_
  obtain ⟨r3, r4, c5, hF⟩ := bind2_inv hF
  let B34 : EB := (17, (m0_ref03_Mem r3))
  let E37 : EN := (49, .tup [.agg (m0_ref03_Mem r3), .one .top (.int .i64 r4)])
  let E39 : EN := (53, .agg (m0_ref03_Mem r3))
  let S70 : St := ⟨[E2, E4, E5, E6, E7, E8, E12, E19, E20, E39, E40, E41], [B9, B10, B11, B34], H⟩
  refine w_regO ⟨[E2, E4, E5, E6, E7, E8, E12, E19, E20], [B9, B10, B11, B34], H⟩ ?_ ?_
  refine yr 2 S69 ?_
  refine o_one ⟨[E1, E2, E4, E5, E6, E7, E8, E12, E19, E20, E35, E36, E37], [B9, B10, B11, B21], H⟩ (yc (some 49) true false S69 (ok_ref03_Fill H c5)) ?_
  refine yr 4 ⟨[E1, E2, E4, E5, E6, E7, E8, E12, E19, E20, (46, .tup [.agg (m0_ref03_Mem r3), .one .top (.int .i64 r4)]), E35, E36, E37, (50, .agg (m0_ref03_Mem r3)), (51, .one .top (.int .i64 r4))], [B9, B10, B11, B34], H⟩ ?_
  exact ye
  refine w_seq ?_
  obtain ⟨r6, r7, c8, hF⟩ := bind2_inv hF
  let B38 : EB := (17, (m0_ref03_Mem r6))
  let E42 : EN := (56, .tup [.agg (m0_ref03_Mem r6), .one .top (.int .i64 r7)])
  let E44 : EN := (60, .agg (m0_ref03_Mem r6))
  let S71 : St := ⟨[E4, E5, E6, E7, E8, E19, E20, E44, E45, E46], [B9, B10, B11, B38], H⟩
  refine w_regO ⟨[E4, E5, E6, E7, E8, E19, E20], [B9, B10, B11, B38], H⟩ ?_ ?_
  refine yr 3 S70 ?_
  refine o_one ⟨[E2, E4, E5, E6, E7, E8, E12, E19, E20, E39, E40, E41, E42], [B9, B10, B11, B34], H⟩ (yc (some 56) true false S70 (ok_ref03_Fill H c8)) ?_
  refine yr 4 ⟨[E2, E4, E5, E6, E7, E8, E12, E19, E20, (52, .tup [.agg (m0_ref03_Mem r6), .one .top (.int .i64 r7)]), E39, E40, E41, E42, (57, .agg (m0_ref03_Mem r6)), (58, .one .top (.int .i64 r7))], [B9, B10, B11, B38], H⟩ ?_
  exact ye
  refine w_seq ?_
  obtain ⟨r9, r10, c11, hF⟩ := bind2_inv hF
  let B43 : EB := (17, (m0_ref03_Mem r9))
  let E47 : EN := (63, .tup [.agg (m0_ref03_Mem r9), .one .top (.int .i64 r10)])
  refine w_regO ⟨[E5, E6, E7, E8, E19, E20], [B9, B10, B11, B43], H⟩ ?_ ?_
  refine yr 3 S71 ?_
  refine o_one ⟨[E4, E5, E6, E7, E8, E19, E20, E44, E45, E46, E47], [B9, B10, B11, B38], H⟩ (yc (some 63) true false S71 (ok_ref03_Fill H c11)) ?_
  refine yr 4 ⟨[E4, E5, E6, E7, E8, E19, E20, (59, .tup [.agg (m0_ref03_Mem r9), .one .top (.int .i64 r10)]), E44, E45, E46, E47, (64, .agg (m0_ref03_Mem r9)), (65, .one .top (.int .i64 r10))], [B9, B10, B11, B43], H⟩ ?_
  exact ye
  refine ysg ⟨[E5, E7, E8, E20, E48], [B10, B11, B43, B49], H⟩ ?_
  refine w_seq ?_
  refine ysg ⟨[E5, E7, E8, E20, E48, (19, .one .top (.int .i64 0))], [B10, B11, B43, B49], H⟩ ?_
  refine w_block ?_
  obtain ⟨r20, hL21, hF⟩ := bind1_inv hF
  refine w_loop (fun (x : (Int × T_ref03_Mem × T_ref04_Cpu)) => (⟨[E5, E7, E8, E20, E48, (19, .one .top (.int .i64 x.1))], [B10, B11, (17, (m0_ref03_Mem x.2.1)), (18, (m1_ref04_Cpu x.2.2))], H⟩ : St)) (fun (y : (T_ref03_Mem × T_ref04_Cpu)) => ((.exit 0, (⟨[E7, E8, E20, E48], [B10, B11, (17, (m0_ref03_Mem y.1)), (18, (m1_ref04_Cpu y.2))], H⟩ : St)) : Ex × St)) hL21 (by kernel_rfl) ?_ ?_
  rintro ⟨a12, a13, a14⟩ o hF
  replace hF : ref19_Run_L1 p5 a12 a13 a14 = some o := hF
  let E50 : EN := (19, .one .top (.int .i64 a12))
  let B51 : EB := (17, (m0_ref03_Mem a13))
  let B52 : EB := (18, (m1_ref04_Cpu a14))
  let E53 : EN := (69, .one .top (.int .i64 a12))
  let E57 : EN := (80, .agg (m1_ref04_Cpu a14))
  let E58 : EN := (81, .agg (m0_ref03_Mem a13))
  let S72 : St := ⟨[E5, E7, E8, E20, E48, E50, E57, E58], [B10, B11, B51, B52], H⟩
  unfold ref19_Run_L1 at hF
  refine w_seq ?_
  refine yso ⟨[E5, E7, E8, E20, E48, E50, (76, .one .top (.bool ((decide (a12 < p5)) && (a14.State_ == 0))))], [B10, B11, B51, B52], H⟩ ?_ ?_
  refine yr 4 ⟨[E5, E7, E8, E20, E48, E50, E53, E54, (71, .one .top (.bool (decide (a12 < p5)))), (72, .one .top (.bool (decide (a12 < p5))))], [B10, B11, B51, B52], H⟩ ?_
  rcases bool_cases (decide (a12 < p5)) with h15 | h15
  refine o_eq (congrArg (fun q => (⟨[E5, E7, E8, E20, E48, E50, E53, E54, (71, .one .top (.bool q)), (72, .one .top (.bool q))], [B10, B11, B51, B52], H⟩ : St)) h15) ?_
  refine yr 4 ⟨[E5, E7, E8, E20, E48, E50, E53, E54, (71, .one .top (.bool true)), (72, .one .top (.bool true)), (73, .one .top (.loc 18 19)), (74, .one .top (.int .i64 a14.State_)), (75, .one .top (.bool (a14.State_ == 0))), (76, .one .top (.bool (a14.State_ == 0)))], [B10, B11, B51, B52], H⟩ ?_
  refine o_eq2 (congrArg (fun q0 => (⟨[E5, E7, E8, E20, E48, E50, (76, .one .top (.bool q0))], [B10, B11, B51, B52], H⟩ : St)) (show (a14.State_ == 0) = ((decide (a12 < p5)) && (a14.State_ == 0)) by simp [h15])) ?_
  exact ye
  refine o_eq (congrArg (fun q => (⟨[E5, E7, E8, E20, E48, E50, E53, E54, (71, .one .top (.bool q)), (72, .one .top (.bool q))], [B10, B11, B51, B52], H⟩ : St)) h15) ?_
  refine yr 4 ⟨[E5, E7, E8, E20, E48, E50, E53, E54, (71, .one .top (.bool false)), (72, .one .top (.bool false)), (73, .tup []), (74, .tup []), (75, .tup []), (76, .one .top (.bool false))], [B10, B11, B51, B52], H⟩ ?_
  refine o_eq2 (congrArg (fun q0 => (⟨[E5, E7, E8, E20, E48, E50, (76, .one .top (.bool q0))], [B10, B11, B51, B52], H⟩ : St)) (show false = ((decide (a12 < p5)) && (a14.State_ == 0)) by simp [h15])) ?_
  exact ye
  rcases if_inv hF with ⟨h16, hF⟩ | ⟨h16, hF⟩
  refine yT h16 ⟨[E5, E7, E8, E20, E48, E50], [B10, B11, B51, B52], H⟩ ?_
  refine w_skip ?_
  refine w_seq ?_
  refine w_block ?_
  obtain ⟨r17, r18, c19, hF⟩ := bind2_inv hF
  let B55 : EB := (17, (m0_ref03_Mem r18))
  let B56 : EB := (18, (m1_ref04_Cpu r17))
  let E59 : EN := (82, .tup [.agg (m1_ref04_Cpu r17), .agg (m0_ref03_Mem r18)])
  refine w_regO ⟨[E5, E7, E8, E20, E48, E50], [B10, B11, B55, B56], H⟩ ?_ ?_
  refine yr 2 S72 ?_
  refine o_one ⟨[E5, E7, E8, E20, E48, E50, E57, E58, E59], [B10, B11, B51, B52], H⟩ (yc (some 82) true false S72 (ok_ref04_Step H c19)) ?_
  refine yr 5 ⟨[E5, E7, E8, E20, E48, E50, (79, .tup [.agg (m1_ref04_Cpu r17), .agg (m0_ref03_Mem r18)]), E57, E58, E59, (83, .agg (m1_ref04_Cpu r17)), (84, .agg (m0_ref03_Mem r18))], [B10, B11, B55, B56], H⟩ ?_
  exact ye
  refine yg ⟨[E5, E7, E8, E20, E48, (19, .one .top (.int .i64 (IntKind.wrap .i64 (a12 + 1))))], [B10, B11, B55, B56], H⟩ ?_
  cases hF
  exact ⟨_, rfl, (by kernel_rfl)⟩
  refine yF h16 ⟨[E7, E8, E20, E48], [B10, B11, B51, B52], H⟩ ?_
  refine w_exit ?_
  cases hF
  exact ⟨_, rfl, (by kernel_rfl)⟩
  obtain ⟨b22, b23⟩ := r20
  replace hF := tup2_inv hF
  let B60 : EB := (17, (m0_ref03_Mem b22))
  let B61 : EB := (18, (m1_ref04_Cpu b23))
  let B62 : EB := (12, (m1_ref04_Cpu b23))
  let E63 : EN := (85, .agg (m1_ref04_Cpu b23))
  let E64 : EN := (86, .agg (m0_ref03_Mem b22))
  refine w_oe (i := 0) (s := (⟨[E7, E8, E20, E48], [B10, B11, B60, B61], H⟩ : St)) (by kernel_rfl) ?_
  refine e_here ?_
  refine w_seq ?_
  refine w_regD (.take 0 (.take 1 (.last 2 (.last 3 .done)))) (by kernel_rfl) (⟨[E7, E8], [B62, (13, (m0_ref03_Mem b22))], H⟩ : St) ?_ ?_
  refine ydt ⟨[E7, E8, E20, E48, E63], [B10, B11, B60, B61], H⟩ ?_
  refine ydt ⟨[E7, E8, E20, E48, E63, E64], [B10, B11, B60, B61], H⟩ ?_
  refine ydl ⟨[E7, E8, E20, E48, E63, E64], [B62, B11, B60, B61], H⟩ ?_
  refine ydl ⟨[E7, E8, E20, E48, E63, E64], [B62, (13, (m0_ref03_Mem b22)), B60, B61], H⟩ ?_
  exact yde
  refine w_ret ?_
  obtain ⟨e0, e1⟩ := some2_inv hF
  subst e0
  subst e1
  exact yp (.tup [.agg (m1_ref04_Cpu b23), .agg (m0_ref03_Mem b22)])
noncomputable def law19_run  (p0 : Ptr) (p1 : (List Int)) : Option (T_ref04_Cpu) :=
  bind1 (mks 4 64 64 0) fun v1 =>
  bind2 (ref19_Run p1 ([] : List Int) 0 v1 (arrL [0, 0, 0, 0, 0, 0, 0, 0, 0, 0, 0, 0, 0, (IntKind.wrap .u32 ((IntKind.wrap .u32 (IntKind.wrap .i64 ((IntKind.wrap .i64 (4 * (p1.length : Int))) + 256))) - 64)), 0, (IntKind.wrap .u32 (IntKind.wrap .i64 ((IntKind.wrap .i64 (4 * (p1.length : Int))) + 256)))] : Arr 16 Int) 5000) fun r3 r4 =>
  some r3
theorem ok_law19_run (H : Heap) {p0 : Ptr} {p1 : (List Int)} {ra : T_ref04_Cpu} (hF : law19_run p0 p1 = some ra) : evS X 24 [.one .top (Ptr.av p0), .one .ro (.sl 1 (List.map (eI .u32) p1))] H = some (.agg (m1_ref04_Cpu ra), H) := by
  let E1 : EN := (1, .one .ro (.sl 1 (List.map (eI .u32) p1)))
  let E2 : EN := (4, .one .top (.loc 4 0))
  let B3 : EB := (4, (List.replicate 19 (.top, .int .u32 0) ++ List.replicate 4 (.top, .int .i64 0) ++ [((.own 1), .sl 2 (List.map e_api_Event ([] : List T_api_Event)))] ++ List.replicate 4 (.top, .int .u32 0) ++ [((.own 1), .sl 1 (List.map (eI .i32) ([] : List Int)))]))
  let E4 : EN := (5, .one .top (.loc 5 0))
  let B5 : EB := (5, (List.replicate 16 (.top, .int .u32 0)))
  let B7 : EB := (5, (List.replicate 15 (.top, .int .u32 0) ++ [(.top, .int .u32 (IntKind.wrap .u32 (IntKind.wrap .i64 ((IntKind.wrap .i64 (4 * (p1.length : Int))) + 256))))]))
  let E8 : EN := (10, .one .ro (.sl 1 (List.map (eI .u32) p1)))
  let E9 : EN := (11, .one .top (.int .i64 (p1.length : Int)))
  let B10 : EB := (5, (List.replicate 13 (.top, .int .u32 0) ++ [(.top, .int .u32 (IntKind.wrap .u32 ((IntKind.wrap .u32 (IntKind.wrap .i64 ((IntKind.wrap .i64 (4 * (p1.length : Int))) + 256))) - 64))), (.top, .int .u32 0), (.top, .int .u32 (IntKind.wrap .u32 (IntKind.wrap .i64 ((IntKind.wrap .i64 (4 * (p1.length : Int))) + 256))))]))
  let E11 : EN := (21, .one .ro (.sl 1 (List.map (eI .u32) p1)))
  let E13 : EN := (23, .agg (List.replicate 13 (.top, .int .u32 0) ++ [(.top, .int .u32 (IntKind.wrap .u32 ((IntKind.wrap .u32 (IntKind.wrap .i64 ((IntKind.wrap .i64 (4 * (p1.length : Int))) + 256))) - 64))), (.top, .int .u32 0), (.top, .int .u32 (IntKind.wrap .u32 (IntKind.wrap .i64 ((IntKind.wrap .i64 (4 * (p1.length : Int))) + 256))))]))
  let S15 : St := ⟨[E1, E2, E4], [B3, B5], H⟩
  refine yf Try.func24 true ⟨[(0, .one .top (Ptr.av p0)), E1], [], H⟩ ?_
  unfold law19_run at hF
  refine ysg ⟨[E1, E2], [B3], H⟩ ?_ (h := (by generalize p0 = qp0; cases qp0 <;> kernel_rfl))
  refine ysg S15 ?_
  refine w_seq ?_
  obtain ⟨v1, h2, hF⟩ := bind1_inv hF
  let E6 : EN := (6, .one (.own 1) (.sl 1 (List.map (eI .u32) v1)))
  let E12 : EN := (22, .one .bl (.sl 1 (List.map (eI .u32) v1)))
  let S16 : St := ⟨[E1, E2, E4, E6, E8], [B3, B5], H⟩
  let S17 : St := ⟨[E1, E2, E4, E6, E11, E12, E13], [B3, B10], H⟩
  refine w_regO ⟨[E1, E2, E4, E6], [B3, B5], H⟩ ?_ ?_
  refine o_one ⟨[E1, E2, E4, (9, .one (.own 1) (.sl 1 (List.map (eI .u32) v1)))], [B3, B5], H⟩ (st_mk (X := X) S15 4 h2 42 35 1 [(.top, .int .u32 0)] (eI .u32) 0 (.i64) (.i64) (some 9) (by kernel_rfl) (by kernel_rfl) (by kernel_rfl) (by kernel_rfl) (by kernel_rfl) (by kernel_rfl) (by kernel_rfl) (by kernel_rfl) (by kernel_rfl) (by kernel_rfl)) ?_
  refine yr 1 ⟨[E1, E2, E4, E6, (9, .one .top .junk)], [B3, B5], H⟩ ?_
  exact ye
  refine yso ⟨[E1, E2, E4, E6], [B3, B7], H⟩ ?_ ?_
  refine yr 1 S16 ?_
  refine o_one ⟨[E1, E2, E4, E6, E8, E9], [B3, B5], H⟩ (yl S16 p1 (eI .u32) (some 11)) ?_
  refine yr 5 ⟨[E1, E2, E4, E6, E8, E9, (12, .one .top (.int .i64 (IntKind.wrap .i64 (4 * (p1.length : Int))))), (13, .one .top (.int .i64 (IntKind.wrap .i64 ((IntKind.wrap .i64 (4 * (p1.length : Int))) + 256)))), (14, .one .top (.int .u32 (IntKind.wrap .u32 (IntKind.wrap .i64 ((IntKind.wrap .i64 (4 * (p1.length : Int))) + 256))))), (15, .one .top (.loc 5 15))], [B3, B7], H⟩ ?_
  exact ye
  refine ysg ⟨[E1, E2, E4, E6], [B3, B10], H⟩ ?_
  refine w_seq ?_
  obtain ⟨r3, r4, c5, hF⟩ := bind2_inv hF
  let E14 : EN := (24, .tup [.agg (m1_ref04_Cpu r3), .agg (m0_ref03_Mem r4)])
  refine w_regO ⟨[E2, (7, .one .top (.loc 7 0))], [B3, (7, (m1_ref04_Cpu r3))], H⟩ ?_ ?_
  refine yr 3 S17 ?_
  refine o_one ⟨[E1, E2, E4, E6, E11, (22, .one .top .junk), E13, E14], [B3, B10], H⟩ (yc (some 24) true true S17 (ok_ref19_Run H c5)) ?_
  refine yr 7 ⟨[E1, E2, E4, E6, (7, .one .top (.loc 7 0)), (8, .one .top (.loc 8 0)), (20, .tup [.agg (m1_ref04_Cpu r3), .agg (m0_ref03_Mem r4)]), E11, (22, .one .top .junk), E13, E14, (25, .agg (m1_ref04_Cpu r3)), (26, .agg (m0_ref03_Mem r4))], [B3, B10, (7, (m1_ref04_Cpu r3)), (8, (m0_ref03_Mem r4))], H⟩ ?_
  exact ye
  refine ysg ⟨[E2], [(4, (m1_ref04_Cpu r3))], H⟩ ?_
  refine w_ret ?_
  obtain e0 := some1_inv hF
  subst e0
  exact yp (.agg (m1_ref04_Cpu r3))
end Go.Proofs.Abs
