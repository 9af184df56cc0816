/- The law TypesTells: whatever the input, it answers true. No conditions. (Part TypesTellsF0 of its proof.) -/
import Derived.Test.YtdfdjhimecmkfaaTypesTellsX
set_option linter.unusedVariables false
set_option linter.unusedSimpArgs false
set_option linter.unusedSectionVars false
/- Printed by gen (walk.py). -/
namespace Go.Proofs.Abs
open Go Go.Proofs
set_option linter.unusedVariables false
set_option maxRecDepth 100000
set_option maxHeartbeats 0
noncomputable def types_New_j2 (H6 : Heap) (i2 : Nat) (v8 : Int) (a5 : Int) (j10 : Int) : Option ((Int × Heap) ⊕ ((Heap))) :=
  bind1 (get_types_Table H6 i2 0) fun x11 =>
  bind1 (app 64 x11.list_ ([(T_types_Type.mk v8 0 0 j10 false ([] : List T_types_Field))] : List T_types_Type)) fun v13 =>
  bnd (set_types_Table H6 i2 0 (T_types_Table.mk v13)) fun H15 =>
  some (Sum.inl ((IntKind.wrap .i64 (a5 + 1)), H15))
noncomputable def types_New_L1 (i2 : Nat) (a5 : Int) (H6 : Heap) : Option ((Int × Heap) ⊕ ((Heap))) :=
  if (decide (a5 < 5)) = true then (bind1 (ga (arrL [0, 1, 2, 3, 4] : Arr 5 Int) a5) fun v8 =>
  if (v8 == 0) = true then (types_New_j2 H6 i2 v8 a5 0)
  else (types_New_j2 H6 i2 v8 a5 4))
  else (some (Sum.inr H6))
noncomputable def types_New (H : Heap) : Option (Heap × Ptr) :=
  bnd H.length fun i2 =>
  bnd (new_types_Table H (T_types_Table.mk ([] : List T_types_Type))) fun H1 =>
  bind1 (loopO (fun (x : (Int × Heap)) => types_New_L1 i2 x.1 x.2) (0, H1)) (fun H21 =>
  some (H21, (Ptr.at i2 0)))
theorem ok_types_New (H : Heap) {ra : Ptr} {Hr : Heap} (hF : types_New H = some (Hr, ra)) : evS X 67 [] H = some (.one .top (Ptr.av ra), Hr) := by
  let E2 : Nat × TV := (5, .agg [(.top, .junk)])
  let E3 : Nat × TV := (7, .agg [(.top, .int .i64 0), (.top, .int .i64 1), (.top, .int .i64 2), (.top, .int .i64 3), (.top, .int .i64 4)])
  let E6 : Nat × TV := (4, .one .top (.int .i64 4))
  let E16 : Nat × TV := (17, .one .top .junk)
  let E17 : Nat × TV := (21, .one .top .junk)
  let E21 : Nat × TV := (22, .one .top .junk)
  refine w_fun Try.func67 rfl (by kernel_rfl) false (by kernel_rfl) (s0 := (⟨[], [], H⟩ : St)) (by kernel_rfl) ?_
  unfold types_New at hF
  refine w_seq ?_
  refine w_reg ⟨[], [], H⟩ (by kernel_rfl) ?_
  refine w_seq ?_
  obtain ⟨i2, h4, hF⟩ := bnd_inv hF
  let E1 : Nat × TV := (1, .one .top (.obj i2 0))
  let E8 : Nat × TV := (13, .one .top (.obj i2 0))
  let E9 : Nat × TV := (14, .one .top (.obj i2 0))
  let E10 : Nat × TV := (15, .one .top (.obj i2 0))
  let E11 : Nat × TV := (16, .one .top (.obj i2 0))
  let E19 : Nat × TV := (23, .one .top (.obj i2 0))
  let E20 : Nat × TV := (24, .one .top (.obj i2 0))
  obtain ⟨H1, h3, hF⟩ := bnd_inv hF
  refine w_regO ⟨[E1], [], H1⟩ ?_ ?_
  refine o_run 1 ⟨[(5, .agg [((.own 2), .sl 6 (List.map e_types_Type ([] : List T_types_Type)))])], [], H⟩ (by kernel_rfl) (by kernel_rfl) ?_
  refine o_one ⟨[E2, (6, .one .top (.obj H.length 0))], [], (H ++ [[((.own 2), .sl 6 (List.map e_types_Type ([] : List T_types_Type)))]])⟩ (by kernel_rfl) ?_
  refine o_eq (congr2 (fun q u => (⟨[E2, (6, .one .top (.obj q 0))], [], u⟩ : St)) h4 h3) ?_
  refine o_run 1 ⟨[E1, E2, (6, .one .top (.obj i2 0))], [], H1⟩ (by kernel_rfl) (by kernel_rfl) ?_
  exact o_end (by kernel_rfl) (by kernel_rfl)
  refine w_seq ?_
  refine w_seq ?_
  refine w_reg ⟨[E1, E3, (8, .one .top (.int .i64 0))], [], H1⟩ (by kernel_rfl) ?_
  refine w_block ?_
  obtain ⟨r19, hL20, hF⟩ := bind1_inv hF
  refine w_loop (fun (x : (Int × Heap)) => (⟨[E1, E3, (8, .one .top (.int .i64 x.1))], [], x.2⟩ : St)) (fun (y : (Heap)) => ((.exit 0, (⟨[E1], [], y⟩ : St)) : Ex × St)) hL20 (by kernel_rfl) ?_ ?_
  rintro ⟨a5, H6⟩ o hF
  replace hF : types_New_L1 i2 a5 H6 = some o := hF
  let E4 : Nat × TV := (8, .one .top (.int .i64 a5))
  let S22 : St := ⟨[E1, E3, E4], [], H6⟩
  unfold types_New_L1 at hF
  refine w_seq ?_
  refine w_reg ⟨[E1, E3, E4, (9, .one .top (.bool (decide (a5 < 5))))], [], H6⟩ (by kernel_rfl) ?_
  refine w_seq ?_
  rcases if_inv hF with ⟨h7, hF⟩ | ⟨h7, hF⟩
  refine w_cT (m := .top) h7 (s1 := S22) (by kernel_rfl) (by kernel_rfl) ?_
  refine w_skip ?_
  refine w_seq ?_
  refine w_block ?_
  refine w_seq ?_
  obtain ⟨v8, h9, hF⟩ := bind1_inv hF
  let E5 : Nat × TV := (3, .one .top (.int .i64 v8))
  let E13 : Nat × TV := (18, .one .top (.int .i64 v8))
  let S23 : St := ⟨[E1, E5, E3, E4], [], H6⟩
  let S24 : St := ⟨[E1, E5, E6, E3, E4], [], H6⟩
  refine w_regO S23 ?_ ?_
  refine o_one ⟨[E1, E3, E4, (10, .one .top (.int .i64 v8))], [], H6⟩ (st_ixV (X := X) S22 165 3 5 h9 (fun q => .int .i64 q) .i64 [(.top, .int .i64 0), (.top, .int .i64 1), (.top, .int .i64 2), (.top, .int .i64 3), (.top, .int .i64 4)] (some 10) (by kernel_rfl) (by kernel_rfl) (by kernel_rfl) (by kernel_rfl) (by kernel_rfl) (by kernel_rfl)) ?_
  refine o_run 1 ⟨[E1, E5, E3, E4, (10, .one .top (.int .i64 v8))], [], H6⟩ (by kernel_rfl) (by kernel_rfl) ?_
  exact o_end (by kernel_rfl) (by kernel_rfl)
  refine w_seq ?_
  refine w_reg S24 (by kernel_rfl) ?_
  refine w_seq ?_
  refine w_seq ?_
  refine w_reg ⟨[E1, E5, E6, E3, E4, (12, .one .top (.bool (v8 == 0)))], [], H6⟩ (by kernel_rfl) ?_
  refine w_join (α := (Int)) (fun x => (⟨[E1, E5, (4, .one .top (.int .i64 x)), E3, E4], [], H6⟩ : St)) (fun x => types_New_j2 H6 i2 v8 a5 x = some o) ?_ ?_
  rintro j10 hF
  replace hF : types_New_j2 H6 i2 v8 a5 j10 = some o := hF
  let E7 : Nat × TV := (4, .one .top (.int .i64 j10))
  let E14 : Nat × TV := (19, .one .top (.int .i64 j10))
  let E15 : Nat × TV := (20, .agg [(.top, .int .i64 v8), (.top, .int .i64 0), (.top, .int .i64 0), (.top, .int .i64 j10), (.top, .bool false), (.top, .junk)])
  let S25 : St := ⟨[E1, E5, E7, E3, E4, E8, E9, E10, E11], [], H6⟩
  unfold types_New_j2 at hF
  obtain ⟨x11, V12, hF⟩ := bind1_inv hF
  replace V12 := hgetT_inv V12
  let E12 : Nat × TV := (17, .one (.own 2) (.sl 6 (List.map e_types_Type x11.list_)))
  obtain ⟨v13, h14, hF⟩ := bind1_inv hF
  let E18 : Nat × TV := (22, .one (.own 2) (.sl 6 (List.map e_types_Type v13)))
  obtain ⟨H15, h16, hF⟩ := bnd_inv hF
  have V17 : hget H15 i2 0 1 = some (o_types_Table (T_types_Table.mk v13)) := by rw [← h16]; exact hset_get V12 rfl
  refine w_regO ⟨[E1, E3, E4], [], H15⟩ ?_ ?_
  refine o_run 3 ⟨[E1, E5, E7, E3, E4, E8, E9, E10], [], H6⟩ (by kernel_rfl) (by kernel_rfl) ?_
  refine o_run 1 S25 (by kernel_rfl) (by kernel_rfl) ?_
  refine o_one ⟨[E1, E5, E7, E3, E4, E8, E9, E10, E11, E12], [], (hset H6 i2 0 [(.top, .junk)])⟩ (st_ldT (X := X) (h2 := (hset H6 i2 0 [(.top, .junk)])) S25 135 V12 0 1 false (.one (.own 2) (.sl 6 (List.map e_types_Type x11.list_))) (some 17) (by kernel_rfl) (by kernel_rfl) (by kernel_rfl) (by kernel_rfl) (by kernel_rfl) (hset_sub0 (k := 0) V12 (Nat.le_of_ble_eq_true rfl)) (by kernel_rfl)) ?_
  refine o_run 4 ⟨[E1, E5, E7, E3, E4, E8, E9, E10, E11, E12, E13, E14, E15, (21, .one (.own 2) (.sl 6 (List.map e_types_Type ([(T_types_Type.mk v8 0 0 j10 false ([] : List T_types_Field))] : List T_types_Type))))], [], (hset H6 i2 0 [(.top, .junk)])⟩ (by kernel_rfl) (by kernel_rfl) ?_
  refine o_one ⟨[E1, E5, E7, E3, E4, E8, E9, E10, E11, E16, E13, E14, E15, E17, E18], [], (hset H6 i2 0 [(.top, .junk)])⟩ (st_app (X := X) (⟨[E1, E5, E7, E3, E4, E8, E9, E10, E11, E16, E13, E14, E15, E17], [], (hset H6 i2 0 [(.top, .junk)])⟩ : St) 64 h14 135 135 55 6 1 [(.top, .int .i64 0), (.top, .int .i64 0), (.top, .int .i64 0), (.top, .int .i64 0), (.top, .bool false), ((.own 1), .sl 3 (List.map e_types_Field ([] : List T_types_Field)))] (.own 2) e_types_Type 1 (some 22) (by kernel_rfl) (by kernel_rfl) (by kernel_rfl) (by kernel_rfl) (by kernel_rfl) (by kernel_rfl) (by kernel_rfl) (by kernel_rfl) (by kernel_rfl) (fun _ => rfl) (by kernel_rfl)) ?_
  refine o_run 2 ⟨[E1, E5, E7, E3, E4, E8, E9, E10, E11, E16, E13, E14, E15, E17, E18, E19, E20], [], (hset H6 i2 0 [(.top, .junk)])⟩ (by kernel_rfl) (by kernel_rfl) ?_
  refine o_one ⟨[E1, E5, E7, E3, E4, E8, E9, E10, E11, E16, E13, E14, E15, E17, E21, E19, E20], [], (hset H6 i2 0 [((.own 2), .sl 6 (List.map e_types_Type v13))])⟩ (st_st (X := X) (lc := []) (h2 := (hset H6 i2 0 [((.own 2), .sl 6 (List.map e_types_Type v13))])) (⟨[E1, E5, E7, E3, E4, E8, E9, E10, E11, E16, E13, E14, E15, E17, E21, E19, E20], [], (hset H6 i2 0 [(.top, .junk)])⟩ : St) 135 (hset_get V12 rfl) 0 1 (.one (.own 2) (.sl 6 (List.map e_types_Type v13))) (by kernel_rfl) (by kernel_rfl) (by kernel_rfl) (by kernel_rfl) (by kernel_rfl) (by kernel_rfl) (hset_sub V12 rfl (Nat.le_of_ble_eq_true rfl)) (by kernel_rfl)) ?_
  refine o_eq (congrArg (fun q => (⟨[E1, E5, E7, E3, E4, E8, E9, E10, E11, E16, E13, E14, E15, E17, E21, E19, E20], [], q⟩ : St)) h16) ?_
  exact o_end (by kernel_rfl) (by kernel_rfl)
  refine w_reg ⟨[E1, E3, (8, .one .top (.int .i64 (IntKind.wrap .i64 (a5 + 1))))], [], H15⟩ (by kernel_rfl) ?_
  cases hF
  exact ⟨_, rfl, (by kernel_rfl)⟩
  rcases if_inv hF with ⟨h18, hF⟩ | ⟨h18, hF⟩
  refine w_cT (m := .top) h18 (s1 := S23) (by kernel_rfl) (by kernel_rfl) ?_
  refine w_reg ⟨[E1, E5, (4, .one .top (.int .i64 0)), E3, E4], [], H6⟩ (by kernel_rfl) ?_
  exact ⟨0, hF, (by kernel_rfl)⟩
  refine w_cF (m := .top) h18 (s1 := S24) (by kernel_rfl) (by kernel_rfl) ?_
  refine w_skip ?_
  exact ⟨4, hF, (by kernel_rfl)⟩
  refine w_cF (m := .top) h7 (s1 := (⟨[E1], [], H6⟩ : St)) (by kernel_rfl) (by kernel_rfl) ?_
  refine w_exit ?_
  cases hF
  exact ⟨_, rfl, (by kernel_rfl)⟩
  obtain ⟨H21, hy⟩ : ∃ y, y = r19 := ⟨_, rfl⟩
  subst hy
  refine w_oe (i := 0) (s := (⟨[E1], [], H21⟩ : St)) (by kernel_rfl) ?_
  refine e_here ?_
  refine w_seq ?_
  refine w_reg ⟨[(0, .one .top (.obj i2 0))], [], H21⟩ (by kernel_rfl) ?_
  refine w_ret ?_
  obtain ⟨e0, e1⟩ := some2_inv hF
  subst e0
  subst e1
  exact fin_imp (v := .one .top (.obj i2 0)) (by kernel_rfl) (by kernel_rfl) (by kernel_rfl)
noncomputable def types_Table_Get (H : Heap) (p0 : Ptr) (p1 : Int) : Option (T_types_Type) :=
  bind2 (if (decide (p1 < 0)) = true then (some (p0, true)) else ((p0).bnd fun i2 o3 =>
  bind1 (get_types_Table H i2 o3) fun x5 =>
  some ((Ptr.at i2 o3), (decide (p1 ≥ (x5.list_.length : Int)))))) fun w7 w8 =>
  if w8 = true then (some (T_types_Type.mk 0 0 0 0 false ([] : List T_types_Field)))
  else ((w7).bnd fun i11 o12 =>
  bind1 (get_types_Table H i11 o12) fun x14 =>
  bind1 (gi x14.list_ p1) fun x16 =>
  bind1 (app 32 ([] : List T_types_Field) x16.Fields_) fun v18 =>
  some (T_types_Type.mk x16.Kind_ x16.Len_ x16.Base_ x16.Size_ x16.Open_ v18))
theorem ok_types_Table_Get (H : Heap) {p0 : Ptr} {p1 : Int} {ra : T_types_Type} (hF : types_Table_Get H p0 p1 = some ra) : evS X 23 [.one .top (Ptr.av p0), .one .top (.int .i64 p1)] H = some (.agg (m1_types_Type ra), H) := by
  let E1 : Ptr → Nat × TV := fun z0 => (0, .one .top (Ptr.av z0))
  let E2 : Nat × TV := (1, .one .top (.int .i64 p1))
  let E3 : Nat × TV := (4, .one .top (.loc 4 0))
  let B4 : Nat × List MC := (4, [(.top, .int .i64 0), (.top, .int .i64 0), (.top, .int .i64 0), (.top, .int .i64 0), (.top, .bool false), ((.own 1), .sl 3 (List.map e_types_Field ([] : List T_types_Field)))])
  let E6 : Nat × TV := (6, .one .top (.int .i64 p1))
  let E7 : Nat × TV := (7, .one .top (.bool false))
  let E8 : Nat × TV := (8, .one .top (.bool false))
  let E9 : Nat × TV := (9, .one .top (.int .i64 p1))
  let E16 : Nat × TV := (5, .one .top (.loc 5 0))
  let E23 : Nat × TV := (22, .one .top (.int .i64 p1))
  let E26 : Nat × TV := (26, .one .top (.loc 5 5))
  let E28 : Nat × TV := (25, .one .top .junk)
  refine w_fun Try.func23 rfl (by kernel_rfl) true (by kernel_rfl) (s0 := (⟨[(E1 p0), E2], [], H⟩ : St)) (by kernel_rfl) ?_
  unfold types_Table_Get at hF
  refine w_seq ?_
  refine w_reg ⟨[(E1 p0), E2, E3], [B4], H⟩ (by generalize p0 = qp0; cases qp0 <;> kernel_rfl) ?_
  refine w_seq ?_
  refine w_seq ?_
  obtain ⟨w7, w8, hB9, hF⟩ := bind2_inv hF
  let E5 : Ptr → Nat × TV := fun z0 => (0, .one .top (Ptr.av z0))
  refine w_regO ⟨[(E5 w7), E2, E3, (16, .one .top (.bool w8))], [B4], H⟩ ?_ ?_
  refine o_run 3 ⟨[(E1 p0), E2, E3, E6, (7, .one .top (.bool (decide (p1 < 0)))), (8, .one .top (.bool (decide (p1 < 0))))], [B4], H⟩ (by kernel_rfl) (by generalize p0 = qp0; cases qp0 <;> kernel_rfl) ?_
  rcases if_inv hB9 with ⟨h1, hB9⟩ | ⟨h1, hB9⟩
  refine o_eq (congrArg (fun q => (⟨[(E1 p0), E2, E3, E6, (7, .one .top (.bool q)), (8, .one .top (.bool q))], [B4], H⟩ : St)) h1) ?_
  refine o_run 8 ⟨[(E1 p0), E2, E3, E6, (7, .one .top (.bool true)), (8, .one .top (.bool true)), (9, .tup []), (10, .tup []), (11, .tup []), (12, .tup []), (13, .tup []), (14, .tup []), (15, .tup []), (16, .one .top (.bool true))], [B4], H⟩ (by kernel_rfl) (by generalize p0 = qp0; cases qp0 <;> kernel_rfl) ?_
  cases hB9
  exact o_end (by kernel_rfl) (by kernel_rfl)
  refine o_eq (congrArg (fun q => (⟨[(E1 p0), E2, E3, E6, (7, .one .top (.bool q)), (8, .one .top (.bool q))], [B4], H⟩ : St)) h1) ?_
  refine o_run 2 ⟨[(E1 p0), E2, E3, E6, E7, E8, E9, (10, .one .top (Ptr.av p0))], [B4], H⟩ (by kernel_rfl) (by generalize p0 = qp0; cases qp0 <;> kernel_rfl) ?_
  obtain ⟨i2, o3, h4, hB9⟩ := pbnd_inv hB9
  let E10 : Nat × TV := (0, .one .top (.obj i2 o3))
  let E11 : Nat × TV := (10, .one .top (.obj i2 o3))
  let E12 : Nat × TV := (11, .one .top (.obj i2 o3))
  let E13 : Nat × TV := (12, .one .top (.obj i2 o3))
  let S29 : St := ⟨[E10, E2, E3, E6, E7, E8, E9, E11, E12, E13], [B4], H⟩
  refine o_eq (congrArg (fun q => (⟨[(0, .one .top (Ptr.av q)), E2, E3, E6, E7, E8, E9, (10, .one .top (Ptr.av q))], [B4], H⟩ : St)) h4) ?_
  refine o_run 1 ⟨[E10, E2, E3, E6, E7, E8, E9, E11, E12], [B4], H⟩ (by kernel_rfl) (by kernel_rfl) ?_
  obtain ⟨x5, V6, hB9⟩ := bind1_inv hB9
  replace V6 := hgetT_inv V6
  let E14 : Nat × TV := (13, .one .bh (.sl 6 (List.map e_types_Type x5.list_)))
  let E15 : Nat × TV := (14, .one .top (.int .i64 (x5.list_.length : Int)))
  let S30 : St := ⟨[E10, E2, E3, E6, E7, E8, E9, E11, E12, E13, E14], [B4], H⟩
  refine o_run 1 S29 (by kernel_rfl) (by kernel_rfl) ?_
  refine o_one S30 (st_ld (X := X) S29 135 V6 0 1 false (.one .bh (.sl 6 (List.map e_types_Type x5.list_))) (some 13) (by kernel_rfl) (by kernel_rfl) (by kernel_rfl) (by kernel_rfl) (by kernel_rfl) (by kernel_rfl)) ?_
  refine o_one ⟨[E10, E2, E3, E6, E7, E8, E9, E11, E12, E13, E14, E15], [B4], H⟩ (st_len S30 x5.list_ e_types_Type (some 14) (by kernel_rfl) (by kernel_rfl)) ?_
  refine o_run 2 ⟨[E10, E2, E3, E6, E7, E8, E9, E11, E12, E13, E14, E15, (15, .one .top (.bool (decide (p1 ≥ (x5.list_.length : Int))))), (16, .one .top (.bool (decide (p1 ≥ (x5.list_.length : Int)))))], [B4], H⟩ (by kernel_rfl) (by kernel_rfl) ?_
  cases hB9
  exact o_end (by kernel_rfl) (by kernel_rfl)
  rcases if_inv hF with ⟨h10, hF⟩ | ⟨h10, hF⟩
  refine w_cT (m := .top) h10 (s1 := (⟨[E3], [B4], H⟩ : St)) (by kernel_rfl) (by kernel_rfl) ?_
  refine w_seq ?_
  refine w_reg ⟨[E3], [B4], H⟩ (by kernel_rfl) ?_
  refine w_ret ?_
  obtain e0 := some1_inv hF
  subst e0
  exact fin_pure (v := .agg [(.top, .int .i64 0), (.top, .int .i64 0), (.top, .int .i64 0), (.top, .int .i64 0), (.top, .bool false), ((.own 1), .sl 3 (List.map e_types_Field ([] : List T_types_Field)))]) (by kernel_rfl) (by kernel_rfl) rfl (by kernel_rfl)
  refine w_cF (m := .top) h10 (s1 := (⟨[(E5 w7), E2, E3], [B4], H⟩ : St)) (by kernel_rfl) (by kernel_rfl) ?_
  refine w_skip ?_
  refine w_seq ?_
  obtain ⟨i11, o12, h13, hF⟩ := pbnd_inv hF
  let E18 : Nat × TV := (0, .one .top (.obj i11 o12))
  let E19 : Nat × TV := (18, .one .top (.obj i11 o12))
  let E20 : Nat × TV := (19, .one .top (.obj i11 o12))
  let E21 : Nat × TV := (20, .one .top (.obj i11 o12))
  let S31 : St := ⟨[E18, E2, E3, E19, E20, E21], [B4], H⟩
  obtain ⟨x14, V15, hF⟩ := bind1_inv hF
  replace V15 := hgetT_inv V15
  let E22 : Nat × TV := (21, .one .bh (.sl 6 (List.map e_types_Type x14.list_)))
  let S32 : St := ⟨[E18, E2, E3, E19, E20, E21, E22, E23], [B4], H⟩
  obtain ⟨x16, h17, hF⟩ := bind1_inv hF
  let B17 : Nat × List MC := (5, (m0_types_Type x16))
  let E24 : Nat × TV := (23, .one .top (.rd .bh .bh [.int .i64 x16.Kind_, .int .i64 x16.Len_, .int .i64 x16.Base_, .int .i64 x16.Size_, .bool x16.Open_, .sl 3 (List.map e_types_Field x16.Fields_)] 0))
  let E27 : Nat × TV := (27, .one .bh (.sl 3 (List.map e_types_Field x16.Fields_)))
  refine w_regO ⟨[E3, E16], [B4, B17], H⟩ ?_ ?_
  refine o_run 1 ⟨[(E5 w7), E2, E3, (18, .one .top (Ptr.av w7))], [B4], H⟩ (by kernel_rfl) (by generalize w7 = qp0; cases qp0 <;> kernel_rfl) ?_
  refine o_eq (congrArg (fun q => (⟨[(0, .one .top (Ptr.av q)), E2, E3, (18, .one .top (Ptr.av q))], [B4], H⟩ : St)) h13) ?_
  refine o_run 1 ⟨[E18, E2, E3, E19, E20], [B4], H⟩ (by kernel_rfl) (by kernel_rfl) ?_
  refine o_run 1 S31 (by kernel_rfl) (by kernel_rfl) ?_
  refine o_one ⟨[E18, E2, E3, E19, E20, E21, E22], [B4], H⟩ (st_ld (X := X) S31 135 V15 0 1 false (.one .bh (.sl 6 (List.map e_types_Type x14.list_))) (some 21) (by kernel_rfl) (by kernel_rfl) (by kernel_rfl) (by kernel_rfl) (by kernel_rfl) (by kernel_rfl)) ?_
  refine o_run 1 S32 (by kernel_rfl) (by kernel_rfl) ?_
  refine o_one ⟨[E18, E2, E3, E19, E20, E21, E22, E23, E24], [B4], H⟩ (st_ix (X := X) S32 135 55 6 h17 e_types_Type .bh (some 23) (by kernel_rfl) (by kernel_rfl) (by kernel_rfl) (by kernel_rfl)) ?_
  refine o_run 3 ⟨[E18, E2, E3, E16, E19, E20, E21, E22, E23, E24, (24, .agg (m0_types_Type x16))], [B4, B17], H⟩ (by kernel_rfl) (by kernel_rfl) ?_
  exact o_end (by kernel_rfl) (by kernel_rfl)
  refine w_seq ?_
  obtain ⟨v18, h19, hF⟩ := bind1_inv hF
  let B25 : Nat × List MC := (5, [(.top, .int .i64 x16.Kind_), (.top, .int .i64 x16.Len_), (.top, .int .i64 x16.Base_), (.top, .int .i64 x16.Size_), (.top, .bool x16.Open_), ((.own 1), .sl 3 (List.map e_types_Field v18))])
  refine w_regO ⟨[E3, E16], [B4, B25], H⟩ ?_ ?_
  refine o_run 3 ⟨[E3, E16, (25, .one (.own 1) (.sl 3 (List.map e_types_Field ([] : List T_types_Field)))), E26, E27], [B4, B17], H⟩ (by kernel_rfl) (by kernel_rfl) ?_
  refine o_one ⟨[E3, E16, E28, E26, E27, (28, .one (.own 1) (.sl 3 (List.map e_types_Field v18)))], [B4, B17], H⟩ (st_app (X := X) (⟨[E3, E16, E28, E26, E27], [B4, B17], H⟩ : St) 32 h19 53 53 58 3 0 [(.top, .str ByteArray.empty), (.top, .int .i64 0), (.top, .int .i64 0)] .bh e_types_Field 9 (some 28) (by kernel_rfl) (by kernel_rfl) (by kernel_rfl) (by kernel_rfl) (by kernel_rfl) (by kernel_rfl) (by kernel_rfl) (by kernel_rfl) (depth_flat rfl fun _ => rfl) (fun _ => rfl) (by kernel_rfl)) ?_
  refine o_run 2 ⟨[E3, E16, E28, E26, E27, (28, .one .top .junk), (29, .one .top (.loc 5 5))], [B4, B25], H⟩ (by kernel_rfl) (by kernel_rfl) ?_
  exact o_end (by kernel_rfl) (by kernel_rfl)
  refine w_seq ?_
  refine w_reg ⟨[E3], [(4, [(.top, .int .i64 x16.Kind_), (.top, .int .i64 x16.Len_), (.top, .int .i64 x16.Base_), (.top, .int .i64 x16.Size_), (.top, .bool x16.Open_), ((.own 1), .sl 3 (List.map e_types_Field v18))])], H⟩ (by kernel_rfl) ?_
  refine w_ret ?_
  obtain e0 := some1_inv hF
  subst e0
  exact fin_pure (v := .agg [(.top, .int .i64 x16.Kind_), (.top, .int .i64 x16.Len_), (.top, .int .i64 x16.Base_), (.top, .int .i64 x16.Size_), (.top, .bool x16.Open_), ((.own 1), .sl 3 (List.map e_types_Field v18))]) (by kernel_rfl) (by kernel_rfl) rfl (by kernel_rfl)
noncomputable def types_Table_whole (H : Heap) (p0 : Ptr) (p1 : Int) : Option (Bool) :=
  bind1 (types_Table_Get H p0 p1) fun r1 =>
  some ((r1.Kind_ != 0) && ((r1.Kind_ != 4) && (!r1.Open_)))
theorem ok_types_Table_whole (H : Heap) {p0 : Ptr} {p1 : Int} {ra : Bool} (hF : types_Table_whole H p0 p1 = some ra) : evS X 91 [.one .top (Ptr.av p0), .one .top (.int .i64 p1)] H = some (.one .top (.bool ra), H) := by
  let E1 : Ptr → Nat × TV := fun z0 => (0, .one .top (Ptr.av z0))
  let E2 : Nat × TV := (1, .one .top (.int .i64 p1))
  let E3 : Nat × TV := (5, .one .top (.loc 5 0))
  let E5 : Ptr → Nat × TV := fun z0 => (6, .one .top (Ptr.av z0))
  let E6 : Nat × TV := (7, .one .top (.int .i64 p1))
  let E7 : Nat × TV := (9, .one .top (.loc 5 0))
  let E9 : Nat × TV := (11, .one .top (.bool true))
  let E10 : Nat × TV := (12, .one .top (.bool true))
  let E11 : Nat × TV := (13, .one .top (.loc 5 0))
  let S13 : Ptr → St := fun z0 => ⟨[(E1 z0), E2], [], H⟩
  let S14 : Ptr → St := fun z0 => ⟨[(E1 z0), E2, (E5 z0), E6], [], H⟩
  refine w_fun Try.func91 rfl (by kernel_rfl) true (by kernel_rfl) (s0 := (S13 p0)) (by kernel_rfl) ?_
  unfold types_Table_whole at hF
  refine w_seq ?_
  refine w_reg (S13 p0) (by generalize p0 = qp0; cases qp0 <;> kernel_rfl) ?_
  refine w_seq ?_
  obtain ⟨r1, c2, hF⟩ := bind1_inv hF
  let B4 : Nat × List MC := (5, (m1_types_Type r1))
  let E8 : Nat × TV := (10, .one .top (.int .i64 r1.Kind_))
  let E12 : Nat × TV := (14, .one .top (.int .i64 r1.Kind_))
  refine w_regO ⟨[E3], [B4], H⟩ ?_ ?_
  refine o_run 2 (S14 p0) (by kernel_rfl) (by generalize p0 = qp0; cases qp0 <;> kernel_rfl) ?_
  refine o_one ⟨[(E1 p0), E2, (E5 p0), E6, (8, .agg (m1_types_Type r1))], [], H⟩ (st_call (d := (some 8)) (fz := false) (pure := true) (own := false) (S14 p0) (ok_types_Table_Get H c2) (by generalize p0 = qp0; cases qp0 <;> kernel_rfl) (by generalize p0 = qp0; cases qp0 <;> kernel_rfl)) ?_
  refine o_run 2 ⟨[(E1 p0), E2, E3, (E5 p0), E6, (8, .agg [(.top, .int .i64 r1.Kind_), (.top, .int .i64 r1.Len_), (.top, .int .i64 r1.Base_), (.top, .int .i64 r1.Size_), (.top, .bool r1.Open_), (.top, .junk)])], [B4], H⟩ (by kernel_rfl) (by generalize p0 = qp0; cases qp0 <;> kernel_rfl) ?_
  exact o_end (by kernel_rfl) (by kernel_rfl)
  refine w_seq ?_
  refine w_regO ⟨[(4, .one .top (.bool ((r1.Kind_ != 0) && ((r1.Kind_ != 4) && (!r1.Open_)))))], [], H⟩ ?_ ?_
  refine o_run 4 ⟨[E3, E7, E8, (11, .one .top (.bool (r1.Kind_ != 0))), (12, .one .top (.bool (r1.Kind_ != 0)))], [B4], H⟩ (by kernel_rfl) (by kernel_rfl) ?_
  rcases bool_cases (r1.Kind_ != 0) with h3 | h3
  refine o_eq (congrArg (fun q => (⟨[E3, E7, E8, (11, .one .top (.bool q)), (12, .one .top (.bool q))], [B4], H⟩ : St)) h3) ?_
  refine o_run 5 ⟨[E3, E7, E8, E9, E10, E11, E12, (15, .one .top (.bool (r1.Kind_ != 4))), (16, .one .top (.bool (r1.Kind_ != 4))), (17, .one .top (.bool (r1.Kind_ != 4)))], [B4], H⟩ (by kernel_rfl) (by kernel_rfl) ?_
  rcases bool_cases (r1.Kind_ != 4) with h4 | h4
  refine o_eq (congrArg (fun q => (⟨[E3, E7, E8, E9, E10, E11, E12, (15, .one .top (.bool q)), (16, .one .top (.bool q)), (17, .one .top (.bool q))], [B4], H⟩ : St)) h4) ?_
  refine o_run 5 ⟨[(4, .one .top (.bool (!r1.Open_))), E3, E7, E8, E9, E10, E11, E12, (15, .one .top (.bool true)), (16, .one .top (.bool true)), (17, .one .top (.bool true)), (18, .one .top (.loc 5 4)), (19, .one .top (.bool r1.Open_)), (20, .one .top (.bool (!r1.Open_))), (21, .one .top (.bool (!r1.Open_)))], [B4], H⟩ (by kernel_rfl) (by kernel_rfl) ?_
  refine o_eq2 (congrArg (fun q0 => (⟨[(4, .one .top (.bool q0))], [], H⟩ : St)) (show (!r1.Open_) = ((r1.Kind_ != 0) && ((r1.Kind_ != 4) && (!r1.Open_))) by simp [h3, h4])) ?_
  exact o_end (by kernel_rfl) (by kernel_rfl)
  refine o_eq (congrArg (fun q => (⟨[E3, E7, E8, E9, E10, E11, E12, (15, .one .top (.bool q)), (16, .one .top (.bool q)), (17, .one .top (.bool q))], [B4], H⟩ : St)) h4) ?_
  refine o_run 5 ⟨[(4, .one .top (.bool false)), E3, E7, E8, E9, E10, E11, E12, (15, .one .top (.bool false)), (16, .one .top (.bool false)), (17, .one .top (.bool false)), (18, .tup []), (19, .tup []), (20, .tup []), (21, .one .top (.bool false))], [B4], H⟩ (by kernel_rfl) (by kernel_rfl) ?_
  refine o_eq2 (congrArg (fun q0 => (⟨[(4, .one .top (.bool q0))], [], H⟩ : St)) (show false = ((r1.Kind_ != 0) && ((r1.Kind_ != 4) && (!r1.Open_))) by simp [h3, h4])) ?_
  exact o_end (by kernel_rfl) (by kernel_rfl)
  refine o_eq (congrArg (fun q => (⟨[E3, E7, E8, (11, .one .top (.bool q)), (12, .one .top (.bool q))], [B4], H⟩ : St)) h3) ?_
  refine o_run 10 ⟨[(4, .one .top (.bool false)), E3, E7, E8, (11, .one .top (.bool false)), (12, .one .top (.bool false)), (13, .tup []), (14, .tup []), (15, .tup []), (16, .one .top (.bool false)), (17, .one .top (.bool false)), (18, .tup []), (19, .tup []), (20, .tup []), (21, .one .top (.bool false))], [B4], H⟩ (by kernel_rfl) (by kernel_rfl) ?_
  refine o_eq2 (congrArg (fun q0 => (⟨[(4, .one .top (.bool q0))], [], H⟩ : St)) (show false = ((r1.Kind_ != 0) && ((r1.Kind_ != 4) && (!r1.Open_))) by simp [h3])) ?_
  exact o_end (by kernel_rfl) (by kernel_rfl)
  refine w_ret ?_
  obtain e0 := some1_inv hF
  subst e0
  exact fin_pure (v := .one .top (.bool ((r1.Kind_ != 0) && ((r1.Kind_ != 4) && (!r1.Open_))))) (by kernel_rfl) (by kernel_rfl) rfl (by kernel_rfl)
noncomputable def types_Table_add (H : Heap) (p0 : Ptr) (p1 : T_types_Type) : Option (Heap × Int × Int) :=
  (p0).bnd fun i1 o2 =>
  bind1 (get_types_Table H i1 o2) fun x4 =>
  if (decide ((x4.list_.length : Int) ≥ 4096)) = true then (some (H, 0, 242))
  else (bind1 (app 64 x4.list_ ([p1] : List T_types_Type)) fun v7 =>
  bnd (set_types_Table H i1 o2 (T_types_Table.mk v7)) fun H9 =>
  some (H9, (IntKind.wrap .i64 ((v7.length : Int) - 1)), 0))
theorem ok_types_Table_add (H : Heap) {p0 : Ptr} {p1 : T_types_Type} {ra : Int} {rb : Int} {Hr : Heap} (hF : types_Table_add H p0 p1 = some (Hr, ra, rb)) : evS X 92 [.one .top (Ptr.av p0), .agg (m1_types_Type p1)] H = some (.tup [.one .top (.int .i64 ra), .one .top (.int .i64 rb)], Hr) := by
  let E1 : Ptr → Nat × TV := fun z0 => (0, .one .top (Ptr.av z0))
  let E2 : Nat × TV := (3, .one .top (.loc 3 0))
  let B3 : Nat × List MC := (3, (m1_types_Type p1))
  let E15 : Nat × TV := (17, .agg (m1_types_Type p1))
  let B16 : Nat × List MC := (3, [(.top, .int .i64 p1.Kind_), (.top, .int .i64 p1.Len_), (.top, .int .i64 p1.Base_), (.top, .int .i64 p1.Size_), (.top, .bool p1.Open_), (.top, .junk)])
  let E17 : Nat × TV := (16, .one .top .junk)
  let E18 : Nat × TV := (17, .agg [(.top, .int .i64 p1.Kind_), (.top, .int .i64 p1.Len_), (.top, .int .i64 p1.Base_), (.top, .int .i64 p1.Size_), (.top, .bool p1.Open_), (.top, .junk)])
  let E19 : Nat × TV := (18, .one .top .junk)
  let E20 : Nat × TV := (19, .one .top .junk)
  let E24 : Nat × TV := (18, .one (.own 2) (.sl 6 (List.map e_types_Type ([p1] : List T_types_Type))))
  refine w_fun Try.func92 rfl (by kernel_rfl) false (by kernel_rfl) (s0 := (⟨[(E1 p0), (1, .agg (m1_types_Type p1))], [], H⟩ : St)) (by kernel_rfl) ?_
  unfold types_Table_add at hF
  refine w_seq ?_
  refine w_reg ⟨[(E1 p0), E2], [B3], H⟩ (by generalize p0 = qp0; cases qp0 <;> kernel_rfl) ?_
  refine w_seq ?_
  refine w_seq ?_
  obtain ⟨i1, o2, h3, hF⟩ := pbnd_inv hF
  let E4 : Nat × TV := (0, .one .top (.obj i1 o2))
  let E6 : Nat × TV := (6, .one .top (.obj i1 o2))
  let E7 : Nat × TV := (7, .one .top (.obj i1 o2))
  let E8 : Nat × TV := (8, .one .top (.obj i1 o2))
  let E11 : Nat × TV := (12, .one .top (.obj i1 o2))
  let E12 : Nat × TV := (13, .one .top (.obj i1 o2))
  let E13 : Nat × TV := (14, .one .top (.obj i1 o2))
  let E14 : Nat × TV := (15, .one .top (.obj i1 o2))
  let E21 : Nat × TV := (20, .one .top (.obj i1 o2))
  let E22 : Nat × TV := (21, .one .top (.obj i1 o2))
  let E27 : Nat × TV := (22, .one .top (.obj i1 o2))
  let E28 : Nat × TV := (23, .one .top (.obj i1 o2))
  let E29 : Nat × TV := (24, .one .top (.obj i1 o2))
  let S32 : St := ⟨[E4, E2, E6, E7, E8], [B3], H⟩
  let S34 : St := ⟨[E4, E2, E11, E12, E13, E14, E15], [B16], H⟩
  let S38 : St := ⟨[E4, E2, E11, E12, E13, E14, E17, E18, E19], [B16], (hset H i1 o2 [(.top, .junk)])⟩
  let S41 : St := ⟨[E4, E2, E11, E12, E13, E14, E17, E18, E19, E20, E21, E22], [B16], (hset H i1 o2 [(.top, .junk)])⟩
  let S42 : St := ⟨[E4, E2, E11, E12, E13, E14, E18, E24], [B16], H⟩
  obtain ⟨x4, V5, hF⟩ := bind1_inv hF
  replace V5 := hgetT_inv V5
  let E5 : Nat × TV := (11, .one .top (.bool (decide ((x4.list_.length : Int) ≥ 4096))))
  let E9 : Nat × TV := (9, .one .bh (.sl 6 (List.map e_types_Type x4.list_)))
  let E10 : Nat × TV := (10, .one .top (.int .i64 (x4.list_.length : Int)))
  let E23 : Nat × TV := (16, .one (.own 2) (.sl 6 (List.map e_types_Type x4.list_)))
  let S33 : St := ⟨[E4, E2, E6, E7, E8, E9], [B3], H⟩
  let S36 : St := ⟨[E4, E2, E11, E12, E13, E14, E23, E18, E24], [B16], (hset H i1 o2 [(.top, .junk)])⟩
  refine w_regO ⟨[E4, E2, E5], [B3], H⟩ ?_ ?_
  refine o_run 1 ⟨[(E1 p0), E2, (6, .one .top (Ptr.av p0))], [B3], H⟩ (by kernel_rfl) (by generalize p0 = qp0; cases qp0 <;> kernel_rfl) ?_
  refine o_eq (congrArg (fun q => (⟨[(0, .one .top (Ptr.av q)), E2, (6, .one .top (Ptr.av q))], [B3], H⟩ : St)) h3) ?_
  refine o_run 1 ⟨[E4, E2, E6, E7], [B3], H⟩ (by kernel_rfl) (by kernel_rfl) ?_
  refine o_run 1 S32 (by kernel_rfl) (by kernel_rfl) ?_
  refine o_one S33 (st_ld (X := X) S32 135 V5 0 1 false (.one .bh (.sl 6 (List.map e_types_Type x4.list_))) (some 9) (by kernel_rfl) (by kernel_rfl) (by kernel_rfl) (by kernel_rfl) (by kernel_rfl) (by kernel_rfl)) ?_
  refine o_one ⟨[E4, E2, E6, E7, E8, E9, E10], [B3], H⟩ (st_len S33 x4.list_ e_types_Type (some 10) (by kernel_rfl) (by kernel_rfl)) ?_
  refine o_run 1 ⟨[E4, E2, E6, E7, E8, E9, E10, E5], [B3], H⟩ (by kernel_rfl) (by kernel_rfl) ?_
  exact o_end (by kernel_rfl) (by kernel_rfl)
  rcases if_inv hF with ⟨h6, hF⟩ | ⟨h6, hF⟩
  refine w_cT (m := .top) h6 (s1 := (⟨[], [], H⟩ : St)) (by kernel_rfl) (by kernel_rfl) ?_
  refine w_seq ?_
  refine w_reg ⟨[(4, .one .top (.int .i64 0)), (5, .one .top (.int .i64 242))], [], H⟩ (by kernel_rfl) ?_
  refine w_ret ?_
  obtain ⟨e0, e1, e2⟩ := some3_inv hF
  subst e0
  subst e1
  subst e2
  exact fin_imp (v := .tup [.one .top (.int .i64 0), .one .top (.int .i64 242)]) (by kernel_rfl) (by kernel_rfl) (by kernel_rfl)
  refine w_cF (m := .top) h6 (s1 := (⟨[E4, E2], [B3], H⟩ : St)) (by kernel_rfl) (by kernel_rfl) ?_
  refine w_skip ?_
  refine w_seq ?_
  obtain ⟨v7, h8, hF⟩ := bind1_inv hF
  let E25 : Nat × TV := (19, .one (.own 2) (.sl 6 (List.map e_types_Type v7)))
  let E26 : Nat × TV := (4, .one .top (.int .i64 (IntKind.wrap .i64 ((v7.length : Int) - 1))))
  let E30 : Nat × TV := (25, .one .bh (.sl 6 (List.map e_types_Type v7)))
  let E31 : Nat × TV := (26, .one .top (.int .i64 (v7.length : Int)))
  let S35 : St := ⟨[E4, E2, E11, E12, E13, E14, E17, E18, E19, E20, E21, E22], [B16], (hset H i1 o2 [((.own 2), .sl 6 (List.map e_types_Type v7))])⟩
  let S37 : St := ⟨[E4, E2, E11, E12, E13, E14, E17, E18, E19, E25], [B16], (hset H i1 o2 [(.top, .junk)])⟩
  let S39 : St := ⟨[E4, E2, E11, E12, E13, E14, E17, E18, E19, E25, E21], [B16], (hset H i1 o2 [(.top, .junk)])⟩
  let S40 : St := ⟨[E4, E2, E11, E12, E13, E14, E17, E18, E19, E25, E21, E22], [B16], (hset H i1 o2 [(.top, .junk)])⟩
  obtain ⟨H9, h10, hF⟩ := bnd_inv hF
  let S43 : St := ⟨[E4, E27, E28, E29], [], H9⟩
  let S44 : St := ⟨[E4, E27, E28, E29, E30], [], H9⟩
  have V11 : hget H9 i1 o2 1 = some (o_types_Table (T_types_Table.mk v7)) := by rw [← h10]; exact hset_get V5 rfl
  let K45 : Sch := .last 7 (.take 8 (.take 9 (.last 10 .done)))
  refine w_regD (.take 0 (.take 1 (.take 2 (.take 3 (.take 5 (.alt 4 (.last 6 K45) (.last 6 (.last 4 K45)))))))) (by kernel_rfl) (⟨[E4], [], H9⟩ : St) ?_ ?_
  refine d_take ⟨[E4, E2, E11], [B3], H⟩ (by kernel_rfl) ?_
  refine d_take ⟨[E4, E2, E11, E12], [B3], H⟩ (by kernel_rfl) ?_
  refine d_take ⟨[E4, E2, E11, E12, E13], [B3], H⟩ (by kernel_rfl) ?_
  refine d_take ⟨[E4, E2, E11, E12, E13, E14], [B3], H⟩ (by kernel_rfl) ?_
  refine d_take S34 (by kernel_rfl) ?_
  refine q_in S35 ?_ ?_
  refine q_alt ⟨[E4, E2, E11, E12, E13, E14, E23, E15], [B16], (hset H i1 o2 [(.top, .junk)])⟩ (st_ldT (X := X) (h2 := (hset H i1 o2 [(.top, .junk)])) S34 135 V5 0 1 false (.one (.own 2) (.sl 6 (List.map e_types_Type x4.list_))) (some 16) (by kernel_rfl) (by kernel_rfl) (by kernel_rfl) (by kernel_rfl) (by kernel_rfl) (hset_sub0 (k := 0) V5 (Nat.le_of_ble_eq_true rfl)) (by kernel_rfl)) ?_ ?_
  refine q_last S36 (by kernel_rfl) ?_
  refine q_last S37 (st_app (X := X) S38 64 h8 135 135 55 6 1 [(.top, .int .i64 0), (.top, .int .i64 0), (.top, .int .i64 0), (.top, .int .i64 0), (.top, .bool false), ((.own 1), .sl 3 (List.map e_types_Field ([] : List T_types_Field)))] (.own 2) e_types_Type 1 (some 19) (by kernel_rfl) (by kernel_rfl) (by kernel_rfl) (by kernel_rfl) (by kernel_rfl) (by kernel_rfl) (by kernel_rfl) (by kernel_rfl) (by kernel_rfl) (fun _ => rfl) (by kernel_rfl)) ?_
  refine q_take S39 (by kernel_rfl) ?_
  refine q_take S40 (by kernel_rfl) ?_
  refine q_last S35 (st_st (X := X) (lc := [3]) (h2 := (hset H i1 o2 [((.own 2), .sl 6 (List.map e_types_Type v7))])) S41 135 (hset_get V5 rfl) 0 1 (.one (.own 2) (.sl 6 (List.map e_types_Type v7))) (by kernel_rfl) (by kernel_rfl) (by kernel_rfl) (by kernel_rfl) (by kernel_rfl) (by kernel_rfl) (hset_sub V5 rfl (Nat.le_of_ble_eq_true rfl)) (by kernel_rfl)) ?_
  exact q_end (by kernel_rfl)
  refine q_last S42 (by kernel_rfl) ?_
  refine q_last S36 (st_ldT (X := X) (h2 := (hset H i1 o2 [(.top, .junk)])) S42 135 V5 0 1 false (.one (.own 2) (.sl 6 (List.map e_types_Type x4.list_))) (some 16) (by kernel_rfl) (by kernel_rfl) (by kernel_rfl) (by kernel_rfl) (by kernel_rfl) (hset_sub0 (k := 0) V5 (Nat.le_of_ble_eq_true rfl)) (by kernel_rfl)) ?_
  refine q_last S37 (st_app (X := X) S38 64 h8 135 135 55 6 1 [(.top, .int .i64 0), (.top, .int .i64 0), (.top, .int .i64 0), (.top, .int .i64 0), (.top, .bool false), ((.own 1), .sl 3 (List.map e_types_Field ([] : List T_types_Field)))] (.own 2) e_types_Type 1 (some 19) (by kernel_rfl) (by kernel_rfl) (by kernel_rfl) (by kernel_rfl) (by kernel_rfl) (by kernel_rfl) (by kernel_rfl) (by kernel_rfl) (by kernel_rfl) (fun _ => rfl) (by kernel_rfl)) ?_
  refine q_take S39 (by kernel_rfl) ?_
  refine q_take S40 (by kernel_rfl) ?_
  refine q_last S35 (st_st (X := X) (lc := [3]) (h2 := (hset H i1 o2 [((.own 2), .sl 6 (List.map e_types_Type v7))])) S41 135 (hset_get V5 rfl) 0 1 (.one (.own 2) (.sl 6 (List.map e_types_Type v7))) (by kernel_rfl) (by kernel_rfl) (by kernel_rfl) (by kernel_rfl) (by kernel_rfl) (by kernel_rfl) (hset_sub V5 rfl (Nat.le_of_ble_eq_true rfl)) (by kernel_rfl)) ?_
  exact q_end (by kernel_rfl)
  refine eq_via (congrArg (fun q => (⟨[E4, E2, E11, E12, E13, E14, E17, E18, E19, E20, E21, E22], [B16], q⟩ : St)) h10) ?_
  kernel_rfl
  refine w_seq ?_
  refine w_regO ⟨[E26, (5, .one .top (.int .i64 0))], [], H9⟩ ?_ ?_
  refine o_run 3 S43 (by kernel_rfl) (by kernel_rfl) ?_
  refine o_one S44 (st_ld (X := X) S43 135 V11 0 1 false (.one .bh (.sl 6 (List.map e_types_Type v7))) (some 25) (by kernel_rfl) (by kernel_rfl) (by kernel_rfl) (by kernel_rfl) (by kernel_rfl) (by kernel_rfl)) ?_
  refine o_one ⟨[E4, E27, E28, E29, E30, E31], [], H9⟩ (st_len S44 v7 e_types_Type (some 26) (by kernel_rfl) (by kernel_rfl)) ?_
  refine o_run 3 ⟨[E4, E26, (5, .one .top (.int .i64 0)), E27, E28, E29, E30, E31, (27, .one .top (.int .i64 (IntKind.wrap .i64 ((v7.length : Int) - 1))))], [], H9⟩ (by kernel_rfl) (by kernel_rfl) ?_
  exact o_end (by kernel_rfl) (by kernel_rfl)
  refine w_ret ?_
  obtain ⟨e0, e1, e2⟩ := some3_inv hF
  subst e0
  subst e1
  subst e2
  exact fin_imp (v := .tup [.one .top (.int .i64 (IntKind.wrap .i64 ((v7.length : Int) - 1))), .one .top (.int .i64 0)]) (by kernel_rfl) (by kernel_rfl) (by kernel_rfl)
noncomputable def types_Table_Array (H : Heap) (p0 : Ptr) (p1 : Int) (p2 : Int) : Option (Heap × Int × Int) :=
  bind1 (types_Table_whole H p0 p2) fun r1 =>
  if (!r1) = true then (some (H, 0, 91))
  else (bind1 (types_Table_Get H p0 p2) fun r4 =>
  bind1 (if (decide (p1 < 1)) = true then (some true) else (if (decide (p1 > 16384)) = true then (some true) else (if (decide (r4.Size_ > 0)) = true then (bind1 (quoI .i64 16384 r4.Size_) fun v9 =>
  some (decide (p1 > v9))) else (some false)))) fun w11 =>
  if w11 = true then (some (H, 0, 90))
  else (bind3 (types_Table_add H p0 (T_types_Type.mk 5 p1 p2 (IntKind.wrap .i64 (p1 * r4.Size_)) false ([] : List T_types_Field))) fun H17 r14 r15 =>
  some (H17, r14, r15)))
theorem ok_types_Table_Array (H : Heap) {p0 : Ptr} {p1 : Int} {p2 : Int} {ra : Int} {rb : Int} {Hr : Heap} (hF : types_Table_Array H p0 p1 p2 = some (Hr, ra, rb)) : evS X 68 [.one .top (Ptr.av p0), .one .top (.int .i64 p1), .one .top (.int .i64 p2)] H = some (.tup [.one .top (.int .i64 ra), .one .top (.int .i64 rb)], Hr) := by
  let E1 : Ptr → Nat × TV := fun z0 => (0, .one .top (Ptr.av z0))
  let E2 : Nat × TV := (1, .one .top (.int .i64 p1))
  let E3 : Nat × TV := (2, .one .top (.int .i64 p2))
  let E4 : Ptr → Nat × TV := fun z0 => (9, .one .top (Ptr.av z0))
  let E5 : Nat × TV := (10, .one .top (.int .i64 p2))
  let E7 : Ptr → Nat × TV := fun z0 => (13, .one .top (Ptr.av z0))
  let E8 : Nat × TV := (14, .one .top (.int .i64 p2))
  let E9 : Nat × TV := (17, .one .top (.int .i64 p1))
  let E10 : Nat × TV := (18, .one .top (.bool false))
  let E11 : Nat × TV := (19, .one .top (.bool false))
  let E12 : Nat × TV := (20, .one .top (.int .i64 p1))
  let E13 : Nat × TV := (21, .one .top (.bool false))
  let E14 : Nat × TV := (22, .one .top (.bool false))
  let E15 : Nat × TV := (23, .one .top (.bool false))
  let E17 : Nat × TV := (25, .one .top (.bool true))
  let E18 : Nat × TV := (26, .one .top (.bool true))
  let E19 : Nat × TV := (27, .one .top (.int .i64 p1))
  let E21 : Ptr → Nat × TV := fun z0 => (33, .one .top (Ptr.av z0))
  let E22 : Nat × TV := (34, .one .top (.int .i64 p1))
  let E23 : Nat × TV := (35, .one .top (.int .i64 p2))
  let E24 : Nat × TV := (36, .one .top (.int .i64 p1))
  let S29 : Ptr → St := fun z0 => ⟨[(E1 z0), E2, E3], [], H⟩
  let S30 : Ptr → St := fun z0 => ⟨[(E1 z0), E2, E3, (E4 z0), E5], [], H⟩
  let S32 : Ptr → St := fun z0 => ⟨[(E1 z0), E2, E3, (E7 z0), E8], [], H⟩
  refine w_fun Try.func68 rfl (by kernel_rfl) false (by kernel_rfl) (s0 := (S29 p0)) (by kernel_rfl) ?_
  unfold types_Table_Array at hF
  refine w_seq ?_
  refine w_reg (S29 p0) (by generalize p0 = qp0; cases qp0 <;> kernel_rfl) ?_
  refine w_seq ?_
  refine w_seq ?_
  obtain ⟨r1, c2, hF⟩ := bind1_inv hF
  refine w_regO ⟨[(E1 p0), E2, E3, (12, .one .top (.bool (!r1)))], [], H⟩ ?_ ?_
  refine o_run 2 (S30 p0) (by kernel_rfl) (by generalize p0 = qp0; cases qp0 <;> kernel_rfl) ?_
  refine o_one ⟨[(E1 p0), E2, E3, (E4 p0), E5, (11, .one .top (.bool r1))], [], H⟩ (st_call (d := (some 11)) (fz := false) (pure := true) (own := false) (S30 p0) (ok_types_Table_whole H c2) (by generalize p0 = qp0; cases qp0 <;> kernel_rfl) (by generalize p0 = qp0; cases qp0 <;> kernel_rfl)) ?_
  refine o_run 1 ⟨[(E1 p0), E2, E3, (E4 p0), E5, (11, .one .top (.bool r1)), (12, .one .top (.bool (!r1)))], [], H⟩ (by kernel_rfl) (by generalize p0 = qp0; cases qp0 <;> kernel_rfl) ?_
  exact o_end (by kernel_rfl) (by kernel_rfl)
  rcases if_inv hF with ⟨h3, hF⟩ | ⟨h3, hF⟩
  refine w_cT (m := .top) h3 (s1 := (⟨[], [], H⟩ : St)) (by kernel_rfl) (by kernel_rfl) ?_
  refine w_seq ?_
  refine w_reg ⟨[(6, .one .top (.int .i64 0)), (7, .one .top (.int .i64 91))], [], H⟩ (by kernel_rfl) ?_
  refine w_ret ?_
  obtain ⟨e0, e1, e2⟩ := some3_inv hF
  subst e0
  subst e1
  subst e2
  exact fin_imp (v := .tup [.one .top (.int .i64 0), .one .top (.int .i64 91)]) (by kernel_rfl) (by kernel_rfl) (by kernel_rfl)
  refine w_cF (m := .top) h3 (s1 := (S29 p0)) (by kernel_rfl) (by kernel_rfl) ?_
  refine w_skip ?_
  refine w_seq ?_
  obtain ⟨r4, c5, hF⟩ := bind1_inv hF
  let E6 : Nat × TV := (8, .one .top (.int .i64 r4.Size_))
  let E16 : Nat × TV := (24, .one .top (.int .i64 r4.Size_))
  let E20 : Nat × TV := (28, .one .top (.int .i64 r4.Size_))
  let E25 : Nat × TV := (37, .one .top (.int .i64 r4.Size_))
  let E26 : Nat × TV := (38, .one .top (.int .i64 (IntKind.wrap .i64 (p1 * r4.Size_))))
  let E27 : Nat × TV := (39, .agg [(.top, .int .i64 5), (.top, .int .i64 p1), (.top, .int .i64 p2), (.top, .int .i64 (IntKind.wrap .i64 (p1 * r4.Size_))), (.top, .bool false), (.top, .junk)])
  let S31 : Ptr → St := fun z0 => ⟨[(E1 z0), E2, E3, E6], [], H⟩
  let S33 : Ptr → St := fun z0 => ⟨[(E1 z0), E2, E3, E6, E9, E10, E11, E12, E13, E14, E15, E16, E17, E18, E19, E20], [], H⟩
  refine w_regO (S31 p0) ?_ ?_
  refine o_run 2 (S32 p0) (by kernel_rfl) (by generalize p0 = qp0; cases qp0 <;> kernel_rfl) ?_
  refine o_one ⟨[(E1 p0), E2, E3, (E7 p0), E8, (15, .agg (m1_types_Type r4))], [], H⟩ (st_call (d := (some 15)) (fz := false) (pure := true) (own := false) (S32 p0) (ok_types_Table_Get H c5) (by generalize p0 = qp0; cases qp0 <;> kernel_rfl) (by generalize p0 = qp0; cases qp0 <;> kernel_rfl)) ?_
  refine o_run 2 ⟨[(E1 p0), E2, E3, E6, (E7 p0), E8, (15, .agg (m1_types_Type r4)), (16, .one .top (.int .i64 r4.Size_))], [], H⟩ (by kernel_rfl) (by generalize p0 = qp0; cases qp0 <;> kernel_rfl) ?_
  exact o_end (by kernel_rfl) (by kernel_rfl)
  refine w_seq ?_
  refine w_seq ?_
  obtain ⟨w11, hB12, hF⟩ := bind1_inv hF
  refine w_regO ⟨[(E1 p0), E2, E3, E6, (32, .one .top (.bool w11))], [], H⟩ ?_ ?_
  refine o_run 3 ⟨[(E1 p0), E2, E3, E6, E9, (18, .one .top (.bool (decide (p1 < 1)))), (19, .one .top (.bool (decide (p1 < 1))))], [], H⟩ (by kernel_rfl) (by generalize p0 = qp0; cases qp0 <;> kernel_rfl) ?_
  rcases if_inv hB12 with ⟨h6, hB12⟩ | ⟨h6, hB12⟩
  refine o_eq (congrArg (fun q => (⟨[(E1 p0), E2, E3, E6, E9, (18, .one .top (.bool q)), (19, .one .top (.bool q))], [], H⟩ : St)) h6) ?_
  refine o_run 13 ⟨[(E1 p0), E2, E3, E6, E9, (18, .one .top (.bool true)), (19, .one .top (.bool true)), (20, .tup []), (21, .tup []), (22, .one .top (.bool true)), (23, .one .top (.bool true)), (24, .tup []), (25, .tup []), (26, .tup []), (27, .tup []), (28, .tup []), (29, .tup []), (30, .tup []), (31, .tup []), (32, .one .top (.bool true))], [], H⟩ (by kernel_rfl) (by generalize p0 = qp0; cases qp0 <;> kernel_rfl) ?_
  cases hB12
  exact o_end (by kernel_rfl) (by kernel_rfl)
  refine o_eq (congrArg (fun q => (⟨[(E1 p0), E2, E3, E6, E9, (18, .one .top (.bool q)), (19, .one .top (.bool q))], [], H⟩ : St)) h6) ?_
  refine o_run 4 ⟨[(E1 p0), E2, E3, E6, E9, E10, E11, E12, (21, .one .top (.bool (decide (p1 > 16384)))), (22, .one .top (.bool (decide (p1 > 16384)))), (23, .one .top (.bool (decide (p1 > 16384))))], [], H⟩ (by kernel_rfl) (by generalize p0 = qp0; cases qp0 <;> kernel_rfl) ?_
  rcases if_inv hB12 with ⟨h7, hB12⟩ | ⟨h7, hB12⟩
  refine o_eq (congrArg (fun q => (⟨[(E1 p0), E2, E3, E6, E9, E10, E11, E12, (21, .one .top (.bool q)), (22, .one .top (.bool q)), (23, .one .top (.bool q))], [], H⟩ : St)) h7) ?_
  refine o_run 9 ⟨[(E1 p0), E2, E3, E6, E9, E10, E11, E12, (21, .one .top (.bool true)), (22, .one .top (.bool true)), (23, .one .top (.bool true)), (24, .tup []), (25, .tup []), (26, .tup []), (27, .tup []), (28, .tup []), (29, .tup []), (30, .tup []), (31, .tup []), (32, .one .top (.bool true))], [], H⟩ (by kernel_rfl) (by generalize p0 = qp0; cases qp0 <;> kernel_rfl) ?_
  cases hB12
  exact o_end (by kernel_rfl) (by kernel_rfl)
  refine o_eq (congrArg (fun q => (⟨[(E1 p0), E2, E3, E6, E9, E10, E11, E12, (21, .one .top (.bool q)), (22, .one .top (.bool q)), (23, .one .top (.bool q))], [], H⟩ : St)) h7) ?_
  refine o_run 3 ⟨[(E1 p0), E2, E3, E6, E9, E10, E11, E12, E13, E14, E15, E16, (25, .one .top (.bool (decide (r4.Size_ > 0)))), (26, .one .top (.bool (decide (r4.Size_ > 0))))], [], H⟩ (by kernel_rfl) (by generalize p0 = qp0; cases qp0 <;> kernel_rfl) ?_
  rcases if_inv hB12 with ⟨h8, hB12⟩ | ⟨h8, hB12⟩
  refine o_eq (congrArg (fun q => (⟨[(E1 p0), E2, E3, E6, E9, E10, E11, E12, E13, E14, E15, E16, (25, .one .top (.bool q)), (26, .one .top (.bool q))], [], H⟩ : St)) h8) ?_
  refine o_run 2 (S33 p0) (by kernel_rfl) (by generalize p0 = qp0; cases qp0 <;> kernel_rfl) ?_
  obtain ⟨v9, h10, hB12⟩ := bind1_inv hB12
  refine o_one ⟨[(E1 p0), E2, E3, E6, E9, E10, E11, E12, E13, E14, E15, E16, E17, E18, E19, E20, (29, .one .top (.int .i64 v9))], [], H⟩ (st_binI (S33 p0) .i64 h10 (ev_quo (P := X.P) (ty := 3) (x := (.const (.int .i64 (16384)))) (y := (.tmp 28)) (m := .top) (m' := .top) (k := .i64) (a := 16384) (b := r4.Size_)) (some 29) (by generalize p0 = qp0; cases qp0 <;> kernel_rfl) (by generalize p0 = qp0; cases qp0 <;> kernel_rfl)) ?_
  refine o_run 3 ⟨[(E1 p0), E2, E3, E6, E9, E10, E11, E12, E13, E14, E15, E16, E17, E18, E19, E20, (29, .one .top (.int .i64 v9)), (30, .one .top (.bool (decide (p1 > v9)))), (31, .one .top (.bool (decide (p1 > v9)))), (32, .one .top (.bool (decide (p1 > v9))))], [], H⟩ (by kernel_rfl) (by generalize p0 = qp0; cases qp0 <;> kernel_rfl) ?_
  cases hB12
  exact o_end (by kernel_rfl) (by kernel_rfl)
  refine o_eq (congrArg (fun q => (⟨[(E1 p0), E2, E3, E6, E9, E10, E11, E12, E13, E14, E15, E16, (25, .one .top (.bool q)), (26, .one .top (.bool q))], [], H⟩ : St)) h8) ?_
  refine o_run 6 ⟨[(E1 p0), E2, E3, E6, E9, E10, E11, E12, E13, E14, E15, E16, (25, .one .top (.bool false)), (26, .one .top (.bool false)), (27, .tup []), (28, .tup []), (29, .tup []), (30, .tup []), (31, .one .top (.bool false)), (32, .one .top (.bool false))], [], H⟩ (by kernel_rfl) (by generalize p0 = qp0; cases qp0 <;> kernel_rfl) ?_
  cases hB12
  exact o_end (by kernel_rfl) (by kernel_rfl)
  rcases if_inv hF with ⟨h13, hF⟩ | ⟨h13, hF⟩
  refine w_cT (m := .top) h13 (s1 := (⟨[], [], H⟩ : St)) (by kernel_rfl) (by kernel_rfl) ?_
  refine w_seq ?_
  refine w_reg ⟨[(6, .one .top (.int .i64 0)), (7, .one .top (.int .i64 90))], [], H⟩ (by kernel_rfl) ?_
  refine w_ret ?_
  obtain ⟨e0, e1, e2⟩ := some3_inv hF
  subst e0
  subst e1
  subst e2
  exact fin_imp (v := .tup [.one .top (.int .i64 0), .one .top (.int .i64 90)]) (by kernel_rfl) (by kernel_rfl) (by kernel_rfl)
  refine w_cF (m := .top) h13 (s1 := (S31 p0)) (by kernel_rfl) (by kernel_rfl) ?_
  refine w_skip ?_
  refine w_seq ?_
  obtain ⟨H17, r14, r15, c16, hF⟩ := bind3_inv hF
  let E28 : Nat × TV := (40, .tup [.one .top (.int .i64 r14), .one .top (.int .i64 r15)])
  refine w_regO ⟨[(6, .one .top (.int .i64 r14)), (7, .one .top (.int .i64 r15))], [], H17⟩ ?_ ?_
  refine o_run 7 ⟨[(E1 p0), E2, E3, E6, (E21 p0), E22, E23, E24, E25, E26, (39, .agg [(.top, .int .i64 5), (.top, .int .i64 p1), (.top, .int .i64 p2), (.top, .int .i64 (IntKind.wrap .i64 (p1 * r4.Size_))), (.top, .bool false), ((.own 1), .sl 3 (List.map e_types_Field ([] : List T_types_Field)))])], [], H⟩ (by kernel_rfl) (by generalize p0 = qp0; cases qp0 <;> kernel_rfl) ?_
  refine o_one ⟨[(E1 p0), E2, E3, E6, (E21 p0), E22, E23, E24, E25, E26, E27, E28], [], H17⟩ (st_call (d := (some 40)) (fz := false) (pure := false) (own := true) (⟨[(E1 p0), E2, E3, E6, (E21 p0), E22, E23, E24, E25, E26, E27], [], H⟩ : St) (ok_types_Table_add H c16) (by generalize p0 = qp0; cases qp0 <;> kernel_rfl) (by generalize p0 = qp0; cases qp0 <;> kernel_rfl)) ?_
  refine o_run 4 ⟨[(E1 p0), E2, E3, (6, .one .top (.int .i64 r14)), (7, .one .top (.int .i64 r15)), E6, (E21 p0), E22, E23, E24, E25, E26, E27, E28, (41, .one .top (.int .i64 r14)), (42, .one .top (.int .i64 r15))], [], H17⟩ (by kernel_rfl) (by generalize p0 = qp0; cases qp0 <;> kernel_rfl) ?_
  exact o_end (by kernel_rfl) (by kernel_rfl)
  refine w_ret ?_
  obtain ⟨e0, e1, e2⟩ := some3_inv hF
  subst e0
  subst e1
  subst e2
  exact fin_imp (v := .tup [.one .top (.int .i64 r14), .one .top (.int .i64 r15)]) (by kernel_rfl) (by kernel_rfl) (by kernel_rfl)
noncomputable def types_Table_Len (H : Heap) (p0 : Ptr) : Option (Int) :=
  (p0).bnd fun i1 o2 =>
  bind1 (get_types_Table H i1 o2) fun x4 =>
  some (x4.list_.length : Int)
theorem ok_types_Table_Len (H : Heap) {p0 : Ptr} {ra : Int} (hF : types_Table_Len H p0 = some ra) : evS X 22 [.one .top (Ptr.av p0)] H = some (.one .top (.int .i64 ra), H) := by
  let E1 : Ptr → Nat × TV := fun z0 => (0, .one .top (Ptr.av z0))
  refine w_fun Try.func22 rfl (by kernel_rfl) true (by kernel_rfl) (s0 := (⟨[(E1 p0)], [], H⟩ : St)) (by kernel_rfl) ?_
  unfold types_Table_Len at hF
  refine w_seq ?_
  refine w_reg ⟨[(E1 p0)], [], H⟩ (by generalize p0 = qp0; cases qp0 <;> kernel_rfl) ?_
  refine w_seq ?_
  obtain ⟨i1, o2, h3, hF⟩ := pbnd_inv hF
  let E3 : Nat × TV := (0, .one .top (.obj i1 o2))
  let E4 : Nat × TV := (3, .one .top (.obj i1 o2))
  let E5 : Nat × TV := (4, .one .top (.obj i1 o2))
  let E6 : Nat × TV := (5, .one .top (.obj i1 o2))
  let S9 : St := ⟨[E3, E4, E5, E6], [], H⟩
  obtain ⟨x4, V5, hF⟩ := bind1_inv hF
  replace V5 := hgetT_inv V5
  let E2 : Nat × TV := (2, .one .top (.int .i64 (x4.list_.length : Int)))
  let E7 : Nat × TV := (6, .one .bh (.sl 6 (List.map e_types_Type x4.list_)))
  let E8 : Nat × TV := (7, .one .top (.int .i64 (x4.list_.length : Int)))
  let S10 : St := ⟨[E3, E4, E5, E6, E7], [], H⟩
  refine w_regO ⟨[E2], [], H⟩ ?_ ?_
  refine o_run 1 ⟨[(E1 p0), (3, .one .top (Ptr.av p0))], [], H⟩ (by kernel_rfl) (by generalize p0 = qp0; cases qp0 <;> kernel_rfl) ?_
  refine o_eq (congrArg (fun q => (⟨[(0, .one .top (Ptr.av q)), (3, .one .top (Ptr.av q))], [], H⟩ : St)) h3) ?_
  refine o_run 1 ⟨[E3, E4, E5], [], H⟩ (by kernel_rfl) (by kernel_rfl) ?_
  refine o_run 1 S9 (by kernel_rfl) (by kernel_rfl) ?_
  refine o_one S10 (st_ld (X := X) S9 135 V5 0 1 false (.one .bh (.sl 6 (List.map e_types_Type x4.list_))) (some 6) (by kernel_rfl) (by kernel_rfl) (by kernel_rfl) (by kernel_rfl) (by kernel_rfl) (by kernel_rfl)) ?_
  refine o_one ⟨[E3, E4, E5, E6, E7, E8], [], H⟩ (st_len S10 x4.list_ e_types_Type (some 7) (by kernel_rfl) (by kernel_rfl)) ?_
  refine o_run 1 ⟨[E3, E2, E4, E5, E6, E7, E8], [], H⟩ (by kernel_rfl) (by kernel_rfl) ?_
  exact o_end (by kernel_rfl) (by kernel_rfl)
  refine w_ret ?_
  obtain e0 := some1_inv hF
  subst e0
  exact fin_pure (v := .one .top (.int .i64 (x4.list_.length : Int))) (by kernel_rfl) (by kernel_rfl) rfl (by kernel_rfl)
noncomputable def law09_awake (H : Heap) : Option (Heap × Bool) :=
  bind2 (types_New H) fun H3 r1 =>
  if r1.isNil = true then (some (H3, false))
  else (bind3 (types_Table_Array H3 r1 10 1) fun H8 r5 r6 =>
  bind1 (if (r6 == 0) = true then (if (r5 == 5) = true then (bind1 (types_Table_Get H8 r1 r5) fun r11 =>
  if (r11.Size_ == 40) = true then (bind1 (types_Table_Len H8 r1) fun r14 =>
  some (r14 == 6)) else (some false)) else (some false)) else (some false)) fun w16 =>
  some (H8, w16))
theorem ok_law09_awake (H : Heap) {ra : Bool} {Hr : Heap} (hF : law09_awake H = some (Hr, ra)) : evS X 20 [] H = some (.one .top (.bool ra), Hr) := by
  let E3 : Nat × TV := (0, .one .top (.bool false))
  let E9 : Nat × TV := (13, .one .top (.bool true))
  let E10 : Nat × TV := (14, .one .top (.bool true))
  let E12 : Nat × TV := (16, .one .top (.bool true))
  let E13 : Nat × TV := (17, .one .top (.bool true))
  let E14 : Nat × TV := (18, .one .top (.bool true))
  let E19 : Nat × TV := (23, .one .top (.bool true))
  let E20 : Nat × TV := (24, .one .top (.bool true))
  let E21 : Nat × TV := (25, .one .top (.bool true))
  let E23 : Nat × TV := (24, .one .top (.bool false))
  let E24 : Nat × TV := (25, .one .top (.bool false))
  let E25 : Nat × TV := (29, .one .top (.bool false))
  let S26 : St := ⟨[], [], H⟩
  refine w_fun Try.func20 rfl (by kernel_rfl) false (by kernel_rfl) (s0 := S26) (by kernel_rfl) ?_
  unfold law09_awake at hF
  refine w_seq ?_
  refine w_reg S26 (by kernel_rfl) ?_
  refine w_seq ?_
  obtain ⟨H3, r1, c2, hF⟩ := bind2_inv hF
  let E1 : Ptr → Nat × TV := fun z0 => (1, .one .top (Ptr.av z0))
  let E2 : Ptr → Nat × TV := fun z0 => (5, .one .top (Ptr.av z0))
  let E6 : Ptr → Nat × TV := fun z0 => (8, .one .top (Ptr.av z0))
  let E15 : Ptr → Nat × TV := fun z0 => (19, .one .top (Ptr.av z0))
  let E22 : Ptr → Nat × TV := fun z0 => (26, .one .top (Ptr.av z0))
  let S27 : Ptr → St := fun z0 => ⟨[(E1 z0), (E2 z0)], [], H3⟩
  let S28 : Ptr → St := fun z0 => ⟨[(E1 z0), (E6 z0)], [], H3⟩
  refine w_regO ⟨[(E1 r1)], [], H3⟩ ?_ ?_
  refine o_one ⟨[(4, .one .top (Ptr.av r1))], [], H3⟩ (st_call (d := (some 4)) (fz := false) (pure := false) (own := false) S26 (ok_types_New H c2) (by generalize r1 = qp0; cases qp0 <;> kernel_rfl) (by generalize r1 = qp0; cases qp0 <;> kernel_rfl)) ?_
  refine o_run 1 ⟨[(E1 r1), (4, .one .top (Ptr.av r1))], [], H3⟩ (by kernel_rfl) (by generalize r1 = qp0; cases qp0 <;> kernel_rfl) ?_
  exact o_end (by kernel_rfl) (by kernel_rfl)
  refine w_seq ?_
  refine w_seq ?_
  refine w_regO ⟨[(E1 r1), (6, .one .top (.bool r1.isNil))], [], H3⟩ ?_ ?_
  refine o_run 1 (S27 r1) (by kernel_rfl) (by generalize r1 = qp0; cases qp0 <;> kernel_rfl) ?_
  refine o_one ⟨[(E1 r1), (E2 r1), (6, .one .top (.bool r1.isNil))], [], H3⟩ (st_bin (S27 r1) (nil_eql (P := X.P) (ty := 47) (x := (.tmp 5)) (y := (.const (.pointer none))) (m := .top) (m' := .top) r1 (by generalize r1 = qp0; cases qp0 <;> kernel_rfl) (by generalize r1 = qp0; cases qp0 <;> kernel_rfl)) rfl (some 6) (by generalize r1 = qp0; cases qp0 <;> kernel_rfl) (by generalize r1 = qp0; cases qp0 <;> kernel_rfl)) ?_
  exact o_end (by kernel_rfl) (by kernel_rfl)
  rcases if_inv hF with ⟨h4, hF⟩ | ⟨h4, hF⟩
  refine w_cT (m := .top) h4 (s1 := (⟨[], [], H3⟩ : St)) (by kernel_rfl) (by kernel_rfl) ?_
  refine w_seq ?_
  refine w_reg ⟨[E3], [], H3⟩ (by kernel_rfl) ?_
  refine w_ret ?_
  obtain ⟨e0, e1⟩ := some2_inv hF
  subst e0
  subst e1
  exact fin_imp (v := .one .top (.bool false)) (by kernel_rfl) (by kernel_rfl) (by kernel_rfl)
  refine w_cF (m := .top) h4 (s1 := (⟨[(E1 r1)], [], H3⟩ : St)) (by kernel_rfl) (by kernel_rfl) ?_
  refine w_skip ?_
  refine w_seq ?_
  obtain ⟨H8, r5, r6, c7, hF⟩ := bind3_inv hF
  let E4 : Nat × TV := (2, .one .top (.int .i64 r5))
  let E5 : Nat × TV := (3, .one .top (.int .i64 r6))
  let E7 : Nat × TV := (9, .tup [.one .top (.int .i64 r5), .one .top (.int .i64 r6)])
  let E8 : Nat × TV := (12, .one .top (.int .i64 r6))
  let E11 : Nat × TV := (15, .one .top (.int .i64 r5))
  let E16 : Nat × TV := (20, .one .top (.int .i64 r5))
  let S29 : Ptr → St := fun z0 => ⟨[(E1 z0), E4, E5, E8, E9, E10, E11, E12, E13, E14, (E15 z0), E16], [], H8⟩
  refine w_regO ⟨[(E1 r1), E4, E5], [], H8⟩ ?_ ?_
  refine o_run 1 (S28 r1) (by kernel_rfl) (by generalize r1 = qp0; cases qp0 <;> kernel_rfl) ?_
  refine o_one ⟨[(E1 r1), (E6 r1), E7], [], H8⟩ (st_call (d := (some 9)) (fz := false) (pure := false) (own := false) (S28 r1) (ok_types_Table_Array H3 c7) (by generalize r1 = qp0; cases qp0 <;> kernel_rfl) (by generalize r1 = qp0; cases qp0 <;> kernel_rfl)) ?_
  refine o_run 5 ⟨[(E1 r1), E4, E5, (7, .tup [.one .top (.int .i64 r5), .one .top (.int .i64 r6)]), (E6 r1), E7, (10, .one .top (.int .i64 r5)), (11, .one .top (.int .i64 r6))], [], H8⟩ (by kernel_rfl) (by generalize r1 = qp0; cases qp0 <;> kernel_rfl) ?_
  exact o_end (by kernel_rfl) (by kernel_rfl)
  refine w_seq ?_
  obtain ⟨w16, hB17, hF⟩ := bind1_inv hF
  refine w_regO ⟨[(0, .one .top (.bool w16))], [], H8⟩ ?_ ?_
  refine o_run 3 ⟨[(E1 r1), E4, E5, E8, (13, .one .top (.bool (r6 == 0))), (14, .one .top (.bool (r6 == 0)))], [], H8⟩ (by kernel_rfl) (by generalize r1 = qp0; cases qp0 <;> kernel_rfl) ?_
  rcases if_inv hB17 with ⟨h9, hB17⟩ | ⟨h9, hB17⟩
  refine o_eq (congrArg (fun q => (⟨[(E1 r1), E4, E5, E8, (13, .one .top (.bool q)), (14, .one .top (.bool q))], [], H8⟩ : St)) h9) ?_
  refine o_run 4 ⟨[(E1 r1), E4, E5, E8, E9, E10, E11, (16, .one .top (.bool (r5 == 5))), (17, .one .top (.bool (r5 == 5))), (18, .one .top (.bool (r5 == 5)))], [], H8⟩ (by kernel_rfl) (by generalize r1 = qp0; cases qp0 <;> kernel_rfl) ?_
  rcases if_inv hB17 with ⟨h10, hB17⟩ | ⟨h10, hB17⟩
  refine o_eq (congrArg (fun q => (⟨[(E1 r1), E4, E5, E8, E9, E10, E11, (16, .one .top (.bool q)), (17, .one .top (.bool q)), (18, .one .top (.bool q))], [], H8⟩ : St)) h10) ?_
  refine o_run 2 (S29 r1) (by kernel_rfl) (by generalize r1 = qp0; cases qp0 <;> kernel_rfl) ?_
  obtain ⟨r11, c12, hB17⟩ := bind1_inv hB17
  let E17 : Nat × TV := (21, .agg (m1_types_Type r11))
  let E18 : Nat × TV := (22, .one .top (.int .i64 r11.Size_))
  let S30 : Ptr → St := fun z0 => ⟨[(E1 z0), E4, E5, E8, E9, E10, E11, E12, E13, E14, (E15 z0), E16, E17, E18, E19, E20, E21, (E22 z0)], [], H8⟩
  refine o_one ⟨[(E1 r1), E4, E5, E8, E9, E10, E11, E12, E13, E14, (E15 r1), E16, E17], [], H8⟩ (st_call (d := (some 21)) (fz := false) (pure := true) (own := false) (S29 r1) (ok_types_Table_Get H8 c12) (by generalize r1 = qp0; cases qp0 <;> kernel_rfl) (by generalize r1 = qp0; cases qp0 <;> kernel_rfl)) ?_
  refine o_run 4 ⟨[(E1 r1), E4, E5, E8, E9, E10, E11, E12, E13, E14, (E15 r1), E16, E17, E18, (23, .one .top (.bool (r11.Size_ == 40))), (24, .one .top (.bool (r11.Size_ == 40))), (25, .one .top (.bool (r11.Size_ == 40)))], [], H8⟩ (by kernel_rfl) (by generalize r1 = qp0; cases qp0 <;> kernel_rfl) ?_
  rcases if_inv hB17 with ⟨h13, hB17⟩ | ⟨h13, hB17⟩
  refine o_eq (congrArg (fun q => (⟨[(E1 r1), E4, E5, E8, E9, E10, E11, E12, E13, E14, (E15 r1), E16, E17, E18, (23, .one .top (.bool q)), (24, .one .top (.bool q)), (25, .one .top (.bool q))], [], H8⟩ : St)) h13) ?_
  refine o_run 1 (S30 r1) (by kernel_rfl) (by generalize r1 = qp0; cases qp0 <;> kernel_rfl) ?_
  obtain ⟨r14, c15, hB17⟩ := bind1_inv hB17
  refine o_one ⟨[(E1 r1), E4, E5, E8, E9, E10, E11, E12, E13, E14, (E15 r1), E16, E17, E18, E19, E20, E21, (E22 r1), (27, .one .top (.int .i64 r14))], [], H8⟩ (st_call (d := (some 27)) (fz := false) (pure := true) (own := false) (S30 r1) (ok_types_Table_Len H8 c15) (by generalize r1 = qp0; cases qp0 <;> kernel_rfl) (by generalize r1 = qp0; cases qp0 <;> kernel_rfl)) ?_
  refine o_run 3 ⟨[(0, .one .top (.bool (r14 == 6))), (E1 r1), E4, E5, E8, E9, E10, E11, E12, E13, E14, (E15 r1), E16, E17, E18, E19, E20, E21, (E22 r1), (27, .one .top (.int .i64 r14)), (28, .one .top (.bool (r14 == 6))), (29, .one .top (.bool (r14 == 6)))], [], H8⟩ (by kernel_rfl) (by generalize r1 = qp0; cases qp0 <;> kernel_rfl) ?_
  cases hB17
  exact o_end (by kernel_rfl) (by kernel_rfl)
  refine o_eq (congrArg (fun q => (⟨[(E1 r1), E4, E5, E8, E9, E10, E11, E12, E13, E14, (E15 r1), E16, E17, E18, (23, .one .top (.bool q)), (24, .one .top (.bool q)), (25, .one .top (.bool q))], [], H8⟩ : St)) h13) ?_
  refine o_run 5 ⟨[E3, (E1 r1), E4, E5, E8, E9, E10, E11, E12, E13, E14, (E15 r1), E16, E17, E18, (23, .one .top (.bool false)), E23, E24, (26, .tup []), (27, .tup []), (28, .tup []), E25], [], H8⟩ (by kernel_rfl) (by generalize r1 = qp0; cases qp0 <;> kernel_rfl) ?_
  cases hB17
  exact o_end (by kernel_rfl) (by kernel_rfl)
  refine o_eq (congrArg (fun q => (⟨[(E1 r1), E4, E5, E8, E9, E10, E11, (16, .one .top (.bool q)), (17, .one .top (.bool q)), (18, .one .top (.bool q))], [], H8⟩ : St)) h10) ?_
  refine o_run 12 ⟨[E3, (E1 r1), E4, E5, E8, E9, E10, E11, (16, .one .top (.bool false)), (17, .one .top (.bool false)), (18, .one .top (.bool false)), (19, .tup []), (20, .tup []), (21, .tup []), (22, .tup []), (23, .tup []), E23, E24, (26, .tup []), (27, .tup []), (28, .tup []), E25], [], H8⟩ (by kernel_rfl) (by generalize r1 = qp0; cases qp0 <;> kernel_rfl) ?_
  cases hB17
  exact o_end (by kernel_rfl) (by kernel_rfl)
  refine o_eq (congrArg (fun q => (⟨[(E1 r1), E4, E5, E8, (13, .one .top (.bool q)), (14, .one .top (.bool q))], [], H8⟩ : St)) h9) ?_
  refine o_run 16 ⟨[E3, (E1 r1), E4, E5, E8, (13, .one .top (.bool false)), (14, .one .top (.bool false)), (15, .tup []), (16, .tup []), (17, .one .top (.bool false)), (18, .one .top (.bool false)), (19, .tup []), (20, .tup []), (21, .tup []), (22, .tup []), (23, .tup []), E23, E24, (26, .tup []), (27, .tup []), (28, .tup []), E25], [], H8⟩ (by kernel_rfl) (by generalize r1 = qp0; cases qp0 <;> kernel_rfl) ?_
  cases hB17
  exact o_end (by kernel_rfl) (by kernel_rfl)
  refine w_ret ?_
  obtain ⟨e0, e1⟩ := some2_inv hF
  subst e0
  subst e1
  exact fin_imp (v := .one .top (.bool w16)) (by kernel_rfl) (by kernel_rfl) (by kernel_rfl)
noncomputable def ref09_New  : Option ((List T_ref09_Type)) :=
  some ([(T_ref09_Type.mk 0 0 0 0 false ([] : List T_ref09_Field)), (T_ref09_Type.mk 1 0 0 4 false ([] : List T_ref09_Field)), (T_ref09_Type.mk 2 0 0 4 false ([] : List T_ref09_Field)), (T_ref09_Type.mk 3 0 0 4 false ([] : List T_ref09_Field)), (T_ref09_Type.mk 4 0 0 4 false ([] : List T_ref09_Field))] : List T_ref09_Type)
theorem ok_ref09_New (H : Heap) {ra : (List T_ref09_Type)} (hF : ref09_New = some ra) : evS X 69 [] H = some (.one (.own 0) (.sl 6 (List.map e_ref09_Type ra)), H) := by
  refine w_fun Try.func69 rfl (by kernel_rfl) true (by kernel_rfl) (s0 := (⟨[], [], H⟩ : St)) (by kernel_rfl) ?_
  unfold ref09_New at hF
  refine w_seq ?_
  refine w_reg ⟨[], [], H⟩ (by kernel_rfl) ?_
  refine w_seq ?_
  refine w_reg ⟨[(0, .one (.own 2) (.sl 6 (List.map e_ref09_Type ([(T_ref09_Type.mk 0 0 0 0 false ([] : List T_ref09_Field)), (T_ref09_Type.mk 1 0 0 4 false ([] : List T_ref09_Field)), (T_ref09_Type.mk 2 0 0 4 false ([] : List T_ref09_Field)), (T_ref09_Type.mk 3 0 0 4 false ([] : List T_ref09_Field)), (T_ref09_Type.mk 4 0 0 4 false ([] : List T_ref09_Field))] : List T_ref09_Type))))], [], H⟩ (by kernel_rfl) ?_
  refine w_ret ?_
  obtain e0 := some1_inv hF
  subst e0
  exact fin_pure (v := .one (.own 2) (.sl 6 (List.map e_ref09_Type ([(T_ref09_Type.mk 0 0 0 0 false ([] : List T_ref09_Field)), (T_ref09_Type.mk 1 0 0 4 false ([] : List T_ref09_Field)), (T_ref09_Type.mk 2 0 0 4 false ([] : List T_ref09_Field)), (T_ref09_Type.mk 3 0 0 4 false ([] : List T_ref09_Field)), (T_ref09_Type.mk 4 0 0 4 false ([] : List T_ref09_Field))] : List T_ref09_Type)))) (by kernel_rfl) (by kernel_rfl) rfl (by kernel_rfl)
noncomputable def ref09_Get  (p0 : (List T_ref09_Type)) (p1 : Int) : Option (T_ref09_Type) :=
  if ((decide (p1 < 0)) || (decide (p1 ≥ (p0.length : Int)))) = true then (some (T_ref09_Type.mk 0 0 0 0 false ([] : List T_ref09_Field)))
  else (bind1 (gi p0 p1) fun x3 =>
  some x3)
theorem ok_ref09_Get (H : Heap) {p0 : (List T_ref09_Type)} {p1 : Int} {ra : T_ref09_Type} (hF : ref09_Get p0 p1 = some ra) : evS X 34 [.one (.own 0) (.sl 6 (List.map e_ref09_Type p0)), .one .top (.int .i64 p1)] H = some (.agg (m0_ref09_Type ra), H) := by
  let E1 : Nat × TV := (0, .one (.own 0) (.sl 6 (List.map e_ref09_Type p0)))
  let E2 : Nat × TV := (1, .one .top (.int .i64 p1))
  let E3 : Nat × TV := (4, .one .top (.loc 4 0))
  let B4 : Nat × List MC := (4, [(.top, .int .i64 0), (.top, .int .i64 0), (.top, .int .i64 0), (.top, .int .i64 0), (.top, .bool false), ((.own 1), .sl 3 (List.map e_ref09_Field ([] : List T_ref09_Field)))])
  let E5 : Nat × TV := (5, .one .top (.int .i64 p1))
  let E6 : Nat × TV := (6, .one .top (.bool false))
  let E7 : Nat × TV := (7, .one .top (.bool false))
  let E8 : Nat × TV := (8, .one .top (.int .i64 p1))
  let E9 : Nat × TV := (9, .one (.own 0) (.sl 6 (List.map e_ref09_Type p0)))
  let E10 : Nat × TV := (10, .one .top (.int .i64 (p0.length : Int)))
  let E11 : Nat × TV := (14, .one (.own 0) (.sl 6 (List.map e_ref09_Type p0)))
  let E12 : Nat × TV := (15, .one .top (.int .i64 p1))
  let S14 : St := ⟨[E1, E2, E3], [B4], H⟩
  let S15 : St := ⟨[E1, E2, E3, E5, E6, E7, E8, E9], [B4], H⟩
  let S16 : St := ⟨[E1, E2, E3, E11, E12], [B4], H⟩
  refine w_fun Try.func34 rfl (by kernel_rfl) true (by kernel_rfl) (s0 := (⟨[E1, E2], [], H⟩ : St)) (by kernel_rfl) ?_
  unfold ref09_Get at hF
  refine w_seq ?_
  refine w_reg S14 (by kernel_rfl) ?_
  refine w_seq ?_
  refine w_seq ?_
  refine w_regO ⟨[E1, E2, E3, (12, .one .top (.bool ((decide (p1 < 0)) || (decide (p1 ≥ (p0.length : Int))))))], [B4], H⟩ ?_ ?_
  refine o_run 3 ⟨[E1, E2, E3, E5, (6, .one .top (.bool (decide (p1 < 0)))), (7, .one .top (.bool (decide (p1 < 0))))], [B4], H⟩ (by kernel_rfl) (by kernel_rfl) ?_
  rcases bool_cases (decide (p1 < 0)) with h1 | h1
  refine o_eq (congrArg (fun q => (⟨[E1, E2, E3, E5, (6, .one .top (.bool q)), (7, .one .top (.bool q))], [B4], H⟩ : St)) h1) ?_
  refine o_run 5 ⟨[E1, E2, E3, E5, (6, .one .top (.bool true)), (7, .one .top (.bool true)), (8, .tup []), (9, .tup []), (10, .tup []), (11, .tup []), (12, .one .top (.bool true))], [B4], H⟩ (by kernel_rfl) (by kernel_rfl) ?_
  refine o_eq2 (congrArg (fun q0 => (⟨[E1, E2, E3, (12, .one .top (.bool q0))], [B4], H⟩ : St)) (show true = ((decide (p1 < 0)) || (decide (p1 ≥ (p0.length : Int)))) by simp [h1])) ?_
  exact o_end (by kernel_rfl) (by kernel_rfl)
  refine o_eq (congrArg (fun q => (⟨[E1, E2, E3, E5, (6, .one .top (.bool q)), (7, .one .top (.bool q))], [B4], H⟩ : St)) h1) ?_
  refine o_run 2 S15 (by kernel_rfl) (by kernel_rfl) ?_
  refine o_one ⟨[E1, E2, E3, E5, E6, E7, E8, E9, E10], [B4], H⟩ (st_len S15 p0 e_ref09_Type (some 10) (by kernel_rfl) (by kernel_rfl)) ?_
  refine o_run 2 ⟨[E1, E2, E3, E5, E6, E7, E8, E9, E10, (11, .one .top (.bool (decide (p1 ≥ (p0.length : Int))))), (12, .one .top (.bool (decide (p1 ≥ (p0.length : Int)))))], [B4], H⟩ (by kernel_rfl) (by kernel_rfl) ?_
  refine o_eq2 (congrArg (fun q0 => (⟨[E1, E2, E3, (12, .one .top (.bool q0))], [B4], H⟩ : St)) (show (decide (p1 ≥ (p0.length : Int))) = ((decide (p1 < 0)) || (decide (p1 ≥ (p0.length : Int)))) by simp [h1])) ?_
  exact o_end (by kernel_rfl) (by kernel_rfl)
  rcases if_inv hF with ⟨h2, hF⟩ | ⟨h2, hF⟩
  refine w_cT (m := .top) h2 (s1 := (⟨[E3], [B4], H⟩ : St)) (by kernel_rfl) (by kernel_rfl) ?_
  refine w_seq ?_
  refine w_reg ⟨[E3], [B4], H⟩ (by kernel_rfl) ?_
  refine w_ret ?_
  obtain e0 := some1_inv hF
  subst e0
  exact fin_pure (v := .agg [(.top, .int .i64 0), (.top, .int .i64 0), (.top, .int .i64 0), (.top, .int .i64 0), (.top, .bool false), ((.own 1), .sl 3 (List.map e_ref09_Field ([] : List T_ref09_Field)))]) (by kernel_rfl) (by kernel_rfl) rfl (by kernel_rfl)
  refine w_cF (m := .top) h2 (s1 := S14) (by kernel_rfl) (by kernel_rfl) ?_
  refine w_skip ?_
  refine w_seq ?_
  obtain ⟨x3, h4, hF⟩ := bind1_inv hF
  let E13 : Nat × TV := (16, .one .top (.rd (.own 0) (.own 0) [.int .i64 x3.Kind_, .int .i64 x3.Len_, .int .i64 x3.Base_, .int .i64 x3.Size_, .bool x3.Open_, .sl 3 (List.map e_ref09_Field x3.Fields_)] 0))
  refine w_regO ⟨[E3], [(4, (m0_ref09_Type x3))], H⟩ ?_ ?_
  refine o_run 2 S16 (by kernel_rfl) (by kernel_rfl) ?_
  refine o_one ⟨[E1, E2, E3, E11, E12, E13], [B4], H⟩ (st_ix (X := X) S16 48 77 6 h4 e_ref09_Type (.own 0) (some 16) (by kernel_rfl) (by kernel_rfl) (by kernel_rfl) (by kernel_rfl)) ?_
  refine o_run 2 ⟨[E1, E2, E3, E11, E12, E13, (17, .agg (m0_ref09_Type x3))], [(4, (m0_ref09_Type x3))], H⟩ (by kernel_rfl) (by kernel_rfl) ?_
  exact o_end (by kernel_rfl) (by kernel_rfl)
  refine w_ret ?_
  obtain e0 := some1_inv hF
  subst e0
  exact fin_pure (v := .agg (m0_ref09_Type x3)) (by kernel_rfl) (by kernel_rfl) rfl (by kernel_rfl)
noncomputable def ref09_Whole  (p0 : (List T_ref09_Type)) (p1 : Int) : Option (Bool) :=
  bind1 (ref09_Get p0 p1) fun r1 =>
  some ((r1.Kind_ != 0) && ((r1.Kind_ != 4) && (!r1.Open_)))
theorem ok_ref09_Whole (H : Heap) {p0 : (List T_ref09_Type)} {p1 : Int} {ra : Bool} (hF : ref09_Whole p0 p1 = some ra) : evS X 126 [.one (.own 0) (.sl 6 (List.map e_ref09_Type p0)), .one .top (.int .i64 p1)] H = some (.one .top (.bool ra), H) := by
  let E1 : Nat × TV := (0, .one (.own 0) (.sl 6 (List.map e_ref09_Type p0)))
  let E2 : Nat × TV := (1, .one .top (.int .i64 p1))
  let E3 : Nat × TV := (5, .one .top (.loc 5 0))
  let E5 : Nat × TV := (6, .one (.own 0) (.sl 6 (List.map e_ref09_Type p0)))
  let E6 : Nat × TV := (7, .one .top (.int .i64 p1))
  let E7 : Nat × TV := (9, .one .top (.loc 5 0))
  let E9 : Nat × TV := (11, .one .top (.bool true))
  let E10 : Nat × TV := (12, .one .top (.bool true))
  let E11 : Nat × TV := (13, .one .top (.loc 5 0))
  let S13 : St := ⟨[E1, E2, E5, E6], [], H⟩
  refine w_fun Try.func126 rfl (by kernel_rfl) true (by kernel_rfl) (s0 := (⟨[E1, E2], [], H⟩ : St)) (by kernel_rfl) ?_
  unfold ref09_Whole at hF
  refine w_seq ?_
  refine w_reg ⟨[E1, E2], [], H⟩ (by kernel_rfl) ?_
  refine w_seq ?_
  obtain ⟨r1, c2, hF⟩ := bind1_inv hF
  let B4 : Nat × List MC := (5, (m0_ref09_Type r1))
  let E8 : Nat × TV := (10, .one .top (.int .i64 r1.Kind_))
  let E12 : Nat × TV := (14, .one .top (.int .i64 r1.Kind_))
  refine w_regO ⟨[E3], [B4], H⟩ ?_ ?_
  refine o_run 2 S13 (by kernel_rfl) (by kernel_rfl) ?_
  refine o_one ⟨[E1, E2, E5, E6, (8, .agg (m0_ref09_Type r1))], [], H⟩ (st_call (d := (some 8)) (fz := false) (pure := true) (own := false) S13 (ok_ref09_Get H c2) (by kernel_rfl) (by kernel_rfl)) ?_
  refine o_run 2 ⟨[E1, E2, E3, E5, E6, (8, .agg (m0_ref09_Type r1))], [B4], H⟩ (by kernel_rfl) (by kernel_rfl) ?_
  exact o_end (by kernel_rfl) (by kernel_rfl)
  refine w_seq ?_
  refine w_regO ⟨[(4, .one .top (.bool ((r1.Kind_ != 0) && ((r1.Kind_ != 4) && (!r1.Open_)))))], [], H⟩ ?_ ?_
  refine o_run 4 ⟨[E3, E7, E8, (11, .one .top (.bool (r1.Kind_ != 0))), (12, .one .top (.bool (r1.Kind_ != 0)))], [B4], H⟩ (by kernel_rfl) (by kernel_rfl) ?_
  rcases bool_cases (r1.Kind_ != 0) with h3 | h3
  refine o_eq (congrArg (fun q => (⟨[E3, E7, E8, (11, .one .top (.bool q)), (12, .one .top (.bool q))], [B4], H⟩ : St)) h3) ?_
  refine o_run 5 ⟨[E3, E7, E8, E9, E10, E11, E12, (15, .one .top (.bool (r1.Kind_ != 4))), (16, .one .top (.bool (r1.Kind_ != 4))), (17, .one .top (.bool (r1.Kind_ != 4)))], [B4], H⟩ (by kernel_rfl) (by kernel_rfl) ?_
  rcases bool_cases (r1.Kind_ != 4) with h4 | h4
  refine o_eq (congrArg (fun q => (⟨[E3, E7, E8, E9, E10, E11, E12, (15, .one .top (.bool q)), (16, .one .top (.bool q)), (17, .one .top (.bool q))], [B4], H⟩ : St)) h4) ?_
  refine o_run 5 ⟨[(4, .one .top (.bool (!r1.Open_))), E3, E7, E8, E9, E10, E11, E12, (15, .one .top (.bool true)), (16, .one .top (.bool true)), (17, .one .top (.bool true)), (18, .one .top (.loc 5 4)), (19, .one .top (.bool r1.Open_)), (20, .one .top (.bool (!r1.Open_))), (21, .one .top (.bool (!r1.Open_)))], [B4], H⟩ (by kernel_rfl) (by kernel_rfl) ?_
  refine o_eq2 (congrArg (fun q0 => (⟨[(4, .one .top (.bool q0))], [], H⟩ : St)) (show (!r1.Open_) = ((r1.Kind_ != 0) && ((r1.Kind_ != 4) && (!r1.Open_))) by simp [h3, h4])) ?_
  exact o_end (by kernel_rfl) (by kernel_rfl)
  refine o_eq (congrArg (fun q => (⟨[E3, E7, E8, E9, E10, E11, E12, (15, .one .top (.bool q)), (16, .one .top (.bool q)), (17, .one .top (.bool q))], [B4], H⟩ : St)) h4) ?_
  refine o_run 5 ⟨[(4, .one .top (.bool false)), E3, E7, E8, E9, E10, E11, E12, (15, .one .top (.bool false)), (16, .one .top (.bool false)), (17, .one .top (.bool false)), (18, .tup []), (19, .tup []), (20, .tup []), (21, .one .top (.bool false))], [B4], H⟩ (by kernel_rfl) (by kernel_rfl) ?_
  refine o_eq2 (congrArg (fun q0 => (⟨[(4, .one .top (.bool q0))], [], H⟩ : St)) (show false = ((r1.Kind_ != 0) && ((r1.Kind_ != 4) && (!r1.Open_))) by simp [h3, h4])) ?_
  exact o_end (by kernel_rfl) (by kernel_rfl)
  refine o_eq (congrArg (fun q => (⟨[E3, E7, E8, (11, .one .top (.bool q)), (12, .one .top (.bool q))], [B4], H⟩ : St)) h3) ?_
  refine o_run 10 ⟨[(4, .one .top (.bool false)), E3, E7, E8, (11, .one .top (.bool false)), (12, .one .top (.bool false)), (13, .tup []), (14, .tup []), (15, .tup []), (16, .one .top (.bool false)), (17, .one .top (.bool false)), (18, .tup []), (19, .tup []), (20, .tup []), (21, .one .top (.bool false))], [B4], H⟩ (by kernel_rfl) (by kernel_rfl) ?_
  refine o_eq2 (congrArg (fun q0 => (⟨[(4, .one .top (.bool q0))], [], H⟩ : St)) (show false = ((r1.Kind_ != 0) && ((r1.Kind_ != 4) && (!r1.Open_))) by simp [h3])) ?_
  exact o_end (by kernel_rfl) (by kernel_rfl)
  refine w_ret ?_
  obtain e0 := some1_inv hF
  subst e0
  exact fin_pure (v := .one .top (.bool ((r1.Kind_ != 0) && ((r1.Kind_ != 4) && (!r1.Open_))))) (by kernel_rfl) (by kernel_rfl) rfl (by kernel_rfl)
noncomputable def ref09_add  (p0 : (List T_ref09_Type)) (p1 : T_ref09_Type) : Option ((List T_ref09_Type) × Int × Int) :=
  if (decide ((p0.length : Int) ≥ 4096)) = true then (some (p0, 0, 242))
  else (bind1 (app 64 ([] : List T_ref09_Type) p0) fun v2 =>
  bind1 (app 64 v2 ([p1] : List T_ref09_Type)) fun v4 =>
  some (v4, (p0.length : Int), 0))
theorem ok_ref09_add (H : Heap) {p0 : (List T_ref09_Type)} {p1 : T_ref09_Type} {ra : (List T_ref09_Type)} {rb : Int} {rc : Int} (hF : ref09_add p0 p1 = some (ra, rb, rc)) : evS X 127 [.one (.own 0) (.sl 6 (List.map e_ref09_Type p0)), .agg (m1_ref09_Type p1)] H = some (.tup [.one (.own 0) (.sl 6 (List.map e_ref09_Type ra)), .one .top (.int .i64 rb), .one .top (.int .i64 rc)], H) := by
  let E1 : Nat × TV := (0, .one (.own 0) (.sl 6 (List.map e_ref09_Type p0)))
  let E2 : Nat × TV := (3, .one .top (.loc 3 0))
  let B3 : Nat × List MC := (3, (m1_ref09_Type p1))
  let E4 : Nat × TV := (9, .one .top (.bool (decide ((p0.length : Int) ≥ 4096))))
  let E5 : Nat × TV := (7, .one (.own 0) (.sl 6 (List.map e_ref09_Type p0)))
  let E6 : Nat × TV := (8, .one .top (.int .i64 (p0.length : Int)))
  let E8 : Nat × TV := (5, .one .top (.int .i64 (p0.length : Int)))
  let E9 : Nat × TV := (6, .one .top (.int .i64 0))
  let E10 : Nat × TV := (12, .one (.own 0) (.sl 6 (List.map e_ref09_Type p0)))
  let E11 : Nat × TV := (14, .agg (m1_ref09_Type p1))
  let B12 : Nat × List MC := (3, [(.top, .int .i64 p1.Kind_), (.top, .int .i64 p1.Len_), (.top, .int .i64 p1.Base_), (.top, .int .i64 p1.Size_), (.top, .bool p1.Open_), (.top, .junk)])
  let E13 : Nat × TV := (17, .one (.own 0) (.sl 6 (List.map e_ref09_Type p0)))
  let E14 : Nat × TV := (18, .one .top (.int .i64 (p0.length : Int)))
  let E15 : Nat × TV := (11, .one .top .junk)
  let E16 : Nat × TV := (13, .one .top .junk)
  let E17 : Nat × TV := (14, .agg [(.top, .int .i64 p1.Kind_), (.top, .int .i64 p1.Len_), (.top, .int .i64 p1.Base_), (.top, .int .i64 p1.Size_), (.top, .bool p1.Open_), (.top, .junk)])
  let E18 : Nat × TV := (15, .one .top .junk)
  let E19 : Nat × TV := (16, .one .top .junk)
  let E20 : Nat × TV := (11, .one (.own 2) (.sl 6 (List.map e_ref09_Type ([] : List T_ref09_Type))))
  let E22 : Nat × TV := (15, .one (.own 2) (.sl 6 (List.map e_ref09_Type ([p1] : List T_ref09_Type))))
  let S24 : St := ⟨[E1, E2, E5], [B3], H⟩
  let S25 : St := ⟨[E1, E2, E10, E11, E13], [B12], H⟩
  let S29 : St := ⟨[E1, E2, E15, E10, E16, E17, E18, E13, E14], [B12], H⟩
  let S32 : St := ⟨[E1, E2, E20, E10, E17, E22, E13, E14], [B12], H⟩
  let S33 : St := ⟨[E1, E2, E15, E10, E17, E22, E13, E14], [B12], H⟩
  refine w_fun Try.func127 rfl (by kernel_rfl) true (by kernel_rfl) (s0 := (⟨[E1, (1, .agg (m1_ref09_Type p1))], [], H⟩ : St)) (by kernel_rfl) ?_
  unfold ref09_add at hF
  refine w_seq ?_
  refine w_reg ⟨[E1, E2], [B3], H⟩ (by kernel_rfl) ?_
  refine w_seq ?_
  refine w_seq ?_
  refine w_regO ⟨[E1, E2, E4], [B3], H⟩ ?_ ?_
  refine o_run 1 S24 (by kernel_rfl) (by kernel_rfl) ?_
  refine o_one ⟨[E1, E2, E5, E6], [B3], H⟩ (st_len S24 p0 e_ref09_Type (some 8) (by kernel_rfl) (by kernel_rfl)) ?_
  refine o_run 1 ⟨[E1, E2, E5, E6, E4], [B3], H⟩ (by kernel_rfl) (by kernel_rfl) ?_
  exact o_end (by kernel_rfl) (by kernel_rfl)
  rcases if_inv hF with ⟨h1, hF⟩ | ⟨h1, hF⟩
  refine w_cT (m := .top) h1 (s1 := (⟨[E1], [], H⟩ : St)) (by kernel_rfl) (by kernel_rfl) ?_
  refine w_seq ?_
  refine w_reg ⟨[(4, .one (.own 0) (.sl 6 (List.map e_ref09_Type p0))), (5, .one .top (.int .i64 0)), (6, .one .top (.int .i64 242))], [], H⟩ (by kernel_rfl) ?_
  refine w_ret ?_
  obtain ⟨e0, e1, e2⟩ := some3_inv hF
  subst e0
  subst e1
  subst e2
  exact fin_pure (v := .tup [.one (.own 0) (.sl 6 (List.map e_ref09_Type p0)), .one .top (.int .i64 0), .one .top (.int .i64 242)]) (by kernel_rfl) (by kernel_rfl) rfl (by kernel_rfl)
  refine w_cF (m := .top) h1 (s1 := (⟨[E1, E2], [B3], H⟩ : St)) (by kernel_rfl) (by kernel_rfl) ?_
  refine w_skip ?_
  refine w_seq ?_
  obtain ⟨v2, h3, hF⟩ := bind1_inv hF
  let E21 : Nat × TV := (13, .one (.own 1) (.sl 6 (List.map e_ref09_Type v2)))
  let S27 : St := ⟨[E1, E2, E15, E10, E21, E17, E22, E13, E14], [B12], H⟩
  obtain ⟨v4, h5, hF⟩ := bind1_inv hF
  let E7 : Nat × TV := (4, .one (.own 1) (.sl 6 (List.map e_ref09_Type v4)))
  let E23 : Nat × TV := (16, .one (.own 1) (.sl 6 (List.map e_ref09_Type v4)))
  let S26 : St := ⟨[E1, E2, E7, E8, E9, E15, E10, E16, E17, E18, E19, E13, E14], [B12], H⟩
  let S28 : St := ⟨[E1, E2, E15, E10, E16, E17, E18, E23, E13, E14], [B12], H⟩
  let S30 : St := ⟨[E1, E2, E7, E15, E10, E16, E17, E18, E19, E13, E14], [B12], H⟩
  let S31 : St := ⟨[E1, E2, E7, E8, E15, E10, E16, E17, E18, E19, E13, E14], [B12], H⟩
  let K34 : Sch := .last 2 (.last 5 (.take 8 (.take 9 (.take 10 .done))))
  refine w_regD (.take 1 (.take 3 (.take 6 (.take 7 (.alt 0 (.alt 2 (.last 4 (.last 5 (.take 8 (.take 9 (.take 10 .done))))) (.last 4 K34)) (.last 4 (.last 0 K34))))))) (by kernel_rfl) (⟨[E7, E8, E9], [], H⟩ : St) ?_ ?_
  refine d_take ⟨[E1, E2, E10], [B3], H⟩ (by kernel_rfl) ?_
  refine d_take ⟨[E1, E2, E10, E11], [B12], H⟩ (by kernel_rfl) ?_
  refine d_take S25 (by kernel_rfl) ?_
  refine d_take ⟨[E1, E2, E10, E11, E13, E14], [B12], H⟩ (st_len S25 p0 e_ref09_Type (some 18) (by kernel_rfl) (by kernel_rfl)) ?_
  refine q_in S26 ?_ ?_
  refine q_alt ⟨[E1, E2, E20, E10, E11, E13, E14], [B12], H⟩ (by kernel_rfl) ?_ ?_
  refine q_alt ⟨[E1, E2, E15, E10, E21, E11, E13, E14], [B12], H⟩ (st_app (X := X) (⟨[E1, E2, E15, E10, E11, E13, E14], [B12], H⟩ : St) 64 h3 48 48 77 6 1 [(.top, .int .i64 0), (.top, .int .i64 0), (.top, .int .i64 0), (.top, .int .i64 0), (.top, .bool false), ((.own 1), .sl 3 (List.map e_ref09_Field ([] : List T_ref09_Field)))] (.own 0) e_ref09_Type 0 (some 13) (by kernel_rfl) (by kernel_rfl) (by kernel_rfl) (by kernel_rfl) (by kernel_rfl) (by kernel_rfl) (by kernel_rfl) (by kernel_rfl) (by kernel_rfl) (fun _ => rfl) (by kernel_rfl)) ?_ ?_
  refine q_last S27 (by kernel_rfl) ?_
  refine q_last S28 (st_app (X := X) S29 64 h5 48 48 77 6 0 [(.top, .int .i64 0), (.top, .int .i64 0), (.top, .int .i64 0), (.top, .int .i64 0), (.top, .bool false), ((.own 1), .sl 3 (List.map e_ref09_Field ([] : List T_ref09_Field)))] (.own 2) e_ref09_Type 1 (some 16) (by kernel_rfl) (by kernel_rfl) (by kernel_rfl) (by kernel_rfl) (by kernel_rfl) (by kernel_rfl) (by kernel_rfl) (by kernel_rfl) (by kernel_rfl) (fun _ => rfl) (by kernel_rfl)) ?_
  refine q_take S30 (by kernel_rfl) ?_
  refine q_take S31 (by kernel_rfl) ?_
  refine q_take S26 (by kernel_rfl) ?_
  exact q_end (by kernel_rfl)
  refine q_last S32 (by kernel_rfl) ?_
  refine q_last S27 (st_app (X := X) S33 64 h3 48 48 77 6 1 [(.top, .int .i64 0), (.top, .int .i64 0), (.top, .int .i64 0), (.top, .int .i64 0), (.top, .bool false), ((.own 1), .sl 3 (List.map e_ref09_Field ([] : List T_ref09_Field)))] (.own 0) e_ref09_Type 0 (some 13) (by kernel_rfl) (by kernel_rfl) (by kernel_rfl) (by kernel_rfl) (by kernel_rfl) (by kernel_rfl) (by kernel_rfl) (by kernel_rfl) (by kernel_rfl) (fun _ => rfl) (by kernel_rfl)) ?_
  refine q_last S28 (st_app (X := X) S29 64 h5 48 48 77 6 0 [(.top, .int .i64 0), (.top, .int .i64 0), (.top, .int .i64 0), (.top, .int .i64 0), (.top, .bool false), ((.own 1), .sl 3 (List.map e_ref09_Field ([] : List T_ref09_Field)))] (.own 2) e_ref09_Type 1 (some 16) (by kernel_rfl) (by kernel_rfl) (by kernel_rfl) (by kernel_rfl) (by kernel_rfl) (by kernel_rfl) (by kernel_rfl) (by kernel_rfl) (by kernel_rfl) (fun _ => rfl) (by kernel_rfl)) ?_
  refine q_take S30 (by kernel_rfl) ?_
  refine q_take S31 (by kernel_rfl) ?_
  refine q_take S26 (by kernel_rfl) ?_
  exact q_end (by kernel_rfl)
  refine q_last ⟨[E1, E2, E10, E17, E22, E13, E14], [B12], H⟩ (by kernel_rfl) ?_
  refine q_last S32 (by kernel_rfl) ?_
  refine q_last S27 (st_app (X := X) S33 64 h3 48 48 77 6 1 [(.top, .int .i64 0), (.top, .int .i64 0), (.top, .int .i64 0), (.top, .int .i64 0), (.top, .bool false), ((.own 1), .sl 3 (List.map e_ref09_Field ([] : List T_ref09_Field)))] (.own 0) e_ref09_Type 0 (some 13) (by kernel_rfl) (by kernel_rfl) (by kernel_rfl) (by kernel_rfl) (by kernel_rfl) (by kernel_rfl) (by kernel_rfl) (by kernel_rfl) (by kernel_rfl) (fun _ => rfl) (by kernel_rfl)) ?_
  refine q_last S28 (st_app (X := X) S29 64 h5 48 48 77 6 0 [(.top, .int .i64 0), (.top, .int .i64 0), (.top, .int .i64 0), (.top, .int .i64 0), (.top, .bool false), ((.own 1), .sl 3 (List.map e_ref09_Field ([] : List T_ref09_Field)))] (.own 2) e_ref09_Type 1 (some 16) (by kernel_rfl) (by kernel_rfl) (by kernel_rfl) (by kernel_rfl) (by kernel_rfl) (by kernel_rfl) (by kernel_rfl) (by kernel_rfl) (by kernel_rfl) (fun _ => rfl) (by kernel_rfl)) ?_
  refine q_take S30 (by kernel_rfl) ?_
  refine q_take S31 (by kernel_rfl) ?_
  refine q_take S26 (by kernel_rfl) ?_
  exact q_end (by kernel_rfl)
  kernel_rfl
  refine w_ret ?_
  obtain ⟨e0, e1, e2⟩ := some3_inv hF
  subst e0
  subst e1
  subst e2
  exact fin_pure (v := .tup [.one (.own 1) (.sl 6 (List.map e_ref09_Type v4)), .one .top (.int .i64 (p0.length : Int)), .one .top (.int .i64 0)]) (by kernel_rfl) (by kernel_rfl) rfl (by kernel_rfl)
noncomputable def ref09_Array  (p0 : (List T_ref09_Type)) (p1 : Int) (p2 : Int) : Option ((List T_ref09_Type) × Int × Int) :=
  bind1 (ref09_Whole p0 p2) fun r1 =>
  if (!r1) = true then (some (p0, 0, 91))
  else (bind1 (if (decide (p1 < 1)) = true then (some true) else (if (decide (p1 > 16384)) = true then (some true) else (bind1 (ref09_Get p0 p2) fun r6 =>
  some (decide ((IntKind.wrap .i64 (p1 * r6.Size_)) > 16384))))) fun w8 =>
  if w8 = true then (some (p0, 0, 90))
  else (bind1 (ref09_Get p0 p2) fun r11 =>
  bind3 (ref09_add p0 (T_ref09_Type.mk 5 p1 p2 (IntKind.wrap .i64 (p1 * r11.Size_)) false ([] : List T_ref09_Field))) fun r13 r14 r15 =>
  some (r13, r14, r15)))
theorem ok_ref09_Array (H : Heap) {p0 : (List T_ref09_Type)} {p1 : Int} {p2 : Int} {ra : (List T_ref09_Type)} {rb : Int} {rc : Int} (hF : ref09_Array p0 p1 p2 = some (ra, rb, rc)) : evS X 93 [.one (.own 0) (.sl 6 (List.map e_ref09_Type p0)), .one .top (.int .i64 p1), .one .top (.int .i64 p2)] H = some (.tup [.one (.own 0) (.sl 6 (List.map e_ref09_Type ra)), .one .top (.int .i64 rb), .one .top (.int .i64 rc)], H) := by
  let E1 : Nat × TV := (0, .one (.own 0) (.sl 6 (List.map e_ref09_Type p0)))
  let E2 : Nat × TV := (1, .one .top (.int .i64 p1))
  let E3 : Nat × TV := (2, .one .top (.int .i64 p2))
  let E4 : Nat × TV := (9, .one (.own 0) (.sl 6 (List.map e_ref09_Type p0)))
  let E5 : Nat × TV := (10, .one .top (.int .i64 p2))
  let E6 : Nat × TV := (6, .one (.own 0) (.sl 6 (List.map e_ref09_Type p0)))
  let E7 : Nat × TV := (14, .one .top (.int .i64 p1))
  let E8 : Nat × TV := (15, .one .top (.bool false))
  let E9 : Nat × TV := (16, .one .top (.bool false))
  let E10 : Nat × TV := (17, .one .top (.int .i64 p1))
  let E11 : Nat × TV := (18, .one .top (.bool false))
  let E12 : Nat × TV := (19, .one .top (.bool false))
  let E13 : Nat × TV := (20, .one .top (.bool false))
  let E14 : Nat × TV := (21, .one .top (.int .i64 p1))
  let E15 : Nat × TV := (22, .one (.own 0) (.sl 6 (List.map e_ref09_Type p0)))
  let E16 : Nat × TV := (23, .one .top (.int .i64 p2))
  let E18 : Nat × TV := (30, .one (.own 0) (.sl 6 (List.map e_ref09_Type p0)))
  let E19 : Nat × TV := (31, .one .top (.int .i64 p1))
  let E20 : Nat × TV := (32, .one .top (.int .i64 p2))
  let E21 : Nat × TV := (33, .one .top (.int .i64 p1))
  let E22 : Nat × TV := (34, .one (.own 0) (.sl 6 (List.map e_ref09_Type p0)))
  let E23 : Nat × TV := (35, .one .top (.int .i64 p2))
  let S29 : St := ⟨[E1, E2, E3], [], H⟩
  let S30 : St := ⟨[E1, E2, E3, E4, E5], [], H⟩
  let S31 : St := ⟨[E1, E2, E3, E7, E8, E9, E10, E11, E12, E13, E14, E15, E16], [], H⟩
  let S32 : St := ⟨[E1, E2, E3, E18, E19, E20, E21, E22, E23], [], H⟩
  refine w_fun Try.func93 rfl (by kernel_rfl) true (by kernel_rfl) (s0 := S29) (by kernel_rfl) ?_
  unfold ref09_Array at hF
  refine w_seq ?_
  refine w_reg S29 (by kernel_rfl) ?_
  refine w_seq ?_
  refine w_seq ?_
  obtain ⟨r1, c2, hF⟩ := bind1_inv hF
  refine w_regO ⟨[E1, E2, E3, (12, .one .top (.bool (!r1)))], [], H⟩ ?_ ?_
  refine o_run 2 S30 (by kernel_rfl) (by kernel_rfl) ?_
  refine o_one ⟨[E1, E2, E3, E4, E5, (11, .one .top (.bool r1))], [], H⟩ (st_call (d := (some 11)) (fz := false) (pure := true) (own := false) S30 (ok_ref09_Whole H c2) (by kernel_rfl) (by kernel_rfl)) ?_
  refine o_run 1 ⟨[E1, E2, E3, E4, E5, (11, .one .top (.bool r1)), (12, .one .top (.bool (!r1)))], [], H⟩ (by kernel_rfl) (by kernel_rfl) ?_
  exact o_end (by kernel_rfl) (by kernel_rfl)
  rcases if_inv hF with ⟨h3, hF⟩ | ⟨h3, hF⟩
  refine w_cT (m := .top) h3 (s1 := (⟨[E1], [], H⟩ : St)) (by kernel_rfl) (by kernel_rfl) ?_
  refine w_seq ?_
  refine w_reg ⟨[E6, (7, .one .top (.int .i64 0)), (8, .one .top (.int .i64 91))], [], H⟩ (by kernel_rfl) ?_
  refine w_ret ?_
  obtain ⟨e0, e1, e2⟩ := some3_inv hF
  subst e0
  subst e1
  subst e2
  exact fin_pure (v := .tup [.one (.own 0) (.sl 6 (List.map e_ref09_Type p0)), .one .top (.int .i64 0), .one .top (.int .i64 91)]) (by kernel_rfl) (by kernel_rfl) rfl (by kernel_rfl)
  refine w_cF (m := .top) h3 (s1 := S29) (by kernel_rfl) (by kernel_rfl) ?_
  refine w_skip ?_
  refine w_seq ?_
  refine w_seq ?_
  obtain ⟨w8, hB9, hF⟩ := bind1_inv hF
  refine w_regO ⟨[E1, E2, E3, (28, .one .top (.bool w8))], [], H⟩ ?_ ?_
  refine o_run 3 ⟨[E1, E2, E3, E7, (15, .one .top (.bool (decide (p1 < 1)))), (16, .one .top (.bool (decide (p1 < 1))))], [], H⟩ (by kernel_rfl) (by kernel_rfl) ?_
  rcases if_inv hB9 with ⟨h4, hB9⟩ | ⟨h4, hB9⟩
  refine o_eq (congrArg (fun q => (⟨[E1, E2, E3, E7, (15, .one .top (.bool q)), (16, .one .top (.bool q))], [], H⟩ : St)) h4) ?_
  refine o_run 12 ⟨[E1, E2, E3, E7, (15, .one .top (.bool true)), (16, .one .top (.bool true)), (17, .tup []), (18, .tup []), (19, .one .top (.bool true)), (20, .one .top (.bool true)), (21, .tup []), (22, .tup []), (23, .tup []), (24, .tup []), (25, .tup []), (26, .tup []), (27, .tup []), (28, .one .top (.bool true))], [], H⟩ (by kernel_rfl) (by kernel_rfl) ?_
  cases hB9
  exact o_end (by kernel_rfl) (by kernel_rfl)
  refine o_eq (congrArg (fun q => (⟨[E1, E2, E3, E7, (15, .one .top (.bool q)), (16, .one .top (.bool q))], [], H⟩ : St)) h4) ?_
  refine o_run 4 ⟨[E1, E2, E3, E7, E8, E9, E10, (18, .one .top (.bool (decide (p1 > 16384)))), (19, .one .top (.bool (decide (p1 > 16384)))), (20, .one .top (.bool (decide (p1 > 16384))))], [], H⟩ (by kernel_rfl) (by kernel_rfl) ?_
  rcases if_inv hB9 with ⟨h5, hB9⟩ | ⟨h5, hB9⟩
  refine o_eq (congrArg (fun q => (⟨[E1, E2, E3, E7, E8, E9, E10, (18, .one .top (.bool q)), (19, .one .top (.bool q)), (20, .one .top (.bool q))], [], H⟩ : St)) h5) ?_
  refine o_run 8 ⟨[E1, E2, E3, E7, E8, E9, E10, (18, .one .top (.bool true)), (19, .one .top (.bool true)), (20, .one .top (.bool true)), (21, .tup []), (22, .tup []), (23, .tup []), (24, .tup []), (25, .tup []), (26, .tup []), (27, .tup []), (28, .one .top (.bool true))], [], H⟩ (by kernel_rfl) (by kernel_rfl) ?_
  cases hB9
  exact o_end (by kernel_rfl) (by kernel_rfl)
  refine o_eq (congrArg (fun q => (⟨[E1, E2, E3, E7, E8, E9, E10, (18, .one .top (.bool q)), (19, .one .top (.bool q)), (20, .one .top (.bool q))], [], H⟩ : St)) h5) ?_
  refine o_run 3 S31 (by kernel_rfl) (by kernel_rfl) ?_
  obtain ⟨r6, c7, hB9⟩ := bind1_inv hB9
  refine o_one ⟨[E1, E2, E3, E7, E8, E9, E10, E11, E12, E13, E14, E15, E16, (24, .agg (m0_ref09_Type r6))], [], H⟩ (st_call (d := (some 24)) (fz := false) (pure := true) (own := false) S31 (ok_ref09_Get H c7) (by kernel_rfl) (by kernel_rfl)) ?_
  refine o_run 4 ⟨[E1, E2, E3, E7, E8, E9, E10, E11, E12, E13, E14, E15, E16, (24, .agg (m0_ref09_Type r6)), (25, .one .top (.int .i64 r6.Size_)), (26, .one .top (.int .i64 (IntKind.wrap .i64 (p1 * r6.Size_)))), (27, .one .top (.bool (decide ((IntKind.wrap .i64 (p1 * r6.Size_)) > 16384)))), (28, .one .top (.bool (decide ((IntKind.wrap .i64 (p1 * r6.Size_)) > 16384))))], [], H⟩ (by kernel_rfl) (by kernel_rfl) ?_
  cases hB9
  exact o_end (by kernel_rfl) (by kernel_rfl)
  rcases if_inv hF with ⟨h10, hF⟩ | ⟨h10, hF⟩
  refine w_cT (m := .top) h10 (s1 := (⟨[E1], [], H⟩ : St)) (by kernel_rfl) (by kernel_rfl) ?_
  refine w_seq ?_
  refine w_reg ⟨[E6, (7, .one .top (.int .i64 0)), (8, .one .top (.int .i64 90))], [], H⟩ (by kernel_rfl) ?_
  refine w_ret ?_
  obtain ⟨e0, e1, e2⟩ := some3_inv hF
  subst e0
  subst e1
  subst e2
  exact fin_pure (v := .tup [.one (.own 0) (.sl 6 (List.map e_ref09_Type p0)), .one .top (.int .i64 0), .one .top (.int .i64 90)]) (by kernel_rfl) (by kernel_rfl) rfl (by kernel_rfl)
  refine w_cF (m := .top) h10 (s1 := S29) (by kernel_rfl) (by kernel_rfl) ?_
  refine w_skip ?_
  refine w_seq ?_
  obtain ⟨r11, c12, hF⟩ := bind1_inv hF
  let E24 : Nat × TV := (36, .agg (m0_ref09_Type r11))
  let E25 : Nat × TV := (37, .one .top (.int .i64 r11.Size_))
  let E26 : Nat × TV := (38, .one .top (.int .i64 (IntKind.wrap .i64 (p1 * r11.Size_))))
  let E27 : Nat × TV := (39, .agg [(.top, .int .i64 5), (.top, .int .i64 p1), (.top, .int .i64 p2), (.top, .int .i64 (IntKind.wrap .i64 (p1 * r11.Size_))), (.top, .bool false), (.top, .junk)])
  obtain ⟨r13, r14, r15, c16, hF⟩ := bind3_inv hF
  let E17 : Nat × TV := (6, .one (.own 0) (.sl 6 (List.map e_ref09_Type r13)))
  let E28 : Nat × TV := (40, .tup [.one (.own 0) (.sl 6 (List.map e_ref09_Type r13)), .one .top (.int .i64 r14), .one .top (.int .i64 r15)])
  refine w_regO ⟨[E17, (7, .one .top (.int .i64 r14)), (8, .one .top (.int .i64 r15))], [], H⟩ ?_ ?_
  refine o_run 6 S32 (by kernel_rfl) (by kernel_rfl) ?_
  refine o_one ⟨[E1, E2, E3, E18, E19, E20, E21, E22, E23, E24], [], H⟩ (st_call (d := (some 36)) (fz := false) (pure := true) (own := false) S32 (ok_ref09_Get H c12) (by kernel_rfl) (by kernel_rfl)) ?_
  refine o_run 3 ⟨[E1, E2, E3, E18, E19, E20, E21, E22, E23, E24, E25, E26, (39, .agg [(.top, .int .i64 5), (.top, .int .i64 p1), (.top, .int .i64 p2), (.top, .int .i64 (IntKind.wrap .i64 (p1 * r11.Size_))), (.top, .bool false), ((.own 1), .sl 3 (List.map e_ref09_Field ([] : List T_ref09_Field)))])], [], H⟩ (by kernel_rfl) (by kernel_rfl) ?_
  refine o_one ⟨[E1, E2, E3, E18, E19, E20, E21, E22, E23, E24, E25, E26, E27, E28], [], H⟩ (st_call (d := (some 40)) (fz := false) (pure := true) (own := true) (⟨[E1, E2, E3, E18, E19, E20, E21, E22, E23, E24, E25, E26, E27], [], H⟩ : St) (ok_ref09_add H c16) (by kernel_rfl) (by kernel_rfl)) ?_
  refine o_run 6 ⟨[E1, E2, E3, E17, (7, .one .top (.int .i64 r14)), (8, .one .top (.int .i64 r15)), E18, E19, E20, E21, E22, E23, E24, E25, E26, E27, E28, (41, .one (.own 0) (.sl 6 (List.map e_ref09_Type r13))), (42, .one .top (.int .i64 r14)), (43, .one .top (.int .i64 r15))], [], H⟩ (by kernel_rfl) (by kernel_rfl) ?_
  exact o_end (by kernel_rfl) (by kernel_rfl)
  refine w_ret ?_
  obtain ⟨e0, e1, e2⟩ := some3_inv hF
  subst e0
  subst e1
  subst e2
  exact fin_pure (v := .tup [.one (.own 0) (.sl 6 (List.map e_ref09_Type r13)), .one .top (.int .i64 r14), .one .top (.int .i64 r15)]) (by kernel_rfl) (by kernel_rfl) rfl (by kernel_rfl)
noncomputable def types_Table_Open (H : Heap) (p0 : Ptr) : Option (Heap × Int × Int) :=
  bind3 (types_Table_add H p0 (T_types_Type.mk 6 0 0 0 true ([] : List T_types_Field))) fun H4 r1 r2 =>
  some (H4, r1, r2)
theorem ok_types_Table_Open (H : Heap) {p0 : Ptr} {ra : Int} {rb : Int} {Hr : Heap} (hF : types_Table_Open H p0 = some (Hr, ra, rb)) : evS X 94 [.one .top (Ptr.av p0)] H = some (.tup [.one .top (.int .i64 ra), .one .top (.int .i64 rb)], Hr) := by
  let E1 : Ptr → Nat × TV := fun z0 => (0, .one .top (Ptr.av z0))
  let E2 : Ptr → Nat × TV := fun z0 => (4, .one .top (Ptr.av z0))
  let E3 : Nat × TV := (5, .agg [(.top, .int .i64 6), (.top, .int .i64 0), (.top, .int .i64 0), (.top, .int .i64 0), (.top, .bool true), (.top, .junk)])
  refine w_fun Try.func94 rfl (by kernel_rfl) false (by kernel_rfl) (s0 := (⟨[(E1 p0)], [], H⟩ : St)) (by kernel_rfl) ?_
  unfold types_Table_Open at hF
  refine w_seq ?_
  refine w_reg ⟨[(E1 p0)], [], H⟩ (by generalize p0 = qp0; cases qp0 <;> kernel_rfl) ?_
  refine w_seq ?_
  obtain ⟨H4, r1, r2, c3, hF⟩ := bind3_inv hF
  let E4 : Nat × TV := (6, .tup [.one .top (.int .i64 r1), .one .top (.int .i64 r2)])
  refine w_regO ⟨[(2, .one .top (.int .i64 r1)), (3, .one .top (.int .i64 r2))], [], H4⟩ ?_ ?_
  refine o_run 2 ⟨[(E1 p0), (E2 p0), (5, .agg [(.top, .int .i64 6), (.top, .int .i64 0), (.top, .int .i64 0), (.top, .int .i64 0), (.top, .bool true), ((.own 1), .sl 3 (List.map e_types_Field ([] : List T_types_Field)))])], [], H⟩ (by kernel_rfl) (by generalize p0 = qp0; cases qp0 <;> kernel_rfl) ?_
  refine o_one ⟨[(E1 p0), (E2 p0), E3, E4], [], H4⟩ (st_call (d := (some 6)) (fz := false) (pure := false) (own := true) (⟨[(E1 p0), (E2 p0), E3], [], H⟩ : St) (ok_types_Table_add H c3) (by generalize p0 = qp0; cases qp0 <;> kernel_rfl) (by generalize p0 = qp0; cases qp0 <;> kernel_rfl)) ?_
  refine o_run 4 ⟨[(E1 p0), (2, .one .top (.int .i64 r1)), (3, .one .top (.int .i64 r2)), (E2 p0), E3, E4, (7, .one .top (.int .i64 r1)), (8, .one .top (.int .i64 r2))], [], H4⟩ (by kernel_rfl) (by generalize p0 = qp0; cases qp0 <;> kernel_rfl) ?_
  exact o_end (by kernel_rfl) (by kernel_rfl)
  refine w_ret ?_
  obtain ⟨e0, e1, e2⟩ := some3_inv hF
  subst e0
  subst e1
  subst e2
  exact fin_imp (v := .tup [.one .top (.int .i64 r1), .one .top (.int .i64 r2)]) (by kernel_rfl) (by kernel_rfl) (by kernel_rfl)
noncomputable def ref09_Open  (p0 : (List T_ref09_Type)) : Option ((List T_ref09_Type) × Int × Int) :=
  bind3 (ref09_add p0 (T_ref09_Type.mk 6 0 0 0 true ([] : List T_ref09_Field))) fun r1 r2 r3 =>
  some (r1, r2, r3)
theorem ok_ref09_Open (H : Heap) {p0 : (List T_ref09_Type)} {ra : (List T_ref09_Type)} {rb : Int} {rc : Int} (hF : ref09_Open p0 = some (ra, rb, rc)) : evS X 95 [.one (.own 0) (.sl 6 (List.map e_ref09_Type p0))] H = some (.tup [.one (.own 0) (.sl 6 (List.map e_ref09_Type ra)), .one .top (.int .i64 rb), .one .top (.int .i64 rc)], H) := by
  let E1 : Nat × TV := (0, .one (.own 0) (.sl 6 (List.map e_ref09_Type p0)))
  let E3 : Nat × TV := (5, .one (.own 0) (.sl 6 (List.map e_ref09_Type p0)))
  let E4 : Nat × TV := (6, .agg [(.top, .int .i64 6), (.top, .int .i64 0), (.top, .int .i64 0), (.top, .int .i64 0), (.top, .bool true), (.top, .junk)])
  refine w_fun Try.func95 rfl (by kernel_rfl) true (by kernel_rfl) (s0 := (⟨[E1], [], H⟩ : St)) (by kernel_rfl) ?_
  unfold ref09_Open at hF
  refine w_seq ?_
  refine w_reg ⟨[E1], [], H⟩ (by kernel_rfl) ?_
  refine w_seq ?_
  obtain ⟨r1, r2, r3, c4, hF⟩ := bind3_inv hF
  let E2 : Nat × TV := (2, .one (.own 0) (.sl 6 (List.map e_ref09_Type r1)))
  let E5 : Nat × TV := (7, .tup [.one (.own 0) (.sl 6 (List.map e_ref09_Type r1)), .one .top (.int .i64 r2), .one .top (.int .i64 r3)])
  refine w_regO ⟨[E2, (3, .one .top (.int .i64 r2)), (4, .one .top (.int .i64 r3))], [], H⟩ ?_ ?_
  refine o_run 2 ⟨[E1, E3, (6, .agg [(.top, .int .i64 6), (.top, .int .i64 0), (.top, .int .i64 0), (.top, .int .i64 0), (.top, .bool true), ((.own 1), .sl 3 (List.map e_ref09_Field ([] : List T_ref09_Field)))])], [], H⟩ (by kernel_rfl) (by kernel_rfl) ?_
  refine o_one ⟨[E1, E3, E4, E5], [], H⟩ (st_call (d := (some 7)) (fz := false) (pure := true) (own := true) (⟨[E1, E3, E4], [], H⟩ : St) (ok_ref09_add H c4) (by kernel_rfl) (by kernel_rfl)) ?_
  refine o_run 6 ⟨[E1, E2, (3, .one .top (.int .i64 r2)), (4, .one .top (.int .i64 r3)), E3, E4, E5, (8, .one (.own 0) (.sl 6 (List.map e_ref09_Type r1))), (9, .one .top (.int .i64 r2)), (10, .one .top (.int .i64 r3))], [], H⟩ (by kernel_rfl) (by kernel_rfl) ?_
  exact o_end (by kernel_rfl) (by kernel_rfl)
  refine w_ret ?_
  obtain ⟨e0, e1, e2⟩ := some3_inv hF
  subst e0
  subst e1
  subst e2
  exact fin_pure (v := .tup [.one (.own 0) (.sl 6 (List.map e_ref09_Type r1)), .one .top (.int .i64 r2), .one .top (.int .i64 r3)]) (by kernel_rfl) (by kernel_rfl) rfl (by kernel_rfl)
noncomputable def types_Table_Field_L1 (r1 : T_types_Type) (p2 : ByteArray) (a8 : Int) : Option ((Int) ⊕ (Unit ⊕ Unit)) :=
  if (decide (a8 < (r1.Fields_.length : Int))) = true then (bind1 (gi r1.Fields_ a8) fun x10 =>
  if (strEq x10.Name_ p2) = true then (some (Sum.inr (Sum.inr ())))
  else (some (Sum.inl (IntKind.wrap .i64 (a8 + 1)))))
  else (some (Sum.inr (Sum.inl ())))
noncomputable def types_Table_Field (H : Heap) (p0 : Ptr) (p1 : Int) (p2 : ByteArray) (p3 : Int) : Option (Heap × Int) :=
  bind1 (types_Table_Get H p0 p1) fun r1 =>
  if ((r1.Kind_ != 6) || (!r1.Open_)) = true then (some (H, 111))
  else (bind1 (types_Table_whole H p0 p3) fun r5 =>
  if (!r5) = true then (some (H, 91))
  else (bind1 (loopO (fun (x : (Int)) => types_Table_Field_L1 r1 p2 x) 0) (sum2 (fun (_ : Unit) =>
  bind1 (types_Table_Get H p0 p3) fun r15 =>
  if (decide (r15.Size_ > (IntKind.wrap .i64 (16384 - r1.Size_)))) = true then (some (H, 90))
  else ((p0).bnd fun i18 o19 =>
  bind1 (get_types_Table H i18 o19) fun x21 =>
  bind1 (gi x21.list_ p1) fun x23 =>
  bind1 (app 32 x23.Fields_ ([(T_types_Field.mk p2 p3 x23.Size_)] : List T_types_Field)) fun v25 =>
  bind1 (si x21.list_ p1 (T_types_Type.mk x23.Kind_ x23.Len_ x23.Base_ x23.Size_ x23.Open_ v25)) fun v27 =>
  bnd (set_types_Table H i18 o19 (T_types_Table.mk v27)) fun H29 =>
  bind1 (si v27 p1 (T_types_Type.mk ((T_types_Type.mk x23.Kind_ x23.Len_ x23.Base_ x23.Size_ x23.Open_ v25).Kind_) ((T_types_Type.mk x23.Kind_ x23.Len_ x23.Base_ x23.Size_ x23.Open_ v25).Len_) ((T_types_Type.mk x23.Kind_ x23.Len_ x23.Base_ x23.Size_ x23.Open_ v25).Base_) (IntKind.wrap .i64 (((T_types_Type.mk x23.Kind_ x23.Len_ x23.Base_ x23.Size_ x23.Open_ v25).Size_) + r15.Size_)) ((T_types_Type.mk x23.Kind_ x23.Len_ x23.Base_ x23.Size_ x23.Open_ v25).Open_) ((T_types_Type.mk x23.Kind_ x23.Len_ x23.Base_ x23.Size_ x23.Open_ v25).Fields_))) fun v32 =>
  bnd (set_types_Table H29 i18 o19 (T_types_Table.mk v32)) fun H34 =>
  some (H34, 0))) (fun (_ : Unit) =>
  some (H, 51)))))
theorem ok_types_Table_Field (H : Heap) {p0 : Ptr} {p1 : Int} {p2 : ByteArray} {p3 : Int} {ra : Int} {Hr : Heap} (hF : types_Table_Field H p0 p1 p2 p3 = some (Hr, ra)) : evS X 96 [.one .top (Ptr.av p0), .one .top (.int .i64 p1), .one .top (.str p2), .one .top (.int .i64 p3)] H = some (.one .top (.int .i64 ra), Hr) := by
  let E1 : Ptr → Nat × TV := fun z0 => (0, .one .top (Ptr.av z0))
  let E2 : Nat × TV := (1, .one .top (.int .i64 p1))
  let E3 : Nat × TV := (2, .one .top (.str p2))
  let E4 : Nat × TV := (3, .one .top (.int .i64 p3))
  let E5 : Nat × TV := (9, .one .top (.loc 9 0))
  let E7 : Ptr → Nat × TV := fun z0 => (14, .one .top (Ptr.av z0))
  let E8 : Nat × TV := (15, .one .top (.int .i64 p1))
  let E9 : Nat × TV := (18, .one .top (.loc 9 0))
  let E11 : Ptr → Nat × TV := fun z0 => (27, .one .top (Ptr.av z0))
  let E12 : Nat × TV := (28, .one .top (.int .i64 p3))
  let E15 : Nat × TV := (31, .one .top (.loc 9 5))
  let E16 : Nat × TV := (8, .one .top (.int .i64 51))
  let E20 : Ptr → Nat × TV := fun z0 => (43, .one .top (Ptr.av z0))
  let E21 : Nat × TV := (44, .one .top (.int .i64 p3))
  let E28 : Nat × TV := (56, .one .top (.int .i64 p1))
  let E34 : Nat × TV := (63, .one .top (.str p2))
  let E35 : Nat × TV := (64, .one .top (.int .i64 p3))
  let E39 : Nat × TV := (62, .one .top .junk)
  let E42 : Nat × TV := (70, .one .top .junk)
  let E43 : Nat × TV := (71, .one .top .junk)
  let S57 : Ptr → St := fun z0 => ⟨[(E1 z0), E2, E3, E4], [], H⟩
  let S59 : Ptr → St := fun z0 => ⟨[(E1 z0), E2, E3, E4, (E7 z0), E8], [], H⟩
  let S60 : St := ⟨[], [], H⟩
  let S63 : St := ⟨[E16], [], H⟩
  refine w_fun Try.func96 rfl (by kernel_rfl) false (by kernel_rfl) (s0 := (S57 p0)) (by kernel_rfl) ?_
  unfold types_Table_Field at hF
  refine w_seq ?_
  refine w_reg (S57 p0) (by generalize p0 = qp0; cases qp0 <;> kernel_rfl) ?_
  refine w_seq ?_
  obtain ⟨r1, c2, hF⟩ := bind1_inv hF
  let B6 : Nat × List MC := (9, (m1_types_Type r1))
  let E10 : Nat × TV := (19, .one .top (.int .i64 r1.Kind_))
  let E13 : Nat × TV := (32, .one .bl (.sl 3 (List.map e_types_Field r1.Fields_)))
  let E14 : Nat × TV := (33, .one .top (.int .i64 (r1.Fields_.length : Int)))
  let S58 : Ptr → St := fun z0 => ⟨[(E1 z0), E2, E3, E4, E5], [B6], H⟩
  let S61 : Ptr → St := fun z0 => ⟨[(E1 z0), E2, E3, E4, E5, (E11 z0), E12], [B6], H⟩
  let S62 : Ptr → St := fun z0 => ⟨[(E1 z0), E2, E3, E4, E5, E15, E13], [B6], H⟩
  let S65 : Ptr → St := fun z0 => ⟨[(E1 z0), E2, E3, E4, E5, (E20 z0), E21], [B6], H⟩
  refine w_regO (S58 p0) ?_ ?_
  refine o_run 2 (S59 p0) (by kernel_rfl) (by generalize p0 = qp0; cases qp0 <;> kernel_rfl) ?_
  refine o_one ⟨[(E1 p0), E2, E3, E4, (E7 p0), E8, (16, .agg (m1_types_Type r1))], [], H⟩ (st_call (d := (some 16)) (fz := false) (pure := true) (own := false) (S59 p0) (ok_types_Table_Get H c2) (by generalize p0 = qp0; cases qp0 <;> kernel_rfl) (by generalize p0 = qp0; cases qp0 <;> kernel_rfl)) ?_
  refine o_run 2 ⟨[(E1 p0), E2, E3, E4, E5, (E7 p0), E8, (16, .agg [(.top, .int .i64 r1.Kind_), (.top, .int .i64 r1.Len_), (.top, .int .i64 r1.Base_), (.top, .int .i64 r1.Size_), (.top, .bool r1.Open_), (.top, .junk)])], [B6], H⟩ (by kernel_rfl) (by generalize p0 = qp0; cases qp0 <;> kernel_rfl) ?_
  exact o_end (by kernel_rfl) (by kernel_rfl)
  refine w_seq ?_
  refine w_block ?_
  refine w_seq ?_
  refine w_regO ⟨[(E1 p0), E2, E3, E4, E5, (17, .one .top (.bool ((r1.Kind_ != 6) || (!r1.Open_))))], [B6], H⟩ ?_ ?_
  refine o_run 4 ⟨[(E1 p0), E2, E3, E4, E5, E9, E10, (20, .one .top (.bool (r1.Kind_ != 6))), (21, .one .top (.bool (r1.Kind_ != 6)))], [B6], H⟩ (by kernel_rfl) (by generalize p0 = qp0; cases qp0 <;> kernel_rfl) ?_
  rcases bool_cases (r1.Kind_ != 6) with h3 | h3
  refine o_eq (congrArg (fun q => (⟨[(E1 p0), E2, E3, E4, E5, E9, E10, (20, .one .top (.bool q)), (21, .one .top (.bool q))], [B6], H⟩ : St)) h3) ?_
  refine o_run 5 ⟨[(E1 p0), E2, E3, E4, E5, (17, .one .top (.bool true)), E9, E10, (20, .one .top (.bool true)), (21, .one .top (.bool true)), (22, .tup []), (23, .tup []), (24, .tup []), (25, .one .top (.bool true))], [B6], H⟩ (by kernel_rfl) (by generalize p0 = qp0; cases qp0 <;> kernel_rfl) ?_
  refine o_eq2 (congrArg (fun q0 => (⟨[(E1 p0), E2, E3, E4, E5, (17, .one .top (.bool q0))], [B6], H⟩ : St)) (show true = ((r1.Kind_ != 6) || (!r1.Open_)) by simp [h3])) ?_
  exact o_end (by kernel_rfl) (by kernel_rfl)
  refine o_eq (congrArg (fun q => (⟨[(E1 p0), E2, E3, E4, E5, E9, E10, (20, .one .top (.bool q)), (21, .one .top (.bool q))], [B6], H⟩ : St)) h3) ?_
  refine o_run 5 ⟨[(E1 p0), E2, E3, E4, E5, (17, .one .top (.bool (!r1.Open_))), E9, E10, (20, .one .top (.bool false)), (21, .one .top (.bool false)), (22, .one .top (.loc 9 4)), (23, .one .top (.bool r1.Open_)), (24, .one .top (.bool (!r1.Open_))), (25, .one .top (.bool (!r1.Open_)))], [B6], H⟩ (by kernel_rfl) (by generalize p0 = qp0; cases qp0 <;> kernel_rfl) ?_
  refine o_eq2 (congrArg (fun q0 => (⟨[(E1 p0), E2, E3, E4, E5, (17, .one .top (.bool q0))], [B6], H⟩ : St)) (show (!r1.Open_) = ((r1.Kind_ != 6) || (!r1.Open_)) by simp [h3])) ?_
  exact o_end (by kernel_rfl) (by kernel_rfl)
  rcases if_inv hF with ⟨h4, hF⟩ | ⟨h4, hF⟩
  refine w_cT (m := .top) h4 (s1 := S60) (by kernel_rfl) (by kernel_rfl) ?_
  refine w_seq ?_
  refine w_reg ⟨[(8, .one .top (.int .i64 111))], [], H⟩ (by kernel_rfl) ?_
  refine w_ret ?_
  obtain ⟨e0, e1⟩ := some2_inv hF
  subst e0
  subst e1
  exact fin_imp (v := .one .top (.int .i64 111)) (by kernel_rfl) (by kernel_rfl) (by kernel_rfl)
  refine w_cF (m := .top) h4 (s1 := (S58 p0)) (by kernel_rfl) (by kernel_rfl) ?_
  refine w_seq ?_
  obtain ⟨r5, c6, hF⟩ := bind1_inv hF
  refine w_regO ⟨[(E1 p0), E2, E3, E4, E5, (26, .one .top (.bool (!r5)))], [B6], H⟩ ?_ ?_
  refine o_run 2 (S61 p0) (by kernel_rfl) (by generalize p0 = qp0; cases qp0 <;> kernel_rfl) ?_
  refine o_one ⟨[(E1 p0), E2, E3, E4, E5, (E11 p0), E12, (29, .one .top (.bool r5))], [B6], H⟩ (st_call (d := (some 29)) (fz := false) (pure := true) (own := false) (S61 p0) (ok_types_Table_whole H c6) (by generalize p0 = qp0; cases qp0 <;> kernel_rfl) (by generalize p0 = qp0; cases qp0 <;> kernel_rfl)) ?_
  refine o_run 2 ⟨[(E1 p0), E2, E3, E4, E5, (26, .one .top (.bool (!r5))), (E11 p0), E12, (29, .one .top (.bool r5)), (30, .one .top (.bool (!r5)))], [B6], H⟩ (by kernel_rfl) (by generalize p0 = qp0; cases qp0 <;> kernel_rfl) ?_
  exact o_end (by kernel_rfl) (by kernel_rfl)
  rcases if_inv hF with ⟨h7, hF⟩ | ⟨h7, hF⟩
  refine w_cT (m := .top) h7 (s1 := S60) (by kernel_rfl) (by kernel_rfl) ?_
  refine w_seq ?_
  refine w_reg ⟨[(8, .one .top (.int .i64 91))], [], H⟩ (by kernel_rfl) ?_
  refine w_ret ?_
  obtain ⟨e0, e1⟩ := some2_inv hF
  subst e0
  subst e1
  exact fin_imp (v := .one .top (.int .i64 91)) (by kernel_rfl) (by kernel_rfl) (by kernel_rfl)
  refine w_cF (m := .top) h7 (s1 := (S58 p0)) (by kernel_rfl) (by kernel_rfl) ?_
  refine w_skip ?_
  refine w_seq ?_
  refine w_seq ?_
  refine w_regO ⟨[(E1 p0), E2, E3, E4, E5, E13, E14, (34, .one .top (.int .i64 0))], [B6], H⟩ ?_ ?_
  refine o_run 2 (S62 p0) (by kernel_rfl) (by generalize p0 = qp0; cases qp0 <;> kernel_rfl) ?_
  refine o_one ⟨[(E1 p0), E2, E3, E4, E5, E15, E13, E14], [B6], H⟩ (st_len (S62 p0) r1.Fields_ e_types_Field (some 33) (by generalize p0 = qp0; cases qp0 <;> kernel_rfl) (by generalize p0 = qp0; cases qp0 <;> kernel_rfl)) ?_
  refine o_run 1 ⟨[(E1 p0), E2, E3, E4, E5, E15, E13, E14, (34, .one .top (.int .i64 0))], [B6], H⟩ (by kernel_rfl) (by generalize p0 = qp0; cases qp0 <;> kernel_rfl) ?_
  exact o_end (by kernel_rfl) (by kernel_rfl)
  refine w_block ?_
  obtain ⟨r13, hL14, hF⟩ := bind1_inv hF
  refine w_loop (fun (x : (Int)) => (⟨[(E1 p0), E2, E3, E4, E5, E13, E14, (34, .one .top (.int .i64 x))], [B6], H⟩ : St)) (Sum.elim (fun (y : Unit) => ((.exit 1, (S58 p0)) : Ex × St)) (fun (y : Unit) => ((.ret, S63) : Ex × St))) hL14 (by kernel_rfl) ?_ ?_
  rintro a8 o hF
  replace hF : types_Table_Field_L1 r1 p2 a8 = some o := hF
  let E17 : Nat × TV := (34, .one .top (.int .i64 a8))
  let S64 : Ptr → St := fun z0 => ⟨[(E1 z0), E2, E3, E4, E5, E13, E14, E17], [B6], H⟩
  unfold types_Table_Field_L1 at hF
  refine w_seq ?_
  refine w_reg ⟨[(E1 p0), E2, E3, E4, E5, E13, E14, E17, (35, .one .top (.bool (decide (a8 < (r1.Fields_.length : Int)))))], [B6], H⟩ (by generalize p0 = qp0; cases qp0 <;> kernel_rfl) ?_
  refine w_seq ?_
  rcases if_inv hF with ⟨h9, hF⟩ | ⟨h9, hF⟩
  refine w_cT (m := .top) h9 (s1 := (S64 p0)) (by kernel_rfl) (by kernel_rfl) ?_
  refine w_skip ?_
  refine w_seq ?_
  refine w_block ?_
  refine w_seq ?_
  obtain ⟨x10, h11, hF⟩ := bind1_inv hF
  let E18 : Nat × TV := (36, .one .top (.rd .bl .bl [.str x10.Name_, .int .i64 x10.Type_, .int .i64 x10.Offset_] 0))
  refine w_regO ⟨[(E1 p0), E2, E3, E4, E5, (11, .one .top (.loc 11 0)), E13, E14, E17], [B6, (11, (m0_types_Field x10))], H⟩ ?_ ?_
  refine o_one ⟨[(E1 p0), E2, E3, E4, E5, E13, E14, E17, E18], [B6], H⟩ (st_ix (X := X) (S64 p0) 53 58 3 h11 e_types_Field .bl (some 36) (by generalize p0 = qp0; cases qp0 <;> kernel_rfl) (by generalize p0 = qp0; cases qp0 <;> kernel_rfl) (by generalize p0 = qp0; cases qp0 <;> kernel_rfl) (by generalize p0 = qp0; cases qp0 <;> kernel_rfl)) ?_
  refine o_run 3 ⟨[(E1 p0), E2, E3, E4, E5, (11, .one .top (.loc 11 0)), E13, E14, E17, E18, (37, .agg (m0_types_Field x10))], [B6, (11, (m0_types_Field x10))], H⟩ (by kernel_rfl) (by generalize p0 = qp0; cases qp0 <;> kernel_rfl) ?_
  exact o_end (by kernel_rfl) (by kernel_rfl)
  refine w_seq ?_
  refine w_reg ⟨[(E1 p0), E2, E3, E4, E5, E13, E14, E17, (41, .one .top (.bool (strEq x10.Name_ p2)))], [B6], H⟩ (by generalize p0 = qp0; cases qp0 <;> kernel_rfl) ?_
  rcases if_inv hF with ⟨h12, hF⟩ | ⟨h12, hF⟩
  refine w_cT (m := .top) h12 (s1 := S60) (by kernel_rfl) (by kernel_rfl) ?_
  refine w_seq ?_
  refine w_reg S63 (by kernel_rfl) ?_
  refine w_ret ?_
  cases hF
  exact ⟨_, rfl, (by kernel_rfl)⟩
  refine w_cF (m := .top) h12 (s1 := (S64 p0)) (by kernel_rfl) (by kernel_rfl) ?_
  refine w_skip ?_
  refine w_reg ⟨[(E1 p0), E2, E3, E4, E5, E13, E14, (34, .one .top (.int .i64 (IntKind.wrap .i64 (a8 + 1))))], [B6], H⟩ (by generalize p0 = qp0; cases qp0 <;> kernel_rfl) ?_
  cases hF
  exact ⟨_, rfl, (by kernel_rfl)⟩
  refine w_cF (m := .top) h9 (s1 := (S58 p0)) (by kernel_rfl) (by kernel_rfl) ?_
  refine w_exit ?_
  cases hF
  exact ⟨_, rfl, (by kernel_rfl)⟩
  rcases sum2_inv hF with ⟨r13', rfl, hF⟩ | ⟨r13', rfl, hF⟩
  refine w_oe (i := 1) (s := (S58 p0)) (by kernel_rfl) ?_
  refine e_here ?_
  refine w_seq ?_
  obtain ⟨r15, c16, hF⟩ := bind1_inv hF
  let E19 : Nat × TV := (12, .one .top (.int .i64 r15.Size_))
  let E53 : Nat × TV := (78, .one .top (.int .i64 r15.Size_))
  refine w_regO ⟨[(E1 p0), E2, E3, E4, E5, E19], [B6], H⟩ ?_ ?_
  refine o_run 2 (S65 p0) (by kernel_rfl) (by generalize p0 = qp0; cases qp0 <;> kernel_rfl) ?_
  refine o_one ⟨[(E1 p0), E2, E3, E4, E5, (E20 p0), E21, (45, .agg (m1_types_Type r15))], [B6], H⟩ (st_call (d := (some 45)) (fz := false) (pure := true) (own := false) (S65 p0) (ok_types_Table_Get H c16) (by generalize p0 = qp0; cases qp0 <;> kernel_rfl) (by generalize p0 = qp0; cases qp0 <;> kernel_rfl)) ?_
  refine o_run 2 ⟨[(E1 p0), E2, E3, E4, E5, E19, (E20 p0), E21, (45, .agg (m1_types_Type r15)), (46, .one .top (.int .i64 r15.Size_))], [B6], H⟩ (by kernel_rfl) (by generalize p0 = qp0; cases qp0 <;> kernel_rfl) ?_
  exact o_end (by kernel_rfl) (by kernel_rfl)
  refine w_seq ?_
  refine w_seq ?_
  refine w_reg ⟨[(E1 p0), E2, E3, E4, E19, (51, .one .top (.bool (decide (r15.Size_ > (IntKind.wrap .i64 (16384 - r1.Size_))))))], [], H⟩ (by generalize p0 = qp0; cases qp0 <;> kernel_rfl) ?_
  rcases if_inv hF with ⟨h17, hF⟩ | ⟨h17, hF⟩
  refine w_cT (m := .top) h17 (s1 := S60) (by kernel_rfl) (by kernel_rfl) ?_
  refine w_seq ?_
  refine w_reg ⟨[(8, .one .top (.int .i64 90))], [], H⟩ (by kernel_rfl) ?_
  refine w_ret ?_
  obtain ⟨e0, e1⟩ := some2_inv hF
  subst e0
  subst e1
  exact fin_imp (v := .one .top (.int .i64 90)) (by kernel_rfl) (by kernel_rfl) (by kernel_rfl)
  refine w_cF (m := .top) h17 (s1 := (⟨[(E1 p0), E2, E3, E4, E19], [], H⟩ : St)) (by kernel_rfl) (by kernel_rfl) ?_
  refine w_skip ?_
  refine w_seq ?_
  obtain ⟨i18, o19, h20, hF⟩ := pbnd_inv hF
  let E22 : Nat × TV := (13, .one .top (.el (.obj i18 o19) (Int.toNat p1) 0))
  let E23 : Nat × TV := (0, .one .top (.obj i18 o19))
  let E24 : Nat × TV := (52, .one .top (.obj i18 o19))
  let E25 : Nat × TV := (53, .one .top (.obj i18 o19))
  let E26 : Nat × TV := (54, .one .top (.obj i18 o19))
  let E29 : Nat × TV := (57, .one .top (.el (.obj i18 o19) (Int.toNat p1) 0))
  let E30 : Nat × TV := (58, .one .top (.el (.obj i18 o19) (Int.toNat p1) 0))
  let E31 : Nat × TV := (59, .one .top (.el (.obj i18 o19) (Int.toNat p1) 0))
  let E32 : Nat × TV := (60, .one .top (.el (.obj i18 o19) (Int.toNat p1) 0))
  let E33 : Nat × TV := (61, .one .top (.el (.obj i18 o19) (Int.toNat p1) 5))
  let E36 : Nat × TV := (65, .one .top (.el (.obj i18 o19) (Int.toNat p1) 0))
  let E37 : Nat × TV := (66, .one .top (.el (.obj i18 o19) (Int.toNat p1) 0))
  let E38 : Nat × TV := (67, .one .top (.el (.obj i18 o19) (Int.toNat p1) 3))
  let E44 : Nat × TV := (72, .one .top (.el (.obj i18 o19) (Int.toNat p1) 0))
  let E45 : Nat × TV := (73, .one .top (.el (.obj i18 o19) (Int.toNat p1) 5))
  let E49 : Nat × TV := (74, .one .top (.el (.obj i18 o19) (Int.toNat p1) 0))
  let E50 : Nat × TV := (75, .one .top (.el (.obj i18 o19) (Int.toNat p1) 0))
  let E51 : Nat × TV := (76, .one .top (.el (.obj i18 o19) (Int.toNat p1) 3))
  let E55 : Nat × TV := (80, .one .top (.el (.obj i18 o19) (Int.toNat p1) 0))
  let E56 : Nat × TV := (81, .one .top (.el (.obj i18 o19) (Int.toNat p1) 3))
  let S66 : St := ⟨[E23, E2, E3, E4, E19, E24, E25, E26], [], H⟩
  let S68 : St := ⟨[E3, E4, E19, E22, E30, E31, E32, E33, E34, E35, E36, E37, E38], [], H⟩
  obtain ⟨x21, V22, hF⟩ := bind1_inv hF
  replace V22 := hgetT_inv V22
  let E27 : Nat × TV := (55, .one .top (.at_ (.obj i18 o19) 0 ((List.map e_types_Type x21.list_).length)))
  let S67 : St := ⟨[E23, E2, E3, E4, E19, E24, E25, E26, E27, E28], [], H⟩
  obtain ⟨x23, h24, hF⟩ := bind1_inv hF
  let E40 : Nat × TV := (68, .one .top (.int .i64 x23.Size_))
  let E41 : Nat × TV := (69, .agg [(.top, .str p2), (.top, .int .i64 p3), (.top, .int .i64 x23.Size_)])
  let E46 : Nat × TV := (62, .one (.own 1) (.sl 3 (List.map e_types_Field x23.Fields_)))
  let E47 : Nat × TV := (70, .one (.own 1) (.sl 3 (List.map e_types_Field ([(T_types_Field.mk p2 p3 x23.Size_)] : List T_types_Field))))
  let S70 : St := ⟨[E3, E4, E19, E22, E30, E31, E32, E33, E46, E34, E35, E36, E37, E38], [], (hset H i18 o19 [((.own 2), .sl 6 ((List.map e_types_Type x21.list_).set (Int.toNat p1) [.int .i64 x23.Kind_, .int .i64 x23.Len_, .int .i64 x23.Base_, .int .i64 x23.Size_, .bool x23.Open_, .junk]))])⟩
  let S71 : St := ⟨[E3, E4, E19, E22, E30, E31, E32, E33, E46, E34, E35, E36, E37, E38, E40, E41], [], (hset H i18 o19 [((.own 2), .sl 6 ((List.map e_types_Type x21.list_).set (Int.toNat p1) [.int .i64 x23.Kind_, .int .i64 x23.Len_, .int .i64 x23.Base_, .int .i64 x23.Size_, .bool x23.Open_, .junk]))])⟩
  let S72 : St := ⟨[E3, E4, E19, E22, E30, E31, E32, E33, E46, E34, E35, E36, E37, E38, E40, E41, E47], [], (hset H i18 o19 [((.own 2), .sl 6 ((List.map e_types_Type x21.list_).set (Int.toNat p1) [.int .i64 x23.Kind_, .int .i64 x23.Len_, .int .i64 x23.Base_, .int .i64 x23.Size_, .bool x23.Open_, .junk]))])⟩
  let S74 : St := ⟨[E3, E4, E19, E22, E30, E31, E32, E33, E39, E34, E35, E36, E37, E38, E40, E41, E42], [], (hset H i18 o19 [((.own 2), .sl 6 ((List.map e_types_Type x21.list_).set (Int.toNat p1) [.int .i64 x23.Kind_, .int .i64 x23.Len_, .int .i64 x23.Base_, .int .i64 x23.Size_, .bool x23.Open_, .junk]))])⟩
  let S77 : St := ⟨[E3, E4, E19, E22, E30, E31, E32, E33, E39, E34, E35, E36, E37, E38, E40, E41, E42, E43, E44, E45], [], (hset H i18 o19 [((.own 2), .sl 6 ((List.map e_types_Type x21.list_).set (Int.toNat p1) [.int .i64 x23.Kind_, .int .i64 x23.Len_, .int .i64 x23.Base_, .int .i64 x23.Size_, .bool x23.Open_, .junk]))])⟩
  let S78 : St := ⟨[E3, E4, E19, E22, E30, E31, E32, E33, E34, E35, E36, E37, E38, E40, E41], [], H⟩
  let S79 : St := ⟨[E3, E4, E19, E22, E30, E31, E32, E33, E34, E35, E36, E37, E38, E40, E41, E47], [], H⟩
  refine w_regO ⟨[E3, E4, E19, E22], [], H⟩ ?_ ?_
  refine o_run 1 ⟨[(E1 p0), E2, E3, E4, E19, (52, .one .top (Ptr.av p0))], [], H⟩ (by kernel_rfl) (by generalize p0 = qp0; cases qp0 <;> kernel_rfl) ?_
  refine o_eq (congrArg (fun q => (⟨[(0, .one .top (Ptr.av q)), E2, E3, E4, E19, (52, .one .top (Ptr.av q))], [], H⟩ : St)) h20) ?_
  refine o_run 1 ⟨[E23, E2, E3, E4, E19, E24, E25], [], H⟩ (by kernel_rfl) (by kernel_rfl) ?_
  refine o_run 1 S66 (by kernel_rfl) (by kernel_rfl) ?_
  refine o_one ⟨[E23, E2, E3, E4, E19, E24, E25, E26, E27], [], H⟩ (st_ldP (X := X) S66 135 V22 0 1 6 (List.map e_types_Type x21.list_) (some 55) (by kernel_rfl) (by kernel_rfl) (by kernel_rfl) (by kernel_rfl) (by kernel_rfl) (by kernel_rfl)) ?_
  refine o_run 1 S67 (by kernel_rfl) (by kernel_rfl) ?_
  refine o_one ⟨[E23, E2, E3, E4, E19, E24, E25, E26, E27, E28, E29], [], H⟩ (st_ixA (X := X) S67 135 55 6 h24 e_types_Type (.obj i18 o19) 0 (List.map e_types_Type x21.list_).length 1 (some 57) (by kernel_rfl) (by kernel_rfl) (by kernel_rfl) (at_obj (k := 0) (c := ((.own 2), .sl 6 (List.map e_types_Type x21.list_))) V22 (by kernel_rfl) (by kernel_rfl)) rfl (List.length_map _) (by kernel_rfl)) ?_
  refine o_run 1 ⟨[E23, E2, E3, E4, E19, E22, E24, E25, E26, E27, E28, E29], [], H⟩ (by kernel_rfl) (by kernel_rfl) ?_
  exact o_end (by kernel_rfl) (by kernel_rfl)
  refine w_seq ?_
  obtain ⟨v25, h26, hF⟩ := bind1_inv hF
  let E48 : Nat × TV := (71, .one (.own 1) (.sl 3 (List.map e_types_Field v25)))
  let E52 : Nat × TV := (77, .one .top (.int .i64 ((T_types_Type.mk x23.Kind_ x23.Len_ x23.Base_ x23.Size_ x23.Open_ v25).Size_)))
  let E54 : Nat × TV := (79, .one .top (.int .i64 (IntKind.wrap .i64 (((T_types_Type.mk x23.Kind_ x23.Len_ x23.Base_ x23.Size_ x23.Open_ v25).Size_) + r15.Size_))))
  let S73 : St := ⟨[E3, E4, E19, E22, E30, E31, E32, E33, E39, E34, E35, E36, E37, E38, E40, E41, E42, E48], [], (hset H i18 o19 [((.own 2), .sl 6 ((List.map e_types_Type x21.list_).set (Int.toNat p1) [.int .i64 x23.Kind_, .int .i64 x23.Len_, .int .i64 x23.Base_, .int .i64 x23.Size_, .bool x23.Open_, .junk]))])⟩
  let S75 : St := ⟨[E3, E4, E19, E22, E30, E31, E32, E33, E39, E34, E35, E36, E37, E38, E40, E41, E42, E48, E44], [], (hset H i18 o19 [((.own 2), .sl 6 ((List.map e_types_Type x21.list_).set (Int.toNat p1) [.int .i64 x23.Kind_, .int .i64 x23.Len_, .int .i64 x23.Base_, .int .i64 x23.Size_, .bool x23.Open_, .junk]))])⟩
  let S76 : St := ⟨[E3, E4, E19, E22, E30, E31, E32, E33, E39, E34, E35, E36, E37, E38, E40, E41, E42, E48, E44, E45], [], (hset H i18 o19 [((.own 2), .sl 6 ((List.map e_types_Type x21.list_).set (Int.toNat p1) [.int .i64 x23.Kind_, .int .i64 x23.Len_, .int .i64 x23.Base_, .int .i64 x23.Size_, .bool x23.Open_, .junk]))])⟩
  obtain ⟨v27, h28, hF⟩ := bind1_inv hF
  let S69 : St := ⟨[E3, E4, E19, E22, E30, E31, E32, E33, E39, E34, E35, E36, E37, E38, E40, E41, E42, E43, E44, E45], [], (hset H i18 o19 [((.own 2), .sl 6 (List.map e_types_Type v27))])⟩
  obtain ⟨H29, h30, hF⟩ := bnd_inv hF
  let S80 : St := ⟨[E19, E22, E49, E50, E51], [], H29⟩
  let S81 : St := ⟨[E19, E22, E49, E50, E51, E52, E53, E54, E55, E56], [], H29⟩
  have V31 : hget H29 i18 o19 1 = some (o_types_Table (T_types_Table.mk v27)) := by rw [← h30]; exact hset_get V22 rfl
  let K83 : Sch := .last 12 (.last 13 (.take 14 (.take 15 (.last 16 .done))))
  refine w_regD (.take 0 (.take 1 (.take 2 (.take 3 (.take 5 (.take 6 (.take 7 (.take 8 (.take 9 (.alt 4 (.last 10 (.take 11 K83)) (.last 10 (.take 11 (.alt 4 K83 (.last 12 (.last 4 (.last 13 (.take 14 (.take 15 (.last 16 .done))))))))))))))))))) (by kernel_rfl) (⟨[E19, E22], [], H29⟩ : St) ?_ ?_
  refine d_take ⟨[E3, E4, E19, E22, E30], [], H⟩ (by kernel_rfl) ?_
  refine d_take ⟨[E3, E4, E19, E22, E30, E31], [], H⟩ (by kernel_rfl) ?_
  refine d_take ⟨[E3, E4, E19, E22, E30, E31, E32], [], H⟩ (by kernel_rfl) ?_
  refine d_take ⟨[E3, E4, E19, E22, E30, E31, E32, E33], [], H⟩ (by kernel_rfl) ?_
  refine d_take ⟨[E3, E4, E19, E22, E30, E31, E32, E33, E34], [], H⟩ (by kernel_rfl) ?_
  refine d_take ⟨[E3, E4, E19, E22, E30, E31, E32, E33, E34, E35], [], H⟩ (by kernel_rfl) ?_
  refine d_take ⟨[E3, E4, E19, E22, E30, E31, E32, E33, E34, E35, E36], [], H⟩ (by kernel_rfl) ?_
  refine d_take ⟨[E3, E4, E19, E22, E30, E31, E32, E33, E34, E35, E36, E37], [], H⟩ (by kernel_rfl) ?_
  refine d_take S68 (by kernel_rfl) ?_
  refine q_in S69 ?_ ?_
  refine q_alt S70 (st_ldEt (X := X) S68 (⟨[E3, E4, E19, E22, E30, E31, E32, E33, E34, E35, E36, E37, E38], [], (hset H i18 o19 [((.own 2), .sl 6 ((List.map e_types_Type x21.list_).set (Int.toNat p1) [.int .i64 x23.Kind_, .int .i64 x23.Len_, .int .i64 x23.Base_, .int .i64 x23.Size_, .bool x23.Open_, .junk]))])⟩ : St) 53 (.obj i18 o19) (Int.toNat p1) 5 1 1 (List.map e_types_Type x21.list_) [.int .i64 x23.Kind_, .int .i64 x23.Len_, .int .i64 x23.Base_, .int .i64 x23.Size_, .bool x23.Open_, .sl 3 (List.map e_types_Field x23.Fields_)] [.int .i64 x23.Kind_, .int .i64 x23.Len_, .int .i64 x23.Base_, .int .i64 x23.Size_, .bool x23.Open_, .junk] 6 false (.one (.own 1) (.sl 3 (List.map e_types_Field x23.Fields_))) (some 62) (by kernel_rfl) (by kernel_rfl) (by kernel_rfl) (at_obj (k := 0) (c := ((.own 2), .sl 6 (List.map e_types_Type x21.list_))) V22 (by kernel_rfl) (by kernel_rfl)) (el_at h24) (by kernel_rfl) (by kernel_rfl) (by kernel_rfl) (root_obj (k := 0) V22 (by kernel_rfl) (hset_sub0 (k := 0) V22 (Nat.le_of_ble_eq_true rfl))) (by kernel_rfl)) ?_ ?_
  refine q_last ⟨[E3, E4, E19, E22, E30, E31, E32, E33, E46, E34, E35, E36, E37, E38, E40], [], (hset H i18 o19 [((.own 2), .sl 6 ((List.map e_types_Type x21.list_).set (Int.toNat p1) [.int .i64 x23.Kind_, .int .i64 x23.Len_, .int .i64 x23.Base_, .int .i64 x23.Size_, .bool x23.Open_, .junk]))])⟩ (st_ldE (X := X) S70 3 (.obj i18 o19) (Int.toNat p1) 3 1 1 ((List.map e_types_Type x21.list_).set (Int.toNat p1) [.int .i64 x23.Kind_, .int .i64 x23.Len_, .int .i64 x23.Base_, .int .i64 x23.Size_, .bool x23.Open_, .junk]) [.int .i64 x23.Kind_, .int .i64 x23.Len_, .int .i64 x23.Base_, .int .i64 x23.Size_, .bool x23.Open_, .junk] 6 false (.one .top (.int .i64 x23.Size_)) (some 68) (by kernel_rfl) (by kernel_rfl) (by kernel_rfl) (at_obj (k := 0) (c := ((.own 2), .sl 6 ((List.map e_types_Type x21.list_).set (Int.toNat p1) [.int .i64 x23.Kind_, .int .i64 x23.Len_, .int .i64 x23.Base_, .int .i64 x23.Size_, .bool x23.Open_, .junk]))) (hset_get V22 rfl) (by kernel_rfl) (by kernel_rfl)) (el_set h24) (by kernel_rfl) (by kernel_rfl) (by kernel_rfl)) ?_
  refine q_take S71 (by kernel_rfl) ?_
  refine q_last S72 (by kernel_rfl) ?_
  refine q_last S73 (st_app (X := X) S74 32 h26 53 53 58 3 0 [(.top, .str ByteArray.empty), (.top, .int .i64 0), (.top, .int .i64 0)] (.own 1) e_types_Field 0 (some 71) (by kernel_rfl) (by kernel_rfl) (by kernel_rfl) (by kernel_rfl) (by kernel_rfl) (by kernel_rfl) (by kernel_rfl) (by kernel_rfl) (by kernel_rfl) (fun _ => rfl) (by kernel_rfl)) ?_
  refine q_take S75 (by kernel_rfl) ?_
  refine q_take S76 (by kernel_rfl) ?_
  refine q_last S69 (st_stE (X := X) S77 S69 ⟨false, []⟩ 53 (.obj i18 o19) (Int.toNat p1) 5 1 1 ((List.map e_types_Type x21.list_).set (Int.toNat p1) [.int .i64 x23.Kind_, .int .i64 x23.Len_, .int .i64 x23.Base_, .int .i64 x23.Size_, .bool x23.Open_, .junk]) [.int .i64 x23.Kind_, .int .i64 x23.Len_, .int .i64 x23.Base_, .int .i64 x23.Size_, .bool x23.Open_, .junk] (e_types_Type (T_types_Type.mk x23.Kind_ x23.Len_ x23.Base_ x23.Size_ x23.Open_ v25)) (List.map e_types_Type v27) 6 (.one (.own 1) (.sl 3 (List.map e_types_Field v25))) (by kernel_rfl) (by kernel_rfl) (by kernel_rfl) (by kernel_rfl) (by kernel_rfl) (at_obj (k := 0) (c := ((.own 2), .sl 6 ((List.map e_types_Type x21.list_).set (Int.toNat p1) [.int .i64 x23.Kind_, .int .i64 x23.Len_, .int .i64 x23.Base_, .int .i64 x23.Size_, .bool x23.Open_, .junk]))) (hset_get V22 rfl) (by kernel_rfl) (by kernel_rfl)) (el_set h24) (by kernel_rfl) (by kernel_rfl) (el_back h28) (root_obj (k := 0) (hset_get V22 rfl) (by kernel_rfl) (hset_sub V22 rfl (Nat.le_of_ble_eq_true rfl))) (by kernel_rfl)) ?_
  exact q_end (by kernel_rfl)
  refine q_last ⟨[E3, E4, E19, E22, E30, E31, E32, E33, E34, E35, E36, E37, E38, E40], [], H⟩ (st_ldE (X := X) S68 3 (.obj i18 o19) (Int.toNat p1) 3 1 1 (List.map e_types_Type x21.list_) [.int .i64 x23.Kind_, .int .i64 x23.Len_, .int .i64 x23.Base_, .int .i64 x23.Size_, .bool x23.Open_, .sl 3 (List.map e_types_Field x23.Fields_)] 6 false (.one .top (.int .i64 x23.Size_)) (some 68) (by kernel_rfl) (by kernel_rfl) (by kernel_rfl) (at_obj (k := 0) (c := ((.own 2), .sl 6 (List.map e_types_Type x21.list_))) V22 (by kernel_rfl) (by kernel_rfl)) (el_at h24) (by kernel_rfl) (by kernel_rfl) (by kernel_rfl)) ?_
  refine q_take S78 (by kernel_rfl) ?_
  refine q_alt S71 (st_ldEt (X := X) S78 (⟨[E3, E4, E19, E22, E30, E31, E32, E33, E34, E35, E36, E37, E38, E40, E41], [], (hset H i18 o19 [((.own 2), .sl 6 ((List.map e_types_Type x21.list_).set (Int.toNat p1) [.int .i64 x23.Kind_, .int .i64 x23.Len_, .int .i64 x23.Base_, .int .i64 x23.Size_, .bool x23.Open_, .junk]))])⟩ : St) 53 (.obj i18 o19) (Int.toNat p1) 5 1 1 (List.map e_types_Type x21.list_) [.int .i64 x23.Kind_, .int .i64 x23.Len_, .int .i64 x23.Base_, .int .i64 x23.Size_, .bool x23.Open_, .sl 3 (List.map e_types_Field x23.Fields_)] [.int .i64 x23.Kind_, .int .i64 x23.Len_, .int .i64 x23.Base_, .int .i64 x23.Size_, .bool x23.Open_, .junk] 6 false (.one (.own 1) (.sl 3 (List.map e_types_Field x23.Fields_))) (some 62) (by kernel_rfl) (by kernel_rfl) (by kernel_rfl) (at_obj (k := 0) (c := ((.own 2), .sl 6 (List.map e_types_Type x21.list_))) V22 (by kernel_rfl) (by kernel_rfl)) (el_at h24) (by kernel_rfl) (by kernel_rfl) (by kernel_rfl) (root_obj (k := 0) V22 (by kernel_rfl) (hset_sub0 (k := 0) V22 (Nat.le_of_ble_eq_true rfl))) (by kernel_rfl)) ?_ ?_
  refine q_last S72 (by kernel_rfl) ?_
  refine q_last S73 (st_app (X := X) S74 32 h26 53 53 58 3 0 [(.top, .str ByteArray.empty), (.top, .int .i64 0), (.top, .int .i64 0)] (.own 1) e_types_Field 0 (some 71) (by kernel_rfl) (by kernel_rfl) (by kernel_rfl) (by kernel_rfl) (by kernel_rfl) (by kernel_rfl) (by kernel_rfl) (by kernel_rfl) (by kernel_rfl) (fun _ => rfl) (by kernel_rfl)) ?_
  refine q_take S75 (by kernel_rfl) ?_
  refine q_take S76 (by kernel_rfl) ?_
  refine q_last S69 (st_stE (X := X) S77 S69 ⟨false, []⟩ 53 (.obj i18 o19) (Int.toNat p1) 5 1 1 ((List.map e_types_Type x21.list_).set (Int.toNat p1) [.int .i64 x23.Kind_, .int .i64 x23.Len_, .int .i64 x23.Base_, .int .i64 x23.Size_, .bool x23.Open_, .junk]) [.int .i64 x23.Kind_, .int .i64 x23.Len_, .int .i64 x23.Base_, .int .i64 x23.Size_, .bool x23.Open_, .junk] (e_types_Type (T_types_Type.mk x23.Kind_ x23.Len_ x23.Base_ x23.Size_ x23.Open_ v25)) (List.map e_types_Type v27) 6 (.one (.own 1) (.sl 3 (List.map e_types_Field v25))) (by kernel_rfl) (by kernel_rfl) (by kernel_rfl) (by kernel_rfl) (by kernel_rfl) (at_obj (k := 0) (c := ((.own 2), .sl 6 ((List.map e_types_Type x21.list_).set (Int.toNat p1) [.int .i64 x23.Kind_, .int .i64 x23.Len_, .int .i64 x23.Base_, .int .i64 x23.Size_, .bool x23.Open_, .junk]))) (hset_get V22 rfl) (by kernel_rfl) (by kernel_rfl)) (el_set h24) (by kernel_rfl) (by kernel_rfl) (el_back h28) (root_obj (k := 0) (hset_get V22 rfl) (by kernel_rfl) (hset_sub V22 rfl (Nat.le_of_ble_eq_true rfl))) (by kernel_rfl)) ?_
  exact q_end (by kernel_rfl)
  refine q_last S79 (by kernel_rfl) ?_
  refine q_last S72 (st_ldEt (X := X) S79 (⟨[E3, E4, E19, E22, E30, E31, E32, E33, E34, E35, E36, E37, E38, E40, E41, E47], [], (hset H i18 o19 [((.own 2), .sl 6 ((List.map e_types_Type x21.list_).set (Int.toNat p1) [.int .i64 x23.Kind_, .int .i64 x23.Len_, .int .i64 x23.Base_, .int .i64 x23.Size_, .bool x23.Open_, .junk]))])⟩ : St) 53 (.obj i18 o19) (Int.toNat p1) 5 1 1 (List.map e_types_Type x21.list_) [.int .i64 x23.Kind_, .int .i64 x23.Len_, .int .i64 x23.Base_, .int .i64 x23.Size_, .bool x23.Open_, .sl 3 (List.map e_types_Field x23.Fields_)] [.int .i64 x23.Kind_, .int .i64 x23.Len_, .int .i64 x23.Base_, .int .i64 x23.Size_, .bool x23.Open_, .junk] 6 false (.one (.own 1) (.sl 3 (List.map e_types_Field x23.Fields_))) (some 62) (by kernel_rfl) (by kernel_rfl) (by kernel_rfl) (at_obj (k := 0) (c := ((.own 2), .sl 6 (List.map e_types_Type x21.list_))) V22 (by kernel_rfl) (by kernel_rfl)) (el_at h24) (by kernel_rfl) (by kernel_rfl) (by kernel_rfl) (root_obj (k := 0) V22 (by kernel_rfl) (hset_sub0 (k := 0) V22 (Nat.le_of_ble_eq_true rfl))) (by kernel_rfl)) ?_
  refine q_last S73 (st_app (X := X) S74 32 h26 53 53 58 3 0 [(.top, .str ByteArray.empty), (.top, .int .i64 0), (.top, .int .i64 0)] (.own 1) e_types_Field 0 (some 71) (by kernel_rfl) (by kernel_rfl) (by kernel_rfl) (by kernel_rfl) (by kernel_rfl) (by kernel_rfl) (by kernel_rfl) (by kernel_rfl) (by kernel_rfl) (fun _ => rfl) (by kernel_rfl)) ?_
  refine q_take S75 (by kernel_rfl) ?_
  refine q_take S76 (by kernel_rfl) ?_
  refine q_last S69 (st_stE (X := X) S77 S69 ⟨false, []⟩ 53 (.obj i18 o19) (Int.toNat p1) 5 1 1 ((List.map e_types_Type x21.list_).set (Int.toNat p1) [.int .i64 x23.Kind_, .int .i64 x23.Len_, .int .i64 x23.Base_, .int .i64 x23.Size_, .bool x23.Open_, .junk]) [.int .i64 x23.Kind_, .int .i64 x23.Len_, .int .i64 x23.Base_, .int .i64 x23.Size_, .bool x23.Open_, .junk] (e_types_Type (T_types_Type.mk x23.Kind_ x23.Len_ x23.Base_ x23.Size_ x23.Open_ v25)) (List.map e_types_Type v27) 6 (.one (.own 1) (.sl 3 (List.map e_types_Field v25))) (by kernel_rfl) (by kernel_rfl) (by kernel_rfl) (by kernel_rfl) (by kernel_rfl) (at_obj (k := 0) (c := ((.own 2), .sl 6 ((List.map e_types_Type x21.list_).set (Int.toNat p1) [.int .i64 x23.Kind_, .int .i64 x23.Len_, .int .i64 x23.Base_, .int .i64 x23.Size_, .bool x23.Open_, .junk]))) (hset_get V22 rfl) (by kernel_rfl) (by kernel_rfl)) (el_set h24) (by kernel_rfl) (by kernel_rfl) (el_back h28) (root_obj (k := 0) (hset_get V22 rfl) (by kernel_rfl) (hset_sub V22 rfl (Nat.le_of_ble_eq_true rfl))) (by kernel_rfl)) ?_
  exact q_end (by kernel_rfl)
  refine eq_via (congrArg (fun q => (⟨[E3, E4, E19, E22, E30, E31, E32, E33, E39, E34, E35, E36, E37, E38, E40, E41, E42, E43, E44, E45], [], q⟩ : St)) h30) ?_
  kernel_rfl
  refine w_seq ?_
  obtain ⟨v32, h33, hF⟩ := bind1_inv hF
  let S82 : St := ⟨[E19, E22, E49, E50, E51, E52, E53, E54, E55, E56], [], (hset H29 i18 o19 [((.own 2), .sl 6 (List.map e_types_Type v32))])⟩
  obtain ⟨H34, h35, hF⟩ := bnd_inv hF
  have V36 : hget H34 i18 o19 1 = some (o_types_Table (T_types_Table.mk v32)) := by rw [← h35]; exact hset_get V31 rfl
  refine w_regO ⟨[], [], H34⟩ ?_ ?_
  refine o_run 3 S80 (by kernel_rfl) (by kernel_rfl) ?_
  refine o_one ⟨[E19, E22, E49, E50, E51, E52], [], H29⟩ (st_ldE (X := X) S80 3 (.obj i18 o19) (Int.toNat p1) 3 1 1 (List.map e_types_Type v27) [.int .i64 ((T_types_Type.mk x23.Kind_ x23.Len_ x23.Base_ x23.Size_ x23.Open_ v25).Kind_), .int .i64 ((T_types_Type.mk x23.Kind_ x23.Len_ x23.Base_ x23.Size_ x23.Open_ v25).Len_), .int .i64 ((T_types_Type.mk x23.Kind_ x23.Len_ x23.Base_ x23.Size_ x23.Open_ v25).Base_), .int .i64 ((T_types_Type.mk x23.Kind_ x23.Len_ x23.Base_ x23.Size_ x23.Open_ v25).Size_), .bool ((T_types_Type.mk x23.Kind_ x23.Len_ x23.Base_ x23.Size_ x23.Open_ v25).Open_), .sl 3 (List.map e_types_Field ((T_types_Type.mk x23.Kind_ x23.Len_ x23.Base_ x23.Size_ x23.Open_ v25).Fields_))] 6 false (.one .top (.int .i64 ((T_types_Type.mk x23.Kind_ x23.Len_ x23.Base_ x23.Size_ x23.Open_ v25).Size_))) (some 77) (by kernel_rfl) (by kernel_rfl) (by kernel_rfl) (at_obj (k := 0) (c := ((.own 2), .sl 6 (List.map e_types_Type v27))) V31 (by kernel_rfl) (by kernel_rfl)) (el_at (si_get h28)) (by kernel_rfl) (by kernel_rfl) (by kernel_rfl)) ?_
  refine o_run 4 S81 (by kernel_rfl) (by kernel_rfl) ?_
  refine o_one S82 (st_stE (X := X) S81 S82 ⟨false, []⟩ 3 (.obj i18 o19) (Int.toNat p1) 3 1 1 (List.map e_types_Type v27) [.int .i64 ((T_types_Type.mk x23.Kind_ x23.Len_ x23.Base_ x23.Size_ x23.Open_ v25).Kind_), .int .i64 ((T_types_Type.mk x23.Kind_ x23.Len_ x23.Base_ x23.Size_ x23.Open_ v25).Len_), .int .i64 ((T_types_Type.mk x23.Kind_ x23.Len_ x23.Base_ x23.Size_ x23.Open_ v25).Base_), .int .i64 ((T_types_Type.mk x23.Kind_ x23.Len_ x23.Base_ x23.Size_ x23.Open_ v25).Size_), .bool ((T_types_Type.mk x23.Kind_ x23.Len_ x23.Base_ x23.Size_ x23.Open_ v25).Open_), .sl 3 (List.map e_types_Field ((T_types_Type.mk x23.Kind_ x23.Len_ x23.Base_ x23.Size_ x23.Open_ v25).Fields_))] (e_types_Type (T_types_Type.mk ((T_types_Type.mk x23.Kind_ x23.Len_ x23.Base_ x23.Size_ x23.Open_ v25).Kind_) ((T_types_Type.mk x23.Kind_ x23.Len_ x23.Base_ x23.Size_ x23.Open_ v25).Len_) ((T_types_Type.mk x23.Kind_ x23.Len_ x23.Base_ x23.Size_ x23.Open_ v25).Base_) (IntKind.wrap .i64 (((T_types_Type.mk x23.Kind_ x23.Len_ x23.Base_ x23.Size_ x23.Open_ v25).Size_) + r15.Size_)) ((T_types_Type.mk x23.Kind_ x23.Len_ x23.Base_ x23.Size_ x23.Open_ v25).Open_) ((T_types_Type.mk x23.Kind_ x23.Len_ x23.Base_ x23.Size_ x23.Open_ v25).Fields_))) (List.map e_types_Type v32) 6 (.one .top (.int .i64 (IntKind.wrap .i64 (((T_types_Type.mk x23.Kind_ x23.Len_ x23.Base_ x23.Size_ x23.Open_ v25).Size_) + r15.Size_)))) (by kernel_rfl) (by kernel_rfl) (by kernel_rfl) (by kernel_rfl) (by kernel_rfl) (at_obj (k := 0) (c := ((.own 2), .sl 6 (List.map e_types_Type v27))) V31 (by kernel_rfl) (by kernel_rfl)) (el_at (si_get h28)) (by kernel_rfl) (by kernel_rfl) (el_put h33) (root_obj (k := 0) V31 (by kernel_rfl) (hset_sub0 (k := 0) V31 (Nat.le_of_ble_eq_true rfl))) (by kernel_rfl)) ?_
  refine o_eq (congrArg (fun q => (⟨[E19, E22, E49, E50, E51, E52, E53, E54, E55, E56], [], q⟩ : St)) h35) ?_
  exact o_end (by kernel_rfl) (by kernel_rfl)
  refine w_seq ?_
  refine w_reg ⟨[(8, .one .top (.int .i64 0))], [], H34⟩ (by kernel_rfl) ?_
  refine w_ret ?_
  obtain ⟨e0, e1⟩ := some2_inv hF
  subst e0
  subst e1
  exact fin_imp (v := .one .top (.int .i64 0)) (by kernel_rfl) (by kernel_rfl) (by kernel_rfl)
  refine w_or (s := S63) (by kernel_rfl) ?_
  obtain ⟨e0, e1⟩ := some2_inv hF
  subst e0
  subst e1
  exact fin_imp (v := .one .top (.int .i64 51)) (by kernel_rfl) (by kernel_rfl) (by kernel_rfl)
noncomputable def ref09_Find_L1 (r1 : T_ref09_Type) (p2 : ByteArray) (a4 : Int) : Option ((Int) ⊕ (Unit ⊕ (T_ref09_Field))) :=
  if (decide (a4 < (r1.Fields_.length : Int))) = true then (bind1 (gi r1.Fields_ a4) fun x6 =>
  if (strEq x6.Name_ p2) = true then (bind1 (gi r1.Fields_ a4) fun x9 =>
  some (Sum.inr (Sum.inr x9)))
  else (some (Sum.inl (IntKind.wrap .i64 (a4 + 1)))))
  else (some (Sum.inr (Sum.inl ())))
noncomputable def ref09_Find  (p0 : (List T_ref09_Type)) (p1 : Int) (p2 : ByteArray) : Option (T_ref09_Field × Int) :=
  bind1 (ref09_Get p0 p1) fun r1 =>
  if (r1.Kind_ != 6) = true then (some ((T_ref09_Field.mk ByteArray.empty 0 0), 111))
  else (bind1 (loopO (fun (x : (Int)) => ref09_Find_L1 r1 p2 x) 0) (sum2 (fun (_ : Unit) =>
  some ((T_ref09_Field.mk ByteArray.empty 0 0), 110)) (fun b13 =>
  some (b13, 0))))
theorem ok_ref09_Find (H : Heap) {p0 : (List T_ref09_Type)} {p1 : Int} {p2 : ByteArray} {ra : T_ref09_Field} {rb : Int} (hF : ref09_Find p0 p1 p2 = some (ra, rb)) : evS X 32 [.one (.own 0) (.sl 6 (List.map e_ref09_Type p0)), .one .top (.int .i64 p1), .one .top (.str p2)] H = some (.tup [.agg [(.top, .str ra.Name_), (.top, .int .i64 ra.Type_), (.top, .int .i64 ra.Offset_)], .one .top (.int .i64 rb)], H) := by
  let E1 : Nat × TV := (0, .one (.own 0) (.sl 6 (List.map e_ref09_Type p0)))
  let E2 : Nat × TV := (1, .one .top (.int .i64 p1))
  let E3 : Nat × TV := (2, .one .top (.str p2))
  let E4 : Nat × TV := (6, .one .top (.loc 6 0))
  let B5 : Nat × List MC := (6, [(.top, .str ByteArray.empty), (.top, .int .i64 0), (.top, .int .i64 0)])
  let E6 : Nat × TV := (8, .one .top (.loc 8 0))
  let E8 : Nat × TV := (10, .one (.own 0) (.sl 6 (List.map e_ref09_Type p0)))
  let E9 : Nat × TV := (11, .one .top (.int .i64 p1))
  let E10 : Nat × TV := (7, .one .top (.int .i64 0))
  let E14 : Nat × TV := (18, .one .top (.loc 8 5))
  let E18 : Nat × TV := (24, .one .top (.loc 8 5))
  let E22 : Nat × TV := (32, .one .top (.loc 8 5))
  let S27 : St := ⟨[E1, E2, E3, E4, E8, E9], [B5], H⟩
  let S28 : St := ⟨[E4], [B5], H⟩
  refine w_fun Try.func32 rfl (by kernel_rfl) true (by kernel_rfl) (s0 := (⟨[E1, E2, E3], [], H⟩ : St)) (by kernel_rfl) ?_
  unfold ref09_Find at hF
  refine w_seq ?_
  refine w_reg ⟨[E1, E2, E3, E4], [B5], H⟩ (by kernel_rfl) ?_
  refine w_seq ?_
  obtain ⟨r1, c2, hF⟩ := bind1_inv hF
  let B7 : Nat × List MC := (8, (m0_ref09_Type r1))
  let E15 : Nat × TV := (19, .one (.own 0) (.sl 3 (List.map e_ref09_Field r1.Fields_)))
  let E16 : Nat × TV := (20, .one .top (.int .i64 (r1.Fields_.length : Int)))
  let E19 : Nat × TV := (25, .one (.own 0) (.sl 3 (List.map e_ref09_Field r1.Fields_)))
  let E23 : Nat × TV := (33, .one (.own 0) (.sl 3 (List.map e_ref09_Field r1.Fields_)))
  let S26 : St := ⟨[E3, E4, E6], [B5, B7], H⟩
  refine w_regO S26 ?_ ?_
  refine o_run 2 S27 (by kernel_rfl) (by kernel_rfl) ?_
  refine o_one ⟨[E1, E2, E3, E4, E8, E9, (12, .agg (m0_ref09_Type r1))], [B5], H⟩ (st_call (d := (some 12)) (fz := false) (pure := true) (own := false) S27 (ok_ref09_Get H c2) (by kernel_rfl) (by kernel_rfl)) ?_
  refine o_run 2 ⟨[E1, E2, E3, E4, E6, E8, E9, (12, .agg (m0_ref09_Type r1))], [B5, B7], H⟩ (by kernel_rfl) (by kernel_rfl) ?_
  exact o_end (by kernel_rfl) (by kernel_rfl)
  refine w_seq ?_
  refine w_seq ?_
  refine w_reg ⟨[E3, E4, E6, (15, .one .top (.bool (r1.Kind_ != 6)))], [B5, B7], H⟩ (by kernel_rfl) ?_
  rcases if_inv hF with ⟨h3, hF⟩ | ⟨h3, hF⟩
  refine w_cT (m := .top) h3 (s1 := S28) (by kernel_rfl) (by kernel_rfl) ?_
  refine w_seq ?_
  refine w_reg ⟨[E4, (7, .one .top (.int .i64 111))], [B5], H⟩ (by kernel_rfl) ?_
  refine w_ret ?_
  obtain ⟨e0, e1⟩ := some2_inv hF
  subst e0
  subst e1
  exact fin_pure (v := .tup [.agg [(.top, .str ByteArray.empty), (.top, .int .i64 0), (.top, .int .i64 0)], .one .top (.int .i64 111)]) (by kernel_rfl) (by kernel_rfl) rfl (by kernel_rfl)
  refine w_cF (m := .top) h3 (s1 := S26) (by kernel_rfl) (by kernel_rfl) ?_
  refine w_skip ?_
  refine w_seq ?_
  refine w_seq ?_
  refine w_reg ⟨[E3, E4, E6, (9, .one .top (.int .i64 0))], [B5, B7], H⟩ (by kernel_rfl) ?_
  refine w_block ?_
  obtain ⟨r11, hL12, hF⟩ := bind1_inv hF
  refine w_loop (fun (x : (Int)) => (⟨[E3, E4, E6, (9, .one .top (.int .i64 x))], [B5, B7], H⟩ : St)) (Sum.elim (fun (y : Unit) => ((.exit 0, S28) : Ex × St)) (fun (y : (T_ref09_Field)) => ((.ret, (⟨[E4, E10], [(6, (m0_ref09_Field y))], H⟩ : St)) : Ex × St))) hL12 (by kernel_rfl) ?_ ?_
  rintro a4 o hF
  replace hF : ref09_Find_L1 r1 p2 a4 = some o := hF
  let E11 : Nat × TV := (9, .one .top (.int .i64 a4))
  let E12 : Nat × TV := (21, .one .top (.bool (decide (a4 < (r1.Fields_.length : Int)))))
  let E13 : Nat × TV := (17, .one .top (.int .i64 a4))
  let E20 : Nat × TV := (26, .one .top (.int .i64 a4))
  let E24 : Nat × TV := (34, .one .top (.int .i64 a4))
  let S29 : St := ⟨[E3, E4, E6, E11, E13, E14, E15], [B5, B7], H⟩
  let S30 : St := ⟨[E3, E4, E6, E11], [B5, B7], H⟩
  let S31 : St := ⟨[E3, E4, E6, E11, E18, E19, E20], [B5, B7], H⟩
  let S32 : St := ⟨[E4, E6, E11, E22, E23, E24], [B5, B7], H⟩
  unfold ref09_Find_L1 at hF
  refine w_seq ?_
  refine w_seq ?_
  refine w_regO ⟨[E3, E4, E6, E11, E12], [B5, B7], H⟩ ?_ ?_
  refine o_run 3 S29 (by kernel_rfl) (by kernel_rfl) ?_
  refine o_one ⟨[E3, E4, E6, E11, E13, E14, E15, E16], [B5, B7], H⟩ (st_len S29 r1.Fields_ e_ref09_Field (some 20) (by kernel_rfl) (by kernel_rfl)) ?_
  refine o_run 1 ⟨[E3, E4, E6, E11, E13, E14, E15, E16, E12], [B5, B7], H⟩ (by kernel_rfl) (by kernel_rfl) ?_
  exact o_end (by kernel_rfl) (by kernel_rfl)
  rcases if_inv hF with ⟨h5, hF⟩ | ⟨h5, hF⟩
  refine w_cT (m := .top) h5 (s1 := S30) (by kernel_rfl) (by kernel_rfl) ?_
  refine w_skip ?_
  refine w_seq ?_
  refine w_block ?_
  refine w_seq ?_
  obtain ⟨x6, h7, hF⟩ := bind1_inv hF
  let E17 : Nat × TV := (31, .one .top (.bool (strEq x6.Name_ p2)))
  let E21 : Nat × TV := (27, .one .top (.rd (.own 0) (.own 0) [.str x6.Name_, .int .i64 x6.Type_, .int .i64 x6.Offset_] 0))
  refine w_regO ⟨[E3, E4, E6, E11, E17], [B5, B7], H⟩ ?_ ?_
  refine o_run 3 S31 (by kernel_rfl) (by kernel_rfl) ?_
  refine o_one ⟨[E3, E4, E6, E11, E18, E19, E20, E21], [B5, B7], H⟩ (st_ix (X := X) S31 75 71 3 h7 e_ref09_Field (.own 0) (some 27) (by kernel_rfl) (by kernel_rfl) (by kernel_rfl) (by kernel_rfl)) ?_
  refine o_run 4 ⟨[E3, E4, E6, E11, E18, E19, E20, E21, (28, .one .top (.rd (.own 0) (.own 0) [.str x6.Name_, .int .i64 x6.Type_, .int .i64 x6.Offset_] 0)), (29, .one .top (.str x6.Name_)), (30, .one .top (.str p2)), E17], [B5, B7], H⟩ (by kernel_rfl) (by kernel_rfl) ?_
  exact o_end (by kernel_rfl) (by kernel_rfl)
  rcases if_inv hF with ⟨h8, hF⟩ | ⟨h8, hF⟩
  refine w_cT (m := .top) h8 (s1 := (⟨[E4, E6, E11], [B5, B7], H⟩ : St)) (by kernel_rfl) (by kernel_rfl) ?_
  refine w_seq ?_
  obtain ⟨x9, h10, hF⟩ := bind1_inv hF
  let E25 : Nat × TV := (35, .one .top (.rd (.own 0) (.own 0) [.str x9.Name_, .int .i64 x9.Type_, .int .i64 x9.Offset_] 0))
  refine w_regO ⟨[E4, E10], [(6, (m0_ref09_Field x9))], H⟩ ?_ ?_
  refine o_run 3 S32 (by kernel_rfl) (by kernel_rfl) ?_
  refine o_one ⟨[E4, E6, E11, E22, E23, E24, E25], [B5, B7], H⟩ (st_ix (X := X) S32 75 71 3 h10 e_ref09_Field (.own 0) (some 35) (by kernel_rfl) (by kernel_rfl) (by kernel_rfl) (by kernel_rfl)) ?_
  refine o_run 3 ⟨[E4, E10, E6, E11, E22, E23, E24, E25, (36, .agg (m0_ref09_Field x9))], [(6, (m0_ref09_Field x9)), B7], H⟩ (by kernel_rfl) (by kernel_rfl) ?_
  exact o_end (by kernel_rfl) (by kernel_rfl)
  refine w_ret ?_
  cases hF
  exact ⟨_, rfl, (by kernel_rfl)⟩
  refine w_cF (m := .top) h8 (s1 := S30) (by kernel_rfl) (by kernel_rfl) ?_
  refine w_skip ?_
  refine w_reg ⟨[E3, E4, E6, (9, .one .top (.int .i64 (IntKind.wrap .i64 (a4 + 1))))], [B5, B7], H⟩ (by kernel_rfl) ?_
  cases hF
  exact ⟨_, rfl, (by kernel_rfl)⟩
  refine w_cF (m := .top) h5 (s1 := S28) (by kernel_rfl) (by kernel_rfl) ?_
  refine w_exit ?_
  cases hF
  exact ⟨_, rfl, (by kernel_rfl)⟩
  rcases sum2_inv hF with ⟨r11', rfl, hF⟩ | ⟨r11', rfl, hF⟩
  refine w_oe (i := 0) (s := S28) (by kernel_rfl) ?_
  refine e_here ?_
  refine w_seq ?_
  refine w_reg ⟨[E4, (7, .one .top (.int .i64 110))], [B5], H⟩ (by kernel_rfl) ?_
  refine w_ret ?_
  obtain ⟨e0, e1⟩ := some2_inv hF
  subst e0
  subst e1
  exact fin_pure (v := .tup [.agg [(.top, .str ByteArray.empty), (.top, .int .i64 0), (.top, .int .i64 0)], .one .top (.int .i64 110)]) (by kernel_rfl) (by kernel_rfl) rfl (by kernel_rfl)
  obtain ⟨b13, hy⟩ : ∃ y, y = r11' := ⟨_, rfl⟩
  subst hy
  refine w_or (s := (⟨[E4, E10], [(6, (m0_ref09_Field b13))], H⟩ : St)) (by kernel_rfl) ?_
  obtain ⟨e0, e1⟩ := some2_inv hF
  subst e0
  subst e1
  exact fin_pure (v := .tup [.agg (m0_ref09_Field b13), .one .top (.int .i64 0)]) (by kernel_rfl) (by kernel_rfl) rfl (by kernel_rfl)
noncomputable def ref09_put  (p0 : (List T_ref09_Type)) (p1 : Int) (p2 : T_ref09_Type) : Option ((List T_ref09_Type)) :=
  bind1 (app 64 ([] : List T_ref09_Type) p0) fun v1 =>
  bind1 (gi v1 p1) fun x3 =>
  bind1 (si v1 p1 p2) fun v5 =>
  some v5
theorem ok_ref09_put (H : Heap) {p0 : (List T_ref09_Type)} {p1 : Int} {p2 : T_ref09_Type} {ra : (List T_ref09_Type)} (hF : ref09_put p0 p1 p2 = some ra) : evS X 128 [.one (.own 0) (.sl 6 (List.map e_ref09_Type p0)), .one .top (.int .i64 p1), .agg (m1_ref09_Type p2)] H = some (.one (.own 0) (.sl 6 (List.map e_ref09_Type ra)), H) := by
  let E1 : Nat × TV := (0, .one (.own 0) (.sl 6 (List.map e_ref09_Type p0)))
  let E2 : Nat × TV := (1, .one .top (.int .i64 p1))
  let E3 : Nat × TV := (5, .one .top (.loc 5 0))
  let B4 : Nat × List MC := (5, (m1_ref09_Type p2))
  let E6 : Nat × TV := (9, .one (.own 0) (.sl 6 (List.map e_ref09_Type p0)))
  let E7 : Nat × TV := (8, .one .top .junk)
  let E10 : Nat × TV := (12, .one .top (.int .i64 p1))
  let E11 : Nat × TV := (13, .agg (m1_ref09_Type p2))
  let B12 : Nat × List MC := (5, [(.top, .int .i64 p2.Kind_), (.top, .int .i64 p2.Len_), (.top, .int .i64 p2.Base_), (.top, .int .i64 p2.Size_), (.top, .bool p2.Open_), (.top, .junk)])
  let E13 : Nat × TV := (14, .one .top (.el (.tmp 7) (Int.toNat p1) 0))
  let E14 : Nat × TV := (13, .agg [(.top, .int .i64 p2.Kind_), (.top, .int .i64 p2.Len_), (.top, .int .i64 p2.Base_), (.top, .int .i64 p2.Size_), (.top, .bool p2.Open_), (.top, .junk)])
  refine w_fun Try.func128 rfl (by kernel_rfl) true (by kernel_rfl) (s0 := (⟨[E1, E2, (2, .agg (m1_ref09_Type p2))], [], H⟩ : St)) (by kernel_rfl) ?_
  unfold ref09_put at hF
  refine w_seq ?_
  refine w_reg ⟨[E1, E2, E3], [B4], H⟩ (by kernel_rfl) ?_
  refine w_seq ?_
  obtain ⟨v1, h2, hF⟩ := bind1_inv hF
  let E5 : Nat × TV := (7, .one (.own 1) (.sl 6 (List.map e_ref09_Type v1)))
  let E9 : Nat × TV := (11, .one .top (.at_ (.tmp 7) 0 ((List.map e_ref09_Type v1).length)))
  let S15 : St := ⟨[E2, E3, E5, E9, E10, E11], [B12], H⟩
  refine w_regO ⟨[E2, E3, E5], [B4], H⟩ ?_ ?_
  refine o_run 2 ⟨[E1, E2, E3, (8, .one (.own 2) (.sl 6 (List.map e_ref09_Type ([] : List T_ref09_Type)))), E6], [B4], H⟩ (by kernel_rfl) (by kernel_rfl) ?_
  refine o_one ⟨[E1, E2, E3, E7, E6, (10, .one (.own 1) (.sl 6 (List.map e_ref09_Type v1)))], [B4], H⟩ (st_app (X := X) (⟨[E1, E2, E3, E7, E6], [B4], H⟩ : St) 64 h2 48 48 77 6 1 [(.top, .int .i64 0), (.top, .int .i64 0), (.top, .int .i64 0), (.top, .int .i64 0), (.top, .bool false), ((.own 1), .sl 3 (List.map e_ref09_Field ([] : List T_ref09_Field)))] (.own 0) e_ref09_Type 0 (some 10) (by kernel_rfl) (by kernel_rfl) (by kernel_rfl) (by kernel_rfl) (by kernel_rfl) (by kernel_rfl) (by kernel_rfl) (by kernel_rfl) (by kernel_rfl) (fun _ => rfl) (by kernel_rfl)) ?_
  refine o_run 1 ⟨[E1, E2, E3, E5, E7, E6, (10, .one .top .junk)], [B4], H⟩ (by kernel_rfl) (by kernel_rfl) ?_
  exact o_end (by kernel_rfl) (by kernel_rfl)
  refine w_seq ?_
  obtain ⟨x3, h4, hF⟩ := bind1_inv hF
  obtain ⟨v5, h6, hF⟩ := bind1_inv hF
  let E8 : Nat × TV := (7, .one (.own 1) (.sl 6 (List.map e_ref09_Type v5)))
  let S16 : St := ⟨[E2, E3, E8, E9, E10, E14, E13], [B12], H⟩
  refine w_regO ⟨[E8], [], H⟩ ?_ ?_
  refine o_run 3 S15 (by kernel_rfl) (by kernel_rfl) ?_
  refine o_one ⟨[E2, E3, E5, E9, E10, E11, E13], [B12], H⟩ (st_ixA (X := X) S15 48 77 6 h4 e_ref09_Type (.tmp 7) 0 (List.map e_ref09_Type v1).length 0 (some 14) (by kernel_rfl) (by kernel_rfl) (by kernel_rfl) (by kernel_rfl) rfl (List.length_map _) (by kernel_rfl)) ?_
  refine o_one S16 (st_stE (X := X) (⟨[E2, E3, E5, E9, E10, E14, E13], [B12], H⟩ : St) S16 ⟨true, []⟩ 77 (.tmp 7) (Int.toNat p1) 0 6 0 (List.map e_ref09_Type v1) [.int .i64 x3.Kind_, .int .i64 x3.Len_, .int .i64 x3.Base_, .int .i64 x3.Size_, .bool x3.Open_, .sl 3 (List.map e_ref09_Field x3.Fields_)] (e_ref09_Type p2) (List.map e_ref09_Type v5) 6 (.agg (m1_ref09_Type p2)) (by kernel_rfl) (by kernel_rfl) (by kernel_rfl) (by kernel_rfl) (by kernel_rfl) (by kernel_rfl) (el_at h4) (by kernel_rfl) (by kernel_rfl) (el_put h6) (by kernel_rfl) (by kernel_rfl)) ?_
  exact o_end (by kernel_rfl) (by kernel_rfl)
  refine w_seq ?_
  refine w_reg ⟨[(6, .one (.own 1) (.sl 6 (List.map e_ref09_Type v5)))], [], H⟩ (by kernel_rfl) ?_
  refine w_ret ?_
  obtain e0 := some1_inv hF
  subst e0
  exact fin_pure (v := .one (.own 1) (.sl 6 (List.map e_ref09_Type v5))) (by kernel_rfl) (by kernel_rfl) rfl (by kernel_rfl)
end Go.Proofs.Abs
