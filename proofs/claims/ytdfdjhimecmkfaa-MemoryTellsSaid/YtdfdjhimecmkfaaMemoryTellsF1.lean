/- The law MemoryTells: whatever the input, it answers true. No conditions. (Part MemoryTellsF1 of its proof.) -/
import Derived.Test.YtdfdjhimecmkfaaMemoryTellsF0
set_option linter.unusedVariables false
set_option linter.unusedSimpArgs false
set_option linter.unusedSectionVars false
/- Printed by gen (walk.py). -/
namespace Go.Proofs.Abs
open Go Go.Proofs
set_option linter.unusedVariables false
set_option maxRecDepth 100000
set_option maxHeartbeats 0
noncomputable def law03_Same_L1 (p1 : T_ref03_Mem) (H : Heap) (p0 : Ptr) (a6 : Int) : Option ((Int) ⊕ (Unit ⊕ Unit)) :=
  if (decide (a6 < (p1.W_.length : Int))) = true then (bind2 (memory_Mem_Load H p0 (IntKind.wrap .u32 (IntKind.wrap .i64 (4 * a6)))) fun r8 r9 =>
  bind1 (if (r9 != 0) = true then (some true) else (bind1 (gi p1.W_ a6) fun x12 =>
  some (r8 != x12))) fun w14 =>
  if w14 = true then (some (Sum.inr (Sum.inr ())))
  else (some (Sum.inl (IntKind.wrap .i64 (a6 + 1)))))
  else (some (Sum.inr (Sum.inl ())))
noncomputable def law03_Same (H : Heap) (p0 : Ptr) (p1 : T_ref03_Mem) : Option (Bool) :=
  bind1 (memory_Mem_Layout H p0) fun r1 =>
  bind1 (law03_Ends r1) fun r3 =>
  if (!(eq_a5_int_u32 r3 p1.Ends_)) = true then (some false)
  else (bind1 (loopO (fun (x : (Int)) => law03_Same_L1 p1 H p0 x) 0) (sum2 (fun (_ : Unit) =>
  some true) (fun (_ : Unit) =>
  some false)))
theorem ok_law03_Same (H : Heap) {p0 : Ptr} {p1 : T_ref03_Mem} {ra : Bool} (hF : law03_Same H p0 p1 = some ra) : evS X 65 [.one .top (Ptr.av p0), .agg [(.top, .int .u32 (p1.Ends_.g 0)), (.top, .int .u32 (p1.Ends_.g 1)), (.top, .int .u32 (p1.Ends_.g 2)), (.top, .int .u32 (p1.Ends_.g 3)), (.top, .int .u32 (p1.Ends_.g 4)), ((.own 0), .sl 1 (List.map (eI .u32) p1.W_))]] H = some (.one .top (.bool ra), H) := by
  let E1 : Ptr → Nat × TV := fun z0 => (0, .one .top (Ptr.av z0))
  let E2 : Nat × TV := (3, .one .top (.loc 3 0))
  let B3 : Nat × List MC := (3, [(.top, .int .u32 (p1.Ends_.g 0)), (.top, .int .u32 (p1.Ends_.g 1)), (.top, .int .u32 (p1.Ends_.g 2)), (.top, .int .u32 (p1.Ends_.g 3)), (.top, .int .u32 (p1.Ends_.g 4)), ((.own 0), .sl 1 (List.map (eI .u32) p1.W_))])
  let E5 : Ptr → Nat × TV := fun z0 => (8, .one .top (Ptr.av z0))
  let E6 : Nat × TV := (11, .one .top (.loc 3 0))
  let E7 : Nat × TV := (12, .agg [(.top, .int .u32 (p1.Ends_.g 0)), (.top, .int .u32 (p1.Ends_.g 1)), (.top, .int .u32 (p1.Ends_.g 2)), (.top, .int .u32 (p1.Ends_.g 3)), (.top, .int .u32 (p1.Ends_.g 4))])
  let E10 : Nat × TV := (4, .one .top (.bool false))
  let E14 : Nat × TV := (15, .one .top (.loc 3 5))
  let E15 : Nat × TV := (16, .one (.own 0) (.sl 1 (List.map (eI .u32) p1.W_)))
  let E16 : Nat × TV := (17, .one .top (.int .i64 (p1.W_.length : Int)))
  let E19 : Ptr → Nat × TV := fun z0 => (22, .one .top (Ptr.av z0))
  let E25 : Nat × TV := (30, .one .top (.bool false))
  let E26 : Nat × TV := (31, .one .top (.bool false))
  let E28 : Nat × TV := (33, .one .top (.loc 3 5))
  let E29 : Nat × TV := (34, .one (.own 0) (.sl 1 (List.map (eI .u32) p1.W_)))
  let S32 : Ptr → St := fun z0 => ⟨[(E1 z0), E2], [B3], H⟩
  let S33 : Ptr → St := fun z0 => ⟨[(E1 z0), E2, (E5 z0), E6, E7], [B3], H⟩
  let S36 : St := ⟨[], [], H⟩
  let S37 : St := ⟨[E10], [], H⟩
  refine w_fun Try.func65 rfl (by kernel_rfl) true (by kernel_rfl) (s0 := (⟨[(E1 p0), (1, .agg [(.top, .int .u32 (p1.Ends_.g 0)), (.top, .int .u32 (p1.Ends_.g 1)), (.top, .int .u32 (p1.Ends_.g 2)), (.top, .int .u32 (p1.Ends_.g 3)), (.top, .int .u32 (p1.Ends_.g 4)), ((.own 0), .sl 1 (List.map (eI .u32) p1.W_))])], [], H⟩ : St)) (by kernel_rfl) ?_
  unfold law03_Same at hF
  refine w_seq ?_
  refine w_reg (S32 p0) (by generalize p0 = qp0; cases qp0 <;> kernel_rfl) ?_
  refine w_seq ?_
  refine w_seq ?_
  obtain ⟨r1, c2, hF⟩ := bind1_inv hF
  let E8 : Nat × TV := (9, .agg (m0_memory_Layout r1))
  let S34 : Ptr → St := fun z0 => ⟨[(E1 z0), E2, (E5 z0), E8, E6, E7], [B3], H⟩
  obtain ⟨r3, c4, hF⟩ := bind1_inv hF
  let E4 : Nat × TV := (13, .one .top (.bool (!(eq_a5_int_u32 r3 p1.Ends_))))
  let E9 : Nat × TV := (10, .agg [(.top, .int .u32 (r3.g 0)), (.top, .int .u32 (r3.g 1)), (.top, .int .u32 (r3.g 2)), (.top, .int .u32 (r3.g 3)), (.top, .int .u32 (r3.g 4))])
  let S35 : Ptr → St := fun z0 => ⟨[(E1 z0), E2, (E5 z0), E8, E9, E6, E7], [B3], H⟩
  refine w_regD (.take 0 (.take 3 (.take 4 (.last 1 (.last 2 (.take 5 .done)))))) (by kernel_rfl) (⟨[(E1 p0), E2, E4], [B3], H⟩ : St) ?_ ?_
  refine d_take ⟨[(E1 p0), E2, (E5 p0)], [B3], H⟩ (by generalize p0 = qp0; cases qp0 <;> kernel_rfl) ?_
  refine d_take ⟨[(E1 p0), E2, (E5 p0), E6], [B3], H⟩ (by generalize p0 = qp0; cases qp0 <;> kernel_rfl) ?_
  refine d_take (S33 p0) (by generalize p0 = qp0; cases qp0 <;> kernel_rfl) ?_
  refine d_last (S34 p0) (st_call (d := (some 9)) (fz := false) (pure := true) (own := false) (S33 p0) (ok_memory_Mem_Layout H c2) (by generalize p0 = qp0; cases qp0 <;> kernel_rfl) (by generalize p0 = qp0; cases qp0 <;> kernel_rfl)) ?_
  refine d_last (S35 p0) (st_call (d := (some 10)) (fz := false) (pure := true) (own := false) (S34 p0) (ok_law03_Ends H c4) (by generalize p0 = qp0; cases qp0 <;> kernel_rfl) (by generalize p0 = qp0; cases qp0 <;> kernel_rfl)) ?_
  refine d_take ⟨[(E1 p0), E2, (E5 p0), E8, E9, E6, E7, E4], [B3], H⟩ (st_bin (S35 p0) (bin_neA (P := X.P) (ty := 29) (x := (.tmp 10)) (y := (.tmp 12)) (cs := [(.top, .int .u32 (r3.g 0)), (.top, .int .u32 (r3.g 1)), (.top, .int .u32 (r3.g 2)), (.top, .int .u32 (r3.g 3)), (.top, .int .u32 (r3.g 4))]) (ds := [(.top, .int .u32 (p1.Ends_.g 0)), (.top, .int .u32 (p1.Ends_.g 1)), (.top, .int .u32 (p1.Ends_.g 2)), (.top, .int .u32 (p1.Ends_.g 3)), (.top, .int .u32 (p1.Ends_.g 4))]) (us := [.int .u32 (r3.g 0), .int .u32 (r3.g 1), .int .u32 (r3.g 2), .int .u32 (r3.g 3), .int .u32 (r3.g 4)]) (vs := [.int .u32 (p1.Ends_.g 0), .int .u32 (p1.Ends_.g 1), .int .u32 (p1.Ends_.g 2), .int .u32 (p1.Ends_.g 3), .int .u32 (p1.Ends_.g 4)]) (qs := [(r3.g 0) == (p1.Ends_.g 0), (r3.g 1) == (p1.Ends_.g 1), (r3.g 2) == (p1.Ends_.g 2), (r3.g 3) == (p1.Ends_.g 3), (r3.g 4) == (p1.Ends_.g 4)]) (by generalize p0 = qp0; cases qp0 <;> kernel_rfl) (by generalize p0 = qp0; cases qp0 <;> kernel_rfl) (by generalize p0 = qp0; cases qp0 <;> kernel_rfl) (by generalize p0 = qp0; cases qp0 <;> kernel_rfl)) rfl (some 13) (by generalize p0 = qp0; cases qp0 <;> kernel_rfl) (by generalize p0 = qp0; cases qp0 <;> kernel_rfl)) ?_
  exact d_end (by kernel_rfl)
  rcases if_inv hF with ⟨h5, hF⟩ | ⟨h5, hF⟩
  refine w_cT (m := .top) h5 (s1 := S36) (by kernel_rfl) (by kernel_rfl) ?_
  refine w_seq ?_
  refine w_reg S37 (by kernel_rfl) ?_
  refine w_ret ?_
  obtain e0 := some1_inv hF
  subst e0
  exact fin_pure (v := .one .top (.bool false)) (by kernel_rfl) (by kernel_rfl) rfl (by kernel_rfl)
  refine w_cF (m := .top) h5 (s1 := (S32 p0)) (by kernel_rfl) (by kernel_rfl) ?_
  refine w_skip ?_
  refine w_seq ?_
  refine w_seq ?_
  refine w_reg ⟨[(E1 p0), E2, (5, .one .top (.int .i64 0))], [B3], H⟩ (by generalize p0 = qp0; cases qp0 <;> kernel_rfl) ?_
  refine w_block ?_
  obtain ⟨r17, hL18, hF⟩ := bind1_inv hF
  refine w_loop (fun (x : (Int)) => (⟨[(E1 p0), E2, (5, .one .top (.int .i64 x))], [B3], H⟩ : St)) (Sum.elim (fun (y : Unit) => ((.exit 0, S36) : Ex × St)) (fun (y : Unit) => ((.ret, S37) : Ex × St))) hL18 (by kernel_rfl) ?_ ?_
  rintro a6 o hF
  replace hF : law03_Same_L1 p1 H p0 a6 = some o := hF
  let E11 : Nat × TV := (5, .one .top (.int .i64 a6))
  let E12 : Nat × TV := (18, .one .top (.bool (decide (a6 < (p1.W_.length : Int)))))
  let E13 : Nat × TV := (14, .one .top (.int .i64 a6))
  let E20 : Nat × TV := (23, .one .top (.int .i64 a6))
  let E21 : Nat × TV := (24, .one .top (.int .i64 (IntKind.wrap .i64 (4 * a6))))
  let E22 : Nat × TV := (25, .one .top (.int .u32 (IntKind.wrap .u32 (IntKind.wrap .i64 (4 * a6)))))
  let E30 : Nat × TV := (35, .one .top (.int .i64 a6))
  let S38 : Ptr → St := fun z0 => ⟨[(E1 z0), E2, E11, E13, E14, E15], [B3], H⟩
  let S39 : Ptr → St := fun z0 => ⟨[(E1 z0), E2, E11], [B3], H⟩
  let S40 : Ptr → St := fun z0 => ⟨[(E1 z0), E2, E11, (E19 z0), E20, E21, E22], [B3], H⟩
  unfold law03_Same_L1 at hF
  refine w_seq ?_
  refine w_seq ?_
  refine w_regO ⟨[(E1 p0), E2, E11, E12], [B3], H⟩ ?_ ?_
  refine o_run 3 (S38 p0) (by kernel_rfl) (by generalize p0 = qp0; cases qp0 <;> kernel_rfl) ?_
  refine o_one ⟨[(E1 p0), E2, E11, E13, E14, E15, E16], [B3], H⟩ (st_len (S38 p0) p1.W_ (eI .u32) (some 17) (by generalize p0 = qp0; cases qp0 <;> kernel_rfl) (by generalize p0 = qp0; cases qp0 <;> kernel_rfl)) ?_
  refine o_run 1 ⟨[(E1 p0), E2, E11, E13, E14, E15, E16, E12], [B3], H⟩ (by kernel_rfl) (by generalize p0 = qp0; cases qp0 <;> kernel_rfl) ?_
  exact o_end (by kernel_rfl) (by kernel_rfl)
  rcases if_inv hF with ⟨h7, hF⟩ | ⟨h7, hF⟩
  refine w_cT (m := .top) h7 (s1 := (S39 p0)) (by kernel_rfl) (by kernel_rfl) ?_
  refine w_skip ?_
  refine w_seq ?_
  refine w_block ?_
  refine w_seq ?_
  obtain ⟨r8, r9, c10, hF⟩ := bind2_inv hF
  let E17 : Nat × TV := (6, .one .top (.int .u32 r8))
  let E18 : Nat × TV := (7, .one .top (.int .i64 r9))
  let E23 : Nat × TV := (26, .tup [.one .top (.int .u32 r8), .one .top (.int .i64 r9)])
  let E24 : Nat × TV := (29, .one .top (.int .i64 r9))
  let E27 : Nat × TV := (32, .one .top (.int .u32 r8))
  let S41 : Ptr → St := fun z0 => ⟨[(E1 z0), E2, E11, E17, E18, E24, E25, E26, E27, E28, E29, E30], [B3], H⟩
  refine w_regO ⟨[(E1 p0), E2, E11, E17, E18], [B3], H⟩ ?_ ?_
  refine o_run 4 (S40 p0) (by kernel_rfl) (by generalize p0 = qp0; cases qp0 <;> kernel_rfl) ?_
  refine o_one ⟨[(E1 p0), E2, E11, (E19 p0), E20, E21, E22, E23], [B3], H⟩ (st_call (d := (some 26)) (fz := false) (pure := true) (own := false) (S40 p0) (ok_memory_Mem_Load H c10) (by generalize p0 = qp0; cases qp0 <;> kernel_rfl) (by generalize p0 = qp0; cases qp0 <;> kernel_rfl)) ?_
  refine o_run 5 ⟨[(E1 p0), E2, E11, E17, E18, (21, .tup [.one .top (.int .u32 r8), .one .top (.int .i64 r9)]), (E19 p0), E20, E21, E22, E23, (27, .one .top (.int .u32 r8)), (28, .one .top (.int .i64 r9))], [B3], H⟩ (by kernel_rfl) (by generalize p0 = qp0; cases qp0 <;> kernel_rfl) ?_
  exact o_end (by kernel_rfl) (by kernel_rfl)
  refine w_seq ?_
  obtain ⟨w14, hB15, hF⟩ := bind1_inv hF
  refine w_regO ⟨[(E1 p0), E2, E11, (39, .one .top (.bool w14))], [B3], H⟩ ?_ ?_
  refine o_run 3 ⟨[(E1 p0), E2, E11, E17, E18, E24, (30, .one .top (.bool (r9 != 0))), (31, .one .top (.bool (r9 != 0)))], [B3], H⟩ (by kernel_rfl) (by generalize p0 = qp0; cases qp0 <;> kernel_rfl) ?_
  rcases if_inv hB15 with ⟨h11, hB15⟩ | ⟨h11, hB15⟩
  refine o_eq (congrArg (fun q => (⟨[(E1 p0), E2, E11, E17, E18, E24, (30, .one .top (.bool q)), (31, .one .top (.bool q))], [B3], H⟩ : St)) h11) ?_
  refine o_run 8 ⟨[(E1 p0), E2, E11, E17, E18, E24, (30, .one .top (.bool true)), (31, .one .top (.bool true)), (32, .tup []), (33, .tup []), (34, .tup []), (35, .tup []), (36, .tup []), (37, .tup []), (38, .tup []), (39, .one .top (.bool true))], [B3], H⟩ (by kernel_rfl) (by generalize p0 = qp0; cases qp0 <;> kernel_rfl) ?_
  cases hB15
  exact o_end (by kernel_rfl) (by kernel_rfl)
  refine o_eq (congrArg (fun q => (⟨[(E1 p0), E2, E11, E17, E18, E24, (30, .one .top (.bool q)), (31, .one .top (.bool q))], [B3], H⟩ : St)) h11) ?_
  refine o_run 4 (S41 p0) (by kernel_rfl) (by generalize p0 = qp0; cases qp0 <;> kernel_rfl) ?_
  obtain ⟨x12, h13, hB15⟩ := bind1_inv hB15
  let E31 : Nat × TV := (36, .one .top (.rd (.own 0) (.own 0) [.int .u32 x12] 0))
  refine o_one ⟨[(E1 p0), E2, E11, E17, E18, E24, E25, E26, E27, E28, E29, E30, E31], [B3], H⟩ (st_ix (X := X) (S41 p0) 30 22 1 h13 (eI .u32) (.own 0) (some 36) (by generalize p0 = qp0; cases qp0 <;> kernel_rfl) (by generalize p0 = qp0; cases qp0 <;> kernel_rfl) (by generalize p0 = qp0; cases qp0 <;> kernel_rfl) (by generalize p0 = qp0; cases qp0 <;> kernel_rfl)) ?_
  refine o_run 3 ⟨[(E1 p0), E2, E11, E17, E18, E24, E25, E26, E27, E28, E29, E30, E31, (37, .one .top (.int .u32 x12)), (38, .one .top (.bool (r8 != x12))), (39, .one .top (.bool (r8 != x12)))], [B3], H⟩ (by kernel_rfl) (by generalize p0 = qp0; cases qp0 <;> kernel_rfl) ?_
  cases hB15
  exact o_end (by kernel_rfl) (by kernel_rfl)
  rcases if_inv hF with ⟨h16, hF⟩ | ⟨h16, hF⟩
  refine w_cT (m := .top) h16 (s1 := S36) (by kernel_rfl) (by kernel_rfl) ?_
  refine w_seq ?_
  refine w_reg S37 (by kernel_rfl) ?_
  refine w_ret ?_
  cases hF
  exact ⟨_, rfl, (by kernel_rfl)⟩
  refine w_cF (m := .top) h16 (s1 := (S39 p0)) (by kernel_rfl) (by kernel_rfl) ?_
  refine w_skip ?_
  refine w_reg ⟨[(E1 p0), E2, (5, .one .top (.int .i64 (IntKind.wrap .i64 (a6 + 1))))], [B3], H⟩ (by generalize p0 = qp0; cases qp0 <;> kernel_rfl) ?_
  cases hF
  exact ⟨_, rfl, (by kernel_rfl)⟩
  refine w_cF (m := .top) h7 (s1 := S36) (by kernel_rfl) (by kernel_rfl) ?_
  refine w_exit ?_
  cases hF
  exact ⟨_, rfl, (by kernel_rfl)⟩
  rcases sum2_inv hF with ⟨r17', rfl, hF⟩ | ⟨r17', rfl, hF⟩
  refine w_oe (i := 0) (s := S36) (by kernel_rfl) ?_
  refine e_here ?_
  refine w_seq ?_
  refine w_reg ⟨[(4, .one .top (.bool true))], [], H⟩ (by kernel_rfl) ?_
  refine w_ret ?_
  obtain e0 := some1_inv hF
  subst e0
  exact fin_pure (v := .one .top (.bool true)) (by kernel_rfl) (by kernel_rfl) rfl (by kernel_rfl)
  refine w_or (s := S37) (by kernel_rfl) ?_
  obtain e0 := some1_inv hF
  subst e0
  exact fin_pure (v := .one .top (.bool false)) (by kernel_rfl) (by kernel_rfl) rfl (by kernel_rfl)
noncomputable def law03_played_j2 (a28 : Int) (j32 : Ptr) (j33 : T_ref03_Mem) (H34 : Heap) : Option ((Ptr × Int × T_ref03_Mem × Heap) ⊕ ((Ptr × T_ref03_Mem × Heap) ⊕ (T_ref03_Mem × Heap))) :=
  some (Sum.inl (j32, (IntKind.wrap .i64 (a28 + 1)), j33, H34))
noncomputable def law03_played_j3 (a28 : Int) (j37 : Ptr) (j38 : T_ref03_Mem) (H39 : Heap) : Option ((Ptr × Int × T_ref03_Mem × Heap) ⊕ ((Ptr × T_ref03_Mem × Heap) ⊕ (T_ref03_Mem × Heap))) :=
  bind1 (law03_Same H39 j37 j38) fun r40 =>
  if (!r40) = true then (some (Sum.inr (Sum.inr (j38, H39))))
  else (law03_played_j2 a28 j37 j38 H39)
noncomputable def law03_played_j4 (a28 : Int) (j51 : Ptr) (j52 : T_ref03_Mem) (H53 : Heap) : Option ((Ptr × Int × T_ref03_Mem × Heap) ⊕ ((Ptr × T_ref03_Mem × Heap) ⊕ (T_ref03_Mem × Heap))) :=
  law03_played_j3 a28 j51 j52 H53
noncomputable def law03_played_L1 (p1 : (List T_law03_Op)) (a27 : Ptr) (a28 : Int) (a29 : T_ref03_Mem) (H30 : Heap) : Option ((Ptr × Int × T_ref03_Mem × Heap) ⊕ ((Ptr × T_ref03_Mem × Heap) ⊕ (T_ref03_Mem × Heap))) :=
  if (decide (a28 < (p1.length : Int))) = true then (bind1 (gi p1 a28) fun x35 =>
  if (x35.Kind_ == 0) = true then (bind2 (ref03_Store a29 x35.At_ x35.W_) fun r44 r45 =>
  bind2 (memory_Mem_Store H30 a27 x35.At_ x35.W_) fun H49 r47 =>
  if (r47 != r45) = true then (some (Sum.inr (Sum.inr (a29, H49))))
  else (law03_played_j3 a28 a27 r44 H49))
  else (if (x35.Kind_ == 1) = true then (bind2 (ref03_Fill a29 x35.At_ x35.List_) fun r55 r56 =>
  bind2 (memory_Mem_Fill H30 a27 x35.At_ x35.List_) fun H60 r58 =>
  if (r58 != r56) = true then (some (Sum.inr (Sum.inr (a29, H60))))
  else (law03_played_j4 a28 a27 r55 H60))
  else (if (x35.Kind_ == 2) = true then (bind2 (memory_Mem_Clone H30 a27) fun H65 r63 =>
  if r63.isNil = true then (some (Sum.inr (Sum.inr (a29, H65))))
  else (bind2 (memory_Mem_Fill H65 a27 0 ([1, 2, 3, x35.W_] : List Int)) fun H69 r67 =>
  law03_played_j4 a28 r63 a29 H69))
  else (law03_played_j2 a28 a27 a29 H30))))
  else (some (Sum.inr (Sum.inl (a27, a29, H30))))
noncomputable def law03_played (H : Heap) (p0 : T_memory_Layout) (p1 : (List T_law03_Op)) : Option (Heap × Ptr × T_ref03_Mem × Bool) :=
  bind3 (memory_New H p0) fun H4 r1 r2 =>
  bind1 (law03_Ends p0) fun r5 =>
  bind1 (ref03_Right r5) fun r7 =>
  if (!r7) = true then (bind1 (if r1.isNil = true then (if (r2 == 33) = true then (bind1 (memory_Right p0) fun r12 =>
  some (!r12)) else (some false)) else (some false)) fun w14 =>
  some (H4, Ptr.nil, (T_ref03_Mem.mk (arrL [0, 0, 0, 0, 0] : Arr 5 Int) ([] : List Int)), w14))
  else (bind1 (law03_Ends p0) fun r16 =>
  bind1 (ref03_New r16) fun r18 =>
  bind1 (if (r2 != 0) = true then (some true) else (if r1.isNil = true then (some true) else (bind1 (memory_Right p0) fun r22 =>
  some (!r22)))) fun w24 =>
  if w24 = true then (some (H4, Ptr.nil, r18, false))
  else (bind1 (loopO (fun (x : (Ptr × Int × T_ref03_Mem × Heap)) => law03_played_L1 p1 x.1 x.2.1 x.2.2.1 x.2.2.2) (r1, 0, r18, H4)) (sum2 (tup3 fun b72 b73 H74 =>
  some (H74, b72, b73, true)) (tup2 fun b75 H76 =>
  some (H76, Ptr.nil, b75, false)))))
theorem ok_law03_played (H : Heap) {p0 : T_memory_Layout} {p1 : (List T_law03_Op)} {ra : Ptr} {rb : T_ref03_Mem} {rc : Bool} {Hr : Heap} (hF : law03_played H p0 p1 = some (Hr, ra, rb, rc)) : evS X 15 [.agg (m0_memory_Layout p0), .one .ro (.sl 4 (List.map e_law03_Op p1))] H = some (.tup [.one .top (Ptr.av ra), .agg [(.top, .int .u32 (rb.Ends_.g 0)), (.top, .int .u32 (rb.Ends_.g 1)), (.top, .int .u32 (rb.Ends_.g 2)), (.top, .int .u32 (rb.Ends_.g 3)), (.top, .int .u32 (rb.Ends_.g 4)), ((.own 0), .sl 1 (List.map (eI .u32) rb.W_))], .one .top (.bool rc)], Hr) := by
  let E1 : Nat × TV := (1, .one .ro (.sl 4 (List.map e_law03_Op p1)))
  let E2 : Nat × TV := (2, .one .top (.loc 2 0))
  let E3 : Nat × TV := (5, .one .top (.loc 5 0))
  let B4 : Nat × List MC := (2, (m0_memory_Layout p0))
  let B5 : Nat × List MC := (5, [(.top, .int .u32 0), (.top, .int .u32 0), (.top, .int .u32 0), (.top, .int .u32 0), (.top, .int .u32 0), ((.own 1), .sl 1 (List.map (eI .u32) ([] : List Int)))])
  let E8 : Nat × TV := (18, .agg (m0_memory_Layout p0))
  let E10 : Nat × TV := (22, .agg (m0_memory_Layout p0))
  let E12 : Nat × TV := (4, .one .top .nilp)
  let E13 : Nat × TV := (26, .agg [(.top, .int .u32 0), (.top, .int .u32 0), (.top, .int .u32 0), (.top, .int .u32 0), (.top, .int .u32 0), ((.own 1), .sl 1 (List.map (eI .u32) ([] : List Int)))])
  let E15 : Nat × TV := (28, .one .top (.bool true))
  let E16 : Nat × TV := (29, .one .top (.bool true))
  let E18 : Nat × TV := (31, .one .top (.bool true))
  let E19 : Nat × TV := (32, .one .top (.bool true))
  let E20 : Nat × TV := (33, .one .top (.bool true))
  let E21 : Nat × TV := (34, .agg (m0_memory_Layout p0))
  let E22 : Nat × TV := (26, .agg [(.top, .int .u32 0), (.top, .int .u32 0), (.top, .int .u32 0), (.top, .int .u32 0), (.top, .int .u32 0), (.top, .junk)])
  let E23 : Nat × TV := (6, .one .top (.bool false))
  let E24 : Nat × TV := (9, .one .top (.loc 9 0))
  let E26 : Nat × TV := (38, .agg (m0_memory_Layout p0))
  let E30 : Nat × TV := (42, .one .top (.bool false))
  let E31 : Nat × TV := (43, .one .top (.bool false))
  let E33 : Nat × TV := (45, .one .top (.bool false))
  let E34 : Nat × TV := (46, .one .top (.bool false))
  let E35 : Nat × TV := (47, .one .top (.bool false))
  let E36 : Nat × TV := (48, .agg (m0_memory_Layout p0))
  let E44 : Nat × TV := (54, .one .ro (.sl 4 (List.map e_law03_Op p1)))
  let E45 : Nat × TV := (55, .one .top (.int .i64 (p1.length : Int)))
  let E46 : Nat × TV := (11, .one .top (.loc 11 0))
  let E48 : Nat × TV := (59, .one .ro (.sl 4 (List.map e_law03_Op p1)))
  let E58 : Nat × TV := (12, .one .top (.loc 12 0))
  let E62 : Nat × TV := (69, .one .top (.loc 11 1))
  let E64 : Nat × TV := (71, .one .top (.loc 11 2))
  let E69 : Nat × TV := (77, .one .top (.loc 11 1))
  let E71 : Nat × TV := (79, .one .top (.loc 11 2))
  let E75 : Nat × TV := (14, .one .top (.loc 14 0))
  let E79 : Nat × TV := (90, .one .top (.loc 11 1))
  let E81 : Nat × TV := (92, .one .top (.loc 11 3))
  let E86 : Nat × TV := (98, .one .top (.loc 11 1))
  let E88 : Nat × TV := (100, .one .top (.loc 11 3))
  let E97 : Nat × TV := (115, .one .top (.loc 11 2))
  let S106 : St := ⟨[E1, E2, E3, E8], [B4, B5], H⟩
  refine w_fun Try.func15 rfl (by kernel_rfl) false (by kernel_rfl) (s0 := (⟨[(0, .agg (m0_memory_Layout p0)), E1], [], H⟩ : St)) (by kernel_rfl) ?_
  unfold law03_played at hF
  refine w_seq ?_
  refine w_reg ⟨[E1, E2, E3], [B4, B5], H⟩ (by kernel_rfl) ?_
  refine w_seq ?_
  obtain ⟨H4, r1, r2, c3, hF⟩ := bind3_inv hF
  let E6 : Ptr → Nat × TV := fun z0 => (7, .one .top (Ptr.av z0))
  let E7 : Nat × TV := (8, .one .top (.int .i64 r2))
  let E9 : Ptr → Nat × TV := fun z0 => (19, .tup [.one .top (Ptr.av z0), .one .top (.int .i64 r2)])
  let E14 : Ptr → Nat × TV := fun z0 => (27, .one .top (Ptr.av z0))
  let E17 : Nat × TV := (30, .one .top (.int .i64 r2))
  let E29 : Nat × TV := (41, .one .top (.int .i64 r2))
  let E32 : Ptr → Nat × TV := fun z0 => (44, .one .top (Ptr.av z0))
  let S105 : Ptr → St := fun z0 => ⟨[E1, E2, E3, (E6 z0), E7], [B4, B5], H4⟩
  let S107 : Ptr → St := fun z0 => ⟨[E1, E2, E3, (E6 z0), E7, E10], [B4, B5], H4⟩
  let S109 : Ptr → St := fun z0 => ⟨[E2, E3, (E6 z0), E7, E13, (E14 z0)], [B4, B5], H4⟩
  let S110 : Ptr → St := fun z0 => ⟨[E2, E3, (E6 z0), E7, E13, (E14 z0), E15, E16, E17, E18, E19, E20, E21], [B4, B5], H4⟩
  let S111 : Ptr → St := fun z0 => ⟨[E1, E2, E3, (E6 z0), E7, E26], [B4, B5], H4⟩
  refine w_regO (S105 r1) ?_ ?_
  refine o_run 1 S106 (by kernel_rfl) (by kernel_rfl) ?_
  refine o_one ⟨[E1, E2, E3, E8, (E9 r1)], [B4, B5], H4⟩ (st_call (d := (some 19)) (fz := false) (pure := false) (own := false) S106 (ok_memory_New H c3) (by generalize r1 = qp0; cases qp0 <;> kernel_rfl) (by generalize r1 = qp0; cases qp0 <;> kernel_rfl)) ?_
  refine o_run 5 ⟨[E1, E2, E3, (E6 r1), E7, (17, .tup [.one .top (Ptr.av r1), .one .top (.int .i64 r2)]), E8, (E9 r1), (20, .one .top (Ptr.av r1)), (21, .one .top (.int .i64 r2))], [B4, B5], H4⟩ (by kernel_rfl) (by generalize r1 = qp0; cases qp0 <;> kernel_rfl) ?_
  exact o_end (by kernel_rfl) (by kernel_rfl)
  refine w_seq ?_
  refine w_seq ?_
  obtain ⟨r5, c6, hF⟩ := bind1_inv hF
  let E11 : Nat × TV := (23, .agg [(.top, .int .u32 (r5.g 0)), (.top, .int .u32 (r5.g 1)), (.top, .int .u32 (r5.g 2)), (.top, .int .u32 (r5.g 3)), (.top, .int .u32 (r5.g 4))])
  let S108 : Ptr → St := fun z0 => ⟨[E1, E2, E3, (E6 z0), E7, E10, E11], [B4, B5], H4⟩
  obtain ⟨r7, c8, hF⟩ := bind1_inv hF
  refine w_regO ⟨[E1, E2, E3, (E6 r1), E7, (25, .one .top (.bool (!r7)))], [B4, B5], H4⟩ ?_ ?_
  refine o_run 1 (S107 r1) (by kernel_rfl) (by generalize r1 = qp0; cases qp0 <;> kernel_rfl) ?_
  refine o_one (S108 r1) (st_call (d := (some 23)) (fz := false) (pure := true) (own := false) (S107 r1) (ok_law03_Ends H4 c6) (by generalize r1 = qp0; cases qp0 <;> kernel_rfl) (by generalize r1 = qp0; cases qp0 <;> kernel_rfl)) ?_
  refine o_one ⟨[E1, E2, E3, (E6 r1), E7, E10, E11, (24, .one .top (.bool r7))], [B4, B5], H4⟩ (st_call (d := (some 24)) (fz := false) (pure := true) (own := false) (S108 r1) (ok_ref03_Right H4 c8) (by generalize r1 = qp0; cases qp0 <;> kernel_rfl) (by generalize r1 = qp0; cases qp0 <;> kernel_rfl)) ?_
  refine o_run 1 ⟨[E1, E2, E3, (E6 r1), E7, E10, E11, (24, .one .top (.bool r7)), (25, .one .top (.bool (!r7)))], [B4, B5], H4⟩ (by kernel_rfl) (by generalize r1 = qp0; cases qp0 <;> kernel_rfl) ?_
  exact o_end (by kernel_rfl) (by kernel_rfl)
  rcases if_inv hF with ⟨h9, hF⟩ | ⟨h9, hF⟩
  refine w_cT (m := .top) h9 (s1 := (⟨[E2, E3, (E6 r1), E7], [B4, B5], H4⟩ : St)) (by kernel_rfl) (by kernel_rfl) ?_
  refine w_seq ?_
  obtain ⟨w14, hB15, hF⟩ := bind1_inv hF
  refine w_regO ⟨[E12, E3, (6, .one .top (.bool w14))], [B5], H4⟩ ?_ ?_
  refine o_run 2 (S109 r1) (by kernel_rfl) (by generalize r1 = qp0; cases qp0 <;> kernel_rfl) ?_
  refine o_one ⟨[E2, E3, (E6 r1), E7, E13, (E14 r1), (28, .one .top (.bool r1.isNil))], [B4, B5], H4⟩ (st_bin (S109 r1) (nil_eql (P := X.P) (ty := 28) (x := (.tmp 27)) (y := (.const (.pointer none))) (m := .top) (m' := .top) r1 (by generalize r1 = qp0; cases qp0 <;> kernel_rfl) (by generalize r1 = qp0; cases qp0 <;> kernel_rfl)) rfl (some 28) (by generalize r1 = qp0; cases qp0 <;> kernel_rfl) (by generalize r1 = qp0; cases qp0 <;> kernel_rfl)) ?_
  refine o_run 1 ⟨[E2, E3, (E6 r1), E7, E13, (E14 r1), (28, .one .top (.bool r1.isNil)), (29, .one .top (.bool r1.isNil))], [B4, B5], H4⟩ (by kernel_rfl) (by generalize r1 = qp0; cases qp0 <;> kernel_rfl) ?_
  rcases if_inv hB15 with ⟨h10, hB15⟩ | ⟨h10, hB15⟩
  refine o_eq (congrArg (fun q => (⟨[E2, E3, (E6 r1), E7, E13, (E14 r1), (28, .one .top (.bool q)), (29, .one .top (.bool q))], [B4, B5], H4⟩ : St)) h10) ?_
  refine o_run 4 ⟨[E2, E3, (E6 r1), E7, E13, (E14 r1), E15, E16, E17, (31, .one .top (.bool (r2 == 33))), (32, .one .top (.bool (r2 == 33))), (33, .one .top (.bool (r2 == 33)))], [B4, B5], H4⟩ (by kernel_rfl) (by generalize r1 = qp0; cases qp0 <;> kernel_rfl) ?_
  rcases if_inv hB15 with ⟨h11, hB15⟩ | ⟨h11, hB15⟩
  refine o_eq (congrArg (fun q => (⟨[E2, E3, (E6 r1), E7, E13, (E14 r1), E15, E16, E17, (31, .one .top (.bool q)), (32, .one .top (.bool q)), (33, .one .top (.bool q))], [B4, B5], H4⟩ : St)) h11) ?_
  refine o_run 1 (S110 r1) (by kernel_rfl) (by generalize r1 = qp0; cases qp0 <;> kernel_rfl) ?_
  obtain ⟨r12, c13, hB15⟩ := bind1_inv hB15
  refine o_one ⟨[E2, E3, (E6 r1), E7, E13, (E14 r1), E15, E16, E17, E18, E19, E20, E21, (35, .one .top (.bool r12))], [B4, B5], H4⟩ (st_call (d := (some 35)) (fz := false) (pure := true) (own := false) (S110 r1) (ok_memory_Right H4 c13) (by generalize r1 = qp0; cases qp0 <;> kernel_rfl) (by generalize r1 = qp0; cases qp0 <;> kernel_rfl)) ?_
  refine o_run 5 ⟨[E2, E12, E3, (6, .one .top (.bool (!r12))), (E6 r1), E7, E22, (E14 r1), E15, E16, E17, E18, E19, E20, E21, (35, .one .top (.bool r12)), (36, .one .top (.bool (!r12))), (37, .one .top (.bool (!r12)))], [B4, B5], H4⟩ (by kernel_rfl) (by generalize r1 = qp0; cases qp0 <;> kernel_rfl) ?_
  cases hB15
  exact o_end (by kernel_rfl) (by kernel_rfl)
  refine o_eq (congrArg (fun q => (⟨[E2, E3, (E6 r1), E7, E13, (E14 r1), E15, E16, E17, (31, .one .top (.bool q)), (32, .one .top (.bool q)), (33, .one .top (.bool q))], [B4, B5], H4⟩ : St)) h11) ?_
  refine o_run 7 ⟨[E2, E12, E3, E23, (E6 r1), E7, E22, (E14 r1), E15, E16, E17, (31, .one .top (.bool false)), (32, .one .top (.bool false)), (33, .one .top (.bool false)), (34, .tup []), (35, .tup []), (36, .tup []), (37, .one .top (.bool false))], [B4, B5], H4⟩ (by kernel_rfl) (by generalize r1 = qp0; cases qp0 <;> kernel_rfl) ?_
  cases hB15
  exact o_end (by kernel_rfl) (by kernel_rfl)
  refine o_eq (congrArg (fun q => (⟨[E2, E3, (E6 r1), E7, E13, (E14 r1), (28, .one .top (.bool q)), (29, .one .top (.bool q))], [B4, B5], H4⟩ : St)) h10) ?_
  refine o_run 11 ⟨[E2, E12, E3, E23, (E6 r1), E7, E22, (E14 r1), (28, .one .top (.bool false)), (29, .one .top (.bool false)), (30, .tup []), (31, .tup []), (32, .one .top (.bool false)), (33, .one .top (.bool false)), (34, .tup []), (35, .tup []), (36, .tup []), (37, .one .top (.bool false))], [B4, B5], H4⟩ (by kernel_rfl) (by generalize r1 = qp0; cases qp0 <;> kernel_rfl) ?_
  cases hB15
  exact o_end (by kernel_rfl) (by kernel_rfl)
  refine w_ret ?_
  obtain ⟨e0, e1, e2, e3⟩ := some4_inv hF
  subst e0
  subst e1
  subst e2
  subst e3
  exact fin_imp (v := .tup [.one .top .nilp, .agg [(.top, .int .u32 0), (.top, .int .u32 0), (.top, .int .u32 0), (.top, .int .u32 0), (.top, .int .u32 0), ((.own 1), .sl 1 (List.map (eI .u32) ([] : List Int)))], .one .top (.bool w14)]) (by kernel_rfl) (by kernel_rfl) (by kernel_rfl)
  refine w_cF (m := .top) h9 (s1 := (S105 r1)) (by kernel_rfl) (by kernel_rfl) ?_
  refine w_skip ?_
  refine w_seq ?_
  obtain ⟨r16, c17, hF⟩ := bind1_inv hF
  let E27 : Nat × TV := (39, .agg [(.top, .int .u32 (r16.g 0)), (.top, .int .u32 (r16.g 1)), (.top, .int .u32 (r16.g 2)), (.top, .int .u32 (r16.g 3)), (.top, .int .u32 (r16.g 4))])
  let S112 : Ptr → St := fun z0 => ⟨[E1, E2, E3, (E6 z0), E7, E26, E27], [B4, B5], H4⟩
  obtain ⟨r18, c19, hF⟩ := bind1_inv hF
  let B25 : Nat × List MC := (9, [(.top, .int .u32 (r18.Ends_.g 0)), (.top, .int .u32 (r18.Ends_.g 1)), (.top, .int .u32 (r18.Ends_.g 2)), (.top, .int .u32 (r18.Ends_.g 3)), (.top, .int .u32 (r18.Ends_.g 4)), ((.own 0), .sl 1 (List.map (eI .u32) r18.W_))])
  let E28 : Nat × TV := (40, .agg [(.top, .int .u32 (r18.Ends_.g 0)), (.top, .int .u32 (r18.Ends_.g 1)), (.top, .int .u32 (r18.Ends_.g 2)), (.top, .int .u32 (r18.Ends_.g 3)), (.top, .int .u32 (r18.Ends_.g 4)), ((.own 0), .sl 1 (List.map (eI .u32) r18.W_))])
  let B37 : Nat × List MC := (5, [(.top, .int .u32 (r18.Ends_.g 0)), (.top, .int .u32 (r18.Ends_.g 1)), (.top, .int .u32 (r18.Ends_.g 2)), (.top, .int .u32 (r18.Ends_.g 3)), (.top, .int .u32 (r18.Ends_.g 4)), ((.own 0), .sl 1 (List.map (eI .u32) r18.W_))])
  let E38 : Nat × TV := (52, .agg [(.top, .int .u32 (r18.Ends_.g 0)), (.top, .int .u32 (r18.Ends_.g 1)), (.top, .int .u32 (r18.Ends_.g 2)), (.top, .int .u32 (r18.Ends_.g 3)), (.top, .int .u32 (r18.Ends_.g 4)), ((.own 0), .sl 1 (List.map (eI .u32) r18.W_))])
  let S113 : Ptr → St := fun z0 => ⟨[E1, E2, E3, (E6 z0), E7, E24, E29, E30, E31, (E32 z0)], [B4, B5, B25], H4⟩
  let S114 : Ptr → St := fun z0 => ⟨[E1, E2, E3, (E6 z0), E7, E24, E29, E30, E31, (E32 z0), E33, E34, E35, E36], [B4, B5, B25], H4⟩
  refine w_regO ⟨[E1, E2, E3, (E6 r1), E7, E24], [B4, B5, B25], H4⟩ ?_ ?_
  refine o_run 1 (S111 r1) (by kernel_rfl) (by generalize r1 = qp0; cases qp0 <;> kernel_rfl) ?_
  refine o_one (S112 r1) (st_call (d := (some 39)) (fz := false) (pure := true) (own := false) (S111 r1) (ok_law03_Ends H4 c17) (by generalize r1 = qp0; cases qp0 <;> kernel_rfl) (by generalize r1 = qp0; cases qp0 <;> kernel_rfl)) ?_
  refine o_one ⟨[E1, E2, E3, (E6 r1), E7, E26, E27, E28], [B4, B5], H4⟩ (st_call (d := (some 40)) (fz := false) (pure := true) (own := false) (S112 r1) (ok_ref03_New H4 c19) (by generalize r1 = qp0; cases qp0 <;> kernel_rfl) (by generalize r1 = qp0; cases qp0 <;> kernel_rfl)) ?_
  refine o_run 2 ⟨[E1, E2, E3, (E6 r1), E7, E24, E26, E27, E28], [B4, B5, B25], H4⟩ (by kernel_rfl) (by generalize r1 = qp0; cases qp0 <;> kernel_rfl) ?_
  exact o_end (by kernel_rfl) (by kernel_rfl)
  refine w_seq ?_
  refine w_seq ?_
  obtain ⟨w24, hB25, hF⟩ := bind1_inv hF
  refine w_regO ⟨[E1, E3, (E6 r1), E24, (51, .one .top (.bool w24))], [B5, B25], H4⟩ ?_ ?_
  refine o_run 3 ⟨[E1, E2, E3, (E6 r1), E7, E24, E29, (42, .one .top (.bool (r2 != 0))), (43, .one .top (.bool (r2 != 0)))], [B4, B5, B25], H4⟩ (by kernel_rfl) (by generalize r1 = qp0; cases qp0 <;> kernel_rfl) ?_
  rcases if_inv hB25 with ⟨h20, hB25⟩ | ⟨h20, hB25⟩
  refine o_eq (congrArg (fun q => (⟨[E1, E2, E3, (E6 r1), E7, E24, E29, (42, .one .top (.bool q)), (43, .one .top (.bool q))], [B4, B5, B25], H4⟩ : St)) h20) ?_
  refine o_run 8 ⟨[E1, E2, E3, (E6 r1), E7, E24, E29, (42, .one .top (.bool true)), (43, .one .top (.bool true)), (44, .tup []), (45, .tup []), (46, .one .top (.bool true)), (47, .one .top (.bool true)), (48, .tup []), (49, .tup []), (50, .tup []), (51, .one .top (.bool true))], [B4, B5, B25], H4⟩ (by kernel_rfl) (by generalize r1 = qp0; cases qp0 <;> kernel_rfl) ?_
  cases hB25
  exact o_end (by kernel_rfl) (by kernel_rfl)
  refine o_eq (congrArg (fun q => (⟨[E1, E2, E3, (E6 r1), E7, E24, E29, (42, .one .top (.bool q)), (43, .one .top (.bool q))], [B4, B5, B25], H4⟩ : St)) h20) ?_
  refine o_run 1 (S113 r1) (by kernel_rfl) (by generalize r1 = qp0; cases qp0 <;> kernel_rfl) ?_
  refine o_one ⟨[E1, E2, E3, (E6 r1), E7, E24, E29, E30, E31, (E32 r1), (45, .one .top (.bool r1.isNil))], [B4, B5, B25], H4⟩ (st_bin (S113 r1) (nil_eql (P := X.P) (ty := 28) (x := (.tmp 44)) (y := (.const (.pointer none))) (m := .top) (m' := .top) r1 (by generalize r1 = qp0; cases qp0 <;> kernel_rfl) (by generalize r1 = qp0; cases qp0 <;> kernel_rfl)) rfl (some 45) (by generalize r1 = qp0; cases qp0 <;> kernel_rfl) (by generalize r1 = qp0; cases qp0 <;> kernel_rfl)) ?_
  refine o_run 2 ⟨[E1, E2, E3, (E6 r1), E7, E24, E29, E30, E31, (E32 r1), (45, .one .top (.bool r1.isNil)), (46, .one .top (.bool r1.isNil)), (47, .one .top (.bool r1.isNil))], [B4, B5, B25], H4⟩ (by kernel_rfl) (by generalize r1 = qp0; cases qp0 <;> kernel_rfl) ?_
  rcases if_inv hB25 with ⟨h21, hB25⟩ | ⟨h21, hB25⟩
  refine o_eq (congrArg (fun q => (⟨[E1, E2, E3, (E6 r1), E7, E24, E29, E30, E31, (E32 r1), (45, .one .top (.bool q)), (46, .one .top (.bool q)), (47, .one .top (.bool q))], [B4, B5, B25], H4⟩ : St)) h21) ?_
  refine o_run 4 ⟨[E1, E2, E3, (E6 r1), E7, E24, E29, E30, E31, (E32 r1), (45, .one .top (.bool true)), (46, .one .top (.bool true)), (47, .one .top (.bool true)), (48, .tup []), (49, .tup []), (50, .tup []), (51, .one .top (.bool true))], [B4, B5, B25], H4⟩ (by kernel_rfl) (by generalize r1 = qp0; cases qp0 <;> kernel_rfl) ?_
  cases hB25
  exact o_end (by kernel_rfl) (by kernel_rfl)
  refine o_eq (congrArg (fun q => (⟨[E1, E2, E3, (E6 r1), E7, E24, E29, E30, E31, (E32 r1), (45, .one .top (.bool q)), (46, .one .top (.bool q)), (47, .one .top (.bool q))], [B4, B5, B25], H4⟩ : St)) h21) ?_
  refine o_run 1 (S114 r1) (by kernel_rfl) (by generalize r1 = qp0; cases qp0 <;> kernel_rfl) ?_
  obtain ⟨r22, c23, hB25⟩ := bind1_inv hB25
  refine o_one ⟨[E1, E2, E3, (E6 r1), E7, E24, E29, E30, E31, (E32 r1), E33, E34, E35, E36, (49, .one .top (.bool r22))], [B4, B5, B25], H4⟩ (st_call (d := (some 49)) (fz := false) (pure := true) (own := false) (S114 r1) (ok_memory_Right H4 c23) (by generalize r1 = qp0; cases qp0 <;> kernel_rfl) (by generalize r1 = qp0; cases qp0 <;> kernel_rfl)) ?_
  refine o_run 2 ⟨[E1, E2, E3, (E6 r1), E7, E24, E29, E30, E31, (E32 r1), E33, E34, E35, E36, (49, .one .top (.bool r22)), (50, .one .top (.bool (!r22))), (51, .one .top (.bool (!r22)))], [B4, B5, B25], H4⟩ (by kernel_rfl) (by generalize r1 = qp0; cases qp0 <;> kernel_rfl) ?_
  cases hB25
  exact o_end (by kernel_rfl) (by kernel_rfl)
  rcases if_inv hF with ⟨h26, hF⟩ | ⟨h26, hF⟩
  refine w_cT (m := .top) h26 (s1 := (⟨[E3, E24], [B5, B25], H4⟩ : St)) (by kernel_rfl) (by kernel_rfl) ?_
  refine w_seq ?_
  refine w_regD (.take 0 (.take 1 (.last 2 (.take 3 .done)))) (by kernel_rfl) (⟨[E12, E3, E23], [B37], H4⟩ : St) ?_ ?_
  refine d_take ⟨[E3, E24, E38], [B5, B25], H4⟩ (by kernel_rfl) ?_
  refine d_take ⟨[E12, E3, E24, E38], [B5, B25], H4⟩ (by kernel_rfl) ?_
  refine d_last ⟨[E12, E3, E24, E38], [B37, B25], H4⟩ (by kernel_rfl) ?_
  refine d_take ⟨[E12, E3, E23, E24, E38], [B37, B25], H4⟩ (by kernel_rfl) ?_
  exact d_end (by kernel_rfl)
  refine w_ret ?_
  obtain ⟨e0, e1, e2, e3⟩ := some4_inv hF
  subst e0
  subst e1
  subst e2
  subst e3
  exact fin_imp (v := .tup [.one .top .nilp, .agg [(.top, .int .u32 (r18.Ends_.g 0)), (.top, .int .u32 (r18.Ends_.g 1)), (.top, .int .u32 (r18.Ends_.g 2)), (.top, .int .u32 (r18.Ends_.g 3)), (.top, .int .u32 (r18.Ends_.g 4)), ((.own 0), .sl 1 (List.map (eI .u32) r18.W_))], .one .top (.bool false)]) (by kernel_rfl) (by kernel_rfl) (by kernel_rfl)
  refine w_cF (m := .top) h26 (s1 := (⟨[E1, E3, (E6 r1), E24], [B5, B25], H4⟩ : St)) (by kernel_rfl) (by kernel_rfl) ?_
  refine w_skip ?_
  refine w_seq ?_
  refine w_seq ?_
  refine w_reg ⟨[E1, E3, (E6 r1), E24, (10, .one .top (.int .i64 0))], [B5, B25], H4⟩ (by generalize r1 = qp0; cases qp0 <;> kernel_rfl) ?_
  refine w_block ?_
  obtain ⟨r70, hL71, hF⟩ := bind1_inv hF
  refine w_loop (fun (x : (Ptr × Int × T_ref03_Mem × Heap)) => (⟨[E1, E3, (7, .one .top (Ptr.av x.1)), E24, (10, .one .top (.int .i64 x.2.1))], [B5, (9, [(.top, .int .u32 (x.2.2.1.Ends_.g 0)), (.top, .int .u32 (x.2.2.1.Ends_.g 1)), (.top, .int .u32 (x.2.2.1.Ends_.g 2)), (.top, .int .u32 (x.2.2.1.Ends_.g 3)), (.top, .int .u32 (x.2.2.1.Ends_.g 4)), ((.own 0), .sl 1 (List.map (eI .u32) x.2.2.1.W_))])], x.2.2.2⟩ : St)) (Sum.elim (fun (y : (Ptr × T_ref03_Mem × Heap)) => ((.exit 0, (⟨[E3, (7, .one .top (Ptr.av y.1)), E24], [B5, (9, [(.top, .int .u32 (y.2.1.Ends_.g 0)), (.top, .int .u32 (y.2.1.Ends_.g 1)), (.top, .int .u32 (y.2.1.Ends_.g 2)), (.top, .int .u32 (y.2.1.Ends_.g 3)), (.top, .int .u32 (y.2.1.Ends_.g 4)), ((.own 0), .sl 1 (List.map (eI .u32) y.2.1.W_))])], y.2.2⟩ : St)) : Ex × St)) (fun (y : (T_ref03_Mem × Heap)) => ((.ret, (⟨[E12, E3, E23], [(5, [(.top, .int .u32 (y.1.Ends_.g 0)), (.top, .int .u32 (y.1.Ends_.g 1)), (.top, .int .u32 (y.1.Ends_.g 2)), (.top, .int .u32 (y.1.Ends_.g 3)), (.top, .int .u32 (y.1.Ends_.g 4)), ((.own 0), .sl 1 (List.map (eI .u32) y.1.W_))])], y.2⟩ : St)) : Ex × St))) hL71 (by kernel_rfl) ?_ ?_
  rintro ⟨a27, a28, a29, H30⟩ o hF
  replace hF : law03_played_L1 p1 a27 a28 a29 H30 = some o := hF
  let E39 : Ptr → Nat × TV := fun z0 => (7, .one .top (Ptr.av z0))
  let E40 : Nat × TV := (10, .one .top (.int .i64 a28))
  let E41 : Nat × TV := (56, .one .top (.bool (decide (a28 < (p1.length : Int)))))
  let B42 : Nat × List MC := (9, [(.top, .int .u32 (a29.Ends_.g 0)), (.top, .int .u32 (a29.Ends_.g 1)), (.top, .int .u32 (a29.Ends_.g 2)), (.top, .int .u32 (a29.Ends_.g 3)), (.top, .int .u32 (a29.Ends_.g 4)), ((.own 0), .sl 1 (List.map (eI .u32) a29.W_))])
  let E43 : Nat × TV := (53, .one .top (.int .i64 a28))
  let E49 : Nat × TV := (60, .one .top (.int .i64 a28))
  let E61 : Nat × TV := (68, .agg [(.top, .int .u32 (a29.Ends_.g 0)), (.top, .int .u32 (a29.Ends_.g 1)), (.top, .int .u32 (a29.Ends_.g 2)), (.top, .int .u32 (a29.Ends_.g 3)), (.top, .int .u32 (a29.Ends_.g 4)), ((.own 0), .sl 1 (List.map (eI .u32) a29.W_))])
  let E68 : Ptr → Nat × TV := fun z0 => (76, .one .top (Ptr.av z0))
  let B73 : Nat × List MC := (5, [(.top, .int .u32 (a29.Ends_.g 0)), (.top, .int .u32 (a29.Ends_.g 1)), (.top, .int .u32 (a29.Ends_.g 2)), (.top, .int .u32 (a29.Ends_.g 3)), (.top, .int .u32 (a29.Ends_.g 4)), ((.own 0), .sl 1 (List.map (eI .u32) a29.W_))])
  let E74 : Nat × TV := (84, .agg [(.top, .int .u32 (a29.Ends_.g 0)), (.top, .int .u32 (a29.Ends_.g 1)), (.top, .int .u32 (a29.Ends_.g 2)), (.top, .int .u32 (a29.Ends_.g 3)), (.top, .int .u32 (a29.Ends_.g 4)), ((.own 0), .sl 1 (List.map (eI .u32) a29.W_))])
  let E78 : Nat × TV := (89, .agg [(.top, .int .u32 (a29.Ends_.g 0)), (.top, .int .u32 (a29.Ends_.g 1)), (.top, .int .u32 (a29.Ends_.g 2)), (.top, .int .u32 (a29.Ends_.g 3)), (.top, .int .u32 (a29.Ends_.g 4)), ((.own 0), .sl 1 (List.map (eI .u32) a29.W_))])
  let E85 : Ptr → Nat × TV := fun z0 => (97, .one .top (Ptr.av z0))
  let E90 : Nat × TV := (105, .agg [(.top, .int .u32 (a29.Ends_.g 0)), (.top, .int .u32 (a29.Ends_.g 1)), (.top, .int .u32 (a29.Ends_.g 2)), (.top, .int .u32 (a29.Ends_.g 3)), (.top, .int .u32 (a29.Ends_.g 4)), ((.own 0), .sl 1 (List.map (eI .u32) a29.W_))])
  let E92 : Ptr → Nat × TV := fun z0 => (109, .one .top (Ptr.av z0))
  let E95 : Nat × TV := (113, .agg [(.top, .int .u32 (a29.Ends_.g 0)), (.top, .int .u32 (a29.Ends_.g 1)), (.top, .int .u32 (a29.Ends_.g 2)), (.top, .int .u32 (a29.Ends_.g 3)), (.top, .int .u32 (a29.Ends_.g 4)), ((.own 0), .sl 1 (List.map (eI .u32) a29.W_))])
  let E96 : Ptr → Nat × TV := fun z0 => (114, .one .top (Ptr.av z0))
  let S115 : Ptr → St := fun z0 => ⟨[E1, E3, (E39 z0), E24, E40, E43, E44], [B5, B42], H30⟩
  let S116 : Ptr → St := fun z0 => ⟨[E1, E3, (E39 z0), E24, E40], [B5, B42], H30⟩
  let S118 : Ptr → St := fun z0 => ⟨[E1, E3, (E39 z0), E24, E40, E48, E49], [B5, B42], H30⟩
  unfold law03_played_L1 at hF
  refine w_seq ?_
  refine w_seq ?_
  refine w_regO ⟨[E1, E3, (E39 a27), E24, E40, E41], [B5, B42], H30⟩ ?_ ?_
  refine o_run 2 (S115 a27) (by kernel_rfl) (by generalize a27 = qp0; cases qp0 <;> kernel_rfl) ?_
  refine o_one ⟨[E1, E3, (E39 a27), E24, E40, E43, E44, E45], [B5, B42], H30⟩ (st_len (S115 a27) p1 e_law03_Op (some 55) (by generalize a27 = qp0; cases qp0 <;> kernel_rfl) (by generalize a27 = qp0; cases qp0 <;> kernel_rfl)) ?_
  refine o_run 1 ⟨[E1, E3, (E39 a27), E24, E40, E43, E44, E45, E41], [B5, B42], H30⟩ (by kernel_rfl) (by generalize a27 = qp0; cases qp0 <;> kernel_rfl) ?_
  exact o_end (by kernel_rfl) (by kernel_rfl)
  rcases if_inv hF with ⟨h31, hF⟩ | ⟨h31, hF⟩
  refine w_cT (m := .top) h31 (s1 := (S116 a27)) (by kernel_rfl) (by kernel_rfl) ?_
  refine w_skip ?_
  refine w_seq ?_
  refine w_join (α := (Ptr × T_ref03_Mem × Heap)) (fun x => (⟨[E1, E3, (7, .one .top (Ptr.av x.1)), E24, E40], [B5, (9, [(.top, .int .u32 (x.2.1.Ends_.g 0)), (.top, .int .u32 (x.2.1.Ends_.g 1)), (.top, .int .u32 (x.2.1.Ends_.g 2)), (.top, .int .u32 (x.2.1.Ends_.g 3)), (.top, .int .u32 (x.2.1.Ends_.g 4)), ((.own 0), .sl 1 (List.map (eI .u32) x.2.1.W_))])], x.2.2⟩ : St)) (fun x => law03_played_j2 a28 x.1 x.2.1 x.2.2 = some o) ?_ ?_
  rintro ⟨j32, j33, H34⟩ hF
  replace hF : law03_played_j2 a28 j32 j33 H34 = some o := hF
  unfold law03_played_j2 at hF
  refine w_reg ⟨[E1, E3, (7, .one .top (Ptr.av j32)), E24, (10, .one .top (.int .i64 (IntKind.wrap .i64 (a28 + 1))))], [B5, (9, [(.top, .int .u32 (j33.Ends_.g 0)), (.top, .int .u32 (j33.Ends_.g 1)), (.top, .int .u32 (j33.Ends_.g 2)), (.top, .int .u32 (j33.Ends_.g 3)), (.top, .int .u32 (j33.Ends_.g 4)), ((.own 0), .sl 1 (List.map (eI .u32) j33.W_))])], H34⟩ (by generalize j32 = qp0; cases qp0 <;> kernel_rfl) ?_
  cases hF
  exact ⟨_, rfl, (by kernel_rfl)⟩
  refine w_block ?_
  refine w_seq ?_
  obtain ⟨x35, h36, hF⟩ := bind1_inv hF
  let B47 : Nat × List MC := (11, (m0_law03_Op x35))
  let E50 : Nat × TV := (61, .one .top (.rd .ro .ro [.int .i64 x35.Kind_, .int .u32 x35.At_, .int .u32 x35.W_, .sl 1 (List.map (eI .u32) x35.List_)] 0))
  let E51 : Nat × TV := (64, .one .top (.int .i64 x35.Kind_))
  let E63 : Nat × TV := (70, .one .top (.int .u32 x35.At_))
  let E65 : Nat × TV := (72, .one .top (.int .u32 x35.W_))
  let E70 : Nat × TV := (78, .one .top (.int .u32 x35.At_))
  let E72 : Nat × TV := (80, .one .top (.int .u32 x35.W_))
  let E80 : Nat × TV := (91, .one .top (.int .u32 x35.At_))
  let E82 : Nat × TV := (93, .one .ro (.sl 1 (List.map (eI .u32) x35.List_)))
  let E87 : Nat × TV := (99, .one .top (.int .u32 x35.At_))
  let E89 : Nat × TV := (101, .one .ro (.sl 1 (List.map (eI .u32) x35.List_)))
  let E98 : Nat × TV := (116, .one .top (.int .u32 x35.W_))
  let S117 : Ptr → St := fun z0 => ⟨[E1, E3, (E39 z0), E24, E40, E46], [B5, B42, B47], H30⟩
  let S119 : Ptr → St := fun z0 => ⟨[E1, E3, (E39 z0), E24, E40, E46, E51], [B5, B42, B47], H30⟩
  let S121 : Ptr → St := fun z0 => ⟨[E1, E3, (E39 z0), E24, E40, E46, E61, E62, E63, E64, E65], [B5, B42, B47], H30⟩
  let S123 : Ptr → St := fun z0 => ⟨[E1, E3, (E39 z0), E24, E40, E46, E78, E79, E80, E81, E82], [B5, B42, B47], H30⟩
  let S126 : Ptr → St := fun z0 => ⟨[E1, E3, (E39 z0), E24, E40, E46, (E92 z0)], [B5, B42, B47], H30⟩
  refine w_regO (S117 a27) ?_ ?_
  refine o_run 2 (S118 a27) (by kernel_rfl) (by generalize a27 = qp0; cases qp0 <;> kernel_rfl) ?_
  refine o_one ⟨[E1, E3, (E39 a27), E24, E40, E48, E49, E50], [B5, B42], H30⟩ (st_ix (X := X) (S118 a27) 25 36 4 h36 e_law03_Op .ro (some 61) (by generalize a27 = qp0; cases qp0 <;> kernel_rfl) (by generalize a27 = qp0; cases qp0 <;> kernel_rfl) (by generalize a27 = qp0; cases qp0 <;> kernel_rfl) (by generalize a27 = qp0; cases qp0 <;> kernel_rfl)) ?_
  refine o_run 3 ⟨[E1, E3, (E39 a27), E24, E40, E46, E48, E49, E50, (62, .agg (m0_law03_Op x35))], [B5, B42, B47], H30⟩ (by kernel_rfl) (by generalize a27 = qp0; cases qp0 <;> kernel_rfl) ?_
  exact o_end (by kernel_rfl) (by kernel_rfl)
  refine w_seq ?_
  refine w_seq ?_
  refine w_reg (S119 a27) (by generalize a27 = qp0; cases qp0 <;> kernel_rfl) ?_
  refine w_block ?_
  refine w_seq ?_
  refine w_reg ⟨[E1, E3, (E39 a27), E24, E40, E46, E51, (65, .one .top (.bool (x35.Kind_ == 0)))], [B5, B42, B47], H30⟩ (by generalize a27 = qp0; cases qp0 <;> kernel_rfl) ?_
  refine w_join (α := (Ptr × T_ref03_Mem × Heap)) (fun x => (⟨[E1, E3, (7, .one .top (Ptr.av x.1)), E24, E40], [B5, (9, [(.top, .int .u32 (x.2.1.Ends_.g 0)), (.top, .int .u32 (x.2.1.Ends_.g 1)), (.top, .int .u32 (x.2.1.Ends_.g 2)), (.top, .int .u32 (x.2.1.Ends_.g 3)), (.top, .int .u32 (x.2.1.Ends_.g 4)), ((.own 0), .sl 1 (List.map (eI .u32) x.2.1.W_))])], x.2.2⟩ : St)) (fun x => law03_played_j3 a28 x.1 x.2.1 x.2.2 = some o) ?_ ?_
  rintro ⟨j37, j38, H39⟩ hF
  replace hF : law03_played_j3 a28 j37 j38 H39 = some o := hF
  let E52 : Ptr → Nat × TV := fun z0 => (7, .one .top (Ptr.av z0))
  let B53 : Nat × List MC := (9, [(.top, .int .u32 (j38.Ends_.g 0)), (.top, .int .u32 (j38.Ends_.g 1)), (.top, .int .u32 (j38.Ends_.g 2)), (.top, .int .u32 (j38.Ends_.g 3)), (.top, .int .u32 (j38.Ends_.g 4)), ((.own 0), .sl 1 (List.map (eI .u32) j38.W_))])
  let E54 : Ptr → Nat × TV := fun z0 => (120, .one .top (Ptr.av z0))
  let E55 : Nat × TV := (121, .agg [(.top, .int .u32 (j38.Ends_.g 0)), (.top, .int .u32 (j38.Ends_.g 1)), (.top, .int .u32 (j38.Ends_.g 2)), (.top, .int .u32 (j38.Ends_.g 3)), (.top, .int .u32 (j38.Ends_.g 4)), ((.own 0), .sl 1 (List.map (eI .u32) j38.W_))])
  let B56 : Nat × List MC := (5, [(.top, .int .u32 (j38.Ends_.g 0)), (.top, .int .u32 (j38.Ends_.g 1)), (.top, .int .u32 (j38.Ends_.g 2)), (.top, .int .u32 (j38.Ends_.g 3)), (.top, .int .u32 (j38.Ends_.g 4)), ((.own 0), .sl 1 (List.map (eI .u32) j38.W_))])
  let E57 : Nat × TV := (124, .agg [(.top, .int .u32 (j38.Ends_.g 0)), (.top, .int .u32 (j38.Ends_.g 1)), (.top, .int .u32 (j38.Ends_.g 2)), (.top, .int .u32 (j38.Ends_.g 3)), (.top, .int .u32 (j38.Ends_.g 4)), ((.own 0), .sl 1 (List.map (eI .u32) j38.W_))])
  let S120 : Ptr → St := fun z0 => ⟨[E1, E3, (E52 z0), E24, E40, (E54 z0), E55], [B5, B53], H39⟩
  unfold law03_played_j3 at hF
  refine w_seq ?_
  obtain ⟨r40, c41, hF⟩ := bind1_inv hF
  refine w_regO ⟨[E1, E3, (E52 j37), E24, E40, (123, .one .top (.bool (!r40)))], [B5, B53], H39⟩ ?_ ?_
  refine o_run 2 (S120 j37) (by kernel_rfl) (by generalize j37 = qp0; cases qp0 <;> kernel_rfl) ?_
  refine o_one ⟨[E1, E3, (E52 j37), E24, E40, (E54 j37), E55, (122, .one .top (.bool r40))], [B5, B53], H39⟩ (st_call (d := (some 122)) (fz := false) (pure := true) (own := false) (S120 j37) (ok_law03_Same H39 c41) (by generalize j37 = qp0; cases qp0 <;> kernel_rfl) (by generalize j37 = qp0; cases qp0 <;> kernel_rfl)) ?_
  refine o_run 1 ⟨[E1, E3, (E52 j37), E24, E40, (E54 j37), E55, (122, .one .top (.bool r40)), (123, .one .top (.bool (!r40)))], [B5, B53], H39⟩ (by kernel_rfl) (by generalize j37 = qp0; cases qp0 <;> kernel_rfl) ?_
  exact o_end (by kernel_rfl) (by kernel_rfl)
  rcases if_inv hF with ⟨h42, hF⟩ | ⟨h42, hF⟩
  refine w_cT (m := .top) h42 (s1 := (⟨[E3, E24], [B5, B53], H39⟩ : St)) (by kernel_rfl) (by kernel_rfl) ?_
  refine w_seq ?_
  refine w_regD (.take 0 (.take 1 (.last 2 (.take 3 .done)))) (by kernel_rfl) (⟨[E12, E3, E23], [B56], H39⟩ : St) ?_ ?_
  refine d_take ⟨[E3, E24, E57], [B5, B53], H39⟩ (by kernel_rfl) ?_
  refine d_take ⟨[E12, E3, E24, E57], [B5, B53], H39⟩ (by kernel_rfl) ?_
  refine d_last ⟨[E12, E3, E24, E57], [B56, B53], H39⟩ (by kernel_rfl) ?_
  refine d_take ⟨[E12, E3, E23, E24, E57], [B56, B53], H39⟩ (by kernel_rfl) ?_
  exact d_end (by kernel_rfl)
  refine w_ret ?_
  cases hF
  exact ⟨_, rfl, (by kernel_rfl)⟩
  refine w_cF (m := .top) h42 (s1 := (⟨[E1, E3, (E52 j37), E24, E40], [B5, B53], H39⟩ : St)) (by kernel_rfl) (by kernel_rfl) ?_
  refine w_skip ?_
  exact ⟨(j37, j38, H39), hF, (by kernel_rfl)⟩
  rcases if_inv hF with ⟨h43, hF⟩ | ⟨h43, hF⟩
  refine w_cT (m := .top) h43 (s1 := (S117 a27)) (by kernel_rfl) (by kernel_rfl) ?_
  refine w_seq ?_
  obtain ⟨r44, r45, c46, hF⟩ := bind2_inv hF
  let E59 : Nat × TV := (13, .one .top (.int .i64 r45))
  let B60 : Nat × List MC := (12, [(.top, .int .u32 (r44.Ends_.g 0)), (.top, .int .u32 (r44.Ends_.g 1)), (.top, .int .u32 (r44.Ends_.g 2)), (.top, .int .u32 (r44.Ends_.g 3)), (.top, .int .u32 (r44.Ends_.g 4)), ((.own 0), .sl 1 (List.map (eI .u32) r44.W_))])
  let E66 : Nat × TV := (73, .tup [.agg [(.top, .int .u32 (r44.Ends_.g 0)), (.top, .int .u32 (r44.Ends_.g 1)), (.top, .int .u32 (r44.Ends_.g 2)), (.top, .int .u32 (r44.Ends_.g 3)), (.top, .int .u32 (r44.Ends_.g 4)), ((.own 0), .sl 1 (List.map (eI .u32) r44.W_))], .one .top (.int .i64 r45)])
  let S122 : Ptr → St := fun z0 => ⟨[E1, E3, (E39 z0), E24, E40, E46, E58, E59, (E68 z0), E69, E70, E71, E72], [B5, B42, B47, B60], H30⟩
  refine w_regO ⟨[E1, E3, (E39 a27), E24, E40, E46, E58, E59], [B5, B42, B47, B60], H30⟩ ?_ ?_
  refine o_run 5 (S121 a27) (by kernel_rfl) (by generalize a27 = qp0; cases qp0 <;> kernel_rfl) ?_
  refine o_one ⟨[E1, E3, (E39 a27), E24, E40, E46, E61, E62, E63, E64, E65, E66], [B5, B42, B47], H30⟩ (st_call (d := (some 73)) (fz := false) (pure := true) (own := false) (S121 a27) (ok_ref03_Store H30 c46) (by generalize a27 = qp0; cases qp0 <;> kernel_rfl) (by generalize a27 = qp0; cases qp0 <;> kernel_rfl)) ?_
  refine o_run 6 ⟨[E1, E3, (E39 a27), E24, E40, E46, E58, E59, (67, .tup [.agg [(.top, .int .u32 (r44.Ends_.g 0)), (.top, .int .u32 (r44.Ends_.g 1)), (.top, .int .u32 (r44.Ends_.g 2)), (.top, .int .u32 (r44.Ends_.g 3)), (.top, .int .u32 (r44.Ends_.g 4)), ((.own 0), .sl 1 (List.map (eI .u32) r44.W_))], .one .top (.int .i64 r45)]), E61, E62, E63, E64, E65, E66, (74, .agg [(.top, .int .u32 (r44.Ends_.g 0)), (.top, .int .u32 (r44.Ends_.g 1)), (.top, .int .u32 (r44.Ends_.g 2)), (.top, .int .u32 (r44.Ends_.g 3)), (.top, .int .u32 (r44.Ends_.g 4)), ((.own 0), .sl 1 (List.map (eI .u32) r44.W_))]), (75, .one .top (.int .i64 r45))], [B5, B42, B47, B60], H30⟩ (by kernel_rfl) (by generalize a27 = qp0; cases qp0 <;> kernel_rfl) ?_
  exact o_end (by kernel_rfl) (by kernel_rfl)
  refine w_seq ?_
  refine w_seq ?_
  obtain ⟨H49, r47, c48, hF⟩ := bind2_inv hF
  let E67 : Nat × TV := (83, .one .top (.bool (r47 != r45)))
  refine w_regO ⟨[E1, E3, (E39 a27), E24, E40, E58, E67], [B5, B42, B60], H49⟩ ?_ ?_
  refine o_run 5 (S122 a27) (by kernel_rfl) (by generalize a27 = qp0; cases qp0 <;> kernel_rfl) ?_
  refine o_one ⟨[E1, E3, (E39 a27), E24, E40, E46, E58, E59, (E68 a27), E69, E70, E71, E72, (81, .one .top (.int .i64 r47))], [B5, B42, B47, B60], H49⟩ (st_call (d := (some 81)) (fz := false) (pure := false) (own := false) (S122 a27) (ok_memory_Mem_Store H30 c48) (by generalize a27 = qp0; cases qp0 <;> kernel_rfl) (by generalize a27 = qp0; cases qp0 <;> kernel_rfl)) ?_
  refine o_run 2 ⟨[E1, E3, (E39 a27), E24, E40, E46, E58, E59, (E68 a27), E69, E70, E71, E72, (81, .one .top (.int .i64 r47)), (82, .one .top (.int .i64 r45)), E67], [B5, B42, B47, B60], H49⟩ (by kernel_rfl) (by generalize a27 = qp0; cases qp0 <;> kernel_rfl) ?_
  exact o_end (by kernel_rfl) (by kernel_rfl)
  rcases if_inv hF with ⟨h50, hF⟩ | ⟨h50, hF⟩
  refine w_cT (m := .top) h50 (s1 := (⟨[E3, E24], [B5, B42], H49⟩ : St)) (by kernel_rfl) (by kernel_rfl) ?_
  refine w_seq ?_
  refine w_regD (.take 0 (.take 1 (.last 2 (.take 3 .done)))) (by kernel_rfl) (⟨[E12, E3, E23], [B73], H49⟩ : St) ?_ ?_
  refine d_take ⟨[E3, E24, E74], [B5, B42], H49⟩ (by kernel_rfl) ?_
  refine d_take ⟨[E12, E3, E24, E74], [B5, B42], H49⟩ (by kernel_rfl) ?_
  refine d_last ⟨[E12, E3, E24, E74], [B73, B42], H49⟩ (by kernel_rfl) ?_
  refine d_take ⟨[E12, E3, E23, E24, E74], [B73, B42], H49⟩ (by kernel_rfl) ?_
  exact d_end (by kernel_rfl)
  refine w_ret ?_
  cases hF
  exact ⟨_, rfl, (by kernel_rfl)⟩
  refine w_cF (m := .top) h50 (s1 := (⟨[E1, E3, (E39 a27), E24, E40, E58], [B5, B42, B60], H49⟩ : St)) (by kernel_rfl) (by kernel_rfl) ?_
  refine w_skip ?_
  refine w_reg ⟨[E1, E3, (E39 a27), E24, E40], [B5, (9, [(.top, .int .u32 (r44.Ends_.g 0)), (.top, .int .u32 (r44.Ends_.g 1)), (.top, .int .u32 (r44.Ends_.g 2)), (.top, .int .u32 (r44.Ends_.g 3)), (.top, .int .u32 (r44.Ends_.g 4)), ((.own 0), .sl 1 (List.map (eI .u32) r44.W_))])], H49⟩ (by generalize a27 = qp0; cases qp0 <;> kernel_rfl) ?_
  exact ⟨(a27, r44, H49), hF, (by kernel_rfl)⟩
  refine w_cF (m := .top) h43 (s1 := (S119 a27)) (by kernel_rfl) (by kernel_rfl) ?_
  refine w_seq ?_
  refine w_reg ⟨[E1, E3, (E39 a27), E24, E40, E46, E51, (86, .one .top (.bool (x35.Kind_ == 1)))], [B5, B42, B47], H30⟩ (by generalize a27 = qp0; cases qp0 <;> kernel_rfl) ?_
  refine w_join (α := (Ptr × T_ref03_Mem × Heap)) (fun x => (⟨[E1, E3, (7, .one .top (Ptr.av x.1)), E24, E40], [B5, (9, [(.top, .int .u32 (x.2.1.Ends_.g 0)), (.top, .int .u32 (x.2.1.Ends_.g 1)), (.top, .int .u32 (x.2.1.Ends_.g 2)), (.top, .int .u32 (x.2.1.Ends_.g 3)), (.top, .int .u32 (x.2.1.Ends_.g 4)), ((.own 0), .sl 1 (List.map (eI .u32) x.2.1.W_))])], x.2.2⟩ : St)) (fun x => law03_played_j4 a28 x.1 x.2.1 x.2.2 = some o) ?_ ?_
  rintro ⟨j51, j52, H53⟩ hF
  replace hF : law03_played_j4 a28 j51 j52 H53 = some o := hF
  unfold law03_played_j4 at hF
  exact ⟨(j51, j52, H53), hF, (by kernel_rfl)⟩
  rcases if_inv hF with ⟨h54, hF⟩ | ⟨h54, hF⟩
  refine w_cT (m := .top) h54 (s1 := (S117 a27)) (by kernel_rfl) (by kernel_rfl) ?_
  refine w_seq ?_
  obtain ⟨r55, r56, c57, hF⟩ := bind2_inv hF
  let E76 : Nat × TV := (15, .one .top (.int .i64 r56))
  let B77 : Nat × List MC := (14, [(.top, .int .u32 (r55.Ends_.g 0)), (.top, .int .u32 (r55.Ends_.g 1)), (.top, .int .u32 (r55.Ends_.g 2)), (.top, .int .u32 (r55.Ends_.g 3)), (.top, .int .u32 (r55.Ends_.g 4)), ((.own 0), .sl 1 (List.map (eI .u32) r55.W_))])
  let E83 : Nat × TV := (94, .tup [.agg [(.top, .int .u32 (r55.Ends_.g 0)), (.top, .int .u32 (r55.Ends_.g 1)), (.top, .int .u32 (r55.Ends_.g 2)), (.top, .int .u32 (r55.Ends_.g 3)), (.top, .int .u32 (r55.Ends_.g 4)), ((.own 0), .sl 1 (List.map (eI .u32) r55.W_))], .one .top (.int .i64 r56)])
  let S124 : Ptr → St := fun z0 => ⟨[E1, E3, (E39 z0), E24, E40, E46, E75, E76, (E85 z0), E86, E87, E88, E89], [B5, B42, B47, B77], H30⟩
  refine w_regO ⟨[E1, E3, (E39 a27), E24, E40, E46, E75, E76], [B5, B42, B47, B77], H30⟩ ?_ ?_
  refine o_run 5 (S123 a27) (by kernel_rfl) (by generalize a27 = qp0; cases qp0 <;> kernel_rfl) ?_
  refine o_one ⟨[E1, E3, (E39 a27), E24, E40, E46, E78, E79, E80, E81, E82, E83], [B5, B42, B47], H30⟩ (st_call (d := (some 94)) (fz := false) (pure := true) (own := false) (S123 a27) (ok_ref03_Fill H30 c57) (by generalize a27 = qp0; cases qp0 <;> kernel_rfl) (by generalize a27 = qp0; cases qp0 <;> kernel_rfl)) ?_
  refine o_run 6 ⟨[E1, E3, (E39 a27), E24, E40, E46, E75, E76, (88, .tup [.agg [(.top, .int .u32 (r55.Ends_.g 0)), (.top, .int .u32 (r55.Ends_.g 1)), (.top, .int .u32 (r55.Ends_.g 2)), (.top, .int .u32 (r55.Ends_.g 3)), (.top, .int .u32 (r55.Ends_.g 4)), ((.own 0), .sl 1 (List.map (eI .u32) r55.W_))], .one .top (.int .i64 r56)]), E78, E79, E80, E81, E82, E83, (95, .agg [(.top, .int .u32 (r55.Ends_.g 0)), (.top, .int .u32 (r55.Ends_.g 1)), (.top, .int .u32 (r55.Ends_.g 2)), (.top, .int .u32 (r55.Ends_.g 3)), (.top, .int .u32 (r55.Ends_.g 4)), ((.own 0), .sl 1 (List.map (eI .u32) r55.W_))]), (96, .one .top (.int .i64 r56))], [B5, B42, B47, B77], H30⟩ (by kernel_rfl) (by generalize a27 = qp0; cases qp0 <;> kernel_rfl) ?_
  exact o_end (by kernel_rfl) (by kernel_rfl)
  refine w_seq ?_
  refine w_seq ?_
  obtain ⟨H60, r58, c59, hF⟩ := bind2_inv hF
  let E84 : Nat × TV := (104, .one .top (.bool (r58 != r56)))
  refine w_regO ⟨[E1, E3, (E39 a27), E24, E40, E75, E84], [B5, B42, B77], H60⟩ ?_ ?_
  refine o_run 5 (S124 a27) (by kernel_rfl) (by generalize a27 = qp0; cases qp0 <;> kernel_rfl) ?_
  refine o_one ⟨[E1, E3, (E39 a27), E24, E40, E46, E75, E76, (E85 a27), E86, E87, E88, E89, (102, .one .top (.int .i64 r58))], [B5, B42, B47, B77], H60⟩ (st_call (d := (some 102)) (fz := false) (pure := false) (own := false) (S124 a27) (ok_memory_Mem_Fill H30 c59) (by generalize a27 = qp0; cases qp0 <;> kernel_rfl) (by generalize a27 = qp0; cases qp0 <;> kernel_rfl)) ?_
  refine o_run 2 ⟨[E1, E3, (E39 a27), E24, E40, E46, E75, E76, (E85 a27), E86, E87, E88, E89, (102, .one .top (.int .i64 r58)), (103, .one .top (.int .i64 r56)), E84], [B5, B42, B47, B77], H60⟩ (by kernel_rfl) (by generalize a27 = qp0; cases qp0 <;> kernel_rfl) ?_
  exact o_end (by kernel_rfl) (by kernel_rfl)
  rcases if_inv hF with ⟨h61, hF⟩ | ⟨h61, hF⟩
  refine w_cT (m := .top) h61 (s1 := (⟨[E3, E24], [B5, B42], H60⟩ : St)) (by kernel_rfl) (by kernel_rfl) ?_
  refine w_seq ?_
  refine w_regD (.take 0 (.take 1 (.last 2 (.take 3 .done)))) (by kernel_rfl) (⟨[E12, E3, E23], [B73], H60⟩ : St) ?_ ?_
  refine d_take ⟨[E3, E24, E90], [B5, B42], H60⟩ (by kernel_rfl) ?_
  refine d_take ⟨[E12, E3, E24, E90], [B5, B42], H60⟩ (by kernel_rfl) ?_
  refine d_last ⟨[E12, E3, E24, E90], [B73, B42], H60⟩ (by kernel_rfl) ?_
  refine d_take ⟨[E12, E3, E23, E24, E90], [B73, B42], H60⟩ (by kernel_rfl) ?_
  exact d_end (by kernel_rfl)
  refine w_ret ?_
  cases hF
  exact ⟨_, rfl, (by kernel_rfl)⟩
  refine w_cF (m := .top) h61 (s1 := (⟨[E1, E3, (E39 a27), E24, E40, E75], [B5, B42, B77], H60⟩ : St)) (by kernel_rfl) (by kernel_rfl) ?_
  refine w_skip ?_
  refine w_reg ⟨[E1, E3, (E39 a27), E24, E40], [B5, (9, [(.top, .int .u32 (r55.Ends_.g 0)), (.top, .int .u32 (r55.Ends_.g 1)), (.top, .int .u32 (r55.Ends_.g 2)), (.top, .int .u32 (r55.Ends_.g 3)), (.top, .int .u32 (r55.Ends_.g 4)), ((.own 0), .sl 1 (List.map (eI .u32) r55.W_))])], H60⟩ (by generalize a27 = qp0; cases qp0 <;> kernel_rfl) ?_
  exact ⟨(a27, r55, H60), hF, (by kernel_rfl)⟩
  refine w_cF (m := .top) h54 (s1 := (S119 a27)) (by kernel_rfl) (by kernel_rfl) ?_
  refine w_seq ?_
  refine w_reg ⟨[E1, E3, (E39 a27), E24, E40, E46, (107, .one .top (.bool (x35.Kind_ == 2)))], [B5, B42, B47], H30⟩ (by generalize a27 = qp0; cases qp0 <;> kernel_rfl) ?_
  rcases if_inv hF with ⟨h62, hF⟩ | ⟨h62, hF⟩
  refine w_cT (m := .top) h62 (s1 := (S117 a27)) (by kernel_rfl) (by kernel_rfl) ?_
  refine w_seq ?_
  obtain ⟨H65, r63, c64, hF⟩ := bind2_inv hF
  let E91 : Ptr → Nat × TV := fun z0 => (16, .one .top (Ptr.av z0))
  let E93 : Ptr → Nat × TV := fun z0 => (112, .one .top (.bool z0.isNil))
  let E94 : Ptr → Nat × TV := fun z0 => (111, .one .top (Ptr.av z0))
  let S125 : Ptr → Ptr → St := fun z0 z1 => ⟨[E1, E3, (E39 z0), E24, E40, E46, (E91 z1)], [B5, B42, B47], H65⟩
  let S127 : Ptr → Ptr → St := fun z0 z1 => ⟨[E1, E3, (E39 z0), E24, E40, E46, (E91 z1), (E94 z1)], [B5, B42, B47], H65⟩
  refine w_regO (S125 a27 r63) ?_ ?_
  refine o_run 1 (S126 a27) (by kernel_rfl) (by generalize a27 = qp0; cases qp0 <;> kernel_rfl) ?_
  refine o_one ⟨[E1, E3, (E39 a27), E24, E40, E46, (E92 a27), (110, .one .top (Ptr.av r63))], [B5, B42, B47], H65⟩ (st_call (d := (some 110)) (fz := false) (pure := false) (own := false) (S126 a27) (ok_memory_Mem_Clone H30 c64) (by generalize a27 = qp0; generalize r63 = qp1; cases qp0 <;> cases qp1 <;> kernel_rfl) (by generalize a27 = qp0; generalize r63 = qp1; cases qp0 <;> cases qp1 <;> kernel_rfl)) ?_
  refine o_run 1 ⟨[E1, E3, (E39 a27), E24, E40, E46, (E91 r63), (E92 a27), (110, .one .top (Ptr.av r63))], [B5, B42, B47], H65⟩ (by kernel_rfl) (by generalize a27 = qp0; generalize r63 = qp1; cases qp0 <;> cases qp1 <;> kernel_rfl) ?_
  exact o_end (by kernel_rfl) (by kernel_rfl)
  refine w_seq ?_
  refine w_seq ?_
  refine w_regO ⟨[E1, E3, (E39 a27), E24, E40, E46, (E91 r63), (E93 r63)], [B5, B42, B47], H65⟩ ?_ ?_
  refine o_run 1 (S127 a27 r63) (by kernel_rfl) (by generalize a27 = qp0; generalize r63 = qp1; cases qp0 <;> cases qp1 <;> kernel_rfl) ?_
  refine o_one ⟨[E1, E3, (E39 a27), E24, E40, E46, (E91 r63), (E94 r63), (E93 r63)], [B5, B42, B47], H65⟩ (st_bin (S127 a27 r63) (nil_eql (P := X.P) (ty := 28) (x := (.tmp 111)) (y := (.const (.pointer none))) (m := .top) (m' := .top) r63 (by generalize a27 = qp0; generalize r63 = qp1; cases qp0 <;> cases qp1 <;> kernel_rfl) (by generalize a27 = qp0; generalize r63 = qp1; cases qp0 <;> cases qp1 <;> kernel_rfl)) rfl (some 112) (by generalize a27 = qp0; generalize r63 = qp1; cases qp0 <;> cases qp1 <;> kernel_rfl) (by generalize a27 = qp0; generalize r63 = qp1; cases qp0 <;> cases qp1 <;> kernel_rfl)) ?_
  exact o_end (by kernel_rfl) (by kernel_rfl)
  rcases if_inv hF with ⟨h66, hF⟩ | ⟨h66, hF⟩
  refine w_cT (m := .top) h66 (s1 := (⟨[E3, E24], [B5, B42], H65⟩ : St)) (by kernel_rfl) (by kernel_rfl) ?_
  refine w_seq ?_
  refine w_regD (.take 0 (.take 1 (.last 2 (.take 3 .done)))) (by kernel_rfl) (⟨[E12, E3, E23], [B73], H65⟩ : St) ?_ ?_
  refine d_take ⟨[E3, E24, E95], [B5, B42], H65⟩ (by kernel_rfl) ?_
  refine d_take ⟨[E12, E3, E24, E95], [B5, B42], H65⟩ (by kernel_rfl) ?_
  refine d_last ⟨[E12, E3, E24, E95], [B73, B42], H65⟩ (by kernel_rfl) ?_
  refine d_take ⟨[E12, E3, E23, E24, E95], [B73, B42], H65⟩ (by kernel_rfl) ?_
  exact d_end (by kernel_rfl)
  refine w_ret ?_
  cases hF
  exact ⟨_, rfl, (by kernel_rfl)⟩
  refine w_cF (m := .top) h66 (s1 := (S125 a27 r63)) (by kernel_rfl) (by kernel_rfl) ?_
  refine w_skip ?_
  refine w_seq ?_
  obtain ⟨H69, r67, c68, hF⟩ := bind2_inv hF
  refine w_regO ⟨[E1, E3, E24, E40, (E91 r63)], [B5, B42], H69⟩ ?_ ?_
  refine o_run 4 ⟨[E1, E3, (E39 a27), E24, E40, E46, (E91 r63), (E96 a27), E97, E98, (117, .one (.own 1) (.sl 1 (List.map (eI .u32) ([1, 2, 3, x35.W_] : List Int))))], [B5, B42, B47], H65⟩ (by kernel_rfl) (by generalize a27 = qp0; generalize r63 = qp1; cases qp0 <;> cases qp1 <;> kernel_rfl) ?_
  refine o_one ⟨[E1, E3, (E39 a27), E24, E40, E46, (E91 r63), (E96 a27), E97, E98, (117, .one .top .junk), (118, .one .top (.int .i64 r67))], [B5, B42, B47], H69⟩ (st_call (d := (some 118)) (fz := false) (pure := false) (own := true) (⟨[E1, E3, (E39 a27), E24, E40, E46, (E91 r63), (E96 a27), E97, E98, (117, .one .top .junk)], [B5, B42, B47], H65⟩ : St) (ok_memory_Mem_Fill_2 H65 c68) (by generalize a27 = qp0; generalize r63 = qp1; cases qp0 <;> cases qp1 <;> kernel_rfl) (by generalize a27 = qp0; generalize r63 = qp1; cases qp0 <;> cases qp1 <;> kernel_rfl)) ?_
  exact o_end (by kernel_rfl) (by kernel_rfl)
  refine w_reg ⟨[E1, E3, (7, .one .top (Ptr.av r63)), E24, E40], [B5, B42], H69⟩ (by generalize r63 = qp0; cases qp0 <;> kernel_rfl) ?_
  exact ⟨(r63, a29, H69), hF, (by kernel_rfl)⟩
  refine w_cF (m := .top) h62 (s1 := (S116 a27)) (by kernel_rfl) (by kernel_rfl) ?_
  refine w_exit ?_
  refine e_out rfl ?_
  refine e_here ?_
  exact ⟨(a27, a29, H30), hF, (by kernel_rfl)⟩
  refine w_cF (m := .top) h31 (s1 := (⟨[E3, (E39 a27), E24], [B5, B42], H30⟩ : St)) (by kernel_rfl) (by kernel_rfl) ?_
  refine w_exit ?_
  cases hF
  exact ⟨_, rfl, (by kernel_rfl)⟩
  rcases sum2_inv hF with ⟨r70', rfl, hF⟩ | ⟨r70', rfl, hF⟩
  obtain ⟨b72, b73, H74⟩ := r70'
  replace hF := tup3_inv hF
  let E99 : Ptr → Nat × TV := fun z0 => (7, .one .top (Ptr.av z0))
  let B100 : Nat × List MC := (9, [(.top, .int .u32 (b73.Ends_.g 0)), (.top, .int .u32 (b73.Ends_.g 1)), (.top, .int .u32 (b73.Ends_.g 2)), (.top, .int .u32 (b73.Ends_.g 3)), (.top, .int .u32 (b73.Ends_.g 4)), ((.own 0), .sl 1 (List.map (eI .u32) b73.W_))])
  let E101 : Ptr → Nat × TV := fun z0 => (4, .one .top (Ptr.av z0))
  let B102 : Nat × List MC := (5, [(.top, .int .u32 (b73.Ends_.g 0)), (.top, .int .u32 (b73.Ends_.g 1)), (.top, .int .u32 (b73.Ends_.g 2)), (.top, .int .u32 (b73.Ends_.g 3)), (.top, .int .u32 (b73.Ends_.g 4)), ((.own 0), .sl 1 (List.map (eI .u32) b73.W_))])
  let E103 : Ptr → Nat × TV := fun z0 => (125, .one .top (Ptr.av z0))
  let E104 : Nat × TV := (126, .agg [(.top, .int .u32 (b73.Ends_.g 0)), (.top, .int .u32 (b73.Ends_.g 1)), (.top, .int .u32 (b73.Ends_.g 2)), (.top, .int .u32 (b73.Ends_.g 3)), (.top, .int .u32 (b73.Ends_.g 4)), ((.own 0), .sl 1 (List.map (eI .u32) b73.W_))])
  refine w_oe (i := 0) (s := (⟨[E3, (E99 b72), E24], [B5, B100], H74⟩ : St)) (by kernel_rfl) ?_
  refine e_here ?_
  refine w_seq ?_
  refine w_regD (.take 0 (.take 1 (.take 2 (.last 3 (.take 4 .done))))) (by kernel_rfl) (⟨[(E101 b72), E3, (6, .one .top (.bool true))], [B102], H74⟩ : St) ?_ ?_
  refine d_take ⟨[E3, (E99 b72), E24, (E103 b72)], [B5, B100], H74⟩ (by generalize b72 = qp0; cases qp0 <;> kernel_rfl) ?_
  refine d_take ⟨[E3, (E99 b72), E24, (E103 b72), E104], [B5, B100], H74⟩ (by generalize b72 = qp0; cases qp0 <;> kernel_rfl) ?_
  refine d_take ⟨[(E101 b72), E3, (E99 b72), E24, (E103 b72), E104], [B5, B100], H74⟩ (by generalize b72 = qp0; cases qp0 <;> kernel_rfl) ?_
  refine d_last ⟨[(E101 b72), E3, (E99 b72), E24, (E103 b72), E104], [B102, B100], H74⟩ (by generalize b72 = qp0; cases qp0 <;> kernel_rfl) ?_
  refine d_take ⟨[(E101 b72), E3, (6, .one .top (.bool true)), (E99 b72), E24, (E103 b72), E104], [B102, B100], H74⟩ (by generalize b72 = qp0; cases qp0 <;> kernel_rfl) ?_
  exact d_end (by kernel_rfl)
  refine w_ret ?_
  obtain ⟨e0, e1, e2, e3⟩ := some4_inv hF
  subst e0
  subst e1
  subst e2
  subst e3
  exact fin_imp (v := .tup [.one .top (Ptr.av b72), .agg [(.top, .int .u32 (b73.Ends_.g 0)), (.top, .int .u32 (b73.Ends_.g 1)), (.top, .int .u32 (b73.Ends_.g 2)), (.top, .int .u32 (b73.Ends_.g 3)), (.top, .int .u32 (b73.Ends_.g 4)), ((.own 0), .sl 1 (List.map (eI .u32) b73.W_))], .one .top (.bool true)]) (by generalize b72 = qp0; cases qp0 <;> kernel_rfl) (by kernel_rfl) (by kernel_rfl)
  obtain ⟨b75, H76⟩ := r70'
  replace hF := tup2_inv hF
  refine w_or (s := (⟨[E12, E3, E23], [(5, [(.top, .int .u32 (b75.Ends_.g 0)), (.top, .int .u32 (b75.Ends_.g 1)), (.top, .int .u32 (b75.Ends_.g 2)), (.top, .int .u32 (b75.Ends_.g 3)), (.top, .int .u32 (b75.Ends_.g 4)), ((.own 0), .sl 1 (List.map (eI .u32) b75.W_))])], H76⟩ : St)) (by kernel_rfl) ?_
  obtain ⟨e0, e1, e2, e3⟩ := some4_inv hF
  subst e0
  subst e1
  subst e2
  subst e3
  exact fin_imp (v := .tup [.one .top .nilp, .agg [(.top, .int .u32 (b75.Ends_.g 0)), (.top, .int .u32 (b75.Ends_.g 1)), (.top, .int .u32 (b75.Ends_.g 2)), (.top, .int .u32 (b75.Ends_.g 3)), (.top, .int .u32 (b75.Ends_.g 4)), ((.own 0), .sl 1 (List.map (eI .u32) b75.W_))], .one .top (.bool false)]) (by kernel_rfl) (by kernel_rfl) (by kernel_rfl)
noncomputable def memory_Mem_Fetch (H : Heap) (p0 : Ptr) (p1 : Int) : Option (Int × Int) :=
  bind2 (memory_Mem_place H p0 p1) fun r1 r2 =>
  if (r2 != 0) = true then (some (0, r2))
  else ((p0).bnd fun i5 o6 =>
  bind1 (get_memory_Mem H i5 o6) fun x8 =>
  if (decide (p1 ≥ x8.layout_.Code_)) = true then (some (0, 31))
  else (bind1 (gi x8.words_ r1) fun x11 =>
  some (x11, 0)))
theorem ok_memory_Mem_Fetch (H : Heap) {p0 : Ptr} {p1 : Int} {ra : Int} {rb : Int} (hF : memory_Mem_Fetch H p0 p1 = some (ra, rb)) : evS X 25 [.one .top (Ptr.av p0), .one .top (.int .u32 p1)] H = some (.tup [.one .top (.int .u32 ra), .one .top (.int .i64 rb)], H) := by
  let E1 : Ptr → Nat × TV := fun z0 => (0, .one .top (Ptr.av z0))
  let E2 : Nat × TV := (1, .one .top (.int .u32 p1))
  let E5 : Ptr → Nat × TV := fun z0 => (9, .one .top (Ptr.av z0))
  let E6 : Nat × TV := (10, .one .top (.int .u32 p1))
  let E10 : Nat × TV := (19, .one .top (.int .u32 p1))
  let S22 : Ptr → St := fun z0 => ⟨[(E1 z0), E2], [], H⟩
  let S23 : Ptr → St := fun z0 => ⟨[(E1 z0), E2, (E5 z0), E6], [], H⟩
  refine w_fun Try.func25 rfl (by kernel_rfl) true (by kernel_rfl) (s0 := (S22 p0)) (by kernel_rfl) ?_
  unfold memory_Mem_Fetch at hF
  refine w_seq ?_
  refine w_reg (S22 p0) (by generalize p0 = qp0; cases qp0 <;> kernel_rfl) ?_
  refine w_seq ?_
  obtain ⟨r1, r2, c3, hF⟩ := bind2_inv hF
  let E3 : Nat × TV := (6, .one .top (.int .i64 r1))
  let E4 : Nat × TV := (7, .one .top (.int .i64 r2))
  let E7 : Nat × TV := (11, .tup [.one .top (.int .i64 r1), .one .top (.int .i64 r2)])
  let E20 : Nat × TV := (30, .one .top (.int .i64 r1))
  refine w_regO ⟨[(E1 p0), E2, E3, E4], [], H⟩ ?_ ?_
  refine o_run 2 (S23 p0) (by kernel_rfl) (by generalize p0 = qp0; cases qp0 <;> kernel_rfl) ?_
  refine o_one ⟨[(E1 p0), E2, (E5 p0), E6, E7], [], H⟩ (st_call (d := (some 11)) (fz := false) (pure := true) (own := false) (S23 p0) (ok_memory_Mem_place H c3) (by generalize p0 = qp0; cases qp0 <;> kernel_rfl) (by generalize p0 = qp0; cases qp0 <;> kernel_rfl)) ?_
  refine o_run 5 ⟨[(E1 p0), E2, E3, E4, (8, .tup [.one .top (.int .i64 r1), .one .top (.int .i64 r2)]), (E5 p0), E6, E7, (12, .one .top (.int .i64 r1)), (13, .one .top (.int .i64 r2))], [], H⟩ (by kernel_rfl) (by generalize p0 = qp0; cases qp0 <;> kernel_rfl) ?_
  exact o_end (by kernel_rfl) (by kernel_rfl)
  refine w_seq ?_
  refine w_block ?_
  refine w_seq ?_
  refine w_reg ⟨[(E1 p0), E2, E3, E4, (14, .one .top (.bool (r2 != 0)))], [], H⟩ (by generalize p0 = qp0; cases qp0 <;> kernel_rfl) ?_
  rcases if_inv hF with ⟨h4, hF⟩ | ⟨h4, hF⟩
  refine w_cT (m := .top) h4 (s1 := (⟨[E4], [], H⟩ : St)) (by kernel_rfl) (by kernel_rfl) ?_
  refine w_seq ?_
  refine w_reg ⟨[(4, .one .top (.int .u32 0)), (5, .one .top (.int .i64 r2))], [], H⟩ (by kernel_rfl) ?_
  refine w_ret ?_
  obtain ⟨e0, e1⟩ := some2_inv hF
  subst e0
  subst e1
  exact fin_pure (v := .tup [.one .top (.int .u32 0), .one .top (.int .i64 r2)]) (by kernel_rfl) (by kernel_rfl) rfl (by kernel_rfl)
  refine w_cF (m := .top) h4 (s1 := (⟨[(E1 p0), E2, E3], [], H⟩ : St)) (by kernel_rfl) (by kernel_rfl) ?_
  refine w_seq ?_
  obtain ⟨i5, o6, h7, hF⟩ := pbnd_inv hF
  let E8 : Nat × TV := (0, .one .top (.obj i5 o6))
  let E11 : Nat × TV := (20, .one .top (.obj i5 o6))
  let E12 : Nat × TV := (21, .one .top (.obj i5 o6))
  let E13 : Nat × TV := (22, .one .top (.obj i5 o6))
  let E14 : Nat × TV := (23, .one .top (.obj i5 o6))
  let E16 : Nat × TV := (26, .one .top (.obj i5 o6))
  let E17 : Nat × TV := (27, .one .top (.obj i5 o6))
  let E18 : Nat × TV := (28, .one .top (.obj i5 (o6 + 5)))
  let S24 : St := ⟨[E8, E2, E3, E10, E11, E12, E13, E14], [], H⟩
  let S25 : St := ⟨[E8, E3, E16, E17, E18], [], H⟩
  obtain ⟨x8, V9, hF⟩ := bind1_inv hF
  replace V9 := hgetT_inv V9
  let E9 : Nat × TV := (18, .one .top (.bool (decide (p1 ≥ x8.layout_.Code_))))
  let E15 : Nat × TV := (24, .one .top (.int .u32 x8.layout_.Code_))
  let E19 : Nat × TV := (29, .one .bh (.sl 1 (List.map (eI .u32) x8.words_)))
  let S26 : St := ⟨[E8, E3, E16, E17, E18, E19, E20], [], H⟩
  refine w_regO ⟨[E8, E3, E9], [], H⟩ ?_ ?_
  refine o_run 2 ⟨[(E1 p0), E2, E3, E10, (20, .one .top (Ptr.av p0))], [], H⟩ (by kernel_rfl) (by generalize p0 = qp0; cases qp0 <;> kernel_rfl) ?_
  refine o_eq (congrArg (fun q => (⟨[(0, .one .top (Ptr.av q)), E2, E3, E10, (20, .one .top (Ptr.av q))], [], H⟩ : St)) h7) ?_
  refine o_run 1 ⟨[E8, E2, E3, E10, E11, E12], [], H⟩ (by kernel_rfl) (by kernel_rfl) ?_
  refine o_run 2 S24 (by kernel_rfl) (by kernel_rfl) ?_
  refine o_one ⟨[E8, E2, E3, E10, E11, E12, E13, E14, E15], [], H⟩ (st_ld (X := X) S24 22 V9 0 1 false (.one .top (.int .u32 x8.layout_.Code_)) (some 24) (by kernel_rfl) (by kernel_rfl) (by kernel_rfl) (by kernel_rfl) (by kernel_rfl) (by kernel_rfl)) ?_
  refine o_run 2 ⟨[E8, E2, E3, E9, E10, E11, E12, E13, E14, E15, (25, .one .top (.bool (decide (p1 ≥ x8.layout_.Code_))))], [], H⟩ (by kernel_rfl) (by kernel_rfl) ?_
  exact o_end (by kernel_rfl) (by kernel_rfl)
  rcases if_inv hF with ⟨h10, hF⟩ | ⟨h10, hF⟩
  refine w_cT (m := .top) h10 (s1 := (⟨[], [], H⟩ : St)) (by kernel_rfl) (by kernel_rfl) ?_
  refine w_seq ?_
  refine w_reg ⟨[(4, .one .top (.int .u32 0)), (5, .one .top (.int .i64 31))], [], H⟩ (by kernel_rfl) ?_
  refine w_ret ?_
  obtain ⟨e0, e1⟩ := some2_inv hF
  subst e0
  subst e1
  exact fin_pure (v := .tup [.one .top (.int .u32 0), .one .top (.int .i64 31)]) (by kernel_rfl) (by kernel_rfl) rfl (by kernel_rfl)
  refine w_cF (m := .top) h10 (s1 := (⟨[E8, E3], [], H⟩ : St)) (by kernel_rfl) (by kernel_rfl) ?_
  refine w_skip ?_
  refine w_seq ?_
  obtain ⟨x11, h12, hF⟩ := bind1_inv hF
  let E21 : Nat × TV := (31, .one .top (.rd .bh .bh [.int .u32 x11] 0))
  refine w_regO ⟨[(4, .one .top (.int .u32 x11)), (5, .one .top (.int .i64 0))], [], H⟩ ?_ ?_
  refine o_run 3 S25 (by kernel_rfl) (by kernel_rfl) ?_
  refine o_one ⟨[E8, E3, E16, E17, E18, E19], [], H⟩ (st_ld (X := X) S25 30 V9 5 1 false (.one .bh (.sl 1 (List.map (eI .u32) x8.words_))) (some 29) (by kernel_rfl) (by kernel_rfl) (by kernel_rfl) (by kernel_rfl) (by kernel_rfl) (by kernel_rfl)) ?_
  refine o_run 1 S26 (by kernel_rfl) (by kernel_rfl) ?_
  refine o_one ⟨[E8, E3, E16, E17, E18, E19, E20, E21], [], H⟩ (st_ix (X := X) S26 30 22 1 h12 (eI .u32) .bh (some 31) (by kernel_rfl) (by kernel_rfl) (by kernel_rfl) (by kernel_rfl)) ?_
  refine o_run 3 ⟨[E8, (4, .one .top (.int .u32 x11)), (5, .one .top (.int .i64 0)), E3, E16, E17, E18, E19, E20, E21, (32, .one .top (.int .u32 x11))], [], H⟩ (by kernel_rfl) (by kernel_rfl) ?_
  exact o_end (by kernel_rfl) (by kernel_rfl)
  refine w_ret ?_
  obtain ⟨e0, e1⟩ := some2_inv hF
  subst e0
  subst e1
  exact fin_pure (v := .tup [.one .top (.int .u32 x11), .one .top (.int .i64 0)]) (by kernel_rfl) (by kernel_rfl) rfl (by kernel_rfl)
noncomputable def ref03_Fetch  (p0 : T_ref03_Mem) (p1 : Int) : Option (Int × Int) :=
  bind2 (ref03_Load p0 p1) fun r1 r2 =>
  if ((r2 == 0) && (decide (p1 ≥ (p0.Ends_.g 0)))) = true then (some (0, 31))
  else (some (r1, r2))
theorem ok_ref03_Fetch (H : Heap) {p0 : T_ref03_Mem} {p1 : Int} {ra : Int} {rb : Int} (hF : ref03_Fetch p0 p1 = some (ra, rb)) : evS X 26 [.agg [(.top, .int .u32 (p0.Ends_.g 0)), (.top, .int .u32 (p0.Ends_.g 1)), (.top, .int .u32 (p0.Ends_.g 2)), (.top, .int .u32 (p0.Ends_.g 3)), (.top, .int .u32 (p0.Ends_.g 4)), ((.own 0), .sl 1 (List.map (eI .u32) p0.W_))], .one .top (.int .u32 p1)] H = some (.tup [.one .top (.int .u32 ra), .one .top (.int .i64 rb)], H) := by
  let E1 : Nat × TV := (1, .one .top (.int .u32 p1))
  let E2 : Nat × TV := (2, .one .top (.loc 2 0))
  let B3 : Nat × List MC := (2, [(.top, .int .u32 (p0.Ends_.g 0)), (.top, .int .u32 (p0.Ends_.g 1)), (.top, .int .u32 (p0.Ends_.g 2)), (.top, .int .u32 (p0.Ends_.g 3)), (.top, .int .u32 (p0.Ends_.g 4)), ((.own 0), .sl 1 (List.map (eI .u32) p0.W_))])
  let E6 : Nat × TV := (9, .agg [(.top, .int .u32 (p0.Ends_.g 0)), (.top, .int .u32 (p0.Ends_.g 1)), (.top, .int .u32 (p0.Ends_.g 2)), (.top, .int .u32 (p0.Ends_.g 3)), (.top, .int .u32 (p0.Ends_.g 4)), ((.own 0), .sl 1 (List.map (eI .u32) p0.W_))])
  let E7 : Nat × TV := (10, .one .top (.int .u32 p1))
  let S10 : St := ⟨[E1, E2, E6, E7], [B3], H⟩
  refine w_fun Try.func26 rfl (by kernel_rfl) true (by kernel_rfl) (s0 := (⟨[(0, .agg [(.top, .int .u32 (p0.Ends_.g 0)), (.top, .int .u32 (p0.Ends_.g 1)), (.top, .int .u32 (p0.Ends_.g 2)), (.top, .int .u32 (p0.Ends_.g 3)), (.top, .int .u32 (p0.Ends_.g 4)), ((.own 0), .sl 1 (List.map (eI .u32) p0.W_))]), E1], [], H⟩ : St)) (by kernel_rfl) ?_
  unfold ref03_Fetch at hF
  refine w_seq ?_
  refine w_reg ⟨[E1, E2], [B3], H⟩ (by kernel_rfl) ?_
  refine w_seq ?_
  obtain ⟨r1, r2, c3, hF⟩ := bind2_inv hF
  let E4 : Nat × TV := (6, .one .top (.int .u32 r1))
  let E5 : Nat × TV := (7, .one .top (.int .i64 r2))
  let E8 : Nat × TV := (11, .tup [.one .top (.int .u32 r1), .one .top (.int .i64 r2)])
  let E9 : Nat × TV := (14, .one .top (.int .i64 r2))
  refine w_regO ⟨[E1, E2, E4, E5], [B3], H⟩ ?_ ?_
  refine o_run 2 S10 (by kernel_rfl) (by kernel_rfl) ?_
  refine o_one ⟨[E1, E2, E6, E7, E8], [B3], H⟩ (st_call (d := (some 11)) (fz := false) (pure := true) (own := false) S10 (ok_ref03_Load H c3) (by kernel_rfl) (by kernel_rfl)) ?_
  refine o_run 5 ⟨[E1, E2, E4, E5, (8, .tup [.one .top (.int .u32 r1), .one .top (.int .i64 r2)]), E6, E7, E8, (12, .one .top (.int .u32 r1)), (13, .one .top (.int .i64 r2))], [B3], H⟩ (by kernel_rfl) (by kernel_rfl) ?_
  exact o_end (by kernel_rfl) (by kernel_rfl)
  refine w_seq ?_
  refine w_seq ?_
  refine w_regO ⟨[E4, E5, (22, .one .top (.bool ((r2 == 0) && (decide (p1 ≥ (p0.Ends_.g 0))))))], [], H⟩ ?_ ?_
  refine o_run 3 ⟨[E1, E2, E4, E5, E9, (15, .one .top (.bool (r2 == 0))), (16, .one .top (.bool (r2 == 0)))], [B3], H⟩ (by kernel_rfl) (by kernel_rfl) ?_
  rcases bool_cases (r2 == 0) with h4 | h4
  refine o_eq (congrArg (fun q => (⟨[E1, E2, E4, E5, E9, (15, .one .top (.bool q)), (16, .one .top (.bool q))], [B3], H⟩ : St)) h4) ?_
  refine o_run 6 ⟨[E1, E2, E4, E5, E9, (15, .one .top (.bool true)), (16, .one .top (.bool true)), (17, .one .top (.int .u32 p1)), (18, .one .top (.loc 2 0)), (19, .one .top (.loc 2 0)), (20, .one .top (.int .u32 (p0.Ends_.g 0))), (21, .one .top (.bool (decide (p1 ≥ (p0.Ends_.g 0))))), (22, .one .top (.bool (decide (p1 ≥ (p0.Ends_.g 0)))))], [B3], H⟩ (by kernel_rfl) (by kernel_rfl) ?_
  refine o_eq2 (congrArg (fun q0 => (⟨[E4, E5, (22, .one .top (.bool q0))], [], H⟩ : St)) (show (decide (p1 ≥ (p0.Ends_.g 0))) = ((r2 == 0) && (decide (p1 ≥ (p0.Ends_.g 0)))) by simp [h4])) ?_
  exact o_end (by kernel_rfl) (by kernel_rfl)
  refine o_eq (congrArg (fun q => (⟨[E1, E2, E4, E5, E9, (15, .one .top (.bool q)), (16, .one .top (.bool q))], [B3], H⟩ : St)) h4) ?_
  refine o_run 6 ⟨[E1, E2, E4, E5, E9, (15, .one .top (.bool false)), (16, .one .top (.bool false)), (17, .tup []), (18, .tup []), (19, .tup []), (20, .tup []), (21, .tup []), (22, .one .top (.bool false))], [B3], H⟩ (by kernel_rfl) (by kernel_rfl) ?_
  refine o_eq2 (congrArg (fun q0 => (⟨[E4, E5, (22, .one .top (.bool q0))], [], H⟩ : St)) (show false = ((r2 == 0) && (decide (p1 ≥ (p0.Ends_.g 0)))) by simp [h4])) ?_
  exact o_end (by kernel_rfl) (by kernel_rfl)
  rcases if_inv hF with ⟨h5, hF⟩ | ⟨h5, hF⟩
  refine w_cT (m := .top) h5 (s1 := (⟨[], [], H⟩ : St)) (by kernel_rfl) (by kernel_rfl) ?_
  refine w_seq ?_
  refine w_reg ⟨[(4, .one .top (.int .u32 0)), (5, .one .top (.int .i64 31))], [], H⟩ (by kernel_rfl) ?_
  refine w_ret ?_
  obtain ⟨e0, e1⟩ := some2_inv hF
  subst e0
  subst e1
  exact fin_pure (v := .tup [.one .top (.int .u32 0), .one .top (.int .i64 31)]) (by kernel_rfl) (by kernel_rfl) rfl (by kernel_rfl)
  refine w_cF (m := .top) h5 (s1 := (⟨[E4, E5], [], H⟩ : St)) (by kernel_rfl) (by kernel_rfl) ?_
  refine w_skip ?_
  refine w_seq ?_
  refine w_reg ⟨[(4, .one .top (.int .u32 r1)), (5, .one .top (.int .i64 r2))], [], H⟩ (by kernel_rfl) ?_
  refine w_ret ?_
  obtain ⟨e0, e1⟩ := some2_inv hF
  subst e0
  subst e1
  exact fin_pure (v := .tup [.one .top (.int .u32 r1), .one .top (.int .i64 r2)]) (by kernel_rfl) (by kernel_rfl) rfl (by kernel_rfl)
noncomputable def ref03_Part_L1 (p0 : T_ref03_Mem) (p1 : Int) (a1 : Int) : Option ((Int) ⊕ ((Int))) :=
  bind1 (if (decide (a1 < 5)) = true then (bind1 (ga p0.Ends_ a1) fun v3 =>
  some (decide (p1 ≥ v3))) else (some false)) fun w5 =>
  if w5 = true then (some (Sum.inl (IntKind.wrap .i64 (a1 + 1))))
  else (some (Sum.inr a1))
noncomputable def ref03_Part  (p0 : T_ref03_Mem) (p1 : Int) : Option (Int) :=
  bind1 (loopO (fun (x : (Int)) => ref03_Part_L1 p0 p1 x) 0) (fun b10 =>
  some b10)
theorem ok_ref03_Part (H : Heap) {p0 : T_ref03_Mem} {p1 : Int} {ra : Int} (hF : ref03_Part p0 p1 = some ra) : evS X 28 [.agg [(.top, .int .u32 (p0.Ends_.g 0)), (.top, .int .u32 (p0.Ends_.g 1)), (.top, .int .u32 (p0.Ends_.g 2)), (.top, .int .u32 (p0.Ends_.g 3)), (.top, .int .u32 (p0.Ends_.g 4)), ((.own 0), .sl 1 (List.map (eI .u32) p0.W_))], .one .top (.int .u32 p1)] H = some (.one .top (.int .i64 ra), H) := by
  let E1 : Nat × TV := (1, .one .top (.int .u32 p1))
  let E2 : Nat × TV := (2, .one .top (.loc 2 0))
  let B3 : Nat × List MC := (2, [(.top, .int .u32 (p0.Ends_.g 0)), (.top, .int .u32 (p0.Ends_.g 1)), (.top, .int .u32 (p0.Ends_.g 2)), (.top, .int .u32 (p0.Ends_.g 3)), (.top, .int .u32 (p0.Ends_.g 4)), ((.own 0), .sl 1 (List.map (eI .u32) p0.W_))])
  let E6 : Nat × TV := (7, .one .top (.bool true))
  let E7 : Nat × TV := (8, .one .top (.bool true))
  let E8 : Nat × TV := (9, .one .top (.int .u32 p1))
  let E10 : Nat × TV := (11, .one .top (.loc 2 0))
  refine w_fun Try.func28 rfl (by kernel_rfl) true (by kernel_rfl) (s0 := (⟨[(0, .agg [(.top, .int .u32 (p0.Ends_.g 0)), (.top, .int .u32 (p0.Ends_.g 1)), (.top, .int .u32 (p0.Ends_.g 2)), (.top, .int .u32 (p0.Ends_.g 3)), (.top, .int .u32 (p0.Ends_.g 4)), ((.own 0), .sl 1 (List.map (eI .u32) p0.W_))]), E1], [], H⟩ : St)) (by kernel_rfl) ?_
  unfold ref03_Part at hF
  refine w_seq ?_
  refine w_reg ⟨[E1, E2], [B3], H⟩ (by kernel_rfl) ?_
  refine w_seq ?_
  refine w_reg ⟨[E1, E2, (5, .one .top (.int .i64 0))], [B3], H⟩ (by kernel_rfl) ?_
  refine w_seq ?_
  refine w_block ?_
  obtain ⟨r8, hL9, hF⟩ := bind1_inv hF
  refine w_loop (fun (x : (Int)) => (⟨[E1, E2, (5, .one .top (.int .i64 x))], [B3], H⟩ : St)) (fun (y : (Int)) => ((.exit 0, (⟨[(5, .one .top (.int .i64 y))], [], H⟩ : St)) : Ex × St)) hL9 (by kernel_rfl) ?_ ?_
  rintro a1 o hF
  replace hF : ref03_Part_L1 p0 p1 a1 = some o := hF
  let E4 : Nat × TV := (5, .one .top (.int .i64 a1))
  let E5 : Nat × TV := (6, .one .top (.int .i64 a1))
  let E9 : Nat × TV := (10, .one .top (.int .i64 a1))
  let E11 : Nat × TV := (12, .one .top (.loc 2 (0 + Int.toNat a1)))
  let S12 : St := ⟨[E1, E2, E4, E5, E6, E7, E8, E9, E10], [B3], H⟩
  let S13 : St := ⟨[E1, E2, E4, E5, E6, E7, E8, E9, E10, E11], [B3], H⟩
  unfold ref03_Part_L1 at hF
  refine w_seq ?_
  refine w_seq ?_
  obtain ⟨w5, hB6, hF⟩ := bind1_inv hF
  refine w_regO ⟨[E1, E2, E4, (15, .one .top (.bool w5))], [B3], H⟩ ?_ ?_
  refine o_run 3 ⟨[E1, E2, E4, E5, (7, .one .top (.bool (decide (a1 < 5)))), (8, .one .top (.bool (decide (a1 < 5))))], [B3], H⟩ (by kernel_rfl) (by kernel_rfl) ?_
  rcases if_inv hB6 with ⟨h2, hB6⟩ | ⟨h2, hB6⟩
  refine o_eq (congrArg (fun q => (⟨[E1, E2, E4, E5, (7, .one .top (.bool q)), (8, .one .top (.bool q))], [B3], H⟩ : St)) h2) ?_
  refine o_run 3 S12 (by kernel_rfl) (by kernel_rfl) ?_
  obtain ⟨v3, h4, hB6⟩ := bind1_inv hB6
  refine o_one S13 (st_ixL (X := X) S12 29 22 5 h4 2 0 (some 12) (by kernel_rfl) (by kernel_rfl) (by kernel_rfl) (by kernel_rfl)) ?_
  refine o_one ⟨[E1, E2, E4, E5, E6, E7, E8, E9, E10, E11, (13, .one .top (.int .u32 v3))], [B3], H⟩ (st_ldL (X := X) S13 22 5 h4 2 0 [(.top, .int .u32 (p0.Ends_.g 0)), (.top, .int .u32 (p0.Ends_.g 1)), (.top, .int .u32 (p0.Ends_.g 2)), (.top, .int .u32 (p0.Ends_.g 3)), (.top, .int .u32 (p0.Ends_.g 4)), ((.own 0), .sl 1 (List.map (eI .u32) p0.W_))] (fun q => .int .u32 q) (some 13) (by kernel_rfl) (by kernel_rfl) (by kernel_rfl) (by kernel_rfl) (by kernel_rfl) (by kernel_rfl)) ?_
  refine o_run 2 ⟨[E1, E2, E4, E5, E6, E7, E8, E9, E10, E11, (13, .one .top (.int .u32 v3)), (14, .one .top (.bool (decide (p1 ≥ v3)))), (15, .one .top (.bool (decide (p1 ≥ v3))))], [B3], H⟩ (by kernel_rfl) (by kernel_rfl) ?_
  cases hB6
  exact o_end (by kernel_rfl) (by kernel_rfl)
  refine o_eq (congrArg (fun q => (⟨[E1, E2, E4, E5, (7, .one .top (.bool q)), (8, .one .top (.bool q))], [B3], H⟩ : St)) h2) ?_
  refine o_run 7 ⟨[E1, E2, E4, E5, (7, .one .top (.bool false)), (8, .one .top (.bool false)), (9, .tup []), (10, .tup []), (11, .tup []), (12, .tup []), (13, .tup []), (14, .tup []), (15, .one .top (.bool false))], [B3], H⟩ (by kernel_rfl) (by kernel_rfl) ?_
  cases hB6
  exact o_end (by kernel_rfl) (by kernel_rfl)
  rcases if_inv hF with ⟨h7, hF⟩ | ⟨h7, hF⟩
  refine w_cT (m := .top) h7 (s1 := (⟨[E1, E2, E4], [B3], H⟩ : St)) (by kernel_rfl) (by kernel_rfl) ?_
  refine w_skip ?_
  refine w_block ?_
  refine w_reg ⟨[E1, E2, (5, .one .top (.int .i64 (IntKind.wrap .i64 (a1 + 1))))], [B3], H⟩ (by kernel_rfl) ?_
  cases hF
  exact ⟨_, rfl, (by kernel_rfl)⟩
  refine w_cF (m := .top) h7 (s1 := (⟨[E4], [], H⟩ : St)) (by kernel_rfl) (by kernel_rfl) ?_
  refine w_exit ?_
  cases hF
  exact ⟨_, rfl, (by kernel_rfl)⟩
  obtain ⟨b10, hy⟩ : ∃ y, y = r8 := ⟨_, rfl⟩
  subst hy
  refine w_oe (i := 0) (s := (⟨[(5, .one .top (.int .i64 b10))], [], H⟩ : St)) (by kernel_rfl) ?_
  refine e_here ?_
  refine w_seq ?_
  refine w_reg ⟨[(4, .one .top (.int .i64 b10))], [], H⟩ (by kernel_rfl) ?_
  refine w_ret ?_
  obtain e0 := some1_inv hF
  subst e0
  exact fin_pure (v := .one .top (.int .i64 b10)) (by kernel_rfl) (by kernel_rfl) rfl (by kernel_rfl)
noncomputable def memory_Mem_Used_j2 (a7 : Int) (j16 : Int) : Option ((Int × Int) ⊕ ((Int))) :=
  some (Sum.inl (j16, (IntKind.wrap .i64 (a7 + 1))))
noncomputable def memory_Mem_Used_L1 (x4 : T_memory_Mem) (H : Heap) (i1 : Nat) (o2 : Nat) (p1 : Int) (a6 : Int) (a7 : Int) : Option ((Int × Int) ⊕ ((Int))) :=
  if (decide (a7 < (x4.words_.length : Int))) = true then (bind1 (gi x4.words_ a7) fun x9 =>
  bind1 (if (x9 != 0) = true then (bind1 (memory_Mem_Part H (Ptr.at i1 o2) (IntKind.wrap .u32 (IntKind.wrap .i64 (4 * a7)))) fun r12 =>
  some (r12 == p1)) else (some false)) fun w14 =>
  if w14 = true then (memory_Mem_Used_j2 a7 (IntKind.wrap .i64 (a6 + 1)))
  else (memory_Mem_Used_j2 a7 a6))
  else (some (Sum.inr a6))
noncomputable def memory_Mem_Used (H : Heap) (p0 : Ptr) (p1 : Int) : Option (Int) :=
  (p0).bnd fun i1 o2 =>
  bind1 (get_memory_Mem H i1 o2) fun x4 =>
  bind1 (loopO (fun (x : (Int × Int)) => memory_Mem_Used_L1 x4 H i1 o2 p1 x.1 x.2) (0, 0)) (fun b20 =>
  some b20)
theorem ok_memory_Mem_Used (H : Heap) {p0 : Ptr} {p1 : Int} {ra : Int} (hF : memory_Mem_Used H p0 p1 = some ra) : evS X 29 [.one .top (Ptr.av p0), .one .top (.int .i64 p1)] H = some (.one .top (.int .i64 ra), H) := by
  let E1 : Ptr → Nat × TV := fun z0 => (0, .one .top (Ptr.av z0))
  let E2 : Nat × TV := (1, .one .top (.int .i64 p1))
  let E3 : Nat × TV := (5, .one .top (.int .i64 0))
  let E17 : Nat × TV := (19, .one .top (.bool true))
  let E18 : Nat × TV := (20, .one .top (.bool true))
  let S23 : Ptr → St := fun z0 => ⟨[(E1 z0), E2], [], H⟩
  refine w_fun Try.func29 rfl (by kernel_rfl) true (by kernel_rfl) (s0 := (S23 p0)) (by kernel_rfl) ?_
  unfold memory_Mem_Used at hF
  refine w_seq ?_
  refine w_reg (S23 p0) (by generalize p0 = qp0; cases qp0 <;> kernel_rfl) ?_
  refine w_seq ?_
  refine w_reg ⟨[(E1 p0), E2, E3], [], H⟩ (by generalize p0 = qp0; cases qp0 <;> kernel_rfl) ?_
  refine w_seq ?_
  refine w_seq ?_
  obtain ⟨i1, o2, h3, hF⟩ := pbnd_inv hF
  let E4 : Nat × TV := (0, .one .top (.obj i1 o2))
  let E7 : Nat × TV := (8, .one .top (.obj i1 o2))
  let E8 : Nat × TV := (9, .one .top (.obj i1 o2))
  let E9 : Nat × TV := (10, .one .top (.obj i1 (o2 + 5)))
  let E19 : Nat × TV := (21, .one .top (.obj i1 o2))
  let S24 : St := ⟨[E4, E2, E3, E7, E8, E9], [], H⟩
  obtain ⟨x4, V5, hF⟩ := bind1_inv hF
  replace V5 := hgetT_inv V5
  let E5 : Nat × TV := (11, .one .bh (.sl 1 (List.map (eI .u32) x4.words_)))
  let E6 : Nat × TV := (12, .one .top (.int .i64 (x4.words_.length : Int)))
  let S25 : St := ⟨[E4, E2, E3, E7, E8, E9, E5], [], H⟩
  refine w_regO ⟨[E4, E2, E3, E5, E6, (13, .one .top (.int .i64 0))], [], H⟩ ?_ ?_
  refine o_run 1 ⟨[(E1 p0), E2, E3, (8, .one .top (Ptr.av p0))], [], H⟩ (by kernel_rfl) (by generalize p0 = qp0; cases qp0 <;> kernel_rfl) ?_
  refine o_eq (congrArg (fun q => (⟨[(0, .one .top (Ptr.av q)), E2, E3, (8, .one .top (Ptr.av q))], [], H⟩ : St)) h3) ?_
  refine o_run 1 ⟨[E4, E2, E3, E7, E8], [], H⟩ (by kernel_rfl) (by kernel_rfl) ?_
  refine o_run 1 S24 (by kernel_rfl) (by kernel_rfl) ?_
  refine o_one S25 (st_ld (X := X) S24 30 V5 5 1 false (.one .bh (.sl 1 (List.map (eI .u32) x4.words_))) (some 11) (by kernel_rfl) (by kernel_rfl) (by kernel_rfl) (by kernel_rfl) (by kernel_rfl) (by kernel_rfl)) ?_
  refine o_one ⟨[E4, E2, E3, E7, E8, E9, E5, E6], [], H⟩ (st_len S25 x4.words_ (eI .u32) (some 12) (by kernel_rfl) (by kernel_rfl)) ?_
  refine o_run 1 ⟨[E4, E2, E3, E7, E8, E9, E5, E6, (13, .one .top (.int .i64 0))], [], H⟩ (by kernel_rfl) (by kernel_rfl) ?_
  exact o_end (by kernel_rfl) (by kernel_rfl)
  refine w_block ?_
  obtain ⟨r18, hL19, hF⟩ := bind1_inv hF
  refine w_loop (fun (x : (Int × Int)) => (⟨[E4, E2, (5, .one .top (.int .i64 x.1)), E5, E6, (13, .one .top (.int .i64 x.2))], [], H⟩ : St)) (fun (y : (Int)) => ((.exit 0, (⟨[(5, .one .top (.int .i64 y))], [], H⟩ : St)) : Ex × St)) hL19 (by kernel_rfl) ?_ ?_
  rintro ⟨a6, a7⟩ o hF
  replace hF : memory_Mem_Used_L1 x4 H i1 o2 p1 a6 a7 = some o := hF
  let E10 : Nat × TV := (5, .one .top (.int .i64 a6))
  let E11 : Nat × TV := (13, .one .top (.int .i64 a7))
  let E12 : Nat × TV := (6, .one .top (.int .i64 a7))
  let E14 : Nat × TV := (15, .one .top (.int .i64 a7))
  let E20 : Nat × TV := (22, .one .top (.int .i64 a7))
  let E21 : Nat × TV := (23, .one .top (.int .i64 (IntKind.wrap .i64 (4 * a7))))
  let E22 : Nat × TV := (24, .one .top (.int .u32 (IntKind.wrap .u32 (IntKind.wrap .i64 (4 * a7)))))
  let S26 : St := ⟨[E4, E2, E10, E5, E6, E11], [], H⟩
  let S27 : St := ⟨[E4, E2, E10, E5, E6, E11, E14], [], H⟩
  unfold memory_Mem_Used_L1 at hF
  refine w_seq ?_
  refine w_reg ⟨[E4, E2, E10, E5, E6, E11, (14, .one .top (.bool (decide (a7 < (x4.words_.length : Int)))))], [], H⟩ (by kernel_rfl) ?_
  refine w_seq ?_
  rcases if_inv hF with ⟨h8, hF⟩ | ⟨h8, hF⟩
  refine w_cT (m := .top) h8 (s1 := S26) (by kernel_rfl) (by kernel_rfl) ?_
  refine w_skip ?_
  refine w_seq ?_
  refine w_block ?_
  refine w_seq ?_
  obtain ⟨x9, h10, hF⟩ := bind1_inv hF
  let E13 : Nat × TV := (7, .one .top (.int .u32 x9))
  let E15 : Nat × TV := (16, .one .top (.rd .bh .bh [.int .u32 x9] 0))
  let E16 : Nat × TV := (18, .one .top (.int .u32 x9))
  let S28 : St := ⟨[E4, E2, E10, E12, E13, E5, E6, E11, E16, E17, E18, E19, E20, E21, E22], [], H⟩
  refine w_regO ⟨[E4, E2, E10, E12, E13, E5, E6, E11], [], H⟩ ?_ ?_
  refine o_run 1 S27 (by kernel_rfl) (by kernel_rfl) ?_
  refine o_one ⟨[E4, E2, E10, E5, E6, E11, E14, E15], [], H⟩ (st_ix (X := X) S27 30 22 1 h10 (eI .u32) .bh (some 16) (by kernel_rfl) (by kernel_rfl) (by kernel_rfl) (by kernel_rfl)) ?_
  refine o_run 3 ⟨[E4, E2, E10, E12, E13, E5, E6, E11, E14, E15, (17, .one .top (.int .u32 x9))], [], H⟩ (by kernel_rfl) (by kernel_rfl) ?_
  exact o_end (by kernel_rfl) (by kernel_rfl)
  refine w_seq ?_
  obtain ⟨w14, hB15, hF⟩ := bind1_inv hF
  refine w_regO ⟨[E4, E2, E10, E5, E6, E11, (28, .one .top (.bool w14))], [], H⟩ ?_ ?_
  refine o_run 3 ⟨[E4, E2, E10, E12, E13, E5, E6, E11, E16, (19, .one .top (.bool (x9 != 0))), (20, .one .top (.bool (x9 != 0)))], [], H⟩ (by kernel_rfl) (by kernel_rfl) ?_
  rcases if_inv hB15 with ⟨h11, hB15⟩ | ⟨h11, hB15⟩
  refine o_eq (congrArg (fun q => (⟨[E4, E2, E10, E12, E13, E5, E6, E11, E16, (19, .one .top (.bool q)), (20, .one .top (.bool q))], [], H⟩ : St)) h11) ?_
  refine o_run 4 S28 (by kernel_rfl) (by kernel_rfl) ?_
  obtain ⟨r12, c13, hB15⟩ := bind1_inv hB15
  refine o_one ⟨[E4, E2, E10, E12, E13, E5, E6, E11, E16, E17, E18, E19, E20, E21, E22, (25, .one .top (.int .i64 r12))], [], H⟩ (st_call (d := (some 25)) (fz := false) (pure := true) (own := false) S28 (ok_memory_Mem_Part H c13) (by kernel_rfl) (by kernel_rfl)) ?_
  refine o_run 3 ⟨[E4, E2, E10, E12, E13, E5, E6, E11, E16, E17, E18, E19, E20, E21, E22, (25, .one .top (.int .i64 r12)), (26, .one .top (.int .i64 p1)), (27, .one .top (.bool (r12 == p1))), (28, .one .top (.bool (r12 == p1)))], [], H⟩ (by kernel_rfl) (by kernel_rfl) ?_
  cases hB15
  exact o_end (by kernel_rfl) (by kernel_rfl)
  refine o_eq (congrArg (fun q => (⟨[E4, E2, E10, E12, E13, E5, E6, E11, E16, (19, .one .top (.bool q)), (20, .one .top (.bool q))], [], H⟩ : St)) h11) ?_
  refine o_run 8 ⟨[E4, E2, E10, E12, E13, E5, E6, E11, E16, (19, .one .top (.bool false)), (20, .one .top (.bool false)), (21, .tup []), (22, .tup []), (23, .tup []), (24, .tup []), (25, .tup []), (26, .tup []), (27, .tup []), (28, .one .top (.bool false))], [], H⟩ (by kernel_rfl) (by kernel_rfl) ?_
  cases hB15
  exact o_end (by kernel_rfl) (by kernel_rfl)
  refine w_join (α := (Int)) (fun x => (⟨[E4, E2, (5, .one .top (.int .i64 x)), E5, E6, E11], [], H⟩ : St)) (fun x => memory_Mem_Used_j2 a7 x = some o) ?_ ?_
  rintro j16 hF
  replace hF : memory_Mem_Used_j2 a7 j16 = some o := hF
  unfold memory_Mem_Used_j2 at hF
  refine w_reg ⟨[E4, E2, (5, .one .top (.int .i64 j16)), E5, E6, (13, .one .top (.int .i64 (IntKind.wrap .i64 (a7 + 1))))], [], H⟩ (by kernel_rfl) ?_
  cases hF
  exact ⟨_, rfl, (by kernel_rfl)⟩
  rcases if_inv hF with ⟨h17, hF⟩ | ⟨h17, hF⟩
  refine w_cT (m := .top) h17 (s1 := S26) (by kernel_rfl) (by kernel_rfl) ?_
  refine w_reg ⟨[E4, E2, (5, .one .top (.int .i64 (IntKind.wrap .i64 (a6 + 1)))), E5, E6, E11], [], H⟩ (by kernel_rfl) ?_
  exact ⟨(IntKind.wrap .i64 (a6 + 1)), hF, (by kernel_rfl)⟩
  refine w_cF (m := .top) h17 (s1 := S26) (by kernel_rfl) (by kernel_rfl) ?_
  refine w_skip ?_
  exact ⟨a6, hF, (by kernel_rfl)⟩
  refine w_cF (m := .top) h8 (s1 := (⟨[E10], [], H⟩ : St)) (by kernel_rfl) (by kernel_rfl) ?_
  refine w_exit ?_
  cases hF
  exact ⟨_, rfl, (by kernel_rfl)⟩
  obtain ⟨b20, hy⟩ : ∃ y, y = r18 := ⟨_, rfl⟩
  subst hy
  refine w_oe (i := 0) (s := (⟨[(5, .one .top (.int .i64 b20))], [], H⟩ : St)) (by kernel_rfl) ?_
  refine e_here ?_
  refine w_seq ?_
  refine w_reg ⟨[(4, .one .top (.int .i64 b20))], [], H⟩ (by kernel_rfl) ?_
  refine w_ret ?_
  obtain e0 := some1_inv hF
  subst e0
  exact fin_pure (v := .one .top (.int .i64 b20)) (by kernel_rfl) (by kernel_rfl) rfl (by kernel_rfl)
noncomputable def ref03_Used_j2 (a2 : Int) (j11 : Int) : Option ((Int × Int) ⊕ ((Int))) :=
  some (Sum.inl (j11, (IntKind.wrap .i64 (a2 + 1))))
noncomputable def ref03_Used_L1 (p0 : T_ref03_Mem) (p1 : Int) (a1 : Int) (a2 : Int) : Option ((Int × Int) ⊕ ((Int))) :=
  if (decide (a2 < (p0.W_.length : Int))) = true then (bind1 (gi p0.W_ a2) fun x4 =>
  bind1 (if (x4 != 0) = true then (bind1 (ref03_Part p0 (IntKind.wrap .u32 (IntKind.wrap .i64 (4 * a2)))) fun r7 =>
  some (r7 == p1)) else (some false)) fun w9 =>
  if w9 = true then (ref03_Used_j2 a2 (IntKind.wrap .i64 (a1 + 1)))
  else (ref03_Used_j2 a2 a1))
  else (some (Sum.inr a1))
noncomputable def ref03_Used  (p0 : T_ref03_Mem) (p1 : Int) : Option (Int) :=
  bind1 (loopO (fun (x : (Int × Int)) => ref03_Used_L1 p0 p1 x.1 x.2) (0, 0)) (fun b15 =>
  some b15)
theorem ok_ref03_Used (H : Heap) {p0 : T_ref03_Mem} {p1 : Int} {ra : Int} (hF : ref03_Used p0 p1 = some ra) : evS X 30 [.agg [(.top, .int .u32 (p0.Ends_.g 0)), (.top, .int .u32 (p0.Ends_.g 1)), (.top, .int .u32 (p0.Ends_.g 2)), (.top, .int .u32 (p0.Ends_.g 3)), (.top, .int .u32 (p0.Ends_.g 4)), ((.own 0), .sl 1 (List.map (eI .u32) p0.W_))], .one .top (.int .i64 p1)] H = some (.one .top (.int .i64 ra), H) := by
  let E1 : Nat × TV := (1, .one .top (.int .i64 p1))
  let E2 : Nat × TV := (2, .one .top (.loc 2 0))
  let B3 : Nat × List MC := (2, [(.top, .int .u32 (p0.Ends_.g 0)), (.top, .int .u32 (p0.Ends_.g 1)), (.top, .int .u32 (p0.Ends_.g 2)), (.top, .int .u32 (p0.Ends_.g 3)), (.top, .int .u32 (p0.Ends_.g 4)), ((.own 0), .sl 1 (List.map (eI .u32) p0.W_))])
  let E8 : Nat × TV := (8, .one .top (.loc 2 5))
  let E9 : Nat × TV := (9, .one (.own 0) (.sl 1 (List.map (eI .u32) p0.W_)))
  let E10 : Nat × TV := (10, .one .top (.int .i64 (p0.W_.length : Int)))
  let E11 : Nat × TV := (14, .one .top (.loc 2 5))
  let E12 : Nat × TV := (15, .one (.own 0) (.sl 1 (List.map (eI .u32) p0.W_)))
  let E16 : Nat × TV := (19, .one .top (.bool true))
  let E17 : Nat × TV := (20, .one .top (.bool true))
  let E18 : Nat × TV := (21, .agg [(.top, .int .u32 (p0.Ends_.g 0)), (.top, .int .u32 (p0.Ends_.g 1)), (.top, .int .u32 (p0.Ends_.g 2)), (.top, .int .u32 (p0.Ends_.g 3)), (.top, .int .u32 (p0.Ends_.g 4)), ((.own 0), .sl 1 (List.map (eI .u32) p0.W_))])
  refine w_fun Try.func30 rfl (by kernel_rfl) true (by kernel_rfl) (s0 := (⟨[(0, .agg [(.top, .int .u32 (p0.Ends_.g 0)), (.top, .int .u32 (p0.Ends_.g 1)), (.top, .int .u32 (p0.Ends_.g 2)), (.top, .int .u32 (p0.Ends_.g 3)), (.top, .int .u32 (p0.Ends_.g 4)), ((.own 0), .sl 1 (List.map (eI .u32) p0.W_))]), E1], [], H⟩ : St)) (by kernel_rfl) ?_
  unfold ref03_Used at hF
  refine w_seq ?_
  refine w_reg ⟨[E1, E2], [B3], H⟩ (by kernel_rfl) ?_
  refine w_seq ?_
  refine w_reg ⟨[E1, E2, (5, .one .top (.int .i64 0))], [B3], H⟩ (by kernel_rfl) ?_
  refine w_seq ?_
  refine w_seq ?_
  refine w_reg ⟨[E1, E2, (5, .one .top (.int .i64 0)), (6, .one .top (.int .i64 0))], [B3], H⟩ (by kernel_rfl) ?_
  refine w_block ?_
  obtain ⟨r13, hL14, hF⟩ := bind1_inv hF
  refine w_loop (fun (x : (Int × Int)) => (⟨[E1, E2, (5, .one .top (.int .i64 x.1)), (6, .one .top (.int .i64 x.2))], [B3], H⟩ : St)) (fun (y : (Int)) => ((.exit 0, (⟨[(5, .one .top (.int .i64 y))], [], H⟩ : St)) : Ex × St)) hL14 (by kernel_rfl) ?_ ?_
  rintro ⟨a1, a2⟩ o hF
  replace hF : ref03_Used_L1 p0 p1 a1 a2 = some o := hF
  let E4 : Nat × TV := (5, .one .top (.int .i64 a1))
  let E5 : Nat × TV := (6, .one .top (.int .i64 a2))
  let E6 : Nat × TV := (11, .one .top (.bool (decide (a2 < (p0.W_.length : Int)))))
  let E7 : Nat × TV := (7, .one .top (.int .i64 a2))
  let E13 : Nat × TV := (16, .one .top (.int .i64 a2))
  let E19 : Nat × TV := (22, .one .top (.int .i64 a2))
  let E20 : Nat × TV := (23, .one .top (.int .i64 (IntKind.wrap .i64 (4 * a2))))
  let E21 : Nat × TV := (24, .one .top (.int .u32 (IntKind.wrap .u32 (IntKind.wrap .i64 (4 * a2)))))
  let S22 : St := ⟨[E1, E2, E4, E5, E7, E8, E9], [B3], H⟩
  let S23 : St := ⟨[E1, E2, E4, E5], [B3], H⟩
  let S24 : St := ⟨[E1, E2, E4, E5, E11, E12, E13], [B3], H⟩
  unfold ref03_Used_L1 at hF
  refine w_seq ?_
  refine w_seq ?_
  refine w_regO ⟨[E1, E2, E4, E5, E6], [B3], H⟩ ?_ ?_
  refine o_run 3 S22 (by kernel_rfl) (by kernel_rfl) ?_
  refine o_one ⟨[E1, E2, E4, E5, E7, E8, E9, E10], [B3], H⟩ (st_len S22 p0.W_ (eI .u32) (some 10) (by kernel_rfl) (by kernel_rfl)) ?_
  refine o_run 1 ⟨[E1, E2, E4, E5, E7, E8, E9, E10, E6], [B3], H⟩ (by kernel_rfl) (by kernel_rfl) ?_
  exact o_end (by kernel_rfl) (by kernel_rfl)
  rcases if_inv hF with ⟨h3, hF⟩ | ⟨h3, hF⟩
  refine w_cT (m := .top) h3 (s1 := S23) (by kernel_rfl) (by kernel_rfl) ?_
  refine w_skip ?_
  refine w_seq ?_
  refine w_block ?_
  refine w_seq ?_
  obtain ⟨x4, h5, hF⟩ := bind1_inv hF
  let E14 : Nat × TV := (17, .one .top (.rd (.own 0) (.own 0) [.int .u32 x4] 0))
  let E15 : Nat × TV := (18, .one .top (.int .u32 x4))
  let S25 : St := ⟨[E1, E2, E4, E5, E11, E12, E13, E14, E15, E16, E17, E18, E19, E20, E21], [B3], H⟩
  obtain ⟨w9, hB10, hF⟩ := bind1_inv hF
  refine w_regO ⟨[E1, E2, E4, E5, (28, .one .top (.bool w9))], [B3], H⟩ ?_ ?_
  refine o_run 3 S24 (by kernel_rfl) (by kernel_rfl) ?_
  refine o_one ⟨[E1, E2, E4, E5, E11, E12, E13, E14], [B3], H⟩ (st_ix (X := X) S24 30 22 1 h5 (eI .u32) (.own 0) (some 17) (by kernel_rfl) (by kernel_rfl) (by kernel_rfl) (by kernel_rfl)) ?_
  refine o_run 3 ⟨[E1, E2, E4, E5, E11, E12, E13, E14, E15, (19, .one .top (.bool (x4 != 0))), (20, .one .top (.bool (x4 != 0)))], [B3], H⟩ (by kernel_rfl) (by kernel_rfl) ?_
  rcases if_inv hB10 with ⟨h6, hB10⟩ | ⟨h6, hB10⟩
  refine o_eq (congrArg (fun q => (⟨[E1, E2, E4, E5, E11, E12, E13, E14, E15, (19, .one .top (.bool q)), (20, .one .top (.bool q))], [B3], H⟩ : St)) h6) ?_
  refine o_run 4 S25 (by kernel_rfl) (by kernel_rfl) ?_
  obtain ⟨r7, c8, hB10⟩ := bind1_inv hB10
  refine o_one ⟨[E1, E2, E4, E5, E11, E12, E13, E14, E15, E16, E17, E18, E19, E20, E21, (25, .one .top (.int .i64 r7))], [B3], H⟩ (st_call (d := (some 25)) (fz := false) (pure := true) (own := false) S25 (ok_ref03_Part H c8) (by kernel_rfl) (by kernel_rfl)) ?_
  refine o_run 3 ⟨[E1, E2, E4, E5, E11, E12, E13, E14, E15, E16, E17, E18, E19, E20, E21, (25, .one .top (.int .i64 r7)), (26, .one .top (.int .i64 p1)), (27, .one .top (.bool (r7 == p1))), (28, .one .top (.bool (r7 == p1)))], [B3], H⟩ (by kernel_rfl) (by kernel_rfl) ?_
  cases hB10
  exact o_end (by kernel_rfl) (by kernel_rfl)
  refine o_eq (congrArg (fun q => (⟨[E1, E2, E4, E5, E11, E12, E13, E14, E15, (19, .one .top (.bool q)), (20, .one .top (.bool q))], [B3], H⟩ : St)) h6) ?_
  refine o_run 8 ⟨[E1, E2, E4, E5, E11, E12, E13, E14, E15, (19, .one .top (.bool false)), (20, .one .top (.bool false)), (21, .tup []), (22, .tup []), (23, .tup []), (24, .tup []), (25, .tup []), (26, .tup []), (27, .tup []), (28, .one .top (.bool false))], [B3], H⟩ (by kernel_rfl) (by kernel_rfl) ?_
  cases hB10
  exact o_end (by kernel_rfl) (by kernel_rfl)
  refine w_join (α := (Int)) (fun x => (⟨[E1, E2, (5, .one .top (.int .i64 x)), E5], [B3], H⟩ : St)) (fun x => ref03_Used_j2 a2 x = some o) ?_ ?_
  rintro j11 hF
  replace hF : ref03_Used_j2 a2 j11 = some o := hF
  unfold ref03_Used_j2 at hF
  refine w_reg ⟨[E1, E2, (5, .one .top (.int .i64 j11)), (6, .one .top (.int .i64 (IntKind.wrap .i64 (a2 + 1))))], [B3], H⟩ (by kernel_rfl) ?_
  cases hF
  exact ⟨_, rfl, (by kernel_rfl)⟩
  rcases if_inv hF with ⟨h12, hF⟩ | ⟨h12, hF⟩
  refine w_cT (m := .top) h12 (s1 := S23) (by kernel_rfl) (by kernel_rfl) ?_
  refine w_reg ⟨[E1, E2, (5, .one .top (.int .i64 (IntKind.wrap .i64 (a1 + 1)))), E5], [B3], H⟩ (by kernel_rfl) ?_
  exact ⟨(IntKind.wrap .i64 (a1 + 1)), hF, (by kernel_rfl)⟩
  refine w_cF (m := .top) h12 (s1 := S23) (by kernel_rfl) (by kernel_rfl) ?_
  refine w_skip ?_
  exact ⟨a1, hF, (by kernel_rfl)⟩
  refine w_cF (m := .top) h3 (s1 := (⟨[E4], [], H⟩ : St)) (by kernel_rfl) (by kernel_rfl) ?_
  refine w_exit ?_
  cases hF
  exact ⟨_, rfl, (by kernel_rfl)⟩
  obtain ⟨b15, hy⟩ : ∃ y, y = r13 := ⟨_, rfl⟩
  subst hy
  refine w_oe (i := 0) (s := (⟨[(5, .one .top (.int .i64 b15))], [], H⟩ : St)) (by kernel_rfl) ?_
  refine e_here ?_
  refine w_seq ?_
  refine w_reg ⟨[(4, .one .top (.int .i64 b15))], [], H⟩ (by kernel_rfl) ?_
  refine w_ret ?_
  obtain e0 := some1_inv hF
  subst e0
  exact fin_pure (v := .one .top (.int .i64 b15)) (by kernel_rfl) (by kernel_rfl) rfl (by kernel_rfl)
noncomputable def law03_MemoryTells (H : Heap) (p0 : T_memory_Layout) (p1 : (List T_law03_Op)) (p2 : (Arr 2 Int)) : Option (Heap × Bool) :=
  bind2 (law03_awake H) fun H3 r1 =>
  if (!r1) = true then (some (H3, false))
  else (bind1 (law03_few p0 p1) fun r5 =>
  if (!r5) = true then (some (H3, true))
  else (bind4 (law03_played H3 p0 p1) fun H12 r8 r9 r10 =>
  if ((!r10) || r8.isNil) = true then (some (H12, r10))
  else (bind2 (memory_Mem_Load H12 r8 (p2.g 0)) fun r15 r16 =>
  bind2 (ref03_Load r9 (p2.g 0)) fun r18 r19 =>
  bind2 (memory_Mem_Fetch H12 r8 (p2.g 0)) fun r21 r22 =>
  bind2 (ref03_Fetch r9 (p2.g 0)) fun r24 r25 =>
  bind1 (if (r15 == r18) = true then (if (r16 == r19) = true then (if (r21 == r24) = true then (if (r22 == r25) = true then (bind1 (memory_Mem_Part H12 r8 (p2.g 0)) fun r31 =>
  bind1 (ref03_Part r9 (p2.g 0)) fun r33 =>
  if (r31 == r33) = true then (bind1 (memory_Mem_Used H12 r8 (IntKind.wrap .i64 (p2.g 1))) fun r36 =>
  bind1 (ref03_Used r9 (IntKind.wrap .i64 (p2.g 1))) fun r38 =>
  some (r36 == r38)) else (some false)) else (some false)) else (some false)) else (some false)) else (some false)) fun w40 =>
  some (H12, w40))))
theorem ok_law03_MemoryTells (H : Heap) {p0 : T_memory_Layout} {p1 : (List T_law03_Op)} {p2 : (Arr 2 Int)} {ra : Bool} {Hr : Heap} (hF : law03_MemoryTells H p0 p1 p2 = some (Hr, ra)) : evS X 8 [.agg (m0_memory_Layout p0), .one .ro (.sl 4 (List.map e_law03_Op p1)), .agg [(.top, .int .u32 (p2.g 0)), (.top, .int .u32 (p2.g 1))]] H = some (.one .top (.bool ra), Hr) := by
  let E1 : Nat × TV := (1, .one .ro (.sl 4 (List.map e_law03_Op p1)))
  let E2 : Nat × TV := (3, .one .top (.loc 3 0))
  let E3 : Nat × TV := (5, .one .top (.loc 5 0))
  let B4 : Nat × List MC := (3, (m0_memory_Layout p0))
  let B5 : Nat × List MC := (5, [(.top, .int .u32 (p2.g 0)), (.top, .int .u32 (p2.g 1))])
  let E6 : Nat × TV := (6, .one .top (.bool false))
  let E7 : Nat × TV := (21, .agg (m0_memory_Layout p0))
  let E8 : Nat × TV := (22, .one .ro (.sl 4 (List.map e_law03_Op p1)))
  let E10 : Nat × TV := (8, .one .top (.loc 8 0))
  let E13 : Nat × TV := (26, .agg (m0_memory_Layout p0))
  let E14 : Nat × TV := (27, .one .ro (.sl 4 (List.map e_law03_Op p1)))
  let E17 : Nat × TV := (33, .one .top (.bool false))
  let E18 : Nat × TV := (34, .one .top (.bool false))
  let E23 : Nat × TV := (41, .one .top (.loc 5 0))
  let E24 : Nat × TV := (42, .one .top (.int .u32 (p2.g 0)))
  let E29 : Nat × TV := (48, .one .top (.loc 5 0))
  let E30 : Nat × TV := (49, .one .top (.int .u32 (p2.g 0)))
  let E35 : Nat × TV := (55, .one .top (.loc 5 0))
  let E36 : Nat × TV := (56, .one .top (.int .u32 (p2.g 0)))
  let E41 : Nat × TV := (62, .one .top (.loc 5 0))
  let E42 : Nat × TV := (63, .one .top (.int .u32 (p2.g 0)))
  let E44 : Nat × TV := (18, .one .top (.int .i64 (IntKind.wrap .i64 (p2.g 1))))
  let E48 : Nat × TV := (72, .one .top (.bool true))
  let E49 : Nat × TV := (73, .one .top (.bool true))
  let E54 : Nat × TV := (76, .one .top (.bool true))
  let E55 : Nat × TV := (77, .one .top (.bool true))
  let E56 : Nat × TV := (78, .one .top (.bool true))
  let E61 : Nat × TV := (81, .one .top (.bool true))
  let E62 : Nat × TV := (82, .one .top (.bool true))
  let E63 : Nat × TV := (83, .one .top (.bool true))
  let E68 : Nat × TV := (86, .one .top (.bool true))
  let E69 : Nat × TV := (87, .one .top (.bool true))
  let E70 : Nat × TV := (88, .one .top (.bool true))
  let E72 : Nat × TV := (90, .one .top (.loc 5 0))
  let E73 : Nat × TV := (91, .one .top (.int .u32 (p2.g 0)))
  let E75 : Nat × TV := (94, .one .top (.loc 5 0))
  let E76 : Nat × TV := (95, .one .top (.int .u32 (p2.g 0)))
  let E81 : Nat × TV := (97, .one .top (.bool true))
  let E82 : Nat × TV := (98, .one .top (.bool true))
  let E83 : Nat × TV := (99, .one .top (.bool true))
  let E85 : Nat × TV := (101, .one .top (.int .i64 (IntKind.wrap .i64 (p2.g 1))))
  let E87 : Nat × TV := (104, .one .top (.int .i64 (IntKind.wrap .i64 (p2.g 1))))
  let E92 : Nat × TV := (97, .one .top (.bool false))
  let E93 : Nat × TV := (98, .one .top (.bool false))
  let E94 : Nat × TV := (99, .one .top (.bool false))
  let E95 : Nat × TV := (100, .tup [])
  let E96 : Nat × TV := (101, .tup [])
  let E97 : Nat × TV := (103, .tup [])
  let E98 : Nat × TV := (104, .tup [])
  let E99 : Nat × TV := (102, .tup [])
  let E100 : Nat × TV := (105, .tup [])
  let E101 : Nat × TV := (106, .tup [])
  let E102 : Nat × TV := (107, .one .top (.bool false))
  let E103 : Nat × TV := (86, .one .top (.bool false))
  let E104 : Nat × TV := (87, .one .top (.bool false))
  let E105 : Nat × TV := (88, .one .top (.bool false))
  let E106 : Nat × TV := (89, .tup [])
  let E107 : Nat × TV := (90, .tup [])
  let E108 : Nat × TV := (91, .tup [])
  let E109 : Nat × TV := (93, .tup [])
  let E110 : Nat × TV := (94, .tup [])
  let E111 : Nat × TV := (95, .tup [])
  let E112 : Nat × TV := (92, .tup [])
  let E113 : Nat × TV := (96, .tup [])
  let E114 : Nat × TV := (97, .tup [])
  let E115 : Nat × TV := (81, .one .top (.bool false))
  let E116 : Nat × TV := (82, .one .top (.bool false))
  let E117 : Nat × TV := (83, .one .top (.bool false))
  let E118 : Nat × TV := (84, .tup [])
  let E119 : Nat × TV := (85, .tup [])
  let E120 : Nat × TV := (86, .tup [])
  let E121 : Nat × TV := (76, .one .top (.bool false))
  let E122 : Nat × TV := (77, .one .top (.bool false))
  let E123 : Nat × TV := (78, .one .top (.bool false))
  let E124 : Nat × TV := (79, .tup [])
  let E125 : Nat × TV := (80, .tup [])
  let E126 : Nat × TV := (81, .tup [])
  let E127 : Nat × TV := (72, .one .top (.bool false))
  let E128 : Nat × TV := (73, .one .top (.bool false))
  let E129 : Nat × TV := (74, .tup [])
  let E130 : Nat × TV := (75, .tup [])
  let E131 : Nat × TV := (76, .tup [])
  let S132 : St := ⟨[E1, E2, E3], [B4, B5], H⟩
  refine w_fun Try.func8 rfl (by kernel_rfl) false (by kernel_rfl) (s0 := (⟨[(0, .agg (m0_memory_Layout p0)), E1, (2, .agg [(.top, .int .u32 (p2.g 0)), (.top, .int .u32 (p2.g 1))])], [], H⟩ : St)) (by kernel_rfl) ?_
  unfold law03_MemoryTells at hF
  refine w_seq ?_
  refine w_reg S132 (by kernel_rfl) ?_
  refine w_seq ?_
  refine w_seq ?_
  obtain ⟨H3, r1, c2, hF⟩ := bind2_inv hF
  let S133 : St := ⟨[E1, E2, E3], [B4, B5], H3⟩
  let S134 : St := ⟨[E1, E2, E3, E7, E8], [B4, B5], H3⟩
  let S135 : St := ⟨[E1, E2, E3, E13, E14], [B4, B5], H3⟩
  refine w_regO ⟨[E1, E2, E3, (20, .one .top (.bool (!r1)))], [B4, B5], H3⟩ ?_ ?_
  refine o_one ⟨[E1, E2, E3, (19, .one .top (.bool r1))], [B4, B5], H3⟩ (st_call (d := (some 19)) (fz := false) (pure := false) (own := false) S132 (ok_law03_awake H c2) (by kernel_rfl) (by kernel_rfl)) ?_
  refine o_run 1 ⟨[E1, E2, E3, (19, .one .top (.bool r1)), (20, .one .top (.bool (!r1)))], [B4, B5], H3⟩ (by kernel_rfl) (by kernel_rfl) ?_
  exact o_end (by kernel_rfl) (by kernel_rfl)
  rcases if_inv hF with ⟨h4, hF⟩ | ⟨h4, hF⟩
  refine w_cT (m := .top) h4 (s1 := (⟨[], [], H3⟩ : St)) (by kernel_rfl) (by kernel_rfl) ?_
  refine w_seq ?_
  refine w_reg ⟨[E6], [], H3⟩ (by kernel_rfl) ?_
  refine w_ret ?_
  obtain ⟨e0, e1⟩ := some2_inv hF
  subst e0
  subst e1
  exact fin_imp (v := .one .top (.bool false)) (by kernel_rfl) (by kernel_rfl) (by kernel_rfl)
  refine w_cF (m := .top) h4 (s1 := S133) (by kernel_rfl) (by kernel_rfl) ?_
  refine w_skip ?_
  refine w_seq ?_
  refine w_seq ?_
  obtain ⟨r5, c6, hF⟩ := bind1_inv hF
  refine w_regO ⟨[E1, E2, E3, (24, .one .top (.bool (!r5)))], [B4, B5], H3⟩ ?_ ?_
  refine o_run 2 S134 (by kernel_rfl) (by kernel_rfl) ?_
  refine o_one ⟨[E1, E2, E3, E7, E8, (23, .one .top (.bool r5))], [B4, B5], H3⟩ (st_call (d := (some 23)) (fz := false) (pure := true) (own := false) S134 (ok_law03_few H3 c6) (by kernel_rfl) (by kernel_rfl)) ?_
  refine o_run 1 ⟨[E1, E2, E3, E7, E8, (23, .one .top (.bool r5)), (24, .one .top (.bool (!r5)))], [B4, B5], H3⟩ (by kernel_rfl) (by kernel_rfl) ?_
  exact o_end (by kernel_rfl) (by kernel_rfl)
  rcases if_inv hF with ⟨h7, hF⟩ | ⟨h7, hF⟩
  refine w_cT (m := .top) h7 (s1 := (⟨[], [], H3⟩ : St)) (by kernel_rfl) (by kernel_rfl) ?_
  refine w_seq ?_
  refine w_reg ⟨[(6, .one .top (.bool true))], [], H3⟩ (by kernel_rfl) ?_
  refine w_ret ?_
  obtain ⟨e0, e1⟩ := some2_inv hF
  subst e0
  subst e1
  exact fin_imp (v := .one .top (.bool true)) (by kernel_rfl) (by kernel_rfl) (by kernel_rfl)
  refine w_cF (m := .top) h7 (s1 := S133) (by kernel_rfl) (by kernel_rfl) ?_
  refine w_skip ?_
  refine w_seq ?_
  obtain ⟨H12, r8, r9, r10, c11, hF⟩ := bind4_inv hF
  let E9 : Ptr → Nat × TV := fun z0 => (7, .one .top (Ptr.av z0))
  let E11 : Nat × TV := (9, .one .top (.bool r10))
  let B12 : Nat × List MC := (8, [(.top, .int .u32 (r9.Ends_.g 0)), (.top, .int .u32 (r9.Ends_.g 1)), (.top, .int .u32 (r9.Ends_.g 2)), (.top, .int .u32 (r9.Ends_.g 3)), (.top, .int .u32 (r9.Ends_.g 4)), ((.own 0), .sl 1 (List.map (eI .u32) r9.W_))])
  let E15 : Ptr → Nat × TV := fun z0 => (28, .tup [.one .top (Ptr.av z0), .agg [(.top, .int .u32 (r9.Ends_.g 0)), (.top, .int .u32 (r9.Ends_.g 1)), (.top, .int .u32 (r9.Ends_.g 2)), (.top, .int .u32 (r9.Ends_.g 3)), (.top, .int .u32 (r9.Ends_.g 4)), ((.own 0), .sl 1 (List.map (eI .u32) r9.W_))], .one .top (.bool r10)])
  let E16 : Nat × TV := (32, .one .top (.bool r10))
  let E19 : Ptr → Nat × TV := fun z0 => (35, .one .top (Ptr.av z0))
  let E22 : Ptr → Nat × TV := fun z0 => (40, .one .top (Ptr.av z0))
  let E28 : Nat × TV := (47, .agg [(.top, .int .u32 (r9.Ends_.g 0)), (.top, .int .u32 (r9.Ends_.g 1)), (.top, .int .u32 (r9.Ends_.g 2)), (.top, .int .u32 (r9.Ends_.g 3)), (.top, .int .u32 (r9.Ends_.g 4)), ((.own 0), .sl 1 (List.map (eI .u32) r9.W_))])
  let E34 : Ptr → Nat × TV := fun z0 => (54, .one .top (Ptr.av z0))
  let E40 : Nat × TV := (61, .agg [(.top, .int .u32 (r9.Ends_.g 0)), (.top, .int .u32 (r9.Ends_.g 1)), (.top, .int .u32 (r9.Ends_.g 2)), (.top, .int .u32 (r9.Ends_.g 3)), (.top, .int .u32 (r9.Ends_.g 4)), ((.own 0), .sl 1 (List.map (eI .u32) r9.W_))])
  let E71 : Ptr → Nat × TV := fun z0 => (89, .one .top (Ptr.av z0))
  let E74 : Nat × TV := (93, .agg [(.top, .int .u32 (r9.Ends_.g 0)), (.top, .int .u32 (r9.Ends_.g 1)), (.top, .int .u32 (r9.Ends_.g 2)), (.top, .int .u32 (r9.Ends_.g 3)), (.top, .int .u32 (r9.Ends_.g 4)), ((.own 0), .sl 1 (List.map (eI .u32) r9.W_))])
  let E84 : Ptr → Nat × TV := fun z0 => (100, .one .top (Ptr.av z0))
  let E86 : Nat × TV := (103, .agg [(.top, .int .u32 (r9.Ends_.g 0)), (.top, .int .u32 (r9.Ends_.g 1)), (.top, .int .u32 (r9.Ends_.g 2)), (.top, .int .u32 (r9.Ends_.g 3)), (.top, .int .u32 (r9.Ends_.g 4)), ((.own 0), .sl 1 (List.map (eI .u32) r9.W_))])
  let S136 : Ptr → St := fun z0 => ⟨[E3, (E9 z0), E10, E11, E16, E17, E18, (E19 z0)], [B5, B12], H12⟩
  let S137 : Ptr → St := fun z0 => ⟨[E3, (E9 z0), E10, (E22 z0), E23, E24], [B5, B12], H12⟩
  refine w_regO ⟨[E3, (E9 r8), E10, E11], [B5, B12], H12⟩ ?_ ?_
  refine o_run 2 S135 (by kernel_rfl) (by kernel_rfl) ?_
  refine o_one ⟨[E1, E2, E3, E13, E14, (E15 r8)], [B4, B5], H12⟩ (st_call (d := (some 28)) (fz := false) (pure := false) (own := false) S135 (ok_law03_played H3 c11) (by generalize r8 = qp0; cases qp0 <;> kernel_rfl) (by generalize r8 = qp0; cases qp0 <;> kernel_rfl)) ?_
  refine o_run 8 ⟨[E1, E2, E3, (E9 r8), E10, E11, (25, .tup [.one .top (Ptr.av r8), .agg [(.top, .int .u32 (r9.Ends_.g 0)), (.top, .int .u32 (r9.Ends_.g 1)), (.top, .int .u32 (r9.Ends_.g 2)), (.top, .int .u32 (r9.Ends_.g 3)), (.top, .int .u32 (r9.Ends_.g 4)), ((.own 0), .sl 1 (List.map (eI .u32) r9.W_))], .one .top (.bool r10)]), E13, E14, (E15 r8), (29, .one .top (Ptr.av r8)), (30, .agg [(.top, .int .u32 (r9.Ends_.g 0)), (.top, .int .u32 (r9.Ends_.g 1)), (.top, .int .u32 (r9.Ends_.g 2)), (.top, .int .u32 (r9.Ends_.g 3)), (.top, .int .u32 (r9.Ends_.g 4)), ((.own 0), .sl 1 (List.map (eI .u32) r9.W_))]), (31, .one .top (.bool r10))], [B4, B5, B12], H12⟩ (by kernel_rfl) (by generalize r8 = qp0; cases qp0 <;> kernel_rfl) ?_
  exact o_end (by kernel_rfl) (by kernel_rfl)
  refine w_seq ?_
  refine w_seq ?_
  refine w_regO ⟨[E3, (E9 r8), E10, E11, (37, .one .top (.bool ((!r10) || r8.isNil)))], [B5, B12], H12⟩ ?_ ?_
  refine o_run 3 ⟨[E3, (E9 r8), E10, E11, E16, (33, .one .top (.bool (!r10))), (34, .one .top (.bool (!r10)))], [B5, B12], H12⟩ (by kernel_rfl) (by generalize r8 = qp0; cases qp0 <;> kernel_rfl) ?_
  rcases bool_cases (!r10) with h13 | h13
  refine o_eq (congrArg (fun q => (⟨[E3, (E9 r8), E10, E11, E16, (33, .one .top (.bool q)), (34, .one .top (.bool q))], [B5, B12], H12⟩ : St)) h13) ?_
  refine o_run 3 ⟨[E3, (E9 r8), E10, E11, E16, (33, .one .top (.bool true)), (34, .one .top (.bool true)), (35, .tup []), (36, .tup []), (37, .one .top (.bool true))], [B5, B12], H12⟩ (by kernel_rfl) (by generalize r8 = qp0; cases qp0 <;> kernel_rfl) ?_
  refine o_eq2 (congrArg (fun q0 => (⟨[E3, (E9 r8), E10, E11, (37, .one .top (.bool q0))], [B5, B12], H12⟩ : St)) (show true = ((!r10) || r8.isNil) by simp [h13])) ?_
  exact o_end (by kernel_rfl) (by kernel_rfl)
  refine o_eq (congrArg (fun q => (⟨[E3, (E9 r8), E10, E11, E16, (33, .one .top (.bool q)), (34, .one .top (.bool q))], [B5, B12], H12⟩ : St)) h13) ?_
  refine o_run 1 (S136 r8) (by kernel_rfl) (by generalize r8 = qp0; cases qp0 <;> kernel_rfl) ?_
  refine o_one ⟨[E3, (E9 r8), E10, E11, E16, E17, E18, (E19 r8), (36, .one .top (.bool r8.isNil))], [B5, B12], H12⟩ (st_bin (S136 r8) (nil_eql (P := X.P) (ty := 28) (x := (.tmp 35)) (y := (.const (.pointer none))) (m := .top) (m' := .top) r8 (by generalize r8 = qp0; cases qp0 <;> kernel_rfl) (by generalize r8 = qp0; cases qp0 <;> kernel_rfl)) rfl (some 36) (by generalize r8 = qp0; cases qp0 <;> kernel_rfl) (by generalize r8 = qp0; cases qp0 <;> kernel_rfl)) ?_
  refine o_run 1 ⟨[E3, (E9 r8), E10, E11, E16, E17, E18, (E19 r8), (36, .one .top (.bool r8.isNil)), (37, .one .top (.bool r8.isNil))], [B5, B12], H12⟩ (by kernel_rfl) (by generalize r8 = qp0; cases qp0 <;> kernel_rfl) ?_
  refine o_eq2 (congrArg (fun q0 => (⟨[E3, (E9 r8), E10, E11, (37, .one .top (.bool q0))], [B5, B12], H12⟩ : St)) (show r8.isNil = ((!r10) || r8.isNil) by simp [h13])) ?_
  exact o_end (by kernel_rfl) (by kernel_rfl)
  rcases if_inv hF with ⟨h14, hF⟩ | ⟨h14, hF⟩
  refine w_cT (m := .top) h14 (s1 := (⟨[E11], [], H12⟩ : St)) (by kernel_rfl) (by kernel_rfl) ?_
  refine w_seq ?_
  refine w_reg ⟨[(6, .one .top (.bool r10))], [], H12⟩ (by kernel_rfl) ?_
  refine w_ret ?_
  obtain ⟨e0, e1⟩ := some2_inv hF
  subst e0
  subst e1
  exact fin_imp (v := .one .top (.bool r10)) (by kernel_rfl) (by kernel_rfl) (by kernel_rfl)
  refine w_cF (m := .top) h14 (s1 := (⟨[E3, (E9 r8), E10], [B5, B12], H12⟩ : St)) (by kernel_rfl) (by kernel_rfl) ?_
  refine w_skip ?_
  refine w_seq ?_
  obtain ⟨r15, r16, c17, hF⟩ := bind2_inv hF
  let E20 : Nat × TV := (10, .one .top (.int .u32 r15))
  let E21 : Nat × TV := (11, .one .top (.int .i64 r16))
  let E25 : Nat × TV := (43, .tup [.one .top (.int .u32 r15), .one .top (.int .i64 r16)])
  let E45 : Nat × TV := (70, .one .top (.int .u32 r15))
  let E50 : Nat × TV := (74, .one .top (.int .i64 r16))
  let S138 : Ptr → St := fun z0 => ⟨[E3, (E9 z0), E10, E20, E21, E28, E29, E30], [B5, B12], H12⟩
  refine w_regO ⟨[E3, (E9 r8), E10, E20, E21], [B5, B12], H12⟩ ?_ ?_
  refine o_run 3 (S137 r8) (by kernel_rfl) (by generalize r8 = qp0; cases qp0 <;> kernel_rfl) ?_
  refine o_one ⟨[E3, (E9 r8), E10, (E22 r8), E23, E24, E25], [B5, B12], H12⟩ (st_call (d := (some 43)) (fz := false) (pure := true) (own := false) (S137 r8) (ok_memory_Mem_Load H12 c17) (by generalize r8 = qp0; cases qp0 <;> kernel_rfl) (by generalize r8 = qp0; cases qp0 <;> kernel_rfl)) ?_
  refine o_run 5 ⟨[E3, (E9 r8), E10, E20, E21, (39, .tup [.one .top (.int .u32 r15), .one .top (.int .i64 r16)]), (E22 r8), E23, E24, E25, (44, .one .top (.int .u32 r15)), (45, .one .top (.int .i64 r16))], [B5, B12], H12⟩ (by kernel_rfl) (by generalize r8 = qp0; cases qp0 <;> kernel_rfl) ?_
  exact o_end (by kernel_rfl) (by kernel_rfl)
  refine w_seq ?_
  obtain ⟨r18, r19, c20, hF⟩ := bind2_inv hF
  let E26 : Nat × TV := (12, .one .top (.int .u32 r18))
  let E27 : Nat × TV := (13, .one .top (.int .i64 r19))
  let E31 : Nat × TV := (50, .tup [.one .top (.int .u32 r18), .one .top (.int .i64 r19)])
  let E46 : Nat × TV := (71, .one .top (.int .u32 r18))
  let E47 : Nat × TV := (72, .one .top (.bool (r15 == r18)))
  let E51 : Nat × TV := (75, .one .top (.int .i64 r19))
  let E52 : Nat × TV := (76, .one .top (.bool (r16 == r19)))
  let E53 : Nat × TV := (77, .one .top (.bool (r16 == r19)))
  let S139 : Ptr → St := fun z0 => ⟨[E3, (E9 z0), E10, E20, E21, E26, E27, (E34 z0), E35, E36], [B5, B12], H12⟩
  refine w_regO ⟨[E3, (E9 r8), E10, E20, E21, E26, E27], [B5, B12], H12⟩ ?_ ?_
  refine o_run 3 (S138 r8) (by kernel_rfl) (by generalize r8 = qp0; cases qp0 <;> kernel_rfl) ?_
  refine o_one ⟨[E3, (E9 r8), E10, E20, E21, E28, E29, E30, E31], [B5, B12], H12⟩ (st_call (d := (some 50)) (fz := false) (pure := true) (own := false) (S138 r8) (ok_ref03_Load H12 c20) (by generalize r8 = qp0; cases qp0 <;> kernel_rfl) (by generalize r8 = qp0; cases qp0 <;> kernel_rfl)) ?_
  refine o_run 5 ⟨[E3, (E9 r8), E10, E20, E21, E26, E27, (46, .tup [.one .top (.int .u32 r18), .one .top (.int .i64 r19)]), E28, E29, E30, E31, (51, .one .top (.int .u32 r18)), (52, .one .top (.int .i64 r19))], [B5, B12], H12⟩ (by kernel_rfl) (by generalize r8 = qp0; cases qp0 <;> kernel_rfl) ?_
  exact o_end (by kernel_rfl) (by kernel_rfl)
  refine w_seq ?_
  obtain ⟨r21, r22, c23, hF⟩ := bind2_inv hF
  let E32 : Nat × TV := (14, .one .top (.int .u32 r21))
  let E33 : Nat × TV := (15, .one .top (.int .i64 r22))
  let E37 : Nat × TV := (57, .tup [.one .top (.int .u32 r21), .one .top (.int .i64 r22)])
  let E57 : Nat × TV := (79, .one .top (.int .u32 r21))
  let E64 : Nat × TV := (84, .one .top (.int .i64 r22))
  let S140 : Ptr → St := fun z0 => ⟨[E3, (E9 z0), E10, E20, E21, E26, E27, E32, E33, E40, E41, E42], [B5, B12], H12⟩
  refine w_regO ⟨[E3, (E9 r8), E10, E20, E21, E26, E27, E32, E33], [B5, B12], H12⟩ ?_ ?_
  refine o_run 3 (S139 r8) (by kernel_rfl) (by generalize r8 = qp0; cases qp0 <;> kernel_rfl) ?_
  refine o_one ⟨[E3, (E9 r8), E10, E20, E21, E26, E27, (E34 r8), E35, E36, E37], [B5, B12], H12⟩ (st_call (d := (some 57)) (fz := false) (pure := true) (own := false) (S139 r8) (ok_memory_Mem_Fetch H12 c23) (by generalize r8 = qp0; cases qp0 <;> kernel_rfl) (by generalize r8 = qp0; cases qp0 <;> kernel_rfl)) ?_
  refine o_run 5 ⟨[E3, (E9 r8), E10, E20, E21, E26, E27, E32, E33, (53, .tup [.one .top (.int .u32 r21), .one .top (.int .i64 r22)]), (E34 r8), E35, E36, E37, (58, .one .top (.int .u32 r21)), (59, .one .top (.int .i64 r22))], [B5, B12], H12⟩ (by kernel_rfl) (by generalize r8 = qp0; cases qp0 <;> kernel_rfl) ?_
  exact o_end (by kernel_rfl) (by kernel_rfl)
  refine w_seq ?_
  obtain ⟨r24, r25, c26, hF⟩ := bind2_inv hF
  let E38 : Nat × TV := (16, .one .top (.int .u32 r24))
  let E39 : Nat × TV := (17, .one .top (.int .i64 r25))
  let E43 : Nat × TV := (64, .tup [.one .top (.int .u32 r24), .one .top (.int .i64 r25)])
  let E58 : Nat × TV := (80, .one .top (.int .u32 r24))
  let E59 : Nat × TV := (81, .one .top (.bool (r21 == r24)))
  let E60 : Nat × TV := (82, .one .top (.bool (r21 == r24)))
  let E65 : Nat × TV := (85, .one .top (.int .i64 r25))
  let E66 : Nat × TV := (86, .one .top (.bool (r22 == r25)))
  let E67 : Nat × TV := (87, .one .top (.bool (r22 == r25)))
  let S141 : Ptr → St := fun z0 => ⟨[E3, (E9 z0), E10, E20, E21, E26, E27, E32, E33, E38, E39, E44, E45, E46, E48, E49, E50, E51, E54, E55, E56, E57, E58, E61, E62, E63, E64, E65, E68, E69, E70, (E71 z0), E72, E73, E74, E75, E76], [B5, B12], H12⟩
  refine w_regO ⟨[E3, (E9 r8), E10, E20, E21, E26, E27, E32, E33, E38, E39], [B5, B12], H12⟩ ?_ ?_
  refine o_run 3 (S140 r8) (by kernel_rfl) (by generalize r8 = qp0; cases qp0 <;> kernel_rfl) ?_
  refine o_one ⟨[E3, (E9 r8), E10, E20, E21, E26, E27, E32, E33, E40, E41, E42, E43], [B5, B12], H12⟩ (st_call (d := (some 64)) (fz := false) (pure := true) (own := false) (S140 r8) (ok_ref03_Fetch H12 c26) (by generalize r8 = qp0; cases qp0 <;> kernel_rfl) (by generalize r8 = qp0; cases qp0 <;> kernel_rfl)) ?_
  refine o_run 5 ⟨[E3, (E9 r8), E10, E20, E21, E26, E27, E32, E33, E38, E39, (60, .tup [.one .top (.int .u32 r24), .one .top (.int .i64 r25)]), E40, E41, E42, E43, (65, .one .top (.int .u32 r24)), (66, .one .top (.int .i64 r25))], [B5, B12], H12⟩ (by kernel_rfl) (by generalize r8 = qp0; cases qp0 <;> kernel_rfl) ?_
  exact o_end (by kernel_rfl) (by kernel_rfl)
  refine w_seq ?_
  refine w_reg ⟨[E3, (E9 r8), E10, E20, E21, E26, E27, E32, E33, E38, E39, E44], [B5, B12], H12⟩ (by generalize r8 = qp0; cases qp0 <;> kernel_rfl) ?_
  refine w_seq ?_
  obtain ⟨w40, hB41, hF⟩ := bind1_inv hF
  refine w_regD (.take 0 (.take 1 (.take 2 (.take 3 (.take 4 (.take 5 (.take 6 (.take 7 (.take 8 (.take 9 (.take 10 (.take 11 (.take 12 (.take 13 (.take 14 (.take 15 (.take 16 (.take 17 (.take 18 (.take 19 (.take 20 (.take 21 (.take 23 (.take 24 (.take 25 (.last 22 (.last 26 (.take 27 (.take 28 (.take 29 (.take 30 (.take 31 (.take 33 (.take 34 (.last 32 (.last 35 (.take 36 (.take 37 (.take 38 .done))))))))))))))))))))))))))))))))))))))) (by kernel_rfl) (⟨[(6, .one .top (.bool w40))], [], H12⟩ : St) ?_ ?_
  refine d_take ⟨[E3, (E9 r8), E10, E20, E21, E26, E27, E32, E33, E38, E39, E44, E45], [B5, B12], H12⟩ (by generalize r8 = qp0; cases qp0 <;> kernel_rfl) ?_
  refine d_take ⟨[E3, (E9 r8), E10, E20, E21, E26, E27, E32, E33, E38, E39, E44, E45, E46], [B5, B12], H12⟩ (by generalize r8 = qp0; cases qp0 <;> kernel_rfl) ?_
  refine d_take ⟨[E3, (E9 r8), E10, E20, E21, E26, E27, E32, E33, E38, E39, E44, E45, E46, E47], [B5, B12], H12⟩ (by generalize r8 = qp0; cases qp0 <;> kernel_rfl) ?_
  refine d_take ⟨[E3, (E9 r8), E10, E20, E21, E26, E27, E32, E33, E38, E39, E44, E45, E46, E47, (73, .one .top (.bool (r15 == r18)))], [B5, B12], H12⟩ (by generalize r8 = qp0; cases qp0 <;> kernel_rfl) ?_
  rcases if_inv hB41 with ⟨h27, hB41⟩ | ⟨h27, hB41⟩
  refine d_eq (congrArg (fun q => (⟨[E3, (E9 r8), E10, E20, E21, E26, E27, E32, E33, E38, E39, E44, E45, E46, (72, .one .top (.bool q)), (73, .one .top (.bool q))], [B5, B12], H12⟩ : St)) h27) ?_
  refine d_take ⟨[E3, (E9 r8), E10, E20, E21, E26, E27, E32, E33, E38, E39, E44, E45, E46, E48, E49, E50], [B5, B12], H12⟩ (by generalize r8 = qp0; cases qp0 <;> kernel_rfl) ?_
  refine d_take ⟨[E3, (E9 r8), E10, E20, E21, E26, E27, E32, E33, E38, E39, E44, E45, E46, E48, E49, E50, E51], [B5, B12], H12⟩ (by generalize r8 = qp0; cases qp0 <;> kernel_rfl) ?_
  refine d_take ⟨[E3, (E9 r8), E10, E20, E21, E26, E27, E32, E33, E38, E39, E44, E45, E46, E48, E49, E50, E51, E52], [B5, B12], H12⟩ (by generalize r8 = qp0; cases qp0 <;> kernel_rfl) ?_
  refine d_take ⟨[E3, (E9 r8), E10, E20, E21, E26, E27, E32, E33, E38, E39, E44, E45, E46, E48, E49, E50, E51, E52, E53], [B5, B12], H12⟩ (by generalize r8 = qp0; cases qp0 <;> kernel_rfl) ?_
  refine d_take ⟨[E3, (E9 r8), E10, E20, E21, E26, E27, E32, E33, E38, E39, E44, E45, E46, E48, E49, E50, E51, E52, E53, (78, .one .top (.bool (r16 == r19)))], [B5, B12], H12⟩ (by generalize r8 = qp0; cases qp0 <;> kernel_rfl) ?_
  rcases if_inv hB41 with ⟨h28, hB41⟩ | ⟨h28, hB41⟩
  refine d_eq (congrArg (fun q => (⟨[E3, (E9 r8), E10, E20, E21, E26, E27, E32, E33, E38, E39, E44, E45, E46, E48, E49, E50, E51, (76, .one .top (.bool q)), (77, .one .top (.bool q)), (78, .one .top (.bool q))], [B5, B12], H12⟩ : St)) h28) ?_
  refine d_take ⟨[E3, (E9 r8), E10, E20, E21, E26, E27, E32, E33, E38, E39, E44, E45, E46, E48, E49, E50, E51, E54, E55, E56, E57], [B5, B12], H12⟩ (by generalize r8 = qp0; cases qp0 <;> kernel_rfl) ?_
  refine d_take ⟨[E3, (E9 r8), E10, E20, E21, E26, E27, E32, E33, E38, E39, E44, E45, E46, E48, E49, E50, E51, E54, E55, E56, E57, E58], [B5, B12], H12⟩ (by generalize r8 = qp0; cases qp0 <;> kernel_rfl) ?_
  refine d_take ⟨[E3, (E9 r8), E10, E20, E21, E26, E27, E32, E33, E38, E39, E44, E45, E46, E48, E49, E50, E51, E54, E55, E56, E57, E58, E59], [B5, B12], H12⟩ (by generalize r8 = qp0; cases qp0 <;> kernel_rfl) ?_
  refine d_take ⟨[E3, (E9 r8), E10, E20, E21, E26, E27, E32, E33, E38, E39, E44, E45, E46, E48, E49, E50, E51, E54, E55, E56, E57, E58, E59, E60], [B5, B12], H12⟩ (by generalize r8 = qp0; cases qp0 <;> kernel_rfl) ?_
  refine d_take ⟨[E3, (E9 r8), E10, E20, E21, E26, E27, E32, E33, E38, E39, E44, E45, E46, E48, E49, E50, E51, E54, E55, E56, E57, E58, E59, E60, (83, .one .top (.bool (r21 == r24)))], [B5, B12], H12⟩ (by generalize r8 = qp0; cases qp0 <;> kernel_rfl) ?_
  rcases if_inv hB41 with ⟨h29, hB41⟩ | ⟨h29, hB41⟩
  refine d_eq (congrArg (fun q => (⟨[E3, (E9 r8), E10, E20, E21, E26, E27, E32, E33, E38, E39, E44, E45, E46, E48, E49, E50, E51, E54, E55, E56, E57, E58, (81, .one .top (.bool q)), (82, .one .top (.bool q)), (83, .one .top (.bool q))], [B5, B12], H12⟩ : St)) h29) ?_
  refine d_take ⟨[E3, (E9 r8), E10, E20, E21, E26, E27, E32, E33, E38, E39, E44, E45, E46, E48, E49, E50, E51, E54, E55, E56, E57, E58, E61, E62, E63, E64], [B5, B12], H12⟩ (by generalize r8 = qp0; cases qp0 <;> kernel_rfl) ?_
  refine d_take ⟨[E3, (E9 r8), E10, E20, E21, E26, E27, E32, E33, E38, E39, E44, E45, E46, E48, E49, E50, E51, E54, E55, E56, E57, E58, E61, E62, E63, E64, E65], [B5, B12], H12⟩ (by generalize r8 = qp0; cases qp0 <;> kernel_rfl) ?_
  refine d_take ⟨[E3, (E9 r8), E10, E20, E21, E26, E27, E32, E33, E38, E39, E44, E45, E46, E48, E49, E50, E51, E54, E55, E56, E57, E58, E61, E62, E63, E64, E65, E66], [B5, B12], H12⟩ (by generalize r8 = qp0; cases qp0 <;> kernel_rfl) ?_
  refine d_take ⟨[E3, (E9 r8), E10, E20, E21, E26, E27, E32, E33, E38, E39, E44, E45, E46, E48, E49, E50, E51, E54, E55, E56, E57, E58, E61, E62, E63, E64, E65, E66, E67], [B5, B12], H12⟩ (by generalize r8 = qp0; cases qp0 <;> kernel_rfl) ?_
  refine d_take ⟨[E3, (E9 r8), E10, E20, E21, E26, E27, E32, E33, E38, E39, E44, E45, E46, E48, E49, E50, E51, E54, E55, E56, E57, E58, E61, E62, E63, E64, E65, E66, E67, (88, .one .top (.bool (r22 == r25)))], [B5, B12], H12⟩ (by generalize r8 = qp0; cases qp0 <;> kernel_rfl) ?_
  rcases if_inv hB41 with ⟨h30, hB41⟩ | ⟨h30, hB41⟩
  refine d_eq (congrArg (fun q => (⟨[E3, (E9 r8), E10, E20, E21, E26, E27, E32, E33, E38, E39, E44, E45, E46, E48, E49, E50, E51, E54, E55, E56, E57, E58, E61, E62, E63, E64, E65, (86, .one .top (.bool q)), (87, .one .top (.bool q)), (88, .one .top (.bool q))], [B5, B12], H12⟩ : St)) h30) ?_
  refine d_take ⟨[E3, (E9 r8), E10, E20, E21, E26, E27, E32, E33, E38, E39, E44, E45, E46, E48, E49, E50, E51, E54, E55, E56, E57, E58, E61, E62, E63, E64, E65, E68, E69, E70, (E71 r8)], [B5, B12], H12⟩ (by generalize r8 = qp0; cases qp0 <;> kernel_rfl) ?_
  refine d_take ⟨[E3, (E9 r8), E10, E20, E21, E26, E27, E32, E33, E38, E39, E44, E45, E46, E48, E49, E50, E51, E54, E55, E56, E57, E58, E61, E62, E63, E64, E65, E68, E69, E70, (E71 r8), E72], [B5, B12], H12⟩ (by generalize r8 = qp0; cases qp0 <;> kernel_rfl) ?_
  refine d_take ⟨[E3, (E9 r8), E10, E20, E21, E26, E27, E32, E33, E38, E39, E44, E45, E46, E48, E49, E50, E51, E54, E55, E56, E57, E58, E61, E62, E63, E64, E65, E68, E69, E70, (E71 r8), E72, E73], [B5, B12], H12⟩ (by generalize r8 = qp0; cases qp0 <;> kernel_rfl) ?_
  refine d_take ⟨[E3, (E9 r8), E10, E20, E21, E26, E27, E32, E33, E38, E39, E44, E45, E46, E48, E49, E50, E51, E54, E55, E56, E57, E58, E61, E62, E63, E64, E65, E68, E69, E70, (E71 r8), E72, E73, E74], [B5, B12], H12⟩ (by generalize r8 = qp0; cases qp0 <;> kernel_rfl) ?_
  refine d_take ⟨[E3, (E9 r8), E10, E20, E21, E26, E27, E32, E33, E38, E39, E44, E45, E46, E48, E49, E50, E51, E54, E55, E56, E57, E58, E61, E62, E63, E64, E65, E68, E69, E70, (E71 r8), E72, E73, E74, E75], [B5, B12], H12⟩ (by generalize r8 = qp0; cases qp0 <;> kernel_rfl) ?_
  refine d_take (S141 r8) (by generalize r8 = qp0; cases qp0 <;> kernel_rfl) ?_
  obtain ⟨r31, c32, hB41⟩ := bind1_inv hB41
  let E77 : Nat × TV := (92, .one .top (.int .i64 r31))
  let S142 : Ptr → St := fun z0 => ⟨[E3, (E9 z0), E10, E20, E21, E26, E27, E32, E33, E38, E39, E44, E45, E46, E48, E49, E50, E51, E54, E55, E56, E57, E58, E61, E62, E63, E64, E65, E68, E69, E70, (E71 z0), E72, E73, E77, E74, E75, E76], [B5, B12], H12⟩
  refine d_last (S142 r8) (st_call (d := (some 92)) (fz := false) (pure := true) (own := false) (S141 r8) (ok_memory_Mem_Part H12 c32) (by generalize r8 = qp0; cases qp0 <;> kernel_rfl) (by generalize r8 = qp0; cases qp0 <;> kernel_rfl)) ?_
  obtain ⟨r33, c34, hB41⟩ := bind1_inv hB41
  let E78 : Nat × TV := (96, .one .top (.int .i64 r33))
  let E79 : Nat × TV := (97, .one .top (.bool (r31 == r33)))
  let E80 : Nat × TV := (98, .one .top (.bool (r31 == r33)))
  let S143 : Ptr → St := fun z0 => ⟨[E3, (E9 z0), E10, E20, E21, E26, E27, E32, E33, E38, E39, E44, E45, E46, E48, E49, E50, E51, E54, E55, E56, E57, E58, E61, E62, E63, E64, E65, E68, E69, E70, (E71 z0), E72, E73, E77, E74, E75, E76, E78, E81, E82, E83, (E84 z0), E85, E86, E87], [B5, B12], H12⟩
  refine d_last ⟨[E3, (E9 r8), E10, E20, E21, E26, E27, E32, E33, E38, E39, E44, E45, E46, E48, E49, E50, E51, E54, E55, E56, E57, E58, E61, E62, E63, E64, E65, E68, E69, E70, (E71 r8), E72, E73, E77, E74, E75, E76, E78], [B5, B12], H12⟩ (st_call (d := (some 96)) (fz := false) (pure := true) (own := false) (S142 r8) (ok_ref03_Part H12 c34) (by generalize r8 = qp0; cases qp0 <;> kernel_rfl) (by generalize r8 = qp0; cases qp0 <;> kernel_rfl)) ?_
  refine d_take ⟨[E3, (E9 r8), E10, E20, E21, E26, E27, E32, E33, E38, E39, E44, E45, E46, E48, E49, E50, E51, E54, E55, E56, E57, E58, E61, E62, E63, E64, E65, E68, E69, E70, (E71 r8), E72, E73, E77, E74, E75, E76, E78, E79], [B5, B12], H12⟩ (by generalize r8 = qp0; cases qp0 <;> kernel_rfl) ?_
  refine d_take ⟨[E3, (E9 r8), E10, E20, E21, E26, E27, E32, E33, E38, E39, E44, E45, E46, E48, E49, E50, E51, E54, E55, E56, E57, E58, E61, E62, E63, E64, E65, E68, E69, E70, (E71 r8), E72, E73, E77, E74, E75, E76, E78, E79, E80], [B5, B12], H12⟩ (by generalize r8 = qp0; cases qp0 <;> kernel_rfl) ?_
  refine d_take ⟨[E3, (E9 r8), E10, E20, E21, E26, E27, E32, E33, E38, E39, E44, E45, E46, E48, E49, E50, E51, E54, E55, E56, E57, E58, E61, E62, E63, E64, E65, E68, E69, E70, (E71 r8), E72, E73, E77, E74, E75, E76, E78, E79, E80, (99, .one .top (.bool (r31 == r33)))], [B5, B12], H12⟩ (by generalize r8 = qp0; cases qp0 <;> kernel_rfl) ?_
  rcases if_inv hB41 with ⟨h35, hB41⟩ | ⟨h35, hB41⟩
  refine d_eq (congrArg (fun q => (⟨[E3, (E9 r8), E10, E20, E21, E26, E27, E32, E33, E38, E39, E44, E45, E46, E48, E49, E50, E51, E54, E55, E56, E57, E58, E61, E62, E63, E64, E65, E68, E69, E70, (E71 r8), E72, E73, E77, E74, E75, E76, E78, (97, .one .top (.bool q)), (98, .one .top (.bool q)), (99, .one .top (.bool q))], [B5, B12], H12⟩ : St)) h35) ?_
  refine d_take ⟨[E3, (E9 r8), E10, E20, E21, E26, E27, E32, E33, E38, E39, E44, E45, E46, E48, E49, E50, E51, E54, E55, E56, E57, E58, E61, E62, E63, E64, E65, E68, E69, E70, (E71 r8), E72, E73, E77, E74, E75, E76, E78, E81, E82, E83, (E84 r8)], [B5, B12], H12⟩ (by generalize r8 = qp0; cases qp0 <;> kernel_rfl) ?_
  refine d_take ⟨[E3, (E9 r8), E10, E20, E21, E26, E27, E32, E33, E38, E39, E44, E45, E46, E48, E49, E50, E51, E54, E55, E56, E57, E58, E61, E62, E63, E64, E65, E68, E69, E70, (E71 r8), E72, E73, E77, E74, E75, E76, E78, E81, E82, E83, (E84 r8), E85], [B5, B12], H12⟩ (by generalize r8 = qp0; cases qp0 <;> kernel_rfl) ?_
  refine d_take ⟨[E3, (E9 r8), E10, E20, E21, E26, E27, E32, E33, E38, E39, E44, E45, E46, E48, E49, E50, E51, E54, E55, E56, E57, E58, E61, E62, E63, E64, E65, E68, E69, E70, (E71 r8), E72, E73, E77, E74, E75, E76, E78, E81, E82, E83, (E84 r8), E85, E86], [B5, B12], H12⟩ (by generalize r8 = qp0; cases qp0 <;> kernel_rfl) ?_
  refine d_take (S143 r8) (by generalize r8 = qp0; cases qp0 <;> kernel_rfl) ?_
  obtain ⟨r36, c37, hB41⟩ := bind1_inv hB41
  let E88 : Nat × TV := (102, .one .top (.int .i64 r36))
  let S144 : Ptr → St := fun z0 => ⟨[E3, (E9 z0), E10, E20, E21, E26, E27, E32, E33, E38, E39, E44, E45, E46, E48, E49, E50, E51, E54, E55, E56, E57, E58, E61, E62, E63, E64, E65, E68, E69, E70, (E71 z0), E72, E73, E77, E74, E75, E76, E78, E81, E82, E83, (E84 z0), E85, E88, E86, E87], [B5, B12], H12⟩
  refine d_last (S144 r8) (st_call (d := (some 102)) (fz := false) (pure := true) (own := false) (S143 r8) (ok_memory_Mem_Used H12 c37) (by generalize r8 = qp0; cases qp0 <;> kernel_rfl) (by generalize r8 = qp0; cases qp0 <;> kernel_rfl)) ?_
  obtain ⟨r38, c39, hB41⟩ := bind1_inv hB41
  let E89 : Nat × TV := (105, .one .top (.int .i64 r38))
  let E90 : Nat × TV := (106, .one .top (.bool (r36 == r38)))
  let E91 : Nat × TV := (107, .one .top (.bool (r36 == r38)))
  refine d_last ⟨[E3, (E9 r8), E10, E20, E21, E26, E27, E32, E33, E38, E39, E44, E45, E46, E48, E49, E50, E51, E54, E55, E56, E57, E58, E61, E62, E63, E64, E65, E68, E69, E70, (E71 r8), E72, E73, E77, E74, E75, E76, E78, E81, E82, E83, (E84 r8), E85, E88, E86, E87, E89], [B5, B12], H12⟩ (st_call (d := (some 105)) (fz := false) (pure := true) (own := false) (S144 r8) (ok_ref03_Used H12 c39) (by generalize r8 = qp0; cases qp0 <;> kernel_rfl) (by generalize r8 = qp0; cases qp0 <;> kernel_rfl)) ?_
  refine d_take ⟨[E3, (E9 r8), E10, E20, E21, E26, E27, E32, E33, E38, E39, E44, E45, E46, E48, E49, E50, E51, E54, E55, E56, E57, E58, E61, E62, E63, E64, E65, E68, E69, E70, (E71 r8), E72, E73, E77, E74, E75, E76, E78, E81, E82, E83, (E84 r8), E85, E88, E86, E87, E89, E90], [B5, B12], H12⟩ (by generalize r8 = qp0; cases qp0 <;> kernel_rfl) ?_
  refine d_take ⟨[E3, (E9 r8), E10, E20, E21, E26, E27, E32, E33, E38, E39, E44, E45, E46, E48, E49, E50, E51, E54, E55, E56, E57, E58, E61, E62, E63, E64, E65, E68, E69, E70, (E71 r8), E72, E73, E77, E74, E75, E76, E78, E81, E82, E83, (E84 r8), E85, E88, E86, E87, E89, E90, E91], [B5, B12], H12⟩ (by generalize r8 = qp0; cases qp0 <;> kernel_rfl) ?_
  refine d_take ⟨[E3, (6, .one .top (.bool (r36 == r38))), (E9 r8), E10, E20, E21, E26, E27, E32, E33, E38, E39, E44, E45, E46, E48, E49, E50, E51, E54, E55, E56, E57, E58, E61, E62, E63, E64, E65, E68, E69, E70, (E71 r8), E72, E73, E77, E74, E75, E76, E78, E81, E82, E83, (E84 r8), E85, E88, E86, E87, E89, E90, E91], [B5, B12], H12⟩ (by generalize r8 = qp0; cases qp0 <;> kernel_rfl) ?_
  cases hB41
  exact d_end (by kernel_rfl)
  refine d_eq (congrArg (fun q => (⟨[E3, (E9 r8), E10, E20, E21, E26, E27, E32, E33, E38, E39, E44, E45, E46, E48, E49, E50, E51, E54, E55, E56, E57, E58, E61, E62, E63, E64, E65, E68, E69, E70, (E71 r8), E72, E73, E77, E74, E75, E76, E78, (97, .one .top (.bool q)), (98, .one .top (.bool q)), (99, .one .top (.bool q))], [B5, B12], H12⟩ : St)) h35) ?_
  refine d_take ⟨[E3, (E9 r8), E10, E20, E21, E26, E27, E32, E33, E38, E39, E44, E45, E46, E48, E49, E50, E51, E54, E55, E56, E57, E58, E61, E62, E63, E64, E65, E68, E69, E70, (E71 r8), E72, E73, E77, E74, E75, E76, E78, E92, E93, E94, E95], [B5, B12], H12⟩ (by generalize r8 = qp0; cases qp0 <;> kernel_rfl) ?_
  refine d_take ⟨[E3, (E9 r8), E10, E20, E21, E26, E27, E32, E33, E38, E39, E44, E45, E46, E48, E49, E50, E51, E54, E55, E56, E57, E58, E61, E62, E63, E64, E65, E68, E69, E70, (E71 r8), E72, E73, E77, E74, E75, E76, E78, E92, E93, E94, E95, E96], [B5, B12], H12⟩ (by generalize r8 = qp0; cases qp0 <;> kernel_rfl) ?_
  refine d_take ⟨[E3, (E9 r8), E10, E20, E21, E26, E27, E32, E33, E38, E39, E44, E45, E46, E48, E49, E50, E51, E54, E55, E56, E57, E58, E61, E62, E63, E64, E65, E68, E69, E70, (E71 r8), E72, E73, E77, E74, E75, E76, E78, E92, E93, E94, E95, E96, E97], [B5, B12], H12⟩ (by generalize r8 = qp0; cases qp0 <;> kernel_rfl) ?_
  refine d_take ⟨[E3, (E9 r8), E10, E20, E21, E26, E27, E32, E33, E38, E39, E44, E45, E46, E48, E49, E50, E51, E54, E55, E56, E57, E58, E61, E62, E63, E64, E65, E68, E69, E70, (E71 r8), E72, E73, E77, E74, E75, E76, E78, E92, E93, E94, E95, E96, E97, E98], [B5, B12], H12⟩ (by generalize r8 = qp0; cases qp0 <;> kernel_rfl) ?_
  refine d_last ⟨[E3, (E9 r8), E10, E20, E21, E26, E27, E32, E33, E38, E39, E44, E45, E46, E48, E49, E50, E51, E54, E55, E56, E57, E58, E61, E62, E63, E64, E65, E68, E69, E70, (E71 r8), E72, E73, E77, E74, E75, E76, E78, E92, E93, E94, E95, E96, E99, E97, E98], [B5, B12], H12⟩ (by generalize r8 = qp0; cases qp0 <;> kernel_rfl) ?_
  refine d_last ⟨[E3, (E9 r8), E10, E20, E21, E26, E27, E32, E33, E38, E39, E44, E45, E46, E48, E49, E50, E51, E54, E55, E56, E57, E58, E61, E62, E63, E64, E65, E68, E69, E70, (E71 r8), E72, E73, E77, E74, E75, E76, E78, E92, E93, E94, E95, E96, E99, E97, E98, E100], [B5, B12], H12⟩ (by generalize r8 = qp0; cases qp0 <;> kernel_rfl) ?_
  refine d_take ⟨[E3, (E9 r8), E10, E20, E21, E26, E27, E32, E33, E38, E39, E44, E45, E46, E48, E49, E50, E51, E54, E55, E56, E57, E58, E61, E62, E63, E64, E65, E68, E69, E70, (E71 r8), E72, E73, E77, E74, E75, E76, E78, E92, E93, E94, E95, E96, E99, E97, E98, E100, E101], [B5, B12], H12⟩ (by generalize r8 = qp0; cases qp0 <;> kernel_rfl) ?_
  refine d_take ⟨[E3, (E9 r8), E10, E20, E21, E26, E27, E32, E33, E38, E39, E44, E45, E46, E48, E49, E50, E51, E54, E55, E56, E57, E58, E61, E62, E63, E64, E65, E68, E69, E70, (E71 r8), E72, E73, E77, E74, E75, E76, E78, E92, E93, E94, E95, E96, E99, E97, E98, E100, E101, E102], [B5, B12], H12⟩ (by generalize r8 = qp0; cases qp0 <;> kernel_rfl) ?_
  refine d_take ⟨[E3, E6, (E9 r8), E10, E20, E21, E26, E27, E32, E33, E38, E39, E44, E45, E46, E48, E49, E50, E51, E54, E55, E56, E57, E58, E61, E62, E63, E64, E65, E68, E69, E70, (E71 r8), E72, E73, E77, E74, E75, E76, E78, E92, E93, E94, E95, E96, E99, E97, E98, E100, E101, E102], [B5, B12], H12⟩ (by generalize r8 = qp0; cases qp0 <;> kernel_rfl) ?_
  cases hB41
  exact d_end (by kernel_rfl)
  refine d_eq (congrArg (fun q => (⟨[E3, (E9 r8), E10, E20, E21, E26, E27, E32, E33, E38, E39, E44, E45, E46, E48, E49, E50, E51, E54, E55, E56, E57, E58, E61, E62, E63, E64, E65, (86, .one .top (.bool q)), (87, .one .top (.bool q)), (88, .one .top (.bool q))], [B5, B12], H12⟩ : St)) h30) ?_
  refine d_take ⟨[E3, (E9 r8), E10, E20, E21, E26, E27, E32, E33, E38, E39, E44, E45, E46, E48, E49, E50, E51, E54, E55, E56, E57, E58, E61, E62, E63, E64, E65, E103, E104, E105, E106], [B5, B12], H12⟩ (by generalize r8 = qp0; cases qp0 <;> kernel_rfl) ?_
  refine d_take ⟨[E3, (E9 r8), E10, E20, E21, E26, E27, E32, E33, E38, E39, E44, E45, E46, E48, E49, E50, E51, E54, E55, E56, E57, E58, E61, E62, E63, E64, E65, E103, E104, E105, E106, E107], [B5, B12], H12⟩ (by generalize r8 = qp0; cases qp0 <;> kernel_rfl) ?_
  refine d_take ⟨[E3, (E9 r8), E10, E20, E21, E26, E27, E32, E33, E38, E39, E44, E45, E46, E48, E49, E50, E51, E54, E55, E56, E57, E58, E61, E62, E63, E64, E65, E103, E104, E105, E106, E107, E108], [B5, B12], H12⟩ (by generalize r8 = qp0; cases qp0 <;> kernel_rfl) ?_
  refine d_take ⟨[E3, (E9 r8), E10, E20, E21, E26, E27, E32, E33, E38, E39, E44, E45, E46, E48, E49, E50, E51, E54, E55, E56, E57, E58, E61, E62, E63, E64, E65, E103, E104, E105, E106, E107, E108, E109], [B5, B12], H12⟩ (by generalize r8 = qp0; cases qp0 <;> kernel_rfl) ?_
  refine d_take ⟨[E3, (E9 r8), E10, E20, E21, E26, E27, E32, E33, E38, E39, E44, E45, E46, E48, E49, E50, E51, E54, E55, E56, E57, E58, E61, E62, E63, E64, E65, E103, E104, E105, E106, E107, E108, E109, E110], [B5, B12], H12⟩ (by generalize r8 = qp0; cases qp0 <;> kernel_rfl) ?_
  refine d_take ⟨[E3, (E9 r8), E10, E20, E21, E26, E27, E32, E33, E38, E39, E44, E45, E46, E48, E49, E50, E51, E54, E55, E56, E57, E58, E61, E62, E63, E64, E65, E103, E104, E105, E106, E107, E108, E109, E110, E111], [B5, B12], H12⟩ (by generalize r8 = qp0; cases qp0 <;> kernel_rfl) ?_
  refine d_last ⟨[E3, (E9 r8), E10, E20, E21, E26, E27, E32, E33, E38, E39, E44, E45, E46, E48, E49, E50, E51, E54, E55, E56, E57, E58, E61, E62, E63, E64, E65, E103, E104, E105, E106, E107, E108, E112, E109, E110, E111], [B5, B12], H12⟩ (by generalize r8 = qp0; cases qp0 <;> kernel_rfl) ?_
  refine d_last ⟨[E3, (E9 r8), E10, E20, E21, E26, E27, E32, E33, E38, E39, E44, E45, E46, E48, E49, E50, E51, E54, E55, E56, E57, E58, E61, E62, E63, E64, E65, E103, E104, E105, E106, E107, E108, E112, E109, E110, E111, E113], [B5, B12], H12⟩ (by generalize r8 = qp0; cases qp0 <;> kernel_rfl) ?_
  refine d_take ⟨[E3, (E9 r8), E10, E20, E21, E26, E27, E32, E33, E38, E39, E44, E45, E46, E48, E49, E50, E51, E54, E55, E56, E57, E58, E61, E62, E63, E64, E65, E103, E104, E105, E106, E107, E108, E112, E109, E110, E111, E113, E114], [B5, B12], H12⟩ (by generalize r8 = qp0; cases qp0 <;> kernel_rfl) ?_
  refine d_take ⟨[E3, (E9 r8), E10, E20, E21, E26, E27, E32, E33, E38, E39, E44, E45, E46, E48, E49, E50, E51, E54, E55, E56, E57, E58, E61, E62, E63, E64, E65, E103, E104, E105, E106, E107, E108, E112, E109, E110, E111, E113, E114, E93], [B5, B12], H12⟩ (by generalize r8 = qp0; cases qp0 <;> kernel_rfl) ?_
  refine d_take ⟨[E3, (E9 r8), E10, E20, E21, E26, E27, E32, E33, E38, E39, E44, E45, E46, E48, E49, E50, E51, E54, E55, E56, E57, E58, E61, E62, E63, E64, E65, E103, E104, E105, E106, E107, E108, E112, E109, E110, E111, E113, E114, E93, E94], [B5, B12], H12⟩ (by generalize r8 = qp0; cases qp0 <;> kernel_rfl) ?_
  refine d_take ⟨[E3, (E9 r8), E10, E20, E21, E26, E27, E32, E33, E38, E39, E44, E45, E46, E48, E49, E50, E51, E54, E55, E56, E57, E58, E61, E62, E63, E64, E65, E103, E104, E105, E106, E107, E108, E112, E109, E110, E111, E113, E114, E93, E94, E95], [B5, B12], H12⟩ (by generalize r8 = qp0; cases qp0 <;> kernel_rfl) ?_
  refine d_take ⟨[E3, (E9 r8), E10, E20, E21, E26, E27, E32, E33, E38, E39, E44, E45, E46, E48, E49, E50, E51, E54, E55, E56, E57, E58, E61, E62, E63, E64, E65, E103, E104, E105, E106, E107, E108, E112, E109, E110, E111, E113, E114, E93, E94, E95, E96], [B5, B12], H12⟩ (by generalize r8 = qp0; cases qp0 <;> kernel_rfl) ?_
  refine d_take ⟨[E3, (E9 r8), E10, E20, E21, E26, E27, E32, E33, E38, E39, E44, E45, E46, E48, E49, E50, E51, E54, E55, E56, E57, E58, E61, E62, E63, E64, E65, E103, E104, E105, E106, E107, E108, E112, E109, E110, E111, E113, E114, E93, E94, E95, E96, E97], [B5, B12], H12⟩ (by generalize r8 = qp0; cases qp0 <;> kernel_rfl) ?_
  refine d_take ⟨[E3, (E9 r8), E10, E20, E21, E26, E27, E32, E33, E38, E39, E44, E45, E46, E48, E49, E50, E51, E54, E55, E56, E57, E58, E61, E62, E63, E64, E65, E103, E104, E105, E106, E107, E108, E112, E109, E110, E111, E113, E114, E93, E94, E95, E96, E97, E98], [B5, B12], H12⟩ (by generalize r8 = qp0; cases qp0 <;> kernel_rfl) ?_
  refine d_last ⟨[E3, (E9 r8), E10, E20, E21, E26, E27, E32, E33, E38, E39, E44, E45, E46, E48, E49, E50, E51, E54, E55, E56, E57, E58, E61, E62, E63, E64, E65, E103, E104, E105, E106, E107, E108, E112, E109, E110, E111, E113, E114, E93, E94, E95, E96, E99, E97, E98], [B5, B12], H12⟩ (by generalize r8 = qp0; cases qp0 <;> kernel_rfl) ?_
  refine d_last ⟨[E3, (E9 r8), E10, E20, E21, E26, E27, E32, E33, E38, E39, E44, E45, E46, E48, E49, E50, E51, E54, E55, E56, E57, E58, E61, E62, E63, E64, E65, E103, E104, E105, E106, E107, E108, E112, E109, E110, E111, E113, E114, E93, E94, E95, E96, E99, E97, E98, E100], [B5, B12], H12⟩ (by generalize r8 = qp0; cases qp0 <;> kernel_rfl) ?_
  refine d_take ⟨[E3, (E9 r8), E10, E20, E21, E26, E27, E32, E33, E38, E39, E44, E45, E46, E48, E49, E50, E51, E54, E55, E56, E57, E58, E61, E62, E63, E64, E65, E103, E104, E105, E106, E107, E108, E112, E109, E110, E111, E113, E114, E93, E94, E95, E96, E99, E97, E98, E100, E101], [B5, B12], H12⟩ (by generalize r8 = qp0; cases qp0 <;> kernel_rfl) ?_
  refine d_take ⟨[E3, (E9 r8), E10, E20, E21, E26, E27, E32, E33, E38, E39, E44, E45, E46, E48, E49, E50, E51, E54, E55, E56, E57, E58, E61, E62, E63, E64, E65, E103, E104, E105, E106, E107, E108, E112, E109, E110, E111, E113, E114, E93, E94, E95, E96, E99, E97, E98, E100, E101, E102], [B5, B12], H12⟩ (by generalize r8 = qp0; cases qp0 <;> kernel_rfl) ?_
  refine d_take ⟨[E3, E6, (E9 r8), E10, E20, E21, E26, E27, E32, E33, E38, E39, E44, E45, E46, E48, E49, E50, E51, E54, E55, E56, E57, E58, E61, E62, E63, E64, E65, E103, E104, E105, E106, E107, E108, E112, E109, E110, E111, E113, E114, E93, E94, E95, E96, E99, E97, E98, E100, E101, E102], [B5, B12], H12⟩ (by generalize r8 = qp0; cases qp0 <;> kernel_rfl) ?_
  cases hB41
  exact d_end (by kernel_rfl)
  refine d_eq (congrArg (fun q => (⟨[E3, (E9 r8), E10, E20, E21, E26, E27, E32, E33, E38, E39, E44, E45, E46, E48, E49, E50, E51, E54, E55, E56, E57, E58, (81, .one .top (.bool q)), (82, .one .top (.bool q)), (83, .one .top (.bool q))], [B5, B12], H12⟩ : St)) h29) ?_
  refine d_take ⟨[E3, (E9 r8), E10, E20, E21, E26, E27, E32, E33, E38, E39, E44, E45, E46, E48, E49, E50, E51, E54, E55, E56, E57, E58, E115, E116, E117, E118], [B5, B12], H12⟩ (by generalize r8 = qp0; cases qp0 <;> kernel_rfl) ?_
  refine d_take ⟨[E3, (E9 r8), E10, E20, E21, E26, E27, E32, E33, E38, E39, E44, E45, E46, E48, E49, E50, E51, E54, E55, E56, E57, E58, E115, E116, E117, E118, E119], [B5, B12], H12⟩ (by generalize r8 = qp0; cases qp0 <;> kernel_rfl) ?_
  refine d_take ⟨[E3, (E9 r8), E10, E20, E21, E26, E27, E32, E33, E38, E39, E44, E45, E46, E48, E49, E50, E51, E54, E55, E56, E57, E58, E115, E116, E117, E118, E119, E120], [B5, B12], H12⟩ (by generalize r8 = qp0; cases qp0 <;> kernel_rfl) ?_
  refine d_take ⟨[E3, (E9 r8), E10, E20, E21, E26, E27, E32, E33, E38, E39, E44, E45, E46, E48, E49, E50, E51, E54, E55, E56, E57, E58, E115, E116, E117, E118, E119, E120, E104], [B5, B12], H12⟩ (by generalize r8 = qp0; cases qp0 <;> kernel_rfl) ?_
  refine d_take ⟨[E3, (E9 r8), E10, E20, E21, E26, E27, E32, E33, E38, E39, E44, E45, E46, E48, E49, E50, E51, E54, E55, E56, E57, E58, E115, E116, E117, E118, E119, E120, E104, E105], [B5, B12], H12⟩ (by generalize r8 = qp0; cases qp0 <;> kernel_rfl) ?_
  refine d_take ⟨[E3, (E9 r8), E10, E20, E21, E26, E27, E32, E33, E38, E39, E44, E45, E46, E48, E49, E50, E51, E54, E55, E56, E57, E58, E115, E116, E117, E118, E119, E120, E104, E105, E106], [B5, B12], H12⟩ (by generalize r8 = qp0; cases qp0 <;> kernel_rfl) ?_
  refine d_take ⟨[E3, (E9 r8), E10, E20, E21, E26, E27, E32, E33, E38, E39, E44, E45, E46, E48, E49, E50, E51, E54, E55, E56, E57, E58, E115, E116, E117, E118, E119, E120, E104, E105, E106, E107], [B5, B12], H12⟩ (by generalize r8 = qp0; cases qp0 <;> kernel_rfl) ?_
  refine d_take ⟨[E3, (E9 r8), E10, E20, E21, E26, E27, E32, E33, E38, E39, E44, E45, E46, E48, E49, E50, E51, E54, E55, E56, E57, E58, E115, E116, E117, E118, E119, E120, E104, E105, E106, E107, E108], [B5, B12], H12⟩ (by generalize r8 = qp0; cases qp0 <;> kernel_rfl) ?_
  refine d_take ⟨[E3, (E9 r8), E10, E20, E21, E26, E27, E32, E33, E38, E39, E44, E45, E46, E48, E49, E50, E51, E54, E55, E56, E57, E58, E115, E116, E117, E118, E119, E120, E104, E105, E106, E107, E108, E109], [B5, B12], H12⟩ (by generalize r8 = qp0; cases qp0 <;> kernel_rfl) ?_
  refine d_take ⟨[E3, (E9 r8), E10, E20, E21, E26, E27, E32, E33, E38, E39, E44, E45, E46, E48, E49, E50, E51, E54, E55, E56, E57, E58, E115, E116, E117, E118, E119, E120, E104, E105, E106, E107, E108, E109, E110], [B5, B12], H12⟩ (by generalize r8 = qp0; cases qp0 <;> kernel_rfl) ?_
  refine d_take ⟨[E3, (E9 r8), E10, E20, E21, E26, E27, E32, E33, E38, E39, E44, E45, E46, E48, E49, E50, E51, E54, E55, E56, E57, E58, E115, E116, E117, E118, E119, E120, E104, E105, E106, E107, E108, E109, E110, E111], [B5, B12], H12⟩ (by generalize r8 = qp0; cases qp0 <;> kernel_rfl) ?_
  refine d_last ⟨[E3, (E9 r8), E10, E20, E21, E26, E27, E32, E33, E38, E39, E44, E45, E46, E48, E49, E50, E51, E54, E55, E56, E57, E58, E115, E116, E117, E118, E119, E120, E104, E105, E106, E107, E108, E112, E109, E110, E111], [B5, B12], H12⟩ (by generalize r8 = qp0; cases qp0 <;> kernel_rfl) ?_
  refine d_last ⟨[E3, (E9 r8), E10, E20, E21, E26, E27, E32, E33, E38, E39, E44, E45, E46, E48, E49, E50, E51, E54, E55, E56, E57, E58, E115, E116, E117, E118, E119, E120, E104, E105, E106, E107, E108, E112, E109, E110, E111, E113], [B5, B12], H12⟩ (by generalize r8 = qp0; cases qp0 <;> kernel_rfl) ?_
  refine d_take ⟨[E3, (E9 r8), E10, E20, E21, E26, E27, E32, E33, E38, E39, E44, E45, E46, E48, E49, E50, E51, E54, E55, E56, E57, E58, E115, E116, E117, E118, E119, E120, E104, E105, E106, E107, E108, E112, E109, E110, E111, E113, E114], [B5, B12], H12⟩ (by generalize r8 = qp0; cases qp0 <;> kernel_rfl) ?_
  refine d_take ⟨[E3, (E9 r8), E10, E20, E21, E26, E27, E32, E33, E38, E39, E44, E45, E46, E48, E49, E50, E51, E54, E55, E56, E57, E58, E115, E116, E117, E118, E119, E120, E104, E105, E106, E107, E108, E112, E109, E110, E111, E113, E114, E93], [B5, B12], H12⟩ (by generalize r8 = qp0; cases qp0 <;> kernel_rfl) ?_
  refine d_take ⟨[E3, (E9 r8), E10, E20, E21, E26, E27, E32, E33, E38, E39, E44, E45, E46, E48, E49, E50, E51, E54, E55, E56, E57, E58, E115, E116, E117, E118, E119, E120, E104, E105, E106, E107, E108, E112, E109, E110, E111, E113, E114, E93, E94], [B5, B12], H12⟩ (by generalize r8 = qp0; cases qp0 <;> kernel_rfl) ?_
  refine d_take ⟨[E3, (E9 r8), E10, E20, E21, E26, E27, E32, E33, E38, E39, E44, E45, E46, E48, E49, E50, E51, E54, E55, E56, E57, E58, E115, E116, E117, E118, E119, E120, E104, E105, E106, E107, E108, E112, E109, E110, E111, E113, E114, E93, E94, E95], [B5, B12], H12⟩ (by generalize r8 = qp0; cases qp0 <;> kernel_rfl) ?_
  refine d_take ⟨[E3, (E9 r8), E10, E20, E21, E26, E27, E32, E33, E38, E39, E44, E45, E46, E48, E49, E50, E51, E54, E55, E56, E57, E58, E115, E116, E117, E118, E119, E120, E104, E105, E106, E107, E108, E112, E109, E110, E111, E113, E114, E93, E94, E95, E96], [B5, B12], H12⟩ (by generalize r8 = qp0; cases qp0 <;> kernel_rfl) ?_
  refine d_take ⟨[E3, (E9 r8), E10, E20, E21, E26, E27, E32, E33, E38, E39, E44, E45, E46, E48, E49, E50, E51, E54, E55, E56, E57, E58, E115, E116, E117, E118, E119, E120, E104, E105, E106, E107, E108, E112, E109, E110, E111, E113, E114, E93, E94, E95, E96, E97], [B5, B12], H12⟩ (by generalize r8 = qp0; cases qp0 <;> kernel_rfl) ?_
  refine d_take ⟨[E3, (E9 r8), E10, E20, E21, E26, E27, E32, E33, E38, E39, E44, E45, E46, E48, E49, E50, E51, E54, E55, E56, E57, E58, E115, E116, E117, E118, E119, E120, E104, E105, E106, E107, E108, E112, E109, E110, E111, E113, E114, E93, E94, E95, E96, E97, E98], [B5, B12], H12⟩ (by generalize r8 = qp0; cases qp0 <;> kernel_rfl) ?_
  refine d_last ⟨[E3, (E9 r8), E10, E20, E21, E26, E27, E32, E33, E38, E39, E44, E45, E46, E48, E49, E50, E51, E54, E55, E56, E57, E58, E115, E116, E117, E118, E119, E120, E104, E105, E106, E107, E108, E112, E109, E110, E111, E113, E114, E93, E94, E95, E96, E99, E97, E98], [B5, B12], H12⟩ (by generalize r8 = qp0; cases qp0 <;> kernel_rfl) ?_
  refine d_last ⟨[E3, (E9 r8), E10, E20, E21, E26, E27, E32, E33, E38, E39, E44, E45, E46, E48, E49, E50, E51, E54, E55, E56, E57, E58, E115, E116, E117, E118, E119, E120, E104, E105, E106, E107, E108, E112, E109, E110, E111, E113, E114, E93, E94, E95, E96, E99, E97, E98, E100], [B5, B12], H12⟩ (by generalize r8 = qp0; cases qp0 <;> kernel_rfl) ?_
  refine d_take ⟨[E3, (E9 r8), E10, E20, E21, E26, E27, E32, E33, E38, E39, E44, E45, E46, E48, E49, E50, E51, E54, E55, E56, E57, E58, E115, E116, E117, E118, E119, E120, E104, E105, E106, E107, E108, E112, E109, E110, E111, E113, E114, E93, E94, E95, E96, E99, E97, E98, E100, E101], [B5, B12], H12⟩ (by generalize r8 = qp0; cases qp0 <;> kernel_rfl) ?_
  refine d_take ⟨[E3, (E9 r8), E10, E20, E21, E26, E27, E32, E33, E38, E39, E44, E45, E46, E48, E49, E50, E51, E54, E55, E56, E57, E58, E115, E116, E117, E118, E119, E120, E104, E105, E106, E107, E108, E112, E109, E110, E111, E113, E114, E93, E94, E95, E96, E99, E97, E98, E100, E101, E102], [B5, B12], H12⟩ (by generalize r8 = qp0; cases qp0 <;> kernel_rfl) ?_
  refine d_take ⟨[E3, E6, (E9 r8), E10, E20, E21, E26, E27, E32, E33, E38, E39, E44, E45, E46, E48, E49, E50, E51, E54, E55, E56, E57, E58, E115, E116, E117, E118, E119, E120, E104, E105, E106, E107, E108, E112, E109, E110, E111, E113, E114, E93, E94, E95, E96, E99, E97, E98, E100, E101, E102], [B5, B12], H12⟩ (by generalize r8 = qp0; cases qp0 <;> kernel_rfl) ?_
  cases hB41
  exact d_end (by kernel_rfl)
  refine d_eq (congrArg (fun q => (⟨[E3, (E9 r8), E10, E20, E21, E26, E27, E32, E33, E38, E39, E44, E45, E46, E48, E49, E50, E51, (76, .one .top (.bool q)), (77, .one .top (.bool q)), (78, .one .top (.bool q))], [B5, B12], H12⟩ : St)) h28) ?_
  refine d_take ⟨[E3, (E9 r8), E10, E20, E21, E26, E27, E32, E33, E38, E39, E44, E45, E46, E48, E49, E50, E51, E121, E122, E123, E124], [B5, B12], H12⟩ (by generalize r8 = qp0; cases qp0 <;> kernel_rfl) ?_
  refine d_take ⟨[E3, (E9 r8), E10, E20, E21, E26, E27, E32, E33, E38, E39, E44, E45, E46, E48, E49, E50, E51, E121, E122, E123, E124, E125], [B5, B12], H12⟩ (by generalize r8 = qp0; cases qp0 <;> kernel_rfl) ?_
  refine d_take ⟨[E3, (E9 r8), E10, E20, E21, E26, E27, E32, E33, E38, E39, E44, E45, E46, E48, E49, E50, E51, E121, E122, E123, E124, E125, E126], [B5, B12], H12⟩ (by generalize r8 = qp0; cases qp0 <;> kernel_rfl) ?_
  refine d_take ⟨[E3, (E9 r8), E10, E20, E21, E26, E27, E32, E33, E38, E39, E44, E45, E46, E48, E49, E50, E51, E121, E122, E123, E124, E125, E126, E116], [B5, B12], H12⟩ (by generalize r8 = qp0; cases qp0 <;> kernel_rfl) ?_
  refine d_take ⟨[E3, (E9 r8), E10, E20, E21, E26, E27, E32, E33, E38, E39, E44, E45, E46, E48, E49, E50, E51, E121, E122, E123, E124, E125, E126, E116, E117], [B5, B12], H12⟩ (by generalize r8 = qp0; cases qp0 <;> kernel_rfl) ?_
  refine d_take ⟨[E3, (E9 r8), E10, E20, E21, E26, E27, E32, E33, E38, E39, E44, E45, E46, E48, E49, E50, E51, E121, E122, E123, E124, E125, E126, E116, E117, E118], [B5, B12], H12⟩ (by generalize r8 = qp0; cases qp0 <;> kernel_rfl) ?_
  refine d_take ⟨[E3, (E9 r8), E10, E20, E21, E26, E27, E32, E33, E38, E39, E44, E45, E46, E48, E49, E50, E51, E121, E122, E123, E124, E125, E126, E116, E117, E118, E119], [B5, B12], H12⟩ (by generalize r8 = qp0; cases qp0 <;> kernel_rfl) ?_
  refine d_take ⟨[E3, (E9 r8), E10, E20, E21, E26, E27, E32, E33, E38, E39, E44, E45, E46, E48, E49, E50, E51, E121, E122, E123, E124, E125, E126, E116, E117, E118, E119, E120], [B5, B12], H12⟩ (by generalize r8 = qp0; cases qp0 <;> kernel_rfl) ?_
  refine d_take ⟨[E3, (E9 r8), E10, E20, E21, E26, E27, E32, E33, E38, E39, E44, E45, E46, E48, E49, E50, E51, E121, E122, E123, E124, E125, E126, E116, E117, E118, E119, E120, E104], [B5, B12], H12⟩ (by generalize r8 = qp0; cases qp0 <;> kernel_rfl) ?_
  refine d_take ⟨[E3, (E9 r8), E10, E20, E21, E26, E27, E32, E33, E38, E39, E44, E45, E46, E48, E49, E50, E51, E121, E122, E123, E124, E125, E126, E116, E117, E118, E119, E120, E104, E105], [B5, B12], H12⟩ (by generalize r8 = qp0; cases qp0 <;> kernel_rfl) ?_
  refine d_take ⟨[E3, (E9 r8), E10, E20, E21, E26, E27, E32, E33, E38, E39, E44, E45, E46, E48, E49, E50, E51, E121, E122, E123, E124, E125, E126, E116, E117, E118, E119, E120, E104, E105, E106], [B5, B12], H12⟩ (by generalize r8 = qp0; cases qp0 <;> kernel_rfl) ?_
  refine d_take ⟨[E3, (E9 r8), E10, E20, E21, E26, E27, E32, E33, E38, E39, E44, E45, E46, E48, E49, E50, E51, E121, E122, E123, E124, E125, E126, E116, E117, E118, E119, E120, E104, E105, E106, E107], [B5, B12], H12⟩ (by generalize r8 = qp0; cases qp0 <;> kernel_rfl) ?_
  refine d_take ⟨[E3, (E9 r8), E10, E20, E21, E26, E27, E32, E33, E38, E39, E44, E45, E46, E48, E49, E50, E51, E121, E122, E123, E124, E125, E126, E116, E117, E118, E119, E120, E104, E105, E106, E107, E108], [B5, B12], H12⟩ (by generalize r8 = qp0; cases qp0 <;> kernel_rfl) ?_
  refine d_take ⟨[E3, (E9 r8), E10, E20, E21, E26, E27, E32, E33, E38, E39, E44, E45, E46, E48, E49, E50, E51, E121, E122, E123, E124, E125, E126, E116, E117, E118, E119, E120, E104, E105, E106, E107, E108, E109], [B5, B12], H12⟩ (by generalize r8 = qp0; cases qp0 <;> kernel_rfl) ?_
  refine d_take ⟨[E3, (E9 r8), E10, E20, E21, E26, E27, E32, E33, E38, E39, E44, E45, E46, E48, E49, E50, E51, E121, E122, E123, E124, E125, E126, E116, E117, E118, E119, E120, E104, E105, E106, E107, E108, E109, E110], [B5, B12], H12⟩ (by generalize r8 = qp0; cases qp0 <;> kernel_rfl) ?_
  refine d_take ⟨[E3, (E9 r8), E10, E20, E21, E26, E27, E32, E33, E38, E39, E44, E45, E46, E48, E49, E50, E51, E121, E122, E123, E124, E125, E126, E116, E117, E118, E119, E120, E104, E105, E106, E107, E108, E109, E110, E111], [B5, B12], H12⟩ (by generalize r8 = qp0; cases qp0 <;> kernel_rfl) ?_
  refine d_last ⟨[E3, (E9 r8), E10, E20, E21, E26, E27, E32, E33, E38, E39, E44, E45, E46, E48, E49, E50, E51, E121, E122, E123, E124, E125, E126, E116, E117, E118, E119, E120, E104, E105, E106, E107, E108, E112, E109, E110, E111], [B5, B12], H12⟩ (by generalize r8 = qp0; cases qp0 <;> kernel_rfl) ?_
  refine d_last ⟨[E3, (E9 r8), E10, E20, E21, E26, E27, E32, E33, E38, E39, E44, E45, E46, E48, E49, E50, E51, E121, E122, E123, E124, E125, E126, E116, E117, E118, E119, E120, E104, E105, E106, E107, E108, E112, E109, E110, E111, E113], [B5, B12], H12⟩ (by generalize r8 = qp0; cases qp0 <;> kernel_rfl) ?_
  refine d_take ⟨[E3, (E9 r8), E10, E20, E21, E26, E27, E32, E33, E38, E39, E44, E45, E46, E48, E49, E50, E51, E121, E122, E123, E124, E125, E126, E116, E117, E118, E119, E120, E104, E105, E106, E107, E108, E112, E109, E110, E111, E113, E114], [B5, B12], H12⟩ (by generalize r8 = qp0; cases qp0 <;> kernel_rfl) ?_
  refine d_take ⟨[E3, (E9 r8), E10, E20, E21, E26, E27, E32, E33, E38, E39, E44, E45, E46, E48, E49, E50, E51, E121, E122, E123, E124, E125, E126, E116, E117, E118, E119, E120, E104, E105, E106, E107, E108, E112, E109, E110, E111, E113, E114, E93], [B5, B12], H12⟩ (by generalize r8 = qp0; cases qp0 <;> kernel_rfl) ?_
  refine d_take ⟨[E3, (E9 r8), E10, E20, E21, E26, E27, E32, E33, E38, E39, E44, E45, E46, E48, E49, E50, E51, E121, E122, E123, E124, E125, E126, E116, E117, E118, E119, E120, E104, E105, E106, E107, E108, E112, E109, E110, E111, E113, E114, E93, E94], [B5, B12], H12⟩ (by generalize r8 = qp0; cases qp0 <;> kernel_rfl) ?_
  refine d_take ⟨[E3, (E9 r8), E10, E20, E21, E26, E27, E32, E33, E38, E39, E44, E45, E46, E48, E49, E50, E51, E121, E122, E123, E124, E125, E126, E116, E117, E118, E119, E120, E104, E105, E106, E107, E108, E112, E109, E110, E111, E113, E114, E93, E94, E95], [B5, B12], H12⟩ (by generalize r8 = qp0; cases qp0 <;> kernel_rfl) ?_
  refine d_take ⟨[E3, (E9 r8), E10, E20, E21, E26, E27, E32, E33, E38, E39, E44, E45, E46, E48, E49, E50, E51, E121, E122, E123, E124, E125, E126, E116, E117, E118, E119, E120, E104, E105, E106, E107, E108, E112, E109, E110, E111, E113, E114, E93, E94, E95, E96], [B5, B12], H12⟩ (by generalize r8 = qp0; cases qp0 <;> kernel_rfl) ?_
  refine d_take ⟨[E3, (E9 r8), E10, E20, E21, E26, E27, E32, E33, E38, E39, E44, E45, E46, E48, E49, E50, E51, E121, E122, E123, E124, E125, E126, E116, E117, E118, E119, E120, E104, E105, E106, E107, E108, E112, E109, E110, E111, E113, E114, E93, E94, E95, E96, E97], [B5, B12], H12⟩ (by generalize r8 = qp0; cases qp0 <;> kernel_rfl) ?_
  refine d_take ⟨[E3, (E9 r8), E10, E20, E21, E26, E27, E32, E33, E38, E39, E44, E45, E46, E48, E49, E50, E51, E121, E122, E123, E124, E125, E126, E116, E117, E118, E119, E120, E104, E105, E106, E107, E108, E112, E109, E110, E111, E113, E114, E93, E94, E95, E96, E97, E98], [B5, B12], H12⟩ (by generalize r8 = qp0; cases qp0 <;> kernel_rfl) ?_
  refine d_last ⟨[E3, (E9 r8), E10, E20, E21, E26, E27, E32, E33, E38, E39, E44, E45, E46, E48, E49, E50, E51, E121, E122, E123, E124, E125, E126, E116, E117, E118, E119, E120, E104, E105, E106, E107, E108, E112, E109, E110, E111, E113, E114, E93, E94, E95, E96, E99, E97, E98], [B5, B12], H12⟩ (by generalize r8 = qp0; cases qp0 <;> kernel_rfl) ?_
  refine d_last ⟨[E3, (E9 r8), E10, E20, E21, E26, E27, E32, E33, E38, E39, E44, E45, E46, E48, E49, E50, E51, E121, E122, E123, E124, E125, E126, E116, E117, E118, E119, E120, E104, E105, E106, E107, E108, E112, E109, E110, E111, E113, E114, E93, E94, E95, E96, E99, E97, E98, E100], [B5, B12], H12⟩ (by generalize r8 = qp0; cases qp0 <;> kernel_rfl) ?_
  refine d_take ⟨[E3, (E9 r8), E10, E20, E21, E26, E27, E32, E33, E38, E39, E44, E45, E46, E48, E49, E50, E51, E121, E122, E123, E124, E125, E126, E116, E117, E118, E119, E120, E104, E105, E106, E107, E108, E112, E109, E110, E111, E113, E114, E93, E94, E95, E96, E99, E97, E98, E100, E101], [B5, B12], H12⟩ (by generalize r8 = qp0; cases qp0 <;> kernel_rfl) ?_
  refine d_take ⟨[E3, (E9 r8), E10, E20, E21, E26, E27, E32, E33, E38, E39, E44, E45, E46, E48, E49, E50, E51, E121, E122, E123, E124, E125, E126, E116, E117, E118, E119, E120, E104, E105, E106, E107, E108, E112, E109, E110, E111, E113, E114, E93, E94, E95, E96, E99, E97, E98, E100, E101, E102], [B5, B12], H12⟩ (by generalize r8 = qp0; cases qp0 <;> kernel_rfl) ?_
  refine d_take ⟨[E3, E6, (E9 r8), E10, E20, E21, E26, E27, E32, E33, E38, E39, E44, E45, E46, E48, E49, E50, E51, E121, E122, E123, E124, E125, E126, E116, E117, E118, E119, E120, E104, E105, E106, E107, E108, E112, E109, E110, E111, E113, E114, E93, E94, E95, E96, E99, E97, E98, E100, E101, E102], [B5, B12], H12⟩ (by generalize r8 = qp0; cases qp0 <;> kernel_rfl) ?_
  cases hB41
  exact d_end (by kernel_rfl)
  refine d_eq (congrArg (fun q => (⟨[E3, (E9 r8), E10, E20, E21, E26, E27, E32, E33, E38, E39, E44, E45, E46, (72, .one .top (.bool q)), (73, .one .top (.bool q))], [B5, B12], H12⟩ : St)) h27) ?_
  refine d_take ⟨[E3, (E9 r8), E10, E20, E21, E26, E27, E32, E33, E38, E39, E44, E45, E46, E127, E128, E129], [B5, B12], H12⟩ (by generalize r8 = qp0; cases qp0 <;> kernel_rfl) ?_
  refine d_take ⟨[E3, (E9 r8), E10, E20, E21, E26, E27, E32, E33, E38, E39, E44, E45, E46, E127, E128, E129, E130], [B5, B12], H12⟩ (by generalize r8 = qp0; cases qp0 <;> kernel_rfl) ?_
  refine d_take ⟨[E3, (E9 r8), E10, E20, E21, E26, E27, E32, E33, E38, E39, E44, E45, E46, E127, E128, E129, E130, E131], [B5, B12], H12⟩ (by generalize r8 = qp0; cases qp0 <;> kernel_rfl) ?_
  refine d_take ⟨[E3, (E9 r8), E10, E20, E21, E26, E27, E32, E33, E38, E39, E44, E45, E46, E127, E128, E129, E130, E131, E122], [B5, B12], H12⟩ (by generalize r8 = qp0; cases qp0 <;> kernel_rfl) ?_
  refine d_take ⟨[E3, (E9 r8), E10, E20, E21, E26, E27, E32, E33, E38, E39, E44, E45, E46, E127, E128, E129, E130, E131, E122, E123], [B5, B12], H12⟩ (by generalize r8 = qp0; cases qp0 <;> kernel_rfl) ?_
  refine d_take ⟨[E3, (E9 r8), E10, E20, E21, E26, E27, E32, E33, E38, E39, E44, E45, E46, E127, E128, E129, E130, E131, E122, E123, E124], [B5, B12], H12⟩ (by generalize r8 = qp0; cases qp0 <;> kernel_rfl) ?_
  refine d_take ⟨[E3, (E9 r8), E10, E20, E21, E26, E27, E32, E33, E38, E39, E44, E45, E46, E127, E128, E129, E130, E131, E122, E123, E124, E125], [B5, B12], H12⟩ (by generalize r8 = qp0; cases qp0 <;> kernel_rfl) ?_
  refine d_take ⟨[E3, (E9 r8), E10, E20, E21, E26, E27, E32, E33, E38, E39, E44, E45, E46, E127, E128, E129, E130, E131, E122, E123, E124, E125, E126], [B5, B12], H12⟩ (by generalize r8 = qp0; cases qp0 <;> kernel_rfl) ?_
  refine d_take ⟨[E3, (E9 r8), E10, E20, E21, E26, E27, E32, E33, E38, E39, E44, E45, E46, E127, E128, E129, E130, E131, E122, E123, E124, E125, E126, E116], [B5, B12], H12⟩ (by generalize r8 = qp0; cases qp0 <;> kernel_rfl) ?_
  refine d_take ⟨[E3, (E9 r8), E10, E20, E21, E26, E27, E32, E33, E38, E39, E44, E45, E46, E127, E128, E129, E130, E131, E122, E123, E124, E125, E126, E116, E117], [B5, B12], H12⟩ (by generalize r8 = qp0; cases qp0 <;> kernel_rfl) ?_
  refine d_take ⟨[E3, (E9 r8), E10, E20, E21, E26, E27, E32, E33, E38, E39, E44, E45, E46, E127, E128, E129, E130, E131, E122, E123, E124, E125, E126, E116, E117, E118], [B5, B12], H12⟩ (by generalize r8 = qp0; cases qp0 <;> kernel_rfl) ?_
  refine d_take ⟨[E3, (E9 r8), E10, E20, E21, E26, E27, E32, E33, E38, E39, E44, E45, E46, E127, E128, E129, E130, E131, E122, E123, E124, E125, E126, E116, E117, E118, E119], [B5, B12], H12⟩ (by generalize r8 = qp0; cases qp0 <;> kernel_rfl) ?_
  refine d_take ⟨[E3, (E9 r8), E10, E20, E21, E26, E27, E32, E33, E38, E39, E44, E45, E46, E127, E128, E129, E130, E131, E122, E123, E124, E125, E126, E116, E117, E118, E119, E120], [B5, B12], H12⟩ (by generalize r8 = qp0; cases qp0 <;> kernel_rfl) ?_
  refine d_take ⟨[E3, (E9 r8), E10, E20, E21, E26, E27, E32, E33, E38, E39, E44, E45, E46, E127, E128, E129, E130, E131, E122, E123, E124, E125, E126, E116, E117, E118, E119, E120, E104], [B5, B12], H12⟩ (by generalize r8 = qp0; cases qp0 <;> kernel_rfl) ?_
  refine d_take ⟨[E3, (E9 r8), E10, E20, E21, E26, E27, E32, E33, E38, E39, E44, E45, E46, E127, E128, E129, E130, E131, E122, E123, E124, E125, E126, E116, E117, E118, E119, E120, E104, E105], [B5, B12], H12⟩ (by generalize r8 = qp0; cases qp0 <;> kernel_rfl) ?_
  refine d_take ⟨[E3, (E9 r8), E10, E20, E21, E26, E27, E32, E33, E38, E39, E44, E45, E46, E127, E128, E129, E130, E131, E122, E123, E124, E125, E126, E116, E117, E118, E119, E120, E104, E105, E106], [B5, B12], H12⟩ (by generalize r8 = qp0; cases qp0 <;> kernel_rfl) ?_
  refine d_take ⟨[E3, (E9 r8), E10, E20, E21, E26, E27, E32, E33, E38, E39, E44, E45, E46, E127, E128, E129, E130, E131, E122, E123, E124, E125, E126, E116, E117, E118, E119, E120, E104, E105, E106, E107], [B5, B12], H12⟩ (by generalize r8 = qp0; cases qp0 <;> kernel_rfl) ?_
  refine d_take ⟨[E3, (E9 r8), E10, E20, E21, E26, E27, E32, E33, E38, E39, E44, E45, E46, E127, E128, E129, E130, E131, E122, E123, E124, E125, E126, E116, E117, E118, E119, E120, E104, E105, E106, E107, E108], [B5, B12], H12⟩ (by generalize r8 = qp0; cases qp0 <;> kernel_rfl) ?_
  refine d_take ⟨[E3, (E9 r8), E10, E20, E21, E26, E27, E32, E33, E38, E39, E44, E45, E46, E127, E128, E129, E130, E131, E122, E123, E124, E125, E126, E116, E117, E118, E119, E120, E104, E105, E106, E107, E108, E109], [B5, B12], H12⟩ (by generalize r8 = qp0; cases qp0 <;> kernel_rfl) ?_
  refine d_take ⟨[E3, (E9 r8), E10, E20, E21, E26, E27, E32, E33, E38, E39, E44, E45, E46, E127, E128, E129, E130, E131, E122, E123, E124, E125, E126, E116, E117, E118, E119, E120, E104, E105, E106, E107, E108, E109, E110], [B5, B12], H12⟩ (by generalize r8 = qp0; cases qp0 <;> kernel_rfl) ?_
  refine d_take ⟨[E3, (E9 r8), E10, E20, E21, E26, E27, E32, E33, E38, E39, E44, E45, E46, E127, E128, E129, E130, E131, E122, E123, E124, E125, E126, E116, E117, E118, E119, E120, E104, E105, E106, E107, E108, E109, E110, E111], [B5, B12], H12⟩ (by generalize r8 = qp0; cases qp0 <;> kernel_rfl) ?_
  refine d_last ⟨[E3, (E9 r8), E10, E20, E21, E26, E27, E32, E33, E38, E39, E44, E45, E46, E127, E128, E129, E130, E131, E122, E123, E124, E125, E126, E116, E117, E118, E119, E120, E104, E105, E106, E107, E108, E112, E109, E110, E111], [B5, B12], H12⟩ (by generalize r8 = qp0; cases qp0 <;> kernel_rfl) ?_
  refine d_last ⟨[E3, (E9 r8), E10, E20, E21, E26, E27, E32, E33, E38, E39, E44, E45, E46, E127, E128, E129, E130, E131, E122, E123, E124, E125, E126, E116, E117, E118, E119, E120, E104, E105, E106, E107, E108, E112, E109, E110, E111, E113], [B5, B12], H12⟩ (by generalize r8 = qp0; cases qp0 <;> kernel_rfl) ?_
  refine d_take ⟨[E3, (E9 r8), E10, E20, E21, E26, E27, E32, E33, E38, E39, E44, E45, E46, E127, E128, E129, E130, E131, E122, E123, E124, E125, E126, E116, E117, E118, E119, E120, E104, E105, E106, E107, E108, E112, E109, E110, E111, E113, E114], [B5, B12], H12⟩ (by generalize r8 = qp0; cases qp0 <;> kernel_rfl) ?_
  refine d_take ⟨[E3, (E9 r8), E10, E20, E21, E26, E27, E32, E33, E38, E39, E44, E45, E46, E127, E128, E129, E130, E131, E122, E123, E124, E125, E126, E116, E117, E118, E119, E120, E104, E105, E106, E107, E108, E112, E109, E110, E111, E113, E114, E93], [B5, B12], H12⟩ (by generalize r8 = qp0; cases qp0 <;> kernel_rfl) ?_
  refine d_take ⟨[E3, (E9 r8), E10, E20, E21, E26, E27, E32, E33, E38, E39, E44, E45, E46, E127, E128, E129, E130, E131, E122, E123, E124, E125, E126, E116, E117, E118, E119, E120, E104, E105, E106, E107, E108, E112, E109, E110, E111, E113, E114, E93, E94], [B5, B12], H12⟩ (by generalize r8 = qp0; cases qp0 <;> kernel_rfl) ?_
  refine d_take ⟨[E3, (E9 r8), E10, E20, E21, E26, E27, E32, E33, E38, E39, E44, E45, E46, E127, E128, E129, E130, E131, E122, E123, E124, E125, E126, E116, E117, E118, E119, E120, E104, E105, E106, E107, E108, E112, E109, E110, E111, E113, E114, E93, E94, E95], [B5, B12], H12⟩ (by generalize r8 = qp0; cases qp0 <;> kernel_rfl) ?_
  refine d_take ⟨[E3, (E9 r8), E10, E20, E21, E26, E27, E32, E33, E38, E39, E44, E45, E46, E127, E128, E129, E130, E131, E122, E123, E124, E125, E126, E116, E117, E118, E119, E120, E104, E105, E106, E107, E108, E112, E109, E110, E111, E113, E114, E93, E94, E95, E96], [B5, B12], H12⟩ (by generalize r8 = qp0; cases qp0 <;> kernel_rfl) ?_
  refine d_take ⟨[E3, (E9 r8), E10, E20, E21, E26, E27, E32, E33, E38, E39, E44, E45, E46, E127, E128, E129, E130, E131, E122, E123, E124, E125, E126, E116, E117, E118, E119, E120, E104, E105, E106, E107, E108, E112, E109, E110, E111, E113, E114, E93, E94, E95, E96, E97], [B5, B12], H12⟩ (by generalize r8 = qp0; cases qp0 <;> kernel_rfl) ?_
  refine d_take ⟨[E3, (E9 r8), E10, E20, E21, E26, E27, E32, E33, E38, E39, E44, E45, E46, E127, E128, E129, E130, E131, E122, E123, E124, E125, E126, E116, E117, E118, E119, E120, E104, E105, E106, E107, E108, E112, E109, E110, E111, E113, E114, E93, E94, E95, E96, E97, E98], [B5, B12], H12⟩ (by generalize r8 = qp0; cases qp0 <;> kernel_rfl) ?_
  refine d_last ⟨[E3, (E9 r8), E10, E20, E21, E26, E27, E32, E33, E38, E39, E44, E45, E46, E127, E128, E129, E130, E131, E122, E123, E124, E125, E126, E116, E117, E118, E119, E120, E104, E105, E106, E107, E108, E112, E109, E110, E111, E113, E114, E93, E94, E95, E96, E99, E97, E98], [B5, B12], H12⟩ (by generalize r8 = qp0; cases qp0 <;> kernel_rfl) ?_
  refine d_last ⟨[E3, (E9 r8), E10, E20, E21, E26, E27, E32, E33, E38, E39, E44, E45, E46, E127, E128, E129, E130, E131, E122, E123, E124, E125, E126, E116, E117, E118, E119, E120, E104, E105, E106, E107, E108, E112, E109, E110, E111, E113, E114, E93, E94, E95, E96, E99, E97, E98, E100], [B5, B12], H12⟩ (by generalize r8 = qp0; cases qp0 <;> kernel_rfl) ?_
  refine d_take ⟨[E3, (E9 r8), E10, E20, E21, E26, E27, E32, E33, E38, E39, E44, E45, E46, E127, E128, E129, E130, E131, E122, E123, E124, E125, E126, E116, E117, E118, E119, E120, E104, E105, E106, E107, E108, E112, E109, E110, E111, E113, E114, E93, E94, E95, E96, E99, E97, E98, E100, E101], [B5, B12], H12⟩ (by generalize r8 = qp0; cases qp0 <;> kernel_rfl) ?_
  refine d_take ⟨[E3, (E9 r8), E10, E20, E21, E26, E27, E32, E33, E38, E39, E44, E45, E46, E127, E128, E129, E130, E131, E122, E123, E124, E125, E126, E116, E117, E118, E119, E120, E104, E105, E106, E107, E108, E112, E109, E110, E111, E113, E114, E93, E94, E95, E96, E99, E97, E98, E100, E101, E102], [B5, B12], H12⟩ (by generalize r8 = qp0; cases qp0 <;> kernel_rfl) ?_
  refine d_take ⟨[E3, E6, (E9 r8), E10, E20, E21, E26, E27, E32, E33, E38, E39, E44, E45, E46, E127, E128, E129, E130, E131, E122, E123, E124, E125, E126, E116, E117, E118, E119, E120, E104, E105, E106, E107, E108, E112, E109, E110, E111, E113, E114, E93, E94, E95, E96, E99, E97, E98, E100, E101, E102], [B5, B12], H12⟩ (by generalize r8 = qp0; cases qp0 <;> kernel_rfl) ?_
  cases hB41
  exact d_end (by kernel_rfl)
  refine w_ret ?_
  obtain ⟨e0, e1⟩ := some2_inv hF
  subst e0
  subst e1
  exact fin_imp (v := .one .top (.bool w40)) (by kernel_rfl) (by kernel_rfl) (by kernel_rfl)
end Go.Proofs.Abs
