/- The law MemoryTells: whatever the input, it answers true. No conditions. (Part MemoryTellsF0 of its proof.) -/
import Derived.Test.YtdfdjhimecmkfaaMemoryTellsX
set_option linter.unusedVariables false
set_option linter.unusedSimpArgs false
set_option linter.unusedSectionVars false
/- Printed by gen (walk.py). -/
namespace Go.Proofs.Abs
open Go Go.Proofs
set_option linter.unusedVariables false
set_option maxRecDepth 100000
set_option maxHeartbeats 0
noncomputable def memory_Layout_ends  (p0 : T_memory_Layout) : Option ((Arr 5 Int)) :=
  some (arrL [p0.Code_, p0.Tables_, p0.Data_, p0.Heap_, p0.Stack_] : Arr 5 Int)
theorem ok_memory_Layout_ends (H : Heap) {p0 : T_memory_Layout} {ra : (Arr 5 Int)} (hF : memory_Layout_ends p0 = some ra) : evS X 71 [.agg (m0_memory_Layout p0)] H = some (.agg [(.top, .int .u32 (ra.g 0)), (.top, .int .u32 (ra.g 1)), (.top, .int .u32 (ra.g 2)), (.top, .int .u32 (ra.g 3)), (.top, .int .u32 (ra.g 4))], H) := by
  refine w_fun Try.func71 rfl (by kernel_rfl) true (by kernel_rfl) (s0 := (⟨[(0, .agg (m0_memory_Layout p0))], [], H⟩ : St)) (by kernel_rfl) ?_
  unfold memory_Layout_ends at hF
  refine w_seq ?_
  refine w_reg ⟨[(1, .one .top (.loc 1 0)), (2, .one .top (.loc 2 0))], [(1, (m0_memory_Layout p0)), (2, [(.top, .int .u32 0), (.top, .int .u32 0), (.top, .int .u32 0), (.top, .int .u32 0), (.top, .int .u32 0)])], H⟩ (by kernel_rfl) ?_
  refine w_seq ?_
  refine w_reg ⟨[(2, .one .top (.loc 2 0))], [(2, (m0_memory_Layout p0))], H⟩ (by kernel_rfl) ?_
  refine w_ret ?_
  obtain e0 := some1_inv hF
  subst e0
  exact fin_pure (v := .agg (m0_memory_Layout p0)) (by kernel_rfl) (by kernel_rfl) rfl (by kernel_rfl)
noncomputable def memory_Right_L1 (r1 : (Arr 5 Int)) (a3 : Int) (a4 : Int) : Option ((Int × Int) ⊕ (Unit ⊕ Unit)) :=
  if (decide (a4 < 5)) = true then (bind1 (ga r1 a4) fun v6 =>
  if ((decide (v6 < a3)) || (((Int.tmod v6 4) != 0) || (decide (v6 > 1048576)))) = true then (some (Sum.inr (Sum.inr ())))
  else (some (Sum.inl (v6, (IntKind.wrap .i64 (a4 + 1))))))
  else (some (Sum.inr (Sum.inl ())))
noncomputable def memory_Right  (p0 : T_memory_Layout) : Option (Bool) :=
  bind1 (memory_Layout_ends p0) fun r1 =>
  bind1 (loopO (fun (x : (Int × Int)) => memory_Right_L1 r1 x.1 x.2) (0, 0)) (sum2 (fun (_ : Unit) =>
  some true) (fun (_ : Unit) =>
  some false))
theorem ok_memory_Right (H : Heap) {p0 : T_memory_Layout} {ra : Bool} (hF : memory_Right p0 = some ra) : evS X 60 [.agg (m0_memory_Layout p0)] H = some (.one .top (.bool ra), H) := by
  let E1 : Nat × TV := (1, .one .top (.loc 1 0))
  let B2 : Nat × List MC := (1, (m0_memory_Layout p0))
  let E3 : Nat × TV := (3, .one .top (.int .u32 0))
  let E5 : Nat × TV := (6, .agg (m0_memory_Layout p0))
  let E6 : Nat × TV := (2, .one .top (.bool false))
  let E12 : Nat × TV := (13, .one .top (.bool false))
  let E13 : Nat × TV := (14, .one .top (.bool false))
  let S16 : St := ⟨[E1, E3, E5], [B2], H⟩
  let S17 : St := ⟨[], [], H⟩
  let S18 : St := ⟨[E6], [], H⟩
  refine w_fun Try.func60 rfl (by kernel_rfl) true (by kernel_rfl) (s0 := (⟨[(0, .agg (m0_memory_Layout p0))], [], H⟩ : St)) (by kernel_rfl) ?_
  unfold memory_Right at hF
  refine w_seq ?_
  refine w_reg ⟨[E1], [B2], H⟩ (by kernel_rfl) ?_
  refine w_seq ?_
  refine w_reg ⟨[E1, E3], [B2], H⟩ (by kernel_rfl) ?_
  refine w_seq ?_
  refine w_seq ?_
  obtain ⟨r1, c2, hF⟩ := bind1_inv hF
  let E4 : Nat × TV := (7, .agg [(.top, .int .u32 (r1.g 0)), (.top, .int .u32 (r1.g 1)), (.top, .int .u32 (r1.g 2)), (.top, .int .u32 (r1.g 3)), (.top, .int .u32 (r1.g 4))])
  refine w_regO ⟨[E3, E4, (8, .one .top (.int .i64 0))], [], H⟩ ?_ ?_
  refine o_run 1 S16 (by kernel_rfl) (by kernel_rfl) ?_
  refine o_one ⟨[E1, E3, E5, E4], [B2], H⟩ (st_call (d := (some 7)) (fz := false) (pure := true) (own := false) S16 (ok_memory_Layout_ends H c2) (by kernel_rfl) (by kernel_rfl)) ?_
  refine o_run 1 ⟨[E1, E3, E5, E4, (8, .one .top (.int .i64 0))], [B2], H⟩ (by kernel_rfl) (by kernel_rfl) ?_
  exact o_end (by kernel_rfl) (by kernel_rfl)
  refine w_block ?_
  obtain ⟨r11, hL12, hF⟩ := bind1_inv hF
  refine w_loop (fun (x : (Int × Int)) => (⟨[(3, .one .top (.int .u32 x.1)), E4, (8, .one .top (.int .i64 x.2))], [], H⟩ : St)) (Sum.elim (fun (y : Unit) => ((.exit 0, S17) : Ex × St)) (fun (y : Unit) => ((.ret, S18) : Ex × St))) hL12 (by kernel_rfl) ?_ ?_
  rintro ⟨a3, a4⟩ o hF
  replace hF : memory_Right_L1 r1 a3 a4 = some o := hF
  let E7 : Nat × TV := (3, .one .top (.int .u32 a3))
  let E8 : Nat × TV := (8, .one .top (.int .i64 a4))
  let E11 : Nat × TV := (12, .one .top (.int .u32 a3))
  unfold memory_Right_L1 at hF
  refine w_seq ?_
  refine w_reg ⟨[E7, E4, E8, (9, .one .top (.bool (decide (a4 < 5))))], [], H⟩ (by kernel_rfl) ?_
  refine w_seq ?_
  rcases if_inv hF with ⟨h5, hF⟩ | ⟨h5, hF⟩
  refine w_cT (m := .top) h5 (s1 := (⟨[E7, E4, E8], [], H⟩ : St)) (by kernel_rfl) (by kernel_rfl) ?_
  refine w_skip ?_
  refine w_seq ?_
  refine w_block ?_
  refine w_seq ?_
  obtain ⟨v6, h7, hF⟩ := bind1_inv hF
  let E9 : Nat × TV := (5, .one .top (.int .u32 v6))
  let E10 : Nat × TV := (11, .one .top (.int .u32 v6))
  let E14 : Nat × TV := (15, .one .top (.int .u32 v6))
  let E15 : Nat × TV := (16, .one .top (.int .u32 (Int.tmod v6 4)))
  refine w_regO ⟨[E7, E9, E4, E8], [], H⟩ ?_ ?_
  refine o_one ⟨[E7, E4, E8, (10, .one .top (.int .u32 v6))], [], H⟩ (st_ixV (X := X) (⟨[E7, E4, E8], [], H⟩ : St) 29 22 5 h7 (fun q => .int .u32 q) .i64 [(.top, .int .u32 (r1.g 0)), (.top, .int .u32 (r1.g 1)), (.top, .int .u32 (r1.g 2)), (.top, .int .u32 (r1.g 3)), (.top, .int .u32 (r1.g 4))] (some 10) (by kernel_rfl) (by kernel_rfl) (by kernel_rfl) (by kernel_rfl) (by kernel_rfl) (by kernel_rfl)) ?_
  refine o_run 1 ⟨[E7, E9, E4, E8, (10, .one .top (.int .u32 v6))], [], H⟩ (by kernel_rfl) (by kernel_rfl) ?_
  exact o_end (by kernel_rfl) (by kernel_rfl)
  refine w_seq ?_
  refine w_seq ?_
  refine w_regO ⟨[E9, E4, E8, (22, .one .top (.bool ((decide (v6 < a3)) || (((Int.tmod v6 4) != 0) || (decide (v6 > 1048576))))))], [], H⟩ ?_ ?_
  refine o_run 4 ⟨[E7, E9, E4, E8, E10, E11, (13, .one .top (.bool (decide (v6 < a3)))), (14, .one .top (.bool (decide (v6 < a3))))], [], H⟩ (by kernel_rfl) (by kernel_rfl) ?_
  rcases bool_cases (decide (v6 < a3)) with h8 | h8
  refine o_eq (congrArg (fun q => (⟨[E7, E9, E4, E8, E10, E11, (13, .one .top (.bool q)), (14, .one .top (.bool q))], [], H⟩ : St)) h8) ?_
  refine o_run 8 ⟨[E7, E9, E4, E8, E10, E11, (13, .one .top (.bool true)), (14, .one .top (.bool true)), (15, .tup []), (16, .tup []), (17, .tup []), (18, .one .top (.bool true)), (19, .one .top (.bool true)), (20, .tup []), (21, .tup []), (22, .one .top (.bool true))], [], H⟩ (by kernel_rfl) (by kernel_rfl) ?_
  refine o_eq2 (congrArg (fun q0 => (⟨[E9, E4, E8, (22, .one .top (.bool q0))], [], H⟩ : St)) (show true = ((decide (v6 < a3)) || (((Int.tmod v6 4) != 0) || (decide (v6 > 1048576)))) by simp [h8])) ?_
  exact o_end (by kernel_rfl) (by kernel_rfl)
  refine o_eq (congrArg (fun q => (⟨[E7, E9, E4, E8, E10, E11, (13, .one .top (.bool q)), (14, .one .top (.bool q))], [], H⟩ : St)) h8) ?_
  refine o_run 5 ⟨[E7, E9, E4, E8, E10, E11, E12, E13, E14, E15, (17, .one .top (.bool ((Int.tmod v6 4) != 0))), (18, .one .top (.bool ((Int.tmod v6 4) != 0))), (19, .one .top (.bool ((Int.tmod v6 4) != 0)))], [], H⟩ (by kernel_rfl) (by kernel_rfl) ?_
  rcases bool_cases ((Int.tmod v6 4) != 0) with h9 | h9
  refine o_eq (congrArg (fun q => (⟨[E7, E9, E4, E8, E10, E11, E12, E13, E14, E15, (17, .one .top (.bool q)), (18, .one .top (.bool q)), (19, .one .top (.bool q))], [], H⟩ : St)) h9) ?_
  refine o_run 3 ⟨[E7, E9, E4, E8, E10, E11, E12, E13, E14, E15, (17, .one .top (.bool true)), (18, .one .top (.bool true)), (19, .one .top (.bool true)), (20, .tup []), (21, .tup []), (22, .one .top (.bool true))], [], H⟩ (by kernel_rfl) (by kernel_rfl) ?_
  refine o_eq2 (congrArg (fun q0 => (⟨[E9, E4, E8, (22, .one .top (.bool q0))], [], H⟩ : St)) (show true = ((decide (v6 < a3)) || (((Int.tmod v6 4) != 0) || (decide (v6 > 1048576)))) by simp [h8, h9])) ?_
  exact o_end (by kernel_rfl) (by kernel_rfl)
  refine o_eq (congrArg (fun q => (⟨[E7, E9, E4, E8, E10, E11, E12, E13, E14, E15, (17, .one .top (.bool q)), (18, .one .top (.bool q)), (19, .one .top (.bool q))], [], H⟩ : St)) h9) ?_
  refine o_run 3 ⟨[E7, E9, E4, E8, E10, E11, E12, E13, E14, E15, (17, .one .top (.bool false)), (18, .one .top (.bool false)), (19, .one .top (.bool false)), (20, .one .top (.int .u32 v6)), (21, .one .top (.bool (decide (v6 > 1048576)))), (22, .one .top (.bool (decide (v6 > 1048576))))], [], H⟩ (by kernel_rfl) (by kernel_rfl) ?_
  refine o_eq2 (congrArg (fun q0 => (⟨[E9, E4, E8, (22, .one .top (.bool q0))], [], H⟩ : St)) (show (decide (v6 > 1048576)) = ((decide (v6 < a3)) || (((Int.tmod v6 4) != 0) || (decide (v6 > 1048576)))) by simp [h8, h9])) ?_
  exact o_end (by kernel_rfl) (by kernel_rfl)
  rcases if_inv hF with ⟨h10, hF⟩ | ⟨h10, hF⟩
  refine w_cT (m := .top) h10 (s1 := S17) (by kernel_rfl) (by kernel_rfl) ?_
  refine w_seq ?_
  refine w_reg S18 (by kernel_rfl) ?_
  refine w_ret ?_
  cases hF
  exact ⟨_, rfl, (by kernel_rfl)⟩
  refine w_cF (m := .top) h10 (s1 := (⟨[E9, E4, E8], [], H⟩ : St)) (by kernel_rfl) (by kernel_rfl) ?_
  refine w_skip ?_
  refine w_reg ⟨[(3, .one .top (.int .u32 v6)), E4, E8], [], H⟩ (by kernel_rfl) ?_
  refine w_reg ⟨[(3, .one .top (.int .u32 v6)), E4, (8, .one .top (.int .i64 (IntKind.wrap .i64 (a4 + 1))))], [], H⟩ (by kernel_rfl) ?_
  cases hF
  exact ⟨_, rfl, (by kernel_rfl)⟩
  refine w_cF (m := .top) h5 (s1 := S17) (by kernel_rfl) (by kernel_rfl) ?_
  refine w_exit ?_
  cases hF
  exact ⟨_, rfl, (by kernel_rfl)⟩
  rcases sum2_inv hF with ⟨r11', rfl, hF⟩ | ⟨r11', rfl, hF⟩
  refine w_oe (i := 0) (s := S17) (by kernel_rfl) ?_
  refine e_here ?_
  refine w_seq ?_
  refine w_reg ⟨[(2, .one .top (.bool true))], [], H⟩ (by kernel_rfl) ?_
  refine w_ret ?_
  obtain e0 := some1_inv hF
  subst e0
  exact fin_pure (v := .one .top (.bool true)) (by kernel_rfl) (by kernel_rfl) rfl (by kernel_rfl)
  refine w_or (s := S18) (by kernel_rfl) ?_
  obtain e0 := some1_inv hF
  subst e0
  exact fin_pure (v := .one .top (.bool false)) (by kernel_rfl) (by kernel_rfl) rfl (by kernel_rfl)
noncomputable def memory_New (H : Heap) (p0 : T_memory_Layout) : Option (Heap × Ptr × Int) :=
  bind1 (memory_Right p0) fun r1 =>
  if (!r1) = true then (some (H, Ptr.nil, 33))
  else (bind1 (mks 4 (IntKind.wrap .u32 (Int.tdiv p0.Stack_ 4)) (IntKind.wrap .u32 (Int.tdiv p0.Stack_ 4)) 0) fun v4 =>
  bnd H.length fun i7 =>
  bnd (new_memory_Mem H (T_memory_Mem.mk p0 v4)) fun H6 =>
  some (H6, (Ptr.at i7 0), 0))
theorem ok_memory_New (H : Heap) {p0 : T_memory_Layout} {ra : Ptr} {rb : Int} {Hr : Heap} (hF : memory_New H p0 = some (Hr, ra, rb)) : evS X 57 [.agg (m0_memory_Layout p0)] H = some (.tup [.one .top (Ptr.av ra), .one .top (.int .i64 rb)], Hr) := by
  let E1 : Nat × TV := (1, .one .top (.loc 1 0))
  let B2 : Nat × List MC := (1, (m0_memory_Layout p0))
  let E3 : Nat × TV := (4, .agg (m0_memory_Layout p0))
  let E5 : Nat × TV := (7, .agg (m0_memory_Layout p0))
  let E6 : Nat × TV := (8, .one .top (.loc 1 4))
  let E7 : Nat × TV := (9, .one .top (.int .u32 p0.Stack_))
  let E8 : Nat × TV := (10, .one .top (.int .u32 (IntKind.wrap .u32 (Int.tdiv p0.Stack_ 4))))
  let E9 : Nat × TV := (11, .one .top .junk)
  let E10 : Nat × TV := (12, .agg [(.top, .int .u32 p0.Code_), (.top, .int .u32 p0.Tables_), (.top, .int .u32 p0.Data_), (.top, .int .u32 p0.Heap_), (.top, .int .u32 p0.Stack_), (.top, .junk)])
  let S11 : St := ⟨[E1, E5, E6, E7, E8], [B2], H⟩
  refine w_fun Try.func57 rfl (by kernel_rfl) false (by kernel_rfl) (s0 := (⟨[(0, .agg (m0_memory_Layout p0))], [], H⟩ : St)) (by kernel_rfl) ?_
  unfold memory_New at hF
  refine w_seq ?_
  refine w_reg ⟨[E1], [B2], H⟩ (by kernel_rfl) ?_
  refine w_seq ?_
  refine w_seq ?_
  obtain ⟨r1, c2, hF⟩ := bind1_inv hF
  refine w_regO ⟨[E1, (6, .one .top (.bool (!r1)))], [B2], H⟩ ?_ ?_
  refine o_run 1 ⟨[E1, E3], [B2], H⟩ (by kernel_rfl) (by kernel_rfl) ?_
  refine o_one ⟨[E1, E3, (5, .one .top (.bool r1))], [B2], H⟩ (st_call (d := (some 5)) (fz := false) (pure := true) (own := false) (⟨[E1, E3], [B2], H⟩ : St) (ok_memory_Right H c2) (by kernel_rfl) (by kernel_rfl)) ?_
  refine o_run 1 ⟨[E1, E3, (5, .one .top (.bool r1)), (6, .one .top (.bool (!r1)))], [B2], H⟩ (by kernel_rfl) (by kernel_rfl) ?_
  exact o_end (by kernel_rfl) (by kernel_rfl)
  rcases if_inv hF with ⟨h3, hF⟩ | ⟨h3, hF⟩
  refine w_cT (m := .top) h3 (s1 := (⟨[], [], H⟩ : St)) (by kernel_rfl) (by kernel_rfl) ?_
  refine w_seq ?_
  refine w_reg ⟨[(2, .one .top .nilp), (3, .one .top (.int .i64 33))], [], H⟩ (by kernel_rfl) ?_
  refine w_ret ?_
  obtain ⟨e0, e1, e2⟩ := some3_inv hF
  subst e0
  subst e1
  subst e2
  exact fin_imp (v := .tup [.one .top .nilp, .one .top (.int .i64 33)]) (by kernel_rfl) (by kernel_rfl) (by kernel_rfl)
  refine w_cF (m := .top) h3 (s1 := (⟨[E1], [B2], H⟩ : St)) (by kernel_rfl) (by kernel_rfl) ?_
  refine w_skip ?_
  refine w_seq ?_
  obtain ⟨v4, h5, hF⟩ := bind1_inv hF
  obtain ⟨i7, h9, hF⟩ := bnd_inv hF
  let E4 : Nat × TV := (2, .one .top (.obj i7 0))
  obtain ⟨H6, h8, hF⟩ := bnd_inv hF
  refine w_regD (.take 0 (.take 1 (.take 2 (.take 3 (.last 4 (.take 5 (.last 6 (.take 7 (.take 8 .done))))))))) (by kernel_rfl) (⟨[E4, (3, .one .top (.int .i64 0))], [], H6⟩ : St) ?_ ?_
  refine d_take ⟨[E1, E5], [B2], H⟩ (by kernel_rfl) ?_
  refine d_take ⟨[E1, E5, E6], [B2], H⟩ (by kernel_rfl) ?_
  refine d_take ⟨[E1, E5, E6, E7], [B2], H⟩ (by kernel_rfl) ?_
  refine d_take S11 (by kernel_rfl) ?_
  refine d_last ⟨[E1, E5, E6, E7, E8, (11, .one (.own 1) (.sl 1 (List.map (eI .u32) v4)))], [B2], H⟩ (st_mk (X := X) S11 4 h5 30 22 1 [(.top, .int .u32 0)] (eI .u32) 0 (.u32) (.u32) (some 11) (by kernel_rfl) (by kernel_rfl) (by kernel_rfl) (by kernel_rfl) (by kernel_rfl) (by kernel_rfl) (by kernel_rfl) (by kernel_rfl) (by kernel_rfl) (by kernel_rfl)) ?_
  refine d_take ⟨[E1, E5, E6, E7, E8, E9, (12, .agg [(.top, .int .u32 p0.Code_), (.top, .int .u32 p0.Tables_), (.top, .int .u32 p0.Data_), (.top, .int .u32 p0.Heap_), (.top, .int .u32 p0.Stack_), ((.own 1), .sl 1 (List.map (eI .u32) v4))])], [B2], H⟩ (by kernel_rfl) ?_
  refine d_last ⟨[E1, E5, E6, E7, E8, E9, E10, (13, .one .top (.obj H.length 0))], [B2], (H ++ [[(.top, .int .u32 p0.Code_), (.top, .int .u32 p0.Tables_), (.top, .int .u32 p0.Data_), (.top, .int .u32 p0.Heap_), (.top, .int .u32 p0.Stack_), ((.own 1), .sl 1 (List.map (eI .u32) v4))]])⟩ (by kernel_rfl) ?_
  refine d_eq (congr2 (fun q u => (⟨[E1, E5, E6, E7, E8, E9, E10, (13, .one .top (.obj q 0))], [B2], u⟩ : St)) h9 h8) ?_
  refine d_take ⟨[E1, E4, E5, E6, E7, E8, E9, E10, (13, .one .top (.obj i7 0))], [B2], H6⟩ (by kernel_rfl) ?_
  refine d_take ⟨[E1, E4, (3, .one .top (.int .i64 0)), E5, E6, E7, E8, E9, E10, (13, .one .top (.obj i7 0))], [B2], H6⟩ (by kernel_rfl) ?_
  exact d_end (by kernel_rfl)
  refine w_ret ?_
  obtain ⟨e0, e1, e2⟩ := some3_inv hF
  subst e0
  subst e1
  subst e2
  exact fin_imp (v := .tup [.one .top (.obj i7 0), .one .top (.int .i64 0)]) (by kernel_rfl) (by kernel_rfl) (by kernel_rfl)
noncomputable def memory_Mem_place (H : Heap) (p0 : Ptr) (p1 : Int) : Option (Int × Int) :=
  if ((Int.tmod p1 4) != 0) = true then (some (0, 30))
  else ((p0).bnd fun i2 o3 =>
  bind1 (get_memory_Mem H i2 o3) fun x5 =>
  if (decide (p1 ≥ x5.layout_.Stack_)) = true then (some (0, 31))
  else (some ((IntKind.wrap .i64 (IntKind.wrap .u32 (Int.tdiv p1 4))), 0)))
theorem ok_memory_Mem_place (H : Heap) {p0 : Ptr} {p1 : Int} {ra : Int} {rb : Int} (hF : memory_Mem_place H p0 p1 = some (ra, rb)) : evS X 66 [.one .top (Ptr.av p0), .one .top (.int .u32 p1)] H = some (.tup [.one .top (.int .i64 ra), .one .top (.int .i64 rb)], H) := by
  let E1 : Ptr → Nat × TV := fun z0 => (0, .one .top (Ptr.av z0))
  let E2 : Nat × TV := (1, .one .top (.int .u32 p1))
  let E4 : Nat × TV := (11, .one .top (.int .u32 p1))
  let S11 : Ptr → St := fun z0 => ⟨[(E1 z0), E2], [], H⟩
  refine w_fun Try.func66 rfl (by kernel_rfl) true (by kernel_rfl) (s0 := (S11 p0)) (by kernel_rfl) ?_
  unfold memory_Mem_place at hF
  refine w_seq ?_
  refine w_reg (S11 p0) (by generalize p0 = qp0; cases qp0 <;> kernel_rfl) ?_
  refine w_seq ?_
  refine w_block ?_
  refine w_seq ?_
  refine w_reg ⟨[(E1 p0), E2, (6, .one .top (.bool ((Int.tmod p1 4) != 0)))], [], H⟩ (by generalize p0 = qp0; cases qp0 <;> kernel_rfl) ?_
  rcases if_inv hF with ⟨h1, hF⟩ | ⟨h1, hF⟩
  refine w_cT (m := .top) h1 (s1 := (⟨[], [], H⟩ : St)) (by kernel_rfl) (by kernel_rfl) ?_
  refine w_seq ?_
  refine w_reg ⟨[(4, .one .top (.int .i64 0)), (5, .one .top (.int .i64 30))], [], H⟩ (by kernel_rfl) ?_
  refine w_ret ?_
  obtain ⟨e0, e1⟩ := some2_inv hF
  subst e0
  subst e1
  exact fin_pure (v := .tup [.one .top (.int .i64 0), .one .top (.int .i64 30)]) (by kernel_rfl) (by kernel_rfl) rfl (by kernel_rfl)
  refine w_cF (m := .top) h1 (s1 := (S11 p0)) (by kernel_rfl) (by kernel_rfl) ?_
  refine w_seq ?_
  obtain ⟨i2, o3, h4, hF⟩ := pbnd_inv hF
  let E5 : Nat × TV := (0, .one .top (.obj i2 o3))
  let E6 : Nat × TV := (12, .one .top (.obj i2 o3))
  let E7 : Nat × TV := (13, .one .top (.obj i2 o3))
  let E8 : Nat × TV := (14, .one .top (.obj i2 o3))
  let E9 : Nat × TV := (15, .one .top (.obj i2 (o3 + 4)))
  let S12 : St := ⟨[E5, E2, E4, E6, E7, E8, E9], [], H⟩
  obtain ⟨x5, V6, hF⟩ := bind1_inv hF
  replace V6 := hgetT_inv V6
  let E3 : Nat × TV := (10, .one .top (.bool (decide (p1 ≥ x5.layout_.Stack_))))
  let E10 : Nat × TV := (16, .one .top (.int .u32 x5.layout_.Stack_))
  refine w_regO ⟨[E2, E3], [], H⟩ ?_ ?_
  refine o_run 2 ⟨[(E1 p0), E2, E4, (12, .one .top (Ptr.av p0))], [], H⟩ (by kernel_rfl) (by generalize p0 = qp0; cases qp0 <;> kernel_rfl) ?_
  refine o_eq (congrArg (fun q => (⟨[(0, .one .top (Ptr.av q)), E2, E4, (12, .one .top (Ptr.av q))], [], H⟩ : St)) h4) ?_
  refine o_run 1 ⟨[E5, E2, E4, E6, E7], [], H⟩ (by kernel_rfl) (by kernel_rfl) ?_
  refine o_run 2 S12 (by kernel_rfl) (by kernel_rfl) ?_
  refine o_one ⟨[E5, E2, E4, E6, E7, E8, E9, E10], [], H⟩ (st_ld (X := X) S12 22 V6 4 1 false (.one .top (.int .u32 x5.layout_.Stack_)) (some 16) (by kernel_rfl) (by kernel_rfl) (by kernel_rfl) (by kernel_rfl) (by kernel_rfl) (by kernel_rfl)) ?_
  refine o_run 2 ⟨[E5, E2, E3, E4, E6, E7, E8, E9, E10, (17, .one .top (.bool (decide (p1 ≥ x5.layout_.Stack_))))], [], H⟩ (by kernel_rfl) (by kernel_rfl) ?_
  exact o_end (by kernel_rfl) (by kernel_rfl)
  rcases if_inv hF with ⟨h7, hF⟩ | ⟨h7, hF⟩
  refine w_cT (m := .top) h7 (s1 := (⟨[], [], H⟩ : St)) (by kernel_rfl) (by kernel_rfl) ?_
  refine w_seq ?_
  refine w_reg ⟨[(4, .one .top (.int .i64 0)), (5, .one .top (.int .i64 31))], [], H⟩ (by kernel_rfl) ?_
  refine w_ret ?_
  obtain ⟨e0, e1⟩ := some2_inv hF
  subst e0
  subst e1
  exact fin_pure (v := .tup [.one .top (.int .i64 0), .one .top (.int .i64 31)]) (by kernel_rfl) (by kernel_rfl) rfl (by kernel_rfl)
  refine w_cF (m := .top) h7 (s1 := (⟨[E2], [], H⟩ : St)) (by kernel_rfl) (by kernel_rfl) ?_
  refine w_skip ?_
  refine w_seq ?_
  refine w_reg ⟨[(4, .one .top (.int .i64 (IntKind.wrap .i64 (IntKind.wrap .u32 (Int.tdiv p1 4))))), (5, .one .top (.int .i64 0))], [], H⟩ (by kernel_rfl) ?_
  refine w_ret ?_
  obtain ⟨e0, e1⟩ := some2_inv hF
  subst e0
  subst e1
  exact fin_pure (v := .tup [.one .top (.int .i64 (IntKind.wrap .i64 (IntKind.wrap .u32 (Int.tdiv p1 4)))), .one .top (.int .i64 0)]) (by kernel_rfl) (by kernel_rfl) rfl (by kernel_rfl)
noncomputable def memory_Mem_Store (H : Heap) (p0 : Ptr) (p1 : Int) (p2 : Int) : Option (Heap × Int) :=
  bind2 (memory_Mem_place H p0 p1) fun r1 r2 =>
  if (r2 != 0) = true then (some (H, r2))
  else ((p0).bnd fun i5 o6 =>
  bind1 (get_memory_Mem H i5 o6) fun x8 =>
  if (decide (p1 < x8.layout_.Tables_)) = true then (some (H, 32))
  else (bind1 (gi x8.words_ r1) fun x11 =>
  bind1 (si x8.words_ r1 p2) fun v13 =>
  bnd (set_memory_Mem H i5 o6 (T_memory_Mem.mk x8.layout_ v13)) fun H15 =>
  some (H15, 0)))
theorem ok_memory_Mem_Store (H : Heap) {p0 : Ptr} {p1 : Int} {p2 : Int} {ra : Int} {Hr : Heap} (hF : memory_Mem_Store H p0 p1 p2 = some (Hr, ra)) : evS X 17 [.one .top (Ptr.av p0), .one .top (.int .u32 p1), .one .top (.int .u32 p2)] H = some (.one .top (.int .i64 ra), Hr) := by
  let E1 : Ptr → Nat × TV := fun z0 => (0, .one .top (Ptr.av z0))
  let E2 : Nat × TV := (1, .one .top (.int .u32 p1))
  let E3 : Nat × TV := (2, .one .top (.int .u32 p2))
  let E6 : Ptr → Nat × TV := fun z0 => (10, .one .top (Ptr.av z0))
  let E7 : Nat × TV := (11, .one .top (.int .u32 p1))
  let E11 : Nat × TV := (20, .one .top (.int .u32 p1))
  let E22 : Nat × TV := (32, .one .top (.int .u32 p2))
  let S24 : Ptr → St := fun z0 => ⟨[(E1 z0), E2, E3], [], H⟩
  let S25 : Ptr → St := fun z0 => ⟨[(E1 z0), E2, E3, (E6 z0), E7], [], H⟩
  refine w_fun Try.func17 rfl (by kernel_rfl) false (by kernel_rfl) (s0 := (S24 p0)) (by kernel_rfl) ?_
  unfold memory_Mem_Store at hF
  refine w_seq ?_
  refine w_reg (S24 p0) (by generalize p0 = qp0; cases qp0 <;> kernel_rfl) ?_
  refine w_seq ?_
  obtain ⟨r1, r2, c3, hF⟩ := bind2_inv hF
  let E4 : Nat × TV := (7, .one .top (.int .i64 r1))
  let E5 : Nat × TV := (8, .one .top (.int .i64 r2))
  let E8 : Nat × TV := (12, .tup [.one .top (.int .i64 r1), .one .top (.int .i64 r2)])
  let E21 : Nat × TV := (31, .one .top (.int .i64 r1))
  refine w_regO ⟨[(E1 p0), E2, E3, E4, E5], [], H⟩ ?_ ?_
  refine o_run 2 (S25 p0) (by kernel_rfl) (by generalize p0 = qp0; cases qp0 <;> kernel_rfl) ?_
  refine o_one ⟨[(E1 p0), E2, E3, (E6 p0), E7, E8], [], H⟩ (st_call (d := (some 12)) (fz := false) (pure := true) (own := false) (S25 p0) (ok_memory_Mem_place H c3) (by generalize p0 = qp0; cases qp0 <;> kernel_rfl) (by generalize p0 = qp0; cases qp0 <;> kernel_rfl)) ?_
  refine o_run 5 ⟨[(E1 p0), E2, E3, E4, E5, (9, .tup [.one .top (.int .i64 r1), .one .top (.int .i64 r2)]), (E6 p0), E7, E8, (13, .one .top (.int .i64 r1)), (14, .one .top (.int .i64 r2))], [], H⟩ (by kernel_rfl) (by generalize p0 = qp0; cases qp0 <;> kernel_rfl) ?_
  exact o_end (by kernel_rfl) (by kernel_rfl)
  refine w_seq ?_
  refine w_block ?_
  refine w_seq ?_
  refine w_reg ⟨[(E1 p0), E2, E3, E4, E5, (15, .one .top (.bool (r2 != 0)))], [], H⟩ (by generalize p0 = qp0; cases qp0 <;> kernel_rfl) ?_
  rcases if_inv hF with ⟨h4, hF⟩ | ⟨h4, hF⟩
  refine w_cT (m := .top) h4 (s1 := (⟨[E5], [], H⟩ : St)) (by kernel_rfl) (by kernel_rfl) ?_
  refine w_seq ?_
  refine w_reg ⟨[(6, .one .top (.int .i64 r2))], [], H⟩ (by kernel_rfl) ?_
  refine w_ret ?_
  obtain ⟨e0, e1⟩ := some2_inv hF
  subst e0
  subst e1
  exact fin_imp (v := .one .top (.int .i64 r2)) (by kernel_rfl) (by kernel_rfl) (by kernel_rfl)
  refine w_cF (m := .top) h4 (s1 := (⟨[(E1 p0), E2, E3, E4], [], H⟩ : St)) (by kernel_rfl) (by kernel_rfl) ?_
  refine w_seq ?_
  obtain ⟨i5, o6, h7, hF⟩ := pbnd_inv hF
  let E9 : Nat × TV := (0, .one .top (.obj i5 o6))
  let E12 : Nat × TV := (21, .one .top (.obj i5 o6))
  let E13 : Nat × TV := (22, .one .top (.obj i5 o6))
  let E14 : Nat × TV := (23, .one .top (.obj i5 o6))
  let E15 : Nat × TV := (24, .one .top (.obj i5 (o6 + 1)))
  let E17 : Nat × TV := (27, .one .top (.obj i5 o6))
  let E18 : Nat × TV := (28, .one .top (.obj i5 o6))
  let E19 : Nat × TV := (29, .one .top (.obj i5 (o6 + 5)))
  let E23 : Nat × TV := (33, .one .top (.el (.obj i5 (o6 + 5)) (Int.toNat r1) 0))
  let S26 : St := ⟨[E9, E2, E3, E4, E11, E12, E13, E14, E15], [], H⟩
  let S27 : St := ⟨[E9, E3, E4, E17, E18, E19], [], H⟩
  obtain ⟨x8, V9, hF⟩ := bind1_inv hF
  replace V9 := hgetT_inv V9
  let E10 : Nat × TV := (19, .one .top (.bool (decide (p1 < x8.layout_.Tables_))))
  let E16 : Nat × TV := (25, .one .top (.int .u32 x8.layout_.Tables_))
  let E20 : Nat × TV := (30, .one .top (.at_ (.obj i5 (o6 + 5)) 0 ((List.map (eI .u32) x8.words_).length)))
  let S28 : St := ⟨[E9, E3, E4, E17, E18, E19, E20, E21, E22], [], H⟩
  let S29 : St := ⟨[E9, E3, E4, E17, E18, E19, E20, E21, E22, E23], [], H⟩
  refine w_regO ⟨[E9, E3, E4, E10], [], H⟩ ?_ ?_
  refine o_run 2 ⟨[(E1 p0), E2, E3, E4, E11, (21, .one .top (Ptr.av p0))], [], H⟩ (by kernel_rfl) (by generalize p0 = qp0; cases qp0 <;> kernel_rfl) ?_
  refine o_eq (congrArg (fun q => (⟨[(0, .one .top (Ptr.av q)), E2, E3, E4, E11, (21, .one .top (Ptr.av q))], [], H⟩ : St)) h7) ?_
  refine o_run 1 ⟨[E9, E2, E3, E4, E11, E12, E13], [], H⟩ (by kernel_rfl) (by kernel_rfl) ?_
  refine o_run 2 S26 (by kernel_rfl) (by kernel_rfl) ?_
  refine o_one ⟨[E9, E2, E3, E4, E11, E12, E13, E14, E15, E16], [], H⟩ (st_ld (X := X) S26 22 V9 1 1 false (.one .top (.int .u32 x8.layout_.Tables_)) (some 25) (by kernel_rfl) (by kernel_rfl) (by kernel_rfl) (by kernel_rfl) (by kernel_rfl) (by kernel_rfl)) ?_
  refine o_run 2 ⟨[E9, E2, E3, E4, E10, E11, E12, E13, E14, E15, E16, (26, .one .top (.bool (decide (p1 < x8.layout_.Tables_))))], [], H⟩ (by kernel_rfl) (by kernel_rfl) ?_
  exact o_end (by kernel_rfl) (by kernel_rfl)
  rcases if_inv hF with ⟨h10, hF⟩ | ⟨h10, hF⟩
  refine w_cT (m := .top) h10 (s1 := (⟨[], [], H⟩ : St)) (by kernel_rfl) (by kernel_rfl) ?_
  refine w_seq ?_
  refine w_reg ⟨[(6, .one .top (.int .i64 32))], [], H⟩ (by kernel_rfl) ?_
  refine w_ret ?_
  obtain ⟨e0, e1⟩ := some2_inv hF
  subst e0
  subst e1
  exact fin_imp (v := .one .top (.int .i64 32)) (by kernel_rfl) (by kernel_rfl) (by kernel_rfl)
  refine w_cF (m := .top) h10 (s1 := (⟨[E9, E3, E4], [], H⟩ : St)) (by kernel_rfl) (by kernel_rfl) ?_
  refine w_skip ?_
  refine w_seq ?_
  obtain ⟨x11, h12, hF⟩ := bind1_inv hF
  obtain ⟨v13, h14, hF⟩ := bind1_inv hF
  let S30 : St := ⟨[E9, E3, E4, E17, E18, E19, E20, E21, E22, E23], [], (hset H i5 o6 [(.top, .int .u32 x8.layout_.Code_), (.top, .int .u32 x8.layout_.Tables_), (.top, .int .u32 x8.layout_.Data_), (.top, .int .u32 x8.layout_.Heap_), (.top, .int .u32 x8.layout_.Stack_), ((.own 1), .sl 1 (List.map (eI .u32) v13))])⟩
  obtain ⟨H15, h16, hF⟩ := bnd_inv hF
  have V17 : hget H15 i5 o6 6 = some (o_memory_Mem (T_memory_Mem.mk x8.layout_ v13)) := by rw [← h16]; exact hset_get V9 rfl
  refine w_regO ⟨[], [], H15⟩ ?_ ?_
  refine o_run 3 S27 (by kernel_rfl) (by kernel_rfl) ?_
  refine o_one ⟨[E9, E3, E4, E17, E18, E19, E20], [], H⟩ (st_ldP (X := X) S27 30 V9 5 0 1 (List.map (eI .u32) x8.words_) (some 30) (by kernel_rfl) (by kernel_rfl) (by kernel_rfl) (by kernel_rfl) (by kernel_rfl) (by kernel_rfl)) ?_
  refine o_run 2 S28 (by kernel_rfl) (by kernel_rfl) ?_
  refine o_one S29 (st_ixA (X := X) S28 30 22 1 h12 (eI .u32) (.obj i5 (o6 + 5)) 0 (List.map (eI .u32) x8.words_).length 0 (some 33) (by kernel_rfl) (by kernel_rfl) (by kernel_rfl) (at_obj (k := 5) (c := ((.own 1), .sl 1 (List.map (eI .u32) x8.words_))) V9 (by kernel_rfl) (by kernel_rfl)) rfl (List.length_map _) (by kernel_rfl)) ?_
  refine o_one S30 (st_stE (X := X) S29 S30 ⟨false, []⟩ 22 (.obj i5 (o6 + 5)) (Int.toNat r1) 0 1 0 (List.map (eI .u32) x8.words_) [.int .u32 x11] ((eI .u32) p2) (List.map (eI .u32) v13) 1 (.one .top (.int .u32 p2)) (by kernel_rfl) (by kernel_rfl) (by kernel_rfl) (by kernel_rfl) (by kernel_rfl) (at_obj (k := 5) (c := ((.own 1), .sl 1 (List.map (eI .u32) x8.words_))) V9 (by kernel_rfl) (by kernel_rfl)) (el_at h12) (by kernel_rfl) (by kernel_rfl) (el_put h14) (root_obj (k := 5) V9 (by kernel_rfl) (hset_sub0 V9 (Nat.le_of_ble_eq_true rfl))) (by kernel_rfl)) ?_
  refine o_eq (congrArg (fun q => (⟨[E9, E3, E4, E17, E18, E19, E20, E21, E22, E23], [], q⟩ : St)) h16) ?_
  exact o_end (by kernel_rfl) (by kernel_rfl)
  refine w_seq ?_
  refine w_reg ⟨[(6, .one .top (.int .i64 0))], [], H15⟩ (by kernel_rfl) ?_
  refine w_ret ?_
  obtain ⟨e0, e1⟩ := some2_inv hF
  subst e0
  subst e1
  exact fin_imp (v := .one .top (.int .i64 0)) (by kernel_rfl) (by kernel_rfl) (by kernel_rfl)
noncomputable def memory_Mem_Part_L1 (r6 : (Arr 5 Int)) (p1 : Int) (a8 : Int) : Option ((Int) ⊕ (Unit ⊕ (Int))) :=
  if (decide (a8 < 5)) = true then (bind1 (ga r6 a8) fun v10 =>
  if (decide (p1 < v10)) = true then (some (Sum.inr (Sum.inr a8)))
  else (some (Sum.inl (IntKind.wrap .i64 (a8 + 1)))))
  else (some (Sum.inr (Sum.inl ())))
noncomputable def memory_Mem_Part (H : Heap) (p0 : Ptr) (p1 : Int) : Option (Int) :=
  (p0).bnd fun i1 o2 =>
  bind1 (get_memory_Mem H i1 o2) fun x4 =>
  bind1 (memory_Layout_ends x4.layout_) fun r6 =>
  bind1 (loopO (fun (x : (Int)) => memory_Mem_Part_L1 r6 p1 x) 0) (sum2 (fun (_ : Unit) =>
  some 5) (fun b15 =>
  some b15))
theorem ok_memory_Mem_Part (H : Heap) {p0 : Ptr} {p1 : Int} {ra : Int} (hF : memory_Mem_Part H p0 p1 = some ra) : evS X 27 [.one .top (Ptr.av p0), .one .top (.int .u32 p1)] H = some (.one .top (.int .i64 ra), H) := by
  let E1 : Ptr → Nat × TV := fun z0 => (0, .one .top (Ptr.av z0))
  let E2 : Nat × TV := (1, .one .top (.int .u32 p1))
  let S12 : Ptr → St := fun z0 => ⟨[(E1 z0), E2], [], H⟩
  let S15 : St := ⟨[], [], H⟩
  refine w_fun Try.func27 rfl (by kernel_rfl) true (by kernel_rfl) (s0 := (S12 p0)) (by kernel_rfl) ?_
  unfold memory_Mem_Part at hF
  refine w_seq ?_
  refine w_reg (S12 p0) (by generalize p0 = qp0; cases qp0 <;> kernel_rfl) ?_
  refine w_seq ?_
  refine w_seq ?_
  obtain ⟨i1, o2, h3, hF⟩ := pbnd_inv hF
  let E4 : Nat × TV := (0, .one .top (.obj i1 o2))
  let E5 : Nat × TV := (7, .one .top (.obj i1 o2))
  let E6 : Nat × TV := (8, .one .top (.obj i1 o2))
  let E7 : Nat × TV := (9, .one .top (.obj i1 o2))
  let S13 : St := ⟨[E4, E2, E5, E6, E7], [], H⟩
  obtain ⟨x4, V5, hF⟩ := bind1_inv hF
  replace V5 := hgetT_inv V5
  let E8 : Nat × TV := (10, .agg [(.top, .int .u32 x4.layout_.Code_), (.top, .int .u32 x4.layout_.Tables_), (.top, .int .u32 x4.layout_.Data_), (.top, .int .u32 x4.layout_.Heap_), (.top, .int .u32 x4.layout_.Stack_)])
  let S14 : St := ⟨[E4, E2, E5, E6, E7, E8], [], H⟩
  obtain ⟨r6, c7, hF⟩ := bind1_inv hF
  let E3 : Nat × TV := (11, .agg [(.top, .int .u32 (r6.g 0)), (.top, .int .u32 (r6.g 1)), (.top, .int .u32 (r6.g 2)), (.top, .int .u32 (r6.g 3)), (.top, .int .u32 (r6.g 4))])
  refine w_regO ⟨[E2, E3, (12, .one .top (.int .i64 0))], [], H⟩ ?_ ?_
  refine o_run 1 ⟨[(E1 p0), E2, (7, .one .top (Ptr.av p0))], [], H⟩ (by kernel_rfl) (by generalize p0 = qp0; cases qp0 <;> kernel_rfl) ?_
  refine o_eq (congrArg (fun q => (⟨[(0, .one .top (Ptr.av q)), E2, (7, .one .top (Ptr.av q))], [], H⟩ : St)) h3) ?_
  refine o_run 1 ⟨[E4, E2, E5, E6], [], H⟩ (by kernel_rfl) (by kernel_rfl) ?_
  refine o_run 1 S13 (by kernel_rfl) (by kernel_rfl) ?_
  refine o_one S14 (st_ld (X := X) S13 24 V5 0 5 true (.agg [(.top, .int .u32 x4.layout_.Code_), (.top, .int .u32 x4.layout_.Tables_), (.top, .int .u32 x4.layout_.Data_), (.top, .int .u32 x4.layout_.Heap_), (.top, .int .u32 x4.layout_.Stack_)]) (some 10) (by kernel_rfl) (by kernel_rfl) (by kernel_rfl) (by kernel_rfl) (by kernel_rfl) (by kernel_rfl)) ?_
  refine o_one ⟨[E4, E2, E5, E6, E7, E8, E3], [], H⟩ (st_call (d := (some 11)) (fz := false) (pure := true) (own := false) S14 (ok_memory_Layout_ends H c7) (by kernel_rfl) (by kernel_rfl)) ?_
  refine o_run 1 ⟨[E4, E2, E5, E6, E7, E8, E3, (12, .one .top (.int .i64 0))], [], H⟩ (by kernel_rfl) (by kernel_rfl) ?_
  exact o_end (by kernel_rfl) (by kernel_rfl)
  refine w_block ?_
  obtain ⟨r13, hL14, hF⟩ := bind1_inv hF
  refine w_loop (fun (x : (Int)) => (⟨[E2, E3, (12, .one .top (.int .i64 x))], [], H⟩ : St)) (Sum.elim (fun (y : Unit) => ((.exit 0, S15) : Ex × St)) (fun (y : (Int)) => ((.ret, (⟨[(4, .one .top (.int .i64 y))], [], H⟩ : St)) : Ex × St))) hL14 (by kernel_rfl) ?_ ?_
  rintro a8 o hF
  replace hF : memory_Mem_Part_L1 r6 p1 a8 = some o := hF
  let E9 : Nat × TV := (12, .one .top (.int .i64 a8))
  let E10 : Nat × TV := (5, .one .top (.int .i64 a8))
  let E11 : Nat × TV := (14, .one .top (.int .i64 a8))
  let S16 : St := ⟨[E2, E3, E9, E11], [], H⟩
  unfold memory_Mem_Part_L1 at hF
  refine w_seq ?_
  refine w_reg ⟨[E2, E3, E9, (13, .one .top (.bool (decide (a8 < 5))))], [], H⟩ (by kernel_rfl) ?_
  refine w_seq ?_
  rcases if_inv hF with ⟨h9, hF⟩ | ⟨h9, hF⟩
  refine w_cT (m := .top) h9 (s1 := (⟨[E2, E3, E9], [], H⟩ : St)) (by kernel_rfl) (by kernel_rfl) ?_
  refine w_skip ?_
  refine w_seq ?_
  refine w_block ?_
  refine w_seq ?_
  obtain ⟨v10, h11, hF⟩ := bind1_inv hF
  refine w_regO ⟨[E2, E10, (6, .one .top (.int .u32 v10)), E3, E9], [], H⟩ ?_ ?_
  refine o_run 1 S16 (by kernel_rfl) (by kernel_rfl) ?_
  refine o_one ⟨[E2, E3, E9, E11, (15, .one .top (.int .u32 v10))], [], H⟩ (st_ixV (X := X) S16 29 22 5 h11 (fun q => .int .u32 q) .i64 [(.top, .int .u32 (r6.g 0)), (.top, .int .u32 (r6.g 1)), (.top, .int .u32 (r6.g 2)), (.top, .int .u32 (r6.g 3)), (.top, .int .u32 (r6.g 4))] (some 15) (by kernel_rfl) (by kernel_rfl) (by kernel_rfl) (by kernel_rfl) (by kernel_rfl) (by kernel_rfl)) ?_
  refine o_run 2 ⟨[E2, E10, (6, .one .top (.int .u32 v10)), E3, E9, E11, (15, .one .top (.int .u32 v10))], [], H⟩ (by kernel_rfl) (by kernel_rfl) ?_
  exact o_end (by kernel_rfl) (by kernel_rfl)
  refine w_seq ?_
  refine w_reg ⟨[E2, E10, E3, E9, (18, .one .top (.bool (decide (p1 < v10))))], [], H⟩ (by kernel_rfl) ?_
  rcases if_inv hF with ⟨h12, hF⟩ | ⟨h12, hF⟩
  refine w_cT (m := .top) h12 (s1 := (⟨[E10], [], H⟩ : St)) (by kernel_rfl) (by kernel_rfl) ?_
  refine w_seq ?_
  refine w_reg ⟨[(4, .one .top (.int .i64 a8))], [], H⟩ (by kernel_rfl) ?_
  refine w_ret ?_
  cases hF
  exact ⟨_, rfl, (by kernel_rfl)⟩
  refine w_cF (m := .top) h12 (s1 := (⟨[E2, E3, E9], [], H⟩ : St)) (by kernel_rfl) (by kernel_rfl) ?_
  refine w_skip ?_
  refine w_reg ⟨[E2, E3, (12, .one .top (.int .i64 (IntKind.wrap .i64 (a8 + 1))))], [], H⟩ (by kernel_rfl) ?_
  cases hF
  exact ⟨_, rfl, (by kernel_rfl)⟩
  refine w_cF (m := .top) h9 (s1 := S15) (by kernel_rfl) (by kernel_rfl) ?_
  refine w_exit ?_
  cases hF
  exact ⟨_, rfl, (by kernel_rfl)⟩
  rcases sum2_inv hF with ⟨r13', rfl, hF⟩ | ⟨r13', rfl, hF⟩
  refine w_oe (i := 0) (s := S15) (by kernel_rfl) ?_
  refine e_here ?_
  refine w_seq ?_
  refine w_reg ⟨[(4, .one .top (.int .i64 5))], [], H⟩ (by kernel_rfl) ?_
  refine w_ret ?_
  obtain e0 := some1_inv hF
  subst e0
  exact fin_pure (v := .one .top (.int .i64 5)) (by kernel_rfl) (by kernel_rfl) rfl (by kernel_rfl)
  obtain ⟨b15, hy⟩ : ∃ y, y = r13' := ⟨_, rfl⟩
  subst hy
  refine w_or (s := (⟨[(4, .one .top (.int .i64 b15))], [], H⟩ : St)) (by kernel_rfl) ?_
  obtain e0 := some1_inv hF
  subst e0
  exact fin_pure (v := .one .top (.int .i64 b15)) (by kernel_rfl) (by kernel_rfl) rfl (by kernel_rfl)
noncomputable def law03_awake (H : Heap) : Option (Heap × Bool) :=
  bind3 (memory_New H (T_memory_Layout.mk 8 16 32 64 128)) fun H4 r1 r2 =>
  bind2 (if (r2 == 0) = true then (if (!r1.isNil) = true then (bind2 (memory_Mem_Store H4 r1 12 1) fun H9 r7 =>
  if (r7 == 32) = true then (bind1 (memory_Mem_Part H9 r1 64) fun r11 =>
  if (r11 == 4) = true then (some (H9, true)) else (some (H9, false))) else (some (H9, false))) else (some (H4, false))) else (some (H4, false))) fun H15 w14 =>
  some (H15, w14)
theorem ok_law03_awake (H : Heap) {ra : Bool} {Hr : Heap} (hF : law03_awake H = some (Hr, ra)) : evS X 13 [] H = some (.one .top (.bool ra), Hr) := by
  let E3 : Nat × TV := (4, .agg [(.top, .int .u32 8), (.top, .int .u32 16), (.top, .int .u32 32), (.top, .int .u32 64), (.top, .int .u32 128)])
  let E6 : Nat × TV := (9, .one .top (.bool true))
  let E7 : Nat × TV := (10, .one .top (.bool true))
  let E10 : Nat × TV := (12, .one .top (.bool true))
  let E11 : Nat × TV := (13, .one .top (.bool true))
  let E12 : Nat × TV := (14, .one .top (.bool true))
  let E15 : Nat × TV := (17, .one .top (.bool true))
  let E16 : Nat × TV := (18, .one .top (.bool true))
  let E17 : Nat × TV := (19, .one .top (.bool true))
  let E20 : Nat × TV := (0, .one .top (.bool false))
  let E21 : Nat × TV := (23, .one .top (.bool false))
  let E22 : Nat × TV := (24, .one .top (.bool false))
  let E23 : Nat × TV := (25, .one .top (.bool false))
  let E24 : Nat × TV := (26, .one .top (.bool false))
  let E25 : Nat × TV := (27, .one .top (.bool false))
  let E26 : Nat × TV := (28, .one .top (.bool false))
  let E27 : Nat × TV := (29, .one .top (.bool false))
  let E28 : Nat × TV := (30, .one .top (.bool false))
  let E29 : Nat × TV := (31, .one .top (.bool false))
  let E30 : Nat × TV := (32, .one .top (.bool false))
  let E31 : Nat × TV := (33, .one .top (.bool false))
  let E32 : Nat × TV := (18, .one .top (.bool false))
  let E33 : Nat × TV := (19, .one .top (.bool false))
  refine w_fun Try.func13 rfl (by kernel_rfl) false (by kernel_rfl) (s0 := (⟨[], [], H⟩ : St)) (by kernel_rfl) ?_
  unfold law03_awake at hF
  refine w_seq ?_
  refine w_reg ⟨[], [], H⟩ (by kernel_rfl) ?_
  refine w_seq ?_
  obtain ⟨H4, r1, r2, c3, hF⟩ := bind3_inv hF
  let E1 : Ptr → Nat × TV := fun z0 => (1, .one .top (Ptr.av z0))
  let E2 : Nat × TV := (2, .one .top (.int .i64 r2))
  let E4 : Ptr → Nat × TV := fun z0 => (5, .tup [.one .top (Ptr.av z0), .one .top (.int .i64 r2)])
  let E5 : Nat × TV := (8, .one .top (.int .i64 r2))
  let E8 : Ptr → Nat × TV := fun z0 => (11, .one .top (Ptr.av z0))
  let E9 : Ptr → Nat × TV := fun z0 => (12, .one .top (.bool (!z0.isNil)))
  let E13 : Ptr → Nat × TV := fun z0 => (15, .one .top (Ptr.av z0))
  let E18 : Ptr → Nat × TV := fun z0 => (20, .one .top (Ptr.av z0))
  let S34 : Ptr → St := fun z0 => ⟨[(E1 z0), E2, E5, E6, E7, (E8 z0)], [], H4⟩
  let S35 : Ptr → St := fun z0 => ⟨[(E1 z0), E2, E5, E6, E7, (E8 z0), E10, E11, E12, (E13 z0)], [], H4⟩
  refine w_regO ⟨[(E1 r1), E2], [], H4⟩ ?_ ?_
  refine o_run 1 ⟨[E3], [], H⟩ (by kernel_rfl) (by kernel_rfl) ?_
  refine o_one ⟨[E3, (E4 r1)], [], H4⟩ (st_call (d := (some 5)) (fz := false) (pure := false) (own := false) (⟨[E3], [], H⟩ : St) (ok_memory_New H c3) (by generalize r1 = qp0; cases qp0 <;> kernel_rfl) (by generalize r1 = qp0; cases qp0 <;> kernel_rfl)) ?_
  refine o_run 5 ⟨[(E1 r1), E2, (3, .tup [.one .top (Ptr.av r1), .one .top (.int .i64 r2)]), E3, (E4 r1), (6, .one .top (Ptr.av r1)), (7, .one .top (.int .i64 r2))], [], H4⟩ (by kernel_rfl) (by generalize r1 = qp0; cases qp0 <;> kernel_rfl) ?_
  exact o_end (by kernel_rfl) (by kernel_rfl)
  refine w_seq ?_
  obtain ⟨H15, w14, hB16, hF⟩ := bind2_inv hF
  refine w_regO ⟨[(0, .one .top (.bool w14))], [], H15⟩ ?_ ?_
  refine o_run 3 ⟨[(E1 r1), E2, E5, (9, .one .top (.bool (r2 == 0))), (10, .one .top (.bool (r2 == 0)))], [], H4⟩ (by kernel_rfl) (by generalize r1 = qp0; cases qp0 <;> kernel_rfl) ?_
  rcases if_inv hB16 with ⟨h5, hB16⟩ | ⟨h5, hB16⟩
  refine o_eq (congrArg (fun q => (⟨[(E1 r1), E2, E5, (9, .one .top (.bool q)), (10, .one .top (.bool q))], [], H4⟩ : St)) h5) ?_
  refine o_run 1 (S34 r1) (by kernel_rfl) (by generalize r1 = qp0; cases qp0 <;> kernel_rfl) ?_
  refine o_one ⟨[(E1 r1), E2, E5, E6, E7, (E8 r1), (E9 r1)], [], H4⟩ (st_bin (S34 r1) (nil_neq (P := X.P) (ty := 28) (x := (.tmp 11)) (y := (.const (.pointer none))) (m := .top) (m' := .top) r1 (by generalize r1 = qp0; cases qp0 <;> kernel_rfl) (by generalize r1 = qp0; cases qp0 <;> kernel_rfl)) rfl (some 12) (by generalize r1 = qp0; cases qp0 <;> kernel_rfl) (by generalize r1 = qp0; cases qp0 <;> kernel_rfl)) ?_
  refine o_run 2 ⟨[(E1 r1), E2, E5, E6, E7, (E8 r1), (E9 r1), (13, .one .top (.bool (!r1.isNil))), (14, .one .top (.bool (!r1.isNil)))], [], H4⟩ (by kernel_rfl) (by generalize r1 = qp0; cases qp0 <;> kernel_rfl) ?_
  rcases if_inv hB16 with ⟨h6, hB16⟩ | ⟨h6, hB16⟩
  refine o_eq (congrArg (fun q => (⟨[(E1 r1), E2, E5, E6, E7, (E8 r1), (12, .one .top (.bool q)), (13, .one .top (.bool q)), (14, .one .top (.bool q))], [], H4⟩ : St)) h6) ?_
  refine o_run 1 (S35 r1) (by kernel_rfl) (by generalize r1 = qp0; cases qp0 <;> kernel_rfl) ?_
  obtain ⟨H9, r7, c8, hB16⟩ := bind2_inv hB16
  let E14 : Nat × TV := (16, .one .top (.int .i64 r7))
  let S36 : Ptr → St := fun z0 => ⟨[(E1 z0), E2, E5, E6, E7, (E8 z0), E10, E11, E12, (E13 z0), E14, E15, E16, E17, (E18 z0)], [], H9⟩
  refine o_one ⟨[(E1 r1), E2, E5, E6, E7, (E8 r1), E10, E11, E12, (E13 r1), E14], [], H9⟩ (st_call (d := (some 16)) (fz := false) (pure := false) (own := false) (S35 r1) (ok_memory_Mem_Store H4 c8) (by generalize r1 = qp0; cases qp0 <;> kernel_rfl) (by generalize r1 = qp0; cases qp0 <;> kernel_rfl)) ?_
  refine o_run 3 ⟨[(E1 r1), E2, E5, E6, E7, (E8 r1), E10, E11, E12, (E13 r1), E14, (17, .one .top (.bool (r7 == 32))), (18, .one .top (.bool (r7 == 32))), (19, .one .top (.bool (r7 == 32)))], [], H9⟩ (by kernel_rfl) (by generalize r1 = qp0; cases qp0 <;> kernel_rfl) ?_
  rcases if_inv hB16 with ⟨h10, hB16⟩ | ⟨h10, hB16⟩
  refine o_eq (congrArg (fun q => (⟨[(E1 r1), E2, E5, E6, E7, (E8 r1), E10, E11, E12, (E13 r1), E14, (17, .one .top (.bool q)), (18, .one .top (.bool q)), (19, .one .top (.bool q))], [], H9⟩ : St)) h10) ?_
  refine o_run 1 (S36 r1) (by kernel_rfl) (by generalize r1 = qp0; cases qp0 <;> kernel_rfl) ?_
  obtain ⟨r11, c12, hB16⟩ := bind1_inv hB16
  let E19 : Nat × TV := (21, .one .top (.int .i64 r11))
  refine o_one ⟨[(E1 r1), E2, E5, E6, E7, (E8 r1), E10, E11, E12, (E13 r1), E14, E15, E16, E17, (E18 r1), E19], [], H9⟩ (st_call (d := (some 21)) (fz := false) (pure := true) (own := false) (S36 r1) (ok_memory_Mem_Part H9 c12) (by generalize r1 = qp0; cases qp0 <;> kernel_rfl) (by generalize r1 = qp0; cases qp0 <;> kernel_rfl)) ?_
  refine o_run 3 ⟨[(E1 r1), E2, E5, E6, E7, (E8 r1), E10, E11, E12, (E13 r1), E14, E15, E16, E17, (E18 r1), E19, (22, .one .top (.bool (r11 == 4))), (23, .one .top (.bool (r11 == 4))), (24, .one .top (.bool (r11 == 4)))], [], H9⟩ (by kernel_rfl) (by generalize r1 = qp0; cases qp0 <;> kernel_rfl) ?_
  rcases if_inv hB16 with ⟨h13, hB16⟩ | ⟨h13, hB16⟩
  refine o_eq (congrArg (fun q => (⟨[(E1 r1), E2, E5, E6, E7, (E8 r1), E10, E11, E12, (E13 r1), E14, E15, E16, E17, (E18 r1), E19, (22, .one .top (.bool q)), (23, .one .top (.bool q)), (24, .one .top (.bool q))], [], H9⟩ : St)) h13) ?_
  refine o_run 10 ⟨[(0, .one .top (.bool true)), (E1 r1), E2, E5, E6, E7, (E8 r1), E10, E11, E12, (E13 r1), E14, E15, E16, E17, (E18 r1), E19, (22, .one .top (.bool true)), (23, .one .top (.bool true)), (24, .one .top (.bool true)), (25, .one .top (.bool true)), (26, .one .top (.bool true)), (27, .one .top (.bool true)), (28, .one .top (.bool true)), (29, .one .top (.bool true)), (30, .one .top (.bool true)), (31, .one .top (.bool true)), (32, .one .top (.bool true)), (33, .one .top (.bool true))], [], H9⟩ (by kernel_rfl) (by generalize r1 = qp0; cases qp0 <;> kernel_rfl) ?_
  cases hB16
  exact o_end (by kernel_rfl) (by kernel_rfl)
  refine o_eq (congrArg (fun q => (⟨[(E1 r1), E2, E5, E6, E7, (E8 r1), E10, E11, E12, (E13 r1), E14, E15, E16, E17, (E18 r1), E19, (22, .one .top (.bool q)), (23, .one .top (.bool q)), (24, .one .top (.bool q))], [], H9⟩ : St)) h13) ?_
  refine o_run 10 ⟨[E20, (E1 r1), E2, E5, E6, E7, (E8 r1), E10, E11, E12, (E13 r1), E14, E15, E16, E17, (E18 r1), E19, (22, .one .top (.bool false)), E21, E22, E23, E24, E25, E26, E27, E28, E29, E30, E31], [], H9⟩ (by kernel_rfl) (by generalize r1 = qp0; cases qp0 <;> kernel_rfl) ?_
  cases hB16
  exact o_end (by kernel_rfl) (by kernel_rfl)
  refine o_eq (congrArg (fun q => (⟨[(E1 r1), E2, E5, E6, E7, (E8 r1), E10, E11, E12, (E13 r1), E14, (17, .one .top (.bool q)), (18, .one .top (.bool q)), (19, .one .top (.bool q))], [], H9⟩ : St)) h10) ?_
  refine o_run 15 ⟨[E20, (E1 r1), E2, E5, E6, E7, (E8 r1), E10, E11, E12, (E13 r1), E14, (17, .one .top (.bool false)), E32, E33, (20, .tup []), (21, .tup []), (22, .tup []), E21, E22, E23, E24, E25, E26, E27, E28, E29, E30, E31], [], H9⟩ (by kernel_rfl) (by generalize r1 = qp0; cases qp0 <;> kernel_rfl) ?_
  cases hB16
  exact o_end (by kernel_rfl) (by kernel_rfl)
  refine o_eq (congrArg (fun q => (⟨[(E1 r1), E2, E5, E6, E7, (E8 r1), (12, .one .top (.bool q)), (13, .one .top (.bool q)), (14, .one .top (.bool q))], [], H4⟩ : St)) h6) ?_
  refine o_run 20 ⟨[E20, (E1 r1), E2, E5, E6, E7, (E8 r1), (12, .one .top (.bool false)), (13, .one .top (.bool false)), (14, .one .top (.bool false)), (15, .tup []), (16, .tup []), (17, .tup []), E32, E33, (20, .tup []), (21, .tup []), (22, .tup []), E21, E22, E23, E24, E25, E26, E27, E28, E29, E30, E31], [], H4⟩ (by kernel_rfl) (by generalize r1 = qp0; cases qp0 <;> kernel_rfl) ?_
  cases hB16
  exact o_end (by kernel_rfl) (by kernel_rfl)
  refine o_eq (congrArg (fun q => (⟨[(E1 r1), E2, E5, (9, .one .top (.bool q)), (10, .one .top (.bool q))], [], H4⟩ : St)) h5) ?_
  refine o_run 24 ⟨[E20, (E1 r1), E2, E5, (9, .one .top (.bool false)), (10, .one .top (.bool false)), (11, .tup []), (12, .tup []), (13, .one .top (.bool false)), (14, .one .top (.bool false)), (15, .tup []), (16, .tup []), (17, .tup []), E32, E33, (20, .tup []), (21, .tup []), (22, .tup []), E21, E22, E23, E24, E25, E26, E27, E28, E29, E30, E31], [], H4⟩ (by kernel_rfl) (by generalize r1 = qp0; cases qp0 <;> kernel_rfl) ?_
  cases hB16
  exact o_end (by kernel_rfl) (by kernel_rfl)
  refine w_ret ?_
  obtain ⟨e0, e1⟩ := some2_inv hF
  subst e0
  subst e1
  exact fin_imp (v := .one .top (.bool w14)) (by kernel_rfl) (by kernel_rfl) (by kernel_rfl)
noncomputable def law03_Ends  (p0 : T_memory_Layout) : Option ((Arr 5 Int)) :=
  some (arrL [p0.Code_, p0.Tables_, p0.Data_, p0.Heap_, p0.Stack_] : Arr 5 Int)
theorem ok_law03_Ends (H : Heap) {p0 : T_memory_Layout} {ra : (Arr 5 Int)} (hF : law03_Ends p0 = some ra) : evS X 59 [.agg (m0_memory_Layout p0)] H = some (.agg [(.top, .int .u32 (ra.g 0)), (.top, .int .u32 (ra.g 1)), (.top, .int .u32 (ra.g 2)), (.top, .int .u32 (ra.g 3)), (.top, .int .u32 (ra.g 4))], H) := by
  refine w_fun Try.func59 rfl (by kernel_rfl) true (by kernel_rfl) (s0 := (⟨[(0, .agg (m0_memory_Layout p0))], [], H⟩ : St)) (by kernel_rfl) ?_
  unfold law03_Ends at hF
  refine w_seq ?_
  refine w_reg ⟨[(1, .one .top (.loc 1 0)), (2, .one .top (.loc 2 0))], [(1, (m0_memory_Layout p0)), (2, [(.top, .int .u32 0), (.top, .int .u32 0), (.top, .int .u32 0), (.top, .int .u32 0), (.top, .int .u32 0)])], H⟩ (by kernel_rfl) ?_
  refine w_seq ?_
  refine w_reg ⟨[(2, .one .top (.loc 2 0))], [(2, (m0_memory_Layout p0))], H⟩ (by kernel_rfl) ?_
  refine w_ret ?_
  obtain e0 := some1_inv hF
  subst e0
  exact fin_pure (v := .agg (m0_memory_Layout p0)) (by kernel_rfl) (by kernel_rfl) rfl (by kernel_rfl)
noncomputable def ref03_Right_L1 (p0 : (Arr 5 Int)) (a1 : Int) : Option ((Int) ⊕ (Unit ⊕ Unit)) :=
  if (decide (a1 < 5)) = true then (bind1 (ga p0 a1) fun v3 =>
  bind1 (if ((Int.tmod v3 4) != 0) = true then (some true) else (bind1 (ga p0 a1) fun v6 =>
  if (decide (v6 > 1048576)) = true then (some true) else (if (decide (a1 > 0)) = true then (bind1 (ga p0 a1) fun v10 =>
  bind1 (ga p0 (IntKind.wrap .i64 (a1 - 1))) fun v12 =>
  some (decide (v10 < v12))) else (some false)))) fun w14 =>
  if w14 = true then (some (Sum.inr (Sum.inr ())))
  else (some (Sum.inl (IntKind.wrap .i64 (a1 + 1)))))
  else (some (Sum.inr (Sum.inl ())))
noncomputable def ref03_Right  (p0 : (Arr 5 Int)) : Option (Bool) :=
  bind1 (loopO (fun (x : (Int)) => ref03_Right_L1 p0 x) 0) (sum2 (fun (_ : Unit) =>
  some true) (fun (_ : Unit) =>
  some false))
theorem ok_ref03_Right (H : Heap) {p0 : (Arr 5 Int)} {ra : Bool} (hF : ref03_Right p0 = some ra) : evS X 58 [.agg [(.top, .int .u32 (p0.g 0)), (.top, .int .u32 (p0.g 1)), (.top, .int .u32 (p0.g 2)), (.top, .int .u32 (p0.g 3)), (.top, .int .u32 (p0.g 4))]] H = some (.one .top (.bool ra), H) := by
  let E1 : Nat × TV := (1, .one .top (.loc 1 0))
  let B2 : Nat × List MC := (1, [(.top, .int .u32 (p0.g 0)), (.top, .int .u32 (p0.g 1)), (.top, .int .u32 (p0.g 2)), (.top, .int .u32 (p0.g 3)), (.top, .int .u32 (p0.g 4))])
  let E3 : Nat × TV := (2, .one .top (.bool false))
  let E10 : Nat × TV := (12, .one .top (.bool true))
  let E11 : Nat × TV := (13, .one .top (.bool true))
  let E12 : Nat × TV := (14, .tup [])
  let E13 : Nat × TV := (15, .tup [])
  let E14 : Nat × TV := (16, .tup [])
  let E15 : Nat × TV := (17, .tup [])
  let E16 : Nat × TV := (18, .one .top (.bool true))
  let E17 : Nat × TV := (19, .one .top (.bool true))
  let E18 : Nat × TV := (20, .tup [])
  let E19 : Nat × TV := (21, .tup [])
  let E20 : Nat × TV := (22, .tup [])
  let E21 : Nat × TV := (23, .tup [])
  let E22 : Nat × TV := (24, .tup [])
  let E23 : Nat × TV := (25, .tup [])
  let E24 : Nat × TV := (26, .tup [])
  let E25 : Nat × TV := (27, .tup [])
  let E26 : Nat × TV := (28, .tup [])
  let E27 : Nat × TV := (29, .tup [])
  let E28 : Nat × TV := (30, .tup [])
  let E29 : Nat × TV := (31, .tup [])
  let E30 : Nat × TV := (12, .one .top (.bool false))
  let E31 : Nat × TV := (13, .one .top (.bool false))
  let E37 : Nat × TV := (17, .one .top (.bool true))
  let E38 : Nat × TV := (17, .one .top (.bool false))
  let E39 : Nat × TV := (18, .one .top (.bool false))
  let E40 : Nat × TV := (19, .one .top (.bool false))
  let E43 : Nat × TV := (21, .one .top (.bool true))
  let E44 : Nat × TV := (22, .one .top (.bool true))
  let E54 : Nat × TV := (21, .one .top (.bool false))
  let E55 : Nat × TV := (22, .one .top (.bool false))
  let S56 : St := ⟨[], [], H⟩
  let S57 : St := ⟨[E3], [], H⟩
  refine w_fun Try.func58 rfl (by kernel_rfl) true (by kernel_rfl) (s0 := (⟨[(0, .agg [(.top, .int .u32 (p0.g 0)), (.top, .int .u32 (p0.g 1)), (.top, .int .u32 (p0.g 2)), (.top, .int .u32 (p0.g 3)), (.top, .int .u32 (p0.g 4))])], [], H⟩ : St)) (by kernel_rfl) ?_
  unfold ref03_Right at hF
  refine w_seq ?_
  refine w_reg ⟨[E1], [B2], H⟩ (by kernel_rfl) ?_
  refine w_seq ?_
  refine w_seq ?_
  refine w_reg ⟨[E1, (3, .one .top (.int .i64 0))], [B2], H⟩ (by kernel_rfl) ?_
  refine w_block ?_
  obtain ⟨r17, hL18, hF⟩ := bind1_inv hF
  refine w_loop (fun (x : (Int)) => (⟨[E1, (3, .one .top (.int .i64 x))], [B2], H⟩ : St)) (Sum.elim (fun (y : Unit) => ((.exit 0, S56) : Ex × St)) (fun (y : Unit) => ((.ret, S57) : Ex × St))) hL18 (by kernel_rfl) ?_ ?_
  rintro a1 o hF
  replace hF : ref03_Right_L1 p0 a1 = some o := hF
  let E4 : Nat × TV := (3, .one .top (.int .i64 a1))
  let E5 : Nat × TV := (8, .one .top (.int .i64 a1))
  let E6 : Nat × TV := (9, .one .top (.loc 1 (0 + Int.toNat a1)))
  let E32 : Nat × TV := (14, .one .top (.int .i64 a1))
  let E33 : Nat × TV := (15, .one .top (.loc 1 (0 + Int.toNat a1)))
  let E41 : Nat × TV := (20, .one .top (.int .i64 a1))
  let E42 : Nat × TV := (21, .one .top (.bool (decide (a1 > 0))))
  let E45 : Nat × TV := (23, .one .top (.int .i64 a1))
  let E46 : Nat × TV := (24, .one .top (.loc 1 (0 + Int.toNat a1)))
  let E48 : Nat × TV := (26, .one .top (.int .i64 a1))
  let E49 : Nat × TV := (27, .one .top (.int .i64 (IntKind.wrap .i64 (a1 - 1))))
  let E50 : Nat × TV := (28, .one .top (.loc 1 (0 + Int.toNat (IntKind.wrap .i64 (a1 - 1)))))
  let S58 : St := ⟨[E1, E4, E5], [B2], H⟩
  let S59 : St := ⟨[E1, E4, E5, E6], [B2], H⟩
  unfold ref03_Right_L1 at hF
  refine w_seq ?_
  refine w_seq ?_
  refine w_reg ⟨[E1, E4, (5, .one .top (.bool (decide (a1 < 5))))], [B2], H⟩ (by kernel_rfl) ?_
  rcases if_inv hF with ⟨h2, hF⟩ | ⟨h2, hF⟩
  refine w_cT (m := .top) h2 (s1 := (⟨[E1, E4], [B2], H⟩ : St)) (by kernel_rfl) (by kernel_rfl) ?_
  refine w_skip ?_
  refine w_seq ?_
  refine w_block ?_
  refine w_seq ?_
  obtain ⟨v3, h4, hF⟩ := bind1_inv hF
  let E7 : Nat × TV := (10, .one .top (.int .u32 v3))
  let E8 : Nat × TV := (11, .one .top (.int .u32 (Int.tmod v3 4)))
  let E9 : Nat × TV := (12, .one .top (.bool ((Int.tmod v3 4) != 0)))
  let S60 : St := ⟨[E1, E4, E5, E6, E7, E8, E30, E31, E32], [B2], H⟩
  let S61 : St := ⟨[E1, E4, E5, E6, E7, E8, E30, E31, E32, E33], [B2], H⟩
  obtain ⟨w14, hB15, hF⟩ := bind1_inv hF
  refine w_regD (.take 0 (.take 1 (.take 2 (.take 3 (.take 4 (.take 5 (.take 6 (.take 7 (.take 8 (.take 9 (.take 10 (.take 11 (.take 12 (.take 13 (.take 14 (.take 15 (.take 16 (.take 17 (.take 18 (.take 19 (.take 20 (.take 21 (.take 22 (.take 23 (.take 24 .done))))))))))))))))))))))))) (by kernel_rfl) (⟨[E1, E4, (32, .one .top (.bool w14))], [B2], H⟩ : St) ?_ ?_
  refine d_take S58 (by kernel_rfl) ?_
  refine d_take S59 (st_ixL (X := X) S58 29 22 5 h4 1 0 (some 9) (by kernel_rfl) (by kernel_rfl) (by kernel_rfl) (by kernel_rfl)) ?_
  refine d_take ⟨[E1, E4, E5, E6, E7], [B2], H⟩ (st_ldL (X := X) S59 22 5 h4 1 0 [(.top, .int .u32 (p0.g 0)), (.top, .int .u32 (p0.g 1)), (.top, .int .u32 (p0.g 2)), (.top, .int .u32 (p0.g 3)), (.top, .int .u32 (p0.g 4))] (fun q => .int .u32 q) (some 10) (by kernel_rfl) (by kernel_rfl) (by kernel_rfl) (by kernel_rfl) (by kernel_rfl) (by kernel_rfl)) ?_
  refine d_take ⟨[E1, E4, E5, E6, E7, E8], [B2], H⟩ (by kernel_rfl) ?_
  refine d_take ⟨[E1, E4, E5, E6, E7, E8, E9], [B2], H⟩ (by kernel_rfl) ?_
  refine d_take ⟨[E1, E4, E5, E6, E7, E8, E9, (13, .one .top (.bool ((Int.tmod v3 4) != 0)))], [B2], H⟩ (by kernel_rfl) ?_
  rcases if_inv hB15 with ⟨h5, hB15⟩ | ⟨h5, hB15⟩
  refine d_eq (congrArg (fun q => (⟨[E1, E4, E5, E6, E7, E8, (12, .one .top (.bool q)), (13, .one .top (.bool q))], [B2], H⟩ : St)) h5) ?_
  refine d_take ⟨[E1, E4, E5, E6, E7, E8, E10, E11, E12], [B2], H⟩ (by kernel_rfl) ?_
  refine d_take ⟨[E1, E4, E5, E6, E7, E8, E10, E11, E12, E13], [B2], H⟩ (by kernel_rfl) ?_
  refine d_take ⟨[E1, E4, E5, E6, E7, E8, E10, E11, E12, E13, E14], [B2], H⟩ (by kernel_rfl) ?_
  refine d_take ⟨[E1, E4, E5, E6, E7, E8, E10, E11, E12, E13, E14, E15], [B2], H⟩ (by kernel_rfl) ?_
  refine d_take ⟨[E1, E4, E5, E6, E7, E8, E10, E11, E12, E13, E14, E15, E16], [B2], H⟩ (by kernel_rfl) ?_
  refine d_take ⟨[E1, E4, E5, E6, E7, E8, E10, E11, E12, E13, E14, E15, E16, E17], [B2], H⟩ (by kernel_rfl) ?_
  refine d_take ⟨[E1, E4, E5, E6, E7, E8, E10, E11, E12, E13, E14, E15, E16, E17, E18], [B2], H⟩ (by kernel_rfl) ?_
  refine d_take ⟨[E1, E4, E5, E6, E7, E8, E10, E11, E12, E13, E14, E15, E16, E17, E18, E19], [B2], H⟩ (by kernel_rfl) ?_
  refine d_take ⟨[E1, E4, E5, E6, E7, E8, E10, E11, E12, E13, E14, E15, E16, E17, E18, E19, E20], [B2], H⟩ (by kernel_rfl) ?_
  refine d_take ⟨[E1, E4, E5, E6, E7, E8, E10, E11, E12, E13, E14, E15, E16, E17, E18, E19, E20, E21], [B2], H⟩ (by kernel_rfl) ?_
  refine d_take ⟨[E1, E4, E5, E6, E7, E8, E10, E11, E12, E13, E14, E15, E16, E17, E18, E19, E20, E21, E22], [B2], H⟩ (by kernel_rfl) ?_
  refine d_take ⟨[E1, E4, E5, E6, E7, E8, E10, E11, E12, E13, E14, E15, E16, E17, E18, E19, E20, E21, E22, E23], [B2], H⟩ (by kernel_rfl) ?_
  refine d_take ⟨[E1, E4, E5, E6, E7, E8, E10, E11, E12, E13, E14, E15, E16, E17, E18, E19, E20, E21, E22, E23, E24], [B2], H⟩ (by kernel_rfl) ?_
  refine d_take ⟨[E1, E4, E5, E6, E7, E8, E10, E11, E12, E13, E14, E15, E16, E17, E18, E19, E20, E21, E22, E23, E24, E25], [B2], H⟩ (by kernel_rfl) ?_
  refine d_take ⟨[E1, E4, E5, E6, E7, E8, E10, E11, E12, E13, E14, E15, E16, E17, E18, E19, E20, E21, E22, E23, E24, E25, E26], [B2], H⟩ (by kernel_rfl) ?_
  refine d_take ⟨[E1, E4, E5, E6, E7, E8, E10, E11, E12, E13, E14, E15, E16, E17, E18, E19, E20, E21, E22, E23, E24, E25, E26, E27], [B2], H⟩ (by kernel_rfl) ?_
  refine d_take ⟨[E1, E4, E5, E6, E7, E8, E10, E11, E12, E13, E14, E15, E16, E17, E18, E19, E20, E21, E22, E23, E24, E25, E26, E27, E28], [B2], H⟩ (by kernel_rfl) ?_
  refine d_take ⟨[E1, E4, E5, E6, E7, E8, E10, E11, E12, E13, E14, E15, E16, E17, E18, E19, E20, E21, E22, E23, E24, E25, E26, E27, E28, E29], [B2], H⟩ (by kernel_rfl) ?_
  refine d_take ⟨[E1, E4, E5, E6, E7, E8, E10, E11, E12, E13, E14, E15, E16, E17, E18, E19, E20, E21, E22, E23, E24, E25, E26, E27, E28, E29, (32, .one .top (.bool true))], [B2], H⟩ (by kernel_rfl) ?_
  cases hB15
  exact d_end (by kernel_rfl)
  refine d_eq (congrArg (fun q => (⟨[E1, E4, E5, E6, E7, E8, (12, .one .top (.bool q)), (13, .one .top (.bool q))], [B2], H⟩ : St)) h5) ?_
  refine d_take S60 (by kernel_rfl) ?_
  obtain ⟨v6, h7, hB15⟩ := bind1_inv hB15
  let E34 : Nat × TV := (16, .one .top (.int .u32 v6))
  let E35 : Nat × TV := (17, .one .top (.bool (decide (v6 > 1048576))))
  let E36 : Nat × TV := (18, .one .top (.bool (decide (v6 > 1048576))))
  let S62 : St := ⟨[E1, E4, E5, E6, E7, E8, E30, E31, E32, E33, E34, E38, E39, E40, E41, E43, E44, E45], [B2], H⟩
  let S63 : St := ⟨[E1, E4, E5, E6, E7, E8, E30, E31, E32, E33, E34, E38, E39, E40, E41, E43, E44, E45, E46], [B2], H⟩
  refine d_take S61 (st_ixL (X := X) S60 29 22 5 h7 1 0 (some 15) (by kernel_rfl) (by kernel_rfl) (by kernel_rfl) (by kernel_rfl)) ?_
  refine d_take ⟨[E1, E4, E5, E6, E7, E8, E30, E31, E32, E33, E34], [B2], H⟩ (st_ldL (X := X) S61 22 5 h7 1 0 [(.top, .int .u32 (p0.g 0)), (.top, .int .u32 (p0.g 1)), (.top, .int .u32 (p0.g 2)), (.top, .int .u32 (p0.g 3)), (.top, .int .u32 (p0.g 4))] (fun q => .int .u32 q) (some 16) (by kernel_rfl) (by kernel_rfl) (by kernel_rfl) (by kernel_rfl) (by kernel_rfl) (by kernel_rfl)) ?_
  refine d_take ⟨[E1, E4, E5, E6, E7, E8, E30, E31, E32, E33, E34, E35], [B2], H⟩ (by kernel_rfl) ?_
  refine d_take ⟨[E1, E4, E5, E6, E7, E8, E30, E31, E32, E33, E34, E35, E36], [B2], H⟩ (by kernel_rfl) ?_
  refine d_take ⟨[E1, E4, E5, E6, E7, E8, E30, E31, E32, E33, E34, E35, E36, (19, .one .top (.bool (decide (v6 > 1048576))))], [B2], H⟩ (by kernel_rfl) ?_
  rcases if_inv hB15 with ⟨h8, hB15⟩ | ⟨h8, hB15⟩
  refine d_eq (congrArg (fun q => (⟨[E1, E4, E5, E6, E7, E8, E30, E31, E32, E33, E34, (17, .one .top (.bool q)), (18, .one .top (.bool q)), (19, .one .top (.bool q))], [B2], H⟩ : St)) h8) ?_
  refine d_take ⟨[E1, E4, E5, E6, E7, E8, E30, E31, E32, E33, E34, E37, E16, E17, E18], [B2], H⟩ (by kernel_rfl) ?_
  refine d_take ⟨[E1, E4, E5, E6, E7, E8, E30, E31, E32, E33, E34, E37, E16, E17, E18, E19], [B2], H⟩ (by kernel_rfl) ?_
  refine d_take ⟨[E1, E4, E5, E6, E7, E8, E30, E31, E32, E33, E34, E37, E16, E17, E18, E19, E20], [B2], H⟩ (by kernel_rfl) ?_
  refine d_take ⟨[E1, E4, E5, E6, E7, E8, E30, E31, E32, E33, E34, E37, E16, E17, E18, E19, E20, E21], [B2], H⟩ (by kernel_rfl) ?_
  refine d_take ⟨[E1, E4, E5, E6, E7, E8, E30, E31, E32, E33, E34, E37, E16, E17, E18, E19, E20, E21, E22], [B2], H⟩ (by kernel_rfl) ?_
  refine d_take ⟨[E1, E4, E5, E6, E7, E8, E30, E31, E32, E33, E34, E37, E16, E17, E18, E19, E20, E21, E22, E23], [B2], H⟩ (by kernel_rfl) ?_
  refine d_take ⟨[E1, E4, E5, E6, E7, E8, E30, E31, E32, E33, E34, E37, E16, E17, E18, E19, E20, E21, E22, E23, E24], [B2], H⟩ (by kernel_rfl) ?_
  refine d_take ⟨[E1, E4, E5, E6, E7, E8, E30, E31, E32, E33, E34, E37, E16, E17, E18, E19, E20, E21, E22, E23, E24, E25], [B2], H⟩ (by kernel_rfl) ?_
  refine d_take ⟨[E1, E4, E5, E6, E7, E8, E30, E31, E32, E33, E34, E37, E16, E17, E18, E19, E20, E21, E22, E23, E24, E25, E26], [B2], H⟩ (by kernel_rfl) ?_
  refine d_take ⟨[E1, E4, E5, E6, E7, E8, E30, E31, E32, E33, E34, E37, E16, E17, E18, E19, E20, E21, E22, E23, E24, E25, E26, E27], [B2], H⟩ (by kernel_rfl) ?_
  refine d_take ⟨[E1, E4, E5, E6, E7, E8, E30, E31, E32, E33, E34, E37, E16, E17, E18, E19, E20, E21, E22, E23, E24, E25, E26, E27, E28], [B2], H⟩ (by kernel_rfl) ?_
  refine d_take ⟨[E1, E4, E5, E6, E7, E8, E30, E31, E32, E33, E34, E37, E16, E17, E18, E19, E20, E21, E22, E23, E24, E25, E26, E27, E28, E29], [B2], H⟩ (by kernel_rfl) ?_
  refine d_take ⟨[E1, E4, E5, E6, E7, E8, E30, E31, E32, E33, E34, E37, E16, E17, E18, E19, E20, E21, E22, E23, E24, E25, E26, E27, E28, E29, (32, .one .top (.bool true))], [B2], H⟩ (by kernel_rfl) ?_
  cases hB15
  exact d_end (by kernel_rfl)
  refine d_eq (congrArg (fun q => (⟨[E1, E4, E5, E6, E7, E8, E30, E31, E32, E33, E34, (17, .one .top (.bool q)), (18, .one .top (.bool q)), (19, .one .top (.bool q))], [B2], H⟩ : St)) h8) ?_
  refine d_take ⟨[E1, E4, E5, E6, E7, E8, E30, E31, E32, E33, E34, E38, E39, E40, E41], [B2], H⟩ (by kernel_rfl) ?_
  refine d_take ⟨[E1, E4, E5, E6, E7, E8, E30, E31, E32, E33, E34, E38, E39, E40, E41, E42], [B2], H⟩ (by kernel_rfl) ?_
  refine d_take ⟨[E1, E4, E5, E6, E7, E8, E30, E31, E32, E33, E34, E38, E39, E40, E41, E42, (22, .one .top (.bool (decide (a1 > 0))))], [B2], H⟩ (by kernel_rfl) ?_
  rcases if_inv hB15 with ⟨h9, hB15⟩ | ⟨h9, hB15⟩
  refine d_eq (congrArg (fun q => (⟨[E1, E4, E5, E6, E7, E8, E30, E31, E32, E33, E34, E38, E39, E40, E41, (21, .one .top (.bool q)), (22, .one .top (.bool q))], [B2], H⟩ : St)) h9) ?_
  refine d_take S62 (by kernel_rfl) ?_
  obtain ⟨v10, h11, hB15⟩ := bind1_inv hB15
  let E47 : Nat × TV := (25, .one .top (.int .u32 v10))
  let S64 : St := ⟨[E1, E4, E5, E6, E7, E8, E30, E31, E32, E33, E34, E38, E39, E40, E41, E43, E44, E45, E46, E47, E48, E49], [B2], H⟩
  let S65 : St := ⟨[E1, E4, E5, E6, E7, E8, E30, E31, E32, E33, E34, E38, E39, E40, E41, E43, E44, E45, E46, E47, E48, E49, E50], [B2], H⟩
  refine d_take S63 (st_ixL (X := X) S62 29 22 5 h11 1 0 (some 24) (by kernel_rfl) (by kernel_rfl) (by kernel_rfl) (by kernel_rfl)) ?_
  refine d_take ⟨[E1, E4, E5, E6, E7, E8, E30, E31, E32, E33, E34, E38, E39, E40, E41, E43, E44, E45, E46, E47], [B2], H⟩ (st_ldL (X := X) S63 22 5 h11 1 0 [(.top, .int .u32 (p0.g 0)), (.top, .int .u32 (p0.g 1)), (.top, .int .u32 (p0.g 2)), (.top, .int .u32 (p0.g 3)), (.top, .int .u32 (p0.g 4))] (fun q => .int .u32 q) (some 25) (by kernel_rfl) (by kernel_rfl) (by kernel_rfl) (by kernel_rfl) (by kernel_rfl) (by kernel_rfl)) ?_
  refine d_take ⟨[E1, E4, E5, E6, E7, E8, E30, E31, E32, E33, E34, E38, E39, E40, E41, E43, E44, E45, E46, E47, E48], [B2], H⟩ (by kernel_rfl) ?_
  refine d_take S64 (by kernel_rfl) ?_
  obtain ⟨v12, h13, hB15⟩ := bind1_inv hB15
  let E51 : Nat × TV := (29, .one .top (.int .u32 v12))
  let E52 : Nat × TV := (30, .one .top (.bool (decide (v10 < v12))))
  let E53 : Nat × TV := (31, .one .top (.bool (decide (v10 < v12))))
  refine d_take S65 (st_ixL (X := X) S64 29 22 5 h13 1 0 (some 28) (by kernel_rfl) (by kernel_rfl) (by kernel_rfl) (by kernel_rfl)) ?_
  refine d_take ⟨[E1, E4, E5, E6, E7, E8, E30, E31, E32, E33, E34, E38, E39, E40, E41, E43, E44, E45, E46, E47, E48, E49, E50, E51], [B2], H⟩ (st_ldL (X := X) S65 22 5 h13 1 0 [(.top, .int .u32 (p0.g 0)), (.top, .int .u32 (p0.g 1)), (.top, .int .u32 (p0.g 2)), (.top, .int .u32 (p0.g 3)), (.top, .int .u32 (p0.g 4))] (fun q => .int .u32 q) (some 29) (by kernel_rfl) (by kernel_rfl) (by kernel_rfl) (by kernel_rfl) (by kernel_rfl) (by kernel_rfl)) ?_
  refine d_take ⟨[E1, E4, E5, E6, E7, E8, E30, E31, E32, E33, E34, E38, E39, E40, E41, E43, E44, E45, E46, E47, E48, E49, E50, E51, E52], [B2], H⟩ (by kernel_rfl) ?_
  refine d_take ⟨[E1, E4, E5, E6, E7, E8, E30, E31, E32, E33, E34, E38, E39, E40, E41, E43, E44, E45, E46, E47, E48, E49, E50, E51, E52, E53], [B2], H⟩ (by kernel_rfl) ?_
  refine d_take ⟨[E1, E4, E5, E6, E7, E8, E30, E31, E32, E33, E34, E38, E39, E40, E41, E43, E44, E45, E46, E47, E48, E49, E50, E51, E52, E53, (32, .one .top (.bool (decide (v10 < v12))))], [B2], H⟩ (by kernel_rfl) ?_
  cases hB15
  exact d_end (by kernel_rfl)
  refine d_eq (congrArg (fun q => (⟨[E1, E4, E5, E6, E7, E8, E30, E31, E32, E33, E34, E38, E39, E40, E41, (21, .one .top (.bool q)), (22, .one .top (.bool q))], [B2], H⟩ : St)) h9) ?_
  refine d_take ⟨[E1, E4, E5, E6, E7, E8, E30, E31, E32, E33, E34, E38, E39, E40, E41, E54, E55, E21], [B2], H⟩ (by kernel_rfl) ?_
  refine d_take ⟨[E1, E4, E5, E6, E7, E8, E30, E31, E32, E33, E34, E38, E39, E40, E41, E54, E55, E21, E22], [B2], H⟩ (by kernel_rfl) ?_
  refine d_take ⟨[E1, E4, E5, E6, E7, E8, E30, E31, E32, E33, E34, E38, E39, E40, E41, E54, E55, E21, E22, E23], [B2], H⟩ (by kernel_rfl) ?_
  refine d_take ⟨[E1, E4, E5, E6, E7, E8, E30, E31, E32, E33, E34, E38, E39, E40, E41, E54, E55, E21, E22, E23, E24], [B2], H⟩ (by kernel_rfl) ?_
  refine d_take ⟨[E1, E4, E5, E6, E7, E8, E30, E31, E32, E33, E34, E38, E39, E40, E41, E54, E55, E21, E22, E23, E24, E25], [B2], H⟩ (by kernel_rfl) ?_
  refine d_take ⟨[E1, E4, E5, E6, E7, E8, E30, E31, E32, E33, E34, E38, E39, E40, E41, E54, E55, E21, E22, E23, E24, E25, E26], [B2], H⟩ (by kernel_rfl) ?_
  refine d_take ⟨[E1, E4, E5, E6, E7, E8, E30, E31, E32, E33, E34, E38, E39, E40, E41, E54, E55, E21, E22, E23, E24, E25, E26, E27], [B2], H⟩ (by kernel_rfl) ?_
  refine d_take ⟨[E1, E4, E5, E6, E7, E8, E30, E31, E32, E33, E34, E38, E39, E40, E41, E54, E55, E21, E22, E23, E24, E25, E26, E27, E28], [B2], H⟩ (by kernel_rfl) ?_
  refine d_take ⟨[E1, E4, E5, E6, E7, E8, E30, E31, E32, E33, E34, E38, E39, E40, E41, E54, E55, E21, E22, E23, E24, E25, E26, E27, E28, (31, .one .top (.bool false))], [B2], H⟩ (by kernel_rfl) ?_
  refine d_take ⟨[E1, E4, E5, E6, E7, E8, E30, E31, E32, E33, E34, E38, E39, E40, E41, E54, E55, E21, E22, E23, E24, E25, E26, E27, E28, (31, .one .top (.bool false)), (32, .one .top (.bool false))], [B2], H⟩ (by kernel_rfl) ?_
  cases hB15
  exact d_end (by kernel_rfl)
  rcases if_inv hF with ⟨h16, hF⟩ | ⟨h16, hF⟩
  refine w_cT (m := .top) h16 (s1 := S56) (by kernel_rfl) (by kernel_rfl) ?_
  refine w_seq ?_
  refine w_reg S57 (by kernel_rfl) ?_
  refine w_ret ?_
  cases hF
  exact ⟨_, rfl, (by kernel_rfl)⟩
  refine w_cF (m := .top) h16 (s1 := (⟨[E1, E4], [B2], H⟩ : St)) (by kernel_rfl) (by kernel_rfl) ?_
  refine w_skip ?_
  refine w_reg ⟨[E1, (3, .one .top (.int .i64 (IntKind.wrap .i64 (a1 + 1))))], [B2], H⟩ (by kernel_rfl) ?_
  cases hF
  exact ⟨_, rfl, (by kernel_rfl)⟩
  refine w_cF (m := .top) h2 (s1 := S56) (by kernel_rfl) (by kernel_rfl) ?_
  refine w_exit ?_
  cases hF
  exact ⟨_, rfl, (by kernel_rfl)⟩
  rcases sum2_inv hF with ⟨r17', rfl, hF⟩ | ⟨r17', rfl, hF⟩
  refine w_oe (i := 0) (s := S56) (by kernel_rfl) ?_
  refine e_here ?_
  refine w_seq ?_
  refine w_reg ⟨[(2, .one .top (.bool true))], [], H⟩ (by kernel_rfl) ?_
  refine w_ret ?_
  obtain e0 := some1_inv hF
  subst e0
  exact fin_pure (v := .one .top (.bool true)) (by kernel_rfl) (by kernel_rfl) rfl (by kernel_rfl)
  refine w_or (s := S57) (by kernel_rfl) ?_
  obtain e0 := some1_inv hF
  subst e0
  exact fin_pure (v := .one .top (.bool false)) (by kernel_rfl) (by kernel_rfl) rfl (by kernel_rfl)
noncomputable def law03_few_L1 (p1 : (List T_law03_Op)) (a8 : Int) : Option ((Int) ⊕ (Unit ⊕ Unit)) :=
  if (decide (a8 < (p1.length : Int))) = true then (bind1 (gi p1 a8) fun x10 =>
  if (decide ((x10.List_.length : Int) > 2000)) = true then (some (Sum.inr (Sum.inr ())))
  else (some (Sum.inl (IntKind.wrap .i64 (a8 + 1)))))
  else (some (Sum.inr (Sum.inl ())))
noncomputable def law03_few  (p0 : T_memory_Layout) (p1 : (List T_law03_Op)) : Option (Bool) :=
  bind1 (law03_Ends p0) fun r1 =>
  bind1 (ref03_Right r1) fun r3 =>
  if (if r3 = true then ((decide (p0.Stack_ > 4096)) || (decide ((p1.length : Int) > 40))) else (decide ((p1.length : Int) > 40))) = true then (some false)
  else (bind1 (loopO (fun (x : (Int)) => law03_few_L1 p1 x) 0) (sum2 (fun (_ : Unit) =>
  some true) (fun (_ : Unit) =>
  some false)))
theorem ok_law03_few (H : Heap) {p0 : T_memory_Layout} {p1 : (List T_law03_Op)} {ra : Bool} (hF : law03_few p0 p1 = some ra) : evS X 14 [.agg (m0_memory_Layout p0), .one .ro (.sl 4 (List.map e_law03_Op p1))] H = some (.one .top (.bool ra), H) := by
  let E1 : Nat × TV := (1, .one .ro (.sl 4 (List.map e_law03_Op p1)))
  let E2 : Nat × TV := (2, .one .top (.loc 2 0))
  let B3 : Nat × List MC := (2, (m0_memory_Layout p0))
  let E4 : Nat × TV := (6, .agg (m0_memory_Layout p0))
  let E6 : Nat × TV := (8, .one .top (.bool true))
  let E7 : Nat × TV := (9, .one .top (.bool true))
  let E8 : Nat × TV := (10, .one .top (.loc 2 4))
  let E9 : Nat × TV := (11, .one .top (.int .u32 p0.Stack_))
  let E10 : Nat × TV := (12, .one .top (.bool false))
  let E11 : Nat × TV := (13, .one .top (.bool false))
  let E12 : Nat × TV := (14, .one .top (.bool false))
  let E13 : Nat × TV := (15, .one .ro (.sl 4 (List.map e_law03_Op p1)))
  let E14 : Nat × TV := (16, .one .top (.int .i64 (p1.length : Int)))
  let E15 : Nat × TV := (17, .one .top (.bool (decide ((p1.length : Int) > 40))))
  let E16 : Nat × TV := (18, .one .top (.bool (decide ((p1.length : Int) > 40))))
  let E17 : Nat × TV := (8, .one .top (.bool false))
  let E18 : Nat × TV := (9, .one .top (.bool false))
  let E19 : Nat × TV := (10, .tup [])
  let E20 : Nat × TV := (11, .tup [])
  let E21 : Nat × TV := (12, .tup [])
  let E22 : Nat × TV := (4, .one .top (.bool false))
  let E26 : Nat × TV := (20, .one .ro (.sl 4 (List.map e_law03_Op p1)))
  let E27 : Nat × TV := (21, .one .top (.int .i64 (p1.length : Int)))
  let E29 : Nat × TV := (25, .one .ro (.sl 4 (List.map e_law03_Op p1)))
  let S35 : St := ⟨[E1, E2, E4], [B3], H⟩
  let S39 : St := ⟨[], [], H⟩
  let S40 : St := ⟨[E22], [], H⟩
  refine w_fun Try.func14 rfl (by kernel_rfl) true (by kernel_rfl) (s0 := (⟨[(0, .agg (m0_memory_Layout p0)), E1], [], H⟩ : St)) (by kernel_rfl) ?_
  unfold law03_few at hF
  refine w_seq ?_
  refine w_reg ⟨[E1, E2], [B3], H⟩ (by kernel_rfl) ?_
  refine w_seq ?_
  refine w_seq ?_
  obtain ⟨r1, c2, hF⟩ := bind1_inv hF
  let E5 : Nat × TV := (7, .agg [(.top, .int .u32 (r1.g 0)), (.top, .int .u32 (r1.g 1)), (.top, .int .u32 (r1.g 2)), (.top, .int .u32 (r1.g 3)), (.top, .int .u32 (r1.g 4))])
  let S36 : St := ⟨[E1, E2, E4, E5], [B3], H⟩
  let S37 : St := ⟨[E1, E2, E4, E5, E6, E7, E8, E9, E10, E11, E12, E13], [B3], H⟩
  let S38 : St := ⟨[E1, E2, E4, E5, E17, E18, E19, E20, E21, E11, E12, E13], [B3], H⟩
  obtain ⟨r3, c4, hF⟩ := bind1_inv hF
  refine w_regO ⟨[E1, (18, .one .top (.bool (if r3 = true then ((decide (p0.Stack_ > 4096)) || (decide ((p1.length : Int) > 40))) else (decide ((p1.length : Int) > 40)))))], [], H⟩ ?_ ?_
  refine o_run 1 S35 (by kernel_rfl) (by kernel_rfl) ?_
  refine o_one S36 (st_call (d := (some 7)) (fz := false) (pure := true) (own := false) S35 (ok_law03_Ends H c2) (by kernel_rfl) (by kernel_rfl)) ?_
  refine o_one ⟨[E1, E2, E4, E5, (8, .one .top (.bool r3))], [B3], H⟩ (st_call (d := (some 8)) (fz := false) (pure := true) (own := false) S36 (ok_ref03_Right H c4) (by kernel_rfl) (by kernel_rfl)) ?_
  refine o_run 1 ⟨[E1, E2, E4, E5, (8, .one .top (.bool r3)), (9, .one .top (.bool r3))], [B3], H⟩ (by kernel_rfl) (by kernel_rfl) ?_
  rcases bool_cases r3 with h5 | h5
  refine o_eq (congrArg (fun q => (⟨[E1, E2, E4, E5, (8, .one .top (.bool q)), (9, .one .top (.bool q))], [B3], H⟩ : St)) h5) ?_
  refine o_run 5 ⟨[E1, E2, E4, E5, E6, E7, E8, E9, (12, .one .top (.bool (decide (p0.Stack_ > 4096)))), (13, .one .top (.bool (decide (p0.Stack_ > 4096)))), (14, .one .top (.bool (decide (p0.Stack_ > 4096))))], [B3], H⟩ (by kernel_rfl) (by kernel_rfl) ?_
  rcases bool_cases (decide (p0.Stack_ > 4096)) with h6 | h6
  refine o_eq (congrArg (fun q => (⟨[E1, E2, E4, E5, E6, E7, E8, E9, (12, .one .top (.bool q)), (13, .one .top (.bool q)), (14, .one .top (.bool q))], [B3], H⟩ : St)) h6) ?_
  refine o_run 4 ⟨[E1, E2, E4, E5, E6, E7, E8, E9, (12, .one .top (.bool true)), (13, .one .top (.bool true)), (14, .one .top (.bool true)), (15, .tup []), (16, .tup []), (17, .tup []), (18, .one .top (.bool true))], [B3], H⟩ (by kernel_rfl) (by kernel_rfl) ?_
  refine o_eq2 (congrArg (fun q0 => (⟨[E1, (18, .one .top (.bool q0))], [], H⟩ : St)) (show true = (if r3 = true then ((decide (p0.Stack_ > 4096)) || (decide ((p1.length : Int) > 40))) else (decide ((p1.length : Int) > 40))) by simp [h5, h6])) ?_
  exact o_end (by kernel_rfl) (by kernel_rfl)
  refine o_eq (congrArg (fun q => (⟨[E1, E2, E4, E5, E6, E7, E8, E9, (12, .one .top (.bool q)), (13, .one .top (.bool q)), (14, .one .top (.bool q))], [B3], H⟩ : St)) h6) ?_
  refine o_run 1 S37 (by kernel_rfl) (by kernel_rfl) ?_
  refine o_one ⟨[E1, E2, E4, E5, E6, E7, E8, E9, E10, E11, E12, E13, E14], [B3], H⟩ (st_len S37 p1 e_law03_Op (some 16) (by kernel_rfl) (by kernel_rfl)) ?_
  refine o_run 2 ⟨[E1, E2, E4, E5, E6, E7, E8, E9, E10, E11, E12, E13, E14, E15, E16], [B3], H⟩ (by kernel_rfl) (by kernel_rfl) ?_
  refine o_eq2 (congrArg (fun q0 => (⟨[E1, (18, .one .top (.bool q0))], [], H⟩ : St)) (show (decide ((p1.length : Int) > 40)) = (if r3 = true then ((decide (p0.Stack_ > 4096)) || (decide ((p1.length : Int) > 40))) else (decide ((p1.length : Int) > 40))) by simp [h5, h6])) ?_
  exact o_end (by kernel_rfl) (by kernel_rfl)
  refine o_eq (congrArg (fun q => (⟨[E1, E2, E4, E5, (8, .one .top (.bool q)), (9, .one .top (.bool q))], [B3], H⟩ : St)) h5) ?_
  refine o_run 6 S38 (by kernel_rfl) (by kernel_rfl) ?_
  refine o_one ⟨[E1, E2, E4, E5, E17, E18, E19, E20, E21, E11, E12, E13, E14], [B3], H⟩ (st_len S38 p1 e_law03_Op (some 16) (by kernel_rfl) (by kernel_rfl)) ?_
  refine o_run 2 ⟨[E1, E2, E4, E5, E17, E18, E19, E20, E21, E11, E12, E13, E14, E15, E16], [B3], H⟩ (by kernel_rfl) (by kernel_rfl) ?_
  refine o_eq2 (congrArg (fun q0 => (⟨[E1, (18, .one .top (.bool q0))], [], H⟩ : St)) (show (decide ((p1.length : Int) > 40)) = (if r3 = true then ((decide (p0.Stack_ > 4096)) || (decide ((p1.length : Int) > 40))) else (decide ((p1.length : Int) > 40))) by simp [h5])) ?_
  exact o_end (by kernel_rfl) (by kernel_rfl)
  rcases if_inv hF with ⟨h7, hF⟩ | ⟨h7, hF⟩
  refine w_cT (m := .top) h7 (s1 := S39) (by kernel_rfl) (by kernel_rfl) ?_
  refine w_seq ?_
  refine w_reg S40 (by kernel_rfl) ?_
  refine w_ret ?_
  obtain e0 := some1_inv hF
  subst e0
  exact fin_pure (v := .one .top (.bool false)) (by kernel_rfl) (by kernel_rfl) rfl (by kernel_rfl)
  refine w_cF (m := .top) h7 (s1 := (⟨[E1], [], H⟩ : St)) (by kernel_rfl) (by kernel_rfl) ?_
  refine w_skip ?_
  refine w_seq ?_
  refine w_seq ?_
  refine w_reg ⟨[E1, (5, .one .top (.int .i64 0))], [], H⟩ (by kernel_rfl) ?_
  refine w_block ?_
  obtain ⟨r13, hL14, hF⟩ := bind1_inv hF
  refine w_loop (fun (x : (Int)) => (⟨[E1, (5, .one .top (.int .i64 x))], [], H⟩ : St)) (Sum.elim (fun (y : Unit) => ((.exit 0, S39) : Ex × St)) (fun (y : Unit) => ((.ret, S40) : Ex × St))) hL14 (by kernel_rfl) ?_ ?_
  rintro a8 o hF
  replace hF : law03_few_L1 p1 a8 = some o := hF
  let E23 : Nat × TV := (5, .one .top (.int .i64 a8))
  let E24 : Nat × TV := (22, .one .top (.bool (decide (a8 < (p1.length : Int)))))
  let E25 : Nat × TV := (19, .one .top (.int .i64 a8))
  let E30 : Nat × TV := (26, .one .top (.int .i64 a8))
  let S41 : St := ⟨[E1, E23, E25, E26], [], H⟩
  let S42 : St := ⟨[E1, E23, E29, E30], [], H⟩
  unfold law03_few_L1 at hF
  refine w_seq ?_
  refine w_seq ?_
  refine w_regO ⟨[E1, E23, E24], [], H⟩ ?_ ?_
  refine o_run 2 S41 (by kernel_rfl) (by kernel_rfl) ?_
  refine o_one ⟨[E1, E23, E25, E26, E27], [], H⟩ (st_len S41 p1 e_law03_Op (some 21) (by kernel_rfl) (by kernel_rfl)) ?_
  refine o_run 1 ⟨[E1, E23, E25, E26, E27, E24], [], H⟩ (by kernel_rfl) (by kernel_rfl) ?_
  exact o_end (by kernel_rfl) (by kernel_rfl)
  rcases if_inv hF with ⟨h9, hF⟩ | ⟨h9, hF⟩
  refine w_cT (m := .top) h9 (s1 := (⟨[E1, E23], [], H⟩ : St)) (by kernel_rfl) (by kernel_rfl) ?_
  refine w_skip ?_
  refine w_seq ?_
  refine w_block ?_
  refine w_seq ?_
  obtain ⟨x10, h11, hF⟩ := bind1_inv hF
  let E28 : Nat × TV := (31, .one .top (.bool (decide ((x10.List_.length : Int) > 2000))))
  let E31 : Nat × TV := (27, .one .top (.rd .ro .ro [.int .i64 x10.Kind_, .int .u32 x10.At_, .int .u32 x10.W_, .sl 1 (List.map (eI .u32) x10.List_)] 0))
  let E32 : Nat × TV := (28, .one .top (.rd .ro .ro [.int .i64 x10.Kind_, .int .u32 x10.At_, .int .u32 x10.W_, .sl 1 (List.map (eI .u32) x10.List_)] 3))
  let E33 : Nat × TV := (29, .one .ro (.sl 1 (List.map (eI .u32) x10.List_)))
  let E34 : Nat × TV := (30, .one .top (.int .i64 (x10.List_.length : Int)))
  let S43 : St := ⟨[E1, E23, E29, E30, E31, E32, E33], [], H⟩
  refine w_regO ⟨[E1, E23, E28], [], H⟩ ?_ ?_
  refine o_run 2 S42 (by kernel_rfl) (by kernel_rfl) ?_
  refine o_one ⟨[E1, E23, E29, E30, E31], [], H⟩ (st_ix (X := X) S42 25 36 4 h11 e_law03_Op .ro (some 27) (by kernel_rfl) (by kernel_rfl) (by kernel_rfl) (by kernel_rfl)) ?_
  refine o_run 2 S43 (by kernel_rfl) (by kernel_rfl) ?_
  refine o_one ⟨[E1, E23, E29, E30, E31, E32, E33, E34], [], H⟩ (st_len S43 x10.List_ (eI .u32) (some 30) (by kernel_rfl) (by kernel_rfl)) ?_
  refine o_run 1 ⟨[E1, E23, E29, E30, E31, E32, E33, E34, E28], [], H⟩ (by kernel_rfl) (by kernel_rfl) ?_
  exact o_end (by kernel_rfl) (by kernel_rfl)
  rcases if_inv hF with ⟨h12, hF⟩ | ⟨h12, hF⟩
  refine w_cT (m := .top) h12 (s1 := S39) (by kernel_rfl) (by kernel_rfl) ?_
  refine w_seq ?_
  refine w_reg S40 (by kernel_rfl) ?_
  refine w_ret ?_
  cases hF
  exact ⟨_, rfl, (by kernel_rfl)⟩
  refine w_cF (m := .top) h12 (s1 := (⟨[E1, E23], [], H⟩ : St)) (by kernel_rfl) (by kernel_rfl) ?_
  refine w_skip ?_
  refine w_reg ⟨[E1, (5, .one .top (.int .i64 (IntKind.wrap .i64 (a8 + 1))))], [], H⟩ (by kernel_rfl) ?_
  cases hF
  exact ⟨_, rfl, (by kernel_rfl)⟩
  refine w_cF (m := .top) h9 (s1 := S39) (by kernel_rfl) (by kernel_rfl) ?_
  refine w_exit ?_
  cases hF
  exact ⟨_, rfl, (by kernel_rfl)⟩
  rcases sum2_inv hF with ⟨r13', rfl, hF⟩ | ⟨r13', rfl, hF⟩
  refine w_oe (i := 0) (s := S39) (by kernel_rfl) ?_
  refine e_here ?_
  refine w_seq ?_
  refine w_reg ⟨[(4, .one .top (.bool true))], [], H⟩ (by kernel_rfl) ?_
  refine w_ret ?_
  obtain e0 := some1_inv hF
  subst e0
  exact fin_pure (v := .one .top (.bool true)) (by kernel_rfl) (by kernel_rfl) rfl (by kernel_rfl)
  refine w_or (s := S40) (by kernel_rfl) ?_
  obtain e0 := some1_inv hF
  subst e0
  exact fin_pure (v := .one .top (.bool false)) (by kernel_rfl) (by kernel_rfl) rfl (by kernel_rfl)
noncomputable def ref03_New  (p0 : (Arr 5 Int)) : Option (T_ref03_Mem) :=
  bind1 (mks 4 (IntKind.wrap .u32 (Int.tdiv (p0.g 4) 4)) (IntKind.wrap .u32 (Int.tdiv (p0.g 4) 4)) 0) fun v1 =>
  some (T_ref03_Mem.mk p0 v1)
theorem ok_ref03_New (H : Heap) {p0 : (Arr 5 Int)} {ra : T_ref03_Mem} (hF : ref03_New p0 = some ra) : evS X 61 [.agg [(.top, .int .u32 (p0.g 0)), (.top, .int .u32 (p0.g 1)), (.top, .int .u32 (p0.g 2)), (.top, .int .u32 (p0.g 3)), (.top, .int .u32 (p0.g 4))]] H = some (.agg [(.top, .int .u32 (ra.Ends_.g 0)), (.top, .int .u32 (ra.Ends_.g 1)), (.top, .int .u32 (ra.Ends_.g 2)), (.top, .int .u32 (ra.Ends_.g 3)), (.top, .int .u32 (ra.Ends_.g 4)), ((.own 0), .sl 1 (List.map (eI .u32) ra.W_))], H) := by
  let E1 : Nat × TV := (1, .one .top (.loc 1 0))
  let E2 : Nat × TV := (2, .one .top (.loc 2 0))
  let B3 : Nat × List MC := (1, [(.top, .int .u32 (p0.g 0)), (.top, .int .u32 (p0.g 1)), (.top, .int .u32 (p0.g 2)), (.top, .int .u32 (p0.g 3)), (.top, .int .u32 (p0.g 4))])
  let B4 : Nat × List MC := (2, [(.top, .int .u32 0), (.top, .int .u32 0), (.top, .int .u32 0), (.top, .int .u32 0), (.top, .int .u32 0), ((.own 1), .sl 1 (List.map (eI .u32) ([] : List Int)))])
  let E6 : Nat × TV := (3, .agg [(.top, .int .u32 (p0.g 0)), (.top, .int .u32 (p0.g 1)), (.top, .int .u32 (p0.g 2)), (.top, .int .u32 (p0.g 3)), (.top, .int .u32 (p0.g 4))])
  let E7 : Nat × TV := (4, .one .top (.loc 1 4))
  let E8 : Nat × TV := (5, .one .top (.int .u32 (p0.g 4)))
  let E9 : Nat × TV := (6, .one .top (.int .u32 (IntKind.wrap .u32 (Int.tdiv (p0.g 4) 4))))
  let S10 : St := ⟨[E1, E2, E6, E7, E8, E9], [B3, B4], H⟩
  refine w_fun Try.func61 rfl (by kernel_rfl) true (by kernel_rfl) (s0 := (⟨[(0, .agg [(.top, .int .u32 (p0.g 0)), (.top, .int .u32 (p0.g 1)), (.top, .int .u32 (p0.g 2)), (.top, .int .u32 (p0.g 3)), (.top, .int .u32 (p0.g 4))])], [], H⟩ : St)) (by kernel_rfl) ?_
  unfold ref03_New at hF
  refine w_seq ?_
  refine w_reg ⟨[E1, E2], [B3, B4], H⟩ (by kernel_rfl) ?_
  refine w_seq ?_
  obtain ⟨v1, h2, hF⟩ := bind1_inv hF
  let B5 : Nat × List MC := (2, [(.top, .int .u32 (p0.g 0)), (.top, .int .u32 (p0.g 1)), (.top, .int .u32 (p0.g 2)), (.top, .int .u32 (p0.g 3)), (.top, .int .u32 (p0.g 4)), ((.own 1), .sl 1 (List.map (eI .u32) v1))])
  refine w_regD (.take 0 (.take 1 (.take 2 (.take 3 (.last 4 (.take 5 (.last 6 .done))))))) (by kernel_rfl) (⟨[E2], [B5], H⟩ : St) ?_ ?_
  refine d_take ⟨[E1, E2, E6], [B3, B4], H⟩ (by kernel_rfl) ?_
  refine d_take ⟨[E1, E2, E6, E7], [B3, B4], H⟩ (by kernel_rfl) ?_
  refine d_take ⟨[E1, E2, E6, E7, E8], [B3, B4], H⟩ (by kernel_rfl) ?_
  refine d_take S10 (by kernel_rfl) ?_
  refine d_last ⟨[E1, E2, E6, E7, E8, E9, (7, .one (.own 1) (.sl 1 (List.map (eI .u32) v1)))], [B3, B4], H⟩ (st_mk (X := X) S10 4 h2 30 22 1 [(.top, .int .u32 0)] (eI .u32) 0 (.u32) (.u32) (some 7) (by kernel_rfl) (by kernel_rfl) (by kernel_rfl) (by kernel_rfl) (by kernel_rfl) (by kernel_rfl) (by kernel_rfl) (by kernel_rfl) (by kernel_rfl) (by kernel_rfl)) ?_
  refine d_take ⟨[E1, E2, E6, E7, E8, E9, (7, .one .top .junk), (8, .agg [(.top, .int .u32 (p0.g 0)), (.top, .int .u32 (p0.g 1)), (.top, .int .u32 (p0.g 2)), (.top, .int .u32 (p0.g 3)), (.top, .int .u32 (p0.g 4)), ((.own 1), .sl 1 (List.map (eI .u32) v1))])], [B3, B4], H⟩ (by kernel_rfl) ?_
  refine d_last ⟨[E1, E2, E6, E7, E8, E9, (7, .one .top .junk), (8, .agg [(.top, .int .u32 (p0.g 0)), (.top, .int .u32 (p0.g 1)), (.top, .int .u32 (p0.g 2)), (.top, .int .u32 (p0.g 3)), (.top, .int .u32 (p0.g 4)), (.top, .junk)])], [B3, B5], H⟩ (by kernel_rfl) ?_
  exact d_end (by kernel_rfl)
  refine w_ret ?_
  obtain e0 := some1_inv hF
  subst e0
  exact fin_pure (v := .agg [(.top, .int .u32 (p0.g 0)), (.top, .int .u32 (p0.g 1)), (.top, .int .u32 (p0.g 2)), (.top, .int .u32 (p0.g 3)), (.top, .int .u32 (p0.g 4)), ((.own 1), .sl 1 (List.map (eI .u32) v1))]) (by kernel_rfl) (by kernel_rfl) rfl (by kernel_rfl)
noncomputable def ref03_Load  (p0 : T_ref03_Mem) (p1 : Int) : Option (Int × Int) :=
  if ((Int.tmod p1 4) != 0) = true then (some (0, 30))
  else (if (decide ((IntKind.wrap .i64 (IntKind.wrap .u32 (Int.tdiv p1 4))) ≥ (p0.W_.length : Int))) = true then (some (0, 31))
  else (bind1 (gi p0.W_ (IntKind.wrap .u32 (Int.tdiv p1 4))) fun x3 =>
  some (x3, 0)))
theorem ok_ref03_Load (H : Heap) {p0 : T_ref03_Mem} {p1 : Int} {ra : Int} {rb : Int} (hF : ref03_Load p0 p1 = some (ra, rb)) : evS X 24 [.agg [(.top, .int .u32 (p0.Ends_.g 0)), (.top, .int .u32 (p0.Ends_.g 1)), (.top, .int .u32 (p0.Ends_.g 2)), (.top, .int .u32 (p0.Ends_.g 3)), (.top, .int .u32 (p0.Ends_.g 4)), ((.own 0), .sl 1 (List.map (eI .u32) p0.W_))], .one .top (.int .u32 p1)] H = some (.tup [.one .top (.int .u32 ra), .one .top (.int .i64 rb)], H) := by
  let E1 : Nat × TV := (1, .one .top (.int .u32 p1))
  let E2 : Nat × TV := (2, .one .top (.loc 2 0))
  let B3 : Nat × List MC := (2, [(.top, .int .u32 (p0.Ends_.g 0)), (.top, .int .u32 (p0.Ends_.g 1)), (.top, .int .u32 (p0.Ends_.g 2)), (.top, .int .u32 (p0.Ends_.g 3)), (.top, .int .u32 (p0.Ends_.g 4)), ((.own 0), .sl 1 (List.map (eI .u32) p0.W_))])
  let E4 : Nat × TV := (15, .one .top (.bool (decide ((IntKind.wrap .i64 (IntKind.wrap .u32 (Int.tdiv p1 4))) ≥ (p0.W_.length : Int)))))
  let E5 : Nat × TV := (9, .one .top (.int .u32 p1))
  let E6 : Nat × TV := (10, .one .top (.int .u32 (IntKind.wrap .u32 (Int.tdiv p1 4))))
  let E7 : Nat × TV := (11, .one .top (.int .i64 (IntKind.wrap .i64 (IntKind.wrap .u32 (Int.tdiv p1 4)))))
  let E8 : Nat × TV := (12, .one .top (.loc 2 5))
  let E9 : Nat × TV := (13, .one (.own 0) (.sl 1 (List.map (eI .u32) p0.W_)))
  let E10 : Nat × TV := (14, .one .top (.int .i64 (p0.W_.length : Int)))
  let E11 : Nat × TV := (16, .one .top (.loc 2 5))
  let E12 : Nat × TV := (17, .one (.own 0) (.sl 1 (List.map (eI .u32) p0.W_)))
  let E13 : Nat × TV := (18, .one .top (.int .u32 p1))
  let E14 : Nat × TV := (19, .one .top (.int .u32 (IntKind.wrap .u32 (Int.tdiv p1 4))))
  let S16 : St := ⟨[E1, E2], [B3], H⟩
  let S17 : St := ⟨[E1, E2, E5, E6, E7, E8, E9], [B3], H⟩
  let S18 : St := ⟨[E1, E2, E11, E12, E13, E14], [B3], H⟩
  refine w_fun Try.func24 rfl (by kernel_rfl) true (by kernel_rfl) (s0 := (⟨[(0, .agg [(.top, .int .u32 (p0.Ends_.g 0)), (.top, .int .u32 (p0.Ends_.g 1)), (.top, .int .u32 (p0.Ends_.g 2)), (.top, .int .u32 (p0.Ends_.g 3)), (.top, .int .u32 (p0.Ends_.g 4)), ((.own 0), .sl 1 (List.map (eI .u32) p0.W_))]), E1], [], H⟩ : St)) (by kernel_rfl) ?_
  unfold ref03_Load at hF
  refine w_seq ?_
  refine w_reg S16 (by kernel_rfl) ?_
  refine w_seq ?_
  refine w_seq ?_
  refine w_reg ⟨[E1, E2, (8, .one .top (.bool ((Int.tmod p1 4) != 0)))], [B3], H⟩ (by kernel_rfl) ?_
  rcases if_inv hF with ⟨h1, hF⟩ | ⟨h1, hF⟩
  refine w_cT (m := .top) h1 (s1 := (⟨[], [], H⟩ : St)) (by kernel_rfl) (by kernel_rfl) ?_
  refine w_seq ?_
  refine w_reg ⟨[(4, .one .top (.int .u32 0)), (5, .one .top (.int .i64 30))], [], H⟩ (by kernel_rfl) ?_
  refine w_ret ?_
  obtain ⟨e0, e1⟩ := some2_inv hF
  subst e0
  subst e1
  exact fin_pure (v := .tup [.one .top (.int .u32 0), .one .top (.int .i64 30)]) (by kernel_rfl) (by kernel_rfl) rfl (by kernel_rfl)
  refine w_cF (m := .top) h1 (s1 := S16) (by kernel_rfl) (by kernel_rfl) ?_
  refine w_skip ?_
  refine w_seq ?_
  refine w_seq ?_
  refine w_regO ⟨[E1, E2, E4], [B3], H⟩ ?_ ?_
  refine o_run 5 S17 (by kernel_rfl) (by kernel_rfl) ?_
  refine o_one ⟨[E1, E2, E5, E6, E7, E8, E9, E10], [B3], H⟩ (st_len S17 p0.W_ (eI .u32) (some 14) (by kernel_rfl) (by kernel_rfl)) ?_
  refine o_run 1 ⟨[E1, E2, E5, E6, E7, E8, E9, E10, E4], [B3], H⟩ (by kernel_rfl) (by kernel_rfl) ?_
  exact o_end (by kernel_rfl) (by kernel_rfl)
  rcases if_inv hF with ⟨h2, hF⟩ | ⟨h2, hF⟩
  refine w_cT (m := .top) h2 (s1 := (⟨[], [], H⟩ : St)) (by kernel_rfl) (by kernel_rfl) ?_
  refine w_seq ?_
  refine w_reg ⟨[(4, .one .top (.int .u32 0)), (5, .one .top (.int .i64 31))], [], H⟩ (by kernel_rfl) ?_
  refine w_ret ?_
  obtain ⟨e0, e1⟩ := some2_inv hF
  subst e0
  subst e1
  exact fin_pure (v := .tup [.one .top (.int .u32 0), .one .top (.int .i64 31)]) (by kernel_rfl) (by kernel_rfl) rfl (by kernel_rfl)
  refine w_cF (m := .top) h2 (s1 := S16) (by kernel_rfl) (by kernel_rfl) ?_
  refine w_skip ?_
  refine w_seq ?_
  obtain ⟨x3, h4, hF⟩ := bind1_inv hF
  let E15 : Nat × TV := (20, .one .top (.rd (.own 0) (.own 0) [.int .u32 x3] 0))
  refine w_regO ⟨[(4, .one .top (.int .u32 x3)), (5, .one .top (.int .i64 0))], [], H⟩ ?_ ?_
  refine o_run 4 S18 (by kernel_rfl) (by kernel_rfl) ?_
  refine o_one ⟨[E1, E2, E11, E12, E13, E14, E15], [B3], H⟩ (st_ix (X := X) S18 30 22 1 h4 (eI .u32) (.own 0) (some 20) (by kernel_rfl) (by kernel_rfl) (by kernel_rfl) (by kernel_rfl)) ?_
  refine o_run 3 ⟨[E1, E2, (4, .one .top (.int .u32 x3)), (5, .one .top (.int .i64 0)), E11, E12, E13, E14, E15, (21, .one .top (.int .u32 x3))], [B3], H⟩ (by kernel_rfl) (by kernel_rfl) ?_
  exact o_end (by kernel_rfl) (by kernel_rfl)
  refine w_ret ?_
  obtain ⟨e0, e1⟩ := some2_inv hF
  subst e0
  subst e1
  exact fin_pure (v := .tup [.one .top (.int .u32 x3), .one .top (.int .i64 0)]) (by kernel_rfl) (by kernel_rfl) rfl (by kernel_rfl)
noncomputable def ref03_with_L1 (p2 : (List Int)) (p1 : Int) (a5 : (List Int)) (a6 : Int) : Option (((List Int) × Int) ⊕ (((List Int)))) :=
  if (decide (a6 < (p2.length : Int))) = true then (bind1 (gi p2 a6) fun x8 =>
  bind1 (gi a5 (IntKind.wrap .i64 (p1 + a6))) fun x10 =>
  bind1 (si a5 (IntKind.wrap .i64 (p1 + a6)) x8) fun v12 =>
  some (Sum.inl (v12, (IntKind.wrap .i64 (a6 + 1)))))
  else (some (Sum.inr a5))
noncomputable def ref03_with  (p0 : T_ref03_Mem) (p1 : Int) (p2 : (List Int)) : Option (T_ref03_Mem) :=
  bind1 (mks 4 (p0.W_.length : Int) (p0.W_.length : Int) 0) fun v1 =>
  bnd (cpy v1 0 p0.W_) fun v3 =>
  bind1 (loopO (fun (x : ((List Int) × Int)) => ref03_with_L1 p2 p1 x.1 x.2) (v3, 0)) (fun b16 =>
  some (T_ref03_Mem.mk p0.Ends_ b16))
theorem ok_ref03_with (H : Heap) {p0 : T_ref03_Mem} {p1 : Int} {p2 : (List Int)} {ra : T_ref03_Mem} (hF : ref03_with p0 p1 p2 = some ra) : evS X 89 [.agg [(.top, .int .u32 (p0.Ends_.g 0)), (.top, .int .u32 (p0.Ends_.g 1)), (.top, .int .u32 (p0.Ends_.g 2)), (.top, .int .u32 (p0.Ends_.g 3)), (.top, .int .u32 (p0.Ends_.g 4)), ((.own 0), .sl 1 (List.map (eI .u32) p0.W_))], .one .top (.int .i64 p1), .one (.own 1) (.sl 1 (List.map (eI .u32) p2))] H = some (.agg [(.top, .int .u32 (ra.Ends_.g 0)), (.top, .int .u32 (ra.Ends_.g 1)), (.top, .int .u32 (ra.Ends_.g 2)), (.top, .int .u32 (ra.Ends_.g 3)), (.top, .int .u32 (ra.Ends_.g 4)), ((.own 0), .sl 1 (List.map (eI .u32) ra.W_))], H) := by
  let E1 : Nat × TV := (1, .one .top (.int .i64 p1))
  let E2 : Nat × TV := (2, .one (.own 1) (.sl 1 (List.map (eI .u32) p2)))
  let E3 : Nat × TV := (3, .one .top (.loc 3 0))
  let E4 : Nat × TV := (6, .one .top (.loc 6 0))
  let B5 : Nat × List MC := (3, [(.top, .int .u32 (p0.Ends_.g 0)), (.top, .int .u32 (p0.Ends_.g 1)), (.top, .int .u32 (p0.Ends_.g 2)), (.top, .int .u32 (p0.Ends_.g 3)), (.top, .int .u32 (p0.Ends_.g 4)), ((.own 0), .sl 1 (List.map (eI .u32) p0.W_))])
  let B6 : Nat × List MC := (6, [(.top, .int .u32 0), (.top, .int .u32 0), (.top, .int .u32 0), (.top, .int .u32 0), (.top, .int .u32 0), ((.own 1), .sl 1 (List.map (eI .u32) ([] : List Int)))])
  let E8 : Nat × TV := (9, .one .top (.loc 3 5))
  let E9 : Nat × TV := (10, .one (.own 0) (.sl 1 (List.map (eI .u32) p0.W_)))
  let E10 : Nat × TV := (11, .one .top (.int .i64 (p0.W_.length : Int)))
  let E13 : Nat × TV := (14, .one .top (.loc 3 5))
  let E14 : Nat × TV := (15, .one (.own 0) (.sl 1 (List.map (eI .u32) p0.W_)))
  let E19 : Nat × TV := (18, .one .bl (.sl 1 (List.map (eI .u32) p2)))
  let E20 : Nat × TV := (19, .one .top (.int .i64 (p2.length : Int)))
  let E23 : Nat × TV := (24, .one .top (.int .i64 p1))
  let E26 : Nat × TV := (27, .one .bl (.sl 1 (List.map (eI .u32) p2)))
  let S31 : St := ⟨[E1, E2, E3, E4, E8, E9], [B5, B6], H⟩
  let S32 : St := ⟨[E1, E2, E3, E4, E8, E9, E10], [B5, B6], H⟩
  refine w_fun Try.func89 rfl (by kernel_rfl) true (by kernel_rfl) (s0 := (⟨[(0, .agg [(.top, .int .u32 (p0.Ends_.g 0)), (.top, .int .u32 (p0.Ends_.g 1)), (.top, .int .u32 (p0.Ends_.g 2)), (.top, .int .u32 (p0.Ends_.g 3)), (.top, .int .u32 (p0.Ends_.g 4)), ((.own 0), .sl 1 (List.map (eI .u32) p0.W_))]), E1, E2], [], H⟩ : St)) (by kernel_rfl) ?_
  unfold ref03_with at hF
  refine w_seq ?_
  refine w_reg ⟨[E1, E2, E3, E4], [B5, B6], H⟩ (by kernel_rfl) ?_
  refine w_seq ?_
  obtain ⟨v1, h2, hF⟩ := bind1_inv hF
  let E7 : Nat × TV := (7, .one (.own 1) (.sl 1 (List.map (eI .u32) v1)))
  let E12 : Nat × TV := (13, .one .top (.at_ (.tmp 7) 0 ((List.map (eI .u32) v1).length)))
  let S33 : St := ⟨[E1, E2, E3, E4, E7, E12, E13, E14], [B5, B6], H⟩
  refine w_regO ⟨[E1, E2, E3, E4, E7], [B5, B6], H⟩ ?_ ?_
  refine o_run 2 S31 (by kernel_rfl) (by kernel_rfl) ?_
  refine o_one S32 (st_len S31 p0.W_ (eI .u32) (some 11) (by kernel_rfl) (by kernel_rfl)) ?_
  refine o_one ⟨[E1, E2, E3, E4, E8, E9, E10, (12, .one (.own 1) (.sl 1 (List.map (eI .u32) v1)))], [B5, B6], H⟩ (st_mk (X := X) S32 4 h2 30 22 1 [(.top, .int .u32 0)] (eI .u32) 0 (.i64) (.i64) (some 12) (by kernel_rfl) (by kernel_rfl) (by kernel_rfl) (by kernel_rfl) (by kernel_rfl) (by kernel_rfl) (by kernel_rfl) (by kernel_rfl) (by kernel_rfl) (by kernel_rfl)) ?_
  refine o_run 1 ⟨[E1, E2, E3, E4, E7, E8, E9, E10, (12, .one .top .junk)], [B5, B6], H⟩ (by kernel_rfl) (by kernel_rfl) ?_
  exact o_end (by kernel_rfl) (by kernel_rfl)
  refine w_seq ?_
  obtain ⟨v3, h4, hF⟩ := bnd_inv hF
  let E11 : Nat × TV := (7, .one (.own 1) (.sl 1 (List.map (eI .u32) v3)))
  refine w_regO ⟨[E1, E2, E3, E4, E11], [B5, B6], H⟩ ?_ ?_
  refine o_run 3 S33 (by kernel_rfl) (by kernel_rfl) ?_
  refine o_one ⟨[E1, E2, E3, E4, E11, E12, E13, E14, (16, .one .top (.int .i64 (((min p0.W_.length (v1.length - 0) : Nat)) : Int)))], [B5, B6], H⟩ (st_cpT (X := X) S33 30 22 0 1 (eI .u32) 7 (.own 0) v1 p0.W_ 0 h4 (some 16) ⟨true, []⟩ (Nat.zero_le _) (by kernel_rfl) (by kernel_rfl) (by kernel_rfl) (fun _ => rfl) (fun _ => rfl) (by kernel_rfl) (by kernel_rfl)) ?_
  exact o_end (by kernel_rfl) (by kernel_rfl)
  refine w_seq ?_
  refine w_seq ?_
  refine w_reg ⟨[E1, E2, E3, E4, E11, (8, .one .top (.int .i64 0))], [B5, B6], H⟩ (by kernel_rfl) ?_
  refine w_block ?_
  obtain ⟨r14, hL15, hF⟩ := bind1_inv hF
  refine w_loop (fun (x : ((List Int) × Int)) => (⟨[E1, E2, E3, E4, (7, .one (.own 1) (.sl 1 (List.map (eI .u32) x.1))), (8, .one .top (.int .i64 x.2))], [B5, B6], H⟩ : St)) (fun (y : ((List Int))) => ((.exit 0, (⟨[E3, E4, (7, .one (.own 1) (.sl 1 (List.map (eI .u32) y)))], [B5, B6], H⟩ : St)) : Ex × St)) hL15 (by kernel_rfl) ?_ ?_
  rintro ⟨a5, a6⟩ o hF
  replace hF : ref03_with_L1 p2 p1 a5 a6 = some o := hF
  let E15 : Nat × TV := (7, .one (.own 1) (.sl 1 (List.map (eI .u32) a5)))
  let E16 : Nat × TV := (8, .one .top (.int .i64 a6))
  let E17 : Nat × TV := (20, .one .top (.bool (decide (a6 < (p2.length : Int)))))
  let E18 : Nat × TV := (17, .one .top (.int .i64 a6))
  let E22 : Nat × TV := (23, .one .top (.at_ (.tmp 7) 0 ((List.map (eI .u32) a5).length)))
  let E24 : Nat × TV := (25, .one .top (.int .i64 a6))
  let E25 : Nat × TV := (26, .one .top (.int .i64 (IntKind.wrap .i64 (p1 + a6))))
  let E27 : Nat × TV := (28, .one .top (.int .i64 a6))
  let E30 : Nat × TV := (31, .one .top (.el (.tmp 7) (Int.toNat (IntKind.wrap .i64 (p1 + a6))) 0))
  let S34 : St := ⟨[E1, E2, E3, E4, E15, E16, E18, E19], [B5, B6], H⟩
  let S35 : St := ⟨[E1, E2, E3, E4, E15, E16, E22, E23, E24, E25, E26, E27], [B5, B6], H⟩
  unfold ref03_with_L1 at hF
  refine w_seq ?_
  refine w_seq ?_
  refine w_regO ⟨[E1, E2, E3, E4, E15, E16, E17], [B5, B6], H⟩ ?_ ?_
  refine o_run 2 S34 (by kernel_rfl) (by kernel_rfl) ?_
  refine o_one ⟨[E1, E2, E3, E4, E15, E16, E18, E19, E20], [B5, B6], H⟩ (st_len S34 p2 (eI .u32) (some 19) (by kernel_rfl) (by kernel_rfl)) ?_
  refine o_run 1 ⟨[E1, E2, E3, E4, E15, E16, E18, E19, E20, E17], [B5, B6], H⟩ (by kernel_rfl) (by kernel_rfl) ?_
  exact o_end (by kernel_rfl) (by kernel_rfl)
  rcases if_inv hF with ⟨h7, hF⟩ | ⟨h7, hF⟩
  refine w_cT (m := .top) h7 (s1 := (⟨[E1, E2, E3, E4, E15, E16], [B5, B6], H⟩ : St)) (by kernel_rfl) (by kernel_rfl) ?_
  refine w_skip ?_
  refine w_seq ?_
  refine w_block ?_
  obtain ⟨x8, h9, hF⟩ := bind1_inv hF
  let E28 : Nat × TV := (29, .one .top (.rd .bl .bl [.int .u32 x8] 0))
  let E29 : Nat × TV := (30, .one .top (.int .u32 x8))
  let S36 : St := ⟨[E1, E2, E3, E4, E15, E16, E22, E23, E24, E25, E26, E27, E28, E29], [B5, B6], H⟩
  let S37 : St := ⟨[E1, E2, E3, E4, E15, E16, E22, E23, E24, E25, E26, E27, E28, E29, E30], [B5, B6], H⟩
  obtain ⟨x10, h11, hF⟩ := bind1_inv hF
  obtain ⟨v12, h13, hF⟩ := bind1_inv hF
  let E21 : Nat × TV := (7, .one (.own 1) (.sl 1 (List.map (eI .u32) v12)))
  refine w_regO ⟨[E1, E2, E3, E4, E21, E16], [B5, B6], H⟩ ?_ ?_
  refine o_run 6 S35 (by kernel_rfl) (by kernel_rfl) ?_
  refine o_one ⟨[E1, E2, E3, E4, E15, E16, E22, E23, E24, E25, E26, E27, E28], [B5, B6], H⟩ (st_ix (X := X) S35 30 22 1 h9 (eI .u32) .bl (some 29) (by kernel_rfl) (by kernel_rfl) (by kernel_rfl) (by kernel_rfl)) ?_
  refine o_run 1 S36 (by kernel_rfl) (by kernel_rfl) ?_
  refine o_one S37 (st_ixA (X := X) S36 30 22 1 h11 (eI .u32) (.tmp 7) 0 (List.map (eI .u32) a5).length 0 (some 31) (by kernel_rfl) (by kernel_rfl) (by kernel_rfl) (by kernel_rfl) rfl (List.length_map _) (by kernel_rfl)) ?_
  refine o_one ⟨[E1, E2, E3, E4, E21, E16, E22, E23, E24, E25, (27, .one .top .junk), E27, (29, .one .top .junk), E29, E30], [B5, B6], H⟩ (st_stE (X := X) S37 (⟨[E1, E2, E3, E4, E21, E16, E22, E23, E24, E25, E26, E27, E28, E29, E30], [B5, B6], H⟩ : St) ⟨true, []⟩ 22 (.tmp 7) (Int.toNat (IntKind.wrap .i64 (p1 + a6))) 0 1 0 (List.map (eI .u32) a5) [.int .u32 x10] ((eI .u32) x8) (List.map (eI .u32) v12) 1 (.one .top (.int .u32 x8)) (by kernel_rfl) (by kernel_rfl) (by kernel_rfl) (by kernel_rfl) (by kernel_rfl) (by kernel_rfl) (el_at h11) (by kernel_rfl) (by kernel_rfl) (el_put h13) (by kernel_rfl) (by kernel_rfl)) ?_
  exact o_end (by kernel_rfl) (by kernel_rfl)
  refine w_reg ⟨[E1, E2, E3, E4, E21, (8, .one .top (.int .i64 (IntKind.wrap .i64 (a6 + 1))))], [B5, B6], H⟩ (by kernel_rfl) ?_
  cases hF
  exact ⟨_, rfl, (by kernel_rfl)⟩
  refine w_cF (m := .top) h7 (s1 := (⟨[E3, E4, E15], [B5, B6], H⟩ : St)) (by kernel_rfl) (by kernel_rfl) ?_
  refine w_exit ?_
  cases hF
  exact ⟨_, rfl, (by kernel_rfl)⟩
  obtain ⟨b16, hy⟩ : ∃ y, y = r14 := ⟨_, rfl⟩
  subst hy
  refine w_oe (i := 0) (s := (⟨[E3, E4, (7, .one (.own 1) (.sl 1 (List.map (eI .u32) b16)))], [B5, B6], H⟩ : St)) (by kernel_rfl) ?_
  refine e_here ?_
  refine w_seq ?_
  refine w_reg ⟨[E3, E4], [(3, [(.top, .int .u32 (p0.Ends_.g 0)), (.top, .int .u32 (p0.Ends_.g 1)), (.top, .int .u32 (p0.Ends_.g 2)), (.top, .int .u32 (p0.Ends_.g 3)), (.top, .int .u32 (p0.Ends_.g 4)), ((.own 1), .sl 1 (List.map (eI .u32) b16))]), B6], H⟩ (by kernel_rfl) ?_
  refine w_seq ?_
  refine w_reg ⟨[E4], [(6, [(.top, .int .u32 (p0.Ends_.g 0)), (.top, .int .u32 (p0.Ends_.g 1)), (.top, .int .u32 (p0.Ends_.g 2)), (.top, .int .u32 (p0.Ends_.g 3)), (.top, .int .u32 (p0.Ends_.g 4)), ((.own 1), .sl 1 (List.map (eI .u32) b16))])], H⟩ (by kernel_rfl) ?_
  refine w_ret ?_
  obtain e0 := some1_inv hF
  subst e0
  exact fin_pure (v := .agg [(.top, .int .u32 (p0.Ends_.g 0)), (.top, .int .u32 (p0.Ends_.g 1)), (.top, .int .u32 (p0.Ends_.g 2)), (.top, .int .u32 (p0.Ends_.g 3)), (.top, .int .u32 (p0.Ends_.g 4)), ((.own 1), .sl 1 (List.map (eI .u32) b16))]) (by kernel_rfl) (by kernel_rfl) rfl (by kernel_rfl)
noncomputable def ref03_Store  (p0 : T_ref03_Mem) (p1 : Int) (p2 : Int) : Option (T_ref03_Mem × Int) :=
  bind2 (ref03_Load p0 p1) fun r1 r2 =>
  if (r2 != 0) = true then (some (p0, r2))
  else (if (decide (p1 < (p0.Ends_.g 1))) = true then (some (p0, 32))
  else (bind1 (ref03_with p0 (IntKind.wrap .i64 (IntKind.wrap .u32 (Int.tdiv p1 4))) ([p2] : List Int)) fun r6 =>
  some (r6, 0)))
theorem ok_ref03_Store (H : Heap) {p0 : T_ref03_Mem} {p1 : Int} {p2 : Int} {ra : T_ref03_Mem} {rb : Int} (hF : ref03_Store p0 p1 p2 = some (ra, rb)) : evS X 62 [.agg [(.top, .int .u32 (p0.Ends_.g 0)), (.top, .int .u32 (p0.Ends_.g 1)), (.top, .int .u32 (p0.Ends_.g 2)), (.top, .int .u32 (p0.Ends_.g 3)), (.top, .int .u32 (p0.Ends_.g 4)), ((.own 0), .sl 1 (List.map (eI .u32) p0.W_))], .one .top (.int .u32 p1), .one .top (.int .u32 p2)] H = some (.tup [.agg [(.top, .int .u32 (ra.Ends_.g 0)), (.top, .int .u32 (ra.Ends_.g 1)), (.top, .int .u32 (ra.Ends_.g 2)), (.top, .int .u32 (ra.Ends_.g 3)), (.top, .int .u32 (ra.Ends_.g 4)), ((.own 0), .sl 1 (List.map (eI .u32) ra.W_))], .one .top (.int .i64 rb)], H) := by
  let E1 : Nat × TV := (1, .one .top (.int .u32 p1))
  let E2 : Nat × TV := (2, .one .top (.int .u32 p2))
  let E3 : Nat × TV := (3, .one .top (.loc 3 0))
  let E4 : Nat × TV := (6, .one .top (.loc 6 0))
  let B5 : Nat × List MC := (3, [(.top, .int .u32 (p0.Ends_.g 0)), (.top, .int .u32 (p0.Ends_.g 1)), (.top, .int .u32 (p0.Ends_.g 2)), (.top, .int .u32 (p0.Ends_.g 3)), (.top, .int .u32 (p0.Ends_.g 4)), ((.own 0), .sl 1 (List.map (eI .u32) p0.W_))])
  let B6 : Nat × List MC := (6, [(.top, .int .u32 0), (.top, .int .u32 0), (.top, .int .u32 0), (.top, .int .u32 0), (.top, .int .u32 0), ((.own 1), .sl 1 (List.map (eI .u32) ([] : List Int)))])
  let E8 : Nat × TV := (11, .agg [(.top, .int .u32 (p0.Ends_.g 0)), (.top, .int .u32 (p0.Ends_.g 1)), (.top, .int .u32 (p0.Ends_.g 2)), (.top, .int .u32 (p0.Ends_.g 3)), (.top, .int .u32 (p0.Ends_.g 4)), ((.own 0), .sl 1 (List.map (eI .u32) p0.W_))])
  let E9 : Nat × TV := (12, .one .top (.int .u32 p1))
  let B11 : Nat × List MC := (6, [(.top, .int .u32 (p0.Ends_.g 0)), (.top, .int .u32 (p0.Ends_.g 1)), (.top, .int .u32 (p0.Ends_.g 2)), (.top, .int .u32 (p0.Ends_.g 3)), (.top, .int .u32 (p0.Ends_.g 4)), ((.own 0), .sl 1 (List.map (eI .u32) p0.W_))])
  let E13 : Nat × TV := (26, .agg [(.top, .int .u32 (p0.Ends_.g 0)), (.top, .int .u32 (p0.Ends_.g 1)), (.top, .int .u32 (p0.Ends_.g 2)), (.top, .int .u32 (p0.Ends_.g 3)), (.top, .int .u32 (p0.Ends_.g 4)), ((.own 0), .sl 1 (List.map (eI .u32) p0.W_))])
  let E14 : Nat × TV := (27, .one .top (.int .u32 p1))
  let E15 : Nat × TV := (28, .one .top (.int .u32 (IntKind.wrap .u32 (Int.tdiv p1 4))))
  let E16 : Nat × TV := (29, .one .top (.int .i64 (IntKind.wrap .i64 (IntKind.wrap .u32 (Int.tdiv p1 4)))))
  let E17 : Nat × TV := (30, .one .top (.int .u32 p2))
  let E18 : Nat × TV := (31, .one .top .junk)
  let S20 : St := ⟨[E1, E2, E3, E4], [B5, B6], H⟩
  let S21 : St := ⟨[E1, E2, E3, E4, E8, E9], [B5, B6], H⟩
  refine w_fun Try.func62 rfl (by kernel_rfl) true (by kernel_rfl) (s0 := (⟨[(0, .agg [(.top, .int .u32 (p0.Ends_.g 0)), (.top, .int .u32 (p0.Ends_.g 1)), (.top, .int .u32 (p0.Ends_.g 2)), (.top, .int .u32 (p0.Ends_.g 3)), (.top, .int .u32 (p0.Ends_.g 4)), ((.own 0), .sl 1 (List.map (eI .u32) p0.W_))]), E1, E2], [], H⟩ : St)) (by kernel_rfl) ?_
  unfold ref03_Store at hF
  refine w_seq ?_
  refine w_reg S20 (by kernel_rfl) ?_
  refine w_seq ?_
  refine w_seq ?_
  obtain ⟨r1, r2, c3, hF⟩ := bind2_inv hF
  let E7 : Nat × TV := (9, .one .top (.int .i64 r2))
  let E10 : Nat × TV := (13, .tup [.one .top (.int .u32 r1), .one .top (.int .i64 r2)])
  refine w_regO ⟨[E1, E2, E3, E4, E7], [B5, B6], H⟩ ?_ ?_
  refine o_run 2 S21 (by kernel_rfl) (by kernel_rfl) ?_
  refine o_one ⟨[E1, E2, E3, E4, E8, E9, E10], [B5, B6], H⟩ (st_call (d := (some 13)) (fz := false) (pure := true) (own := false) S21 (ok_ref03_Load H c3) (by kernel_rfl) (by kernel_rfl)) ?_
  refine o_run 5 ⟨[E1, E2, E3, E4, (8, .one .top (.int .u32 r1)), E7, (10, .tup [.one .top (.int .u32 r1), .one .top (.int .i64 r2)]), E8, E9, E10, (14, .one .top (.int .u32 r1)), (15, .one .top (.int .i64 r2))], [B5, B6], H⟩ (by kernel_rfl) (by kernel_rfl) ?_
  exact o_end (by kernel_rfl) (by kernel_rfl)
  refine w_seq ?_
  refine w_reg ⟨[E1, E2, E3, E4, E7, (17, .one .top (.bool (r2 != 0)))], [B5, B6], H⟩ (by kernel_rfl) ?_
  rcases if_inv hF with ⟨h4, hF⟩ | ⟨h4, hF⟩
  refine w_cT (m := .top) h4 (s1 := (⟨[E3, E4, E7], [B5, B6], H⟩ : St)) (by kernel_rfl) (by kernel_rfl) ?_
  refine w_seq ?_
  refine w_reg ⟨[E4, (7, .one .top (.int .i64 r2))], [B11], H⟩ (by kernel_rfl) ?_
  refine w_ret ?_
  obtain ⟨e0, e1⟩ := some2_inv hF
  subst e0
  subst e1
  exact fin_pure (v := .tup [.agg [(.top, .int .u32 (p0.Ends_.g 0)), (.top, .int .u32 (p0.Ends_.g 1)), (.top, .int .u32 (p0.Ends_.g 2)), (.top, .int .u32 (p0.Ends_.g 3)), (.top, .int .u32 (p0.Ends_.g 4)), ((.own 0), .sl 1 (List.map (eI .u32) p0.W_))], .one .top (.int .i64 r2)]) (by kernel_rfl) (by kernel_rfl) rfl (by kernel_rfl)
  refine w_cF (m := .top) h4 (s1 := S20) (by kernel_rfl) (by kernel_rfl) ?_
  refine w_skip ?_
  refine w_seq ?_
  refine w_seq ?_
  refine w_reg ⟨[E1, E2, E3, E4, (24, .one .top (.bool (decide (p1 < (p0.Ends_.g 1)))))], [B5, B6], H⟩ (by kernel_rfl) ?_
  rcases if_inv hF with ⟨h5, hF⟩ | ⟨h5, hF⟩
  refine w_cT (m := .top) h5 (s1 := (⟨[E3, E4], [B5, B6], H⟩ : St)) (by kernel_rfl) (by kernel_rfl) ?_
  refine w_seq ?_
  refine w_reg ⟨[E4, (7, .one .top (.int .i64 32))], [B11], H⟩ (by kernel_rfl) ?_
  refine w_ret ?_
  obtain ⟨e0, e1⟩ := some2_inv hF
  subst e0
  subst e1
  exact fin_pure (v := .tup [.agg [(.top, .int .u32 (p0.Ends_.g 0)), (.top, .int .u32 (p0.Ends_.g 1)), (.top, .int .u32 (p0.Ends_.g 2)), (.top, .int .u32 (p0.Ends_.g 3)), (.top, .int .u32 (p0.Ends_.g 4)), ((.own 0), .sl 1 (List.map (eI .u32) p0.W_))], .one .top (.int .i64 32)]) (by kernel_rfl) (by kernel_rfl) rfl (by kernel_rfl)
  refine w_cF (m := .top) h5 (s1 := S20) (by kernel_rfl) (by kernel_rfl) ?_
  refine w_skip ?_
  refine w_seq ?_
  obtain ⟨r6, c7, hF⟩ := bind1_inv hF
  let B12 : Nat × List MC := (6, [(.top, .int .u32 (r6.Ends_.g 0)), (.top, .int .u32 (r6.Ends_.g 1)), (.top, .int .u32 (r6.Ends_.g 2)), (.top, .int .u32 (r6.Ends_.g 3)), (.top, .int .u32 (r6.Ends_.g 4)), ((.own 0), .sl 1 (List.map (eI .u32) r6.W_))])
  let E19 : Nat × TV := (32, .agg [(.top, .int .u32 (r6.Ends_.g 0)), (.top, .int .u32 (r6.Ends_.g 1)), (.top, .int .u32 (r6.Ends_.g 2)), (.top, .int .u32 (r6.Ends_.g 3)), (.top, .int .u32 (r6.Ends_.g 4)), ((.own 0), .sl 1 (List.map (eI .u32) r6.W_))])
  refine w_regO ⟨[E4, (7, .one .top (.int .i64 0))], [B12], H⟩ ?_ ?_
  refine o_run 6 ⟨[E1, E2, E3, E4, E13, E14, E15, E16, E17, (31, .one (.own 1) (.sl 1 (List.map (eI .u32) ([p2] : List Int))))], [B5, B6], H⟩ (by kernel_rfl) (by kernel_rfl) ?_
  refine o_one ⟨[E1, E2, E3, E4, E13, E14, E15, E16, E17, E18, E19], [B5, B6], H⟩ (st_call (d := (some 32)) (fz := false) (pure := true) (own := true) (⟨[E1, E2, E3, E4, E13, E14, E15, E16, E17, E18], [B5, B6], H⟩ : St) (ok_ref03_with H c7) (by kernel_rfl) (by kernel_rfl)) ?_
  refine o_run 2 ⟨[E1, E2, E3, E4, (7, .one .top (.int .i64 0)), E13, E14, E15, E16, E17, E18, E19], [B5, B12], H⟩ (by kernel_rfl) (by kernel_rfl) ?_
  exact o_end (by kernel_rfl) (by kernel_rfl)
  refine w_ret ?_
  obtain ⟨e0, e1⟩ := some2_inv hF
  subst e0
  subst e1
  exact fin_pure (v := .tup [.agg [(.top, .int .u32 (r6.Ends_.g 0)), (.top, .int .u32 (r6.Ends_.g 1)), (.top, .int .u32 (r6.Ends_.g 2)), (.top, .int .u32 (r6.Ends_.g 3)), (.top, .int .u32 (r6.Ends_.g 4)), ((.own 0), .sl 1 (List.map (eI .u32) r6.W_))], .one .top (.int .i64 0)]) (by kernel_rfl) (by kernel_rfl) rfl (by kernel_rfl)
theorem ok_ref03_with_2 (H : Heap) {p0 : T_ref03_Mem} {p1 : Int} {p2 : (List Int)} {ra : T_ref03_Mem} (hF : ref03_with p0 p1 p2 = some ra) : evS X 89 [.agg [(.top, .int .u32 (p0.Ends_.g 0)), (.top, .int .u32 (p0.Ends_.g 1)), (.top, .int .u32 (p0.Ends_.g 2)), (.top, .int .u32 (p0.Ends_.g 3)), (.top, .int .u32 (p0.Ends_.g 4)), ((.own 0), .sl 1 (List.map (eI .u32) p0.W_))], .one .top (.int .i64 p1), .one .ro (.sl 1 (List.map (eI .u32) p2))] H = some (.agg [(.top, .int .u32 (ra.Ends_.g 0)), (.top, .int .u32 (ra.Ends_.g 1)), (.top, .int .u32 (ra.Ends_.g 2)), (.top, .int .u32 (ra.Ends_.g 3)), (.top, .int .u32 (ra.Ends_.g 4)), ((.own 0), .sl 1 (List.map (eI .u32) ra.W_))], H) := by
  let E1 : Nat × TV := (1, .one .top (.int .i64 p1))
  let E2 : Nat × TV := (2, .one .ro (.sl 1 (List.map (eI .u32) p2)))
  let E3 : Nat × TV := (3, .one .top (.loc 3 0))
  let E4 : Nat × TV := (6, .one .top (.loc 6 0))
  let B5 : Nat × List MC := (3, [(.top, .int .u32 (p0.Ends_.g 0)), (.top, .int .u32 (p0.Ends_.g 1)), (.top, .int .u32 (p0.Ends_.g 2)), (.top, .int .u32 (p0.Ends_.g 3)), (.top, .int .u32 (p0.Ends_.g 4)), ((.own 0), .sl 1 (List.map (eI .u32) p0.W_))])
  let B6 : Nat × List MC := (6, [(.top, .int .u32 0), (.top, .int .u32 0), (.top, .int .u32 0), (.top, .int .u32 0), (.top, .int .u32 0), ((.own 1), .sl 1 (List.map (eI .u32) ([] : List Int)))])
  let E8 : Nat × TV := (9, .one .top (.loc 3 5))
  let E9 : Nat × TV := (10, .one (.own 0) (.sl 1 (List.map (eI .u32) p0.W_)))
  let E10 : Nat × TV := (11, .one .top (.int .i64 (p0.W_.length : Int)))
  let E13 : Nat × TV := (14, .one .top (.loc 3 5))
  let E14 : Nat × TV := (15, .one (.own 0) (.sl 1 (List.map (eI .u32) p0.W_)))
  let E19 : Nat × TV := (18, .one .ro (.sl 1 (List.map (eI .u32) p2)))
  let E20 : Nat × TV := (19, .one .top (.int .i64 (p2.length : Int)))
  let E23 : Nat × TV := (24, .one .top (.int .i64 p1))
  let E26 : Nat × TV := (27, .one .ro (.sl 1 (List.map (eI .u32) p2)))
  let S31 : St := ⟨[E1, E2, E3, E4, E8, E9], [B5, B6], H⟩
  let S32 : St := ⟨[E1, E2, E3, E4, E8, E9, E10], [B5, B6], H⟩
  refine w_fun Try.func89 rfl (by kernel_rfl) true (by kernel_rfl) (s0 := (⟨[(0, .agg [(.top, .int .u32 (p0.Ends_.g 0)), (.top, .int .u32 (p0.Ends_.g 1)), (.top, .int .u32 (p0.Ends_.g 2)), (.top, .int .u32 (p0.Ends_.g 3)), (.top, .int .u32 (p0.Ends_.g 4)), ((.own 0), .sl 1 (List.map (eI .u32) p0.W_))]), E1, E2], [], H⟩ : St)) (by kernel_rfl) ?_
  unfold ref03_with at hF
  refine w_seq ?_
  refine w_reg ⟨[E1, E2, E3, E4], [B5, B6], H⟩ (by kernel_rfl) ?_
  refine w_seq ?_
  obtain ⟨v1, h2, hF⟩ := bind1_inv hF
  let E7 : Nat × TV := (7, .one (.own 1) (.sl 1 (List.map (eI .u32) v1)))
  let E12 : Nat × TV := (13, .one .top (.at_ (.tmp 7) 0 ((List.map (eI .u32) v1).length)))
  let S33 : St := ⟨[E1, E2, E3, E4, E7, E12, E13, E14], [B5, B6], H⟩
  refine w_regO ⟨[E1, E2, E3, E4, E7], [B5, B6], H⟩ ?_ ?_
  refine o_run 2 S31 (by kernel_rfl) (by kernel_rfl) ?_
  refine o_one S32 (st_len S31 p0.W_ (eI .u32) (some 11) (by kernel_rfl) (by kernel_rfl)) ?_
  refine o_one ⟨[E1, E2, E3, E4, E8, E9, E10, (12, .one (.own 1) (.sl 1 (List.map (eI .u32) v1)))], [B5, B6], H⟩ (st_mk (X := X) S32 4 h2 30 22 1 [(.top, .int .u32 0)] (eI .u32) 0 (.i64) (.i64) (some 12) (by kernel_rfl) (by kernel_rfl) (by kernel_rfl) (by kernel_rfl) (by kernel_rfl) (by kernel_rfl) (by kernel_rfl) (by kernel_rfl) (by kernel_rfl) (by kernel_rfl)) ?_
  refine o_run 1 ⟨[E1, E2, E3, E4, E7, E8, E9, E10, (12, .one .top .junk)], [B5, B6], H⟩ (by kernel_rfl) (by kernel_rfl) ?_
  exact o_end (by kernel_rfl) (by kernel_rfl)
  refine w_seq ?_
  obtain ⟨v3, h4, hF⟩ := bnd_inv hF
  let E11 : Nat × TV := (7, .one (.own 1) (.sl 1 (List.map (eI .u32) v3)))
  refine w_regO ⟨[E1, E2, E3, E4, E11], [B5, B6], H⟩ ?_ ?_
  refine o_run 3 S33 (by kernel_rfl) (by kernel_rfl) ?_
  refine o_one ⟨[E1, E2, E3, E4, E11, E12, E13, E14, (16, .one .top (.int .i64 (((min p0.W_.length (v1.length - 0) : Nat)) : Int)))], [B5, B6], H⟩ (st_cpT (X := X) S33 30 22 0 1 (eI .u32) 7 (.own 0) v1 p0.W_ 0 h4 (some 16) ⟨true, []⟩ (Nat.zero_le _) (by kernel_rfl) (by kernel_rfl) (by kernel_rfl) (fun _ => rfl) (fun _ => rfl) (by kernel_rfl) (by kernel_rfl)) ?_
  exact o_end (by kernel_rfl) (by kernel_rfl)
  refine w_seq ?_
  refine w_seq ?_
  refine w_reg ⟨[E1, E2, E3, E4, E11, (8, .one .top (.int .i64 0))], [B5, B6], H⟩ (by kernel_rfl) ?_
  refine w_block ?_
  obtain ⟨r14, hL15, hF⟩ := bind1_inv hF
  refine w_loop (fun (x : ((List Int) × Int)) => (⟨[E1, E2, E3, E4, (7, .one (.own 1) (.sl 1 (List.map (eI .u32) x.1))), (8, .one .top (.int .i64 x.2))], [B5, B6], H⟩ : St)) (fun (y : ((List Int))) => ((.exit 0, (⟨[E3, E4, (7, .one (.own 1) (.sl 1 (List.map (eI .u32) y)))], [B5, B6], H⟩ : St)) : Ex × St)) hL15 (by kernel_rfl) ?_ ?_
  rintro ⟨a5, a6⟩ o hF
  replace hF : ref03_with_L1 p2 p1 a5 a6 = some o := hF
  let E15 : Nat × TV := (7, .one (.own 1) (.sl 1 (List.map (eI .u32) a5)))
  let E16 : Nat × TV := (8, .one .top (.int .i64 a6))
  let E17 : Nat × TV := (20, .one .top (.bool (decide (a6 < (p2.length : Int)))))
  let E18 : Nat × TV := (17, .one .top (.int .i64 a6))
  let E22 : Nat × TV := (23, .one .top (.at_ (.tmp 7) 0 ((List.map (eI .u32) a5).length)))
  let E24 : Nat × TV := (25, .one .top (.int .i64 a6))
  let E25 : Nat × TV := (26, .one .top (.int .i64 (IntKind.wrap .i64 (p1 + a6))))
  let E27 : Nat × TV := (28, .one .top (.int .i64 a6))
  let E30 : Nat × TV := (31, .one .top (.el (.tmp 7) (Int.toNat (IntKind.wrap .i64 (p1 + a6))) 0))
  let S34 : St := ⟨[E1, E2, E3, E4, E15, E16, E18, E19], [B5, B6], H⟩
  let S35 : St := ⟨[E1, E2, E3, E4, E15, E16, E22, E23, E24, E25, E26, E27], [B5, B6], H⟩
  unfold ref03_with_L1 at hF
  refine w_seq ?_
  refine w_seq ?_
  refine w_regO ⟨[E1, E2, E3, E4, E15, E16, E17], [B5, B6], H⟩ ?_ ?_
  refine o_run 2 S34 (by kernel_rfl) (by kernel_rfl) ?_
  refine o_one ⟨[E1, E2, E3, E4, E15, E16, E18, E19, E20], [B5, B6], H⟩ (st_len S34 p2 (eI .u32) (some 19) (by kernel_rfl) (by kernel_rfl)) ?_
  refine o_run 1 ⟨[E1, E2, E3, E4, E15, E16, E18, E19, E20, E17], [B5, B6], H⟩ (by kernel_rfl) (by kernel_rfl) ?_
  exact o_end (by kernel_rfl) (by kernel_rfl)
  rcases if_inv hF with ⟨h7, hF⟩ | ⟨h7, hF⟩
  refine w_cT (m := .top) h7 (s1 := (⟨[E1, E2, E3, E4, E15, E16], [B5, B6], H⟩ : St)) (by kernel_rfl) (by kernel_rfl) ?_
  refine w_skip ?_
  refine w_seq ?_
  refine w_block ?_
  obtain ⟨x8, h9, hF⟩ := bind1_inv hF
  let E28 : Nat × TV := (29, .one .top (.rd .ro .ro [.int .u32 x8] 0))
  let E29 : Nat × TV := (30, .one .top (.int .u32 x8))
  let S36 : St := ⟨[E1, E2, E3, E4, E15, E16, E22, E23, E24, E25, E26, E27, E28, E29], [B5, B6], H⟩
  let S37 : St := ⟨[E1, E2, E3, E4, E15, E16, E22, E23, E24, E25, E26, E27, E28, E29, E30], [B5, B6], H⟩
  obtain ⟨x10, h11, hF⟩ := bind1_inv hF
  obtain ⟨v12, h13, hF⟩ := bind1_inv hF
  let E21 : Nat × TV := (7, .one (.own 1) (.sl 1 (List.map (eI .u32) v12)))
  let S38 : St := ⟨[E1, E2, E3, E4, E21, E16, E22, E23, E24, E25, E26, E27, E28, E29, E30], [B5, B6], H⟩
  refine w_regO ⟨[E1, E2, E3, E4, E21, E16], [B5, B6], H⟩ ?_ ?_
  refine o_run 6 S35 (by kernel_rfl) (by kernel_rfl) ?_
  refine o_one ⟨[E1, E2, E3, E4, E15, E16, E22, E23, E24, E25, E26, E27, E28], [B5, B6], H⟩ (st_ix (X := X) S35 30 22 1 h9 (eI .u32) .ro (some 29) (by kernel_rfl) (by kernel_rfl) (by kernel_rfl) (by kernel_rfl)) ?_
  refine o_run 1 S36 (by kernel_rfl) (by kernel_rfl) ?_
  refine o_one S37 (st_ixA (X := X) S36 30 22 1 h11 (eI .u32) (.tmp 7) 0 (List.map (eI .u32) a5).length 0 (some 31) (by kernel_rfl) (by kernel_rfl) (by kernel_rfl) (by kernel_rfl) rfl (List.length_map _) (by kernel_rfl)) ?_
  refine o_one S38 (st_stE (X := X) S37 S38 ⟨true, []⟩ 22 (.tmp 7) (Int.toNat (IntKind.wrap .i64 (p1 + a6))) 0 1 0 (List.map (eI .u32) a5) [.int .u32 x10] ((eI .u32) x8) (List.map (eI .u32) v12) 1 (.one .top (.int .u32 x8)) (by kernel_rfl) (by kernel_rfl) (by kernel_rfl) (by kernel_rfl) (by kernel_rfl) (by kernel_rfl) (el_at h11) (by kernel_rfl) (by kernel_rfl) (el_put h13) (by kernel_rfl) (by kernel_rfl)) ?_
  exact o_end (by kernel_rfl) (by kernel_rfl)
  refine w_reg ⟨[E1, E2, E3, E4, E21, (8, .one .top (.int .i64 (IntKind.wrap .i64 (a6 + 1))))], [B5, B6], H⟩ (by kernel_rfl) ?_
  cases hF
  exact ⟨_, rfl, (by kernel_rfl)⟩
  refine w_cF (m := .top) h7 (s1 := (⟨[E3, E4, E15], [B5, B6], H⟩ : St)) (by kernel_rfl) (by kernel_rfl) ?_
  refine w_exit ?_
  cases hF
  exact ⟨_, rfl, (by kernel_rfl)⟩
  obtain ⟨b16, hy⟩ : ∃ y, y = r14 := ⟨_, rfl⟩
  subst hy
  refine w_oe (i := 0) (s := (⟨[E3, E4, (7, .one (.own 1) (.sl 1 (List.map (eI .u32) b16)))], [B5, B6], H⟩ : St)) (by kernel_rfl) ?_
  refine e_here ?_
  refine w_seq ?_
  refine w_reg ⟨[E3, E4], [(3, [(.top, .int .u32 (p0.Ends_.g 0)), (.top, .int .u32 (p0.Ends_.g 1)), (.top, .int .u32 (p0.Ends_.g 2)), (.top, .int .u32 (p0.Ends_.g 3)), (.top, .int .u32 (p0.Ends_.g 4)), ((.own 1), .sl 1 (List.map (eI .u32) b16))]), B6], H⟩ (by kernel_rfl) ?_
  refine w_seq ?_
  refine w_reg ⟨[E4], [(6, [(.top, .int .u32 (p0.Ends_.g 0)), (.top, .int .u32 (p0.Ends_.g 1)), (.top, .int .u32 (p0.Ends_.g 2)), (.top, .int .u32 (p0.Ends_.g 3)), (.top, .int .u32 (p0.Ends_.g 4)), ((.own 1), .sl 1 (List.map (eI .u32) b16))])], H⟩ (by kernel_rfl) ?_
  refine w_ret ?_
  obtain e0 := some1_inv hF
  subst e0
  exact fin_pure (v := .agg [(.top, .int .u32 (p0.Ends_.g 0)), (.top, .int .u32 (p0.Ends_.g 1)), (.top, .int .u32 (p0.Ends_.g 2)), (.top, .int .u32 (p0.Ends_.g 3)), (.top, .int .u32 (p0.Ends_.g 4)), ((.own 1), .sl 1 (List.map (eI .u32) b16))]) (by kernel_rfl) (by kernel_rfl) rfl (by kernel_rfl)
noncomputable def ref03_Fill  (p0 : T_ref03_Mem) (p1 : Int) (p2 : (List Int)) : Option (T_ref03_Mem × Int) :=
  if ((Int.tmod p1 4) != 0) = true then (some (p0, 30))
  else (if (decide ((IntKind.wrap .i64 ((IntKind.wrap .i64 (IntKind.wrap .u32 (Int.tdiv p1 4))) + (p2.length : Int))) > (p0.W_.length : Int))) = true then (some (p0, 31))
  else (bind1 (ref03_with p0 (IntKind.wrap .i64 (IntKind.wrap .u32 (Int.tdiv p1 4))) p2) fun r3 =>
  some (r3, 0)))
theorem ok_ref03_Fill (H : Heap) {p0 : T_ref03_Mem} {p1 : Int} {p2 : (List Int)} {ra : T_ref03_Mem} {rb : Int} (hF : ref03_Fill p0 p1 p2 = some (ra, rb)) : evS X 63 [.agg [(.top, .int .u32 (p0.Ends_.g 0)), (.top, .int .u32 (p0.Ends_.g 1)), (.top, .int .u32 (p0.Ends_.g 2)), (.top, .int .u32 (p0.Ends_.g 3)), (.top, .int .u32 (p0.Ends_.g 4)), ((.own 0), .sl 1 (List.map (eI .u32) p0.W_))], .one .top (.int .u32 p1), .one .ro (.sl 1 (List.map (eI .u32) p2))] H = some (.tup [.agg [(.top, .int .u32 (ra.Ends_.g 0)), (.top, .int .u32 (ra.Ends_.g 1)), (.top, .int .u32 (ra.Ends_.g 2)), (.top, .int .u32 (ra.Ends_.g 3)), (.top, .int .u32 (ra.Ends_.g 4)), ((.own 0), .sl 1 (List.map (eI .u32) ra.W_))], .one .top (.int .i64 rb)], H) := by
  let E1 : Nat × TV := (1, .one .top (.int .u32 p1))
  let E2 : Nat × TV := (2, .one .ro (.sl 1 (List.map (eI .u32) p2)))
  let E3 : Nat × TV := (3, .one .top (.loc 3 0))
  let E4 : Nat × TV := (6, .one .top (.loc 6 0))
  let B5 : Nat × List MC := (3, [(.top, .int .u32 (p0.Ends_.g 0)), (.top, .int .u32 (p0.Ends_.g 1)), (.top, .int .u32 (p0.Ends_.g 2)), (.top, .int .u32 (p0.Ends_.g 3)), (.top, .int .u32 (p0.Ends_.g 4)), ((.own 0), .sl 1 (List.map (eI .u32) p0.W_))])
  let B6 : Nat × List MC := (6, [(.top, .int .u32 0), (.top, .int .u32 0), (.top, .int .u32 0), (.top, .int .u32 0), (.top, .int .u32 0), ((.own 1), .sl 1 (List.map (eI .u32) ([] : List Int)))])
  let B7 : Nat × List MC := (6, [(.top, .int .u32 (p0.Ends_.g 0)), (.top, .int .u32 (p0.Ends_.g 1)), (.top, .int .u32 (p0.Ends_.g 2)), (.top, .int .u32 (p0.Ends_.g 3)), (.top, .int .u32 (p0.Ends_.g 4)), ((.own 0), .sl 1 (List.map (eI .u32) p0.W_))])
  let E8 : Nat × TV := (21, .one .top (.bool (decide ((IntKind.wrap .i64 ((IntKind.wrap .i64 (IntKind.wrap .u32 (Int.tdiv p1 4))) + (p2.length : Int))) > (p0.W_.length : Int)))))
  let E9 : Nat × TV := (12, .one .top (.int .u32 p1))
  let E10 : Nat × TV := (13, .one .top (.int .u32 (IntKind.wrap .u32 (Int.tdiv p1 4))))
  let E11 : Nat × TV := (14, .one .top (.int .i64 (IntKind.wrap .i64 (IntKind.wrap .u32 (Int.tdiv p1 4)))))
  let E12 : Nat × TV := (15, .one .ro (.sl 1 (List.map (eI .u32) p2)))
  let E13 : Nat × TV := (16, .one .top (.int .i64 (p2.length : Int)))
  let E14 : Nat × TV := (17, .one .top (.int .i64 (IntKind.wrap .i64 ((IntKind.wrap .i64 (IntKind.wrap .u32 (Int.tdiv p1 4))) + (p2.length : Int)))))
  let E15 : Nat × TV := (18, .one .top (.loc 3 5))
  let E16 : Nat × TV := (19, .one (.own 0) (.sl 1 (List.map (eI .u32) p0.W_)))
  let E17 : Nat × TV := (20, .one .top (.int .i64 (p0.W_.length : Int)))
  let E19 : Nat × TV := (23, .agg [(.top, .int .u32 (p0.Ends_.g 0)), (.top, .int .u32 (p0.Ends_.g 1)), (.top, .int .u32 (p0.Ends_.g 2)), (.top, .int .u32 (p0.Ends_.g 3)), (.top, .int .u32 (p0.Ends_.g 4)), ((.own 0), .sl 1 (List.map (eI .u32) p0.W_))])
  let E20 : Nat × TV := (24, .one .top (.int .u32 p1))
  let E21 : Nat × TV := (25, .one .top (.int .u32 (IntKind.wrap .u32 (Int.tdiv p1 4))))
  let E22 : Nat × TV := (26, .one .top (.int .i64 (IntKind.wrap .i64 (IntKind.wrap .u32 (Int.tdiv p1 4)))))
  let E23 : Nat × TV := (27, .one .ro (.sl 1 (List.map (eI .u32) p2)))
  let S25 : St := ⟨[E1, E2, E3, E4], [B5, B6], H⟩
  let S26 : St := ⟨[E3, E4], [B5, B6], H⟩
  let S27 : St := ⟨[E1, E2, E3, E4, E9, E10, E11, E12], [B5, B6], H⟩
  let S28 : St := ⟨[E1, E2, E3, E4, E9, E10, E11, E12, E13, E14, E15, E16], [B5, B6], H⟩
  let S29 : St := ⟨[E1, E2, E3, E4, E19, E20, E21, E22, E23], [B5, B6], H⟩
  refine w_fun Try.func63 rfl (by kernel_rfl) true (by kernel_rfl) (s0 := (⟨[(0, .agg [(.top, .int .u32 (p0.Ends_.g 0)), (.top, .int .u32 (p0.Ends_.g 1)), (.top, .int .u32 (p0.Ends_.g 2)), (.top, .int .u32 (p0.Ends_.g 3)), (.top, .int .u32 (p0.Ends_.g 4)), ((.own 0), .sl 1 (List.map (eI .u32) p0.W_))]), E1, E2], [], H⟩ : St)) (by kernel_rfl) ?_
  unfold ref03_Fill at hF
  refine w_seq ?_
  refine w_reg S25 (by kernel_rfl) ?_
  refine w_seq ?_
  refine w_seq ?_
  refine w_reg ⟨[E1, E2, E3, E4, (10, .one .top (.bool ((Int.tmod p1 4) != 0)))], [B5, B6], H⟩ (by kernel_rfl) ?_
  rcases if_inv hF with ⟨h1, hF⟩ | ⟨h1, hF⟩
  refine w_cT (m := .top) h1 (s1 := S26) (by kernel_rfl) (by kernel_rfl) ?_
  refine w_seq ?_
  refine w_reg ⟨[E4, (7, .one .top (.int .i64 30))], [B7], H⟩ (by kernel_rfl) ?_
  refine w_ret ?_
  obtain ⟨e0, e1⟩ := some2_inv hF
  subst e0
  subst e1
  exact fin_pure (v := .tup [.agg [(.top, .int .u32 (p0.Ends_.g 0)), (.top, .int .u32 (p0.Ends_.g 1)), (.top, .int .u32 (p0.Ends_.g 2)), (.top, .int .u32 (p0.Ends_.g 3)), (.top, .int .u32 (p0.Ends_.g 4)), ((.own 0), .sl 1 (List.map (eI .u32) p0.W_))], .one .top (.int .i64 30)]) (by kernel_rfl) (by kernel_rfl) rfl (by kernel_rfl)
  refine w_cF (m := .top) h1 (s1 := S25) (by kernel_rfl) (by kernel_rfl) ?_
  refine w_skip ?_
  refine w_seq ?_
  refine w_seq ?_
  refine w_regO ⟨[E1, E2, E3, E4, E8], [B5, B6], H⟩ ?_ ?_
  refine o_run 4 S27 (by kernel_rfl) (by kernel_rfl) ?_
  refine o_one ⟨[E1, E2, E3, E4, E9, E10, E11, E12, E13], [B5, B6], H⟩ (st_len S27 p2 (eI .u32) (some 16) (by kernel_rfl) (by kernel_rfl)) ?_
  refine o_run 3 S28 (by kernel_rfl) (by kernel_rfl) ?_
  refine o_one ⟨[E1, E2, E3, E4, E9, E10, E11, E12, E13, E14, E15, E16, E17], [B5, B6], H⟩ (st_len S28 p0.W_ (eI .u32) (some 20) (by kernel_rfl) (by kernel_rfl)) ?_
  refine o_run 1 ⟨[E1, E2, E3, E4, E9, E10, E11, E12, E13, E14, E15, E16, E17, E8], [B5, B6], H⟩ (by kernel_rfl) (by kernel_rfl) ?_
  exact o_end (by kernel_rfl) (by kernel_rfl)
  rcases if_inv hF with ⟨h2, hF⟩ | ⟨h2, hF⟩
  refine w_cT (m := .top) h2 (s1 := S26) (by kernel_rfl) (by kernel_rfl) ?_
  refine w_seq ?_
  refine w_reg ⟨[E4, (7, .one .top (.int .i64 31))], [B7], H⟩ (by kernel_rfl) ?_
  refine w_ret ?_
  obtain ⟨e0, e1⟩ := some2_inv hF
  subst e0
  subst e1
  exact fin_pure (v := .tup [.agg [(.top, .int .u32 (p0.Ends_.g 0)), (.top, .int .u32 (p0.Ends_.g 1)), (.top, .int .u32 (p0.Ends_.g 2)), (.top, .int .u32 (p0.Ends_.g 3)), (.top, .int .u32 (p0.Ends_.g 4)), ((.own 0), .sl 1 (List.map (eI .u32) p0.W_))], .one .top (.int .i64 31)]) (by kernel_rfl) (by kernel_rfl) rfl (by kernel_rfl)
  refine w_cF (m := .top) h2 (s1 := S25) (by kernel_rfl) (by kernel_rfl) ?_
  refine w_skip ?_
  refine w_seq ?_
  obtain ⟨r3, c4, hF⟩ := bind1_inv hF
  let B18 : Nat × List MC := (6, [(.top, .int .u32 (r3.Ends_.g 0)), (.top, .int .u32 (r3.Ends_.g 1)), (.top, .int .u32 (r3.Ends_.g 2)), (.top, .int .u32 (r3.Ends_.g 3)), (.top, .int .u32 (r3.Ends_.g 4)), ((.own 0), .sl 1 (List.map (eI .u32) r3.W_))])
  let E24 : Nat × TV := (28, .agg [(.top, .int .u32 (r3.Ends_.g 0)), (.top, .int .u32 (r3.Ends_.g 1)), (.top, .int .u32 (r3.Ends_.g 2)), (.top, .int .u32 (r3.Ends_.g 3)), (.top, .int .u32 (r3.Ends_.g 4)), ((.own 0), .sl 1 (List.map (eI .u32) r3.W_))])
  refine w_regO ⟨[E4, (7, .one .top (.int .i64 0))], [B18], H⟩ ?_ ?_
  refine o_run 5 S29 (by kernel_rfl) (by kernel_rfl) ?_
  refine o_one ⟨[E1, E2, E3, E4, E19, E20, E21, E22, E23, E24], [B5, B6], H⟩ (st_call (d := (some 28)) (fz := false) (pure := true) (own := false) S29 (ok_ref03_with_2 H c4) (by kernel_rfl) (by kernel_rfl)) ?_
  refine o_run 2 ⟨[E1, E2, E3, E4, (7, .one .top (.int .i64 0)), E19, E20, E21, E22, E23, E24], [B5, B18], H⟩ (by kernel_rfl) (by kernel_rfl) ?_
  exact o_end (by kernel_rfl) (by kernel_rfl)
  refine w_ret ?_
  obtain ⟨e0, e1⟩ := some2_inv hF
  subst e0
  subst e1
  exact fin_pure (v := .tup [.agg [(.top, .int .u32 (r3.Ends_.g 0)), (.top, .int .u32 (r3.Ends_.g 1)), (.top, .int .u32 (r3.Ends_.g 2)), (.top, .int .u32 (r3.Ends_.g 3)), (.top, .int .u32 (r3.Ends_.g 4)), ((.own 0), .sl 1 (List.map (eI .u32) r3.W_))], .one .top (.int .i64 0)]) (by kernel_rfl) (by kernel_rfl) rfl (by kernel_rfl)
noncomputable def memory_Mem_Fill (H : Heap) (p0 : Ptr) (p1 : Int) (p2 : (List Int)) : Option (Heap × Int) :=
  if ((Int.tmod p1 4) != 0) = true then (some (H, 30))
  else ((p0).bnd fun i2 o3 =>
  bind1 (get_memory_Mem H i2 o3) fun x5 =>
  if ((decide (p1 > x5.layout_.Stack_)) || (decide ((IntKind.wrap .u64 (p2.length : Int)) > (IntKind.wrap .u64 (Int.tdiv (IntKind.wrap .u64 (IntKind.wrap .u32 (x5.layout_.Stack_ - p1))) 4))))) = true then (some (H, 31))
  else (bind1 (cut x5.words_ (IntKind.wrap .u32 (Int.tdiv p1 4)) x5.words_.length) fun v10 =>
  bnd (cpy x5.words_ (Int.toNat (IntKind.wrap .u32 (Int.tdiv p1 4))) p2) fun v11 =>
  bnd (set_memory_Mem H i2 o3 (T_memory_Mem.mk x5.layout_ v11)) fun H13 =>
  some (H13, 0)))
theorem ok_memory_Mem_Fill (H : Heap) {p0 : Ptr} {p1 : Int} {p2 : (List Int)} {ra : Int} {Hr : Heap} (hF : memory_Mem_Fill H p0 p1 p2 = some (Hr, ra)) : evS X 64 [.one .top (Ptr.av p0), .one .top (.int .u32 p1), .one .ro (.sl 1 (List.map (eI .u32) p2))] H = some (.one .top (.int .i64 ra), Hr) := by
  let E1 : Ptr → Nat × TV := fun z0 => (0, .one .top (Ptr.av z0))
  let E2 : Nat × TV := (1, .one .top (.int .u32 p1))
  let E3 : Nat × TV := (2, .one .ro (.sl 1 (List.map (eI .u32) p2)))
  let E5 : Nat × TV := (10, .one .top (.int .u32 p1))
  let E11 : Nat × TV := (16, .one .top (.bool false))
  let E12 : Nat × TV := (17, .one .top (.bool false))
  let E13 : Nat × TV := (18, .one .ro (.sl 1 (List.map (eI .u32) p2)))
  let E14 : Nat × TV := (19, .one .top (.int .i64 (p2.length : Int)))
  let E15 : Nat × TV := (20, .one .top (.int .u64 (IntKind.wrap .u64 (p2.length : Int))))
  let E25 : Nat × TV := (36, .one .top (.int .u32 p1))
  let E26 : Nat × TV := (37, .one .top (.int .u32 (IntKind.wrap .u32 (Int.tdiv p1 4))))
  let E28 : Nat × TV := (39, .one .ro (.sl 1 (List.map (eI .u32) p2)))
  let S30 : Ptr → St := fun z0 => ⟨[(E1 z0), E2, E3], [], H⟩
  refine w_fun Try.func64 rfl (by kernel_rfl) false (by kernel_rfl) (s0 := (S30 p0)) (by kernel_rfl) ?_
  unfold memory_Mem_Fill at hF
  refine w_seq ?_
  refine w_reg (S30 p0) (by generalize p0 = qp0; cases qp0 <;> kernel_rfl) ?_
  refine w_seq ?_
  refine w_seq ?_
  refine w_reg ⟨[(E1 p0), E2, E3, (9, .one .top (.bool ((Int.tmod p1 4) != 0)))], [], H⟩ (by generalize p0 = qp0; cases qp0 <;> kernel_rfl) ?_
  rcases if_inv hF with ⟨h1, hF⟩ | ⟨h1, hF⟩
  refine w_cT (m := .top) h1 (s1 := (⟨[], [], H⟩ : St)) (by kernel_rfl) (by kernel_rfl) ?_
  refine w_seq ?_
  refine w_reg ⟨[(6, .one .top (.int .i64 30))], [], H⟩ (by kernel_rfl) ?_
  refine w_ret ?_
  obtain ⟨e0, e1⟩ := some2_inv hF
  subst e0
  subst e1
  exact fin_imp (v := .one .top (.int .i64 30)) (by kernel_rfl) (by kernel_rfl) (by kernel_rfl)
  refine w_cF (m := .top) h1 (s1 := (S30 p0)) (by kernel_rfl) (by kernel_rfl) ?_
  refine w_skip ?_
  refine w_seq ?_
  refine w_seq ?_
  obtain ⟨i2, o3, h4, hF⟩ := pbnd_inv hF
  let E4 : Nat × TV := (0, .one .top (.obj i2 o3))
  let E6 : Nat × TV := (11, .one .top (.obj i2 o3))
  let E7 : Nat × TV := (12, .one .top (.obj i2 o3))
  let E8 : Nat × TV := (13, .one .top (.obj i2 o3))
  let E9 : Nat × TV := (14, .one .top (.obj i2 (o3 + 4)))
  let E16 : Nat × TV := (21, .one .top (.obj i2 o3))
  let E17 : Nat × TV := (22, .one .top (.obj i2 o3))
  let E18 : Nat × TV := (23, .one .top (.obj i2 o3))
  let E19 : Nat × TV := (24, .one .top (.obj i2 (o3 + 4)))
  let E21 : Nat × TV := (32, .one .top (.obj i2 o3))
  let E22 : Nat × TV := (33, .one .top (.obj i2 o3))
  let E23 : Nat × TV := (34, .one .top (.obj i2 (o3 + 5)))
  let S31 : St := ⟨[E4, E2, E3, E5, E6, E7, E8, E9], [], H⟩
  let S34 : St := ⟨[E4, E2, E3, E21, E22, E23], [], H⟩
  obtain ⟨x5, V6, hF⟩ := bind1_inv hF
  replace V6 := hgetT_inv V6
  let E10 : Nat × TV := (15, .one .top (.int .u32 x5.layout_.Stack_))
  let E20 : Nat × TV := (25, .one .top (.int .u32 x5.layout_.Stack_))
  let E24 : Nat × TV := (35, .one .top (.at_ (.obj i2 (o3 + 5)) 0 ((List.map (eI .u32) x5.words_).length)))
  let E27 : Nat × TV := (38, .one .top (.at_ (.obj i2 (o3 + 5)) (Int.toNat (IntKind.wrap .u32 (Int.tdiv p1 4))) ((List.map (eI .u32) x5.words_).length - Int.toNat (IntKind.wrap .u32 (Int.tdiv p1 4)))))
  let E29 : Nat × TV := (40, .one .top (.int .i64 (((min p2.length (x5.words_.length - (Int.toNat (IntKind.wrap .u32 (Int.tdiv p1 4)))) : Nat)) : Int)))
  let S32 : St := ⟨[E4, E2, E3, E5, E6, E7, E8, E9, E10, E11, E12, E13], [], H⟩
  let S33 : St := ⟨[E4, E2, E3, E5, E6, E7, E8, E9, E10, E11, E12, E13, E14, E15, E16, E17, E18, E19], [], H⟩
  let S35 : St := ⟨[E4, E2, E3, E21, E22, E23, E24, E25, E26], [], H⟩
  let S36 : St := ⟨[E4, E2, E3, E21, E22, E23, E24, E25, E26, E27, E28], [], H⟩
  refine w_regO ⟨[E4, E2, E3, (31, .one .top (.bool ((decide (p1 > x5.layout_.Stack_)) || (decide ((IntKind.wrap .u64 (p2.length : Int)) > (IntKind.wrap .u64 (Int.tdiv (IntKind.wrap .u64 (IntKind.wrap .u32 (x5.layout_.Stack_ - p1))) 4)))))))], [], H⟩ ?_ ?_
  refine o_run 2 ⟨[(E1 p0), E2, E3, E5, (11, .one .top (Ptr.av p0))], [], H⟩ (by kernel_rfl) (by generalize p0 = qp0; cases qp0 <;> kernel_rfl) ?_
  refine o_eq (congrArg (fun q => (⟨[(0, .one .top (Ptr.av q)), E2, E3, E5, (11, .one .top (Ptr.av q))], [], H⟩ : St)) h4) ?_
  refine o_run 1 ⟨[E4, E2, E3, E5, E6, E7], [], H⟩ (by kernel_rfl) (by kernel_rfl) ?_
  refine o_run 2 S31 (by kernel_rfl) (by kernel_rfl) ?_
  refine o_one ⟨[E4, E2, E3, E5, E6, E7, E8, E9, E10], [], H⟩ (st_ld (X := X) S31 22 V6 4 1 false (.one .top (.int .u32 x5.layout_.Stack_)) (some 15) (by kernel_rfl) (by kernel_rfl) (by kernel_rfl) (by kernel_rfl) (by kernel_rfl) (by kernel_rfl)) ?_
  refine o_run 2 ⟨[E4, E2, E3, E5, E6, E7, E8, E9, E10, (16, .one .top (.bool (decide (p1 > x5.layout_.Stack_)))), (17, .one .top (.bool (decide (p1 > x5.layout_.Stack_))))], [], H⟩ (by kernel_rfl) (by kernel_rfl) ?_
  rcases bool_cases (decide (p1 > x5.layout_.Stack_)) with h7 | h7
  refine o_eq (congrArg (fun q => (⟨[E4, E2, E3, E5, E6, E7, E8, E9, E10, (16, .one .top (.bool q)), (17, .one .top (.bool q))], [], H⟩ : St)) h7) ?_
  refine o_run 14 ⟨[E4, E2, E3, E5, E6, E7, E8, E9, E10, (16, .one .top (.bool true)), (17, .one .top (.bool true)), (18, .tup []), (19, .tup []), (20, .tup []), (21, .tup []), (22, .tup []), (23, .tup []), (24, .tup []), (25, .tup []), (26, .tup []), (27, .tup []), (28, .tup []), (29, .tup []), (30, .tup []), (31, .one .top (.bool true))], [], H⟩ (by kernel_rfl) (by kernel_rfl) ?_
  refine o_eq2 (congrArg (fun q0 => (⟨[E4, E2, E3, (31, .one .top (.bool q0))], [], H⟩ : St)) (show true = ((decide (p1 > x5.layout_.Stack_)) || (decide ((IntKind.wrap .u64 (p2.length : Int)) > (IntKind.wrap .u64 (Int.tdiv (IntKind.wrap .u64 (IntKind.wrap .u32 (x5.layout_.Stack_ - p1))) 4))))) by simp [h7])) ?_
  exact o_end (by kernel_rfl) (by kernel_rfl)
  refine o_eq (congrArg (fun q => (⟨[E4, E2, E3, E5, E6, E7, E8, E9, E10, (16, .one .top (.bool q)), (17, .one .top (.bool q))], [], H⟩ : St)) h7) ?_
  refine o_run 1 S32 (by kernel_rfl) (by kernel_rfl) ?_
  refine o_one ⟨[E4, E2, E3, E5, E6, E7, E8, E9, E10, E11, E12, E13, E14], [], H⟩ (st_len S32 p2 (eI .u32) (some 19) (by kernel_rfl) (by kernel_rfl)) ?_
  refine o_run 5 S33 (by kernel_rfl) (by kernel_rfl) ?_
  refine o_one ⟨[E4, E2, E3, E5, E6, E7, E8, E9, E10, E11, E12, E13, E14, E15, E16, E17, E18, E19, E20], [], H⟩ (st_ld (X := X) S33 22 V6 4 1 false (.one .top (.int .u32 x5.layout_.Stack_)) (some 25) (by kernel_rfl) (by kernel_rfl) (by kernel_rfl) (by kernel_rfl) (by kernel_rfl) (by kernel_rfl)) ?_
  refine o_run 6 ⟨[E4, E2, E3, E5, E6, E7, E8, E9, E10, E11, E12, E13, E14, E15, E16, E17, E18, E19, E20, (26, .one .top (.int .u32 p1)), (27, .one .top (.int .u32 (IntKind.wrap .u32 (x5.layout_.Stack_ - p1)))), (28, .one .top (.int .u64 (IntKind.wrap .u64 (IntKind.wrap .u32 (x5.layout_.Stack_ - p1))))), (29, .one .top (.int .u64 (IntKind.wrap .u64 (Int.tdiv (IntKind.wrap .u64 (IntKind.wrap .u32 (x5.layout_.Stack_ - p1))) 4)))), (30, .one .top (.bool (decide ((IntKind.wrap .u64 (p2.length : Int)) > (IntKind.wrap .u64 (Int.tdiv (IntKind.wrap .u64 (IntKind.wrap .u32 (x5.layout_.Stack_ - p1))) 4)))))), (31, .one .top (.bool (decide ((IntKind.wrap .u64 (p2.length : Int)) > (IntKind.wrap .u64 (Int.tdiv (IntKind.wrap .u64 (IntKind.wrap .u32 (x5.layout_.Stack_ - p1))) 4))))))], [], H⟩ (by kernel_rfl) (by kernel_rfl) ?_
  refine o_eq2 (congrArg (fun q0 => (⟨[E4, E2, E3, (31, .one .top (.bool q0))], [], H⟩ : St)) (show (decide ((IntKind.wrap .u64 (p2.length : Int)) > (IntKind.wrap .u64 (Int.tdiv (IntKind.wrap .u64 (IntKind.wrap .u32 (x5.layout_.Stack_ - p1))) 4)))) = ((decide (p1 > x5.layout_.Stack_)) || (decide ((IntKind.wrap .u64 (p2.length : Int)) > (IntKind.wrap .u64 (Int.tdiv (IntKind.wrap .u64 (IntKind.wrap .u32 (x5.layout_.Stack_ - p1))) 4))))) by simp [h7])) ?_
  exact o_end (by kernel_rfl) (by kernel_rfl)
  rcases if_inv hF with ⟨h8, hF⟩ | ⟨h8, hF⟩
  refine w_cT (m := .top) h8 (s1 := (⟨[], [], H⟩ : St)) (by kernel_rfl) (by kernel_rfl) ?_
  refine w_seq ?_
  refine w_reg ⟨[(6, .one .top (.int .i64 31))], [], H⟩ (by kernel_rfl) ?_
  refine w_ret ?_
  obtain ⟨e0, e1⟩ := some2_inv hF
  subst e0
  subst e1
  exact fin_imp (v := .one .top (.int .i64 31)) (by kernel_rfl) (by kernel_rfl) (by kernel_rfl)
  refine w_cF (m := .top) h8 (s1 := (⟨[E4, E2, E3], [], H⟩ : St)) (by kernel_rfl) (by kernel_rfl) ?_
  refine w_skip ?_
  refine w_seq ?_
  obtain ⟨v10, h9, hF⟩ := bind1_inv hF
  obtain ⟨v11, h12, hF⟩ := bnd_inv hF
  obtain ⟨H13, h14, hF⟩ := bnd_inv hF
  have V15 : hget H13 i2 o3 6 = some (o_memory_Mem (T_memory_Mem.mk x5.layout_ v11)) := by rw [← h14]; exact hset_get V6 rfl
  refine w_regO ⟨[], [], H13⟩ ?_ ?_
  refine o_run 3 S34 (by kernel_rfl) (by kernel_rfl) ?_
  refine o_one ⟨[E4, E2, E3, E21, E22, E23, E24], [], H⟩ (st_ldP (X := X) S34 30 V6 5 0 1 (List.map (eI .u32) x5.words_) (some 35) (by kernel_rfl) (by kernel_rfl) (by kernel_rfl) (by kernel_rfl) (by kernel_rfl) (by kernel_rfl)) ?_
  refine o_run 2 S35 (by kernel_rfl) (by kernel_rfl) ?_
  refine o_one ⟨[E4, E2, E3, E21, E22, E23, E24, E25, E26, E27], [], H⟩ (st_cutA (X := X) S35 30 22 1 h9 (eI .u32) (.obj i2 (o3 + 5)) 0 (some (.tmp 37)) (some 38) (by kernel_rfl) (by kernel_rfl) (by kernel_rfl) (at_obj (k := 5) (c := ((.own 1), .sl 1 (List.map (eI .u32) x5.words_))) V6 (by kernel_rfl) (by kernel_rfl)) (show (opnd X.P S35 0 (.tmp 37)).bind natOf = some (IntKind.wrap .u32 (Int.tdiv p1 4)) by kernel_rfl) (by kernel_rfl)) ?_
  refine o_run 1 S36 (by kernel_rfl) (by kernel_rfl) ?_
  refine o_one ⟨[E4, E2, E3, E21, E22, E23, E24, E25, E26, E27, E28, E29], [], (hset H i2 o3 [(.top, .int .u32 x5.layout_.Code_), (.top, .int .u32 x5.layout_.Tables_), (.top, .int .u32 x5.layout_.Data_), (.top, .int .u32 x5.layout_.Heap_), (.top, .int .u32 x5.layout_.Stack_), ((.own 1), .sl 1 (List.map (eI .u32) v11))])⟩ (st_cpO (X := X) (lc := []) (h2 := (hset H i2 o3 [(.top, .int .u32 x5.layout_.Code_), (.top, .int .u32 x5.layout_.Tables_), (.top, .int .u32 x5.layout_.Data_), (.top, .int .u32 x5.layout_.Heap_), (.top, .int .u32 x5.layout_.Stack_), ((.own 1), .sl 1 (List.map (eI .u32) v11))])) S36 30 22 V6 5 0 1 (eI .u32) .ro x5.words_ p2 (Int.toNat (IntKind.wrap .u32 (Int.tdiv p1 4))) h12 (some 40) (cut_le h9) (by kernel_rfl) (by kernel_rfl) (by kernel_rfl) (fun _ => rfl) (fun _ => rfl) (by kernel_rfl) (by kernel_rfl) (hset_sub0 V6 (Nat.le_of_ble_eq_true rfl)) (by kernel_rfl)) ?_
  refine o_eq (congrArg (fun q => (⟨[E4, E2, E3, E21, E22, E23, E24, E25, E26, E27, E28, E29], [], q⟩ : St)) h14) ?_
  exact o_end (by kernel_rfl) (by kernel_rfl)
  refine w_seq ?_
  refine w_reg ⟨[(6, .one .top (.int .i64 0))], [], H13⟩ (by kernel_rfl) ?_
  refine w_ret ?_
  obtain ⟨e0, e1⟩ := some2_inv hF
  subst e0
  subst e1
  exact fin_imp (v := .one .top (.int .i64 0)) (by kernel_rfl) (by kernel_rfl) (by kernel_rfl)
noncomputable def memory_Mem_Clone (H : Heap) (p0 : Ptr) : Option (Heap × Ptr) :=
  (p0).bnd fun i1 o2 =>
  bind1 (get_memory_Mem H i1 o2) fun x4 =>
  bind1 (app 4 ([] : List Int) x4.words_) fun v6 =>
  bnd H.length fun i9 =>
  bnd (new_memory_Mem H (T_memory_Mem.mk x4.layout_ v6)) fun H8 =>
  some (H8, (Ptr.at i9 0))
theorem ok_memory_Mem_Clone (H : Heap) {p0 : Ptr} {ra : Ptr} {Hr : Heap} (hF : memory_Mem_Clone H p0 = some (Hr, ra)) : evS X 16 [.one .top (Ptr.av p0)] H = some (.one .top (Ptr.av ra), Hr) := by
  let E1 : Ptr → Nat × TV := fun z0 => (0, .one .top (Ptr.av z0))
  let E11 : Nat × TV := (7, .one .top .junk)
  let E13 : Nat × TV := (12, .one .top .junk)
  let E16 : Nat × TV := (7, .one (.own 1) (.sl 1 (List.map (eI .u32) ([] : List Int))))
  let E19 : Nat × TV := (14, .one .top (.obj H.length 0))
  refine w_fun Try.func16 rfl (by kernel_rfl) false (by kernel_rfl) (s0 := (⟨[(E1 p0)], [], H⟩ : St)) (by kernel_rfl) ?_
  unfold memory_Mem_Clone at hF
  refine w_seq ?_
  refine w_reg ⟨[(E1 p0)], [], H⟩ (by generalize p0 = qp0; cases qp0 <;> kernel_rfl) ?_
  refine w_seq ?_
  obtain ⟨i1, o2, h3, hF⟩ := pbnd_inv hF
  let E3 : Nat × TV := (0, .one .top (.obj i1 o2))
  let E4 : Nat × TV := (3, .one .top (.obj i1 o2))
  let E5 : Nat × TV := (4, .one .top (.obj i1 o2))
  let E6 : Nat × TV := (5, .one .top (.obj i1 o2))
  let E7 : Nat × TV := (8, .one .top (.obj i1 o2))
  let E8 : Nat × TV := (9, .one .top (.obj i1 o2))
  let E9 : Nat × TV := (10, .one .top (.obj i1 (o2 + 5)))
  let S20 : St := ⟨[E3, E4, E5, E6, E7, E8, E9], [], H⟩
  let S30 : St := ⟨[E3, E4, E5, E6, E16, E7, E8, E9], [], H⟩
  obtain ⟨x4, V5, hF⟩ := bind1_inv hF
  replace V5 := hgetT_inv V5
  let E10 : Nat × TV := (6, .agg [(.top, .int .u32 x4.layout_.Code_), (.top, .int .u32 x4.layout_.Tables_), (.top, .int .u32 x4.layout_.Data_), (.top, .int .u32 x4.layout_.Heap_), (.top, .int .u32 x4.layout_.Stack_)])
  let E12 : Nat × TV := (11, .one .bh (.sl 1 (List.map (eI .u32) x4.words_)))
  let E14 : Nat × TV := (13, .agg [(.top, .int .u32 x4.layout_.Code_), (.top, .int .u32 x4.layout_.Tables_), (.top, .int .u32 x4.layout_.Data_), (.top, .int .u32 x4.layout_.Heap_), (.top, .int .u32 x4.layout_.Stack_), (.top, .junk)])
  let S22 : St := ⟨[E3, E4, E5, E6, E10, E7, E8, E9], [], H⟩
  let S23 : St := ⟨[E3, E4, E5, E6, E10, E16, E7, E8, E9], [], H⟩
  let S24 : St := ⟨[E3, E4, E5, E6, E10, E16, E7, E8, E9, E12], [], H⟩
  let S26 : St := ⟨[E3, E4, E5, E6, E10, E11, E7, E8, E9, E12], [], H⟩
  let S29 : St := ⟨[E3, E4, E5, E6, E10, E7, E8, E9, E12], [], H⟩
  let S31 : St := ⟨[E3, E4, E5, E6, E16, E7, E8, E9, E12], [], H⟩
  let S33 : St := ⟨[E3, E4, E5, E6, E11, E7, E8, E9, E12], [], H⟩
  let S34 : St := ⟨[E3, E4, E5, E6, E7, E8, E9, E12], [], H⟩
  obtain ⟨v6, h7, hF⟩ := bind1_inv hF
  let E17 : Nat × TV := (12, .one (.own 1) (.sl 1 (List.map (eI .u32) v6)))
  let E18 : Nat × TV := (13, .agg [(.top, .int .u32 x4.layout_.Code_), (.top, .int .u32 x4.layout_.Tables_), (.top, .int .u32 x4.layout_.Data_), (.top, .int .u32 x4.layout_.Heap_), (.top, .int .u32 x4.layout_.Stack_), ((.own 1), .sl 1 (List.map (eI .u32) v6))])
  let S25 : St := ⟨[E3, E4, E5, E6, E10, E11, E7, E8, E9, E12, E17], [], H⟩
  let S27 : St := ⟨[E3, E4, E5, E6, E10, E11, E7, E8, E9, E12, E13, E18], [], H⟩
  let S28 : St := ⟨[E3, E4, E5, E6, E10, E11, E7, E8, E9, E12, E13, E14, E19], [], (H ++ [[(.top, .int .u32 x4.layout_.Code_), (.top, .int .u32 x4.layout_.Tables_), (.top, .int .u32 x4.layout_.Data_), (.top, .int .u32 x4.layout_.Heap_), (.top, .int .u32 x4.layout_.Stack_), ((.own 1), .sl 1 (List.map (eI .u32) v6))]])⟩
  let S32 : St := ⟨[E3, E4, E5, E6, E11, E7, E8, E9, E12, E17], [], H⟩
  obtain ⟨i9, h11, hF⟩ := bnd_inv hF
  let E2 : Nat × TV := (2, .one .top (.obj i9 0))
  let E15 : Nat × TV := (14, .one .top (.obj i9 0))
  obtain ⟨H8, h10, hF⟩ := bnd_inv hF
  let S21 : St := ⟨[E3, E2, E4, E5, E6, E10, E11, E7, E8, E9, E12, E13, E14, E15], [], H8⟩
  let K36 : Sch := .last 8 (.last 9 (.take 10 (.last 11 (.take 12 .done))))
  let K37 : Sch := .last 4 (.last 9 (.take 10 (.last 11 (.take 12 .done))))
  let K35 : Sch := .alt 3 (.last 9 (.take 10 (.last 11 (.take 12 .done)))) (.last 9 (.last 3 (.take 10 (.last 11 (.take 12 .done)))))
  refine w_regD (.take 0 (.take 1 (.take 2 (.take 5 (.take 6 (.take 7 (.alt 3 (.alt 4 K36 (.last 8 K37)) (.alt 4 (.alt 3 K36 (.last 8 K35)) (.last 8 (.alt 3 K37 (.last 4 K35))))))))))) (by kernel_rfl) (⟨[E2], [], H8⟩ : St) ?_ ?_
  refine d_take ⟨[(E1 p0), (3, .one .top (Ptr.av p0))], [], H⟩ (by generalize p0 = qp0; cases qp0 <;> kernel_rfl) ?_
  refine d_eq (congrArg (fun q => (⟨[(0, .one .top (Ptr.av q)), (3, .one .top (Ptr.av q))], [], H⟩ : St)) h3) ?_
  refine d_take ⟨[E3, E4, E5], [], H⟩ (by kernel_rfl) ?_
  refine d_take ⟨[E3, E4, E5, E6], [], H⟩ (by kernel_rfl) ?_
  refine d_take ⟨[E3, E4, E5, E6, E7], [], H⟩ (by kernel_rfl) ?_
  refine d_take ⟨[E3, E4, E5, E6, E7, E8], [], H⟩ (by kernel_rfl) ?_
  refine d_take S20 (by kernel_rfl) ?_
  refine q_in S21 ?_ ?_
  refine q_alt S22 (st_ld (X := X) S20 24 V5 0 5 true (.agg [(.top, .int .u32 x4.layout_.Code_), (.top, .int .u32 x4.layout_.Tables_), (.top, .int .u32 x4.layout_.Data_), (.top, .int .u32 x4.layout_.Heap_), (.top, .int .u32 x4.layout_.Stack_)]) (some 6) (by kernel_rfl) (by kernel_rfl) (by kernel_rfl) (by kernel_rfl) (by kernel_rfl) (by kernel_rfl)) ?_ ?_
  refine q_alt S23 (by kernel_rfl) ?_ ?_
  refine q_last S24 (st_ld (X := X) S23 30 V5 5 1 false (.one .bh (.sl 1 (List.map (eI .u32) x4.words_))) (some 11) (by kernel_rfl) (by kernel_rfl) (by kernel_rfl) (by kernel_rfl) (by kernel_rfl) (by kernel_rfl)) ?_
  refine q_last S25 (st_app (X := X) S26 4 h7 30 30 22 1 0 [(.top, .int .u32 0)] .bh (eI .u32) 9 (some 12) (by kernel_rfl) (by kernel_rfl) (by kernel_rfl) (by kernel_rfl) (by kernel_rfl) (by kernel_rfl) (by kernel_rfl) (by kernel_rfl) (depth_flat rfl fun _ => rfl) (fun _ => rfl) (by kernel_rfl)) ?_
  refine q_take S27 (by kernel_rfl) ?_
  refine q_last S28 (by kernel_rfl) ?_
  refine q_eq (congr2 (fun q u => (⟨[E3, E4, E5, E6, E10, E11, E7, E8, E9, E12, E13, E14, (14, .one .top (.obj q 0))], [], u⟩ : St)) h11 h10) ?_
  refine q_take S21 (by kernel_rfl) ?_
  exact q_end (by kernel_rfl)
  refine q_last S29 (st_ld (X := X) S22 30 V5 5 1 false (.one .bh (.sl 1 (List.map (eI .u32) x4.words_))) (some 11) (by kernel_rfl) (by kernel_rfl) (by kernel_rfl) (by kernel_rfl) (by kernel_rfl) (by kernel_rfl)) ?_
  refine q_last S24 (by kernel_rfl) ?_
  refine q_last S25 (st_app (X := X) S26 4 h7 30 30 22 1 0 [(.top, .int .u32 0)] .bh (eI .u32) 9 (some 12) (by kernel_rfl) (by kernel_rfl) (by kernel_rfl) (by kernel_rfl) (by kernel_rfl) (by kernel_rfl) (by kernel_rfl) (by kernel_rfl) (depth_flat rfl fun _ => rfl) (fun _ => rfl) (by kernel_rfl)) ?_
  refine q_take S27 (by kernel_rfl) ?_
  refine q_last S28 (by kernel_rfl) ?_
  refine q_eq (congr2 (fun q u => (⟨[E3, E4, E5, E6, E10, E11, E7, E8, E9, E12, E13, E14, (14, .one .top (.obj q 0))], [], u⟩ : St)) h11 h10) ?_
  refine q_take S21 (by kernel_rfl) ?_
  exact q_end (by kernel_rfl)
  refine q_alt S30 (by kernel_rfl) ?_ ?_
  refine q_alt S23 (st_ld (X := X) S30 24 V5 0 5 true (.agg [(.top, .int .u32 x4.layout_.Code_), (.top, .int .u32 x4.layout_.Tables_), (.top, .int .u32 x4.layout_.Data_), (.top, .int .u32 x4.layout_.Heap_), (.top, .int .u32 x4.layout_.Stack_)]) (some 6) (by kernel_rfl) (by kernel_rfl) (by kernel_rfl) (by kernel_rfl) (by kernel_rfl) (by kernel_rfl)) ?_ ?_
  refine q_last S24 (st_ld (X := X) S23 30 V5 5 1 false (.one .bh (.sl 1 (List.map (eI .u32) x4.words_))) (some 11) (by kernel_rfl) (by kernel_rfl) (by kernel_rfl) (by kernel_rfl) (by kernel_rfl) (by kernel_rfl)) ?_
  refine q_last S25 (st_app (X := X) S26 4 h7 30 30 22 1 0 [(.top, .int .u32 0)] .bh (eI .u32) 9 (some 12) (by kernel_rfl) (by kernel_rfl) (by kernel_rfl) (by kernel_rfl) (by kernel_rfl) (by kernel_rfl) (by kernel_rfl) (by kernel_rfl) (depth_flat rfl fun _ => rfl) (fun _ => rfl) (by kernel_rfl)) ?_
  refine q_take S27 (by kernel_rfl) ?_
  refine q_last S28 (by kernel_rfl) ?_
  refine q_eq (congr2 (fun q u => (⟨[E3, E4, E5, E6, E10, E11, E7, E8, E9, E12, E13, E14, (14, .one .top (.obj q 0))], [], u⟩ : St)) h11 h10) ?_
  refine q_take S21 (by kernel_rfl) ?_
  exact q_end (by kernel_rfl)
  refine q_last S31 (st_ld (X := X) S30 30 V5 5 1 false (.one .bh (.sl 1 (List.map (eI .u32) x4.words_))) (some 11) (by kernel_rfl) (by kernel_rfl) (by kernel_rfl) (by kernel_rfl) (by kernel_rfl) (by kernel_rfl)) ?_
  refine q_alt S24 (st_ld (X := X) S31 24 V5 0 5 true (.agg [(.top, .int .u32 x4.layout_.Code_), (.top, .int .u32 x4.layout_.Tables_), (.top, .int .u32 x4.layout_.Data_), (.top, .int .u32 x4.layout_.Heap_), (.top, .int .u32 x4.layout_.Stack_)]) (some 6) (by kernel_rfl) (by kernel_rfl) (by kernel_rfl) (by kernel_rfl) (by kernel_rfl) (by kernel_rfl)) ?_ ?_
  refine q_last S25 (st_app (X := X) S26 4 h7 30 30 22 1 0 [(.top, .int .u32 0)] .bh (eI .u32) 9 (some 12) (by kernel_rfl) (by kernel_rfl) (by kernel_rfl) (by kernel_rfl) (by kernel_rfl) (by kernel_rfl) (by kernel_rfl) (by kernel_rfl) (depth_flat rfl fun _ => rfl) (fun _ => rfl) (by kernel_rfl)) ?_
  refine q_take S27 (by kernel_rfl) ?_
  refine q_last S28 (by kernel_rfl) ?_
  refine q_eq (congr2 (fun q u => (⟨[E3, E4, E5, E6, E10, E11, E7, E8, E9, E12, E13, E14, (14, .one .top (.obj q 0))], [], u⟩ : St)) h11 h10) ?_
  refine q_take S21 (by kernel_rfl) ?_
  exact q_end (by kernel_rfl)
  refine q_last S32 (st_app (X := X) S33 4 h7 30 30 22 1 0 [(.top, .int .u32 0)] .bh (eI .u32) 9 (some 12) (by kernel_rfl) (by kernel_rfl) (by kernel_rfl) (by kernel_rfl) (by kernel_rfl) (by kernel_rfl) (by kernel_rfl) (by kernel_rfl) (depth_flat rfl fun _ => rfl) (fun _ => rfl) (by kernel_rfl)) ?_
  refine q_last S25 (st_ld (X := X) S32 24 V5 0 5 true (.agg [(.top, .int .u32 x4.layout_.Code_), (.top, .int .u32 x4.layout_.Tables_), (.top, .int .u32 x4.layout_.Data_), (.top, .int .u32 x4.layout_.Heap_), (.top, .int .u32 x4.layout_.Stack_)]) (some 6) (by kernel_rfl) (by kernel_rfl) (by kernel_rfl) (by kernel_rfl) (by kernel_rfl) (by kernel_rfl)) ?_
  refine q_take S27 (by kernel_rfl) ?_
  refine q_last S28 (by kernel_rfl) ?_
  refine q_eq (congr2 (fun q u => (⟨[E3, E4, E5, E6, E10, E11, E7, E8, E9, E12, E13, E14, (14, .one .top (.obj q 0))], [], u⟩ : St)) h11 h10) ?_
  refine q_take S21 (by kernel_rfl) ?_
  exact q_end (by kernel_rfl)
  refine q_last S34 (st_ld (X := X) S20 30 V5 5 1 false (.one .bh (.sl 1 (List.map (eI .u32) x4.words_))) (some 11) (by kernel_rfl) (by kernel_rfl) (by kernel_rfl) (by kernel_rfl) (by kernel_rfl) (by kernel_rfl)) ?_
  refine q_alt S29 (st_ld (X := X) S34 24 V5 0 5 true (.agg [(.top, .int .u32 x4.layout_.Code_), (.top, .int .u32 x4.layout_.Tables_), (.top, .int .u32 x4.layout_.Data_), (.top, .int .u32 x4.layout_.Heap_), (.top, .int .u32 x4.layout_.Stack_)]) (some 6) (by kernel_rfl) (by kernel_rfl) (by kernel_rfl) (by kernel_rfl) (by kernel_rfl) (by kernel_rfl)) ?_ ?_
  refine q_last S24 (by kernel_rfl) ?_
  refine q_last S25 (st_app (X := X) S26 4 h7 30 30 22 1 0 [(.top, .int .u32 0)] .bh (eI .u32) 9 (some 12) (by kernel_rfl) (by kernel_rfl) (by kernel_rfl) (by kernel_rfl) (by kernel_rfl) (by kernel_rfl) (by kernel_rfl) (by kernel_rfl) (depth_flat rfl fun _ => rfl) (fun _ => rfl) (by kernel_rfl)) ?_
  refine q_take S27 (by kernel_rfl) ?_
  refine q_last S28 (by kernel_rfl) ?_
  refine q_eq (congr2 (fun q u => (⟨[E3, E4, E5, E6, E10, E11, E7, E8, E9, E12, E13, E14, (14, .one .top (.obj q 0))], [], u⟩ : St)) h11 h10) ?_
  refine q_take S21 (by kernel_rfl) ?_
  exact q_end (by kernel_rfl)
  refine q_last S31 (by kernel_rfl) ?_
  refine q_alt S24 (st_ld (X := X) S31 24 V5 0 5 true (.agg [(.top, .int .u32 x4.layout_.Code_), (.top, .int .u32 x4.layout_.Tables_), (.top, .int .u32 x4.layout_.Data_), (.top, .int .u32 x4.layout_.Heap_), (.top, .int .u32 x4.layout_.Stack_)]) (some 6) (by kernel_rfl) (by kernel_rfl) (by kernel_rfl) (by kernel_rfl) (by kernel_rfl) (by kernel_rfl)) ?_ ?_
  refine q_last S25 (st_app (X := X) S26 4 h7 30 30 22 1 0 [(.top, .int .u32 0)] .bh (eI .u32) 9 (some 12) (by kernel_rfl) (by kernel_rfl) (by kernel_rfl) (by kernel_rfl) (by kernel_rfl) (by kernel_rfl) (by kernel_rfl) (by kernel_rfl) (depth_flat rfl fun _ => rfl) (fun _ => rfl) (by kernel_rfl)) ?_
  refine q_take S27 (by kernel_rfl) ?_
  refine q_last S28 (by kernel_rfl) ?_
  refine q_eq (congr2 (fun q u => (⟨[E3, E4, E5, E6, E10, E11, E7, E8, E9, E12, E13, E14, (14, .one .top (.obj q 0))], [], u⟩ : St)) h11 h10) ?_
  refine q_take S21 (by kernel_rfl) ?_
  exact q_end (by kernel_rfl)
  refine q_last S32 (st_app (X := X) S33 4 h7 30 30 22 1 0 [(.top, .int .u32 0)] .bh (eI .u32) 9 (some 12) (by kernel_rfl) (by kernel_rfl) (by kernel_rfl) (by kernel_rfl) (by kernel_rfl) (by kernel_rfl) (by kernel_rfl) (by kernel_rfl) (depth_flat rfl fun _ => rfl) (fun _ => rfl) (by kernel_rfl)) ?_
  refine q_last S25 (st_ld (X := X) S32 24 V5 0 5 true (.agg [(.top, .int .u32 x4.layout_.Code_), (.top, .int .u32 x4.layout_.Tables_), (.top, .int .u32 x4.layout_.Data_), (.top, .int .u32 x4.layout_.Heap_), (.top, .int .u32 x4.layout_.Stack_)]) (some 6) (by kernel_rfl) (by kernel_rfl) (by kernel_rfl) (by kernel_rfl) (by kernel_rfl) (by kernel_rfl)) ?_
  refine q_take S27 (by kernel_rfl) ?_
  refine q_last S28 (by kernel_rfl) ?_
  refine q_eq (congr2 (fun q u => (⟨[E3, E4, E5, E6, E10, E11, E7, E8, E9, E12, E13, E14, (14, .one .top (.obj q 0))], [], u⟩ : St)) h11 h10) ?_
  refine q_take S21 (by kernel_rfl) ?_
  exact q_end (by kernel_rfl)
  kernel_rfl
  refine w_ret ?_
  obtain ⟨e0, e1⟩ := some2_inv hF
  subst e0
  subst e1
  exact fin_imp (v := .one .top (.obj i9 0)) (by kernel_rfl) (by kernel_rfl) (by kernel_rfl)
theorem ok_memory_Mem_Fill_2 (H : Heap) {p0 : Ptr} {p1 : Int} {p2 : (List Int)} {ra : Int} {Hr : Heap} (hF : memory_Mem_Fill H p0 p1 p2 = some (Hr, ra)) : evS X 64 [.one .top (Ptr.av p0), .one .top (.int .u32 p1), .one (.own 1) (.sl 1 (List.map (eI .u32) p2))] H = some (.one .top (.int .i64 ra), Hr) := by
  let E1 : Ptr → Nat × TV := fun z0 => (0, .one .top (Ptr.av z0))
  let E2 : Nat × TV := (1, .one .top (.int .u32 p1))
  let E3 : Nat × TV := (2, .one (.own 1) (.sl 1 (List.map (eI .u32) p2)))
  let E5 : Nat × TV := (10, .one .top (.int .u32 p1))
  let E11 : Nat × TV := (16, .one .top (.bool false))
  let E12 : Nat × TV := (17, .one .top (.bool false))
  let E13 : Nat × TV := (18, .one .bl (.sl 1 (List.map (eI .u32) p2)))
  let E14 : Nat × TV := (19, .one .top (.int .i64 (p2.length : Int)))
  let E15 : Nat × TV := (20, .one .top (.int .u64 (IntKind.wrap .u64 (p2.length : Int))))
  let E25 : Nat × TV := (36, .one .top (.int .u32 p1))
  let E26 : Nat × TV := (37, .one .top (.int .u32 (IntKind.wrap .u32 (Int.tdiv p1 4))))
  let E28 : Nat × TV := (39, .one .bl (.sl 1 (List.map (eI .u32) p2)))
  let S30 : Ptr → St := fun z0 => ⟨[(E1 z0), E2, E3], [], H⟩
  refine w_fun Try.func64 rfl (by kernel_rfl) false (by kernel_rfl) (s0 := (S30 p0)) (by kernel_rfl) ?_
  unfold memory_Mem_Fill at hF
  refine w_seq ?_
  refine w_reg (S30 p0) (by generalize p0 = qp0; cases qp0 <;> kernel_rfl) ?_
  refine w_seq ?_
  refine w_seq ?_
  refine w_reg ⟨[(E1 p0), E2, E3, (9, .one .top (.bool ((Int.tmod p1 4) != 0)))], [], H⟩ (by generalize p0 = qp0; cases qp0 <;> kernel_rfl) ?_
  rcases if_inv hF with ⟨h1, hF⟩ | ⟨h1, hF⟩
  refine w_cT (m := .top) h1 (s1 := (⟨[], [], H⟩ : St)) (by kernel_rfl) (by kernel_rfl) ?_
  refine w_seq ?_
  refine w_reg ⟨[(6, .one .top (.int .i64 30))], [], H⟩ (by kernel_rfl) ?_
  refine w_ret ?_
  obtain ⟨e0, e1⟩ := some2_inv hF
  subst e0
  subst e1
  exact fin_imp (v := .one .top (.int .i64 30)) (by kernel_rfl) (by kernel_rfl) (by kernel_rfl)
  refine w_cF (m := .top) h1 (s1 := (S30 p0)) (by kernel_rfl) (by kernel_rfl) ?_
  refine w_skip ?_
  refine w_seq ?_
  refine w_seq ?_
  obtain ⟨i2, o3, h4, hF⟩ := pbnd_inv hF
  let E4 : Nat × TV := (0, .one .top (.obj i2 o3))
  let E6 : Nat × TV := (11, .one .top (.obj i2 o3))
  let E7 : Nat × TV := (12, .one .top (.obj i2 o3))
  let E8 : Nat × TV := (13, .one .top (.obj i2 o3))
  let E9 : Nat × TV := (14, .one .top (.obj i2 (o3 + 4)))
  let E16 : Nat × TV := (21, .one .top (.obj i2 o3))
  let E17 : Nat × TV := (22, .one .top (.obj i2 o3))
  let E18 : Nat × TV := (23, .one .top (.obj i2 o3))
  let E19 : Nat × TV := (24, .one .top (.obj i2 (o3 + 4)))
  let E21 : Nat × TV := (32, .one .top (.obj i2 o3))
  let E22 : Nat × TV := (33, .one .top (.obj i2 o3))
  let E23 : Nat × TV := (34, .one .top (.obj i2 (o3 + 5)))
  let S31 : St := ⟨[E4, E2, E3, E5, E6, E7, E8, E9], [], H⟩
  let S34 : St := ⟨[E4, E2, E3, E21, E22, E23], [], H⟩
  obtain ⟨x5, V6, hF⟩ := bind1_inv hF
  replace V6 := hgetT_inv V6
  let E10 : Nat × TV := (15, .one .top (.int .u32 x5.layout_.Stack_))
  let E20 : Nat × TV := (25, .one .top (.int .u32 x5.layout_.Stack_))
  let E24 : Nat × TV := (35, .one .top (.at_ (.obj i2 (o3 + 5)) 0 ((List.map (eI .u32) x5.words_).length)))
  let E27 : Nat × TV := (38, .one .top (.at_ (.obj i2 (o3 + 5)) (Int.toNat (IntKind.wrap .u32 (Int.tdiv p1 4))) ((List.map (eI .u32) x5.words_).length - Int.toNat (IntKind.wrap .u32 (Int.tdiv p1 4)))))
  let E29 : Nat × TV := (40, .one .top (.int .i64 (((min p2.length (x5.words_.length - (Int.toNat (IntKind.wrap .u32 (Int.tdiv p1 4)))) : Nat)) : Int)))
  let S32 : St := ⟨[E4, E2, E3, E5, E6, E7, E8, E9, E10, E11, E12, E13], [], H⟩
  let S33 : St := ⟨[E4, E2, E3, E5, E6, E7, E8, E9, E10, E11, E12, E13, E14, E15, E16, E17, E18, E19], [], H⟩
  let S35 : St := ⟨[E4, E2, E3, E21, E22, E23, E24, E25, E26], [], H⟩
  let S36 : St := ⟨[E4, E2, E3, E21, E22, E23, E24, E25, E26, E27, E28], [], H⟩
  refine w_regO ⟨[E4, E2, E3, (31, .one .top (.bool ((decide (p1 > x5.layout_.Stack_)) || (decide ((IntKind.wrap .u64 (p2.length : Int)) > (IntKind.wrap .u64 (Int.tdiv (IntKind.wrap .u64 (IntKind.wrap .u32 (x5.layout_.Stack_ - p1))) 4)))))))], [], H⟩ ?_ ?_
  refine o_run 2 ⟨[(E1 p0), E2, E3, E5, (11, .one .top (Ptr.av p0))], [], H⟩ (by kernel_rfl) (by generalize p0 = qp0; cases qp0 <;> kernel_rfl) ?_
  refine o_eq (congrArg (fun q => (⟨[(0, .one .top (Ptr.av q)), E2, E3, E5, (11, .one .top (Ptr.av q))], [], H⟩ : St)) h4) ?_
  refine o_run 1 ⟨[E4, E2, E3, E5, E6, E7], [], H⟩ (by kernel_rfl) (by kernel_rfl) ?_
  refine o_run 2 S31 (by kernel_rfl) (by kernel_rfl) ?_
  refine o_one ⟨[E4, E2, E3, E5, E6, E7, E8, E9, E10], [], H⟩ (st_ld (X := X) S31 22 V6 4 1 false (.one .top (.int .u32 x5.layout_.Stack_)) (some 15) (by kernel_rfl) (by kernel_rfl) (by kernel_rfl) (by kernel_rfl) (by kernel_rfl) (by kernel_rfl)) ?_
  refine o_run 2 ⟨[E4, E2, E3, E5, E6, E7, E8, E9, E10, (16, .one .top (.bool (decide (p1 > x5.layout_.Stack_)))), (17, .one .top (.bool (decide (p1 > x5.layout_.Stack_))))], [], H⟩ (by kernel_rfl) (by kernel_rfl) ?_
  rcases bool_cases (decide (p1 > x5.layout_.Stack_)) with h7 | h7
  refine o_eq (congrArg (fun q => (⟨[E4, E2, E3, E5, E6, E7, E8, E9, E10, (16, .one .top (.bool q)), (17, .one .top (.bool q))], [], H⟩ : St)) h7) ?_
  refine o_run 14 ⟨[E4, E2, E3, E5, E6, E7, E8, E9, E10, (16, .one .top (.bool true)), (17, .one .top (.bool true)), (18, .tup []), (19, .tup []), (20, .tup []), (21, .tup []), (22, .tup []), (23, .tup []), (24, .tup []), (25, .tup []), (26, .tup []), (27, .tup []), (28, .tup []), (29, .tup []), (30, .tup []), (31, .one .top (.bool true))], [], H⟩ (by kernel_rfl) (by kernel_rfl) ?_
  refine o_eq2 (congrArg (fun q0 => (⟨[E4, E2, E3, (31, .one .top (.bool q0))], [], H⟩ : St)) (show true = ((decide (p1 > x5.layout_.Stack_)) || (decide ((IntKind.wrap .u64 (p2.length : Int)) > (IntKind.wrap .u64 (Int.tdiv (IntKind.wrap .u64 (IntKind.wrap .u32 (x5.layout_.Stack_ - p1))) 4))))) by simp [h7])) ?_
  exact o_end (by kernel_rfl) (by kernel_rfl)
  refine o_eq (congrArg (fun q => (⟨[E4, E2, E3, E5, E6, E7, E8, E9, E10, (16, .one .top (.bool q)), (17, .one .top (.bool q))], [], H⟩ : St)) h7) ?_
  refine o_run 1 S32 (by kernel_rfl) (by kernel_rfl) ?_
  refine o_one ⟨[E4, E2, E3, E5, E6, E7, E8, E9, E10, E11, E12, E13, E14], [], H⟩ (st_len S32 p2 (eI .u32) (some 19) (by kernel_rfl) (by kernel_rfl)) ?_
  refine o_run 5 S33 (by kernel_rfl) (by kernel_rfl) ?_
  refine o_one ⟨[E4, E2, E3, E5, E6, E7, E8, E9, E10, E11, E12, E13, E14, E15, E16, E17, E18, E19, E20], [], H⟩ (st_ld (X := X) S33 22 V6 4 1 false (.one .top (.int .u32 x5.layout_.Stack_)) (some 25) (by kernel_rfl) (by kernel_rfl) (by kernel_rfl) (by kernel_rfl) (by kernel_rfl) (by kernel_rfl)) ?_
  refine o_run 6 ⟨[E4, E2, E3, E5, E6, E7, E8, E9, E10, E11, E12, E13, E14, E15, E16, E17, E18, E19, E20, (26, .one .top (.int .u32 p1)), (27, .one .top (.int .u32 (IntKind.wrap .u32 (x5.layout_.Stack_ - p1)))), (28, .one .top (.int .u64 (IntKind.wrap .u64 (IntKind.wrap .u32 (x5.layout_.Stack_ - p1))))), (29, .one .top (.int .u64 (IntKind.wrap .u64 (Int.tdiv (IntKind.wrap .u64 (IntKind.wrap .u32 (x5.layout_.Stack_ - p1))) 4)))), (30, .one .top (.bool (decide ((IntKind.wrap .u64 (p2.length : Int)) > (IntKind.wrap .u64 (Int.tdiv (IntKind.wrap .u64 (IntKind.wrap .u32 (x5.layout_.Stack_ - p1))) 4)))))), (31, .one .top (.bool (decide ((IntKind.wrap .u64 (p2.length : Int)) > (IntKind.wrap .u64 (Int.tdiv (IntKind.wrap .u64 (IntKind.wrap .u32 (x5.layout_.Stack_ - p1))) 4))))))], [], H⟩ (by kernel_rfl) (by kernel_rfl) ?_
  refine o_eq2 (congrArg (fun q0 => (⟨[E4, E2, E3, (31, .one .top (.bool q0))], [], H⟩ : St)) (show (decide ((IntKind.wrap .u64 (p2.length : Int)) > (IntKind.wrap .u64 (Int.tdiv (IntKind.wrap .u64 (IntKind.wrap .u32 (x5.layout_.Stack_ - p1))) 4)))) = ((decide (p1 > x5.layout_.Stack_)) || (decide ((IntKind.wrap .u64 (p2.length : Int)) > (IntKind.wrap .u64 (Int.tdiv (IntKind.wrap .u64 (IntKind.wrap .u32 (x5.layout_.Stack_ - p1))) 4))))) by simp [h7])) ?_
  exact o_end (by kernel_rfl) (by kernel_rfl)
  rcases if_inv hF with ⟨h8, hF⟩ | ⟨h8, hF⟩
  refine w_cT (m := .top) h8 (s1 := (⟨[], [], H⟩ : St)) (by kernel_rfl) (by kernel_rfl) ?_
  refine w_seq ?_
  refine w_reg ⟨[(6, .one .top (.int .i64 31))], [], H⟩ (by kernel_rfl) ?_
  refine w_ret ?_
  obtain ⟨e0, e1⟩ := some2_inv hF
  subst e0
  subst e1
  exact fin_imp (v := .one .top (.int .i64 31)) (by kernel_rfl) (by kernel_rfl) (by kernel_rfl)
  refine w_cF (m := .top) h8 (s1 := (⟨[E4, E2, E3], [], H⟩ : St)) (by kernel_rfl) (by kernel_rfl) ?_
  refine w_skip ?_
  refine w_seq ?_
  obtain ⟨v10, h9, hF⟩ := bind1_inv hF
  obtain ⟨v11, h12, hF⟩ := bnd_inv hF
  obtain ⟨H13, h14, hF⟩ := bnd_inv hF
  have V15 : hget H13 i2 o3 6 = some (o_memory_Mem (T_memory_Mem.mk x5.layout_ v11)) := by rw [← h14]; exact hset_get V6 rfl
  refine w_regO ⟨[], [], H13⟩ ?_ ?_
  refine o_run 3 S34 (by kernel_rfl) (by kernel_rfl) ?_
  refine o_one ⟨[E4, E2, E3, E21, E22, E23, E24], [], H⟩ (st_ldP (X := X) S34 30 V6 5 0 1 (List.map (eI .u32) x5.words_) (some 35) (by kernel_rfl) (by kernel_rfl) (by kernel_rfl) (by kernel_rfl) (by kernel_rfl) (by kernel_rfl)) ?_
  refine o_run 2 S35 (by kernel_rfl) (by kernel_rfl) ?_
  refine o_one ⟨[E4, E2, E3, E21, E22, E23, E24, E25, E26, E27], [], H⟩ (st_cutA (X := X) S35 30 22 1 h9 (eI .u32) (.obj i2 (o3 + 5)) 0 (some (.tmp 37)) (some 38) (by kernel_rfl) (by kernel_rfl) (by kernel_rfl) (at_obj (k := 5) (c := ((.own 1), .sl 1 (List.map (eI .u32) x5.words_))) V6 (by kernel_rfl) (by kernel_rfl)) (show (opnd X.P S35 0 (.tmp 37)).bind natOf = some (IntKind.wrap .u32 (Int.tdiv p1 4)) by kernel_rfl) (by kernel_rfl)) ?_
  refine o_run 1 S36 (by kernel_rfl) (by kernel_rfl) ?_
  refine o_one ⟨[E4, E2, E3, E21, E22, E23, E24, E25, E26, E27, E28, E29], [], (hset H i2 o3 [(.top, .int .u32 x5.layout_.Code_), (.top, .int .u32 x5.layout_.Tables_), (.top, .int .u32 x5.layout_.Data_), (.top, .int .u32 x5.layout_.Heap_), (.top, .int .u32 x5.layout_.Stack_), ((.own 1), .sl 1 (List.map (eI .u32) v11))])⟩ (st_cpO (X := X) (lc := []) (h2 := (hset H i2 o3 [(.top, .int .u32 x5.layout_.Code_), (.top, .int .u32 x5.layout_.Tables_), (.top, .int .u32 x5.layout_.Data_), (.top, .int .u32 x5.layout_.Heap_), (.top, .int .u32 x5.layout_.Stack_), ((.own 1), .sl 1 (List.map (eI .u32) v11))])) S36 30 22 V6 5 0 1 (eI .u32) .bl x5.words_ p2 (Int.toNat (IntKind.wrap .u32 (Int.tdiv p1 4))) h12 (some 40) (cut_le h9) (by kernel_rfl) (by kernel_rfl) (by kernel_rfl) (fun _ => rfl) (fun _ => rfl) (by kernel_rfl) (by kernel_rfl) (hset_sub0 V6 (Nat.le_of_ble_eq_true rfl)) (by kernel_rfl)) ?_
  refine o_eq (congrArg (fun q => (⟨[E4, E2, E3, E21, E22, E23, E24, E25, E26, E27, E28, E29], [], q⟩ : St)) h14) ?_
  exact o_end (by kernel_rfl) (by kernel_rfl)
  refine w_seq ?_
  refine w_reg ⟨[(6, .one .top (.int .i64 0))], [], H13⟩ (by kernel_rfl) ?_
  refine w_ret ?_
  obtain ⟨e0, e1⟩ := some2_inv hF
  subst e0
  subst e1
  exact fin_imp (v := .one .top (.int .i64 0)) (by kernel_rfl) (by kernel_rfl) (by kernel_rfl)
noncomputable def memory_Mem_Layout (H : Heap) (p0 : Ptr) : Option (T_memory_Layout) :=
  (p0).bnd fun i1 o2 =>
  bind1 (get_memory_Mem H i1 o2) fun x4 =>
  some x4.layout_
theorem ok_memory_Mem_Layout (H : Heap) {p0 : Ptr} {ra : T_memory_Layout} (hF : memory_Mem_Layout H p0 = some ra) : evS X 90 [.one .top (Ptr.av p0)] H = some (.agg (m0_memory_Layout ra), H) := by
  let E1 : Ptr → Nat × TV := fun z0 => (0, .one .top (Ptr.av z0))
  let E2 : Nat × TV := (2, .one .top (.loc 2 0))
  let B3 : Nat × List MC := (2, [(.top, .int .u32 0), (.top, .int .u32 0), (.top, .int .u32 0), (.top, .int .u32 0), (.top, .int .u32 0)])
  refine w_fun Try.func90 rfl (by kernel_rfl) true (by kernel_rfl) (s0 := (⟨[(E1 p0)], [], H⟩ : St)) (by kernel_rfl) ?_
  unfold memory_Mem_Layout at hF
  refine w_seq ?_
  refine w_reg ⟨[(E1 p0), E2], [B3], H⟩ (by generalize p0 = qp0; cases qp0 <;> kernel_rfl) ?_
  refine w_seq ?_
  obtain ⟨i1, o2, h3, hF⟩ := pbnd_inv hF
  let E5 : Nat × TV := (0, .one .top (.obj i1 o2))
  let E6 : Nat × TV := (3, .one .top (.obj i1 o2))
  let E7 : Nat × TV := (4, .one .top (.obj i1 o2))
  let E8 : Nat × TV := (5, .one .top (.obj i1 o2))
  let S10 : St := ⟨[E5, E2, E6, E7, E8], [B3], H⟩
  obtain ⟨x4, V5, hF⟩ := bind1_inv hF
  replace V5 := hgetT_inv V5
  let B4 : Nat × List MC := (2, [(.top, .int .u32 x4.layout_.Code_), (.top, .int .u32 x4.layout_.Tables_), (.top, .int .u32 x4.layout_.Data_), (.top, .int .u32 x4.layout_.Heap_), (.top, .int .u32 x4.layout_.Stack_)])
  let E9 : Nat × TV := (6, .agg [(.top, .int .u32 x4.layout_.Code_), (.top, .int .u32 x4.layout_.Tables_), (.top, .int .u32 x4.layout_.Data_), (.top, .int .u32 x4.layout_.Heap_), (.top, .int .u32 x4.layout_.Stack_)])
  refine w_regO ⟨[E2], [B4], H⟩ ?_ ?_
  refine o_run 1 ⟨[(E1 p0), E2, (3, .one .top (Ptr.av p0))], [B3], H⟩ (by kernel_rfl) (by generalize p0 = qp0; cases qp0 <;> kernel_rfl) ?_
  refine o_eq (congrArg (fun q => (⟨[(0, .one .top (Ptr.av q)), E2, (3, .one .top (Ptr.av q))], [B3], H⟩ : St)) h3) ?_
  refine o_run 1 ⟨[E5, E2, E6, E7], [B3], H⟩ (by kernel_rfl) (by kernel_rfl) ?_
  refine o_run 1 S10 (by kernel_rfl) (by kernel_rfl) ?_
  refine o_one ⟨[E5, E2, E6, E7, E8, E9], [B3], H⟩ (st_ld (X := X) S10 24 V5 0 5 true (.agg [(.top, .int .u32 x4.layout_.Code_), (.top, .int .u32 x4.layout_.Tables_), (.top, .int .u32 x4.layout_.Data_), (.top, .int .u32 x4.layout_.Heap_), (.top, .int .u32 x4.layout_.Stack_)]) (some 6) (by kernel_rfl) (by kernel_rfl) (by kernel_rfl) (by kernel_rfl) (by kernel_rfl) (by kernel_rfl)) ?_
  refine o_run 1 ⟨[E5, E2, E6, E7, E8, E9], [B4], H⟩ (by kernel_rfl) (by kernel_rfl) ?_
  exact o_end (by kernel_rfl) (by kernel_rfl)
  refine w_ret ?_
  obtain e0 := some1_inv hF
  subst e0
  exact fin_pure (v := .agg [(.top, .int .u32 x4.layout_.Code_), (.top, .int .u32 x4.layout_.Tables_), (.top, .int .u32 x4.layout_.Data_), (.top, .int .u32 x4.layout_.Heap_), (.top, .int .u32 x4.layout_.Stack_)]) (by kernel_rfl) (by kernel_rfl) rfl (by kernel_rfl)
noncomputable def memory_Mem_Load (H : Heap) (p0 : Ptr) (p1 : Int) : Option (Int × Int) :=
  bind2 (memory_Mem_place H p0 p1) fun r1 r2 =>
  if (r2 != 0) = true then (some (0, r2))
  else ((p0).bnd fun i5 o6 =>
  bind1 (get_memory_Mem H i5 o6) fun x8 =>
  bind1 (gi x8.words_ r1) fun x10 =>
  some (x10, 0))
theorem ok_memory_Mem_Load (H : Heap) {p0 : Ptr} {p1 : Int} {ra : Int} {rb : Int} (hF : memory_Mem_Load H p0 p1 = some (ra, rb)) : evS X 18 [.one .top (Ptr.av p0), .one .top (.int .u32 p1)] H = some (.tup [.one .top (.int .u32 ra), .one .top (.int .i64 rb)], H) := by
  let E1 : Ptr → Nat × TV := fun z0 => (0, .one .top (Ptr.av z0))
  let E2 : Nat × TV := (1, .one .top (.int .u32 p1))
  let E5 : Ptr → Nat × TV := fun z0 => (9, .one .top (Ptr.av z0))
  let E6 : Nat × TV := (10, .one .top (.int .u32 p1))
  let S15 : Ptr → St := fun z0 => ⟨[(E1 z0), E2], [], H⟩
  let S16 : Ptr → St := fun z0 => ⟨[(E1 z0), E2, (E5 z0), E6], [], H⟩
  refine w_fun Try.func18 rfl (by kernel_rfl) true (by kernel_rfl) (s0 := (S15 p0)) (by kernel_rfl) ?_
  unfold memory_Mem_Load at hF
  refine w_seq ?_
  refine w_reg (S15 p0) (by generalize p0 = qp0; cases qp0 <;> kernel_rfl) ?_
  refine w_seq ?_
  obtain ⟨r1, r2, c3, hF⟩ := bind2_inv hF
  let E3 : Nat × TV := (6, .one .top (.int .i64 r1))
  let E4 : Nat × TV := (7, .one .top (.int .i64 r2))
  let E7 : Nat × TV := (11, .tup [.one .top (.int .i64 r1), .one .top (.int .i64 r2)])
  let E13 : Nat × TV := (21, .one .top (.int .i64 r1))
  refine w_regO ⟨[(E1 p0), E3, E4], [], H⟩ ?_ ?_
  refine o_run 2 (S16 p0) (by kernel_rfl) (by generalize p0 = qp0; cases qp0 <;> kernel_rfl) ?_
  refine o_one ⟨[(E1 p0), E2, (E5 p0), E6, E7], [], H⟩ (st_call (d := (some 11)) (fz := false) (pure := true) (own := false) (S16 p0) (ok_memory_Mem_place H c3) (by generalize p0 = qp0; cases qp0 <;> kernel_rfl) (by generalize p0 = qp0; cases qp0 <;> kernel_rfl)) ?_
  refine o_run 5 ⟨[(E1 p0), E2, E3, E4, (8, .tup [.one .top (.int .i64 r1), .one .top (.int .i64 r2)]), (E5 p0), E6, E7, (12, .one .top (.int .i64 r1)), (13, .one .top (.int .i64 r2))], [], H⟩ (by kernel_rfl) (by generalize p0 = qp0; cases qp0 <;> kernel_rfl) ?_
  exact o_end (by kernel_rfl) (by kernel_rfl)
  refine w_seq ?_
  refine w_seq ?_
  refine w_reg ⟨[(E1 p0), E3, E4, (15, .one .top (.bool (r2 != 0)))], [], H⟩ (by generalize p0 = qp0; cases qp0 <;> kernel_rfl) ?_
  rcases if_inv hF with ⟨h4, hF⟩ | ⟨h4, hF⟩
  refine w_cT (m := .top) h4 (s1 := (⟨[E4], [], H⟩ : St)) (by kernel_rfl) (by kernel_rfl) ?_
  refine w_seq ?_
  refine w_reg ⟨[(4, .one .top (.int .u32 0)), (5, .one .top (.int .i64 r2))], [], H⟩ (by kernel_rfl) ?_
  refine w_ret ?_
  obtain ⟨e0, e1⟩ := some2_inv hF
  subst e0
  subst e1
  exact fin_pure (v := .tup [.one .top (.int .u32 0), .one .top (.int .i64 r2)]) (by kernel_rfl) (by kernel_rfl) rfl (by kernel_rfl)
  refine w_cF (m := .top) h4 (s1 := (⟨[(E1 p0), E3], [], H⟩ : St)) (by kernel_rfl) (by kernel_rfl) ?_
  refine w_skip ?_
  refine w_seq ?_
  obtain ⟨i5, o6, h7, hF⟩ := pbnd_inv hF
  let E8 : Nat × TV := (0, .one .top (.obj i5 o6))
  let E9 : Nat × TV := (17, .one .top (.obj i5 o6))
  let E10 : Nat × TV := (18, .one .top (.obj i5 o6))
  let E11 : Nat × TV := (19, .one .top (.obj i5 (o6 + 5)))
  let S17 : St := ⟨[E8, E3, E9, E10, E11], [], H⟩
  obtain ⟨x8, V9, hF⟩ := bind1_inv hF
  replace V9 := hgetT_inv V9
  let E12 : Nat × TV := (20, .one .bh (.sl 1 (List.map (eI .u32) x8.words_)))
  let S18 : St := ⟨[E8, E3, E9, E10, E11, E12, E13], [], H⟩
  obtain ⟨x10, h11, hF⟩ := bind1_inv hF
  let E14 : Nat × TV := (22, .one .top (.rd .bh .bh [.int .u32 x10] 0))
  refine w_regO ⟨[(4, .one .top (.int .u32 x10)), (5, .one .top (.int .i64 0))], [], H⟩ ?_ ?_
  refine o_run 1 ⟨[(E1 p0), E3, (17, .one .top (Ptr.av p0))], [], H⟩ (by kernel_rfl) (by generalize p0 = qp0; cases qp0 <;> kernel_rfl) ?_
  refine o_eq (congrArg (fun q => (⟨[(0, .one .top (Ptr.av q)), E3, (17, .one .top (Ptr.av q))], [], H⟩ : St)) h7) ?_
  refine o_run 1 ⟨[E8, E3, E9, E10], [], H⟩ (by kernel_rfl) (by kernel_rfl) ?_
  refine o_run 1 S17 (by kernel_rfl) (by kernel_rfl) ?_
  refine o_one ⟨[E8, E3, E9, E10, E11, E12], [], H⟩ (st_ld (X := X) S17 30 V9 5 1 false (.one .bh (.sl 1 (List.map (eI .u32) x8.words_))) (some 20) (by kernel_rfl) (by kernel_rfl) (by kernel_rfl) (by kernel_rfl) (by kernel_rfl) (by kernel_rfl)) ?_
  refine o_run 1 S18 (by kernel_rfl) (by kernel_rfl) ?_
  refine o_one ⟨[E8, E3, E9, E10, E11, E12, E13, E14], [], H⟩ (st_ix (X := X) S18 30 22 1 h11 (eI .u32) .bh (some 22) (by kernel_rfl) (by kernel_rfl) (by kernel_rfl) (by kernel_rfl)) ?_
  refine o_run 3 ⟨[E8, (4, .one .top (.int .u32 x10)), (5, .one .top (.int .i64 0)), E3, E9, E10, E11, E12, E13, E14, (23, .one .top (.int .u32 x10))], [], H⟩ (by kernel_rfl) (by kernel_rfl) ?_
  exact o_end (by kernel_rfl) (by kernel_rfl)
  refine w_ret ?_
  obtain ⟨e0, e1⟩ := some2_inv hF
  subst e0
  subst e1
  exact fin_pure (v := .tup [.one .top (.int .u32 x10), .one .top (.int .i64 0)]) (by kernel_rfl) (by kernel_rfl) rfl (by kernel_rfl)
end Go.Proofs.Abs
