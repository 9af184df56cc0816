/- The law TypesPlays: whatever the input, it answers true. No conditions. (Part TypesPlaysF3 of its proof.) -/
import Derived.Test.YtdfdjhimecmkfaaTypesPlaysF2
set_option linter.unusedVariables false
set_option linter.unusedSimpArgs false
set_option linter.unusedSectionVars false
/- Printed by gen (walk.py). -/
namespace Go.Proofs.Abs
open Go Go.Proofs
set_option linter.unusedVariables false
set_option maxRecDepth 100000
set_option maxHeartbeats 0
noncomputable def types_Table_Close (H : Heap) (p0 : Ptr) (p1 : Int) : Option (Heap × Int) :=
  bind1 (types_Table_Get H p0 p1) fun r1 =>
  if ((r1.Kind_ != 6) || (!r1.Open_)) = true then (some (H, 111))
  else ((p0).bnd fun i5 o6 =>
  bind1 (get_types_Table H i5 o6) fun x8 =>
  bind1 (gi x8.list_ p1) fun x10 =>
  bind1 (si x8.list_ p1 (T_types_Type.mk x10.Kind_ x10.Len_ x10.Base_ x10.Size_ false x10.Fields_)) fun v12 =>
  bnd (set_types_Table H i5 o6 (T_types_Table.mk v12)) fun H14 =>
  some (H14, 0))
theorem ok_types_Table_Close (H : Heap) {p0 : Ptr} {p1 : Int} {ra : Int} {Hr : Heap} (hF : types_Table_Close H p0 p1 = some (Hr, ra)) : evS X 98 [.one .top (Ptr.av p0), .one .top (.int .i64 p1)] H = some (.one .top (.int .i64 ra), Hr) := by
  refine w_fun Try.func98 rfl (by kernel_rfl) false (by kernel_rfl) (s0 := (⟨[(0, .one .top (Ptr.av p0)), (1, .one .top (.int .i64 p1))], [], H⟩ : St)) (by kernel_rfl) ?_
  unfold types_Table_Close at hF
  refine w_seq ?_
  refine w_reg ⟨[(0, .one .top (Ptr.av p0)), (1, .one .top (.int .i64 p1))], [], H⟩ (by generalize p0 = qp0; cases qp0 <;> kernel_rfl) ?_
  refine w_seq ?_
  refine w_seq ?_
  obtain ⟨r1, c2, hF⟩ := bind1_inv hF
  refine w_regO ⟨[(0, .one .top (Ptr.av p0)), (1, .one .top (.int .i64 p1)), (5, .one .top (.loc 5 0))], [(5, [(.top, .int .i64 r1.Kind_), (.top, .int .i64 r1.Len_), (.top, .int .i64 r1.Base_), (.top, .int .i64 r1.Size_), (.top, .bool r1.Open_), ((.own 1), .sl 3 (List.map e_types_Field r1.Fields_))])], H⟩ ?_ ?_
  refine o_run 2 ⟨[(0, .one .top (Ptr.av p0)), (1, .one .top (.int .i64 p1)), (6, .one .top (Ptr.av p0)), (7, .one .top (.int .i64 p1))], [], H⟩ (by kernel_rfl) (by generalize p0 = qp0; cases qp0 <;> kernel_rfl) ?_
  refine o_one ⟨[(0, .one .top (Ptr.av p0)), (1, .one .top (.int .i64 p1)), (6, .one .top (Ptr.av p0)), (7, .one .top (.int .i64 p1)), (8, .agg [(.top, .int .i64 r1.Kind_), (.top, .int .i64 r1.Len_), (.top, .int .i64 r1.Base_), (.top, .int .i64 r1.Size_), (.top, .bool r1.Open_), ((.own 1), .sl 3 (List.map e_types_Field r1.Fields_))])], [], H⟩ (st_call (d := (some 8)) (fz := false) (pure := true) (own := false) (⟨[(0, .one .top (Ptr.av p0)), (1, .one .top (.int .i64 p1)), (6, .one .top (Ptr.av p0)), (7, .one .top (.int .i64 p1))], [], H⟩ : St) (ok_types_Table_Get H c2) (by generalize p0 = qp0; cases qp0 <;> kernel_rfl) (by generalize p0 = qp0; cases qp0 <;> kernel_rfl)) ?_
  refine o_run 2 ⟨[(0, .one .top (Ptr.av p0)), (1, .one .top (.int .i64 p1)), (5, .one .top (.loc 5 0)), (6, .one .top (Ptr.av p0)), (7, .one .top (.int .i64 p1)), (8, .agg [(.top, .int .i64 r1.Kind_), (.top, .int .i64 r1.Len_), (.top, .int .i64 r1.Base_), (.top, .int .i64 r1.Size_), (.top, .bool r1.Open_), (.top, .junk)])], [(5, [(.top, .int .i64 r1.Kind_), (.top, .int .i64 r1.Len_), (.top, .int .i64 r1.Base_), (.top, .int .i64 r1.Size_), (.top, .bool r1.Open_), ((.own 1), .sl 3 (List.map e_types_Field r1.Fields_))])], H⟩ (by kernel_rfl) (by generalize p0 = qp0; cases qp0 <;> kernel_rfl) ?_
  exact o_end (by kernel_rfl) (by kernel_rfl)
  refine w_seq ?_
  refine w_regO ⟨[(0, .one .top (Ptr.av p0)), (1, .one .top (.int .i64 p1)), (16, .one .top (.bool ((r1.Kind_ != 6) || (!r1.Open_))))], [], H⟩ ?_ ?_
  refine o_run 4 ⟨[(0, .one .top (Ptr.av p0)), (1, .one .top (.int .i64 p1)), (5, .one .top (.loc 5 0)), (9, .one .top (.loc 5 0)), (10, .one .top (.int .i64 r1.Kind_)), (11, .one .top (.bool (r1.Kind_ != 6))), (12, .one .top (.bool (r1.Kind_ != 6)))], [(5, [(.top, .int .i64 r1.Kind_), (.top, .int .i64 r1.Len_), (.top, .int .i64 r1.Base_), (.top, .int .i64 r1.Size_), (.top, .bool r1.Open_), ((.own 1), .sl 3 (List.map e_types_Field r1.Fields_))])], H⟩ (by kernel_rfl) (by generalize p0 = qp0; cases qp0 <;> kernel_rfl) ?_
  rcases bool_cases (r1.Kind_ != 6) with h3 | h3
  refine o_eq (congrArg (fun q => (⟨[(0, .one .top (Ptr.av p0)), (1, .one .top (.int .i64 p1)), (5, .one .top (.loc 5 0)), (9, .one .top (.loc 5 0)), (10, .one .top (.int .i64 r1.Kind_)), (11, .one .top (.bool q)), (12, .one .top (.bool q))], [(5, [(.top, .int .i64 r1.Kind_), (.top, .int .i64 r1.Len_), (.top, .int .i64 r1.Base_), (.top, .int .i64 r1.Size_), (.top, .bool r1.Open_), ((.own 1), .sl 3 (List.map e_types_Field r1.Fields_))])], H⟩ : St)) h3) ?_
  refine o_run 4 ⟨[(0, .one .top (Ptr.av p0)), (1, .one .top (.int .i64 p1)), (5, .one .top (.loc 5 0)), (9, .one .top (.loc 5 0)), (10, .one .top (.int .i64 r1.Kind_)), (11, .one .top (.bool true)), (12, .one .top (.bool true)), (13, .tup []), (14, .tup []), (15, .tup []), (16, .one .top (.bool true))], [(5, [(.top, .int .i64 r1.Kind_), (.top, .int .i64 r1.Len_), (.top, .int .i64 r1.Base_), (.top, .int .i64 r1.Size_), (.top, .bool r1.Open_), ((.own 1), .sl 3 (List.map e_types_Field r1.Fields_))])], H⟩ (by kernel_rfl) (by generalize p0 = qp0; cases qp0 <;> kernel_rfl) ?_
  refine o_eq2 (congrArg (fun q0 => (⟨[(0, .one .top (Ptr.av p0)), (1, .one .top (.int .i64 p1)), (16, .one .top (.bool q0))], [], H⟩ : St)) (show true = ((r1.Kind_ != 6) || (!r1.Open_)) by simp [h3])) ?_
  exact o_end (by kernel_rfl) (by kernel_rfl)
  refine o_eq (congrArg (fun q => (⟨[(0, .one .top (Ptr.av p0)), (1, .one .top (.int .i64 p1)), (5, .one .top (.loc 5 0)), (9, .one .top (.loc 5 0)), (10, .one .top (.int .i64 r1.Kind_)), (11, .one .top (.bool q)), (12, .one .top (.bool q))], [(5, [(.top, .int .i64 r1.Kind_), (.top, .int .i64 r1.Len_), (.top, .int .i64 r1.Base_), (.top, .int .i64 r1.Size_), (.top, .bool r1.Open_), ((.own 1), .sl 3 (List.map e_types_Field r1.Fields_))])], H⟩ : St)) h3) ?_
  refine o_run 4 ⟨[(0, .one .top (Ptr.av p0)), (1, .one .top (.int .i64 p1)), (5, .one .top (.loc 5 0)), (9, .one .top (.loc 5 0)), (10, .one .top (.int .i64 r1.Kind_)), (11, .one .top (.bool false)), (12, .one .top (.bool false)), (13, .one .top (.loc 5 4)), (14, .one .top (.bool r1.Open_)), (15, .one .top (.bool (!r1.Open_))), (16, .one .top (.bool (!r1.Open_)))], [(5, [(.top, .int .i64 r1.Kind_), (.top, .int .i64 r1.Len_), (.top, .int .i64 r1.Base_), (.top, .int .i64 r1.Size_), (.top, .bool r1.Open_), ((.own 1), .sl 3 (List.map e_types_Field r1.Fields_))])], H⟩ (by kernel_rfl) (by generalize p0 = qp0; cases qp0 <;> kernel_rfl) ?_
  refine o_eq2 (congrArg (fun q0 => (⟨[(0, .one .top (Ptr.av p0)), (1, .one .top (.int .i64 p1)), (16, .one .top (.bool q0))], [], H⟩ : St)) (show (!r1.Open_) = ((r1.Kind_ != 6) || (!r1.Open_)) by simp [h3])) ?_
  exact o_end (by kernel_rfl) (by kernel_rfl)
  rcases if_inv hF with ⟨h4, hF⟩ | ⟨h4, hF⟩
  refine w_cT (m := .top) h4 (s1 := (⟨[], [], H⟩ : St)) (by kernel_rfl) (by kernel_rfl) ?_
  refine w_seq ?_
  refine w_reg ⟨[(4, .one .top (.int .i64 111))], [], H⟩ (by kernel_rfl) ?_
  refine w_ret ?_
  obtain ⟨e0, e1⟩ := some2_inv hF
  subst e0
  subst e1
  exact fin_imp (v := .one .top (.int .i64 111)) (by kernel_rfl) (by kernel_rfl) (by kernel_rfl)
  refine w_cF (m := .top) h4 (s1 := (⟨[(0, .one .top (Ptr.av p0)), (1, .one .top (.int .i64 p1))], [], H⟩ : St)) (by kernel_rfl) (by kernel_rfl) ?_
  refine w_skip ?_
  refine w_seq ?_
  obtain ⟨i5, o6, h7, hF⟩ := pbnd_inv hF
  obtain ⟨x8, V9, hF⟩ := bind1_inv hF
  replace V9 := hgetT_inv V9
  obtain ⟨x10, h11, hF⟩ := bind1_inv hF
  obtain ⟨v12, h13, hF⟩ := bind1_inv hF
  obtain ⟨H14, h15, hF⟩ := bnd_inv hF
  have V16 : hget H14 i5 o6 1 = some (o_types_Table (T_types_Table.mk v12)) := by rw [← h15]; exact hset_get V9 rfl
  refine w_regO ⟨[], [], H14⟩ ?_ ?_
  refine o_run 1 ⟨[(0, .one .top (Ptr.av p0)), (1, .one .top (.int .i64 p1)), (17, .one .top (Ptr.av p0))], [], H⟩ (by kernel_rfl) (by generalize p0 = qp0; cases qp0 <;> kernel_rfl) ?_
  refine o_eq (congrArg (fun q => (⟨[(0, .one .top (Ptr.av q)), (1, .one .top (.int .i64 p1)), (17, .one .top (Ptr.av q))], [], H⟩ : St)) h7) ?_
  refine o_run 1 ⟨[(0, .one .top (.obj i5 o6)), (1, .one .top (.int .i64 p1)), (17, .one .top (.obj i5 o6)), (18, .one .top (.obj i5 o6))], [], H⟩ (by kernel_rfl) (by kernel_rfl) ?_
  refine o_run 1 ⟨[(0, .one .top (.obj i5 o6)), (1, .one .top (.int .i64 p1)), (17, .one .top (.obj i5 o6)), (18, .one .top (.obj i5 o6)), (19, .one .top (.obj i5 o6))], [], H⟩ (by kernel_rfl) (by kernel_rfl) ?_
  refine o_one ⟨[(0, .one .top (.obj i5 o6)), (1, .one .top (.int .i64 p1)), (17, .one .top (.obj i5 o6)), (18, .one .top (.obj i5 o6)), (19, .one .top (.obj i5 o6)), (20, .one .top (.at_ (.obj i5 o6) 0 ((List.map e_types_Type x8.list_).length)))], [], H⟩ (st_ldP (X := X) (⟨[(0, .one .top (.obj i5 o6)), (1, .one .top (.int .i64 p1)), (17, .one .top (.obj i5 o6)), (18, .one .top (.obj i5 o6)), (19, .one .top (.obj i5 o6))], [], H⟩ : St) 135 V9 0 1 6 (List.map e_types_Type x8.list_) (some 20) (by kernel_rfl) (by kernel_rfl) (by kernel_rfl) (by kernel_rfl) (by kernel_rfl) (by kernel_rfl)) ?_
  refine o_run 1 ⟨[(0, .one .top (.obj i5 o6)), (1, .one .top (.int .i64 p1)), (17, .one .top (.obj i5 o6)), (18, .one .top (.obj i5 o6)), (19, .one .top (.obj i5 o6)), (20, .one .top (.at_ (.obj i5 o6) 0 ((List.map e_types_Type x8.list_).length))), (21, .one .top (.int .i64 p1))], [], H⟩ (by kernel_rfl) (by kernel_rfl) ?_
  refine o_one ⟨[(0, .one .top (.obj i5 o6)), (1, .one .top (.int .i64 p1)), (17, .one .top (.obj i5 o6)), (18, .one .top (.obj i5 o6)), (19, .one .top (.obj i5 o6)), (20, .one .top (.at_ (.obj i5 o6) 0 ((List.map e_types_Type x8.list_).length))), (21, .one .top (.int .i64 p1)), (22, .one .top (.el (.obj i5 o6) (Int.toNat p1) 0))], [], H⟩ (st_ixA (X := X) (⟨[(0, .one .top (.obj i5 o6)), (1, .one .top (.int .i64 p1)), (17, .one .top (.obj i5 o6)), (18, .one .top (.obj i5 o6)), (19, .one .top (.obj i5 o6)), (20, .one .top (.at_ (.obj i5 o6) 0 ((List.map e_types_Type x8.list_).length))), (21, .one .top (.int .i64 p1))], [], H⟩ : St) 135 55 6 h11 e_types_Type (.obj i5 o6) 0 (List.map e_types_Type x8.list_).length 1 (some 22) (by kernel_rfl) (by kernel_rfl) (by kernel_rfl) (at_obj (k := 0) (c := ((.own 2), .sl 6 (List.map e_types_Type x8.list_))) V9 (by kernel_rfl) (by kernel_rfl)) rfl (List.length_map _) (by kernel_rfl)) ?_
  refine o_run 1 ⟨[(0, .one .top (.obj i5 o6)), (1, .one .top (.int .i64 p1)), (17, .one .top (.obj i5 o6)), (18, .one .top (.obj i5 o6)), (19, .one .top (.obj i5 o6)), (20, .one .top (.at_ (.obj i5 o6) 0 ((List.map e_types_Type x8.list_).length))), (21, .one .top (.int .i64 p1)), (22, .one .top (.el (.obj i5 o6) (Int.toNat p1) 0)), (23, .one .top (.el (.obj i5 o6) (Int.toNat p1) 4))], [], H⟩ (by kernel_rfl) (by kernel_rfl) ?_
  refine o_one ⟨[(0, .one .top (.obj i5 o6)), (1, .one .top (.int .i64 p1)), (17, .one .top (.obj i5 o6)), (18, .one .top (.obj i5 o6)), (19, .one .top (.obj i5 o6)), (20, .one .top (.at_ (.obj i5 o6) 0 ((List.map e_types_Type x8.list_).length))), (21, .one .top (.int .i64 p1)), (22, .one .top (.el (.obj i5 o6) (Int.toNat p1) 0)), (23, .one .top (.el (.obj i5 o6) (Int.toNat p1) 4))], [], (hset H i5 o6 [((.own 2), .sl 6 (List.map e_types_Type v12))])⟩ (st_stE (X := X) (⟨[(0, .one .top (.obj i5 o6)), (1, .one .top (.int .i64 p1)), (17, .one .top (.obj i5 o6)), (18, .one .top (.obj i5 o6)), (19, .one .top (.obj i5 o6)), (20, .one .top (.at_ (.obj i5 o6) 0 ((List.map e_types_Type x8.list_).length))), (21, .one .top (.int .i64 p1)), (22, .one .top (.el (.obj i5 o6) (Int.toNat p1) 0)), (23, .one .top (.el (.obj i5 o6) (Int.toNat p1) 4))], [], H⟩ : St) (⟨[(0, .one .top (.obj i5 o6)), (1, .one .top (.int .i64 p1)), (17, .one .top (.obj i5 o6)), (18, .one .top (.obj i5 o6)), (19, .one .top (.obj i5 o6)), (20, .one .top (.at_ (.obj i5 o6) 0 ((List.map e_types_Type x8.list_).length))), (21, .one .top (.int .i64 p1)), (22, .one .top (.el (.obj i5 o6) (Int.toNat p1) 0)), (23, .one .top (.el (.obj i5 o6) (Int.toNat p1) 4))], [], (hset H i5 o6 [((.own 2), .sl 6 (List.map e_types_Type v12))])⟩ : St) ⟨false, []⟩ 4 (.obj i5 o6) (Int.toNat p1) 4 1 1 (List.map e_types_Type x8.list_) [.int .i64 x10.Kind_, .int .i64 x10.Len_, .int .i64 x10.Base_, .int .i64 x10.Size_, .bool x10.Open_, .sl 3 (List.map e_types_Field x10.Fields_)] (e_types_Type (T_types_Type.mk x10.Kind_ x10.Len_ x10.Base_ x10.Size_ false x10.Fields_)) (List.map e_types_Type v12) 6 (.one .top (.bool false)) (by kernel_rfl) (by kernel_rfl) (by kernel_rfl) (by kernel_rfl) (by kernel_rfl) (at_obj (k := 0) (c := ((.own 2), .sl 6 (List.map e_types_Type x8.list_))) V9 (by kernel_rfl) (by kernel_rfl)) (el_at h11) (by kernel_rfl) (by kernel_rfl) (el_put h13) (root_obj (k := 0) V9 (by kernel_rfl) (hset_sub0 (k := 0) V9 (Nat.le_of_ble_eq_true rfl))) (by kernel_rfl)) ?_
  refine o_eq (congrArg (fun q => (⟨[(0, .one .top (.obj i5 o6)), (1, .one .top (.int .i64 p1)), (17, .one .top (.obj i5 o6)), (18, .one .top (.obj i5 o6)), (19, .one .top (.obj i5 o6)), (20, .one .top (.at_ (.obj i5 o6) 0 ((List.map e_types_Type x8.list_).length))), (21, .one .top (.int .i64 p1)), (22, .one .top (.el (.obj i5 o6) (Int.toNat p1) 0)), (23, .one .top (.el (.obj i5 o6) (Int.toNat p1) 4))], [], q⟩ : St)) h15) ?_
  exact o_end (by kernel_rfl) (by kernel_rfl)
  refine w_seq ?_
  refine w_reg ⟨[(4, .one .top (.int .i64 0))], [], H14⟩ (by kernel_rfl) ?_
  refine w_ret ?_
  obtain ⟨e0, e1⟩ := some2_inv hF
  subst e0
  subst e1
  exact fin_imp (v := .one .top (.int .i64 0)) (by kernel_rfl) (by kernel_rfl) (by kernel_rfl)
theorem ok_ref09_put_2 (H : Heap) {p0 : (List T_ref09_Type)} {p1 : Int} {p2 : T_ref09_Type} {ra : (List T_ref09_Type)} (hF : ref09_put p0 p1 p2 = some ra) : evS X 128 [.one (.own 0) (.sl 6 (List.map e_ref09_Type p0)), .one .top (.int .i64 p1), .agg [(.top, .int .i64 p2.Kind_), (.top, .int .i64 p2.Len_), (.top, .int .i64 p2.Base_), (.top, .int .i64 p2.Size_), (.top, .bool p2.Open_), ((.own 0), .sl 3 (List.map e_ref09_Field p2.Fields_))]] H = some (.one (.own 0) (.sl 6 (List.map e_ref09_Type ra)), H) := by
  refine w_fun Try.func128 rfl (by kernel_rfl) true (by kernel_rfl) (s0 := (⟨[(0, .one (.own 0) (.sl 6 (List.map e_ref09_Type p0))), (1, .one .top (.int .i64 p1)), (2, .agg [(.top, .int .i64 p2.Kind_), (.top, .int .i64 p2.Len_), (.top, .int .i64 p2.Base_), (.top, .int .i64 p2.Size_), (.top, .bool p2.Open_), ((.own 0), .sl 3 (List.map e_ref09_Field p2.Fields_))])], [], H⟩ : St)) (by kernel_rfl) ?_
  unfold ref09_put at hF
  refine w_seq ?_
  refine w_reg ⟨[(0, .one (.own 0) (.sl 6 (List.map e_ref09_Type p0))), (1, .one .top (.int .i64 p1)), (5, .one .top (.loc 5 0))], [(5, [(.top, .int .i64 p2.Kind_), (.top, .int .i64 p2.Len_), (.top, .int .i64 p2.Base_), (.top, .int .i64 p2.Size_), (.top, .bool p2.Open_), ((.own 0), .sl 3 (List.map e_ref09_Field p2.Fields_))])], H⟩ (by kernel_rfl) ?_
  refine w_seq ?_
  obtain ⟨v1, h2, hF⟩ := bind1_inv hF
  refine w_regO ⟨[(1, .one .top (.int .i64 p1)), (5, .one .top (.loc 5 0)), (7, .one (.own 1) (.sl 6 (List.map e_ref09_Type v1)))], [(5, [(.top, .int .i64 p2.Kind_), (.top, .int .i64 p2.Len_), (.top, .int .i64 p2.Base_), (.top, .int .i64 p2.Size_), (.top, .bool p2.Open_), ((.own 0), .sl 3 (List.map e_ref09_Field p2.Fields_))])], H⟩ ?_ ?_
  refine o_run 2 ⟨[(0, .one (.own 0) (.sl 6 (List.map e_ref09_Type p0))), (1, .one .top (.int .i64 p1)), (5, .one .top (.loc 5 0)), (8, .one (.own 2) (.sl 6 (List.map e_ref09_Type ([] : List T_ref09_Type)))), (9, .one (.own 0) (.sl 6 (List.map e_ref09_Type p0)))], [(5, [(.top, .int .i64 p2.Kind_), (.top, .int .i64 p2.Len_), (.top, .int .i64 p2.Base_), (.top, .int .i64 p2.Size_), (.top, .bool p2.Open_), ((.own 0), .sl 3 (List.map e_ref09_Field p2.Fields_))])], H⟩ (by kernel_rfl) (by kernel_rfl) ?_
  refine o_one ⟨[(0, .one (.own 0) (.sl 6 (List.map e_ref09_Type p0))), (1, .one .top (.int .i64 p1)), (5, .one .top (.loc 5 0)), (8, .one .top .junk), (9, .one (.own 0) (.sl 6 (List.map e_ref09_Type p0))), (10, .one (.own 1) (.sl 6 (List.map e_ref09_Type v1)))], [(5, [(.top, .int .i64 p2.Kind_), (.top, .int .i64 p2.Len_), (.top, .int .i64 p2.Base_), (.top, .int .i64 p2.Size_), (.top, .bool p2.Open_), ((.own 0), .sl 3 (List.map e_ref09_Field p2.Fields_))])], H⟩ (st_app (X := X) (⟨[(0, .one (.own 0) (.sl 6 (List.map e_ref09_Type p0))), (1, .one .top (.int .i64 p1)), (5, .one .top (.loc 5 0)), (8, .one .top .junk), (9, .one (.own 0) (.sl 6 (List.map e_ref09_Type p0)))], [(5, [(.top, .int .i64 p2.Kind_), (.top, .int .i64 p2.Len_), (.top, .int .i64 p2.Base_), (.top, .int .i64 p2.Size_), (.top, .bool p2.Open_), ((.own 0), .sl 3 (List.map e_ref09_Field p2.Fields_))])], H⟩ : St) 64 h2 48 48 77 6 1 [(.top, .int .i64 0), (.top, .int .i64 0), (.top, .int .i64 0), (.top, .int .i64 0), (.top, .bool false), ((.own 1), .sl 3 (List.map e_ref09_Field ([] : List T_ref09_Field)))] (.own 0) e_ref09_Type 0 (some 10) (by kernel_rfl) (by kernel_rfl) (by kernel_rfl) (by kernel_rfl) (by kernel_rfl) (by kernel_rfl) (by kernel_rfl) (by kernel_rfl) (by kernel_rfl) (fun _ => rfl) (by kernel_rfl)) ?_
  refine o_run 1 ⟨[(0, .one (.own 0) (.sl 6 (List.map e_ref09_Type p0))), (1, .one .top (.int .i64 p1)), (5, .one .top (.loc 5 0)), (7, .one (.own 1) (.sl 6 (List.map e_ref09_Type v1))), (8, .one .top .junk), (9, .one (.own 0) (.sl 6 (List.map e_ref09_Type p0))), (10, .one .top .junk)], [(5, [(.top, .int .i64 p2.Kind_), (.top, .int .i64 p2.Len_), (.top, .int .i64 p2.Base_), (.top, .int .i64 p2.Size_), (.top, .bool p2.Open_), ((.own 0), .sl 3 (List.map e_ref09_Field p2.Fields_))])], H⟩ (by kernel_rfl) (by kernel_rfl) ?_
  exact o_end (by kernel_rfl) (by kernel_rfl)
  refine w_seq ?_
  obtain ⟨x3, h4, hF⟩ := bind1_inv hF
  obtain ⟨v5, h6, hF⟩ := bind1_inv hF
  refine w_regO ⟨[(7, .one (.own 1) (.sl 6 (List.map e_ref09_Type v5)))], [], H⟩ ?_ ?_
  refine o_run 3 ⟨[(1, .one .top (.int .i64 p1)), (5, .one .top (.loc 5 0)), (7, .one (.own 1) (.sl 6 (List.map e_ref09_Type v1))), (11, .one .top (.at_ (.tmp 7) 0 ((List.map e_ref09_Type v1).length))), (12, .one .top (.int .i64 p1)), (13, .agg [(.top, .int .i64 p2.Kind_), (.top, .int .i64 p2.Len_), (.top, .int .i64 p2.Base_), (.top, .int .i64 p2.Size_), (.top, .bool p2.Open_), ((.own 0), .sl 3 (List.map e_ref09_Field p2.Fields_))])], [(5, [(.top, .int .i64 p2.Kind_), (.top, .int .i64 p2.Len_), (.top, .int .i64 p2.Base_), (.top, .int .i64 p2.Size_), (.top, .bool p2.Open_), ((.own 0), .sl 3 (List.map e_ref09_Field p2.Fields_))])], H⟩ (by kernel_rfl) (by kernel_rfl) ?_
  refine o_one ⟨[(1, .one .top (.int .i64 p1)), (5, .one .top (.loc 5 0)), (7, .one (.own 1) (.sl 6 (List.map e_ref09_Type v1))), (11, .one .top (.at_ (.tmp 7) 0 ((List.map e_ref09_Type v1).length))), (12, .one .top (.int .i64 p1)), (13, .agg [(.top, .int .i64 p2.Kind_), (.top, .int .i64 p2.Len_), (.top, .int .i64 p2.Base_), (.top, .int .i64 p2.Size_), (.top, .bool p2.Open_), ((.own 0), .sl 3 (List.map e_ref09_Field p2.Fields_))]), (14, .one .top (.el (.tmp 7) (Int.toNat p1) 0))], [(5, [(.top, .int .i64 p2.Kind_), (.top, .int .i64 p2.Len_), (.top, .int .i64 p2.Base_), (.top, .int .i64 p2.Size_), (.top, .bool p2.Open_), ((.own 0), .sl 3 (List.map e_ref09_Field p2.Fields_))])], H⟩ (st_ixA (X := X) (⟨[(1, .one .top (.int .i64 p1)), (5, .one .top (.loc 5 0)), (7, .one (.own 1) (.sl 6 (List.map e_ref09_Type v1))), (11, .one .top (.at_ (.tmp 7) 0 ((List.map e_ref09_Type v1).length))), (12, .one .top (.int .i64 p1)), (13, .agg [(.top, .int .i64 p2.Kind_), (.top, .int .i64 p2.Len_), (.top, .int .i64 p2.Base_), (.top, .int .i64 p2.Size_), (.top, .bool p2.Open_), ((.own 0), .sl 3 (List.map e_ref09_Field p2.Fields_))])], [(5, [(.top, .int .i64 p2.Kind_), (.top, .int .i64 p2.Len_), (.top, .int .i64 p2.Base_), (.top, .int .i64 p2.Size_), (.top, .bool p2.Open_), ((.own 0), .sl 3 (List.map e_ref09_Field p2.Fields_))])], H⟩ : St) 48 77 6 h4 e_ref09_Type (.tmp 7) 0 (List.map e_ref09_Type v1).length 0 (some 14) (by kernel_rfl) (by kernel_rfl) (by kernel_rfl) (by kernel_rfl) rfl (List.length_map _) (by kernel_rfl)) ?_
  refine o_one ⟨[(1, .one .top (.int .i64 p1)), (5, .one .top (.loc 5 0)), (7, .one (.own 1) (.sl 6 (List.map e_ref09_Type v5))), (11, .one .top (.at_ (.tmp 7) 0 ((List.map e_ref09_Type v1).length))), (12, .one .top (.int .i64 p1)), (13, .agg [(.top, .int .i64 p2.Kind_), (.top, .int .i64 p2.Len_), (.top, .int .i64 p2.Base_), (.top, .int .i64 p2.Size_), (.top, .bool p2.Open_), ((.own 0), .sl 3 (List.map e_ref09_Field p2.Fields_))]), (14, .one .top (.el (.tmp 7) (Int.toNat p1) 0))], [(5, [(.top, .int .i64 p2.Kind_), (.top, .int .i64 p2.Len_), (.top, .int .i64 p2.Base_), (.top, .int .i64 p2.Size_), (.top, .bool p2.Open_), ((.own 0), .sl 3 (List.map e_ref09_Field p2.Fields_))])], H⟩ (st_stE (X := X) (⟨[(1, .one .top (.int .i64 p1)), (5, .one .top (.loc 5 0)), (7, .one (.own 1) (.sl 6 (List.map e_ref09_Type v1))), (11, .one .top (.at_ (.tmp 7) 0 ((List.map e_ref09_Type v1).length))), (12, .one .top (.int .i64 p1)), (13, .agg [(.top, .int .i64 p2.Kind_), (.top, .int .i64 p2.Len_), (.top, .int .i64 p2.Base_), (.top, .int .i64 p2.Size_), (.top, .bool p2.Open_), ((.own 0), .sl 3 (List.map e_ref09_Field p2.Fields_))]), (14, .one .top (.el (.tmp 7) (Int.toNat p1) 0))], [(5, [(.top, .int .i64 p2.Kind_), (.top, .int .i64 p2.Len_), (.top, .int .i64 p2.Base_), (.top, .int .i64 p2.Size_), (.top, .bool p2.Open_), ((.own 0), .sl 3 (List.map e_ref09_Field p2.Fields_))])], H⟩ : St) (⟨[(1, .one .top (.int .i64 p1)), (5, .one .top (.loc 5 0)), (7, .one (.own 1) (.sl 6 (List.map e_ref09_Type v5))), (11, .one .top (.at_ (.tmp 7) 0 ((List.map e_ref09_Type v1).length))), (12, .one .top (.int .i64 p1)), (13, .agg [(.top, .int .i64 p2.Kind_), (.top, .int .i64 p2.Len_), (.top, .int .i64 p2.Base_), (.top, .int .i64 p2.Size_), (.top, .bool p2.Open_), ((.own 0), .sl 3 (List.map e_ref09_Field p2.Fields_))]), (14, .one .top (.el (.tmp 7) (Int.toNat p1) 0))], [(5, [(.top, .int .i64 p2.Kind_), (.top, .int .i64 p2.Len_), (.top, .int .i64 p2.Base_), (.top, .int .i64 p2.Size_), (.top, .bool p2.Open_), ((.own 0), .sl 3 (List.map e_ref09_Field p2.Fields_))])], H⟩ : St) ⟨true, []⟩ 77 (.tmp 7) (Int.toNat p1) 0 6 0 (List.map e_ref09_Type v1) [.int .i64 x3.Kind_, .int .i64 x3.Len_, .int .i64 x3.Base_, .int .i64 x3.Size_, .bool x3.Open_, .sl 3 (List.map e_ref09_Field x3.Fields_)] (e_ref09_Type p2) (List.map e_ref09_Type v5) 6 (.agg [(.top, .int .i64 p2.Kind_), (.top, .int .i64 p2.Len_), (.top, .int .i64 p2.Base_), (.top, .int .i64 p2.Size_), (.top, .bool p2.Open_), ((.own 0), .sl 3 (List.map e_ref09_Field p2.Fields_))]) (by kernel_rfl) (by kernel_rfl) (by kernel_rfl) (by kernel_rfl) (by kernel_rfl) (by kernel_rfl) (el_at h4) (by kernel_rfl) (by kernel_rfl) (el_put h6) (by kernel_rfl) (by kernel_rfl)) ?_
  exact o_end (by kernel_rfl) (by kernel_rfl)
  refine w_seq ?_
  refine w_reg ⟨[(6, .one (.own 1) (.sl 6 (List.map e_ref09_Type v5)))], [], H⟩ (by kernel_rfl) ?_
  refine w_ret ?_
  obtain e0 := some1_inv hF
  subst e0
  exact fin_pure (v := .one (.own 1) (.sl 6 (List.map e_ref09_Type v5))) (by kernel_rfl) (by kernel_rfl) rfl (by kernel_rfl)
noncomputable def ref09_Close  (p0 : (List T_ref09_Type)) (p1 : Int) : Option ((List T_ref09_Type) × Int) :=
  bind1 (ref09_Get p0 p1) fun r1 =>
  if ((r1.Kind_ != 6) || (!r1.Open_)) = true then (some (p0, 111))
  else (bind1 (ref09_put p0 p1 (T_ref09_Type.mk r1.Kind_ r1.Len_ r1.Base_ r1.Size_ false r1.Fields_)) fun r5 =>
  some (r5, 0))
theorem ok_ref09_Close (H : Heap) {p0 : (List T_ref09_Type)} {p1 : Int} {ra : (List T_ref09_Type)} {rb : Int} (hF : ref09_Close p0 p1 = some (ra, rb)) : evS X 99 [.one (.own 0) (.sl 6 (List.map e_ref09_Type p0)), .one .top (.int .i64 p1)] H = some (.tup [.one (.own 0) (.sl 6 (List.map e_ref09_Type ra)), .one .top (.int .i64 rb)], H) := by
  refine w_fun Try.func99 rfl (by kernel_rfl) true (by kernel_rfl) (s0 := (⟨[(0, .one (.own 0) (.sl 6 (List.map e_ref09_Type p0))), (1, .one .top (.int .i64 p1))], [], H⟩ : St)) (by kernel_rfl) ?_
  unfold ref09_Close at hF
  refine w_seq ?_
  refine w_reg ⟨[(0, .one (.own 0) (.sl 6 (List.map e_ref09_Type p0))), (1, .one .top (.int .i64 p1))], [], H⟩ (by kernel_rfl) ?_
  refine w_seq ?_
  obtain ⟨r1, c2, hF⟩ := bind1_inv hF
  refine w_regO ⟨[(0, .one (.own 0) (.sl 6 (List.map e_ref09_Type p0))), (1, .one .top (.int .i64 p1)), (6, .one .top (.loc 6 0))], [(6, [(.top, .int .i64 r1.Kind_), (.top, .int .i64 r1.Len_), (.top, .int .i64 r1.Base_), (.top, .int .i64 r1.Size_), (.top, .bool r1.Open_), ((.own 0), .sl 3 (List.map e_ref09_Field r1.Fields_))])], H⟩ ?_ ?_
  refine o_run 2 ⟨[(0, .one (.own 0) (.sl 6 (List.map e_ref09_Type p0))), (1, .one .top (.int .i64 p1)), (7, .one (.own 0) (.sl 6 (List.map e_ref09_Type p0))), (8, .one .top (.int .i64 p1))], [], H⟩ (by kernel_rfl) (by kernel_rfl) ?_
  refine o_one ⟨[(0, .one (.own 0) (.sl 6 (List.map e_ref09_Type p0))), (1, .one .top (.int .i64 p1)), (7, .one (.own 0) (.sl 6 (List.map e_ref09_Type p0))), (8, .one .top (.int .i64 p1)), (9, .agg [(.top, .int .i64 r1.Kind_), (.top, .int .i64 r1.Len_), (.top, .int .i64 r1.Base_), (.top, .int .i64 r1.Size_), (.top, .bool r1.Open_), ((.own 0), .sl 3 (List.map e_ref09_Field r1.Fields_))])], [], H⟩ (st_call (d := (some 9)) (fz := false) (pure := true) (own := false) (⟨[(0, .one (.own 0) (.sl 6 (List.map e_ref09_Type p0))), (1, .one .top (.int .i64 p1)), (7, .one (.own 0) (.sl 6 (List.map e_ref09_Type p0))), (8, .one .top (.int .i64 p1))], [], H⟩ : St) (ok_ref09_Get H c2) (by kernel_rfl) (by kernel_rfl)) ?_
  refine o_run 2 ⟨[(0, .one (.own 0) (.sl 6 (List.map e_ref09_Type p0))), (1, .one .top (.int .i64 p1)), (6, .one .top (.loc 6 0)), (7, .one (.own 0) (.sl 6 (List.map e_ref09_Type p0))), (8, .one .top (.int .i64 p1)), (9, .agg [(.top, .int .i64 r1.Kind_), (.top, .int .i64 r1.Len_), (.top, .int .i64 r1.Base_), (.top, .int .i64 r1.Size_), (.top, .bool r1.Open_), ((.own 0), .sl 3 (List.map e_ref09_Field r1.Fields_))])], [(6, [(.top, .int .i64 r1.Kind_), (.top, .int .i64 r1.Len_), (.top, .int .i64 r1.Base_), (.top, .int .i64 r1.Size_), (.top, .bool r1.Open_), ((.own 0), .sl 3 (List.map e_ref09_Field r1.Fields_))])], H⟩ (by kernel_rfl) (by kernel_rfl) ?_
  exact o_end (by kernel_rfl) (by kernel_rfl)
  refine w_seq ?_
  refine w_seq ?_
  refine w_regO ⟨[(0, .one (.own 0) (.sl 6 (List.map e_ref09_Type p0))), (1, .one .top (.int .i64 p1)), (6, .one .top (.loc 6 0)), (17, .one .top (.bool ((r1.Kind_ != 6) || (!r1.Open_))))], [(6, [(.top, .int .i64 r1.Kind_), (.top, .int .i64 r1.Len_), (.top, .int .i64 r1.Base_), (.top, .int .i64 r1.Size_), (.top, .bool r1.Open_), ((.own 0), .sl 3 (List.map e_ref09_Field r1.Fields_))])], H⟩ ?_ ?_
  refine o_run 4 ⟨[(0, .one (.own 0) (.sl 6 (List.map e_ref09_Type p0))), (1, .one .top (.int .i64 p1)), (6, .one .top (.loc 6 0)), (10, .one .top (.loc 6 0)), (11, .one .top (.int .i64 r1.Kind_)), (12, .one .top (.bool (r1.Kind_ != 6))), (13, .one .top (.bool (r1.Kind_ != 6)))], [(6, [(.top, .int .i64 r1.Kind_), (.top, .int .i64 r1.Len_), (.top, .int .i64 r1.Base_), (.top, .int .i64 r1.Size_), (.top, .bool r1.Open_), ((.own 0), .sl 3 (List.map e_ref09_Field r1.Fields_))])], H⟩ (by kernel_rfl) (by kernel_rfl) ?_
  rcases bool_cases (r1.Kind_ != 6) with h3 | h3
  refine o_eq (congrArg (fun q => (⟨[(0, .one (.own 0) (.sl 6 (List.map e_ref09_Type p0))), (1, .one .top (.int .i64 p1)), (6, .one .top (.loc 6 0)), (10, .one .top (.loc 6 0)), (11, .one .top (.int .i64 r1.Kind_)), (12, .one .top (.bool q)), (13, .one .top (.bool q))], [(6, [(.top, .int .i64 r1.Kind_), (.top, .int .i64 r1.Len_), (.top, .int .i64 r1.Base_), (.top, .int .i64 r1.Size_), (.top, .bool r1.Open_), ((.own 0), .sl 3 (List.map e_ref09_Field r1.Fields_))])], H⟩ : St)) h3) ?_
  refine o_run 4 ⟨[(0, .one (.own 0) (.sl 6 (List.map e_ref09_Type p0))), (1, .one .top (.int .i64 p1)), (6, .one .top (.loc 6 0)), (10, .one .top (.loc 6 0)), (11, .one .top (.int .i64 r1.Kind_)), (12, .one .top (.bool true)), (13, .one .top (.bool true)), (14, .tup []), (15, .tup []), (16, .tup []), (17, .one .top (.bool true))], [(6, [(.top, .int .i64 r1.Kind_), (.top, .int .i64 r1.Len_), (.top, .int .i64 r1.Base_), (.top, .int .i64 r1.Size_), (.top, .bool r1.Open_), ((.own 0), .sl 3 (List.map e_ref09_Field r1.Fields_))])], H⟩ (by kernel_rfl) (by kernel_rfl) ?_
  refine o_eq2 (congrArg (fun q0 => (⟨[(0, .one (.own 0) (.sl 6 (List.map e_ref09_Type p0))), (1, .one .top (.int .i64 p1)), (6, .one .top (.loc 6 0)), (17, .one .top (.bool q0))], [(6, [(.top, .int .i64 r1.Kind_), (.top, .int .i64 r1.Len_), (.top, .int .i64 r1.Base_), (.top, .int .i64 r1.Size_), (.top, .bool r1.Open_), ((.own 0), .sl 3 (List.map e_ref09_Field r1.Fields_))])], H⟩ : St)) (show true = ((r1.Kind_ != 6) || (!r1.Open_)) by simp [h3])) ?_
  exact o_end (by kernel_rfl) (by kernel_rfl)
  refine o_eq (congrArg (fun q => (⟨[(0, .one (.own 0) (.sl 6 (List.map e_ref09_Type p0))), (1, .one .top (.int .i64 p1)), (6, .one .top (.loc 6 0)), (10, .one .top (.loc 6 0)), (11, .one .top (.int .i64 r1.Kind_)), (12, .one .top (.bool q)), (13, .one .top (.bool q))], [(6, [(.top, .int .i64 r1.Kind_), (.top, .int .i64 r1.Len_), (.top, .int .i64 r1.Base_), (.top, .int .i64 r1.Size_), (.top, .bool r1.Open_), ((.own 0), .sl 3 (List.map e_ref09_Field r1.Fields_))])], H⟩ : St)) h3) ?_
  refine o_run 4 ⟨[(0, .one (.own 0) (.sl 6 (List.map e_ref09_Type p0))), (1, .one .top (.int .i64 p1)), (6, .one .top (.loc 6 0)), (10, .one .top (.loc 6 0)), (11, .one .top (.int .i64 r1.Kind_)), (12, .one .top (.bool false)), (13, .one .top (.bool false)), (14, .one .top (.loc 6 4)), (15, .one .top (.bool r1.Open_)), (16, .one .top (.bool (!r1.Open_))), (17, .one .top (.bool (!r1.Open_)))], [(6, [(.top, .int .i64 r1.Kind_), (.top, .int .i64 r1.Len_), (.top, .int .i64 r1.Base_), (.top, .int .i64 r1.Size_), (.top, .bool r1.Open_), ((.own 0), .sl 3 (List.map e_ref09_Field r1.Fields_))])], H⟩ (by kernel_rfl) (by kernel_rfl) ?_
  refine o_eq2 (congrArg (fun q0 => (⟨[(0, .one (.own 0) (.sl 6 (List.map e_ref09_Type p0))), (1, .one .top (.int .i64 p1)), (6, .one .top (.loc 6 0)), (17, .one .top (.bool q0))], [(6, [(.top, .int .i64 r1.Kind_), (.top, .int .i64 r1.Len_), (.top, .int .i64 r1.Base_), (.top, .int .i64 r1.Size_), (.top, .bool r1.Open_), ((.own 0), .sl 3 (List.map e_ref09_Field r1.Fields_))])], H⟩ : St)) (show (!r1.Open_) = ((r1.Kind_ != 6) || (!r1.Open_)) by simp [h3])) ?_
  exact o_end (by kernel_rfl) (by kernel_rfl)
  rcases if_inv hF with ⟨h4, hF⟩ | ⟨h4, hF⟩
  refine w_cT (m := .top) h4 (s1 := (⟨[(0, .one (.own 0) (.sl 6 (List.map e_ref09_Type p0)))], [], H⟩ : St)) (by kernel_rfl) (by kernel_rfl) ?_
  refine w_seq ?_
  refine w_reg ⟨[(4, .one (.own 0) (.sl 6 (List.map e_ref09_Type p0))), (5, .one .top (.int .i64 111))], [], H⟩ (by kernel_rfl) ?_
  refine w_ret ?_
  obtain ⟨e0, e1⟩ := some2_inv hF
  subst e0
  subst e1
  exact fin_pure (v := .tup [.one (.own 0) (.sl 6 (List.map e_ref09_Type p0)), .one .top (.int .i64 111)]) (by kernel_rfl) (by kernel_rfl) rfl (by kernel_rfl)
  refine w_cF (m := .top) h4 (s1 := (⟨[(0, .one (.own 0) (.sl 6 (List.map e_ref09_Type p0))), (1, .one .top (.int .i64 p1)), (6, .one .top (.loc 6 0))], [(6, [(.top, .int .i64 r1.Kind_), (.top, .int .i64 r1.Len_), (.top, .int .i64 r1.Base_), (.top, .int .i64 r1.Size_), (.top, .bool r1.Open_), ((.own 0), .sl 3 (List.map e_ref09_Field r1.Fields_))])], H⟩ : St)) (by kernel_rfl) (by kernel_rfl) ?_
  refine w_skip ?_
  refine w_seq ?_
  refine w_reg ⟨[(0, .one (.own 0) (.sl 6 (List.map e_ref09_Type p0))), (1, .one .top (.int .i64 p1)), (6, .one .top (.loc 6 0))], [(6, [(.top, .int .i64 r1.Kind_), (.top, .int .i64 r1.Len_), (.top, .int .i64 r1.Base_), (.top, .int .i64 r1.Size_), (.top, .bool false), ((.own 0), .sl 3 (List.map e_ref09_Field r1.Fields_))])], H⟩ (by kernel_rfl) ?_
  refine w_seq ?_
  obtain ⟨r5, c6, hF⟩ := bind1_inv hF
  refine w_regO ⟨[(4, .one (.own 0) (.sl 6 (List.map e_ref09_Type r5))), (5, .one .top (.int .i64 0))], [], H⟩ ?_ ?_
  refine o_run 3 ⟨[(0, .one (.own 0) (.sl 6 (List.map e_ref09_Type p0))), (1, .one .top (.int .i64 p1)), (6, .one .top (.loc 6 0)), (20, .one (.own 0) (.sl 6 (List.map e_ref09_Type p0))), (21, .one .top (.int .i64 p1)), (22, .agg [(.top, .int .i64 r1.Kind_), (.top, .int .i64 r1.Len_), (.top, .int .i64 r1.Base_), (.top, .int .i64 r1.Size_), (.top, .bool false), ((.own 0), .sl 3 (List.map e_ref09_Field r1.Fields_))])], [(6, [(.top, .int .i64 r1.Kind_), (.top, .int .i64 r1.Len_), (.top, .int .i64 r1.Base_), (.top, .int .i64 r1.Size_), (.top, .bool false), ((.own 0), .sl 3 (List.map e_ref09_Field r1.Fields_))])], H⟩ (by kernel_rfl) (by kernel_rfl) ?_
  refine o_one ⟨[(0, .one (.own 0) (.sl 6 (List.map e_ref09_Type p0))), (1, .one .top (.int .i64 p1)), (6, .one .top (.loc 6 0)), (20, .one (.own 0) (.sl 6 (List.map e_ref09_Type p0))), (21, .one .top (.int .i64 p1)), (22, .agg [(.top, .int .i64 r1.Kind_), (.top, .int .i64 r1.Len_), (.top, .int .i64 r1.Base_), (.top, .int .i64 r1.Size_), (.top, .bool false), ((.own 0), .sl 3 (List.map e_ref09_Field r1.Fields_))]), (23, .one (.own 0) (.sl 6 (List.map e_ref09_Type r5)))], [(6, [(.top, .int .i64 r1.Kind_), (.top, .int .i64 r1.Len_), (.top, .int .i64 r1.Base_), (.top, .int .i64 r1.Size_), (.top, .bool false), ((.own 0), .sl 3 (List.map e_ref09_Field r1.Fields_))])], H⟩ (st_call (d := (some 23)) (fz := false) (pure := true) (own := false) (⟨[(0, .one (.own 0) (.sl 6 (List.map e_ref09_Type p0))), (1, .one .top (.int .i64 p1)), (6, .one .top (.loc 6 0)), (20, .one (.own 0) (.sl 6 (List.map e_ref09_Type p0))), (21, .one .top (.int .i64 p1)), (22, .agg [(.top, .int .i64 r1.Kind_), (.top, .int .i64 r1.Len_), (.top, .int .i64 r1.Base_), (.top, .int .i64 r1.Size_), (.top, .bool false), ((.own 0), .sl 3 (List.map e_ref09_Field r1.Fields_))])], [(6, [(.top, .int .i64 r1.Kind_), (.top, .int .i64 r1.Len_), (.top, .int .i64 r1.Base_), (.top, .int .i64 r1.Size_), (.top, .bool false), ((.own 0), .sl 3 (List.map e_ref09_Field r1.Fields_))])], H⟩ : St) (ok_ref09_put_2 H c6) (by kernel_rfl) (by kernel_rfl)) ?_
  refine o_run 2 ⟨[(0, .one (.own 0) (.sl 6 (List.map e_ref09_Type p0))), (1, .one .top (.int .i64 p1)), (4, .one (.own 0) (.sl 6 (List.map e_ref09_Type r5))), (5, .one .top (.int .i64 0)), (6, .one .top (.loc 6 0)), (20, .one (.own 0) (.sl 6 (List.map e_ref09_Type p0))), (21, .one .top (.int .i64 p1)), (22, .agg [(.top, .int .i64 r1.Kind_), (.top, .int .i64 r1.Len_), (.top, .int .i64 r1.Base_), (.top, .int .i64 r1.Size_), (.top, .bool false), ((.own 0), .sl 3 (List.map e_ref09_Field r1.Fields_))]), (23, .one (.own 0) (.sl 6 (List.map e_ref09_Type r5)))], [(6, [(.top, .int .i64 r1.Kind_), (.top, .int .i64 r1.Len_), (.top, .int .i64 r1.Base_), (.top, .int .i64 r1.Size_), (.top, .bool false), ((.own 0), .sl 3 (List.map e_ref09_Field r1.Fields_))])], H⟩ (by kernel_rfl) (by kernel_rfl) ?_
  exact o_end (by kernel_rfl) (by kernel_rfl)
  refine w_ret ?_
  obtain ⟨e0, e1⟩ := some2_inv hF
  subst e0
  subst e1
  exact fin_pure (v := .tup [.one (.own 0) (.sl 6 (List.map e_ref09_Type r5)), .one .top (.int .i64 0)]) (by kernel_rfl) (by kernel_rfl) rfl (by kernel_rfl)
noncomputable def types_Table_kind (H : Heap) (p0 : Ptr) (p1 : Int) : Option (Int) :=
  bind1 (types_Table_Get H p0 p1) fun r1 =>
  some r1.Kind_
theorem ok_types_Table_kind (H : Heap) {p0 : Ptr} {p1 : Int} {ra : Int} (hF : types_Table_kind H p0 p1 = some ra) : evS X 72 [.one .top (Ptr.av p0), .one .top (.int .i64 p1)] H = some (.one .top (.int .i64 ra), H) := by
  refine w_fun Try.func72 rfl (by kernel_rfl) true (by kernel_rfl) (s0 := (⟨[(0, .one .top (Ptr.av p0)), (1, .one .top (.int .i64 p1))], [], H⟩ : St)) (by kernel_rfl) ?_
  unfold types_Table_kind at hF
  refine w_seq ?_
  refine w_reg ⟨[(0, .one .top (Ptr.av p0)), (1, .one .top (.int .i64 p1))], [], H⟩ (by generalize p0 = qp0; cases qp0 <;> kernel_rfl) ?_
  refine w_seq ?_
  obtain ⟨r1, c2, hF⟩ := bind1_inv hF
  refine w_regO ⟨[(4, .one .top (.int .i64 r1.Kind_))], [], H⟩ ?_ ?_
  refine o_run 2 ⟨[(0, .one .top (Ptr.av p0)), (1, .one .top (.int .i64 p1)), (5, .one .top (Ptr.av p0)), (6, .one .top (.int .i64 p1))], [], H⟩ (by kernel_rfl) (by generalize p0 = qp0; cases qp0 <;> kernel_rfl) ?_
  refine o_one ⟨[(0, .one .top (Ptr.av p0)), (1, .one .top (.int .i64 p1)), (5, .one .top (Ptr.av p0)), (6, .one .top (.int .i64 p1)), (7, .agg [(.top, .int .i64 r1.Kind_), (.top, .int .i64 r1.Len_), (.top, .int .i64 r1.Base_), (.top, .int .i64 r1.Size_), (.top, .bool r1.Open_), ((.own 1), .sl 3 (List.map e_types_Field r1.Fields_))])], [], H⟩ (st_call (d := (some 7)) (fz := false) (pure := true) (own := false) (⟨[(0, .one .top (Ptr.av p0)), (1, .one .top (.int .i64 p1)), (5, .one .top (Ptr.av p0)), (6, .one .top (.int .i64 p1))], [], H⟩ : St) (ok_types_Table_Get H c2) (by generalize p0 = qp0; cases qp0 <;> kernel_rfl) (by generalize p0 = qp0; cases qp0 <;> kernel_rfl)) ?_
  refine o_run 2 ⟨[(0, .one .top (Ptr.av p0)), (1, .one .top (.int .i64 p1)), (4, .one .top (.int .i64 r1.Kind_)), (5, .one .top (Ptr.av p0)), (6, .one .top (.int .i64 p1)), (7, .agg [(.top, .int .i64 r1.Kind_), (.top, .int .i64 r1.Len_), (.top, .int .i64 r1.Base_), (.top, .int .i64 r1.Size_), (.top, .bool r1.Open_), ((.own 1), .sl 3 (List.map e_types_Field r1.Fields_))]), (8, .one .top (.int .i64 r1.Kind_))], [], H⟩ (by kernel_rfl) (by generalize p0 = qp0; cases qp0 <;> kernel_rfl) ?_
  exact o_end (by kernel_rfl) (by kernel_rfl)
  refine w_ret ?_
  obtain e0 := some1_inv hF
  subst e0
  exact fin_pure (v := .one .top (.int .i64 r1.Kind_)) (by kernel_rfl) (by kernel_rfl) rfl (by kernel_rfl)
noncomputable def types_Table_Pointer_L1 (x7 : T_types_Table) (p1 : Int) (a9 : Int) : Option ((Int) ⊕ (Unit ⊕ (Int))) :=
  if (decide (a9 < (x7.list_.length : Int))) = true then (bind1 (gi x7.list_ a9) fun x11 =>
  if ((x11.Kind_ == 7) && (x11.Base_ == p1)) = true then (some (Sum.inr (Sum.inr a9)))
  else (some (Sum.inl (IntKind.wrap .i64 (a9 + 1)))))
  else (some (Sum.inr (Sum.inl ())))
noncomputable def types_Table_Pointer (H : Heap) (p0 : Ptr) (p1 : Int) : Option (Heap × Int × Int) :=
  bind1 (types_Table_kind H p0 p1) fun r1 =>
  if (r1 != 6) = true then (some (H, 0, 91))
  else ((p0).bnd fun i4 o5 =>
  bind1 (get_types_Table H i4 o5) fun x7 =>
  bind1 (loopO (fun (x : (Int)) => types_Table_Pointer_L1 x7 p1 x) 0) (sum2 (fun (_ : Unit) =>
  bind3 (types_Table_add H (Ptr.at i4 o5) (T_types_Type.mk 7 0 p1 4 false ([] : List T_types_Field))) fun H20 r17 r18 =>
  some (H20, r17, r18)) (fun b21 =>
  some (H, b21, 0))))
theorem ok_types_Table_Pointer (H : Heap) {p0 : Ptr} {p1 : Int} {ra : Int} {rb : Int} {Hr : Heap} (hF : types_Table_Pointer H p0 p1 = some (Hr, ra, rb)) : evS X 100 [.one .top (Ptr.av p0), .one .top (.int .i64 p1)] H = some (.tup [.one .top (.int .i64 ra), .one .top (.int .i64 rb)], Hr) := by
  refine w_fun Try.func100 rfl (by kernel_rfl) false (by kernel_rfl) (s0 := (⟨[(0, .one .top (Ptr.av p0)), (1, .one .top (.int .i64 p1))], [], H⟩ : St)) (by kernel_rfl) ?_
  unfold types_Table_Pointer at hF
  refine w_seq ?_
  refine w_reg ⟨[(0, .one .top (Ptr.av p0)), (1, .one .top (.int .i64 p1))], [], H⟩ (by generalize p0 = qp0; cases qp0 <;> kernel_rfl) ?_
  refine w_seq ?_
  refine w_seq ?_
  obtain ⟨r1, c2, hF⟩ := bind1_inv hF
  refine w_regO ⟨[(0, .one .top (Ptr.av p0)), (1, .one .top (.int .i64 p1)), (11, .one .top (.bool (r1 != 6)))], [], H⟩ ?_ ?_
  refine o_run 2 ⟨[(0, .one .top (Ptr.av p0)), (1, .one .top (.int .i64 p1)), (8, .one .top (Ptr.av p0)), (9, .one .top (.int .i64 p1))], [], H⟩ (by kernel_rfl) (by generalize p0 = qp0; cases qp0 <;> kernel_rfl) ?_
  refine o_one ⟨[(0, .one .top (Ptr.av p0)), (1, .one .top (.int .i64 p1)), (8, .one .top (Ptr.av p0)), (9, .one .top (.int .i64 p1)), (10, .one .top (.int .i64 r1))], [], H⟩ (st_call (d := (some 10)) (fz := false) (pure := true) (own := false) (⟨[(0, .one .top (Ptr.av p0)), (1, .one .top (.int .i64 p1)), (8, .one .top (Ptr.av p0)), (9, .one .top (.int .i64 p1))], [], H⟩ : St) (ok_types_Table_kind H c2) (by generalize p0 = qp0; cases qp0 <;> kernel_rfl) (by generalize p0 = qp0; cases qp0 <;> kernel_rfl)) ?_
  refine o_run 1 ⟨[(0, .one .top (Ptr.av p0)), (1, .one .top (.int .i64 p1)), (8, .one .top (Ptr.av p0)), (9, .one .top (.int .i64 p1)), (10, .one .top (.int .i64 r1)), (11, .one .top (.bool (r1 != 6)))], [], H⟩ (by kernel_rfl) (by generalize p0 = qp0; cases qp0 <;> kernel_rfl) ?_
  exact o_end (by kernel_rfl) (by kernel_rfl)
  rcases if_inv hF with ⟨h3, hF⟩ | ⟨h3, hF⟩
  refine w_cT (m := .top) h3 (s1 := (⟨[], [], H⟩ : St)) (by kernel_rfl) (by kernel_rfl) ?_
  refine w_seq ?_
  refine w_reg ⟨[(4, .one .top (.int .i64 0)), (5, .one .top (.int .i64 91))], [], H⟩ (by kernel_rfl) ?_
  refine w_ret ?_
  obtain ⟨e0, e1, e2⟩ := some3_inv hF
  subst e0
  subst e1
  subst e2
  exact fin_imp (v := .tup [.one .top (.int .i64 0), .one .top (.int .i64 91)]) (by kernel_rfl) (by kernel_rfl) (by kernel_rfl)
  refine w_cF (m := .top) h3 (s1 := (⟨[(0, .one .top (Ptr.av p0)), (1, .one .top (.int .i64 p1))], [], H⟩ : St)) (by kernel_rfl) (by kernel_rfl) ?_
  refine w_skip ?_
  refine w_seq ?_
  refine w_seq ?_
  obtain ⟨i4, o5, h6, hF⟩ := pbnd_inv hF
  obtain ⟨x7, V8, hF⟩ := bind1_inv hF
  replace V8 := hgetT_inv V8
  refine w_regO ⟨[(0, .one .top (.obj i4 o5)), (1, .one .top (.int .i64 p1)), (15, .one .bh (.sl 6 (List.map e_types_Type x7.list_))), (16, .one .top (.int .i64 (x7.list_.length : Int))), (17, .one .top (.int .i64 0))], [], H⟩ ?_ ?_
  refine o_run 1 ⟨[(0, .one .top (Ptr.av p0)), (1, .one .top (.int .i64 p1)), (12, .one .top (Ptr.av p0))], [], H⟩ (by kernel_rfl) (by generalize p0 = qp0; cases qp0 <;> kernel_rfl) ?_
  refine o_eq (congrArg (fun q => (⟨[(0, .one .top (Ptr.av q)), (1, .one .top (.int .i64 p1)), (12, .one .top (Ptr.av q))], [], H⟩ : St)) h6) ?_
  refine o_run 1 ⟨[(0, .one .top (.obj i4 o5)), (1, .one .top (.int .i64 p1)), (12, .one .top (.obj i4 o5)), (13, .one .top (.obj i4 o5))], [], H⟩ (by kernel_rfl) (by kernel_rfl) ?_
  refine o_run 1 ⟨[(0, .one .top (.obj i4 o5)), (1, .one .top (.int .i64 p1)), (12, .one .top (.obj i4 o5)), (13, .one .top (.obj i4 o5)), (14, .one .top (.obj i4 o5))], [], H⟩ (by kernel_rfl) (by kernel_rfl) ?_
  refine o_one ⟨[(0, .one .top (.obj i4 o5)), (1, .one .top (.int .i64 p1)), (12, .one .top (.obj i4 o5)), (13, .one .top (.obj i4 o5)), (14, .one .top (.obj i4 o5)), (15, .one .bh (.sl 6 (List.map e_types_Type x7.list_)))], [], H⟩ (st_ld (X := X) (⟨[(0, .one .top (.obj i4 o5)), (1, .one .top (.int .i64 p1)), (12, .one .top (.obj i4 o5)), (13, .one .top (.obj i4 o5)), (14, .one .top (.obj i4 o5))], [], H⟩ : St) 135 V8 0 1 false (.one .bh (.sl 6 (List.map e_types_Type x7.list_))) (some 15) (by kernel_rfl) (by kernel_rfl) (by kernel_rfl) (by kernel_rfl) (by kernel_rfl) (by kernel_rfl)) ?_
  refine o_one ⟨[(0, .one .top (.obj i4 o5)), (1, .one .top (.int .i64 p1)), (12, .one .top (.obj i4 o5)), (13, .one .top (.obj i4 o5)), (14, .one .top (.obj i4 o5)), (15, .one .bh (.sl 6 (List.map e_types_Type x7.list_))), (16, .one .top (.int .i64 (x7.list_.length : Int)))], [], H⟩ (st_len (⟨[(0, .one .top (.obj i4 o5)), (1, .one .top (.int .i64 p1)), (12, .one .top (.obj i4 o5)), (13, .one .top (.obj i4 o5)), (14, .one .top (.obj i4 o5)), (15, .one .bh (.sl 6 (List.map e_types_Type x7.list_)))], [], H⟩ : St) x7.list_ e_types_Type (some 16) (by kernel_rfl) (by kernel_rfl)) ?_
  refine o_run 1 ⟨[(0, .one .top (.obj i4 o5)), (1, .one .top (.int .i64 p1)), (12, .one .top (.obj i4 o5)), (13, .one .top (.obj i4 o5)), (14, .one .top (.obj i4 o5)), (15, .one .bh (.sl 6 (List.map e_types_Type x7.list_))), (16, .one .top (.int .i64 (x7.list_.length : Int))), (17, .one .top (.int .i64 0))], [], H⟩ (by kernel_rfl) (by kernel_rfl) ?_
  exact o_end (by kernel_rfl) (by kernel_rfl)
  refine w_block ?_
  obtain ⟨r15, hL16, hF⟩ := bind1_inv hF
  refine w_loop (fun (x : (Int)) => (⟨[(0, .one .top (.obj i4 o5)), (1, .one .top (.int .i64 p1)), (15, .one .bh (.sl 6 (List.map e_types_Type x7.list_))), (16, .one .top (.int .i64 (x7.list_.length : Int))), (17, .one .top (.int .i64 x))], [], H⟩ : St)) (Sum.elim (fun (y : Unit) => ((.exit 0, (⟨[(0, .one .top (.obj i4 o5)), (1, .one .top (.int .i64 p1))], [], H⟩ : St)) : Ex × St)) (fun (y : (Int)) => ((.ret, (⟨[(4, .one .top (.int .i64 y)), (5, .one .top (.int .i64 0))], [], H⟩ : St)) : Ex × St))) hL16 (by kernel_rfl) ?_ ?_
  rintro a9 o hF
  replace hF : types_Table_Pointer_L1 x7 p1 a9 = some o := hF
  unfold types_Table_Pointer_L1 at hF
  refine w_seq ?_
  refine w_reg ⟨[(0, .one .top (.obj i4 o5)), (1, .one .top (.int .i64 p1)), (15, .one .bh (.sl 6 (List.map e_types_Type x7.list_))), (16, .one .top (.int .i64 (x7.list_.length : Int))), (17, .one .top (.int .i64 a9)), (18, .one .top (.bool (decide (a9 < (x7.list_.length : Int)))))], [], H⟩ (by kernel_rfl) ?_
  refine w_seq ?_
  rcases if_inv hF with ⟨h10, hF⟩ | ⟨h10, hF⟩
  refine w_cT (m := .top) h10 (s1 := (⟨[(0, .one .top (.obj i4 o5)), (1, .one .top (.int .i64 p1)), (15, .one .bh (.sl 6 (List.map e_types_Type x7.list_))), (16, .one .top (.int .i64 (x7.list_.length : Int))), (17, .one .top (.int .i64 a9))], [], H⟩ : St)) (by kernel_rfl) (by kernel_rfl) ?_
  refine w_skip ?_
  refine w_seq ?_
  refine w_block ?_
  refine w_seq ?_
  obtain ⟨x11, h12, hF⟩ := bind1_inv hF
  refine w_regO ⟨[(0, .one .top (.obj i4 o5)), (1, .one .top (.int .i64 p1)), (6, .one .top (.int .i64 a9)), (7, .one .top (.loc 7 0)), (15, .one .bh (.sl 6 (List.map e_types_Type x7.list_))), (16, .one .top (.int .i64 (x7.list_.length : Int))), (17, .one .top (.int .i64 a9))], [(7, [(.top, .int .i64 x11.Kind_), (.top, .int .i64 x11.Len_), (.top, .int .i64 x11.Base_), (.top, .int .i64 x11.Size_), (.top, .bool x11.Open_), (.bh, .sl 3 (List.map e_types_Field x11.Fields_))])], H⟩ ?_ ?_
  refine o_run 1 ⟨[(0, .one .top (.obj i4 o5)), (1, .one .top (.int .i64 p1)), (15, .one .bh (.sl 6 (List.map e_types_Type x7.list_))), (16, .one .top (.int .i64 (x7.list_.length : Int))), (17, .one .top (.int .i64 a9)), (19, .one .top (.int .i64 a9))], [], H⟩ (by kernel_rfl) (by kernel_rfl) ?_
  refine o_one ⟨[(0, .one .top (.obj i4 o5)), (1, .one .top (.int .i64 p1)), (15, .one .bh (.sl 6 (List.map e_types_Type x7.list_))), (16, .one .top (.int .i64 (x7.list_.length : Int))), (17, .one .top (.int .i64 a9)), (19, .one .top (.int .i64 a9)), (20, .one .top (.rd .bh .bh [.int .i64 x11.Kind_, .int .i64 x11.Len_, .int .i64 x11.Base_, .int .i64 x11.Size_, .bool x11.Open_, .sl 3 (List.map e_types_Field x11.Fields_)] 0))], [], H⟩ (st_ix (X := X) (⟨[(0, .one .top (.obj i4 o5)), (1, .one .top (.int .i64 p1)), (15, .one .bh (.sl 6 (List.map e_types_Type x7.list_))), (16, .one .top (.int .i64 (x7.list_.length : Int))), (17, .one .top (.int .i64 a9)), (19, .one .top (.int .i64 a9))], [], H⟩ : St) 135 55 6 h12 e_types_Type .bh (some 20) (by kernel_rfl) (by kernel_rfl) (by kernel_rfl) (by kernel_rfl)) ?_
  refine o_run 4 ⟨[(0, .one .top (.obj i4 o5)), (1, .one .top (.int .i64 p1)), (6, .one .top (.int .i64 a9)), (7, .one .top (.loc 7 0)), (15, .one .bh (.sl 6 (List.map e_types_Type x7.list_))), (16, .one .top (.int .i64 (x7.list_.length : Int))), (17, .one .top (.int .i64 a9)), (19, .one .top (.int .i64 a9)), (20, .one .top (.rd .bh .bh [.int .i64 x11.Kind_, .int .i64 x11.Len_, .int .i64 x11.Base_, .int .i64 x11.Size_, .bool x11.Open_, .sl 3 (List.map e_types_Field x11.Fields_)] 0)), (21, .agg [(.top, .int .i64 x11.Kind_), (.top, .int .i64 x11.Len_), (.top, .int .i64 x11.Base_), (.top, .int .i64 x11.Size_), (.top, .bool x11.Open_), (.bh, .sl 3 (List.map e_types_Field x11.Fields_))])], [(7, [(.top, .int .i64 x11.Kind_), (.top, .int .i64 x11.Len_), (.top, .int .i64 x11.Base_), (.top, .int .i64 x11.Size_), (.top, .bool x11.Open_), (.bh, .sl 3 (List.map e_types_Field x11.Fields_))])], H⟩ (by kernel_rfl) (by kernel_rfl) ?_
  exact o_end (by kernel_rfl) (by kernel_rfl)
  refine w_seq ?_
  refine w_regO ⟨[(0, .one .top (.obj i4 o5)), (1, .one .top (.int .i64 p1)), (6, .one .top (.int .i64 a9)), (15, .one .bh (.sl 6 (List.map e_types_Type x7.list_))), (16, .one .top (.int .i64 (x7.list_.length : Int))), (17, .one .top (.int .i64 a9)), (30, .one .top (.bool ((x11.Kind_ == 7) && (x11.Base_ == p1))))], [], H⟩ ?_ ?_
  refine o_run 4 ⟨[(0, .one .top (.obj i4 o5)), (1, .one .top (.int .i64 p1)), (6, .one .top (.int .i64 a9)), (7, .one .top (.loc 7 0)), (15, .one .bh (.sl 6 (List.map e_types_Type x7.list_))), (16, .one .top (.int .i64 (x7.list_.length : Int))), (17, .one .top (.int .i64 a9)), (22, .one .top (.loc 7 0)), (23, .one .top (.int .i64 x11.Kind_)), (24, .one .top (.bool (x11.Kind_ == 7))), (25, .one .top (.bool (x11.Kind_ == 7)))], [(7, [(.top, .int .i64 x11.Kind_), (.top, .int .i64 x11.Len_), (.top, .int .i64 x11.Base_), (.top, .int .i64 x11.Size_), (.top, .bool x11.Open_), (.bh, .sl 3 (List.map e_types_Field x11.Fields_))])], H⟩ (by kernel_rfl) (by kernel_rfl) ?_
  rcases bool_cases (x11.Kind_ == 7) with h13 | h13
  refine o_eq (congrArg (fun q => (⟨[(0, .one .top (.obj i4 o5)), (1, .one .top (.int .i64 p1)), (6, .one .top (.int .i64 a9)), (7, .one .top (.loc 7 0)), (15, .one .bh (.sl 6 (List.map e_types_Type x7.list_))), (16, .one .top (.int .i64 (x7.list_.length : Int))), (17, .one .top (.int .i64 a9)), (22, .one .top (.loc 7 0)), (23, .one .top (.int .i64 x11.Kind_)), (24, .one .top (.bool q)), (25, .one .top (.bool q))], [(7, [(.top, .int .i64 x11.Kind_), (.top, .int .i64 x11.Len_), (.top, .int .i64 x11.Base_), (.top, .int .i64 x11.Size_), (.top, .bool x11.Open_), (.bh, .sl 3 (List.map e_types_Field x11.Fields_))])], H⟩ : St)) h13) ?_
  refine o_run 5 ⟨[(0, .one .top (.obj i4 o5)), (1, .one .top (.int .i64 p1)), (6, .one .top (.int .i64 a9)), (7, .one .top (.loc 7 0)), (15, .one .bh (.sl 6 (List.map e_types_Type x7.list_))), (16, .one .top (.int .i64 (x7.list_.length : Int))), (17, .one .top (.int .i64 a9)), (22, .one .top (.loc 7 0)), (23, .one .top (.int .i64 x11.Kind_)), (24, .one .top (.bool true)), (25, .one .top (.bool true)), (26, .one .top (.loc 7 2)), (27, .one .top (.int .i64 x11.Base_)), (28, .one .top (.int .i64 p1)), (29, .one .top (.bool (x11.Base_ == p1))), (30, .one .top (.bool (x11.Base_ == p1)))], [(7, [(.top, .int .i64 x11.Kind_), (.top, .int .i64 x11.Len_), (.top, .int .i64 x11.Base_), (.top, .int .i64 x11.Size_), (.top, .bool x11.Open_), (.bh, .sl 3 (List.map e_types_Field x11.Fields_))])], H⟩ (by kernel_rfl) (by kernel_rfl) ?_
  refine o_eq2 (congrArg (fun q0 => (⟨[(0, .one .top (.obj i4 o5)), (1, .one .top (.int .i64 p1)), (6, .one .top (.int .i64 a9)), (15, .one .bh (.sl 6 (List.map e_types_Type x7.list_))), (16, .one .top (.int .i64 (x7.list_.length : Int))), (17, .one .top (.int .i64 a9)), (30, .one .top (.bool q0))], [], H⟩ : St)) (show (x11.Base_ == p1) = ((x11.Kind_ == 7) && (x11.Base_ == p1)) by simp [h13])) ?_
  exact o_end (by kernel_rfl) (by kernel_rfl)
  refine o_eq (congrArg (fun q => (⟨[(0, .one .top (.obj i4 o5)), (1, .one .top (.int .i64 p1)), (6, .one .top (.int .i64 a9)), (7, .one .top (.loc 7 0)), (15, .one .bh (.sl 6 (List.map e_types_Type x7.list_))), (16, .one .top (.int .i64 (x7.list_.length : Int))), (17, .one .top (.int .i64 a9)), (22, .one .top (.loc 7 0)), (23, .one .top (.int .i64 x11.Kind_)), (24, .one .top (.bool q)), (25, .one .top (.bool q))], [(7, [(.top, .int .i64 x11.Kind_), (.top, .int .i64 x11.Len_), (.top, .int .i64 x11.Base_), (.top, .int .i64 x11.Size_), (.top, .bool x11.Open_), (.bh, .sl 3 (List.map e_types_Field x11.Fields_))])], H⟩ : St)) h13) ?_
  refine o_run 5 ⟨[(0, .one .top (.obj i4 o5)), (1, .one .top (.int .i64 p1)), (6, .one .top (.int .i64 a9)), (7, .one .top (.loc 7 0)), (15, .one .bh (.sl 6 (List.map e_types_Type x7.list_))), (16, .one .top (.int .i64 (x7.list_.length : Int))), (17, .one .top (.int .i64 a9)), (22, .one .top (.loc 7 0)), (23, .one .top (.int .i64 x11.Kind_)), (24, .one .top (.bool false)), (25, .one .top (.bool false)), (26, .tup []), (27, .tup []), (28, .tup []), (29, .tup []), (30, .one .top (.bool false))], [(7, [(.top, .int .i64 x11.Kind_), (.top, .int .i64 x11.Len_), (.top, .int .i64 x11.Base_), (.top, .int .i64 x11.Size_), (.top, .bool x11.Open_), (.bh, .sl 3 (List.map e_types_Field x11.Fields_))])], H⟩ (by kernel_rfl) (by kernel_rfl) ?_
  refine o_eq2 (congrArg (fun q0 => (⟨[(0, .one .top (.obj i4 o5)), (1, .one .top (.int .i64 p1)), (6, .one .top (.int .i64 a9)), (15, .one .bh (.sl 6 (List.map e_types_Type x7.list_))), (16, .one .top (.int .i64 (x7.list_.length : Int))), (17, .one .top (.int .i64 a9)), (30, .one .top (.bool q0))], [], H⟩ : St)) (show false = ((x11.Kind_ == 7) && (x11.Base_ == p1)) by simp [h13])) ?_
  exact o_end (by kernel_rfl) (by kernel_rfl)
  rcases if_inv hF with ⟨h14, hF⟩ | ⟨h14, hF⟩
  refine w_cT (m := .top) h14 (s1 := (⟨[(6, .one .top (.int .i64 a9))], [], H⟩ : St)) (by kernel_rfl) (by kernel_rfl) ?_
  refine w_seq ?_
  refine w_reg ⟨[(4, .one .top (.int .i64 a9)), (5, .one .top (.int .i64 0))], [], H⟩ (by kernel_rfl) ?_
  refine w_ret ?_
  cases hF
  exact ⟨_, rfl, (by kernel_rfl)⟩
  refine w_cF (m := .top) h14 (s1 := (⟨[(0, .one .top (.obj i4 o5)), (1, .one .top (.int .i64 p1)), (15, .one .bh (.sl 6 (List.map e_types_Type x7.list_))), (16, .one .top (.int .i64 (x7.list_.length : Int))), (17, .one .top (.int .i64 a9))], [], H⟩ : St)) (by kernel_rfl) (by kernel_rfl) ?_
  refine w_skip ?_
  refine w_reg ⟨[(0, .one .top (.obj i4 o5)), (1, .one .top (.int .i64 p1)), (15, .one .bh (.sl 6 (List.map e_types_Type x7.list_))), (16, .one .top (.int .i64 (x7.list_.length : Int))), (17, .one .top (.int .i64 (IntKind.wrap .i64 (a9 + 1))))], [], H⟩ (by kernel_rfl) ?_
  cases hF
  exact ⟨_, rfl, (by kernel_rfl)⟩
  refine w_cF (m := .top) h10 (s1 := (⟨[(0, .one .top (.obj i4 o5)), (1, .one .top (.int .i64 p1))], [], H⟩ : St)) (by kernel_rfl) (by kernel_rfl) ?_
  refine w_exit ?_
  cases hF
  exact ⟨_, rfl, (by kernel_rfl)⟩
  rcases sum2_inv hF with ⟨r15', rfl, hF⟩ | ⟨r15', rfl, hF⟩
  refine w_oe (i := 0) (s := (⟨[(0, .one .top (.obj i4 o5)), (1, .one .top (.int .i64 p1))], [], H⟩ : St)) (by kernel_rfl) ?_
  refine e_here ?_
  refine w_seq ?_
  obtain ⟨H20, r17, r18, c19, hF⟩ := bind3_inv hF
  refine w_regO ⟨[(4, .one .top (.int .i64 r17)), (5, .one .top (.int .i64 r18))], [], H20⟩ ?_ ?_
  refine o_run 3 ⟨[(0, .one .top (.obj i4 o5)), (1, .one .top (.int .i64 p1)), (33, .one .top (.obj i4 o5)), (34, .one .top (.int .i64 p1)), (35, .agg [(.top, .int .i64 7), (.top, .int .i64 0), (.top, .int .i64 p1), (.top, .int .i64 4), (.top, .bool false), ((.own 1), .sl 3 (List.map e_types_Field ([] : List T_types_Field)))])], [], H⟩ (by kernel_rfl) (by kernel_rfl) ?_
  refine o_one ⟨[(0, .one .top (.obj i4 o5)), (1, .one .top (.int .i64 p1)), (33, .one .top (.obj i4 o5)), (34, .one .top (.int .i64 p1)), (35, .agg [(.top, .int .i64 7), (.top, .int .i64 0), (.top, .int .i64 p1), (.top, .int .i64 4), (.top, .bool false), (.top, .junk)]), (36, .tup [.one .top (.int .i64 r17), .one .top (.int .i64 r18)])], [], H20⟩ (st_call (d := (some 36)) (fz := false) (pure := false) (own := true) (⟨[(0, .one .top (.obj i4 o5)), (1, .one .top (.int .i64 p1)), (33, .one .top (.obj i4 o5)), (34, .one .top (.int .i64 p1)), (35, .agg [(.top, .int .i64 7), (.top, .int .i64 0), (.top, .int .i64 p1), (.top, .int .i64 4), (.top, .bool false), (.top, .junk)])], [], H⟩ : St) (ok_types_Table_add H c19) (by kernel_rfl) (by kernel_rfl)) ?_
  refine o_run 4 ⟨[(0, .one .top (.obj i4 o5)), (1, .one .top (.int .i64 p1)), (4, .one .top (.int .i64 r17)), (5, .one .top (.int .i64 r18)), (33, .one .top (.obj i4 o5)), (34, .one .top (.int .i64 p1)), (35, .agg [(.top, .int .i64 7), (.top, .int .i64 0), (.top, .int .i64 p1), (.top, .int .i64 4), (.top, .bool false), (.top, .junk)]), (36, .tup [.one .top (.int .i64 r17), .one .top (.int .i64 r18)]), (37, .one .top (.int .i64 r17)), (38, .one .top (.int .i64 r18))], [], H20⟩ (by kernel_rfl) (by kernel_rfl) ?_
  exact o_end (by kernel_rfl) (by kernel_rfl)
  refine w_ret ?_
  obtain ⟨e0, e1, e2⟩ := some3_inv hF
  subst e0
  subst e1
  subst e2
  exact fin_imp (v := .tup [.one .top (.int .i64 r17), .one .top (.int .i64 r18)]) (by kernel_rfl) (by kernel_rfl) (by kernel_rfl)
  obtain ⟨b21, hy⟩ : ∃ y, y = r15' := ⟨_, rfl⟩
  subst hy
  refine w_or (s := (⟨[(4, .one .top (.int .i64 b21)), (5, .one .top (.int .i64 0))], [], H⟩ : St)) (by kernel_rfl) ?_
  obtain ⟨e0, e1, e2⟩ := some3_inv hF
  subst e0
  subst e1
  subst e2
  exact fin_imp (v := .tup [.one .top (.int .i64 b21), .one .top (.int .i64 0)]) (by kernel_rfl) (by kernel_rfl) (by kernel_rfl)
noncomputable def ref09_Pointer_L1 (p0 : (List T_ref09_Type)) (p1 : Int) (a4 : Int) : Option ((Int) ⊕ (Unit ⊕ (Int))) :=
  if (decide (a4 < (p0.length : Int))) = true then (bind1 (gi p0 a4) fun x6 =>
  bind1 (if (x6.Kind_ == 7) = true then (bind1 (gi p0 a4) fun x9 =>
  some (x9.Base_ == p1)) else (some false)) fun w11 =>
  if w11 = true then (some (Sum.inr (Sum.inr a4)))
  else (some (Sum.inl (IntKind.wrap .i64 (a4 + 1)))))
  else (some (Sum.inr (Sum.inl ())))
noncomputable def ref09_Pointer  (p0 : (List T_ref09_Type)) (p1 : Int) : Option ((List T_ref09_Type) × Int × Int) :=
  bind1 (ref09_Get p0 p1) fun r1 =>
  if (r1.Kind_ != 6) = true then (some (p0, 0, 91))
  else (bind1 (loopO (fun (x : (Int)) => ref09_Pointer_L1 p0 p1 x) 0) (sum2 (fun (_ : Unit) =>
  bind3 (ref09_add p0 (T_ref09_Type.mk 7 0 p1 4 false ([] : List T_ref09_Field))) fun r16 r17 r18 =>
  some (r16, r17, r18)) (fun b20 =>
  some (p0, b20, 0))))
theorem ok_ref09_Pointer (H : Heap) {p0 : (List T_ref09_Type)} {p1 : Int} {ra : (List T_ref09_Type)} {rb : Int} {rc : Int} (hF : ref09_Pointer p0 p1 = some (ra, rb, rc)) : evS X 101 [.one (.own 0) (.sl 6 (List.map e_ref09_Type p0)), .one .top (.int .i64 p1)] H = some (.tup [.one (.own 0) (.sl 6 (List.map e_ref09_Type ra)), .one .top (.int .i64 rb), .one .top (.int .i64 rc)], H) := by
  refine w_fun Try.func101 rfl (by kernel_rfl) true (by kernel_rfl) (s0 := (⟨[(0, .one (.own 0) (.sl 6 (List.map e_ref09_Type p0))), (1, .one .top (.int .i64 p1))], [], H⟩ : St)) (by kernel_rfl) ?_
  unfold ref09_Pointer at hF
  refine w_seq ?_
  refine w_reg ⟨[(0, .one (.own 0) (.sl 6 (List.map e_ref09_Type p0))), (1, .one .top (.int .i64 p1))], [], H⟩ (by kernel_rfl) ?_
  refine w_seq ?_
  refine w_seq ?_
  obtain ⟨r1, c2, hF⟩ := bind1_inv hF
  refine w_regO ⟨[(0, .one (.own 0) (.sl 6 (List.map e_ref09_Type p0))), (1, .one .top (.int .i64 p1)), (12, .one .top (.bool (r1.Kind_ != 6)))], [], H⟩ ?_ ?_
  refine o_run 2 ⟨[(0, .one (.own 0) (.sl 6 (List.map e_ref09_Type p0))), (1, .one .top (.int .i64 p1)), (8, .one (.own 0) (.sl 6 (List.map e_ref09_Type p0))), (9, .one .top (.int .i64 p1))], [], H⟩ (by kernel_rfl) (by kernel_rfl) ?_
  refine o_one ⟨[(0, .one (.own 0) (.sl 6 (List.map e_ref09_Type p0))), (1, .one .top (.int .i64 p1)), (8, .one (.own 0) (.sl 6 (List.map e_ref09_Type p0))), (9, .one .top (.int .i64 p1)), (10, .agg [(.top, .int .i64 r1.Kind_), (.top, .int .i64 r1.Len_), (.top, .int .i64 r1.Base_), (.top, .int .i64 r1.Size_), (.top, .bool r1.Open_), ((.own 0), .sl 3 (List.map e_ref09_Field r1.Fields_))])], [], H⟩ (st_call (d := (some 10)) (fz := false) (pure := true) (own := false) (⟨[(0, .one (.own 0) (.sl 6 (List.map e_ref09_Type p0))), (1, .one .top (.int .i64 p1)), (8, .one (.own 0) (.sl 6 (List.map e_ref09_Type p0))), (9, .one .top (.int .i64 p1))], [], H⟩ : St) (ok_ref09_Get H c2) (by kernel_rfl) (by kernel_rfl)) ?_
  refine o_run 2 ⟨[(0, .one (.own 0) (.sl 6 (List.map e_ref09_Type p0))), (1, .one .top (.int .i64 p1)), (8, .one (.own 0) (.sl 6 (List.map e_ref09_Type p0))), (9, .one .top (.int .i64 p1)), (10, .agg [(.top, .int .i64 r1.Kind_), (.top, .int .i64 r1.Len_), (.top, .int .i64 r1.Base_), (.top, .int .i64 r1.Size_), (.top, .bool r1.Open_), ((.own 0), .sl 3 (List.map e_ref09_Field r1.Fields_))]), (11, .one .top (.int .i64 r1.Kind_)), (12, .one .top (.bool (r1.Kind_ != 6)))], [], H⟩ (by kernel_rfl) (by kernel_rfl) ?_
  exact o_end (by kernel_rfl) (by kernel_rfl)
  rcases if_inv hF with ⟨h3, hF⟩ | ⟨h3, hF⟩
  refine w_cT (m := .top) h3 (s1 := (⟨[(0, .one (.own 0) (.sl 6 (List.map e_ref09_Type p0)))], [], H⟩ : St)) (by kernel_rfl) (by kernel_rfl) ?_
  refine w_seq ?_
  refine w_reg ⟨[(4, .one (.own 0) (.sl 6 (List.map e_ref09_Type p0))), (5, .one .top (.int .i64 0)), (6, .one .top (.int .i64 91))], [], H⟩ (by kernel_rfl) ?_
  refine w_ret ?_
  obtain ⟨e0, e1, e2⟩ := some3_inv hF
  subst e0
  subst e1
  subst e2
  exact fin_pure (v := .tup [.one (.own 0) (.sl 6 (List.map e_ref09_Type p0)), .one .top (.int .i64 0), .one .top (.int .i64 91)]) (by kernel_rfl) (by kernel_rfl) rfl (by kernel_rfl)
  refine w_cF (m := .top) h3 (s1 := (⟨[(0, .one (.own 0) (.sl 6 (List.map e_ref09_Type p0))), (1, .one .top (.int .i64 p1))], [], H⟩ : St)) (by kernel_rfl) (by kernel_rfl) ?_
  refine w_skip ?_
  refine w_seq ?_
  refine w_seq ?_
  refine w_reg ⟨[(0, .one (.own 0) (.sl 6 (List.map e_ref09_Type p0))), (1, .one .top (.int .i64 p1)), (7, .one .top (.int .i64 0))], [], H⟩ (by kernel_rfl) ?_
  refine w_block ?_
  obtain ⟨r14, hL15, hF⟩ := bind1_inv hF
  refine w_loop (fun (x : (Int)) => (⟨[(0, .one (.own 0) (.sl 6 (List.map e_ref09_Type p0))), (1, .one .top (.int .i64 p1)), (7, .one .top (.int .i64 x))], [], H⟩ : St)) (Sum.elim (fun (y : Unit) => ((.exit 0, (⟨[(0, .one (.own 0) (.sl 6 (List.map e_ref09_Type p0))), (1, .one .top (.int .i64 p1))], [], H⟩ : St)) : Ex × St)) (fun (y : (Int)) => ((.ret, (⟨[(4, .one (.own 0) (.sl 6 (List.map e_ref09_Type p0))), (5, .one .top (.int .i64 y)), (6, .one .top (.int .i64 0))], [], H⟩ : St)) : Ex × St))) hL15 (by kernel_rfl) ?_ ?_
  rintro a4 o hF
  replace hF : ref09_Pointer_L1 p0 p1 a4 = some o := hF
  unfold ref09_Pointer_L1 at hF
  refine w_seq ?_
  refine w_seq ?_
  refine w_regO ⟨[(0, .one (.own 0) (.sl 6 (List.map e_ref09_Type p0))), (1, .one .top (.int .i64 p1)), (7, .one .top (.int .i64 a4)), (17, .one .top (.bool (decide (a4 < (p0.length : Int)))))], [], H⟩ ?_ ?_
  refine o_run 2 ⟨[(0, .one (.own 0) (.sl 6 (List.map e_ref09_Type p0))), (1, .one .top (.int .i64 p1)), (7, .one .top (.int .i64 a4)), (14, .one .top (.int .i64 a4)), (15, .one (.own 0) (.sl 6 (List.map e_ref09_Type p0)))], [], H⟩ (by kernel_rfl) (by kernel_rfl) ?_
  refine o_one ⟨[(0, .one (.own 0) (.sl 6 (List.map e_ref09_Type p0))), (1, .one .top (.int .i64 p1)), (7, .one .top (.int .i64 a4)), (14, .one .top (.int .i64 a4)), (15, .one (.own 0) (.sl 6 (List.map e_ref09_Type p0))), (16, .one .top (.int .i64 (p0.length : Int)))], [], H⟩ (st_len (⟨[(0, .one (.own 0) (.sl 6 (List.map e_ref09_Type p0))), (1, .one .top (.int .i64 p1)), (7, .one .top (.int .i64 a4)), (14, .one .top (.int .i64 a4)), (15, .one (.own 0) (.sl 6 (List.map e_ref09_Type p0)))], [], H⟩ : St) p0 e_ref09_Type (some 16) (by kernel_rfl) (by kernel_rfl)) ?_
  refine o_run 1 ⟨[(0, .one (.own 0) (.sl 6 (List.map e_ref09_Type p0))), (1, .one .top (.int .i64 p1)), (7, .one .top (.int .i64 a4)), (14, .one .top (.int .i64 a4)), (15, .one (.own 0) (.sl 6 (List.map e_ref09_Type p0))), (16, .one .top (.int .i64 (p0.length : Int))), (17, .one .top (.bool (decide (a4 < (p0.length : Int)))))], [], H⟩ (by kernel_rfl) (by kernel_rfl) ?_
  exact o_end (by kernel_rfl) (by kernel_rfl)
  rcases if_inv hF with ⟨h5, hF⟩ | ⟨h5, hF⟩
  refine w_cT (m := .top) h5 (s1 := (⟨[(0, .one (.own 0) (.sl 6 (List.map e_ref09_Type p0))), (1, .one .top (.int .i64 p1)), (7, .one .top (.int .i64 a4))], [], H⟩ : St)) (by kernel_rfl) (by kernel_rfl) ?_
  refine w_skip ?_
  refine w_seq ?_
  refine w_block ?_
  refine w_seq ?_
  obtain ⟨x6, h7, hF⟩ := bind1_inv hF
  obtain ⟨w11, hB12, hF⟩ := bind1_inv hF
  refine w_regO ⟨[(0, .one (.own 0) (.sl 6 (List.map e_ref09_Type p0))), (1, .one .top (.int .i64 p1)), (7, .one .top (.int .i64 a4)), (34, .one .top (.bool w11))], [], H⟩ ?_ ?_
  refine o_run 2 ⟨[(0, .one (.own 0) (.sl 6 (List.map e_ref09_Type p0))), (1, .one .top (.int .i64 p1)), (7, .one .top (.int .i64 a4)), (20, .one (.own 0) (.sl 6 (List.map e_ref09_Type p0))), (21, .one .top (.int .i64 a4))], [], H⟩ (by kernel_rfl) (by kernel_rfl) ?_
  refine o_one ⟨[(0, .one (.own 0) (.sl 6 (List.map e_ref09_Type p0))), (1, .one .top (.int .i64 p1)), (7, .one .top (.int .i64 a4)), (20, .one (.own 0) (.sl 6 (List.map e_ref09_Type p0))), (21, .one .top (.int .i64 a4)), (22, .one .top (.rd (.own 0) (.own 0) [.int .i64 x6.Kind_, .int .i64 x6.Len_, .int .i64 x6.Base_, .int .i64 x6.Size_, .bool x6.Open_, .sl 3 (List.map e_ref09_Field x6.Fields_)] 0))], [], H⟩ (st_ix (X := X) (⟨[(0, .one (.own 0) (.sl 6 (List.map e_ref09_Type p0))), (1, .one .top (.int .i64 p1)), (7, .one .top (.int .i64 a4)), (20, .one (.own 0) (.sl 6 (List.map e_ref09_Type p0))), (21, .one .top (.int .i64 a4))], [], H⟩ : St) 48 77 6 h7 e_ref09_Type (.own 0) (some 22) (by kernel_rfl) (by kernel_rfl) (by kernel_rfl) (by kernel_rfl)) ?_
  refine o_run 4 ⟨[(0, .one (.own 0) (.sl 6 (List.map e_ref09_Type p0))), (1, .one .top (.int .i64 p1)), (7, .one .top (.int .i64 a4)), (20, .one (.own 0) (.sl 6 (List.map e_ref09_Type p0))), (21, .one .top (.int .i64 a4)), (22, .one .top (.rd (.own 0) (.own 0) [.int .i64 x6.Kind_, .int .i64 x6.Len_, .int .i64 x6.Base_, .int .i64 x6.Size_, .bool x6.Open_, .sl 3 (List.map e_ref09_Field x6.Fields_)] 0)), (23, .one .top (.rd (.own 0) (.own 0) [.int .i64 x6.Kind_, .int .i64 x6.Len_, .int .i64 x6.Base_, .int .i64 x6.Size_, .bool x6.Open_, .sl 3 (List.map e_ref09_Field x6.Fields_)] 0)), (24, .one .top (.int .i64 x6.Kind_)), (25, .one .top (.bool (x6.Kind_ == 7))), (26, .one .top (.bool (x6.Kind_ == 7)))], [], H⟩ (by kernel_rfl) (by kernel_rfl) ?_
  rcases if_inv hB12 with ⟨h8, hB12⟩ | ⟨h8, hB12⟩
  refine o_eq (congrArg (fun q => (⟨[(0, .one (.own 0) (.sl 6 (List.map e_ref09_Type p0))), (1, .one .top (.int .i64 p1)), (7, .one .top (.int .i64 a4)), (20, .one (.own 0) (.sl 6 (List.map e_ref09_Type p0))), (21, .one .top (.int .i64 a4)), (22, .one .top (.rd (.own 0) (.own 0) [.int .i64 x6.Kind_, .int .i64 x6.Len_, .int .i64 x6.Base_, .int .i64 x6.Size_, .bool x6.Open_, .sl 3 (List.map e_ref09_Field x6.Fields_)] 0)), (23, .one .top (.rd (.own 0) (.own 0) [.int .i64 x6.Kind_, .int .i64 x6.Len_, .int .i64 x6.Base_, .int .i64 x6.Size_, .bool x6.Open_, .sl 3 (List.map e_ref09_Field x6.Fields_)] 0)), (24, .one .top (.int .i64 x6.Kind_)), (25, .one .top (.bool q)), (26, .one .top (.bool q))], [], H⟩ : St)) h8) ?_
  refine o_run 2 ⟨[(0, .one (.own 0) (.sl 6 (List.map e_ref09_Type p0))), (1, .one .top (.int .i64 p1)), (7, .one .top (.int .i64 a4)), (20, .one (.own 0) (.sl 6 (List.map e_ref09_Type p0))), (21, .one .top (.int .i64 a4)), (22, .one .top (.rd (.own 0) (.own 0) [.int .i64 x6.Kind_, .int .i64 x6.Len_, .int .i64 x6.Base_, .int .i64 x6.Size_, .bool x6.Open_, .sl 3 (List.map e_ref09_Field x6.Fields_)] 0)), (23, .one .top (.rd (.own 0) (.own 0) [.int .i64 x6.Kind_, .int .i64 x6.Len_, .int .i64 x6.Base_, .int .i64 x6.Size_, .bool x6.Open_, .sl 3 (List.map e_ref09_Field x6.Fields_)] 0)), (24, .one .top (.int .i64 x6.Kind_)), (25, .one .top (.bool true)), (26, .one .top (.bool true)), (27, .one (.own 0) (.sl 6 (List.map e_ref09_Type p0))), (28, .one .top (.int .i64 a4))], [], H⟩ (by kernel_rfl) (by kernel_rfl) ?_
  obtain ⟨x9, h10, hB12⟩ := bind1_inv hB12
  refine o_one ⟨[(0, .one (.own 0) (.sl 6 (List.map e_ref09_Type p0))), (1, .one .top (.int .i64 p1)), (7, .one .top (.int .i64 a4)), (20, .one (.own 0) (.sl 6 (List.map e_ref09_Type p0))), (21, .one .top (.int .i64 a4)), (22, .one .top (.rd (.own 0) (.own 0) [.int .i64 x6.Kind_, .int .i64 x6.Len_, .int .i64 x6.Base_, .int .i64 x6.Size_, .bool x6.Open_, .sl 3 (List.map e_ref09_Field x6.Fields_)] 0)), (23, .one .top (.rd (.own 0) (.own 0) [.int .i64 x6.Kind_, .int .i64 x6.Len_, .int .i64 x6.Base_, .int .i64 x6.Size_, .bool x6.Open_, .sl 3 (List.map e_ref09_Field x6.Fields_)] 0)), (24, .one .top (.int .i64 x6.Kind_)), (25, .one .top (.bool true)), (26, .one .top (.bool true)), (27, .one (.own 0) (.sl 6 (List.map e_ref09_Type p0))), (28, .one .top (.int .i64 a4)), (29, .one .top (.rd (.own 0) (.own 0) [.int .i64 x9.Kind_, .int .i64 x9.Len_, .int .i64 x9.Base_, .int .i64 x9.Size_, .bool x9.Open_, .sl 3 (List.map e_ref09_Field x9.Fields_)] 0))], [], H⟩ (st_ix (X := X) (⟨[(0, .one (.own 0) (.sl 6 (List.map e_ref09_Type p0))), (1, .one .top (.int .i64 p1)), (7, .one .top (.int .i64 a4)), (20, .one (.own 0) (.sl 6 (List.map e_ref09_Type p0))), (21, .one .top (.int .i64 a4)), (22, .one .top (.rd (.own 0) (.own 0) [.int .i64 x6.Kind_, .int .i64 x6.Len_, .int .i64 x6.Base_, .int .i64 x6.Size_, .bool x6.Open_, .sl 3 (List.map e_ref09_Field x6.Fields_)] 0)), (23, .one .top (.rd (.own 0) (.own 0) [.int .i64 x6.Kind_, .int .i64 x6.Len_, .int .i64 x6.Base_, .int .i64 x6.Size_, .bool x6.Open_, .sl 3 (List.map e_ref09_Field x6.Fields_)] 0)), (24, .one .top (.int .i64 x6.Kind_)), (25, .one .top (.bool true)), (26, .one .top (.bool true)), (27, .one (.own 0) (.sl 6 (List.map e_ref09_Type p0))), (28, .one .top (.int .i64 a4))], [], H⟩ : St) 48 77 6 h10 e_ref09_Type (.own 0) (some 29) (by kernel_rfl) (by kernel_rfl) (by kernel_rfl) (by kernel_rfl)) ?_
  refine o_run 5 ⟨[(0, .one (.own 0) (.sl 6 (List.map e_ref09_Type p0))), (1, .one .top (.int .i64 p1)), (7, .one .top (.int .i64 a4)), (20, .one (.own 0) (.sl 6 (List.map e_ref09_Type p0))), (21, .one .top (.int .i64 a4)), (22, .one .top (.rd (.own 0) (.own 0) [.int .i64 x6.Kind_, .int .i64 x6.Len_, .int .i64 x6.Base_, .int .i64 x6.Size_, .bool x6.Open_, .sl 3 (List.map e_ref09_Field x6.Fields_)] 0)), (23, .one .top (.rd (.own 0) (.own 0) [.int .i64 x6.Kind_, .int .i64 x6.Len_, .int .i64 x6.Base_, .int .i64 x6.Size_, .bool x6.Open_, .sl 3 (List.map e_ref09_Field x6.Fields_)] 0)), (24, .one .top (.int .i64 x6.Kind_)), (25, .one .top (.bool true)), (26, .one .top (.bool true)), (27, .one (.own 0) (.sl 6 (List.map e_ref09_Type p0))), (28, .one .top (.int .i64 a4)), (29, .one .top (.rd (.own 0) (.own 0) [.int .i64 x9.Kind_, .int .i64 x9.Len_, .int .i64 x9.Base_, .int .i64 x9.Size_, .bool x9.Open_, .sl 3 (List.map e_ref09_Field x9.Fields_)] 0)), (30, .one .top (.rd (.own 0) (.own 0) [.int .i64 x9.Kind_, .int .i64 x9.Len_, .int .i64 x9.Base_, .int .i64 x9.Size_, .bool x9.Open_, .sl 3 (List.map e_ref09_Field x9.Fields_)] 2)), (31, .one .top (.int .i64 x9.Base_)), (32, .one .top (.int .i64 p1)), (33, .one .top (.bool (x9.Base_ == p1))), (34, .one .top (.bool (x9.Base_ == p1)))], [], H⟩ (by kernel_rfl) (by kernel_rfl) ?_
  cases hB12
  exact o_end (by kernel_rfl) (by kernel_rfl)
  refine o_eq (congrArg (fun q => (⟨[(0, .one (.own 0) (.sl 6 (List.map e_ref09_Type p0))), (1, .one .top (.int .i64 p1)), (7, .one .top (.int .i64 a4)), (20, .one (.own 0) (.sl 6 (List.map e_ref09_Type p0))), (21, .one .top (.int .i64 a4)), (22, .one .top (.rd (.own 0) (.own 0) [.int .i64 x6.Kind_, .int .i64 x6.Len_, .int .i64 x6.Base_, .int .i64 x6.Size_, .bool x6.Open_, .sl 3 (List.map e_ref09_Field x6.Fields_)] 0)), (23, .one .top (.rd (.own 0) (.own 0) [.int .i64 x6.Kind_, .int .i64 x6.Len_, .int .i64 x6.Base_, .int .i64 x6.Size_, .bool x6.Open_, .sl 3 (List.map e_ref09_Field x6.Fields_)] 0)), (24, .one .top (.int .i64 x6.Kind_)), (25, .one .top (.bool q)), (26, .one .top (.bool q))], [], H⟩ : St)) h8) ?_
  refine o_run 8 ⟨[(0, .one (.own 0) (.sl 6 (List.map e_ref09_Type p0))), (1, .one .top (.int .i64 p1)), (7, .one .top (.int .i64 a4)), (20, .one (.own 0) (.sl 6 (List.map e_ref09_Type p0))), (21, .one .top (.int .i64 a4)), (22, .one .top (.rd (.own 0) (.own 0) [.int .i64 x6.Kind_, .int .i64 x6.Len_, .int .i64 x6.Base_, .int .i64 x6.Size_, .bool x6.Open_, .sl 3 (List.map e_ref09_Field x6.Fields_)] 0)), (23, .one .top (.rd (.own 0) (.own 0) [.int .i64 x6.Kind_, .int .i64 x6.Len_, .int .i64 x6.Base_, .int .i64 x6.Size_, .bool x6.Open_, .sl 3 (List.map e_ref09_Field x6.Fields_)] 0)), (24, .one .top (.int .i64 x6.Kind_)), (25, .one .top (.bool false)), (26, .one .top (.bool false)), (27, .tup []), (28, .tup []), (29, .tup []), (30, .tup []), (31, .tup []), (32, .tup []), (33, .tup []), (34, .one .top (.bool false))], [], H⟩ (by kernel_rfl) (by kernel_rfl) ?_
  cases hB12
  exact o_end (by kernel_rfl) (by kernel_rfl)
  rcases if_inv hF with ⟨h13, hF⟩ | ⟨h13, hF⟩
  refine w_cT (m := .top) h13 (s1 := (⟨[(0, .one (.own 0) (.sl 6 (List.map e_ref09_Type p0))), (7, .one .top (.int .i64 a4))], [], H⟩ : St)) (by kernel_rfl) (by kernel_rfl) ?_
  refine w_seq ?_
  refine w_reg ⟨[(4, .one (.own 0) (.sl 6 (List.map e_ref09_Type p0))), (5, .one .top (.int .i64 a4)), (6, .one .top (.int .i64 0))], [], H⟩ (by kernel_rfl) ?_
  refine w_ret ?_
  cases hF
  exact ⟨_, rfl, (by kernel_rfl)⟩
  refine w_cF (m := .top) h13 (s1 := (⟨[(0, .one (.own 0) (.sl 6 (List.map e_ref09_Type p0))), (1, .one .top (.int .i64 p1)), (7, .one .top (.int .i64 a4))], [], H⟩ : St)) (by kernel_rfl) (by kernel_rfl) ?_
  refine w_skip ?_
  refine w_reg ⟨[(0, .one (.own 0) (.sl 6 (List.map e_ref09_Type p0))), (1, .one .top (.int .i64 p1)), (7, .one .top (.int .i64 (IntKind.wrap .i64 (a4 + 1))))], [], H⟩ (by kernel_rfl) ?_
  cases hF
  exact ⟨_, rfl, (by kernel_rfl)⟩
  refine w_cF (m := .top) h5 (s1 := (⟨[(0, .one (.own 0) (.sl 6 (List.map e_ref09_Type p0))), (1, .one .top (.int .i64 p1))], [], H⟩ : St)) (by kernel_rfl) (by kernel_rfl) ?_
  refine w_exit ?_
  cases hF
  exact ⟨_, rfl, (by kernel_rfl)⟩
  rcases sum2_inv hF with ⟨r14', rfl, hF⟩ | ⟨r14', rfl, hF⟩
  refine w_oe (i := 0) (s := (⟨[(0, .one (.own 0) (.sl 6 (List.map e_ref09_Type p0))), (1, .one .top (.int .i64 p1))], [], H⟩ : St)) (by kernel_rfl) ?_
  refine e_here ?_
  refine w_seq ?_
  obtain ⟨r16, r17, r18, c19, hF⟩ := bind3_inv hF
  refine w_regO ⟨[(4, .one (.own 0) (.sl 6 (List.map e_ref09_Type r16))), (5, .one .top (.int .i64 r17)), (6, .one .top (.int .i64 r18))], [], H⟩ ?_ ?_
  refine o_run 3 ⟨[(0, .one (.own 0) (.sl 6 (List.map e_ref09_Type p0))), (1, .one .top (.int .i64 p1)), (37, .one (.own 0) (.sl 6 (List.map e_ref09_Type p0))), (38, .one .top (.int .i64 p1)), (39, .agg [(.top, .int .i64 7), (.top, .int .i64 0), (.top, .int .i64 p1), (.top, .int .i64 4), (.top, .bool false), ((.own 1), .sl 3 (List.map e_ref09_Field ([] : List T_ref09_Field)))])], [], H⟩ (by kernel_rfl) (by kernel_rfl) ?_
  refine o_one ⟨[(0, .one (.own 0) (.sl 6 (List.map e_ref09_Type p0))), (1, .one .top (.int .i64 p1)), (37, .one (.own 0) (.sl 6 (List.map e_ref09_Type p0))), (38, .one .top (.int .i64 p1)), (39, .agg [(.top, .int .i64 7), (.top, .int .i64 0), (.top, .int .i64 p1), (.top, .int .i64 4), (.top, .bool false), (.top, .junk)]), (40, .tup [.one (.own 0) (.sl 6 (List.map e_ref09_Type r16)), .one .top (.int .i64 r17), .one .top (.int .i64 r18)])], [], H⟩ (st_call (d := (some 40)) (fz := false) (pure := true) (own := true) (⟨[(0, .one (.own 0) (.sl 6 (List.map e_ref09_Type p0))), (1, .one .top (.int .i64 p1)), (37, .one (.own 0) (.sl 6 (List.map e_ref09_Type p0))), (38, .one .top (.int .i64 p1)), (39, .agg [(.top, .int .i64 7), (.top, .int .i64 0), (.top, .int .i64 p1), (.top, .int .i64 4), (.top, .bool false), (.top, .junk)])], [], H⟩ : St) (ok_ref09_add H c19) (by kernel_rfl) (by kernel_rfl)) ?_
  refine o_run 6 ⟨[(0, .one (.own 0) (.sl 6 (List.map e_ref09_Type p0))), (1, .one .top (.int .i64 p1)), (4, .one (.own 0) (.sl 6 (List.map e_ref09_Type r16))), (5, .one .top (.int .i64 r17)), (6, .one .top (.int .i64 r18)), (37, .one (.own 0) (.sl 6 (List.map e_ref09_Type p0))), (38, .one .top (.int .i64 p1)), (39, .agg [(.top, .int .i64 7), (.top, .int .i64 0), (.top, .int .i64 p1), (.top, .int .i64 4), (.top, .bool false), (.top, .junk)]), (40, .tup [.one (.own 0) (.sl 6 (List.map e_ref09_Type r16)), .one .top (.int .i64 r17), .one .top (.int .i64 r18)]), (41, .one (.own 0) (.sl 6 (List.map e_ref09_Type r16))), (42, .one .top (.int .i64 r17)), (43, .one .top (.int .i64 r18))], [], H⟩ (by kernel_rfl) (by kernel_rfl) ?_
  exact o_end (by kernel_rfl) (by kernel_rfl)
  refine w_ret ?_
  obtain ⟨e0, e1, e2⟩ := some3_inv hF
  subst e0
  subst e1
  subst e2
  exact fin_pure (v := .tup [.one (.own 0) (.sl 6 (List.map e_ref09_Type r16)), .one .top (.int .i64 r17), .one .top (.int .i64 r18)]) (by kernel_rfl) (by kernel_rfl) rfl (by kernel_rfl)
  obtain ⟨b20, hy⟩ : ∃ y, y = r14' := ⟨_, rfl⟩
  subst hy
  refine w_or (s := (⟨[(4, .one (.own 0) (.sl 6 (List.map e_ref09_Type p0))), (5, .one .top (.int .i64 b20)), (6, .one .top (.int .i64 0))], [], H⟩ : St)) (by kernel_rfl) ?_
  obtain ⟨e0, e1, e2⟩ := some3_inv hF
  subst e0
  subst e1
  subst e2
  exact fin_pure (v := .tup [.one (.own 0) (.sl 6 (List.map e_ref09_Type p0)), .one .top (.int .i64 b20), .one .top (.int .i64 0)]) (by kernel_rfl) (by kernel_rfl) rfl (by kernel_rfl)
noncomputable def law09_do_j1 (j1 : Int) (j2 : Int) (j3 : (List T_ref09_Type)) (j4 : Int) (j5 : Int) (H6 : Heap) : Option (Heap × (List T_ref09_Type) × Bool) :=
  some (H6, j3, ((j1 == j4) && (j2 == j5)))
noncomputable def law09_do_j2 (j17 : Int) (j18 : Int) (j19 : (List T_ref09_Type)) (j20 : Int) (j21 : Int) (H22 : Heap) : Option (Heap × (List T_ref09_Type) × Bool) :=
  law09_do_j1 j17 j18 j19 j20 j21 H22
noncomputable def law09_do_j3 (j32 : Int) (j33 : Int) (j34 : Int) (j35 : (List T_ref09_Type)) (j36 : Int) (H37 : Heap) : Option (Heap × (List T_ref09_Type) × Bool) :=
  law09_do_j2 j32 j34 j35 j33 j36 H37
noncomputable def law09_do_j4 (j45 : Int) (j46 : Int) (j47 : Int) (j48 : (List T_ref09_Type)) (j49 : Int) (H50 : Heap) : Option (Heap × (List T_ref09_Type) × Bool) :=
  law09_do_j3 j45 j46 j47 j48 j49 H50
noncomputable def law09_do (H : Heap) (p0 : Ptr) (p1 : (List T_ref09_Type)) (p2 : T_law09_Op) : Option (Heap × (List T_ref09_Type) × Bool) :=
  if (p2.Kind_ == 0) = true then (bind3 (types_Table_Array H p0 p2.A_ p2.B_) fun H12 r9 r10 =>
  bind3 (ref09_Array p1 p2.A_ p2.B_) fun r13 r14 r15 =>
  law09_do_j1 r9 r10 r13 r14 r15 H12)
  else (if (p2.Kind_ == 1) = true then (bind3 (types_Table_Open H p0) fun H27 r24 r25 =>
  bind3 (ref09_Open p1) fun r28 r29 r30 =>
  law09_do_j2 r24 r25 r28 r29 r30 H27)
  else (if (p2.Kind_ == 2) = true then (bind2 (types_Table_Field H p0 p2.A_ p2.Name_ p2.B_) fun H41 r39 =>
  bind2 (ref09_AddField p1 p2.A_ p2.Name_ p2.B_) fun r42 r43 =>
  law09_do_j3 0 0 r39 r42 r43 H41)
  else (if (p2.Kind_ == 3) = true then (bind2 (types_Table_Close H p0 p2.A_) fun H54 r52 =>
  bind2 (ref09_Close p1 p2.A_) fun r55 r56 =>
  law09_do_j4 0 0 r52 r55 r56 H54)
  else (if (p2.Kind_ == 4) = true then (bind3 (types_Table_Pointer H p0 p2.A_) fun H62 r59 r60 =>
  bind3 (ref09_Pointer p1 p2.A_) fun r63 r64 r65 =>
  law09_do_j4 r59 r64 r60 r63 r65 H62)
  else (some (H, p1, true))))))
theorem ok_law09_do (H : Heap) {p0 : Ptr} {p1 : (List T_ref09_Type)} {p2 : T_law09_Op} {ra : (List T_ref09_Type)} {rb : Bool} {Hr : Heap} (hF : law09_do H p0 p1 p2 = some (Hr, ra, rb)) : evS X 70 [.one .top (Ptr.av p0), .one (.own 0) (.sl 6 (List.map e_ref09_Type p1)), .agg [(.top, .int .i64 p2.Kind_), (.top, .int .i64 p2.A_), (.top, .int .i64 p2.B_), (.top, .str p2.Name_)]] H = some (.tup [.one (.own 0) (.sl 6 (List.map e_ref09_Type ra)), .one .top (.bool rb)], Hr) := by
  refine w_fun Try.func70 rfl (by kernel_rfl) false (by kernel_rfl) (s0 := (⟨[(0, .one .top (Ptr.av p0)), (1, .one (.own 0) (.sl 6 (List.map e_ref09_Type p1))), (2, .agg [(.top, .int .i64 p2.Kind_), (.top, .int .i64 p2.A_), (.top, .int .i64 p2.B_), (.top, .str p2.Name_)])], [], H⟩ : St)) (by kernel_rfl) ?_
  unfold law09_do at hF
  refine w_seq ?_
  refine w_reg ⟨[(0, .one .top (Ptr.av p0)), (1, .one (.own 0) (.sl 6 (List.map e_ref09_Type p1))), (5, .one .top (.loc 5 0))], [(5, [(.top, .int .i64 p2.Kind_), (.top, .int .i64 p2.A_), (.top, .int .i64 p2.B_), (.top, .str p2.Name_)])], H⟩ (by generalize p0 = qp0; cases qp0 <;> kernel_rfl) ?_
  refine w_seq ?_
  refine w_reg ⟨[(0, .one .top (Ptr.av p0)), (1, .one (.own 0) (.sl 6 (List.map e_ref09_Type p1))), (5, .one .top (.loc 5 0)), (8, .one .top (.int .i64 0))], [(5, [(.top, .int .i64 p2.Kind_), (.top, .int .i64 p2.A_), (.top, .int .i64 p2.B_), (.top, .str p2.Name_)])], H⟩ (by generalize p0 = qp0; cases qp0 <;> kernel_rfl) ?_
  refine w_seq ?_
  refine w_reg ⟨[(0, .one .top (Ptr.av p0)), (1, .one (.own 0) (.sl 6 (List.map e_ref09_Type p1))), (5, .one .top (.loc 5 0)), (8, .one .top (.int .i64 0)), (11, .one .top (.int .i64 0))], [(5, [(.top, .int .i64 p2.Kind_), (.top, .int .i64 p2.A_), (.top, .int .i64 p2.B_), (.top, .str p2.Name_)])], H⟩ (by generalize p0 = qp0; cases qp0 <;> kernel_rfl) ?_
  refine w_seq ?_
  refine w_seq ?_
  refine w_reg ⟨[(0, .one .top (Ptr.av p0)), (1, .one (.own 0) (.sl 6 (List.map e_ref09_Type p1))), (5, .one .top (.loc 5 0)), (8, .one .top (.int .i64 0)), (11, .one .top (.int .i64 0)), (15, .one .top (.int .i64 p2.Kind_))], [(5, [(.top, .int .i64 p2.Kind_), (.top, .int .i64 p2.A_), (.top, .int .i64 p2.B_), (.top, .str p2.Name_)])], H⟩ (by generalize p0 = qp0; cases qp0 <;> kernel_rfl) ?_
  refine w_block ?_
  refine w_seq ?_
  refine w_reg ⟨[(0, .one .top (Ptr.av p0)), (1, .one (.own 0) (.sl 6 (List.map e_ref09_Type p1))), (5, .one .top (.loc 5 0)), (8, .one .top (.int .i64 0)), (11, .one .top (.int .i64 0)), (15, .one .top (.int .i64 p2.Kind_)), (17, .one .top (.bool (p2.Kind_ == 0)))], [(5, [(.top, .int .i64 p2.Kind_), (.top, .int .i64 p2.A_), (.top, .int .i64 p2.B_), (.top, .str p2.Name_)])], H⟩ (by generalize p0 = qp0; cases qp0 <;> kernel_rfl) ?_
  refine w_join (α := (Int × Int × (List T_ref09_Type) × Int × Int × Heap)) (fun x => (⟨[(8, .one .top (.int .i64 x.1)), (9, .one .top (.int .i64 x.2.1)), (10, .one (.own 0) (.sl 6 (List.map e_ref09_Type x.2.2.1))), (11, .one .top (.int .i64 x.2.2.2.1)), (12, .one .top (.int .i64 x.2.2.2.2.1))], [], x.2.2.2.2.2⟩ : St)) (fun x => law09_do_j1 x.1 x.2.1 x.2.2.1 x.2.2.2.1 x.2.2.2.2.1 x.2.2.2.2.2 = some (Hr, ra, rb)) ?_ ?_
  rintro ⟨j1, j2, j3, j4, j5, H6⟩ hF
  replace hF : law09_do_j1 j1 j2 j3 j4 j5 H6 = some (Hr, ra, rb) := hF
  unfold law09_do_j1 at hF
  refine w_seq ?_
  refine w_regO ⟨[(6, .one (.own 0) (.sl 6 (List.map e_ref09_Type j3))), (7, .one .top (.bool ((j1 == j4) && (j2 == j5))))], [], H6⟩ ?_ ?_
  refine o_run 5 ⟨[(8, .one .top (.int .i64 j1)), (9, .one .top (.int .i64 j2)), (10, .one (.own 0) (.sl 6 (List.map e_ref09_Type j3))), (11, .one .top (.int .i64 j4)), (12, .one .top (.int .i64 j5)), (102, .one (.own 0) (.sl 6 (List.map e_ref09_Type j3))), (103, .one .top (.int .i64 j1)), (104, .one .top (.int .i64 j4)), (105, .one .top (.bool (j1 == j4))), (106, .one .top (.bool (j1 == j4)))], [], H6⟩ (by kernel_rfl) (by kernel_rfl) ?_
  rcases bool_cases (j1 == j4) with h7 | h7
  refine o_eq (congrArg (fun q => (⟨[(8, .one .top (.int .i64 j1)), (9, .one .top (.int .i64 j2)), (10, .one (.own 0) (.sl 6 (List.map e_ref09_Type j3))), (11, .one .top (.int .i64 j4)), (12, .one .top (.int .i64 j5)), (102, .one (.own 0) (.sl 6 (List.map e_ref09_Type j3))), (103, .one .top (.int .i64 j1)), (104, .one .top (.int .i64 j4)), (105, .one .top (.bool q)), (106, .one .top (.bool q))], [], H6⟩ : St)) h7) ?_
  refine o_run 6 ⟨[(6, .one (.own 0) (.sl 6 (List.map e_ref09_Type j3))), (7, .one .top (.bool (j2 == j5))), (8, .one .top (.int .i64 j1)), (9, .one .top (.int .i64 j2)), (10, .one (.own 0) (.sl 6 (List.map e_ref09_Type j3))), (11, .one .top (.int .i64 j4)), (12, .one .top (.int .i64 j5)), (102, .one (.own 0) (.sl 6 (List.map e_ref09_Type j3))), (103, .one .top (.int .i64 j1)), (104, .one .top (.int .i64 j4)), (105, .one .top (.bool true)), (106, .one .top (.bool true)), (107, .one .top (.int .i64 j2)), (108, .one .top (.int .i64 j5)), (109, .one .top (.bool (j2 == j5))), (110, .one .top (.bool (j2 == j5)))], [], H6⟩ (by kernel_rfl) (by kernel_rfl) ?_
  refine o_eq2 (congrArg (fun q0 => (⟨[(6, .one (.own 0) (.sl 6 (List.map e_ref09_Type j3))), (7, .one .top (.bool q0))], [], H6⟩ : St)) (show (j2 == j5) = ((j1 == j4) && (j2 == j5)) by simp [h7])) ?_
  exact o_end (by kernel_rfl) (by kernel_rfl)
  refine o_eq (congrArg (fun q => (⟨[(8, .one .top (.int .i64 j1)), (9, .one .top (.int .i64 j2)), (10, .one (.own 0) (.sl 6 (List.map e_ref09_Type j3))), (11, .one .top (.int .i64 j4)), (12, .one .top (.int .i64 j5)), (102, .one (.own 0) (.sl 6 (List.map e_ref09_Type j3))), (103, .one .top (.int .i64 j1)), (104, .one .top (.int .i64 j4)), (105, .one .top (.bool q)), (106, .one .top (.bool q))], [], H6⟩ : St)) h7) ?_
  refine o_run 6 ⟨[(6, .one (.own 0) (.sl 6 (List.map e_ref09_Type j3))), (7, .one .top (.bool false)), (8, .one .top (.int .i64 j1)), (9, .one .top (.int .i64 j2)), (10, .one (.own 0) (.sl 6 (List.map e_ref09_Type j3))), (11, .one .top (.int .i64 j4)), (12, .one .top (.int .i64 j5)), (102, .one (.own 0) (.sl 6 (List.map e_ref09_Type j3))), (103, .one .top (.int .i64 j1)), (104, .one .top (.int .i64 j4)), (105, .one .top (.bool false)), (106, .one .top (.bool false)), (107, .tup []), (108, .tup []), (109, .tup []), (110, .one .top (.bool false))], [], H6⟩ (by kernel_rfl) (by kernel_rfl) ?_
  refine o_eq2 (congrArg (fun q0 => (⟨[(6, .one (.own 0) (.sl 6 (List.map e_ref09_Type j3))), (7, .one .top (.bool q0))], [], H6⟩ : St)) (show false = ((j1 == j4) && (j2 == j5)) by simp [h7])) ?_
  exact o_end (by kernel_rfl) (by kernel_rfl)
  refine w_ret ?_
  obtain ⟨e0, e1, e2⟩ := some3_inv hF
  subst e0
  subst e1
  subst e2
  exact fin_imp (v := .tup [.one (.own 0) (.sl 6 (List.map e_ref09_Type j3)), .one .top (.bool ((j1 == j4) && (j2 == j5)))]) (by kernel_rfl) (by kernel_rfl) (by kernel_rfl)
  rcases if_inv hF with ⟨h8, hF⟩ | ⟨h8, hF⟩
  refine w_cT (m := .top) h8 (s1 := (⟨[(0, .one .top (Ptr.av p0)), (1, .one (.own 0) (.sl 6 (List.map e_ref09_Type p1))), (5, .one .top (.loc 5 0))], [(5, [(.top, .int .i64 p2.Kind_), (.top, .int .i64 p2.A_), (.top, .int .i64 p2.B_), (.top, .str p2.Name_)])], H⟩ : St)) (by kernel_rfl) (by kernel_rfl) ?_
  refine w_seq ?_
  obtain ⟨H12, r9, r10, c11, hF⟩ := bind3_inv hF
  refine w_regO ⟨[(1, .one (.own 0) (.sl 6 (List.map e_ref09_Type p1))), (5, .one .top (.loc 5 0)), (8, .one .top (.int .i64 r9)), (9, .one .top (.int .i64 r10))], [(5, [(.top, .int .i64 p2.Kind_), (.top, .int .i64 p2.A_), (.top, .int .i64 p2.B_), (.top, .str p2.Name_)])], H12⟩ ?_ ?_
  refine o_run 5 ⟨[(0, .one .top (Ptr.av p0)), (1, .one (.own 0) (.sl 6 (List.map e_ref09_Type p1))), (5, .one .top (.loc 5 0)), (20, .one .top (Ptr.av p0)), (21, .one .top (.loc 5 1)), (22, .one .top (.int .i64 p2.A_)), (23, .one .top (.loc 5 2)), (24, .one .top (.int .i64 p2.B_))], [(5, [(.top, .int .i64 p2.Kind_), (.top, .int .i64 p2.A_), (.top, .int .i64 p2.B_), (.top, .str p2.Name_)])], H⟩ (by kernel_rfl) (by generalize p0 = qp0; cases qp0 <;> kernel_rfl) ?_
  refine o_one ⟨[(0, .one .top (Ptr.av p0)), (1, .one (.own 0) (.sl 6 (List.map e_ref09_Type p1))), (5, .one .top (.loc 5 0)), (20, .one .top (Ptr.av p0)), (21, .one .top (.loc 5 1)), (22, .one .top (.int .i64 p2.A_)), (23, .one .top (.loc 5 2)), (24, .one .top (.int .i64 p2.B_)), (25, .tup [.one .top (.int .i64 r9), .one .top (.int .i64 r10)])], [(5, [(.top, .int .i64 p2.Kind_), (.top, .int .i64 p2.A_), (.top, .int .i64 p2.B_), (.top, .str p2.Name_)])], H12⟩ (st_call (d := (some 25)) (fz := false) (pure := false) (own := false) (⟨[(0, .one .top (Ptr.av p0)), (1, .one (.own 0) (.sl 6 (List.map e_ref09_Type p1))), (5, .one .top (.loc 5 0)), (20, .one .top (Ptr.av p0)), (21, .one .top (.loc 5 1)), (22, .one .top (.int .i64 p2.A_)), (23, .one .top (.loc 5 2)), (24, .one .top (.int .i64 p2.B_))], [(5, [(.top, .int .i64 p2.Kind_), (.top, .int .i64 p2.A_), (.top, .int .i64 p2.B_), (.top, .str p2.Name_)])], H⟩ : St) (ok_types_Table_Array H c11) (by generalize p0 = qp0; cases qp0 <;> kernel_rfl) (by generalize p0 = qp0; cases qp0 <;> kernel_rfl)) ?_
  refine o_run 5 ⟨[(0, .one .top (Ptr.av p0)), (1, .one (.own 0) (.sl 6 (List.map e_ref09_Type p1))), (5, .one .top (.loc 5 0)), (8, .one .top (.int .i64 r9)), (9, .one .top (.int .i64 r10)), (19, .tup [.one .top (.int .i64 r9), .one .top (.int .i64 r10)]), (20, .one .top (Ptr.av p0)), (21, .one .top (.loc 5 1)), (22, .one .top (.int .i64 p2.A_)), (23, .one .top (.loc 5 2)), (24, .one .top (.int .i64 p2.B_)), (25, .tup [.one .top (.int .i64 r9), .one .top (.int .i64 r10)]), (26, .one .top (.int .i64 r9)), (27, .one .top (.int .i64 r10))], [(5, [(.top, .int .i64 p2.Kind_), (.top, .int .i64 p2.A_), (.top, .int .i64 p2.B_), (.top, .str p2.Name_)])], H12⟩ (by kernel_rfl) (by generalize p0 = qp0; cases qp0 <;> kernel_rfl) ?_
  exact o_end (by kernel_rfl) (by kernel_rfl)
  obtain ⟨r13, r14, r15, c16, hF⟩ := bind3_inv hF
  refine w_regO ⟨[(8, .one .top (.int .i64 r9)), (9, .one .top (.int .i64 r10)), (10, .one (.own 0) (.sl 6 (List.map e_ref09_Type r13))), (11, .one .top (.int .i64 r14)), (12, .one .top (.int .i64 r15))], [], H12⟩ ?_ ?_
  refine o_run 5 ⟨[(1, .one (.own 0) (.sl 6 (List.map e_ref09_Type p1))), (5, .one .top (.loc 5 0)), (8, .one .top (.int .i64 r9)), (9, .one .top (.int .i64 r10)), (29, .one (.own 0) (.sl 6 (List.map e_ref09_Type p1))), (30, .one .top (.loc 5 1)), (31, .one .top (.int .i64 p2.A_)), (32, .one .top (.loc 5 2)), (33, .one .top (.int .i64 p2.B_))], [(5, [(.top, .int .i64 p2.Kind_), (.top, .int .i64 p2.A_), (.top, .int .i64 p2.B_), (.top, .str p2.Name_)])], H12⟩ (by kernel_rfl) (by kernel_rfl) ?_
  refine o_one ⟨[(1, .one (.own 0) (.sl 6 (List.map e_ref09_Type p1))), (5, .one .top (.loc 5 0)), (8, .one .top (.int .i64 r9)), (9, .one .top (.int .i64 r10)), (29, .one (.own 0) (.sl 6 (List.map e_ref09_Type p1))), (30, .one .top (.loc 5 1)), (31, .one .top (.int .i64 p2.A_)), (32, .one .top (.loc 5 2)), (33, .one .top (.int .i64 p2.B_)), (34, .tup [.one (.own 0) (.sl 6 (List.map e_ref09_Type r13)), .one .top (.int .i64 r14), .one .top (.int .i64 r15)])], [(5, [(.top, .int .i64 p2.Kind_), (.top, .int .i64 p2.A_), (.top, .int .i64 p2.B_), (.top, .str p2.Name_)])], H12⟩ (st_call (d := (some 34)) (fz := false) (pure := true) (own := false) (⟨[(1, .one (.own 0) (.sl 6 (List.map e_ref09_Type p1))), (5, .one .top (.loc 5 0)), (8, .one .top (.int .i64 r9)), (9, .one .top (.int .i64 r10)), (29, .one (.own 0) (.sl 6 (List.map e_ref09_Type p1))), (30, .one .top (.loc 5 1)), (31, .one .top (.int .i64 p2.A_)), (32, .one .top (.loc 5 2)), (33, .one .top (.int .i64 p2.B_))], [(5, [(.top, .int .i64 p2.Kind_), (.top, .int .i64 p2.A_), (.top, .int .i64 p2.B_), (.top, .str p2.Name_)])], H12⟩ : St) (ok_ref09_Array H12 c16) (by kernel_rfl) (by kernel_rfl)) ?_
  refine o_run 7 ⟨[(1, .one (.own 0) (.sl 6 (List.map e_ref09_Type p1))), (5, .one .top (.loc 5 0)), (8, .one .top (.int .i64 r9)), (9, .one .top (.int .i64 r10)), (10, .one (.own 0) (.sl 6 (List.map e_ref09_Type r13))), (11, .one .top (.int .i64 r14)), (12, .one .top (.int .i64 r15)), (28, .tup [.one (.own 0) (.sl 6 (List.map e_ref09_Type r13)), .one .top (.int .i64 r14), .one .top (.int .i64 r15)]), (29, .one (.own 0) (.sl 6 (List.map e_ref09_Type p1))), (30, .one .top (.loc 5 1)), (31, .one .top (.int .i64 p2.A_)), (32, .one .top (.loc 5 2)), (33, .one .top (.int .i64 p2.B_)), (34, .tup [.one (.own 0) (.sl 6 (List.map e_ref09_Type r13)), .one .top (.int .i64 r14), .one .top (.int .i64 r15)]), (35, .one (.own 0) (.sl 6 (List.map e_ref09_Type r13))), (36, .one .top (.int .i64 r14)), (37, .one .top (.int .i64 r15))], [(5, [(.top, .int .i64 p2.Kind_), (.top, .int .i64 p2.A_), (.top, .int .i64 p2.B_), (.top, .str p2.Name_)])], H12⟩ (by kernel_rfl) (by kernel_rfl) ?_
  exact o_end (by kernel_rfl) (by kernel_rfl)
  exact ⟨(r9, r10, r13, r14, r15, H12), hF, (by kernel_rfl)⟩
  refine w_cF (m := .top) h8 (s1 := (⟨[(0, .one .top (Ptr.av p0)), (1, .one (.own 0) (.sl 6 (List.map e_ref09_Type p1))), (5, .one .top (.loc 5 0)), (8, .one .top (.int .i64 0)), (11, .one .top (.int .i64 0)), (15, .one .top (.int .i64 p2.Kind_))], [(5, [(.top, .int .i64 p2.Kind_), (.top, .int .i64 p2.A_), (.top, .int .i64 p2.B_), (.top, .str p2.Name_)])], H⟩ : St)) (by kernel_rfl) (by kernel_rfl) ?_
  refine w_seq ?_
  refine w_reg ⟨[(0, .one .top (Ptr.av p0)), (1, .one (.own 0) (.sl 6 (List.map e_ref09_Type p1))), (5, .one .top (.loc 5 0)), (8, .one .top (.int .i64 0)), (11, .one .top (.int .i64 0)), (15, .one .top (.int .i64 p2.Kind_)), (38, .one .top (.bool (p2.Kind_ == 1)))], [(5, [(.top, .int .i64 p2.Kind_), (.top, .int .i64 p2.A_), (.top, .int .i64 p2.B_), (.top, .str p2.Name_)])], H⟩ (by generalize p0 = qp0; cases qp0 <;> kernel_rfl) ?_
  refine w_join (α := (Int × Int × (List T_ref09_Type) × Int × Int × Heap)) (fun x => (⟨[(8, .one .top (.int .i64 x.1)), (9, .one .top (.int .i64 x.2.1)), (10, .one (.own 0) (.sl 6 (List.map e_ref09_Type x.2.2.1))), (11, .one .top (.int .i64 x.2.2.2.1)), (12, .one .top (.int .i64 x.2.2.2.2.1))], [], x.2.2.2.2.2⟩ : St)) (fun x => law09_do_j2 x.1 x.2.1 x.2.2.1 x.2.2.2.1 x.2.2.2.2.1 x.2.2.2.2.2 = some (Hr, ra, rb)) ?_ ?_
  rintro ⟨j17, j18, j19, j20, j21, H22⟩ hF
  replace hF : law09_do_j2 j17 j18 j19 j20 j21 H22 = some (Hr, ra, rb) := hF
  unfold law09_do_j2 at hF
  exact ⟨(j17, j18, j19, j20, j21, H22), hF, (by kernel_rfl)⟩
  rcases if_inv hF with ⟨h23, hF⟩ | ⟨h23, hF⟩
  refine w_cT (m := .top) h23 (s1 := (⟨[(0, .one .top (Ptr.av p0)), (1, .one (.own 0) (.sl 6 (List.map e_ref09_Type p1)))], [], H⟩ : St)) (by kernel_rfl) (by kernel_rfl) ?_
  refine w_seq ?_
  obtain ⟨H27, r24, r25, c26, hF⟩ := bind3_inv hF
  refine w_regO ⟨[(1, .one (.own 0) (.sl 6 (List.map e_ref09_Type p1))), (8, .one .top (.int .i64 r24)), (9, .one .top (.int .i64 r25))], [], H27⟩ ?_ ?_
  refine o_run 1 ⟨[(0, .one .top (Ptr.av p0)), (1, .one (.own 0) (.sl 6 (List.map e_ref09_Type p1))), (41, .one .top (Ptr.av p0))], [], H⟩ (by kernel_rfl) (by generalize p0 = qp0; cases qp0 <;> kernel_rfl) ?_
  refine o_one ⟨[(0, .one .top (Ptr.av p0)), (1, .one (.own 0) (.sl 6 (List.map e_ref09_Type p1))), (41, .one .top (Ptr.av p0)), (42, .tup [.one .top (.int .i64 r24), .one .top (.int .i64 r25)])], [], H27⟩ (st_call (d := (some 42)) (fz := false) (pure := false) (own := false) (⟨[(0, .one .top (Ptr.av p0)), (1, .one (.own 0) (.sl 6 (List.map e_ref09_Type p1))), (41, .one .top (Ptr.av p0))], [], H⟩ : St) (ok_types_Table_Open H c26) (by generalize p0 = qp0; cases qp0 <;> kernel_rfl) (by generalize p0 = qp0; cases qp0 <;> kernel_rfl)) ?_
  refine o_run 5 ⟨[(0, .one .top (Ptr.av p0)), (1, .one (.own 0) (.sl 6 (List.map e_ref09_Type p1))), (8, .one .top (.int .i64 r24)), (9, .one .top (.int .i64 r25)), (40, .tup [.one .top (.int .i64 r24), .one .top (.int .i64 r25)]), (41, .one .top (Ptr.av p0)), (42, .tup [.one .top (.int .i64 r24), .one .top (.int .i64 r25)]), (43, .one .top (.int .i64 r24)), (44, .one .top (.int .i64 r25))], [], H27⟩ (by kernel_rfl) (by generalize p0 = qp0; cases qp0 <;> kernel_rfl) ?_
  exact o_end (by kernel_rfl) (by kernel_rfl)
  obtain ⟨r28, r29, r30, c31, hF⟩ := bind3_inv hF
  refine w_regO ⟨[(8, .one .top (.int .i64 r24)), (9, .one .top (.int .i64 r25)), (10, .one (.own 0) (.sl 6 (List.map e_ref09_Type r28))), (11, .one .top (.int .i64 r29)), (12, .one .top (.int .i64 r30))], [], H27⟩ ?_ ?_
  refine o_run 1 ⟨[(1, .one (.own 0) (.sl 6 (List.map e_ref09_Type p1))), (8, .one .top (.int .i64 r24)), (9, .one .top (.int .i64 r25)), (46, .one (.own 0) (.sl 6 (List.map e_ref09_Type p1)))], [], H27⟩ (by kernel_rfl) (by kernel_rfl) ?_
  refine o_one ⟨[(1, .one (.own 0) (.sl 6 (List.map e_ref09_Type p1))), (8, .one .top (.int .i64 r24)), (9, .one .top (.int .i64 r25)), (46, .one (.own 0) (.sl 6 (List.map e_ref09_Type p1))), (47, .tup [.one (.own 0) (.sl 6 (List.map e_ref09_Type r28)), .one .top (.int .i64 r29), .one .top (.int .i64 r30)])], [], H27⟩ (st_call (d := (some 47)) (fz := false) (pure := true) (own := false) (⟨[(1, .one (.own 0) (.sl 6 (List.map e_ref09_Type p1))), (8, .one .top (.int .i64 r24)), (9, .one .top (.int .i64 r25)), (46, .one (.own 0) (.sl 6 (List.map e_ref09_Type p1)))], [], H27⟩ : St) (ok_ref09_Open H27 c31) (by kernel_rfl) (by kernel_rfl)) ?_
  refine o_run 7 ⟨[(1, .one (.own 0) (.sl 6 (List.map e_ref09_Type p1))), (8, .one .top (.int .i64 r24)), (9, .one .top (.int .i64 r25)), (10, .one (.own 0) (.sl 6 (List.map e_ref09_Type r28))), (11, .one .top (.int .i64 r29)), (12, .one .top (.int .i64 r30)), (45, .tup [.one (.own 0) (.sl 6 (List.map e_ref09_Type r28)), .one .top (.int .i64 r29), .one .top (.int .i64 r30)]), (46, .one (.own 0) (.sl 6 (List.map e_ref09_Type p1))), (47, .tup [.one (.own 0) (.sl 6 (List.map e_ref09_Type r28)), .one .top (.int .i64 r29), .one .top (.int .i64 r30)]), (48, .one (.own 0) (.sl 6 (List.map e_ref09_Type r28))), (49, .one .top (.int .i64 r29)), (50, .one .top (.int .i64 r30))], [], H27⟩ (by kernel_rfl) (by kernel_rfl) ?_
  exact o_end (by kernel_rfl) (by kernel_rfl)
  exact ⟨(r24, r25, r28, r29, r30, H27), hF, (by kernel_rfl)⟩
  refine w_cF (m := .top) h23 (s1 := (⟨[(0, .one .top (Ptr.av p0)), (1, .one (.own 0) (.sl 6 (List.map e_ref09_Type p1))), (5, .one .top (.loc 5 0)), (8, .one .top (.int .i64 0)), (11, .one .top (.int .i64 0)), (15, .one .top (.int .i64 p2.Kind_))], [(5, [(.top, .int .i64 p2.Kind_), (.top, .int .i64 p2.A_), (.top, .int .i64 p2.B_), (.top, .str p2.Name_)])], H⟩ : St)) (by kernel_rfl) (by kernel_rfl) ?_
  refine w_seq ?_
  refine w_reg ⟨[(0, .one .top (Ptr.av p0)), (1, .one (.own 0) (.sl 6 (List.map e_ref09_Type p1))), (5, .one .top (.loc 5 0)), (8, .one .top (.int .i64 0)), (11, .one .top (.int .i64 0)), (15, .one .top (.int .i64 p2.Kind_)), (51, .one .top (.bool (p2.Kind_ == 2)))], [(5, [(.top, .int .i64 p2.Kind_), (.top, .int .i64 p2.A_), (.top, .int .i64 p2.B_), (.top, .str p2.Name_)])], H⟩ (by generalize p0 = qp0; cases qp0 <;> kernel_rfl) ?_
  refine w_join (α := (Int × Int × Int × (List T_ref09_Type) × Int × Heap)) (fun x => (⟨[(8, .one .top (.int .i64 x.1)), (9, .one .top (.int .i64 x.2.2.1)), (10, .one (.own 0) (.sl 6 (List.map e_ref09_Type x.2.2.2.1))), (11, .one .top (.int .i64 x.2.1)), (12, .one .top (.int .i64 x.2.2.2.2.1))], [], x.2.2.2.2.2⟩ : St)) (fun x => law09_do_j3 x.1 x.2.1 x.2.2.1 x.2.2.2.1 x.2.2.2.2.1 x.2.2.2.2.2 = some (Hr, ra, rb)) ?_ ?_
  rintro ⟨j32, j33, j34, j35, j36, H37⟩ hF
  replace hF : law09_do_j3 j32 j33 j34 j35 j36 H37 = some (Hr, ra, rb) := hF
  unfold law09_do_j3 at hF
  exact ⟨(j32, j34, j35, j33, j36, H37), hF, (by kernel_rfl)⟩
  rcases if_inv hF with ⟨h38, hF⟩ | ⟨h38, hF⟩
  refine w_cT (m := .top) h38 (s1 := (⟨[(0, .one .top (Ptr.av p0)), (1, .one (.own 0) (.sl 6 (List.map e_ref09_Type p1))), (5, .one .top (.loc 5 0)), (8, .one .top (.int .i64 0)), (11, .one .top (.int .i64 0))], [(5, [(.top, .int .i64 p2.Kind_), (.top, .int .i64 p2.A_), (.top, .int .i64 p2.B_), (.top, .str p2.Name_)])], H⟩ : St)) (by kernel_rfl) (by kernel_rfl) ?_
  refine w_seq ?_
  obtain ⟨H41, r39, c40, hF⟩ := bind2_inv hF
  refine w_regO ⟨[(1, .one (.own 0) (.sl 6 (List.map e_ref09_Type p1))), (5, .one .top (.loc 5 0)), (8, .one .top (.int .i64 0)), (9, .one .top (.int .i64 r39)), (11, .one .top (.int .i64 0))], [(5, [(.top, .int .i64 p2.Kind_), (.top, .int .i64 p2.A_), (.top, .int .i64 p2.B_), (.top, .str p2.Name_)])], H41⟩ ?_ ?_
  refine o_run 7 ⟨[(0, .one .top (Ptr.av p0)), (1, .one (.own 0) (.sl 6 (List.map e_ref09_Type p1))), (5, .one .top (.loc 5 0)), (8, .one .top (.int .i64 0)), (11, .one .top (.int .i64 0)), (53, .one .top (Ptr.av p0)), (54, .one .top (.loc 5 1)), (55, .one .top (.int .i64 p2.A_)), (56, .one .top (.loc 5 3)), (57, .one .top (.str p2.Name_)), (58, .one .top (.loc 5 2)), (59, .one .top (.int .i64 p2.B_))], [(5, [(.top, .int .i64 p2.Kind_), (.top, .int .i64 p2.A_), (.top, .int .i64 p2.B_), (.top, .str p2.Name_)])], H⟩ (by kernel_rfl) (by generalize p0 = qp0; cases qp0 <;> kernel_rfl) ?_
  refine o_one ⟨[(0, .one .top (Ptr.av p0)), (1, .one (.own 0) (.sl 6 (List.map e_ref09_Type p1))), (5, .one .top (.loc 5 0)), (8, .one .top (.int .i64 0)), (11, .one .top (.int .i64 0)), (53, .one .top (Ptr.av p0)), (54, .one .top (.loc 5 1)), (55, .one .top (.int .i64 p2.A_)), (56, .one .top (.loc 5 3)), (57, .one .top (.str p2.Name_)), (58, .one .top (.loc 5 2)), (59, .one .top (.int .i64 p2.B_)), (60, .one .top (.int .i64 r39))], [(5, [(.top, .int .i64 p2.Kind_), (.top, .int .i64 p2.A_), (.top, .int .i64 p2.B_), (.top, .str p2.Name_)])], H41⟩ (st_call (d := (some 60)) (fz := false) (pure := false) (own := false) (⟨[(0, .one .top (Ptr.av p0)), (1, .one (.own 0) (.sl 6 (List.map e_ref09_Type p1))), (5, .one .top (.loc 5 0)), (8, .one .top (.int .i64 0)), (11, .one .top (.int .i64 0)), (53, .one .top (Ptr.av p0)), (54, .one .top (.loc 5 1)), (55, .one .top (.int .i64 p2.A_)), (56, .one .top (.loc 5 3)), (57, .one .top (.str p2.Name_)), (58, .one .top (.loc 5 2)), (59, .one .top (.int .i64 p2.B_))], [(5, [(.top, .int .i64 p2.Kind_), (.top, .int .i64 p2.A_), (.top, .int .i64 p2.B_), (.top, .str p2.Name_)])], H⟩ : St) (ok_types_Table_Field H c40) (by generalize p0 = qp0; cases qp0 <;> kernel_rfl) (by generalize p0 = qp0; cases qp0 <;> kernel_rfl)) ?_
  refine o_run 1 ⟨[(0, .one .top (Ptr.av p0)), (1, .one (.own 0) (.sl 6 (List.map e_ref09_Type p1))), (5, .one .top (.loc 5 0)), (8, .one .top (.int .i64 0)), (9, .one .top (.int .i64 r39)), (11, .one .top (.int .i64 0)), (53, .one .top (Ptr.av p0)), (54, .one .top (.loc 5 1)), (55, .one .top (.int .i64 p2.A_)), (56, .one .top (.loc 5 3)), (57, .one .top (.str p2.Name_)), (58, .one .top (.loc 5 2)), (59, .one .top (.int .i64 p2.B_)), (60, .one .top (.int .i64 r39))], [(5, [(.top, .int .i64 p2.Kind_), (.top, .int .i64 p2.A_), (.top, .int .i64 p2.B_), (.top, .str p2.Name_)])], H41⟩ (by kernel_rfl) (by generalize p0 = qp0; cases qp0 <;> kernel_rfl) ?_
  exact o_end (by kernel_rfl) (by kernel_rfl)
  obtain ⟨r42, r43, c44, hF⟩ := bind2_inv hF
  refine w_regO ⟨[(8, .one .top (.int .i64 0)), (9, .one .top (.int .i64 r39)), (10, .one (.own 0) (.sl 6 (List.map e_ref09_Type r42))), (11, .one .top (.int .i64 0)), (12, .one .top (.int .i64 r43))], [], H41⟩ ?_ ?_
  refine o_run 7 ⟨[(1, .one (.own 0) (.sl 6 (List.map e_ref09_Type p1))), (5, .one .top (.loc 5 0)), (8, .one .top (.int .i64 0)), (9, .one .top (.int .i64 r39)), (11, .one .top (.int .i64 0)), (62, .one (.own 0) (.sl 6 (List.map e_ref09_Type p1))), (63, .one .top (.loc 5 1)), (64, .one .top (.int .i64 p2.A_)), (65, .one .top (.loc 5 3)), (66, .one .top (.str p2.Name_)), (67, .one .top (.loc 5 2)), (68, .one .top (.int .i64 p2.B_))], [(5, [(.top, .int .i64 p2.Kind_), (.top, .int .i64 p2.A_), (.top, .int .i64 p2.B_), (.top, .str p2.Name_)])], H41⟩ (by kernel_rfl) (by kernel_rfl) ?_
  refine o_one ⟨[(1, .one (.own 0) (.sl 6 (List.map e_ref09_Type p1))), (5, .one .top (.loc 5 0)), (8, .one .top (.int .i64 0)), (9, .one .top (.int .i64 r39)), (11, .one .top (.int .i64 0)), (62, .one (.own 0) (.sl 6 (List.map e_ref09_Type p1))), (63, .one .top (.loc 5 1)), (64, .one .top (.int .i64 p2.A_)), (65, .one .top (.loc 5 3)), (66, .one .top (.str p2.Name_)), (67, .one .top (.loc 5 2)), (68, .one .top (.int .i64 p2.B_)), (69, .tup [.one (.own 0) (.sl 6 (List.map e_ref09_Type r42)), .one .top (.int .i64 r43)])], [(5, [(.top, .int .i64 p2.Kind_), (.top, .int .i64 p2.A_), (.top, .int .i64 p2.B_), (.top, .str p2.Name_)])], H41⟩ (st_call (d := (some 69)) (fz := false) (pure := true) (own := false) (⟨[(1, .one (.own 0) (.sl 6 (List.map e_ref09_Type p1))), (5, .one .top (.loc 5 0)), (8, .one .top (.int .i64 0)), (9, .one .top (.int .i64 r39)), (11, .one .top (.int .i64 0)), (62, .one (.own 0) (.sl 6 (List.map e_ref09_Type p1))), (63, .one .top (.loc 5 1)), (64, .one .top (.int .i64 p2.A_)), (65, .one .top (.loc 5 3)), (66, .one .top (.str p2.Name_)), (67, .one .top (.loc 5 2)), (68, .one .top (.int .i64 p2.B_))], [(5, [(.top, .int .i64 p2.Kind_), (.top, .int .i64 p2.A_), (.top, .int .i64 p2.B_), (.top, .str p2.Name_)])], H41⟩ : St) (ok_ref09_AddField H41 c44) (by kernel_rfl) (by kernel_rfl)) ?_
  refine o_run 5 ⟨[(1, .one (.own 0) (.sl 6 (List.map e_ref09_Type p1))), (5, .one .top (.loc 5 0)), (8, .one .top (.int .i64 0)), (9, .one .top (.int .i64 r39)), (10, .one (.own 0) (.sl 6 (List.map e_ref09_Type r42))), (11, .one .top (.int .i64 0)), (12, .one .top (.int .i64 r43)), (61, .tup [.one (.own 0) (.sl 6 (List.map e_ref09_Type r42)), .one .top (.int .i64 r43)]), (62, .one (.own 0) (.sl 6 (List.map e_ref09_Type p1))), (63, .one .top (.loc 5 1)), (64, .one .top (.int .i64 p2.A_)), (65, .one .top (.loc 5 3)), (66, .one .top (.str p2.Name_)), (67, .one .top (.loc 5 2)), (68, .one .top (.int .i64 p2.B_)), (69, .tup [.one (.own 0) (.sl 6 (List.map e_ref09_Type r42)), .one .top (.int .i64 r43)]), (70, .one (.own 0) (.sl 6 (List.map e_ref09_Type r42))), (71, .one .top (.int .i64 r43))], [(5, [(.top, .int .i64 p2.Kind_), (.top, .int .i64 p2.A_), (.top, .int .i64 p2.B_), (.top, .str p2.Name_)])], H41⟩ (by kernel_rfl) (by kernel_rfl) ?_
  exact o_end (by kernel_rfl) (by kernel_rfl)
  exact ⟨(0, 0, r39, r42, r43, H41), hF, (by kernel_rfl)⟩
  refine w_cF (m := .top) h38 (s1 := (⟨[(0, .one .top (Ptr.av p0)), (1, .one (.own 0) (.sl 6 (List.map e_ref09_Type p1))), (5, .one .top (.loc 5 0)), (8, .one .top (.int .i64 0)), (11, .one .top (.int .i64 0)), (15, .one .top (.int .i64 p2.Kind_))], [(5, [(.top, .int .i64 p2.Kind_), (.top, .int .i64 p2.A_), (.top, .int .i64 p2.B_), (.top, .str p2.Name_)])], H⟩ : St)) (by kernel_rfl) (by kernel_rfl) ?_
  refine w_seq ?_
  refine w_reg ⟨[(0, .one .top (Ptr.av p0)), (1, .one (.own 0) (.sl 6 (List.map e_ref09_Type p1))), (5, .one .top (.loc 5 0)), (8, .one .top (.int .i64 0)), (11, .one .top (.int .i64 0)), (15, .one .top (.int .i64 p2.Kind_)), (72, .one .top (.bool (p2.Kind_ == 3)))], [(5, [(.top, .int .i64 p2.Kind_), (.top, .int .i64 p2.A_), (.top, .int .i64 p2.B_), (.top, .str p2.Name_)])], H⟩ (by generalize p0 = qp0; cases qp0 <;> kernel_rfl) ?_
  refine w_join (α := (Int × Int × Int × (List T_ref09_Type) × Int × Heap)) (fun x => (⟨[(8, .one .top (.int .i64 x.1)), (9, .one .top (.int .i64 x.2.2.1)), (10, .one (.own 0) (.sl 6 (List.map e_ref09_Type x.2.2.2.1))), (11, .one .top (.int .i64 x.2.1)), (12, .one .top (.int .i64 x.2.2.2.2.1))], [], x.2.2.2.2.2⟩ : St)) (fun x => law09_do_j4 x.1 x.2.1 x.2.2.1 x.2.2.2.1 x.2.2.2.2.1 x.2.2.2.2.2 = some (Hr, ra, rb)) ?_ ?_
  rintro ⟨j45, j46, j47, j48, j49, H50⟩ hF
  replace hF : law09_do_j4 j45 j46 j47 j48 j49 H50 = some (Hr, ra, rb) := hF
  unfold law09_do_j4 at hF
  exact ⟨(j45, j46, j47, j48, j49, H50), hF, (by kernel_rfl)⟩
  rcases if_inv hF with ⟨h51, hF⟩ | ⟨h51, hF⟩
  refine w_cT (m := .top) h51 (s1 := (⟨[(0, .one .top (Ptr.av p0)), (1, .one (.own 0) (.sl 6 (List.map e_ref09_Type p1))), (5, .one .top (.loc 5 0)), (8, .one .top (.int .i64 0)), (11, .one .top (.int .i64 0))], [(5, [(.top, .int .i64 p2.Kind_), (.top, .int .i64 p2.A_), (.top, .int .i64 p2.B_), (.top, .str p2.Name_)])], H⟩ : St)) (by kernel_rfl) (by kernel_rfl) ?_
  refine w_seq ?_
  obtain ⟨H54, r52, c53, hF⟩ := bind2_inv hF
  refine w_regO ⟨[(1, .one (.own 0) (.sl 6 (List.map e_ref09_Type p1))), (5, .one .top (.loc 5 0)), (8, .one .top (.int .i64 0)), (9, .one .top (.int .i64 r52)), (11, .one .top (.int .i64 0))], [(5, [(.top, .int .i64 p2.Kind_), (.top, .int .i64 p2.A_), (.top, .int .i64 p2.B_), (.top, .str p2.Name_)])], H54⟩ ?_ ?_
  refine o_run 3 ⟨[(0, .one .top (Ptr.av p0)), (1, .one (.own 0) (.sl 6 (List.map e_ref09_Type p1))), (5, .one .top (.loc 5 0)), (8, .one .top (.int .i64 0)), (11, .one .top (.int .i64 0)), (74, .one .top (Ptr.av p0)), (75, .one .top (.loc 5 1)), (76, .one .top (.int .i64 p2.A_))], [(5, [(.top, .int .i64 p2.Kind_), (.top, .int .i64 p2.A_), (.top, .int .i64 p2.B_), (.top, .str p2.Name_)])], H⟩ (by kernel_rfl) (by generalize p0 = qp0; cases qp0 <;> kernel_rfl) ?_
  refine o_one ⟨[(0, .one .top (Ptr.av p0)), (1, .one (.own 0) (.sl 6 (List.map e_ref09_Type p1))), (5, .one .top (.loc 5 0)), (8, .one .top (.int .i64 0)), (11, .one .top (.int .i64 0)), (74, .one .top (Ptr.av p0)), (75, .one .top (.loc 5 1)), (76, .one .top (.int .i64 p2.A_)), (77, .one .top (.int .i64 r52))], [(5, [(.top, .int .i64 p2.Kind_), (.top, .int .i64 p2.A_), (.top, .int .i64 p2.B_), (.top, .str p2.Name_)])], H54⟩ (st_call (d := (some 77)) (fz := false) (pure := false) (own := false) (⟨[(0, .one .top (Ptr.av p0)), (1, .one (.own 0) (.sl 6 (List.map e_ref09_Type p1))), (5, .one .top (.loc 5 0)), (8, .one .top (.int .i64 0)), (11, .one .top (.int .i64 0)), (74, .one .top (Ptr.av p0)), (75, .one .top (.loc 5 1)), (76, .one .top (.int .i64 p2.A_))], [(5, [(.top, .int .i64 p2.Kind_), (.top, .int .i64 p2.A_), (.top, .int .i64 p2.B_), (.top, .str p2.Name_)])], H⟩ : St) (ok_types_Table_Close H c53) (by generalize p0 = qp0; cases qp0 <;> kernel_rfl) (by generalize p0 = qp0; cases qp0 <;> kernel_rfl)) ?_
  refine o_run 1 ⟨[(0, .one .top (Ptr.av p0)), (1, .one (.own 0) (.sl 6 (List.map e_ref09_Type p1))), (5, .one .top (.loc 5 0)), (8, .one .top (.int .i64 0)), (9, .one .top (.int .i64 r52)), (11, .one .top (.int .i64 0)), (74, .one .top (Ptr.av p0)), (75, .one .top (.loc 5 1)), (76, .one .top (.int .i64 p2.A_)), (77, .one .top (.int .i64 r52))], [(5, [(.top, .int .i64 p2.Kind_), (.top, .int .i64 p2.A_), (.top, .int .i64 p2.B_), (.top, .str p2.Name_)])], H54⟩ (by kernel_rfl) (by generalize p0 = qp0; cases qp0 <;> kernel_rfl) ?_
  exact o_end (by kernel_rfl) (by kernel_rfl)
  obtain ⟨r55, r56, c57, hF⟩ := bind2_inv hF
  refine w_regO ⟨[(8, .one .top (.int .i64 0)), (9, .one .top (.int .i64 r52)), (10, .one (.own 0) (.sl 6 (List.map e_ref09_Type r55))), (11, .one .top (.int .i64 0)), (12, .one .top (.int .i64 r56))], [], H54⟩ ?_ ?_
  refine o_run 3 ⟨[(1, .one (.own 0) (.sl 6 (List.map e_ref09_Type p1))), (5, .one .top (.loc 5 0)), (8, .one .top (.int .i64 0)), (9, .one .top (.int .i64 r52)), (11, .one .top (.int .i64 0)), (79, .one (.own 0) (.sl 6 (List.map e_ref09_Type p1))), (80, .one .top (.loc 5 1)), (81, .one .top (.int .i64 p2.A_))], [(5, [(.top, .int .i64 p2.Kind_), (.top, .int .i64 p2.A_), (.top, .int .i64 p2.B_), (.top, .str p2.Name_)])], H54⟩ (by kernel_rfl) (by kernel_rfl) ?_
  refine o_one ⟨[(1, .one (.own 0) (.sl 6 (List.map e_ref09_Type p1))), (5, .one .top (.loc 5 0)), (8, .one .top (.int .i64 0)), (9, .one .top (.int .i64 r52)), (11, .one .top (.int .i64 0)), (79, .one (.own 0) (.sl 6 (List.map e_ref09_Type p1))), (80, .one .top (.loc 5 1)), (81, .one .top (.int .i64 p2.A_)), (82, .tup [.one (.own 0) (.sl 6 (List.map e_ref09_Type r55)), .one .top (.int .i64 r56)])], [(5, [(.top, .int .i64 p2.Kind_), (.top, .int .i64 p2.A_), (.top, .int .i64 p2.B_), (.top, .str p2.Name_)])], H54⟩ (st_call (d := (some 82)) (fz := false) (pure := true) (own := false) (⟨[(1, .one (.own 0) (.sl 6 (List.map e_ref09_Type p1))), (5, .one .top (.loc 5 0)), (8, .one .top (.int .i64 0)), (9, .one .top (.int .i64 r52)), (11, .one .top (.int .i64 0)), (79, .one (.own 0) (.sl 6 (List.map e_ref09_Type p1))), (80, .one .top (.loc 5 1)), (81, .one .top (.int .i64 p2.A_))], [(5, [(.top, .int .i64 p2.Kind_), (.top, .int .i64 p2.A_), (.top, .int .i64 p2.B_), (.top, .str p2.Name_)])], H54⟩ : St) (ok_ref09_Close H54 c57) (by kernel_rfl) (by kernel_rfl)) ?_
  refine o_run 5 ⟨[(1, .one (.own 0) (.sl 6 (List.map e_ref09_Type p1))), (5, .one .top (.loc 5 0)), (8, .one .top (.int .i64 0)), (9, .one .top (.int .i64 r52)), (10, .one (.own 0) (.sl 6 (List.map e_ref09_Type r55))), (11, .one .top (.int .i64 0)), (12, .one .top (.int .i64 r56)), (78, .tup [.one (.own 0) (.sl 6 (List.map e_ref09_Type r55)), .one .top (.int .i64 r56)]), (79, .one (.own 0) (.sl 6 (List.map e_ref09_Type p1))), (80, .one .top (.loc 5 1)), (81, .one .top (.int .i64 p2.A_)), (82, .tup [.one (.own 0) (.sl 6 (List.map e_ref09_Type r55)), .one .top (.int .i64 r56)]), (83, .one (.own 0) (.sl 6 (List.map e_ref09_Type r55))), (84, .one .top (.int .i64 r56))], [(5, [(.top, .int .i64 p2.Kind_), (.top, .int .i64 p2.A_), (.top, .int .i64 p2.B_), (.top, .str p2.Name_)])], H54⟩ (by kernel_rfl) (by kernel_rfl) ?_
  exact o_end (by kernel_rfl) (by kernel_rfl)
  exact ⟨(0, 0, r52, r55, r56, H54), hF, (by kernel_rfl)⟩
  refine w_cF (m := .top) h51 (s1 := (⟨[(0, .one .top (Ptr.av p0)), (1, .one (.own 0) (.sl 6 (List.map e_ref09_Type p1))), (5, .one .top (.loc 5 0)), (15, .one .top (.int .i64 p2.Kind_))], [(5, [(.top, .int .i64 p2.Kind_), (.top, .int .i64 p2.A_), (.top, .int .i64 p2.B_), (.top, .str p2.Name_)])], H⟩ : St)) (by kernel_rfl) (by kernel_rfl) ?_
  refine w_seq ?_
  refine w_reg ⟨[(0, .one .top (Ptr.av p0)), (1, .one (.own 0) (.sl 6 (List.map e_ref09_Type p1))), (5, .one .top (.loc 5 0)), (85, .one .top (.bool (p2.Kind_ == 4)))], [(5, [(.top, .int .i64 p2.Kind_), (.top, .int .i64 p2.A_), (.top, .int .i64 p2.B_), (.top, .str p2.Name_)])], H⟩ (by generalize p0 = qp0; cases qp0 <;> kernel_rfl) ?_
  rcases if_inv hF with ⟨h58, hF⟩ | ⟨h58, hF⟩
  refine w_cT (m := .top) h58 (s1 := (⟨[(0, .one .top (Ptr.av p0)), (1, .one (.own 0) (.sl 6 (List.map e_ref09_Type p1))), (5, .one .top (.loc 5 0))], [(5, [(.top, .int .i64 p2.Kind_), (.top, .int .i64 p2.A_), (.top, .int .i64 p2.B_), (.top, .str p2.Name_)])], H⟩ : St)) (by kernel_rfl) (by kernel_rfl) ?_
  refine w_seq ?_
  obtain ⟨H62, r59, r60, c61, hF⟩ := bind3_inv hF
  refine w_regO ⟨[(1, .one (.own 0) (.sl 6 (List.map e_ref09_Type p1))), (5, .one .top (.loc 5 0)), (8, .one .top (.int .i64 r59)), (9, .one .top (.int .i64 r60))], [(5, [(.top, .int .i64 p2.Kind_), (.top, .int .i64 p2.A_), (.top, .int .i64 p2.B_), (.top, .str p2.Name_)])], H62⟩ ?_ ?_
  refine o_run 3 ⟨[(0, .one .top (Ptr.av p0)), (1, .one (.own 0) (.sl 6 (List.map e_ref09_Type p1))), (5, .one .top (.loc 5 0)), (88, .one .top (Ptr.av p0)), (89, .one .top (.loc 5 1)), (90, .one .top (.int .i64 p2.A_))], [(5, [(.top, .int .i64 p2.Kind_), (.top, .int .i64 p2.A_), (.top, .int .i64 p2.B_), (.top, .str p2.Name_)])], H⟩ (by kernel_rfl) (by generalize p0 = qp0; cases qp0 <;> kernel_rfl) ?_
  refine o_one ⟨[(0, .one .top (Ptr.av p0)), (1, .one (.own 0) (.sl 6 (List.map e_ref09_Type p1))), (5, .one .top (.loc 5 0)), (88, .one .top (Ptr.av p0)), (89, .one .top (.loc 5 1)), (90, .one .top (.int .i64 p2.A_)), (91, .tup [.one .top (.int .i64 r59), .one .top (.int .i64 r60)])], [(5, [(.top, .int .i64 p2.Kind_), (.top, .int .i64 p2.A_), (.top, .int .i64 p2.B_), (.top, .str p2.Name_)])], H62⟩ (st_call (d := (some 91)) (fz := false) (pure := false) (own := false) (⟨[(0, .one .top (Ptr.av p0)), (1, .one (.own 0) (.sl 6 (List.map e_ref09_Type p1))), (5, .one .top (.loc 5 0)), (88, .one .top (Ptr.av p0)), (89, .one .top (.loc 5 1)), (90, .one .top (.int .i64 p2.A_))], [(5, [(.top, .int .i64 p2.Kind_), (.top, .int .i64 p2.A_), (.top, .int .i64 p2.B_), (.top, .str p2.Name_)])], H⟩ : St) (ok_types_Table_Pointer H c61) (by generalize p0 = qp0; cases qp0 <;> kernel_rfl) (by generalize p0 = qp0; cases qp0 <;> kernel_rfl)) ?_
  refine o_run 5 ⟨[(0, .one .top (Ptr.av p0)), (1, .one (.own 0) (.sl 6 (List.map e_ref09_Type p1))), (5, .one .top (.loc 5 0)), (8, .one .top (.int .i64 r59)), (9, .one .top (.int .i64 r60)), (87, .tup [.one .top (.int .i64 r59), .one .top (.int .i64 r60)]), (88, .one .top (Ptr.av p0)), (89, .one .top (.loc 5 1)), (90, .one .top (.int .i64 p2.A_)), (91, .tup [.one .top (.int .i64 r59), .one .top (.int .i64 r60)]), (92, .one .top (.int .i64 r59)), (93, .one .top (.int .i64 r60))], [(5, [(.top, .int .i64 p2.Kind_), (.top, .int .i64 p2.A_), (.top, .int .i64 p2.B_), (.top, .str p2.Name_)])], H62⟩ (by kernel_rfl) (by generalize p0 = qp0; cases qp0 <;> kernel_rfl) ?_
  exact o_end (by kernel_rfl) (by kernel_rfl)
  obtain ⟨r63, r64, r65, c66, hF⟩ := bind3_inv hF
  refine w_regO ⟨[(8, .one .top (.int .i64 r59)), (9, .one .top (.int .i64 r60)), (10, .one (.own 0) (.sl 6 (List.map e_ref09_Type r63))), (11, .one .top (.int .i64 r64)), (12, .one .top (.int .i64 r65))], [], H62⟩ ?_ ?_
  refine o_run 3 ⟨[(1, .one (.own 0) (.sl 6 (List.map e_ref09_Type p1))), (5, .one .top (.loc 5 0)), (8, .one .top (.int .i64 r59)), (9, .one .top (.int .i64 r60)), (95, .one (.own 0) (.sl 6 (List.map e_ref09_Type p1))), (96, .one .top (.loc 5 1)), (97, .one .top (.int .i64 p2.A_))], [(5, [(.top, .int .i64 p2.Kind_), (.top, .int .i64 p2.A_), (.top, .int .i64 p2.B_), (.top, .str p2.Name_)])], H62⟩ (by kernel_rfl) (by kernel_rfl) ?_
  refine o_one ⟨[(1, .one (.own 0) (.sl 6 (List.map e_ref09_Type p1))), (5, .one .top (.loc 5 0)), (8, .one .top (.int .i64 r59)), (9, .one .top (.int .i64 r60)), (95, .one (.own 0) (.sl 6 (List.map e_ref09_Type p1))), (96, .one .top (.loc 5 1)), (97, .one .top (.int .i64 p2.A_)), (98, .tup [.one (.own 0) (.sl 6 (List.map e_ref09_Type r63)), .one .top (.int .i64 r64), .one .top (.int .i64 r65)])], [(5, [(.top, .int .i64 p2.Kind_), (.top, .int .i64 p2.A_), (.top, .int .i64 p2.B_), (.top, .str p2.Name_)])], H62⟩ (st_call (d := (some 98)) (fz := false) (pure := true) (own := false) (⟨[(1, .one (.own 0) (.sl 6 (List.map e_ref09_Type p1))), (5, .one .top (.loc 5 0)), (8, .one .top (.int .i64 r59)), (9, .one .top (.int .i64 r60)), (95, .one (.own 0) (.sl 6 (List.map e_ref09_Type p1))), (96, .one .top (.loc 5 1)), (97, .one .top (.int .i64 p2.A_))], [(5, [(.top, .int .i64 p2.Kind_), (.top, .int .i64 p2.A_), (.top, .int .i64 p2.B_), (.top, .str p2.Name_)])], H62⟩ : St) (ok_ref09_Pointer H62 c66) (by kernel_rfl) (by kernel_rfl)) ?_
  refine o_run 7 ⟨[(1, .one (.own 0) (.sl 6 (List.map e_ref09_Type p1))), (5, .one .top (.loc 5 0)), (8, .one .top (.int .i64 r59)), (9, .one .top (.int .i64 r60)), (10, .one (.own 0) (.sl 6 (List.map e_ref09_Type r63))), (11, .one .top (.int .i64 r64)), (12, .one .top (.int .i64 r65)), (94, .tup [.one (.own 0) (.sl 6 (List.map e_ref09_Type r63)), .one .top (.int .i64 r64), .one .top (.int .i64 r65)]), (95, .one (.own 0) (.sl 6 (List.map e_ref09_Type p1))), (96, .one .top (.loc 5 1)), (97, .one .top (.int .i64 p2.A_)), (98, .tup [.one (.own 0) (.sl 6 (List.map e_ref09_Type r63)), .one .top (.int .i64 r64), .one .top (.int .i64 r65)]), (99, .one (.own 0) (.sl 6 (List.map e_ref09_Type r63))), (100, .one .top (.int .i64 r64)), (101, .one .top (.int .i64 r65))], [(5, [(.top, .int .i64 p2.Kind_), (.top, .int .i64 p2.A_), (.top, .int .i64 p2.B_), (.top, .str p2.Name_)])], H62⟩ (by kernel_rfl) (by kernel_rfl) ?_
  exact o_end (by kernel_rfl) (by kernel_rfl)
  exact ⟨(r59, r64, r60, r63, r65, H62), hF, (by kernel_rfl)⟩
  refine w_cF (m := .top) h58 (s1 := (⟨[(1, .one (.own 0) (.sl 6 (List.map e_ref09_Type p1)))], [], H⟩ : St)) (by kernel_rfl) (by kernel_rfl) ?_
  refine w_seq ?_
  refine w_reg ⟨[(6, .one (.own 0) (.sl 6 (List.map e_ref09_Type p1))), (7, .one .top (.bool true))], [], H⟩ (by kernel_rfl) ?_
  refine w_ret ?_
  obtain ⟨e0, e1, e2⟩ := some3_inv hF
  subst e0
  subst e1
  subst e2
  exact fin_imp (v := .tup [.one (.own 0) (.sl 6 (List.map e_ref09_Type p1)), .one .top (.bool true)]) (by kernel_rfl) (by kernel_rfl) (by kernel_rfl)
end Go.Proofs.Abs
