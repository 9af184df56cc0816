/- The law CpuParts: whatever the input, it answers true. No conditions. (Part CpuPartsF3 of its proof.) -/
import Derived.Test.YtjheniapmdcelaaCpuPartsF2
set_option linter.unusedVariables false
set_option linter.unusedSimpArgs false
set_option linter.unusedSectionVars false
/- Printed by gen (walk.py). -/
namespace Go.Proofs.Abs
open Go Go.Proofs
set_option linter.unusedVariables false
set_option maxRecDepth 100000
set_option maxHeartbeats 0
noncomputable def ref04_trap  (p0 : T_ref04_Cpu) (p1 : Int) : Option (T_ref04_Cpu) :=
  if (decide (p0.PC_ < p0.Guard_)) = true then (bind1 (ref04_fault p0 111) fun r2 =>
  some r2)
  else (some (T_ref04_Cpu.mk p0.R_ p0.Vector_ p0.PC_ p1 p0.State_ p0.Why_ p0.Steps_ p0.Taken_ p0.Out_ p0.Entry_ p0.Vector_ p0.Guard_ p0.Limit_ p0.Input_))
noncomputable def ref03_Store  (p0 : T_ref03_Mem) (p1 : Int) (p2 : Int) : Option (T_ref03_Mem × Int) :=
  bind2 (ref03_Load p0 p1) fun r1 r2 =>
  if (r2 != 0) = true then (some (p0, r2))
  else (if (decide (p1 < (p0.Ends_.g 1))) = true then (some (p0, 32))
  else (bind1 (ref03_with p0 (IntKind.wrap .i64 (IntKind.wrap .u32 (Int.tdiv p1 4))) ([p2] : List Int)) fun r6 =>
  some (r6, 0)))
noncomputable def ref04_others_j1 (j1 : Int) (j2 : T_ref04_Cpu) : Option (T_ref04_Cpu) :=
  some (T_ref04_Cpu.mk j2.R_ j1 j2.EPC_ j2.Cause_ j2.State_ j2.Why_ j2.Steps_ j2.Taken_ j2.Out_ j2.Entry_ j2.Vector_ j2.Guard_ j2.Limit_ j2.Input_)
noncomputable def ref04_others_j2 (j4 : Int) (j5 : T_ref04_Cpu) : Option (T_ref04_Cpu) :=
  ref04_others_j1 j4 j5
noncomputable def ref04_others_j3 (p0 : T_ref04_Cpu) (j7 : T_ref04_Cpu) : Option (T_ref04_Cpu) :=
  ref04_others_j2 (IntKind.wrap .u32 (p0.PC_ + 4)) j7
noncomputable def ref04_others_j4 (p0 : T_ref04_Cpu) (j12 : T_ref04_Cpu) : Option (T_ref04_Cpu) :=
  ref04_others_j3 p0 j12
noncomputable def ref04_others_j5 (p0 : T_ref04_Cpu) (j23 : T_ref04_Cpu) : Option (T_ref04_Cpu) :=
  ref04_others_j4 p0 j23
noncomputable def ref04_others_j6 (p0 : T_ref04_Cpu) (j29 : T_ref04_Cpu) : Option (T_ref04_Cpu) :=
  ref04_others_j5 p0 j29
noncomputable def ref04_others_j7 (p0 : T_ref04_Cpu) (j40 : T_ref04_Cpu) : Option (T_ref04_Cpu) :=
  ref04_others_j6 p0 j40
noncomputable def ref04_others_j8 (p0 : T_ref04_Cpu) (j45 : T_ref04_Cpu) : Option (T_ref04_Cpu) :=
  ref04_others_j7 p0 j45
noncomputable def ref04_others_j9 (p0 : T_ref04_Cpu) (j54 : T_ref04_Cpu) : Option (T_ref04_Cpu) :=
  ref04_others_j8 p0 j54
noncomputable def ref04_others  (p0 : T_ref04_Cpu) (p1 : T_ref02_Instr) (p2 : Int) : Option (T_ref04_Cpu) :=
  if (p1.Op_ == 24) = true then (ref04_others_j1 p2 p0)
  else (if (p1.Op_ == 25) = true then (ref04_others_j2 p2 (T_ref04_Cpu.mk (arrL [(p0.R_.g 0), (p0.R_.g 1), (p0.R_.g 2), (p0.R_.g 3), (p0.R_.g 4), (p0.R_.g 5), (p0.R_.g 6), (p0.R_.g 7), (p0.R_.g 8), (p0.R_.g 9), (p0.R_.g 10), (p0.R_.g 11), (p0.R_.g 12), (p0.R_.g 13), (IntKind.wrap .u32 (p0.PC_ + 4)), (p0.R_.g 15)] : Arr 16 Int) p0.PC_ p0.EPC_ p0.Cause_ p0.State_ p0.Why_ p0.Steps_ p0.Taken_ p0.Out_ p0.Entry_ p0.Vector_ p0.Guard_ p0.Limit_ p0.Input_))
  else (if (p1.Op_ == 26) = true then (if (decide (p2 ≥ (IntKind.wrap .u32 p1.Imm_))) = true then (bind1 (ref04_trap p0 (IntKind.wrap .u32 p1.B_)) fun r10 =>
  some r10)
  else (ref04_others_j3 p0 p0))
  else (if (p1.Op_ == 27) = true then (if (p2 == 0) = true then (bind1 (ref04_trap p0 2) fun r15 =>
  some r15)
  else (ref04_others_j4 p0 p0))
  else (if (p1.Op_ == 28) = true then (bind1 (ref04_trap p0 (IntKind.wrap .u32 p1.Imm_)) fun r18 =>
  some r18)
  else (if (p1.Op_ == 29) = true then (bind1 (ref04_trap p0 p2) fun r21 =>
  some r21)
  else (if (p1.Op_ == 30) = true then (bind1 (app 16 ([] : List T_api_Event) p0.Out_) fun v25 =>
  bind1 (app 16 v25 ([(T_api_Event.mk p1.Imm_ (IntKind.wrap .i32 p2))] : List T_api_Event)) fun v27 =>
  ref04_others_j5 p0 (T_ref04_Cpu.mk p0.R_ p0.PC_ p0.EPC_ p0.Cause_ p0.State_ p0.Why_ p0.Steps_ p0.Taken_ v27 p0.Entry_ p0.Vector_ p0.Guard_ p0.Limit_ p0.Input_))
  else (if (p1.Op_ == 31) = true then (if (decide (p0.Taken_ ≥ (p0.Input_.length : Int))) = true then (bind1 (ref04_trap p0 7) fun r32 =>
  some r32)
  else (bind1 (gi p0.Input_ p0.Taken_) fun x34 =>
  bind1 (ga p0.R_ p1.A_) fun v36 =>
  bind1 (sa p0.R_ p1.A_ (IntKind.wrap .u32 x34)) fun v38 =>
  ref04_others_j6 p0 (T_ref04_Cpu.mk v38 p0.PC_ p0.EPC_ p0.Cause_ p0.State_ p0.Why_ p0.Steps_ (IntKind.wrap .i64 (p0.Taken_ + 1)) p0.Out_ p0.Entry_ p0.Vector_ p0.Guard_ p0.Limit_ p0.Input_)))
  else (if (p1.Op_ == 32) = true then (if (decide ((IntKind.wrap .i32 p2) < (IntKind.wrap .i32 p0.Limit_))) = true then (bind1 (ref04_trap p0 5) fun r43 =>
  some r43)
  else (ref04_others_j7 p0 p0))
  else (if (p1.Op_ == 33) = true then (if (decide (p1.Imm_ > 1)) = true then (bind1 (ref04_fault p0 20) fun r48 =>
  some r48)
  else (bind1 (ga p0.R_ p1.A_) fun v50 =>
  bind1 (sa p0.R_ p1.A_ p0.EPC_) fun v52 =>
  if (p1.Imm_ == 1) = true then (bind1 (ga v52 p1.A_) fun v56 =>
  bind1 (sa v52 p1.A_ p0.Cause_) fun v58 =>
  ref04_others_j9 p0 (T_ref04_Cpu.mk v58 p0.PC_ p0.EPC_ p0.Cause_ p0.State_ p0.Why_ p0.Steps_ p0.Taken_ p0.Out_ p0.Entry_ p0.Vector_ p0.Guard_ p0.Limit_ p0.Input_))
  else (ref04_others_j9 p0 (T_ref04_Cpu.mk v52 p0.PC_ p0.EPC_ p0.Cause_ p0.State_ p0.Why_ p0.Steps_ p0.Taken_ p0.Out_ p0.Entry_ p0.Vector_ p0.Guard_ p0.Limit_ p0.Input_))))
  else (ref04_others_j8 p0 p0))))))))))
noncomputable def ref04_do_j1 (j20 : Int) (j21 : T_ref04_Cpu) (j22 : T_ref03_Mem) : Option (T_ref04_Cpu × T_ref03_Mem) :=
  some ((T_ref04_Cpu.mk j21.R_ j20 j21.EPC_ j21.Cause_ j21.State_ j21.Why_ j21.Steps_ j21.Taken_ j21.Out_ j21.Entry_ j21.Vector_ j21.Guard_ j21.Limit_ j21.Input_), j22)
noncomputable def ref04_do_j2 (j28 : Int) (j29 : T_ref04_Cpu) (j30 : T_ref03_Mem) : Option (T_ref04_Cpu × T_ref03_Mem) :=
  ref04_do_j1 j28 j29 j30
noncomputable def ref04_do_j3 (j36 : Int) (j37 : T_ref04_Cpu) (j38 : T_ref03_Mem) : Option (T_ref04_Cpu × T_ref03_Mem) :=
  ref04_do_j2 j36 j37 j38
noncomputable def ref04_do_j4 (j44 : Int) (j45 : T_ref04_Cpu) (j46 : T_ref03_Mem) : Option (T_ref04_Cpu × T_ref03_Mem) :=
  ref04_do_j3 j44 j45 j46
noncomputable def ref04_do_j5 (j52 : Int) (j53 : T_ref04_Cpu) (j54 : T_ref03_Mem) : Option (T_ref04_Cpu × T_ref03_Mem) :=
  ref04_do_j4 j52 j53 j54
noncomputable def ref04_do_j6 (j60 : Int) (j61 : T_ref04_Cpu) (j62 : T_ref03_Mem) : Option (T_ref04_Cpu × T_ref03_Mem) :=
  ref04_do_j5 j60 j61 j62
noncomputable def ref04_do_j7 (j74 : Int) (j75 : T_ref04_Cpu) (j76 : T_ref03_Mem) : Option (T_ref04_Cpu × T_ref03_Mem) :=
  ref04_do_j6 j74 j75 j76
noncomputable def ref04_do_j8 (p1 : T_ref03_Mem) (j84 : Int) (j85 : T_ref04_Cpu) : Option (T_ref04_Cpu × T_ref03_Mem) :=
  ref04_do_j7 j84 j85 p1
noncomputable def ref04_do_j9 (p1 : T_ref03_Mem) (p0 : T_ref04_Cpu) (j87 : Int) : Option (T_ref04_Cpu × T_ref03_Mem) :=
  ref04_do_j8 p1 j87 p0
noncomputable def ref04_do_j10 (p1 : T_ref03_Mem) (j89 : Int) (j90 : T_ref04_Cpu) : Option (T_ref04_Cpu × T_ref03_Mem) :=
  ref04_do_j8 p1 j89 j90
noncomputable def ref04_do_j11 (p1 : T_ref03_Mem) (p0 : T_ref04_Cpu) (j92 : Int) : Option (T_ref04_Cpu × T_ref03_Mem) :=
  ref04_do_j10 p1 j92 p0
noncomputable def ref04_do_j12 (p1 : T_ref03_Mem) (p0 : T_ref04_Cpu) (p2 : T_ref02_Instr) (j94 : T_ref04_Cpu) : Option (T_ref04_Cpu × T_ref03_Mem) :=
  ref04_do_j10 p1 (IntKind.wrap .u32 ((IntKind.wrap .u32 (p0.PC_ + 4)) + (IntKind.wrap .u32 (4 * (IntKind.wrap .u32 p2.Imm_))))) j94
noncomputable def ref04_do  (p0 : T_ref04_Cpu) (p1 : T_ref03_Mem) (p2 : T_ref02_Instr) : Option (T_ref04_Cpu × T_ref03_Mem) :=
  bind1 (ga p0.R_ p2.A_) fun v1 =>
  bind1 (ga p0.R_ p2.B_) fun v3 =>
  if ((decide (p2.Op_ ≥ 6)) && (decide (p2.Op_ ≤ 17))) = true then (bind1 (ga p0.R_ p2.C_) fun v7 =>
  bind2 (ref04_reckon p2.Op_ v3 v7) fun r9 r10 =>
  if (!r10) = true then (bind1 (ref04_trap p0 3) fun r13 =>
  some (r13, p1))
  else (bind1 (ga p0.R_ p2.A_) fun v15 =>
  bind1 (sa p0.R_ p2.A_ r9) fun v17 =>
  some ((T_ref04_Cpu.mk v17 (IntKind.wrap .u32 (p0.PC_ + 4)) p0.EPC_ p0.Cause_ p0.State_ p0.Why_ p0.Steps_ p0.Taken_ p0.Out_ p0.Entry_ p0.Vector_ p0.Guard_ p0.Limit_ p0.Input_), p1)))
  else (if (p2.Op_ == 1) = true then (some ((T_ref04_Cpu.mk p0.R_ p0.PC_ p0.EPC_ p0.Cause_ 1 p0.Why_ p0.Steps_ p0.Taken_ p0.Out_ p0.Entry_ p0.Vector_ p0.Guard_ p0.Limit_ p0.Input_), p1))
  else (if (p2.Op_ == 2) = true then (bind1 (ga p0.R_ p2.A_) fun v24 =>
  bind1 (sa p0.R_ p2.A_ (IntKind.wrap .u32 p2.Imm_)) fun v26 =>
  ref04_do_j1 (IntKind.wrap .u32 (p0.PC_ + 4)) (T_ref04_Cpu.mk v26 p0.PC_ p0.EPC_ p0.Cause_ p0.State_ p0.Why_ p0.Steps_ p0.Taken_ p0.Out_ p0.Entry_ p0.Vector_ p0.Guard_ p0.Limit_ p0.Input_) p1)
  else (if (p2.Op_ == 3) = true then (bind1 (ga p0.R_ p2.A_) fun v32 =>
  bind1 (sa p0.R_ p2.A_ (IntKind.wrap .u32 ((IntKind.wrap .u32 p2.Imm_) * 65536))) fun v34 =>
  ref04_do_j2 (IntKind.wrap .u32 (p0.PC_ + 4)) (T_ref04_Cpu.mk v34 p0.PC_ p0.EPC_ p0.Cause_ p0.State_ p0.Why_ p0.Steps_ p0.Taken_ p0.Out_ p0.Entry_ p0.Vector_ p0.Guard_ p0.Limit_ p0.Input_) p1)
  else (if (p2.Op_ == 4) = true then (bind1 (ga p0.R_ p2.A_) fun v40 =>
  bind1 (sa p0.R_ p2.A_ (bitsOf .or .u32 v3 (IntKind.wrap .u32 p2.Imm_))) fun v42 =>
  ref04_do_j3 (IntKind.wrap .u32 (p0.PC_ + 4)) (T_ref04_Cpu.mk v42 p0.PC_ p0.EPC_ p0.Cause_ p0.State_ p0.Why_ p0.Steps_ p0.Taken_ p0.Out_ p0.Entry_ p0.Vector_ p0.Guard_ p0.Limit_ p0.Input_) p1)
  else (if (p2.Op_ == 5) = true then (bind1 (ga p0.R_ p2.A_) fun v48 =>
  bind1 (sa p0.R_ p2.A_ (IntKind.wrap .u32 (v3 + (IntKind.wrap .u32 p2.Imm_)))) fun v50 =>
  ref04_do_j4 (IntKind.wrap .u32 (p0.PC_ + 4)) (T_ref04_Cpu.mk v50 p0.PC_ p0.EPC_ p0.Cause_ p0.State_ p0.Why_ p0.Steps_ p0.Taken_ p0.Out_ p0.Entry_ p0.Vector_ p0.Guard_ p0.Limit_ p0.Input_) p1)
  else (if (p2.Op_ == 34) = true then (bind1 (ga p0.R_ p2.A_) fun v56 =>
  bind1 (sa p0.R_ p2.A_ (bitsOf .xor .u32 v3 (IntKind.wrap .u32 p2.Imm_))) fun v58 =>
  ref04_do_j5 (IntKind.wrap .u32 (p0.PC_ + 4)) (T_ref04_Cpu.mk v58 p0.PC_ p0.EPC_ p0.Cause_ p0.State_ p0.Why_ p0.Steps_ p0.Taken_ p0.Out_ p0.Entry_ p0.Vector_ p0.Guard_ p0.Limit_ p0.Input_) p1)
  else (if (p2.Op_ == 18) = true then (bind2 (ref03_Load p1 (IntKind.wrap .u32 (v3 + (IntKind.wrap .u32 p2.Imm_)))) fun r64 r65 =>
  if (r65 != 0) = true then (bind1 (ref04_fault p0 r65) fun r68 =>
  some (r68, p1))
  else (bind1 (ga p0.R_ p2.A_) fun v70 =>
  bind1 (sa p0.R_ p2.A_ r64) fun v72 =>
  ref04_do_j6 (IntKind.wrap .u32 (p0.PC_ + 4)) (T_ref04_Cpu.mk v72 p0.PC_ p0.EPC_ p0.Cause_ p0.State_ p0.Why_ p0.Steps_ p0.Taken_ p0.Out_ p0.Entry_ p0.Vector_ p0.Guard_ p0.Limit_ p0.Input_) p1))
  else (if (p2.Op_ == 19) = true then (bind2 (ref03_Store p1 (IntKind.wrap .u32 (v3 + (IntKind.wrap .u32 p2.Imm_))) v1) fun r78 r79 =>
  if (r79 != 0) = true then (bind1 (ref04_fault p0 r79) fun r82 =>
  some (r82, p1))
  else (ref04_do_j7 (IntKind.wrap .u32 (p0.PC_ + 4)) p0 r78))
  else (if (p2.Op_ == 20) = true then (if (v1 == 0) = true then (ref04_do_j9 p1 p0 (IntKind.wrap .u32 ((IntKind.wrap .u32 (p0.PC_ + 4)) + (IntKind.wrap .u32 (4 * (IntKind.wrap .u32 p2.Imm_))))))
  else (ref04_do_j9 p1 p0 (IntKind.wrap .u32 (p0.PC_ + 4))))
  else (if (p2.Op_ == 21) = true then (if (v1 != 0) = true then (ref04_do_j11 p1 p0 (IntKind.wrap .u32 ((IntKind.wrap .u32 (p0.PC_ + 4)) + (IntKind.wrap .u32 (4 * (IntKind.wrap .u32 p2.Imm_))))))
  else (ref04_do_j11 p1 p0 (IntKind.wrap .u32 (p0.PC_ + 4))))
  else (if (p2.Op_ == 22) = true then (ref04_do_j12 p1 p0 p2 p0)
  else (if (p2.Op_ == 23) = true then (ref04_do_j12 p1 p0 p2 (T_ref04_Cpu.mk (arrL [(p0.R_.g 0), (p0.R_.g 1), (p0.R_.g 2), (p0.R_.g 3), (p0.R_.g 4), (p0.R_.g 5), (p0.R_.g 6), (p0.R_.g 7), (p0.R_.g 8), (p0.R_.g 9), (p0.R_.g 10), (p0.R_.g 11), (p0.R_.g 12), (p0.R_.g 13), (IntKind.wrap .u32 (p0.PC_ + 4)), (p0.R_.g 15)] : Arr 16 Int) p0.PC_ p0.EPC_ p0.Cause_ p0.State_ p0.Why_ p0.Steps_ p0.Taken_ p0.Out_ p0.Entry_ p0.Vector_ p0.Guard_ p0.Limit_ p0.Input_))
  else (bind1 (ref04_others p0 p2 v1) fun r97 =>
  some (r97, p1))))))))))))))
noncomputable def ref04_Step  (p0 : T_ref04_Cpu) (p1 : T_ref03_Mem) : Option (T_ref04_Cpu × T_ref03_Mem) :=
  if (p0.State_ != 0) = true then (some (p0, p1))
  else (bind2 (ref03_Fetch p1 p0.PC_) fun r2 r3 =>
  if (r3 != 0) = true then (bind1 (ref04_fault (T_ref04_Cpu.mk p0.R_ p0.PC_ p0.EPC_ p0.Cause_ p0.State_ p0.Why_ (IntKind.wrap .i64 (p0.Steps_ + 1)) p0.Taken_ p0.Out_ p0.Entry_ p0.Vector_ p0.Guard_ p0.Limit_ p0.Input_) r3) fun r6 =>
  some (r6, p1))
  else (bind2 (ref02_Decode r2) fun r8 r9 =>
  if (r9 != 0) = true then (bind1 (ref04_fault (T_ref04_Cpu.mk p0.R_ p0.PC_ p0.EPC_ p0.Cause_ p0.State_ p0.Why_ (IntKind.wrap .i64 (p0.Steps_ + 1)) p0.Taken_ p0.Out_ p0.Entry_ p0.Vector_ p0.Guard_ p0.Limit_ p0.Input_) r9) fun r12 =>
  some (r12, p1))
  else (bind2 (ref04_do (T_ref04_Cpu.mk p0.R_ p0.PC_ p0.EPC_ p0.Cause_ p0.State_ p0.Why_ (IntKind.wrap .i64 (p0.Steps_ + 1)) p0.Taken_ p0.Out_ p0.Entry_ p0.Vector_ p0.Guard_ p0.Limit_ p0.Input_) p1 r8) fun r14 r15 =>
  some (r14, r15))))
noncomputable def law04_Same_L1 (p1 : T_ref04_Cpu) (x4 : T_cpu_Cpu) (a15 : Int) : Option ((Int) ⊕ (Unit ⊕ Unit)) :=
  if (decide (a15 < (p1.Out_.length : Int))) = true then (bind1 (gi x4.Out_ a15) fun x17 =>
  bind1 (gi p1.Out_ a15) fun x19 =>
  if (!(eq_api_Event x17 x19)) = true then (some (Sum.inr (Sum.inr ())))
  else (some (Sum.inl (IntKind.wrap .i64 (a15 + 1)))))
  else (some (Sum.inr (Sum.inl ())))
noncomputable def law04_Same (H : Heap) (p0 : Ptr) (p1 : T_ref04_Cpu) : Option (Bool) :=
  (p0).bnd fun i1 o2 =>
  bind1 (get_cpu_Cpu H i1 o2) fun x4 =>
  if ((!(eq_a16_int_u32 x4.R_ p1.R_)) || ((x4.PC_ != p1.PC_) || ((x4.EPC_ != p1.EPC_) || ((x4.Cause_ != p1.Cause_) || ((x4.State_ != p1.State_) || ((x4.Why_ != p1.Why_) || ((x4.Steps_ != p1.Steps_) || ((x4.Taken_ != p1.Taken_) || ((x4.Out_.length : Int) != (p1.Out_.length : Int)))))))))) = true then (some false)
  else (bind1 (loopO (fun (x : (Int)) => law04_Same_L1 p1 x4 x) 0) (sum2 (fun (_ : Unit) =>
  some true) (fun (_ : Unit) =>
  some false)))
noncomputable def memory_Mem_Layout (H : Heap) (p0 : Ptr) : Option (T_memory_Layout) :=
  (p0).bnd fun i1 o2 =>
  bind1 (get_memory_Mem H i1 o2) fun x4 =>
  some x4.layout_
noncomputable def law03_Same_L1 (p1 : T_ref03_Mem) (H : Heap) (p0 : Ptr) (a6 : Int) : Option ((Int) ⊕ (Unit ⊕ Unit)) :=
  if (decide (a6 < (p1.W_.length : Int))) = true then (bind2 (memory_Mem_Load H p0 (IntKind.wrap .u32 (IntKind.wrap .i64 (4 * a6)))) fun r8 r9 =>
  bind1 (if (r9 != 0) = true then (some true) else (bind1 (gi p1.W_ a6) fun x12 =>
  some (r8 != x12))) fun w14 =>
  if w14 = true then (some (Sum.inr (Sum.inr ())))
  else (some (Sum.inl (IntKind.wrap .i64 (a6 + 1)))))
  else (some (Sum.inr (Sum.inl ())))
noncomputable def law03_Same (H : Heap) (p0 : Ptr) (p1 : T_ref03_Mem) : Option (Bool) :=
  bind1 (memory_Mem_Layout H p0) fun r1 =>
  bind1 (law03_Ends r1) fun r3 =>
  if (!(eq_a5_int_u32 r3 p1.Ends_)) = true then (some false)
  else (bind1 (loopO (fun (x : (Int)) => law03_Same_L1 p1 H p0 x) 0) (sum2 (fun (_ : Unit) =>
  some true) (fun (_ : Unit) =>
  some false)))
noncomputable def law04_CpuSteps_L1 (r8 : Ptr) (r9 : Ptr) (a20 : Int) (a21 : T_ref04_Cpu) (a22 : T_ref03_Mem) (H23 : Heap) : Option ((Int × T_ref04_Cpu × T_ref03_Mem × Heap) ⊕ ((T_ref03_Mem × Heap) ⊕ (Heap))) :=
  if (decide (a20 < 60)) = true then (bind2 (ref04_Step a21 a22) fun r25 r26 =>
  bind2 (cpu_Cpu_Step H23 r8 r9) fun H30 r28 =>
  bind1 (if (r28 != r25.State_) = true then (some true) else (bind1 (law04_Same H30 r8 r25) fun r32 =>
  some (!r32))) fun w34 =>
  if w34 = true then (some (Sum.inr (Sum.inr H30)))
  else (some (Sum.inl ((IntKind.wrap .i64 (a20 + 1)), r25, r26, H30))))
  else (some (Sum.inr (Sum.inl (a22, H23))))
noncomputable def law04_CpuSteps (H : Heap) (p0 : T_law04_Case) : Option (Heap × Bool) :=
  bind2 (law04_awake H) fun H3 r1 =>
  if (!r1) = true then (some (H3, false))
  else (bind1 (law04_few p0) fun r5 =>
  if (!r5) = true then (some (H3, true))
  else (bind5 (law04_begun H3 p0) fun H13 r8 r9 r10 r11 =>
  bind1 (if r8.isNil = true then (some true) else (bind1 (cpu_Cpu_Setup H13 r8) fun r15 =>
  some (!(eq_cpu_Setup r15 p0.S_)))) fun w17 =>
  if w17 = true then (some (H13, false))
  else (bind1 (loopO (fun (x : (Int × T_ref04_Cpu × T_ref03_Mem × Heap)) => law04_CpuSteps_L1 r8 r9 x.1 x.2.1 x.2.2.1 x.2.2.2) (0, r10, r11, H13)) (sum2 (tup2 fun b39 H40 =>
  bind1 (law03_Same H40 r9 b39) fun r41 =>
  some (H40, r41)) (fun H43 =>
  some (H43, false))))))
end Go.Proofs.Abs
