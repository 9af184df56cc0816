/- The law AsmJoins: whatever the input, it answers true. No conditions. (Part AsmJoinsF1 of its proof.) -/
import Derived.Test.YtfecmlajhlpgkaaDoorAsmJoinsF0
set_option linter.unusedVariables false
set_option linter.unusedSimpArgs false
set_option linter.unusedSectionVars false
/- Printed by gen (walk.py). -/
namespace Go.Proofs.Abs
open Go Go.Proofs
set_option linter.unusedVariables false
set_option maxRecDepth 100000
set_option maxHeartbeats 0
noncomputable def ref02_Encode  (p0 : T_ref02_Instr) : Option (Int × Int) :=
  bind1 (ref02_Check p0) fun r1 =>
  if (r1 != 0) = true then (some (0, r1))
  else (bind1 (ref02_Shape p0.Op_) fun r3 =>
  if (r3 == 7) = true then (some ((IntKind.wrap .u32 (IntKind.wrap .i64 ((IntKind.wrap .i64 (p0.Op_ * 16777216)) + (Int.tmod (IntKind.wrap .i64 (p0.Imm_ + 16777216)) 16777216)))), 0))
  else (some ((IntKind.wrap .u32 (IntKind.wrap .i64 ((IntKind.wrap .i64 ((IntKind.wrap .i64 ((IntKind.wrap .i64 ((IntKind.wrap .i64 (p0.Op_ * 16777216)) + (IntKind.wrap .i64 (p0.A_ * 1048576)))) + (IntKind.wrap .i64 (p0.B_ * 65536)))) + (Int.tmod (IntKind.wrap .i64 (p0.Imm_ + 65536)) 65536))) + p0.C_))), 0)))
noncomputable def ref05_place_j1 (x1 : T_ref05_row) (j5 : ByteArray) : Option (Int × Int) :=
  bind2 (ref05_fill x1 j5) fun r7 r8 =>
  if (!r8) = true then (some (0, 52))
  else (bind2 (ref02_Encode r7) fun r10 r11 =>
  some (r10, 0))
noncomputable def ref05_place  (p0 : (List T_ref05_row)) (p1 : (List T_ref05_Label)) (p2 : Int) : Option (Int × Int) :=
  bind1 (gi p0 p2) fun x1 =>
  if (x1.op_ == 0) = true then (some (x1.word_, 0))
  else (bind1 (ref05_named x1) fun r3 =>
  if (!strEq r3 ByteArray.empty) = true then (bind1 (ref05_named x1) fun r13 =>
  bind1 (ref05_Find p1 r13) fun r15 =>
  if (decide (r15 < 0)) = true then (some (0, 50))
  else (bind1 (ref01_Text (IntKind.wrap .i64 ((IntKind.wrap .i64 (r15 - p2)) - 1))) fun r17 =>
  ref05_place_j1 x1 r17))
  else (ref05_place_j1 x1 (ByteArray.mk #[48])))
noncomputable def ref05_Assemble_j2 (a5 : Int) (j6 : (List T_ref05_row)) (j7 : (List T_ref05_Label)) : Option (((List T_ref05_row) × (List T_ref05_Label) × Int) ⊕ (((List T_ref05_row) × (List T_ref05_Label)) ⊕ (Int × Int))) :=
  some (Sum.inl (j6, j7, (IntKind.wrap .i64 (a5 + 1))))
noncomputable def ref05_Assemble_L1 (r1 : (List ByteArray)) (a3 : (List T_ref05_row)) (a4 : (List T_ref05_Label)) (a5 : Int) : Option (((List T_ref05_row) × (List T_ref05_Label) × Int) ⊕ (((List T_ref05_row) × (List T_ref05_Label)) ⊕ (Int × Int))) :=
  if (decide (a5 < (r1.length : Int))) = true then (bind1 (gi r1 a5) fun x9 =>
  bind1 (if ((x9.size : Int) == 0) = true then (some true) else (bind1 (sAt x9 0) fun v11 =>
  some (v11 == 59))) fun w13 =>
  if w13 = true then (ref05_Assemble_j2 a5 a3 a4)
  else (bind1 (sAt x9 (IntKind.wrap .i64 ((x9.size : Int) - 1))) fun v15 =>
  if (v15 == 58) = true then (bind1 (sCut x9 0 (IntKind.wrap .i64 ((x9.size : Int) - 1))) fun s17 =>
  bind1 (ref05_Name s17) fun r19 =>
  if (!r19) = true then (some (Sum.inr (Sum.inr (22, (IntKind.wrap .i64 (a5 + 1))))))
  else (bind1 (ref05_Find a4 s17) fun r21 =>
  if (decide (r21 ≥ 0)) = true then (some (Sum.inr (Sum.inr (51, (IntKind.wrap .i64 (a5 + 1))))))
  else (bind1 (app 24 a4 ([(T_ref05_Label.mk s17 (a3.length : Int))] : List T_ref05_Label)) fun v23 =>
  ref05_Assemble_j2 a5 a3 v23)))
  else (bind2 (ref05_parse (IntKind.wrap .i64 (a5 + 1)) x9) fun r25 r26 =>
  if (!r26) = true then (some (Sum.inr (Sum.inr (22, (IntKind.wrap .i64 (a5 + 1))))))
  else (if (decide ((a3.length : Int) ≥ 16384)) = true then (some (Sum.inr (Sum.inr (242, (IntKind.wrap .i64 (a5 + 1))))))
  else (bind1 (app 48 a3 ([r25] : List T_ref05_row)) fun v28 =>
  ref05_Assemble_j2 a5 v28 a4)))))
  else (some (Sum.inr (Sum.inl (a3, a4))))
noncomputable def ref05_Assemble_L3 (b31 : (List T_ref05_row)) (b32 : (List T_ref05_Label)) (a33 : (List Int)) (a34 : Int) : Option (((List Int) × Int) ⊕ (((List Int)) ⊕ (Int × Int))) :=
  if (decide (a34 < (b31.length : Int))) = true then (bind2 (ref05_place b31 b32 a34) fun r35 r36 =>
  if (r36 != 0) = true then (bind1 (gi b31 a34) fun x38 =>
  some (Sum.inr (Sum.inr (x38.line_, r36))))
  else (bind1 (app 4 a33 ([r35] : List Int)) fun v40 =>
  some (Sum.inl (v40, (IntKind.wrap .i64 (a34 + 1))))))
  else (some (Sum.inr (Sum.inl a33)))
noncomputable def ref05_Assemble  (p0 : ByteArray) : Option ((List Int) × (List T_ref05_Label) × Int × Int) :=
  bind1 (ref05_Cut p0 10) fun r1 =>
  if (decide ((r1.length : Int) > 4096)) = true then (some (([] : List Int), ([] : List T_ref05_Label), 4097, 242))
  else (bind1 (loopO (fun (x : ((List T_ref05_row) × (List T_ref05_Label) × Int)) => ref05_Assemble_L1 r1 x.1 x.2.1 x.2.2) (([] : List T_ref05_row), ([] : List T_ref05_Label), 0)) (sum2 (tup2 fun b31 b32 =>
  bind1 (loopO (fun (x : ((List Int) × Int)) => ref05_Assemble_L3 b31 b32 x.1 x.2) (([] : List Int), 0)) (sum2 (fun b43 =>
  some (b43, b32, 0, 0)) (tup2 fun b44 b45 =>
  some (([] : List Int), ([] : List T_ref05_Label), b44, b45)))) (tup2 fun b47 b48 =>
  some (([] : List Int), ([] : List T_ref05_Label), b48, b47))))
noncomputable def law05_same_L1 (p0 : (List T_asm_Label)) (p1 : (List T_ref05_Label)) (a1 : Int) : Option ((Int) ⊕ (Unit ⊕ Unit)) :=
  if (decide (a1 < (p0.length : Int))) = true then (bind1 (gi p0 a1) fun x2 =>
  bind1 (gi p1 a1) fun x4 =>
  bind1 (if (!strEq x2.Name_ x4.Name_) = true then (some true) else (bind1 (gi p0 a1) fun x6 =>
  bind1 (gi p1 a1) fun x8 =>
  some (x6.At_ != x8.At_))) fun w10 =>
  if w10 = true then (some (Sum.inr (Sum.inr ())))
  else (some (Sum.inl (IntKind.wrap .i64 (a1 + 1)))))
  else (some (Sum.inr (Sum.inl ())))
noncomputable def law05_same  (p0 : (List T_asm_Label)) (p1 : (List T_ref05_Label)) : Option (Bool) :=
  if ((p0.length : Int) != (p1.length : Int)) = true then (some false)
  else (bind1 (loopO (fun (x : (Int)) => law05_same_L1 p0 p1 x) 0) (sum2 (fun (_ : Unit) =>
  some true) (fun (_ : Unit) =>
  some false)))
noncomputable def law05_AsmTexts  (p0 : ByteArray) : Option (Bool) :=
  bind1 (law05_awake) fun r1 =>
  if (!r1) = true then (some false)
  else (if (decide ((p0.size : Int) > 20000)) = true then (some true)
  else (bind3 (asm_Assemble p0) fun r3 r4 r5 =>
  bind4 (ref05_Assemble p0) fun r7 r8 r9 r10 =>
  bind1 (ref01_Words r3.Words_ r7) fun r12 =>
  bind1 (if r12 = true then (bind1 (law05_same r3.Labels_ r8) fun r14 =>
  if r14 = true then (if (r4 == r9) = true then (some (r5 == r10)) else (some false)) else (some false)) else (some false)) fun w16 =>
  some w16))
end Go.Proofs.Abs
