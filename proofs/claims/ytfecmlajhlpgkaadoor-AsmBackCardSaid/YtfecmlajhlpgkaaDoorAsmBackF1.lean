/- The law AsmBack: whatever the input, it answers true. No conditions. (Part AsmBackF1 of its proof.) -/
import Derived.Test.YtfecmlajhlpgkaaDoorAsmBackF0
set_option linter.unusedVariables false
set_option linter.unusedSimpArgs false
set_option linter.unusedSectionVars false
/- Printed by gen (walk.py). -/
namespace Go.Proofs.Abs
open Go Go.Proofs
set_option linter.unusedVariables false
set_option maxRecDepth 100000
set_option maxHeartbeats 0
noncomputable def ref01_Parse_j2 (a3 : Int) (j4 : Int) : Option ((Int × Int) ⊕ ((Int) ⊕ Unit)) :=
  some (Sum.inl (j4, (IntKind.wrap .i64 (a3 + 1))))
noncomputable def ref01_Parse_L1 (p0 : ByteArray) (a2 : Int) (a3 : Int) : Option ((Int × Int) ⊕ ((Int) ⊕ Unit)) :=
  if (decide (a3 < (p0.size : Int))) = true then (bind1 (if (a3 == 0) = true then (bind1 (sAt p0 0) fun v6 =>
  some (v6 == 45)) else (some false)) fun w8 =>
  if w8 = true then (ref01_Parse_j2 a3 a2)
  else (bind1 (sAt p0 a3) fun v10 =>
  bind1 (if (decide (v10 < 48)) = true then (some true) else (bind1 (sAt p0 a3) fun v12 =>
  some (decide (v12 > 57)))) fun w14 =>
  if w14 = true then (some (Sum.inr (Sum.inr ())))
  else (bind1 (sAt p0 a3) fun v16 =>
  ref01_Parse_j2 a3 (IntKind.wrap .i64 ((IntKind.wrap .i64 (a2 * 10)) + (IntKind.wrap .i64 (IntKind.wrap .u8 (v16 - 48))))))))
  else (some (Sum.inr (Sum.inl a2)))
noncomputable def ref01_Parse_j3 (p0 : ByteArray) (j22 : Int) : Option (Int × Bool) :=
  bind1 (if (decide (j22 < (-2147483648))) = true then (some true) else (if (decide (j22 > 2147483647)) = true then (some true) else (bind1 (ref01_Text j22) fun r24 =>
  some (!strEq r24 p0)))) fun w26 =>
  if w26 = true then (some (0, false))
  else (some ((IntKind.wrap .i32 j22), true))
noncomputable def ref01_Parse  (p0 : ByteArray) : Option (Int × Bool) :=
  if ((decide ((p0.size : Int) < 1)) || (decide ((p0.size : Int) > 11))) = true then (some (0, false))
  else (bind1 (loopO (fun (x : (Int × Int)) => ref01_Parse_L1 p0 x.1 x.2) (0, 0)) (sum2 (fun b19 =>
  bind1 (sAt p0 0) fun v20 =>
  if (v20 == 45) = true then (ref01_Parse_j3 p0 (IntKind.wrap .i64 (0 - b19)))
  else (ref01_Parse_j3 p0 b19)) (fun (_ : Unit) =>
  some (0, false))))
noncomputable def ref02_number  (p0 : ByteArray) (p1 : ByteArray) : Option (Int × Bool) :=
  bind1 (if (decide ((p1.size : Int) < (p0.size : Int))) = true then (some true) else (bind1 (sCut p1 0 (p0.size : Int)) fun s1 =>
  some (!strEq s1 p0))) fun w3 =>
  if w3 = true then (some (0, false))
  else (bind1 (sCut p1 (p0.size : Int) p1.size) fun s5 =>
  bind2 (ref01_Parse s5) fun r7 r8 =>
  some ((IntKind.wrap .i64 r7), r8))
noncomputable def ref02_Fill_L6 (j19 : (List ByteArray)) (p1 : (List ByteArray)) (a21 : Int) (a22 : (Arr 4 Int)) : Option ((Int × (Arr 4 Int)) ⊕ (((Arr 4 Int) × Heap) ⊕ (Heap))) :=
  if (decide (a21 < (j19.length : Int))) = true then (bind1 (gi j19 a21) fun x23 =>
  bind1 (gi p1 a21) fun x25 =>
  bind2 (ref02_number x23 x25) fun r27 r28 =>
  if (!r28) = true then (some (Sum.inr (Sum.inr ([] : Heap))))
  else (bind1 (ga a22 a21) fun v30 =>
  bind1 (sa a22 a21 r27) fun v32 =>
  some (Sum.inl ((IntKind.wrap .i64 (a21 + 1)), v32))))
  else (some (Sum.inr (Sum.inl (a22, ([] : Heap)))))
noncomputable def ref02_Fill_j10 (j46 : T_ref02_Instr) : Option (T_ref02_Instr × Bool) :=
  bind1 (ref02_Check j46) fun r48 =>
  some (j46, (r48 == 0))
noncomputable def ref02_Fill_j9 (r1 : Int) (b35 : (Arr 4 Int)) (j43 : Int) (j44 : T_ref02_Instr) : Option (T_ref02_Instr × Bool) :=
  if ((r1 != 0) && ((r1 != 5) && (r1 != 6))) = true then (bind1 (ga b35 j43) fun v50 =>
  ref02_Fill_j10 (T_ref02_Instr.mk j44.Op_ j44.A_ j44.B_ j44.C_ v50))
  else (ref02_Fill_j10 j44)
noncomputable def ref02_Fill_j8 (r5 : Bool) (b35 : (Arr 4 Int)) (r1 : Int) (j40 : Int) (j41 : T_ref02_Instr) : Option (T_ref02_Instr × Bool) :=
  if r5 = true then (bind1 (ga b35 j40) fun v52 =>
  ref02_Fill_j9 r1 b35 (IntKind.wrap .i64 (j40 + 1)) (T_ref02_Instr.mk j41.Op_ j41.A_ j41.B_ v52 j41.Imm_))
  else (ref02_Fill_j9 r1 b35 j40 j41)
noncomputable def ref02_Fill_j7 (r4 : Bool) (b35 : (Arr 4 Int)) (r5 : Bool) (r1 : Int) (j37 : Int) (j38 : T_ref02_Instr) : Option (T_ref02_Instr × Bool) :=
  if ((r4 || false) || false) = true then (bind1 (ga b35 j37) fun v54 =>
  ref02_Fill_j8 r5 b35 r1 (IntKind.wrap .i64 (j37 + 1)) (T_ref02_Instr.mk j38.Op_ j38.A_ v54 j38.C_ j38.Imm_))
  else (ref02_Fill_j8 r5 b35 r1 j37 j38)
noncomputable def ref02_Fill_j5 (p1 : (List ByteArray)) (p0 : Int) (r3 : Bool) (r4 : Bool) (r5 : Bool) (r1 : Int) (j19 : (List ByteArray)) : Option (T_ref02_Instr × Bool) :=
  if ((p1.length : Int) != (j19.length : Int)) = true then (some ((T_ref02_Instr.mk p0 0 0 0 0), false))
  else (bind1 (loopO (fun (x : (Int × (Arr 4 Int))) => ref02_Fill_L6 j19 p1 x.1 x.2) (0, (arrL [0, 0, 0, 0] : Arr 4 Int))) (sum2 (tup2 fun b35 H36 =>
  if r3 = true then (ref02_Fill_j7 r4 b35 r5 r1 (IntKind.wrap .i64 (0 + 1)) (T_ref02_Instr.mk p0 (b35.g 0) 0 0 0))
  else (ref02_Fill_j7 r4 b35 r5 r1 0 (T_ref02_Instr.mk p0 0 0 0 0))) (fun H56 =>
  some ((T_ref02_Instr.mk p0 0 0 0 0), false))))
noncomputable def ref02_Fill_j4 (r1 : Int) (p1 : (List ByteArray)) (p0 : Int) (r3 : Bool) (r4 : Bool) (r5 : Bool) (j15 : (List ByteArray)) : Option (T_ref02_Instr × Bool) :=
  if ((r1 != 0) && ((r1 != 5) && (r1 != 6))) = true then (bind1 (app 16 j15 ([ByteArray.empty] : List ByteArray)) fun v58 =>
  ref02_Fill_j5 p1 p0 r3 r4 r5 r1 v58)
  else (ref02_Fill_j5 p1 p0 r3 r4 r5 r1 j15)
noncomputable def ref02_Fill_j3 (r5 : Bool) (r1 : Int) (p1 : (List ByteArray)) (p0 : Int) (r3 : Bool) (r4 : Bool) (j13 : (List ByteArray)) : Option (T_ref02_Instr × Bool) :=
  if r5 = true then (bind1 (app 16 j13 ([(ByteArray.mk #[114])] : List ByteArray)) fun v60 =>
  ref02_Fill_j4 r1 p1 p0 r3 r4 r5 v60)
  else (ref02_Fill_j4 r1 p1 p0 r3 r4 r5 j13)
noncomputable def ref02_Fill_j2 (r4 : Bool) (p0 : Int) (r5 : Bool) (r1 : Int) (p1 : (List ByteArray)) (r3 : Bool) (j10 : (List ByteArray)) : Option (T_ref02_Instr × Bool) :=
  if ((r4 || false) && (p0 != 26)) = true then (bind1 (app 16 j10 ([(ByteArray.mk #[114])] : List ByteArray)) fun v62 =>
  ref02_Fill_j3 r5 r1 p1 p0 r3 r4 v62)
  else (ref02_Fill_j3 r5 r1 p1 p0 r3 r4 j10)
noncomputable def ref02_Fill_j1 (r4 : Bool) (p0 : Int) (r5 : Bool) (r1 : Int) (p1 : (List ByteArray)) (r3 : Bool) (j7 : (List ByteArray)) : Option (T_ref02_Instr × Bool) :=
  if (r4 && (p0 == 26)) = true then (bind1 (app 16 j7 ([ByteArray.empty] : List ByteArray)) fun v64 =>
  ref02_Fill_j2 r4 p0 r5 r1 p1 r3 v64)
  else (ref02_Fill_j2 r4 p0 r5 r1 p1 r3 j7)
noncomputable def ref02_Fill  (p0 : Int) (p1 : (List ByteArray)) : Option (T_ref02_Instr × Bool) :=
  bind1 (ref02_Shape p0) fun r1 =>
  if (decide (r1 < 0)) = true then (some ((T_ref02_Instr.mk p0 0 0 0 0), false))
  else (bind3 (ref02_has r1) fun r3 r4 r5 =>
  if r3 = true then (bind1 (app 16 ([] : List ByteArray) ([(ByteArray.mk #[114])] : List ByteArray)) fun v66 =>
  ref02_Fill_j1 r4 p0 r5 r1 p1 r3 v66)
  else (ref02_Fill_j1 r4 p0 r5 r1 p1 r3 ([] : List ByteArray)))
noncomputable def ref05_fill_j2 (a1 : (List ByteArray)) (a2 : Int) (j9 : ByteArray) : Option (((List ByteArray) × Int) ⊕ (((List ByteArray)))) :=
  bind1 (app 16 a1 ([j9] : List ByteArray)) fun v11 =>
  some (Sum.inl (v11, (IntKind.wrap .i64 (a2 + 1))))
noncomputable def ref05_fill_L1 (p0 : T_ref05_row) (p1 : ByteArray) (a1 : (List ByteArray)) (a2 : Int) : Option (((List ByteArray) × Int) ⊕ (((List ByteArray)))) :=
  if (decide (a2 < (p0.fields_.length : Int))) = true then (bind1 (gi p0.fields_ a2) fun x3 =>
  bind1 (if (a2 == (IntKind.wrap .i64 ((p0.fields_.length : Int) - 1))) = true then (bind1 (ref05_named p0) fun r5 =>
  some (!strEq r5 ByteArray.empty)) else (some false)) fun w7 =>
  if w7 = true then (ref05_fill_j2 a1 a2 p1)
  else (ref05_fill_j2 a1 a2 x3))
  else (some (Sum.inr a1))
noncomputable def ref05_fill  (p0 : T_ref05_row) (p1 : ByteArray) : Option (T_ref02_Instr × Bool) :=
  bind1 (loopO (fun (x : ((List ByteArray) × Int)) => ref05_fill_L1 p0 p1 x.1 x.2) (([] : List ByteArray), 0)) (fun b14 =>
  bind2 (ref02_Fill p0.op_ b14) fun r15 r16 =>
  some (r15, r16))
noncomputable def ref05_parse  (p0 : Int) (p1 : ByteArray) : Option (T_ref05_row × Bool) :=
  bind3 (ref05_split p1) fun r1 r2 r3 =>
  if (!r3) = true then (some ((T_ref05_row.mk 0 0 0 ([] : List ByteArray)), false))
  else (if ((strEq r1 (ByteArray.mk #[87, 79, 82, 68])) && ((r2.length : Int) == 1)) = true then (bind1 (gi r2 0) fun x6 =>
  bind2 (ref01_ParseHex x6) fun r8 r9 =>
  some ((T_ref05_row.mk p0 0 r8 r2), r9))
  else (bind1 (ref05_op r1) fun r11 =>
  if (r11 == 0) = true then (some ((T_ref05_row.mk p0 r11 0 r2), false))
  else (bind2 (ref05_fill (T_ref05_row.mk p0 r11 0 r2) (ByteArray.mk #[48])) fun r13 r14 =>
  some ((T_ref05_row.mk p0 r11 0 r2), r14))))
noncomputable def ref05_place_j1 (x1 : T_ref05_row) (j5 : ByteArray) : Option (Int × Int) :=
  bind2 (ref05_fill x1 j5) fun r7 r8 =>
  if (!r8) = true then (some (0, 52))
  else (bind2 (ref02_Encode r7) fun r10 r11 =>
  some (r10, 0))
noncomputable def ref05_place  (p0 : (List T_ref05_row)) (p1 : (List T_ref05_Label)) (p2 : Int) : Option (Int × Int) :=
  bind1 (gi p0 p2) fun x1 =>
  if (x1.op_ == 0) = true then (some (x1.word_, 0))
  else (bind1 (ref05_named x1) fun r3 =>
  if (!strEq r3 ByteArray.empty) = true then (bind1 (ref05_named x1) fun r13 =>
  bind1 (ref05_Find p1 r13) fun r15 =>
  if (decide (r15 < 0)) = true then (some (0, 50))
  else (bind1 (ref01_Text (IntKind.wrap .i64 ((IntKind.wrap .i64 (r15 - p2)) - 1))) fun r17 =>
  ref05_place_j1 x1 r17))
  else (ref05_place_j1 x1 (ByteArray.mk #[48])))
noncomputable def ref05_Assemble_j2 (a5 : Int) (j6 : (List T_ref05_row)) (j7 : (List T_ref05_Label)) : Option (((List T_ref05_row) × (List T_ref05_Label) × Int) ⊕ (((List T_ref05_row) × (List T_ref05_Label)) ⊕ (Int × Int))) :=
  some (Sum.inl (j6, j7, (IntKind.wrap .i64 (a5 + 1))))
noncomputable def ref05_Assemble_L1 (r1 : (List ByteArray)) (a3 : (List T_ref05_row)) (a4 : (List T_ref05_Label)) (a5 : Int) : Option (((List T_ref05_row) × (List T_ref05_Label) × Int) ⊕ (((List T_ref05_row) × (List T_ref05_Label)) ⊕ (Int × Int))) :=
  if (decide (a5 < (r1.length : Int))) = true then (bind1 (gi r1 a5) fun x9 =>
  bind1 (if ((x9.size : Int) == 0) = true then (some true) else (bind1 (sAt x9 0) fun v11 =>
  some (v11 == 59))) fun w13 =>
  if w13 = true then (ref05_Assemble_j2 a5 a3 a4)
  else (bind1 (sAt x9 (IntKind.wrap .i64 ((x9.size : Int) - 1))) fun v15 =>
  if (v15 == 58) = true then (bind1 (sCut x9 0 (IntKind.wrap .i64 ((x9.size : Int) - 1))) fun s17 =>
  bind1 (ref05_Name s17) fun r19 =>
  if (!r19) = true then (some (Sum.inr (Sum.inr (22, (IntKind.wrap .i64 (a5 + 1))))))
  else (bind1 (ref05_Find a4 s17) fun r21 =>
  if (decide (r21 ≥ 0)) = true then (some (Sum.inr (Sum.inr (51, (IntKind.wrap .i64 (a5 + 1))))))
  else (bind1 (app 24 a4 ([(T_ref05_Label.mk s17 (a3.length : Int))] : List T_ref05_Label)) fun v23 =>
  ref05_Assemble_j2 a5 a3 v23)))
  else (bind2 (ref05_parse (IntKind.wrap .i64 (a5 + 1)) x9) fun r25 r26 =>
  if (!r26) = true then (some (Sum.inr (Sum.inr (22, (IntKind.wrap .i64 (a5 + 1))))))
  else (if (decide ((a3.length : Int) ≥ 16384)) = true then (some (Sum.inr (Sum.inr (242, (IntKind.wrap .i64 (a5 + 1))))))
  else (bind1 (app 48 a3 ([r25] : List T_ref05_row)) fun v28 =>
  ref05_Assemble_j2 a5 v28 a4)))))
  else (some (Sum.inr (Sum.inl (a3, a4))))
noncomputable def ref05_Assemble_L3 (b31 : (List T_ref05_row)) (b32 : (List T_ref05_Label)) (a33 : (List Int)) (a34 : Int) : Option (((List Int) × Int) ⊕ (((List Int)) ⊕ (Int × Int))) :=
  if (decide (a34 < (b31.length : Int))) = true then (bind2 (ref05_place b31 b32 a34) fun r35 r36 =>
  if (r36 != 0) = true then (bind1 (gi b31 a34) fun x38 =>
  some (Sum.inr (Sum.inr (x38.line_, r36))))
  else (bind1 (app 4 a33 ([r35] : List Int)) fun v40 =>
  some (Sum.inl (v40, (IntKind.wrap .i64 (a34 + 1))))))
  else (some (Sum.inr (Sum.inl a33)))
noncomputable def ref05_Assemble  (p0 : ByteArray) : Option ((List Int) × (List T_ref05_Label) × Int × Int) :=
  bind1 (ref05_Cut p0 10) fun r1 =>
  if (decide ((r1.length : Int) > 4096)) = true then (some (([] : List Int), ([] : List T_ref05_Label), 4097, 242))
  else (bind1 (loopO (fun (x : ((List T_ref05_row) × (List T_ref05_Label) × Int)) => ref05_Assemble_L1 r1 x.1 x.2.1 x.2.2) (([] : List T_ref05_row), ([] : List T_ref05_Label), 0)) (sum2 (tup2 fun b31 b32 =>
  bind1 (loopO (fun (x : ((List Int) × Int)) => ref05_Assemble_L3 b31 b32 x.1 x.2) (([] : List Int), 0)) (sum2 (fun b43 =>
  some (b43, b32, 0, 0)) (tup2 fun b44 b45 =>
  some (([] : List Int), ([] : List T_ref05_Label), b44, b45)))) (tup2 fun b47 b48 =>
  some (([] : List Int), ([] : List T_ref05_Label), b48, b47))))
noncomputable def law05_same_L1 (p0 : (List T_asm_Label)) (p1 : (List T_ref05_Label)) (a1 : Int) : Option ((Int) ⊕ (Unit ⊕ Unit)) :=
  if (decide (a1 < (p0.length : Int))) = true then (bind1 (gi p0 a1) fun x2 =>
  bind1 (gi p1 a1) fun x4 =>
  bind1 (if (!strEq x2.Name_ x4.Name_) = true then (some true) else (bind1 (gi p0 a1) fun x6 =>
  bind1 (gi p1 a1) fun x8 =>
  some (x6.At_ != x8.At_))) fun w10 =>
  if w10 = true then (some (Sum.inr (Sum.inr ())))
  else (some (Sum.inl (IntKind.wrap .i64 (a1 + 1)))))
  else (some (Sum.inr (Sum.inl ())))
noncomputable def law05_same  (p0 : (List T_asm_Label)) (p1 : (List T_ref05_Label)) : Option (Bool) :=
  if ((p0.length : Int) != (p1.length : Int)) = true then (some false)
  else (bind1 (loopO (fun (x : (Int)) => law05_same_L1 p0 p1 x) 0) (sum2 (fun (_ : Unit) =>
  some true) (fun (_ : Unit) =>
  some false)))
noncomputable def law05_AsmTexts  (p0 : ByteArray) : Option (Bool) :=
  bind1 (law05_awake) fun r1 =>
  if (!r1) = true then (some false)
  else (if (decide ((p0.size : Int) > 20000)) = true then (some true)
  else (bind3 (asm_Assemble p0) fun r3 r4 r5 =>
  bind4 (ref05_Assemble p0) fun r7 r8 r9 r10 =>
  bind1 (ref01_Words r3.Words_ r7) fun r12 =>
  bind1 (if r12 = true then (bind1 (law05_same r3.Labels_ r8) fun r14 =>
  if r14 = true then (if (r4 == r9) = true then (some (r5 == r10)) else (some false)) else (some false)) else (some false)) fun w16 =>
  some w16))
end Go.Proofs.Abs
