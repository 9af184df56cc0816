/- The law AsmNames: whatever the input, it answers true. No conditions. (Part AsmNamesF1 of its proof.) -/
import Derived.Test.YtfecmlajhlpgkaaDoorAsmNamesF0
set_option linter.unusedVariables false
set_option linter.unusedSimpArgs false
set_option linter.unusedSectionVars false
/- Printed by gen (walk.py). -/
namespace Go.Proofs.Abs
open Go Go.Proofs
set_option linter.unusedVariables false
set_option maxRecDepth 100000
set_option maxHeartbeats 0
noncomputable def ref05_Assemble_j2 (a5 : Int) (j6 : (List T_ref05_row)) (j7 : (List T_ref05_Label)) : Option (((List T_ref05_row) × (List T_ref05_Label) × Int) ⊕ (((List T_ref05_row) × (List T_ref05_Label)) ⊕ (Int × Int))) :=
  some (Sum.inl (j6, j7, (IntKind.wrap .i64 (a5 + 1))))
noncomputable def ref05_Assemble_L1 (r1 : (List ByteArray)) (a3 : (List T_ref05_row)) (a4 : (List T_ref05_Label)) (a5 : Int) : Option (((List T_ref05_row) × (List T_ref05_Label) × Int) ⊕ (((List T_ref05_row) × (List T_ref05_Label)) ⊕ (Int × Int))) :=
  if (decide (a5 < (r1.length : Int))) = true then (bind1 (gi r1 a5) fun x9 =>
  bind1 (if ((x9.size : Int) == 0) = true then (some true) else (bind1 (sAt x9 0) fun v11 =>
  some (v11 == 59))) fun w13 =>
  if w13 = true then (ref05_Assemble_j2 a5 a3 a4)
  else (bind1 (sAt x9 (IntKind.wrap .i64 ((x9.size : Int) - 1))) fun v15 =>
  if (v15 == 58) = true then (bind1 (sCut x9 0 (IntKind.wrap .i64 ((x9.size : Int) - 1))) fun s17 =>
  bind1 (ref05_Name s17) fun r19 =>
  if (!r19) = true then (some (Sum.inr (Sum.inr (22, (IntKind.wrap .i64 (a5 + 1))))))
  else (bind1 (ref05_Find a4 s17) fun r21 =>
  if (decide (r21 ≥ 0)) = true then (some (Sum.inr (Sum.inr (51, (IntKind.wrap .i64 (a5 + 1))))))
  else (bind1 (app 24 a4 ([(T_ref05_Label.mk s17 (a3.length : Int))] : List T_ref05_Label)) fun v23 =>
  ref05_Assemble_j2 a5 a3 v23)))
  else (bind2 (ref05_parse (IntKind.wrap .i64 (a5 + 1)) x9) fun r25 r26 =>
  if (!r26) = true then (some (Sum.inr (Sum.inr (22, (IntKind.wrap .i64 (a5 + 1))))))
  else (if (decide ((a3.length : Int) ≥ 16384)) = true then (some (Sum.inr (Sum.inr (242, (IntKind.wrap .i64 (a5 + 1))))))
  else (bind1 (app 48 a3 ([r25] : List T_ref05_row)) fun v28 =>
  ref05_Assemble_j2 a5 v28 a4)))))
  else (some (Sum.inr (Sum.inl (a3, a4))))
noncomputable def ref05_Assemble_L3 (b31 : (List T_ref05_row)) (b32 : (List T_ref05_Label)) (a33 : (List Int)) (a34 : Int) : Option (((List Int) × Int) ⊕ (((List Int)) ⊕ (Int × Int))) :=
  if (decide (a34 < (b31.length : Int))) = true then (bind2 (ref05_place b31 b32 a34) fun r35 r36 =>
  if (r36 != 0) = true then (bind1 (gi b31 a34) fun x38 =>
  some (Sum.inr (Sum.inr (x38.line_, r36))))
  else (bind1 (app 4 a33 ([r35] : List Int)) fun v40 =>
  some (Sum.inl (v40, (IntKind.wrap .i64 (a34 + 1))))))
  else (some (Sum.inr (Sum.inl a33)))
noncomputable def ref05_Assemble  (p0 : ByteArray) : Option ((List Int) × (List T_ref05_Label) × Int × Int) :=
  bind1 (ref05_Cut p0 10) fun r1 =>
  if (decide ((r1.length : Int) > 4096)) = true then (some (([] : List Int), ([] : List T_ref05_Label), 4097, 242))
  else (bind1 (loopO (fun (x : ((List T_ref05_row) × (List T_ref05_Label) × Int)) => ref05_Assemble_L1 r1 x.1 x.2.1 x.2.2) (([] : List T_ref05_row), ([] : List T_ref05_Label), 0)) (sum2 (tup2 fun b31 b32 =>
  bind1 (loopO (fun (x : ((List Int) × Int)) => ref05_Assemble_L3 b31 b32 x.1 x.2) (([] : List Int), 0)) (sum2 (fun b43 =>
  some (b43, b32, 0, 0)) (tup2 fun b44 b45 =>
  some (([] : List Int), ([] : List T_ref05_Label), b44, b45)))) (tup2 fun b47 b48 =>
  some (([] : List Int), ([] : List T_ref05_Label), b48, b47))))
theorem ok_ref05_Assemble (H : Heap) {p0 : ByteArray} {ra : (List Int)} {rb : (List T_ref05_Label)} {rc : Int} {rd : Int} (hF : ref05_Assemble p0 = some (ra, rb, rc, rd)) : evS X 10 [.one .top (.str p0)] H = some (.tup [.one (.own 1) (.sl 1 (List.map (eI .u32) ra)), .one (.own 1) (.sl 2 (List.map e_ref05_Label rb)), .one .top (.int .i64 rc), .one .top (.int .i64 rd)], H) := by
 refine wf Tryd.func10 true 10 ?_; intro q
 obtain ⟨r1, c2, hF⟩ := bind1_inv hF
 refine wc 6 (ok_ref05_Cut H c2) ?_; intro q
 refine wle 2 r1 eS ?_; intro q
 refine wi 7 15 hF (fun _ hF => ?_) (fun _ hF => ?_)
 intro q
 obtain ⟨rfl, rfl, rfl, rfl⟩ := some4_inv hF
 exact wrp
 intro q
 obtain ⟨r49, hL30, hF⟩ := bind1_inv hF
 refine wL (fun (x : ((List T_ref05_row) × (List T_ref05_Label) × Int)) => ut [(7, .one (.own 1) (.sl 4 (List.map e_ref05_row x.1))), (8, .one (.own 1) (.sl 2 (List.map e_ref05_Label x.2.1))), (9, vi x.2.2)] []) (Sum.elim (fun (y : ((List T_ref05_row) × (List T_ref05_Label))) => wz (.exit 0) (ut [(7, .one (.own 1) (.sl 4 (List.map e_ref05_row y.1))), (8, .one (.own 1) (.sl 2 (List.map e_ref05_Label y.2)))] [6, 9])) (fun (y : (Int × Int)) => wz (.ret) (ut [(2, .one (.own 1) (.sl 1 (List.map (eI .u32) ([] : List Int)))), (3, .one (.own 1) (.sl 2 (List.map e_ref05_Label ([] : List T_ref05_Label)))), (4, vi y.2), (5, vi y.1)] [6, 7, 8, 9]))) hL30 ?_ ?_
 rintro ⟨a3, a4, a5⟩ o hF q
 refine go 5 ?_; intro q
 refine wle 2 r1 eS ?_; intro q
 refine wi 2 0 hF (fun _ hF => ?_) (fun _ hF => ?_)
 intro q
 refine wj 5 5 (fun x => ut [(7, .one (.own 1) (.sl 4 (List.map e_ref05_row x.1))), (8, .one (.own 1) (.sl 2 (List.map e_ref05_Label x.2)))] []) (tup2 (ref05_Assemble_j2 a5)) o ?_ ?_
 rintro ⟨j6, j7⟩ hF q
 exact wln _ hF
 intro hJ8 q
 obtain ⟨x9, h10, hF⟩ := bind1_inv hF
 refine wix 10 h10 eS ?_; intro q
 obtain ⟨w13, hB14, hF⟩ := bind1_inv hF
 refine wr0 0 (ut [(40, vb w13)] [33, 34, 35, 36]) ?_ ?_; intro q
 refine wg [35, 36] 5 1 hB14 (fun _ hB14 => ?_) (fun _ hB14 => ?_)
 intro q
 cases hB14
 exact wl0
 intro q
 obtain ⟨v11, h12, hB14⟩ := bind1_inv hB14
 refine wsx 3 h12 ?_; intro q
 cases hB14
 exact wl0
 intro q
 refine wi 1 8 hF (fun _ hF => ?_) (fun _ hF => ?_)
 intro q
 exact we2 hJ8 a3 a4 hF
 intro q
 obtain ⟨v15, h16, hF⟩ := bind1_inv hF
 refine wsx 2 h16 ?_; intro q
 refine wi 6 6 hF (fun _ hF => ?_) (fun _ hF => ?_)
 intro q
 obtain ⟨s17, h18, hF⟩ := bind1_inv hF
 refine wsc 6 h18 ?_; intro q
 obtain ⟨r19, c20, hF⟩ := bind1_inv hF
 refine wc 2 (ok_ref05_Name H c20) ?_; intro q
 refine wi 9 6 hF (fun _ hF => ?_) (fun _ hF => ?_)
 intro q
 exact wlx _ hF
 intro q
 obtain ⟨r21, c22, hF⟩ := bind1_inv hF
 refine wc 2 (ok_ref05_Find H c22) ?_; intro q
 refine wi 9 6 hF (fun _ hF => ?_) (fun _ hF => ?_)
 intro q
 exact wlx _ hF
 intro q
 refine wle 2 a3 e_ref05_row ?_; intro q
 obtain ⟨v23, h24, hF⟩ := bind1_inv hF
 refine wap 3 h24 e_ref05_Label ?_; intro q
 exact we2 hJ8 a3 v23 hF
 intro q
 obtain ⟨r25, r26, c27, hF⟩ := bind2_inv hF
 refine wc 13 (ok_ref05_parse H c27) ?_; intro q
 refine wi 9 5 hF (fun _ hF => ?_) (fun _ hF => ?_)
 intro q
 exact wlx _ hF
 intro q
 refine wle 2 a3 e_ref05_row ?_; intro q
 refine wi 9 5 hF (fun _ hF => ?_) (fun _ hF => ?_)
 intro q
 exact wlx _ hF
 intro q
 obtain ⟨v28, h29, hF⟩ := bind1_inv hF
 refine wap 3 h29 e_ref05_row ?_; intro q
 exact we2 hJ8 v28 a4 hF
 intro q
 exact wlx _ hF
 replace hF := sum2_inv hF
 rcases hF with ⟨⟨b31, b32⟩, rfl, hF⟩ | ⟨⟨b47, b48⟩, rfl, hF⟩
 replace hF := tup2_inv hF
 intro q
 refine go 11 ?_; intro q
 obtain ⟨r46, hL42, hF⟩ := bind1_inv hF
 refine wL (fun (x : ((List Int) × Int)) => ut [(14, .one (.own 1) (.sl 1 (List.map (eI .u32) x.1))), (15, vi x.2)] []) (Sum.elim (fun (y : ((List Int))) => wz (.exit 2) (ut [(14, .one (.own 1) (.sl 1 (List.map (eI .u32) y)))] [7, 15])) (fun (y : (Int × Int)) => wz (.ret) (ut [(2, .one (.own 1) (.sl 1 (List.map (eI .u32) ([] : List Int)))), (3, .one (.own 1) (.sl 2 (List.map e_ref05_Label ([] : List T_ref05_Label)))), (4, vi y.1), (5, vi y.2)] [7, 8, 14, 15]))) hL42 ?_ ?_
 rintro ⟨a33, a34⟩ o hF q
 refine go 5 ?_; intro q
 refine wle 2 b31 e_ref05_row ?_; intro q
 refine wi 8 0 hF (fun _ hF => ?_) (fun _ hF => ?_)
 intro q
 obtain ⟨r35, r36, c37, hF⟩ := bind2_inv hF
 refine wc 12 (ok_ref05_place H c37) ?_; intro q
 refine wi 4 5 hF (fun _ hF => ?_) (fun _ hF => ?_)
 intro q
 obtain ⟨x38, h39, hF⟩ := bind1_inv hF
 refine wix 8 h39 e_ref05_row ?_; intro q
 exact wlx _ hF
 intro q
 obtain ⟨v40, h41, hF⟩ := bind1_inv hF
 refine wap 8 h41 (eI .u32) ?_; intro q
 exact wln _ hF
 intro q
 exact wlx _ hF
 replace hF := sum2_inv hF
 rcases hF with ⟨b43, rfl, hF⟩ | ⟨⟨b44, b45⟩, rfl, hF⟩
 intro q
 refine go 10 ?_; intro q
 obtain ⟨rfl, rfl, rfl, rfl⟩ := some4_inv hF
 exact wrp
 replace hF := tup2_inv hF
 intro q
 obtain ⟨rfl, rfl, rfl, rfl⟩ := some4_inv hF
 exact wrp
 replace hF := tup2_inv hF
 intro q
 obtain ⟨rfl, rfl, rfl, rfl⟩ := some4_inv hF
 exact wrp
noncomputable def law05_AsmNames  (p0 : ByteArray) (p1 : ByteArray) : Option (Bool) :=
  bind1 (law05_awake) fun r1 =>
  if (!r1) = true then (some false)
  else (if ((decide ((p0.size : Int) > 5000)) || (decide ((p1.size : Int) > 100))) = true then (some true)
  else (bind3 (asm_Assemble p0) fun r4 r5 r6 =>
  bind4 (ref05_Assemble p0) fun r8 r9 r10 r11 =>
  bind1 (asm_Name p1) fun r13 =>
  bind1 (ref05_Name p1) fun r15 =>
  bind1 (if (r13 == r15) = true then (bind1 (asm_Unit_At r4 p1) fun r17 =>
  bind1 (ref05_Find r9 p1) fun r19 =>
  some (r17 == r19)) else (some false)) fun w21 =>
  some w21))
theorem ok_law05_AsmNames (H : Heap) {p0 : ByteArray} {p1 : ByteArray} {ra : Bool} (hF : law05_AsmNames p0 p1 = some ra) : evS X 4 [.one .top (.str p0), .one .top (.str p1)] H = some (.one .top (.bool ra), H) := by
 refine wf Tryd.func4 true 7 ?_; intro q
 obtain ⟨r1, c2, hF⟩ := bind1_inv hF
 refine wc 2 (ok_law05_awake H c2) ?_; intro q
 refine wi 4 8 hF (fun _ hF => ?_) (fun _ hF => ?_)
 intro q
 obtain rfl := some1_inv hF
 exact wrp
 intro q
 refine wr 0 (fun x => ut [(21, vb x)] [14, 15, 16, 17]) ((decide ((p0.size : Int) > 5000)) || (decide ((p1.size : Int) > 100))) ?_ ?_; intro q
 refine wb [16, 17] (decide ((p0.size : Int) > 5000)) 5 5 (fun h3 => ?_) (fun h3 => ?_)
 intro q
 exact wl true (by first | (simp only [h3]; done) | (simp only [h3]; rfl) | simp [h3])
 intro q
 exact wl (decide ((p1.size : Int) > 100)) (by first | (simp only [h3]; done) | (simp only [h3]; rfl) | simp [h3])
 intro q
 refine wi 4 4 hF (fun _ hF => ?_) (fun _ hF => ?_)
 intro q
 obtain rfl := some1_inv hF
 exact wrp
 intro q
 obtain ⟨r4, r5, r6, c7, hF⟩ := bind3_inv hF
 refine wc 12 (ok_asm_Assemble H c7) ?_; intro q
 obtain ⟨r8, r9, r10, r11, c12, hF⟩ := bind4_inv hF
 refine wc 13 (ok_ref05_Assemble H c12) ?_; intro q
 obtain ⟨r13, c14, hF⟩ := bind1_inv hF
 refine wc 1 (ok_asm_Name H c14) ?_; intro q
 obtain ⟨r15, c16, hF⟩ := bind1_inv hF
 refine wc 2 (ok_ref05_Name H c16) ?_; intro q
 obtain ⟨w21, hB22, hF⟩ := bind1_inv hF
 refine wr0 0 (uf (⟨[(4, vb w21)], [], H⟩ : St)) ?_ ?_; intro q
 refine wg [39, 40] 2 10 hB22 (fun _ hB22 => ?_) (fun _ hB22 => ?_)
 intro q
 obtain ⟨r17, c18, hB22⟩ := bind1_inv hB22
 refine wc 2 (ok_asm_Unit_At_2 H c18) ?_; intro q
 obtain ⟨r19, c20, hB22⟩ := bind1_inv hB22
 refine wc 4 (ok_ref05_Find H c20) ?_; intro q
 cases hB22
 exact wl0
 intro q
 cases hB22
 exact wl0
 intro q
 obtain rfl := some1_inv hF
 exact wrp
noncomputable def ref01_Words_L1 (p0 : (List Int)) (p1 : (List Int)) (a1 : Int) : Option ((Int) ⊕ (Unit ⊕ Unit)) :=
  if (decide (a1 < (p0.length : Int))) = true then (bind1 (gi p0 a1) fun x2 =>
  bind1 (gi p1 a1) fun x4 =>
  if (x2 != x4) = true then (some (Sum.inr (Sum.inr ())))
  else (some (Sum.inl (IntKind.wrap .i64 (a1 + 1)))))
  else (some (Sum.inr (Sum.inl ())))
noncomputable def ref01_Words  (p0 : (List Int)) (p1 : (List Int)) : Option (Bool) :=
  if ((p0.length : Int) != (p1.length : Int)) = true then (some false)
  else (bind1 (loopO (fun (x : (Int)) => ref01_Words_L1 p0 p1 x) 0) (sum2 (fun (_ : Unit) =>
  some true) (fun (_ : Unit) =>
  some false)))
noncomputable def law05_same_L1 (p0 : (List T_asm_Label)) (p1 : (List T_ref05_Label)) (a1 : Int) : Option ((Int) ⊕ (Unit ⊕ Unit)) :=
  if (decide (a1 < (p0.length : Int))) = true then (bind1 (gi p0 a1) fun x2 =>
  bind1 (gi p1 a1) fun x4 =>
  bind1 (if (!strEq x2.Name_ x4.Name_) = true then (some true) else (bind1 (gi p0 a1) fun x6 =>
  bind1 (gi p1 a1) fun x8 =>
  some (x6.At_ != x8.At_))) fun w10 =>
  if w10 = true then (some (Sum.inr (Sum.inr ())))
  else (some (Sum.inl (IntKind.wrap .i64 (a1 + 1)))))
  else (some (Sum.inr (Sum.inl ())))
noncomputable def law05_same  (p0 : (List T_asm_Label)) (p1 : (List T_ref05_Label)) : Option (Bool) :=
  if ((p0.length : Int) != (p1.length : Int)) = true then (some false)
  else (bind1 (loopO (fun (x : (Int)) => law05_same_L1 p0 p1 x) 0) (sum2 (fun (_ : Unit) =>
  some true) (fun (_ : Unit) =>
  some false)))
noncomputable def law05_AsmTexts  (p0 : ByteArray) : Option (Bool) :=
  bind1 (law05_awake) fun r1 =>
  if (!r1) = true then (some false)
  else (if (decide ((p0.size : Int) > 20000)) = true then (some true)
  else (bind3 (asm_Assemble p0) fun r3 r4 r5 =>
  bind4 (ref05_Assemble p0) fun r7 r8 r9 r10 =>
  bind1 (ref01_Words r3.Words_ r7) fun r12 =>
  bind1 (if r12 = true then (bind1 (law05_same r3.Labels_ r8) fun r14 =>
  if r14 = true then (if (r4 == r9) = true then (some (r5 == r10)) else (some false)) else (some false)) else (some false)) fun w16 =>
  some w16))
end Go.Proofs.Abs
