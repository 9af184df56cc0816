/- The law AsmBack: whatever the input, it answers true. No conditions. (Part AsmBackF0 of its proof.) -/
import Derived.Test.YtfecmlajhlpgkaaDoorAsmBackX
set_option linter.unusedVariables false
set_option linter.unusedSimpArgs false
set_option linter.unusedSectionVars false
/- Printed by gen (walk.py). -/
namespace Go.Proofs.Abs
open Go Go.Proofs
set_option linter.unusedVariables false
set_option maxRecDepth 100000
set_option maxHeartbeats 0
noncomputable def internal_stringslite_HasSuffix  (p0 : ByteArray) (p1 : ByteArray) : Option (Bool) :=
  bind1 (if (decide ((p0.size : Int) ≥ (p1.size : Int))) = true then (bind1 (sCut p0 (IntKind.wrap .i64 ((p0.size : Int) - (p1.size : Int))) p0.size) fun s1 =>
  some (strEq s1 p1)) else (some false)) fun w3 =>
  some w3
theorem ok_internal_stringslite_HasSuffix (H : Heap) {p0 : ByteArray} {p1 : ByteArray} {ra : Bool} (hF : internal_stringslite_HasSuffix p0 p1 = some ra) : evS X 82 [.one .top (.str p0), .one .top (.str p1)] H = some (.one .top (.bool ra), H) := by
 refine wf Tryd.func82 true 12 ?_; intro q
 obtain ⟨w3, hB4, hF⟩ := bind1_inv hF
 refine wr0 0 (uf (⟨[(4, vb w3)], [], H⟩ : St)) ?_ ?_; intro q
 refine wg [9, 10] 6 12 hB4 (fun _ hB4 => ?_) (fun _ hB4 => ?_)
 intro q
 obtain ⟨s1, h2, hB4⟩ := bind1_inv hB4
 refine wsc 5 h2 ?_; intro q
 cases hB4
 exact wl0
 intro q
 cases hB4
 exact wl0
 intro q
 obtain rfl := some1_inv hF
 exact wrp
noncomputable def internal_stringslite_CutSuffix  (p0 : ByteArray) (p1 : ByteArray) : Option (ByteArray × Bool) :=
  bind1 (internal_stringslite_HasSuffix p0 p1) fun r1 =>
  if (!r1) = true then (some (p0, false))
  else (bind1 (sCut p0 0 (IntKind.wrap .i64 ((p0.size : Int) - (p1.size : Int)))) fun s3 =>
  some (s3, true))
theorem ok_internal_stringslite_CutSuffix (H : Heap) {p0 : ByteArray} {p1 : ByteArray} {ra : ByteArray} {rb : Bool} (hF : internal_stringslite_CutSuffix p0 p1 = some (ra, rb)) : evS X 66 [.one .top (.str p0), .one .top (.str p1)] H = some (.tup [.one .top (.str ra), .one .top (.bool rb)], H) := by
 refine wf Tryd.func66 true 10 ?_; intro q
 obtain ⟨r1, c2, hF⟩ := bind1_inv hF
 refine wc 2 (ok_internal_stringslite_HasSuffix H c2) ?_; intro q
 refine wi 6 9 hF (fun _ hF => ?_) (fun _ hF => ?_)
 intro q
 obtain ⟨rfl, rfl⟩ := some2_inv hF
 exact wrp
 intro q
 obtain ⟨s3, h4, hF⟩ := bind1_inv hF
 refine wsc 3 h4 ?_; intro q
 obtain ⟨rfl, rfl⟩ := some2_inv hF
 exact wrp
noncomputable def strings_CutSuffix  (p0 : ByteArray) (p1 : ByteArray) : Option (ByteArray × Bool) :=
  bind2 (internal_stringslite_CutSuffix p0 p1) fun r1 r2 =>
  some (r1, r2)
theorem ok_strings_CutSuffix (H : Heap) {p0 : ByteArray} {p1 : ByteArray} {ra : ByteArray} {rb : Bool} (hF : strings_CutSuffix p0 p1 = some (ra, rb)) : evS X 34 [.one .top (.str p0), .one .top (.str p1)] H = some (.tup [.one .top (.str ra), .one .top (.bool rb)], H) := by
 refine wf Tryd.func34 true 9 ?_; intro q
 obtain ⟨r1, r2, c3, hF⟩ := bind2_inv hF
 refine wc 5 (ok_internal_stringslite_CutSuffix H c3) ?_; intro q
 obtain ⟨rfl, rfl⟩ := some2_inv hF
 exact wrp
noncomputable def asm_Name_L1 (p0 : ByteArray) (a2 : Int) : Option ((Int) ⊕ (Unit ⊕ Unit)) :=
  if (decide (a2 < (p0.size : Int))) = true then (bind1 (sAt p0 a2) fun v3 =>
  if ((!(if (decide (v3 ≥ 97)) = true then ((decide (v3 ≤ 122)) || (v3 == 95)) else (v3 == 95))) && ((a2 == 0) || ((decide (v3 < 48)) || (decide (v3 > 57))))) = true then (some (Sum.inr (Sum.inr ())))
  else (some (Sum.inl (IntKind.wrap .i64 (a2 + 1)))))
  else (some (Sum.inr (Sum.inl ())))
noncomputable def asm_Name  (p0 : ByteArray) : Option (Bool) :=
  if ((strEq p0 ByteArray.empty) || (decide ((p0.size : Int) > 32))) = true then (some false)
  else (bind1 (loopO (fun (x : (Int)) => asm_Name_L1 p0 x) 0) (sum2 (fun (_ : Unit) =>
  some true) (fun (_ : Unit) =>
  some false)))
theorem ok_asm_Name (H : Heap) {p0 : ByteArray} {ra : Bool} (hF : asm_Name p0 = some ra) : evS X 13 [.one .top (.str p0)] H = some (.one .top (.bool ra), H) := by
 refine wf Tryd.func13 true 10 ?_; intro q
 refine wr 0 (fun x => ut [(12, vb x)] [6, 7, 8]) ((strEq p0 ByteArray.empty) || (decide ((p0.size : Int) > 32))) ?_ ?_; intro q
 refine wb [7, 8] (strEq p0 ByteArray.empty) 5 5 (fun h1 => ?_) (fun h1 => ?_)
 intro q
 exact wl true (by first | (simp only [h1]; done) | (simp only [h1]; rfl) | simp [h1])
 intro q
 exact wl (decide ((p0.size : Int) > 32)) (by first | (simp only [h1]; done) | (simp only [h1]; rfl) | simp [h1])
 intro q
 refine wi 4 9 hF (fun _ hF => ?_) (fun _ hF => ?_)
 intro q
 obtain rfl := some1_inv hF
 exact wrp
 intro q
 obtain ⟨r11, hL10, hF⟩ := bind1_inv hF
 refine wL (fun (x : (Int)) => ut [(15, vi x)] []) (Sum.elim (fun (y : Unit) => wz (.exit 0) (ut [] [0, 14, 15])) (fun (y : Unit) => wz (.ret) (ut [(2, vF)] [0, 14, 15]))) hL10 ?_ ?_
 rintro a2 o hF q
 refine go 5 ?_; intro q
 refine wi 12 0 hF (fun _ hF => ?_) (fun _ hF => ?_)
 intro q
 obtain ⟨v3, h4, hF⟩ := bind1_inv hF
 refine wsx 7 h4 ?_; intro q
 refine wr 5 (fun x => ut [(5, vb x)] [21, 22, 23]) (if (decide (v3 ≥ 97)) = true then ((decide (v3 ≤ 122)) || (v3 == 95)) else (v3 == 95)) ?_ ?_; intro q
 refine wb [22, 23] (decide (v3 ≥ 97)) 4 9 (fun h5 => ?_) (fun h5 => ?_)
 intro q
 refine wb [25, 26, 27] (decide (v3 ≤ 122)) 5 5 (fun h6 => ?_) (fun h6 => ?_)
 intro q
 exact wl true (by first | (simp only [h5, h6]; done) | (simp only [h5, h6]; rfl) | simp [h5, h6])
 intro q
 exact wl (v3 == 95) (by first | (simp only [h5, h6]; done) | (simp only [h5, h6]; rfl) | simp [h5, h6])
 intro q
 exact wl (v3 == 95) (by first | (simp only [h5]; done) | (simp only [h5]; rfl) | simp [h5])
 intro q
 refine wr 0 (fun x => ut [(44, vb x)] [3, 4, 5, 31, 32, 33]) ((!(if (decide (v3 ≥ 97)) = true then ((decide (v3 ≤ 122)) || (v3 == 95)) else (v3 == 95))) && ((a2 == 0) || ((decide (v3 < 48)) || (decide (v3 > 57))))) ?_ ?_; intro q
 refine wb [32, 33] (!(if (decide (v3 ≥ 97)) = true then ((decide (v3 ≤ 122)) || (v3 == 95)) else (v3 == 95))) 3 12 (fun h7 => ?_) (fun h7 => ?_)
 intro q
 refine wb [35, 36] (a2 == 0) 9 4 (fun h8 => ?_) (fun h8 => ?_)
 intro q
 exact wl true (by first | (simp only [h7, h8]; done) | (simp only [h7, h8]; rfl) | simp [h7, h8])
 intro q
 refine wb [38, 39, 40] (decide (v3 < 48)) 5 5 (fun h9 => ?_) (fun h9 => ?_)
 intro q
 exact wl true (by first | (simp only [h7, h8, h9]; done) | (simp only [h7, h8, h9]; rfl) | simp [h7, h8, h9])
 intro q
 exact wl (decide (v3 > 57)) (by first | (simp only [h7, h8, h9]; done) | (simp only [h7, h8, h9]; rfl) | simp [h7, h8, h9])
 intro q
 exact wl false (by first | (simp only [h7]; done) | (simp only [h7]; rfl) | simp [h7])
 intro q
 refine wi 4 6 hF (fun _ hF => ?_) (fun _ hF => ?_)
 intro q
 exact wlx _ hF
 intro q
 exact wln _ hF
 intro q
 exact wlx _ hF
 replace hF := sum2_inv hF
 rcases hF with ⟨⟨⟩, rfl, hF⟩ | ⟨⟨⟩, rfl, hF⟩
 intro q
 refine go 5 ?_; intro q
 obtain rfl := some1_inv hF
 exact wrp
 intro q
 obtain rfl := some1_inv hF
 exact wrp
noncomputable def asm_Unit_At_L1 (p0 : T_asm_Unit) (p1 : ByteArray) (a1 : Int) : Option ((Int) ⊕ (Unit ⊕ (Int))) :=
  if (decide (a1 < (p0.Labels_.length : Int))) = true then (bind1 (gi p0.Labels_ a1) fun x2 =>
  if (strEq x2.Name_ p1) = true then (some (Sum.inr (Sum.inr x2.At_)))
  else (some (Sum.inl (IntKind.wrap .i64 (a1 + 1)))))
  else (some (Sum.inr (Sum.inl ())))
noncomputable def asm_Unit_At  (p0 : T_asm_Unit) (p1 : ByteArray) : Option (Int) :=
  bind1 (loopO (fun (x : (Int)) => asm_Unit_At_L1 p0 p1 x) 0) (sum2 (fun (_ : Unit) =>
  some (-1)) (fun b5 =>
  some b5))
theorem ok_asm_Unit_At (H : Heap) {p0 : T_asm_Unit} {p1 : ByteArray} {ra : Int} (hF : asm_Unit_At p0 p1 = some ra) : evS X 15 [.agg [(.bh, .sl 1 (List.map (eI .u32) p0.Words_)), (.bh, .sl 2 (List.map e_asm_Label p0.Labels_))], .one .top (.str p1)] H = some (.one .top (.int .i64 ra), H) := by
 refine wf Tryd.func15 true 10 ?_; intro q
 refine wle 3 p0.Labels_ e_asm_Label ?_; intro q
 obtain ⟨r6, hL4, hF⟩ := bind1_inv hF
 refine wL (fun (x : (Int)) => ut [(10, vi x)] []) (Sum.elim (fun (y : Unit) => wz (.exit 0) (ut [] [1, 8, 9, 10])) (fun (y : (Int)) => wz (.ret) (ut [(4, vi y)] [1, 8, 9, 10]))) hL4 ?_ ?_
 rintro a1 o hF q
 refine go 5 ?_; intro q
 refine wi 5 0 hF (fun _ hF => ?_) (fun _ hF => ?_)
 intro q
 obtain ⟨x2, h3, hF⟩ := bind1_inv hF
 refine wix 11 h3 e_asm_Label ?_; intro q
 refine wi 6 6 hF (fun _ hF => ?_) (fun _ hF => ?_)
 intro q
 exact wlx _ hF
 intro q
 exact wln _ hF
 intro q
 exact wlx _ hF
 replace hF := sum2_inv hF
 rcases hF with ⟨⟨⟩, rfl, hF⟩ | ⟨b5, rfl, hF⟩
 intro q
 refine go 5 ?_; intro q
 obtain rfl := some1_inv hF
 exact wrp
 intro q
 obtain rfl := some1_inv hF
 exact wrp
noncomputable def unicode_utf8_ValidRune  (p0 : Int) : Option (Bool) :=
  if ((decide (0 ≤ p0)) && (decide (p0 < 55296))) = true then (some true)
  else (if ((decide (57343 < p0)) && (decide (p0 ≤ 1114111))) = true then (some true)
  else (some false))
theorem ok_unicode_utf8_ValidRune (H : Heap) {p0 : Int} {ra : Bool} (hF : unicode_utf8_ValidRune p0 = some ra) : evS X 103 [.one .top (.int .i32 p0)] H = some (.one .top (.bool ra), H) := by
 refine wf Tryd.func103 true 11 ?_; intro q
 refine wr 0 (fun x => ut [(3, vb x)] [4, 5, 6]) ((decide (0 ≤ p0)) && (decide (p0 < 55296))) ?_ ?_; intro q
 refine wb [5, 6] (decide (0 ≤ p0)) 5 5 (fun h1 => ?_) (fun h1 => ?_)
 intro q
 exact wl (decide (p0 < 55296)) (by first | (simp only [h1]; done) | (simp only [h1]; rfl) | simp [h1])
 intro q
 exact wl false (by first | (simp only [h1]; done) | (simp only [h1]; rfl) | simp [h1])
 intro q
 refine wi 4 5 hF (fun _ hF => ?_) (fun _ hF => ?_)
 intro q
 obtain rfl := some1_inv hF
 exact wrp
 intro q
 refine wr 0 (fun x => ut [(10, vb x)] [0, 11, 12, 13]) ((decide (57343 < p0)) && (decide (p0 ≤ 1114111))) ?_ ?_; intro q
 refine wb [12, 13] (decide (57343 < p0)) 5 5 (fun h2 => ?_) (fun h2 => ?_)
 intro q
 exact wl (decide (p0 ≤ 1114111)) (by first | (simp only [h2]; done) | (simp only [h2]; rfl) | simp [h2])
 intro q
 exact wl false (by first | (simp only [h2]; done) | (simp only [h2]; rfl) | simp [h2])
 intro q
 refine wi 4 6 hF (fun _ hF => ?_) (fun _ hF => ?_)
 intro q
 obtain rfl := some1_inv hF
 exact wrp
 intro q
 obtain rfl := some1_inv hF
 exact wrp
noncomputable def strings_IndexRune_L1 (p0 : ByteArray) (a4 : Nat) : Option ((Nat) ⊕ (Unit ⊕ (Int))) :=
  if a4 < p0.size then (if ((runeAt p0 a4) == 65533) = true then (some (Sum.inr (Sum.inr ((a4 : Nat) : Int))))
  else (some (Sum.inl (runeEnd p0 a4))))
  else (some (Sum.inr (Sum.inl ())))
noncomputable def strings_IndexRune_L4 (p1 : Int) (p0 : ByteArray) (j14 : Int) (a16 : Int) : Option ((Int) ⊕ ((Int))) :=
  if (decide (a16 < ((Utf8.encode p1).size : Int))) = true then (bind1 (sAt p0 (IntKind.wrap .i64 (j14 - a16))) fun v17 =>
  bind1 (sAt (Utf8.encode p1) (IntKind.wrap .i64 ((IntKind.wrap .i64 (((Utf8.encode p1).size : Int) - 1)) - a16))) fun v19 =>
  if (v17 != v19) = true then (none)
  else (some (Sum.inl (IntKind.wrap .i64 (a16 + 1)))))
  else (some (Sum.inr (IntKind.wrap .i64 (((Utf8.encode p1).size : Int) - 1))))
noncomputable def strings_IndexRune_j3 (p1 : Int) (p0 : ByteArray) (j14 : Int) : Option (Unit ⊕ (Unit ⊕ (Int))) :=
  bind1 (loopO (fun (x : (Int)) => strings_IndexRune_L4 p1 p0 j14 x) 1) (fun b22 =>
  some (Sum.inr (Sum.inr (IntKind.wrap .i64 (j14 - b22)))))
noncomputable def strings_IndexRune_L2 (p1 : Int) (p0 : ByteArray) : Option (Unit ⊕ (Unit ⊕ (Int))) :=
  if (decide ((IntKind.wrap .i64 (((Utf8.encode p1).size : Int) - 1)) < (p0.size : Int))) = true then (bind1 (sAt p0 (IntKind.wrap .i64 (((Utf8.encode p1).size : Int) - 1))) fun v10 =>
  bind1 (sAt (Utf8.encode p1) (IntKind.wrap .i64 (((Utf8.encode p1).size : Int) - 1))) fun v12 =>
  if (v10 != v12) = true then (bind1 (sCut p0 (IntKind.wrap .i64 ((IntKind.wrap .i64 (((Utf8.encode p1).size : Int) - 1)) + 1)) p0.size) fun s23 =>
  bind1 (sAt (Utf8.encode p1) (IntKind.wrap .i64 (((Utf8.encode p1).size : Int) - 1))) fun v25 =>
  bind1 (indexByteC s23 v25) fun r27 =>
  if (decide (r27 < 0)) = true then (some (Sum.inr (Sum.inr (-1))))
  else (strings_IndexRune_j3 p1 p0 (IntKind.wrap .i64 ((IntKind.wrap .i64 (((Utf8.encode p1).size : Int) - 1)) + (IntKind.wrap .i64 (r27 + 1))))))
  else (strings_IndexRune_j3 p1 p0 (IntKind.wrap .i64 (((Utf8.encode p1).size : Int) - 1))))
  else (some (Sum.inr (Sum.inl ())))
noncomputable def strings_IndexRune  (p0 : ByteArray) (p1 : Int) : Option (Int) :=
  if ((decide (0 ≤ p1)) && (decide (p1 < 128))) = true then (bind1 (indexByteC p0 (IntKind.wrap .u8 p1)) fun r2 =>
  some r2)
  else (if (p1 == 65533) = true then (bind1 (loopO (fun (x : (Nat)) => strings_IndexRune_L1 p0 x) 0) (sum2 (fun (_ : Unit) =>
  some (-1)) (fun b6 =>
  some b6)))
  else (bind1 (unicode_utf8_ValidRune p1) fun r8 =>
  if (!r8) = true then (some (-1))
  else (bind1 (loopO (fun (x : Unit) => strings_IndexRune_L2 p1 p0) ()) (sum2 (fun (_ : Unit) =>
  some (-1)) (fun b30 =>
  some b30)))))
theorem ok_strings_IndexRune (H : Heap) {p0 : ByteArray} {p1 : Int} {ra : Int} (hF : strings_IndexRune p0 p1 = some ra) : evS X 95 [.one .top (.str p0), .one .top (.int .i32 p1)] H = some (.one .top (.int .i64 ra), H) := by
 refine wf Tryd.func95 true 10 ?_; intro q
 refine wr 0 (fun x => ut [(160, vb x)] [161, 162, 163]) ((decide (0 ≤ p1)) && (decide (p1 < 128))) ?_ ?_; intro q
 refine wb [162, 163] (decide (0 ≤ p1)) 5 5 (fun h1 => ?_) (fun h1 => ?_)
 intro q
 exact wl (decide (p1 < 128)) (by first | (simp only [h1]; done) | (simp only [h1]; rfl) | simp [h1])
 intro q
 exact wl false (by first | (simp only [h1]; done) | (simp only [h1]; rfl) | simp [h1])
 intro q
 refine wi 5 6 hF (fun _ hF => ?_) (fun _ hF => ?_)
 intro q
 obtain ⟨r2, c3, hF⟩ := bind1_inv hF
 refine wc 2 (ok_indexByteC H c3) ?_; intro q
 obtain rfl := some1_inv hF
 exact wrp
 intro q
 refine wi 7 3 hF (fun _ hF => ?_) (fun _ hF => ?_)
 intro q
 obtain ⟨r7, hL5, hF⟩ := bind1_inv hF
 refine wL (fun (x : (Nat)) => ut [(175, .one .top (.it p0 x))] []) (Sum.elim (fun (y : Unit) => wz (.exit 9) (ut [] [175])) (fun (y : (Int)) => wz (.ret) (ut [(4, vi y)] [175]))) hL5 ?_ ?_
 rintro a4 o hF q
 refine go 2 ?_; intro q
 refine wnx 18 4 hF (fun _ hF => ?_) (fun _ hF => ?_) .top
 intro q
 refine wi 5 2 hF (fun _ hF => ?_) (fun _ hF => ?_)
 intro q
 exact wlx _ hF
 intro q
 exact wln _ hF
 intro q
 exact wlx _ hF
 replace hF := sum2_inv hF
 rcases hF with ⟨⟨⟩, rfl, hF⟩ | ⟨b6, rfl, hF⟩
 intro q
 refine go 5 ?_; intro q
 obtain rfl := some1_inv hF
 exact wrp
 intro q
 obtain rfl := some1_inv hF
 exact wrp
 intro q
 obtain ⟨r8, c9, hF⟩ := bind1_inv hF
 refine wc 3 (ok_unicode_utf8_ValidRune H c9) ?_; intro q
 refine wi 4 25 hF (fun _ hF => ?_) (fun _ hF => ?_)
 intro q
 obtain rfl := some1_inv hF
 exact wrp
 intro q
 obtain ⟨r31, hL29, hF⟩ := bind1_inv hF
 refine wL (fun (x : Unit) => ut [] []) (Sum.elim (fun (y : Unit) => wz (.exit 1) (ut [] [0, 7, 8, 9])) (fun (y : (Int)) => wz (.ret) (ut [(4, vi y)] [0, 7, 8, 9]))) hL29 ?_ ?_
 rintro ⟨⟩ o hF q
 refine go 8 ?_; intro q
 refine wi 8 0 hF (fun _ hF => ?_) (fun _ hF => ?_)
 intro q
 obtain ⟨v10, h11, hF⟩ := bind1_inv hF
 refine wsx 2 h11 ?_; intro q
 obtain ⟨v12, h13, hF⟩ := bind1_inv hF
 refine wsx 2 h13 ?_; intro q
 refine wj 6 0 (fun x => ut [(9, vi x)] [33]) (strings_IndexRune_j3 p1 p0) o ?_ ?_
 rintro j14 hF q
 obtain ⟨b22, hL21, hF⟩ := bind1_inv hF
 refine wL (fun (x : (Int)) => ut [(12, vi x)] []) (fun (y : (Int)) => wz (.exit 3) (ut [(8, vi y)] [0, 7, 12])) hL21 ?_ ?_
 rintro a16 o hF q
 refine go 8 ?_; intro q
 refine wi 9 0 hF (fun _ hF => ?_) (fun _ hF => ?_)
 intro q
 obtain ⟨v17, h18, hF⟩ := bind1_inv hF
 refine wsx 4 h18 ?_; intro q
 obtain ⟨v19, h20, hF⟩ := bind1_inv hF
 refine wsx 2 h20 ?_; intro q
 refine wi 0 7 hF (fun _ hF => ?_) (fun _ hF => ?_)
 intro q
 cases hF
 intro q
 exact wln _ hF
 intro q
 exact wlx _ hF
 intro q
 refine go 9 ?_; intro q
 exact wlx _ hF
 intro hJ15 q
 refine wi 5 1 hF (fun _ hF => ?_) (fun _ hF => ?_)
 intro q
 obtain ⟨s23, h24, hF⟩ := bind1_inv hF
 refine wsc 2 h24 ?_; intro q
 obtain ⟨v25, h26, hF⟩ := bind1_inv hF
 refine wsx 0 h26 ?_; intro q
 obtain ⟨r27, c28, hF⟩ := bind1_inv hF
 refine wc 8 (ok_indexByteC H c28) ?_; intro q
 refine wi 4 8 hF (fun _ hF => ?_) (fun _ hF => ?_)
 intro q
 exact wlx _ hF
 intro q
 exact we hJ15 (IntKind.wrap .i64 ((IntKind.wrap .i64 (((Utf8.encode p1).size : Int) - 1)) + (IntKind.wrap .i64 (r27 + 1)))) hF
 intro q
 exact we hJ15 (IntKind.wrap .i64 (((Utf8.encode p1).size : Int) - 1)) hF
 intro q
 exact wlx _ hF
 replace hF := sum2_inv hF
 rcases hF with ⟨⟨⟩, rfl, hF⟩ | ⟨b30, rfl, hF⟩
 intro q
 refine go 6 ?_; intro q
 obtain rfl := some1_inv hF
 exact wrp
 intro q
 obtain rfl := some1_inv hF
 exact wrp
noncomputable def strings_shouldUseASCIISet  (p0 : Int) : Option (Bool) :=
  some (decide (p0 > 8))
theorem ok_strings_shouldUseASCIISet (H : Heap) {p0 : Int} {ra : Bool} (hF : strings_shouldUseASCIISet p0 = some ra) : evS X 96 [.one .top (.int .i64 p0)] H = some (.one .top (.bool ra), H) := by
 refine wf Tryd.func96 true 10 ?_; intro q
 obtain rfl := some1_inv hF
 exact wrp
noncomputable def strings_makeASCIISet_L1 (p0 : ByteArray) (a1 : Int) (a2 : (Arr 256 Bool)) : Option ((Int × (Arr 256 Bool)) ⊕ (((Arr 256 Bool)) ⊕ ((Arr 256 Bool)))) :=
  if (decide (a1 < (p0.size : Int))) = true then (bind1 (sAt p0 a1) fun v3 =>
  if (decide (v3 ≥ 128)) = true then (some (Sum.inr (Sum.inr a2)))
  else (bind1 (ga a2 v3) fun v5 =>
  bind1 (sa a2 v3 true) fun v7 =>
  some (Sum.inl ((IntKind.wrap .i64 (a1 + 1)), v7))))
  else (some (Sum.inr (Sum.inl a2)))
noncomputable def strings_makeASCIISet  (p0 : ByteArray) : Option ((Arr 256 Bool) × Bool) :=
  bind1 (loopO (fun (x : (Int × (Arr 256 Bool))) => strings_makeASCIISet_L1 p0 x.1 x.2) (0, (arrR 256 false : Arr 256 Bool))) (sum2 (fun b10 =>
  some (b10, true)) (fun b11 =>
  some (b11, false)))
theorem ok_strings_makeASCIISet (H : Heap) {p0 : ByteArray} {ra : (Arr 256 Bool)} {rb : Bool} (hF : strings_makeASCIISet p0 = some (ra, rb)) : evS X 97 [.one .top (.str p0)] H = some (.tup [.agg (arB 256 ra), .one .top (.bool rb)], H) := by
 refine wf Tryd.func97 true 11 ?_; intro q
 obtain ⟨r12, hL9, hF⟩ := bind1_inv hF
 refine wL (fun (x : (Int × (Arr 256 Bool))) => up [(4, vi x.1)] [] [(2, (arB 256 x.2))] []) (Sum.elim (fun (y : ((Arr 256 Bool))) => wz (.exit 0) (up [] [0, 4] [(2, (arB 256 y))] [])) (fun (y : ((Arr 256 Bool))) => wz (.ret) (up [(3, vF)] [0, 4] [(2, (arB 256 y))] []))) hL9 ?_ ?_
 rintro ⟨a1, a2⟩ o hF q
 refine go 8 ?_; intro q
 refine wi 7 0 hF (fun _ hF => ?_) (fun _ hF => ?_)
 intro q
 obtain ⟨v3, h4, hF⟩ := bind1_inv hF
 refine wsx 8 h4 ?_; intro q
 refine wi 6 3 hF (fun _ hF => ?_) (fun _ hF => ?_)
 intro q
 exact wlx _ hF
 intro q
 obtain ⟨v5, h6, hF⟩ := bind1_inv hF
 refine wiL 0 2 0 h6 ?_; intro q
 obtain ⟨v7, h8, hF⟩ := bind1_inv hF
 refine wsL 7 2 0 h8 (fun q => .bool q) ?_; intro q
 exact wln _ hF
 intro q
 exact wlx _ hF
 replace hF := sum2_inv hF
 rcases hF with ⟨b10, rfl, hF⟩ | ⟨b11, rfl, hF⟩
 intro q
 refine go 7 ?_; intro q
 obtain ⟨rfl, rfl⟩ := some2_inv hF
 exact wrp
 intro q
 obtain ⟨rfl, rfl⟩ := some2_inv hF
 exact wrp
noncomputable def strings_asciiSet_contains (H : Heap) (p0 : Ptr) (p1 : Int) : Option (Bool) :=
  (p0).bnd fun i1 o2 =>
  bind1 (get_r256_bool H i1 o2) fun x4 =>
  bind1 (ga x4 p1) fun v6 =>
  some v6
theorem ok_strings_asciiSet_contains (H : Heap) {p0 : Ptr} {p1 : Int} {ra : Bool} (hF : strings_asciiSet_contains H p0 p1 = some ra) : evS X 98 [.one .top (.ptr p0), .one .top (.int .u8 p1)] H = some (.one .top (.bool ra), H) := by
 refine wf Tryd.func98 true 8 ?_; intro q
 obtain ⟨i1, o2, h3, hF⟩ := pbnd_inv hF
 refine wnp 0 h3 ?_; intro q
 obtain ⟨x4, V5, hF⟩ := bind1_inv hF
 replace V5 := hgetT_inv V5
 obtain ⟨v6, h7, hF⟩ := bind1_inv hF
 refine wiO 0 i1 o2 h7 ?_; intro q
 refine wdO 2 h7 V5 0 (fun q => .bool q) ?_; intro q
 obtain rfl := some1_inv hF
 exact wrp
noncomputable def strings_IndexAny_j1 (p0 : ByteArray) (H : Heap) (j3 : Int) : Option (Heap × Int) :=
  bind1 (strings_IndexRune p0 j3) fun r5 =>
  some (H, r5)
noncomputable def strings_IndexAny_L3 (p0 : ByteArray) (p1 : ByteArray) (a11 : Nat) : Option ((Nat) ⊕ (Unit ⊕ (Int))) :=
  if a11 < p0.size then (bind1 (strings_IndexRune p1 (runeAt p0 a11)) fun r12 =>
  if (decide (r12 ≥ 0)) = true then (some (Sum.inr (Sum.inr ((a11 : Nat) : Int))))
  else (some (Sum.inl (runeEnd p0 a11))))
  else (some (Sum.inr (Sum.inl ())))
noncomputable def strings_IndexAny_j2 (p0 : ByteArray) (p1 : ByteArray) (H9 : Heap) : Option (Heap × Int) :=
  bind1 (loopO (fun (x : (Nat)) => strings_IndexAny_L3 p0 p1 x) 0) (sum2 (fun (_ : Unit) =>
  some (H9, -1)) (fun b15 =>
  some (H9, b15)))
noncomputable def strings_IndexAny_L4 (p0 : ByteArray) (H26 : Heap) (i21 : Nat) (a29 : Int) : Option ((Int) ⊕ (Unit ⊕ (Int))) :=
  if (decide (a29 < (p0.size : Int))) = true then (bind1 (sAt p0 a29) fun v30 =>
  bind1 (strings_asciiSet_contains H26 (Ptr.at i21 0) v30) fun r32 =>
  if r32 = true then (some (Sum.inr (Sum.inr a29)))
  else (some (Sum.inl (IntKind.wrap .i64 (a29 + 1)))))
  else (some (Sum.inr (Sum.inl ())))
noncomputable def strings_IndexAny (H : Heap) (p0 : ByteArray) (p1 : ByteArray) : Option (Heap × Int) :=
  if (strEq p1 ByteArray.empty) = true then (some (H, -1))
  else (if ((p1.size : Int) == 1) = true then (bind1 (sAt p1 0) fun v1 =>
  if (decide ((IntKind.wrap .i32 v1) ≥ 128)) = true then (strings_IndexAny_j1 p0 H 65533)
  else (strings_IndexAny_j1 p0 H (IntKind.wrap .i32 v1)))
  else (bind1 (strings_shouldUseASCIISet (p0.size : Int)) fun r7 =>
  if r7 = true then (bind2 (strings_makeASCIISet p1) fun r17 r18 =>
  bnd H.length fun i21 =>
  bnd (new_r256_bool H (arrR 256 false : Arr 256 Bool)) fun H20 =>
  bind1 (get_r256_bool H20 i21 0) fun x24 =>
  bnd (set_r256_bool H20 i21 0 r17) fun H26 =>
  if r18 = true then (bind1 (loopO (fun (x : (Int)) => strings_IndexAny_L4 p0 H26 i21 x) 0) (sum2 (fun (_ : Unit) =>
  some (H26, -1)) (fun b35 =>
  some (H26, b35))))
  else (strings_IndexAny_j2 p0 p1 H26))
  else (strings_IndexAny_j2 p0 p1 H)))
theorem ok_strings_IndexAny (H : Heap) {p0 : ByteArray} {p1 : ByteArray} {ra : Int} {Hr : Heap} (hF : strings_IndexAny H p0 p1 = some (Hr, ra)) : evS X 84 [.one .top (.str p0), .one .top (.str p1)] H = some (.one .top (.int .i64 ra), Hr) := by
 refine wf Tryd.func84 false 10 ?_; intro q
 refine wi 4 8 hF (fun _ hF => ?_) (fun _ hF => ?_)
 intro q
 obtain ⟨rfl, rfl⟩ := some2_inv hF
 exact wri
 intro q
 refine wi 3 6 hF (fun _ hF => ?_) (fun _ hF => ?_)
 intro q
 obtain ⟨v1, h2, hF⟩ := bind1_inv hF
 refine wsx 9 h2 ?_; intro q
 refine wj 4 0 (fun x => ut [(5, .one .top (.int .i32 x))] [20]) (strings_IndexAny_j1 p0 H) (Hr, ra) ?_ ?_
 rintro j3 hF q
 obtain ⟨r5, c6, hF⟩ := bind1_inv hF
 refine wc 2 (ok_strings_IndexRune H c6) ?_; intro q
 obtain ⟨rfl, rfl⟩ := some2_inv hF
 exact wri
 intro hJ4 q
 refine wi 3 1 hF (fun _ hF => ?_) (fun _ hF => ?_)
 intro q
 exact we hJ4 65533 hF
 intro q
 exact we hJ4 (IntKind.wrap .i32 v1) hF
 intro q
 obtain ⟨r7, c8, hF⟩ := bind1_inv hF
 refine wc 1 (ok_strings_shouldUseASCIISet H c8) ?_; intro q
 refine wj 7 0 (fun x => uh x (ut [] [26])) (strings_IndexAny_j2 p0 p1) (Hr, ra) ?_ ?_
 rintro H9 hF q
 obtain ⟨r16, hL14, hF⟩ := bind1_inv hF
 refine wL (fun (x : (Nat)) => ut [(45, .one .top (.it p0 x))] []) (Sum.elim (fun (y : Unit) => wz (.exit 2) (ut [] [1, 45])) (fun (y : (Int)) => wz (.ret) (ut [(4, vi y)] [1, 45]))) hL14 ?_ ?_
 rintro a11 o hF q
 refine go 2 ?_; intro q
 refine wnx 17 4 hF (fun _ hF => ?_) (fun _ hF => ?_) .top
 intro q
 obtain ⟨r12, c13, hF⟩ := bind1_inv hF
 refine wc 2 (ok_strings_IndexRune H9 c13) ?_; intro q
 refine wi 5 2 hF (fun _ hF => ?_) (fun _ hF => ?_)
 intro q
 exact wlx _ hF
 intro q
 exact wln _ hF
 intro q
 exact wlx _ hF
 replace hF := sum2_inv hF
 rcases hF with ⟨⟨⟩, rfl, hF⟩ | ⟨b15, rfl, hF⟩
 intro q
 refine go 5 ?_; intro q
 obtain ⟨rfl, rfl⟩ := some2_inv hF
 exact wri
 intro q
 obtain ⟨rfl, rfl⟩ := some2_inv hF
 exact wri
 intro hJ10 q
 refine wi 3 1 hF (fun _ hF => ?_) (fun _ hF => ?_)
 intro q
 obtain ⟨r17, r18, c19, hF⟩ := bind2_inv hF
 refine wc 3 (ok_strings_makeASCIISet H c19) ?_; intro q
 obtain ⟨i21, h23, hF⟩ := bnd_inv hF
 obtain ⟨H20, h22, hF⟩ := bnd_inv hF
 refine wal 0 h23 h22 (d := 6) ?_; intro q
 obtain ⟨x24, V25, hF⟩ := bind1_inv hF
 replace V25 := hgetT_inv V25
 refine wst 1 V25 0 (hs0 V25) ?_; intro q
 obtain ⟨H26, h27, hF⟩ := bnd_inv hF
 have V28 : hget H26 i21 0 256 = some (o_r256_bool r17) := by rw [← h27]; exact hset_get V25 rfl
 refine wh 5 h27 ?_; intro q
 refine wi 6 1 hF (fun _ hF => ?_) (fun _ hF => ?_)
 intro q
 obtain ⟨r36, hL34, hF⟩ := bind1_inv hF
 refine wL (fun (x : (Int)) => ut [(8, vi x)] []) (Sum.elim (fun (y : Unit) => wz (.exit 0) (ut [] [0, 6, 8])) (fun (y : (Int)) => wz (.ret) (ut [(4, vi y)] [0, 6, 8]))) hL34 ?_ ?_
 rintro a29 o hF q
 refine go 8 ?_; intro q
 refine wi 7 0 hF (fun _ hF => ?_) (fun _ hF => ?_)
 intro q
 obtain ⟨v30, h31, hF⟩ := bind1_inv hF
 refine wsx 0 h31 ?_; intro q
 obtain ⟨r32, c33, hF⟩ := bind1_inv hF
 refine wc 1 (ok_strings_asciiSet_contains H26 c33) ?_; intro q
 refine wi 5 7 hF (fun _ hF => ?_) (fun _ hF => ?_)
 intro q
 exact wlx _ hF
 intro q
 exact wln _ hF
 intro q
 exact wlx _ hF
 replace hF := sum2_inv hF
 rcases hF with ⟨⟨⟩, rfl, hF⟩ | ⟨b35, rfl, hF⟩
 intro q
 refine go 5 ?_; intro q
 obtain ⟨rfl, rfl⟩ := some2_inv hF
 exact wri
 intro q
 obtain ⟨rfl, rfl⟩ := some2_inv hF
 exact wri
 intro q
 exact we hJ10 H26 hF
 intro q
 exact we hJ10 H hF
noncomputable def strings_ContainsAny (H : Heap) (p0 : ByteArray) (p1 : ByteArray) : Option (Heap × Bool) :=
  bind2 (strings_IndexAny H p0 p1) fun H3 r1 =>
  some (H3, (decide (r1 ≥ 0)))
theorem ok_strings_ContainsAny (H : Heap) {p0 : ByteArray} {p1 : ByteArray} {ra : Bool} {Hr : Heap} (hF : strings_ContainsAny H p0 p1 = some (Hr, ra)) : evS X 68 [.one .top (.str p0), .one .top (.str p1)] H = some (.one .top (.bool ra), Hr) := by
 refine wf Tryd.func68 false 8 ?_; intro q
 obtain ⟨H3, r1, c2, hF⟩ := bind2_inv hF
 refine wc 3 (ok_strings_IndexAny H c2) ?_; intro q
 obtain ⟨rfl, rfl⟩ := some2_inv hF
 exact wri
noncomputable def asm_words_L1 (r5 : (List ByteArray)) (a7 : Int) (H8 : Heap) : Option ((Int × Heap) ⊕ ((Heap) ⊕ (Heap))) :=
  if (decide (a7 < (r5.length : Int))) = true then (bind1 (gi r5 a7) fun x9 =>
  bind2 (if (strEq x9 ByteArray.empty) = true then (some (H8, true)) else (bind2 (strings_ContainsAny H8 x9 (ByteArray.mk #[32, 44])) fun H13 r11 =>
  some (H13, r11))) fun H15 w14 =>
  if w14 = true then (some (Sum.inr (Sum.inr H15)))
  else (some (Sum.inl ((IntKind.wrap .i64 (a7 + 1)), H15))))
  else (some (Sum.inr (Sum.inl H8)))
noncomputable def asm_words (H : Heap) (p0 : ByteArray) : Option (Heap × ByteArray × (List ByteArray) × Bool) :=
  bind3 (cutC p0 (ByteArray.mk #[32])) fun r1 r2 r3 =>
  if (!r3) = true then (some (H, r1, ([] : List ByteArray), true))
  else (bind1 (splitC r2 (ByteArray.mk #[44, 32])) fun r5 =>
  bind1 (loopO (fun (x : (Int × Heap)) => asm_words_L1 r5 x.1 x.2) (0, H)) (sum2 (fun H18 =>
  some (H18, r1, r5, true)) (fun H19 =>
  some (H19, ByteArray.empty, ([] : List ByteArray), false))))
theorem ok_asm_words (H : Heap) {p0 : ByteArray} {ra : ByteArray} {rb : (List ByteArray)} {rc : Bool} {Hr : Heap} (hF : asm_words H p0 = some (Hr, ra, rb, rc)) : evS X 35 [.one .top (.str p0)] H = some (.tup [.one .top (.str ra), .one (.own 0) (.sl 1 (List.map eS rb)), .one .top (.bool rc)], Hr) := by
 refine wf Tryd.func35 false 9 ?_; intro q
 obtain ⟨r1, r2, r3, c4, hF⟩ := bind3_inv hF
 refine wc 14 (ok_cutC H c4) ?_; intro q
 refine wi 7 4 hF (fun _ hF => ?_) (fun _ hF => ?_)
 intro q
 obtain ⟨rfl, rfl, rfl, rfl⟩ := some4_inv hF
 exact wri
 intro q
 obtain ⟨r5, c6, hF⟩ := bind1_inv hF
 refine wc 6 (ok_splitC H c6) ?_; intro q
 refine wle 3 r5 eS ?_; intro q
 obtain ⟨r20, hL17, hF⟩ := bind1_inv hF
 refine wL (fun (x : (Int × Heap)) => uh x.2 (ut [(24, vi x.1)] [])) (Sum.elim (fun (y : (Heap)) => wz (.exit 0) (uh y (ut [] [22, 23, 24]))) (fun (y : (Heap)) => wz (.ret) (uf (⟨[(2, .one .top (.str ByteArray.empty)), (3, .one (.own 1) (.sl 1 (List.map eS ([] : List ByteArray)))), (4, vF)], [], y⟩ : St)))) hL17 ?_ ?_
 rintro ⟨a7, H8⟩ o hF q
 refine go 5 ?_; intro q
 refine wi 5 0 hF (fun _ hF => ?_) (fun _ hF => ?_)
 intro q
 obtain ⟨x9, h10, hF⟩ := bind1_inv hF
 refine wix 8 h10 eS ?_; intro q
 obtain ⟨H15, w14, hB16, hF⟩ := bind2_inv hF
 refine wr0 0 (uh H15 (ut [(33, vb w14)] [10, 28, 29, 30])) ?_ ?_; intro q
 refine wg [29, 30] 4 1 hB16 (fun _ hB16 => ?_) (fun _ hB16 => ?_)
 intro q
 cases hB16
 exact wl0
 intro q
 obtain ⟨H13, r11, c12, hB16⟩ := bind2_inv hB16
 refine wc 2 (ok_strings_ContainsAny H8 c12) ?_; intro q
 cases hB16
 exact wl0
 intro q
 refine wi 6 6 hF (fun _ hF => ?_) (fun _ hF => ?_)
 intro q
 exact wlx _ hF
 intro q
 exact wln _ hF
 intro q
 exact wlx _ hF
 replace hF := sum2_inv hF
 rcases hF with ⟨H18, rfl, hF⟩ | ⟨H19, rfl, hF⟩
 intro q
 refine go 9 ?_; intro q
 obtain ⟨rfl, rfl, rfl, rfl⟩ := some4_inv hF
 exact wri
 intro q
 obtain ⟨rfl, rfl, rfl, rfl⟩ := some4_inv hF
 exact wri
noncomputable def instr_names  : Option ((List ByteArray)) :=
  some ([ByteArray.empty, (ByteArray.mk #[72, 65, 76, 84]), (ByteArray.mk #[76, 68, 73]), (ByteArray.mk #[76, 85, 73]), (ByteArray.mk #[79, 82, 73]), (ByteArray.mk #[65, 68, 68, 73]), (ByteArray.mk #[65, 68, 68]), (ByteArray.mk #[83, 85, 66]), (ByteArray.mk #[77, 85, 76]), (ByteArray.mk #[68, 73, 86]), (ByteArray.mk #[77, 79, 68]), (ByteArray.mk #[65, 78, 68]), (ByteArray.mk #[79, 82]), (ByteArray.mk #[88, 79, 82]), (ByteArray.mk #[83, 76, 84]), (ByteArray.mk #[83, 76, 69]), (ByteArray.mk #[83, 69, 81]), (ByteArray.mk #[83, 78, 69]), (ByteArray.mk #[76, 68, 87]), (ByteArray.mk #[83, 84, 87]), (ByteArray.mk #[66, 90]), (ByteArray.mk #[66, 78, 90]), (ByteArray.mk #[66, 82]), (ByteArray.mk #[67, 65, 76, 76]), (ByteArray.mk #[74, 82]), (ByteArray.mk #[67, 65, 76, 76, 82]), (ByteArray.mk #[67, 72, 75]), (ByteArray.mk #[78, 73, 76]), (ByteArray.mk #[84, 82, 65, 80]), (ByteArray.mk #[82, 65, 73, 83, 69]), (ByteArray.mk #[79, 85, 84]), (ByteArray.mk #[73, 78]), (ByteArray.mk #[67, 72, 75, 83]), (ByteArray.mk #[82, 84, 67]), (ByteArray.mk #[88, 79, 82, 73])] : List ByteArray)
theorem ok_instr_names (H : Heap) {ra : (List ByteArray)} (hF : instr_names = some ra) : evS X 69 [] H = some (.one (.own 1) (.sl 1 (List.map eS ra)), H) := by
 refine wf Tryd.func69 true 9 ?_; intro q
 obtain rfl := some1_inv hF
 exact wrp
noncomputable def instr_Op_L1 (r1 : (List ByteArray)) (p0 : ByteArray) (a3 : Int) : Option ((Int) ⊕ (Unit ⊕ (Int))) :=
  if (decide (a3 < (r1.length : Int))) = true then (bind1 (gi r1 a3) fun x4 =>
  if ((decide (a3 > 0)) && (strEq x4 p0)) = true then (some (Sum.inr (Sum.inr a3)))
  else (some (Sum.inl (IntKind.wrap .i64 (a3 + 1)))))
  else (some (Sum.inr (Sum.inl ())))
noncomputable def instr_Op  (p0 : ByteArray) : Option (Int) :=
  bind1 (instr_names) fun r1 =>
  bind1 (loopO (fun (x : (Int)) => instr_Op_L1 r1 p0 x) 0) (sum2 (fun (_ : Unit) =>
  some 0) (fun b8 =>
  some b8))
theorem ok_instr_Op (H : Heap) {p0 : ByteArray} {ra : Int} (hF : instr_Op p0 = some ra) : evS X 36 [.one .top (.str p0)] H = some (.one .top (.int .i64 ra), H) := by
 refine wf Tryd.func36 true 7 ?_; intro q
 obtain ⟨r1, c2, hF⟩ := bind1_inv hF
 refine wc 0 (ok_instr_names H c2) ?_; intro q
 refine wle 3 r1 eS ?_; intro q
 obtain ⟨r9, hL7, hF⟩ := bind1_inv hF
 refine wL (fun (x : (Int)) => ut [(7, vi x)] []) (Sum.elim (fun (y : Unit) => wz (.exit 0) (ut [] [0, 5, 6, 7])) (fun (y : (Int)) => wz (.ret) (ut [(2, vi y)] [0, 5, 6, 7]))) hL7 ?_ ?_
 rintro a3 o hF q
 refine go 5 ?_; intro q
 refine wi 6 0 hF (fun _ hF => ?_) (fun _ hF => ?_)
 intro q
 obtain ⟨x4, h5, hF⟩ := bind1_inv hF
 refine wix 9 h5 eS ?_; intro q
 refine wr 0 (fun x => ut [(18, vb x)] [4, 12, 13, 14]) ((decide (a3 > 0)) && (strEq x4 p0)) ?_ ?_; intro q
 refine wb [13, 14] (decide (a3 > 0)) 5 5 (fun h6 => ?_) (fun h6 => ?_)
 intro q
 exact wl (strEq x4 p0) (by first | (simp only [h6]; done) | (simp only [h6]; rfl) | simp [h6])
 intro q
 exact wl false (by first | (simp only [h6]; done) | (simp only [h6]; rfl) | simp [h6])
 intro q
 refine wi 5 6 hF (fun _ hF => ?_) (fun _ hF => ?_)
 intro q
 exact wlx _ hF
 intro q
 exact wln _ hF
 intro q
 exact wlx _ hF
 replace hF := sum2_inv hF
 rcases hF with ⟨⟨⟩, rfl, hF⟩ | ⟨b8, rfl, hF⟩
 intro q
 refine go 5 ?_; intro q
 obtain rfl := some1_inv hF
 exact wrp
 intro q
 obtain rfl := some1_inv hF
 exact wrp
noncomputable def word_ParseHex_j2 (a2 : Int) (j6 : Int) : Option ((Int × Int) ⊕ ((Int) ⊕ Unit)) :=
  some (Sum.inl (j6, (IntKind.wrap .i64 (a2 + 1))))
noncomputable def word_ParseHex_L1 (p0 : ByteArray) (a1 : Int) (a2 : Int) : Option ((Int × Int) ⊕ ((Int) ⊕ Unit)) :=
  if (decide (a2 < (p0.size : Int))) = true then (bind1 (sAt p0 a2) fun v3 =>
  if ((decide (v3 ≥ 48)) && (decide (v3 ≤ 57))) = true then (word_ParseHex_j2 a2 (bitsOf .or .u32 (IntKind.wrap .u32 (a1 * 2 ^ 4)) (IntKind.wrap .u32 (IntKind.wrap .u8 (v3 - 48)))))
  else (if ((decide (v3 ≥ 97)) && (decide (v3 ≤ 102))) = true then (word_ParseHex_j2 a2 (bitsOf .or .u32 (IntKind.wrap .u32 (a1 * 2 ^ 4)) (IntKind.wrap .u32 (IntKind.wrap .u8 ((IntKind.wrap .u8 (v3 - 97)) + 10)))))
  else (some (Sum.inr (Sum.inr ())))))
  else (some (Sum.inr (Sum.inl a1)))
noncomputable def word_ParseHex  (p0 : ByteArray) : Option (Int × Bool) :=
  if ((p0.size : Int) != 8) = true then (some (0, false))
  else (bind1 (loopO (fun (x : (Int × Int)) => word_ParseHex_L1 p0 x.1 x.2) (0, 0)) (sum2 (fun b10 =>
  some (b10, true)) (fun (_ : Unit) =>
  some (0, false))))
theorem ok_word_ParseHex (H : Heap) {p0 : ByteArray} {ra : Int} {rb : Bool} (hF : word_ParseHex p0 = some (ra, rb)) : evS X 37 [.one .top (.str p0)] H = some (.tup [.one .top (.int .u32 ra), .one .top (.bool rb)], H) := by
 refine wf Tryd.func37 true 12 ?_; intro q
 refine wi 5 13 hF (fun _ hF => ?_) (fun _ hF => ?_)
 intro q
 obtain ⟨rfl, rfl⟩ := some2_inv hF
 exact wrp
 intro q
 obtain ⟨r11, hL9, hF⟩ := bind1_inv hF
 refine wL (fun (x : (Int × Int)) => ut [(4, vu x.1), (12, vi x.2)] []) (Sum.elim (fun (y : (Int)) => wz (.exit 0) (ut [(4, vu y)] [0, 11, 12])) (fun (y : Unit) => wz (.ret) (ut [(2, vu 0), (3, vF)] [0, 4, 11, 12]))) hL9 ?_ ?_
 rintro ⟨a1, a2⟩ o hF q
 refine go 5 ?_; intro q
 refine wi 12 0 hF (fun _ hF => ?_) (fun _ hF => ?_)
 intro q
 obtain ⟨v3, h4, hF⟩ := bind1_inv hF
 refine wsx 8 h4 ?_; intro q
 refine wr 0 (fun x => ut [(18, vb x)] [19, 20, 21]) ((decide (v3 ≥ 48)) && (decide (v3 ≤ 57))) ?_ ?_; intro q
 refine wb [20, 21] (decide (v3 ≥ 48)) 5 5 (fun h5 => ?_) (fun h5 => ?_)
 intro q
 exact wl (decide (v3 ≤ 57)) (by first | (simp only [h5]; done) | (simp only [h5]; rfl) | simp [h5])
 intro q
 exact wl false (by first | (simp only [h5]; done) | (simp only [h5]; rfl) | simp [h5])
 intro q
 refine wj 6 0 (fun x => ut [(4, vu x)] [6, 18]) (word_ParseHex_j2 a2) o ?_ ?_
 rintro j6 hF q
 exact wln _ hF
 intro hJ7 q
 refine wi 9 5 hF (fun _ hF => ?_) (fun _ hF => ?_)
 intro q
 exact we hJ7 (bitsOf .or .u32 (IntKind.wrap .u32 (a1 * 2 ^ 4)) (IntKind.wrap .u32 (IntKind.wrap .u8 (v3 - 48)))) hF
 intro q
 refine wr 0 (fun x => ut [(31, vb x)] [32, 33, 34]) ((decide (v3 ≥ 97)) && (decide (v3 ≤ 102))) ?_ ?_; intro q
 refine wb [33, 34] (decide (v3 ≥ 97)) 5 5 (fun h8 => ?_) (fun h8 => ?_)
 intro q
 exact wl (decide (v3 ≤ 102)) (by first | (simp only [h8]; done) | (simp only [h8]; rfl) | simp [h8])
 intro q
 exact wl false (by first | (simp only [h8]; done) | (simp only [h8]; rfl) | simp [h8])
 intro q
 refine wi 10 5 hF (fun _ hF => ?_) (fun _ hF => ?_)
 intro q
 exact we hJ7 (bitsOf .or .u32 (IntKind.wrap .u32 (a1 * 2 ^ 4)) (IntKind.wrap .u32 (IntKind.wrap .u8 ((IntKind.wrap .u8 (v3 - 97)) + 10)))) hF
 intro q
 exact wlx _ hF
 intro q
 exact wlx _ hF
 replace hF := sum2_inv hF
 rcases hF with ⟨b10, rfl, hF⟩ | ⟨⟨⟩, rfl, hF⟩
 intro q
 refine go 7 ?_; intro q
 obtain ⟨rfl, rfl⟩ := some2_inv hF
 exact wrp
 intro q
 obtain ⟨rfl, rfl⟩ := some2_inv hF
 exact wrp
noncomputable def asm_jumps_j1 (j1 : Bool) : Option (Bool) :=
  if j1 = true then (some true)
  else (some false)
noncomputable def asm_jumps  (p0 : Int) : Option (Bool) :=
  if (p0 == 20) = true then (asm_jumps_j1 (p0 == 20))
  else (if (p0 == 21) = true then (asm_jumps_j1 (p0 == 21))
  else (if (p0 == 22) = true then (asm_jumps_j1 (p0 == 22))
  else (asm_jumps_j1 (p0 == 23))))
theorem ok_asm_jumps (H : Heap) {p0 : Int} {ra : Bool} (hF : asm_jumps p0 = some ra) : evS X 70 [.one .top (.int .i64 p0)] H = some (.one .top (.bool ra), H) := by
 refine wf Tryd.func70 true 16 ?_; intro q
 refine wj 0 0 (fun x => ut [(4, vb x)] [3]) asm_jumps_j1 ra ?_ ?_
 rintro j1 hF q
 refine wi 4 6 hF (fun _ hF => ?_) (fun _ hF => ?_)
 intro q
 obtain rfl := some1_inv hF
 exact wrp
 intro q
 obtain rfl := some1_inv hF
 exact wrp
 intro hJ2 q
 refine wi 1 5 hF (fun _ hF => ?_) (fun _ hF => ?_)
 intro q
 exact we hJ2 (p0 == 20) hF
 intro q
 refine wi 1 5 hF (fun _ hF => ?_) (fun _ hF => ?_)
 intro q
 exact we hJ2 (p0 == 21) hF
 intro q
 refine wi 1 4 hF (fun _ hF => ?_) (fun _ hF => ?_)
 intro q
 exact we hJ2 (p0 == 22) hF
 intro q
 exact we hJ2 (p0 == 23) hF
noncomputable def asm_row_named  (p0 : T_asm_row) : Option (ByteArray) :=
  bind1 (asm_jumps p0.op_) fun r1 =>
  if ((!r1) || ((p0.fields_.length : Int) == 0)) = true then (some ByteArray.empty)
  else (bind1 (gi p0.fields_ (IntKind.wrap .i64 ((p0.fields_.length : Int) - 1))) fun x4 =>
  bind1 (asm_Name x4) fun r6 =>
  if (!r6) = true then (some ByteArray.empty)
  else (some x4))
theorem ok_asm_row_named (H : Heap) {p0 : T_asm_row} {ra : ByteArray} (hF : asm_row_named p0 = some ra) : evS X 39 [.agg (m0_asm_row p0)] H = some (.one .top (.str ra), H) := by
 refine wf Tryd.func39 true 10 ?_; intro q
 obtain ⟨r1, c2, hF⟩ := bind1_inv hF
 refine wc 2 (ok_asm_jumps H c2) ?_; intro q
 refine wr 0 (fun x => ut [(13, vb x)] [4, 5, 6, 7, 8]) ((!r1) || ((p0.fields_.length : Int) == 0)) ?_ ?_; intro q
 refine wb [7, 8] (!r1) 6 2 (fun h3 => ?_) (fun h3 => ?_)
 intro q
 exact wl true (by first | (simp only [h3]; done) | (simp only [h3]; rfl) | simp [h3])
 intro q
 refine wle 3 p0.fields_ eS ?_; intro q
 exact wl ((p0.fields_.length : Int) == 0) (by first | (simp only [h3]; done) | (simp only [h3]; rfl) | simp [h3])
 intro q
 refine wi 4 7 hF (fun _ hF => ?_) (fun _ hF => ?_)
 intro q
 obtain rfl := some1_inv hF
 exact wrp
 intro q
 refine wle 1 p0.fields_ eS ?_; intro q
 obtain ⟨x4, h5, hF⟩ := bind1_inv hF
 refine wix 7 h5 eS ?_; intro q
 obtain ⟨r6, c7, hF⟩ := bind1_inv hF
 refine wc 2 (ok_asm_Name H c7) ?_; intro q
 refine wi 4 6 hF (fun _ hF => ?_) (fun _ hF => ?_)
 intro q
 obtain rfl := some1_inv hF
 exact wrp
 intro q
 obtain rfl := some1_inv hF
 exact wrp
noncomputable def instr_Shape_j7 (p0 : Int) (j13 : Bool) : Option (Int) :=
  if j13 = true then (some 7)
  else (if (p0 == 28) = true then (some 8)
  else (some (-1)))
noncomputable def instr_Shape_j6 (p0 : Int) (j11 : Bool) : Option (Int) :=
  if j11 = true then (some 6)
  else (if (p0 == 22) = true then (instr_Shape_j7 p0 (p0 == 22))
  else (instr_Shape_j7 p0 (p0 == 23)))
noncomputable def instr_Shape_j5 (p0 : Int) (j9 : Bool) : Option (Int) :=
  if j9 = true then (some 5)
  else (if (p0 == 24) = true then (instr_Shape_j6 p0 (p0 == 24))
  else (if (p0 == 25) = true then (instr_Shape_j6 p0 (p0 == 25))
  else (if (p0 == 27) = true then (instr_Shape_j6 p0 (p0 == 27))
  else (if (p0 == 29) = true then (instr_Shape_j6 p0 (p0 == 29))
  else (if (p0 == 31) = true then (instr_Shape_j6 p0 (p0 == 31))
  else (instr_Shape_j6 p0 (p0 == 32)))))))
noncomputable def instr_Shape_j4 (p0 : Int) (j7 : Bool) : Option (Int) :=
  if j7 = true then (some 4)
  else (if (p0 == 6) = true then (instr_Shape_j5 p0 (p0 == 6))
  else (if (p0 == 7) = true then (instr_Shape_j5 p0 (p0 == 7))
  else (if (p0 == 8) = true then (instr_Shape_j5 p0 (p0 == 8))
  else (if (p0 == 9) = true then (instr_Shape_j5 p0 (p0 == 9))
  else (if (p0 == 10) = true then (instr_Shape_j5 p0 (p0 == 10))
  else (if (p0 == 11) = true then (instr_Shape_j5 p0 (p0 == 11))
  else (if (p0 == 12) = true then (instr_Shape_j5 p0 (p0 == 12))
  else (if (p0 == 13) = true then (instr_Shape_j5 p0 (p0 == 13))
  else (if (p0 == 14) = true then (instr_Shape_j5 p0 (p0 == 14))
  else (if (p0 == 15) = true then (instr_Shape_j5 p0 (p0 == 15))
  else (if (p0 == 16) = true then (instr_Shape_j5 p0 (p0 == 16))
  else (instr_Shape_j5 p0 (p0 == 17)))))))))))))
noncomputable def instr_Shape_j3 (p0 : Int) (j5 : Bool) : Option (Int) :=
  if j5 = true then (some 3)
  else (if (p0 == 4) = true then (instr_Shape_j4 p0 (p0 == 4))
  else (if (p0 == 34) = true then (instr_Shape_j4 p0 (p0 == 34))
  else (instr_Shape_j4 p0 (p0 == 26))))
noncomputable def instr_Shape_j2 (p0 : Int) (j3 : Bool) : Option (Int) :=
  if j3 = true then (some 2)
  else (if (p0 == 5) = true then (instr_Shape_j3 p0 (p0 == 5))
  else (if (p0 == 18) = true then (instr_Shape_j3 p0 (p0 == 18))
  else (instr_Shape_j3 p0 (p0 == 19))))
noncomputable def instr_Shape_j1 (p0 : Int) (j1 : Bool) : Option (Int) :=
  if j1 = true then (some 1)
  else (if (p0 == 3) = true then (instr_Shape_j2 p0 (p0 == 3))
  else (if (p0 == 30) = true then (instr_Shape_j2 p0 (p0 == 30))
  else (instr_Shape_j2 p0 (p0 == 33))))
noncomputable def instr_Shape  (p0 : Int) : Option (Int) :=
  if (p0 == 1) = true then (some 0)
  else (if (p0 == 2) = true then (instr_Shape_j1 p0 (p0 == 2))
  else (if (p0 == 20) = true then (instr_Shape_j1 p0 (p0 == 20))
  else (instr_Shape_j1 p0 (p0 == 21))))
theorem ok_instr_Shape (H : Heap) {p0 : Int} {ra : Int} (hF : instr_Shape p0 = some ra) : evS X 51 [.one .top (.int .i64 p0)] H = some (.one .top (.int .i64 ra), H) := by
 refine wf Tryd.func51 true 15 ?_; intro q
 refine wi 4 6 hF (fun _ hF => ?_) (fun _ hF => ?_)
 intro q
 obtain rfl := some1_inv hF
 exact wrp
 intro q
 refine wj 0 0 (fun x => ut [(6, vb x)] []) (instr_Shape_j1 p0) ra ?_ ?_
 rintro j1 hF q
 refine wi 4 6 hF (fun _ hF => ?_) (fun _ hF => ?_)
 intro q
 obtain rfl := some1_inv hF
 exact wrp
 intro q
 refine wj 0 0 (fun x => ut [(10, vb x)] []) (instr_Shape_j2 p0) ra ?_ ?_
 rintro j3 hF q
 refine wi 4 6 hF (fun _ hF => ?_) (fun _ hF => ?_)
 intro q
 obtain rfl := some1_inv hF
 exact wrp
 intro q
 refine wj 0 0 (fun x => ut [(14, vb x)] []) (instr_Shape_j3 p0) ra ?_ ?_
 rintro j5 hF q
 refine wi 4 6 hF (fun _ hF => ?_) (fun _ hF => ?_)
 intro q
 obtain rfl := some1_inv hF
 exact wrp
 intro q
 refine wj 0 0 (fun x => ut [(18, vb x)] []) (instr_Shape_j4 p0) ra ?_ ?_
 rintro j7 hF q
 refine wi 4 6 hF (fun _ hF => ?_) (fun _ hF => ?_)
 intro q
 obtain rfl := some1_inv hF
 exact wrp
 intro q
 refine wj 0 0 (fun x => ut [(22, vb x)] []) (instr_Shape_j5 p0) ra ?_ ?_
 rintro j9 hF q
 refine wi 4 6 hF (fun _ hF => ?_) (fun _ hF => ?_)
 intro q
 obtain rfl := some1_inv hF
 exact wrp
 intro q
 refine wj 0 0 (fun x => ut [(35, vb x)] []) (instr_Shape_j6 p0) ra ?_ ?_
 rintro j11 hF q
 refine wi 4 6 hF (fun _ hF => ?_) (fun _ hF => ?_)
 intro q
 obtain rfl := some1_inv hF
 exact wrp
 intro q
 refine wj 0 0 (fun x => ut [(42, vb x)] []) (instr_Shape_j7 p0) ra ?_ ?_
 rintro j13 hF q
 refine wi 4 5 hF (fun _ hF => ?_) (fun _ hF => ?_)
 intro q
 obtain rfl := some1_inv hF
 exact wrp
 intro q
 refine wi 4 6 hF (fun _ hF => ?_) (fun _ hF => ?_)
 intro q
 obtain rfl := some1_inv hF
 exact wrp
 intro q
 obtain rfl := some1_inv hF
 exact wrp
 intro hJ14 q
 refine wi 1 4 hF (fun _ hF => ?_) (fun _ hF => ?_)
 intro q
 exact we hJ14 (p0 == 22) hF
 intro q
 exact we hJ14 (p0 == 23) hF
 intro hJ12 q
 refine wi 1 5 hF (fun _ hF => ?_) (fun _ hF => ?_)
 intro q
 exact we hJ12 (p0 == 24) hF
 intro q
 refine wi 1 5 hF (fun _ hF => ?_) (fun _ hF => ?_)
 intro q
 exact we hJ12 (p0 == 25) hF
 intro q
 refine wi 1 5 hF (fun _ hF => ?_) (fun _ hF => ?_)
 intro q
 exact we hJ12 (p0 == 27) hF
 intro q
 refine wi 1 5 hF (fun _ hF => ?_) (fun _ hF => ?_)
 intro q
 exact we hJ12 (p0 == 29) hF
 intro q
 refine wi 1 4 hF (fun _ hF => ?_) (fun _ hF => ?_)
 intro q
 exact we hJ12 (p0 == 31) hF
 intro q
 exact we hJ12 (p0 == 32) hF
 intro hJ10 q
 refine wi 1 5 hF (fun _ hF => ?_) (fun _ hF => ?_)
 intro q
 exact we hJ10 (p0 == 6) hF
 intro q
 refine wi 1 5 hF (fun _ hF => ?_) (fun _ hF => ?_)
 intro q
 exact we hJ10 (p0 == 7) hF
 intro q
 refine wi 1 5 hF (fun _ hF => ?_) (fun _ hF => ?_)
 intro q
 exact we hJ10 (p0 == 8) hF
 intro q
 refine wi 1 5 hF (fun _ hF => ?_) (fun _ hF => ?_)
 intro q
 exact we hJ10 (p0 == 9) hF
 intro q
 refine wi 1 5 hF (fun _ hF => ?_) (fun _ hF => ?_)
 intro q
 exact we hJ10 (p0 == 10) hF
 intro q
 refine wi 1 5 hF (fun _ hF => ?_) (fun _ hF => ?_)
 intro q
 exact we hJ10 (p0 == 11) hF
 intro q
 refine wi 1 5 hF (fun _ hF => ?_) (fun _ hF => ?_)
 intro q
 exact we hJ10 (p0 == 12) hF
 intro q
 refine wi 1 5 hF (fun _ hF => ?_) (fun _ hF => ?_)
 intro q
 exact we hJ10 (p0 == 13) hF
 intro q
 refine wi 1 5 hF (fun _ hF => ?_) (fun _ hF => ?_)
 intro q
 exact we hJ10 (p0 == 14) hF
 intro q
 refine wi 1 5 hF (fun _ hF => ?_) (fun _ hF => ?_)
 intro q
 exact we hJ10 (p0 == 15) hF
 intro q
 refine wi 1 4 hF (fun _ hF => ?_) (fun _ hF => ?_)
 intro q
 exact we hJ10 (p0 == 16) hF
 intro q
 exact we hJ10 (p0 == 17) hF
 intro hJ8 q
 refine wi 1 5 hF (fun _ hF => ?_) (fun _ hF => ?_)
 intro q
 exact we hJ8 (p0 == 4) hF
 intro q
 refine wi 1 4 hF (fun _ hF => ?_) (fun _ hF => ?_)
 intro q
 exact we hJ8 (p0 == 34) hF
 intro q
 exact we hJ8 (p0 == 26) hF
 intro hJ6 q
 refine wi 1 5 hF (fun _ hF => ?_) (fun _ hF => ?_)
 intro q
 exact we hJ6 (p0 == 5) hF
 intro q
 refine wi 1 4 hF (fun _ hF => ?_) (fun _ hF => ?_)
 intro q
 exact we hJ6 (p0 == 18) hF
 intro q
 exact we hJ6 (p0 == 19) hF
 intro hJ4 q
 refine wi 1 5 hF (fun _ hF => ?_) (fun _ hF => ?_)
 intro q
 exact we hJ4 (p0 == 3) hF
 intro q
 refine wi 1 4 hF (fun _ hF => ?_) (fun _ hF => ?_)
 intro q
 exact we hJ4 (p0 == 30) hF
 intro q
 exact we hJ4 (p0 == 33) hF
 intro hJ2 q
 refine wi 1 5 hF (fun _ hF => ?_) (fun _ hF => ?_)
 intro q
 exact we hJ2 (p0 == 2) hF
 intro q
 refine wi 1 4 hF (fun _ hF => ?_) (fun _ hF => ?_)
 intro q
 exact we hJ2 (p0 == 20) hF
 intro q
 exact we hJ2 (p0 == 21) hF
noncomputable def word_Parse_L2 (j5 : ByteArray) (a12 : Int) (a13 : Int) : Option ((Int × Int) ⊕ ((Int) ⊕ Unit)) :=
  if (decide (a13 < (j5.size : Int))) = true then (bind1 (sAt j5 a13) fun v14 =>
  bind1 (if (decide (v14 < 48)) = true then (some true) else (bind1 (sAt j5 a13) fun v16 =>
  some (decide (v16 > 57)))) fun w18 =>
  if w18 = true then (some (Sum.inr (Sum.inr ())))
  else (bind1 (sAt j5 a13) fun v20 =>
  some (Sum.inl ((IntKind.wrap .i64 ((IntKind.wrap .i64 (a12 * 10)) + (IntKind.wrap .i64 (IntKind.wrap .u8 (v20 - 48))))), (IntKind.wrap .i64 (a13 + 1))))))
  else (some (Sum.inr (Sum.inl a12)))
noncomputable def word_Parse_j3 (j24 : Int) : Option (Int × Bool) :=
  if ((decide (j24 < (-2147483648))) || (decide (j24 > 2147483647))) = true then (some (0, false))
  else (some ((IntKind.wrap .i32 j24), true))
noncomputable def word_Parse_j1 (w3 : Bool) (j5 : ByteArray) : Option (Int × Bool) :=
  bind2 (if (strEq j5 ByteArray.empty) = true then (some (w3, true)) else (if (decide ((j5.size : Int) > 10)) = true then (some (w3, true)) else (if (decide ((j5.size : Int) > 1)) = true then (bind1 (sAt j5 0) fun v7 =>
  if (v7 == 48) = true then (some (w3, true)) else (if w3 = true then (some (true, (strEq j5 (ByteArray.mk #[48])))) else (some (false, false)))) else (if w3 = true then (some (true, (strEq j5 (ByteArray.mk #[48])))) else (some (false, false)))))) fun w9 w10 =>
  if w10 = true then (some (0, false))
  else (bind1 (loopO (fun (x : (Int × Int)) => word_Parse_L2 j5 x.1 x.2) (0, 0)) (sum2 (fun b23 =>
  if w9 = true then (word_Parse_j3 (IntKind.wrap .i64 (0 - b23)))
  else (word_Parse_j3 b23)) (fun (_ : Unit) =>
  some (0, false))))
noncomputable def word_Parse  (p0 : ByteArray) : Option (Int × Bool) :=
  bind1 (if (decide ((p0.size : Int) > 0)) = true then (bind1 (sAt p0 0) fun v1 =>
  some (v1 == 45)) else (some false)) fun w3 =>
  if w3 = true then (bind1 (sCut p0 1 p0.size) fun s28 =>
  word_Parse_j1 w3 s28)
  else (word_Parse_j1 w3 p0)
theorem ok_word_Parse (H : Heap) {p0 : ByteArray} {ra : Int} {rb : Bool} (hF : word_Parse p0 = some (ra, rb)) : evS X 85 [.one .top (.str p0)] H = some (.tup [.one .top (.int .i32 ra), .one .top (.bool rb)], H) := by
 refine wf Tryd.func85 true 11 ?_; intro q
 obtain ⟨w3, hB4, hF⟩ := bind1_inv hF
 refine wr0 5 (ut [(4, vb w3)] [7, 8, 9, 10]) ?_ ?_; intro q
 refine wg [9, 10] 1 6 hB4 (fun _ hB4 => ?_) (fun _ hB4 => ?_)
 intro q
 obtain ⟨v1, h2, hB4⟩ := bind1_inv hB4
 refine wsx 4 h2 ?_; intro q
 cases hB4
 exact wl0
 intro q
 cases hB4
 exact wl0
 intro q
 refine wj 6 0 (fun x => ut [(0, .one .top (.str x))] [15]) (word_Parse_j1 w3) (ra, rb) ?_ ?_
 rintro j5 hF q
 obtain ⟨w9, w10, hB11, hF⟩ := bind2_inv hF
 refine wr0 0 (ut [(4, vb w9), (41, vb w10)] [18, 19, 20]) ?_ ?_; intro q
 refine wg [19, 20] 22 5 hB11 (fun _ hB11 => ?_) (fun _ hB11 => ?_)
 intro q
 cases hB11
 exact wl0
 intro q
 refine wg [23, 24, 25] 17 4 hB11 (fun _ hB11 => ?_) (fun _ hB11 => ?_)
 intro q
 cases hB11
 exact wl0
 intro q
 refine wg [28, 29] 1 8 hB11 (fun _ hB11 => ?_) (fun _ hB11 => ?_)
 intro q
 obtain ⟨v7, h8, hB11⟩ := bind1_inv hB11
 refine wsx 4 h8 ?_; intro q
 refine wg [32, 33, 34, 35] 7 2 hB11 (fun _ hB11 => ?_) (fun _ hB11 => ?_)
 intro q
 cases hB11
 exact wl0
 intro q
 refine wg [4, 36, 37] 5 5 hB11 (fun _ hB11 => ?_) (fun _ hB11 => ?_)
 intro q
 cases hB11
 exact wl0
 intro q
 cases hB11
 exact wl0
 intro q
 refine wg [4, 36, 37] 5 5 hB11 (fun _ hB11 => ?_) (fun _ hB11 => ?_)
 intro q
 cases hB11
 exact wl0
 intro q
 cases hB11
 exact wl0
 intro q
 refine wi 5 13 hF (fun _ hF => ?_) (fun _ hF => ?_)
 intro q
 obtain ⟨rfl, rfl⟩ := some2_inv hF
 exact wrp
 intro q
 obtain ⟨r27, hL22, hF⟩ := bind1_inv hF
 refine wL (fun (x : (Int × Int)) => ut [(5, vi x.1), (44, vi x.2)] []) (Sum.elim (fun (y : (Int)) => wz (.exit 0) (ut [(5, vi y)] [0, 43, 44])) (fun (y : Unit) => wz (.ret) (uf (⟨[(2, .one .top (.int .i32 0)), (3, vF)], [], H⟩ : St)))) hL22 ?_ ?_
 rintro ⟨a12, a13⟩ o hF q
 refine go 5 ?_; intro q
 refine wi 13 0 hF (fun _ hF => ?_) (fun _ hF => ?_)
 intro q
 obtain ⟨v14, h15, hF⟩ := bind1_inv hF
 refine wsx 2 h15 ?_; intro q
 obtain ⟨w18, hB19, hF⟩ := bind1_inv hF
 refine wr0 0 (ut [(56, vb w18)] [47, 48, 49, 50, 51]) ?_ ?_; intro q
 refine wg [50, 51] 6 2 hB19 (fun _ hB19 => ?_) (fun _ hB19 => ?_)
 intro q
 cases hB19
 exact wl0
 intro q
 obtain ⟨v16, h17, hB19⟩ := bind1_inv hB19
 refine wsx 3 h17 ?_; intro q
 cases hB19
 exact wl0
 intro q
 refine wi 5 6 hF (fun _ hF => ?_) (fun _ hF => ?_)
 intro q
 exact wlx _ hF
 intro q
 obtain ⟨v20, h21, hF⟩ := bind1_inv hF
 refine wsx 10 h21 ?_; intro q
 exact wln _ hF
 intro q
 exact wlx _ hF
 replace hF := sum2_inv hF
 rcases hF with ⟨b23, rfl, hF⟩ | ⟨⟨⟩, rfl, hF⟩
 intro q
 refine go 6 ?_; intro q
 refine wj 6 0 (fun x => ut [(5, vi x)] [66]) word_Parse_j3 (ra, rb) ?_ ?_
 rintro j24 hF q
 refine wr 0 (fun x => ut [(74, vb x)] [69, 70, 71]) ((decide (j24 < (-2147483648))) || (decide (j24 > 2147483647))) ?_ ?_; intro q
 refine wb [70, 71] (decide (j24 < (-2147483648))) 4 4 (fun h26 => ?_) (fun h26 => ?_)
 intro q
 exact wl true (by first | (simp only [h26]; done) | (simp only [h26]; rfl) | simp [h26])
 intro q
 exact wl (decide (j24 > 2147483647)) (by first | (simp only [h26]; done) | (simp only [h26]; rfl) | simp [h26])
 intro q
 refine wi 5 8 hF (fun _ hF => ?_) (fun _ hF => ?_)
 intro q
 obtain ⟨rfl, rfl⟩ := some2_inv hF
 exact wrp
 intro q
 obtain ⟨rfl, rfl⟩ := some2_inv hF
 exact wrp
 intro hJ25 q
 refine wi 5 1 hF (fun _ hF => ?_) (fun _ hF => ?_)
 intro q
 exact we hJ25 (IntKind.wrap .i64 (0 - b23)) hF
 intro q
 exact we hJ25 b23 hF
 intro q
 obtain ⟨rfl, rfl⟩ := some2_inv hF
 exact wrp
 intro hJ6 q
 refine wi 2 1 hF (fun _ hF => ?_) (fun _ hF => ?_)
 intro q
 obtain ⟨s28, h29, hF⟩ := bind1_inv hF
 refine wsc 2 h29 ?_; intro q
 exact we hJ6 s28 hF
 intro q
 exact we hJ6 p0 hF
noncomputable def instr_register  (p0 : ByteArray) : Option (Int × Bool) :=
  bind1 (if (decide ((p0.size : Int) < 2)) = true then (some true) else (bind1 (sAt p0 0) fun v1 =>
  some (v1 != 114))) fun w3 =>
  if w3 = true then (some (0, false))
  else (bind1 (sCut p0 1 p0.size) fun s5 =>
  bind2 (word_Parse s5) fun r7 r8 =>
  some ((IntKind.wrap .i64 r7), (r8 && ((decide (r7 ≥ 0)) && (decide (r7 < 16))))))
theorem ok_instr_register (H : Heap) {p0 : ByteArray} {ra : Int} {rb : Bool} (hF : instr_register p0 = some (ra, rb)) : evS X 86 [.one .top (.str p0)] H = some (.tup [.one .top (.int .i64 ra), .one .top (.bool rb)], H) := by
 refine wf Tryd.func86 true 12 ?_; intro q
 obtain ⟨w3, hB4, hF⟩ := bind1_inv hF
 refine wr0 0 (ut [(13, vb w3)] [6, 7, 8, 9]) ?_ ?_; intro q
 refine wg [8, 9] 5 1 hB4 (fun _ hB4 => ?_) (fun _ hB4 => ?_)
 intro q
 cases hB4
 exact wl0
 intro q
 obtain ⟨v1, h2, hB4⟩ := bind1_inv hB4
 refine wsx 3 h2 ?_; intro q
 cases hB4
 exact wl0
 intro q
 refine wi 5 4 hF (fun _ hF => ?_) (fun _ hF => ?_)
 intro q
 obtain ⟨rfl, rfl⟩ := some2_inv hF
 exact wrp
 intro q
 obtain ⟨s5, h6, hF⟩ := bind1_inv hF
 refine wsc 0 h6 ?_; intro q
 obtain ⟨r7, r8, c9, hF⟩ := bind2_inv hF
 refine wc 12 (ok_word_Parse H c9) ?_; intro q
 refine wr 0 (fun x => uf (⟨[(2, vi (IntKind.wrap .i64 r7)), (3, vb x)], [], H⟩ : St)) (r8 && ((decide (r7 ≥ 0)) && (decide (r7 < 16)))) ?_ ?_; intro q
 refine wb [5, 22, 23] r8 4 10 (fun h10 => ?_) (fun h10 => ?_)
 intro q
 refine wb [25, 26, 27] (decide (r7 ≥ 0)) 6 6 (fun h11 => ?_) (fun h11 => ?_)
 intro q
 exact wl (decide (r7 < 16)) (by first | (simp only [h10, h11]; done) | (simp only [h10, h11]; rfl) | simp [h10, h11])
 intro q
 exact wl false (by first | (simp only [h10, h11]; done) | (simp only [h10, h11]; rfl) | simp [h10, h11])
 intro q
 exact wl false (by first | (simp only [h10]; done) | (simp only [h10]; rfl) | simp [h10])
 intro q
 obtain ⟨rfl, rfl⟩ := some2_inv hF
 exact wrp
noncomputable def instr_reg  (p0 : Int) : Option (Bool) :=
  some ((decide (p0 ≥ 0)) && (decide (p0 < 16)))
theorem ok_instr_reg (H : Heap) {p0 : Int} {ra : Bool} (hF : instr_reg p0 = some ra) : evS X 73 [.one .top (.int .i64 p0)] H = some (.one .top (.bool ra), H) := by
 refine wf Tryd.func73 true 9 ?_; intro q
 refine wr 0 (fun x => ut [(2, vb x)] [0, 3, 4, 5]) ((decide (p0 ≥ 0)) && (decide (p0 < 16))) ?_ ?_; intro q
 refine wb [4, 5] (decide (p0 ≥ 0)) 5 5 (fun h1 => ?_) (fun h1 => ?_)
 intro q
 exact wl (decide (p0 < 16)) (by first | (simp only [h1]; done) | (simp only [h1]; rfl) | simp [h1])
 intro q
 exact wl false (by first | (simp only [h1]; done) | (simp only [h1]; rfl) | simp [h1])
 intro q
 obtain rfl := some1_inv hF
 exact wrp
noncomputable def word_Fits  (p0 : Int) (p1 : Int) : Option (Bool) :=
  if (decide (p1 < 1)) = true then (some false)
  else (bind1 (shlI .i64 (-1) (IntKind.wrap .i64 ((if 40 < p1 then 40 else p1) - 1))) fun v1 =>
  bind1 (if (decide (p0 ≥ v1)) = true then (bind1 (shlI .i64 1 (IntKind.wrap .i64 ((if 40 < p1 then 40 else p1) - 1))) fun v3 =>
  some (decide (p0 < v3))) else (some false)) fun w5 =>
  some w5)
theorem ok_word_Fits (H : Heap) {p0 : Int} {p1 : Int} {ra : Bool} (hF : word_Fits p0 p1 = some ra) : evS X 88 [.one .top (.int .i64 p0), .one .top (.int .i64 p1)] H = some (.one .top (.bool ra), H) := by
 refine wf Tryd.func88 true 10 ?_; intro q
 refine wi 4 12 hF (fun _ hF => ?_) (fun _ hF => ?_)
 intro q
 obtain rfl := some1_inv hF
 exact wrp
 intro q
 obtain ⟨v1, h2, hF⟩ := bind1_inv hF
 refine wbi 2 h2 .i64 (ev_shl (P := X.P) (ty := 3) (x := (.const (.int .i64 (-1)))) (y := (.tmp 12)) (m := .top) (m' := .top) (k := .i64) (k' := .i64) (a := (-1)) (b := (IntKind.wrap .i64 ((if 40 < p1 then 40 else p1) - 1)))) ?_; intro q
 obtain ⟨w5, hB6, hF⟩ := bind1_inv hF
 refine wr0 0 (uf (⟨[(4, vb w5)], [], H⟩ : St)) ?_ ?_; intro q
 refine wg [14, 15] 2 7 hB6 (fun _ hB6 => ?_) (fun _ hB6 => ?_)
 intro q
 obtain ⟨v3, h4, hB6⟩ := bind1_inv hB6
 refine wbi 4 h4 .i64 (ev_shl (P := X.P) (ty := 3) (x := (.const (.int .i64 (1)))) (y := (.tmp 17)) (m := .top) (m' := .top) (k := .i64) (k' := .i64) (a := 1) (b := (IntKind.wrap .i64 ((if 40 < p1 then 40 else p1) - 1)))) ?_; intro q
 cases hB6
 exact wl0
 intro q
 cases hB6
 exact wl0
 intro q
 obtain rfl := some1_inv hF
 exact wrp
noncomputable def word_Within  (p0 : Int) (p1 : Int) : Option (Bool) :=
  bind1 (if (decide (p1 ≥ 0)) = true then (if (decide (p0 ≥ 0)) = true then (bind1 (shlI .i64 1 (if 40 < p1 then 40 else p1)) fun v1 =>
  some (decide (p0 < v1))) else (some false)) else (some false)) fun w3 =>
  some w3
theorem ok_word_Within (H : Heap) {p0 : Int} {p1 : Int} {ra : Bool} (hF : word_Within p0 p1 = some ra) : evS X 89 [.one .top (.int .i64 p0), .one .top (.int .i64 p1)] H = some (.one .top (.bool ra), H) := by
 refine wf Tryd.func89 true 9 ?_; intro q
 obtain ⟨w3, hB4, hF⟩ := bind1_inv hF
 refine wr0 0 (ut [(4, vb w3)] [0, 1, 5, 6, 7]) ?_ ?_; intro q
 refine wg [6, 7] 4 12 hB4 (fun _ hB4 => ?_) (fun _ hB4 => ?_)
 intro q
 refine wg [9, 10, 11] 3 8 hB4 (fun _ hB4 => ?_) (fun _ hB4 => ?_)
 intro q
 obtain ⟨v1, h2, hB4⟩ := bind1_inv hB4
 refine wbi 4 h2 .i64 (ev_shl (P := X.P) (ty := 3) (x := (.const (.int .i64 (1)))) (y := (.tmp 14)) (m := .top) (m' := .top) (k := .i64) (k' := .i64) (a := 1) (b := (if 40 < p1 then 40 else p1))) ?_; intro q
 cases hB4
 exact wl0
 intro q
 cases hB4
 exact wl0
 intro q
 cases hB4
 exact wl0
 intro q
 obtain rfl := some1_inv hF
 exact wrp
noncomputable def instr_imm_j2 (p0 : T_instr_Instr) (p1 : Int) (j5 : Bool) : Option (Bool) :=
  if j5 = true then (bind1 (word_Within p0.Imm_ 16) fun r7 =>
  some r7)
  else (if (p1 == 7) = true then (bind1 (word_Fits p0.Imm_ 24) fun r9 =>
  some r9)
  else (some (p0.Imm_ == 0)))
noncomputable def instr_imm_j1 (p0 : T_instr_Instr) (p1 : Int) (j1 : Bool) : Option (Bool) :=
  if j1 = true then (bind1 (word_Fits p0.Imm_ 16) fun r3 =>
  some r3)
  else (if (p1 == 2) = true then (instr_imm_j2 p0 p1 (p1 == 2))
  else (if (p1 == 4) = true then (instr_imm_j2 p0 p1 (p1 == 4))
  else (instr_imm_j2 p0 p1 (p1 == 8))))
noncomputable def instr_imm  (p0 : T_instr_Instr) (p1 : Int) : Option (Bool) :=
  if (p1 == 1) = true then (instr_imm_j1 p0 p1 (p1 == 1))
  else (instr_imm_j1 p0 p1 (p1 == 3))
theorem ok_instr_imm (H : Heap) {p0 : T_instr_Instr} {p1 : Int} {ra : Bool} (hF : instr_imm p0 p1 = some ra) : evS X 74 [.agg (m0_instr_Instr p0), .one .top (.int .i64 p1)] H = some (.one .top (.bool ra), H) := by
 refine wf Tryd.func74 true 17 ?_; intro q
 refine wj 0 0 (fun x => ut [(6, vb x)] []) (instr_imm_j1 p0 p1) ra ?_ ?_
 rintro j1 hF q
 refine wi 4 6 hF (fun _ hF => ?_) (fun _ hF => ?_)
 intro q
 obtain ⟨r3, c4, hF⟩ := bind1_inv hF
 refine wc 2 (ok_word_Fits H c4) ?_; intro q
 obtain rfl := some1_inv hF
 exact wrp
 intro q
 refine wj 0 0 (fun x => ut [(12, vb x)] []) (instr_imm_j2 p0 p1) ra ?_ ?_
 rintro j5 hF q
 refine wi 4 5 hF (fun _ hF => ?_) (fun _ hF => ?_)
 intro q
 obtain ⟨r7, c8, hF⟩ := bind1_inv hF
 refine wc 2 (ok_word_Within H c8) ?_; intro q
 obtain rfl := some1_inv hF
 exact wrp
 intro q
 refine wi 4 9 hF (fun _ hF => ?_) (fun _ hF => ?_)
 intro q
 obtain ⟨r9, c10, hF⟩ := bind1_inv hF
 refine wc 2 (ok_word_Fits H c10) ?_; intro q
 obtain rfl := some1_inv hF
 exact wrp
 intro q
 obtain rfl := some1_inv hF
 exact wrp
 intro hJ6 q
 refine wi 1 5 hF (fun _ hF => ?_) (fun _ hF => ?_)
 intro q
 exact we hJ6 (p1 == 2) hF
 intro q
 refine wi 1 4 hF (fun _ hF => ?_) (fun _ hF => ?_)
 intro q
 exact we hJ6 (p1 == 4) hF
 intro q
 exact we hJ6 (p1 == 8) hF
 intro hJ2 q
 refine wi 1 4 hF (fun _ hF => ?_) (fun _ hF => ?_)
 intro q
 exact we hJ2 (p1 == 1) hF
 intro q
 exact we hJ2 (p1 == 3) hF
noncomputable def instr_Check_j2 (j15 : Bool) : Option (Int) :=
  if (!j15) = true then (some 20)
  else (some 0)
noncomputable def instr_Check_j3 (p0 : T_instr_Instr) (r1 : Int) (j19 : Bool) : Option (Int) :=
  if j19 = true then (instr_Check_j2 ((p0.C_ == 0) && (p0.B_ == 0)))
  else (if (r1 == 5) = true then (instr_Check_j2 true)
  else (instr_Check_j2 (p0.C_ == 0)))
noncomputable def instr_Check_j1 (p0 : T_instr_Instr) (r1 : Int) (j13 : Bool) : Option (Int) :=
  if j13 = true then (instr_Check_j2 ((p0.C_ == 0) && ((p0.A_ == 0) && (p0.B_ == 0))))
  else (if (r1 == 1) = true then (instr_Check_j3 p0 r1 (r1 == 1))
  else (if (r1 == 2) = true then (instr_Check_j3 p0 r1 (r1 == 2))
  else (instr_Check_j3 p0 r1 (r1 == 6))))
noncomputable def instr_Check  (p0 : T_instr_Instr) : Option (Int) :=
  bind1 (instr_Shape p0.Op_) fun r1 =>
  if (decide (r1 < 0)) = true then (some 21)
  else (bind1 (instr_reg p0.A_) fun r3 =>
  bind1 (if (!r3) = true then (some true) else (bind1 (instr_reg p0.B_) fun r5 =>
  if (!r5) = true then (some true) else (bind1 (instr_reg p0.C_) fun r7 =>
  if (!r7) = true then (some true) else (bind1 (instr_imm p0 r1) fun r9 =>
  some (!r9))))) fun w11 =>
  if w11 = true then (some 20)
  else (if (r1 == 0) = true then (instr_Check_j1 p0 r1 (r1 == 0))
  else (if (r1 == 7) = true then (instr_Check_j1 p0 r1 (r1 == 7))
  else (instr_Check_j1 p0 r1 (r1 == 8)))))
theorem ok_instr_Check (H : Heap) {p0 : T_instr_Instr} {ra : Int} (hF : instr_Check p0 = some ra) : evS X 53 [.agg (m0_instr_Instr p0)] H = some (.one .top (.int .i64 ra), H) := by
 refine wf Tryd.func53 true 9 ?_; intro q
 obtain ⟨r1, c2, hF⟩ := bind1_inv hF
 refine wc 8 (ok_instr_Shape H c2) ?_; intro q
 refine wi 4 6 hF (fun _ hF => ?_) (fun _ hF => ?_)
 intro q
 obtain rfl := some1_inv hF
 exact wrp
 intro q
 obtain ⟨r3, c4, hF⟩ := bind1_inv hF
 refine wc 2 (ok_instr_reg H c4) ?_; intro q
 obtain ⟨w11, hB12, hF⟩ := bind1_inv hF
 refine wr0 0 (ut [(31, vb w11)] [10, 11, 12, 13, 14]) ?_ ?_; intro q
 refine wg [13, 14] 18 2 hB12 (fun _ hB12 => ?_) (fun _ hB12 => ?_)
 intro q
 cases hB12
 exact wl0
 intro q
 obtain ⟨r5, c6, hB12⟩ := bind1_inv hB12
 refine wc 3 (ok_instr_reg H c6) ?_; intro q
 refine wg [18, 19, 20] 12 2 hB12 (fun _ hB12 => ?_) (fun _ hB12 => ?_)
 intro q
 cases hB12
 exact wl0
 intro q
 obtain ⟨r7, c8, hB12⟩ := bind1_inv hB12
 refine wc 3 (ok_instr_reg H c8) ?_; intro q
 refine wg [24, 25, 26] 6 2 hB12 (fun _ hB12 => ?_) (fun _ hB12 => ?_)
 intro q
 cases hB12
 exact wl0
 intro q
 obtain ⟨r9, c10, hB12⟩ := bind1_inv hB12
 refine wc 3 (ok_instr_imm H c10) ?_; intro q
 cases hB12
 exact wl0
 intro q
 refine wi 4 20 hF (fun _ hF => ?_) (fun _ hF => ?_)
 intro q
 obtain rfl := some1_inv hF
 exact wrp
 intro q
 refine wj 0 0 (fun x => ut [(36, vb x)] []) (instr_Check_j1 p0 r1) ra ?_ ?_
 rintro j13 hF q
 refine wj 7 0 (fun x => uf (⟨[(4, vb x)], [], H⟩ : St)) instr_Check_j2 ra ?_ ?_
 rintro j15 hF q
 refine wi 4 5 hF (fun _ hF => ?_) (fun _ hF => ?_)
 intro q
 obtain rfl := some1_inv hF
 exact wrp
 intro q
 obtain rfl := some1_inv hF
 exact wrp
 intro hJ16 q
 refine wi 3 6 hF (fun _ hF => ?_) (fun _ hF => ?_)
 intro q
 refine wr 0 (fun x => uf (⟨[(4, vb x)], [], H⟩ : St)) ((p0.C_ == 0) && ((p0.A_ == 0) && (p0.B_ == 0))) ?_ ?_; intro q
 refine wb [4, 40, 41] (p0.C_ == 0) 5 11 (fun h17 => ?_) (fun h17 => ?_)
 intro q
 refine wb [44, 45, 46] (p0.A_ == 0) 6 6 (fun h18 => ?_) (fun h18 => ?_)
 intro q
 exact wl (p0.B_ == 0) (by first | (simp only [h17, h18]; done) | (simp only [h17, h18]; rfl) | simp [h17, h18])
 intro q
 exact wl false (by first | (simp only [h17, h18]; done) | (simp only [h17, h18]; rfl) | simp [h17, h18])
 intro q
 exact wl false (by first | (simp only [h17]; done) | (simp only [h17]; rfl) | simp [h17])
 intro q
 exact we hJ16 ((p0.C_ == 0) && ((p0.A_ == 0) && (p0.B_ == 0))) hF
 intro q
 refine wj 0 0 (fun x => ut [(51, vb x)] []) (instr_Check_j3 p0 r1) ra ?_ ?_
 rintro j19 hF q
 refine wi 3 5 hF (fun _ hF => ?_) (fun _ hF => ?_)
 intro q
 refine wr 0 (fun x => uf (⟨[(4, vb x)], [], H⟩ : St)) ((p0.C_ == 0) && (p0.B_ == 0)) ?_ ?_; intro q
 refine wb [4, 55, 56] (p0.C_ == 0) 6 6 (fun h21 => ?_) (fun h21 => ?_)
 intro q
 exact wl (p0.B_ == 0) (by first | (simp only [h21]; done) | (simp only [h21]; rfl) | simp [h21])
 intro q
 exact wl false (by first | (simp only [h21]; done) | (simp only [h21]; rfl) | simp [h21])
 intro q
 exact we hJ16 ((p0.C_ == 0) && (p0.B_ == 0)) hF
 intro q
 refine wi 3 1 hF (fun _ hF => ?_) (fun _ hF => ?_)
 intro q
 exact we hJ16 true hF
 intro q
 exact we hJ16 (p0.C_ == 0) hF
 intro hJ20 q
 refine wi 1 5 hF (fun _ hF => ?_) (fun _ hF => ?_)
 intro q
 exact we hJ20 (r1 == 1) hF
 intro q
 refine wi 1 4 hF (fun _ hF => ?_) (fun _ hF => ?_)
 intro q
 exact we hJ20 (r1 == 2) hF
 intro q
 exact we hJ20 (r1 == 6) hF
 intro hJ14 q
 refine wi 1 5 hF (fun _ hF => ?_) (fun _ hF => ?_)
 intro q
 exact we hJ14 (r1 == 0) hF
 intro q
 refine wi 1 4 hF (fun _ hF => ?_) (fun _ hF => ?_)
 intro q
 exact we hJ14 (r1 == 7) hF
 intro q
 exact we hJ14 (r1 == 8) hF
noncomputable def instr_Fill_j3 (a14 : Int) (j39 : Bool) (H40 : Heap) : Option ((Int × Heap) ⊕ ((Heap) ⊕ (Heap))) :=
  if (!j39) = true then (some (Sum.inr (Sum.inr H40)))
  else (some (Sum.inl ((IntKind.wrap .i64 (a14 + 1)), H40)))
noncomputable def instr_Fill_L2 (j12 : (List Ptr)) (p1 : (List ByteArray)) (i2 : Nat) (p0 : Int) (a14 : Int) (H15 : Heap) : Option ((Int × Heap) ⊕ ((Heap) ⊕ (Heap))) :=
  if (decide (a14 < (j12.length : Int))) = true then (bind1 (gi j12 a14) fun x16 =>
  bind1 (gi p1 a14) fun x18 =>
  bind2 (word_Parse x18) fun r20 r21 =>
  (x16).bnd fun i23 o24 =>
  bind1 (get_p3 H15 i23 o24) fun x26 =>
  bnd (set_p3 H15 i23 o24 (IntKind.wrap .i64 r20)) fun H28 =>
  bind1 (get_instr_Instr H28 i2 0) fun x31 =>
  bind1 (peq x16 (Ptr.at i2 4)) fun b33 =>
  bind1 (if (!b33) = true then (if (p0 == 26) = true then (bind1 (peq x16 (Ptr.at i2 2)) fun b35 =>
  some (!b35)) else (some true)) else (some false)) fun w37 =>
  if w37 = true then (bind1 (gi p1 a14) fun x42 =>
  bind2 (instr_register x42) fun r44 r45 =>
  bind1 (get_p3 H28 i23 o24) fun x47 =>
  bnd (set_p3 H28 i23 o24 r44) fun H49 =>
  instr_Fill_j3 a14 r45 H49)
  else (instr_Fill_j3 a14 r21 H28))
  else (some (Sum.inr (Sum.inl H15)))
noncomputable def instr_Fill_j1 (p1 : (List ByteArray)) (i2 : Nat) (p0 : Int) (H7 : Heap) (j12 : (List Ptr)) : Option (T_instr_Instr × Bool) :=
  if ((p1.length : Int) != (j12.length : Int)) = true then (some ((T_instr_Instr.mk 0 0 0 0 0), false))
  else (bind1 (loopO (fun (x : (Int × Heap)) => instr_Fill_L2 j12 p1 i2 p0 x.1 x.2) (0, H7)) (sum2 (fun H53 =>
  bind1 (get_instr_Instr H53 i2 0) fun x54 =>
  bind1 (instr_Check x54) fun r56 =>
  some (x54, (r56 == 0))) (fun H58 =>
  some ((T_instr_Instr.mk 0 0 0 0 0), false))))
noncomputable def instr_Fill_j6 (H7 : Heap) (i2 : Nat) (p1 : (List ByteArray)) (p0 : Int) (j72 : Bool) : Option (T_instr_Instr × Bool) :=
  if j72 = true then (bind1 (get_instr_Instr H7 i2 0) fun x74 =>
  instr_Fill_j1 p1 i2 p0 H7 ([(Ptr.at i2 4)] : List Ptr))
  else (some ((T_instr_Instr.mk 0 0 0 0 0), false))
noncomputable def instr_Fill_j5 (H7 : Heap) (i2 : Nat) (p1 : (List ByteArray)) (p0 : Int) (r10 : Int) (j64 : Bool) : Option (T_instr_Instr × Bool) :=
  if j64 = true then (bind1 (get_instr_Instr H7 i2 0) fun x66 =>
  instr_Fill_j1 p1 i2 p0 H7 ([(Ptr.at i2 1), (Ptr.at i2 2), (Ptr.at i2 4)] : List Ptr))
  else (if (r10 == 5) = true then (bind1 (get_instr_Instr H7 i2 0) fun x68 =>
  instr_Fill_j1 p1 i2 p0 H7 ([(Ptr.at i2 1), (Ptr.at i2 2), (Ptr.at i2 3)] : List Ptr))
  else (if (r10 == 6) = true then (bind1 (get_instr_Instr H7 i2 0) fun x70 =>
  instr_Fill_j1 p1 i2 p0 H7 ([(Ptr.at i2 1)] : List Ptr))
  else (if (r10 == 7) = true then (instr_Fill_j6 H7 i2 p1 p0 (r10 == 7))
  else (instr_Fill_j6 H7 i2 p1 p0 (r10 == 8)))))
noncomputable def instr_Fill_j4 (H7 : Heap) (i2 : Nat) (p1 : (List ByteArray)) (p0 : Int) (r10 : Int) (j60 : Bool) : Option (T_instr_Instr × Bool) :=
  if j60 = true then (bind1 (get_instr_Instr H7 i2 0) fun x62 =>
  instr_Fill_j1 p1 i2 p0 H7 ([(Ptr.at i2 1), (Ptr.at i2 4)] : List Ptr))
  else (if (r10 == 3) = true then (instr_Fill_j5 H7 i2 p1 p0 r10 (r10 == 3))
  else (instr_Fill_j5 H7 i2 p1 p0 r10 (r10 == 4)))
noncomputable def instr_Fill  (p0 : Int) (p1 : (List ByteArray)) : Option (T_instr_Instr × Bool) :=
  bnd ([] : Heap).length fun i2 =>
  bnd (new_instr_Instr ([] : Heap) (T_instr_Instr.mk 0 0 0 0 0)) fun H1 =>
  bind1 (get_instr_Instr H1 i2 0) fun x5 =>
  bnd (set_instr_Instr H1 i2 0 (T_instr_Instr.mk p0 0 0 0 0)) fun H7 =>
  bind1 (instr_Shape p0) fun r10 =>
  if (r10 == 0) = true then (instr_Fill_j1 p1 i2 p0 H7 ([] : List Ptr))
  else (if (r10 == 1) = true then (instr_Fill_j4 H7 i2 p1 p0 r10 (r10 == 1))
  else (instr_Fill_j4 H7 i2 p1 p0 r10 (r10 == 2)))
theorem ok_instr_Fill (H : Heap) {p0 : Int} {p1 : (List ByteArray)} {ra : T_instr_Instr} {rb : Bool} (hF : instr_Fill p0 p1 = some (ra, rb)) : evS X 71 [.one .top (.int .i64 p0), .one .ro (.sl 1 (List.map eS p1))] H = some (.tup [.agg [(.top, .int .i64 ra.Op_), (.top, .int .i64 ra.A_), (.top, .int .i64 ra.B_), (.top, .int .i64 ra.C_), (.top, .int .i64 ra.Imm_)], .one .top (.bool rb)], H) := by
 refine wfA Tryd.func71 9 (by simp [aloneIn1, aloneA, aloneM, AV.np, AV.plain, eS, eI]) ?_ (ho := by simp [TV.all, all1, aloneC, AV.np, AV.plain, eS, eI]); intro q
 obtain ⟨i2, h4, hF⟩ := bnd_inv hF
 obtain ⟨H1, h3, hF⟩ := bnd_inv hF
 refine wal 0 h4 h3 (d := 6) ?_; intro q
 obtain ⟨x5, V6, hF⟩ := bind1_inv hF
 replace V6 := hgetT_inv V6
 refine wst 0 V6 0 (hs0 V6) ?_; intro q
 obtain ⟨H7, h8, hF⟩ := bnd_inv hF
 have V9 : hget H7 i2 0 5 = some (o_instr_Instr (T_instr_Instr.mk p0 0 0 0 0)) := by rw [← h8]; exact hset_get V6 rfl
 refine wh 9 h8 ?_; intro q
 obtain ⟨r10, c11, hF⟩ := bind1_inv hF
 refine wc 7 (ok_instr_Shape H7 c11) ?_; intro q
 refine wj 5 0 (fun x => ut [(7, .one (.own 1) (.sl 1 (List.map eP x)))] [15, 17]) (instr_Fill_j1 p1 i2 p0 H7) (ra, rb) ?_ ?_
 rintro j12 hF q
 refine wle 1 p1 eS ?_; intro q
 refine wle 2 j12 eP ?_; intro q
 refine wi 6 5 hF (fun _ hF => ?_) (fun _ hF => ?_)
 intro q
 obtain ⟨rfl, rfl⟩ := some2_inv hF
 exact wre
 intro q
 refine wle 3 j12 eP ?_; intro q
 obtain ⟨r59, hL52, hF⟩ := bind1_inv hF
 refine wL (fun (x : (Int × Heap)) => uh x.2 (ut [(55, vi x.1)] [])) (Sum.elim (fun (y : (Heap)) => wz (.exit 1) (uh y (ut [] [0, 1, 53, 54, 55]))) (fun (y : (Heap)) => wz (.ret) (uh y (ut [(5, vF)] [0, 1, 6, 53, 54, 55])))) hL52 ?_ ?_
 rintro ⟨a14, H15⟩ o hF q
 refine go 5 ?_; intro q
 refine wi 6 0 hF (fun _ hF => ?_) (fun _ hF => ?_)
 intro q
 obtain ⟨x16, h17, hF⟩ := bind1_inv hF
 refine wix 8 h17 eP ?_; intro q
 obtain ⟨x18, h19, hF⟩ := bind1_inv hF
 refine wix 1 h19 eS ?_; intro q
 obtain ⟨r20, r21, c22, hF⟩ := bind2_inv hF
 refine wc 11 (ok_word_Parse H15 c22) ?_; intro q
 obtain ⟨i23, o24, h25, hF⟩ := pbnd_inv hF
 refine wnp 0 h25 ?_; intro q
 obtain ⟨x26, V27, hF⟩ := bind1_inv hF
 replace V27 := hgetT_inv V27
 refine wst 0 V27 0 (hs0 V27) ?_; intro q
 obtain ⟨H28, h29, hF⟩ := bnd_inv hF
 have V30 : hget H28 i23 o24 1 = some (o_p3 (IntKind.wrap .i64 r20)) := by rw [← h29]; exact hset_get V27 rfl
 refine wh 6 h29 ?_; intro q
 obtain ⟨x31, V32, hF⟩ := bind1_inv hF
 replace V32 := hgetT_inv V32
 obtain ⟨b33, h34, hF⟩ := bind1_inv hF
 refine wpe 1 h34 ?_; intro q
 obtain ⟨w37, hB38, hF⟩ := bind1_inv hF
 refine wr0 0 (ut [(84, vb w37)] [72, 73, 74, 75]) ?_ ?_; intro q
 refine wg [74, 75] 3 10 hB38 (fun _ hB38 => ?_) (fun _ hB38 => ?_)
 intro q
 refine wg [77, 78] 2 7 hB38 (fun _ hB38 => ?_) (fun _ hB38 => ?_)
 intro q
 obtain ⟨b35, h36, hB38⟩ := bind1_inv hB38
 refine wpe 4 h36 ?_; intro q
 cases hB38
 exact wl0
 intro q
 cases hB38
 exact wl0
 intro q
 cases hB38
 exact wl0
 intro q
 refine wj 5 0 (fun x => uh x.2 (ut [(11, vb x.1)] [8, 9, 84])) (tup2 (instr_Fill_j3 a14)) o ?_ ?_
 rintro ⟨j39, H40⟩ hF q
 refine wi 6 6 hF (fun _ hF => ?_) (fun _ hF => ?_)
 intro q
 exact wlx _ hF
 intro q
 exact wln _ hF
 intro hJ41 q
 refine wi 4 1 hF (fun _ hF => ?_) (fun _ hF => ?_)
 intro q
 obtain ⟨x42, h43, hF⟩ := bind1_inv hF
 refine wix 1 h43 eS ?_; intro q
 obtain ⟨r44, r45, c46, hF⟩ := bind2_inv hF
 refine wc 3 (ok_instr_register H28 c46) ?_; intro q
 refine wnp 0 h25 ?_; intro q
 obtain ⟨x47, V48, hF⟩ := bind1_inv hF
 replace V48 := hgetT_inv V48
 refine wst 1 V48 0 (hs0 V48) ?_; intro q
 obtain ⟨H49, h50, hF⟩ := bnd_inv hF
 have V51 : hget H49 i23 o24 1 = some (o_p3 r44) := by rw [← h50]; exact hset_get V48 rfl
 refine wh 1 h50 ?_; intro q
 exact we2 hJ41 r45 H49 hF
 intro q
 exact we2 hJ41 r21 H28 hF
 intro q
 exact wlx _ hF
 replace hF := sum2_inv hF
 rcases hF with ⟨H53, rfl, hF⟩ | ⟨H58, rfl, hF⟩
 intro q
 refine go 3 ?_; intro q
 obtain ⟨x54, V55, hF⟩ := bind1_inv hF
 replace V55 := hgetT_inv V55
 refine wld 0 V55 0 ?_; intro q
 refine wld 0 V55 0 ?_; intro q
 obtain ⟨r56, c57, hF⟩ := bind1_inv hF
 refine wc 4 (ok_instr_Check H53 c57) ?_; intro q
 obtain ⟨rfl, rfl⟩ := some2_inv hF
 exact wre
 intro q
 obtain ⟨rfl, rfl⟩ := some2_inv hF
 exact wre
 intro hJ13 q
 refine wi 1 6 hF (fun _ hF => ?_) (fun _ hF => ?_)
 intro q
 exact we hJ13 ([] : List Ptr) hF
 intro q
 refine wj 0 0 (fun x => ut [(19, vb x)] []) (instr_Fill_j4 H7 i2 p1 p0 r10) (ra, rb) ?_ ?_
 rintro j60 hF q
 refine wi 6 6 hF (fun _ hF => ?_) (fun _ hF => ?_)
 intro q
 obtain ⟨x62, V63, hF⟩ := bind1_inv hF
 replace V63 := hgetT_inv V63
 exact we hJ13 ([(Ptr.at i2 1), (Ptr.at i2 4)] : List Ptr) hF
 intro q
 refine wj 0 0 (fun x => ut [(25, vb x)] []) (instr_Fill_j5 H7 i2 p1 p0 r10) (ra, rb) ?_ ?_
 rintro j64 hF q
 refine wi 7 5 hF (fun _ hF => ?_) (fun _ hF => ?_)
 intro q
 obtain ⟨x66, V67, hF⟩ := bind1_inv hF
 replace V67 := hgetT_inv V67
 exact we hJ13 ([(Ptr.at i2 1), (Ptr.at i2 2), (Ptr.at i2 4)] : List Ptr) hF
 intro q
 refine wi 7 5 hF (fun _ hF => ?_) (fun _ hF => ?_)
 intro q
 obtain ⟨x68, V69, hF⟩ := bind1_inv hF
 replace V69 := hgetT_inv V69
 exact we hJ13 ([(Ptr.at i2 1), (Ptr.at i2 2), (Ptr.at i2 3)] : List Ptr) hF
 intro q
 refine wi 5 6 hF (fun _ hF => ?_) (fun _ hF => ?_)
 intro q
 obtain ⟨x70, V71, hF⟩ := bind1_inv hF
 replace V71 := hgetT_inv V71
 exact we hJ13 ([(Ptr.at i2 1)] : List Ptr) hF
 intro q
 refine wj 0 0 (fun x => ut [(42, vb x)] [15]) (instr_Fill_j6 H7 i2 p1 p0) (ra, rb) ?_ ?_
 rintro j72 hF q
 refine wi 5 6 hF (fun _ hF => ?_) (fun _ hF => ?_)
 intro q
 obtain ⟨x74, V75, hF⟩ := bind1_inv hF
 replace V75 := hgetT_inv V75
 exact we hJ13 ([(Ptr.at i2 4)] : List Ptr) hF
 intro q
 obtain ⟨rfl, rfl⟩ := some2_inv hF
 exact wre
 intro hJ73 q
 refine wi 1 4 hF (fun _ hF => ?_) (fun _ hF => ?_)
 intro q
 exact we hJ73 (r10 == 7) hF
 intro q
 exact we hJ73 (r10 == 8) hF
 intro hJ65 q
 refine wi 1 4 hF (fun _ hF => ?_) (fun _ hF => ?_)
 intro q
 exact we hJ65 (r10 == 3) hF
 intro q
 exact we hJ65 (r10 == 4) hF
 intro hJ61 q
 refine wi 1 4 hF (fun _ hF => ?_) (fun _ hF => ?_)
 intro q
 exact we hJ61 (r10 == 1) hF
 intro q
 exact we hJ61 (r10 == 2) hF
noncomputable def asm_row_with_j1 (p0 : T_asm_row) (j5 : (List ByteArray)) : Option (T_instr_Instr × Bool) :=
  bind2 (instr_Fill p0.op_ j5) fun r7 r8 =>
  some (r7, r8)
noncomputable def asm_row_with  (p0 : T_asm_row) (p1 : ByteArray) : Option (T_instr_Instr × Bool) :=
  bind1 (app 16 ([] : List ByteArray) p0.fields_) fun v1 =>
  bind1 (asm_row_named p0) fun r3 =>
  if (!strEq r3 ByteArray.empty) = true then (bind1 (gi v1 (IntKind.wrap .i64 ((v1.length : Int) - 1))) fun x10 =>
  bind1 (si v1 (IntKind.wrap .i64 ((v1.length : Int) - 1)) p1) fun v12 =>
  asm_row_with_j1 p0 v12)
  else (asm_row_with_j1 p0 v1)
theorem ok_asm_row_with (H : Heap) {p0 : T_asm_row} {p1 : ByteArray} {ra : T_instr_Instr} {rb : Bool} (hF : asm_row_with p0 p1 = some (ra, rb)) : evS X 41 [.agg (m0_asm_row p0), .one .top (.str p1)] H = some (.tup [.agg [(.top, .int .i64 ra.Op_), (.top, .int .i64 ra.A_), (.top, .int .i64 ra.B_), (.top, .int .i64 ra.C_), (.top, .int .i64 ra.Imm_)], .one .top (.bool rb)], H) := by
 refine wf Tryd.func41 true 11 ?_; intro q
 obtain ⟨v1, h2, hF⟩ := bind1_inv hF
 refine wap 6 h2 eS ?_; intro q
 obtain ⟨r3, c4, hF⟩ := bind1_inv hF
 refine wc 2 (ok_asm_row_named H c4) ?_; intro q
 refine wj 5 0 (fun x => ut [(6, .one (.own 1) (.sl 1 (List.map eS x)))] [1, 13]) (asm_row_with_j1 p0) (ra, rb) ?_ ?_
 rintro j5 hF q
 obtain ⟨r7, r8, c9, hF⟩ := bind2_inv hF
 refine wc 5 (ok_instr_Fill H c9) ?_; intro q
 obtain ⟨rfl, rfl⟩ := some2_inv hF
 exact wrp
 intro hJ6 q
 refine wi 3 1 hF (fun _ hF => ?_) (fun _ hF => ?_)
 intro q
 refine wle 2 v1 eS ?_; intro q
 obtain ⟨x10, h11, hF⟩ := bind1_inv hF
 refine wxA 0 (.tmp 6) h11 eS (List.length_map eS) ?_; intro q
 obtain ⟨v12, h13, hF⟩ := bind1_inv hF
 refine wsE 1 (.tmp 6) 0 h11 h13 eS ?_; intro q
 exact we hJ6 v12 hF
 intro q
 exact we hJ6 v1 hF
noncomputable def asm_row_right  (p0 : T_asm_row) : Option (Bool) :=
  bind2 (asm_row_with p0 (ByteArray.mk #[48])) fun r1 r2 =>
  some r2
theorem ok_asm_row_right (H : Heap) {p0 : T_asm_row} {ra : Bool} (hF : asm_row_right p0 = some ra) : evS X 38 [.agg (m0_asm_row p0)] H = some (.one .top (.bool ra), H) := by
 refine wf Tryd.func38 true 8 ?_; intro q
 obtain ⟨r1, r2, c3, hF⟩ := bind2_inv hF
 refine wc 12 (ok_asm_row_with H c3) ?_; intro q
 obtain rfl := some1_inv hF
 exact wrp
noncomputable def asm_reader_line_j1 (H25 : Heap) (p0 : Ptr) (j29 : Bool) (j30 : T_asm_row) : Option (Heap × Int) :=
  if (!j29) = true then (some (H25, 22))
  else ((p0).bnd0 fun i32 =>
  bind1 (get_asm_reader H25 i32 0) fun x34 =>
  if (decide ((x34.rows_.length : Int) ≥ 16384)) = true then (some (H25, 242))
  else (bind1 (app 48 x34.rows_ ([j30] : List T_asm_row)) fun v36 =>
  bnd (set_asm_reader H25 i32 0 (T_asm_reader.mk x34.unit_ v36)) fun H38 =>
  some (H38, 0)))
noncomputable def asm_reader_line (H : Heap) (p0 : Ptr) (p1 : Int) (p2 : ByteArray) : Option (Heap × Int) :=
  bind1 (if (strEq p2 ByteArray.empty) = true then (some true) else (bind1 (sAt p2 0) fun v1 =>
  some (v1 == 59))) fun w3 =>
  if w3 = true then (some (H, 0))
  else (bind2 (strings_CutSuffix p2 (ByteArray.mk #[58])) fun r5 r6 =>
  if r6 = true then (bind1 (asm_Name r5) fun r8 =>
  if (!r8) = true then (some (H, 22))
  else ((p0).bnd0 fun i10 =>
  bind1 (get_asm_reader H i10 0) fun x12 =>
  bind1 (asm_Unit_At x12.unit_ r5) fun r14 =>
  if (decide (r14 ≥ 0)) = true then (some (H, 51))
  else (bind1 (app 24 x12.unit_.Labels_ ([(T_asm_Label.mk r5 (x12.rows_.length : Int))] : List T_asm_Label)) fun v16 =>
  bnd (set_asm_reader H i10 0 (T_asm_reader.mk (T_asm_Unit.mk x12.unit_.Words_ v16) x12.rows_)) fun H18 =>
  some (H18, 0))))
  else (bind4 (asm_words H p2) fun H25 r21 r22 r23 =>
  bind1 (instr_Op r21) fun r26 =>
  if ((strEq r21 (ByteArray.mk #[87, 79, 82, 68])) && ((r22.length : Int) == 1)) = true then (bind1 (gi r22 0) fun x41 =>
  bind2 (word_ParseHex x41) fun r43 r44 =>
  asm_reader_line_j1 H25 p0 r44 (T_asm_row.mk p1 r26 r22 r43))
  else (bind1 (if (r26 == 0) = true then (some true) else (bind1 (asm_row_right (T_asm_row.mk p1 r26 r22 0)) fun r46 =>
  some (!r46))) fun w48 =>
  if w48 = true then (asm_reader_line_j1 H25 p0 false (T_asm_row.mk p1 r26 r22 0))
  else (asm_reader_line_j1 H25 p0 r23 (T_asm_row.mk p1 r26 r22 0)))))
theorem ok_asm_reader_line (H : Heap) {p0 : Ptr} {p1 : Int} {p2 : ByteArray} {ra : Int} {Hr : Heap} (hF : asm_reader_line H p0 p1 p2 = some (Hr, ra)) : evS X 20 [.one .top (.ptr p0), .one .top (.int .i64 p1), .one .top (.str p2)] H = some (.one .top (.int .i64 ra), Hr) := by
 refine wf Tryd.func20 false 10 ?_; intro q
 obtain ⟨w3, hB4, hF⟩ := bind1_inv hF
 refine wr0 0 (ut [(19, vb w3)] [13, 14, 15]) ?_ ?_; intro q
 refine wg [14, 15] 5 1 hB4 (fun _ hB4 => ?_) (fun _ hB4 => ?_)
 intro q
 cases hB4
 exact wl0
 intro q
 obtain ⟨v1, h2, hB4⟩ := bind1_inv hB4
 refine wsx 3 h2 ?_; intro q
 cases hB4
 exact wl0
 intro q
 refine wi 4 5 hF (fun _ hF => ?_) (fun _ hF => ?_)
 intro q
 obtain ⟨rfl, rfl⟩ := some2_inv hF
 exact wri
 intro q
 obtain ⟨r5, r6, c7, hF⟩ := bind2_inv hF
 refine wc 10 (ok_strings_CutSuffix H c7) ?_; intro q
 refine wi 5 4 hF (fun _ hF => ?_) (fun _ hF => ?_)
 intro q
 obtain ⟨r8, c9, hF⟩ := bind1_inv hF
 refine wc 3 (ok_asm_Name H c9) ?_; intro q
 refine wi 4 3 hF (fun _ hF => ?_) (fun _ hF => ?_)
 intro q
 obtain ⟨rfl, rfl⟩ := some2_inv hF
 exact wri
 intro q
 obtain ⟨i10, h11, hF⟩ := pbnd0_inv hF
 refine wnp 1 h11 ?_; intro q
 obtain ⟨x12, V13, hF⟩ := bind1_inv hF
 replace V13 := hgetT_inv V13
 refine wld 1 V13 0 ?_; intro q
 obtain ⟨r14, c15, hF⟩ := bind1_inv hF
 refine wc 3 (ok_asm_Unit_At H c15) ?_; intro q
 refine wi 4 6 hF (fun _ hF => ?_) (fun _ hF => ?_)
 intro q
 obtain ⟨rfl, rfl⟩ := some2_inv hF
 exact wri
 intro q
 refine wnp 4 h11 ?_; intro q
 refine wnp 1 h11 ?_; intro q
 obtain ⟨v16, h17, hF⟩ := bind1_inv hF
 refine wA 0 (uh (hset H i10 0 [((.own 1), .sl 1 (List.map (eI .u32) x12.unit_.Words_)), ((.own 1), .sl 2 (List.map e_asm_Label v16)), ((.own 1), .sl 4 (List.map e_asm_row x12.rows_))]) (ut [(43, .one .top .junk), (48, .one .top (.at_ (.obj i10 2) 0 ((List.map e_asm_row x12.rows_).length))), (49, vi (x12.rows_.length : Int)), (50, .agg [(.top, .str r5), (.top, .int .i64 (x12.rows_.length : Int))]), (51, .one .top .junk), (52, .one .top .junk), (53, vp (.at i10 0)), (54, vp (.at i10 0)), (55, vp (.at i10 1))] [])) ?_ ?_; intro q
 refine walt ?_ ?_; intro q
 refine wlt 0 V13 1 (hs0 V13) ?_; intro q
 refine wlp 0 (hset_get (new := [((.own 1), .sl 1 (List.map (eI .u32) x12.unit_.Words_)), (.top, .junk), ((.own 1), .sl 4 (List.map e_asm_row x12.rows_))]) V13 rfl) 2 x12.rows_ e_asm_row ?_; intro q
 refine wle 2 x12.rows_ e_asm_row ?_; intro q
 refine wap 0 h17 e_asm_Label ?_; intro q
 refine wnp 2 h11 ?_; intro q
 refine wst 1 (hset_get (new := [((.own 1), .sl 1 (List.map (eI .u32) x12.unit_.Words_)), (.top, .junk), ((.own 1), .sl 4 (List.map e_asm_row x12.rows_))]) V13 rfl) 1 (hs1 V13) ?_; intro q
 exact wl0
 intro q
 refine wlp 0 V13 2 x12.rows_ e_asm_row ?_; intro q
 refine wle 1 x12.rows_ e_asm_row ?_; intro q
 refine walt ?_ ?_; intro q
 refine wlt 1 V13 1 (hs0 V13) ?_; intro q
 refine wap 0 h17 e_asm_Label ?_; intro q
 refine wnp 2 h11 ?_; intro q
 refine wst 1 (hset_get (new := [((.own 1), .sl 1 (List.map (eI .u32) x12.unit_.Words_)), (.top, .junk), ((.own 1), .sl 4 (List.map e_asm_row x12.rows_))]) V13 rfl) 1 (hs1 V13) ?_; intro q
 exact wl0
 intro q
 refine go 1 ?_; intro q
 refine wlt 0 V13 1 (hs0 V13) ?_; intro q
 refine wap 0 h17 e_asm_Label ?_; intro q
 refine wnp 2 h11 ?_; intro q
 refine wst 1 (hset_get (new := [((.own 1), .sl 1 (List.map (eI .u32) x12.unit_.Words_)), (.top, .junk), ((.own 1), .sl 4 (List.map e_asm_row x12.rows_))]) V13 rfl) 1 (hs1 V13) ?_; intro q
 exact wl0
 intro q
 obtain ⟨H18, h19, hF⟩ := bnd_inv hF
 have V20 : hget H18 i10 0 3 = some (o_asm_reader (T_asm_reader.mk (T_asm_Unit.mk x12.unit_.Words_ v16) x12.rows_)) := by rw [← h19]; exact hset_get V13 rfl
 refine wh 4 h19 ?_; intro q
 obtain ⟨rfl, rfl⟩ := some2_inv hF
 exact wri
 intro q
 obtain ⟨H25, r21, r22, r23, c24, hF⟩ := bind4_inv hF
 refine wc 12 (ok_asm_words H c24) ?_; intro q
 obtain ⟨r26, c27, hF⟩ := bind1_inv hF
 refine wc 11 (ok_instr_Op H25 c27) ?_; intro q
 refine wr 0 (fun x => ut [(73, vb x)] [9, 67, 68, 69]) ((strEq r21 (ByteArray.mk #[87, 79, 82, 68])) && ((r22.length : Int) == 1)) ?_ ?_; intro q
 refine wb [68, 69] (strEq r21 (ByteArray.mk #[87, 79, 82, 68])) 1 5 (fun h28 => ?_) (fun h28 => ?_)
 intro q
 refine wle 3 r22 eS ?_; intro q
 exact wl ((r22.length : Int) == 1) (by first | (simp only [h28]; done) | (simp only [h28]; rfl) | simp [h28])
 intro q
 exact wl false (by first | (simp only [h28]; done) | (simp only [h28]; rfl) | simp [h28])
 intro q
 refine wj 6 0 (fun x => up [(11, vb x.1)] [10, 73] [(12, (m0_asm_row x.2))] []) (tup2 (asm_reader_line_j1 H25 p0)) (Hr, ra) ?_ ?_
 rintro ⟨j29, j30⟩ hF q
 refine wi 4 5 hF (fun _ hF => ?_) (fun _ hF => ?_)
 intro q
 obtain ⟨rfl, rfl⟩ := some2_inv hF
 exact wri
 intro q
 obtain ⟨i32, h33, hF⟩ := pbnd0_inv hF
 refine wnp 1 h33 ?_; intro q
 obtain ⟨x34, V35, hF⟩ := bind1_inv hF
 replace V35 := hgetT_inv V35
 refine wld 0 V35 2 ?_; intro q
 refine wle 2 x34.rows_ e_asm_row ?_; intro q
 refine wi 4 5 hF (fun _ hF => ?_) (fun _ hF => ?_)
 intro q
 obtain ⟨rfl, rfl⟩ := some2_inv hF
 exact wri
 intro q
 refine wnp 2 h33 ?_; intro q
 obtain ⟨v36, h37, hF⟩ := bind1_inv hF
 refine wA 0 (uh (hset H25 i32 0 [((.own 1), .sl 1 (List.map (eI .u32) x34.unit_.Words_)), ((.own 1), .sl 2 (List.map e_asm_Label x34.unit_.Labels_)), ((.own 1), .sl 4 (List.map e_asm_row v36))]) (ut [(102, .one .top .junk), (104, .one .top .junk), (105, .one .top .junk), (106, vp (.at i32 0)), (107, vp (.at i32 2))] [])) ?_ ?_; intro q
 refine walt ?_ ?_; intro q
 refine wlt 1 V35 2 (hs0 V35) ?_; intro q
 refine wap 0 h37 e_asm_row ?_; intro q
 refine wnp 1 h33 ?_; intro q
 refine wst 1 (hset_get (new := [((.own 1), .sl 1 (List.map (eI .u32) x34.unit_.Words_)), ((.own 1), .sl 2 (List.map e_asm_Label x34.unit_.Labels_)), (.top, .junk)]) V35 rfl) 2 (hs1 V35) ?_; intro q
 exact wl0
 intro q
 refine go 1 ?_; intro q
 refine wlt 0 V35 2 (hs0 V35) ?_; intro q
 refine wap 0 h37 e_asm_row ?_; intro q
 refine wnp 1 h33 ?_; intro q
 refine wst 1 (hset_get (new := [((.own 1), .sl 1 (List.map (eI .u32) x34.unit_.Words_)), ((.own 1), .sl 2 (List.map e_asm_Label x34.unit_.Labels_)), (.top, .junk)]) V35 rfl) 2 (hs1 V35) ?_; intro q
 exact wl0
 intro q
 obtain ⟨H38, h39, hF⟩ := bnd_inv hF
 have V40 : hget H38 i32 0 3 = some (o_asm_reader (T_asm_reader.mk x34.unit_ v36)) := by rw [← h39]; exact hset_get V35 rfl
 refine wh 4 h39 ?_; intro q
 obtain ⟨rfl, rfl⟩ := some2_inv hF
 exact wri
 intro hJ31 q
 refine wi 2 6 hF (fun _ hF => ?_) (fun _ hF => ?_)
 intro q
 obtain ⟨x41, h42, hF⟩ := bind1_inv hF
 refine wix 1 h42 eS ?_; intro q
 obtain ⟨r43, r44, c45, hF⟩ := bind2_inv hF
 refine wc 7 (ok_word_ParseHex H25 c45) ?_; intro q
 exact we2 hJ31 r44 (T_asm_row.mk p1 r26 r22 r43) hF
 intro q
 obtain ⟨w48, hB49, hF⟩ := bind1_inv hF
 refine wr0 0 (ut [(89, vb w48)] [82, 83, 84, 85]) ?_ ?_; intro q
 refine wg [84, 85] 5 1 hB49 (fun _ hB49 => ?_) (fun _ hB49 => ?_)
 intro q
 cases hB49
 exact wl0
 intro q
 obtain ⟨r46, c47, hB49⟩ := bind1_inv hB49
 refine wc 3 (ok_asm_row_right H25 c47) ?_; intro q
 cases hB49
 exact wl0
 intro q
 refine wi 3 1 hF (fun _ hF => ?_) (fun _ hF => ?_)
 intro q
 exact we2 hJ31 false (T_asm_row.mk p1 r26 r22 0) hF
 intro q
 exact we2 hJ31 r23 (T_asm_row.mk p1 r26 r22 0) hF
theorem ok_asm_row_named_2 (H : Heap) {p0 : T_asm_row} {ra : ByteArray} (hF : asm_row_named p0 = some ra) : evS X 39 [.agg (m1_asm_row p0)] H = some (.one .top (.str ra), H) := by
 refine wf Tryd.func39 true 10 ?_; intro q
 obtain ⟨r1, c2, hF⟩ := bind1_inv hF
 refine wc 2 (ok_asm_jumps H c2) ?_; intro q
 refine wr 0 (fun x => ut [(13, vb x)] [4, 5, 6, 7, 8]) ((!r1) || ((p0.fields_.length : Int) == 0)) ?_ ?_; intro q
 refine wb [7, 8] (!r1) 6 2 (fun h3 => ?_) (fun h3 => ?_)
 intro q
 exact wl true (by first | (simp only [h3]; done) | (simp only [h3]; rfl) | simp [h3])
 intro q
 refine wle 3 p0.fields_ eS ?_; intro q
 exact wl ((p0.fields_.length : Int) == 0) (by first | (simp only [h3]; done) | (simp only [h3]; rfl) | simp [h3])
 intro q
 refine wi 4 7 hF (fun _ hF => ?_) (fun _ hF => ?_)
 intro q
 obtain rfl := some1_inv hF
 exact wrp
 intro q
 refine wle 1 p0.fields_ eS ?_; intro q
 obtain ⟨x4, h5, hF⟩ := bind1_inv hF
 refine wix 7 h5 eS ?_; intro q
 obtain ⟨r6, c7, hF⟩ := bind1_inv hF
 refine wc 2 (ok_asm_Name H c7) ?_; intro q
 refine wi 4 6 hF (fun _ hF => ?_) (fun _ hF => ?_)
 intro q
 obtain rfl := some1_inv hF
 exact wrp
 intro q
 obtain rfl := some1_inv hF
 exact wrp
noncomputable def word_digits_j2 (a1 : Int) (p1 : Int) (a2 : Int) (j8 : (Arr 64 Int)) : Option ((Int × Int × (Arr 64 Int)) ⊕ ((Int × (Arr 64 Int)))) :=
  bind1 (quoI .u64 a1 p1) fun v10 =>
  some (Sum.inl (v10, (IntKind.wrap .i64 (a2 - 1)), j8))
noncomputable def word_digits_L1 (p2 : Int) (p1 : Int) (a1 : Int) (a2 : Int) (a3 : (Arr 64 Int)) : Option ((Int × Int × (Arr 64 Int)) ⊕ ((Int × (Arr 64 Int)))) :=
  if ((decide (a1 > 0)) || ((decide (a2 > (IntKind.wrap .i64 (64 - (if 1 > p2 then 1 else p2))))) && (decide (a2 > 0)))) = true then (bind1 (remI .u64 a1 p1) fun v6 =>
  if (decide ((IntKind.wrap .u8 v6) < 10)) = true then (bind1 (ga a3 (IntKind.wrap .i64 (a2 - 1))) fun v12 =>
  bind1 (sa a3 (IntKind.wrap .i64 (a2 - 1)) (IntKind.wrap .u8 (48 + (IntKind.wrap .u8 v6)))) fun v14 =>
  word_digits_j2 a1 p1 a2 v14)
  else (bind1 (ga a3 (IntKind.wrap .i64 (a2 - 1))) fun v16 =>
  bind1 (sa a3 (IntKind.wrap .i64 (a2 - 1)) (IntKind.wrap .u8 ((IntKind.wrap .u8 (97 + (IntKind.wrap .u8 v6))) - 10))) fun v18 =>
  word_digits_j2 a1 p1 a2 v18))
  else (some (Sum.inr (a2, a3)))
noncomputable def word_digits  (p0 : Int) (p1 : Int) (p2 : Int) : Option (ByteArray) :=
  bind1 (loopO (fun (x : (Int × Int × (Arr 64 Int))) => word_digits_L1 p2 p1 x.1 x.2.1 x.2.2) (p0, 64, (arrR 64 0 : Arr 64 Int))) (tup2 fun b21 b22 =>
  bind1 (cut ((List.range 64).map b22.g) b21 64) fun v23 =>
  some (sOf v23))
theorem ok_word_digits (H : Heap) {p0 : Int} {p1 : Int} {p2 : Int} {ra : ByteArray} (hF : word_digits p0 p1 p2 = some ra) : evS X 50 [.one .top (.int .u64 p0), .one .top (.int .u64 p1), .one .top (.int .i64 p2)] H = some (.one .top (.str ra), H) := by
 refine wf Tryd.func50 true 14 ?_; intro q
 obtain ⟨⟨b21, b22⟩, hL20, hF⟩ := bind1_inv hF
 refine wL (fun (x : (Int × Int × (Arr 64 Int))) => up [(0, .one .top (.int .u64 x.1)), (8, vi x.2.1)] [] [(7, (arM .u8 64 x.2.2))] []) (fun (y : (Int × (Arr 64 Int))) => wz (.exit 0) (up [(8, vi y.1)] [0, 1, 2] [(7, (arM .u8 64 y.2))] [])) hL20 ?_ ?_
 rintro ⟨a1, a2, a3⟩ o hF q
 refine go 6 ?_; intro q
 refine wr 0 (fun x => ut [(22, vb x)] [10, 11, 12]) ((decide (a1 > 0)) || ((decide (a2 > (IntKind.wrap .i64 (64 - (if 1 > p2 then 1 else p2))))) && (decide (a2 > 0)))) ?_ ?_; intro q
 refine wb [11, 12] (decide (a1 > 0)) 11 6 (fun h4 => ?_) (fun h4 => ?_)
 intro q
 exact wl true (by first | (simp only [h4]; done) | (simp only [h4]; rfl) | simp [h4])
 intro q
 refine wb [17, 18] (decide (a2 > (IntKind.wrap .i64 (64 - (if 1 > p2 then 1 else p2))))) 5 5 (fun h5 => ?_) (fun h5 => ?_)
 intro q
 exact wl (decide (a2 > 0)) (by first | (simp only [h4, h5]; done) | (simp only [h4, h5]; rfl) | simp [h4, h5])
 intro q
 exact wl false (by first | (simp only [h4, h5]; done) | (simp only [h4, h5]; rfl) | simp [h4, h5])
 intro q
 refine wi 6 0 hF (fun _ hF => ?_) (fun _ hF => ?_)
 intro q
 obtain ⟨v6, h7, hF⟩ := bind1_inv hF
 refine wbi 15 h7 .u64 (ev_rem (P := X.P) (ty := 104) (x := (.tmp 23)) (y := (.tmp 24)) (m := .top) (m' := .top) (k := .u64) (a := a1) (b := p1)) ?_; intro q
 refine wj 3 0 (fun x => up [] [9, 30] [(7, (arM .u8 64 x))] []) (word_digits_j2 a1 p1 a2) o ?_ ?_
 rintro j8 hF q
 obtain ⟨v10, h11, hF⟩ := bind1_inv hF
 refine wbi 3 h11 .u64 (ev_quo (P := X.P) (ty := 104) (x := (.tmp 40)) (y := (.tmp 41)) (m := .top) (m' := .top) (k := .u64) (a := a1) (b := p1)) ?_; intro q
 exact wln _ hF
 intro hJ9 q
 refine wi 4 5 hF (fun _ hF => ?_) (fun _ hF => ?_)
 intro q
 obtain ⟨v12, h13, hF⟩ := bind1_inv hF
 refine wiL 0 7 0 h13 ?_; intro q
 obtain ⟨v14, h15, hF⟩ := bind1_inv hF
 refine wsL 1 7 0 h15 (fun q => .int .u8 q) ?_; intro q
 exact we hJ9 v14 hF
 intro q
 obtain ⟨v16, h17, hF⟩ := bind1_inv hF
 refine wiL 0 7 0 h17 ?_; intro q
 obtain ⟨v18, h19, hF⟩ := bind1_inv hF
 refine wsL 1 7 0 h19 (fun q => .int .u8 q) ?_; intro q
 exact we hJ9 v18 hF
 intro q
 exact wlx _ hF
 replace hF := tup2_inv hF
 intro q
 refine go 4 ?_; intro q
 obtain ⟨v23, h24, hF⟩ := bind1_inv hF
 refine wsA 0 7 64 h24 (fun q => .int .u8 q) ?_; intro q
 refine wstr 2 v23 ?_; intro q
 obtain rfl := some1_inv hF
 exact wrp
noncomputable def word_Text  (p0 : Int) : Option (ByteArray) :=
  if (decide (p0 < 0)) = true then (bind1 (word_digits (IntKind.wrap .u64 (IntKind.wrap .i64 (0 - p0))) 10 1) fun r1 =>
  bind1 (sCat (ByteArray.mk #[45]) r1) fun s3 =>
  some s3)
  else (bind1 (word_digits (IntKind.wrap .u64 p0) 10 1) fun r5 =>
  some r5)
theorem ok_word_Text (H : Heap) {p0 : Int} {ra : ByteArray} (hF : word_Text p0 = some ra) : evS X 40 [.one .top (.int .i64 p0)] H = some (.one .top (.str ra), H) := by
 refine wf Tryd.func40 true 10 ?_; intro q
 refine wi 5 5 hF (fun _ hF => ?_) (fun _ hF => ?_)
 intro q
 obtain ⟨r1, c2, hF⟩ := bind1_inv hF
 refine wc 0 (ok_word_digits H c2) ?_; intro q
 obtain ⟨s3, h4, hF⟩ := bind1_inv hF
 refine wcat 2 h4 ?_; intro q
 obtain rfl := some1_inv hF
 exact wrp
 intro q
 obtain ⟨r5, c6, hF⟩ := bind1_inv hF
 refine wc 2 (ok_word_digits H c6) ?_; intro q
 obtain rfl := some1_inv hF
 exact wrp
theorem ok_asm_row_with_2 (H : Heap) {p0 : T_asm_row} {p1 : ByteArray} {ra : T_instr_Instr} {rb : Bool} (hF : asm_row_with p0 p1 = some (ra, rb)) : evS X 41 [.agg (m1_asm_row p0), .one .top (.str p1)] H = some (.tup [.agg [(.top, .int .i64 ra.Op_), (.top, .int .i64 ra.A_), (.top, .int .i64 ra.B_), (.top, .int .i64 ra.C_), (.top, .int .i64 ra.Imm_)], .one .top (.bool rb)], H) := by
 refine wf Tryd.func41 true 11 ?_; intro q
 obtain ⟨v1, h2, hF⟩ := bind1_inv hF
 refine waf 6 h2 eS ?_; intro q
 obtain ⟨r3, c4, hF⟩ := bind1_inv hF
 refine wc 2 (ok_asm_row_named_2 H c4) ?_; intro q
 refine wj 5 0 (fun x => ut [(6, .one (.own 1) (.sl 1 (List.map eS x)))] [1, 13]) (asm_row_with_j1 p0) (ra, rb) ?_ ?_
 rintro j5 hF q
 obtain ⟨r7, r8, c9, hF⟩ := bind2_inv hF
 refine wc 5 (ok_instr_Fill H c9) ?_; intro q
 obtain ⟨rfl, rfl⟩ := some2_inv hF
 exact wrp
 intro hJ6 q
 refine wi 3 1 hF (fun _ hF => ?_) (fun _ hF => ?_)
 intro q
 refine wle 2 v1 eS ?_; intro q
 obtain ⟨x10, h11, hF⟩ := bind1_inv hF
 refine wxA 0 (.tmp 6) h11 eS (List.length_map eS) ?_; intro q
 obtain ⟨v12, h13, hF⟩ := bind1_inv hF
 refine wsE 1 (.tmp 6) 0 h11 h13 eS ?_; intro q
 exact we hJ6 v12 hF
 intro q
 exact we hJ6 v1 hF
noncomputable def instr_Encode  (p0 : T_instr_Instr) : Option (Int × Int) :=
  bind1 (instr_Check p0) fun r1 =>
  if (r1 != 0) = true then (some (0, r1))
  else (bind1 (instr_Shape p0.Op_) fun r3 =>
  if (r3 == 7) = true then (some ((bitsOf .or .u32 (IntKind.wrap .u32 ((IntKind.wrap .u32 p0.Op_) * 2 ^ 24)) (bitsOf .and .u32 (IntKind.wrap .u32 p0.Imm_) 16777215)), 0))
  else (some ((bitsOf .or .u32 (bitsOf .or .u32 (bitsOf .or .u32 (bitsOf .or .u32 (IntKind.wrap .u32 ((IntKind.wrap .u32 p0.Op_) * 2 ^ 24)) (IntKind.wrap .u32 ((IntKind.wrap .u32 p0.A_) * 2 ^ 20))) (IntKind.wrap .u32 ((IntKind.wrap .u32 p0.B_) * 2 ^ 16))) (bitsOf .and .u32 (IntKind.wrap .u32 p0.Imm_) 65535)) (IntKind.wrap .u32 p0.C_)), 0)))
theorem ok_instr_Encode (H : Heap) {p0 : T_instr_Instr} {ra : Int} {rb : Int} (hF : instr_Encode p0 = some (ra, rb)) : evS X 42 [.agg (m0_instr_Instr p0)] H = some (.tup [.one .top (.int .u32 ra), .one .top (.int .i64 rb)], H) := by
 refine wf Tryd.func42 true 10 ?_; intro q
 obtain ⟨r1, c2, hF⟩ := bind1_inv hF
 refine wc 7 (ok_instr_Check H c2) ?_; intro q
 refine wi 6 14 hF (fun _ hF => ?_) (fun _ hF => ?_)
 intro q
 obtain ⟨rfl, rfl⟩ := some2_inv hF
 exact wrp
 intro q
 obtain ⟨r3, c4, hF⟩ := bind1_inv hF
 refine wc 2 (ok_instr_Shape H c4) ?_; intro q
 refine wi 11 26 hF (fun _ hF => ?_) (fun _ hF => ?_)
 intro q
 obtain ⟨rfl, rfl⟩ := some2_inv hF
 exact wrp
 intro q
 obtain ⟨rfl, rfl⟩ := some2_inv hF
 exact wrp
noncomputable def asm_reader_place_j1 (x5 : T_asm_row) (j9 : ByteArray) : Option (Int × Int) :=
  bind2 (asm_row_with x5 j9) fun r11 r12 =>
  if (!r12) = true then (some (0, 52))
  else (bind2 (instr_Encode r11) fun r14 r15 =>
  some (r14, r15))
noncomputable def asm_reader_place (H : Heap) (p0 : Ptr) (p1 : Int) : Option (Int × Int) :=
  (p0).bnd0 fun i1 =>
  bind1 (get_asm_reader H i1 0) fun x3 =>
  bind1 (gi x3.rows_ p1) fun x5 =>
  if (x5.op_ == 0) = true then (some (x5.word_, 0))
  else (bind1 (asm_row_named x5) fun r7 =>
  if (!strEq r7 ByteArray.empty) = true then (bind1 (asm_Unit_At x3.unit_ r7) fun r17 =>
  if (decide (r17 < 0)) = true then (some (0, 50))
  else (bind1 (word_Text (IntKind.wrap .i64 ((IntKind.wrap .i64 (r17 - p1)) - 1))) fun r19 =>
  asm_reader_place_j1 x5 r19))
  else (asm_reader_place_j1 x5 (ByteArray.mk #[48])))
theorem ok_asm_reader_place (H : Heap) {p0 : Ptr} {p1 : Int} {ra : Int} {rb : Int} (hF : asm_reader_place H p0 p1 = some (ra, rb)) : evS X 21 [.one .top (.ptr p0), .one .top (.int .i64 p1)] H = some (.tup [.one .top (.int .u32 ra), .one .top (.int .i64 rb)], H) := by
 refine wf Tryd.func21 true 8 ?_; intro q
 obtain ⟨i1, h2, hF⟩ := pbnd0_inv hF
 refine wnp 1 h2 ?_; intro q
 obtain ⟨x3, V4, hF⟩ := bind1_inv hF
 replace V4 := hgetT_inv V4
 refine wld 1 V4 2 ?_; intro q
 obtain ⟨x5, h6, hF⟩ := bind1_inv hF
 refine wix 11 h6 e_asm_row ?_; intro q
 refine wi 7 9 hF (fun _ hF => ?_) (fun _ hF => ?_)
 intro q
 obtain ⟨rfl, rfl⟩ := some2_inv hF
 exact wrp
 intro q
 obtain ⟨r7, c8, hF⟩ := bind1_inv hF
 refine wc 7 (ok_asm_row_named_2 H c8) ?_; intro q
 refine wj 4 0 (fun x => ut [(7, .one .top (.str x))] [0, 1, 8, 27]) (asm_reader_place_j1 x5) (ra, rb) ?_ ?_
 rintro j9 hF q
 obtain ⟨r11, r12, c13, hF⟩ := bind2_inv hF
 refine wc 13 (ok_asm_row_with_2 H c13) ?_; intro q
 refine wi 5 4 hF (fun _ hF => ?_) (fun _ hF => ?_)
 intro q
 obtain ⟨rfl, rfl⟩ := some2_inv hF
 exact wrp
 intro q
 obtain ⟨r14, r15, c16, hF⟩ := bind2_inv hF
 refine wc 5 (ok_instr_Encode H c16) ?_; intro q
 obtain ⟨rfl, rfl⟩ := some2_inv hF
 exact wrp
 intro hJ10 q
 refine wi 3 1 hF (fun _ hF => ?_) (fun _ hF => ?_)
 intro q
 refine wnp 1 h2 ?_; intro q
 refine wld 1 V4 0 ?_; intro q
 obtain ⟨r17, c18, hF⟩ := bind1_inv hF
 refine wc 8 (ok_asm_Unit_At H c18) ?_; intro q
 refine wi 5 6 hF (fun _ hF => ?_) (fun _ hF => ?_)
 intro q
 obtain ⟨rfl, rfl⟩ := some2_inv hF
 exact wrp
 intro q
 obtain ⟨r19, c20, hF⟩ := bind1_inv hF
 refine wc 2 (ok_word_Text H c20) ?_; intro q
 exact we hJ10 r19 hF
 intro q
 exact we hJ10 (ByteArray.mk #[48]) hF
noncomputable def asm_Assemble_L1 (r1 : (List ByteArray)) (i4 : Nat) (a7 : Int) (H8 : Heap) : Option ((Int × Heap) ⊕ ((Heap) ⊕ (Int × Int × Heap))) :=
  if (decide (a7 < (r1.length : Int))) = true then (bind1 (gi r1 a7) fun x9 =>
  bind2 (asm_reader_line H8 (Ptr.at i4 0) (IntKind.wrap .i64 (a7 + 1)) x9) fun H13 r11 =>
  if (r11 != 0) = true then (some (Sum.inr (Sum.inr ((IntKind.wrap .i64 (a7 + 1)), r11, H13))))
  else (some (Sum.inl ((IntKind.wrap .i64 (a7 + 1)), H13))))
  else (some (Sum.inr (Sum.inl H8)))
noncomputable def asm_Assemble_L2 (x16 : T_asm_reader) (i4 : Nat) (a18 : Int) (H19 : Heap) : Option ((Int × Heap) ⊕ ((Heap) ⊕ (Int × Int × Heap))) :=
  if (decide (a18 < (x16.rows_.length : Int))) = true then (bind1 (get_asm_reader H19 i4 0) fun x20 =>
  bind1 (gi x20.rows_ a18) fun x22 =>
  bind1 (sameN x16.rows_.length x20.rows_.length) fun (_ : Unit) =>
  bind2 (asm_reader_place H19 (Ptr.at i4 0) a18) fun r25 r26 =>
  if (r26 != 0) = true then (some (Sum.inr (Sum.inr (x22.line_, r26, H19))))
  else (bind1 (app 4 x20.unit_.Words_ ([r25] : List Int)) fun v28 =>
  bnd (set_asm_reader H19 i4 0 (T_asm_reader.mk (T_asm_Unit.mk v28 x20.unit_.Labels_) x20.rows_)) fun H30 =>
  some (Sum.inl ((IntKind.wrap .i64 (a18 + 1)), H30))))
  else (some (Sum.inr (Sum.inl H19)))
noncomputable def asm_Assemble  (p0 : ByteArray) : Option (T_asm_Unit × Int × Int) :=
  bind1 (splitC p0 (ByteArray.mk #[10])) fun r1 =>
  if (decide ((r1.length : Int) > 4096)) = true then (some ((T_asm_Unit.mk ([] : List Int) ([] : List T_asm_Label)), 4097, 242))
  else (bnd ([] : Heap).length fun i4 =>
  bnd (new_asm_reader ([] : Heap) (T_asm_reader.mk (T_asm_Unit.mk ([] : List Int) ([] : List T_asm_Label)) ([] : List T_asm_row))) fun H3 =>
  bind1 (loopO (fun (x : (Int × Heap)) => asm_Assemble_L1 r1 i4 x.1 x.2) (0, H3)) (sum2 (fun H15 =>
  bind1 (get_asm_reader H15 i4 0) fun x16 =>
  bind1 (loopO (fun (x : (Int × Heap)) => asm_Assemble_L2 x16 i4 x.1 x.2) (0, H15)) (sum2 (fun H34 =>
  bind1 (get_asm_reader H34 i4 0) fun x35 =>
  some (x35.unit_, 0, 0)) (tup3 fun b37 b38 H39 =>
  some ((T_asm_Unit.mk ([] : List Int) ([] : List T_asm_Label)), b37, b38)))) (tup3 fun b41 b42 H43 =>
  some ((T_asm_Unit.mk ([] : List Int) ([] : List T_asm_Label)), b41, b42))))
theorem ok_asm_Assemble (H : Heap) {p0 : ByteArray} {ra : T_asm_Unit} {rb : Int} {rc : Int} (hF : asm_Assemble p0 = some (ra, rb, rc)) : evS X 9 [.one .top (.str p0)] H = some (.tup [.agg [((.own 1), .sl 1 (List.map (eI .u32) ra.Words_)), ((.own 1), .sl 2 (List.map e_asm_Label ra.Labels_))], .one .top (.int .i64 rb), .one .top (.int .i64 rc)], H) := by
 refine wfA Tryd.func9 9 (by simp [aloneIn1, aloneA, aloneM, AV.np, AV.plain, eS, eI]) ?_ (ho := by simp [TV.all, all1, aloneC, AV.np, AV.plain, eS, eI, e_asm_Label]); intro q
 obtain ⟨r1, c2, hF⟩ := bind1_inv hF
 refine wc 6 (ok_splitC ([] : Heap) c2) ?_; intro q
 refine wle 2 r1 eS ?_; intro q
 refine wi 7 4 hF (fun _ hF => ?_) (fun _ hF => ?_)
 intro q
 obtain ⟨rfl, rfl, rfl⟩ := some3_inv hF
 exact wre
 intro q
 obtain ⟨i4, h6, hF⟩ := bnd_inv hF
 obtain ⟨H3, h5, hF⟩ := bnd_inv hF
 refine wal 6 h6 h5 (d := 21) ?_; intro q
 refine wle 3 r1 eS ?_; intro q
 obtain ⟨r44, hL14, hF⟩ := bind1_inv hF
 refine wL (fun (x : (Int × Heap)) => uh x.2 (ut [(24, vi x.1)] [])) (Sum.elim (fun (y : (Heap)) => wz (.exit 0) (uh y (ut [] [22, 23, 24]))) (fun (y : (Int × Int × Heap)) => wz (.ret) (uh y.2.2 (ut [(3, vi y.1), (4, vi y.2.1)] [6, 22, 23, 24])))) hL14 ?_ ?_
 rintro ⟨a7, H8⟩ o hF q
 refine go 5 ?_; intro q
 refine wi 6 0 hF (fun _ hF => ?_) (fun _ hF => ?_)
 intro q
 obtain ⟨x9, h10, hF⟩ := bind1_inv hF
 refine wix 10 h10 eS ?_; intro q
 obtain ⟨H13, r11, c12, hF⟩ := bind2_inv hF
 refine wc 7 (ok_asm_reader_line H8 c12) ?_; intro q
 refine wi 10 6 hF (fun _ hF => ?_) (fun _ hF => ?_)
 intro q
 exact wlx _ hF
 intro q
 exact wln _ hF
 intro q
 exact wlx _ hF
 replace hF := sum2_inv hF
 rcases hF with ⟨H15, rfl, hF⟩ | ⟨⟨b41, b42, H43⟩, rfl, hF⟩
 intro q
 refine go 7 ?_; intro q
 obtain ⟨x16, V17, hF⟩ := bind1_inv hF
 replace V17 := hgetT_inv V17
 refine wlp 0 V17 2 x16.rows_ e_asm_row ?_; intro q
 refine wle 3 x16.rows_ e_asm_row ?_; intro q
 obtain ⟨r40, hL33, hF⟩ := bind1_inv hF
 refine wL (fun (x : (Int × Heap)) => uh x.2 (ut [(46, vi x.1)] [])) (Sum.elim (fun (y : (Heap)) => wz (.exit 2) (uh y (ut [] [44, 45, 46]))) (fun (y : (Int × Int × Heap)) => wz (.ret) (uh y.2.2 (ut [(3, vi y.1), (4, vi y.2.1)] [6, 44, 45, 46])))) hL33 ?_ ?_
 rintro ⟨a18, H19⟩ o hF q
 refine go 5 ?_; intro q
 refine wi 6 0 hF (fun _ hF => ?_) (fun _ hF => ?_)
 intro q
 obtain ⟨x20, V21, hF⟩ := bind1_inv hF
 replace V21 := hgetT_inv V21
 obtain ⟨x22, h23, hF⟩ := bind1_inv hF
 obtain ⟨_, h24, hF⟩ := bind1_inv hF
 refine wxO 0 V21 2 h23 e_asm_row (Eq.trans (List.length_map e_asm_row) (sameN_inv h24)) ?_; intro q
 refine wlO 8 V21 2 0 h23 e_asm_row ?_; intro q
 obtain ⟨r25, r26, c27, hF⟩ := bind2_inv hF
 refine wc 12 (ok_asm_reader_place H19 c27) ?_; intro q
 refine wi 10 7 hF (fun _ hF => ?_) (fun _ hF => ?_)
 intro q
 exact wlx _ hF
 intro q
 refine wlt 2 V21 0 (hs0 V21) ?_; intro q
 obtain ⟨v28, h29, hF⟩ := bind1_inv hF
 refine wap 3 h29 (eI .u32) ?_; intro q
 refine wst 0 (hset_get (new := [(.top, .junk), ((.own 1), .sl 2 (List.map e_asm_Label x20.unit_.Labels_)), ((.own 1), .sl 4 (List.map e_asm_row x20.rows_))]) V21 rfl) 0 (hs1 V21) ?_; intro q
 obtain ⟨H30, h31, hF⟩ := bnd_inv hF
 have V32 : hget H30 i4 0 3 = some (o_asm_reader (T_asm_reader.mk (T_asm_Unit.mk v28 x20.unit_.Labels_) x20.rows_)) := by rw [← h31]; exact hset_get V21 rfl
 refine wh 6 h31 ?_; intro q
 exact wln _ hF
 intro q
 exact wlx _ hF
 replace hF := sum2_inv hF
 rcases hF with ⟨H34, rfl, hF⟩ | ⟨⟨b37, b38, H39⟩, rfl, hF⟩
 intro q
 refine go 6 ?_; intro q
 obtain ⟨x35, V36, hF⟩ := bind1_inv hF
 replace V36 := hgetT_inv V36
 refine wlt 4 V36 0 (hs0 V36) ?_; intro q
 obtain ⟨rfl, rfl, rfl⟩ := some3_inv hF
 exact wre
 replace hF := tup3_inv hF
 intro q
 obtain ⟨rfl, rfl, rfl⟩ := some3_inv hF
 exact wre
 replace hF := tup3_inv hF
 intro q
 obtain ⟨rfl, rfl, rfl⟩ := some3_inv hF
 exact wre
theorem ok_asm_Unit_At_2 (H : Heap) {p0 : T_asm_Unit} {p1 : ByteArray} {ra : Int} (hF : asm_Unit_At p0 p1 = some ra) : evS X 15 [.agg [(.ro, .sl 1 (List.map (eI .u32) p0.Words_)), (.ro, .sl 2 (List.map e_asm_Label p0.Labels_))], .one .top (.str p1)] H = some (.one .top (.int .i64 ra), H) := by
 refine wf Tryd.func15 true 10 ?_; intro q
 refine wle 3 p0.Labels_ e_asm_Label ?_; intro q
 obtain ⟨r6, hL4, hF⟩ := bind1_inv hF
 refine wL (fun (x : (Int)) => ut [(10, vi x)] []) (Sum.elim (fun (y : Unit) => wz (.exit 0) (ut [] [1, 8, 9, 10])) (fun (y : (Int)) => wz (.ret) (ut [(4, vi y)] [1, 8, 9, 10]))) hL4 ?_ ?_
 rintro a1 o hF q
 refine go 5 ?_; intro q
 refine wi 5 0 hF (fun _ hF => ?_) (fun _ hF => ?_)
 intro q
 obtain ⟨x2, h3, hF⟩ := bind1_inv hF
 refine wix 11 h3 e_asm_Label ?_; intro q
 refine wi 6 6 hF (fun _ hF => ?_) (fun _ hF => ?_)
 intro q
 exact wlx _ hF
 intro q
 exact wln _ hF
 intro q
 exact wlx _ hF
 replace hF := sum2_inv hF
 rcases hF with ⟨⟨⟩, rfl, hF⟩ | ⟨b5, rfl, hF⟩
 intro q
 refine go 5 ?_; intro q
 obtain rfl := some1_inv hF
 exact wrp
 intro q
 obtain rfl := some1_inv hF
 exact wrp
noncomputable def law05_awake  : Option (Bool) :=
  bind3 (asm_Assemble (ByteArray.mk #[108, 111, 111, 112, 58, 10, 66, 82, 32, 108, 111, 111, 112, 10])) fun r1 r2 r3 =>
  bind1 (if (r3 == 0) = true then (if (r2 == 0) = true then (if ((r1.Words_.length : Int) == 1) = true then (bind1 (gi r1.Words_ 0) fun x5 =>
  if (x5 == 385875967) = true then (bind1 (asm_Unit_At r1 (ByteArray.mk #[108, 111, 111, 112])) fun r7 =>
  if (r7 == 0) = true then (bind1 (asm_Unit_At r1 (ByteArray.mk #[120])) fun r9 =>
  some (r9 == (-1))) else (some false)) else (some false)) else (some false)) else (some false)) else (some false)) fun w11 =>
  some w11
theorem ok_law05_awake (H : Heap) {ra : Bool} (hF : law05_awake = some ra) : evS X 8 [] H = some (.one .top (.bool ra), H) := by
 refine wf Tryd.func8 true 6 ?_; intro q
 obtain ⟨r1, r2, r3, c4, hF⟩ := bind3_inv hF
 refine wc 14 (ok_asm_Assemble H c4) ?_; intro q
 obtain ⟨w11, hB12, hF⟩ := bind1_inv hF
 refine wr0 0 (uf (⟨[(0, vb w11)], [], H⟩ : St)) ?_ ?_; intro q
 refine wg [10, 11] 4 28 hB12 (fun _ hB12 => ?_) (fun _ hB12 => ?_)
 intro q
 refine wg [13, 14, 15] 2 24 hB12 (fun _ hB12 => ?_) (fun _ hB12 => ?_)
 intro q
 refine wle 3 r1.Words_ (eI .u32) ?_; intro q
 refine wg [19, 20, 21] 2 18 hB12 (fun _ hB12 => ?_) (fun _ hB12 => ?_)
 intro q
 obtain ⟨x5, h6, hB12⟩ := bind1_inv hB12
 refine wix 4 h6 (eI .u32) ?_; intro q
 refine wg [26, 27, 28] 1 11 hB12 (fun _ hB12 => ?_) (fun _ hB12 => ?_)
 intro q
 obtain ⟨r7, c8, hB12⟩ := bind1_inv hB12
 refine wc 3 (ok_asm_Unit_At_2 H c8) ?_; intro q
 refine wg [31, 32, 33] 1 6 hB12 (fun _ hB12 => ?_) (fun _ hB12 => ?_)
 intro q
 obtain ⟨r9, c10, hB12⟩ := bind1_inv hB12
 refine wc 4 (ok_asm_Unit_At_2 H c10) ?_; intro q
 cases hB12
 exact wl0
 intro q
 cases hB12
 exact wl0
 intro q
 cases hB12
 exact wl0
 intro q
 cases hB12
 exact wl0
 intro q
 cases hB12
 exact wl0
 intro q
 cases hB12
 exact wl0
 intro q
 obtain rfl := some1_inv hF
 exact wrp
noncomputable def ref02_Shape_j6 (p0 : Int) (j12 : Bool) : Option (Int) :=
  if j12 = true then (some 7)
  else (if (p0 == 28) = true then (some 8)
  else (some (-1)))
noncomputable def ref02_Shape_j5 (p0 : Int) (j10 : Bool) : Option (Int) :=
  if j10 = true then (some 6)
  else (if (p0 == 22) = true then (ref02_Shape_j6 p0 (p0 == 22))
  else (ref02_Shape_j6 p0 (p0 == 23)))
noncomputable def ref02_Shape_j4 (p0 : Int) (j8 : Bool) : Option (Int) :=
  if j8 = true then (some 4)
  else (if (p0 == 24) = true then (ref02_Shape_j5 p0 (p0 == 24))
  else (if (p0 == 25) = true then (ref02_Shape_j5 p0 (p0 == 25))
  else (if (p0 == 27) = true then (ref02_Shape_j5 p0 (p0 == 27))
  else (if (p0 == 29) = true then (ref02_Shape_j5 p0 (p0 == 29))
  else (if (p0 == 31) = true then (ref02_Shape_j5 p0 (p0 == 31))
  else (ref02_Shape_j5 p0 (p0 == 32)))))))
noncomputable def ref02_Shape_j3 (p0 : Int) (j6 : Bool) : Option (Int) :=
  if j6 = true then (some 3)
  else (if (p0 == 4) = true then (ref02_Shape_j4 p0 (p0 == 4))
  else (if (p0 == 26) = true then (ref02_Shape_j4 p0 (p0 == 26))
  else (ref02_Shape_j4 p0 (p0 == 34))))
noncomputable def ref02_Shape_j2 (p0 : Int) (j4 : Bool) : Option (Int) :=
  if j4 = true then (some 2)
  else (if (p0 == 5) = true then (ref02_Shape_j3 p0 (p0 == 5))
  else (if (p0 == 18) = true then (ref02_Shape_j3 p0 (p0 == 18))
  else (ref02_Shape_j3 p0 (p0 == 19))))
noncomputable def ref02_Shape_j1 (p0 : Int) (j2 : Bool) : Option (Int) :=
  if j2 = true then (some 1)
  else (if (p0 == 3) = true then (ref02_Shape_j2 p0 (p0 == 3))
  else (if (p0 == 30) = true then (ref02_Shape_j2 p0 (p0 == 30))
  else (ref02_Shape_j2 p0 (p0 == 33))))
noncomputable def ref02_Shape  (p0 : Int) : Option (Int) :=
  if ((decide (p0 ≥ 6)) && (decide (p0 ≤ 17))) = true then (some 5)
  else (if (p0 == 1) = true then (some 0)
  else (if (p0 == 2) = true then (ref02_Shape_j1 p0 (p0 == 2))
  else (if (p0 == 20) = true then (ref02_Shape_j1 p0 (p0 == 20))
  else (ref02_Shape_j1 p0 (p0 == 21)))))
theorem ok_ref02_Shape (H : Heap) {p0 : Int} {ra : Int} (hF : ref02_Shape p0 = some ra) : evS X 57 [.one .top (.int .i64 p0)] H = some (.one .top (.int .i64 ra), H) := by
 refine wf Tryd.func57 true 10 ?_; intro q
 refine wr 0 (fun x => ut [(8, vb x)] [3, 4, 5]) ((decide (p0 ≥ 6)) && (decide (p0 ≤ 17))) ?_ ?_; intro q
 refine wb [4, 5] (decide (p0 ≥ 6)) 4 4 (fun h1 => ?_) (fun h1 => ?_)
 intro q
 exact wl (decide (p0 ≤ 17)) (by first | (simp only [h1]; done) | (simp only [h1]; rfl) | simp [h1])
 intro q
 exact wl false (by first | (simp only [h1]; done) | (simp only [h1]; rfl) | simp [h1])
 intro q
 refine wi 4 11 hF (fun _ hF => ?_) (fun _ hF => ?_)
 intro q
 obtain rfl := some1_inv hF
 exact wrp
 intro q
 refine wi 4 6 hF (fun _ hF => ?_) (fun _ hF => ?_)
 intro q
 obtain rfl := some1_inv hF
 exact wrp
 intro q
 refine wj 0 0 (fun x => ut [(12, vb x)] []) (ref02_Shape_j1 p0) ra ?_ ?_
 rintro j2 hF q
 refine wi 4 6 hF (fun _ hF => ?_) (fun _ hF => ?_)
 intro q
 obtain rfl := some1_inv hF
 exact wrp
 intro q
 refine wj 0 0 (fun x => ut [(16, vb x)] []) (ref02_Shape_j2 p0) ra ?_ ?_
 rintro j4 hF q
 refine wi 4 6 hF (fun _ hF => ?_) (fun _ hF => ?_)
 intro q
 obtain rfl := some1_inv hF
 exact wrp
 intro q
 refine wj 0 0 (fun x => ut [(20, vb x)] []) (ref02_Shape_j3 p0) ra ?_ ?_
 rintro j6 hF q
 refine wi 4 6 hF (fun _ hF => ?_) (fun _ hF => ?_)
 intro q
 obtain rfl := some1_inv hF
 exact wrp
 intro q
 refine wj 0 0 (fun x => ut [(24, vb x)] []) (ref02_Shape_j4 p0) ra ?_ ?_
 rintro j8 hF q
 refine wi 4 6 hF (fun _ hF => ?_) (fun _ hF => ?_)
 intro q
 obtain rfl := some1_inv hF
 exact wrp
 intro q
 refine wj 0 0 (fun x => ut [(28, vb x)] []) (ref02_Shape_j5 p0) ra ?_ ?_
 rintro j10 hF q
 refine wi 4 6 hF (fun _ hF => ?_) (fun _ hF => ?_)
 intro q
 obtain rfl := some1_inv hF
 exact wrp
 intro q
 refine wj 0 0 (fun x => ut [(35, vb x)] []) (ref02_Shape_j6 p0) ra ?_ ?_
 rintro j12 hF q
 refine wi 4 5 hF (fun _ hF => ?_) (fun _ hF => ?_)
 intro q
 obtain rfl := some1_inv hF
 exact wrp
 intro q
 refine wi 4 4 hF (fun _ hF => ?_) (fun _ hF => ?_)
 intro q
 obtain rfl := some1_inv hF
 exact wrp
 intro q
 obtain rfl := some1_inv hF
 exact wrp
 intro hJ13 q
 refine wi 1 4 hF (fun _ hF => ?_) (fun _ hF => ?_)
 intro q
 exact we hJ13 (p0 == 22) hF
 intro q
 exact we hJ13 (p0 == 23) hF
 intro hJ11 q
 refine wi 1 5 hF (fun _ hF => ?_) (fun _ hF => ?_)
 intro q
 exact we hJ11 (p0 == 24) hF
 intro q
 refine wi 1 5 hF (fun _ hF => ?_) (fun _ hF => ?_)
 intro q
 exact we hJ11 (p0 == 25) hF
 intro q
 refine wi 1 5 hF (fun _ hF => ?_) (fun _ hF => ?_)
 intro q
 exact we hJ11 (p0 == 27) hF
 intro q
 refine wi 1 5 hF (fun _ hF => ?_) (fun _ hF => ?_)
 intro q
 exact we hJ11 (p0 == 29) hF
 intro q
 refine wi 1 4 hF (fun _ hF => ?_) (fun _ hF => ?_)
 intro q
 exact we hJ11 (p0 == 31) hF
 intro q
 exact we hJ11 (p0 == 32) hF
 intro hJ9 q
 refine wi 1 5 hF (fun _ hF => ?_) (fun _ hF => ?_)
 intro q
 exact we hJ9 (p0 == 4) hF
 intro q
 refine wi 1 4 hF (fun _ hF => ?_) (fun _ hF => ?_)
 intro q
 exact we hJ9 (p0 == 26) hF
 intro q
 exact we hJ9 (p0 == 34) hF
 intro hJ7 q
 refine wi 1 5 hF (fun _ hF => ?_) (fun _ hF => ?_)
 intro q
 exact we hJ7 (p0 == 5) hF
 intro q
 refine wi 1 4 hF (fun _ hF => ?_) (fun _ hF => ?_)
 intro q
 exact we hJ7 (p0 == 18) hF
 intro q
 exact we hJ7 (p0 == 19) hF
 intro hJ5 q
 refine wi 1 5 hF (fun _ hF => ?_) (fun _ hF => ?_)
 intro q
 exact we hJ5 (p0 == 3) hF
 intro q
 refine wi 1 4 hF (fun _ hF => ?_) (fun _ hF => ?_)
 intro q
 exact we hJ5 (p0 == 30) hF
 intro q
 exact we hJ5 (p0 == 33) hF
 intro hJ3 q
 refine wi 1 5 hF (fun _ hF => ?_) (fun _ hF => ?_)
 intro q
 exact we hJ3 (p0 == 2) hF
 intro q
 refine wi 1 4 hF (fun _ hF => ?_) (fun _ hF => ?_)
 intro q
 exact we hJ3 (p0 == 20) hF
 intro q
 exact we hJ3 (p0 == 21) hF
noncomputable def ref02_has  (p0 : Int) : Option (Bool × Bool × Bool) :=
  some (((decide (p0 ≥ 1)) && (decide (p0 ≤ 6))), ((decide (p0 ≥ 3)) && (decide (p0 ≤ 5))), (p0 == 5))
theorem ok_ref02_has (H : Heap) {p0 : Int} {ra : Bool} {rb : Bool} {rc : Bool} (hF : ref02_has p0 = some (ra, rb, rc)) : evS X 58 [.one .top (.int .i64 p0)] H = some (.tup [.one .top (.bool ra), .one .top (.bool rb), .one .top (.bool rc)], H) := by
 refine wf Tryd.func58 true 11 ?_; intro q
 refine wr 5 (fun x => ut [(5, vb x)] [7, 8, 9]) ((decide (p0 ≥ 1)) && (decide (p0 ≤ 6))) ?_ ?_; intro q
 refine wb [8, 9] (decide (p0 ≥ 1)) 5 5 (fun h1 => ?_) (fun h1 => ?_)
 intro q
 exact wl (decide (p0 ≤ 6)) (by first | (simp only [h1]; done) | (simp only [h1]; rfl) | simp [h1])
 intro q
 exact wl false (by first | (simp only [h1]; done) | (simp only [h1]; rfl) | simp [h1])
 intro q
 refine wr 10 (fun x => ut [(6, vb x)] [13, 14, 15]) ((decide (p0 ≥ 3)) && (decide (p0 ≤ 5))) ?_ ?_; intro q
 refine wb [14, 15] (decide (p0 ≥ 3)) 5 5 (fun h2 => ?_) (fun h2 => ?_)
 intro q
 exact wl (decide (p0 ≤ 5)) (by first | (simp only [h2]; done) | (simp only [h2]; rfl) | simp [h2])
 intro q
 exact wl false (by first | (simp only [h2]; done) | (simp only [h2]; rfl) | simp [h2])
 intro q
 obtain ⟨rfl, rfl, rfl⟩ := some3_inv hF
 exact wrp
noncomputable def ref01_Power_L1 (p0 : Int) (a1 : Int) (a2 : Int) : Option ((Int × Int) ⊕ ((Int))) :=
  if (decide (a2 < p0)) = true then (some (Sum.inl ((IntKind.wrap .i64 (a1 * 2)), (IntKind.wrap .i64 (a2 + 1)))))
  else (some (Sum.inr a1))
noncomputable def ref01_Power  (p0 : Int) : Option (Int) :=
  bind1 (loopO (fun (x : (Int × Int)) => ref01_Power_L1 p0 x.1 x.2) (1, 0)) (fun b4 =>
  some b4)
theorem ok_ref01_Power (H : Heap) {p0 : Int} {ra : Int} (hF : ref01_Power p0 = some ra) : evS X 76 [.one .top (.int .i64 p0)] H = some (.one .top (.int .i64 ra), H) := by
 refine wf Tryd.func76 true 14 ?_; intro q
 obtain ⟨b4, hL3, hF⟩ := bind1_inv hF
 refine wL (fun (x : (Int × Int)) => ut [(3, vi x.1), (4, vi x.2)] []) (fun (y : (Int)) => wz (.exit 0) (ut [(3, vi y)] [0, 4])) hL3 ?_ ?_
 rintro ⟨a1, a2⟩ o hF q
 refine go 7 ?_; intro q
 refine wi 14 0 hF (fun _ hF => ?_) (fun _ hF => ?_)
 intro q
 exact wln _ hF
 intro q
 exact wlx _ hF
 intro q
 refine go 6 ?_; intro q
 obtain rfl := some1_inv hF
 exact wrp
noncomputable def ref01_Round_j2 (j3 : Int) : Option (Int) :=
  some (IntKind.wrap .i32 j3)
noncomputable def ref01_Round_j1 (j1 : Int) : Option (Int) :=
  if (decide (j1 ≥ 2147483648)) = true then (ref01_Round_j2 (IntKind.wrap .i64 (j1 - 4294967296)))
  else (ref01_Round_j2 j1)
noncomputable def ref01_Round  (p0 : Int) : Option (Int) :=
  if (decide ((Int.tmod p0 4294967296) < 0)) = true then (ref01_Round_j1 (IntKind.wrap .i64 ((Int.tmod p0 4294967296) + 4294967296)))
  else (ref01_Round_j1 (Int.tmod p0 4294967296))
theorem ok_ref01_Round (H : Heap) {p0 : Int} {ra : Int} (hF : ref01_Round p0 = some ra) : evS X 77 [.one .top (.int .i64 p0)] H = some (.one .top (.int .i32 ra), H) := by
 refine wf Tryd.func77 true 16 ?_; intro q
 refine wj 6 0 (fun x => ut [(3, vi x)] [7]) ref01_Round_j1 ra ?_ ?_
 rintro j1 hF q
 refine wj 6 0 (fun x => ut [(3, vi x)] [11]) ref01_Round_j2 ra ?_ ?_
 rintro j3 hF q
 obtain rfl := some1_inv hF
 exact wrp
 intro hJ4 q
 refine wi 5 1 hF (fun _ hF => ?_) (fun _ hF => ?_)
 intro q
 exact we hJ4 (IntKind.wrap .i64 (j1 - 4294967296)) hF
 intro q
 exact we hJ4 j1 hF
 intro hJ2 q
 refine wi 5 1 hF (fun _ hF => ?_) (fun _ hF => ?_)
 intro q
 exact we hJ2 (IntKind.wrap .i64 ((Int.tmod p0 4294967296) + 4294967296)) hF
 intro q
 exact we hJ2 (Int.tmod p0 4294967296) hF
noncomputable def ref01_Sext_j1 (j5 : Int) : Option (Int) :=
  bind1 (ref01_Round j5) fun r7 =>
  some r7
noncomputable def ref01_Sext  (p0 : Int) (p1 : Int) : Option (Int) :=
  if (decide (p1 < 1)) = true then (some 0)
  else (bind1 (ref01_Power (if 32 < p1 then 32 else p1)) fun r1 =>
  bind1 (remI .i64 (IntKind.wrap .i64 p0) r1) fun v3 =>
  if (decide (v3 ≥ (IntKind.wrap .i64 (Int.tdiv r1 2)))) = true then (ref01_Sext_j1 (IntKind.wrap .i64 (v3 - r1)))
  else (ref01_Sext_j1 v3))
theorem ok_ref01_Sext (H : Heap) {p0 : Int} {p1 : Int} {ra : Int} (hF : ref01_Sext p0 p1 = some ra) : evS X 59 [.one .top (.int .u32 p0), .one .top (.int .i64 p1)] H = some (.one .top (.int .i32 ra), H) := by
 refine wf Tryd.func59 true 10 ?_; intro q
 refine wi 4 5 hF (fun _ hF => ?_) (fun _ hF => ?_)
 intro q
 obtain rfl := some1_inv hF
 exact wrp
 intro q
 obtain ⟨r1, c2, hF⟩ := bind1_inv hF
 refine wc 7 (ok_ref01_Power H c2) ?_; intro q
 obtain ⟨v3, h4, hF⟩ := bind1_inv hF
 refine wbi 10 h4 .i64 (ev_rem (P := X.P) (ty := 3) (x := (.tmp 13)) (y := (.tmp 14)) (m := .top) (m' := .top) (k := .i64) (a := (IntKind.wrap .i64 p0)) (b := r1)) ?_; intro q
 refine wj 3 0 (fun x => ut [(6, vi x)] [5, 19]) ref01_Sext_j1 ra ?_ ?_
 rintro j5 hF q
 obtain ⟨r7, c8, hF⟩ := bind1_inv hF
 refine wc 2 (ok_ref01_Round H c8) ?_; intro q
 obtain rfl := some1_inv hF
 exact wrp
 intro hJ6 q
 refine wi 6 1 hF (fun _ hF => ?_) (fun _ hF => ?_)
 intro q
 exact we hJ6 (IntKind.wrap .i64 (v3 - r1)) hF
 intro q
 exact we hJ6 v3 hF
noncomputable def ref02_Check_j2 (p0 : T_ref02_Instr) (j25 : Int) (j26 : Int) : Option (Int) :=
  if ((decide (p0.Imm_ < j25)) || (decide (p0.Imm_ > j26))) = true then (some 20)
  else (some 0)
noncomputable def ref02_Check_j3 (p0 : T_ref02_Instr) (r1 : Int) (j29 : Bool) : Option (Int) :=
  if j29 = true then (ref02_Check_j2 p0 0 65535)
  else (if (r1 == 7) = true then (ref02_Check_j2 p0 (-8388608) 8388607)
  else (ref02_Check_j2 p0 0 0))
noncomputable def ref02_Check_j1 (p0 : T_ref02_Instr) (r1 : Int) (j23 : Bool) : Option (Int) :=
  if j23 = true then (ref02_Check_j2 p0 (-32768) 32767)
  else (if (r1 == 2) = true then (ref02_Check_j3 p0 r1 (r1 == 2))
  else (if (r1 == 4) = true then (ref02_Check_j3 p0 r1 (r1 == 4))
  else (ref02_Check_j3 p0 r1 (r1 == 8))))
noncomputable def ref02_Check  (p0 : T_ref02_Instr) : Option (Int) :=
  bind1 (ref02_Shape p0.Op_) fun r1 =>
  if (decide (r1 < 0)) = true then (some 21)
  else (bind3 (ref02_has r1) fun r3 r4 r5 =>
  if ((decide (p0.A_ < 0)) || ((decide (p0.A_ > 15)) || ((decide (p0.B_ < 0)) || ((decide (p0.B_ > 15)) || ((decide (p0.C_ < 0)) || ((decide (p0.C_ > 15)) || (if (!r3) = true then ((p0.A_ != 0) || (if (!r4) = true then ((p0.B_ != 0) || ((!r5) && (p0.C_ != 0))) else ((!r5) && (p0.C_ != 0)))) else (if (!r4) = true then ((p0.B_ != 0) || ((!r5) && (p0.C_ != 0))) else ((!r5) && (p0.C_ != 0)))))))))) = true then (some 20)
  else (if (r1 == 1) = true then (ref02_Check_j1 p0 r1 (r1 == 1))
  else (ref02_Check_j1 p0 r1 (r1 == 3))))
theorem ok_ref02_Check (H : Heap) {p0 : T_ref02_Instr} {ra : Int} (hF : ref02_Check p0 = some ra) : evS X 60 [.agg (m0_ref02_Instr p0)] H = some (.one .top (.int .i64 ra), H) := by
 refine wf Tryd.func60 true 9 ?_; intro q
 obtain ⟨r1, c2, hF⟩ := bind1_inv hF
 refine wc 8 (ok_ref02_Shape H c2) ?_; intro q
 refine wi 4 4 hF (fun _ hF => ?_) (fun _ hF => ?_)
 intro q
 obtain rfl := some1_inv hF
 exact wrp
 intro q
 obtain ⟨r3, r4, r5, c6, hF⟩ := bind3_inv hF
 refine wc 15 (ok_ref02_has H c6) ?_; intro q
 refine wr 0 (fun x => ut [(74, vb x)] [4, 5, 6, 20, 21, 22, 23]) ((decide (p0.A_ < 0)) || ((decide (p0.A_ > 15)) || ((decide (p0.B_ < 0)) || ((decide (p0.B_ > 15)) || ((decide (p0.C_ < 0)) || ((decide (p0.C_ > 15)) || (if (!r3) = true then ((p0.A_ != 0) || (if (!r4) = true then ((p0.B_ != 0) || ((!r5) && (p0.C_ != 0))) else ((!r5) && (p0.C_ != 0)))) else (if (!r4) = true then ((p0.B_ != 0) || ((!r5) && (p0.C_ != 0))) else ((!r5) && (p0.C_ != 0)))))))))) ?_ ?_; intro q
 refine wb [22, 23] (decide (p0.A_ < 0)) 52 5 (fun h7 => ?_) (fun h7 => ?_)
 intro q
 exact wl true (by first | (simp only [h7]; done) | (simp only [h7]; rfl) | simp [h7])
 intro q
 refine wb [26, 27, 28] (decide (p0.A_ > 15)) 47 5 (fun h8 => ?_) (fun h8 => ?_)
 intro q
 exact wl true (by first | (simp only [h7, h8]; done) | (simp only [h7, h8]; rfl) | simp [h7, h8])
 intro q
 refine wb [31, 32, 33] (decide (p0.B_ < 0)) 42 5 (fun h9 => ?_) (fun h9 => ?_)
 intro q
 exact wl true (by first | (simp only [h7, h8, h9]; done) | (simp only [h7, h8, h9]; rfl) | simp [h7, h8, h9])
 intro q
 refine wb [36, 37, 38] (decide (p0.B_ > 15)) 37 5 (fun h10 => ?_) (fun h10 => ?_)
 intro q
 exact wl true (by first | (simp only [h7, h8, h9, h10]; done) | (simp only [h7, h8, h9, h10]; rfl) | simp [h7, h8, h9, h10])
 intro q
 refine wb [41, 42, 43] (decide (p0.C_ < 0)) 32 5 (fun h11 => ?_) (fun h11 => ?_)
 intro q
 exact wl true (by first | (simp only [h7, h8, h9, h10, h11]; done) | (simp only [h7, h8, h9, h10, h11]; rfl) | simp [h7, h8, h9, h10, h11])
 intro q
 refine wb [46, 47, 48] (decide (p0.C_ > 15)) 27 3 (fun h12 => ?_) (fun h12 => ?_)
 intro q
 exact wl true (by first | (simp only [h7, h8, h9, h10, h11, h12]; done) | (simp only [h7, h8, h9, h10, h11, h12]; rfl) | simp [h7, h8, h9, h10, h11, h12])
 intro q
 refine wb [50, 51] (!r3) 6 9 (fun h13 => ?_) (fun h13 => ?_)
 intro q
 refine wb [54, 55, 56, 57] (p0.A_ != 0) 18 3 (fun h14 => ?_) (fun h14 => ?_)
 intro q
 exact wl true (by first | (simp only [h7, h8, h9, h10, h11, h12, h13, h14]; done) | (simp only [h7, h8, h9, h10, h11, h12, h13, h14]; rfl) | simp [h7, h8, h9, h10, h11, h12, h13, h14])
 intro q
 refine wb [59, 60] (!r4) 6 9 (fun h15 => ?_) (fun h15 => ?_)
 intro q
 refine wb [63, 64, 65, 66] (p0.B_ != 0) 9 3 (fun h16 => ?_) (fun h16 => ?_)
 intro q
 exact wl true (by first | (simp only [h7, h8, h9, h10, h11, h12, h13, h14, h15, h16]; done) | (simp only [h7, h8, h9, h10, h11, h12, h13, h14, h15, h16]; rfl) | simp [h7, h8, h9, h10, h11, h12, h13, h14, h15, h16])
 intro q
 refine wb [68, 69] (!r5) 6 6 (fun h17 => ?_) (fun h17 => ?_)
 intro q
 exact wl (p0.C_ != 0) (by first | (simp only [h7, h8, h9, h10, h11, h12, h13, h14, h15, h16, h17]; done) | (simp only [h7, h8, h9, h10, h11, h12, h13, h14, h15, h16, h17]; rfl) | simp [h7, h8, h9, h10, h11, h12, h13, h14, h15, h16, h17])
 intro q
 exact wl false (by first | (simp only [h7, h8, h9, h10, h11, h12, h13, h14, h15, h16, h17]; done) | (simp only [h7, h8, h9, h10, h11, h12, h13, h14, h15, h16, h17]; rfl) | simp [h7, h8, h9, h10, h11, h12, h13, h14, h15, h16, h17])
 intro q
 refine wb [68, 69] (!r5) 6 6 (fun h18 => ?_) (fun h18 => ?_)
 intro q
 exact wl (p0.C_ != 0) (by first | (simp only [h7, h8, h9, h10, h11, h12, h13, h14, h15, h18]; done) | (simp only [h7, h8, h9, h10, h11, h12, h13, h14, h15, h18]; rfl) | simp [h7, h8, h9, h10, h11, h12, h13, h14, h15, h18])
 intro q
 exact wl false (by first | (simp only [h7, h8, h9, h10, h11, h12, h13, h14, h15, h18]; done) | (simp only [h7, h8, h9, h10, h11, h12, h13, h14, h15, h18]; rfl) | simp [h7, h8, h9, h10, h11, h12, h13, h14, h15, h18])
 intro q
 refine wb [59, 60] (!r4) 6 9 (fun h19 => ?_) (fun h19 => ?_)
 intro q
 refine wb [63, 64, 65, 66] (p0.B_ != 0) 9 3 (fun h20 => ?_) (fun h20 => ?_)
 intro q
 exact wl true (by first | (simp only [h7, h8, h9, h10, h11, h12, h13, h19, h20]; done) | (simp only [h7, h8, h9, h10, h11, h12, h13, h19, h20]; rfl) | simp [h7, h8, h9, h10, h11, h12, h13, h19, h20])
 intro q
 refine wb [68, 69] (!r5) 6 6 (fun h21 => ?_) (fun h21 => ?_)
 intro q
 exact wl (p0.C_ != 0) (by first | (simp only [h7, h8, h9, h10, h11, h12, h13, h19, h20, h21]; done) | (simp only [h7, h8, h9, h10, h11, h12, h13, h19, h20, h21]; rfl) | simp [h7, h8, h9, h10, h11, h12, h13, h19, h20, h21])
 intro q
 exact wl false (by first | (simp only [h7, h8, h9, h10, h11, h12, h13, h19, h20, h21]; done) | (simp only [h7, h8, h9, h10, h11, h12, h13, h19, h20, h21]; rfl) | simp [h7, h8, h9, h10, h11, h12, h13, h19, h20, h21])
 intro q
 refine wb [68, 69] (!r5) 6 6 (fun h22 => ?_) (fun h22 => ?_)
 intro q
 exact wl (p0.C_ != 0) (by first | (simp only [h7, h8, h9, h10, h11, h12, h13, h19, h22]; done) | (simp only [h7, h8, h9, h10, h11, h12, h13, h19, h22]; rfl) | simp [h7, h8, h9, h10, h11, h12, h13, h19, h22])
 intro q
 exact wl false (by first | (simp only [h7, h8, h9, h10, h11, h12, h13, h19, h22]; done) | (simp only [h7, h8, h9, h10, h11, h12, h13, h19, h22]; rfl) | simp [h7, h8, h9, h10, h11, h12, h13, h19, h22])
 intro q
 refine wi 4 18 hF (fun _ hF => ?_) (fun _ hF => ?_)
 intro q
 obtain rfl := some1_inv hF
 exact wrp
 intro q
 refine wj 0 0 (fun x => ut [(76, vb x)] []) (ref02_Check_j1 p0 r1) ra ?_ ?_
 rintro j23 hF q
 refine wj 9 0 (fun x => ut [(7, vi x.1), (8, vi x.2)] [75, 76]) (tup2 (ref02_Check_j2 p0)) ra ?_ ?_
 rintro ⟨j25, j26⟩ hF q
 refine wr 0 (fun x => uf (⟨[(94, vb x)], [], H⟩ : St)) ((decide (p0.Imm_ < j25)) || (decide (p0.Imm_ > j26))) ?_ ?_; intro q
 refine wb [88, 89] (decide (p0.Imm_ < j25)) 6 6 (fun h28 => ?_) (fun h28 => ?_)
 intro q
 exact wl true (by first | (simp only [h28]; done) | (simp only [h28]; rfl) | simp [h28])
 intro q
 exact wl (decide (p0.Imm_ > j26)) (by first | (simp only [h28]; done) | (simp only [h28]; rfl) | simp [h28])
 intro q
 refine wi 4 5 hF (fun _ hF => ?_) (fun _ hF => ?_)
 intro q
 obtain rfl := some1_inv hF
 exact wrp
 intro q
 obtain rfl := some1_inv hF
 exact wrp
 intro hJ27 q
 refine wi 4 6 hF (fun _ hF => ?_) (fun _ hF => ?_)
 intro q
 exact we2 hJ27 (-32768) 32767 hF
 intro q
 refine wj 0 0 (fun x => ut [(79, vb x)] []) (ref02_Check_j3 p0 r1) ra ?_ ?_
 rintro j29 hF q
 refine wi 3 5 hF (fun _ hF => ?_) (fun _ hF => ?_)
 intro q
 exact we2 hJ27 0 65535 hF
 intro q
 refine wi 4 1 hF (fun _ hF => ?_) (fun _ hF => ?_)
 intro q
 exact we2 hJ27 (-8388608) 8388607 hF
 intro q
 exact we2 hJ27 0 0 hF
 intro hJ30 q
 refine wi 1 5 hF (fun _ hF => ?_) (fun _ hF => ?_)
 intro q
 exact we hJ30 (r1 == 2) hF
 intro q
 refine wi 1 4 hF (fun _ hF => ?_) (fun _ hF => ?_)
 intro q
 exact we hJ30 (r1 == 4) hF
 intro q
 exact we hJ30 (r1 == 8) hF
 intro hJ24 q
 refine wi 1 4 hF (fun _ hF => ?_) (fun _ hF => ?_)
 intro q
 exact we hJ24 (r1 == 1) hF
 intro q
 exact we hJ24 (r1 == 3) hF
noncomputable def ref02_Encode  (p0 : T_ref02_Instr) : Option (Int × Int) :=
  bind1 (ref02_Check p0) fun r1 =>
  if (r1 != 0) = true then (some (0, r1))
  else (bind1 (ref02_Shape p0.Op_) fun r3 =>
  if (r3 == 7) = true then (some ((IntKind.wrap .u32 (IntKind.wrap .i64 ((IntKind.wrap .i64 (p0.Op_ * 16777216)) + (Int.tmod (IntKind.wrap .i64 (p0.Imm_ + 16777216)) 16777216)))), 0))
  else (some ((IntKind.wrap .u32 (IntKind.wrap .i64 ((IntKind.wrap .i64 ((IntKind.wrap .i64 ((IntKind.wrap .i64 ((IntKind.wrap .i64 (p0.Op_ * 16777216)) + (IntKind.wrap .i64 (p0.A_ * 1048576)))) + (IntKind.wrap .i64 (p0.B_ * 65536)))) + (Int.tmod (IntKind.wrap .i64 (p0.Imm_ + 65536)) 65536))) + p0.C_))), 0)))
theorem ok_ref02_Encode (H : Heap) {p0 : T_ref02_Instr} {ra : Int} {rb : Int} (hF : ref02_Encode p0 = some (ra, rb)) : evS X 49 [.agg (m0_ref02_Instr p0)] H = some (.tup [.one .top (.int .u32 ra), .one .top (.int .i64 rb)], H) := by
 refine wf Tryd.func49 true 10 ?_; intro q
 obtain ⟨r1, c2, hF⟩ := bind1_inv hF
 refine wc 7 (ok_ref02_Check H c2) ?_; intro q
 refine wi 6 13 hF (fun _ hF => ?_) (fun _ hF => ?_)
 intro q
 obtain ⟨rfl, rfl⟩ := some2_inv hF
 exact wrp
 intro q
 obtain ⟨r3, c4, hF⟩ := bind1_inv hF
 refine wc 2 (ok_ref02_Shape H c4) ?_; intro q
 refine wi 12 24 hF (fun _ hF => ?_) (fun _ hF => ?_)
 intro q
 obtain ⟨rfl, rfl⟩ := some2_inv hF
 exact wrp
 intro q
 obtain ⟨rfl, rfl⟩ := some2_inv hF
 exact wrp
noncomputable def ref02_Decode_j5 (p0 : Int) (j15 : T_ref02_Instr) : Option (T_ref02_Instr × Int) :=
  bind2 (ref02_Encode j15) fun r17 r18 =>
  if ((r18 != 0) || (r17 != p0)) = true then (some ((T_ref02_Instr.mk 0 0 0 0 0), 21))
  else (some (j15, 0))
noncomputable def ref02_Decode_j6 (p0 : Int) (j11 : T_ref02_Instr) (r1 : Int) (j23 : Bool) : Option (T_ref02_Instr × Int) :=
  if j23 = true then (ref02_Decode_j5 p0 (T_ref02_Instr.mk j11.Op_ j11.A_ j11.B_ j11.C_ (IntKind.wrap .i64 (Int.tmod p0 65536))))
  else (if (r1 == 7) = true then (bind1 (ref01_Sext p0 24) fun r25 =>
  ref02_Decode_j5 p0 (T_ref02_Instr.mk j11.Op_ j11.A_ j11.B_ j11.C_ (IntKind.wrap .i64 r25)))
  else (ref02_Decode_j5 p0 j11))
noncomputable def ref02_Decode_j4 (p0 : Int) (j11 : T_ref02_Instr) (r1 : Int) (j13 : Bool) : Option (T_ref02_Instr × Int) :=
  if j13 = true then (bind1 (ref01_Sext p0 16) fun r21 =>
  ref02_Decode_j5 p0 (T_ref02_Instr.mk j11.Op_ j11.A_ j11.B_ j11.C_ (IntKind.wrap .i64 r21)))
  else (if (r1 == 2) = true then (ref02_Decode_j6 p0 j11 r1 (r1 == 2))
  else (if (r1 == 4) = true then (ref02_Decode_j6 p0 j11 r1 (r1 == 4))
  else (ref02_Decode_j6 p0 j11 r1 (r1 == 8))))
noncomputable def ref02_Decode_j3 (r1 : Int) (p0 : Int) (j11 : T_ref02_Instr) : Option (T_ref02_Instr × Int) :=
  if (r1 == 1) = true then (ref02_Decode_j4 p0 j11 r1 (r1 == 1))
  else (ref02_Decode_j4 p0 j11 r1 (r1 == 3))
noncomputable def ref02_Decode_j2 (r5 : Bool) (r1 : Int) (p0 : Int) (j9 : T_ref02_Instr) : Option (T_ref02_Instr × Int) :=
  if r5 = true then (ref02_Decode_j3 r1 p0 (T_ref02_Instr.mk j9.Op_ j9.A_ j9.B_ (IntKind.wrap .i64 (Int.tmod p0 16)) j9.Imm_))
  else (ref02_Decode_j3 r1 p0 j9)
noncomputable def ref02_Decode_j1 (r4 : Bool) (r5 : Bool) (r1 : Int) (p0 : Int) (j7 : T_ref02_Instr) : Option (T_ref02_Instr × Int) :=
  if r4 = true then (ref02_Decode_j2 r5 r1 p0 (T_ref02_Instr.mk j7.Op_ j7.A_ (IntKind.wrap .i64 (Int.tmod (IntKind.wrap .u32 (Int.tdiv p0 65536)) 16)) j7.C_ j7.Imm_))
  else (ref02_Decode_j2 r5 r1 p0 j7)
noncomputable def ref02_Decode  (p0 : Int) : Option (T_ref02_Instr × Int) :=
  bind1 (ref02_Shape (IntKind.wrap .i64 (IntKind.wrap .u32 (Int.tdiv p0 16777216)))) fun r1 =>
  bind3 (ref02_has r1) fun r3 r4 r5 =>
  if r3 = true then (ref02_Decode_j1 r4 r5 r1 p0 (T_ref02_Instr.mk (IntKind.wrap .i64 (IntKind.wrap .u32 (Int.tdiv p0 16777216))) (IntKind.wrap .i64 (Int.tmod (IntKind.wrap .u32 (Int.tdiv p0 1048576)) 16)) 0 0 0))
  else (ref02_Decode_j1 r4 r5 r1 p0 (T_ref02_Instr.mk (IntKind.wrap .i64 (IntKind.wrap .u32 (Int.tdiv p0 16777216))) 0 0 0 0))
theorem ok_ref02_Decode (H : Heap) {p0 : Int} {ra : T_ref02_Instr} {rb : Int} (hF : ref02_Decode p0 = some (ra, rb)) : evS X 30 [.one .top (.int .u32 p0)] H = some (.tup [.agg [(.top, .int .i64 ra.Op_), (.top, .int .i64 ra.A_), (.top, .int .i64 ra.B_), (.top, .int .i64 ra.C_), (.top, .int .i64 ra.Imm_)], .one .top (.int .i64 rb)], H) := by
 refine wf Tryd.func30 true 18 ?_; intro q
 obtain ⟨r1, c2, hF⟩ := bind1_inv hF
 refine wc 5 (ok_ref02_Shape H c2) ?_; intro q
 obtain ⟨r3, r4, r5, c6, hF⟩ := bind3_inv hF
 refine wc 13 (ok_ref02_has H c6) ?_; intro q
 refine wj 5 0 (fun x => up [] [24] [(4, (m0_ref02_Instr x))] []) (ref02_Decode_j1 r4 r5 r1 p0) (ra, rb) ?_ ?_
 rintro j7 hF q
 refine wj 5 0 (fun x => up [] [30] [(4, (m0_ref02_Instr x))] []) (ref02_Decode_j2 r5 r1 p0) (ra, rb) ?_ ?_
 rintro j9 hF q
 refine wj 12 0 (fun x => up [] [36] [(4, (m0_ref02_Instr x))] []) (ref02_Decode_j3 r1 p0) (ra, rb) ?_ ?_
 rintro j11 hF q
 refine wj 0 0 (fun x => ut [(42, vb x)] []) (ref02_Decode_j4 p0 j11 r1) (ra, rb) ?_ ?_
 rintro j13 hF q
 refine wj 4 0 (fun x => up [] [41, 42] [(4, (m0_ref02_Instr x))] []) (ref02_Decode_j5 p0) (ra, rb) ?_ ?_
 rintro j15 hF q
 obtain ⟨r17, r18, c19, hF⟩ := bind2_inv hF
 refine wc 12 (ok_ref02_Encode H c19) ?_; intro q
 refine wr 0 (fun x => ut [(74, vb x)] [0, 9, 10, 68, 69, 70]) ((r18 != 0) || (r17 != p0)) ?_ ?_; intro q
 refine wb [69, 70] (r18 != 0) 5 5 (fun h20 => ?_) (fun h20 => ?_)
 intro q
 exact wl true (by first | (simp only [h20]; done) | (simp only [h20]; rfl) | simp [h20])
 intro q
 exact wl (r17 != p0) (by first | (simp only [h20]; done) | (simp only [h20]; rfl) | simp [h20])
 intro q
 refine wi 6 7 hF (fun _ hF => ?_) (fun _ hF => ?_)
 intro q
 obtain ⟨rfl, rfl⟩ := some2_inv hF
 exact wrp
 intro q
 obtain ⟨rfl, rfl⟩ := some2_inv hF
 exact wrp
 intro hJ16 q
 refine wi 2 6 hF (fun _ hF => ?_) (fun _ hF => ?_)
 intro q
 obtain ⟨r21, c22, hF⟩ := bind1_inv hF
 refine wc 4 (ok_ref01_Sext H c22) ?_; intro q
 exact we hJ16 (T_ref02_Instr.mk j11.Op_ j11.A_ j11.B_ j11.C_ (IntKind.wrap .i64 r21)) hF
 intro q
 refine wj 0 0 (fun x => ut [(49, vb x)] []) (ref02_Decode_j6 p0 j11 r1) (ra, rb) ?_ ?_
 rintro j23 hF q
 refine wi 7 5 hF (fun _ hF => ?_) (fun _ hF => ?_)
 intro q
 exact we hJ16 (T_ref02_Instr.mk j11.Op_ j11.A_ j11.B_ j11.C_ (IntKind.wrap .i64 (Int.tmod p0 65536))) hF
 intro q
 refine wi 2 1 hF (fun _ hF => ?_) (fun _ hF => ?_)
 intro q
 obtain ⟨r25, c26, hF⟩ := bind1_inv hF
 refine wc 4 (ok_ref01_Sext H c26) ?_; intro q
 exact we hJ16 (T_ref02_Instr.mk j11.Op_ j11.A_ j11.B_ j11.C_ (IntKind.wrap .i64 r25)) hF
 intro q
 exact we hJ16 j11 hF
 intro hJ24 q
 refine wi 1 5 hF (fun _ hF => ?_) (fun _ hF => ?_)
 intro q
 exact we hJ24 (r1 == 2) hF
 intro q
 refine wi 1 4 hF (fun _ hF => ?_) (fun _ hF => ?_)
 intro q
 exact we hJ24 (r1 == 4) hF
 intro q
 exact we hJ24 (r1 == 8) hF
 intro hJ14 q
 refine wi 1 4 hF (fun _ hF => ?_) (fun _ hF => ?_)
 intro q
 exact we hJ14 (r1 == 1) hF
 intro q
 exact we hJ14 (r1 == 3) hF
 intro hJ12 q
 refine wi 7 1 hF (fun _ hF => ?_) (fun _ hF => ?_)
 intro q
 exact we hJ12 (T_ref02_Instr.mk j9.Op_ j9.A_ j9.B_ (IntKind.wrap .i64 (Int.tmod p0 16)) j9.Imm_) hF
 intro q
 exact we hJ12 j9 hF
 intro hJ10 q
 refine wi 8 1 hF (fun _ hF => ?_) (fun _ hF => ?_)
 intro q
 exact we hJ10 (T_ref02_Instr.mk j7.Op_ j7.A_ (IntKind.wrap .i64 (Int.tmod (IntKind.wrap .u32 (Int.tdiv p0 65536)) 16)) j7.C_ j7.Imm_) hF
 intro q
 exact we hJ10 j7 hF
 intro hJ8 q
 refine wi 8 1 hF (fun _ hF => ?_) (fun _ hF => ?_)
 intro q
 exact we hJ8 (T_ref02_Instr.mk (IntKind.wrap .i64 (IntKind.wrap .u32 (Int.tdiv p0 16777216))) (IntKind.wrap .i64 (Int.tmod (IntKind.wrap .u32 (Int.tdiv p0 1048576)) 16)) 0 0 0) hF
 intro q
 exact we hJ8 (T_ref02_Instr.mk (IntKind.wrap .i64 (IntKind.wrap .u32 (Int.tdiv p0 16777216))) 0 0 0 0) hF
noncomputable def ref02_Name  (p0 : Int) : Option (ByteArray) :=
  if ((decide (p0 < 1)) || (decide (p0 > 34))) = true then (some ByteArray.empty)
  else (bind1 (gi ([(ByteArray.mk #[72, 65, 76, 84]), (ByteArray.mk #[76, 68, 73]), (ByteArray.mk #[76, 85, 73]), (ByteArray.mk #[79, 82, 73]), (ByteArray.mk #[65, 68, 68, 73]), (ByteArray.mk #[65, 68, 68]), (ByteArray.mk #[83, 85, 66]), (ByteArray.mk #[77, 85, 76]), (ByteArray.mk #[68, 73, 86]), (ByteArray.mk #[77, 79, 68]), (ByteArray.mk #[65, 78, 68]), (ByteArray.mk #[79, 82]), (ByteArray.mk #[88, 79, 82]), (ByteArray.mk #[83, 76, 84]), (ByteArray.mk #[83, 76, 69]), (ByteArray.mk #[83, 69, 81]), (ByteArray.mk #[83, 78, 69]), (ByteArray.mk #[76, 68, 87]), (ByteArray.mk #[83, 84, 87]), (ByteArray.mk #[66, 90]), (ByteArray.mk #[66, 78, 90]), (ByteArray.mk #[66, 82]), (ByteArray.mk #[67, 65, 76, 76]), (ByteArray.mk #[74, 82]), (ByteArray.mk #[67, 65, 76, 76, 82]), (ByteArray.mk #[67, 72, 75]), (ByteArray.mk #[78, 73, 76]), (ByteArray.mk #[84, 82, 65, 80]), (ByteArray.mk #[82, 65, 73, 83, 69]), (ByteArray.mk #[79, 85, 84]), (ByteArray.mk #[73, 78]), (ByteArray.mk #[67, 72, 75, 83]), (ByteArray.mk #[82, 84, 67]), (ByteArray.mk #[88, 79, 82, 73])] : List ByteArray) (IntKind.wrap .i64 (p0 - 1))) fun x2 =>
  some x2)
theorem ok_ref02_Name (H : Heap) {p0 : Int} {ra : ByteArray} (hF : ref02_Name p0 = some ra) : evS X 61 [.one .top (.int .i64 p0)] H = some (.one .top (.str ra), H) := by
 refine wf Tryd.func61 true 15 ?_; intro q
 refine wr 0 (fun x => ut [(10, vb x)] [5, 6, 7]) ((decide (p0 < 1)) || (decide (p0 > 34))) ?_ ?_; intro q
 refine wb [6, 7] (decide (p0 < 1)) 4 4 (fun h1 => ?_) (fun h1 => ?_)
 intro q
 exact wl true (by first | (simp only [h1]; done) | (simp only [h1]; rfl) | simp [h1])
 intro q
 exact wl (decide (p0 > 34)) (by first | (simp only [h1]; done) | (simp only [h1]; rfl) | simp [h1])
 intro q
 refine wi 4 6 hF (fun _ hF => ?_) (fun _ hF => ?_)
 intro q
 obtain rfl := some1_inv hF
 exact wrp
 intro q
 obtain ⟨x2, h3, hF⟩ := bind1_inv hF
 refine wix 3 h3 eS ?_; intro q
 obtain rfl := some1_inv hF
 exact wrp
noncomputable def ref01_Text_j2 (a1 : ByteArray) (a2 : Int) (j3 : Int) : Option ((ByteArray × Int) ⊕ ((ByteArray))) :=
  bind1 (sCat (sOf ([(IntKind.wrap .u8 (IntKind.wrap .i64 (48 + j3)))] : List Int)) a1) fun s5 =>
  if ((IntKind.wrap .i64 (Int.tdiv a2 10)) == 0) = true then (some (Sum.inr s5))
  else (some (Sum.inl (s5, (IntKind.wrap .i64 (Int.tdiv a2 10)))))
noncomputable def ref01_Text_L1 (a1 : ByteArray) (a2 : Int) : Option ((ByteArray × Int) ⊕ ((ByteArray))) :=
  if (decide ((Int.tmod a2 10) < 0)) = true then (ref01_Text_j2 a1 a2 (IntKind.wrap .i64 (0 - (Int.tmod a2 10))))
  else (ref01_Text_j2 a1 a2 (Int.tmod a2 10))
noncomputable def ref01_Text  (p0 : Int) : Option (ByteArray) :=
  bind1 (loopO (fun (x : (ByteArray × Int)) => ref01_Text_L1 x.1 x.2) (ByteArray.empty, p0)) (fun b8 =>
  if (decide (p0 < 0)) = true then (bind1 (sCat (ByteArray.mk #[45]) b8) fun s9 =>
  some s9)
  else (some b8))
theorem ok_ref01_Text (H : Heap) {p0 : Int} {ra : ByteArray} (hF : ref01_Text p0 = some ra) : evS X 48 [.one .top (.int .i64 p0)] H = some (.one .top (.str ra), H) := by
 refine wf Tryd.func48 true 15 ?_; intro q
 obtain ⟨b8, hL7, hF⟩ := bind1_inv hF
 refine wL (fun (x : (ByteArray × Int)) => ut [(3, .one .top (.str x.1)), (4, vi x.2)] []) (fun (y : (ByteArray)) => wz (.exit 0) (ut [(3, .one .top (.str y))] [4])) hL7 ?_ ?_
 rintro ⟨a1, a2⟩ o hF q
 refine go 13 ?_; intro q
 refine wj 6 0 (fun x => ut [(5, vi x)] [10]) (ref01_Text_j2 a1 a2) o ?_ ?_
 rintro j3 hF q
 refine wstr 1 ([(IntKind.wrap .u8 (IntKind.wrap .i64 (48 + j3)))] : List Int) ?_; intro q
 obtain ⟨s5, h6, hF⟩ := bind1_inv hF
 refine wcat 13 h6 ?_; intro q
 refine wi 0 2 hF (fun _ hF => ?_) (fun _ hF => ?_)
 intro q
 exact wlx _ hF
 intro q
 exact wln _ hF
 intro hJ4 q
 refine wi 5 1 hF (fun _ hF => ?_) (fun _ hF => ?_)
 intro q
 exact we hJ4 (IntKind.wrap .i64 (0 - (Int.tmod a2 10))) hF
 intro q
 exact we hJ4 (Int.tmod a2 10) hF
 intro q
 refine go 7 ?_; intro q
 refine wi 3 6 hF (fun _ hF => ?_) (fun _ hF => ?_)
 intro q
 obtain ⟨s9, h10, hF⟩ := bind1_inv hF
 refine wcat 2 h10 ?_; intro q
 obtain rfl := some1_inv hF
 exact wrp
 intro q
 obtain rfl := some1_inv hF
 exact wrp
noncomputable def ref02_Fields_j4 (j17 : (List ByteArray)) : Option ((List ByteArray)) :=
  some j17
noncomputable def ref02_Fields_j3 (p0 : T_ref02_Instr) (j11 : (List ByteArray)) : Option ((List ByteArray)) :=
  bind1 (ref02_Shape p0.Op_) fun r13 =>
  if ((r13 != 0) && ((r13 != 5) && (r13 != 6))) = true then (bind1 (ref01_Text p0.Imm_) fun r19 =>
  bind1 (app 16 j11 ([r19] : List ByteArray)) fun v21 =>
  ref02_Fields_j4 v21)
  else (ref02_Fields_j4 j11)
noncomputable def ref02_Fields_j2 (r5 : Bool) (p0 : T_ref02_Instr) (j9 : (List ByteArray)) : Option ((List ByteArray)) :=
  if r5 = true then (bind1 (ref01_Text p0.C_) fun r23 =>
  bind1 (sCat (ByteArray.mk #[114]) r23) fun s25 =>
  bind1 (app 16 j9 ([s25] : List ByteArray)) fun v27 =>
  ref02_Fields_j3 p0 v27)
  else (ref02_Fields_j3 p0 j9)
noncomputable def ref02_Fields_j5 (j7 : (List ByteArray)) (r5 : Bool) (p0 : T_ref02_Instr) (j33 : ByteArray) : Option ((List ByteArray)) :=
  bind1 (app 16 j7 ([j33] : List ByteArray)) fun v35 =>
  ref02_Fields_j2 r5 p0 v35
noncomputable def ref02_Fields_j1 (r4 : Bool) (p0 : T_ref02_Instr) (r5 : Bool) (j7 : (List ByteArray)) : Option ((List ByteArray)) :=
  if r4 = true then (bind1 (ref01_Text p0.B_) fun r29 =>
  bind1 (sCat (ByteArray.mk #[114]) r29) fun s31 =>
  if (p0.Op_ == 26) = true then (bind1 (ref01_Text p0.B_) fun r37 =>
  ref02_Fields_j5 j7 r5 p0 r37)
  else (ref02_Fields_j5 j7 r5 p0 s31))
  else (ref02_Fields_j2 r5 p0 j7)
noncomputable def ref02_Fields  (p0 : T_ref02_Instr) : Option ((List ByteArray)) :=
  bind1 (ref02_Shape p0.Op_) fun r1 =>
  bind3 (ref02_has r1) fun r3 r4 r5 =>
  if r3 = true then (bind1 (ref01_Text p0.A_) fun r39 =>
  bind1 (sCat (ByteArray.mk #[114]) r39) fun s41 =>
  bind1 (app 16 ([] : List ByteArray) ([s41] : List ByteArray)) fun v43 =>
  ref02_Fields_j1 r4 p0 r5 v43)
  else (ref02_Fields_j1 r4 p0 r5 ([] : List ByteArray))
theorem ok_ref02_Fields (H : Heap) {p0 : T_ref02_Instr} {ra : (List ByteArray)} (hF : ref02_Fields p0 = some ra) : evS X 62 [.agg (m0_ref02_Instr p0)] H = some (.one (.own 0) (.sl 1 (List.map eS ra)), H) := by
 refine wf Tryd.func62 true 9 ?_; intro q
 obtain ⟨r1, c2, hF⟩ := bind1_inv hF
 refine wc 0 (ok_ref02_Shape H c2) ?_; intro q
 obtain ⟨r3, r4, r5, c6, hF⟩ := bind3_inv hF
 refine wc 17 (ok_ref02_has H c6) ?_; intro q
 refine wj 5 0 (fun x => ut [(6, .one (.own 1) (.sl 1 (List.map eS x)))] [17]) (ref02_Fields_j1 r4 p0 r5) ra ?_ ?_
 rintro j7 hF q
 refine wj 5 0 (fun x => ut [(6, .one (.own 1) (.sl 1 (List.map eS x)))] [25]) (ref02_Fields_j2 r5 p0) ra ?_ ?_
 rintro j9 hF q
 refine wj 4 0 (fun x => ut [(6, .one (.own 1) (.sl 1 (List.map eS x)))] [40]) (ref02_Fields_j3 p0) ra ?_ ?_
 rintro j11 hF q
 obtain ⟨r13, c14, hF⟩ := bind1_inv hF
 refine wc 8 (ok_ref02_Shape H c14) ?_; intro q
 refine wr 0 (fun x => ut [(60, vb x)] [8, 51, 52, 53]) ((r13 != 0) && ((r13 != 5) && (r13 != 6))) ?_ ?_; intro q
 refine wb [52, 53] (r13 != 0) 4 8 (fun h15 => ?_) (fun h15 => ?_)
 intro q
 refine wb [55, 56, 57] (r13 != 5) 4 4 (fun h16 => ?_) (fun h16 => ?_)
 intro q
 exact wl (r13 != 6) (by first | (simp only [h15, h16]; done) | (simp only [h15, h16]; rfl) | simp [h15, h16])
 intro q
 exact wl false (by first | (simp only [h15, h16]; done) | (simp only [h15, h16]; rfl) | simp [h15, h16])
 intro q
 exact wl false (by first | (simp only [h15]; done) | (simp only [h15]; rfl) | simp [h15])
 intro q
 refine wj 5 0 (fun x => up [(6, .one (.own 1) (.sl 1 (List.map eS x)))] [1, 60] [] [1]) ref02_Fields_j4 ra ?_ ?_
 rintro j17 hF q
 obtain rfl := some1_inv hF
 exact wrp
 intro hJ18 q
 refine wi 4 1 hF (fun _ hF => ?_) (fun _ hF => ?_)
 intro q
 obtain ⟨r19, c20, hF⟩ := bind1_inv hF
 refine wc 1 (ok_ref01_Text H c20) ?_; intro q
 obtain ⟨v21, h22, hF⟩ := bind1_inv hF
 refine wap 2 h22 eS ?_; intro q
 exact we hJ18 v21 hF
 intro q
 exact we hJ18 j11 hF
 intro hJ12 q
 refine wi 4 1 hF (fun _ hF => ?_) (fun _ hF => ?_)
 intro q
 obtain ⟨r23, c24, hF⟩ := bind1_inv hF
 refine wc 0 (ok_ref01_Text H c24) ?_; intro q
 obtain ⟨s25, h26, hF⟩ := bind1_inv hF
 refine wcat 1 h26 ?_; intro q
 obtain ⟨v27, h28, hF⟩ := bind1_inv hF
 refine wap 2 h28 eS ?_; intro q
 exact we hJ12 v27 hF
 intro q
 exact we hJ12 j9 hF
 intro hJ10 q
 refine wi 4 1 hF (fun _ hF => ?_) (fun _ hF => ?_)
 intro q
 obtain ⟨r29, c30, hF⟩ := bind1_inv hF
 refine wc 0 (ok_ref01_Text H c30) ?_; intro q
 obtain ⟨s31, h32, hF⟩ := bind1_inv hF
 refine wcat 9 h32 ?_; intro q
 refine wj 4 0 (fun x => ut [(7, .one .top (.str x))] [32]) (ref02_Fields_j5 j7 r5 p0) ra ?_ ?_
 rintro j33 hF q
 obtain ⟨v35, h36, hF⟩ := bind1_inv hF
 refine wap 2 h36 eS ?_; intro q
 exact we hJ10 v35 hF
 intro hJ34 q
 refine wi 3 1 hF (fun _ hF => ?_) (fun _ hF => ?_)
 intro q
 obtain ⟨r37, c38, hF⟩ := bind1_inv hF
 refine wc 2 (ok_ref01_Text H c38) ?_; intro q
 exact we hJ34 r37 hF
 intro q
 exact we hJ34 s31 hF
 intro q
 exact we hJ10 j7 hF
 intro hJ8 q
 refine wi 4 1 hF (fun _ hF => ?_) (fun _ hF => ?_)
 intro q
 obtain ⟨r39, c40, hF⟩ := bind1_inv hF
 refine wc 0 (ok_ref01_Text H c40) ?_; intro q
 obtain ⟨s41, h42, hF⟩ := bind1_inv hF
 refine wcat 1 h42 ?_; intro q
 obtain ⟨v43, h44, hF⟩ := bind1_inv hF
 refine wap 2 h44 eS ?_; intro q
 exact we hJ8 v43 hF
 intro q
 exact we hJ8 ([] : List ByteArray) hF
noncomputable def ref02_Text_j2 (r5 : (List ByteArray)) (a8 : Int) (j9 : ByteArray) : Option ((ByteArray × Int) ⊕ ((ByteArray))) :=
  bind1 (sCat j9 (ByteArray.mk #[32])) fun s11 =>
  bind1 (gi r5 a8) fun x13 =>
  bind1 (sCat s11 x13) fun s15 =>
  some (Sum.inl (s15, (IntKind.wrap .i64 (a8 + 1))))
noncomputable def ref02_Text_L1 (r5 : (List ByteArray)) (a7 : ByteArray) (a8 : Int) : Option ((ByteArray × Int) ⊕ ((ByteArray))) :=
  if (decide (a8 < (r5.length : Int))) = true then (if (decide (a8 > 0)) = true then (bind1 (sCat a7 (ByteArray.mk #[44])) fun s17 =>
  ref02_Text_j2 r5 a8 s17)
  else (ref02_Text_j2 r5 a8 a7))
  else (some (Sum.inr a7))
noncomputable def ref02_Text  (p0 : T_ref02_Instr) : Option (ByteArray × Int) :=
  bind1 (ref02_Check p0) fun r1 =>
  if (r1 != 0) = true then (some (ByteArray.empty, r1))
  else (bind1 (ref02_Name p0.Op_) fun r3 =>
  bind1 (ref02_Fields p0) fun r5 =>
  bind1 (loopO (fun (x : (ByteArray × Int)) => ref02_Text_L1 r5 x.1 x.2) (r3, 0)) (fun b20 =>
  some (b20, 0)))
theorem ok_ref02_Text (H : Heap) {p0 : T_ref02_Instr} {ra : ByteArray} {rb : Int} (hF : ref02_Text p0 = some (ra, rb)) : evS X 31 [.agg (m0_ref02_Instr p0)] H = some (.tup [.one .top (.str ra), .one .top (.int .i64 rb)], H) := by
 refine wf Tryd.func31 true 10 ?_; intro q
 obtain ⟨r1, c2, hF⟩ := bind1_inv hF
 refine wc 7 (ok_ref02_Check H c2) ?_; intro q
 refine wi 6 5 hF (fun _ hF => ?_) (fun _ hF => ?_)
 intro q
 obtain ⟨rfl, rfl⟩ := some2_inv hF
 exact wrp
 intro q
 obtain ⟨r3, c4, hF⟩ := bind1_inv hF
 refine wc 5 (ok_ref02_Name H c4) ?_; intro q
 obtain ⟨r5, c6, hF⟩ := bind1_inv hF
 refine wc 8 (ok_ref02_Fields H c6) ?_; intro q
 obtain ⟨b20, hL19, hF⟩ := bind1_inv hF
 refine wL (fun (x : (ByteArray × Int)) => ut [(5, .one .top (.str x.1)), (7, vi x.2)] []) (fun (y : (ByteArray)) => wz (.exit 0) (ut [(5, .one .top (.str y))] [6, 7])) hL19 ?_ ?_
 rintro ⟨a7, a8⟩ o hF q
 refine go 5 ?_; intro q
 refine wle 2 r5 eS ?_; intro q
 refine wi 9 0 hF (fun _ hF => ?_) (fun _ hF => ?_)
 intro q
 refine wj 2 0 (fun x => ut [(5, .one .top (.str x))] [25]) (ref02_Text_j2 r5 a8) o ?_ ?_
 rintro j9 hF q
 obtain ⟨s11, h12, hF⟩ := bind1_inv hF
 refine wcat 2 h12 ?_; intro q
 obtain ⟨x13, h14, hF⟩ := bind1_inv hF
 refine wix 1 h14 eS ?_; intro q
 obtain ⟨s15, h16, hF⟩ := bind1_inv hF
 refine wcat 8 h16 ?_; intro q
 exact wln _ hF
 intro hJ10 q
 refine wi 2 1 hF (fun _ hF => ?_) (fun _ hF => ?_)
 intro q
 obtain ⟨s17, h18, hF⟩ := bind1_inv hF
 refine wcat 2 h18 ?_; intro q
 exact we hJ10 s17 hF
 intro q
 exact we hJ10 a7 hF
 intro q
 exact wlx _ hF
 intro q
 refine go 7 ?_; intro q
 obtain ⟨rfl, rfl⟩ := some2_inv hF
 exact wrp
noncomputable def ref01_Hex_L1 (a1 : Int) (a2 : ByteArray) (a3 : Int) : Option ((Int × ByteArray × Int) ⊕ ((ByteArray))) :=
  if (decide (a3 < 8)) = true then (bind1 (sCut (ByteArray.mk #[48, 49, 50, 51, 52, 53, 54, 55, 56, 57, 97, 98, 99, 100, 101, 102]) (Int.tmod a1 16) (IntKind.wrap .u32 ((Int.tmod a1 16) + 1))) fun s4 =>
  bind1 (sCat s4 a2) fun s6 =>
  some (Sum.inl ((IntKind.wrap .u32 (Int.tdiv a1 16)), s6, (IntKind.wrap .i64 (a3 + 1)))))
  else (some (Sum.inr a2))
noncomputable def ref01_Hex  (p0 : Int) : Option (ByteArray) :=
  bind1 (loopO (fun (x : (Int × ByteArray × Int)) => ref01_Hex_L1 x.1 x.2.1 x.2.2) (p0, ByteArray.empty, 0)) (fun b9 =>
  some b9)
theorem ok_ref01_Hex (H : Heap) {p0 : Int} {ra : ByteArray} (hF : ref01_Hex p0 = some ra) : evS X 32 [.one .top (.int .u32 p0)] H = some (.one .top (.str ra), H) := by
 refine wf Tryd.func32 true 14 ?_; intro q
 obtain ⟨b9, hL8, hF⟩ := bind1_inv hF
 refine wL (fun (x : (Int × ByteArray × Int)) => ut [(0, vu x.1), (3, .one .top (.str x.2.1)), (4, vi x.2.2)] []) (fun (y : (ByteArray)) => wz (.exit 0) (ut [(3, .one .top (.str y))] [0, 4])) hL8 ?_ ?_
 rintro ⟨a1, a2, a3⟩ o hF q
 refine go 6 ?_; intro q
 refine wi 10 0 hF (fun _ hF => ?_) (fun _ hF => ?_)
 intro q
 obtain ⟨s4, h5, hF⟩ := bind1_inv hF
 refine wsc 1 h5 ?_; intro q
 obtain ⟨s6, h7, hF⟩ := bind1_inv hF
 refine wcat 13 h7 ?_; intro q
 exact wln _ hF
 intro q
 exact wlx _ hF
 intro q
 refine go 6 ?_; intro q
 obtain rfl := some1_inv hF
 exact wrp
noncomputable def ref05_Source_j2 (a2 : Int) (j8 : ByteArray) : Option ((ByteArray × Int) ⊕ ((ByteArray))) :=
  some (Sum.inl (j8, (IntKind.wrap .i64 (a2 + 1))))
noncomputable def ref05_Source_L1 (p0 : (List Int)) (a1 : ByteArray) (a2 : Int) : Option ((ByteArray × Int) ⊕ ((ByteArray))) :=
  if (decide (a2 < (p0.length : Int))) = true then (bind1 (gi p0 a2) fun x3 =>
  bind2 (ref02_Decode x3) fun r5 r6 =>
  if (r6 == 0) = true then (bind2 (ref02_Text r5) fun r10 r11 =>
  bind1 (sCat a1 r10) fun s13 =>
  bind1 (sCat s13 (ByteArray.mk #[10])) fun s15 =>
  ref05_Source_j2 a2 s15)
  else (bind1 (sCat a1 (ByteArray.mk #[87, 79, 82, 68, 32])) fun s17 =>
  bind1 (gi p0 a2) fun x19 =>
  bind1 (ref01_Hex x19) fun r21 =>
  bind1 (sCat s17 r21) fun s23 =>
  bind1 (sCat s23 (ByteArray.mk #[10])) fun s25 =>
  ref05_Source_j2 a2 s25))
  else (some (Sum.inr a1))
noncomputable def ref05_Source  (p0 : (List Int)) : Option (ByteArray) :=
  bind1 (loopO (fun (x : (ByteArray × Int)) => ref05_Source_L1 p0 x.1 x.2) (ByteArray.empty, 0)) (fun b28 =>
  some b28)
theorem ok_ref05_Source (H : Heap) {p0 : (List Int)} {ra : ByteArray} (hF : ref05_Source p0 = some ra) : evS X 18 [.one .ro (.sl 1 (List.map (eI .u32) p0))] H = some (.one .top (.str ra), H) := by
 refine wf Tryd.func18 true 14 ?_; intro q
 obtain ⟨b28, hL27, hF⟩ := bind1_inv hF
 refine wL (fun (x : (ByteArray × Int)) => ut [(3, .one .top (.str x.1)), (4, vi x.2)] []) (fun (y : (ByteArray)) => wz (.exit 0) (ut [(3, .one .top (.str y))] [0, 4])) hL27 ?_ ?_
 rintro ⟨a1, a2⟩ o hF q
 refine go 5 ?_; intro q
 refine wle 2 p0 (eI .u32) ?_; intro q
 refine wi 7 0 hF (fun _ hF => ?_) (fun _ hF => ?_)
 intro q
 obtain ⟨x3, h4, hF⟩ := bind1_inv hF
 refine wix 1 h4 (eI .u32) ?_; intro q
 obtain ⟨r5, r6, c7, hF⟩ := bind2_inv hF
 refine wc 12 (ok_ref02_Decode H c7) ?_; intro q
 refine wj 6 0 (fun x => up [(3, .one .top (.str x))] [5, 24] [] [5]) (ref05_Source_j2 a2) o ?_ ?_
 rintro j8 hF q
 exact wln _ hF
 intro hJ9 q
 refine wi 3 2 hF (fun _ hF => ?_) (fun _ hF => ?_)
 intro q
 obtain ⟨r10, r11, c12, hF⟩ := bind2_inv hF
 refine wc 9 (ok_ref02_Text H c12) ?_; intro q
 obtain ⟨s13, h14, hF⟩ := bind1_inv hF
 refine wcat 0 h14 ?_; intro q
 obtain ⟨s15, h16, hF⟩ := bind1_inv hF
 refine wcat 2 h16 ?_; intro q
 exact we hJ9 s15 hF
 intro q
 obtain ⟨s17, h18, hF⟩ := bind1_inv hF
 refine wcat 2 h18 ?_; intro q
 obtain ⟨x19, h20, hF⟩ := bind1_inv hF
 refine wix 1 h20 (eI .u32) ?_; intro q
 obtain ⟨r21, c22, hF⟩ := bind1_inv hF
 refine wc 0 (ok_ref01_Hex H c22) ?_; intro q
 obtain ⟨s23, h24, hF⟩ := bind1_inv hF
 refine wcat 0 h24 ?_; intro q
 obtain ⟨s25, h26, hF⟩ := bind1_inv hF
 refine wcat 2 h26 ?_; intro q
 exact we hJ9 s25 hF
 intro q
 exact wlx _ hF
 intro q
 refine go 6 ?_; intro q
 obtain rfl := some1_inv hF
 exact wrp
noncomputable def ref01_Words_L1 (p0 : (List Int)) (p1 : (List Int)) (a1 : Int) : Option ((Int) ⊕ (Unit ⊕ Unit)) :=
  if (decide (a1 < (p0.length : Int))) = true then (bind1 (gi p0 a1) fun x2 =>
  bind1 (gi p1 a1) fun x4 =>
  if (x2 != x4) = true then (some (Sum.inr (Sum.inr ())))
  else (some (Sum.inl (IntKind.wrap .i64 (a1 + 1)))))
  else (some (Sum.inr (Sum.inl ())))
noncomputable def ref01_Words  (p0 : (List Int)) (p1 : (List Int)) : Option (Bool) :=
  if ((p0.length : Int) != (p1.length : Int)) = true then (some false)
  else (bind1 (loopO (fun (x : (Int)) => ref01_Words_L1 p0 p1 x) 0) (sum2 (fun (_ : Unit) =>
  some true) (fun (_ : Unit) =>
  some false)))
theorem ok_ref01_Words (H : Heap) {p0 : (List Int)} {p1 : (List Int)} {ra : Bool} (hF : ref01_Words p0 p1 = some ra) : evS X 11 [.one .ro (.sl 1 (List.map (eI .u32) p0)), .one .ro (.sl 1 (List.map (eI .u32) p1))] H = some (.one .top (.bool ra), H) := by
 refine wf Tryd.func11 true 8 ?_; intro q
 refine wle 1 p0 (eI .u32) ?_; intro q
 refine wle 2 p1 (eI .u32) ?_; intro q
 refine wi 4 7 hF (fun _ hF => ?_) (fun _ hF => ?_)
 intro q
 obtain rfl := some1_inv hF
 exact wrp
 intro q
 obtain ⟨r7, hL6, hF⟩ := bind1_inv hF
 refine wL (fun (x : (Int)) => ut [(5, vi x)] []) (Sum.elim (fun (y : Unit) => wz (.exit 0) (ut [] [0, 1, 5])) (fun (y : Unit) => wz (.ret) (ut [(4, vF)] [0, 1, 5]))) hL6 ?_ ?_
 rintro a1 o hF q
 refine go 5 ?_; intro q
 refine wle 2 p0 (eI .u32) ?_; intro q
 refine wi 7 0 hF (fun _ hF => ?_) (fun _ hF => ?_)
 intro q
 obtain ⟨x2, h3, hF⟩ := bind1_inv hF
 refine wix 3 h3 (eI .u32) ?_; intro q
 obtain ⟨x4, h5, hF⟩ := bind1_inv hF
 refine wix 3 h5 (eI .u32) ?_; intro q
 refine wi 4 7 hF (fun _ hF => ?_) (fun _ hF => ?_)
 intro q
 exact wlx _ hF
 intro q
 exact wln _ hF
 intro q
 exact wlx _ hF
 replace hF := sum2_inv hF
 rcases hF with ⟨⟨⟩, rfl, hF⟩ | ⟨⟨⟩, rfl, hF⟩
 intro q
 refine go 5 ?_; intro q
 obtain rfl := some1_inv hF
 exact wrp
 intro q
 obtain rfl := some1_inv hF
 exact wrp
noncomputable def law05_AsmBack  (p0 : (List Int)) : Option (Bool) :=
  bind1 (law05_awake) fun r1 =>
  if (!r1) = true then (some false)
  else (if (decide ((p0.length : Int) > 1000)) = true then (some true)
  else (bind1 (sourceC p0) fun r3 =>
  bind3 (asm_Assemble r3) fun r5 r6 r7 =>
  bind1 (ref05_Source p0) fun r9 =>
  bind1 (if (strEq r3 r9) = true then (if (r7 == 0) = true then (if (r6 == 0) = true then (bind1 (ref01_Words r5.Words_ p0) fun r11 =>
  if r11 = true then (some ((r5.Labels_.length : Int) == 0)) else (some false)) else (some false)) else (some false)) else (some false)) fun w13 =>
  some w13))
theorem ok_law05_AsmBack (H : Heap) {p0 : (List Int)} {ra : Bool} (hF : law05_AsmBack p0 = some ra) : evS X 6 [.one .ro (.sl 1 (List.map (eI .u32) p0))] H = some (.one .top (.bool ra), H) := by
 refine wf Tryd.func6 true 7 ?_; intro q
 obtain ⟨r1, c2, hF⟩ := bind1_inv hF
 refine wc 2 (ok_law05_awake H c2) ?_; intro q
 refine wi 4 5 hF (fun _ hF => ?_) (fun _ hF => ?_)
 intro q
 obtain rfl := some1_inv hF
 exact wrp
 intro q
 refine wle 2 p0 (eI .u32) ?_; intro q
 refine wi 4 4 hF (fun _ hF => ?_) (fun _ hF => ?_)
 intro q
 obtain rfl := some1_inv hF
 exact wrp
 intro q
 obtain ⟨r3, c4, hF⟩ := bind1_inv hF
 refine wc 5 (ok_sourceC (m := .ro) H c4) ?_; intro q
 obtain ⟨r5, r6, r7, c8, hF⟩ := bind3_inv hF
 refine wc 13 (ok_asm_Assemble H c8) ?_; intro q
 obtain ⟨r9, c10, hF⟩ := bind1_inv hF
 refine wc 2 (ok_ref05_Source H c10) ?_; intro q
 obtain ⟨w13, hB14, hF⟩ := bind1_inv hF
 refine wr0 0 (uf (⟨[(2, vb w13)], [], H⟩ : St)) ?_ ?_; intro q
 refine wg [23, 24] 4 21 hB14 (fun _ hB14 => ?_) (fun _ hB14 => ?_)
 intro q
 refine wg [26, 27, 28] 4 17 hB14 (fun _ hB14 => ?_) (fun _ hB14 => ?_)
 intro q
 refine wg [30, 31, 32] 3 13 hB14 (fun _ hB14 => ?_) (fun _ hB14 => ?_)
 intro q
 obtain ⟨r11, c12, hB14⟩ := bind1_inv hB14
 refine wc 2 (ok_ref01_Words H c12) ?_; intro q
 refine wg [36, 37, 38] 2 7 hB14 (fun _ hB14 => ?_) (fun _ hB14 => ?_)
 intro q
 refine wle 4 r5.Labels_ e_asm_Label ?_; intro q
 cases hB14
 exact wl0
 intro q
 cases hB14
 exact wl0
 intro q
 cases hB14
 exact wl0
 intro q
 cases hB14
 exact wl0
 intro q
 cases hB14
 exact wl0
 intro q
 obtain rfl := some1_inv hF
 exact wrp
noncomputable def ref05_Cut_j2 (a3 : Int) (j6 : (List ByteArray)) (j7 : Int) : Option (((List ByteArray) × Int × Int) ⊕ (((List ByteArray) × Int))) :=
  some (Sum.inl (j6, j7, (IntKind.wrap .i64 (a3 + 1))))
noncomputable def ref05_Cut_L1 (p0 : ByteArray) (p1 : Int) (a1 : (List ByteArray)) (a2 : Int) (a3 : Int) : Option (((List ByteArray) × Int × Int) ⊕ (((List ByteArray) × Int))) :=
  if (decide (a3 < (p0.size : Int))) = true then (bind1 (sAt p0 a3) fun v4 =>
  if (v4 == p1) = true then (bind1 (sCut p0 a2 a3) fun s9 =>
  bind1 (app 16 a1 ([s9] : List ByteArray)) fun v11 =>
  ref05_Cut_j2 a3 v11 (IntKind.wrap .i64 (a3 + 1)))
  else (ref05_Cut_j2 a3 a1 a2))
  else (some (Sum.inr (a1, a2)))
noncomputable def ref05_Cut  (p0 : ByteArray) (p1 : Int) : Option ((List ByteArray)) :=
  bind1 (loopO (fun (x : ((List ByteArray) × Int × Int)) => ref05_Cut_L1 p0 p1 x.1 x.2.1 x.2.2) (([] : List ByteArray), 0, 0)) (tup2 fun b14 b15 =>
  bind1 (sCut p0 b15 p0.size) fun s16 =>
  bind1 (app 16 b14 ([s16] : List ByteArray)) fun v18 =>
  some v18)
noncomputable def ref05_Name_L1 (p0 : ByteArray) (a2 : Int) : Option ((Int) ⊕ (Unit ⊕ Unit)) :=
  if (decide (a2 < (p0.size : Int))) = true then (bind1 (sAt p0 a2) fun v3 =>
  if (if (decide (v3 ≥ 97)) = true then ((decide (v3 ≤ 122)) || ((v3 == 95) || ((decide (a2 > 0)) && ((decide (v3 ≥ 48)) && (decide (v3 ≤ 57)))))) else ((v3 == 95) || ((decide (a2 > 0)) && ((decide (v3 ≥ 48)) && (decide (v3 ≤ 57)))))) = true then (some (Sum.inl (IntKind.wrap .i64 (a2 + 1))))
  else (some (Sum.inr (Sum.inr ()))))
  else (some (Sum.inr (Sum.inl ())))
noncomputable def ref05_Name  (p0 : ByteArray) : Option (Bool) :=
  if ((decide ((p0.size : Int) < 1)) || (decide ((p0.size : Int) > 32))) = true then (some false)
  else (bind1 (loopO (fun (x : (Int)) => ref05_Name_L1 p0 x) 0) (sum2 (fun (_ : Unit) =>
  some true) (fun (_ : Unit) =>
  some false)))
noncomputable def ref05_Find_L1 (p0 : (List T_ref05_Label)) (p1 : ByteArray) (a1 : Int) : Option ((Int) ⊕ (Unit ⊕ (Int))) :=
  if (decide (a1 < (p0.length : Int))) = true then (bind1 (gi p0 a1) fun x2 =>
  if (strEq x2.Name_ p1) = true then (bind1 (gi p0 a1) fun x4 =>
  some (Sum.inr (Sum.inr x4.At_)))
  else (some (Sum.inl (IntKind.wrap .i64 (a1 + 1)))))
  else (some (Sum.inr (Sum.inl ())))
noncomputable def ref05_Find  (p0 : (List T_ref05_Label)) (p1 : ByteArray) : Option (Int) :=
  bind1 (loopO (fun (x : (Int)) => ref05_Find_L1 p0 p1 x) 0) (sum2 (fun (_ : Unit) =>
  some (-1)) (fun b7 =>
  some b7))
noncomputable def ref05_split_L1 (p0 : ByteArray) (a1 : Int) : Option ((Int) ⊕ ((Int))) :=
  bind1 (if (decide (a1 < (p0.size : Int))) = true then (bind1 (sAt p0 a1) fun v2 =>
  some (v2 != 32)) else (some false)) fun w4 =>
  if w4 = true then (some (Sum.inl (IntKind.wrap .i64 (a1 + 1))))
  else (some (Sum.inr a1))
noncomputable def ref05_split_j3 (a12 : (List ByteArray)) (a13 : Int) (j16 : ByteArray) : Option (((List ByteArray) × Int) ⊕ (((List ByteArray)) ⊕ Unit)) :=
  bind1 (if ((j16.size : Int) == 0) = true then (some true) else (bind1 (ref05_Cut j16 32) fun r18 =>
  some (decide ((r18.length : Int) > 1)))) fun w20 =>
  if w20 = true then (some (Sum.inr (Sum.inr ())))
  else (bind1 (app 16 a12 ([j16] : List ByteArray)) fun v22 =>
  some (Sum.inl (v22, (IntKind.wrap .i64 (a13 + 1)))))
noncomputable def ref05_split_L2 (r10 : (List ByteArray)) (a12 : (List ByteArray)) (a13 : Int) : Option (((List ByteArray) × Int) ⊕ (((List ByteArray)) ⊕ Unit)) :=
  if (decide (a13 < (r10.length : Int))) = true then (bind1 (gi r10 a13) fun x14 =>
  if (decide (a13 > 0)) = true then (bind1 (if (decide ((x14.size : Int) < 1)) = true then (some true) else (bind1 (sAt x14 0) fun v24 =>
  some (v24 != 32))) fun w26 =>
  if w26 = true then (some (Sum.inr (Sum.inr ())))
  else (bind1 (sCut x14 1 x14.size) fun s28 =>
  ref05_split_j3 a12 a13 s28))
  else (ref05_split_j3 a12 a13 x14))
  else (some (Sum.inr (Sum.inl a12)))
noncomputable def ref05_split  (p0 : ByteArray) : Option (ByteArray × (List ByteArray) × Bool) :=
  bind1 (loopO (fun (x : (Int)) => ref05_split_L1 p0 x) 0) (fun b7 =>
  if (b7 == (p0.size : Int)) = true then (some (p0, ([] : List ByteArray), true))
  else (bind1 (sCut p0 (IntKind.wrap .i64 (b7 + 1)) p0.size) fun s8 =>
  bind1 (ref05_Cut s8 44) fun r10 =>
  bind1 (loopO (fun (x : ((List ByteArray) × Int)) => ref05_split_L2 r10 x.1 x.2) (([] : List ByteArray), 0)) (sum2 (fun b31 =>
  bind1 (sCut p0 0 b7) fun s32 =>
  some (s32, b31, true)) (fun (_ : Unit) =>
  some (ByteArray.empty, ([] : List ByteArray), false)))))
noncomputable def ref01_ParseHex_j3 (a4 : Int) (j9 : Int) : Option ((Int × Int) ⊕ ((Int))) :=
  some (Sum.inl (j9, (IntKind.wrap .i64 (a4 + 1))))
noncomputable def ref01_ParseHex_L2 (p0 : ByteArray) (a2 : Int) (a3 : Int) (a4 : Int) : Option ((Int × Int) ⊕ ((Int))) :=
  if (decide (a4 < 16)) = true then (bind1 (sAt (ByteArray.mk #[48, 49, 50, 51, 52, 53, 54, 55, 56, 57, 97, 98, 99, 100, 101, 102]) a4) fun v5 =>
  bind1 (sAt p0 a2) fun v7 =>
  if (v5 == v7) = true then (ref01_ParseHex_j3 a4 a4)
  else (ref01_ParseHex_j3 a4 a3))
  else (some (Sum.inr a3))
noncomputable def ref01_ParseHex_L1 (p0 : ByteArray) (a1 : Int) (a2 : Int) : Option ((Int × Int) ⊕ ((Int) ⊕ Unit)) :=
  if (decide (a2 < 8)) = true then (bind1 (loopO (fun (x : (Int × Int)) => ref01_ParseHex_L2 p0 a2 x.1 x.2) (-1, 0)) (fun b12 =>
  if (decide (b12 < 0)) = true then (some (Sum.inr (Sum.inr ())))
  else (some (Sum.inl ((IntKind.wrap .u32 ((IntKind.wrap .u32 (a1 * 16)) + (IntKind.wrap .u32 b12))), (IntKind.wrap .i64 (a2 + 1)))))))
  else (some (Sum.inr (Sum.inl a1)))
noncomputable def ref01_ParseHex  (p0 : ByteArray) : Option (Int × Bool) :=
  if ((p0.size : Int) != 8) = true then (some (0, false))
  else (bind1 (loopO (fun (x : (Int × Int)) => ref01_ParseHex_L1 p0 x.1 x.2) (0, 0)) (sum2 (fun b14 =>
  some (b14, true)) (fun (_ : Unit) =>
  some (0, false))))
noncomputable def ref05_op_L1 (p0 : ByteArray) (a1 : Int) : Option ((Int) ⊕ (Unit ⊕ (Int))) :=
  if (decide (a1 ≤ 34)) = true then (bind1 (ref02_Name a1) fun r2 =>
  if (strEq r2 p0) = true then (some (Sum.inr (Sum.inr a1)))
  else (some (Sum.inl (IntKind.wrap .i64 (a1 + 1)))))
  else (some (Sum.inr (Sum.inl ())))
noncomputable def ref05_op  (p0 : ByteArray) : Option (Int) :=
  bind1 (loopO (fun (x : (Int)) => ref05_op_L1 p0 x) 1) (sum2 (fun (_ : Unit) =>
  some 0) (fun b5 =>
  some b5))
noncomputable def ref05_named  (p0 : T_ref05_row) : Option (ByteArray) :=
  if ((decide (p0.op_ < 20)) || ((decide (p0.op_ > 23)) || ((p0.fields_.length : Int) == 0))) = true then (some ByteArray.empty)
  else (bind1 (gi p0.fields_ (IntKind.wrap .i64 ((p0.fields_.length : Int) - 1))) fun x3 =>
  bind1 (ref05_Name x3) fun r5 =>
  if r5 = true then (some x3)
  else (some ByteArray.empty))
end Go.Proofs.Abs
