/- The law RuntimeBuilds: whatever the input, it answers true. No conditions. (Part RuntimeBuildsF1 of its proof.) -/
import Derived.Test.YtjondopapanmkaaDoorRuntimeBuildsF0
set_option linter.unusedVariables false
set_option linter.unusedSimpArgs false
set_option linter.unusedSectionVars false
/- Printed by gen (walk.py). -/
namespace Go.Proofs.Abs
open Go Go.Proofs
set_option linter.unusedVariables false
set_option maxRecDepth 100000
set_option maxHeartbeats 0
noncomputable def ref05_fill_j2 (a1 : (List ByteArray)) (a2 : Int) (j9 : ByteArray) : Option (((List ByteArray) × Int) ⊕ (((List ByteArray)))) :=
  bind1 (app 16 a1 ([j9] : List ByteArray)) fun v11 =>
  some (Sum.inl (v11, (IntKind.wrap .i64 (a2 + 1))))
noncomputable def ref05_fill_L1 (p0 : T_ref05_row) (p1 : ByteArray) (a1 : (List ByteArray)) (a2 : Int) : Option (((List ByteArray) × Int) ⊕ (((List ByteArray)))) :=
  if (decide (a2 < (p0.fields_.length : Int))) = true then (bind1 (gi p0.fields_ a2) fun x3 =>
  bind1 (if (a2 == (IntKind.wrap .i64 ((p0.fields_.length : Int) - 1))) = true then (bind1 (ref05_named p0) fun r5 =>
  some (!strEq r5 ByteArray.empty)) else (some false)) fun w7 =>
  if w7 = true then (ref05_fill_j2 a1 a2 p1)
  else (ref05_fill_j2 a1 a2 x3))
  else (some (Sum.inr a1))
noncomputable def ref05_fill  (p0 : T_ref05_row) (p1 : ByteArray) : Option (T_ref02_Instr × Bool) :=
  bind1 (loopO (fun (x : ((List ByteArray) × Int)) => ref05_fill_L1 p0 p1 x.1 x.2) (([] : List ByteArray), 0)) (fun b14 =>
  bind2 (ref02_Fill p0.op_ b14) fun r15 r16 =>
  some (r15, r16))
theorem ok_ref05_fill (H : Heap) {p0 : T_ref05_row} {p1 : ByteArray} {ra : T_ref02_Instr} {rb : Bool} (hF : ref05_fill p0 p1 = some (ra, rb)) : evS X 40 [.agg (m0_ref05_row p0), .one .top (.str p1)] H = some (.tup [.agg [(.top, .int .i64 ra.Op_), (.top, .int .i64 ra.A_), (.top, .int .i64 ra.B_), (.top, .int .i64 ra.C_), (.top, .int .i64 ra.Imm_)], .one .top (.bool rb)], H) := by
 refine wf Tryd.func40 true 16 ?_; intro q
 obtain ⟨b14, hL13, hF⟩ := bind1_inv hF
 refine wL (fun (x : ((List ByteArray) × Int)) => ut [(6, .one (.own 1) (.sl 1 (List.map eS x.1))), (7, vi x.2)] []) (fun (y : ((List ByteArray))) => wz (.exit 0) (ut [(6, .one (.own 1) (.sl 1 (List.map eS y)))] [1, 7])) hL13 ?_ ?_
 rintro ⟨a1, a2⟩ o hF q
 refine go 6 ?_; intro q
 refine wle 2 p0.fields_ eS ?_; intro q
 refine wi 8 0 hF (fun _ hF => ?_) (fun _ hF => ?_)
 intro q
 obtain ⟨x3, h4, hF⟩ := bind1_inv hF
 refine wix 9 h4 eS ?_; intro q
 refine wle 3 p0.fields_ eS ?_; intro q
 obtain ⟨w7, hB8, hF⟩ := bind1_inv hF
 refine wr0 0 (ut [(31, vb w7)] [21, 22, 23, 24, 25, 26, 27]) ?_ ?_; intro q
 refine wg [26, 27] 1 5 hB8 (fun _ hB8 => ?_) (fun _ hB8 => ?_)
 intro q
 obtain ⟨r5, c6, hB8⟩ := bind1_inv hB8
 refine wc 3 (ok_ref05_named H c6) ?_; intro q
 cases hB8
 exact wl0
 intro q
 cases hB8
 exact wl0
 intro q
 refine wj 4 0 (fun x => ut [(8, .one .top (.str x))] [31]) (ref05_fill_j2 a1 a2) o ?_ ?_
 rintro j9 hF q
 obtain ⟨v11, h12, hF⟩ := bind1_inv hF
 refine wap 8 h12 eS ?_; intro q
 exact wln _ hF
 intro hJ10 q
 refine wi 4 1 hF (fun _ hF => ?_) (fun _ hF => ?_)
 intro q
 exact we hJ10 p1 hF
 intro q
 exact we hJ10 x3 hF
 intro q
 exact wlx _ hF
 intro q
 refine go 6 ?_; intro q
 obtain ⟨r15, r16, c17, hF⟩ := bind2_inv hF
 refine wc 5 (ok_ref02_Fill H c17) ?_; intro q
 obtain ⟨rfl, rfl⟩ := some2_inv hF
 exact wrp
noncomputable def ref05_parse  (p0 : Int) (p1 : ByteArray) : Option (T_ref05_row × Bool) :=
  bind3 (ref05_split p1) fun r1 r2 r3 =>
  if (!r3) = true then (some ((T_ref05_row.mk 0 0 0 ([] : List ByteArray)), false))
  else (if ((strEq r1 (ByteArray.mk #[87, 79, 82, 68])) && ((r2.length : Int) == 1)) = true then (bind1 (gi r2 0) fun x6 =>
  bind2 (ref01_ParseHex x6) fun r8 r9 =>
  some ((T_ref05_row.mk p0 0 r8 r2), r9))
  else (bind1 (ref05_op r1) fun r11 =>
  if (r11 == 0) = true then (some ((T_ref05_row.mk p0 r11 0 r2), false))
  else (bind2 (ref05_fill (T_ref05_row.mk p0 r11 0 r2) (ByteArray.mk #[48])) fun r13 r14 =>
  some ((T_ref05_row.mk p0 r11 0 r2), r14))))
theorem ok_ref05_parse (H : Heap) {p0 : Int} {p1 : ByteArray} {ra : T_ref05_row} {rb : Bool} (hF : ref05_parse p0 p1 = some (ra, rb)) : evS X 23 [.one .top (.int .i64 p0), .one .top (.str p1)] H = some (.tup [.agg (m0_ref05_row ra), .one .top (.bool rb)], H) := by
 refine wf Tryd.func23 true 8 ?_; intro q
 obtain ⟨r1, r2, r3, c4, hF⟩ := bind3_inv hF
 refine wc 14 (ok_ref05_split H c4) ?_; intro q
 refine wi 6 15 hF (fun _ hF => ?_) (fun _ hF => ?_)
 intro q
 obtain ⟨rfl, rfl⟩ := some2_inv hF
 exact wrp
 intro q
 refine wr 0 (fun x => ut [(30, vb x)] [24, 25, 26]) ((strEq r1 (ByteArray.mk #[87, 79, 82, 68])) && ((r2.length : Int) == 1)) ?_ ?_; intro q
 refine wb [25, 26] (strEq r1 (ByteArray.mk #[87, 79, 82, 68])) 1 5 (fun h5 => ?_) (fun h5 => ?_)
 intro q
 refine wle 3 r2 eS ?_; intro q
 exact wl ((r2.length : Int) == 1) (by first | (simp only [h5]; done) | (simp only [h5]; rfl) | simp [h5])
 intro q
 exact wl false (by first | (simp only [h5]; done) | (simp only [h5]; rfl) | simp [h5])
 intro q
 refine wi 3 4 hF (fun _ hF => ?_) (fun _ hF => ?_)
 intro q
 obtain ⟨x6, h7, hF⟩ := bind1_inv hF
 refine wix 1 h7 eS ?_; intro q
 obtain ⟨r8, r9, c10, hF⟩ := bind2_inv hF
 refine wc 19 (ok_ref01_ParseHex H c10) ?_; intro q
 obtain ⟨rfl, rfl⟩ := some2_inv hF
 exact wrp
 intro q
 obtain ⟨r11, c12, hF⟩ := bind1_inv hF
 refine wc 10 (ok_ref05_op H c12) ?_; intro q
 refine wi 6 4 hF (fun _ hF => ?_) (fun _ hF => ?_)
 intro q
 obtain ⟨rfl, rfl⟩ := some2_inv hF
 exact wrp
 intro q
 obtain ⟨r13, r14, c15, hF⟩ := bind2_inv hF
 refine wc 12 (ok_ref05_fill H c15) ?_; intro q
 obtain ⟨rfl, rfl⟩ := some2_inv hF
 exact wrp
theorem ok_ref05_named_2 (H : Heap) {p0 : T_ref05_row} {ra : ByteArray} (hF : ref05_named p0 = some ra) : evS X 41 [.agg (m1_ref05_row p0)] H = some (.one .top (.str ra), H) := by
 refine wf Tryd.func41 true 12 ?_; intro q
 refine wr 0 (fun x => ut [(17, vb x)] [4, 5, 6, 7]) ((decide (p0.op_ < 20)) || ((decide (p0.op_ > 23)) || ((p0.fields_.length : Int) == 0))) ?_ ?_; intro q
 refine wb [6, 7] (decide (p0.op_ < 20)) 11 5 (fun h1 => ?_) (fun h1 => ?_)
 intro q
 exact wl true (by first | (simp only [h1]; done) | (simp only [h1]; rfl) | simp [h1])
 intro q
 refine wb [10, 11, 12] (decide (p0.op_ > 23)) 6 2 (fun h2 => ?_) (fun h2 => ?_)
 intro q
 exact wl true (by first | (simp only [h1, h2]; done) | (simp only [h1, h2]; rfl) | simp [h1, h2])
 intro q
 refine wle 3 p0.fields_ eS ?_; intro q
 exact wl ((p0.fields_.length : Int) == 0) (by first | (simp only [h1, h2]; done) | (simp only [h1, h2]; rfl) | simp [h1, h2])
 intro q
 refine wi 4 7 hF (fun _ hF => ?_) (fun _ hF => ?_)
 intro q
 obtain rfl := some1_inv hF
 exact wrp
 intro q
 refine wle 1 p0.fields_ eS ?_; intro q
 obtain ⟨x3, h4, hF⟩ := bind1_inv hF
 refine wix 7 h4 eS ?_; intro q
 obtain ⟨r5, c6, hF⟩ := bind1_inv hF
 refine wc 1 (ok_ref05_Name H c6) ?_; intro q
 refine wi 5 5 hF (fun _ hF => ?_) (fun _ hF => ?_)
 intro q
 obtain rfl := some1_inv hF
 exact wrp
 intro q
 obtain rfl := some1_inv hF
 exact wrp
theorem ok_ref05_fill_2 (H : Heap) {p0 : T_ref05_row} {p1 : ByteArray} {ra : T_ref02_Instr} {rb : Bool} (hF : ref05_fill p0 p1 = some (ra, rb)) : evS X 40 [.agg (m1_ref05_row p0), .one .top (.str p1)] H = some (.tup [.agg [(.top, .int .i64 ra.Op_), (.top, .int .i64 ra.A_), (.top, .int .i64 ra.B_), (.top, .int .i64 ra.C_), (.top, .int .i64 ra.Imm_)], .one .top (.bool rb)], H) := by
 refine wf Tryd.func40 true 16 ?_; intro q
 obtain ⟨b14, hL13, hF⟩ := bind1_inv hF
 refine wL (fun (x : ((List ByteArray) × Int)) => ut [(6, .one (.own 1) (.sl 1 (List.map eS x.1))), (7, vi x.2)] []) (fun (y : ((List ByteArray))) => wz (.exit 0) (ut [(6, .one (.own 1) (.sl 1 (List.map eS y)))] [1, 7])) hL13 ?_ ?_
 rintro ⟨a1, a2⟩ o hF q
 refine go 6 ?_; intro q
 refine wle 2 p0.fields_ eS ?_; intro q
 refine wi 8 0 hF (fun _ hF => ?_) (fun _ hF => ?_)
 intro q
 obtain ⟨x3, h4, hF⟩ := bind1_inv hF
 refine wix 9 h4 eS ?_; intro q
 refine wle 3 p0.fields_ eS ?_; intro q
 obtain ⟨w7, hB8, hF⟩ := bind1_inv hF
 refine wr0 0 (ut [(31, vb w7)] [21, 22, 23, 24, 25, 26, 27]) ?_ ?_; intro q
 refine wg [26, 27] 1 5 hB8 (fun _ hB8 => ?_) (fun _ hB8 => ?_)
 intro q
 obtain ⟨r5, c6, hB8⟩ := bind1_inv hB8
 refine wc 3 (ok_ref05_named_2 H c6) ?_; intro q
 cases hB8
 exact wl0
 intro q
 cases hB8
 exact wl0
 intro q
 refine wj 4 0 (fun x => ut [(8, .one .top (.str x))] [31]) (ref05_fill_j2 a1 a2) o ?_ ?_
 rintro j9 hF q
 obtain ⟨v11, h12, hF⟩ := bind1_inv hF
 refine wap 8 h12 eS ?_; intro q
 exact wln _ hF
 intro hJ10 q
 refine wi 4 1 hF (fun _ hF => ?_) (fun _ hF => ?_)
 intro q
 exact we hJ10 p1 hF
 intro q
 exact we hJ10 x3 hF
 intro q
 exact wlx _ hF
 intro q
 refine go 6 ?_; intro q
 obtain ⟨r15, r16, c17, hF⟩ := bind2_inv hF
 refine wc 5 (ok_ref02_Fill H c17) ?_; intro q
 obtain ⟨rfl, rfl⟩ := some2_inv hF
 exact wrp
noncomputable def ref02_Encode  (p0 : T_ref02_Instr) : Option (Int × Int) :=
  bind1 (ref02_Check p0) fun r1 =>
  if (r1 != 0) = true then (some (0, r1))
  else (bind1 (ref02_Shape p0.Op_) fun r3 =>
  if (r3 == 7) = true then (some ((IntKind.wrap .u32 (IntKind.wrap .i64 ((IntKind.wrap .i64 (p0.Op_ * 16777216)) + (Int.tmod (IntKind.wrap .i64 (p0.Imm_ + 16777216)) 16777216)))), 0))
  else (some ((IntKind.wrap .u32 (IntKind.wrap .i64 ((IntKind.wrap .i64 ((IntKind.wrap .i64 ((IntKind.wrap .i64 ((IntKind.wrap .i64 (p0.Op_ * 16777216)) + (IntKind.wrap .i64 (p0.A_ * 1048576)))) + (IntKind.wrap .i64 (p0.B_ * 65536)))) + (Int.tmod (IntKind.wrap .i64 (p0.Imm_ + 65536)) 65536))) + p0.C_))), 0)))
theorem ok_ref02_Encode (H : Heap) {p0 : T_ref02_Instr} {ra : Int} {rb : Int} (hF : ref02_Encode p0 = some (ra, rb)) : evS X 42 [.agg (m0_ref02_Instr p0)] H = some (.tup [.one .top (.int .u32 ra), .one .top (.int .i64 rb)], H) := by
 refine wf Tryd.func42 true 10 ?_; intro q
 obtain ⟨r1, c2, hF⟩ := bind1_inv hF
 refine wc 7 (ok_ref02_Check H c2) ?_; intro q
 refine wi 6 13 hF (fun _ hF => ?_) (fun _ hF => ?_)
 intro q
 obtain ⟨rfl, rfl⟩ := some2_inv hF
 exact wrp
 intro q
 obtain ⟨r3, c4, hF⟩ := bind1_inv hF
 refine wc 2 (ok_ref02_Shape H c4) ?_; intro q
 refine wi 12 24 hF (fun _ hF => ?_) (fun _ hF => ?_)
 intro q
 obtain ⟨rfl, rfl⟩ := some2_inv hF
 exact wrp
 intro q
 obtain ⟨rfl, rfl⟩ := some2_inv hF
 exact wrp
noncomputable def ref05_place_j1 (x1 : T_ref05_row) (j5 : ByteArray) : Option (Int × Int) :=
  bind2 (ref05_fill x1 j5) fun r7 r8 =>
  if (!r8) = true then (some (0, 52))
  else (bind2 (ref02_Encode r7) fun r10 r11 =>
  some (r10, 0))
noncomputable def ref05_place  (p0 : (List T_ref05_row)) (p1 : (List T_ref05_Label)) (p2 : Int) : Option (Int × Int) :=
  bind1 (gi p0 p2) fun x1 =>
  if (x1.op_ == 0) = true then (some (x1.word_, 0))
  else (bind1 (ref05_named x1) fun r3 =>
  if (!strEq r3 ByteArray.empty) = true then (bind1 (ref05_named x1) fun r13 =>
  bind1 (ref05_Find p1 r13) fun r15 =>
  if (decide (r15 < 0)) = true then (some (0, 50))
  else (bind1 (ref01_Text (IntKind.wrap .i64 ((IntKind.wrap .i64 (r15 - p2)) - 1))) fun r17 =>
  ref05_place_j1 x1 r17))
  else (ref05_place_j1 x1 (ByteArray.mk #[48])))
theorem ok_ref05_place (H : Heap) {p0 : (List T_ref05_row)} {p1 : (List T_ref05_Label)} {p2 : Int} {ra : Int} {rb : Int} (hF : ref05_place p0 p1 p2 = some (ra, rb)) : evS X 24 [.one .ro (.sl 4 (List.map e_ref05_row p0)), .one .ro (.sl 2 (List.map e_ref05_Label p1)), .one .top (.int .i64 p2)] H = some (.tup [.one .top (.int .u32 ra), .one .top (.int .i64 rb)], H) := by
 refine wf Tryd.func24 true 9 ?_; intro q
 obtain ⟨x1, h2, hF⟩ := bind1_inv hF
 refine wix 11 h2 e_ref05_row ?_; intro q
 refine wi 7 9 hF (fun _ hF => ?_) (fun _ hF => ?_)
 intro q
 obtain ⟨rfl, rfl⟩ := some2_inv hF
 exact wrp
 intro q
 obtain ⟨r3, c4, hF⟩ := bind1_inv hF
 refine wc 2 (ok_ref05_named_2 H c4) ?_; intro q
 refine wj 4 0 (fun x => ut [(9, .one .top (.str x))] [1, 2, 26]) (ref05_place_j1 x1) (ra, rb) ?_ ?_
 rintro j5 hF q
 obtain ⟨r7, r8, c9, hF⟩ := bind2_inv hF
 refine wc 13 (ok_ref05_fill_2 H c9) ?_; intro q
 refine wi 5 4 hF (fun _ hF => ?_) (fun _ hF => ?_)
 intro q
 obtain ⟨rfl, rfl⟩ := some2_inv hF
 exact wrp
 intro q
 obtain ⟨r10, r11, c12, hF⟩ := bind2_inv hF
 refine wc 12 (ok_ref02_Encode H c12) ?_; intro q
 obtain ⟨rfl, rfl⟩ := some2_inv hF
 exact wrp
 intro hJ6 q
 refine wi 4 1 hF (fun _ hF => ?_) (fun _ hF => ?_)
 intro q
 obtain ⟨r13, c14, hF⟩ := bind1_inv hF
 refine wc 0 (ok_ref05_named_2 H c14) ?_; intro q
 obtain ⟨r15, c16, hF⟩ := bind1_inv hF
 refine wc 8 (ok_ref05_Find H c16) ?_; intro q
 refine wi 5 6 hF (fun _ hF => ?_) (fun _ hF => ?_)
 intro q
 obtain ⟨rfl, rfl⟩ := some2_inv hF
 exact wrp
 intro q
 obtain ⟨r17, c18, hF⟩ := bind1_inv hF
 refine wc 2 (ok_ref01_Text H c18) ?_; intro q
 exact we hJ6 r17 hF
 intro q
 exact we hJ6 (ByteArray.mk #[48]) hF
noncomputable def ref05_Assemble_j2 (a5 : Int) (j6 : (List T_ref05_row)) (j7 : (List T_ref05_Label)) : Option (((List T_ref05_row) × (List T_ref05_Label) × Int) ⊕ (((List T_ref05_row) × (List T_ref05_Label)) ⊕ (Int × Int))) :=
  some (Sum.inl (j6, j7, (IntKind.wrap .i64 (a5 + 1))))
noncomputable def ref05_Assemble_L1 (r1 : (List ByteArray)) (a3 : (List T_ref05_row)) (a4 : (List T_ref05_Label)) (a5 : Int) : Option (((List T_ref05_row) × (List T_ref05_Label) × Int) ⊕ (((List T_ref05_row) × (List T_ref05_Label)) ⊕ (Int × Int))) :=
  if (decide (a5 < (r1.length : Int))) = true then (bind1 (gi r1 a5) fun x9 =>
  bind1 (if ((x9.size : Int) == 0) = true then (some true) else (bind1 (sAt x9 0) fun v11 =>
  some (v11 == 59))) fun w13 =>
  if w13 = true then (ref05_Assemble_j2 a5 a3 a4)
  else (bind1 (sAt x9 (IntKind.wrap .i64 ((x9.size : Int) - 1))) fun v15 =>
  if (v15 == 58) = true then (bind1 (sCut x9 0 (IntKind.wrap .i64 ((x9.size : Int) - 1))) fun s17 =>
  bind1 (ref05_Name s17) fun r19 =>
  if (!r19) = true then (some (Sum.inr (Sum.inr (22, (IntKind.wrap .i64 (a5 + 1))))))
  else (bind1 (ref05_Find a4 s17) fun r21 =>
  if (decide (r21 ≥ 0)) = true then (some (Sum.inr (Sum.inr (51, (IntKind.wrap .i64 (a5 + 1))))))
  else (bind1 (app 24 a4 ([(T_ref05_Label.mk s17 (a3.length : Int))] : List T_ref05_Label)) fun v23 =>
  ref05_Assemble_j2 a5 a3 v23)))
  else (bind2 (ref05_parse (IntKind.wrap .i64 (a5 + 1)) x9) fun r25 r26 =>
  if (!r26) = true then (some (Sum.inr (Sum.inr (22, (IntKind.wrap .i64 (a5 + 1))))))
  else (if (decide ((a3.length : Int) ≥ 16384)) = true then (some (Sum.inr (Sum.inr (242, (IntKind.wrap .i64 (a5 + 1))))))
  else (bind1 (app 48 a3 ([r25] : List T_ref05_row)) fun v28 =>
  ref05_Assemble_j2 a5 v28 a4)))))
  else (some (Sum.inr (Sum.inl (a3, a4))))
noncomputable def ref05_Assemble_L3 (b31 : (List T_ref05_row)) (b32 : (List T_ref05_Label)) (a33 : (List Int)) (a34 : Int) : Option (((List Int) × Int) ⊕ (((List Int)) ⊕ (Int × Int))) :=
  if (decide (a34 < (b31.length : Int))) = true then (bind2 (ref05_place b31 b32 a34) fun r35 r36 =>
  if (r36 != 0) = true then (bind1 (gi b31 a34) fun x38 =>
  some (Sum.inr (Sum.inr (x38.line_, r36))))
  else (bind1 (app 4 a33 ([r35] : List Int)) fun v40 =>
  some (Sum.inl (v40, (IntKind.wrap .i64 (a34 + 1))))))
  else (some (Sum.inr (Sum.inl a33)))
noncomputable def ref05_Assemble  (p0 : ByteArray) : Option ((List Int) × (List T_ref05_Label) × Int × Int) :=
  bind1 (ref05_Cut p0 10) fun r1 =>
  if (decide ((r1.length : Int) > 4096)) = true then (some (([] : List Int), ([] : List T_ref05_Label), 4097, 242))
  else (bind1 (loopO (fun (x : ((List T_ref05_row) × (List T_ref05_Label) × Int)) => ref05_Assemble_L1 r1 x.1 x.2.1 x.2.2) (([] : List T_ref05_row), ([] : List T_ref05_Label), 0)) (sum2 (tup2 fun b31 b32 =>
  bind1 (loopO (fun (x : ((List Int) × Int)) => ref05_Assemble_L3 b31 b32 x.1 x.2) (([] : List Int), 0)) (sum2 (fun b43 =>
  some (b43, b32, 0, 0)) (tup2 fun b44 b45 =>
  some (([] : List Int), ([] : List T_ref05_Label), b44, b45)))) (tup2 fun b47 b48 =>
  some (([] : List Int), ([] : List T_ref05_Label), b48, b47))))
theorem ok_ref05_Assemble (H : Heap) {p0 : ByteArray} {ra : (List Int)} {rb : (List T_ref05_Label)} {rc : Int} {rd : Int} (hF : ref05_Assemble p0 = some (ra, rb, rc, rd)) : evS X 7 [.one .top (.str p0)] H = some (.tup [.one (.own 1) (.sl 1 (List.map (eI .u32) ra)), .one (.own 1) (.sl 2 (List.map e_ref05_Label rb)), .one .top (.int .i64 rc), .one .top (.int .i64 rd)], H) := by
 refine wf Tryd.func7 true 10 ?_; intro q
 obtain ⟨r1, c2, hF⟩ := bind1_inv hF
 refine wc 6 (ok_ref05_Cut H c2) ?_; intro q
 refine wle 2 r1 eS ?_; intro q
 refine wi 7 15 hF (fun _ hF => ?_) (fun _ hF => ?_)
 intro q
 obtain ⟨rfl, rfl, rfl, rfl⟩ := some4_inv hF
 exact wrp
 intro q
 obtain ⟨r49, hL30, hF⟩ := bind1_inv hF
 refine wL (fun (x : ((List T_ref05_row) × (List T_ref05_Label) × Int)) => ut [(7, .one (.own 1) (.sl 4 (List.map e_ref05_row x.1))), (8, .one (.own 1) (.sl 2 (List.map e_ref05_Label x.2.1))), (9, vi x.2.2)] []) (Sum.elim (fun (y : ((List T_ref05_row) × (List T_ref05_Label))) => wz (.exit 0) (ut [(7, .one (.own 1) (.sl 4 (List.map e_ref05_row y.1))), (8, .one (.own 1) (.sl 2 (List.map e_ref05_Label y.2)))] [6, 9])) (fun (y : (Int × Int)) => wz (.ret) (ut [(2, .one (.own 1) (.sl 1 (List.map (eI .u32) ([] : List Int)))), (3, .one (.own 1) (.sl 2 (List.map e_ref05_Label ([] : List T_ref05_Label)))), (4, vi y.2), (5, vi y.1)] [6, 7, 8, 9]))) hL30 ?_ ?_
 rintro ⟨a3, a4, a5⟩ o hF q
 refine go 5 ?_; intro q
 refine wle 2 r1 eS ?_; intro q
 refine wi 2 0 hF (fun _ hF => ?_) (fun _ hF => ?_)
 intro q
 refine wj 5 5 (fun x => ut [(7, .one (.own 1) (.sl 4 (List.map e_ref05_row x.1))), (8, .one (.own 1) (.sl 2 (List.map e_ref05_Label x.2)))] []) (tup2 (ref05_Assemble_j2 a5)) o ?_ ?_
 rintro ⟨j6, j7⟩ hF q
 exact wln _ hF
 intro hJ8 q
 obtain ⟨x9, h10, hF⟩ := bind1_inv hF
 refine wix 10 h10 eS ?_; intro q
 obtain ⟨w13, hB14, hF⟩ := bind1_inv hF
 refine wr0 0 (ut [(40, vb w13)] [33, 34, 35, 36]) ?_ ?_; intro q
 refine wg [35, 36] 5 1 hB14 (fun _ hB14 => ?_) (fun _ hB14 => ?_)
 intro q
 cases hB14
 exact wl0
 intro q
 obtain ⟨v11, h12, hB14⟩ := bind1_inv hB14
 refine wsx 3 h12 ?_; intro q
 cases hB14
 exact wl0
 intro q
 refine wi 1 8 hF (fun _ hF => ?_) (fun _ hF => ?_)
 intro q
 exact we2 hJ8 a3 a4 hF
 intro q
 obtain ⟨v15, h16, hF⟩ := bind1_inv hF
 refine wsx 2 h16 ?_; intro q
 refine wi 6 6 hF (fun _ hF => ?_) (fun _ hF => ?_)
 intro q
 obtain ⟨s17, h18, hF⟩ := bind1_inv hF
 refine wsc 6 h18 ?_; intro q
 obtain ⟨r19, c20, hF⟩ := bind1_inv hF
 refine wc 2 (ok_ref05_Name H c20) ?_; intro q
 refine wi 9 6 hF (fun _ hF => ?_) (fun _ hF => ?_)
 intro q
 exact wlx _ hF
 intro q
 obtain ⟨r21, c22, hF⟩ := bind1_inv hF
 refine wc 2 (ok_ref05_Find H c22) ?_; intro q
 refine wi 9 6 hF (fun _ hF => ?_) (fun _ hF => ?_)
 intro q
 exact wlx _ hF
 intro q
 refine wle 2 a3 e_ref05_row ?_; intro q
 obtain ⟨v23, h24, hF⟩ := bind1_inv hF
 refine wap 3 h24 e_ref05_Label ?_; intro q
 exact we2 hJ8 a3 v23 hF
 intro q
 obtain ⟨r25, r26, c27, hF⟩ := bind2_inv hF
 refine wc 13 (ok_ref05_parse H c27) ?_; intro q
 refine wi 9 5 hF (fun _ hF => ?_) (fun _ hF => ?_)
 intro q
 exact wlx _ hF
 intro q
 refine wle 2 a3 e_ref05_row ?_; intro q
 refine wi 9 5 hF (fun _ hF => ?_) (fun _ hF => ?_)
 intro q
 exact wlx _ hF
 intro q
 obtain ⟨v28, h29, hF⟩ := bind1_inv hF
 refine wap 3 h29 e_ref05_row ?_; intro q
 exact we2 hJ8 v28 a4 hF
 intro q
 exact wlx _ hF
 replace hF := sum2_inv hF
 rcases hF with ⟨⟨b31, b32⟩, rfl, hF⟩ | ⟨⟨b47, b48⟩, rfl, hF⟩
 replace hF := tup2_inv hF
 intro q
 refine go 11 ?_; intro q
 obtain ⟨r46, hL42, hF⟩ := bind1_inv hF
 refine wL (fun (x : ((List Int) × Int)) => ut [(14, .one (.own 1) (.sl 1 (List.map (eI .u32) x.1))), (15, vi x.2)] []) (Sum.elim (fun (y : ((List Int))) => wz (.exit 2) (ut [(14, .one (.own 1) (.sl 1 (List.map (eI .u32) y)))] [7, 15])) (fun (y : (Int × Int)) => wz (.ret) (ut [(2, .one (.own 1) (.sl 1 (List.map (eI .u32) ([] : List Int)))), (3, .one (.own 1) (.sl 2 (List.map e_ref05_Label ([] : List T_ref05_Label)))), (4, vi y.1), (5, vi y.2)] [7, 8, 14, 15]))) hL42 ?_ ?_
 rintro ⟨a33, a34⟩ o hF q
 refine go 5 ?_; intro q
 refine wle 2 b31 e_ref05_row ?_; intro q
 refine wi 8 0 hF (fun _ hF => ?_) (fun _ hF => ?_)
 intro q
 obtain ⟨r35, r36, c37, hF⟩ := bind2_inv hF
 refine wc 12 (ok_ref05_place H c37) ?_; intro q
 refine wi 4 5 hF (fun _ hF => ?_) (fun _ hF => ?_)
 intro q
 obtain ⟨x38, h39, hF⟩ := bind1_inv hF
 refine wix 8 h39 e_ref05_row ?_; intro q
 exact wlx _ hF
 intro q
 obtain ⟨v40, h41, hF⟩ := bind1_inv hF
 refine wap 8 h41 (eI .u32) ?_; intro q
 exact wln _ hF
 intro q
 exact wlx _ hF
 replace hF := sum2_inv hF
 rcases hF with ⟨b43, rfl, hF⟩ | ⟨⟨b44, b45⟩, rfl, hF⟩
 intro q
 refine go 10 ?_; intro q
 obtain ⟨rfl, rfl, rfl, rfl⟩ := some4_inv hF
 exact wrp
 replace hF := tup2_inv hF
 intro q
 obtain ⟨rfl, rfl, rfl, rfl⟩ := some4_inv hF
 exact wrp
 replace hF := tup2_inv hF
 intro q
 obtain ⟨rfl, rfl, rfl, rfl⟩ := some4_inv hF
 exact wrp
theorem ok_ref01_Words_2 (H : Heap) {p0 : (List Int)} {p1 : (List Int)} {ra : Bool} (hF : ref01_Words p0 p1 = some ra) : evS X 10 [.one (.own 0) (.sl 1 (List.map (eI .u32) p0)), .one .ro (.sl 1 (List.map (eI .u32) p1))] H = some (.one .top (.bool ra), H) := by
 refine wf Tryd.func10 true 8 ?_; intro q
 refine wle 1 p0 (eI .u32) ?_; intro q
 refine wle 2 p1 (eI .u32) ?_; intro q
 refine wi 4 7 hF (fun _ hF => ?_) (fun _ hF => ?_)
 intro q
 obtain rfl := some1_inv hF
 exact wrp
 intro q
 obtain ⟨r7, hL6, hF⟩ := bind1_inv hF
 refine wL (fun (x : (Int)) => ut [(5, vi x)] []) (Sum.elim (fun (y : Unit) => wz (.exit 0) (ut [] [0, 1, 5])) (fun (y : Unit) => wz (.ret) (ut [(4, vF)] [0, 1, 5]))) hL6 ?_ ?_
 rintro a1 o hF q
 refine go 5 ?_; intro q
 refine wle 2 p0 (eI .u32) ?_; intro q
 refine wi 7 0 hF (fun _ hF => ?_) (fun _ hF => ?_)
 intro q
 obtain ⟨x2, h3, hF⟩ := bind1_inv hF
 refine wix 3 h3 (eI .u32) ?_; intro q
 obtain ⟨x4, h5, hF⟩ := bind1_inv hF
 refine wix 3 h5 (eI .u32) ?_; intro q
 refine wi 4 7 hF (fun _ hF => ?_) (fun _ hF => ?_)
 intro q
 exact wlx _ hF
 intro q
 exact wln _ hF
 intro q
 exact wlx _ hF
 replace hF := sum2_inv hF
 rcases hF with ⟨⟨⟩, rfl, hF⟩ | ⟨⟨⟩, rfl, hF⟩
 intro q
 refine go 5 ?_; intro q
 obtain rfl := some1_inv hF
 exact wrp
 intro q
 obtain rfl := some1_inv hF
 exact wrp
noncomputable def law24_among_L1 (p0 : T_runtime_Image) (a9 : Int) (a10 : Int) : Option ((Int × Int) ⊕ (Unit ⊕ Unit)) :=
  if (decide (a10 < (p0.Calls_.length : Int))) = true then (bind1 (gi p0.Calls_ a10) fun x11 =>
  bind1 (if (decide (x11 ≤ a9)) = true then (some true) else (bind1 (gi p0.Calls_ a10) fun x13 =>
  some (decide (x13 ≥ (p0.Words_.length : Int))))) fun w15 =>
  if w15 = true then (some (Sum.inr (Sum.inr ())))
  else (bind1 (gi p0.Calls_ a10) fun x17 =>
  some (Sum.inl (x17, (IntKind.wrap .i64 (a10 + 1))))))
  else (some (Sum.inr (Sum.inl ())))
noncomputable def law24_among  (p0 : T_runtime_Image) (p1 : Int) : Option (Bool) :=
  if ((decide (p0.Table_ < 0)) || ((decide ((IntKind.wrap .i64 (p0.Table_ + 1)) ≥ (p0.Words_.length : Int))) || ((decide (p0.Top_ < p0.Start_)) || ((decide ((IntKind.wrap .i64 (p0.Top_ + 1)) ≥ (p0.Words_.length : Int))) || ((decide (p0.Lost_ < 1)) || ((decide (p0.Lost_ ≥ p0.Start_)) || ((decide (p0.Start_ ≥ (p0.Words_.length : Int))) || (((p0.Calls_.length : Int) != p1) || (decide ((p0.Words_.length : Int) > 16384)))))))))) = true then (some false)
  else (bind1 (loopO (fun (x : (Int × Int)) => law24_among_L1 p0 x.1 x.2) (p0.Start_, 0)) (sum2 (fun (_ : Unit) =>
  some true) (fun (_ : Unit) =>
  some false)))
theorem ok_law24_among (H : Heap) {p0 : T_runtime_Image} {p1 : Int} {ra : Bool} (hF : law24_among p0 p1 = some ra) : evS X 11 [.agg (m1_runtime_Image p0), .one .top (.int .i64 p1)] H = some (.one .top (.bool ra), H) := by
 refine wf Tryd.func11 true 12 ?_; intro q
 refine wr 0 (fun x => ut [(67, vb x)] [1, 7, 8, 9, 10]) ((decide (p0.Table_ < 0)) || ((decide ((IntKind.wrap .i64 (p0.Table_ + 1)) ≥ (p0.Words_.length : Int))) || ((decide (p0.Top_ < p0.Start_)) || ((decide ((IntKind.wrap .i64 (p0.Top_ + 1)) ≥ (p0.Words_.length : Int))) || ((decide (p0.Lost_ < 1)) || ((decide (p0.Lost_ ≥ p0.Start_)) || ((decide (p0.Start_ ≥ (p0.Words_.length : Int))) || (((p0.Calls_.length : Int) != p1) || (decide ((p0.Words_.length : Int) > 16384)))))))))) ?_ ?_; intro q
 refine wb [9, 10] (decide (p0.Table_ < 0)) 58 5 (fun h1 => ?_) (fun h1 => ?_)
 intro q
 exact wl true (by first | (simp only [h1]; done) | (simp only [h1]; rfl) | simp [h1])
 intro q
 refine wle 3 p0.Words_ (eI .u32) ?_; intro q
 refine wb [17, 18, 19] (decide ((IntKind.wrap .i64 (p0.Table_ + 1)) ≥ (p0.Words_.length : Int))) 49 7 (fun h2 => ?_) (fun h2 => ?_)
 intro q
 exact wl true (by first | (simp only [h1, h2]; done) | (simp only [h1, h2]; rfl) | simp [h1, h2])
 intro q
 refine wb [24, 25, 26] (decide (p0.Top_ < p0.Start_)) 42 5 (fun h3 => ?_) (fun h3 => ?_)
 intro q
 exact wl true (by first | (simp only [h1, h2, h3]; done) | (simp only [h1, h2, h3]; rfl) | simp [h1, h2, h3])
 intro q
 refine wle 3 p0.Words_ (eI .u32) ?_; intro q
 refine wb [33, 34, 35] (decide ((IntKind.wrap .i64 (p0.Top_ + 1)) ≥ (p0.Words_.length : Int))) 33 5 (fun h4 => ?_) (fun h4 => ?_)
 intro q
 exact wl true (by first | (simp only [h1, h2, h3, h4]; done) | (simp only [h1, h2, h3, h4]; rfl) | simp [h1, h2, h3, h4])
 intro q
 refine wb [38, 39, 40] (decide (p0.Lost_ < 1)) 28 7 (fun h5 => ?_) (fun h5 => ?_)
 intro q
 exact wl true (by first | (simp only [h1, h2, h3, h4, h5]; done) | (simp only [h1, h2, h3, h4, h5]; rfl) | simp [h1, h2, h3, h4, h5])
 intro q
 refine wb [45, 46, 47] (decide (p0.Lost_ ≥ p0.Start_)) 21 4 (fun h6 => ?_) (fun h6 => ?_)
 intro q
 exact wl true (by first | (simp only [h1, h2, h3, h4, h5, h6]; done) | (simp only [h1, h2, h3, h4, h5, h6]; rfl) | simp [h1, h2, h3, h4, h5, h6])
 intro q
 refine wle 3 p0.Words_ (eI .u32) ?_; intro q
 refine wb [53, 54, 55] (decide (p0.Start_ ≥ (p0.Words_.length : Int))) 13 2 (fun h7 => ?_) (fun h7 => ?_)
 intro q
 exact wl true (by first | (simp only [h1, h2, h3, h4, h5, h6, h7]; done) | (simp only [h1, h2, h3, h4, h5, h6, h7]; rfl) | simp [h1, h2, h3, h4, h5, h6, h7])
 intro q
 refine wle 4 p0.Calls_ (eI .i64) ?_; intro q
 refine wb [60, 61, 62] ((p0.Calls_.length : Int) != p1) 6 2 (fun h8 => ?_) (fun h8 => ?_)
 intro q
 exact wl true (by first | (simp only [h1, h2, h3, h4, h5, h6, h7, h8]; done) | (simp only [h1, h2, h3, h4, h5, h6, h7, h8]; rfl) | simp [h1, h2, h3, h4, h5, h6, h7, h8])
 intro q
 refine wle 3 p0.Words_ (eI .u32) ?_; intro q
 exact wl (decide ((p0.Words_.length : Int) > 16384)) (by first | (simp only [h1, h2, h3, h4, h5, h6, h7, h8]; done) | (simp only [h1, h2, h3, h4, h5, h6, h7, h8]; rfl) | simp [h1, h2, h3, h4, h5, h6, h7, h8])
 intro q
 refine wi 4 13 hF (fun _ hF => ?_) (fun _ hF => ?_)
 intro q
 obtain rfl := some1_inv hF
 exact wrp
 intro q
 obtain ⟨r20, hL19, hF⟩ := bind1_inv hF
 refine wL (fun (x : (Int × Int)) => ut [(5, vi x.1), (6, vi x.2)] []) (Sum.elim (fun (y : Unit) => wz (.exit 0) (uf (⟨[], [], H⟩ : St))) (fun (y : Unit) => wz (.ret) (uf (⟨[(4, vF)], [], H⟩ : St)))) hL19 ?_ ?_
 rintro ⟨a9, a10⟩ o hF q
 refine go 6 ?_; intro q
 refine wle 2 p0.Calls_ (eI .i64) ?_; intro q
 refine wi 9 0 hF (fun _ hF => ?_) (fun _ hF => ?_)
 intro q
 obtain ⟨x11, h12, hF⟩ := bind1_inv hF
 refine wix 4 h12 (eI .i64) ?_; intro q
 obtain ⟨w15, hB16, hF⟩ := bind1_inv hF
 refine wr0 0 (ut [(94, vb w15)] [5, 77, 78, 79, 80, 81, 82, 83, 84]) ?_ ?_; intro q
 refine wg [83, 84] 11 3 hB16 (fun _ hB16 => ?_) (fun _ hB16 => ?_)
 intro q
 cases hB16
 exact wl0
 intro q
 obtain ⟨x13, h14, hB16⟩ := bind1_inv hB16
 refine wix 3 h14 (eI .i64) ?_; intro q
 refine wle 3 p0.Words_ (eI .u32) ?_; intro q
 cases hB16
 exact wl0
 intro q
 refine wi 4 5 hF (fun _ hF => ?_) (fun _ hF => ?_)
 intro q
 exact wlx _ hF
 intro q
 obtain ⟨x17, h18, hF⟩ := bind1_inv hF
 refine wix 9 h18 (eI .i64) ?_; intro q
 exact wln _ hF
 intro q
 exact wlx _ hF
 replace hF := sum2_inv hF
 rcases hF with ⟨⟨⟩, rfl, hF⟩ | ⟨⟨⟩, rfl, hF⟩
 intro q
 refine go 5 ?_; intro q
 obtain rfl := some1_inv hF
 exact wrp
 intro q
 obtain rfl := some1_inv hF
 exact wrp
noncomputable def runtime_Image_Names  (p0 : T_runtime_Image) : Option (ByteArray) :=
  bind1 (word_Text p0.Table_) fun r1 =>
  bind1 (sCat (ByteArray.mk #[110, 101, 120, 116, 32]) r1) fun s3 =>
  bind1 (sCat s3 (ByteArray.mk #[32, 115, 116, 97, 114, 116, 32])) fun s5 =>
  bind1 (word_Text p0.Start_) fun r7 =>
  bind1 (sCat s5 r7) fun s9 =>
  bind1 (sCat s9 (ByteArray.mk #[32, 108, 111, 115, 116, 32])) fun s11 =>
  bind1 (word_Text p0.Lost_) fun r13 =>
  bind1 (sCat s11 r13) fun s15 =>
  some s15
theorem ok_runtime_Image_Names (H : Heap) {p0 : T_runtime_Image} {ra : ByteArray} (hF : runtime_Image_Names p0 = some ra) : evS X 12 [.agg (m1_runtime_Image p0)] H = some (.one .top (.str ra), H) := by
 refine wf Tryd.func12 true 13 ?_; intro q
 obtain ⟨r1, c2, hF⟩ := bind1_inv hF
 refine wc 0 (ok_word_Text H c2) ?_; intro q
 obtain ⟨s3, h4, hF⟩ := bind1_inv hF
 refine wcat 0 h4 ?_; intro q
 obtain ⟨s5, h6, hF⟩ := bind1_inv hF
 refine wcat 0 h6 ?_; intro q
 obtain ⟨r7, c8, hF⟩ := bind1_inv hF
 refine wc 0 (ok_word_Text H c8) ?_; intro q
 obtain ⟨s9, h10, hF⟩ := bind1_inv hF
 refine wcat 0 h10 ?_; intro q
 obtain ⟨s11, h12, hF⟩ := bind1_inv hF
 refine wcat 0 h12 ?_; intro q
 obtain ⟨r13, c14, hF⟩ := bind1_inv hF
 refine wc 0 (ok_word_Text H c14) ?_; intro q
 obtain ⟨s15, h16, hF⟩ := bind1_inv hF
 refine wcat 2 h16 ?_; intro q
 obtain rfl := some1_inv hF
 exact wrp
noncomputable def law24_RuntimeBuilds  (p0 : Int) : Option (Bool) :=
  bind1 (law24_awake) fun r1 =>
  if (!r1) = true then (some false)
  else (bind2 (runtime_Build p0) fun r3 r4 =>
  if ((decide (p0 < 0)) || (decide (p0 > 64))) = true then (some ((r4 == 243) && ((r3.Words_.length : Int) == 0)))
  else (bind1 (runtime_Source p0) fun r8 =>
  bind4 (ref05_Assemble r8) fun r10 r11 r12 r13 =>
  bind1 (ref01_Text r3.Table_) fun r15 =>
  bind1 (sCat (ByteArray.mk #[110, 101, 120, 116, 32]) r15) fun s17 =>
  bind1 (sCat s17 (ByteArray.mk #[32, 115, 116, 97, 114, 116, 32])) fun s19 =>
  bind1 (ref01_Text r3.Start_) fun r21 =>
  bind1 (sCat s19 r21) fun s23 =>
  bind1 (sCat s23 (ByteArray.mk #[32, 108, 111, 115, 116, 32])) fun s25 =>
  bind1 (ref01_Text r3.Lost_) fun r27 =>
  bind1 (sCat s25 r27) fun s29 =>
  bind1 (if (r4 == 0) = true then (if (r13 == 0) = true then (bind1 (ref01_Words r3.Words_ r10) fun r31 =>
  if r31 = true then (bind1 (law24_among r3 p0) fun r33 =>
  if r33 = true then (bind1 (runtime_Image_Names r3) fun r35 =>
  some (strEq r35 s29)) else (some false)) else (some false)) else (some false)) else (some false)) fun w37 =>
  some w37))
theorem ok_law24_RuntimeBuilds (H : Heap) {p0 : Int} {ra : Bool} (hF : law24_RuntimeBuilds p0 = some ra) : evS X 3 [.one .top (.int .i64 p0)] H = some (.one .top (.bool ra), H) := by
 refine wf Tryd.func3 true 7 ?_; intro q
 obtain ⟨r1, c2, hF⟩ := bind1_inv hF
 refine wc 2 (ok_law24_awake H c2) ?_; intro q
 refine wi 4 4 hF (fun _ hF => ?_) (fun _ hF => ?_)
 intro q
 obtain rfl := some1_inv hF
 exact wrp
 intro q
 obtain ⟨r3, r4, c5, hF⟩ := bind2_inv hF
 refine wc 13 (ok_runtime_Build H c5) ?_; intro q
 refine wr 0 (fun x => ut [(22, vb x)] [17, 18, 19]) ((decide (p0 < 0)) || (decide (p0 > 64))) ?_ ?_; intro q
 refine wb [18, 19] (decide (p0 < 0)) 4 4 (fun h6 => ?_) (fun h6 => ?_)
 intro q
 exact wl true (by first | (simp only [h6]; done) | (simp only [h6]; rfl) | simp [h6])
 intro q
 exact wl (decide (p0 > 64)) (by first | (simp only [h6]; done) | (simp only [h6]; rfl) | simp [h6])
 intro q
 refine wi 5 4 hF (fun _ hF => ?_) (fun _ hF => ?_)
 intro q
 refine wr 0 (fun x => uf (⟨[(2, vb x)], [], H⟩ : St)) ((r4 == 243) && ((r3.Words_.length : Int) == 0)) ?_ ?_; intro q
 refine wb [24, 25] (r4 == 243) 2 7 (fun h7 => ?_) (fun h7 => ?_)
 intro q
 refine wle 4 r3.Words_ (eI .u32) ?_; intro q
 exact wl ((r3.Words_.length : Int) == 0) (by first | (simp only [h7]; done) | (simp only [h7]; rfl) | simp [h7])
 intro q
 exact wl false (by first | (simp only [h7]; done) | (simp only [h7]; rfl) | simp [h7])
 intro q
 obtain rfl := some1_inv hF
 exact wrp
 intro q
 obtain ⟨r8, c9, hF⟩ := bind1_inv hF
 refine wc 0 (ok_runtime_Source H c9) ?_; intro q
 obtain ⟨r10, r11, r12, r13, c14, hF⟩ := bind4_inv hF
 refine wc 18 (ok_ref05_Assemble H c14) ?_; intro q
 obtain ⟨r15, c16, hF⟩ := bind1_inv hF
 refine wc 0 (ok_ref01_Text H c16) ?_; intro q
 obtain ⟨s17, h18, hF⟩ := bind1_inv hF
 refine wcat 0 h18 ?_; intro q
 obtain ⟨s19, h20, hF⟩ := bind1_inv hF
 refine wcat 0 h20 ?_; intro q
 obtain ⟨r21, c22, hF⟩ := bind1_inv hF
 refine wc 0 (ok_ref01_Text H c22) ?_; intro q
 obtain ⟨s23, h24, hF⟩ := bind1_inv hF
 refine wcat 0 h24 ?_; intro q
 obtain ⟨s25, h26, hF⟩ := bind1_inv hF
 refine wcat 0 h26 ?_; intro q
 obtain ⟨r27, c28, hF⟩ := bind1_inv hF
 refine wc 0 (ok_ref01_Text H c28) ?_; intro q
 obtain ⟨s29, h30, hF⟩ := bind1_inv hF
 refine wcat 7 h30 ?_; intro q
 obtain ⟨w37, hB38, hF⟩ := bind1_inv hF
 refine wr0 0 (uf (⟨[(2, vb w37)], [], H⟩ : St)) ?_ ?_; intro q
 refine wg [54, 55] 4 22 hB38 (fun _ hB38 => ?_) (fun _ hB38 => ?_)
 intro q
 refine wg [57, 58, 59] 3 18 hB38 (fun _ hB38 => ?_) (fun _ hB38 => ?_)
 intro q
 obtain ⟨r31, c32, hB38⟩ := bind1_inv hB38
 refine wc 2 (ok_ref01_Words_2 H c32) ?_; intro q
 refine wg [63, 64, 65] 2 12 hB38 (fun _ hB38 => ?_) (fun _ hB38 => ?_)
 intro q
 obtain ⟨r33, c34, hB38⟩ := bind1_inv hB38
 refine wc 2 (ok_law24_among H c34) ?_; intro q
 refine wg [68, 69, 70] 1 7 hB38 (fun _ hB38 => ?_) (fun _ hB38 => ?_)
 intro q
 obtain ⟨r35, c36, hB38⟩ := bind1_inv hB38
 refine wc 5 (ok_runtime_Image_Names H c36) ?_; intro q
 cases hB38
 exact wl0
 intro q
 cases hB38
 exact wl0
 intro q
 cases hB38
 exact wl0
 intro q
 cases hB38
 exact wl0
 intro q
 cases hB38
 exact wl0
 intro q
 obtain rfl := some1_inv hF
 exact wrp
end Go.Proofs.Abs
