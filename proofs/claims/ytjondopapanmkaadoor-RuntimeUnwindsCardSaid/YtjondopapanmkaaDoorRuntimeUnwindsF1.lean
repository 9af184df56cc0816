/- The law RuntimeUnwinds: whatever the input, it answers true. No conditions. (Part RuntimeUnwindsF1 of its proof.) -/
import Derived.Test.YtjondopapanmkaaDoorRuntimeUnwindsF0
set_option linter.unusedVariables false
set_option linter.unusedSimpArgs false
set_option linter.unusedSectionVars false
/- Printed by gen (walk.py). -/
namespace Go.Proofs.Abs
open Go Go.Proofs
set_option linter.unusedVariables false
set_option maxRecDepth 100000
set_option maxHeartbeats 0
noncomputable def ref01_Times  (p0 : Int) (p1 : Int) : Option (Int) :=
  bind1 (ref01_Round (IntKind.wrap .i64 ((IntKind.wrap .i64 p0) * (IntKind.wrap .i64 p1)))) fun r1 =>
  some r1
theorem ok_ref01_Times (H : Heap) {p0 : Int} {p1 : Int} {ra : Int} (hF : ref01_Times p0 p1 = some ra) : evS X 68 [.one .top (.int .i32 p0), .one .top (.int .i32 p1)] H = some (.one .top (.int .i32 ra), H) := by
 refine wf Tryd.func68 true 11 ?_; intro q
 obtain ⟨r1, c2, hF⟩ := bind1_inv hF
 refine wc 2 (ok_ref01_Round H c2) ?_; intro q
 obtain rfl := some1_inv hF
 exact wrp
noncomputable def ref01_Div_j1 (j4 : Int) : Option (Int × Bool) :=
  bind1 (ref01_Round j4) fun r6 =>
  some (r6, true)
noncomputable def ref01_Div  (p0 : Int) (p1 : Int) : Option (Int × Bool) :=
  if (p1 == 0) = true then (some (0, false))
  else (bind1 (quoI .i64 (IntKind.wrap .i64 p0) (IntKind.wrap .i64 p1)) fun v1 =>
  if (((IntKind.wrap .i64 (v1 * (IntKind.wrap .i64 p1))) != (IntKind.wrap .i64 p0)) && ((decide ((IntKind.wrap .i64 p0) < 0)) != (decide ((IntKind.wrap .i64 p1) < 0)))) = true then (ref01_Div_j1 (IntKind.wrap .i64 (v1 - 1)))
  else (ref01_Div_j1 v1))
theorem ok_ref01_Div (H : Heap) {p0 : Int} {p1 : Int} {ra : Int} {rb : Bool} (hF : ref01_Div p0 p1 = some (ra, rb)) : evS X 69 [.one .top (.int .i32 p0), .one .top (.int .i32 p1)] H = some (.tup [.one .top (.int .i32 ra), .one .top (.bool rb)], H) := by
 refine wf Tryd.func69 true 11 ?_; intro q
 refine wi 5 14 hF (fun _ hF => ?_) (fun _ hF => ?_)
 intro q
 obtain ⟨rfl, rfl⟩ := some2_inv hF
 exact wrp
 intro q
 obtain ⟨v1, h2, hF⟩ := bind1_inv hF
 refine wbi 11 h2 .i64 (ev_quo (P := X.P) (ty := 3) (x := (.tmp 15)) (y := (.tmp 16)) (m := .top) (m' := .top) (k := .i64) (a := (IntKind.wrap .i64 p0)) (b := (IntKind.wrap .i64 p1))) ?_; intro q
 refine wr 0 (fun x => ut [(29, vb x)] [6, 7, 18, 19, 20, 21, 22, 23]) (((IntKind.wrap .i64 (v1 * (IntKind.wrap .i64 p1))) != (IntKind.wrap .i64 p0)) && ((decide ((IntKind.wrap .i64 p0) < 0)) != (decide ((IntKind.wrap .i64 p1) < 0)))) ?_ ?_; intro q
 refine wb [22, 23] ((IntKind.wrap .i64 (v1 * (IntKind.wrap .i64 p1))) != (IntKind.wrap .i64 p0)) 7 7 (fun h3 => ?_) (fun h3 => ?_)
 intro q
 exact wl ((decide ((IntKind.wrap .i64 p0) < 0)) != (decide ((IntKind.wrap .i64 p1) < 0))) (by first | (simp only [h3]; done) | (simp only [h3]; rfl) | simp [h3])
 intro q
 exact wl false (by first | (simp only [h3]; done) | (simp only [h3]; rfl) | simp [h3])
 intro q
 refine wj 3 0 (fun x => ut [(8, vi x)] [29]) ref01_Div_j1 (ra, rb) ?_ ?_
 rintro j4 hF q
 obtain ⟨r6, c7, hF⟩ := bind1_inv hF
 refine wc 3 (ok_ref01_Round H c7) ?_; intro q
 obtain ⟨rfl, rfl⟩ := some2_inv hF
 exact wrp
 intro hJ5 q
 refine wi 5 1 hF (fun _ hF => ?_) (fun _ hF => ?_)
 intro q
 exact we hJ5 (IntKind.wrap .i64 (v1 - 1)) hF
 intro q
 exact we hJ5 v1 hF
noncomputable def ref01_Mod  (p0 : Int) (p1 : Int) : Option (Int × Bool) :=
  bind2 (ref01_Div p0 p1) fun r1 r2 =>
  if (!r2) = true then (some (0, false))
  else (bind1 (ref01_Round (IntKind.wrap .i64 ((IntKind.wrap .i64 p0) - (IntKind.wrap .i64 ((IntKind.wrap .i64 r1) * (IntKind.wrap .i64 p1)))))) fun r4 =>
  some (r4, true))
theorem ok_ref01_Mod (H : Heap) {p0 : Int} {p1 : Int} {ra : Int} {rb : Bool} (hF : ref01_Mod p0 p1 = some (ra, rb)) : evS X 70 [.one .top (.int .i32 p0), .one .top (.int .i32 p1)] H = some (.tup [.one .top (.int .i32 ra), .one .top (.bool rb)], H) := by
 refine wf Tryd.func70 true 9 ?_; intro q
 obtain ⟨r1, r2, c3, hF⟩ := bind2_inv hF
 refine wc 12 (ok_ref01_Div H c3) ?_; intro q
 refine wi 5 11 hF (fun _ hF => ?_) (fun _ hF => ?_)
 intro q
 obtain ⟨rfl, rfl⟩ := some2_inv hF
 exact wrp
 intro q
 obtain ⟨r4, c5, hF⟩ := bind1_inv hF
 refine wc 3 (ok_ref01_Round H c5) ?_; intro q
 obtain ⟨rfl, rfl⟩ := some2_inv hF
 exact wrp
noncomputable def ref04_is  (p0 : Bool) : Option (Int) :=
  if p0 = true then (some 1)
  else (some 0)
theorem ok_ref04_is (H : Heap) {p0 : Bool} {ra : Int} (hF : ref04_is p0 = some ra) : evS X 71 [.one .top (.bool p0)] H = some (.one .top (.int .u32 ra), H) := by
 refine wf Tryd.func71 true 9 ?_; intro q
 refine wi 4 5 hF (fun _ hF => ?_) (fun _ hF => ?_)
 intro q
 obtain rfl := some1_inv hF
 exact wrp
 intro q
 obtain rfl := some1_inv hF
 exact wrp
noncomputable def ref04_reckon  (p0 : Int) (p1 : Int) (p2 : Int) : Option (Int × Bool) :=
  if (p0 == 6) = true then (some ((IntKind.wrap .u32 (p1 + p2)), true))
  else (if (p0 == 7) = true then (some ((IntKind.wrap .u32 (p1 - p2)), true))
  else (if (p0 == 8) = true then (bind1 (ref01_Times (IntKind.wrap .i32 p1) (IntKind.wrap .i32 p2)) fun r1 =>
  some ((IntKind.wrap .u32 r1), true))
  else (if (p0 == 9) = true then (bind2 (ref01_Div (IntKind.wrap .i32 p1) (IntKind.wrap .i32 p2)) fun r3 r4 =>
  some ((IntKind.wrap .u32 r3), r4))
  else (if (p0 == 10) = true then (bind2 (ref01_Mod (IntKind.wrap .i32 p1) (IntKind.wrap .i32 p2)) fun r6 r7 =>
  some ((IntKind.wrap .u32 r6), r7))
  else (if (p0 == 11) = true then (some ((bitsOf .and .u32 p1 p2), true))
  else (if (p0 == 12) = true then (some ((bitsOf .or .u32 p1 p2), true))
  else (if (p0 == 13) = true then (some ((bitsOf .xor .u32 p1 p2), true))
  else (if (p0 == 14) = true then (bind1 (ref04_is (decide ((IntKind.wrap .i32 p1) < (IntKind.wrap .i32 p2)))) fun r9 =>
  some (r9, true))
  else (if (p0 == 15) = true then (bind1 (ref04_is (decide ((IntKind.wrap .i32 p1) ≤ (IntKind.wrap .i32 p2)))) fun r11 =>
  some (r11, true))
  else (if (p0 == 16) = true then (bind1 (ref04_is (p1 == p2)) fun r13 =>
  some (r13, true))
  else (if (p0 == 17) = true then (bind1 (ref04_is (p1 != p2)) fun r15 =>
  some (r15, true))
  else (some (0, true)))))))))))))
theorem ok_ref04_reckon (H : Heap) {p0 : Int} {p1 : Int} {p2 : Int} {ra : Int} {rb : Bool} (hF : ref04_reckon p0 p1 p2 = some (ra, rb)) : evS X 49 [.one .top (.int .i64 p0), .one .top (.int .u32 p1), .one .top (.int .u32 p2)] H = some (.tup [.one .top (.int .u32 ra), .one .top (.bool rb)], H) := by
 refine wf Tryd.func49 true 24 ?_; intro q
 refine wi 8 5 hF (fun _ hF => ?_) (fun _ hF => ?_)
 intro q
 obtain ⟨rfl, rfl⟩ := some2_inv hF
 exact wrp
 intro q
 refine wi 8 5 hF (fun _ hF => ?_) (fun _ hF => ?_)
 intro q
 obtain ⟨rfl, rfl⟩ := some2_inv hF
 exact wrp
 intro q
 refine wi 4 5 hF (fun _ hF => ?_) (fun _ hF => ?_)
 intro q
 obtain ⟨r1, c2, hF⟩ := bind1_inv hF
 refine wc 4 (ok_ref01_Times H c2) ?_; intro q
 obtain ⟨rfl, rfl⟩ := some2_inv hF
 exact wrp
 intro q
 refine wi 4 5 hF (fun _ hF => ?_) (fun _ hF => ?_)
 intro q
 obtain ⟨r3, r4, c5, hF⟩ := bind2_inv hF
 refine wc 14 (ok_ref01_Div H c5) ?_; intro q
 obtain ⟨rfl, rfl⟩ := some2_inv hF
 exact wrp
 intro q
 refine wi 4 5 hF (fun _ hF => ?_) (fun _ hF => ?_)
 intro q
 obtain ⟨r6, r7, c8, hF⟩ := bind2_inv hF
 refine wc 14 (ok_ref01_Mod H c8) ?_; intro q
 obtain ⟨rfl, rfl⟩ := some2_inv hF
 exact wrp
 intro q
 refine wi 8 5 hF (fun _ hF => ?_) (fun _ hF => ?_)
 intro q
 obtain ⟨rfl, rfl⟩ := some2_inv hF
 exact wrp
 intro q
 refine wi 8 5 hF (fun _ hF => ?_) (fun _ hF => ?_)
 intro q
 obtain ⟨rfl, rfl⟩ := some2_inv hF
 exact wrp
 intro q
 refine wi 8 5 hF (fun _ hF => ?_) (fun _ hF => ?_)
 intro q
 obtain ⟨rfl, rfl⟩ := some2_inv hF
 exact wrp
 intro q
 refine wi 5 5 hF (fun _ hF => ?_) (fun _ hF => ?_)
 intro q
 obtain ⟨r9, c10, hF⟩ := bind1_inv hF
 refine wc 3 (ok_ref04_is H c10) ?_; intro q
 obtain ⟨rfl, rfl⟩ := some2_inv hF
 exact wrp
 intro q
 refine wi 5 5 hF (fun _ hF => ?_) (fun _ hF => ?_)
 intro q
 obtain ⟨r11, c12, hF⟩ := bind1_inv hF
 refine wc 3 (ok_ref04_is H c12) ?_; intro q
 obtain ⟨rfl, rfl⟩ := some2_inv hF
 exact wrp
 intro q
 refine wi 5 5 hF (fun _ hF => ?_) (fun _ hF => ?_)
 intro q
 obtain ⟨r13, c14, hF⟩ := bind1_inv hF
 refine wc 3 (ok_ref04_is H c14) ?_; intro q
 obtain ⟨rfl, rfl⟩ := some2_inv hF
 exact wrp
 intro q
 refine wi 5 5 hF (fun _ hF => ?_) (fun _ hF => ?_)
 intro q
 obtain ⟨r15, c16, hF⟩ := bind1_inv hF
 refine wc 3 (ok_ref04_is H c16) ?_; intro q
 obtain ⟨rfl, rfl⟩ := some2_inv hF
 exact wrp
 intro q
 obtain ⟨rfl, rfl⟩ := some2_inv hF
 exact wrp
noncomputable def ref04_trap  (p0 : T_ref04_Cpu) (p1 : Int) : Option (T_ref04_Cpu) :=
  if (decide (p0.PC_ < p0.Guard_)) = true then (bind1 (ref04_fault p0 111) fun r1 =>
  some r1)
  else (some (T_ref04_Cpu.mk p0.R_ p0.Vector_ p0.PC_ p1 p0.State_ p0.Why_ p0.Steps_ p0.Taken_ p0.Out_ p0.Entry_ p0.Vector_ p0.Guard_ p0.Limit_ p0.Input_))
theorem ok_ref04_trap (H : Heap) {p0 : T_ref04_Cpu} {p1 : Int} {ra : T_ref04_Cpu} (hF : ref04_trap p0 p1 = some ra) : evS X 50 [.agg (m1_ref04_Cpu p0), .one .top (.int .u32 p1)] H = some (.agg (m1_ref04_Cpu ra), H) := by
 refine wf Tryd.func50 true 14 ?_; intro q
 refine wi 3 20 hF (fun _ hF => ?_) (fun _ hF => ?_)
 intro q
 obtain ⟨r1, c2, hF⟩ := bind1_inv hF
 refine wc 2 (ok_ref04_fault H c2) ?_; intro q
 obtain rfl := some1_inv hF
 exact wrp
 intro q
 obtain rfl := some1_inv hF
 exact wrp
theorem ok_ref03_with_3 (H : Heap) {p0 : T_ref03_Mem} {p1 : Int} {p2 : (List Int)} {ra : T_ref03_Mem} (hF : ref03_with p0 p1 p2 = some ra) : evS X 44 [.agg (m0_ref03_Mem p0), .one .top (.int .i64 p1), .one (.own 1) (.sl 1 (List.map (eI .u32) p2))] H = some (.agg (m0_ref03_Mem ra), H) := by
 refine wf Tryd.func44 true 9 ?_; intro q
 refine wle 0 p0.W_ (eI .u32) ?_; intro q
 obtain ⟨v1, h2, hF⟩ := bind1_inv hF
 refine wmk 7 h2 (eI .u32) ?_; intro q
 obtain ⟨v3, h4, hF⟩ := bind1_inv hF
 refine wcp 7 (.tmp 7) h4 (Nat.zero_le _) (eI .u32) ?_; intro q
 obtain ⟨b14, hL13, hF⟩ := bind1_inv hF
 refine wL (fun (x : ((List Int) × Int)) => ut [(7, .one (.own 1) (.sl 1 (List.map (eI .u32) x.1))), (8, vi x.2)] []) (fun (y : ((List Int))) => wz (.exit 0) (ut [(7, .one (.own 1) (.sl 1 (List.map (eI .u32) y)))] [1, 2, 8])) hL13 ?_ ?_
 rintro ⟨a5, a6⟩ o hF q
 refine go 5 ?_; intro q
 refine wle 2 p2 (eI .u32) ?_; intro q
 refine wi 10 0 hF (fun _ hF => ?_) (fun _ hF => ?_)
 intro q
 obtain ⟨x7, h8, hF⟩ := bind1_inv hF
 refine wix 1 h8 (eI .u32) ?_; intro q
 obtain ⟨x9, h10, hF⟩ := bind1_inv hF
 refine wxA 0 (.tmp 7) h10 (eI .u32) (List.length_map (eI .u32)) ?_; intro q
 obtain ⟨v11, h12, hF⟩ := bind1_inv hF
 refine wsE 7 (.tmp 7) 0 h10 h12 (eI .u32) ?_; intro q
 exact wln _ hF
 intro q
 exact wlx _ hF
 intro q
 refine go 12 ?_; intro q
 obtain rfl := some1_inv hF
 exact wrp
noncomputable def ref03_Store  (p0 : T_ref03_Mem) (p1 : Int) (p2 : Int) : Option (T_ref03_Mem × Int) :=
  bind2 (ref03_Load p0 p1) fun r1 r2 =>
  if (r2 != 0) = true then (some (p0, r2))
  else (if (decide (p1 < (p0.Ends_.g 1))) = true then (some (p0, 32))
  else (bind1 (ref03_with p0 (IntKind.wrap .i64 (IntKind.wrap .u32 (Int.tdiv p1 4))) ([p2] : List Int)) fun r4 =>
  some (r4, 0)))
theorem ok_ref03_Store (H : Heap) {p0 : T_ref03_Mem} {p1 : Int} {p2 : Int} {ra : T_ref03_Mem} {rb : Int} (hF : ref03_Store p0 p1 p2 = some (ra, rb)) : evS X 51 [.agg (m0_ref03_Mem p0), .one .top (.int .u32 p1), .one .top (.int .u32 p2)] H = some (.tup [.agg (m0_ref03_Mem ra), .one .top (.int .i64 rb)], H) := by
 refine wf Tryd.func51 true 11 ?_; intro q
 obtain ⟨r1, r2, c3, hF⟩ := bind2_inv hF
 refine wc 11 (ok_ref03_Load H c3) ?_; intro q
 refine wi 7 10 hF (fun _ hF => ?_) (fun _ hF => ?_)
 intro q
 obtain ⟨rfl, rfl⟩ := some2_inv hF
 exact wrp
 intro q
 refine wi 6 9 hF (fun _ hF => ?_) (fun _ hF => ?_)
 intro q
 obtain ⟨rfl, rfl⟩ := some2_inv hF
 exact wrp
 intro q
 obtain ⟨r4, c5, hF⟩ := bind1_inv hF
 refine wc 3 (ok_ref03_with_3 H c5) ?_; intro q
 obtain ⟨rfl, rfl⟩ := some2_inv hF
 exact wrp
noncomputable def ref04_others_j1 (j1 : Int) (j2 : T_ref04_Cpu) : Option (T_ref04_Cpu) :=
  some (T_ref04_Cpu.mk j2.R_ j1 j2.EPC_ j2.Cause_ j2.State_ j2.Why_ j2.Steps_ j2.Taken_ j2.Out_ j2.Entry_ j2.Vector_ j2.Guard_ j2.Limit_ j2.Input_)
noncomputable def ref04_others  (p0 : T_ref04_Cpu) (p1 : T_ref02_Instr) (p2 : Int) : Option (T_ref04_Cpu) :=
  if (p1.Op_ == 24) = true then (ref04_others_j1 p2 p0)
  else (if (p1.Op_ == 25) = true then (ref04_others_j1 p2 (T_ref04_Cpu.mk (arrL [(p0.R_.g 0), (p0.R_.g 1), (p0.R_.g 2), (p0.R_.g 3), (p0.R_.g 4), (p0.R_.g 5), (p0.R_.g 6), (p0.R_.g 7), (p0.R_.g 8), (p0.R_.g 9), (p0.R_.g 10), (p0.R_.g 11), (p0.R_.g 12), (p0.R_.g 13), (IntKind.wrap .u32 (p0.PC_ + 4)), (p0.R_.g 15)] : Arr 16 Int) p0.PC_ p0.EPC_ p0.Cause_ p0.State_ p0.Why_ p0.Steps_ p0.Taken_ p0.Out_ p0.Entry_ p0.Vector_ p0.Guard_ p0.Limit_ p0.Input_))
  else (if (p1.Op_ == 26) = true then (if (decide (p2 ≥ (IntKind.wrap .u32 p1.Imm_))) = true then (bind1 (ref04_trap p0 (IntKind.wrap .u32 p1.B_)) fun r4 =>
  some r4)
  else (ref04_others_j1 (IntKind.wrap .u32 (p0.PC_ + 4)) p0))
  else (if (p1.Op_ == 27) = true then (if (p2 == 0) = true then (bind1 (ref04_trap p0 2) fun r6 =>
  some r6)
  else (ref04_others_j1 (IntKind.wrap .u32 (p0.PC_ + 4)) p0))
  else (if (p1.Op_ == 28) = true then (bind1 (ref04_trap p0 (IntKind.wrap .u32 p1.Imm_)) fun r8 =>
  some r8)
  else (if (p1.Op_ == 29) = true then (bind1 (ref04_trap p0 p2) fun r10 =>
  some r10)
  else (if (p1.Op_ == 30) = true then (bind1 (app 16 ([] : List T_api_Event) p0.Out_) fun v12 =>
  bind1 (app 16 v12 ([(T_api_Event.mk p1.Imm_ (IntKind.wrap .i32 p2))] : List T_api_Event)) fun v14 =>
  ref04_others_j1 (IntKind.wrap .u32 (p0.PC_ + 4)) (T_ref04_Cpu.mk p0.R_ p0.PC_ p0.EPC_ p0.Cause_ p0.State_ p0.Why_ p0.Steps_ p0.Taken_ v14 p0.Entry_ p0.Vector_ p0.Guard_ p0.Limit_ p0.Input_))
  else (if (p1.Op_ == 31) = true then (if (decide (p0.Taken_ ≥ (p0.Input_.length : Int))) = true then (bind1 (ref04_trap p0 7) fun r16 =>
  some r16)
  else (bind1 (gi p0.Input_ p0.Taken_) fun x18 =>
  bind1 (ga p0.R_ p1.A_) fun v20 =>
  bind1 (sa p0.R_ p1.A_ (IntKind.wrap .u32 x18)) fun v22 =>
  ref04_others_j1 (IntKind.wrap .u32 (p0.PC_ + 4)) (T_ref04_Cpu.mk v22 p0.PC_ p0.EPC_ p0.Cause_ p0.State_ p0.Why_ p0.Steps_ (IntKind.wrap .i64 (p0.Taken_ + 1)) p0.Out_ p0.Entry_ p0.Vector_ p0.Guard_ p0.Limit_ p0.Input_)))
  else (if (p1.Op_ == 32) = true then (if (decide ((IntKind.wrap .i32 p2) < (IntKind.wrap .i32 p0.Limit_))) = true then (bind1 (ref04_trap p0 5) fun r24 =>
  some r24)
  else (ref04_others_j1 (IntKind.wrap .u32 (p0.PC_ + 4)) p0))
  else (if (p1.Op_ == 33) = true then (if (decide (p1.Imm_ > 1)) = true then (bind1 (ref04_fault p0 20) fun r26 =>
  some r26)
  else (bind1 (ga p0.R_ p1.A_) fun v28 =>
  bind1 (sa p0.R_ p1.A_ p0.EPC_) fun v30 =>
  if (p1.Imm_ == 1) = true then (bind1 (ga v30 p1.A_) fun v32 =>
  bind1 (sa v30 p1.A_ p0.Cause_) fun v34 =>
  ref04_others_j1 (IntKind.wrap .u32 (p0.PC_ + 4)) (T_ref04_Cpu.mk v34 p0.PC_ p0.EPC_ p0.Cause_ p0.State_ p0.Why_ p0.Steps_ p0.Taken_ p0.Out_ p0.Entry_ p0.Vector_ p0.Guard_ p0.Limit_ p0.Input_))
  else (ref04_others_j1 (IntKind.wrap .u32 (p0.PC_ + 4)) (T_ref04_Cpu.mk v30 p0.PC_ p0.EPC_ p0.Cause_ p0.State_ p0.Why_ p0.Steps_ p0.Taken_ p0.Out_ p0.Entry_ p0.Vector_ p0.Guard_ p0.Limit_ p0.Input_))))
  else (ref04_others_j1 (IntKind.wrap .u32 (p0.PC_ + 4)) p0))))))))))
theorem ok_ref04_others (H : Heap) {p0 : T_ref04_Cpu} {p1 : T_ref02_Instr} {p2 : Int} {ra : T_ref04_Cpu} (hF : ref04_others p0 p1 p2 = some ra) : evS X 52 [.agg (m1_ref04_Cpu p0), .agg (m0_ref02_Instr p1), .one .top (.int .u32 p2)] H = some (.agg (m1_ref04_Cpu ra), H) := by
 refine wf Tryd.func52 true 25 ?_; intro q
 refine wj 12 0 (fun x => up [(7, vu x.1)] [2, 4, 12, 13] [(3, (m1_ref04_Cpu x.2))] [4]) (tup2 ref04_others_j1) ra ?_ ?_
 rintro ⟨j1, j2⟩ hF q
 obtain rfl := some1_inv hF
 exact wrp
 intro hJ3 q
 refine wi 4 5 hF (fun _ hF => ?_) (fun _ hF => ?_)
 intro q
 exact we2 hJ3 p2 p0 hF
 intro q
 refine wi 11 5 hF (fun _ hF => ?_) (fun _ hF => ?_)
 intro q
 exact we2 hJ3 p2 (T_ref04_Cpu.mk (arrL [(p0.R_.g 0), (p0.R_.g 1), (p0.R_.g 2), (p0.R_.g 3), (p0.R_.g 4), (p0.R_.g 5), (p0.R_.g 6), (p0.R_.g 7), (p0.R_.g 8), (p0.R_.g 9), (p0.R_.g 10), (p0.R_.g 11), (p0.R_.g 12), (p0.R_.g 13), (IntKind.wrap .u32 (p0.PC_ + 4)), (p0.R_.g 15)] : Arr 16 Int) p0.PC_ p0.EPC_ p0.Cause_ p0.State_ p0.Why_ p0.Steps_ p0.Taken_ p0.Out_ p0.Entry_ p0.Vector_ p0.Guard_ p0.Limit_ p0.Input_) hF
 intro q
 refine wi 8 5 hF (fun _ hF => ?_) (fun _ hF => ?_)
 intro q
 refine wi 6 1 hF (fun _ hF => ?_) (fun _ hF => ?_)
 intro q
 obtain ⟨r4, c5, hF⟩ := bind1_inv hF
 refine wc 2 (ok_ref04_trap H c5) ?_; intro q
 obtain rfl := some1_inv hF
 exact wrp
 intro q
 exact we2 hJ3 (IntKind.wrap .u32 (p0.PC_ + 4)) p0 hF
 intro q
 refine wi 5 5 hF (fun _ hF => ?_) (fun _ hF => ?_)
 intro q
 refine wi 3 1 hF (fun _ hF => ?_) (fun _ hF => ?_)
 intro q
 obtain ⟨r6, c7, hF⟩ := bind1_inv hF
 refine wc 2 (ok_ref04_trap H c7) ?_; intro q
 obtain rfl := some1_inv hF
 exact wrp
 intro q
 exact we2 hJ3 (IntKind.wrap .u32 (p0.PC_ + 4)) p0 hF
 intro q
 refine wi 6 5 hF (fun _ hF => ?_) (fun _ hF => ?_)
 intro q
 obtain ⟨r8, c9, hF⟩ := bind1_inv hF
 refine wc 2 (ok_ref04_trap H c9) ?_; intro q
 obtain rfl := some1_inv hF
 exact wrp
 intro q
 refine wi 4 5 hF (fun _ hF => ?_) (fun _ hF => ?_)
 intro q
 obtain ⟨r10, c11, hF⟩ := bind1_inv hF
 refine wc 2 (ok_ref04_trap H c11) ?_; intro q
 obtain rfl := some1_inv hF
 exact wrp
 intro q
 refine wi 7 5 hF (fun _ hF => ?_) (fun _ hF => ?_)
 intro q
 obtain ⟨v12, h13, hF⟩ := bind1_inv hF
 obtain ⟨v14, h15, hF⟩ := bind1_inv hF
 refine wA 0 (up [(54, .one .top .junk), (56, .one (.own 0) (.sl 2 (List.map e_api_Event p0.Out_))), (57, .one .top .junk), (63, .one .top .junk), (64, .one (.own 0) (.sl 2 (List.map e_api_Event v14))), (65, vl 3 23)] [] [(3, (arM .u32 16 p0.R_ ++ [(.top, .int .u32 p0.PC_), (.top, .int .u32 p0.EPC_), (.top, .int .u32 p0.Cause_), (.top, .int .i64 p0.State_), (.top, .int .i64 p0.Why_), (.top, .int .i64 p0.Steps_), (.top, .int .i64 p0.Taken_), ((.own 0), .sl 2 (List.map e_api_Event v14)), (.top, .int .u32 p0.Entry_), (.top, .int .u32 p0.Vector_), (.top, .int .u32 p0.Guard_), (.top, .int .u32 p0.Limit_), ((.own 0), .sl 1 (List.map (eI .i32) p0.Input_))]))] []) ?_ ?_; intro q
 refine walt ?_ ?_; intro q
 refine go 1 ?_; intro q
 refine walt ?_ ?_; intro q
 refine go 1 ?_; intro q
 refine walt ?_ ?_; intro q
 refine wap 1 h13 e_api_Event ?_; intro q
 refine wapZ 3 h15 e_api_Event ?_; intro q
 exact wl0
 intro q
 refine go 1 ?_; intro q
 refine wap 0 h13 e_api_Event ?_; intro q
 refine wapZ 3 h15 e_api_Event ?_; intro q
 exact wl0
 intro q
 refine go 2 ?_; intro q
 refine wap 0 h13 e_api_Event ?_; intro q
 refine wapZ 3 h15 e_api_Event ?_; intro q
 exact wl0
 intro q
 refine walt ?_ ?_; intro q
 refine go 1 ?_; intro q
 refine walt ?_ ?_; intro q
 refine go 1 ?_; intro q
 refine walt ?_ ?_; intro q
 refine wap 1 h13 e_api_Event ?_; intro q
 refine wapZ 3 h15 e_api_Event ?_; intro q
 exact wl0
 intro q
 refine go 1 ?_; intro q
 refine wap 0 h13 e_api_Event ?_; intro q
 refine wapZ 3 h15 e_api_Event ?_; intro q
 exact wl0
 intro q
 refine go 2 ?_; intro q
 refine wap 0 h13 e_api_Event ?_; intro q
 refine wapZ 3 h15 e_api_Event ?_; intro q
 exact wl0
 intro q
 refine go 1 ?_; intro q
 refine walt ?_ ?_; intro q
 refine go 2 ?_; intro q
 refine wap 0 h13 e_api_Event ?_; intro q
 refine wapZ 3 h15 e_api_Event ?_; intro q
 exact wl0
 intro q
 refine go 2 ?_; intro q
 refine wap 0 h13 e_api_Event ?_; intro q
 refine wapZ 3 h15 e_api_Event ?_; intro q
 exact wl0
 intro q
 exact we2 hJ3 (IntKind.wrap .u32 (p0.PC_ + 4)) (T_ref04_Cpu.mk p0.R_ p0.PC_ p0.EPC_ p0.Cause_ p0.State_ p0.Why_ p0.Steps_ p0.Taken_ v14 p0.Entry_ p0.Vector_ p0.Guard_ p0.Limit_ p0.Input_) hF
 intro q
 refine wi 7 5 hF (fun _ hF => ?_) (fun _ hF => ?_)
 intro q
 refine wle 2 p0.Input_ (eI .i32) ?_; intro q
 refine wi 3 8 hF (fun _ hF => ?_) (fun _ hF => ?_)
 intro q
 obtain ⟨r16, c17, hF⟩ := bind1_inv hF
 refine wc 2 (ok_ref04_trap H c17) ?_; intro q
 obtain rfl := some1_inv hF
 exact wrp
 intro q
 obtain ⟨x18, h19, hF⟩ := bind1_inv hF
 obtain ⟨v20, h21, hF⟩ := bind1_inv hF
 obtain ⟨v22, h23, hF⟩ := bind1_inv hF
 refine wA 7 (up [(79, .one (.own 0) (.sl 1 (List.map (eI .i32) p0.Input_))), (81, vi p0.Taken_), (82, .one .top (.rd (.own 0) (.own 0) [.int .i32 x18] 0)), (83, .one .top (.int .i32 x18)), (84, vu (IntKind.wrap .u32 x18)), (86, vl 3 (0 + Int.toNat p1.A_))] [] [(3, (arM .u32 16 v22 ++ [(.top, .int .u32 p0.PC_), (.top, .int .u32 p0.EPC_), (.top, .int .u32 p0.Cause_), (.top, .int .i64 p0.State_), (.top, .int .i64 p0.Why_), (.top, .int .i64 p0.Steps_), (.top, .int .i64 p0.Taken_), ((.own 0), .sl 2 (List.map e_api_Event p0.Out_)), (.top, .int .u32 p0.Entry_), (.top, .int .u32 p0.Vector_), (.top, .int .u32 p0.Guard_), (.top, .int .u32 p0.Limit_), ((.own 0), .sl 1 (List.map (eI .i32) p0.Input_))]))] []) ?_ ?_; intro q
 refine walt ?_ ?_; intro q
 refine go 2 ?_; intro q
 refine wix 2 h19 (eI .i32) ?_; intro q
 refine wiL 0 3 0 h21 ?_; intro q
 refine wsL 1 3 0 h23 (fun q => .int .u32 q) ?_; intro q
 exact wl0
 intro q
 refine go 2 ?_; intro q
 refine wix 2 h19 (eI .i32) ?_; intro q
 refine wiL 0 3 0 h21 ?_; intro q
 refine wsL 1 3 0 h23 (fun q => .int .u32 q) ?_; intro q
 exact wl0
 intro q
 exact we2 hJ3 (IntKind.wrap .u32 (p0.PC_ + 4)) (T_ref04_Cpu.mk v22 p0.PC_ p0.EPC_ p0.Cause_ p0.State_ p0.Why_ p0.Steps_ (IntKind.wrap .i64 (p0.Taken_ + 1)) p0.Out_ p0.Entry_ p0.Vector_ p0.Guard_ p0.Limit_ p0.Input_) hF
 intro q
 refine wi 9 5 hF (fun _ hF => ?_) (fun _ hF => ?_)
 intro q
 refine wi 3 1 hF (fun _ hF => ?_) (fun _ hF => ?_)
 intro q
 obtain ⟨r24, c25, hF⟩ := bind1_inv hF
 refine wc 2 (ok_ref04_trap H c25) ?_; intro q
 obtain rfl := some1_inv hF
 exact wrp
 intro q
 exact we2 hJ3 (IntKind.wrap .u32 (p0.PC_ + 4)) p0 hF
 intro q
 refine wi 7 1 hF (fun _ hF => ?_) (fun _ hF => ?_)
 intro q
 refine wi 3 8 hF (fun _ hF => ?_) (fun _ hF => ?_)
 intro q
 obtain ⟨r26, c27, hF⟩ := bind1_inv hF
 refine wc 2 (ok_ref04_fault H c27) ?_; intro q
 obtain rfl := some1_inv hF
 exact wrp
 intro q
 obtain ⟨v28, h29, hF⟩ := bind1_inv hF
 refine wiL 0 3 0 h29 ?_; intro q
 obtain ⟨v30, h31, hF⟩ := bind1_inv hF
 refine wsL 7 3 0 h31 (fun q => .int .u32 q) ?_; intro q
 refine wi 6 1 hF (fun _ hF => ?_) (fun _ hF => ?_)
 intro q
 obtain ⟨v32, h33, hF⟩ := bind1_inv hF
 refine wiL 0 3 0 h33 ?_; intro q
 obtain ⟨v34, h35, hF⟩ := bind1_inv hF
 refine wsL 1 3 0 h35 (fun q => .int .u32 q) ?_; intro q
 exact we2 hJ3 (IntKind.wrap .u32 (p0.PC_ + 4)) (T_ref04_Cpu.mk v34 p0.PC_ p0.EPC_ p0.Cause_ p0.State_ p0.Why_ p0.Steps_ p0.Taken_ p0.Out_ p0.Entry_ p0.Vector_ p0.Guard_ p0.Limit_ p0.Input_) hF
 intro q
 exact we2 hJ3 (IntKind.wrap .u32 (p0.PC_ + 4)) (T_ref04_Cpu.mk v30 p0.PC_ p0.EPC_ p0.Cause_ p0.State_ p0.Why_ p0.Steps_ p0.Taken_ p0.Out_ p0.Entry_ p0.Vector_ p0.Guard_ p0.Limit_ p0.Input_) hF
 intro q
 exact we2 hJ3 (IntKind.wrap .u32 (p0.PC_ + 4)) p0 hF
noncomputable def ref04_do_j1 (j17 : Int) (j18 : T_ref04_Cpu) (j19 : T_ref03_Mem) : Option (T_ref04_Cpu × T_ref03_Mem) :=
  some ((T_ref04_Cpu.mk j18.R_ j17 j18.EPC_ j18.Cause_ j18.State_ j18.Why_ j18.Steps_ j18.Taken_ j18.Out_ j18.Entry_ j18.Vector_ j18.Guard_ j18.Limit_ j18.Input_), j19)
noncomputable def ref04_do  (p0 : T_ref04_Cpu) (p1 : T_ref03_Mem) (p2 : T_ref02_Instr) : Option (T_ref04_Cpu × T_ref03_Mem) :=
  bind1 (ga p0.R_ p2.A_) fun v1 =>
  bind1 (ga p0.R_ p2.B_) fun v3 =>
  if ((decide (p2.Op_ ≥ 6)) && (decide (p2.Op_ ≤ 17))) = true then (bind1 (ga p0.R_ p2.C_) fun v6 =>
  bind2 (ref04_reckon p2.Op_ v3 v6) fun r8 r9 =>
  if (!r9) = true then (bind1 (ref04_trap p0 3) fun r11 =>
  some (r11, p1))
  else (bind1 (ga p0.R_ p2.A_) fun v13 =>
  bind1 (sa p0.R_ p2.A_ r8) fun v15 =>
  some ((T_ref04_Cpu.mk v15 (IntKind.wrap .u32 (p0.PC_ + 4)) p0.EPC_ p0.Cause_ p0.State_ p0.Why_ p0.Steps_ p0.Taken_ p0.Out_ p0.Entry_ p0.Vector_ p0.Guard_ p0.Limit_ p0.Input_), p1)))
  else (if (p2.Op_ == 1) = true then (some ((T_ref04_Cpu.mk p0.R_ p0.PC_ p0.EPC_ p0.Cause_ 1 p0.Why_ p0.Steps_ p0.Taken_ p0.Out_ p0.Entry_ p0.Vector_ p0.Guard_ p0.Limit_ p0.Input_), p1))
  else (if (p2.Op_ == 2) = true then (bind1 (ga p0.R_ p2.A_) fun v21 =>
  bind1 (sa p0.R_ p2.A_ (IntKind.wrap .u32 p2.Imm_)) fun v23 =>
  ref04_do_j1 (IntKind.wrap .u32 (p0.PC_ + 4)) (T_ref04_Cpu.mk v23 p0.PC_ p0.EPC_ p0.Cause_ p0.State_ p0.Why_ p0.Steps_ p0.Taken_ p0.Out_ p0.Entry_ p0.Vector_ p0.Guard_ p0.Limit_ p0.Input_) p1)
  else (if (p2.Op_ == 3) = true then (bind1 (ga p0.R_ p2.A_) fun v25 =>
  bind1 (sa p0.R_ p2.A_ (IntKind.wrap .u32 ((IntKind.wrap .u32 p2.Imm_) * 65536))) fun v27 =>
  ref04_do_j1 (IntKind.wrap .u32 (p0.PC_ + 4)) (T_ref04_Cpu.mk v27 p0.PC_ p0.EPC_ p0.Cause_ p0.State_ p0.Why_ p0.Steps_ p0.Taken_ p0.Out_ p0.Entry_ p0.Vector_ p0.Guard_ p0.Limit_ p0.Input_) p1)
  else (if (p2.Op_ == 4) = true then (bind1 (ga p0.R_ p2.A_) fun v29 =>
  bind1 (sa p0.R_ p2.A_ (bitsOf .or .u32 v3 (IntKind.wrap .u32 p2.Imm_))) fun v31 =>
  ref04_do_j1 (IntKind.wrap .u32 (p0.PC_ + 4)) (T_ref04_Cpu.mk v31 p0.PC_ p0.EPC_ p0.Cause_ p0.State_ p0.Why_ p0.Steps_ p0.Taken_ p0.Out_ p0.Entry_ p0.Vector_ p0.Guard_ p0.Limit_ p0.Input_) p1)
  else (if (p2.Op_ == 5) = true then (bind1 (ga p0.R_ p2.A_) fun v33 =>
  bind1 (sa p0.R_ p2.A_ (IntKind.wrap .u32 (v3 + (IntKind.wrap .u32 p2.Imm_)))) fun v35 =>
  ref04_do_j1 (IntKind.wrap .u32 (p0.PC_ + 4)) (T_ref04_Cpu.mk v35 p0.PC_ p0.EPC_ p0.Cause_ p0.State_ p0.Why_ p0.Steps_ p0.Taken_ p0.Out_ p0.Entry_ p0.Vector_ p0.Guard_ p0.Limit_ p0.Input_) p1)
  else (if (p2.Op_ == 34) = true then (bind1 (ga p0.R_ p2.A_) fun v37 =>
  bind1 (sa p0.R_ p2.A_ (bitsOf .xor .u32 v3 (IntKind.wrap .u32 p2.Imm_))) fun v39 =>
  ref04_do_j1 (IntKind.wrap .u32 (p0.PC_ + 4)) (T_ref04_Cpu.mk v39 p0.PC_ p0.EPC_ p0.Cause_ p0.State_ p0.Why_ p0.Steps_ p0.Taken_ p0.Out_ p0.Entry_ p0.Vector_ p0.Guard_ p0.Limit_ p0.Input_) p1)
  else (if (p2.Op_ == 18) = true then (bind2 (ref03_Load p1 (IntKind.wrap .u32 (v3 + (IntKind.wrap .u32 p2.Imm_)))) fun r41 r42 =>
  if (r42 != 0) = true then (bind1 (ref04_fault p0 r42) fun r44 =>
  some (r44, p1))
  else (bind1 (ga p0.R_ p2.A_) fun v46 =>
  bind1 (sa p0.R_ p2.A_ r41) fun v48 =>
  ref04_do_j1 (IntKind.wrap .u32 (p0.PC_ + 4)) (T_ref04_Cpu.mk v48 p0.PC_ p0.EPC_ p0.Cause_ p0.State_ p0.Why_ p0.Steps_ p0.Taken_ p0.Out_ p0.Entry_ p0.Vector_ p0.Guard_ p0.Limit_ p0.Input_) p1))
  else (if (p2.Op_ == 19) = true then (bind2 (ref03_Store p1 (IntKind.wrap .u32 (v3 + (IntKind.wrap .u32 p2.Imm_))) v1) fun r50 r51 =>
  if (r51 != 0) = true then (bind1 (ref04_fault p0 r51) fun r53 =>
  some (r53, p1))
  else (ref04_do_j1 (IntKind.wrap .u32 (p0.PC_ + 4)) p0 r50))
  else (if (p2.Op_ == 20) = true then (if (v1 == 0) = true then (ref04_do_j1 (IntKind.wrap .u32 ((IntKind.wrap .u32 (p0.PC_ + 4)) + (IntKind.wrap .u32 (4 * (IntKind.wrap .u32 p2.Imm_))))) p0 p1)
  else (ref04_do_j1 (IntKind.wrap .u32 (p0.PC_ + 4)) p0 p1))
  else (if (p2.Op_ == 21) = true then (if (v1 != 0) = true then (ref04_do_j1 (IntKind.wrap .u32 ((IntKind.wrap .u32 (p0.PC_ + 4)) + (IntKind.wrap .u32 (4 * (IntKind.wrap .u32 p2.Imm_))))) p0 p1)
  else (ref04_do_j1 (IntKind.wrap .u32 (p0.PC_ + 4)) p0 p1))
  else (if (p2.Op_ == 22) = true then (ref04_do_j1 (IntKind.wrap .u32 ((IntKind.wrap .u32 (p0.PC_ + 4)) + (IntKind.wrap .u32 (4 * (IntKind.wrap .u32 p2.Imm_))))) p0 p1)
  else (if (p2.Op_ == 23) = true then (ref04_do_j1 (IntKind.wrap .u32 ((IntKind.wrap .u32 (p0.PC_ + 4)) + (IntKind.wrap .u32 (4 * (IntKind.wrap .u32 p2.Imm_))))) (T_ref04_Cpu.mk (arrL [(p0.R_.g 0), (p0.R_.g 1), (p0.R_.g 2), (p0.R_.g 3), (p0.R_.g 4), (p0.R_.g 5), (p0.R_.g 6), (p0.R_.g 7), (p0.R_.g 8), (p0.R_.g 9), (p0.R_.g 10), (p0.R_.g 11), (p0.R_.g 12), (p0.R_.g 13), (IntKind.wrap .u32 (p0.PC_ + 4)), (p0.R_.g 15)] : Arr 16 Int) p0.PC_ p0.EPC_ p0.Cause_ p0.State_ p0.Why_ p0.Steps_ p0.Taken_ p0.Out_ p0.Entry_ p0.Vector_ p0.Guard_ p0.Limit_ p0.Input_) p1)
  else (bind1 (ref04_others p0 p2 v1) fun r55 =>
  some (r55, p1))))))))))))))
theorem ok_ref04_do (H : Heap) {p0 : T_ref04_Cpu} {p1 : T_ref03_Mem} {p2 : T_ref02_Instr} {ra : T_ref04_Cpu} {rb : T_ref03_Mem} (hF : ref04_do p0 p1 p2 = some (ra, rb)) : evS X 32 [.agg (m1_ref04_Cpu p0), .agg (m0_ref03_Mem p1), .agg (m0_ref02_Instr p2)] H = some (.tup [.agg (m1_ref04_Cpu ra), .agg (m0_ref03_Mem rb)], H) := by
 refine wf Tryd.func32 true 13 ?_; intro q
 obtain ⟨v1, h2, hF⟩ := bind1_inv hF
 refine wiL 0 3 0 h2 ?_; intro q
 refine wdL 3 3 0 h2 (fun q => .int .u32 q) ?_; intro q
 obtain ⟨v3, h4, hF⟩ := bind1_inv hF
 refine wiL 0 3 0 h4 ?_; intro q
 refine wdL 38 3 0 h4 (fun q => .int .u32 q) ?_; intro q
 refine wr 0 (fun x => ut [(49, vb x)] [42, 43, 44, 45]) ((decide (p2.Op_ ≥ 6)) && (decide (p2.Op_ ≤ 17))) ?_ ?_; intro q
 refine wb [44, 45] (decide (p2.Op_ ≥ 6)) 5 5 (fun h5 => ?_) (fun h5 => ?_)
 intro q
 exact wl (decide (p2.Op_ ≤ 17)) (by first | (simp only [h5]; done) | (simp only [h5]; rfl) | simp [h5])
 intro q
 exact wl false (by first | (simp only [h5]; done) | (simp only [h5]; rfl) | simp [h5])
 intro q
 refine wi 8 13 hF (fun _ hF => ?_) (fun _ hF => ?_)
 intro q
 obtain ⟨v6, h7, hF⟩ := bind1_inv hF
 refine wiL 0 3 0 h7 ?_; intro q
 refine wdL 0 3 0 h7 (fun q => .int .u32 q) ?_; intro q
 obtain ⟨r8, r9, c10, hF⟩ := bind2_inv hF
 refine wc 12 (ok_ref04_reckon H c10) ?_; intro q
 refine wi 4 7 hF (fun _ hF => ?_) (fun _ hF => ?_)
 intro q
 obtain ⟨r11, c12, hF⟩ := bind1_inv hF
 refine wc 3 (ok_ref04_trap H c12) ?_; intro q
 obtain ⟨rfl, rfl⟩ := some2_inv hF
 exact wrp
 intro q
 obtain ⟨v13, h14, hF⟩ := bind1_inv hF
 refine wiL 0 3 0 h14 ?_; intro q
 obtain ⟨v15, h16, hF⟩ := bind1_inv hF
 refine wsL 14 3 0 h16 (fun q => .int .u32 q) ?_; intro q
 obtain ⟨rfl, rfl⟩ := some2_inv hF
 exact wrp
 intro q
 refine wi 12 5 hF (fun _ hF => ?_) (fun _ hF => ?_)
 intro q
 obtain ⟨rfl, rfl⟩ := some2_inv hF
 exact wrp
 intro q
 refine wj 14 0 (fun x => up [(12, vu x.1)] [5, 8, 9, 10, 11, 13, 77, 88] [(3, (m1_ref04_Cpu x.2.1)), (4, (m0_ref03_Mem x.2.2))] [5]) (tup3 ref04_do_j1) (ra, rb) ?_ ?_
 rintro ⟨j17, j18, j19⟩ hF q
 obtain ⟨rfl, rfl⟩ := some2_inv hF
 exact wrp
 intro hJ20 q
 refine wi 5 5 hF (fun _ hF => ?_) (fun _ hF => ?_)
 intro q
 obtain ⟨v21, h22, hF⟩ := bind1_inv hF
 refine wiL 0 3 0 h22 ?_; intro q
 obtain ⟨v23, h24, hF⟩ := bind1_inv hF
 refine wsL 1 3 0 h24 (fun q => .int .u32 q) ?_; intro q
 exact we3 hJ20 (IntKind.wrap .u32 (p0.PC_ + 4)) (T_ref04_Cpu.mk v23 p0.PC_ p0.EPC_ p0.Cause_ p0.State_ p0.Why_ p0.Steps_ p0.Taken_ p0.Out_ p0.Entry_ p0.Vector_ p0.Guard_ p0.Limit_ p0.Input_) p1 hF
 intro q
 refine wi 6 5 hF (fun _ hF => ?_) (fun _ hF => ?_)
 intro q
 obtain ⟨v25, h26, hF⟩ := bind1_inv hF
 refine wiL 0 3 0 h26 ?_; intro q
 obtain ⟨v27, h28, hF⟩ := bind1_inv hF
 refine wsL 1 3 0 h28 (fun q => .int .u32 q) ?_; intro q
 exact we3 hJ20 (IntKind.wrap .u32 (p0.PC_ + 4)) (T_ref04_Cpu.mk v27 p0.PC_ p0.EPC_ p0.Cause_ p0.State_ p0.Why_ p0.Steps_ p0.Taken_ p0.Out_ p0.Entry_ p0.Vector_ p0.Guard_ p0.Limit_ p0.Input_) p1 hF
 intro q
 refine wi 7 5 hF (fun _ hF => ?_) (fun _ hF => ?_)
 intro q
 obtain ⟨v29, h30, hF⟩ := bind1_inv hF
 refine wiL 0 3 0 h30 ?_; intro q
 obtain ⟨v31, h32, hF⟩ := bind1_inv hF
 refine wsL 1 3 0 h32 (fun q => .int .u32 q) ?_; intro q
 exact we3 hJ20 (IntKind.wrap .u32 (p0.PC_ + 4)) (T_ref04_Cpu.mk v31 p0.PC_ p0.EPC_ p0.Cause_ p0.State_ p0.Why_ p0.Steps_ p0.Taken_ p0.Out_ p0.Entry_ p0.Vector_ p0.Guard_ p0.Limit_ p0.Input_) p1 hF
 intro q
 refine wi 7 5 hF (fun _ hF => ?_) (fun _ hF => ?_)
 intro q
 obtain ⟨v33, h34, hF⟩ := bind1_inv hF
 refine wiL 0 3 0 h34 ?_; intro q
 obtain ⟨v35, h36, hF⟩ := bind1_inv hF
 refine wsL 1 3 0 h36 (fun q => .int .u32 q) ?_; intro q
 exact we3 hJ20 (IntKind.wrap .u32 (p0.PC_ + 4)) (T_ref04_Cpu.mk v35 p0.PC_ p0.EPC_ p0.Cause_ p0.State_ p0.Why_ p0.Steps_ p0.Taken_ p0.Out_ p0.Entry_ p0.Vector_ p0.Guard_ p0.Limit_ p0.Input_) p1 hF
 intro q
 refine wi 7 5 hF (fun _ hF => ?_) (fun _ hF => ?_)
 intro q
 obtain ⟨v37, h38, hF⟩ := bind1_inv hF
 refine wiL 0 3 0 h38 ?_; intro q
 obtain ⟨v39, h40, hF⟩ := bind1_inv hF
 refine wsL 1 3 0 h40 (fun q => .int .u32 q) ?_; intro q
 exact we3 hJ20 (IntKind.wrap .u32 (p0.PC_ + 4)) (T_ref04_Cpu.mk v39 p0.PC_ p0.EPC_ p0.Cause_ p0.State_ p0.Why_ p0.Steps_ p0.Taken_ p0.Out_ p0.Entry_ p0.Vector_ p0.Guard_ p0.Limit_ p0.Input_) p1 hF
 intro q
 refine wi 6 5 hF (fun _ hF => ?_) (fun _ hF => ?_)
 intro q
 obtain ⟨r41, r42, c43, hF⟩ := bind2_inv hF
 refine wc 12 (ok_ref03_Load H c43) ?_; intro q
 refine wi 5 6 hF (fun _ hF => ?_) (fun _ hF => ?_)
 intro q
 obtain ⟨r44, c45, hF⟩ := bind1_inv hF
 refine wc 3 (ok_ref04_fault H c45) ?_; intro q
 obtain ⟨rfl, rfl⟩ := some2_inv hF
 exact wrp
 intro q
 obtain ⟨v46, h47, hF⟩ := bind1_inv hF
 refine wiL 0 3 0 h47 ?_; intro q
 obtain ⟨v48, h49, hF⟩ := bind1_inv hF
 refine wsL 1 3 0 h49 (fun q => .int .u32 q) ?_; intro q
 exact we3 hJ20 (IntKind.wrap .u32 (p0.PC_ + 4)) (T_ref04_Cpu.mk v48 p0.PC_ p0.EPC_ p0.Cause_ p0.State_ p0.Why_ p0.Steps_ p0.Taken_ p0.Out_ p0.Entry_ p0.Vector_ p0.Guard_ p0.Limit_ p0.Input_) p1 hF
 intro q
 refine wi 7 5 hF (fun _ hF => ?_) (fun _ hF => ?_)
 intro q
 obtain ⟨r50, r51, c52, hF⟩ := bind2_inv hF
 refine wc 13 (ok_ref03_Store H c52) ?_; intro q
 refine wi 5 5 hF (fun _ hF => ?_) (fun _ hF => ?_)
 intro q
 obtain ⟨r53, c54, hF⟩ := bind1_inv hF
 refine wc 3 (ok_ref04_fault H c54) ?_; intro q
 obtain ⟨rfl, rfl⟩ := some2_inv hF
 exact wrp
 intro q
 exact we3 hJ20 (IntKind.wrap .u32 (p0.PC_ + 4)) p0 r50 hF
 intro q
 refine wi 5 5 hF (fun _ hF => ?_) (fun _ hF => ?_)
 intro q
 refine wi 4 1 hF (fun _ hF => ?_) (fun _ hF => ?_)
 intro q
 exact we3 hJ20 (IntKind.wrap .u32 ((IntKind.wrap .u32 (p0.PC_ + 4)) + (IntKind.wrap .u32 (4 * (IntKind.wrap .u32 p2.Imm_))))) p0 p1 hF
 intro q
 exact we3 hJ20 (IntKind.wrap .u32 (p0.PC_ + 4)) p0 p1 hF
 intro q
 refine wi 5 5 hF (fun _ hF => ?_) (fun _ hF => ?_)
 intro q
 refine wi 4 1 hF (fun _ hF => ?_) (fun _ hF => ?_)
 intro q
 exact we3 hJ20 (IntKind.wrap .u32 ((IntKind.wrap .u32 (p0.PC_ + 4)) + (IntKind.wrap .u32 (4 * (IntKind.wrap .u32 p2.Imm_))))) p0 p1 hF
 intro q
 exact we3 hJ20 (IntKind.wrap .u32 (p0.PC_ + 4)) p0 p1 hF
 intro q
 refine wi 4 5 hF (fun _ hF => ?_) (fun _ hF => ?_)
 intro q
 exact we3 hJ20 (IntKind.wrap .u32 ((IntKind.wrap .u32 (p0.PC_ + 4)) + (IntKind.wrap .u32 (4 * (IntKind.wrap .u32 p2.Imm_))))) p0 p1 hF
 intro q
 refine wi 12 6 hF (fun _ hF => ?_) (fun _ hF => ?_)
 intro q
 exact we3 hJ20 (IntKind.wrap .u32 ((IntKind.wrap .u32 (p0.PC_ + 4)) + (IntKind.wrap .u32 (4 * (IntKind.wrap .u32 p2.Imm_))))) (T_ref04_Cpu.mk (arrL [(p0.R_.g 0), (p0.R_.g 1), (p0.R_.g 2), (p0.R_.g 3), (p0.R_.g 4), (p0.R_.g 5), (p0.R_.g 6), (p0.R_.g 7), (p0.R_.g 8), (p0.R_.g 9), (p0.R_.g 10), (p0.R_.g 11), (p0.R_.g 12), (p0.R_.g 13), (IntKind.wrap .u32 (p0.PC_ + 4)), (p0.R_.g 15)] : Arr 16 Int) p0.PC_ p0.EPC_ p0.Cause_ p0.State_ p0.Why_ p0.Steps_ p0.Taken_ p0.Out_ p0.Entry_ p0.Vector_ p0.Guard_ p0.Limit_ p0.Input_) p1 hF
 intro q
 obtain ⟨r55, c56, hF⟩ := bind1_inv hF
 refine wc 3 (ok_ref04_others H c56) ?_; intro q
 obtain ⟨rfl, rfl⟩ := some2_inv hF
 exact wrp
noncomputable def ref04_Step  (p0 : T_ref04_Cpu) (p1 : T_ref03_Mem) : Option (T_ref04_Cpu × T_ref03_Mem) :=
  if (p0.State_ != 0) = true then (some (p0, p1))
  else (bind2 (ref03_Fetch p1 p0.PC_) fun r1 r2 =>
  if (r2 != 0) = true then (bind1 (ref04_fault (T_ref04_Cpu.mk p0.R_ p0.PC_ p0.EPC_ p0.Cause_ p0.State_ p0.Why_ (IntKind.wrap .i64 (p0.Steps_ + 1)) p0.Taken_ p0.Out_ p0.Entry_ p0.Vector_ p0.Guard_ p0.Limit_ p0.Input_) r2) fun r4 =>
  some (r4, p1))
  else (bind2 (ref02_Decode r1) fun r6 r7 =>
  if (r7 != 0) = true then (bind1 (ref04_fault (T_ref04_Cpu.mk p0.R_ p0.PC_ p0.EPC_ p0.Cause_ p0.State_ p0.Why_ (IntKind.wrap .i64 (p0.Steps_ + 1)) p0.Taken_ p0.Out_ p0.Entry_ p0.Vector_ p0.Guard_ p0.Limit_ p0.Input_) r7) fun r9 =>
  some (r9, p1))
  else (bind2 (ref04_do (T_ref04_Cpu.mk p0.R_ p0.PC_ p0.EPC_ p0.Cause_ p0.State_ p0.Why_ (IntKind.wrap .i64 (p0.Steps_ + 1)) p0.Taken_ p0.Out_ p0.Entry_ p0.Vector_ p0.Guard_ p0.Limit_ p0.Input_) p1 r6) fun r11 r12 =>
  some (r11, r12))))
theorem ok_ref04_Step (H : Heap) {p0 : T_ref04_Cpu} {p1 : T_ref03_Mem} {ra : T_ref04_Cpu} {rb : T_ref03_Mem} (hF : ref04_Step p0 p1 = some (ra, rb)) : evS X 15 [.agg (m1_ref04_Cpu p0), .agg (m0_ref03_Mem p1)] H = some (.tup [.agg (m1_ref04_Cpu ra), .agg (m0_ref03_Mem rb)], H) := by
 refine wf Tryd.func15 true 14 ?_; intro q
 refine wi 7 14 hF (fun _ hF => ?_) (fun _ hF => ?_)
 intro q
 obtain ⟨rfl, rfl⟩ := some2_inv hF
 exact wrp
 intro q
 obtain ⟨r1, r2, c3, hF⟩ := bind2_inv hF
 refine wc 12 (ok_ref03_Fetch H c3) ?_; intro q
 refine wi 5 4 hF (fun _ hF => ?_) (fun _ hF => ?_)
 intro q
 obtain ⟨r4, c5, hF⟩ := bind1_inv hF
 refine wc 3 (ok_ref04_fault H c5) ?_; intro q
 obtain ⟨rfl, rfl⟩ := some2_inv hF
 exact wrp
 intro q
 obtain ⟨r6, r7, c8, hF⟩ := bind2_inv hF
 refine wc 13 (ok_ref02_Decode H c8) ?_; intro q
 refine wi 5 6 hF (fun _ hF => ?_) (fun _ hF => ?_)
 intro q
 obtain ⟨r9, c10, hF⟩ := bind1_inv hF
 refine wc 3 (ok_ref04_fault H c10) ?_; intro q
 obtain ⟨rfl, rfl⟩ := some2_inv hF
 exact wrp
 intro q
 obtain ⟨r11, r12, c13, hF⟩ := bind2_inv hF
 refine wc 5 (ok_ref04_do H c13) ?_; intro q
 obtain ⟨rfl, rfl⟩ := some2_inv hF
 exact wrp
noncomputable def ref16_Find_L1 (p0 : (List T_api_Segment)) (p1 : Int) (a1 : Int) (a2 : Int) : Option ((Int × Int) ⊕ ((Int))) :=
  bind1 (if (decide (a2 < (p0.length : Int))) = true then (bind1 (gi p0 a2) fun x3 =>
  some (decide (x3.Start_ ≤ p1))) else (some false)) fun w5 =>
  if w5 = true then (bind1 (gi p0 a2) fun x7 =>
  some (Sum.inl (x7.Pad_, (IntKind.wrap .i64 (a2 + 1)))))
  else (some (Sum.inr a1))
noncomputable def ref16_Find  (p0 : (List T_api_Segment)) (p1 : Int) : Option (Int) :=
  bind1 (loopO (fun (x : (Int × Int)) => ref16_Find_L1 p0 p1 x.1 x.2) (-1, 0)) (fun b10 =>
  some b10)
theorem ok_ref16_Find (H : Heap) {p0 : (List T_api_Segment)} {p1 : Int} {ra : Int} (hF : ref16_Find p0 p1 = some ra) : evS X 33 [.one .ro (.sl 2 (List.map e_api_Segment p0)), .one .top (.int .i64 p1)] H = some (.one .top (.int .i64 ra), H) := by
 refine wf Tryd.func33 true 14 ?_; intro q
 obtain ⟨b10, hL9, hF⟩ := bind1_inv hF
 refine wL (fun (x : (Int × Int)) => ut [(5, vi x.1), (6, vi x.2)] []) (fun (y : (Int)) => wz (.exit 0) (ut [(5, vi y)] [0, 1, 6])) hL9 ?_ ?_
 rintro ⟨a1, a2⟩ o hF q
 refine go 5 ?_; intro q
 refine wle 2 p0 e_api_Segment ?_; intro q
 obtain ⟨w5, hB6, hF⟩ := bind1_inv hF
 refine wr0 0 (ut [(19, vb w5)] [7, 8, 9, 10, 11]) ?_ ?_; intro q
 refine wg [10, 11] 2 9 hB6 (fun _ hB6 => ?_) (fun _ hB6 => ?_)
 intro q
 obtain ⟨x3, h4, hB6⟩ := bind1_inv hB6
 refine wix 6 h4 e_api_Segment ?_; intro q
 cases hB6
 exact wl0
 intro q
 cases hB6
 exact wl0
 intro q
 refine wi 6 0 hF (fun _ hF => ?_) (fun _ hF => ?_)
 intro q
 obtain ⟨x7, h8, hF⟩ := bind1_inv hF
 refine wix 10 h8 e_api_Segment ?_; intro q
 exact wln _ hF
 intro q
 exact wlx _ hF
 intro q
 refine go 6 ?_; intro q
 obtain rfl := some1_inv hF
 exact wrp
noncomputable def ref24_Goes_L1 (p0 : (List T_api_Segment)) (p2 : (List Int)) (a1 : Int) (a2 : Int) : Option ((Int × Int) ⊕ ((Int × Int))) :=
  bind1 (ref16_Find p0 a1) fun r3 =>
  if (r3 != (-1)) = true then (some (Sum.inr (r3, a2)))
  else (if (decide (a2 ≥ (p2.length : Int))) = true then (some (Sum.inr (-1, a2)))
  else (bind1 (gi p2 a2) fun x5 =>
  some (Sum.inl (x5, (IntKind.wrap .i64 (a2 + 1))))))
noncomputable def ref24_Goes  (p0 : (List T_api_Segment)) (p1 : Int) (p2 : (List Int)) : Option (Int × Int) :=
  bind1 (loopO (fun (x : (Int × Int)) => ref24_Goes_L1 p0 p2 x.1 x.2) (p1, 0)) (tup2 fun b8 b9 =>
  some (b8, b9))
theorem ok_ref24_Goes (H : Heap) {p0 : (List T_api_Segment)} {p1 : Int} {p2 : (List Int)} {ra : Int} {rb : Int} (hF : ref24_Goes p0 p1 p2 = some (ra, rb)) : evS X 16 [.one .ro (.sl 2 (List.map e_api_Segment p0)), .one .top (.int .i64 p1), .one .ro (.sl 1 (List.map (eI .i64) p2))] H = some (.tup [.one .top (.int .i64 ra), .one .top (.int .i64 rb)], H) := by
 refine wf Tryd.func16 true 10 ?_; intro q
 obtain ⟨⟨b8, b9⟩, hL7, hF⟩ := bind1_inv hF
 refine wL (fun (x : (Int × Int)) => ut [(1, vi x.1), (8, vi x.2)] []) (fun (y : (Int × Int)) => wz (.ret) (ut [(6, vi y.1), (7, vi y.2)] [0, 1, 2, 8])) hL7 ?_ ?_
 rintro ⟨a1, a2⟩ o hF q
 refine go 7 ?_; intro q
 obtain ⟨r3, c4, hF⟩ := bind1_inv hF
 refine wc 7 (ok_ref16_Find H c4) ?_; intro q
 refine wi 7 6 hF (fun _ hF => ?_) (fun _ hF => ?_)
 intro q
 exact wlx _ hF
 intro q
 refine wle 2 p2 (eI .i64) ?_; intro q
 refine wi 6 4 hF (fun _ hF => ?_) (fun _ hF => ?_)
 intro q
 exact wlx _ hF
 intro q
 obtain ⟨x5, h6, hF⟩ := bind1_inv hF
 refine wix 9 h6 (eI .i64) ?_; intro q
 exact wln _ hF
 replace hF := tup2_inv hF
 intro q
 obtain ⟨rfl, rfl⟩ := some2_inv hF
 exact wrp
noncomputable def law24_RuntimeUnwinds_L1 (p0 : T_law24_Case) (r3 : T_runtime_Image) (a12 : (List Int)) (a13 : Int) : Option (((List Int) × Int) ⊕ (((List Int)))) :=
  if (decide (a13 < (p0.Calls_.length : Int))) = true then (bind1 (gi p0.Calls_ a13) fun x14 =>
  bind1 (app 8 a12 ([(IntKind.wrap .i64 ((r3.Words_.length : Int) + (Int.tmod (IntKind.wrap .i64 x14) 200)))] : List Int)) fun v16 =>
  some (Sum.inl (v16, (IntKind.wrap .i64 (a13 + 1)))))
  else (some (Sum.inr a12))
noncomputable def law24_RuntimeUnwinds_L2 (r3 : T_runtime_Image) (p0 : T_law24_Case) (a27 : Int) (a28 : T_ref03_Mem) (a29 : T_ref04_Cpu) : Option ((Int × T_ref03_Mem × T_ref04_Cpu) ⊕ ((Int × T_ref04_Cpu))) :=
  if ((decide (a27 < 200000)) && (a29.State_ == 0)) = true then (bind2 (ref04_Step a29 a28) fun r31 r32 =>
  some (Sum.inl ((IntKind.wrap .i64 (a27 + 1)), r32, r31)))
  else (some (Sum.inr ((IntKind.wrap .i64 ((r3.Words_.length : Int) + (Int.tmod (IntKind.wrap .i64 p0.At_) 200))), a29)))
noncomputable def law24_RuntimeUnwinds  (p0 : T_law24_Case) : Option (Bool) :=
  bind1 (law24_awake) fun r1 =>
  if (!r1) = true then (some false)
  else (if (decide ((p0.Calls_.length : Int) > 40)) = true then (some true)
  else (bind2 (runtime_Build 0) fun r3 r4 =>
  bind1 (if (r4 != 0) = true then (some true) else (bind1 (law24_among r3 0) fun r6 =>
  some (!r6))) fun w8 =>
  if w8 = true then (some false)
  else (bind1 (law24_segments p0 r3) fun r10 =>
  bind1 (loopO (fun (x : ((List Int) × Int)) => law24_RuntimeUnwinds_L1 p0 r3 x.1 x.2) (([] : List Int), 0)) (fun b19 =>
  bind1 (app 8 b19 ([r3.Start_] : List Int)) fun v20 =>
  bind2 (law24_memory p0 r3 r10 v20) fun r22 r23 =>
  bind1 (gi r23 0) fun x25 =>
  bind1 (loopO (fun (x : (Int × T_ref03_Mem × T_ref04_Cpu)) => law24_RuntimeUnwinds_L2 r3 p0 x.1 x.2.1 x.2.2) (0, r22, (T_ref04_Cpu.mk (arrL [0, 0, 0, 0, 0, 0, 0, 0, 0, 0, 0, 0, 0, x25, 0, 0] : Arr 16 Int) 0 (IntKind.wrap .u32 (IntKind.wrap .i64 (4 * (IntKind.wrap .i64 ((r3.Words_.length : Int) + (Int.tmod (IntKind.wrap .i64 p0.At_) 200)))))) (IntKind.wrap .u32 p0.Exc_) 0 0 0 0 ([] : List T_api_Event) 0 0 (IntKind.wrap .u32 (IntKind.wrap .i64 (4 * r3.Start_))) 0 ([] : List Int)))) (tup2 fun b35 b36 =>
  bind2 (ref24_Goes r10 b35 v20) fun r37 r38 =>
  bind1 (if (decide (r37 < 0)) = true then (some true) else (if (b36.State_ != 1) = true then (some true) else (if ((b36.Out_.length : Int) == 0) = true then (some true) else (bind1 (gi b36.Out_ 0) fun x40 =>
  if (!(eq_api_Event x40 (T_api_Event.mk 2 p0.Exc_))) = true then (some true) else (some ((b36.R_.g 0) != (IntKind.wrap .u32 p0.Exc_))))))) fun w42 =>
  if w42 = true then (some false)
  else (if (r37 == r3.Lost_) = true then (bind1 (if ((b36.Out_.length : Int) == 2) = true then (bind1 (gi b36.Out_ 1) fun x44 =>
  some (eq_api_Event x44 (T_api_Event.mk 5 p0.Exc_))) else (some false)) fun w46 =>
  some w46)
  else (bind1 (if ((b36.Out_.length : Int) == 1) = true then (if (b36.PC_ == (IntKind.wrap .u32 (IntKind.wrap .i64 (4 * r37)))) = true then (bind1 (gi r23 r38) fun x48 =>
  some ((b36.R_.g 13) == x48)) else (some false)) else (some false)) fun w50 =>
  some w50)))))))
theorem ok_law24_RuntimeUnwinds (H : Heap) {p0 : T_law24_Case} {ra : Bool} (hF : law24_RuntimeUnwinds p0 = some ra) : evS X 4 [.agg (m0_law24_Case p0)] H = some (.one .top (.bool ra), H) := by
 refine wf Tryd.func4 true 8 ?_; intro q
 obtain ⟨r1, c2, hF⟩ := bind1_inv hF
 refine wc 2 (ok_law24_awake H c2) ?_; intro q
 refine wi 4 6 hF (fun _ hF => ?_) (fun _ hF => ?_)
 intro q
 obtain rfl := some1_inv hF
 exact wrp
 intro q
 refine wle 2 p0.Calls_ (eI .u8) ?_; intro q
 refine wi 4 3 hF (fun _ hF => ?_) (fun _ hF => ?_)
 intro q
 obtain rfl := some1_inv hF
 exact wrp
 intro q
 obtain ⟨r3, r4, c5, hF⟩ := bind2_inv hF
 refine wc 13 (ok_runtime_Build H c5) ?_; intro q
 obtain ⟨w8, hB9, hF⟩ := bind1_inv hF
 refine wr0 0 (ut [(31, vb w8)] [4, 25, 26, 27]) ?_ ?_; intro q
 refine wg [26, 27] 5 1 hB9 (fun _ hB9 => ?_) (fun _ hB9 => ?_)
 intro q
 cases hB9
 exact wl0
 intro q
 obtain ⟨r6, c7, hB9⟩ := bind1_inv hB9
 refine wc 3 (ok_law24_among H c7) ?_; intro q
 cases hB9
 exact wl0
 intro q
 refine wi 4 5 hF (fun _ hF => ?_) (fun _ hF => ?_)
 intro q
 obtain rfl := some1_inv hF
 exact wrp
 intro q
 obtain ⟨r10, c11, hF⟩ := bind1_inv hF
 refine wc 12 (ok_law24_segments H c11) ?_; intro q
 obtain ⟨b19, hL18, hF⟩ := bind1_inv hF
 refine wL (fun (x : ((List Int) × Int)) => ut [(6, .one (.own 1) (.sl 1 (List.map (eI .i64) x.1))), (7, vi x.2)] []) (fun (y : ((List Int))) => wz (.exit 0) (ut [(6, .one (.own 1) (.sl 1 (List.map (eI .i64) y)))] [7])) hL18 ?_ ?_
 rintro ⟨a12, a13⟩ o hF q
 refine go 6 ?_; intro q
 refine wle 2 p0.Calls_ (eI .u8) ?_; intro q
 refine wi 7 0 hF (fun _ hF => ?_) (fun _ hF => ?_)
 intro q
 refine wle 3 r3.Words_ (eI .u32) ?_; intro q
 obtain ⟨x14, h15, hF⟩ := bind1_inv hF
 refine wix 5 h15 (eI .u8) ?_; intro q
 obtain ⟨v16, h17, hF⟩ := bind1_inv hF
 refine wap 8 h17 (eI .i64) ?_; intro q
 exact wln _ hF
 intro q
 exact wlx _ hF
 intro q
 refine go 7 ?_; intro q
 obtain ⟨v20, h21, hF⟩ := bind1_inv hF
 refine wap 6 h21 (eI .i64) ?_; intro q
 refine wle 13 r3.Words_ (eI .u32) ?_; intro q
 obtain ⟨r22, r23, c24, hF⟩ := bind2_inv hF
 refine wc 26 (ok_law24_memory H c24) ?_; intro q
 obtain ⟨x25, h26, hF⟩ := bind1_inv hF
 refine wix 11 h26 (eI .u32) ?_; intro q
 obtain ⟨⟨b35, b36⟩, hL34, hF⟩ := bind1_inv hF
 refine wL (fun (x : (Int × T_ref03_Mem × T_ref04_Cpu)) => up [(12, vi x.1)] [] [(9, (m0_ref03_Mem x.2.1)), (11, (m1_ref04_Cpu x.2.2))] []) (fun (y : (Int × T_ref04_Cpu)) => wz (.exit 2) (up [(8, vi y.1)] [9, 12] [(11, (m1_ref04_Cpu y.2))] [9])) hL34 ?_ ?_
 rintro ⟨a27, a28, a29⟩ o hF q
 refine go 6 ?_; intro q
 refine wr 0 (fun x => ut [(99, vb x)] [93, 94, 95]) ((decide (a27 < 200000)) && (a29.State_ == 0)) ?_ ?_; intro q
 refine wb [94, 95] (decide (a27 < 200000)) 5 5 (fun h30 => ?_) (fun h30 => ?_)
 intro q
 exact wl (a29.State_ == 0) (by first | (simp only [h30]; done) | (simp only [h30]; rfl) | simp [h30])
 intro q
 exact wl false (by first | (simp only [h30]; done) | (simp only [h30]; rfl) | simp [h30])
 intro q
 refine wi 6 0 hF (fun _ hF => ?_) (fun _ hF => ?_)
 intro q
 obtain ⟨r31, r32, c33, hF⟩ := bind2_inv hF
 refine wc 12 (ok_ref04_Step H c33) ?_; intro q
 exact wln _ hF
 intro q
 exact wlx _ hF
 replace hF := tup2_inv hF
 intro q
 refine go 6 ?_; intro q
 obtain ⟨r37, r38, c39, hF⟩ := bind2_inv hF
 refine wc 12 (ok_ref24_Goes H c39) ?_; intro q
 obtain ⟨w42, hB43, hF⟩ := bind1_inv hF
 refine wr0 0 (ut [(146, vb w42)] [115, 116, 117]) ?_ ?_; intro q
 refine wg [116, 117] 30 5 hB43 (fun _ hB43 => ?_) (fun _ hB43 => ?_)
 intro q
 cases hB43
 exact wl0
 intro q
 refine wg [120, 121, 122] 25 2 hB43 (fun _ hB43 => ?_) (fun _ hB43 => ?_)
 intro q
 cases hB43
 exact wl0
 intro q
 refine wle 3 b36.Out_ e_api_Event ?_; intro q
 refine wg [126, 127, 128] 19 2 hB43 (fun _ hB43 => ?_) (fun _ hB43 => ?_)
 intro q
 cases hB43
 exact wl0
 intro q
 obtain ⟨x40, h41, hB43⟩ := bind1_inv hB43
 refine wix 4 h41 e_api_Event ?_; intro q
 refine wba 2 (bin_neA (P := X.P) (ty := 59) (x := (.tmp 132)) (y := (.tmp 135)) (cs := [(.top, .int .i64 x40.Port_), (.top, .int .i32 x40.Value_)]) (ds := [(.top, .int .i64 2), (.top, .int .i32 p0.Exc_)]) (us := [.int .i64 x40.Port_, .int .i32 x40.Value_]) (vs := [.int .i64 2, .int .i32 p0.Exc_]) (qs := [x40.Port_ == 2, x40.Value_ == p0.Exc_]) (by kernel_rfl) (by kernel_rfl) (by kernel_rfl) (by kernel_rfl)) (vb (!(eq_api_Event x40 (T_api_Event.mk 2 p0.Exc_)))) ?_; intro q
 refine wg [136, 137, 138] 9 9 hB43 (fun _ hB43 => ?_) (fun _ hB43 => ?_)
 intro q
 cases hB43
 exact wl0
 intro q
 cases hB43
 exact wl0
 intro q
 refine wi 4 9 hF (fun _ hF => ?_) (fun _ hF => ?_)
 intro q
 obtain rfl := some1_inv hF
 exact wrp
 intro q
 refine wi 4 5 hF (fun _ hF => ?_) (fun _ hF => ?_)
 intro q
 refine wle 2 b36.Out_ e_api_Event ?_; intro q
 obtain ⟨w46, hB47, hF⟩ := bind1_inv hF
 refine wr0 0 (uf (⟨[(2, vb w46)], [], H⟩ : St)) ?_ ?_; intro q
 refine wg [154, 155] 2 11 hB47 (fun _ hB47 => ?_) (fun _ hB47 => ?_)
 intro q
 obtain ⟨x44, h45, hB47⟩ := bind1_inv hB47
 refine wix 4 h45 e_api_Event ?_; intro q
 refine wba 3 (bin_eqA (P := X.P) (ty := 59) (x := (.tmp 159)) (y := (.tmp 162)) (cs := [(.top, .int .i64 x44.Port_), (.top, .int .i32 x44.Value_)]) (ds := [(.top, .int .i64 5), (.top, .int .i32 p0.Exc_)]) (us := [.int .i64 x44.Port_, .int .i32 x44.Value_]) (vs := [.int .i64 5, .int .i32 p0.Exc_]) (qs := [x44.Port_ == 5, x44.Value_ == p0.Exc_]) (by kernel_rfl) (by kernel_rfl) (by kernel_rfl) (by kernel_rfl)) (vb (eq_api_Event x44 (T_api_Event.mk 5 p0.Exc_))) ?_; intro q
 cases hB47
 exact wl0
 intro q
 cases hB47
 exact wl0
 intro q
 obtain rfl := some1_inv hF
 exact wrp
 intro q
 refine wle 2 b36.Out_ e_api_Event ?_; intro q
 obtain ⟨w50, hB51, hF⟩ := bind1_inv hF
 refine wr0 0 (uf (⟨[(2, vb w50)], [], H⟩ : St)) ?_ ?_; intro q
 refine wg [168, 169] 8 19 hB51 (fun _ hB51 => ?_) (fun _ hB51 => ?_)
 intro q
 refine wg [175, 176, 177] 5 11 hB51 (fun _ hB51 => ?_) (fun _ hB51 => ?_)
 intro q
 obtain ⟨x48, h49, hB51⟩ := bind1_inv hB51
 refine wix 5 h49 (eI .u32) ?_; intro q
 cases hB51
 exact wl0
 intro q
 cases hB51
 exact wl0
 intro q
 cases hB51
 exact wl0
 intro q
 obtain rfl := some1_inv hF
 exact wrp
noncomputable def ref05_Cut_j2 (a3 : Int) (j6 : (List ByteArray)) (j7 : Int) : Option (((List ByteArray) × Int × Int) ⊕ (((List ByteArray) × Int))) :=
  some (Sum.inl (j6, j7, (IntKind.wrap .i64 (a3 + 1))))
noncomputable def ref05_Cut_L1 (p0 : ByteArray) (p1 : Int) (a1 : (List ByteArray)) (a2 : Int) (a3 : Int) : Option (((List ByteArray) × Int × Int) ⊕ (((List ByteArray) × Int))) :=
  if (decide (a3 < (p0.size : Int))) = true then (bind1 (sAt p0 a3) fun v4 =>
  if (v4 == p1) = true then (bind1 (sCut p0 a2 a3) fun s9 =>
  bind1 (app 16 a1 ([s9] : List ByteArray)) fun v11 =>
  ref05_Cut_j2 a3 v11 (IntKind.wrap .i64 (a3 + 1)))
  else (ref05_Cut_j2 a3 a1 a2))
  else (some (Sum.inr (a1, a2)))
noncomputable def ref05_Cut  (p0 : ByteArray) (p1 : Int) : Option ((List ByteArray)) :=
  bind1 (loopO (fun (x : ((List ByteArray) × Int × Int)) => ref05_Cut_L1 p0 p1 x.1 x.2.1 x.2.2) (([] : List ByteArray), 0, 0)) (tup2 fun b14 b15 =>
  bind1 (sCut p0 b15 p0.size) fun s16 =>
  bind1 (app 16 b14 ([s16] : List ByteArray)) fun v18 =>
  some v18)
noncomputable def ref05_Name_L1 (p0 : ByteArray) (a2 : Int) : Option ((Int) ⊕ (Unit ⊕ Unit)) :=
  if (decide (a2 < (p0.size : Int))) = true then (bind1 (sAt p0 a2) fun v3 =>
  if (if (decide (v3 ≥ 97)) = true then ((decide (v3 ≤ 122)) || ((v3 == 95) || ((decide (a2 > 0)) && ((decide (v3 ≥ 48)) && (decide (v3 ≤ 57)))))) else ((v3 == 95) || ((decide (a2 > 0)) && ((decide (v3 ≥ 48)) && (decide (v3 ≤ 57)))))) = true then (some (Sum.inl (IntKind.wrap .i64 (a2 + 1))))
  else (some (Sum.inr (Sum.inr ()))))
  else (some (Sum.inr (Sum.inl ())))
noncomputable def ref05_Name  (p0 : ByteArray) : Option (Bool) :=
  if ((decide ((p0.size : Int) < 1)) || (decide ((p0.size : Int) > 32))) = true then (some false)
  else (bind1 (loopO (fun (x : (Int)) => ref05_Name_L1 p0 x) 0) (sum2 (fun (_ : Unit) =>
  some true) (fun (_ : Unit) =>
  some false)))
noncomputable def ref05_Find_L1 (p0 : (List T_ref05_Label)) (p1 : ByteArray) (a1 : Int) : Option ((Int) ⊕ (Unit ⊕ (Int))) :=
  if (decide (a1 < (p0.length : Int))) = true then (bind1 (gi p0 a1) fun x2 =>
  if (strEq x2.Name_ p1) = true then (bind1 (gi p0 a1) fun x4 =>
  some (Sum.inr (Sum.inr x4.At_)))
  else (some (Sum.inl (IntKind.wrap .i64 (a1 + 1)))))
  else (some (Sum.inr (Sum.inl ())))
noncomputable def ref05_Find  (p0 : (List T_ref05_Label)) (p1 : ByteArray) : Option (Int) :=
  bind1 (loopO (fun (x : (Int)) => ref05_Find_L1 p0 p1 x) 0) (sum2 (fun (_ : Unit) =>
  some (-1)) (fun b7 =>
  some b7))
noncomputable def ref05_split_L1 (p0 : ByteArray) (a1 : Int) : Option ((Int) ⊕ ((Int))) :=
  bind1 (if (decide (a1 < (p0.size : Int))) = true then (bind1 (sAt p0 a1) fun v2 =>
  some (v2 != 32)) else (some false)) fun w4 =>
  if w4 = true then (some (Sum.inl (IntKind.wrap .i64 (a1 + 1))))
  else (some (Sum.inr a1))
noncomputable def ref05_split_j3 (a12 : (List ByteArray)) (a13 : Int) (j16 : ByteArray) : Option (((List ByteArray) × Int) ⊕ (((List ByteArray)) ⊕ Unit)) :=
  bind1 (if ((j16.size : Int) == 0) = true then (some true) else (bind1 (ref05_Cut j16 32) fun r18 =>
  some (decide ((r18.length : Int) > 1)))) fun w20 =>
  if w20 = true then (some (Sum.inr (Sum.inr ())))
  else (bind1 (app 16 a12 ([j16] : List ByteArray)) fun v22 =>
  some (Sum.inl (v22, (IntKind.wrap .i64 (a13 + 1)))))
noncomputable def ref05_split_L2 (r10 : (List ByteArray)) (a12 : (List ByteArray)) (a13 : Int) : Option (((List ByteArray) × Int) ⊕ (((List ByteArray)) ⊕ Unit)) :=
  if (decide (a13 < (r10.length : Int))) = true then (bind1 (gi r10 a13) fun x14 =>
  if (decide (a13 > 0)) = true then (bind1 (if (decide ((x14.size : Int) < 1)) = true then (some true) else (bind1 (sAt x14 0) fun v24 =>
  some (v24 != 32))) fun w26 =>
  if w26 = true then (some (Sum.inr (Sum.inr ())))
  else (bind1 (sCut x14 1 x14.size) fun s28 =>
  ref05_split_j3 a12 a13 s28))
  else (ref05_split_j3 a12 a13 x14))
  else (some (Sum.inr (Sum.inl a12)))
noncomputable def ref05_split  (p0 : ByteArray) : Option (ByteArray × (List ByteArray) × Bool) :=
  bind1 (loopO (fun (x : (Int)) => ref05_split_L1 p0 x) 0) (fun b7 =>
  if (b7 == (p0.size : Int)) = true then (some (p0, ([] : List ByteArray), true))
  else (bind1 (sCut p0 (IntKind.wrap .i64 (b7 + 1)) p0.size) fun s8 =>
  bind1 (ref05_Cut s8 44) fun r10 =>
  bind1 (loopO (fun (x : ((List ByteArray) × Int)) => ref05_split_L2 r10 x.1 x.2) (([] : List ByteArray), 0)) (sum2 (fun b31 =>
  bind1 (sCut p0 0 b7) fun s32 =>
  some (s32, b31, true)) (fun (_ : Unit) =>
  some (ByteArray.empty, ([] : List ByteArray), false)))))
noncomputable def ref01_ParseHex_j3 (a4 : Int) (j9 : Int) : Option ((Int × Int) ⊕ ((Int))) :=
  some (Sum.inl (j9, (IntKind.wrap .i64 (a4 + 1))))
noncomputable def ref01_ParseHex_L2 (p0 : ByteArray) (a2 : Int) (a3 : Int) (a4 : Int) : Option ((Int × Int) ⊕ ((Int))) :=
  if (decide (a4 < 16)) = true then (bind1 (sAt (ByteArray.mk #[48, 49, 50, 51, 52, 53, 54, 55, 56, 57, 97, 98, 99, 100, 101, 102]) a4) fun v5 =>
  bind1 (sAt p0 a2) fun v7 =>
  if (v5 == v7) = true then (ref01_ParseHex_j3 a4 a4)
  else (ref01_ParseHex_j3 a4 a3))
  else (some (Sum.inr a3))
noncomputable def ref01_ParseHex_L1 (p0 : ByteArray) (a1 : Int) (a2 : Int) : Option ((Int × Int) ⊕ ((Int) ⊕ Unit)) :=
  if (decide (a2 < 8)) = true then (bind1 (loopO (fun (x : (Int × Int)) => ref01_ParseHex_L2 p0 a2 x.1 x.2) (-1, 0)) (fun b12 =>
  if (decide (b12 < 0)) = true then (some (Sum.inr (Sum.inr ())))
  else (some (Sum.inl ((IntKind.wrap .u32 ((IntKind.wrap .u32 (a1 * 16)) + (IntKind.wrap .u32 b12))), (IntKind.wrap .i64 (a2 + 1)))))))
  else (some (Sum.inr (Sum.inl a1)))
noncomputable def ref01_ParseHex  (p0 : ByteArray) : Option (Int × Bool) :=
  if ((p0.size : Int) != 8) = true then (some (0, false))
  else (bind1 (loopO (fun (x : (Int × Int)) => ref01_ParseHex_L1 p0 x.1 x.2) (0, 0)) (sum2 (fun b14 =>
  some (b14, true)) (fun (_ : Unit) =>
  some (0, false))))
noncomputable def ref02_Name  (p0 : Int) : Option (ByteArray) :=
  if ((decide (p0 < 1)) || (decide (p0 > 34))) = true then (some ByteArray.empty)
  else (bind1 (gi ([(ByteArray.mk #[72, 65, 76, 84]), (ByteArray.mk #[76, 68, 73]), (ByteArray.mk #[76, 85, 73]), (ByteArray.mk #[79, 82, 73]), (ByteArray.mk #[65, 68, 68, 73]), (ByteArray.mk #[65, 68, 68]), (ByteArray.mk #[83, 85, 66]), (ByteArray.mk #[77, 85, 76]), (ByteArray.mk #[68, 73, 86]), (ByteArray.mk #[77, 79, 68]), (ByteArray.mk #[65, 78, 68]), (ByteArray.mk #[79, 82]), (ByteArray.mk #[88, 79, 82]), (ByteArray.mk #[83, 76, 84]), (ByteArray.mk #[83, 76, 69]), (ByteArray.mk #[83, 69, 81]), (ByteArray.mk #[83, 78, 69]), (ByteArray.mk #[76, 68, 87]), (ByteArray.mk #[83, 84, 87]), (ByteArray.mk #[66, 90]), (ByteArray.mk #[66, 78, 90]), (ByteArray.mk #[66, 82]), (ByteArray.mk #[67, 65, 76, 76]), (ByteArray.mk #[74, 82]), (ByteArray.mk #[67, 65, 76, 76, 82]), (ByteArray.mk #[67, 72, 75]), (ByteArray.mk #[78, 73, 76]), (ByteArray.mk #[84, 82, 65, 80]), (ByteArray.mk #[82, 65, 73, 83, 69]), (ByteArray.mk #[79, 85, 84]), (ByteArray.mk #[73, 78]), (ByteArray.mk #[67, 72, 75, 83]), (ByteArray.mk #[82, 84, 67]), (ByteArray.mk #[88, 79, 82, 73])] : List ByteArray) (IntKind.wrap .i64 (p0 - 1))) fun x2 =>
  some x2)
noncomputable def ref05_op_L1 (p0 : ByteArray) (a1 : Int) : Option ((Int) ⊕ (Unit ⊕ (Int))) :=
  if (decide (a1 ≤ 34)) = true then (bind1 (ref02_Name a1) fun r2 =>
  if (strEq r2 p0) = true then (some (Sum.inr (Sum.inr a1)))
  else (some (Sum.inl (IntKind.wrap .i64 (a1 + 1)))))
  else (some (Sum.inr (Sum.inl ())))
noncomputable def ref05_op  (p0 : ByteArray) : Option (Int) :=
  bind1 (loopO (fun (x : (Int)) => ref05_op_L1 p0 x) 1) (sum2 (fun (_ : Unit) =>
  some 0) (fun b5 =>
  some b5))
noncomputable def ref05_named  (p0 : T_ref05_row) : Option (ByteArray) :=
  if ((decide (p0.op_ < 20)) || ((decide (p0.op_ > 23)) || ((p0.fields_.length : Int) == 0))) = true then (some ByteArray.empty)
  else (bind1 (gi p0.fields_ (IntKind.wrap .i64 ((p0.fields_.length : Int) - 1))) fun x3 =>
  bind1 (ref05_Name x3) fun r5 =>
  if r5 = true then (some x3)
  else (some ByteArray.empty))
noncomputable def ref01_Text_j2 (a1 : ByteArray) (a2 : Int) (j3 : Int) : Option ((ByteArray × Int) ⊕ ((ByteArray))) :=
  bind1 (sCat (sOf ([(IntKind.wrap .u8 (IntKind.wrap .i64 (48 + j3)))] : List Int)) a1) fun s5 =>
  if ((IntKind.wrap .i64 (Int.tdiv a2 10)) == 0) = true then (some (Sum.inr s5))
  else (some (Sum.inl (s5, (IntKind.wrap .i64 (Int.tdiv a2 10)))))
noncomputable def ref01_Text_L1 (a1 : ByteArray) (a2 : Int) : Option ((ByteArray × Int) ⊕ ((ByteArray))) :=
  if (decide ((Int.tmod a2 10) < 0)) = true then (ref01_Text_j2 a1 a2 (IntKind.wrap .i64 (0 - (Int.tmod a2 10))))
  else (ref01_Text_j2 a1 a2 (Int.tmod a2 10))
noncomputable def ref01_Text  (p0 : Int) : Option (ByteArray) :=
  bind1 (loopO (fun (x : (ByteArray × Int)) => ref01_Text_L1 x.1 x.2) (ByteArray.empty, p0)) (fun b8 =>
  if (decide (p0 < 0)) = true then (bind1 (sCat (ByteArray.mk #[45]) b8) fun s9 =>
  some s9)
  else (some b8))
noncomputable def ref01_Parse_j2 (a3 : Int) (j4 : Int) : Option ((Int × Int) ⊕ ((Int) ⊕ Unit)) :=
  some (Sum.inl (j4, (IntKind.wrap .i64 (a3 + 1))))
noncomputable def ref01_Parse_L1 (p0 : ByteArray) (a2 : Int) (a3 : Int) : Option ((Int × Int) ⊕ ((Int) ⊕ Unit)) :=
  if (decide (a3 < (p0.size : Int))) = true then (bind1 (if (a3 == 0) = true then (bind1 (sAt p0 0) fun v6 =>
  some (v6 == 45)) else (some false)) fun w8 =>
  if w8 = true then (ref01_Parse_j2 a3 a2)
  else (bind1 (sAt p0 a3) fun v10 =>
  bind1 (if (decide (v10 < 48)) = true then (some true) else (bind1 (sAt p0 a3) fun v12 =>
  some (decide (v12 > 57)))) fun w14 =>
  if w14 = true then (some (Sum.inr (Sum.inr ())))
  else (bind1 (sAt p0 a3) fun v16 =>
  ref01_Parse_j2 a3 (IntKind.wrap .i64 ((IntKind.wrap .i64 (a2 * 10)) + (IntKind.wrap .i64 (IntKind.wrap .u8 (v16 - 48))))))))
  else (some (Sum.inr (Sum.inl a2)))
noncomputable def ref01_Parse_j3 (p0 : ByteArray) (j22 : Int) : Option (Int × Bool) :=
  bind1 (if (decide (j22 < (-2147483648))) = true then (some true) else (if (decide (j22 > 2147483647)) = true then (some true) else (bind1 (ref01_Text j22) fun r24 =>
  some (!strEq r24 p0)))) fun w26 =>
  if w26 = true then (some (0, false))
  else (some ((IntKind.wrap .i32 j22), true))
noncomputable def ref01_Parse  (p0 : ByteArray) : Option (Int × Bool) :=
  if ((decide ((p0.size : Int) < 1)) || (decide ((p0.size : Int) > 11))) = true then (some (0, false))
  else (bind1 (loopO (fun (x : (Int × Int)) => ref01_Parse_L1 p0 x.1 x.2) (0, 0)) (sum2 (fun b19 =>
  bind1 (sAt p0 0) fun v20 =>
  if (v20 == 45) = true then (ref01_Parse_j3 p0 (IntKind.wrap .i64 (0 - b19)))
  else (ref01_Parse_j3 p0 b19)) (fun (_ : Unit) =>
  some (0, false))))
noncomputable def ref02_number  (p0 : ByteArray) (p1 : ByteArray) : Option (Int × Bool) :=
  bind1 (if (decide ((p1.size : Int) < (p0.size : Int))) = true then (some true) else (bind1 (sCut p1 0 (p0.size : Int)) fun s1 =>
  some (!strEq s1 p0))) fun w3 =>
  if w3 = true then (some (0, false))
  else (bind1 (sCut p1 (p0.size : Int) p1.size) fun s5 =>
  bind2 (ref01_Parse s5) fun r7 r8 =>
  some ((IntKind.wrap .i64 r7), r8))
noncomputable def ref02_Fill_L6 (j19 : (List ByteArray)) (p1 : (List ByteArray)) (a21 : Int) (a22 : (Arr 4 Int)) : Option ((Int × (Arr 4 Int)) ⊕ (((Arr 4 Int) × Heap) ⊕ (Heap))) :=
  if (decide (a21 < (j19.length : Int))) = true then (bind1 (gi j19 a21) fun x23 =>
  bind1 (gi p1 a21) fun x25 =>
  bind2 (ref02_number x23 x25) fun r27 r28 =>
  if (!r28) = true then (some (Sum.inr (Sum.inr ([] : Heap))))
  else (bind1 (ga a22 a21) fun v30 =>
  bind1 (sa a22 a21 r27) fun v32 =>
  some (Sum.inl ((IntKind.wrap .i64 (a21 + 1)), v32))))
  else (some (Sum.inr (Sum.inl (a22, ([] : Heap)))))
noncomputable def ref02_Fill_j10 (j46 : T_ref02_Instr) : Option (T_ref02_Instr × Bool) :=
  bind1 (ref02_Check j46) fun r48 =>
  some (j46, (r48 == 0))
noncomputable def ref02_Fill_j9 (r1 : Int) (b35 : (Arr 4 Int)) (j43 : Int) (j44 : T_ref02_Instr) : Option (T_ref02_Instr × Bool) :=
  if ((r1 != 0) && ((r1 != 5) && (r1 != 6))) = true then (bind1 (ga b35 j43) fun v50 =>
  ref02_Fill_j10 (T_ref02_Instr.mk j44.Op_ j44.A_ j44.B_ j44.C_ v50))
  else (ref02_Fill_j10 j44)
noncomputable def ref02_Fill_j8 (r5 : Bool) (b35 : (Arr 4 Int)) (r1 : Int) (j40 : Int) (j41 : T_ref02_Instr) : Option (T_ref02_Instr × Bool) :=
  if r5 = true then (bind1 (ga b35 j40) fun v52 =>
  ref02_Fill_j9 r1 b35 (IntKind.wrap .i64 (j40 + 1)) (T_ref02_Instr.mk j41.Op_ j41.A_ j41.B_ v52 j41.Imm_))
  else (ref02_Fill_j9 r1 b35 j40 j41)
noncomputable def ref02_Fill_j7 (r4 : Bool) (b35 : (Arr 4 Int)) (r5 : Bool) (r1 : Int) (j37 : Int) (j38 : T_ref02_Instr) : Option (T_ref02_Instr × Bool) :=
  if ((r4 || false) || false) = true then (bind1 (ga b35 j37) fun v54 =>
  ref02_Fill_j8 r5 b35 r1 (IntKind.wrap .i64 (j37 + 1)) (T_ref02_Instr.mk j38.Op_ j38.A_ v54 j38.C_ j38.Imm_))
  else (ref02_Fill_j8 r5 b35 r1 j37 j38)
noncomputable def ref02_Fill_j5 (p1 : (List ByteArray)) (p0 : Int) (r3 : Bool) (r4 : Bool) (r5 : Bool) (r1 : Int) (j19 : (List ByteArray)) : Option (T_ref02_Instr × Bool) :=
  if ((p1.length : Int) != (j19.length : Int)) = true then (some ((T_ref02_Instr.mk p0 0 0 0 0), false))
  else (bind1 (loopO (fun (x : (Int × (Arr 4 Int))) => ref02_Fill_L6 j19 p1 x.1 x.2) (0, (arrL [0, 0, 0, 0] : Arr 4 Int))) (sum2 (tup2 fun b35 H36 =>
  if r3 = true then (ref02_Fill_j7 r4 b35 r5 r1 (IntKind.wrap .i64 (0 + 1)) (T_ref02_Instr.mk p0 (b35.g 0) 0 0 0))
  else (ref02_Fill_j7 r4 b35 r5 r1 0 (T_ref02_Instr.mk p0 0 0 0 0))) (fun H56 =>
  some ((T_ref02_Instr.mk p0 0 0 0 0), false))))
noncomputable def ref02_Fill_j4 (r1 : Int) (p1 : (List ByteArray)) (p0 : Int) (r3 : Bool) (r4 : Bool) (r5 : Bool) (j15 : (List ByteArray)) : Option (T_ref02_Instr × Bool) :=
  if ((r1 != 0) && ((r1 != 5) && (r1 != 6))) = true then (bind1 (app 16 j15 ([ByteArray.empty] : List ByteArray)) fun v58 =>
  ref02_Fill_j5 p1 p0 r3 r4 r5 r1 v58)
  else (ref02_Fill_j5 p1 p0 r3 r4 r5 r1 j15)
noncomputable def ref02_Fill_j3 (r5 : Bool) (r1 : Int) (p1 : (List ByteArray)) (p0 : Int) (r3 : Bool) (r4 : Bool) (j13 : (List ByteArray)) : Option (T_ref02_Instr × Bool) :=
  if r5 = true then (bind1 (app 16 j13 ([(ByteArray.mk #[114])] : List ByteArray)) fun v60 =>
  ref02_Fill_j4 r1 p1 p0 r3 r4 r5 v60)
  else (ref02_Fill_j4 r1 p1 p0 r3 r4 r5 j13)
noncomputable def ref02_Fill_j2 (r4 : Bool) (p0 : Int) (r5 : Bool) (r1 : Int) (p1 : (List ByteArray)) (r3 : Bool) (j10 : (List ByteArray)) : Option (T_ref02_Instr × Bool) :=
  if ((r4 || false) && (p0 != 26)) = true then (bind1 (app 16 j10 ([(ByteArray.mk #[114])] : List ByteArray)) fun v62 =>
  ref02_Fill_j3 r5 r1 p1 p0 r3 r4 v62)
  else (ref02_Fill_j3 r5 r1 p1 p0 r3 r4 j10)
noncomputable def ref02_Fill_j1 (r4 : Bool) (p0 : Int) (r5 : Bool) (r1 : Int) (p1 : (List ByteArray)) (r3 : Bool) (j7 : (List ByteArray)) : Option (T_ref02_Instr × Bool) :=
  if (r4 && (p0 == 26)) = true then (bind1 (app 16 j7 ([ByteArray.empty] : List ByteArray)) fun v64 =>
  ref02_Fill_j2 r4 p0 r5 r1 p1 r3 v64)
  else (ref02_Fill_j2 r4 p0 r5 r1 p1 r3 j7)
noncomputable def ref02_Fill  (p0 : Int) (p1 : (List ByteArray)) : Option (T_ref02_Instr × Bool) :=
  bind1 (ref02_Shape p0) fun r1 =>
  if (decide (r1 < 0)) = true then (some ((T_ref02_Instr.mk p0 0 0 0 0), false))
  else (bind3 (ref02_has r1) fun r3 r4 r5 =>
  if r3 = true then (bind1 (app 16 ([] : List ByteArray) ([(ByteArray.mk #[114])] : List ByteArray)) fun v66 =>
  ref02_Fill_j1 r4 p0 r5 r1 p1 r3 v66)
  else (ref02_Fill_j1 r4 p0 r5 r1 p1 r3 ([] : List ByteArray)))
noncomputable def ref05_fill_j2 (a1 : (List ByteArray)) (a2 : Int) (j9 : ByteArray) : Option (((List ByteArray) × Int) ⊕ (((List ByteArray)))) :=
  bind1 (app 16 a1 ([j9] : List ByteArray)) fun v11 =>
  some (Sum.inl (v11, (IntKind.wrap .i64 (a2 + 1))))
noncomputable def ref05_fill_L1 (p0 : T_ref05_row) (p1 : ByteArray) (a1 : (List ByteArray)) (a2 : Int) : Option (((List ByteArray) × Int) ⊕ (((List ByteArray)))) :=
  if (decide (a2 < (p0.fields_.length : Int))) = true then (bind1 (gi p0.fields_ a2) fun x3 =>
  bind1 (if (a2 == (IntKind.wrap .i64 ((p0.fields_.length : Int) - 1))) = true then (bind1 (ref05_named p0) fun r5 =>
  some (!strEq r5 ByteArray.empty)) else (some false)) fun w7 =>
  if w7 = true then (ref05_fill_j2 a1 a2 p1)
  else (ref05_fill_j2 a1 a2 x3))
  else (some (Sum.inr a1))
noncomputable def ref05_fill  (p0 : T_ref05_row) (p1 : ByteArray) : Option (T_ref02_Instr × Bool) :=
  bind1 (loopO (fun (x : ((List ByteArray) × Int)) => ref05_fill_L1 p0 p1 x.1 x.2) (([] : List ByteArray), 0)) (fun b14 =>
  bind2 (ref02_Fill p0.op_ b14) fun r15 r16 =>
  some (r15, r16))
noncomputable def ref05_parse  (p0 : Int) (p1 : ByteArray) : Option (T_ref05_row × Bool) :=
  bind3 (ref05_split p1) fun r1 r2 r3 =>
  if (!r3) = true then (some ((T_ref05_row.mk 0 0 0 ([] : List ByteArray)), false))
  else (if ((strEq r1 (ByteArray.mk #[87, 79, 82, 68])) && ((r2.length : Int) == 1)) = true then (bind1 (gi r2 0) fun x6 =>
  bind2 (ref01_ParseHex x6) fun r8 r9 =>
  some ((T_ref05_row.mk p0 0 r8 r2), r9))
  else (bind1 (ref05_op r1) fun r11 =>
  if (r11 == 0) = true then (some ((T_ref05_row.mk p0 r11 0 r2), false))
  else (bind2 (ref05_fill (T_ref05_row.mk p0 r11 0 r2) (ByteArray.mk #[48])) fun r13 r14 =>
  some ((T_ref05_row.mk p0 r11 0 r2), r14))))
noncomputable def ref05_place_j1 (x1 : T_ref05_row) (j5 : ByteArray) : Option (Int × Int) :=
  bind2 (ref05_fill x1 j5) fun r7 r8 =>
  if (!r8) = true then (some (0, 52))
  else (bind2 (ref02_Encode r7) fun r10 r11 =>
  some (r10, 0))
noncomputable def ref05_place  (p0 : (List T_ref05_row)) (p1 : (List T_ref05_Label)) (p2 : Int) : Option (Int × Int) :=
  bind1 (gi p0 p2) fun x1 =>
  if (x1.op_ == 0) = true then (some (x1.word_, 0))
  else (bind1 (ref05_named x1) fun r3 =>
  if (!strEq r3 ByteArray.empty) = true then (bind1 (ref05_named x1) fun r13 =>
  bind1 (ref05_Find p1 r13) fun r15 =>
  if (decide (r15 < 0)) = true then (some (0, 50))
  else (bind1 (ref01_Text (IntKind.wrap .i64 ((IntKind.wrap .i64 (r15 - p2)) - 1))) fun r17 =>
  ref05_place_j1 x1 r17))
  else (ref05_place_j1 x1 (ByteArray.mk #[48])))
noncomputable def ref05_Assemble_j2 (a5 : Int) (j6 : (List T_ref05_row)) (j7 : (List T_ref05_Label)) : Option (((List T_ref05_row) × (List T_ref05_Label) × Int) ⊕ (((List T_ref05_row) × (List T_ref05_Label)) ⊕ (Int × Int))) :=
  some (Sum.inl (j6, j7, (IntKind.wrap .i64 (a5 + 1))))
noncomputable def ref05_Assemble_L1 (r1 : (List ByteArray)) (a3 : (List T_ref05_row)) (a4 : (List T_ref05_Label)) (a5 : Int) : Option (((List T_ref05_row) × (List T_ref05_Label) × Int) ⊕ (((List T_ref05_row) × (List T_ref05_Label)) ⊕ (Int × Int))) :=
  if (decide (a5 < (r1.length : Int))) = true then (bind1 (gi r1 a5) fun x9 =>
  bind1 (if ((x9.size : Int) == 0) = true then (some true) else (bind1 (sAt x9 0) fun v11 =>
  some (v11 == 59))) fun w13 =>
  if w13 = true then (ref05_Assemble_j2 a5 a3 a4)
  else (bind1 (sAt x9 (IntKind.wrap .i64 ((x9.size : Int) - 1))) fun v15 =>
  if (v15 == 58) = true then (bind1 (sCut x9 0 (IntKind.wrap .i64 ((x9.size : Int) - 1))) fun s17 =>
  bind1 (ref05_Name s17) fun r19 =>
  if (!r19) = true then (some (Sum.inr (Sum.inr (22, (IntKind.wrap .i64 (a5 + 1))))))
  else (bind1 (ref05_Find a4 s17) fun r21 =>
  if (decide (r21 ≥ 0)) = true then (some (Sum.inr (Sum.inr (51, (IntKind.wrap .i64 (a5 + 1))))))
  else (bind1 (app 24 a4 ([(T_ref05_Label.mk s17 (a3.length : Int))] : List T_ref05_Label)) fun v23 =>
  ref05_Assemble_j2 a5 a3 v23)))
  else (bind2 (ref05_parse (IntKind.wrap .i64 (a5 + 1)) x9) fun r25 r26 =>
  if (!r26) = true then (some (Sum.inr (Sum.inr (22, (IntKind.wrap .i64 (a5 + 1))))))
  else (if (decide ((a3.length : Int) ≥ 16384)) = true then (some (Sum.inr (Sum.inr (242, (IntKind.wrap .i64 (a5 + 1))))))
  else (bind1 (app 48 a3 ([r25] : List T_ref05_row)) fun v28 =>
  ref05_Assemble_j2 a5 v28 a4)))))
  else (some (Sum.inr (Sum.inl (a3, a4))))
noncomputable def ref05_Assemble_L3 (b31 : (List T_ref05_row)) (b32 : (List T_ref05_Label)) (a33 : (List Int)) (a34 : Int) : Option (((List Int) × Int) ⊕ (((List Int)) ⊕ (Int × Int))) :=
  if (decide (a34 < (b31.length : Int))) = true then (bind2 (ref05_place b31 b32 a34) fun r35 r36 =>
  if (r36 != 0) = true then (bind1 (gi b31 a34) fun x38 =>
  some (Sum.inr (Sum.inr (x38.line_, r36))))
  else (bind1 (app 4 a33 ([r35] : List Int)) fun v40 =>
  some (Sum.inl (v40, (IntKind.wrap .i64 (a34 + 1))))))
  else (some (Sum.inr (Sum.inl a33)))
noncomputable def ref05_Assemble  (p0 : ByteArray) : Option ((List Int) × (List T_ref05_Label) × Int × Int) :=
  bind1 (ref05_Cut p0 10) fun r1 =>
  if (decide ((r1.length : Int) > 4096)) = true then (some (([] : List Int), ([] : List T_ref05_Label), 4097, 242))
  else (bind1 (loopO (fun (x : ((List T_ref05_row) × (List T_ref05_Label) × Int)) => ref05_Assemble_L1 r1 x.1 x.2.1 x.2.2) (([] : List T_ref05_row), ([] : List T_ref05_Label), 0)) (sum2 (tup2 fun b31 b32 =>
  bind1 (loopO (fun (x : ((List Int) × Int)) => ref05_Assemble_L3 b31 b32 x.1 x.2) (([] : List Int), 0)) (sum2 (fun b43 =>
  some (b43, b32, 0, 0)) (tup2 fun b44 b45 =>
  some (([] : List Int), ([] : List T_ref05_Label), b44, b45)))) (tup2 fun b47 b48 =>
  some (([] : List Int), ([] : List T_ref05_Label), b48, b47))))
noncomputable def runtime_Image_Names  (p0 : T_runtime_Image) : Option (ByteArray) :=
  bind1 (word_Text p0.Table_) fun r1 =>
  bind1 (sCat (ByteArray.mk #[110, 101, 120, 116, 32]) r1) fun s3 =>
  bind1 (sCat s3 (ByteArray.mk #[32, 115, 116, 97, 114, 116, 32])) fun s5 =>
  bind1 (word_Text p0.Start_) fun r7 =>
  bind1 (sCat s5 r7) fun s9 =>
  bind1 (sCat s9 (ByteArray.mk #[32, 108, 111, 115, 116, 32])) fun s11 =>
  bind1 (word_Text p0.Lost_) fun r13 =>
  bind1 (sCat s11 r13) fun s15 =>
  some s15
noncomputable def law24_RuntimeBuilds  (p0 : Int) : Option (Bool) :=
  bind1 (law24_awake) fun r1 =>
  if (!r1) = true then (some false)
  else (bind2 (runtime_Build p0) fun r3 r4 =>
  if ((decide (p0 < 0)) || (decide (p0 > 64))) = true then (some ((r4 == 243) && ((r3.Words_.length : Int) == 0)))
  else (bind1 (runtime_Source p0) fun r8 =>
  bind4 (ref05_Assemble r8) fun r10 r11 r12 r13 =>
  bind1 (ref01_Text r3.Table_) fun r15 =>
  bind1 (sCat (ByteArray.mk #[110, 101, 120, 116, 32]) r15) fun s17 =>
  bind1 (sCat s17 (ByteArray.mk #[32, 115, 116, 97, 114, 116, 32])) fun s19 =>
  bind1 (ref01_Text r3.Start_) fun r21 =>
  bind1 (sCat s19 r21) fun s23 =>
  bind1 (sCat s23 (ByteArray.mk #[32, 108, 111, 115, 116, 32])) fun s25 =>
  bind1 (ref01_Text r3.Lost_) fun r27 =>
  bind1 (sCat s25 r27) fun s29 =>
  bind1 (if (r4 == 0) = true then (if (r13 == 0) = true then (bind1 (ref01_Words r3.Words_ r10) fun r31 =>
  if r31 = true then (bind1 (law24_among r3 p0) fun r33 =>
  if r33 = true then (bind1 (runtime_Image_Names r3) fun r35 =>
  some (strEq r35 s29)) else (some false)) else (some false)) else (some false)) else (some false)) fun w37 =>
  some w37))
end Go.Proofs.Abs
