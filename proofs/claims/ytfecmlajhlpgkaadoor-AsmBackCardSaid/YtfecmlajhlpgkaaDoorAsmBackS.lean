/- The law AsmBack: whatever the input, it answers true. No conditions. (Part AsmBackS of its proof.) -/
import Derived.Test.YtfecmlajhlpgkaaDoorAsmBackZ
import Derived.Shelf.Strings.Builder1
import Derived.Test.YtfecmlajhlpgkaaDoorProg
import Derived.WalkKit
import Derived.BigCall
set_option linter.unusedVariables false
set_option linter.unusedSimpArgs false
set_option linter.unusedSectionVars false
/-
  DERIVED: THE SHELF's CONTRACTS AT THIS DUMP, IN PLAIN WORDS (tools/lay-plain.mjs out of 'TrydShelfS.lean', which tools/lay-shelf.mjs wrote): THE SAME DECLARATIONS UNDER THE SAME NAMES: 'import', 'namespace', 'open', 'def', 'theorem' AND NOTHING ELSE: no command of the shelf's: FOR A HAND-IN. Each laying: the table of numbers ('.._ren') and one theorem, a field a fact of the dump's own or the kernel's comparison; each contract: ONE APPLICATION.
-/
namespace Go.Proofs
open Go.Shelf
def Tryd.lays169_ren : Go.Shelf.Ren := ⟨fun | 169 => 29 | n => n, fun | 70 => 68 | 9 => 9 | 0 => 0 | 72 => 70 | 37 => 40 | 127 => 110 | 3 => 3 | 5 => 5 | n => n, fun | n => n⟩
theorem Tryd.lays169 : Go.Proofs.Lays.n169 Tryd.prog Tryd.lays169_ren := {
  mixed := by kernel_rfl
  f169 := Tryd.func29.trans (congrArg some (by kernel_rfl))
  t0 := Tryd.underlying0
  a0 := Tryd.isAgg0
  z0 := Tryd.sizeOf0
  v0 := Tryd.zeroValue0
  t3 := Tryd.underlying3
  a3 := Tryd.isAgg3
  z3 := Tryd.sizeOf3
  v3 := Tryd.zeroValue3
  t9 := Tryd.underlying9
  a9 := Tryd.isAgg9
  z9 := Tryd.sizeOf9
  v9 := Tryd.zeroValue9
  t37 := Tryd.underlying40
  a37 := Tryd.isAgg40
  z37 := Tryd.sizeOf40
  v37 := Tryd.zeroValue40
  t70 := Tryd.underlying68
  a70 := Tryd.isAgg68
  z70 := Tryd.sizeOf68
  v70 := Tryd.zeroValue68
  t72 := Tryd.underlying70
  a72 := Tryd.isAgg70
  z72 := Tryd.sizeOf70
  v72 := Tryd.zeroValue70
  t127 := Tryd.underlying110
  a127 := Tryd.isAgg110
  z127 := Tryd.sizeOf110
  v127 := Tryd.zeroValue110 }
end Go.Proofs
/- strings.Builder's writers, at this seat: its copyCheck is cut (the refused arm is a stand-in), so the shelf's laying does not reach them. Walks after the shelf's own. -/
set_option linter.unusedVariables false
namespace Go.Proofs
open Go.Shelf Go.RowKit
theorem Tryd.bldX : (Tryd.prog.info? 70).map (·.size) = some 2 := by kernel_rfl
theorem Tryd.bldL : liesAt Tryd.prog Tryd.prog.depth 70 (2 / Tryd.prog.cellsOf 70) 0 70 1 = true := by kernel_rfl
set_option maxHeartbeats 1000000 in
set_option maxRecDepth 100000 in
theorem Tryd.copyCheck_used (b : Nat) (w : World) (h0 : w.cell? ⟨b, 0, none⟩ = some (.pointer (some ⟨b, 0, none⟩))) :
    Calls Tryd.prog 56 #[.pointer (some ⟨b, 0, none⟩)] w fun e w' => e = .returned (.tuple #[]) ∧ w' = w := by
  obtain ⟨j, hj, _⟩ := Option.map_eq_some_iff.1 Tryd.bldX
  go_enter Tryd.func56, Tryd.ntmps56
  go_wp2
  rw [Lib.run_neq_ptr_same w _ Tryd.underlying68 hj]
  go_wp2
  go_end0
  exact ⟨rfl, rfl⟩
set_option maxHeartbeats 1000000 in
set_option maxRecDepth 100000 in
theorem Tryd.copyCheck_fresh (b : Nat) (w : World) (h0 : w.cell? ⟨b, 0, none⟩ = some (.pointer none)) (hsh : w.shape? b = some (70, 2)) (hfz : w.frozen? ⟨b, 0, none⟩ = false) :
    Calls Tryd.prog 56 #[.pointer (some ⟨b, 0, none⟩)] w fun e w' => e = .returned (.tuple #[]) ∧ w' = w.setCell ⟨b, 0, none⟩ (.pointer (some ⟨b, 0, none⟩)) := by
  obtain ⟨j, hj, hjs⟩ := Option.map_eq_some_iff.1 Tryd.bldX
  go_enter Tryd.func56, Tryd.ntmps56
  go_wp2
  rw [Lib.run_to_unsafe w ⟨b, 0, none⟩ Tryd.underlying68 Tryd.underlying125 hj (by rw [hjs]; decide) hsh (Nat.zero_lt_succ 1)]
  simp only [Result.andThen]
  rw [Oper.upon_value]
  go_wp2
  rw [run_callFunc_extern Tryd.func75 (by kernel_rfl) (by kernel_rfl) (by kernel_rfl) (e := Extern.AbiNoEscape.same) (by kernel_rfl)]
  rw [Lib.run_noEscape]
  simp only [Result.andThen]
  rw [Oper.upon_value]
  go_wp2
  rw [Lib.run_from_unsafe w ⟨b, 0, none⟩ Tryd.underlying125 Tryd.underlying68 hj hsh Tryd.bldL]
  simp only [Result.andThen]
  rw [Oper.upon_value]
  go_wp2
  go_end0
  exact ⟨rfl, rfl⟩
theorem Tryd.copyCheck (B b : Nat) (bs : List Value) (w : World) (h : Lib.IsBuilder 70 5 B b bs w) :
    Calls Tryd.prog 56 #[.pointer (some ⟨b, 0, none⟩)] w fun e w' => e = .returned (.tuple #[]) ∧ (Lib.BuilderAt 70 5 B b (.pointer (some ⟨b, 0, none⟩)) bs w' ∧ Below B w w') := by
  rcases h with h | h
  · refine (Tryd.copyCheck_fresh b w h.cell0 h.shape h.frozen0).mono ?_
    rintro e w' ⟨rfl, rfl⟩
    exact ⟨rfl, h.used _, (Below.refl B w).setCell (p := ⟨b, 0, none⟩) h.1 _⟩
  · refine (Tryd.copyCheck_used b w h.cell0).mono ?_
    rintro e w' ⟨rfl, rfl⟩
    exact ⟨rfl, h, Below.refl B _⟩
theorem Tryd.byteInfo : (Tryd.prog.info? 5).map (fun i => (i.zero, i.size, i.bytes)) = some (some (.int .u8 0), 1, 1) := by kernel_rfl
set_option maxHeartbeats 2000000 in
set_option maxRecDepth 100000 in
theorem Tryd.writeString (B b : Nat) (bs : List Value) (s : ByteArray) (w : World) (h : Lib.IsBuilder 70 5 B b bs w) (hlen : bs.length + s.size ≤ 140737488355328) (hBw : B ≤ w.heap.size) :
    Calls Tryd.prog 28 #[.pointer (some ⟨b, 0, none⟩), .string s] w fun e w' => e = .returned (.tuple #[.int .i64 s.size, .nilIface]) ∧ (Lib.BuilderAt 70 5 B b (.pointer (some ⟨b, 0, none⟩)) (bs ++ Lib.strCells s) w' ∧ Below B w w') := by
  obtain ⟨i0, hi, hz0, hz1, hz2⟩ := info_parts Tryd.byteInfo
  go_enter Tryd.func28, Tryd.ntmps28
  go_wp2_with (go_at_call 56; refine (Tryd.copyCheck B b bs _ h).mono ?_)
  rintro e w1 ⟨rfl, h1, hb1⟩
  obtain ⟨hB, v, hbk, hown, hne⟩ := h1
  have c0 : w1.cell? ⟨b, 0, none⟩ = some (.pointer (some ⟨b, 0, none⟩)) := by rw [Lib.cell_of_heap hbk]; rfl
  have c1 : w1.cell? ⟨b, 1, none⟩ = some v := by rw [Lib.cell_of_heap hbk]; rfl
  go_wp2_with (at_builtin; refine Lib.wpList_append_own_string _ rfl _ _ 40 9 rfl B 5 i0 Tryd.underlying40 Tryd.underlying9 hi hz0 hz1 hz2 _ _ _ rfl hown s rfl ?c3 ?c4 ?c5 ?_)
  case c3 => unfold maxLen; omega
  case c4 => omega
  case c5 => have := hb1.size; omega
  intro v' w2 hown' hgrow _
  have hlt : b < w1.heap.size := by
    rcases Nat.lt_or_ge b w1.heap.size with h' | h'
    · exact h'
    · simp [Array.getElem?_eq_none h'] at hbk
  have hb2 : w2.heap[b]? = some (.cells #[.pointer (some ⟨b, 0, none⟩), v] 70 (0, 0)) := by
    rw [hgrow.block b hlt (fun e => hne e.symm)]
    exact hbk
  have d0 : w2.cell? ⟨b, 0, none⟩ = some (.pointer (some ⟨b, 0, none⟩)) := by rw [Lib.cell_of_heap hb2]; rfl
  have d1 : w2.cell? ⟨b, 1, none⟩ = some v := by rw [Lib.cell_of_heap hb2]; rfl
  have f1 : w2.frozen? ⟨b, 1, none⟩ = false := Lib.frozen_of_heap hb2 1
  obtain ⟨ao, n', cap, rfl⟩ : ∃ ao n' cap, v' = .slice ao n' cap := by
    rcases hown'.2 with ⟨hv, _⟩ | ⟨g, cap, cur, hv, _⟩
    · exact ⟨_, _, _, hv⟩
    · exact ⟨_, _, _, hv⟩
  go_wp2
  go_ret2
  refine ⟨rfl, ?_, ?_⟩
  · exact Lib.BuilderAt.put (T := 70) (e := 5) hB hb2 (bs' := bs ++ Lib.strCells s) (by simpa [Lib.strCells_length] using hown') (by decide)
  · exact (hb1.grown hgrow (by have := hb1.size; omega) (fun k hk => (hown.lt k hk).1)).setCell (p := ⟨b, 1, none⟩) hB _
theorem Tryd.bldExtra : Builder.Extra Tryd.prog Tryd.lays169_ren where
  sizeBuilder := by kernel_rfl
  liesBuilder := by kernel_rfl
  t5 := Tryd.underlying5
  a5 := Tryd.isAgg5
  z5 := Tryd.sizeOf5
  v5 := Tryd.zeroValue5
  infoByte := by kernel_rfl
  cellsByte := by kernel_rfl
  sizeByte := by kernel_rfl
  neB5 := by decide
theorem Tryd.bldString (B b : Nat) (l : List UInt8) (w : World) (h : Lib.IsBuilder 70 5 B b (Lib.byteCells l) w) (hBw : B ≤ w.heap.size) :
    Calls Tryd.prog 29 #[.pointer (some ⟨b, 0, none⟩)] w fun e w' => e = .returned (.string ⟨l.toArray⟩) ∧ Below B w w' := Any.Builder_String_any Tryd.lays169 Tryd.bldExtra B b l w h hBw
end Go.Proofs
/- asm.Source, walked: what it calls is told by hypotheses. -/
set_option linter.unusedVariables false
namespace Go.Proofs
open Go.Shelf Go.RowKit
def lineV (hexF txtF : Int → ByteArray) (codeF : Int → Int) (n : Int) : ByteArray := (if codeF n = 0 then txtF n else ⟨#[87, 79, 82, 68, 32]⟩ ++ hexF n) ++ ⟨#[10]⟩
def linesV (hexF txtF : Int → ByteArray) (codeF : Int → Int) (xs : List Int) : List UInt8 := (xs.map fun n => (lineV hexF txtF codeF n).data.toList).flatten
theorem isB_at {T e : TypeId} {B b : Nat} {p : Value} {bs : List Value} {w w' : World} (h : Lib.BuilderAt T e B b p bs w) (k : Below w.heap.size w w') : Lib.BuilderAt T e B b p bs w' := by
  have hlt := h.lt
  obtain ⟨hB, v, hb, hown, hne⟩ := h
  refine ⟨hB, v, (k.block b hlt).trans hb, hown.kept (row := none) ⟨k.os, k.tape, k.output, k.size, fun i hi _ => k.block i hi⟩ ?_, hne⟩
  cases v.ownBlock with
  | none => exact Or.inl rfl
  | some x => exact Or.inr (by simp)
theorem isB_keep {T e : TypeId} {B b : Nat} {bs : List Value} {w w' : World} (h : Lib.IsBuilder T e B b bs w) (k : Below w.heap.size w w') : Lib.IsBuilder T e B b bs w' := h.imp (isB_at · k) (isB_at · k)
theorem line_size {hexF txtF : Int → ByteArray} {codeF : Int → Int} {n : Int} (hsz : (hexF n).size ≤ 1000 ∧ (txtF n).size ≤ 1000) : (lineV hexF txtF codeF n).size ≤ 1006 := by
  unfold lineV
  rw [ByteArray.size_append]
  split
  · have e : (ByteArray.mk #[10]).size = 1 := rfl
    omega
  · rw [ByteArray.size_append]
    have e : (ByteArray.mk #[10]).size = 1 := rfl
    have e2 : (ByteArray.mk #[87, 79, 82, 68, 32]).size = 5 := rfl
    omega
theorem lines_len {hexF txtF : Int → ByteArray} {codeF : Int → Int} (xs : List Int) (hsz : ∀ n ∈ xs, (hexF n).size ≤ 1000 ∧ (txtF n).size ≤ 1000) : (linesV hexF txtF codeF xs).length ≤ 1006 * xs.length := by
  unfold linesV
  induction xs with
  | nil => simp
  | cons x xs ih =>
    have := line_size (codeF := codeF) (hsz x (List.mem_cons_self ..))
    have ih := ih fun n h => hsz n (List.mem_cons_of_mem _ h)
    rw [List.map_cons, List.flatten_cons, List.length_append, List.length_cons, ← Lib.size_eq]
    omega
theorem lines_succ {hexF txtF : Int → ByteArray} {codeF : Int → Int} {xs : List Int} {k : Nat} (h : k < xs.length) : linesV hexF txtF codeF (xs.take (k + 1)) = linesV hexF txtF codeF (xs.take k) ++ (lineV hexF txtF codeF (xs[k]'h)).data.toList := by
  unfold linesV
  rw [List.take_succ_eq_append_getElem h, List.map_append, List.flatten_append]; simp
set_option maxHeartbeats 4000000 in
set_option maxRecDepth 100000 in
theorem Tryd.source_walk {hexF txtF : Int → ByteArray} {A B C D I : Int → Int} {codeF : Int → Int} {G : Int → Prop}
    (hHex : ∀ (n : Int) (w : World), G n → Calls Tryd.prog 25 #[.int .u32 n] w fun e w' => e = .returned (.string (hexF n)) ∧ Below w.heap.size w w')
    (hDec : ∀ (n : Int) (w : World), G n → Calls Tryd.prog 26 #[.int .u32 n] w fun e w' => e = .returned (.tuple #[.agg #[.int .i64 (A n), .int .i64 (B n), .int .i64 (C n), .int .i64 (D n), .int .i64 (I n)], .int .i64 (codeF n)]) ∧ Below w.heap.size w w')
    (hTxt : ∀ (n : Int) (w : World), G n → codeF n = 0 → Calls Tryd.prog 27 #[.agg #[.int .i64 (A n), .int .i64 (B n), .int .i64 (C n), .int .i64 (D n), .int .i64 (I n)]] w fun e w' => (∃ c, e = .returned (.tuple #[.string (txtF n), .int .i64 c])) ∧ Below w.heap.size w w')
    (hsz : ∀ n, G n → (hexF n).size ≤ 1000 ∧ (txtF n).size ≤ 1000) (xs : List Int) (hx : ∀ x ∈ xs, G x) (hn : xs.length ≤ 100000) (p o cap : Nat) (w : World)
    (hc : ∀ (i : Nat) (x : Int), xs[i]? = some x → w.cell? ⟨p, o + i, none⟩ = some (.int .u32 x)) (hp : p < w.heap.size) :
    Calls Tryd.prog 17 #[.slice (some ⟨p, o, none⟩) xs.length cap] w fun e w' => e = .returned (.string ⟨(linesV hexF txtF codeF xs).toArray⟩) ∧ Below w.heap.size w w' := by
  have h0 : Lib.IsBuilder 70 5 w.heap.size w.heap.size (Lib.byteCells []) (w.alloc (.cells #[.pointer none, .slice none 0 0] 70)) := Lib.fresh_isBuilder 70 5 w
  have b0 : Below w.heap.size w (w.alloc (.cells #[.pointer none, .slice none 0 0] 70)) := (Below.refl _ w).alloc (Nat.le_refl _) _
  go_enter Tryd.func17, Tryd.ntmps17
  go_wp2
  go_loopw [11] (fun iv wr => ∃ k : Nat, k ≤ xs.length ∧ iv = .int .i64 k ∧ Lib.IsBuilder 70 5 w.heap.size w.heap.size (Lib.byteCells (linesV hexF txtF codeF (xs.take k))) wr ∧ Below w.heap.size w wr)
    (fun iv _ => xs.length - (intOf iv).toNat)
  case atStart => exact ⟨0, Nat.zero_le _, rfl, h0, b0⟩
  case round =>
    obtain ⟨k, hk, rfl, hI, hnx⟩ := hrel
    rcases Nat.lt_or_ge k xs.length with hlt | hge
    · have hcx : wr.cell? ⟨p, o + k, none⟩ = some (.int .u32 (xs[k]'hlt)) := (hnx.cell (p := ⟨p, o + k, none⟩) hp).trans (hc k _ (List.getElem?_eq_getElem hlt))
      obtain ⟨n, hxn⟩ : ∃ n, (xs[k]'hlt) = n := ⟨_, rfl⟩
      have n0 := hx _ (List.getElem_mem hlt)
      rw [hxn] at hcx n0
      have cH := fun w => hHex n w n0
      have cD := fun w => hDec n w n0
      have cT := fun w => hTxt n w n0
      have hll := lines_len (codeF := codeF) (xs.take k) (fun y hy => hsz y (hx y (List.mem_of_mem_take hy)))
      rw [List.length_take] at hll
      have hls := line_size (codeF := codeF) (hsz n n0)
      obtain ⟨z1, z2⟩ := hsz n n0
      have hlen : (Lib.byteCells (linesV hexF txtF codeF (xs.take k))).length + (txtF n ++ (⟨#[10]⟩ : ByteArray)).size ≤ 140737488355328 := by
        have e : (ByteArray.mk #[10]).size = 1 := rfl
        rw [Lib.byteCells_length, ByteArray.size_append]; omega
      have hlen' : (Lib.byteCells (linesV hexF txtF codeF (xs.take k))).length + ((⟨#[87, 79, 82, 68, 32]⟩ : ByteArray) ++ hexF n ++ (⟨#[10]⟩ : ByteArray)).size ≤ 140737488355328 := by
        have e : (ByteArray.mk #[10]).size = 1 := rfl
        have e2 : (ByteArray.mk #[87, 79, 82, 68, 32]).size = 5 := rfl
        rw [Lib.byteCells_length, ByteArray.size_append, ByteArray.size_append]; omega
      clear hll hls
      clear hHex hDec hTxt hx hc hsz h0 b0
      go_wp2_with (go_at_call 25; refine (cH _).mono ?_)
      rintro e w1 ⟨rfl, b1⟩
      go_wp2_with (go_at_call 26; refine (cD _).mono ?_)
      rintro e w2 ⟨rfl, b2⟩
      have j2 := isB_keep (isB_keep hI b1) b2
      have j3 := isB_keep j2 ((Below.refl w2.heap.size w2).alloc (Nat.le_refl _) (.cells #[.int .i64 (A n), .int .i64 (B n), .int .i64 (C n), .int .i64 (D n), .int .i64 (I n)] 73))
      have q3 : Below w.heap.size w (w2.alloc (.cells #[.int .i64 (A n), .int .i64 (B n), .int .i64 (C n), .int .i64 (D n), .int .i64 (I n)] 73)) := ((hnx.trans (b1.mono hnx.size)).trans (b2.mono (Nat.le_trans hnx.size b1.size))).alloc (Nat.le_trans (Nat.le_trans hnx.size b1.size) b2.size) _
      by_cases hcd : codeF n = 0
      · go_wp2_with (go_at_call 27; refine (cT _ hcd).mono ?_)
        rintro e w3 ⟨⟨c, rfl⟩, b3⟩
        have j4 := isB_keep j3 b3
        have q4 := q3.trans (b3.mono q3.size)
        clear j2 j3 q3 b1 b2 b3 hI hnx
        go_wp2_with (go_at_call 28; refine (Tryd.writeString w.heap.size w.heap.size _ _ _ j4 hlen q4.size).mono ?_)
        rintro e w4 ⟨rfl, h4, b4⟩
        rw [Lib.strCells_eq, ← Lib.byteCells_append] at h4
        have j5 : Lib.IsBuilder 70 5 w.heap.size w.heap.size (Lib.byteCells (linesV hexF txtF codeF (xs.take (k + 1)))) w4 := by
          refine Or.inr ?_
          rw [lines_succ hlt, hxn]
          unfold lineV
          rw [if_pos hcd]
          exact h4
        have q5 := q4.trans b4
        clear j4 q4 h4 b4 hlen hlen'
        go_wp2
        go_roundw
        case rel => exact ⟨k + 1, by omega, by go_num, j5, q5⟩
        case measure => simp [intOf]; omega
      · go_wp2_with (go_at_call 28; refine (Tryd.writeString w.heap.size w.heap.size _ _ _ j3 hlen' q3.size).mono ?_)
        rintro e w4 ⟨rfl, h4, b4⟩
        rw [Lib.strCells_eq, ← Lib.byteCells_append] at h4
        have j5 : Lib.IsBuilder 70 5 w.heap.size w.heap.size (Lib.byteCells (linesV hexF txtF codeF (xs.take (k + 1)))) w4 := by
          refine Or.inr ?_
          rw [lines_succ hlt, hxn]
          unfold lineV
          rw [if_neg hcd]
          exact h4
        have q5 := q3.trans b4
        clear j2 j3 q3 b1 b2 hI hnx h4 b4 hlen hlen'
        go_wp2
        go_roundw
        case rel => exact ⟨k + 1, by omega, by go_num, j5, q5⟩
        case measure => simp [intOf]; omega
    · have hke : k = xs.length := by omega
      subst hke
      rw [List.take_length] at hI
      clear hHex hDec hTxt hx hc h0 b0
      go_wp2_with (go_at_call 29; refine (Tryd.bldString w.heap.size w.heap.size _ _ hI hnx.size).mono ?_)
      rintro e w1 ⟨rfl, b1⟩
      have q1 := hnx.trans b1
      go_wp2
      go_ret
      exact ⟨rfl, q1⟩
set_option maxHeartbeats 4000000 in
set_option maxRecDepth 100000 in
theorem Tryd.source_nil (a : Option Addr) (cap : Nat) (w : World) :
    Calls Tryd.prog 17 #[.slice a 0 cap] w fun e w' => e = .returned (.string ⟨#[]⟩) ∧ Below w.heap.size w w' := by
  have h0 : Lib.IsBuilder 70 5 w.heap.size w.heap.size (Lib.byteCells []) (w.alloc (.cells #[.pointer none, .slice none 0 0] 70)) := Lib.fresh_isBuilder 70 5 w
  have b0 : Below w.heap.size w (w.alloc (.cells #[.pointer none, .slice none 0 0] 70)) := (Below.refl _ w).alloc (Nat.le_refl _) _
  go_enter Tryd.func17, Tryd.ntmps17
  go_wp2
  go_loopw [11] (fun iv wr => iv = .int .i64 0 ∧ wr = w.alloc (.cells #[.pointer none, .slice none 0 0] 70)) (fun iv _ => 0)
  case atStart => exact ⟨rfl, rfl⟩
  case round =>
    obtain ⟨rfl, rfl⟩ := hrel
    go_wp2_with (go_at_call 29; refine (Tryd.bldString w.heap.size w.heap.size [] _ h0 b0.size).mono ?_)
    rintro e w1 ⟨rfl, b1⟩
    have q1 := b0.trans b1
    go_wp2
    go_ret
    exact ⟨rfl, q1⟩
end Go.Proofs
/- What asm.Source calls, by the machine without contracts. -/
set_option linter.unusedVariables false
namespace Go.Proofs.Abs.Z
open Go Go.Proofs Go.Proofs.Abs Go.RowKit
theorem hex_calls {n : Int} {s : ByteArray} (h : word_Hex n = some s) (w : World) : Calls Tryd.prog 25 #[.int .u32 n] w fun e w' => e = .returned (.string s) ∧ Below w.heap.size w w' := by
  refine (law_runs (X := X) (w := w) (us := #[.int .u32 n]) (by kernel_rfl) (ctOk_none fun _ _ => rfl) (glob_none rfl) (ok_word_Hex [] h) rfl (fun i tv u h1 h2 => ?_) (fun m a hm => ?_)).mono ?_
  · match i, h1, h2 with
    | 0, h1, h2 => cases h1; cases h2; exact .inl .int
    | k + 1, h1, h2 => simp at h1
  · simp at hm; rw [hm.1]; rfl
  · rintro e w' ⟨u, g', rfl, r, b⟩
    have : u = .string s := (show RC w' g' .top (.lim 0) [0] (.str s) u from r).str
    subst this
    exact ⟨rfl, b⟩
theorem dec_calls {n : Int} {x : T_instr_Instr} {c : Int} (h : instr_Decode n = some (x, c)) (w : World) : Calls Tryd.prog 26 #[.int .u32 n] w fun e w' => e = .returned (.tuple #[.agg #[.int .i64 x.Op_, .int .i64 x.A_, .int .i64 x.B_, .int .i64 x.C_, .int .i64 x.Imm_], .int .i64 c]) ∧ Below w.heap.size w w' := by
  refine (law_runs (X := X) (w := w) (us := #[.int .u32 n]) (by kernel_rfl) (ctOk_none fun _ _ => rfl) (glob_none rfl) (ok_instr_Decode [] h) rfl (fun i tv u h1 h2 => ?_) (fun m a hm => ?_)).mono ?_
  · match i, h1, h2 with
    | 0, h1, h2 => cases h1; cases h2; exact .inl .int
    | k + 1, h1, h2 => simp at h1
  · simp at hm; rw [hm.1]; rfl
  · rintro e w' ⟨u, g', rfl, ⟨vs, rfl, hs, hv⟩, b⟩
    obtain ⟨u0, k0, q, rfl, qs, qv⟩ := hv 0 _ rfl
    obtain ⟨u1, k1, r1⟩ := hv 1 _ rfl
    have e1 : u1 = .int .i64 c := RC.int r1
    obtain ⟨a0, l0, m0⟩ := qv 0 _ rfl
    obtain ⟨a1, l1, m1⟩ := qv 1 _ rfl
    obtain ⟨a2, l2, m2⟩ := qv 2 _ rfl
    obtain ⟨a3, l3, m3⟩ := qv 3 _ rfl
    obtain ⟨a4, l4, m4⟩ := qv 4 _ rfl
    obtain rfl := RC.int m0; obtain rfl := RC.int m1; obtain rfl := RC.int m2; obtain rfl := RC.int m3; obtain rfl := RC.int m4
    subst e1
    refine ⟨?_, b⟩
    have hq : q = #[.int .i64 x.Op_, .int .i64 x.A_, .int .i64 x.B_, .int .i64 x.C_, .int .i64 x.Imm_] := by
      apply Array.ext_getElem?
      intro i
      match i with
      | 0 => exact l0
      | 1 => exact l1
      | 2 => exact l2
      | 3 => exact l3
      | 4 => exact l4
      | i + 5 =>
        have : q.size = 5 := qs
        rw [Array.getElem?_eq_none (by omega), Array.getElem?_eq_none (by simp)]
    subst hq
    congr 2
    apply Array.ext_getElem?
    intro i
    match i with
    | 0 => exact k0
    | 1 => exact k1
    | i + 2 =>
      have : vs.size = 2 := hs
      rw [Array.getElem?_eq_none (by omega), Array.getElem?_eq_none (by simp)]
theorem txt_calls {x : T_instr_Instr} {s : ByteArray} {c : Int} (h : instr_Text x = some (s, c)) (w : World) : Calls Tryd.prog 27 #[.agg #[.int .i64 x.Op_, .int .i64 x.A_, .int .i64 x.B_, .int .i64 x.C_, .int .i64 x.Imm_]] w fun e w' => (∃ c, e = .returned (.tuple #[.string s, .int .i64 c])) ∧ Below w.heap.size w w' := by
  refine (law_runs (X := X) (w := w) (us := #[.agg #[.int .i64 x.Op_, .int .i64 x.A_, .int .i64 x.B_, .int .i64 x.C_, .int .i64 x.Imm_]]) (by kernel_rfl) (ctOk_none fun _ _ => rfl) (glob_none rfl) (ok_instr_Text [] h) rfl (fun i tv u h1 h2 => ?_) (fun m a hm => ?_)).mono ?_
  · match i, h1, h2 with
    | 0, h1, h2 =>
      cases h1; cases h2
      refine ⟨_, rfl, rfl, fun j c hc => ?_⟩
      match j, hc with
      | 0, hc => cases hc; exact ⟨_, rfl, .inl .int⟩
      | 1, hc => cases hc; exact ⟨_, rfl, .inl .int⟩
      | 2, hc => cases hc; exact ⟨_, rfl, .inl .int⟩
      | 3, hc => cases hc; exact ⟨_, rfl, .inl .int⟩
      | 4, hc => cases hc; exact ⟨_, rfl, .inl .int⟩
      | j + 5, hc => simp [m0_instr_Instr] at hc
    | k + 1, h1, h2 => simp at h1
  · simp at hm
  · rintro e w' ⟨u, g', rfl, ⟨vs, rfl, hs, hv⟩, b⟩
    obtain ⟨u0, k0, r0⟩ := hv 0 _ rfl
    obtain ⟨u1, k1, r1⟩ := hv 1 _ rfl
    obtain rfl := RC.str r0
    obtain rfl := RC.int r1
    refine ⟨⟨c, ?_⟩, b⟩
    congr 2
    apply Array.ext_getElem?
    intro i
    match i with
    | 0 => exact k0
    | 1 => exact k1
    | i + 2 =>
      have : vs.size = 2 := hs
      rw [Array.getElem?_eq_none (by omega), Array.getElem?_eq_none (by simp)]
end Go.Proofs.Abs.Z
/- asm.Source by its contract. -/
set_option linter.unusedVariables false
namespace Go.Proofs.Abs
open Go Go.Proofs Go.RowKit
noncomputable def hexT (n : Int) : ByteArray := (Z.word_Hex n).getD .empty
noncomputable def decT (n : Int) : T_instr_Instr × Int := (Z.instr_Decode n).getD default
noncomputable def txtT (n : Int) : ByteArray := ((Z.instr_Text (decT n).1).getD (.empty, 0)).1
structure okT (n : Int) : Prop where
  hex : ∃ s, Z.word_Hex n = some s
  hexs : (hexT n).size ≤ 1000
  dec : ∃ x, Z.instr_Decode n = some x
  txt : (decT n).2 = 0 → ∃ x, Z.instr_Text (decT n).1 = some x
  txts : (txtT n).size ≤ 1000
open Classical in
noncomputable def sourceC (xs : List Int) : Option ByteArray := if xs.length ≤ 100000 ∧ ∀ x ∈ xs, okT x then some ⟨(linesV hexT txtT (fun n => (decT n).2) xs).toArray⟩ else none
theorem source_holds (xs : List Int) (s : ByteArray) (h : sourceC xs = some s) (a : Option Addr) (cap : Nat) (w : World) (hh : Holds w xs a) : Calls Tryd.prog 17 #[.slice a xs.length cap] w fun e w' => e = .returned (.string s) ∧ Below w.heap.size w w' := by
  unfold sourceC at h
  split at h
  · rename_i hg
    cases h
    rcases hh with rfl | ⟨p, o, rfl, hp, hc⟩
    · exact Tryd.source_nil a cap w
    · refine Tryd.source_walk (hexF := hexT) (txtF := txtT) (codeF := fun n => (decT n).2) (A := fun n => (decT n).1.Op_) (B := fun n => (decT n).1.A_) (C := fun n => (decT n).1.B_) (D := fun n => (decT n).1.C_) (I := fun n => (decT n).1.Imm_) (G := okT) ?_ ?_ ?_ ?_ xs hg.2 hg.1 p o cap w hc hp
      · intro n w hn
        obtain ⟨s, hs⟩ := hn.hex
        have : hexT n = s := by unfold hexT; rw [hs]; rfl
        rw [this]
        exact Z.hex_calls hs w
      · intro n w hn
        obtain ⟨x, hx⟩ := hn.dec
        have : decT n = x := by unfold decT; rw [hx]; rfl
        rw [this]
        exact Z.dec_calls hx w
      · intro n w hn h0
        obtain ⟨x, hx⟩ := hn.txt h0
        have : txtT n = x.1 := by unfold txtT; rw [hx]; rfl
        rw [this]
        exact Z.txt_calls hx w
      · exact fun n hn => ⟨hn.hexs, hn.txts⟩
  · cases h
end Go.Proofs.Abs
