/- The law MemoryTells: whatever the input, it answers true. No conditions. (Part MemoryTellsP of its proof.) -/
import Derived.Test.YtdfdjhimecmkfaaMemoryTellsF1
set_option linter.unusedVariables false
set_option linter.unusedSimpArgs false
set_option linter.unusedSectionVars false
/- The memory and the document's, in plain Lean: right layouts, places. -/
namespace Go.Proofs.Abs
open Go
set_option linter.unusedVariables false
set_option linter.unusedSimpArgs false
theorem mem_inj (x y : T_memory_Mem) (h : o_memory_Mem x = o_memory_Mem y) : x = y := by
  obtain ⟨⟨a, b, c, d, e⟩, ws⟩ := x
  obtain ⟨⟨a', b', c', d', e'⟩, ws'⟩ := y
  simp only [o_memory_Mem, List.cons.injEq, Prod.mk.injEq, AV.int.injEq, AV.sl.injEq, true_and, and_true] at h
  obtain ⟨rfl, rfl, rfl, rfl, rfl, h⟩ := h
  rw [map_inj eI_inj _ _ h]
theorem mem_len (x : T_memory_Mem) : (o_memory_Mem x).length = 6 := rfl
def Bad (last e : Int) : Bool := (decide (e < last)) || (((Int.tmod e 4) != 0) || (decide (e > 1048576)))
def RightB (L : T_memory_Layout) : Bool := !(Bad 0 L.Code_ || Bad L.Code_ L.Tables_ || Bad L.Tables_ L.Data_ || Bad L.Data_ L.Heap_ || Bad L.Heap_ L.Stack_)
theorem ga5 (a b c d e : Int) : ga (arrL [a, b, c, d, e] : Arr 5 Int) 0 = some a ∧ ga (arrL [a, b, c, d, e] : Arr 5 Int) 1 = some b ∧ ga (arrL [a, b, c, d, e] : Arr 5 Int) 2 = some c ∧ ga (arrL [a, b, c, d, e] : Arr 5 Int) 3 = some d ∧ ga (arrL [a, b, c, d, e] : Arr 5 Int) 4 = some e := ⟨rfl, rfl, rfl, rfl, rfl⟩
theorem right_spec (L : T_memory_Layout) : memory_Right L = some (RightB L) := by
  obtain ⟨a, b, c, d, e⟩ := L
  obtain ⟨g0, g1, g2, g3, g4⟩ := ga5 a b c d e
  have step : ∀ (last i v : Int), ga (arrL [a, b, c, d, e] : Arr 5 Int) i = some v → 0 ≤ i → i < 5 → memory_Right_L1 (arrL [a, b, c, d, e] : Arr 5 Int) last i = if Bad last v = true then some (Sum.inr (Sum.inr ())) else some (Sum.inl (v, i + 1)) := by
    intro last i v hv h0 h5
    unfold memory_Right_L1
    rw [if_pos (by simpa using h5), hv, bind1_some, wrap_i64 (i + 1) (by omega) (by omega)]
    rfl
  have fin : ∀ last : Int, memory_Right_L1 (arrL [a, b, c, d, e] : Arr 5 Int) last 5 = some (Sum.inr (Sum.inl ())) := fun _ => rfl
  unfold memory_Right memory_Layout_ends RightB
  simp only [bind1_some]
  rw [loopO_eq, step 0 0 a g0 (by omega) (by omega)]
  cases h0 : Bad 0 a with
  | true => simp [bind1_some, sum2_inr]
  | false =>
    simp only [Bool.false_eq_true, if_false, Int.reduceAdd]
    rw [loopO_eq, step a 1 b g1 (by omega) (by omega)]
    cases h1 : Bad a b with
    | true => simp [bind1_some, sum2_inr]
    | false =>
      simp only [Bool.false_eq_true, if_false, Int.reduceAdd]
      rw [loopO_eq, step b 2 c g2 (by omega) (by omega)]
      cases h2 : Bad b c with
      | true => simp [bind1_some, sum2_inr]
      | false =>
        simp only [Bool.false_eq_true, if_false, Int.reduceAdd]
        rw [loopO_eq, step c 3 d g3 (by omega) (by omega)]
        cases h3 : Bad c d with
        | true => simp [bind1_some, sum2_inr]
        | false =>
          simp only [Bool.false_eq_true, if_false, Int.reduceAdd]
          rw [loopO_eq, step d 4 e g4 (by omega) (by omega)]
          cases h4 : Bad d e with
          | true => simp [bind1_some, sum2_inr]
          | false =>
            simp only [Bool.false_eq_true, if_false, Int.reduceAdd]
            rw [loopO_eq]
            have := fin e
            simp [this, bind1_some, sum2_inl]
def EndsA (L : T_memory_Layout) : Arr 5 Int := (arrL [L.Code_, L.Tables_, L.Data_, L.Heap_, L.Stack_] : Arr 5 Int)
theorem ends_spec (L : T_memory_Layout) : law03_Ends L = some (EndsA L) := rfl
theorem rright_spec (L : T_memory_Layout) (h0 : 0 ≤ L.Code_) : ref03_Right (EndsA L) = some (RightB L) := by
  obtain ⟨a, b, c, d, e⟩ := L
  obtain ⟨g0, g1, g2, g3, g4⟩ := ga5 a b c d e
  have first : ref03_Right_L1 (arrL [a, b, c, d, e] : Arr 5 Int) 0 = if Bad 0 a = true then some (Sum.inr (Sum.inr ())) else some (Sum.inl (0 + 1)) := by
    unfold ref03_Right_L1
    rw [if_pos (by decide)]
    simp only [g0, bind1_some, wrap_i64 (0 + 1) (by omega) (by omega)]
    have e1 : (decide (a < 0)) = false := by simpa using h0
    simp only [Bad, e1, Bool.false_or]
    cases h1 : (Int.tmod a 4 != 0) with
    | true => simp [bind1_some]
    | false =>
      cases h2 : decide (a > 1048576) with
      | true => simp [bind1_some, h2]
      | false => simp [bind1_some, h2]
  have step : ∀ (last i v : Int), ga (arrL [a, b, c, d, e] : Arr 5 Int) i = some v → ga (arrL [a, b, c, d, e] : Arr 5 Int) (i - 1) = some last → 0 < i → i < 5 → ref03_Right_L1 (arrL [a, b, c, d, e] : Arr 5 Int) i = if Bad last v = true then some (Sum.inr (Sum.inr ())) else some (Sum.inl (i + 1)) := by
    intro last i v hv hl h0 h5
    unfold ref03_Right_L1
    rw [if_pos (by simpa using h5)]
    simp only [hv, bind1_some, wrap_i64 (i + 1) (by omega) (by omega), wrap_i64 (i - 1) (by omega) (by omega), hl]
    have e1 : (decide (i > 0)) = true := by simpa using h0
    simp only [e1, if_true, Bad]
    rcases bool_cases (Int.tmod v 4 != 0) with h1 | h1 <;> rcases bool_cases (decide (v > 1048576)) with h2 | h2 <;> rcases bool_cases (decide (v < last)) with h3 | h3 <;> simp only [h1, h2, h3, if_true, if_false, bind1_some, Bool.false_eq_true, Bool.or_true, Bool.true_or, Bool.or_false, Bool.false_or]
  have fin : ref03_Right_L1 (arrL [a, b, c, d, e] : Arr 5 Int) 5 = some (Sum.inr (Sum.inl ())) := rfl
  show ref03_Right (arrL [a, b, c, d, e] : Arr 5 Int) = _
  unfold ref03_Right RightB
  rw [loopO_eq, first]
  cases h0 : Bad 0 a with
  | true => simp [bind1_some, sum2_inr]
  | false =>
    simp only [Bool.false_eq_true, if_false, Int.reduceAdd]
    rw [loopO_eq, step a 1 b g1 g0 (by omega) (by omega)]
    cases h1 : Bad a b with
    | true => simp [bind1_some, sum2_inr]
    | false =>
      simp only [Bool.false_eq_true, if_false, Int.reduceAdd]
      rw [loopO_eq, step b 2 c g2 g1 (by omega) (by omega)]
      cases h2 : Bad b c with
      | true => simp [bind1_some, sum2_inr]
      | false =>
        simp only [Bool.false_eq_true, if_false, Int.reduceAdd]
        rw [loopO_eq, step c 3 d g3 g2 (by omega) (by omega)]
        cases h3 : Bad c d with
        | true => simp [bind1_some, sum2_inr]
        | false =>
          simp only [Bool.false_eq_true, if_false, Int.reduceAdd]
          rw [loopO_eq, step d 4 e g4 g3 (by omega) (by omega)]
          cases h4 : Bad d e with
          | true => simp [bind1_some, sum2_inr]
          | false =>
            simp only [Bool.false_eq_true, if_false, Int.reduceAdd]
            rw [loopO_eq]
            have := fin
            simp [this, bind1_some, sum2_inl]
/-- what a right layout is -/
structure Rt5 (L : T_memory_Layout) : Prop where
  c0 : 0 ≤ L.Code_
  c1 : L.Code_ ≤ L.Tables_
  c2 : L.Tables_ ≤ L.Data_
  c3 : L.Data_ ≤ L.Heap_
  c4 : L.Heap_ ≤ L.Stack_
  m : L.Stack_ ≤ 1048576
  d0 : L.Code_ % 4 = 0
  d1 : L.Tables_ % 4 = 0
  d4 : L.Stack_ % 4 = 0
theorem rt5 {L : T_memory_Layout} (h : RightB L = true) : Rt5 L := by
  simp only [RightB, Bad, Bool.not_eq_true', Bool.or_eq_false_iff, decide_eq_false_iff_not, bne_eq_false_iff_eq] at h
  obtain ⟨⟨⟨⟨⟨a1, a2, a3⟩, b1, b2, b3⟩, c1, c2, c3⟩, d1, d2, d3⟩, e1, e2, e3⟩ := h
  rw [tmod_pos (by omega)] at a2 b2 e2
  exact ⟨by omega, by omega, by omega, by omega, by omega, by omega, a2, b2, e2⟩
end Go.Proofs.Abs
/- The memory and the document's: loads, stores, fills. -/
namespace Go.Proofs.Abs
open Go
set_option linter.unusedVariables false
set_option linter.unusedSimpArgs false
/-- at m there is a memory of these parts and words -/
def MemAt (H : Heap) (m : Ptr) (L : T_memory_Layout) (ws : List Int) : Prop := ∃ i o, m = .at i o ∧ get_memory_Mem H i o = some ⟨L, ws⟩
structure Good (L : T_memory_Layout) (ws : List Int) : Prop where
  r : Rt5 L
  n : (ws.length : Int) * 4 = L.Stack_
/-- all other memories stay -/
def Fr (m : Ptr) (H H' : Heap) : Prop := H'.length = H.length ∧ ∀ q L ws, (∀ i o i' o', m = .at i o → q = .at i' o' → i ≠ i') → MemAt H q L ws → MemAt H' q L ws
theorem Fr.refl (m : Ptr) (H : Heap) : Fr m H H := ⟨rfl, fun _ _ _ _ h => h⟩
theorem fr_set {H : Heap} {i o : Nat} {x : T_memory_Mem} (y : T_memory_Mem) (h : get_memory_Mem H i o = some x) : Fr (.at i o) H (set_memory_Mem H i o y) ∧ get_memory_Mem (set_memory_Mem H i o y) i o = some y := by
  refine ⟨⟨hset_len, fun q L ws hq ⟨j, o', e, k⟩ => ⟨j, o', e, ?_⟩⟩, hgT_set mem_inj mem_len h y⟩
  exact hgT_other mem_inj (hq i o j o' rfl e) k
section
variable {H : Heap} {m : Ptr} {L : T_memory_Layout} {ws : List Int} {a : Int}
def errA (L : T_memory_Layout) (a : Int) : Int := if a % 4 ≠ 0 then 30 else if a ≥ L.Stack_ then 31 else 0
theorem place_spec (hm : MemAt H m L ws) (h0 : 0 ≤ a) (h1 : a ≤ 4294967295) : memory_Mem_place H m a = some (if errA L a = 0 then a / 4 else 0, errA L a) := by
  obtain ⟨i, o, rfl, hg⟩ := hm
  unfold memory_Mem_place errA
  simp only [tmod_pos h0, tdiv_pos h0, pbnd_at, hg, bind1_some, wrap_u32 (a / 4) (by omega) (by omega), wrap_i64 (a / 4) (by omega) (by omega)]
  by_cases c1 : a % 4 = 0
  · by_cases c2 : a ≥ L.Stack_
    · simp [c1, c2]
    · simp [c1, c2]
  · simp [c1]
theorem errA_ok (G : Good L ws) (h0 : 0 ≤ a) (h : errA L a = 0) : a % 4 = 0 ∧ a < L.Stack_ ∧ a / 4 < ws.length ∧ 0 ≤ a / 4 := by
  have := G.n
  unfold errA at h
  split at h
  · cases h
  · split at h
    · cases h
    · refine ⟨by omega, by omega, by omega, by omega⟩
theorem load_spec (G : Good L ws) (hm : MemAt H m L ws) (h0 : 0 ≤ a) (h1 : a ≤ 4294967295) : memory_Mem_Load H m a = some (if errA L a = 0 then ws.getD (a / 4).toNat 0 else 0, errA L a) := by
  unfold memory_Mem_Load
  rw [place_spec hm h0 h1, bind2_some]
  obtain ⟨i, o, rfl, hg⟩ := hm
  by_cases he : errA L a = 0
  · obtain ⟨_, _, k1, k2⟩ := errA_ok G h0 he
    simp only [he, if_true, bne_self_eq_false, Bool.false_eq_true, if_false, pbnd_at, hg, bind1_some, gi_some k2 k1]
    have : (a / 4).toNat < ws.length := by omega
    simp [List.getD, this]
  · have : (errA L a != 0) = true := by simpa using he
    simp [he]
theorem rload_spec (G : Good L ws) (h0 : 0 ≤ a) (h1 : a ≤ 4294967295) : ref03_Load ⟨EndsA L, ws⟩ a = some (if errA L a = 0 then ws.getD (a / 4).toNat 0 else 0, errA L a) := by
  unfold ref03_Load
  have hn := G.n
  simp only [tmod_pos h0, tdiv_pos h0, wrap_u32 (a / 4) (by omega) (by omega), wrap_i64 (a / 4) (by omega) (by omega)]
  by_cases c1 : a % 4 = 0
  · by_cases c2 : a ≥ L.Stack_
    · have c3 : (decide (a / 4 ≥ (ws.length : Int))) = true := by simp; omega
      have e : errA L a = 31 := by simp [errA, c1, c2]
      simp [c1, c3, e]
    · have e : errA L a = 0 := by simp [errA, c1, c2]
      obtain ⟨_, _, k1, k2⟩ := errA_ok G h0 e
      have c3 : (decide (a / 4 ≥ (ws.length : Int))) = false := by simp; omega
      have : (a / 4).toNat < ws.length := by omega
      simp [c1, c3, e, gi_some k2 k1, bind1_some, List.getD, this]
  · have e : errA L a = 30 := by simp [errA, c1]
    simp [c1, e]
/-! the document's store -/
theorem with_loop (p2 : List Int) (k : Nat) : ∀ (n : Nat) (p1 : Int) (a5 : List Int) (a6 : Int), 0 ≤ a6 → a6 + n = p2.length → 0 ≤ p1 → p1 + p2.length ≤ a5.length → (a5.length : Int) ≤ 4294967295 →
    loopO (fun (x : List Int × Int) => ref03_with_L1 p2 p1 x.1 x.2) (a5, a6) = some (setAt a5 (p1 + a6).toNat (p2.drop a6.toNat))
  | 0, p1, a5, a6, h0, h1, h2, h3, h4 => by
    rw [loopO_out (r := a5)]
    · have : p2.drop a6.toNat = [] := List.drop_eq_nil_of_le (by omega)
      rw [this]
      simp [setAt]
    · show ref03_with_L1 p2 p1 a5 a6 = _
      unfold ref03_with_L1
      have c : (decide (a6 < (p2.length : Int))) = false := by simp; omega
      simp [c]
  | n + 1, p1, a5, a6, h0, h1, h2, h3, h4 => by
    have hlt : a6 < p2.length := by omega
    have e : ref03_with_L1 p2 p1 a5 a6 = some (.inl (a5.set (p1 + a6).toNat (p2[a6.toNat]'(by omega)), a6 + 1)) := by
      unfold ref03_with_L1
      have c : (decide (a6 < (p2.length : Int))) = true := by simp; omega
      rw [if_pos c, gi_some h0 hlt, bind1_some, wrap_i64 (p1 + a6) (by omega) (by omega), gi_some (by omega) (by omega), bind1_some, si_some (by omega) (by omega), bind1_some, wrap_i64 (a6 + 1) (by omega) (by omega)]
    rw [loopO_go (s' := (a5.set (p1 + a6).toNat (p2[a6.toNat]'(by omega)), a6 + 1)) e]
    rw [with_loop p2 k n p1 _ (a6 + 1) (by omega) (by omega) h2 (by simpa using h3) (by simpa using h4)]
    congr 1
    have e1 : (p1 + (a6 + 1)).toNat = (p1 + a6).toNat + 1 := by omega
    have e2 : (a6 + 1).toNat = a6.toNat + 1 := by omega
    have e3 : p2.drop a6.toNat = p2[a6.toNat]'(by omega) :: p2.drop (a6.toNat + 1) := by rw [List.drop_eq_getElem_cons]
    rw [e1, e2, e3]
    apply List.ext_getElem?
    intro j
    simp only [setAt, List.getElem?_append, List.length_append, List.length_take, List.getElem?_take, List.getElem?_drop, List.length_drop, List.length_set, List.getElem?_set, List.length_cons, List.getElem?_cons]
    grind
theorem with_spec {E : Arr 5 Int} (p1 : Int) (p2 : List Int) (h0 : 0 ≤ p1) (h1 : p1 + p2.length ≤ ws.length) (h2 : ws.length ≤ 262144) : ref03_with ⟨E, ws⟩ p1 p2 = some ⟨E, setAt ws p1.toNat p2⟩ := by
  unfold ref03_with
  have hm : mks 4 (ws.length : Int) (ws.length : Int) (0 : Int) = some (List.replicate ws.length 0) := by
    unfold mks
    rw [if_pos ⟨by omega, by omega, by simp [roomBytes]; omega, by omega⟩]
    simp
  simp only [hm, bind1_some, bnd_def]
  have hc : cpy (List.replicate ws.length (0 : Int)) 0 ws = ws := by
    simp [cpy, setAt]
  rw [hc, with_loop p2 0 p2.length p1 ws 0 (by omega) (by omega) h0 h1 (by omega), bind1_some]
  simp
def errS (L : T_memory_Layout) (a : Int) : Int := if errA L a ≠ 0 then errA L a else if a < L.Tables_ then 32 else 0
def storeW (L : T_memory_Layout) (ws : List Int) (a w : Int) : List Int := if errS L a = 0 then ws.set (a / 4).toNat w else ws
theorem good_store (G : Good L ws) (a w : Int) : Good L (storeW L ws a w) := ⟨G.r, by unfold storeW; split <;> simp [G.n]⟩
theorem good_le (G : Good L ws) : ws.length ≤ 262144 := by
  have := G.n; have := G.r.m; omega
theorem store_spec (G : Good L ws) (hm : MemAt H m L ws) (h0 : 0 ≤ a) (h1 : a ≤ 4294967295) (w : Int) : ∃ H', memory_Mem_Store H m a w = some (H', errS L a) ∧ MemAt H' m L (storeW L ws a w) ∧ Fr m H H' := by
  unfold memory_Mem_Store
  rw [place_spec hm h0 h1, bind2_some]
  by_cases he : errA L a = 0
  · obtain ⟨_, _, k1, k2⟩ := errA_ok G h0 he
    obtain ⟨i, o, rfl, hg⟩ := hm
    by_cases ht : a < L.Tables_
    · have es : errS L a = 32 := by simp [errS, he, ht]
      refine ⟨H, ?_, ⟨i, o, rfl, by rw [hg]; simp [storeW, es]⟩, Fr.refl _ _⟩
      simp [he, pbnd_at, hg, bind1_some, ht, es]
    · have es : errS L a = 0 := by simp [errS, he, ht]
      obtain ⟨f1, f2⟩ := fr_set (⟨L, ws.set (a / 4).toNat w⟩ : T_memory_Mem) hg
      refine ⟨_, ?_, ⟨i, o, rfl, by rw [f2]; simp [storeW, es]⟩, f1⟩
      simp [he, pbnd_at, hg, bind1_some, ht, es, gi_some k2 k1, si_some k2 k1, bnd_def]
  · have es : errS L a = errA L a := by simp [errS, he]
    refine ⟨H, ?_, ?_, Fr.refl _ _⟩
    · have : (errA L a != 0) = true := by simpa using he
      simp [he, es]
    · have : storeW L ws a w = ws := by simp [storeW, es, he]
      rw [this]; exact hm
theorem set_one {a : Nat} {w : Int} (h : a < ws.length) : setAt ws a [w] = ws.set a w := by
  exact setAt_one (by omega)
theorem rstore_spec (G : Good L ws) (h0 : 0 ≤ a) (h1 : a ≤ 4294967295) (w : Int) : ref03_Store ⟨EndsA L, ws⟩ a w = some (⟨EndsA L, storeW L ws a w⟩, errS L a) := by
  unfold ref03_Store
  rw [rload_spec G h0 h1, bind2_some]
  by_cases he : errA L a = 0
  · obtain ⟨_, _, k1, k2⟩ := errA_ok G h0 he
    have hE : (EndsA L).g 1 = L.Tables_ := rfl
    by_cases ht : a < L.Tables_
    · have es : errS L a = 32 := by simp [errS, he, ht]
      simp [he, hE, ht, es, storeW]
    · have es : errS L a = 0 := by simp [errS, he, ht]
      simp only [he, bne_self_eq_false, Bool.false_eq_true, if_false, hE, ht, decide_false, tdiv_pos h0, wrap_u32 (a / 4) (by omega) (by omega), wrap_i64 (a / 4) (by omega) (by omega)]
      rw [with_spec _ _ k2 (by simp; omega) (good_le G), bind1_some, set_one (by omega)]
      simp [storeW, es]
  · have es : errS L a = errA L a := by simp [errS, he]
    have : (errA L a != 0) = true := by simpa using he
    simp [he, es, storeW]
end
end Go.Proofs.Abs
/- The memory and the document's: fills, clones, what is the same; new ones. -/
namespace Go.Proofs.Abs
open Go
set_option linter.unusedVariables false
set_option linter.unusedSimpArgs false
section
variable {H : Heap} {m : Ptr} {L : T_memory_Layout} {ws : List Int} {a : Int}
def errF (L : T_memory_Layout) (ws : List Int) (a : Int) (l : List Int) : Int := if a % 4 ≠ 0 then 30 else if a / 4 + l.length > ws.length then 31 else 0
def fillW (L : T_memory_Layout) (ws : List Int) (a : Int) (l : List Int) : List Int := if errF L ws a l = 0 then setAt ws (a / 4).toNat l else ws
theorem good_fill (G : Good L ws) (h0 : 0 ≤ a) (l : List Int) : Good L (fillW L ws a l) := by
  refine ⟨G.r, ?_⟩
  unfold fillW
  split
  · rename_i h
    unfold errF at h
    split at h
    · cases h
    · split at h
      · cases h
      · rw [setAt_len (by omega)]; exact G.n
  · exact G.n
theorem fill_spec (G : Good L ws) (hm : MemAt H m L ws) (h0 : 0 ≤ a) (h1 : a ≤ 4294967295) (l : List Int) (hl : l.length ≤ 4294967295) : ∃ H', memory_Mem_Fill H m a l = some (H', errF L ws a l) ∧ MemAt H' m L (fillW L ws a l) ∧ Fr m H H' := by
  have hn := G.n
  have hS := G.r.m
  have hd := G.r.d4
  unfold memory_Mem_Fill
  simp only [tmod_pos h0, tdiv_pos h0, wrap_u32 (a / 4) (by omega) (by omega)]
  by_cases c1 : a % 4 = 0
  · obtain ⟨i, o, rfl, hg⟩ := hm
    simp only [c1, bne_self_eq_false, Bool.false_eq_true, if_false, pbnd_at, hg, bind1_some, bnd_def]
    by_cases c2 : a > L.Stack_
    · have e : errF L ws a l = 31 := by unfold errF; rw [if_neg (by simpa using c1), if_pos (by omega)]
      refine ⟨H, ?_, ⟨i, o, rfl, by rw [hg]; simp [fillW, e]⟩, Fr.refl _ _⟩
      simp [c2, e]
    · have hs : 0 ≤ L.Stack_ - a := by omega
      rw [wrap_u32 (L.Stack_ - a) hs (by omega), wrap_u64 (L.Stack_ - a) hs (by omega), tdiv_pos hs, wrap_u64 ((L.Stack_ - a) / 4) (by omega) (by omega), wrap_u64 (l.length : Int) (by omega) (by omega)]
      have c2' : (decide (a > L.Stack_)) = false := by simpa using c2
      by_cases c3 : (l.length : Int) > (L.Stack_ - a) / 4
      · have e : errF L ws a l = 31 := by unfold errF; rw [if_neg (by simpa using c1), if_pos (by omega)]
        refine ⟨H, ?_, ⟨i, o, rfl, by rw [hg]; simp [fillW, e]⟩, Fr.refl _ _⟩
        have c3' : (decide ((l.length : Int) > (L.Stack_ - a) / 4)) = true := by simpa using c3
        simp only [c2', c3', Bool.or_true, if_true, e]
      · have e : errF L ws a l = 0 := by unfold errF; rw [if_neg (by simpa using c1), if_neg (by omega)]
        have c3' : (decide ((l.length : Int) > (L.Stack_ - a) / 4)) = false := by simpa using c3
        have hcut : cut ws (a / 4) ws.length = some (ws.drop (a / 4).toNat) := by
          unfold cut
          rw [if_pos ⟨by omega, by omega, by omega⟩]
          simp
        have hc : cpy ws (a / 4).toNat l = setAt ws (a / 4).toNat l := by
          unfold cpy
          rw [List.take_of_length_le (by omega)]
        obtain ⟨f1, f2⟩ := fr_set (⟨L, setAt ws (a / 4).toNat l⟩ : T_memory_Mem) hg
        refine ⟨_, ?_, ⟨i, o, rfl, by rw [f2]; simp [fillW, e]⟩, f1⟩
        simp only [c2', c3', Bool.or_false, Bool.false_eq_true, if_false, hcut, bind1_some, hc, e]
  · have e : errF L ws a l = 30 := by simp [errF, c1]
    refine ⟨H, by simp [c1, e], ?_, Fr.refl _ _⟩
    have : fillW L ws a l = ws := by simp [fillW, e]
    rw [this]; exact hm
theorem rfill_spec (G : Good L ws) (h0 : 0 ≤ a) (h1 : a ≤ 4294967295) (l : List Int) (hl : l.length ≤ 4294967295) : ref03_Fill ⟨EndsA L, ws⟩ a l = some (⟨EndsA L, fillW L ws a l⟩, errF L ws a l) := by
  have hn := G.n
  unfold ref03_Fill
  simp only [tmod_pos h0, tdiv_pos h0, wrap_u32 (a / 4) (by omega) (by omega), wrap_i64 (a / 4) (by omega) (by omega), wrap_i64 (a / 4 + (l.length : Int)) (by omega) (by omega)]
  by_cases c1 : a % 4 = 0
  · by_cases c3 : a / 4 + (l.length : Int) > ws.length
    · have e : errF L ws a l = 31 := by unfold errF; rw [if_neg (by simpa using c1), if_pos c3]
      simp [c1, c3, e, fillW]
    · have e : errF L ws a l = 0 := by unfold errF; rw [if_neg (by simpa using c1), if_neg c3]
      simp only [c1, bne_self_eq_false, Bool.false_eq_true, if_false, c3, decide_false]
      rw [with_spec _ _ (by omega) (by omega) (good_le G), bind1_some]
      simp [fillW, e]
  · have e : errF L ws a l = 30 := by simp [errF, c1]
    simp [c1, e, fillW]
theorem clone_spec (G : Good L ws) (hm : MemAt H m L ws) : ∃ H', memory_Mem_Clone H m = some (H', .at H.length 0) ∧ MemAt H' (.at H.length 0) L ws ∧ (∀ q L ws, MemAt H q L ws → MemAt H' q L ws) ∧ ∃ i o, m = .at i o ∧ i < H.length := by
  obtain ⟨i, o, rfl, hg⟩ := hm
  have hle := good_le G
  have happ : app 4 ([] : List Int) ws = some ws := by
    unfold app
    rw [if_pos (by simp [roomBytes]; omega)]
    rfl
  refine ⟨new_memory_Mem H ⟨L, ws⟩, ?_, ⟨_, _, rfl, hgT_new mem_inj mem_len H _⟩, fun q L ws ⟨j, o', e, k⟩ => ⟨j, o', e, hgT_old mem_inj k⟩, i, o, rfl, hgT_lt hg⟩
  unfold memory_Mem_Clone
  simp only [pbnd_at, hg, bind1_some, happ, bnd_def]
theorem eq_ends (L : T_memory_Layout) : eq_a5_int_u32 (EndsA L) (EndsA L) = true := by
  simp [eq_a5_int_u32]
theorem same_spec (G : Good L ws) (hm : MemAt H m L ws) : law03_Same H m ⟨EndsA L, ws⟩ = some true := by
  have hle := good_le G
  have hn := G.n
  have loop : ∀ (n : Nat) (a6 : Int), 0 ≤ a6 → a6 + n = ws.length → loopO (fun x : Int => law03_Same_L1 ⟨EndsA L, ws⟩ H m x) a6 = some (.inl ()) := by
    intro n
    induction n with
    | zero =>
      intro a6 h0 h1
      refine loopO_out ?_
      unfold law03_Same_L1
      have c : (decide (a6 < (ws.length : Int))) = false := by simp; omega
      simp [c]
    | succ n ih =>
      intro a6 h0 h1
      have hlt : a6 < ws.length := by omega
      have e : law03_Same_L1 ⟨EndsA L, ws⟩ H m a6 = some (.inl (a6 + 1)) := by
        unfold law03_Same_L1
        have c : (decide (a6 < (ws.length : Int))) = true := by simp; omega
        rw [if_pos c, wrap_i64 (4 * a6) (by omega) (by omega), wrap_u32 (4 * a6) (by omega) (by omega), load_spec G hm (by omega) (by omega), bind2_some, wrap_i64 (a6 + 1) (by omega) (by omega)]
        have he : errA L (4 * a6) = 0 := by unfold errA; rw [if_neg (by omega), if_neg (by omega)]
        have hdiv : 4 * a6 / 4 = a6 := by omega
        have hx : a6.toNat < ws.length := by omega
        simp [he, gi_some h0 hlt, bind1_some, hdiv, List.getD, hx]
      rw [loopO_go e]
      exact ih (a6 + 1) (by omega) (by omega)
  obtain ⟨i, o, e, hg⟩ := hm
  subst e
  unfold law03_Same memory_Mem_Layout
  simp only [pbnd_at, hg, bind1_some, ends_spec, eq_ends, Bool.not_true, Bool.false_eq_true, if_false]
  rw [loop ws.length 0 (by omega) (by omega), bind1_some, sum2_inl]
theorem new_spec (H : Heap) (hr : RightB L = true) : ∃ H', memory_New H L = some (H', .at H.length 0, 0) ∧ MemAt H' (.at H.length 0) L (List.replicate (L.Stack_ / 4).toNat 0) ∧ Good L (List.replicate (L.Stack_ / 4).toNat 0) ∧ (∀ q L ws, MemAt H q L ws → MemAt H' q L ws) := by
  have R := rt5 hr
  have h0 : 0 ≤ L.Stack_ := by have := R.c0; have := R.c1; have := R.c2; have := R.c3; have := R.c4; omega
  have hm := R.m; have hd := R.d4
  have hk : mks 4 (L.Stack_ / 4) (L.Stack_ / 4) (0 : Int) = some (List.replicate (L.Stack_ / 4).toNat 0) := by
    unfold mks
    rw [if_pos ⟨by omega, by omega, by simp [roomBytes]; omega, by omega⟩]
  refine ⟨new_memory_Mem H ⟨L, List.replicate (L.Stack_ / 4).toNat 0⟩, ?_, ⟨_, _, rfl, hgT_new mem_inj mem_len H _⟩, ⟨R, by simp; omega⟩, fun q L ws ⟨j, o', e, k⟩ => ⟨j, o', e, hgT_old mem_inj k⟩⟩
  unfold memory_New
  simp only [right_spec, bind1_some, hr, Bool.not_true, Bool.false_eq_true, if_false, tdiv_pos h0, wrap_u32 (L.Stack_ / 4) (by omega) (by omega), hk, bnd_def]
theorem new_bad (H : Heap) (hr : RightB L = false) : memory_New H L = some (H, .nil, 33) := by
  unfold memory_New
  simp [right_spec, bind1_some, hr]
theorem rnew_spec (hr : RightB L = true) : ref03_New (EndsA L) = some ⟨EndsA L, List.replicate (L.Stack_ / 4).toNat 0⟩ := by
  have R := rt5 hr
  have h0 : 0 ≤ L.Stack_ := by have := R.c0; have := R.c1; have := R.c2; have := R.c3; have := R.c4; omega
  have hm := R.m; have hd := R.d4
  have hk : mks 4 (L.Stack_ / 4) (L.Stack_ / 4) (0 : Int) = some (List.replicate (L.Stack_ / 4).toNat 0) := by
    unfold mks
    rw [if_pos ⟨by omega, by omega, by simp [roomBytes]; omega, by omega⟩]
  have hE : (EndsA L).g 4 = L.Stack_ := rfl
  unfold ref03_New
  simp only [hE, tdiv_pos h0, wrap_u32 (L.Stack_ / 4) (by omega) (by omega), hk, bind1_some]
theorem part_spec (hm : MemAt H m L ws) : memory_Mem_Part H m a = some (if a < L.Code_ then 0 else if a < L.Tables_ then 1 else if a < L.Data_ then 2 else if a < L.Heap_ then 3 else if a < L.Stack_ then 4 else 5) := by
  obtain ⟨i, o, rfl, hg⟩ := hm
  obtain ⟨c, t, d, h, st⟩ := L
  obtain ⟨g0, g1, g2, g3, g4⟩ := ga5 c t d h st
  have step : ∀ (i v : Int), ga (arrL [c, t, d, h, st] : Arr 5 Int) i = some v → 0 ≤ i → i < 5 → memory_Mem_Part_L1 (arrL [c, t, d, h, st] : Arr 5 Int) a i = if a < v then some (.inr (.inr i)) else some (.inl (i + 1)) := by
    intro i v hv h0 h5
    unfold memory_Mem_Part_L1
    rw [if_pos (by simpa using h5), hv, bind1_some, wrap_i64 (i + 1) (by omega) (by omega)]
    simp
  have fin : memory_Mem_Part_L1 (arrL [c, t, d, h, st] : Arr 5 Int) a 5 = some (.inr (.inl ())) := rfl
  unfold memory_Mem_Part memory_Layout_ends
  simp only [pbnd_at, hg, bind1_some]
  rw [loopO_eq, step 0 c g0 (by omega) (by omega)]
  by_cases c0 : a < c
  · simp [c0, bind1_some, sum2_inr]
  · simp only [c0, if_false, Int.reduceAdd]
    rw [loopO_eq, step 1 t g1 (by omega) (by omega)]
    by_cases c1 : a < t
    · simp [c1, bind1_some, sum2_inr]
    · simp only [c1, if_false, Int.reduceAdd]
      rw [loopO_eq, step 2 d g2 (by omega) (by omega)]
      by_cases c2 : a < d
      · simp [c2, bind1_some, sum2_inr]
      · simp only [c2, if_false, Int.reduceAdd]
        rw [loopO_eq, step 3 h g3 (by omega) (by omega)]
        by_cases c3 : a < h
        · simp [c3, bind1_some, sum2_inr]
        · simp only [c3, if_false, Int.reduceAdd]
          rw [loopO_eq, step 4 st g4 (by omega) (by omega)]
          by_cases c4 : a < st
          · simp [c4, bind1_some, sum2_inr]
          · simp only [c4, if_false, Int.reduceAdd]
            rw [loopO_eq, fin]
            simp [bind1_some, sum2_inl]
/-- the page's example -/
theorem awake_spec (H : Heap) : ∃ H', law03_awake H = some (H', true) := by
  have hr : RightB ⟨8, 16, 32, 64, 128⟩ = true := by decide
  obtain ⟨H1, e1, m1, G1, _⟩ := new_spec H hr
  obtain ⟨H2, e2, m2, _⟩ := store_spec G1 m1 (a := 12) (by omega) (by omega) 1
  have hs : errS ⟨8, 16, 32, 64, 128⟩ 12 = 32 := by decide
  refine ⟨H2, ?_⟩
  unfold law03_awake
  rw [e1, bind3_some]
  simp [isNil_at, e2, bind2_some, hs, part_spec m2, bind1_some]
end
end Go.Proofs.Abs
/- Printed by gen (walk.py). -/
namespace Go.Proofs.Abs
open Go Go.Proofs
set_option linter.unusedVariables false
set_option maxRecDepth 100000
set_option maxHeartbeats 0
def wf_memory_Layout (x : T_memory_Layout) : Prop := (fun n => (Lit.int .u32 n).wf = true) x.Code_ ∧ (fun n => (Lit.int .u32 n).wf = true) x.Tables_ ∧ (fun n => (Lit.int .u32 n).wf = true) x.Data_ ∧ (fun n => (Lit.int .u32 n).wf = true) x.Heap_ ∧ (fun n => (Lit.int .u32 n).wf = true) x.Stack_
theorem opens_memory_Layout : Opens Try.prog 24 e_memory_Layout wf_memory_Layout := fun H enc w fuel cs x h => by
  obtain ⟨xs, n, _, _, hl, hxl, hp⟩ := DataW.trod_struct Try.underlying24 h
  have hl : cs.length = 5 := by rw [hl]; kernel_rfl
  obtain ⟨a0, w0, r0⟩ := part_of (i := 0) rfl hxl hp (opens_int Try.underlying22)
  obtain ⟨a1, w1, r1⟩ := part_of (i := 1) rfl hxl hp (opens_int Try.underlying22)
  obtain ⟨a2, w2, r2⟩ := part_of (i := 2) rfl hxl hp (opens_int Try.underlying22)
  obtain ⟨a3, w3, r3⟩ := part_of (i := 3) rfl hxl hp (opens_int Try.underlying22)
  obtain ⟨a4, w4, r4⟩ := part_of (i := 4) rfl hxl hp (opens_int Try.underlying22)
  exact ⟨⟨a0, a1, a2, a3, a4⟩, ⟨w0, w1, w2, w3, w4⟩, (reads_step (o := 0) (z := 1) r0 (reads_step (o := 1) (z := 1) r1 (reads_step (o := 2) (z := 1) r2 (reads_step (o := 3) (z := 1) r3 (reads_step (o := 4) (z := 1) r4 (reads_end (o := 5) (by rw [hl]; exact Nat.le_refl _)))))))⟩
def wf_law03_Op (x : T_law03_Op) : Prop := (fun n => (Lit.int .i64 n).wf = true) x.Kind_ ∧ (fun n => (Lit.int .u32 n).wf = true) x.At_ ∧ (fun n => (Lit.int .u32 n).wf = true) x.W_ ∧ (fun xs => (∀ x, x ∈ xs → (fun n => (Lit.int .u32 n).wf = true) x) ∧ xs.length ≤ maxLen) x.List_
theorem opens_law03_Op : Opens Try.prog 36 e_law03_Op wf_law03_Op := fun H enc w fuel cs x h => by
  obtain ⟨xs, n, _, _, hl, hxl, hp⟩ := DataW.trod_struct Try.underlying36 h
  have hl : cs.length = 4 := by rw [hl]; kernel_rfl
  obtain ⟨a0, w0, r0⟩ := part_of (i := 0) rfl hxl hp (opens_int Try.underlying3)
  obtain ⟨a1, w1, r1⟩ := part_of (i := 1) rfl hxl hp (opens_int Try.underlying22)
  obtain ⟨a2, w2, r2⟩ := part_of (i := 2) rfl hxl hp (opens_int Try.underlying22)
  obtain ⟨a3, w3, r3⟩ := part_of (i := 3) rfl hxl hp (opens_slice (z := 1) Try.underlying30 (by kernel_rfl) (by kernel_rfl) (fun _ => rfl) (opens_int Try.underlying22))
  exact ⟨⟨a0, a1, a2, a3⟩, ⟨w0, w1, w2, w3⟩, (reads_step (o := 0) (z := 1) r0 (reads_step (o := 1) (z := 1) r1 (reads_step (o := 2) (z := 1) r2 (reads_step (o := 3) (z := 1) r3 (reads_end (o := 4) (by rw [hl]; exact Nat.le_refl _))))))⟩
/-- the statement, in plain Lean -/
def MemoryTellsPure : Prop := ∀ (p0 : T_memory_Layout) (p1 : (List T_law03_Op)) (p2 : (Arr 2 Int)), wf_memory_Layout p0 → (fun xs => (∀ x, x ∈ xs → wf_law03_Op x) ∧ xs.length ≤ maxLen) p1 → (fun a => ∀ x, x ∈ a.l → (fun n => (Lit.int .u32 n).wf = true) x) p2 → ∃ Hr, law03_MemoryTells [] p0 p1 p2 = some (Hr, true)
end Go.Proofs.Abs
/- Any script plays alike in the memory and in the document's. -/
namespace Go.Proofs.Abs
open Go
set_option linter.unusedVariables false
set_option linter.unusedSimpArgs false
theorem few_spec (L : T_memory_Layout) (hL : 0 ≤ L.Code_) (s : List T_law03_Op) (hs : (s.length : Int) ≤ 9223372036854775807) : ∃ b, law03_few L s = some b ∧ (b = true → s.length ≤ 40 ∧ ∀ x, x ∈ s → x.List_.length ≤ 2000) := by
  have loop : ∀ (n : Nat) (a : Int), 0 ≤ a → a + n = s.length → (∃ r, loopO (fun x : Int => law03_few_L1 s x) a = some (.inr r)) ∨ (loopO (fun x : Int => law03_few_L1 s x) a = some (.inl ()) ∧ ∀ j : Nat, a ≤ j → ∀ x, s[j]? = some x → x.List_.length ≤ 2000) := by
    intro n
    induction n with
    | zero =>
      intro a h0 h1
      refine .inr ⟨loopO_out ?_, fun j hj x hx => ?_⟩
      · unfold law03_few_L1
        have c : (decide (a < (s.length : Int))) = false := by simp; omega
        rw [c]; rfl
      · have := (List.getElem?_eq_some_iff.1 hx).1
        omega
    | succ n ih =>
      intro a h0 h1
      have hlt : a < s.length := by omega
      have c : (decide (a < (s.length : Int))) = true := by simp; omega
      by_cases hb : ((s[a.toNat]'(by omega)).List_.length : Int) > 2000
      · refine .inl ⟨(), loopO_out ?_⟩
        unfold law03_few_L1
        rw [if_pos c, gi_some h0 hlt, bind1_some, if_pos (by simpa using hb)]
      · have e : law03_few_L1 s a = some (.inl (a + 1)) := by
          unfold law03_few_L1
          rw [if_pos c, gi_some h0 hlt, bind1_some, if_neg (by simpa using hb), wrap_i64 (a + 1) (by omega) (by omega)]
        rw [loopO_go e]
        rcases ih (a + 1) (by omega) (by omega) with h | ⟨h, k⟩
        · exact .inl h
        · refine .inr ⟨h, fun j hj x hx => ?_⟩
          by_cases hja : (j : Int) = a
          · have : j = a.toNat := by omega
            subst this
            rw [List.getElem?_eq_getElem (by omega)] at hx
            cases hx
            omega
          · exact k j (by omega) x hx
  unfold law03_few
  simp only [ends_spec, bind1_some, rright_spec L hL]
  generalize hc : (if RightB L = true then decide (L.Stack_ > 4096) || decide ((s.length : Int) > 40) else decide ((s.length : Int) > 40)) = c
  cases c with
  | true => exact ⟨false, by simp, fun h => by cases h⟩
  | false =>
    have h40 : s.length ≤ 40 := by
      split at hc
      · simp at hc; omega
      · simp at hc; omega
    simp only [Bool.false_eq_true, if_false]
    rcases loop s.length 0 (by omega) (by omega) with ⟨r, h⟩ | ⟨h, k⟩
    · exact ⟨false, by rw [h]; rfl, fun h => by cases h⟩
    · refine ⟨true, by rw [h]; rfl, fun _ => ⟨h40, fun x hx => ?_⟩⟩
      obtain ⟨j, hj⟩ := List.mem_iff_getElem?.1 hx
      exact k j (by omega) x hj
/-- the memories that stood before stay -/
def Keep (n : Nat) (H H' : Heap) : Prop := H.length ≤ H'.length ∧ ∀ i o L ws, i < n → MemAt H (.at i o) L ws → MemAt H' (.at i o) L ws
theorem Keep.refl (n : Nat) (H : Heap) : Keep n H H := ⟨Nat.le_refl _, fun _ _ _ _ _ h => h⟩
theorem Keep.trans {n : Nat} {H H' H'' : Heap} (h : Keep n H H') (k : Keep n H' H'') : Keep n H H'' := ⟨Nat.le_trans h.1 k.1, fun i o L ws hi hm => k.2 i o L ws hi (h.2 i o L ws hi hm)⟩
theorem Fr.keep {n i o : Nat} {H H' : Heap} (h : Fr (.at i o) H H') (hi : n ≤ i) : Keep n H H' :=
  ⟨Nat.le_of_eq h.1.symm, fun j o' L ws hj hm => h.2 _ L ws (fun a b c d e e' => by cases e; cases e'; omega) hm⟩
theorem clone_len {H H' : Heap} {m p : Ptr} (h : memory_Mem_Clone H m = some (H', p)) : H.length ≤ H'.length := by
  unfold memory_Mem_Clone at h
  obtain ⟨i, o, rfl, h⟩ := pbnd_inv h
  obtain ⟨x, _, h⟩ := bind1_inv h
  obtain ⟨v, _, h⟩ := bind1_inv h
  simp only [bnd_def] at h
  cases h
  simp [new_memory_Mem]
theorem new_len {H H' : Heap} {L : T_memory_Layout} {m : Ptr} {e : Int} (h : memory_New H L = some (H', m, e)) : H.length ≤ H'.length := by
  unfold memory_New at h
  simp only [right_spec, bind1_some] at h
  split at h
  · cases h; exact Nat.le_refl _
  · obtain ⟨v, _, h⟩ := bind1_inv h
    simp only [bnd_def] at h
    cases h
    simp [new_memory_Mem]
/-- one call -/
theorem played_step {s : List T_law03_Op} {L : T_memory_Layout} {ws : List Int} {H : Heap} {m : Ptr} {a : Int} (hs : ∀ x, x ∈ s → wf_law03_Op x ∧ x.List_.length ≤ 2000) (h40 : s.length ≤ 40) (G : Good L ws) (hm : MemAt H m L ws) (h0 : 0 ≤ a) (h1 : a < s.length) {n : Nat} (hn : ∃ i o, m = .at i o ∧ n ≤ i) :
    ∃ m' ws' H', law03_played_L1 s m a ⟨EndsA L, ws⟩ H = some (.inl (m', a + 1, ⟨EndsA L, ws'⟩, H')) ∧ Good L ws' ∧ MemAt H' m' L ws' ∧ Keep n H H' ∧ ∃ i o, m' = .at i o ∧ n ≤ i := by
  obtain ⟨i0, o0, rfl, hn⟩ := hn
  have hx := hs (s[a.toNat]'(by omega)) (List.getElem_mem _)
  obtain ⟨⟨w1, w2, w3, w4, _⟩, hl⟩ := hx
  have w2 := wf_u32.1 w2
  have c : (decide (a < (s.length : Int))) = true := by simp; omega
  have wr : IntKind.i64.wrap (a + 1) = a + 1 := wrap_i64 (a + 1) (by omega) (by omega)
  have same : ∀ {H m ws}, Good L ws → MemAt H m L ws → law03_played_j3 a m ⟨EndsA L, ws⟩ H = some (.inl (m, a + 1, ⟨EndsA L, ws⟩, H)) := fun {H m ws} G hm => by
    unfold law03_played_j3
    rw [same_spec G hm, bind1_some]
    simp [law03_played_j2, wr]
  unfold law03_played_L1
  rw [if_pos c, gi_some h0 h1, bind1_some]
  by_cases k0 : ((s[a.toNat]'(by omega)).Kind_ == 0) = true
  · rw [if_pos k0, rstore_spec G w2.1 w2.2, bind2_some]
    obtain ⟨H', e, m', fr⟩ := store_spec G hm w2.1 w2.2 (s[a.toNat]'(by omega)).W_
    rw [e, bind2_some]
    refine ⟨_, _, H', ?_, good_store G _ _, m', fr.keep hn, i0, o0, rfl, hn⟩
    rw [if_neg (by simp), same (good_store G _ _) m']
  · rw [if_neg k0]
    by_cases k1 : ((s[a.toNat]'(by omega)).Kind_ == 1) = true
    · rw [if_pos k1, rfill_spec G w2.1 w2.2 _ (by omega), bind2_some]
      obtain ⟨H', e, m', fr⟩ := fill_spec G hm w2.1 w2.2 (s[a.toNat]'(by omega)).List_ (by omega)
      rw [e, bind2_some]
      refine ⟨_, _, H', ?_, good_fill G w2.1 _, m', fr.keep hn, i0, o0, rfl, hn⟩
      rw [if_neg (by simp)]
      unfold law03_played_j4
      rw [same (good_fill G w2.1 _) m']
    · rw [if_neg k1]
      by_cases k2 : ((s[a.toNat]'(by omega)).Kind_ == 2) = true
      · rw [if_pos k2]
        obtain ⟨H1, e1, m1, keep, i, o, e0, hi⟩ := clone_spec G hm
        cases e0
        have hlen : H.length ≤ H1.length := clone_len e1
        rw [e1, bind2_some]
        simp only [isNil_at, Bool.false_eq_true, if_false]
        obtain ⟨H2, e2, _, f2⟩ := fill_spec G (keep _ _ _ hm) (a := 0) (by omega) (by omega) [1, 2, 3, (s[a.toNat]'(by omega)).W_] (by simp)
        rw [e2, bind2_some]
        have m2 := f2.2 (.at H.length 0) L ws (fun i1 o1 i2 o2 e e' => by cases e; cases e'; omega) m1
        refine ⟨_, _, H2, ?_, G, m2, Keep.trans (⟨hlen, fun j o' L' ws' _ h => keep _ _ _ h⟩ : Keep n H H1) (f2.keep hn), _, _, rfl, by omega⟩
        unfold law03_played_j4
        rw [same G m2]
      · rw [if_neg k2]
        exact ⟨_, ws, H, by simp [law03_played_j2, wr], G, hm, Keep.refl _ _, i0, o0, rfl, hn⟩
theorem played_loop {s : List T_law03_Op} {L : T_memory_Layout} (hs : ∀ x, x ∈ s → wf_law03_Op x ∧ x.List_.length ≤ 2000) (h40 : s.length ≤ 40) : ∀ (n : Nat) (a : Int) (ws : List Int) (H : Heap) (m : Ptr), 0 ≤ a → a + n = s.length → Good L ws → MemAt H m L ws → ∀ k : Nat, (∃ i o, m = .at i o ∧ k ≤ i) →
    ∃ m' ws' H', loopO (fun (x : Ptr × Int × T_ref03_Mem × Heap) => law03_played_L1 s x.1 x.2.1 x.2.2.1 x.2.2.2) (m, a, ⟨EndsA L, ws⟩, H) = some (.inl (m', ⟨EndsA L, ws'⟩, H')) ∧ Good L ws' ∧ MemAt H' m' L ws' ∧ Keep k H H' ∧ ∃ i o, m' = .at i o ∧ k ≤ i
  | 0, a, ws, H, m, h0, h1, G, hm, k, hk => by
    refine ⟨m, ws, H, loopO_out ?_, G, hm, Keep.refl _ _, hk⟩
    show law03_played_L1 s m a ⟨EndsA L, ws⟩ H = _
    unfold law03_played_L1
    rw [if_neg (by simp; omega)]
  | n + 1, a, ws, H, m, h0, h1, G, hm, k, hk => by
    obtain ⟨m1, ws1, H1, e, G1, hm1, k1, hk1⟩ := played_step hs h40 G hm h0 (by omega) hk
    obtain ⟨m2, ws2, H2, e2, G2, hm2, k2, hk2⟩ := played_loop hs h40 n (a + 1) ws1 H1 m1 (by omega) (by omega) G1 hm1 k hk1
    exact ⟨m2, ws2, H2, by rw [loopO_go (s' := (m1, a + 1, ⟨EndsA L, ws1⟩, H1)) e]; exact e2, G2, hm2, k1.trans k2, hk2⟩
/-- what a script comes to -/
theorem played_spec {s : List T_law03_Op} {L : T_memory_Layout} (hL : 0 ≤ L.Code_) (hs : ∀ x, x ∈ s → wf_law03_Op x ∧ x.List_.length ≤ 2000) (h40 : s.length ≤ 40) (H : Heap) :
    (RightB L = false ∧ ∃ H' w, law03_played H L s = some (H', .nil, w, true)) ∨
    (RightB L = true ∧ ∃ H' m ws, law03_played H L s = some (H', m, ⟨EndsA L, ws⟩, true) ∧ Good L ws ∧ MemAt H' m L ws ∧ Keep H.length H H' ∧ ∃ i o, m = .at i o ∧ H.length ≤ i) := by
  cases hr : RightB L with
  | false =>
    refine .inl ⟨rfl, H, ⟨(arrL [0, 0, 0, 0, 0] : Arr 5 Int), []⟩, ?_⟩
    unfold law03_played
    simp [new_bad H hr, bind3_some, ends_spec, bind1_some, rright_spec L hL, hr, isNil_nil, right_spec]
  | true =>
    obtain ⟨H1, e1, m1, G1, old⟩ := new_spec H hr
    obtain ⟨m2, ws2, H2, e2, G2, hm2, k2, hk2⟩ := played_loop hs h40 s.length 0 _ H1 _ (by omega) (by omega) G1 m1 H.length ⟨_, _, rfl, Nat.le_refl _⟩
    refine .inr ⟨rfl, H2, m2, ws2, ?_, G2, hm2, Keep.trans (⟨new_len e1, fun i o L ws _ h => old _ _ _ h⟩ : Keep H.length H H1) k2, hk2⟩
    unfold law03_played
    simp only [e1, bind3_some, ends_spec, bind1_some, rright_spec L hL, hr, Bool.not_true, Bool.false_eq_true, if_false, rnew_spec hr, bne_self_eq_false, isNil_at, right_spec, e2, sum2_inl]
    rfl
end Go.Proofs.Abs
/- At any address the word, the part and what is fetched, and how many words of any part are used. -/
namespace Go.Proofs.Abs
open Go
set_option linter.unusedVariables false
set_option linter.unusedSimpArgs false
section
variable {H : Heap} {m : Ptr} {L : T_memory_Layout} {ws : List Int} {a : Int}
def partV (L : T_memory_Layout) (a : Int) : Int := if a < L.Code_ then 0 else if a < L.Tables_ then 1 else if a < L.Data_ then 2 else if a < L.Heap_ then 3 else if a < L.Stack_ then 4 else 5
theorem rpart_spec (L : T_memory_Layout) (ws : List Int) (a : Int) : ref03_Part ⟨EndsA L, ws⟩ a = some (partV L a) := by
  obtain ⟨c, t, d, h, st⟩ := L
  obtain ⟨g0, g1, g2, g3, g4⟩ := ga5 c t d h st
  have step : ∀ (i v : Int), ga (arrL [c, t, d, h, st] : Arr 5 Int) i = some v → 0 ≤ i → i < 5 → ref03_Part_L1 ⟨(arrL [c, t, d, h, st] : Arr 5 Int), ws⟩ a i = if a < v then some (.inr i) else some (.inl (i + 1)) := by
    intro i v hv h0 h5
    unfold ref03_Part_L1
    rw [if_pos (by simpa using h5), hv, bind1_some, wrap_i64 (i + 1) (by omega) (by omega), bind1_some]
    by_cases k : a < v
    · rw [if_pos k, if_neg (by simp; omega)]
    · rw [if_neg k, if_pos (by simp; omega)]
  have fin : ref03_Part_L1 ⟨(arrL [c, t, d, h, st] : Arr 5 Int), ws⟩ a 5 = some (.inr 5) := rfl
  show ref03_Part ⟨(arrL [c, t, d, h, st] : Arr 5 Int), ws⟩ a = _
  unfold ref03_Part partV
  rw [loopO_eq, step 0 c g0 (by omega) (by omega)]
  by_cases c0 : a < c
  · simp [c0, bind1_some]
  · simp only [c0, if_false, Int.reduceAdd]
    rw [loopO_eq, step 1 t g1 (by omega) (by omega)]
    by_cases c1 : a < t
    · simp [c1, bind1_some]
    · simp only [c1, if_false, Int.reduceAdd]
      rw [loopO_eq, step 2 d g2 (by omega) (by omega)]
      by_cases c2 : a < d
      · simp [c2, bind1_some]
      · simp only [c2, if_false, Int.reduceAdd]
        rw [loopO_eq, step 3 h g3 (by omega) (by omega)]
        by_cases c3 : a < h
        · simp [c3, bind1_some]
        · simp only [c3, if_false, Int.reduceAdd]
          rw [loopO_eq, step 4 st g4 (by omega) (by omega)]
          by_cases c4 : a < st
          · simp [c4, bind1_some]
          · simp only [c4, if_false, Int.reduceAdd]
            rw [loopO_eq, fin]
            simp [bind1_some]
theorem fetch_spec (G : Good L ws) (hm : MemAt H m L ws) (h0 : 0 ≤ a) (h1 : a ≤ 4294967295) : ∃ r, memory_Mem_Fetch H m a = some r ∧ ref03_Fetch ⟨EndsA L, ws⟩ a = some r := by
  have hn := G.n
  have hE : (EndsA L).g 0 = L.Code_ := rfl
  have R := G.r
  have hle : L.Code_ ≤ L.Stack_ := by have := R.c1; have := R.c2; have := R.c3; have := R.c4; omega
  unfold memory_Mem_Fetch ref03_Fetch
  rw [place_spec hm h0 h1, rload_spec G h0 h1, bind2_some, bind2_some, hE]
  by_cases c : errA L a = 0
  · obtain ⟨i, o, rfl, hg⟩ := hm
    rw [c]
    simp only [if_true, bne_self_eq_false, Bool.false_eq_true, if_false, pbnd_at, hg, bind1_some, beq_self_eq_true, Bool.true_and]
    by_cases k : a ≥ L.Code_
    · rw [if_pos (by simpa using k), if_pos (by simpa using k)]; exact ⟨_, rfl, rfl⟩
    · rw [if_neg (by simpa using k), if_neg (by simpa using k)]
      have hx : (a / 4).toNat < ws.length := by omega
      rw [gi_some (by omega) (by omega), bind1_some]
      exact ⟨_, rfl, by simp [List.getD, hx]⟩
  · rw [if_pos (by simpa using c), if_neg c, if_neg (by simp [c])]
    exact ⟨_, rfl, rfl⟩
theorem used_loops (G : Good L ws) {i o : Nat} (hg : get_memory_Mem H i o = some ⟨L, ws⟩) (p : Int) : ∀ (n : Nat) (c j : Int), 0 ≤ j → j + n = ws.length →
    ∃ r, loopO (fun (x : Int × Int) => memory_Mem_Used_L1 ⟨L, ws⟩ H i o p x.1 x.2) (c, j) = some r ∧ loopO (fun (x : Int × Int) => ref03_Used_L1 ⟨EndsA L, ws⟩ p x.1 x.2) (c, j) = some r
  | 0, c, j, h0, h1 => by
    refine ⟨c, loopO_out ?_, loopO_out ?_⟩
    · show memory_Mem_Used_L1 ⟨L, ws⟩ H i o p c j = _
      unfold memory_Mem_Used_L1; rw [if_neg (by simp; omega)]
    · show ref03_Used_L1 ⟨EndsA L, ws⟩ p c j = _
      unfold ref03_Used_L1; rw [if_neg (by simp; omega)]
  | n + 1, c, j, h0, h1 => by
    have hle := good_le G
    have hn := G.n
    have hm : MemAt H (.at i o) L ws := ⟨i, o, rfl, hg⟩
    have hlt : j < ws.length := by omega
    obtain ⟨c', e1, e2⟩ : ∃ c', memory_Mem_Used_L1 ⟨L, ws⟩ H i o p c j = some (.inl (c', j + 1)) ∧ ref03_Used_L1 ⟨EndsA L, ws⟩ p c j = some (.inl (c', j + 1)) := by
      unfold memory_Mem_Used_L1 ref03_Used_L1 memory_Mem_Used_j2 ref03_Used_j2
      rw [if_pos (by simpa using hlt), if_pos (by simpa using hlt)]
      simp only [gi_some h0 hlt, bind1_some, part_spec hm, rpart_spec, wrap_i64 (j + 1) (by omega) (by omega)]
      have pv : ∀ a, (if a < L.Code_ then 0 else if a < L.Tables_ then 1 else if a < L.Data_ then 2 else if a < L.Heap_ then 3 else if a < L.Stack_ then 4 else 5 : Int) = partV L a := fun _ => rfl
      simp only [pv]
      rcases bool_cases (ws[j.toNat]'(by omega) != 0) with k | k
      · simp only [k, if_true, bind1_some]
        generalize (partV L (IntKind.u32.wrap (IntKind.i64.wrap (4 * j))) == p) = w
        cases w <;> exact ⟨_, rfl, rfl⟩
      · simp only [k, Bool.false_eq_true, if_false, bind1_some]
        exact ⟨_, rfl, rfl⟩
    obtain ⟨r, q1, q2⟩ := used_loops G hg p n c' (j + 1) (by omega) (by omega)
    exact ⟨r, by rw [loopO_go (f := fun (x : Int × Int) => memory_Mem_Used_L1 ⟨L, ws⟩ H i o p x.1 x.2) (s' := (c', j + 1)) e1]; exact q1, by rw [loopO_go (f := fun (x : Int × Int) => ref03_Used_L1 ⟨EndsA L, ws⟩ p x.1 x.2) (s' := (c', j + 1)) e2]; exact q2⟩
theorem used_spec (G : Good L ws) (hm : MemAt H m L ws) (p : Int) : ∃ r, memory_Mem_Used H m p = some r ∧ ref03_Used ⟨EndsA L, ws⟩ p = some r := by
  obtain ⟨i, o, rfl, hg⟩ := hm
  obtain ⟨r, q1, q2⟩ := used_loops G hg p ws.length 0 0 (by omega) (by omega)
  refine ⟨r, ?_, ?_⟩
  · unfold memory_Mem_Used
    simp only [pbnd_at, hg, bind1_some]
    rw [q1]; rfl
  · unfold ref03_Used
    rw [q2]; rfl
end
theorem MemoryTells_holds : MemoryTellsPure := by
  intro L s at2 wL ws wat
  obtain ⟨wc, _⟩ := wL
  have hL := (wf_u32.1 wc).1
  have hlen : (s.length : Int) ≤ 9223372036854775807 := by
    have h1 := ws.2
    have h2 : maxLen ≤ 9223372036854775807 := Nat.le_of_ble_eq_true (by kernel_rfl)
    omega
  have ha : 0 ≤ at2.g 0 ∧ at2.g 0 ≤ 4294967295 := wf_u32.1 (wat _ (by
    have hl := at2.h
    unfold Arr.g
    rw [List.getElem?_eq_getElem (by omega)]
    exact List.getElem_mem _))
  obtain ⟨H1, e1⟩ := awake_spec []
  obtain ⟨b, e2, hb⟩ := few_spec L hL s hlen
  unfold law03_MemoryTells
  rw [e1, bind2_some]
  simp only [Bool.not_true, Bool.false_eq_true, if_false, e2, bind1_some]
  cases b with
  | false => exact ⟨H1, rfl⟩
  | true =>
    obtain ⟨h40, hl⟩ := hb rfl
    rcases played_spec hL (fun x hx => ⟨ws.1 x hx, hl x hx⟩) h40 H1 with ⟨_, H', w, e⟩ | ⟨_, H', m, w, e, G, hm, _, i, o, rfl, _⟩
    · rw [e]; exact ⟨H', rfl⟩
    · rw [e, bind4_some]
      obtain ⟨r, f1, f2⟩ := fetch_spec G hm ha.1 ha.2
      obtain ⟨u, g1, g2⟩ := used_spec G hm (IntKind.wrap .i64 (at2.g 1))
      obtain ⟨r1, r2⟩ := r
      simp only [Bool.not_true, Bool.false_or, isNil_at, Bool.false_eq_true, if_false, load_spec G hm ha.1 ha.2, rload_spec G ha.1 ha.2, bind2_some, f1, f2, beq_self_eq_true, if_true, part_spec hm, rpart_spec, bind1_some, g1, g2, partV]
      exact ⟨_, rfl⟩
end Go.Proofs.Abs
