/- The law AsmBack: whatever the input, it answers true. No conditions. (Part A1 of its proof.) -/
import Derived.Test.YtfecmlajhlpgkaaDoorA0
import Derived.Laws.IdiomCopy
import Derived.Laws.Append
import Derived.IntWalk
import Derived.Lib.OthersKept
import Derived.Laws.BytesString
import Derived.Scope
set_option linter.unusedVariables false
set_option linter.unusedSimpArgs false
set_option linter.unusedSectionVars false
/- Slices that are made: literals, zeroes. -/
namespace Go.Proofs.Abs
open Go
set_option linter.unusedVariables false

section
variable {X : Cx} {pu : Pu} {s s' : St} {a : Act} {w : World} {g : Gh}

/-! ### levels of slices: those above the depth are kept, those below are everybody's -/
/-- elements come into another list: F tells where a path below π1 goes -/
theorem KC.sink {F : Rk → List Nat → Ow} {r : Rk} {π1 π0 : List Nat} {d : Nat} (hF : keepsSide F)
    (hin : ∀ ρ, ρ.length < 2 * d → F r (π1 ++ ρ) = .pth (.lim 0) (π0 ++ ρ)) (hout : ∀ ρ, 2 * d ≤ ρ.length → F r (π1 ++ ρ) = .shared) {d' c v} (h : KC w g (.own d') r π1 c v) (hd : d ≤ d') :
    KC w (relabel F g) (.own d) (.lim 0) π0 c v := by
  have hk : ∀ {m π c v}, KC w g m r π c v → ∀ m' π', (∃ ρ k k', m = .own k' ∧ m' = .own k ∧ k ≤ k' ∧ π = π1 ++ ρ ∧ π' = π0 ++ ρ ∧ ((k = 0 ∧ 2 * d ≤ ρ.length) ∨ ρ.length + 2 * k = 2 * d)) → KC w (relabel F g) m' (.lim 0) π' c v := by
    intro m π c v h m' π' ht
    refine KC.map (g := g) (g' := relabel F g) (r := r) (r' := .lim 0) (fun m π m' π' => ∃ ρ k k', m = .own k' ∧ m' = .own k ∧ k ≤ k' ∧ π = π1 ++ ρ ∧ π' = π0 ++ ρ ∧ ((k = 0 ∧ 2 * d ≤ ρ.length) ∨ ρ.length + 2 * k = 2 * d)) (Nat.le_refl _) (fun _ hi => ⟨hi, rfl⟩) ?_ h ht
    rintro m π m' π' ⟨ρ, k, k', rfl, rfl, hk, rfl, rfl, hl⟩
    refine ⟨fun _ h => (by cases h), fun h => ?_, fun b e hb ho => ⟨?_, fun _ _ _ => rfl⟩, fun _ _ _ _ _ _ h => h, fun i j' => ?_⟩
    · cases k with
      | zero => cases h
      | succ k => cases k' with
        | zero => omega
        | succ k' => rfl
    · cases k' with
      | zero =>
        obtain rfl : k = 0 := by omega
        exact ((chg_relabel (w := w) hF).st b hb (.inl ho)).1.trans ho
      | succ k' =>
        obtain ⟨h1, h2⟩ := ho
        cases k with
        | zero =>
          show (relabel F g).own b = .shared
          rw [relabel_own h1]
          exact hout ρ (by rcases hl with h | h <;> omega)
        | succ k => exact ⟨by rw [relabel_own h1]; exact hin ρ (by rcases hl with h | h <;> omega), h2⟩
    · refine ⟨ρ ++ [i, j'], k - 1, k' - 1, ?_, ?_, by omega, by simp, by simp, ?_⟩
      · cases k' <;> rfl
      · cases k <;> rfl
      · simp only [List.length_append, List.length_cons, List.length_nil]
        rcases hl with h | h
        · left; omega
        · by_cases k0 : k = 0
          · left; omega
          · right; omega
  exact hk h (.own d) π0 ⟨[], d, d', rfl, rfl, hd, by simp, by simp, .inr (by simp)⟩

def Flit (d : Nat) (r : Rk) (π : List Nat) : Ow :=
  match r, π with
  | .lim i, j :: ρ => if ρ.length < 2 * d then .pth (.lim 0) (0 :: i :: j :: ρ) else .shared
  | .lim _, [] => .shared
  | r, π => .pth r π
theorem Flit_side (d) : keepsSide (Flit d) := by
  intro r π
  unfold Flit
  split
  · split
    · exact .inr ⟨_, _, rfl, rfl⟩
    · exact .inl rfl
  · exact .inl rfl
  · exact .inr ⟨_, _, rfl, rfl⟩

theorem slDepth_le (c : MC) (m : Nat) : slDepth c m ≤ m := by
  unfold slDepth
  split
  · exact Nat.min_le_left _ _
  · exact Nat.le_refl _
theorem minDepth_le : ∀ (m : Nat) (cs : List MC), minDepth m cs ≤ m ∧ ∀ d z xs, (Md.own d, AV.sl z xs) ∈ cs → minDepth m cs ≤ d
  | m, [] => ⟨Nat.le_refl _, fun d z xs h => by cases h⟩
  | m, c :: cs => by
    obtain ⟨h1, h2⟩ := minDepth_le (slDepth c m) cs
    refine ⟨Nat.le_trans h1 (slDepth_le c m), fun d z xs hm => ?_⟩
    rcases List.mem_cons.1 hm with h | h
    · subst h; exact Nat.le_trans h1 (Nat.min_le_right _ _)
    · exact h2 d z xs h

/-- the model's own filling of a whole row, part by part -/
theorem fill_row {n : Nat} : ∀ (us : List Value) (k : Nat) (vals : Array Value), (∀ u, u ∈ us → u.cells.size = n) → (k + us.length) * n ≤ vals.size →
    ∃ vals', Instr.fill (fun i => some (i * n, n)) vals ((List.range' k us.length).zip us) = some vals' ∧ vals'.size = vals.size ∧
      (∀ q, q < k * n → vals'[q]? = vals[q]?) ∧ ∀ (i : Nat) u j, us[i]? = some u → j < n → vals'[(k + i) * n + j]? = u.cells[j]?
  | [], k, vals, _, _ => ⟨vals, rfl, rfl, fun _ _ => rfl, fun i u j h => by simp at h⟩
  | u :: us, k, vals, hu, hs => by
    have h0 := hu u (by simp)
    have hs' : (k + 1 + us.length) * n ≤ vals.size := by simpa [Nat.add_assoc, Nat.add_comm 1] using hs
    have hk1 : (k + 1) * n = k * n + n := Nat.succ_mul k n
    have hle : (k + 1) * n ≤ (k + 1 + us.length) * n := Nat.mul_le_mul_right n (by omega)
    let v1 := u.cells.toList.zipIdx.foldl (fun cs q => cs.setIfInBounds (k * n + q.2) q.1) vals
    have hv1 : v1.size = vals.size := fold_set_size _ _ _ _
    obtain ⟨vals', e1, e2, e3, e4⟩ := fill_row us (k + 1) v1 (fun u hm => hu u (by simp [hm])) (by rw [hv1]; exact hs')
    have hg : ∀ q, v1[q]? = if k * n + 0 ≤ q ∧ q < k * n + 0 + u.cells.toList.length then u.cells.toList[q - (k * n + 0)]? else vals[q]? := fun q => fold_set_get (k * n) u.cells.toList 0 vals q (by simp [h0]; omega)
    refine ⟨vals', ?_, e2.trans hv1, fun q hq => ?_, fun i u' j hi hj => ?_⟩
    · simp only [List.length_cons, List.range'_succ, List.zip_cons_cons, Instr.fill]
      rw [if_neg (by simp only [h0]; simp; omega)]
      rw [show (u.cells.zipIdx.foldl (fun cs x => cs.setIfInBounds (k * n + x.2) x.1) vals) = v1 from by
        rw [← Array.foldl_toList]; simp [v1]]
      exact e1
    · rw [e3 q (by omega), hg q, if_neg (by omega)]
    · cases i with
      | zero =>
        simp at hi
        subst hi
        rw [Nat.add_zero, e3 _ (by omega), hg, if_pos (by simp [h0]; omega)]
        simp
      | succ i =>
        rw [show (k + (i + 1)) = k + 1 + i from by omega]
        exact e4 i u' j (by simpa using hi) hj
theorem RC.plainAt {m r π c v} (h : RC w g m r π c v) (hs : c.scalar = true) {w' g'} (hφ : ∀ id, id < g.n → g'.φ id = g.φ id) (hn : g.n ≤ g'.n) (m' r' π') : KC w' g' m' r' π' c v := by
  cases c <;> simp [AV.scalar] at hs
  · rw [h.bool]; exact .bool
  · rw [h.int]; exact .int
  · rw [h.str]; exact .str
  · rename_i p
    cases p with
    | nil => rw [h.nilp]; exact .nilp
    | «at» i o => obtain ⟨h1, h2⟩ := h.obj; rw [h1, ← hφ _ h2]; exact .obj (Nat.lt_of_lt_of_le h2 hn)
theorem okPart_inv {n v} (h : okPart n v = true) : v.cells.length = n ∧ ∀ c, c ∈ v.cells → keepC c = true := by
  simp only [okPart, Bool.and_eq_true, beq_iff_eq, List.all_eq_true] at h
  exact h
theorem okPart_noTup {n v} (h : okPart n v = true) (hn : n ≠ 0) : noTup v = true := by
  cases v with
  | tup vs => have := (okPart_inv h).1; simp [TV.cells] at this; omega
  | _ => rfl

theorem acts_lit {o : Oper} {t len} {parts : Array (Nat × Operand)} (ho : o.op = .buildSlice t len parts) (R : Rel s [] a w g) (hd : ∀ d, o.dst = some d → d < a.tmps.size)
    (h : evLit X.P t len (parts.toList.map fun (p : Nat × Operand) => p.1) o.dst (opnds X.P (parts.toList.map fun (p : Nat × Operand) => (0, p.2)) s) = some s') : Acts X pu o a w g s' := by
  unfold evLit at h
  split at h
  · rename_i e hu
    split at h
    · rename_i n z hn hz
      split at h
      · rename_i hzn
        unfold litF at h
        split at h
        · rename_i vs s1 hps
          split at h
          · rename_i hc
            obtain ⟨hix, hall, hlen, hn0⟩ := hc
            cases h
            obtain ⟨g1, k1, k2, k3⟩ := Rel.opnds pu _ s [] g vs s1 R hps
            simp only [List.nil_append, List.map_map] at k2
            let us := parts.toList.map fun p => a.eval p.2
            have k2' : Rel s1 (vs.zip us) a w g1 := by simpa [Function.comp_def, us] using k2
            have hpl : parts.toList.length = len := by have := congrArg List.length hix; simpa using this
            have hvl : vs.length = len := by rw [k1]; simp [hpl]
            have hul : us.length = len := by simp [us, hpl]
            have hfl : ∀ (i : Nat) v u, vs[i]? = some v → us[i]? = some u → RT w g1 (.lim i) v u := fun i v u h1 h2 => k2'.fl i (v, u) (by rw [List.getElem?_zip_eq_some]; exact ⟨h1, h2⟩)
            have hpart : ∀ (i : Nat) v, vs[i]? = some v → v.cells.length = n ∧ (∀ c, c ∈ v.cells → keepC c = true) ∧ noTup v = true := fun i v h1 => by
              have := List.all_eq_true.1 hall v (List.mem_of_getElem? h1)
              exact ⟨(okPart_inv this).1, (okPart_inv this).2, okPart_noTup this hn0⟩
            have hucell : ∀ u, u ∈ us → u.cells.size = n := fun u hm => by
              obtain ⟨i, hi⟩ := List.mem_iff_getElem?.1 hm
              have hlt : i < vs.length := by rw [hvl, ← hul]; exact (List.getElem?_eq_some_iff.1 hi).1
              obtain ⟨p1, _, p3⟩ := hpart i vs[i] (by simp [hlt])
              rw [(RT.cellsOf (hfl i vs[i] u (by simp [hlt]) hi) p3).1, p1]
            obtain ⟨zv, zi, z1, z2, z3, z4⟩ := zeroOf_inv hz
            let C0 : Array Value := (Array.range (len * n)).map fun i => zv.cells[i % zv.cells.size]!
            have hC0 : C0.size = len * n := by simp [C0]
            obtain ⟨C, f1, f2, _, f4⟩ := fill_row us 0 C0 hucell (by rw [hul, hC0, Nat.zero_add]; exact Nat.le_refl _)
            rw [hC0] at f2
            have hF := Flit_side (minDepth (nest X.P typeFuel e) (vs.flatMap TV.cells))
            obtain ⟨d, hdd⟩ : ∃ d, d = minDepth (nest X.P typeFuel e) (vs.flatMap TV.cells) := ⟨_, rfl⟩
            rw [← hdd] at hF ⊢
            have hmin := fun (i : Nat) v (h1 : vs[i]? = some v) d' z' xs' (hm : (Md.own d', AV.sl z' xs') ∈ v.cells) => (minDepth_le (nest X.P typeFuel e) (vs.flatMap TV.cells)).2 d' z' xs' (List.mem_flatMap.2 ⟨v, List.mem_of_getElem? h1, hm⟩)
            let xs := vs.map fun v => v.cells.map (·.2)
            have hxl : xs.length = len := by simp [xs, hvl]
            have content : ∀ i x j c, xs[i]? = some x → x[j]? = some c → ∃ v, C[i * n + j]? = some v ∧ KC w (relabel (Flit d) g1) (.own d) (.lim 0) [0, i, j] c v := by
              intro i x j c hx hc
              simp only [xs, List.getElem?_map, Option.map_eq_some_iff] at hx
              obtain ⟨v, hv, rfl⟩ := hx
              simp only [List.getElem?_map, Option.map_eq_some_iff] at hc
              obtain ⟨mc, hmc, rfl⟩ := hc
              obtain ⟨p1, p2, p3⟩ := hpart i v hv
              have hlt : i < us.length := by rw [hul, ← hvl]; exact (List.getElem?_eq_some_iff.1 hv).1
              have hj : j < n := by rw [← p1]; exact (List.getElem?_eq_some_iff.1 hmc).1
              obtain ⟨_, q2⟩ := RT.cellsOf (hfl i v us[i] hv (by simp [hlt])) p3
              obtain ⟨u, hu', hr⟩ := q2 j mc hmc
              refine ⟨u, by have := f4 i us[i] j (by simp [hlt]) hj; rw [Nat.zero_add] at this; rw [this]; exact hu', ?_⟩
              have hkc := keepC_kc (p2 mc (List.mem_of_getElem? hmc)) hr
              obtain ⟨m, c⟩ := mc
              have hkp := p2 (m, c) (List.mem_of_getElem? hmc)
              unfold keepC at hkp
              split at hkp
              · rename_i d' z' xs' he
                cases he
                exact hkc.sink hF (fun ρ hρ => by simp [Flit, hρ]) (fun ρ hρ => by simp [Flit]; omega) (by rw [hdd]; exact hmin i v hv d' z' xs' (List.mem_of_getElem? hmc))
              · rename_i he
                cases he
                exact RC.plainAt (g' := relabel (Flit d) g1) (.inl hkc) hkp (fun _ _ => rfl) (Nat.le_refl _) _ _ _
              · cases hkp
            have K := KC.newSl (w := w) (g := relabel (Flit d) g1) (d := d) (cap := len) (xs := xs) (C := C) (ty := e) (z := n) (fun x hx => by
              simp only [xs, List.mem_map] at hx
              obtain ⟨v, hv, rfl⟩ := hx
              obtain ⟨i, hi⟩ := List.mem_iff_getElem?.1 hv
              simpa using (hpart i v hi).1) f2 (by omega) content
            have R1 : Rel s1 [] a w (relabel (Flit d) g1) := by
              have R0 := k2'.forget (fl := [])
              exact ⟨R0.n, fun i y hi => by simp at hi, fun t tv ht => (R0.tm t tv ht).kept hF fun π => by cases π <;> rfl, fun t cs ht => (R0.bx t cs ht).kept hF fun π => by cases π <;> rfl,
                fun id cs hi => (R0.hp id cs hi).kept hF (by rw [R0.n]; exact (List.getElem?_eq_some_iff.1 hi).1) fun π => by cases π <;> rfl, R0.hd⟩
            have C2 := chg_alloc (w := w) (g := relabel (Flit d) g1) (.cells C e) (.pth (.lim 0) [0]) (xs.length * n)
            have R2 := R1.all C2 (fun _ _ => trivial) rfl (fun _ => rfl) (fun _ => rfl)
            obtain ⟨g3, R3, L3⟩ := (R2.push (fl := []) (tv := .one (.own (d + 1)) (.sl n xs)) (.inl K)).finish pu hd
            refine ⟨_, _, g3, ?_, R3, ((k3.trans (le_relabel hF pu (fun id π => by cases π <;> rfl) fun _ t => rfl)).trans (le_alloc pu _ _ _ (by simp))).trans L3⟩
            have hfill : Instr.fill (fun i => some (i * n, n)) C0 ((parts.map fun (i, x) => (i, a.eval x)).toList) = some C := by
              rw [← f1]
              congr 1
              rw [hul, ← List.range_eq_range', ← hix]
              simp [us, List.zip_map']
            unfold execOp; rw [ho]
            simp only [Sem.run_bind, Instr.buildSlice, run_underlying' hu, Result.andThen_ok, run_sizeOf' hn]
            rw [if_neg (by omega)]
            by_cases h0 : len * n = 0
            · have hC0' : C0 = #[] := by apply Array.eq_empty_of_size_eq_zero; rw [hC0, h0]
              rw [hC0'] at hfill
              have hr0 : (Array.range 0 : Array Nat) = #[] := rfl
              simp only [h0, if_true, Sem.run_bind, Sem.run_pure, Result.andThen_ok, pure_bind, hr0, Array.map_empty]
              rw [hfill]
              simp [newRow, hxl]
            · simp only [h0, if_false, Sem.run_bind, Sem.run_pure, Result.andThen_ok, pure_bind, run_zero z1 z2]
              rw [show (Array.map (fun x => zv.cells[x % zv.cells.size]!) (Array.range (len * n))) = C0 from rfl, hfill]
              simp [newRow, hxl]
          · cases h
        · cases h
      · cases h
    · cases h
  · cases h
end
end Go.Proofs.Abs
/- Slices that are made; append. -/
namespace Go.Proofs.Abs
open Go
set_option linter.unusedVariables false

section
variable {X : Cx} {pu : Pu} {s s' : St} {a : Act} {w : World} {g : Gh}

theorem zeroIs_mode {v m c} (h : zeroIs v m c = true) {m'} (hm : m' ≠ .top) (r π) : KC w g m' r π c v := by
  unfold zeroIs at h
  split at h
  · exact .bool
  · simp only [Bool.and_eq_true, decide_eq_true_eq] at h
    obtain ⟨rfl, rfl⟩ := h; exact .int
  · simp only [decide_eq_true_eq] at h
    subst h; exact .str
  · exact .nilp
  · exact .nil hm
  · cases h
theorem zeroes_mode : ∀ {vs : List Value} {cs : List MC}, zeroesAre vs cs = true → ∀ (j : Nat) (c : MC), cs[j]? = some c → ∃ u, vs[j]? = some u ∧ ∀ m', m' ≠ .top → ∀ r π, KC w g m' r π c.2 u
  | [], [], _, j, c, h => by simp at h
  | v :: vs, c0 :: cs, h, j, c, hc => by
    simp only [zeroesAre, Bool.and_eq_true] at h
    cases j with
    | zero => simp at hc; subst hc; exact ⟨v, rfl, fun m' hm r π => zeroIs_mode h.1 hm r π⟩
    | succ j => exact zeroes_mode h.2 j c (by simpa using hc)
  | [], _ :: _, h, _, _, _ => by cases h
  | _ :: _, [], h, _, _, _ => by cases h

theorem acts_make {o : Oper} {t l c} (ho : o.op = .makeSlice t l c) (R : Rel s [] a w g) (hd : ∀ d, o.dst = some d → d < a.tmps.size)
    (h : setO s o.dst (makeF X.P t (opnd X.P s 0 l) (opnd X.P s 0 c)) = some s') : Acts X pu o a w g s' := by
  obtain ⟨v, h1, rfl⟩ := setO_inv h
  cases hl : opnd X.P s 0 l with
  | none => rw [hl] at h1; cases h1
  | some lv => cases hcp : opnd X.P s 0 c with
    | none => rw [hl, hcp] at h1; unfold makeF at h1; split at h1 <;> simp_all
    | some cv =>
      rw [hl, hcp] at h1
      obtain ⟨r1, _, hr1⟩ := R.val hl
      obtain ⟨r2, _, hr2⟩ := R.val hcp
      unfold makeF at h1
      split at h1
      · rename_i m1 k1 n m2 k2 m he1 he2
        cases he1; cases he2
        have el := hr1.one.int
        have ec := hr2.one.int
        split at h1
        · rename_i e hu
          split at h1
          · rename_i z k zb hz hk hb
            split at h1
            · rename_i hc
              obtain ⟨c1, c2, c3, c4, c5, c6⟩ := hc
              cases h1
              obtain ⟨zv, zi, z1, z2, z3, z4⟩ := zeroOf_inv hz
              have hbi : zi.bytes = zb := by simpa [byOf, z1] using hb
              have hki : zi.size = k := by simpa [szOf, z1] using hk
              obtain ⟨nn, rfl⟩ := Int.eq_ofNat_of_zero_le c1
              obtain ⟨mm, rfl⟩ := Int.eq_ofNat_of_zero_le (Int.le_trans c1 c2)
              have hzs : zv.cells.size = k := by
                obtain ⟨q1, _⟩ := zeroesAre_ok (w := w) (g := g) (r := .lim 0) (π := []) z3
                rw [← hki, z4]; simpa using q1
              let C : Array Value := (Array.range (mm * k)).map fun i => zv.cells[i % zv.cells.size]!
              have hC : C.size = mm * k := by simp [C]
              let xs : List (List AV) := List.replicate nn (z.map (·.2))
              have hxl : xs.length = nn := by simp [xs]
              have hz' : ∀ x, x ∈ xs → x.length = k := fun x hx => by
                rw [List.eq_of_mem_replicate hx]; simp [c5]
              have content : ∀ i x j c, xs[i]? = some x → x[j]? = some c → ∃ v, C[i * k + j]? = some v ∧ KC w g (.own (nest X.P typeFuel e)) (.lim 0) [0, i, j] c v := by
                intro i x j c hx hc
                simp only [xs, List.getElem?_replicate] at hx
                split at hx
                · rename_i hi
                  cases hx
                  simp only [List.getElem?_map, Option.map_eq_some_iff] at hc
                  obtain ⟨mc, hmc, rfl⟩ := hc
                  obtain ⟨u, hu', hk'⟩ := zeroes_mode (w := w) (g := g) z3 j mc hmc
                  have hj : j < k := by rw [← c5]; exact (List.getElem?_eq_some_iff.1 hmc).1
                  have hq : i * k + j < mm * k := by
                    have : (i + 1) * k ≤ mm * k := Nat.mul_le_mul_right k (by omega)
                    have : (i + 1) * k = i * k + k := Nat.succ_mul i k
                    omega
                  refine ⟨u, ?_, hk' _ (by simp) _ _⟩
                  simp only [C, Array.getElem?_map, Array.getElem?_range, hq, if_true, Option.map_some]
                  rw [hzs, Nat.mul_comm i k, Nat.mul_add_mod, Nat.mod_eq_of_lt hj]
                  rw [Array.getElem?_toList] at hu'
                  rw [getElem!_def, hu']
                · cases hx
              have K := KC.newSl (w := w) (g := g) (cap := mm) (C := C) (ty := e) hz' hC (by omega) content
              have R2 := R.all (chg_alloc (w := w) (g := g) (.cells C e) (.pth (.lim 0) [0]) (xs.length * k)) (fun _ _ => trivial) rfl (fun _ => rfl) (fun _ => rfl)
              obtain ⟨g3, R3, L3⟩ := (R2.push (fl := []) (tv := .one (.own (nest X.P typeFuel e + 1)) (.sl k xs)) (.inl K)).finish pu hd
              refine ⟨_, _, g3, ?_, by simpa using R3, (le_alloc pu _ _ _ (by simp)).trans L3⟩
              unfold execOp; rw [ho]
              have w1 : IntKind.i64.wrap (nn : Int) = nn := IntWalk.i64_in _ (by omega)
              have w2 : IntKind.i64.wrap (mm : Int) = mm := IntWalk.i64_in _ (by omega)
              have hroom : (zi.bytes : Int) * mm ≤ 2 ^ 47 := by rw [hbi, Int.mul_comm]; exact_mod_cast c3
              have t1 : ¬ (2 ^ 48 < (zi.bytes : Int) * mm) := by omega
              have t2 : ¬ ((mm : Int) < nn) := by omega
              simp only [Sem.run_bind, Instr.makeSlice, run_underlying' hu, Result.andThen_ok, el, ec, asInt, asIntOf, pure_bind, run_typeInfo' z1, w1, w2, Sem.run_pure]
              have t3 : ¬ ((mm : Int) < 0) := by omega
              have t4 : ¬ ((nn : Int) < 0) := by omega
              have tl : (decide ((mm : Int) < 0) || decide ((zi.bytes : Int) * (mm : Int) > 2 ^ 48)) = false := by simp [t3]; omega
              simp only [tl, Bool.false_or, t4, t2, gt_iff_lt, Bool.or_false, decide_false, Bool.false_eq_true, if_false]
              simp only [Sem.run_bind, run_askRoom, Result.andThen_ok, run_sizeOf' hk, Int.toNat_natCast]
              by_cases h0 : mm * k = 0
              · have hC0 : C = #[] := by apply Array.eq_empty_of_size_eq_zero; rw [hC, h0]
                have hr0 : (Array.range 0 : Array Nat) = #[] := rfl
                simp only [h0, if_true, Sem.run_bind, hr0, Array.map_empty]
                simp [newRow, hxl, hC0]
              · simp only [h0, if_false, Sem.run_bind, run_zero z1 z2, Result.andThen_ok]
                rw [show (Array.map (fun x => zv.cells[x % zv.cells.size]!) (Array.range (mm * k))) = C from rfl]
                simp [newRow, hxl]
            · cases h1
          · cases h1
        · cases h1
      · cases h1

/-! ### append -/
theorem SlAt.all {m r π z xs b o cap} (k : SlAt w g m r π z xs b o cap) : ∃ vs : Nat → Value, (∀ q, q < xs.length * z → cel w b (o + q) = some (vs q)) ∧
    ∀ i x j c, xs[i]? = some x → x[j]? = some c → KC w g m.inner r (π ++ [i, j]) c (vs (i * z + j)) := by
  have hq : ∀ q, q < xs.length * z → ∃ i x j c, xs[i]? = some x ∧ x[j]? = some c ∧ q = i * z + j := fun q hq => by
    have hz : 0 < z := by
      rcases Nat.eq_zero_or_pos z with h | h
      · subst h; simp at hq
      · exact h
    have hi : q / z < xs.length := Nat.div_lt_of_lt_mul (by rw [Nat.mul_comm]; exact hq)
    have hx : xs[q / z]? = some xs[q / z] := by simp [hi]
    have hj : q % z < xs[q / z].length := by rw [k.hz _ (List.getElem_mem hi)]; exact Nat.mod_lt _ hz
    exact ⟨q / z, xs[q / z], q % z, xs[q / z][q % z], hx, by simp [hj], by rw [Nat.mul_comm]; exact (Nat.div_add_mod q z).symm⟩
  refine ⟨fun q => (cel w b (o + q)).getD undef, fun q h => ?_, fun i x j c hx hc => ?_⟩
  · obtain ⟨i, x, j, c, h1, h2, rfl⟩ := hq q h
    obtain ⟨v, h3, _⟩ := k.cell i x j c h1 h2
    rw [Nat.add_assoc] at h3
    show _ = some ((cel w b _).getD undef)
    rw [h3]; rfl
  · obtain ⟨v, h3, h4⟩ := k.cell i x j c hx hc
    rw [Nat.add_assoc] at h3
    show KC _ _ _ _ _ _ ((cel w b _).getD undef)
    rw [h3]; exact h4

theorem run_storeCells {P : Program} {b : Nat} : ∀ (vs : List Value) (o i : Nat) (w : World), (∀ j, j < vs.length → free w b (o + (i + j))) → (∀ v, v ∈ vs → v.oneCell' = true) →
    (storeCells ⟨b, o, none⟩ vs i).run P w = .ok () (w.setCells b (o + i) vs)
  | [], o, i, w, _, _ => rfl
  | v :: vs, o, i, w, h, hv => by
    have h0 := h 0 (by simp)
    rw [Nat.add_zero] at h0
    obtain ⟨u, hu⟩ := Option.isSome_iff_exists.1 h0.1
    simp only [storeCells, Sem.run_bind, add_mk, run_store _ _ _ _ _ (hv v (by simp))]
    rw [show w.cell? ⟨b, o + i, none⟩ = some u from hu]
    simp only [h0.2, Bool.false_eq_true, if_false, Result.andThen_ok]
    rw [run_storeCells vs o (i + 1) (w.setCell ⟨b, o + i, none⟩ v) (fun j hj => ?_) (fun v hm => hv v (by simp [hm])), World.setCells]
    · rfl
    · have := h (j + 1) (by simp; omega)
      rw [show o + (i + 1 + j) = o + (i + (j + 1)) from by omega]
      refine ⟨?_, by rw [World.frozen?_setCell]; exact this.2⟩
      show ((w.setCell ⟨b, o + i, none⟩ v).cell? ⟨b, o + (i + (j + 1)), none⟩).isSome = true
      rw [World.cell?_setCell_other _ _ _ _ (by simp)]
      exact this.1

/-! cells that are set in one block -/
theorem cel_setCells_out {b b' o i : Nat} {vs : List Value} (h : b' ≠ b ∨ i < o ∨ o + vs.length ≤ i) : cel (w.setCells b o vs) b' i = cel w b' i :=
  World.cell?_setCells_out b vs o w ⟨b', i, none⟩ (fun h1 _ => by rcases h with h | h; exact absurd h1 h; exact h)
theorem cel_setCells_in {b o j : Nat} {vs : List Value} (h : ∀ j, j < vs.length → (cel w b (o + j)).isSome = true) (hj : j < vs.length) : cel (w.setCells b o vs) b (o + j) = some vs[j] :=
  World.cell?_setCells_in b vs o w h j hj
theorem free_setCells {b b' o i : Nat} {vs : List Value} (h : ∀ j, j < vs.length → (cel w b (o + j)).isSome = true) (hf : free w b' i) : free (w.setCells b o vs) b' i := by
  refine ⟨?_, by rw [World.frozen?_setCells]; exact hf.2⟩
  by_cases hin : b' = b ∧ o ≤ i ∧ i < o + vs.length
  · obtain ⟨rfl, h1, h2⟩ := hin
    obtain ⟨j, rfl⟩ : ∃ j, i = o + j := ⟨i - o, by omega⟩
    rw [cel_setCells_in h (by omega)]; rfl
  · rw [cel_setCells_out (by omega)]; exact hf.1
theorem heap_setCells {b b' o : Nat} {vs : List Value} (h : b' ≠ b) : (w.setCells b o vs).heap[b']? = w.heap[b']? := by
  induction vs generalizing o w with
  | nil => rfl
  | cons v vs ih =>
    rw [World.setCells, ih]
    show (w.heap.modify b _)[b']? = _
    rw [Array.getElem?_modify, if_neg (fun e => h e.symm)]
theorem size_setCells {b o : Nat} {vs : List Value} : (w.setCells b o vs).heap.size = w.heap.size := by
  induction vs generalizing o w with
  | nil => rfl
  | cons v vs ih =>
    rw [World.setCells, ih]
    show (w.heap.modify b _).size = _
    simp
theorem os_setCells {b o : Nat} {vs : List Value} : (w.setCells b o vs).os = w.os ∧ (w.setCells b o vs).tape = w.tape ∧ (w.setCells b o vs).output = w.output := by
  induction vs generalizing o w with
  | nil => exact ⟨rfl, rfl, rfl⟩
  | cons v vs ih => rw [World.setCells]; exact ih
/-- writes into one block, from the frontier on or where views have fallen -/
theorem chg_setCells {b o e : Nat} {vs : List Value} {r0 π0} {vl vh : Bool} (hown : g.own b = .pth r0 π0) (hs : ∀ j, j < vs.length → (cel w b (o + j)).isSome = true)
    (hl : vl = true → r0.isObj = true ∨ (g.fr b ≤ o ∧ g.fr b ≤ e)) (hh : vh = true → r0.isObj = false ∨ (g.fr b ≤ o ∧ g.fr b ≤ e)) :
    Chg (fun r π => r ≠ r0 ∨ ¬(π <+: π0)) vl vh w g (w.setCells b o vs) (setFr g b e) := by
  have hne : ∀ b', b' ≠ b → (setFr g b e).fr b' = g.fr b' := fun b' h => by show (if b' = b then e else g.fr b') = _; rw [if_neg h]
  refine ⟨by rw [size_setCells]; exact Nat.le_refl _, Nat.le_refl _, fun _ _ => rfl, fun r π ρ h => h.imp id fun h hp => h ((List.prefix_append π ρ).trans hp), fun b' _ h => ⟨rfl, fun i _ => cel_setCells_out (.inl fun e => ?_)⟩,
    fun b' r π _ h hu => ?_, fun v b' r π _ h hr => ⟨.inr ⟨r, π, h, hr, ?_⟩, fun i hi _ => ?_⟩, fun v b' r π _ h hr => ⟨.inr ⟨r, π, h, hr, ?_⟩, fun i hi _ => ?_⟩, fun _ _ b' _ h => ⟨h, heap_setCells fun e => by subst e; rw [hown] at h; cases h⟩⟩
  · subst e; rw [hown] at h; rcases h with h | h <;> cases h
  · have hb : b' ≠ b := fun e => by
      subst e
      rw [hown] at h
      cases h
      rcases hu with hu | hu
      · exact hu rfl
      · exact hu (List.prefix_refl _)
    exact ⟨h, hne b' hb, fun i _ => cel_setCells_out (.inl hb), fun i hf => free_setCells hs hf⟩
  · by_cases hb : b' = b
    · subst hb
      rw [hown] at h; cases h
      rcases hl v with h | h
      · rw [hr] at h; cases h
      · show _ ≤ (if b' = b' then e else _); rw [if_pos rfl]; exact h.2
    · rw [hne b' hb]; exact Nat.le_refl _
  · by_cases hb : b' = b
    · subst hb
      rw [hown] at h; cases h
      rcases hl v with h | h
      · rw [hr] at h; cases h
      · exact cel_setCells_out (.inr (.inl (by omega)))
    · exact cel_setCells_out (.inl hb)
  · by_cases hb : b' = b
    · subst hb
      rw [hown] at h; cases h
      rcases hh v with h | h
      · rw [hr] at h; cases h
      · show _ ≤ (if b' = b' then e else _); rw [if_pos rfl]; exact h.2
    · rw [hne b' hb]; exact Nat.le_refl _
  · by_cases hb : b' = b
    · subst hb
      rw [hown] at h; cases h
      rcases hh v with h | h
      · rw [hr] at h; cases h
      · exact cel_setCells_out (.inr (.inl (by omega)))
    · exact cel_setCells_out (.inl hb)
theorem le_setCells {b o e : Nat} {vs : List Value} {r0 π0} (pu : Pu) (hown : g.own b = .pth r0 π0) (hp : pu.ob = true → r0.isObj = false) (hl : ∀ t, inL t pu.lc = true → r0 = .loc t → π0 ≠ []) : Le pu w g (w.setCells b o vs) (setFr g b e) := by
  have hnb : ∀ b', stay pu (g.own b') → b' ≠ b := fun b' h e => by
    subst e
    rw [hown] at h
    rcases h with h | h | ⟨h1, id, π, h⟩ | ⟨t, h1, h⟩
    · cases h
    · cases h
    · cases h; have := hp h1; cases this
    · cases h; exact hl t h1 rfl rfl
  refine ⟨by rw [size_setCells]; exact Nat.le_refl _, fun b' _ h => ⟨heap_setCells (hnb b' h), rfl, ?_⟩, fun b' h1 h2 => absurd h2 (by rw [size_setCells]; omega), fun _ _ h => h, Nat.le_refl _, fun _ _ => rfl, os_setCells.1, os_setCells.2.1, os_setCells.2.2⟩
  show (if b' = b then e else _) = _
  rw [if_neg (hnb b' h)]
end
end Go.Proofs.Abs
/- append. -/
namespace Go.Proofs.Abs
open Go
set_option linter.unusedVariables false
set_option linter.unusedSimpArgs false

section
variable {X : Cx} {pu : Pu} {s s' : St} {a : Act} {w : World} {g : Gh}

def Fapp (dm n : Nat) (r : Rk) (π : List Nat) : Ow :=
  match r, π with
  | .lim 0, 0 :: i :: j :: ρ => if ρ.length < 2 * dm then .pth (.lim 0) (0 :: i :: j :: ρ) else .shared
  | .lim 1, 0 :: i :: j :: ρ => if ρ.length < 2 * dm then .pth (.lim 0) (0 :: (n + i) :: j :: ρ) else .shared
  | .lim 1, _ => .shared
  | r, π => .pth r π
theorem Fapp_side (dm n) : keepsSide (Fapp dm n) := by
  intro r π
  unfold Fapp
  split
  · split
    · exact .inr ⟨_, _, rfl, rfl⟩
    · exact .inl rfl
  · split
    · exact .inr ⟨_, _, rfl, rfl⟩
    · exact .inl rfl
  · exact .inl rfl
  · exact .inr ⟨_, _, rfl, rfl⟩

theorem flat_scalar {ys : List (List AV)} (h : flatEls ys = true) {i : Nat} {y : List AV} {j : Nat} {c : AV} (h1 : ys[i]? = some y) (h2 : y[j]? = some c) : c.scalar = true := by
  simp only [flatEls, List.all_eq_true] at h
  exact h y (List.mem_of_getElem? h1) c (List.mem_of_getElem? h2)

/-- the model's append, told -/
theorem isSliceT_inv {P : Program} {u} (h : isSliceT P u = true) : ∃ e, P.underlying u = some (.slice e) := by
  unfold isSliceT at h
  split at h
  · exact ⟨_, ‹_›⟩
  · cases h
theorem run_append_in {P : Program} {ats : Array TypeId} {ty t u e : TypeId} {n z : Nat} {v1 : Value} {vy : Nat → Value} {len cap : Nat} {base : Option Addr} (hat : ats[0]? = some t) (hbt : ats[1]? = some u) (hu : P.underlying t = some (.slice e)) (hs : isSliceT P u = true)
    (hz : szOf P e = some z) (hn : Builtin.lenOf v1 = pure n) (hf : (Builtin.firstCells z n v1).run P w = .ok ((List.range (n * z)).map vy).toArray w) (hroom : len + n ≤ cap) :
    (Builtin.append_ ats ty #[.slice base len cap, v1]).run P w =
      ((match base with | some a => storeCells (a.add (len * z)) ((List.range (n * z)).map vy) | none => pure ()).run P w).andThen fun _ w' => .ok (.slice base (len + n) cap) w' := by
  obtain ⟨e2, hu2⟩ := isSliceT_inv hs
  unfold Builtin.append_
  simp only [hat, hbt, Sem.run_bind, run_underlying' hu, run_underlying' hu2, Result.andThen_ok, run_sizeOf' hz, pure_bind, hn, Sem.run_pure, Bool.false_eq_true, if_false, hroom, if_true, Bool.not_false, hf, List.getElem?_toArray, List.getElem?_cons_zero, List.getElem?_cons_succ]
  cases base with
  | none => simp
  | some b => simp
theorem run_append_new {P : Program} {ats : Array TypeId} {ty t u e : TypeId} {n z : Nat} {v1 : Value} {vx vy : Nat → Value} {len cap : Nat} {base : Option Addr} {i : TypeInfo} {zv : Value} (hat : ats[0]? = some t) (hbt : ats[1]? = some u) (hu : P.underlying t = some (.slice e)) (hs : isSliceT P u = true)
    (hi : P.info? e = some i) (hsz : i.size = z) (hzv : i.zero = some zv) (hn : Builtin.lenOf v1 = pure n) (hf : ∀ w' : World, w'.heap = w.heap → (Builtin.firstCells z n v1).run P w' = .ok ((List.range (n * z)).map vy).toArray w')
    (hfx : ∀ w' : World, w'.heap = w.heap → (Builtin.firstCells z len (.slice base len cap)).run P w' = .ok ((List.range (len * z)).map vx).toArray w')
    (hroom : cap < len + n) (hb0 : i.bytes ≠ 0) (hb : (len + n) * i.bytes ≤ 2 ^ 47) :
    (Builtin.append_ ats ty #[.slice base len cap, v1]).run P w =
      .ok (.slice (some ⟨w.heap.size, 0, none⟩) (len + n) (grownCap w (len + n) cap e))
        (w.drew.alloc (.cells (((List.range (len * z)).map vx).toArray ++ ((List.range (n * z)).map vy).toArray ++ Builtin.zeroCells zv.cells (grownCap w (len + n) cap e - (len + n))) e)) := by
  obtain ⟨e2, hu2⟩ := isSliceT_inv hs
  have hn' : ¬ (len + n ≤ cap) := by omega
  have h48' : ¬ (281474976710656 < Builtin.nextslicecap (len + n) cap * i.bytes) := by
    have := growslice_fits (bytes := i.bytes) hroom hb
    omega
  have hfd := hf w.drew rfl
  have hfxd := hfx w.drew rfl
  have hbz : ¬ ((len : Int) + (n : Int) > IntKind.i64.max ∧ (False ∨ i.bytes = 0)) := by rintro ⟨_, h | h⟩; exact h; exact hb0 h
  simp [Builtin.append_, hat, hbt, run_underlying' hu, run_underlying' hu2, sizeOf, typeInfo, zeroValue, hi, hzv, hsz, hn, hn', h48', hb0, Question.forced, hfd, hfxd, newRow, grownCap]
  congr 2
  apply Array.ext'
  simp [List.append_assoc]

theorem SlAt.kc {m r π z xs b o cap} (k : SlAt w g m r π z xs b o cap) : KC w g m r π (.sl z xs) (.slice (some ⟨b, o, none⟩) xs.length cap) := by
  refine .sl (fun i j => (cel w b (o + i * z + j)).getD undef) k.hb k.hok k.hz k.hcap k.room (fun i x j c hx hc => ?_) (fun i x j c hx hc => ?_)
  · obtain ⟨v, h1, _⟩ := k.cell i x j c hx hc
    show _ = some ((cel w b _).getD undef)
    rw [h1]; rfl
  · obtain ⟨v, h1, h2⟩ := k.cell i x j c hx hc
    show KC _ _ _ _ _ _ ((cel w b _).getD undef)
    rw [h1]; exact h2
/-- a change that meets nothing of what the state holds, but for what is lent -/
theorem Rel.chgAll {U : Rk → List Nat → Prop} {vl vh : Bool} {w' g'} (C : Chg U vl vh w g w' g') (R : Rel s [] a w g) (hU : ∀ r π, (∀ i, r ≠ .lim i) → U r π) (hl : vl = true ∨ NoMd isBl s) (hh : vh = true ∨ NoMd isBh s)
    (hn : g'.n = g.n) (hψ : ∀ t, g'.ψ t = g.ψ t) (hd : ∀ q, g'.hd q = g.hd q) : Rel s [] a w' g' := by
  have ok : ∀ {c : MC} {r π}, (∀ i, r ≠ Rk.lim i) → (NoMd isBl s → isBl c.1 = false ∧ c.2.lent isBl = false) → (NoMd isBh s → isBh c.1 = false ∧ c.2.lent isBh = false) → cellOk U vl vh g g' r π c := by
    intro c r π h1 h2 h3
    refine ⟨fun _ => hU _ _ h1, fun e => ?_, fun e => ?_, ?_⟩
    · rcases hl with h | h
      · exact h
      · have := (h2 h).1; rw [e] at this; cases this
    · rcases hh with h | h
      · exact h
      · have := (h3 h).1; rw [e] at this; cases this
    · cases h4 : c.2 with
      | loc t off => exact hψ t
      | el q i off => exact hd q
      | at_ q lo n => exact hd q
      | rd mo mi cs off =>
        refine ⟨fun e => ?_, fun e => ?_⟩
        · rcases hl with h | h
          · exact h
          · have := (h2 h).2; rw [h4] at this; simp only [AV.lent, Bool.or_eq_false_iff, isBl, decide_eq_false_iff_not] at this
            rcases e with e | e
            · exact absurd e this.1
            · exact absurd e this.2
        · rcases hh with h | h
          · exact h
          · have := (h3 h).2; rw [h4] at this; simp only [AV.lent, Bool.or_eq_false_iff, isBh, decide_eq_false_iff_not] at this
            rcases e with e | e
            · exact absurd e this.1
            · exact absurd e this.2
      | it b pos =>
        refine ⟨hl.elim id fun h => ?_, hh.elim id fun h => ?_⟩
        · have := (h2 h).2; rw [h4] at this; cases this
        · have := (h3 h).2; rw [h4] at this; cases this
      | _ => trivial
  refine ⟨hn.trans R.n, fun i x hi => by simp at hi, fun t tv ht => (R.tm t tv ht).chg C fun c hc π => ok (by simp) (fun h => h.1 t tv ht c hc) (fun h => h.1 t tv ht c hc),
    fun t cs ht => (R.bx t cs ht).chg C (hψ t) (hU _ _ (by simp)) fun c hc π => ok (by simp) (fun h => h.2 t cs ht c hc) (fun h => h.2 t cs ht c hc), fun id cs hi => (R.hp id cs hi).chg C (by rw [R.n]; exact (List.getElem?_eq_some_iff.1 hi).1) (fun _ => hU _ _ (by simp)), fun r d z xs hr b o sp len cap hv => ?_⟩
  rw [hd]
  refine R.hd r d z xs hr b o sp len cap ?_
  cases r with
  | obj id off =>
    change cellOf off (s.h[id]?) = _ at hr
    cases hs : s.h[id]? with
    | none => rw [hs] at hr; cases hr
    | some cs =>
      rw [hs] at hr
      have hB := R.hp id cs hs
      obtain ⟨v, h1, h2, h3⟩ := hB.cell off _ hr
      obtain ⟨_, _, k3, _⟩ := C.un _ _ _ hB.blk hB.own (hU _ _ (by simp))
      change cel w' (g'.φ id) off = _ at hv
      rw [C.ids id (by rw [R.n]; exact (List.getElem?_eq_some_iff.1 hs).1), k3 off (by rw [h1]; rfl)] at hv
      exact hv
  | loc t off =>
    change cellOf off (find t s.l) = _ at hr
    cases hs : find t s.l with
    | none => rw [hs] at hr; cases hr
    | some cs =>
      rw [hs] at hr
      have hB := R.bx t cs hs
      obtain ⟨v, h1, h2, h3⟩ := hB.cell off _ hr
      obtain ⟨_, _, k3, _⟩ := C.un _ _ _ hB.blk hB.own (hU _ _ (by simp))
      change cel w' (g'.ψ t) off = _ at hv
      rw [hψ, k3 off (by rw [h1]; rfl)] at hv
      exact hv
  | tmp t => exact hv
theorem chg_same {w' : World} (h : w'.heap = w.heap) : Chg (fun _ _ => True) true true w g w' g := by
  have hc : ∀ b o, cel w' b o = cel w b o := fun b o => by simp only [World.cell?, h]
  have hf : ∀ b o, free w b o → free w' b o := fun b o hf => ⟨by rw [hc]; exact hf.1, by have := hf.2; simp only [World.frozen?, h] at this ⊢; exact this⟩
  exact ⟨by rw [h]; exact Nat.le_refl _, Nat.le_refl _, fun _ _ => rfl, fun _ _ _ h => h, fun b _ _ => ⟨rfl, fun o _ => hc b o⟩, fun b r π _ h1 _ => ⟨h1, rfl, fun o _ => hc b o, fun o => hf b o⟩,
    fun _ b r π _ h1 h2 => ⟨.inr ⟨r, π, h1, h2, Nat.le_refl _⟩, fun o _ _ => hc b o⟩, fun _ b r π _ h1 h2 => ⟨.inr ⟨r, π, h1, h2, Nat.le_refl _⟩, fun o _ _ => hc b o⟩, fun _ _ b _ h1 => ⟨h1, by rw [h]⟩⟩
theorem le_same {w' : World} (pu : Pu) (h : w'.heap = w.heap) (h1 : w'.os = w.os) (h2 : w'.tape = w.tape) (h3 : w'.output = w.output) : Le pu w g w' g :=
  ⟨by rw [h]; exact Nat.le_refl _, fun b _ _ => ⟨by rw [h], rfl, rfl⟩, fun _ h1 h2 => absurd h2 (by rw [h]; omega), fun _ _ h => h, Nat.le_refl _, fun _ _ => rfl, h1, h2, h3⟩
theorem elems_all {P : Program} {m r π z xs v} (h : KC w g m r π (.sl z xs) v) : ∃ vs : Nat → Value, (Builtin.lenOf v = pure xs.length) ∧ (∀ w' : World, w'.heap = w.heap → (Builtin.firstCells z xs.length v).run P w' = .ok ((List.range (xs.length * z)).map vs).toArray w') ∧
    ∀ i x j c, xs[i]? = some x → x[j]? = some c → KC w g m.inner r (π ++ [i, j]) c (vs (i * z + j)) := by
  rcases h.sl_inv with ⟨rfl, rfl, _⟩ | ⟨b, o, cap, rfl, k⟩ | ⟨rfl, ⟨a, cap, rfl⟩, _, _⟩
  · exact ⟨fun _ => undef, rfl, fun w' _ => by simp [Builtin.firstCells], fun i x j c h => by simp at h⟩
  rotate_left
  · exact ⟨fun _ => undef, rfl, fun w' _ => by simp [Builtin.firstCells, loadCells, loadCellsFrom], fun i x j c h => by simp at h⟩
  · obtain ⟨vs, h1, h2⟩ := k.all
    refine ⟨vs, rfl, fun w' hw => ?_, h2⟩
    simp only [Builtin.firstCells, loadCells]
    rw [run_loadCells (vs := vs) (xs.length * z) 0 #[] (by
      intro j hj
      have := h1 j (by simpa using hj)
      have hc : cel w' b (o + j) = cel w b (o + j) := by simp only [World.cell?, hw]
      rw [Nat.zero_add, hc]; exact this)]
    simp [List.range_eq_range']
end
end Go.Proofs.Abs
/- append, told. -/
namespace Go.Proofs.Abs
open Go
set_option linter.unusedVariables false
set_option linter.unusedSimpArgs false

section
variable {X : Cx} {pu : Pu} {s s' : St} {a : Act} {w : World} {g : Gh}

theorem zeroCells_size (zs : Array Value) (n : Nat) : (Builtin.zeroCells zs n).size = n * zs.size := by simp [Builtin.zeroCells]
theorem grownCap_ge (w : World) (need old : Nat) (e : TypeId) : need ≤ grownCap w need old e := by
  show need ≤ need + _
  omega
/-- where an element of a row lies -/
theorem pos_lt {n z i j : Nat} (hi : i < n) (hj : j < z) : i * z + j < n * z := by
  have : (i + 1) * z ≤ n * z := Nat.mul_le_mul_right z hi
  have : (i + 1) * z = i * z + z := Nat.succ_mul i z
  omega

theorem acts_append {o : Oper} {args ats t u rest} (ho : o.op = .call { callee := .builtin .append, args := args, argTypes := ats }) (hat : ats.toList = t :: u :: rest)
    {vs : List TV} {vals : List Value} (hargs : (args.map a.eval).toList = vals) {s1 : St} (R : Rel s1 (vs.zip vals) a w g) (hl : vals.length = vs.length)
    (hd : ∀ d, o.dst = some d → d < a.tmps.size) {v} (h : evAppend X.P t u vs = some v) : Acts X pu o a w g (setT s1 o.dst v) := by
  unfold evAppend at h
  split at h
  rotate_left
  · cases h
  rename_i d z xs mx z' ys
  split at h
  rotate_left
  · cases h
  rename_i e hu
  split at h
  rotate_left
  · cases h
  rename_i ze zb hze hzb
  split at h
  rotate_left
  · cases h
  rename_i hc
  obtain ⟨c1, rfl, c3, c4, c5⟩ := hc
  unfold appendF at h
  split at h
  rotate_left
  · cases h
  rename_i ee hdep
  split at h
  rotate_left
  · cases h
  rename_i hc2
  obtain ⟨c6, c7⟩ := hc2
  cases h
  obtain ⟨v0, v1, rfl⟩ : ∃ v0 v1, vals = [v0, v1] := by
    cases vals with
    | nil => simp at hl
    | cons v0 r => cases r with
      | nil => simp at hl
      | cons v1 r => cases r with
        | nil => exact ⟨v0, v1, rfl⟩
        | cons _ _ => simp at hl
  have hat0 : ats[0]? = some t := by rw [← Array.getElem?_toList, hat]; rfl
  have hat1 : ats[1]? = some u := by rw [← Array.getElem?_toList, hat]; rfl
  have hargs' : args.map a.eval = #[v0, v1] := by
    cases hm : args.map a.eval with
    | mk l => rw [hm] at hargs; simp at hargs; rw [hargs]
  have hrun : ∀ r w', (Builtin.append_ ats o.type #[v0, v1]).run X.P w = .ok r w' → (execOp a.eval o).run X.P w = .ok (.value r) w' := fun r w' hr => by
    unfold execOp; rw [ho]
    simp only [resolve, hargs', pure_bind, invoke, builtin, Sem.run_bind, hr, Result.andThen_ok]
    rfl
  obtain ⟨zv, zi, z1, z2, z3, z4⟩ := zeroOf_inv hze
  have hsz : zi.size = z' := by rw [z4, c1]
  have hzP : szOf X.P e = some z' := by simp [szOf, z1, hsz]
  have hbi : zi.bytes = zb := by simpa [byOf, z1] using hzb
  have hzs : zv.cells.size = z' := by
    obtain ⟨q1, _⟩ := zeroesAre_ok (w := w) (g := g) (r := .lim 0) (π := []) z3
    rw [c1]; simpa using q1
  have hlenY : ∀ y, y ∈ ys → y.length = z' := fun y hy => by
    simp only [lenIs, List.all_eq_true, beq_iff_eq] at c7
    exact c7 y hy
  have hX : KC w g (.own (d + 1)) (.lim 0) [0] (.sl z' xs) v0 := RC.sl (R.fl 0 _ rfl)
  have hY : KC w g mx (.lim 1) [0] (.sl z' ys) v1 := RC.sl (R.fl 1 _ rfl)
  obtain ⟨dm, hdm⟩ : ∃ dm, dm = min d ee := ⟨_, rfl⟩
  rw [← hdm]
  have hF := Fapp_side dm xs.length
  -- the elements' new homes
  have elX : ∀ {i j c u}, KC w g (Md.own (d + 1)).inner (.lim 0) ([0] ++ [i, j]) c u → KC w (relabel (Fapp dm xs.length) g) (.own dm) (.lim 0) [0, i, j] c u := fun {i j c u} hk =>
    KC.sink (π1 := [0, i, j]) hF (fun ρ hρ => by simp [Fapp, hρ]) (fun ρ hρ => by simp [Fapp]; omega) hk (by omega)
  obtain ⟨vy, y1, y2, y3⟩ := elems_all (P := X.P) hY
  have elY : ∀ i y j c, ys[i]? = some y → y[j]? = some c → KC w (relabel (Fapp dm xs.length) g) (.own dm) (.lim 0) [0, xs.length + i, j] c (vy (i * z' + j)) := fun i y j c hy hc => by
    have hk := y3 i y j c hy hc
    unfold depthIn at hdep
    split at hdep
    · rename_i e'
      cases hdep
      exact KC.sink (π1 := [0, i, j]) hF (fun ρ hρ => by simp [Fapp, hρ]) (fun ρ hρ => by simp [Fapp]; omega) hk (by omega)
    · cases hdep
      exact KC.sink (π1 := [0, i, j]) (d' := 0) hF (fun ρ hρ => by simp [Fapp, hρ]) (fun ρ hρ => by simp [Fapp]; omega) hk (by omega)
    · split at hdep
      · rename_i hflat
        exact RC.plainAt (g' := relabel (Fapp dm xs.length) g) (.inl hk) (flat_scalar hflat hy hc) (fun _ _ => rfl) (Nat.le_refl _) _ _ _
      · cases hdep
  have R1 : Rel s1 [] a w (relabel (Fapp dm xs.length) g) := by
    have R0 := R.forget (fl := [])
    exact ⟨R0.n, fun i y hi => by simp at hi, fun t tv ht => (R0.tm t tv ht).kept hF fun π => rfl, fun t cs ht => (R0.bx t cs ht).kept hF fun π => rfl,
      fun id cs hi => (R0.hp id cs hi).kept hF (by rw [R0.n]; exact (List.getElem?_eq_some_iff.1 hi).1) fun π => rfl, R0.hd⟩
  have L1 : Le pu w g w (relabel (Fapp dm xs.length) g) := le_relabel hF pu (fun id π => rfl) fun _ t => rfl
  have hlen : (xs ++ ys).length = xs.length + ys.length := by simp
  have hzz : (∀ x, x ∈ xs → x.length = z') → ∀ x, x ∈ xs ++ ys → x.length = z' := fun hx x hm => by
    rcases List.mem_append.1 hm with h | h
    · exact hx x h
    · exact hlenY x h
  -- a new row
  have grow : ∀ (base : Option Addr) (cap : Nat) (vx : Nat → Value), v0 = .slice base xs.length cap → (∀ x, x ∈ xs → x.length = z') →
      (∀ w' : World, w'.heap = w.heap → (Builtin.firstCells z' xs.length v0).run X.P w' = .ok ((List.range (xs.length * z')).map vx).toArray w') →
      (∀ i x j c, xs[i]? = some x → x[j]? = some c → KC w g (Md.own (d + 1)).inner (.lim 0) ([0] ++ [i, j]) c (vx (i * z' + j))) → cap < xs.length + ys.length →
      Acts X pu o a w g (setT s1 o.dst (.one (.own (dm + 1)) (.sl z' (xs ++ ys)))) := by
    intro base cap vx hv0 hxz hfx hkx hcap
    have run := run_append_new (P := X.P) (ats := ats) (ty := o.type) (w := w) hat0 hat1 hu c5 z1 hsz z2 y1 y2 (base := base) (len := xs.length) (cap := cap) (vx := vx) (by rw [← hv0]; exact hfx) hcap (by rw [hbi]; exact c4) (by rw [hbi]; exact c6)
    rw [← hv0] at run
    obtain ⟨nc, hnc⟩ : ∃ nc, nc = grownCap w (xs.length + ys.length) cap e := ⟨_, rfl⟩
    rw [← hnc] at run
    have hge : xs.length + ys.length ≤ nc := by rw [hnc]; exact grownCap_ge _ _ _ _
    obtain ⟨C, hC⟩ : ∃ C, C = ((List.range (xs.length * z')).map vx).toArray ++ ((List.range (ys.length * z')).map vy).toArray ++ Builtin.zeroCells zv.cells (nc - (xs.length + ys.length)) := ⟨_, rfl⟩
    rw [← hC] at run
    have hCs : C.size = nc * z' := by
      rw [hC, Array.size_append, Array.size_append, zeroCells_size, hzs]
      simp
      rw [← Nat.add_mul, ← Nat.add_mul]
      congr 1; omega
    have R2 : Rel s1 [] a w.drew (relabel (Fapp dm xs.length) g) := R1.all (chg_same (w := w) (w' := w.drew) rfl) (fun _ _ => trivial) rfl (fun _ => rfl) (fun _ => rfl)
    have toDrew : ∀ {m r π c u}, KC w (relabel (Fapp dm xs.length) g) m r π c u → KC w.drew (relabel (Fapp dm xs.length) g) m r π c u := fun hk => hk.chg (chg_same (w := w) (w' := w.drew) rfl) (fun _ => trivial) (fun _ => rfl) (fun _ => rfl)
    have content : ∀ i x j c, (xs ++ ys)[i]? = some x → x[j]? = some c → ∃ v, C[i * z' + j]? = some v ∧ KC w.drew (relabel (Fapp dm xs.length) g) (.own dm) (.lim 0) [0, i, j] c v := by
      intro i x j c hx hc
      have hxm := List.mem_of_getElem? hx
      have hj : j < z' := by rw [← hzz hxz x hxm]; exact (List.getElem?_eq_some_iff.1 hc).1
      rw [List.getElem?_append] at hx
      split at hx
      · rename_i hi
        have hp := pos_lt hi hj
        refine ⟨vx (i * z' + j), ?_, toDrew (elX (hkx i x j c hx hc))⟩
        rw [hC, Array.getElem?_append_left (by simp; omega), Array.getElem?_append_left (by simp; omega)]
        simp [hp]
      · rename_i hi
        obtain ⟨i', rfl⟩ : ∃ i', i = xs.length + i' := ⟨i - xs.length, by omega⟩
        rw [Nat.add_sub_cancel_left] at hx
        have hi' : i' < ys.length := (List.getElem?_eq_some_iff.1 hx).1
        have hp := pos_lt hi' hj
        have hadd : (xs.length + i') * z' + j = xs.length * z' + (i' * z' + j) := by rw [Nat.add_mul]; omega
        refine ⟨vy (i' * z' + j), ?_, toDrew (elY i' x j c hx hc)⟩
        rw [hadd, hC, Array.getElem?_append_left (by simp; omega), Array.getElem?_append_right (by simp)]
        simp [hp]
    have K := KC.newSl (w := w.drew) (g := relabel (Fapp dm xs.length) g) (d := dm) (cap := nc) (xs := xs ++ ys) (C := C) (ty := e) (z := z') (hzz hxz) hCs (by rw [hlen]; exact hge) content
    have R3 := R2.all (chg_alloc (w := w.drew) (.cells C e) (.pth (.lim 0) [0]) ((xs ++ ys).length * z')) (fun _ _ => trivial) rfl (fun _ => rfl) (fun _ => rfl)
    obtain ⟨g3, R4, L3⟩ := (R3.push (fl := []) (tv := .one (.own (dm + 1)) (.sl z' (xs ++ ys))) (.inl K)).finish pu hd
    refine ⟨_, _, g3, hrun _ _ run, ?_, ((L1.trans (le_same (w' := w.drew) pu rfl rfl rfl rfl)).trans (le_alloc pu (.cells C e) (.pth (.lim 0) [0]) ((xs ++ ys).length * z') (by simp))).trans L3⟩
    rw [hlen] at R4
    exact R4
  rcases hX.sl_inv with ⟨e1, e2, _⟩ | ⟨b, o', cap, e1, k⟩ | ⟨_, _, _, hno⟩
  rotate_left 2
  · cases hno
  · subst e1
    by_cases hy0 : ys = []
    · subst hy0
      obtain ⟨g3, R4, L3⟩ := (R1.push (fl := []) (tv := .one (.own (dm + 1)) (.sl z' [])) (v := .slice none 0 0) (.inl (.nil (by simp)))).finish pu hd
      refine ⟨_, w, g3, hrun _ _ ?_, R4, L1.trans L3⟩
      have run := run_append_in (P := X.P) (ats := ats) (ty := o.type) (w := w) (base := none) (len := 0) (cap := 0) hat0 hat1 hu c5 hzP y1 (y2 w rfl) (by simp)
      rw [e2, run]
      rfl
    · refine grow none 0 (fun _ => undef) e2 (fun x hx => by simp at hx) (fun w' _ => by rw [e2]; simp [Builtin.firstCells]) (fun i x j c hx => by simp at hx) ?_
      have : ys.length ≠ 0 := fun h => hy0 (List.length_eq_zero_iff.1 h)
      simp; omega
  · by_cases hcap : xs.length + ys.length ≤ cap
    · have run := run_append_in (P := X.P) (ats := ats) (ty := o.type) (w := w) (base := some ⟨b, o', none⟩) (len := xs.length) (cap := cap) hat0 hat1 hu c5 hzP y1 (y2 w rfl) hcap
      obtain ⟨L, hL⟩ : ∃ L, L = (List.range (ys.length * z')).map vy := ⟨_, rfl⟩
      rw [← hL] at run
      have hLl : L.length = ys.length * z' := by simp [hL]
      have hfree : ∀ j, j < L.length → free w b (o' + xs.length * z' + j) := fun j hj => by
        rw [Nat.add_assoc]
        refine k.room rfl _ ?_
        have : (xs.length + ys.length) * z' ≤ cap * z' := Nat.mul_le_mul_right z' hcap
        rw [Nat.add_mul] at this
        omega
      have hstore : (storeCells (Addr.add ⟨b, o', none⟩ (xs.length * z')) L).run X.P w = .ok () (w.setCells b (o' + xs.length * z') L) := by
        rw [add_mk]
        have := run_storeCells (P := X.P) L (o' + xs.length * z') 0 w (fun j hj => by rw [Nat.zero_add]; exact hfree j hj) (fun v hv => by
          rw [hL] at hv
          obtain ⟨q, hq, rfl⟩ := List.mem_map.1 hv
          rw [List.mem_range] at hq
          have hz0 : 0 < z' := by omega
          have hi : q / z' < ys.length := Nat.div_lt_of_lt_mul (by rw [Nat.mul_comm]; exact hq)
          have hx : ys[q / z']? = some ys[q / z'] := by simp [hi]
          have hj : q % z' < ys[q / z'].length := by rw [hlenY _ (List.getElem_mem hi)]; exact Nat.mod_lt _ hz0
          have := (y3 _ _ _ _ hx (by simp [hj] : ys[q / z'][q % z']? = some ys[q / z'][q % z'])).oneCell
          rw [show q / z' * z' + q % z' = q from by rw [Nat.mul_comm]; exact Nat.div_add_mod q z'] at this
          exact this)
        simpa using this
      simp only [hstore, Result.andThen_ok] at run
      obtain ⟨hown, hfr⟩ := k.hok
      have hown1 : (relabel (Fapp dm xs.length) g).own b = .pth (.lim 0) [0] := by rw [relabel_own hown]; rfl
      have hsm : ∀ j, j < L.length → (cel w b (o' + xs.length * z' + j)).isSome = true := fun j hj => (hfree j hj).1
      have C2 := chg_setCells (w := w) (g := relabel (Fapp dm xs.length) g) (b := b) (o := o' + xs.length * z') (e := o' + (xs.length + ys.length) * z') (vs := L) (vl := true) (vh := true) hown1 hsm
        (fun _ => .inr ⟨by show g.fr b ≤ _; rw [hfr]; exact Nat.le_refl _, by show g.fr b ≤ _; rw [hfr, Nat.add_mul]; omega⟩) (fun _ => .inl rfl)
      have R2 := R1.chgAll C2 (fun r π hr => .inl (hr 0)) (.inl rfl) (.inl rfl) rfl (fun _ => rfl) (fun _ => rfl)
      have deep : ∀ {i j c u}, KC w (relabel (Fapp dm xs.length) g) (.own dm) (.lim 0) [0, i, j] c u → KC (w.setCells b (o' + xs.length * z') L) (setFr (relabel (Fapp dm xs.length) g) b (o' + (xs.length + ys.length) * z')) (.own dm) (.lim 0) [0, i, j] c u := fun hk =>
        hk.chg C2 (fun _ => .inr fun hp => by have := hp.length_le; simp at this) (fun _ => rfl) (fun _ => rfl)
      have S : SlAt (w.setCells b (o' + xs.length * z') L) (setFr (relabel (Fapp dm xs.length) g) b (o' + (xs.length + ys.length) * z')) (.own (dm + 1)) (.lim 0) [0] z' (xs ++ ys) b o' cap := by
        refine ⟨by rw [size_setCells]; exact k.hb, ⟨hown1, by rw [hlen]; simp [setFr]⟩, hzz k.hz, by rw [hlen]; exact hcap, fun _ j hj => free_setCells hsm (k.room rfl j hj), fun i x j c hx hc => ?_⟩
        have hxm := List.mem_of_getElem? hx
        have hj : j < z' := by rw [← hzz k.hz x hxm]; exact (List.getElem?_eq_some_iff.1 hc).1
        rw [List.getElem?_append] at hx
        split at hx
        · rename_i hi
          have hp := pos_lt hi hj
          obtain ⟨v, q1, q2⟩ := k.cell i x j c hx hc
          exact ⟨v, by rw [cel_setCells_out (by omega)]; exact q1, deep (elX q2)⟩
        · rename_i hi
          obtain ⟨i', rfl⟩ : ∃ i', i = xs.length + i' := ⟨i - xs.length, by omega⟩
          rw [Nat.add_sub_cancel_left] at hx
          have hi' : i' < ys.length := (List.getElem?_eq_some_iff.1 hx).1
          have hp := pos_lt hi' hj
          refine ⟨vy (i' * z' + j), ?_, deep (elY i' x j c hx hc)⟩
          rw [show o' + (xs.length + i') * z' + j = (o' + xs.length * z') + (i' * z' + j) from by rw [Nat.add_mul]; omega, cel_setCells_in hsm (by rw [hLl]; exact hp)]
          simp [hL]
      obtain ⟨g3, R4, L3⟩ := (R2.push (fl := []) (tv := .one (.own (dm + 1)) (.sl z' (xs ++ ys))) (.inl S.kc)).finish pu hd
      refine ⟨_, _, g3, hrun _ _ (by rw [e1]; exact run), by rw [hlen] at R4; exact R4, (L1.trans (le_setCells pu hown1 (fun _ => rfl) fun _ _ _ => by simp)).trans L3⟩
    · obtain ⟨vx, x1, x2, x3⟩ := elems_all (P := X.P) hX
      exact grow _ cap vx e1 k.hz x2 x3 (by omega)
end
end Go.Proofs.Abs
/- Walks over strings: sound. -/
namespace Go.Proofs.Abs
open Go
set_option linter.unusedVariables false
set_option linter.unusedSimpArgs false

section
variable {X : Cx} {pu : Pu} {s s' : St} {a : Act} {w : World} {g : Gh}
theorem run_newObj (P : Program) (ob : Obj) : (newObj ob).run P w = .ok w.heap.size (w.alloc ob) := rfl
theorem acts_range {o : Oper} {t x} (ho : o.op = .range t x) (R : Rel s [] a w g) (hd : ∀ d, o.dst = some d → d < a.tmps.size) (h : rangeF X.P t o.dst s (opnd X.P s t x) = some s') : Acts X pu o a w g s' := by
  unfold rangeF at h
  split at h
  rotate_left
  · cases h
  rename_i m b hx
  split at h
  rotate_left
  · cases h
  rename_i ht
  cases h
  obtain ⟨r, _, hr⟩ := R.val hx
  have hv : a.eval x = .string b := (RT.one hr).str
  have C := chg_alloc (w := w) (g := g) (.stringIter b 0) .itr 0
  have R1 := R.all C (fun _ _ => trivial) rfl (fun _ => rfl) (fun _ => rfl)
  obtain ⟨g2, R2, L2⟩ := R1.tell (c := .it b 0) (v := ptr w.heap.size 0) (dst := o.dst) pu hd fun r π =>
    .inr (.it (by rw [heap_alloc]; omega) (by simp [withBlk]) (by show (w.heap.push _)[w.heap.size]? = _; simp))
  refine ⟨_, _, g2, ?_, R2, (le_alloc pu _ _ 0 (by simp)).trans L2⟩
  unfold execOp
  rw [ho]
  simp only [Instr.range, hv, Sem.run_bind, run_underlying' ht, Result.andThen_ok, Sem.run_pure, run_newObj]
  rfl
theorem chg_iter {b : Nat} {bs : ByteArray} {pos : Nat} (hb : g.own b = .itr) (hw : ∃ s p, w.heap[b]? = some (.stringIter s p)) : Chg (fun _ _ => True) true false w g (w.iterAt b bs pos) g := by
  have ho : ∀ j, j ≠ b → (w.iterAt b bs pos).heap[j]? = w.heap[j]? := fun j h => Go.Lib.iterAt_other w b j bs pos h
  have hc : ∀ j i, j ≠ b → cel (w.iterAt b bs pos) j i = cel w j i := fun j i h => by simp only [World.cell?, ho j h]
  have hf : ∀ j i, j ≠ b → free w j i → free (w.iterAt b bs pos) j i := fun j i h k => ⟨by rw [hc j i h]; exact k.1, by have := k.2; simp only [World.frozen?, ho j h] at this ⊢; exact this⟩
  refine ⟨by rw [Go.Lib.iterAt_size]; exact Nat.le_refl _, Nat.le_refl _, fun _ _ => rfl, fun _ _ _ h => h, fun j _ h => ⟨rfl, fun i _ => hc j i fun e => ?_⟩, fun j r π _ h _ => ?_, fun _ j r π _ h hr => ⟨.inr ⟨r, π, h, hr, Nat.le_refl _⟩, fun i _ _ => hc j i fun e => ?_⟩, fun h => by (cases h), fun _ h => by (cases h)⟩
  · subst e; rw [hb] at h; rcases h with h | h <;> cases h
  · have hj : j ≠ b := fun e => by subst e; rw [hb] at h; cases h
    exact ⟨h, rfl, fun i _ => hc j i hj, fun i => hf j i hj⟩
  · subst e; rw [hb] at h; cases h
theorem le_iter {b : Nat} {bs : ByteArray} {pos : Nat} (hb : g.own b = .itr) : Le pu w g (w.iterAt b bs pos) g := by
  refine ⟨by rw [Go.Lib.iterAt_size]; exact Nat.le_refl _, fun j _ h => ⟨Go.Lib.iterAt_other w b j bs pos fun e => ?_, rfl, rfl⟩, fun j h1 h2 => absurd h2 (by rw [Go.Lib.iterAt_size]; omega), fun _ _ h => h, Nat.le_refl _, fun _ _ => rfl, rfl, rfl, rfl⟩
  subst e
  rcases h with h | h | ⟨_, _, _, h⟩ | ⟨_, _, h⟩ <;> (rw [hb] at h; cases h)
theorem acts_next {o : Oper} {t} (ho : o.op = .next (.tmp t) true) (R : Rel s [] a w g) (hd : ∀ d, o.dst = some d → d < a.tmps.size) (h : nextF o.dst t s (find t s.t) = some s') : Acts X pu o a w g s' := by
  unfold nextF at h
  split at h
  rotate_left
  · cases h
  rename_i m b pos hf
  have hr : RC w g m (.tmp t) [0] (.it b pos) (a.tmps.getD t undef) := R.tm t _ hf
  have ev : a.eval (.tmp t) = a.tmps.getD t undef := rfl
  rcases hr with hr | hr
  · cases hr
  generalize hv : a.tmps.getD t undef = v at hr
  cases hr with
  | @it _ _ k hb hown hw =>
    split at h
    · rename_i hlt
      cases h
      have R1 := (R.kill isBh noAV).chgAll (chg_iter (bs := b) (pos := pos + (Utf8.decode b pos).2) hown ⟨_, _, hw⟩) (fun _ _ _ => trivial) (.inl rfl) (.inr (noMd_kill rfl)) rfl (fun _ => rfl) (fun _ => rfl)
      have R2 : Rel (nextS t b (pos + (Utf8.decode b pos).2) s) [] a (w.iterAt k b (pos + (Utf8.decode b pos).2)) g := by
        refine ⟨R1.n, R1.fl, fun t' tv ht => ?_, R1.bx, R1.hp, fun r d z xs hat b' o' sp len cap hv' => ?_⟩
        · change find t' (put t _ _) = _ at ht
          rw [find_put] at ht
          split at ht
          · rename_i e
            subst e
            cases ht
            show RC _ _ _ _ _ _ _
            rw [hv]
            exact .inr (.it (by rw [Go.Lib.iterAt_size]; exact hb) hown (Go.Lib.iterAt_heap w k b pos _ hw))
          · exact R1.tm t' tv ht
        · refine R1.hd r d z xs ?_ b' o' sp len cap hv'
          cases r with
          | obj id off => exact hat
          | loc t' off => exact hat
          | tmp t' =>
            change oneOf (find t' (put t _ _)) = _ at hat
            rw [find_put] at hat
            split at hat
            · cases hat
            · exact hat
      obtain ⟨g2, R3, L2⟩ := (R2.push (tv := .tup [sc (.bool true), sc (.int .i64 pos), sc (.int .i32 (Utf8.decode b pos).1)]) (v := .tuple #[.bool true, .int .i64 pos, .int .i32 (Utf8.decode b pos).1])
        ⟨_, rfl, rfl, fun j tv hj => by
          match j, hj with
          | 0, hj => cases hj; exact ⟨_, rfl, .inl .bool⟩
          | 1, hj => cases hj; exact ⟨_, rfl, .inl .int⟩
          | 2, hj => cases hj; exact ⟨_, rfl, .inl .int⟩
          | n + 3, hj => simp at hj⟩).finish (dst := o.dst) pu hd
      refine ⟨_, _, g2, ?_, R3, (le_iter hown).trans L2⟩
      unfold execOp
      rw [ho]
      simp only [ev, hv, Sem.run_bind, ptr, Go.Lib.run_next_any_at w k b pos o.type hw hlt, Result.andThen_ok]
      rfl
    · rename_i hlt
      cases h
      obtain ⟨g2, R3, L2⟩ := (R.push (tv := .tup [sc (.bool false)]) (v := .tuple #[.bool false])
        ⟨_, rfl, rfl, fun j tv hj => by
          match j, hj with
          | 0, hj => cases hj; exact ⟨_, rfl, .inl .bool⟩
          | n + 1, hj => simp at hj⟩).finish (dst := o.dst) pu hd
      refine ⟨_, _, g2, ?_, R3, L2⟩
      unfold execOp
      rw [ho]
      simp only [ev, hv, Sem.run_bind, ptr, Go.Lib.run_next_end_at w k b pos o.type hw hlt, Result.andThen_ok]
      rfl
end
end Go.Proofs.Abs
/- Bytes as strings, parts of arrays: sound. -/
namespace Go.Proofs.Abs
open Go
set_option linter.unusedVariables false
set_option linter.unusedSimpArgs false

section
variable {X : Cx} {pu : Pu} {s s' : St} {a : Act} {w : World} {g : Gh}
theorem byteOf_inv {x : List AV} {c} (h : byteOf x = some c) : ∃ n, x = [.int .u8 n] ∧ c = UInt8.ofNat n.toNat := by
  unfold byteOf at h
  split at h
  · cases h; exact ⟨_, rfl, rfl⟩
  · cases h
theorem bytesOf_inv : ∀ {xs : List (List AV)} {b s}, bytesOf xs b = some s → ∃ ns : List Int, xs = ns.map (fun n => [.int .u8 n]) ∧ s = ns.foldl (fun r n => r.push (UInt8.ofNat n.toNat)) b
  | [], b, s, h => by cases h; exact ⟨[], rfl, rfl⟩
  | x :: r, b, s, h => by
    unfold bytesOf at h
    split at h
    · rename_i c hc
      obtain ⟨n, rfl, rfl⟩ := byteOf_inv hc
      obtain ⟨ns, rfl, rfl⟩ := bytesOf_inv h
      exact ⟨n :: ns, rfl, rfl⟩
    · cases h
theorem bytesOf_map : ∀ (ns : List Int) (b : ByteArray), bytesOf (ns.map fun n => [.int .u8 n]) b = some (ns.foldl (fun r n => r.push (UInt8.ofNat n.toNat)) b)
  | [], b => rfl
  | n :: ns, b => by simp only [List.map_cons, bytesOf, byteOf, List.foldl_cons]; exact bytesOf_map ns _
theorem isU8_inv {t} (h : isU8 t = true) : t = some (.int .u8) := by
  unfold isU8 at h
  split at h
  · rfl
  · cases h
theorem isStrT_inv {t} (h : isStrT t = true) : t = some .string := by
  unfold isStrT at h
  split at h
  · rfl
  · cases h
theorem acts_str {o : Oper} {t1 t2 x} (ho : o.op = .convert t1 t2 x) (R : Rel s [] a w g) (hd : ∀ d, o.dst = some d → d < a.tmps.size) (h : setO s o.dst (strF X.P t1 t2 (opnd X.P s t1 x)) = some s') : Acts X pu o a w g s' := by
  obtain ⟨v, h1, rfl⟩ := setO_inv h
  unfold strF at h1
  split at h1
  rotate_left
  · cases h1
  rename_i m xs hx
  split at h1
  rotate_left
  · cases h1
  rename_i e ht
  split at h1
  rotate_left
  · cases h1
  rename_i hc
  obtain ⟨c1, c2⟩ := hc
  have he := isU8_inv c1
  have h2 := isStrT_inv c2
  rw [Option.map_eq_some_iff] at h1
  obtain ⟨b, hb, rfl⟩ := h1
  obtain ⟨ns, rfl, rfl⟩ := bytesOf_inv hb
  obtain ⟨r, _, hr⟩ := R.val hx
  obtain ⟨g2, R2, L2⟩ := R.tell pu hd (c := .str (ns.foldl (fun r n => r.push (UInt8.ofNat n.toNat)) ByteArray.empty)) (v := .string (ns.foldl (fun r n => r.push (UInt8.ofNat n.toNat)) ByteArray.empty)) fun _ _ => .inl .str
  refine ⟨_, w, g2, ?_, R2, L2⟩
  have key : (convert t1 t2 (a.eval x)).run X.P w = .ok (.string (ns.foldl (fun r n => r.push (UInt8.ofNat n.toNat)) ByteArray.empty)) w := by
    rcases (RC.sl hr.one).sl_inv with ⟨k1, k2, k3⟩ | ⟨b, o', cap, k1, k2⟩ | ⟨k1, ⟨a0, cap, k2⟩, k3, k4⟩
    · rw [k2, run_convert_bytes_string w t1 t2 e none 0 0 ht he h2]
      have : ns = [] := by cases ns <;> simp_all
      subst this
      rfl
    · rw [k1, run_convert_bytes_string w t1 t2 e _ _ _ ht he h2]
      refine run_bytesToString w _ _ _ ns ?_
      rw [List.length_map]
      unfold loadCells
      have hl : ∀ q, q < ns.length → cel w b (o' + q) = some (.int .u8 (ns.getD q 0)) := fun q hq => by
        obtain ⟨v, k3, k4⟩ := k2.cell q [.int .u8 (ns.getD q 0)] 0 (.int .u8 (ns.getD q 0)) (by simp [hq]) rfl
        simp only [Nat.mul_one, Nat.add_zero] at k3
        rw [k3, (show RC w g _ _ _ _ _ from .inl k4).int]
      rw [run_loadCells (vs := fun q => .int .u8 (ns.getD q 0)) ns.length 0 #[] (fun q hq => by rw [Nat.zero_add]; exact hl q hq)]
      congr 1
      apply Array.ext'
      rw [Array.toList_append]
      simp only [List.nil_append]
      refine List.ext_getElem (by simp) fun q h1 h2 => ?_
      simp at h1
      simp [h1]
    · have : ns = [] := by cases ns <;> simp_all
      subst this
      rw [k2, run_convert_bytes_string w t1 t2 e _ _ _ ht he h2]
      refine run_bytesToString w _ _ _ [] rfl
  unfold execOp
  rw [ho]
  simp only [Sem.run_bind, key, Result.andThen_ok]
  rfl

def FshL (t : Nat) (r : Rk) (π : List Nat) : Ow := if r = .loc t then .shared else .pth r π
theorem FshL_side (t) : keepsSide (FshL t) := by
  intro r π
  unfold FshL
  split
  · exact .inl rfl
  · exact .inr ⟨r, π, rfl, rfl⟩
theorem FshL_keep {t r} (h : r ≠ .loc t) (π) : FshL t r π = .pth r π := if_neg h
theorem acts_slArr {o : Oper} {t x lo hi} (ho : o.op = .slice t x lo hi none) (R : Rel s [] a w g) (hd : ∀ d, o.dst = some d → d < a.tmps.size) (h : setQ o.dst (slArrF X.P pu t lo hi s (opnd X.P s 0 x)) = some s') : Acts X pu o a w g s' := by
  obtain ⟨v, s1, h1, rfl⟩ := setQ_inv h
  unfold slArrF at h1
  split at h1
  rotate_left
  · cases h1
  rename_i m b hx
  split at h1
  rotate_left
  · cases h1
  rename_i n e ht
  split at h1
  rotate_left
  · cases h1
  rename_i cs hz hf
  split at h1
  rotate_left
  · cases h1
  rename_i hc
  obtain ⟨c1, c2, c3⟩ := hc
  obtain ⟨l, u, e1, e2, e3, e4⟩ := subF_inv h1
  cases e4
  obtain ⟨r, _, hr⟩ := R.val hx
  have hv : a.eval x = ptr (g.ψ b) 0 := by
    rcases hr.one with hk | hk
    · cases hk
    · generalize hq : a.eval x = v at hk
      cases hk
      rfl
  have hun : u ≤ n := (bound_ok (c := .sliceB) R e2 (Nat.le_refl _) (fun _ => Nat.le_refl _)).1
  have hB := R.bx b cs hf
  have R0 : Rel { s with l := drop1 b s.l } [] a w g := R.ext (fun _ _ h => h) (fun t cs hf => by rw [find_drop1] at hf; split at hf; exact absurd hf (by simp); exact hf) rfl
  have R1 : Rel { s with l := drop1 b s.l } [] a w (relabel (FshL b) g) := by
    refine ⟨R0.n, fun i y hi => by simp at hi, fun t tv ht => (R0.tm t tv ht).kept (FshL_side b) fun π => FshL_keep (by simp) π, fun t cs ht => (R0.bx t cs ht).kept (FshL_side b) fun π => FshL_keep ?_ π,
      fun id cs hi => (R0.hp id cs hi).kept (FshL_side b) (by rw [R0.n]; exact (List.getElem?_eq_some_iff.1 hi).1) fun π => FshL_keep (by simp) π, R0.hd⟩
    change find t (drop1 b s.l) = _ at ht
    rw [find_drop1] at ht
    split at ht
    · cases ht
    · rename_i e; intro e'; cases e'; exact e rfl
  have hcell : ∀ (j : Nat) (c : MC), cs[j]? = some c → ∃ v, cel w (g.ψ b) j = some v ∧ KC w (relabel (FshL b) g) (.own 0) (.lim 0) [] c.2 v := fun j c hj => by
    obtain ⟨v, k1, k2, k3⟩ := hB.cell j c hj
    exact ⟨v, k1, RC.plainAt k3 (List.all_eq_true.1 c2 c (List.mem_of_getElem? hj)) (g' := relabel (FshL b) g) (fun _ _ => rfl) (Nat.le_refl _) _ _ _⟩
  have hsc : ∀ (j : Nat) (c : MC), cs[j]? = some c → c.2.scalar = true := fun j c hj => List.all_eq_true.1 c2 c (List.mem_of_getElem? hj)
  have hlen : (((cs.take u).drop l).map fun c => [c.2]).length = u - l := by simp; omega
  have hget : ∀ i x, (((cs.take u).drop l).map fun c => [c.2])[i]? = some x → ∃ c, cs[l + i]? = some c ∧ x = [c.2] := fun i x hi => by
    rw [List.getElem?_map, Option.map_eq_some_iff] at hi
    obtain ⟨c, k1, rfl⟩ := hi
    rw [List.getElem?_drop, List.getElem?_take] at k1
    split at k1
    · exact ⟨c, k1, rfl⟩
    · cases k1
  have K : ∀ o', (u - l = 0 ∨ o' = l) → KC w (relabel (FshL b) g) (.own 0) (.lim 0) [0] (.sl 1 (((cs.take u).drop l).map fun c => [c.2])) (.slice (some ⟨g.ψ b, o', none⟩) (((cs.take u).drop l).map fun c => [c.2]).length (n - l)) := fun o' ho' => by
    refine .sl (fun i j => (cel w (g.ψ b) (o' + i)).getD undef) hB.blk (show (relabel (FshL b) g).own _ = .shared from by rw [relabel_own hB.own]; simp [FshL]) (fun x hx => ?_) (by rw [hlen]; omega) (fun h => by cases h) (fun i x j c hi hj => ?_) fun i x j c hi hj => ?_
    · obtain ⟨c, _, rfl⟩ := List.mem_map.1 hx; rfl
    all_goals
      obtain ⟨c0, k1, rfl⟩ := hget i x hi
      have hpos : i < u - l := by rw [← hlen]; exact (List.getElem?_eq_some_iff.1 hi).1
      obtain rfl : o' = l := ho'.resolve_left (by omega)
      obtain ⟨v, q1, q2⟩ := hcell _ _ k1
      have hj0 : j = 0 ∧ c = c0.2 := by
        cases j with
        | zero => exact ⟨rfl, by simpa using hj.symm⟩
        | succ j => simp at hj
      obtain ⟨rfl, rfl⟩ := hj0
    · simp only [Nat.mul_one, Nat.add_zero, q1, Option.getD_some]
    · simp only [q1, Option.getD_some]
      exact RC.plainAt (.inl q2) (hsc _ _ k1) (g' := relabel (FshL b) g) (fun _ _ => rfl) (Nat.le_refl _) _ _ _
  have L1 : Le pu w g w (relabel (FshL b) g) := le_relabel (FshL_side b) pu (fun id π => FshL_keep (by simp) π) fun t' ht' => FshL_keep (fun e => by cases e; rw [c3] at ht'; cases ht') []
  have K' := K (if n = l then 0 else l) (by
    by_cases e : n = l
    · left; omega
    · right; rw [if_neg e])
  have R2 := R1.push (tv := .one (.own 0) (.sl 1 (((cs.take u).drop l).map fun c : MC => [c.2]))) (.inl K')
  simp only [List.nil_append] at R2
  obtain ⟨g3, q1, q2⟩ := R2.finish (dst := o.dst) pu hd
  refine ⟨_, w, g3, ?_, q1, L1.trans q2⟩
  unfold execOp; rw [ho]
  have hb := bounds_ok (isS := false) (cap := n) R e1 e2 e3 (Nat.le_refl _) w
  simp only [Instr.sliceAt, Sem.run_bind, run_underlying' ht, Result.andThen_ok, hv, ptr, Instr.sureAddr, Sem.run_pure, Option.map_none, hb, run_sizeOf' hz, hlen]
  by_cases e : n = l
  · simp [e]
  · simp [e, add_mk]
end
end Go.Proofs.Abs
/- Writes into variables. -/
namespace Go.Proofs.Abs
open Go
set_option linter.unusedVariables false
set_option linter.unusedSimpArgs false

section
variable {X : Cx} {pu : Pu} {s s' : St} {a : Act} {w : World} {g : Gh}

/-- a cell that does not hang on what falls -/
def Safe (vl vh : Bool) (c : MC) : Prop := (vl = true ∨ (isBl c.1 = false ∧ c.2.lent isBl = false)) ∧ (vh = true ∨ (isBh c.1 = false ∧ c.2.lent isBh = false))
theorem Safe.ok {U : Rk → List Nat → Prop} {vl vh g g' r π c} (h : Safe vl vh c) (hu : U r π) (hψ : ∀ t, g'.ψ t = g.ψ t) (hd : ∀ q, g'.hd q = g.hd q) : cellOk U vl vh g g' r π c := by
  refine ⟨fun _ => hu, fun e => ?_, fun e => ?_, ?_⟩
  · rcases h.1 with h | h
    · exact h
    · have := h.1; rw [e] at this; cases this
  · rcases h.2 with h | h
    · exact h
    · have := h.1; rw [e] at this; cases this
  · cases h4 : c.2 with
    | loc t off => exact hψ t
    | el q i off => exact hd q
    | at_ q lo n => exact hd q
    | rd mo mi cs off =>
      refine ⟨fun e => ?_, fun e => ?_⟩
      · rcases h.1 with h | h
        · exact h
        · have := h.2; rw [h4] at this; simp only [AV.lent, Bool.or_eq_false_iff, isBl, decide_eq_false_iff_not] at this
          rcases e with e | e
          · exact absurd e this.1
          · exact absurd e this.2
      · rcases h.2 with h | h
        · exact h
        · have := h.2; rw [h4] at this; simp only [AV.lent, Bool.or_eq_false_iff, isBh, decide_eq_false_iff_not] at this
          rcases e with e | e
          · exact absurd e this.1
          · exact absurd e this.2
    | it b pos =>
      refine ⟨h.1.elim id fun h => ?_, h.2.elim id fun h => ?_⟩
      · have := h.2; rw [h4] at this; cases this
      · have := h.2; rw [h4] at this; cases this
    | _ => trivial
theorem safe_all (c : MC) : Safe true true c := ⟨.inl rfl, .inl rfl⟩
theorem safe_t {vl vh} (hl : vl = true ∨ NoMd isBl s) (hh : vh = true ∨ NoMd isBh s) {t tv} (ht : find t s.t = some tv) {c} (hc : c ∈ tv.all) : Safe vl vh c :=
  ⟨hl.imp id fun h => h.1 t tv ht c hc, hh.imp id fun h => h.1 t tv ht c hc⟩
theorem safe_l {vl vh} (hl : vl = true ∨ NoMd isBl s) (hh : vh = true ∨ NoMd isBh s) {t cs} (ht : find t s.l = some cs) {c} (hc : c ∈ cs) : Safe vl vh c :=
  ⟨hl.imp id fun h => h.2 t cs ht c hc, hh.imp id fun h => h.2 t cs ht c hc⟩

theorem setAt_map {α β : Type} (f : α → β) (cs new : List α) (off : Nat) : (setAt cs off new).map f = setAt (cs.map f) off (new.map f) := by simp [setAt]
theorem replicate_get {α : Type} {n : Nat} {x y : α} {i : Nat} (h : (List.replicate n x)[i]? = some y) : y = x := by
  rw [List.getElem?_replicate] at h
  split at h
  · exact (Option.some.inj h).symm
  · cases h
def junks (n : Nat) : List MC := List.replicate n (.top, .junk)
theorem junks_length (n : Nat) : (junks n).length = n := by simp [junks]

theorem Rel.junkLoc {fl t off n cs} (R : Rel s fl a w g) (hs : find t s.l = some cs) (hp : off + n ≤ cs.length) : Rel { s with l := put t (setAt cs off (junks n)) s.l } fl a w g := by
  have hB := R.bx t cs hs
  have hp' : off + (junks n).length ≤ cs.length := by rw [junks_length]; exact hp
  refine ⟨R.n, R.fl, R.tm, fun t' cs' ht => ?_, R.hp, fun r d z xs hr => ?_⟩
  · simp only [find_put] at ht
    split at ht
    · rename_i e; subst e
      cases ht
      refine ⟨hB.own, hB.blk, hB.fr, fun q c hc => ?_⟩
      rw [setAt_get _ _ _ hp'] at hc
      split at hc
      · rename_i hq
        rw [junks_length] at hq
        obtain rfl := replicate_get hc
        have hlt : q < cs.length := by omega
        obtain ⟨v, k1, k2, k3⟩ := hB.cell q cs[q] (by simp [hlt])
        exact ⟨v, k1, k2, .inl (.junk k3.oneCell)⟩
      · exact hB.cell q c hc
    · exact R.bx t' cs' ht
  · refine R.hd r d z xs ?_
    cases r with
    | obj id off => exact hr
    | tmp t' => exact hr
    | loc t' off' =>
      change cellOf off' (find t' (put t _ s.l)) = _ at hr
      change cellOf off' (find t' s.l) = _
      rw [find_put] at hr
      by_cases e : t' = t
      · subst e
        rw [if_pos rfl] at hr
        change (setAt cs off (junks n))[off']? = _ at hr
        rw [setAt_get _ _ _ hp'] at hr
        split at hr
        · have := replicate_get hr; cases this
        · rw [hs]; exact hr
      · rw [if_neg e] at hr; exact hr

/-- the cells of a value come to stand in a variable -/
def Fst (k : Rk) (off : Nat) (r : Rk) (π : List Nat) : Ow :=
  match r, π with
  | .lim 0, j :: ρ => .pth k ((off + j) :: ρ)
  | r, π => .pth r π
theorem Fst_side {t off} : keepsSide (Fst (.loc t) off) := by
  intro r π
  unfold Fst
  split
  · exact .inr ⟨_, _, rfl, rfl⟩
  · exact .inr ⟨_, _, rfl, rfl⟩
theorem Fst_keep {k off r} (h : r ≠ .lim 0) (π) : Fst k off r π = .pth r π := by
  unfold Fst
  split
  · exact absurd rfl h
  · rfl
def locIn (cond : Bool) (t off n : Nat) (q : Rt) : Bool := match q with
  | .loc t' o => cond && (t' = t && off ≤ o && o < off + n)
  | _ => false
theorem Rel.setBox {t off cs new vals} (pu : Pu) (cond : Bool) (hlc : inL t pu.lc = false) (R : Rel s [(.agg new, .agg vals)] a w g) (hs : find t s.l = some cs) (hp : off + new.length ≤ cs.length)
    (hnr : NoRoot (locIn cond t off new.length) s []) (hnf : ∀ c, c ∈ new → ∀ q, c.2.root = some q → locIn cond t off new.length q = false) (hns : cond = false → ∀ c, c ∈ new → c.2.scalar = true) :
    ∃ g', Rel { s with l := put t (setAt cs off new) s.l } [] a (w.setCells (g.ψ t) off vals.toList) g' ∧ Le pu w g (w.setCells (g.ψ t) off vals.toList) g' := by
  obtain ⟨n, hn⟩ : ∃ n, n = new.length := ⟨_, rfl⟩
  rw [← hn] at hp hnr hnf
  have hp' : off + (junks n).length ≤ cs.length := by rw [junks_length]; exact hp
  have hpn : off + new.length ≤ cs.length := by rw [← hn]; exact hp
  obtain ⟨vs, hvs, hlen, hk⟩ := R.fl 0 _ rfl
  cases hvs
  -- junk
  have RJ := (R.forget (fl := [])).junkLoc hs hp
  -- headers
  let f : Rt → Nat × Nat × Nat × Nat := fun q => match q with
    | .loc _ o => hdOf new vals (o - off)
    | _ => (0, 0, 0, 0)
  have hnr' : NoRoot (locIn cond t off n) { s with l := put t (setAt cs off (junks n)) s.l } [] := by
    refine ⟨hnr.1, fun t' cs' ht c hc q hq => ?_, fun x hx => by cases hx⟩
    change find t' (put t _ s.l) = _ at ht
    rw [find_put] at ht
    split at ht
    · cases ht
      obtain ⟨i, hi⟩ := List.mem_iff_getElem?.1 hc
      rw [setAt_get _ _ _ hp'] at hi
      split at hi
      · rw [replicate_get hi] at hq; cases hq
      · exact hnr.2.1 t cs hs c (List.mem_of_getElem? hi) q hq
    · exact hnr.2.1 t' cs' ht c hc q hq
  have RH := RJ.rehd (f := f) hnr' fun q0 hq d' z xs hr => by
    cases q0 with
    | loc t' o =>
      simp only [locIn, Bool.and_eq_true, decide_eq_true_eq] at hq
      obtain ⟨_, ⟨rfl, h1⟩, h2⟩ := hq
      change cellOf o (find t' (put t' _ s.l)) = _ at hr
      rw [find_put_same] at hr
      change (setAt cs off (junks n))[o]? = _ at hr
      rw [setAt_get _ _ _ hp', if_pos (by rw [junks_length]; exact ⟨h1, h2⟩)] at hr
      have := replicate_get hr; cases this
    | _ => cases hq
  -- labels
  have hF := Fst_side (t := t) (off := off)
  obtain ⟨g1, hg1⟩ : ∃ g1, g1 = withHds g (locIn cond t off n) f := ⟨_, rfl⟩
  rw [← hg1] at RH
  have RL : Rel { s with l := put t (setAt cs off (junks n)) s.l } [] a w (relabel (Fst (.loc t) off) g1) :=
    ⟨RH.n, fun i y hi => by simp at hi, fun t' tv ht => (RH.tm t' tv ht).kept hF fun π => Fst_keep (by simp) π, fun t' cs' ht => (RH.bx t' cs' ht).kept hF fun π => Fst_keep (by simp) π,
      fun id cs' hi => (RH.hp id cs' hi).kept hF (by rw [RH.n]; exact (List.getElem?_eq_some_iff.1 hi).1) fun π => Fst_keep (by simp) π, RH.hd⟩
  have cells : ∀ (j : Nat) c, new[j]? = some c → ∃ u, vals[j]? = some u ∧ RC w (relabel (Fst (.loc t) off) g1) c.1 (.loc t) [off + j] c.2 u := fun j c hc => by
    obtain ⟨u, h1, h2⟩ := hk j c hc
    have h3 := h2.withHds (D := locIn cond t off n) (f := f) (hnf c (List.mem_of_getElem? hc))
    rw [← hg1] at h3
    exact ⟨u, h1, h3.moved hF fun _ ρ => rfl⟩
  obtain ⟨g2, hg2⟩ : ∃ g2, g2 = relabel (Fst (.loc t) off) g1 := ⟨_, rfl⟩
  rw [← hg2] at RL cells
  have hψ2 : g2.ψ t = g.ψ t := by rw [hg2, hg1]; rfl
  -- the write
  have hB := RL.bx t _ (find_put_same t _ s.l)
  have hsm : ∀ j, j < vals.toList.length → (cel w (g2.ψ t) (off + j)).isSome = true := fun j hj => by
    have hlt : off + j < (setAt cs off (junks n)).length := by rw [setAt_length _ _ _ hp']; simp [hlen] at hj; omega
    obtain ⟨v, k1, _⟩ := hB.cell (off + j) (setAt cs off (junks n))[off + j] (by simp [hlt])
    rw [k1]; rfl
  have C := chg_setCells (w := w) (g := g2) (b := g2.ψ t) (o := off) (e := 0) (vs := vals.toList) (vl := true) (vh := true) hB.own hsm (fun _ => .inr ⟨by rw [hB.fr]; omega, by rw [hB.fr]; exact Nat.le_refl _⟩) (fun _ => .inl rfl)
  have hU : ∀ (r : Rk) (π : List Nat), r ≠ .loc t → (r ≠ Rk.loc t ∨ ¬(π <+: ([] : List Nat))) := fun r π h => Or.inl h
  have hUt : ∀ (q : Nat) (ρ : List Nat), (Rk.loc t ≠ Rk.loc t ∨ ¬((q :: ρ) <+: ([] : List Nat))) := fun q ρ => .inr fun hp => by have := hp.length_le; simp at this
  have hcell : ∀ q, off ≤ q ∧ q < off + n → ∀ c, new[q - off]? = some c → ∃ u, vals[q - off]? = some u ∧ cel (w.setCells (g2.ψ t) off vals.toList) (g2.ψ t) q = some u := fun q hq c hc => by
    obtain ⟨u, h1, _⟩ := cells _ c hc
    refine ⟨u, h1, ?_⟩
    have hj : q - off < vals.toList.length := by simp [hlen]; omega
    have := cel_setCells_in (w := w) hsm hj
    rw [show off + (q - off) = q from by omega] at this
    rw [this]
    have hs2 : q - off < vals.size := by simpa using hj
    rw [Array.getElem?_eq_getElem hs2] at h1
    simpa using h1
  refine ⟨setFr g2 (g2.ψ t) 0, ?_, ?_⟩
  · rw [← hψ2]
    refine ⟨RL.n, fun i y hi => by simp at hi, fun t' tv ht => (RL.tm t' tv ht).chg C fun c hc π => (safe_all c).ok (hU _ _ (by simp)) (fun _ => rfl) (fun _ => rfl), fun t' cs' ht => ?_,
      fun id cs' hi => (RL.hp id cs' hi).chg C (by rw [RL.n]; exact (List.getElem?_eq_some_iff.1 hi).1) (fun _ => hU _ _ (by simp)), fun r d z xs hr b o sp len cap hv => ?_⟩
    · change find t' (put t _ s.l) = _ at ht
      rw [find_put] at ht
      by_cases e : t' = t
      · subst e
        rw [if_pos rfl] at ht
        cases ht
        refine ⟨hB.own, by rw [size_setCells]; exact hB.blk, by simp [setFr], fun q c hc => ?_⟩
        rw [setAt_get _ _ _ hpn] at hc
        have hfree : ∀ q c0, (setAt cs off (junks n))[q]? = some c0 → (w.setCells (g2.ψ t') off vals.toList).frozen? ⟨g2.ψ t', q, none⟩ = false := fun q c0 h0 => by
          obtain ⟨v, k1, k2, _⟩ := hB.cell q c0 h0
          exact (free_setCells hsm ⟨by rw [k1]; rfl, k2⟩).2
        split at hc
        · rename_i hq
          rw [← hn] at hq
          obtain ⟨u, h1, h2⟩ := hcell q hq c hc
          obtain ⟨u', h1', h3⟩ := cells _ c hc
          rw [h1] at h1'; cases h1'
          have hlt : q < (setAt cs off (junks n)).length := by rw [setAt_length _ _ _ hp']; omega
          refine ⟨u, h2, hfree q _ (by simp [hlt] : _ = some (setAt cs off (junks n))[q]), ?_⟩
          have := h3.chg C ((safe_all c).ok (hUt _ _) (fun _ => rfl) (fun _ => rfl))
          rw [show off + (q - off) = q from by omega] at this
          exact this
        · rename_i hq
          rw [← hn] at hq
          have h0 : (setAt cs off (junks n))[q]? = some c := by rw [setAt_get _ _ _ hp', if_neg (by rw [junks_length]; exact hq)]; exact hc
          obtain ⟨v, k1, k2, k3⟩ := hB.cell q c h0
          refine ⟨v, ?_, hfree q _ h0, k3.chg C ((safe_all c).ok (hUt _ _) (fun _ => rfl) (fun _ => rfl))⟩
          show cel _ (g2.ψ t') q = _
          rw [cel_setCells_out (.inr (by simp [hlen]; omega))]; exact k1
      · rw [if_neg e] at ht
        have ht' : find t' (put t (setAt cs off (junks n)) s.l) = some cs' := by rw [find_put, if_neg e]; exact ht
        exact (RL.bx t' cs' ht').chg C rfl (hU _ _ (by simp [e])) fun c hc π => (safe_all c).ok (hU _ _ (by simp [e])) (fun _ => rfl) (fun _ => rfl)
    · show g2.hd r = _
      cases r with
      | tmp t' => exact RL.hd (.tmp t') d z xs hr b o sp len cap hv
      | obj id o' =>
        refine RL.hd (.obj id o') d z xs hr b o sp len cap ?_
        change cellOf o' (s.h[id]?) = _ at hr
        cases hs' : s.h[id]? with
        | none => rw [hs'] at hr; cases hr
        | some cs' =>
          rw [hs'] at hr
          have hB' := RL.hp id cs' hs'
          obtain ⟨v, h1, h2, h3⟩ := hB'.cell o' _ hr
          obtain ⟨_, _, k3, _⟩ := C.un _ _ _ hB'.blk hB'.own (hU _ _ (by simp))
          change cel _ (g2.φ id) o' = _ at hv
          rw [k3 o' (by rw [h1]; rfl)] at hv
          exact hv
      | loc t' o' =>
        change cellOf o' (find t' (put t (setAt cs off new) s.l)) = _ at hr
        rw [find_put] at hr
        by_cases e : t' = t
        · subst e
          rw [if_pos rfl] at hr
          change (setAt cs off new)[o']? = _ at hr
          rw [setAt_get _ _ _ hpn] at hr
          change cel _ (g2.ψ t') o' = _ at hv
          split at hr
          · rename_i hq
            rw [← hn] at hq
            obtain ⟨u, h1, h2⟩ := hcell o' hq _ hr
            rw [h2] at hv
            cases hv
            have hc : cond = true := by
              cases hcond : cond with
              | true => rfl
              | false => have := hns hcond _ (List.mem_of_getElem? hr); cases this
            rw [hg2, hg1]
            show (if locIn cond t' off n (.loc t' o') = true then f (.loc t' o') else _) = _
            rw [if_pos (by simp [locIn, hc, hq])]
            exact hdOf_eq hr h1
          · rename_i hq
            rw [← hn] at hq
            refine RL.hd (.loc t' o') d z xs ?_ b o sp len cap ?_
            · show cellOf o' (find t' (put t' (setAt cs off (junks n)) s.l)) = _
              rw [find_put_same]
              show (setAt cs off (junks n))[o']? = _
              rw [setAt_get _ _ _ hp', if_neg (by rw [junks_length]; exact hq)]; exact hr
            · show cel w (g2.ψ t') o' = _
              rw [← hv, cel_setCells_out (.inr (by simp [hlen]; omega))]
        · rw [if_neg e] at hr
          have hr' : atRoot { s with l := put t (setAt cs off (junks n)) s.l } (.loc t' o') = some (.own (d + 1), .sl z xs) := by
            show cellOf o' (find t' (put t _ s.l)) = _
            rw [find_put, if_neg e]; exact hr
          refine RL.hd (.loc t' o') d z xs hr' b o sp len cap ?_
          cases hs' : find t' s.l with
          | none => rw [hs'] at hr; cases hr
          | some cs' =>
            rw [hs'] at hr
            have hB' := RL.bx t' cs' (by show find t' (put t _ s.l) = _; rw [find_put, if_neg e]; exact hs')
            obtain ⟨v, h1, h2, h3⟩ := hB'.cell o' _ hr
            obtain ⟨_, _, k3, _⟩ := C.un _ _ _ hB'.blk hB'.own (hU _ _ (by simp [e]))
            change cel _ (g2.ψ t') o' = _ at hv
            rw [k3 o' (by rw [h1]; rfl)] at hv
            exact hv
  · rw [← hψ2]
    refine Le.trans ?_ (le_setCells pu hB.own (fun _ => rfl) fun t' h e => by cases e; rw [hlc] at h; cases h)
    rw [hg2, hg1]
    exact (le_withHds pu).trans (le_relabel hF pu (fun id π => Fst_keep (by simp) π) fun _ t => rfl)
end
end Go.Proofs.Abs
/- Stores into variables. -/
namespace Go.Proofs.Abs
open Go
set_option linter.unusedVariables false
set_option linter.unusedSimpArgs false

section
variable {X : Cx} {pu : Pu} {s s' : St} {a : Act} {w : World} {g : Gh}

/-- a step that tells no value -/
def Sets (X : Cx) (pu : Pu) (o : Oper) (a : Act) (w : World) (g : Gh) (s' : St) : Prop :=
  ∃ w' g', (execOp a.eval o).run X.P w = .ok .skip w' ∧ Rel s' [] a w' g' ∧ Le pu w g w' g'
theorem lent_no (a : AV) : a.lent noMd = false := by cases a <;> rfl
theorem killC_no (c : MC) : killC noMd noAV c = c := by
  unfold killC
  rw [lent_no]
  rfl
theorem kill1_no (tv : TV) : kill1 noMd noAV tv = tv := by
  cases tv with
  | one m a => show TV.one _ _ = _; rw [killC_no]
  | agg cs => show TV.agg _ = _; congr 1; rw [List.map_congr_left (g := id) fun c _ => killC_no c, List.map_id]
  | tup vs => rfl
theorem killT_no (tv : TV) : killT noMd noAV tv = tv := by
  cases tv with
  | one m a => exact kill1_no (.one m a)
  | agg cs => exact kill1_no (.agg cs)
  | tup vs => show TV.tup _ = _; congr 1; rw [List.map_congr_left (g := id) fun c _ => kill1_no c, List.map_id]
theorem map_killC_no (cs : List MC) : cs.map (killC noMd noAV) = cs := by rw [List.map_congr_left (g := id) fun c _ => killC_no c, List.map_id]

theorem run_storeAt {P : Program} {ty : TypeId} {b off n : Nat} {v : Value} (hn : szOf P ty = some n) (hv : v.cells.size = n) (hf : ∀ j, j < n → free w b (off + j)) (h1 : ∀ u, u ∈ v.cells.toList → u.oneCell' = true) :
    (Instr.storeAt ty (ptr b off) v).run P w = .ok () (w.setCells b off v.cells.toList) := by
  have := run_storeCells (P := P) (b := b) v.cells.toList off 0 w (fun j hj => by rw [Nat.zero_add]; exact hf j (by simpa [hv] using hj)) h1
  rw [Nat.add_zero] at this
  unfold Instr.storeAt ptr Instr.sureAddr storeVar
  simp [run_sizeOf' hn, hv, this]
theorem cells_one_of {tv : TV} {v : Value} {r} (h : RT w g r tv v) (hn : noTup tv = true) : ∀ u, u ∈ v.cells.toList → u.oneCell' = true := by
  obtain ⟨h1, h2⟩ := RT.cellsOf h hn
  intro u hu
  obtain ⟨j, hj⟩ := List.mem_iff_getElem?.1 hu
  have hlt : j < tv.cells.length := by rw [← h1]; simpa using (List.getElem?_eq_some_iff.1 hj).1
  obtain ⟨u', k1, k2⟩ := h2 j tv.cells[j] (by simp [hlt])
  rw [← Array.getElem?_toList] at k1
  rw [hj] at k1; cases k1
  exact k2.oneCell
theorem anySlice_no {cs : List MC} (h : anySlice cs = false) : ∀ c, c ∈ cs → c.2.scalar = true := fun c hc => by
  simp only [anySlice, List.any_eq_false] at h
  have := h c hc
  simpa using this

theorem acts_stLoc {t : Nat} (hlc : inL t pu.lc = false) {o : Oper} {ty ad x} (ho : o.op = .store ty ad x) (R : Rel s [] a w g) {m off v n cs old} (ha : opnd X.P s 0 ad = some (.one m (.loc t off))) {zb : Bool} (hx : opndZ zb X.P s ty x = some v)
    (hn : szOf X.P ty = some n) (hv : v.cells.length = n) (hnt : noTup v = true) (hs : find t (used s x).l = some cs) (hp : cellsAt cs off n = some old)
    (h : stLoc t off v.cells (used s x) cs (some old) = some s') : Sets X pu o a w g s' := by
  obtain ⟨r, _, hr⟩ := R.val ha
  obtain ⟨g1, R1, L1, S1⟩ := R.opndSZ pu hx
  simp only [List.nil_append] at R1
  have hrt : RT w g1 (.lim 0) v (a.eval x) := R1.fl 0 _ rfl
  have hcs := RT.cellsOf hrt hnt
  have R2 := R1.asCells hnt
  obtain ⟨cond, hcond⟩ : ∃ cond, cond = (anySlice v.cells || anySlice old) := ⟨_, rfl⟩
  obtain ⟨q, hq⟩ : ∃ q, q = if cond then rootedLocIn t off n else noAV := ⟨_, rfl⟩
  have Rk : Rel ((used s x).kill noMd q) [(.agg (v.cells.map (killC noMd q)), .agg (a.eval x).cells)] a w g1 := by
    have := R2.kill noMd q
    refine ⟨this.n, fun i y hi => ?_, this.tm, this.bx, this.hp, this.hd⟩
    cases i with
    | succ i => simp at hi
    | zero => simp at hi; subst hi; exact (this.fl 0 _ rfl).kill noMd q
  have hlen : (v.cells.map (killC noMd q)).length = n := by simp [hv]
  obtain ⟨q1, q2, q3⟩ := cellsAt_inv hp
  have hroot : ∀ a0 q0, AV.root a0 = some q0 → locIn cond t off n q0 = true → q a0 = true := fun a0 q0 h1 h2 => by
    rw [hq]
    cases q0 with
    | loc t' o' =>
      simp only [locIn, Bool.and_eq_true] at h2
      rw [if_pos h2.1]
      simp only [rootedLocIn, h1]
      simpa using h2.2
    | _ => cases h2
  have hsk : find t ((used s x).kill noMd q).l = some (cs.map (killC noMd q)) := by rw [find_kill_l, hs]; rfl
  obtain ⟨g2, R3, L3⟩ := Rk.setBox (off := off) pu cond hlc hsk (by rw [hlen, List.length_map]; exact q1) (by rw [hlen]; exact noRoot_kill hroot) (fun c hc => by
    rw [hlen]
    obtain ⟨c0, _, rfl⟩ := List.mem_map.1 hc
    exact killC_root hroot) (fun hc c hm => by
      rw [hcond] at hc
      simp only [Bool.or_eq_false_iff] at hc
      rw [hq, if_neg (by rw [hcond]; simp [hc]), map_killC_no] at hm
      exact anySlice_no hc.1 c hm)
  have hval : a.eval ad = ptr (g1.ψ t) off := by rw [S1.2.2.1]; exact hr.one.loc
  have hB := R1.bx t cs hs
  have hfree : ∀ j, j < n → free w (g1.ψ t) (off + j) := fun j hj => by
    have hlt : off + j < cs.length := by omega
    obtain ⟨u, k1, k2, _⟩ := hB.cell (off + j) cs[off + j] (by simp [hlt])
    exact ⟨by rw [k1]; rfl, k2⟩
  refine ⟨_, g2, ?_, ?_, L1.trans L3⟩
  · unfold execOp; rw [ho]
    have := run_storeAt (P := X.P) (w := w) (ty := ty) (b := g1.ψ t) (off := off) (v := a.eval x) hn (by rw [hcs.1, hv]) hfree (cells_one_of hrt hnt)
    simp only [Sem.run_bind, hval, this, Result.andThen_ok]
    rfl
  · simp only [stLoc, Option.some.injEq] at h
    subst h
    rw [← hcond, hv]
    have hfl : ∀ t' cs', find t' (put t (setAt cs off v.cells) (used s x).l) = some cs' → find t' (put t (setAt (cs.map (killC noMd q)) off (v.cells.map (killC noMd q))) ((used s x).kill noMd q).l) = some (cs'.map (killC noMd q)) := fun t' cs' hf => by
      rw [find_put] at hf ⊢
      split
      · rename_i e; rw [if_pos e] at hf; cases hf; rw [setAt_map]
      · rename_i e; rw [if_neg e] at hf; rw [find_kill_l, hf]; rfl
    cases hc : cond with
    | true =>
      simp only [if_true]
      have hq' : q = rootedLocIn t off n := by rw [hq, hc]; rfl
      rw [hq'] at R3 hfl
      refine R3.ext (fun _ _ h => h) (fun t' cs' hf => ?_) rfl
      rw [find_kill_l, Option.map_eq_some_iff] at hf
      obtain ⟨cs0, h0, rfl⟩ := hf
      exact hfl t' cs0 h0
    | false =>
      simp only [Bool.false_eq_true, if_false]
      have hq' : q = noAV := by rw [hq, hc]; rfl
      rw [hq'] at R3 hfl
      refine R3.ext (fun t' tv hf => ?_) (fun t' cs' hf => ?_) rfl
      · show find t' ((used s x).kill noMd noAV).t = some tv
        rw [find_kill_t]
        change find t' (used s x).t = some tv at hf
        rw [hf]; simp [killT_no]
      · have := hfl t' cs' hf
        rw [map_killC_no cs'] at this
        exact this
end
end Go.Proofs.Abs
/- Writes into objects. -/
namespace Go.Proofs.Abs
open Go
set_option linter.unusedVariables false
set_option linter.unusedSimpArgs false

section
variable {X : Cx} {pu : Pu} {s s' : St} {a : Act} {w : World} {g : Gh} {lc : List Nat}

theorem Rel.junkObj {fl id off n cs} (R : Rel s fl a w g) (hs : s.h[id]? = some cs) (hp : off + n ≤ cs.length) : Rel { s with h := s.h.set id (setAt cs off (junks n)) } fl a w g := by
  have hB := R.hp id cs hs
  have hp' : off + (junks n).length ≤ cs.length := by rw [junks_length]; exact hp
  refine ⟨by show g.n = (s.h.set id _).length; simpa using R.n, R.fl, R.tm, R.bx, fun id' cs' ht => ?_, fun r d z xs hr => ?_⟩
  · change (s.h.set id _)[id']? = some cs' at ht
    rw [List.getElem?_set] at ht
    split at ht
    · rename_i e; subst e
      split at ht
      · cases ht
        have get : ∀ {q c}, (setAt cs off (junks n))[q]? = some c → (c = (.top, .junk) ∧ q < cs.length) ∨ cs[q]? = some c := fun {q c} hc => by
          rw [setAt_get _ _ _ hp'] at hc
          split at hc
          · rename_i hq
            rw [junks_length] at hq
            exact .inl ⟨replicate_get hc, by omega⟩
          · exact .inr hc
        refine ⟨hB.own, hB.blk, hB.fr, fun c hc => ?_, fun q c hc => ?_⟩
        · obtain ⟨i, hi⟩ := List.mem_iff_getElem?.1 hc
          rcases get hi with ⟨rfl, _⟩ | h
          · exact .inl rfl
          · exact hB.md c (List.mem_of_getElem? h)
        · rcases get hc with ⟨rfl, hlt⟩ | h
          · obtain ⟨v, k1, k2, k3⟩ := hB.cell q cs[q] (by simp [hlt])
            exact ⟨v, k1, k2, .junk k3.oneCell⟩
          · exact hB.cell q c h
      · cases ht
    · exact R.hp id' cs' ht
  · refine R.hd r d z xs ?_
    cases r with
    | loc t off => exact hr
    | tmp t' => exact hr
    | obj id' off' =>
      change cellOf off' ((s.h.set id _)[id']?) = _ at hr
      change cellOf off' (s.h[id']?) = _
      rw [List.getElem?_set] at hr
      by_cases e : id = id'
      · subst e
        rw [if_pos rfl] at hr
        split at hr
        · change (setAt cs off (junks n))[off']? = _ at hr
          rw [setAt_get _ _ _ hp'] at hr
          split at hr
          · have := replicate_get hr; cases this
          · rw [hs]; exact hr
        · cases hr
      · rw [if_neg e] at hr; exact hr

/-- where the cells of a value go that is laid into an object: nowhere, if nothing is owned -/
def Fso (vl : Bool) (k : Rk) (off : Nat) (r : Rk) (π : List Nat) : Ow := if vl then .pth r π else Fst k off r π
theorem Fso_keep {vl k off r} (h : r ≠ .lim 0) (π) : Fso vl k off r π = .pth r π := by
  unfold Fso
  split
  · rfl
  · exact Fst_keep h π
theorem Fso_L {vl k off} : vl = true → keepsL (Fso vl k off) := fun h r π hr => by
  rw [h]; exact .inr ⟨_, _, rfl, hr⟩
theorem Fso_H {vl k off} : keepsH (Fso vl k off) := fun r π hr => .inr ⟨_, _, Fso_keep (by rintro rfl; cases hr) π, hr⟩
/-- a kept value goes to another root -/
theorem KC.goes {vl k off j} {c v} (C1 : Chg (fun r π => ∀ ρ, Fso vl k off r (π ++ ρ) = .pth r (π ++ ρ)) vl true w g w (relabel (Fso vl k off) g)) {m} (h0 : KC w g m (.lim 0) [j] c v) (hm : m = .top ∨ ∃ d, m = .own d)
    (hvl : m.owned = true → vl = false) : KC w (relabel (Fso vl k off) g) m k [off + j] c v := by
  by_cases ho : m.owned = true
  · have hvf := hvl ho
    refine KC.map (g := g) (g' := relabel (Fso vl k off) g) (r := .lim 0) (r' := k) (fun m π m' π' => m' = m ∧ (∃ ρ, π = j :: ρ ∧ π' = (off + j) :: ρ) ∧ (m = .top ∨ ∃ d, m = .own d)) (Nat.le_refl _) (fun _ hi => ⟨hi, rfl⟩) ?_ h0 ⟨rfl, ⟨[], rfl, rfl⟩, hm⟩
    rintro m π m' π' ⟨rfl, ⟨ρ, rfl, rfl⟩, hm'⟩
    refine ⟨fun h => h, fun h => h, fun b e hb ho => ⟨?_, fun _ _ _ => rfl⟩, fun _ _ _ _ _ _ h => h, fun i j => ⟨rfl, ⟨ρ ++ [i, j], by simp, by simp⟩, ?_⟩⟩
    · rcases hm' with rfl | ⟨d, rfl⟩
      · exact ho.elim
      · cases d with
        | zero => exact (C1.st b hb (.inl ho)).1.trans ho
        | succ d => exact ⟨by rw [relabel_own ho.1, hvf]; rfl, ho.2⟩
    · rcases hm' with rfl | ⟨d, rfl⟩
      · exact .inl rfl
      · cases d with
        | zero => exact .inr ⟨0, rfl⟩
        | succ d => exact .inr ⟨d, rfl⟩
  · have h2 := h0.anywhere (by simpa using ho) k [off + j]
    refine h2.chg C1 (fun h => absurd h ho) (fun e => ?_) (fun e => ?_)
    · rcases hm with h | ⟨d, h⟩ <;> rw [h] at e <;> cases e
    · rcases hm with h | ⟨d, h⟩ <;> rw [h] at e <;> cases e
theorem le_Fso {vl id off lc} : Le ⟨false, lc⟩ w g w (relabel (Fso vl (.obj id) off) g) := by
  refine ⟨Nat.le_refl _, fun b _ h => ⟨rfl, ?_, rfl⟩, fun _ h1 h2 => absurd h2 (by omega), fun b _ h => ?_, Nat.le_refl _, fun _ _ => rfl, rfl, rfl, rfl⟩
  · rcases h with h | h | ⟨h, _⟩ | ⟨t, _, h⟩
    · simp [relabel, h]
    · simp [relabel, h]
    · cases h
    · rw [relabel_own h, h]; cases vl <;> rfl
  · cases hb : g.own b with
    | ext => rfl
    | shared => simp [relabel, hb] at h
    | itr => simp [relabel, hb] at h
    | pth r π =>
      rw [relabel_own hb] at h
      simp only [Fso, Fst] at h
      split at h
      · cases h
      · split at h <;> cases h

def objIn (cond : Bool) (id off n : Nat) (q : Rt) : Bool := match q with
  | .obj id' o => cond && (id' = id && off ≤ o && o < off + n)
  | _ => false
theorem Rel.setObj {id off cs new vals} (cond : Bool) (R : Rel s [(.agg new, .agg vals)] a w g) (hs : s.h[id]? = some cs) (hp : off + new.length ≤ cs.length)
    (hkeep : ∀ c, c ∈ new → keepC c = true) (hno : anyOwned new = true → NoMd isBl s) (hnr : NoRoot (objIn cond id off new.length) s []) (hns : cond = false → ∀ c, c ∈ new → c.2.scalar = true) :
    ∃ g', Rel { s with h := s.h.set id (setAt cs off new) } [] a (w.setCells (g.φ id) off vals.toList) g' ∧ Le ⟨false, lc⟩ w g (w.setCells (g.φ id) off vals.toList) g' := by
  obtain ⟨n, hn⟩ : ∃ n, n = new.length := ⟨_, rfl⟩
  rw [← hn] at hp hnr
  have hp' : off + (junks n).length ≤ cs.length := by rw [junks_length]; exact hp
  have hpn : off + new.length ≤ cs.length := by rw [← hn]; exact hp
  obtain ⟨vs, hvs, hlen, hk⟩ := R.fl 0 _ rfl
  cases hvs
  have hidl : id < s.h.length := (List.getElem?_eq_some_iff.1 hs).1
  have hid : id < g.n := by rw [R.n]; exact hidl
  -- junk
  have RJ := (R.forget (fl := [])).junkObj hs hp
  -- headers
  let f : Rt → Nat × Nat × Nat × Nat := fun q => match q with
    | .obj _ o => hdOf new vals (o - off)
    | _ => (0, 0, 0, 0)
  have hnr' : NoRoot (objIn cond id off n) { s with h := s.h.set id (setAt cs off (junks n)) } [] := ⟨hnr.1, hnr.2.1, fun x hx => by cases hx⟩
  have RH := RJ.rehd (f := f) hnr' fun q0 hq d' z xs hr => by
    cases q0 with
    | obj id' o =>
      simp only [objIn, Bool.and_eq_true, decide_eq_true_eq] at hq
      obtain ⟨_, ⟨rfl, h1⟩, h2⟩ := hq
      change cellOf o ((s.h.set id' _)[id']?) = _ at hr
      rw [List.getElem?_set_self hidl] at hr
      change (setAt cs off (junks n))[o]? = _ at hr
      rw [setAt_get _ _ _ hp', if_pos (by rw [junks_length]; exact ⟨h1, h2⟩)] at hr
      have := replicate_get hr; cases this
    | _ => cases hq
  -- labels
  obtain ⟨vl, hvl⟩ : ∃ vl, vl = !anyOwned new := ⟨_, rfl⟩
  obtain ⟨g1, hg1⟩ : ∃ g1, g1 = withHds g (objIn cond id off n) f := ⟨_, rfl⟩
  rw [← hg1] at RH
  have C1 : Chg (fun r π => ∀ ρ, Fso vl (.obj id) off r (π ++ ρ) = .pth r (π ++ ρ)) vl true w g1 w (relabel (Fso vl (.obj id) off) g1) := chg_relabelW Fso_L (fun _ => Fso_H)
  have hl : vl = true ∨ NoMd isBl s := by
    cases h : anyOwned new with
    | false => left; rw [hvl, h]; rfl
    | true => exact .inr (hno h)
  have RL : Rel { s with h := s.h.set id (setAt cs off (junks n)) } [] a w (relabel (Fso vl (.obj id) off) g1) :=
    ⟨RH.n, fun i y hi => by simp at hi, fun t' tv ht => (RH.tm t' tv ht).chg C1 fun c hc π => (safe_t hl (.inl rfl) ht hc).ok (fun ρ => Fso_keep (by simp) _) (fun _ => rfl) (fun _ => rfl),
      fun t' cs' ht => (RH.bx t' cs' ht).chg C1 rfl (fun ρ => Fso_keep (by simp) _) fun c hc π => (safe_l hl (.inl rfl) ht hc).ok (fun ρ => Fso_keep (by simp) _) (fun _ => rfl) (fun _ => rfl),
      fun id cs' hi => (RH.hp id cs' hi).chg C1 (by rw [RH.n]; exact (List.getElem?_eq_some_iff.1 hi).1) fun π ρ => Fso_keep (by simp) _, RH.hd⟩
  have cells : ∀ (j : Nat) c, new[j]? = some c → ∃ u, vals[j]? = some u ∧ KC w (relabel (Fso vl (.obj id) off) g1) c.1 (.obj id) [off + j] c.2 u := fun j c hc => by
    obtain ⟨u, h1, h2⟩ := hk j c hc
    have hm := hkeep c (List.mem_of_getElem? hc)
    have h3 := (keepC_kc hm h2).withHds (objIn cond id off n) f
    rw [← hg1] at h3
    exact ⟨u, h1, KC.goes C1 h3 (keepC_md hm) fun ho => by
      have : anyOwned new = true := List.any_eq_true.2 ⟨c, List.mem_of_getElem? hc, ho⟩
      rw [hvl, this]; rfl⟩
  obtain ⟨g2, hg2⟩ : ∃ g2, g2 = relabel (Fso vl (.obj id) off) g1 := ⟨_, rfl⟩
  rw [← hg2] at RL cells
  have hφ2 : g2.φ id = g.φ id := by rw [hg2, hg1]; rfl
  -- the write
  have hB := RL.hp id (setAt cs off (junks n)) (List.getElem?_set_self hidl)
  have hsm : ∀ j, j < vals.toList.length → (cel w (g2.φ id) (off + j)).isSome = true := fun j hj => by
    have hlt : off + j < (setAt cs off (junks n)).length := by rw [setAt_length _ _ _ hp']; simp [hlen] at hj; omega
    obtain ⟨v, k1, _⟩ := hB.cell (off + j) (setAt cs off (junks n))[off + j] (by simp [hlt])
    rw [k1]; rfl
  have C := chg_setCells (w := w) (g := g2) (b := g2.φ id) (o := off) (e := 0) (vs := vals.toList) (vl := true) (vh := true) hB.own hsm (fun _ => .inl rfl) (fun _ => .inr ⟨by rw [hB.fr]; omega, by rw [hB.fr]; exact Nat.le_refl _⟩)
  have hU : ∀ (r : Rk) (π : List Nat), r ≠ .obj id → (r ≠ Rk.obj id ∨ ¬(π <+: ([] : List Nat))) := fun r π h => Or.inl h
  have hUt : ∀ (q : Nat) (ρ : List Nat), (Rk.obj id ≠ Rk.obj id ∨ ¬((q :: ρ) <+: ([] : List Nat))) := fun q ρ => .inr fun hp => by have := hp.length_le; simp at this
  have hcell : ∀ q, off ≤ q ∧ q < off + n → ∀ c, new[q - off]? = some c → ∃ u, vals[q - off]? = some u ∧ cel (w.setCells (g2.φ id) off vals.toList) (g2.φ id) q = some u := fun q hq c hc => by
    obtain ⟨u, h1, _⟩ := cells _ c hc
    refine ⟨u, h1, ?_⟩
    have hj : q - off < vals.toList.length := by simp [hlen]; omega
    have := cel_setCells_in (w := w) hsm hj
    rw [show off + (q - off) = q from by omega] at this
    rw [this]
    have hs2 : q - off < vals.size := by simpa using hj
    rw [Array.getElem?_eq_getElem hs2] at h1
    simpa using h1
  refine ⟨setFr g2 (g2.φ id) 0, ?_, ?_⟩
  · rw [← hφ2]
    refine ⟨by show g2.n = (s.h.set id _).length; have := RL.n; simpa using this, fun i y hi => by simp at hi, fun t' tv ht => (RL.tm t' tv ht).chg C fun c hc π => (safe_all c).ok (hU _ _ (by simp)) (fun _ => rfl) (fun _ => rfl),
      fun t' cs' ht => (RL.bx t' cs' ht).chg C rfl (hU _ _ (by simp)) fun c hc π => (safe_all c).ok (hU _ _ (by simp)) (fun _ => rfl) (fun _ => rfl), fun id' cs' hi => ?_, fun r d z xs hr b o sp len cap hv => ?_⟩
    · change (s.h.set id _)[id']? = some cs' at hi
      by_cases e : id = id'
      · subst e
        rw [List.getElem?_set_self hidl] at hi
        cases hi
        refine ⟨hB.own, by rw [size_setCells]; exact hB.blk, by simp [setFr], fun c hc => ?_, fun q c hc => ?_⟩
        · obtain ⟨i, hi⟩ := List.mem_iff_getElem?.1 hc
          rw [setAt_get _ _ _ hpn] at hi
          split at hi
          · exact keepC_md (hkeep c (List.mem_of_getElem? hi))
          · rename_i hq
            exact hB.md c (by
              refine List.mem_of_getElem? (i := i) ?_
              rw [setAt_get _ _ _ hp', if_neg (by rw [junks_length, hn]; exact hq)]; exact hi)
        rw [setAt_get _ _ _ hpn] at hc
        have hfree : ∀ q c0, (setAt cs off (junks n))[q]? = some c0 → (w.setCells (g2.φ id) off vals.toList).frozen? ⟨g2.φ id, q, none⟩ = false := fun q c0 h0 => by
          obtain ⟨v, k1, k2, _⟩ := hB.cell q c0 h0
          exact (free_setCells hsm ⟨by rw [k1]; rfl, k2⟩).2
        split at hc
        · rename_i hq
          rw [← hn] at hq
          obtain ⟨u, h1, h2⟩ := hcell q hq c hc
          obtain ⟨u', h1', h3⟩ := cells _ c hc
          rw [h1] at h1'; cases h1'
          have hlt : q < (setAt cs off (junks n)).length := by rw [setAt_length _ _ _ hp']; omega
          refine ⟨u, h2, hfree q _ (by simp [hlt] : _ = some (setAt cs off (junks n))[q]), ?_⟩
          have := h3.chg C (fun _ => hUt _ _) (fun _ => rfl) (fun _ => rfl)
          rw [show off + (q - off) = q from by omega] at this
          exact this
        · rename_i hq
          rw [← hn] at hq
          have h0 : (setAt cs off (junks n))[q]? = some c := by rw [setAt_get _ _ _ hp', if_neg (by rw [junks_length]; exact hq)]; exact hc
          obtain ⟨v, k1, k2, k3⟩ := hB.cell q c h0
          refine ⟨v, ?_, hfree q _ h0, k3.chg C (fun _ => hUt _ _) (fun _ => rfl) (fun _ => rfl)⟩
          show cel _ (g2.φ id) q = _
          rw [cel_setCells_out (.inr (by simp [hlen]; omega))]; exact k1
      · rw [List.getElem?_set_ne e] at hi
        have hi' : (s.h.set id (setAt cs off (junks n)))[id']? = some cs' := by rw [List.getElem?_set_ne e]; exact hi
        exact (RL.hp id' cs' hi').chg C (by rw [RL.n]; exact (List.getElem?_eq_some_iff.1 hi').1) (fun _ => hU _ _ (by simp [Ne.symm e]))
    · show g2.hd r = _
      cases r with
      | tmp t' => exact RL.hd (.tmp t') d z xs hr b o sp len cap hv
      | loc t' o' =>
        refine RL.hd (.loc t' o') d z xs hr b o sp len cap ?_
        change cellOf o' (find t' s.l) = _ at hr
        cases hs' : find t' s.l with
        | none => rw [hs'] at hr; cases hr
        | some cs' =>
          rw [hs'] at hr
          have hB' := RL.bx t' cs' hs'
          obtain ⟨v, h1, h2, h3⟩ := hB'.cell o' _ hr
          obtain ⟨_, _, k3, _⟩ := C.un _ _ _ hB'.blk hB'.own (hU _ _ (by simp))
          change cel _ (g2.ψ t') o' = _ at hv
          rw [k3 o' (by rw [h1]; rfl)] at hv
          exact hv
      | obj id' o' =>
        change cellOf o' ((s.h.set id (setAt cs off new))[id']?) = _ at hr
        by_cases e : id = id'
        · subst e
          rw [List.getElem?_set_self hidl] at hr
          change (setAt cs off new)[o']? = _ at hr
          rw [setAt_get _ _ _ hpn] at hr
          change cel _ (g2.φ id) o' = _ at hv
          split at hr
          · rename_i hq
            rw [← hn] at hq
            obtain ⟨u, h1, h2⟩ := hcell o' hq _ hr
            rw [h2] at hv
            cases hv
            have hc : cond = true := by
              cases hcond : cond with
              | true => rfl
              | false => have := hns hcond _ (List.mem_of_getElem? hr); cases this
            rw [hg2, hg1]
            show (if objIn cond id off n (.obj id o') = true then f (.obj id o') else _) = _
            rw [if_pos (by simp [objIn, hc, hq])]
            exact hdOf_eq hr h1
          · rename_i hq
            rw [← hn] at hq
            refine RL.hd (.obj id o') d z xs ?_ b o sp len cap ?_
            · show cellOf o' ((s.h.set id (setAt cs off (junks n)))[id]?) = _
              rw [List.getElem?_set_self hidl]
              show (setAt cs off (junks n))[o']? = _
              rw [setAt_get _ _ _ hp', if_neg (by rw [junks_length]; exact hq)]; exact hr
            · show cel w (g2.φ id) o' = _
              rw [← hv, cel_setCells_out (.inr (by simp [hlen]; omega))]
        · rw [List.getElem?_set_ne e] at hr
          have hr' : atRoot { s with h := s.h.set id (setAt cs off (junks n)) } (.obj id' o') = some (.own (d + 1), .sl z xs) := by
            show cellOf o' ((s.h.set id _)[id']?) = _
            rw [List.getElem?_set_ne e]; exact hr
          refine RL.hd (.obj id' o') d z xs hr' b o sp len cap ?_
          cases hs' : s.h[id']? with
          | none => rw [hs'] at hr; cases hr
          | some cs' =>
            rw [hs'] at hr
            have hB' := RL.hp id' cs' (by show (s.h.set id _)[id']? = _; rw [List.getElem?_set_ne e]; exact hs')
            obtain ⟨v, h1, h2, h3⟩ := hB'.cell o' _ hr
            obtain ⟨_, _, k3, _⟩ := C.un _ _ _ hB'.blk hB'.own (hU _ _ (by simp [Ne.symm e]))
            change cel _ (g2.φ id') o' = _ at hv
            rw [k3 o' (by rw [h1]; rfl)] at hv
            exact hv
  · rw [← hφ2]
    refine Le.trans ?_ (le_setCells ⟨false, lc⟩ hB.own (fun h => by cases h) fun _ _ e => by cases e)
    rw [hg2, hg1]
    exact (le_withHds ⟨false, lc⟩).trans le_Fso

/-- a value on its way is stored into an object -/
theorem sets_obj {s1 : St} {g1 : Gh} {o : Oper} {ty ad x} (ho : o.op = .store ty ad x) {id off v n cs old} (R1 : Rel s1 [(v, a.eval x)] a w g1) (L1 : Le ⟨false, lc⟩ w g w g1) (hval : a.eval ad = ptr (g1.φ id) off)
    (hn : szOf X.P ty = some n) (hv : v.cells.length = n) (hnt : noTup v = true) (hs : s1.h[id]? = some cs) (hp : cellsAt cs off n = some old)
    (h : stObj ⟨false, lc⟩ id off v.cells s1 cs (some old) = some s') : Sets X ⟨false, lc⟩ o a w g s' := by
  unfold stObj at h
  simp only at h
  split at h
  · cases h
  rename_i hpk
  simp only [Bool.or_eq_true, Bool.not_eq_true', not_or, Bool.not_eq_true] at hpk
  obtain ⟨hob, hkeep⟩ := hpk
  have hkeep' : ∀ c, c ∈ v.cells → keepC c = true := fun c hc => List.all_eq_true.1 (by simpa using hkeep) c hc
  have hrt : RT w g1 (.lim 0) v (a.eval x) := R1.fl 0 _ rfl
  have hcs := RT.cellsOf hrt hnt
  have R2 := R1.asCells hnt
  obtain ⟨cond, hcond⟩ : ∃ cond, cond = (anySlice v.cells || anySlice old) := ⟨_, rfl⟩
  obtain ⟨p, hpd⟩ : ∃ p, p = if anyOwned v.cells then isBl else noMd := ⟨_, rfl⟩
  obtain ⟨q, hq⟩ : ∃ q, q = if cond then rootedObjIn id off n else noAV := ⟨_, rfl⟩
  have Rk := (R2.kill p noAV).kill noMd q
  obtain ⟨q1, q2, q3⟩ := cellsAt_inv hp
  have hroot : ∀ a0 q0, AV.root a0 = some q0 → objIn cond id off n q0 = true → q a0 = true := fun a0 q0 h1 h2 => by
    rw [hq]
    cases q0 with
    | obj t' o' =>
      simp only [objIn, Bool.and_eq_true] at h2
      rw [if_pos h2.1]
      simp only [rootedObjIn, h1]
      have h3 : (t' = id ∧ off ≤ o') ∧ o' < off + n := by simpa using h2.2
      simpa using ⟨h3.1.2, h3.2, h3.1.1⟩
    | _ => cases h2
  have hnm : anyOwned v.cells = true → NoMd isBl ((s1.kill p noAV).kill noMd q) := fun ho => by
    rw [hpd, if_pos ho]
    have h0 : NoMd isBl (s1.kill isBl noAV) := noMd_kill rfl
    have hk : ∀ c : MC, isBl c.1 = false ∧ c.2.lent isBl = false → isBl (killC noMd q c).1 = false ∧ (killC noMd q c).2.lent isBl = false := fun c h => by
      unfold killC
      split
      · exact ⟨rfl, rfl⟩
      · exact h
    refine ⟨fun t tv ht c hc => ?_, fun t cs ht c hc => ?_⟩
    · rw [find_kill_t, Option.map_eq_some_iff] at ht
      obtain ⟨tv0, h1, rfl⟩ := ht
      have h2 := h0.1 t tv0 h1
      have k1 : ∀ tv, (∀ c, c ∈ all1 tv → isBl c.1 = false ∧ c.2.lent isBl = false) → ∀ c, c ∈ all1 (kill1 noMd q tv) → isBl c.1 = false ∧ c.2.lent isBl = false := fun tv h c hc => by
        cases tv with
        | one m a => simp [kill1, all1] at hc; subst hc; exact hk (m, a) (h _ (by simp [all1]))
        | agg cs => simp only [kill1, all1, List.mem_map] at hc; obtain ⟨c0, h3, rfl⟩ := hc; exact hk c0 (h c0 h3)
        | tup vs => simp [kill1, all1] at hc
      cases tv0 with
      | one m a => exact k1 (.one m a) h2 c hc
      | agg cs => exact k1 (.agg cs) h2 c hc
      | tup vs =>
        simp only [killT, TV.all, List.mem_flatMap, List.mem_map] at hc
        obtain ⟨tv', ⟨tv1, h3, rfl⟩, hc⟩ := hc
        exact k1 tv1 (fun c hc => h2 c (List.mem_flatMap.2 ⟨tv1, h3, hc⟩)) c hc
    · rw [find_kill_l, Option.map_eq_some_iff] at ht
      obtain ⟨cs0, h1, rfl⟩ := ht
      obtain ⟨c0, h3, rfl⟩ := List.mem_map.1 hc
      exact hk c0 (h0.2 t cs0 h1 c0 h3)
  obtain ⟨g2, R3, L3⟩ := Rk.setObj (off := off) cond hs (by rw [hv]; exact q1) hkeep' hnm (by rw [hv]; exact noRoot_kill hroot) (fun hc c hm => by
      rw [hcond] at hc
      simp only [Bool.or_eq_false_iff] at hc
      exact anySlice_no hc.1 c hm)
  have hB := R1.hp id cs hs
  have hfree : ∀ j, j < n → free w (g1.φ id) (off + j) := fun j hj => by
    have hlt : off + j < cs.length := by omega
    obtain ⟨u, k1, k2, _⟩ := hB.cell (off + j) cs[off + j] (by simp [hlt])
    exact ⟨by rw [k1]; rfl, k2⟩
  refine ⟨_, g2, ?_, ?_, L1.trans L3⟩
  · unfold execOp; rw [ho]
    have := run_storeAt (P := X.P) (w := w) (ty := ty) (b := g1.φ id) (off := off) (v := a.eval x) hn (by rw [hcs.1, hv]) hfree (cells_one_of hrt hnt)
    simp only [Sem.run_bind, hval, this, Result.andThen_ok]
    rfl
  · simp only [Option.some.injEq] at h
    subst h
    rw [← hcond, hv]
    refine R3.ext (fun t' tv hf => ?_) (fun t' cs' hf => ?_) ?_
    · show find t' ((s1.kill p noAV).kill noMd q).t = some tv
      rw [find_kill_t, find_kill_t]
      rw [hpd, hq]
      cases hc : cond with
      | true =>
        rw [hc] at hf
        simp only [if_true, find_kill_t] at hf ⊢
        split
        · rename_i ho; rw [if_pos ho] at hf; rw [find_kill_t] at hf; exact hf
        · rename_i ho; rw [if_neg ho] at hf; rw [show (killT noMd noAV) = (fun x => x) from funext killT_no]; simpa using hf
      | false =>
        rw [hc] at hf
        simp only [Bool.false_eq_true, if_false] at hf ⊢
        rw [show (killT noMd noAV) = (fun x => x) from funext killT_no, show ∀ {α : Type} (o : Option α), o.map (fun x => x) = o from fun o => by cases o <;> rfl]
        split
        · rename_i ho; rw [if_pos ho] at hf; rw [find_kill_t] at hf; exact hf
        · rename_i ho; rw [if_neg ho] at hf; simpa [killT_no] using hf
    · show find t' ((s1.kill p noAV).kill noMd q).l = some cs'
      rw [find_kill_l, find_kill_l]
      rw [hpd, hq]
      have hmm : (List.map (killC noMd noAV)) = (fun x => x) := funext map_killC_no
      cases hc : cond with
      | true =>
        rw [hc] at hf
        simp only [if_true, find_kill_l] at hf ⊢
        split
        · rename_i ho; rw [if_pos ho] at hf; rw [find_kill_l] at hf; exact hf
        · rename_i ho; rw [if_neg ho] at hf; rw [hmm]; simpa using hf
      | false =>
        rw [hc] at hf
        simp only [Bool.false_eq_true, if_false] at hf ⊢
        rw [hmm, show ∀ {α : Type} (o : Option α), o.map (fun x => x) = o from fun o => by cases o <;> rfl]
        split
        · rename_i ho; rw [if_pos ho] at hf; rw [find_kill_l] at hf; exact hf
        · rename_i ho; rw [if_neg ho] at hf; simpa [map_killC_no] using hf
    · split <;> split <;> rfl
theorem acts_stObj {o : Oper} {ty ad x} (ho : o.op = .store ty ad x) (R : Rel s [] a w g) {m id off v n cs old} (ha : opnd X.P s 0 ad = some (.one m (.ptr (.at id off)))) {zb : Bool} (hx : opndZ zb X.P s ty x = some v)
    (hn : szOf X.P ty = some n) (hv : v.cells.length = n) (hnt : noTup v = true) (hs : (used s x).h[id]? = some cs) (hp : cellsAt cs off n = some old)
    (h : stObj pu id off v.cells (used s x) cs (some old) = some s') : Sets X pu o a w g s' := by
  obtain ⟨r, _, hr⟩ := R.val ha
  obtain ⟨g1, R1, L1, S1⟩ := R.opndSZ pu hx
  simp only [List.nil_append] at R1
  have hob : pu.ob = false := by
    unfold stObj at h
    simp only at h
    split at h
    · cases h
    rename_i hpk
    simp only [Bool.or_eq_true, Bool.not_eq_true', not_or, Bool.not_eq_true] at hpk
    exact hpk.1
  obtain ⟨ob, lc⟩ := pu
  obtain rfl : ob = false := hob
  exact sets_obj ho R1 L1 (by rw [S1.2.1]; exact hr.one.obj.1) hn hv hnt hs hp h
/-- a slice is stored that is a part of the one that stands there -/
theorem acts_stAt {o : Oper} {ty ad x} (ho : o.op = .store ty ad x) (R : Rel s [] a w g) {m id off m' lo k cs c} (ha : opnd X.P s 0 ad = some (.one m (.ptr (.at id off)))) {zb : Bool} (hx : opndZ zb X.P s ty x = some (.one m' (.at_ (.obj id off) lo k)))
    (hn : szOf X.P ty = some 1) (hs : (used s x).h[id]? = some cs) (hp : cellsAt cs off 1 = some c)
    (h : stAt pu id off lo k (used s x) cs (some c) = some s') : Sets X pu o a w g s' := by
  unfold stAt at h
  split at h
  rotate_left
  · cases h
  rename_i d z xs hc
  cases hc
  split at h
  · cases h
  rename_i hcond
  simp only [Bool.or_eq_true, decide_eq_true_eq, not_or, Nat.not_lt, Bool.not_eq_true] at hcond
  obtain ⟨⟨hob, hne⟩, hle⟩ := hcond
  have hne : xs ≠ [] := fun e => by rw [e] at hne; cases hne
  obtain ⟨ob, lc⟩ := pu
  obtain rfl : ob = false := hob
  obtain ⟨r, _, hr⟩ := R.val ha
  obtain ⟨g1, R1, L1, S1⟩ := R.opndSZ ⟨false, lc⟩ hx
  simp only [List.nil_append] at R1
  have hat := (R1.fl 0 _ rfl : RT w g1 (.lim 0) (.one m' (.at_ (.obj id off) lo k)) (a.eval x)).one
  have R0 := R1.forget (fl := [])
  have hroot : atRoot (used s x) (.obj id off) = some (.own (d + 1), .sl z xs) := by
    obtain ⟨q1, q2, q3⟩ := cellsAt_inv hp
    show cellOf off ((used s x).h[id]?) = _
    rw [hs]
    exact (q3 0 _ rfl).2
  obtain ⟨b, o', cap, v1, v2, _⟩ := R0.rootAt hroot hne
  obtain ⟨vs, hvs, _, g2, S2, R2, L2⟩ := R0.takeObj (agg := false) hs hp rfl
  have v3 : cel w (g1.φ id) off = some (vs 0) := hvs 0 (by omega)
  have v4 : vs 0 = .slice (some ⟨b, o', none⟩) xs.length cap := by
    change cel w (g1.φ id) off = _ at v1
    rw [v1] at v3; exact (Option.some.inj v3).symm
  have k2 : SlAt w g2 (.own (d + 1)) (.lim 0) [0] z xs b o' cap := by
    have h1 := (R2.fl 0 _ rfl : RT w g2 (.lim 0) (.one (.own (d + 1)) (.sl z xs)) (loaded false 1 vs)).one
    have h2 := RC.sl h1
    change KC w g2 _ _ _ _ (vs 0) at h2
    rw [v4] at h2
    rcases h2.sl_inv with ⟨e, _⟩ | ⟨b1, o1, cap1, e1, e2⟩ | ⟨e, _⟩
    · exact absurd e hne
    · cases e1; exact e2
    · exact absurd e hne
  have R3 : ∃ g3, Rel ((({ used s x with h := (used s x).h.set id (setAt cs off [(Md.top, AV.junk)]) } : St).kill isBh noAV).kill isB noAV) [(.one (.own (d + 1)) (.sl z ((xs.take (lo + k)).drop lo)), a.eval x)] a w g3 ∧ Le ⟨false, lc⟩ w g2 w g3 ∧ Same g2 g3 := by
    have hl0 : [((Md.own (d + 1)), AV.sl z xs)].map leaveC = [(Md.top, AV.junk)] := rfl
    rw [hl0] at R2
    rcases hat with hat | hat
    · cases hat
    · generalize a.eval x = u at hat
      cases hat with
      | @at_ _ _ _ a0 cap' hc hh hx =>
        rw [v2] at hx
        rcases hx with ⟨rfl, rfl⟩ | ⟨o2, rfl, x2, x3⟩
        · obtain rfl : k = 0 := by omega
          have e : (xs.take (lo + 0)).drop lo = [] := List.drop_eq_nil_of_le (by rw [List.length_take]; omega)
          rw [e]
          exact ⟨g2, (R2.forget (fl := [])).kill isB noAV |>.push (.inl (.nil (by simp))), .refl _ _ _, .refl _⟩
        · have := Rel.cutG (o' := o2) (cap' := cap') (l := lo) (h := lo + k) ⟨false, lc⟩ R2 k2 hle (by omega) rfl (by omega) x2 x3
          rw [show lo + k - lo = k by omega] at this
          exact this
  obtain ⟨g3, R3, L3, S3⟩ := R3
  have hlen : off + 1 ≤ cs.length := (cellsAt_inv hp).1
  have hidl : id < (used s x).h.length := (List.getElem?_eq_some_iff.1 hs).1
  have R3 := R3.kill noMd hasRoot
  refine sets_obj (v := .one (.own (d + 1)) (.sl z ((xs.take (lo + k)).drop lo))) (cs := setAt cs off [(Md.top, AV.junk)]) (old := [(Md.top, AV.junk)]) ho R3 (((L1.trans (L2 lc))).trans L3) ?_ hn rfl rfl ?_ ?_ h
  · rw [S3.2.1, S2.2.1, S1.2.1]; exact hr.one.obj.1
  · show ((used s x).h.set id _)[id]? = _
    rw [List.getElem?_set_self hidl]
  · unfold cellsAt
    rw [if_pos (by rw [setAt_length _ _ _ (by simpa using hlen)]; exact hlen)]
    have : ((setAt cs off [(Md.top, AV.junk)]).drop off).take 1 = [(Md.top, AV.junk)] := by
      unfold setAt
      have : (cs.take off).length = off := by simp; omega
      rw [List.append_assoc, List.drop_append_of_le_length (by omega), List.drop_eq_nil_of_le (by omega)]
      rfl
    rw [this]
end
end Go.Proofs.Abs
/- Writes into elements. -/
namespace Go.Proofs.Abs
open Go
set_option linter.unusedVariables false
set_option linter.unusedSimpArgs false

section
variable {X : Cx} {pu : Pu} {s s' : St} {a : Act} {w : World} {g : Gh}

theorem le_relabel2 {F : Rk → List Nat → Ow} (pu : Pu) (hp : pu.ob = true → ∀ id π, F (.obj id) π = .pth (.obj id) π) (hl : ∀ t, inL t pu.lc = true → F (.loc t) [] = .pth (.loc t) []) (hx : ∀ r π, F r π ≠ .ext) : Le pu w g w (relabel F g) := by
  refine ⟨Nat.le_refl _, fun b _ h => ⟨rfl, ?_, rfl⟩, fun _ h1 h2 => absurd h2 (by omega), fun b _ h => ?_, Nat.le_refl _, fun _ _ => rfl, rfl, rfl, rfl⟩
  · rcases h with h | h | ⟨hpu, id, π, h⟩ | ⟨t, hpu, h⟩
    · simp [relabel, h]
    · simp [relabel, h]
    · rw [relabel_own h, h, hp hpu]
    · rw [relabel_own h, h, hl t hpu]
  · cases hb : g.own b with
    | ext => rfl
    | shared => simp [relabel, hb] at h
    | itr => simp [relabel, hb] at h
    | pth r π =>
      rw [relabel_own hb] at h
      exact absurd h (hx r π)
/-- elements come into another list, anywhere -/
theorem KC.sinkTo {F : Rk → List Nat → Ow} {r k : Rk} {π1 π0 : List Nat} {d : Nat}
    (hin : ∀ ρ, ρ.length < 2 * d → F r (π1 ++ ρ) = .pth k (π0 ++ ρ)) (hout : ∀ ρ, 2 * d ≤ ρ.length → F r (π1 ++ ρ) = .shared) {d' c v} (h : KC w g (.own d') r π1 c v) (hd : d ≤ d') :
    KC w (relabel F g) (.own d) k π0 c v := by
  have hk : ∀ {m π c v}, KC w g m r π c v → ∀ m' π', (∃ ρ k k', m = .own k' ∧ m' = .own k ∧ k ≤ k' ∧ π = π1 ++ ρ ∧ π' = π0 ++ ρ ∧ ((k = 0 ∧ 2 * d ≤ ρ.length) ∨ ρ.length + 2 * k = 2 * d)) → KC w (relabel F g) m' k π' c v := by
    intro m π c v h m' π' ht
    refine KC.map (g := g) (g' := relabel F g) (r := r) (r' := k) (fun m π m' π' => ∃ ρ k k', m = .own k' ∧ m' = .own k ∧ k ≤ k' ∧ π = π1 ++ ρ ∧ π' = π0 ++ ρ ∧ ((k = 0 ∧ 2 * d ≤ ρ.length) ∨ ρ.length + 2 * k = 2 * d)) (Nat.le_refl _) (fun _ hi => ⟨hi, rfl⟩) ?_ h ht
    rintro m π m' π' ⟨ρ, k, k', rfl, rfl, hk, rfl, rfl, hl⟩
    refine ⟨fun _ h => (by cases h), fun h => ?_, fun b e hb ho => ⟨?_, fun _ _ _ => rfl⟩, fun _ _ _ _ _ _ h => h, fun i j' => ?_⟩
    · cases k with
      | zero => cases h
      | succ k => cases k' with
        | zero => omega
        | succ k' => rfl
    · cases k' with
      | zero =>
        obtain rfl : k = 0 := by omega
        change g.own b = .shared at ho
        show (relabel F g).own b = .shared
        simp [relabel, ho]
      | succ k' =>
        obtain ⟨h1, h2⟩ := ho
        cases k with
        | zero =>
          show (relabel F g).own b = .shared
          rw [relabel_own h1]
          exact hout ρ (by rcases hl with h | h <;> omega)
        | succ k => exact ⟨by rw [relabel_own h1]; exact hin ρ (by rcases hl with h | h <;> omega), h2⟩
    · refine ⟨ρ ++ [i, j'], k - 1, k' - 1, ?_, ?_, by omega, by simp, by simp, ?_⟩
      · cases k' <;> rfl
      · cases k <;> rfl
      · simp only [List.length_append, List.length_cons, List.length_nil]
        rcases hl with h | h
        · left; omega
        · by_cases k0 : k = 0
          · left; omega
          · right; omega
  exact hk h (.own d) π0 ⟨[], d, d', rfl, rfl, hd, by simp, by simp, .inr (by simp)⟩

def Fel (keep : Bool) (k : Rk) (πr : List Nat) (i off d : Nat) (r : Rk) (π : List Nat) : Ow :=
  match r, π with
  | .lim 0, j :: ρ => if keep then .pth (.lim 0) (j :: ρ) else if ρ.length < 2 * d then .pth k (πr ++ i :: (off + j) :: ρ) else .shared
  | r, π => .pth r π
theorem Fel_keep {keep k πr i off d r} (h : r ≠ .lim 0) (π) : Fel keep k πr i off d r π = .pth r π := by
  unfold Fel
  split
  · exact absurd rfl h
  · rfl
theorem Fel_L {keep k πr i off d} (hk : keep = true ∨ k.isObj = false) : keepsL (Fel keep k πr i off d) := fun r π hr => by
  unfold Fel
  split
  · split
    · exact .inr ⟨_, _, rfl, rfl⟩
    · rename_i h
      split
      · exact .inr ⟨_, _, rfl, hk.resolve_left h⟩
      · exact .inl rfl
  · exact .inr ⟨_, _, rfl, hr⟩
theorem Fel_H {keep k πr i off d} : keepsH (Fel keep k πr i off d) := fun r π hr => .inr ⟨_, _, Fel_keep (by rintro rfl; cases hr) π, hr⟩
theorem Fel_ext {keep k πr i off d} (r π) : Fel keep k πr i off d r π ≠ .ext := by
  unfold Fel
  split
  · split
    · simp
    · split <;> simp
  · simp

theorem rp_length (r : Rt) : (rp r).length = 1 := by cases r <;> rfl
theorem deep_ok (r : Rt) (i j : Nat) (ρ : List Nat) : ¬((rp r ++ i :: j :: ρ) <+: rp r) := fun hp => by
  have := hp.length_le
  simp only [List.length_append, List.length_cons, rp_length] at this
  omega

/-- a slice's elements change, by whatever step: the rest stays -/
theorem Rel.setRowG {U : Rk → List Nat → Prop} {vl vh : Bool} {w' : World} {g' : Gh} {r : Rt} {d z : Nat} {xs xs' : List (List AV)} {v0 : Value} (R : Rel s [] a w g) (C : Chg U vl vh w g w' g') (hat : atRoot s r = some (.own (d + 1), .sl z xs))
    (hl : vl = true ∨ NoMd isBl s) (hh : vh = true ∨ NoMd isBh s) (hU : ∀ r' π, r' ≠ rk r → (∀ i, r' ≠ .lim i) → U r' π) (hUc : ∀ q, [q] ≠ rp r → U (rk r) [q])
    (hblk : ∀ b' rr, b' < w.heap.size → g.own b' = .pth rr [] → (∀ i, rr ≠ .lim i) → g'.own b' = .pth rr [] ∧ g'.fr b' = g.fr b' ∧ (∀ o, (cel w b' o).isSome = true → cel w' b' o = cel w b' o) ∧ ∀ o, free w b' o → free w' b' o)
    (S : Same g g') (v1 : valAt a w g r = some v0) (KR : KC w' g' (.own (d + 1)) (rk r) (rp r) (.sl z xs') v0) : Rel (setRoot s r (.own (d + 1), .sl z xs')) [] a w' g' := by
  obtain ⟨Sn, Sφ, Sψ, Sh⟩ := S
  have hT : ∀ t tv, find t s.t = some tv → rk r ≠ .tmp t → RT w' g' (.tmp t) tv (a.tmps.getD t undef) := fun t tv ht hr =>
    (R.tm t tv ht).chg C fun c hc π => (safe_t hl hh ht hc).ok (hU _ _ (Ne.symm hr) (by simp)) Sψ Sh
  have hBc : ∀ t cs q c, find t s.l = some cs → cs[q]? = some c → ∃ v, cel w (g.ψ t) q = some v ∧ cel w' (g.ψ t) q = some v ∧ w'.frozen? ⟨g.ψ t, q, none⟩ = false ∧
      (r ≠ .loc t q → RC w' g' c.1 (.loc t) [q] c.2 v) := fun t cs q c ht hc => by
    have hB := R.bx t cs ht
    obtain ⟨v, k1, k2, k3⟩ := hB.cell q c hc
    obtain ⟨_, _, b3, b4⟩ := hblk _ _ hB.blk hB.own (by simp)
    refine ⟨v, k1, by rw [b3 q (by rw [k1]; rfl)]; exact k1, (b4 q ⟨by rw [k1]; rfl, k2⟩).2, fun hr => k3.chg C ((safe_l hl hh ht (List.mem_of_getElem? hc)).ok ?_ Sψ Sh)⟩
    cases r with
    | loc t' q' =>
      by_cases e : t = t'
      · subst e
        exact hUc q fun hp => hr (by simp [rp] at hp; rw [hp])
      · exact hU _ _ (by simp [rk, e]) (by simp)
    | tmp t' => exact hU _ _ (by simp [rk]) (by simp)
    | obj t' q' => exact hU _ _ (by simp [rk]) (by simp)
  have hOc : ∀ t cs q c, s.h[t]? = some cs → cs[q]? = some c → ∃ v, cel w (g.φ t) q = some v ∧ cel w' (g.φ t) q = some v ∧ w'.frozen? ⟨g.φ t, q, none⟩ = false ∧
      (r ≠ .obj t q → KC w' g' c.1 (.obj t) [q] c.2 v) := fun t cs q c ht hc => by
    have hB := R.hp t cs ht
    obtain ⟨v, k1, k2, k3⟩ := hB.cell q c hc
    have hm := hB.md c (List.mem_of_getElem? hc)
    obtain ⟨_, _, b3, b4⟩ := hblk _ _ hB.blk hB.own (by simp)
    refine ⟨v, k1, by rw [b3 q (by rw [k1]; rfl)]; exact k1, (b4 q ⟨by rw [k1]; rfl, k2⟩).2, fun hr => k3.chg C (fun _ => ?_) (fun e => by rcases hm with h | ⟨d, h⟩ <;> rw [h] at e <;> cases e) (fun e => by rcases hm with h | ⟨d, h⟩ <;> rw [h] at e <;> cases e)⟩
    cases r with
    | obj t' q' =>
      by_cases e : t = t'
      · subst e
        exact hUc q fun hp => hr (by simp [rp] at hp; rw [hp])
      · exact hU _ _ (by simp [rk, e]) (by simp)
    | tmp t' => exact hU _ _ (by simp [rk]) (by simp)
    | loc t' q' => exact hU _ _ (by simp [rk]) (by simp)
  have hBb : ∀ t cs, find t s.l = some cs → g'.own (g'.ψ t) = .pth (.loc t) [] ∧ g'.ψ t < w'.heap.size ∧ g'.fr (g'.ψ t) = 0 := fun t cs ht => by
    have hB := R.bx t cs ht
    obtain ⟨b1, b2, _⟩ := hblk _ _ hB.blk hB.own (by simp)
    rw [Sψ]
    exact ⟨b1, Nat.lt_of_lt_of_le hB.blk C.size, b2.trans hB.fr⟩
  have hOb : ∀ t cs, s.h[t]? = some cs → g'.own (g'.φ t) = .pth (.obj t) [] ∧ g'.φ t < w'.heap.size ∧ g'.fr (g'.φ t) = 0 := fun t cs ht => by
    have hB := R.hp t cs ht
    obtain ⟨b1, b2, _⟩ := hblk _ _ hB.blk hB.own (by simp)
    rw [Sφ]
    exact ⟨b1, Nat.lt_of_lt_of_le hB.blk C.size, b2.trans hB.fr⟩
  have hBx : ∀ t cs, find t s.l = some cs → (∀ q, r ≠ .loc t q) → BoxR w' g' t cs := fun t cs ht hr => by
    obtain ⟨b1, b2, b3⟩ := hBb t cs ht
    refine ⟨b1, b2, b3, fun q c hc => ?_⟩
    obtain ⟨v, _, k2, k3, k4⟩ := hBc t cs q c ht hc
    rw [Sψ]
    exact ⟨v, k2, k3, k4 (hr q)⟩
  have hOx : ∀ t cs, s.h[t]? = some cs → (∀ q, r ≠ .obj t q) → ObjR w' g' t cs := fun t cs ht hr => by
    obtain ⟨b1, b2, b3⟩ := hOb t cs ht
    refine ⟨b1, b2, b3, (R.hp t cs ht).md, fun q c hc => ?_⟩
    obtain ⟨v, _, k2, k3, k4⟩ := hOc t cs q c ht hc
    rw [Sφ]
    exact ⟨v, k2, k3, k4 (hr q)⟩
  have hV : ∀ r' c, atRoot s r' = some c → valAt a w' g' r' = valAt a w g r' := fun r' c hr => by
    cases r' with
    | tmp t => rfl
    | loc t q =>
      change cellOf q (find t s.l) = _ at hr
      cases hf : find t s.l with
      | none => rw [hf] at hr; cases hr
      | some cs =>
        rw [hf] at hr
        obtain ⟨v, k1, k2, _⟩ := hBc t cs q c hf hr
        show cel _ (g'.ψ t) q = cel w (g.ψ t) q
        rw [Sψ, k1, k2]
    | obj t q =>
      change cellOf q (s.h[t]?) = _ at hr
      cases hf : s.h[t]? with
      | none => rw [hf] at hr; cases hr
      | some cs =>
        rw [hf] at hr
        obtain ⟨v, k1, k2, _⟩ := hOc t cs q c hf hr
        show cel _ (g'.φ t) q = cel w (g.φ t) q
        rw [Sφ, k1, k2]
  have hHd : ∀ r' d' z' ys, atRoot s r' = some (.own (d' + 1), .sl z' ys) → ∀ b' o' sp len cap', valAt a w' g' r' = some (.slice (some ⟨b', o', sp⟩) len cap') → g'.hd r' = (b', o', z', cap') := fun r' d' z' ys hr b' o' sp len cap' hv => by
    rw [hV r' _ hr] at hv
    rw [Sh]
    exact R.hd r' d' z' ys hr b' o' sp len cap' hv
  cases r with
  | tmp t =>
    refine ⟨Sn.trans R.n, fun i x hi => by simp at hi, fun t' tv ht => ?_, fun t' cs ht => hBx t' cs ht (by simp), fun id cs hi => hOx id cs hi (by simp), fun r' d' z' ys hr => ?_⟩
    · change find t' (put t _ s.t) = some tv at ht
      rw [find_put] at ht
      split at ht
      · rename_i e; subst e; cases ht
        have e1 : a.tmps.getD t' undef = v0 := Option.some.inj v1
        rw [e1]
        exact .inl KR
      · rename_i e; exact hT t' tv ht (by simp [rk, Ne.symm e])
    · cases r' with
      | tmp t' =>
        change oneOf (find t' (put t _ s.t)) = _ at hr
        rw [find_put] at hr
        by_cases e : t' = t
        · subst e
          rw [if_pos rfl] at hr
          cases hr
          exact hHd (.tmp t') d z xs hat
        · rw [if_neg e] at hr; exact hHd (.tmp t') d' z' ys hr
      | loc t' q => exact hHd (.loc t' q) d' z' ys hr
      | obj t' q => exact hHd (.obj t' q) d' z' ys hr
  | loc t q =>
    change cellOf q (find t s.l) = _ at hat
    cases hf : find t s.l with
    | none => rw [hf] at hat; cases hat
    | some cs =>
      rw [hf] at hat
      have hq : q < cs.length := (List.getElem?_eq_some_iff.1 hat).1
      have es : setRoot s (.loc t q) (.own (d + 1), .sl z xs') = { s with l := put t (cs.set q (.own (d + 1), .sl z xs')) s.l } := by
        show (match find t s.l with | some cs => _ | none => s) = _
        rw [hf]
      rw [es]
      refine ⟨Sn.trans R.n, fun i x hi => by simp at hi, fun t' tv ht => hT t' tv ht (by simp [rk]), fun t' cs' ht => ?_, fun id cs hi => hOx id cs hi (by simp), fun r' d' z' ys hr => ?_⟩
      · change find t' (put t _ s.l) = some cs' at ht
        rw [find_put] at ht
        split at ht
        · rename_i e; subst e; cases ht
          obtain ⟨b1, b2, b3⟩ := hBb t' cs hf
          refine ⟨b1, b2, b3, fun q' c hc => ?_⟩
          rw [Sψ]
          rw [List.getElem?_set] at hc
          split at hc
          · rename_i e
            subst e
            cases hc
            obtain ⟨v, k1, k2, k3, _⟩ := hBc t' cs q _ hf hat
            change cel w (g.ψ t') q = _ at v1
            rw [k1] at v1; cases v1
            exact ⟨_, k2, k3, .inl KR⟩
          · rename_i e
            obtain ⟨v, _, k2, k3, k4⟩ := hBc t' cs q' c hf hc
            exact ⟨v, k2, k3, k4 (by simp [e])⟩
        · rename_i e; exact hBx t' cs' ht (by simp [Ne.symm e])
      · cases r' with
        | tmp t' => exact hHd (.tmp t') d' z' ys hr
        | obj t' q => exact hHd (.obj t' q) d' z' ys hr
        | loc t' q' =>
          change cellOf q' (find t' (put t _ s.l)) = _ at hr
          rw [find_put] at hr
          by_cases e : t' = t
          · subst e
            rw [if_pos rfl] at hr
            change (cs.set q _)[q']? = _ at hr
            rw [List.getElem?_set] at hr
            split at hr
            · rename_i e; subst e
              cases hr
              exact hHd (.loc t' q) d z xs (by show cellOf q (find t' s.l) = _; rw [hf]; exact hat)
            · exact hHd (.loc t' q') d' z' ys (by show cellOf q' (find t' s.l) = _; rw [hf]; exact hr)
          · rw [if_neg e] at hr; exact hHd (.loc t' q') d' z' ys hr
  | obj t q =>
    change cellOf q (s.h[t]?) = _ at hat
    cases hf : s.h[t]? with
    | none => rw [hf] at hat; cases hat
    | some cs =>
      rw [hf] at hat
      have hq : q < cs.length := (List.getElem?_eq_some_iff.1 hat).1
      have htl : t < s.h.length := (List.getElem?_eq_some_iff.1 hf).1
      have es : setRoot s (.obj t q) (.own (d + 1), .sl z xs') = { s with h := s.h.set t (cs.set q (.own (d + 1), .sl z xs')) } := by
        show (match s.h[t]? with | some cs => _ | none => s) = _
        rw [hf]
      rw [es]
      refine ⟨by show g'.n = (s.h.set t _).length; rw [Sn]; simpa using R.n, fun i x hi => by simp at hi, fun t' tv ht => hT t' tv ht (by simp [rk]), fun t' cs ht => hBx t' cs ht (by simp), fun id cs' hi => ?_, fun r' d' z' ys hr => ?_⟩
      · change (s.h.set t _)[id]? = some cs' at hi
        by_cases e : t = id
        · subst e
          rw [List.getElem?_set_self htl] at hi
          cases hi
          obtain ⟨b1, b2, b3⟩ := hOb t cs hf
          refine ⟨b1, b2, b3, fun c hc => ?_, fun q' c hc => ?_⟩
          · rcases List.mem_or_eq_of_mem_set hc with h | h
            · exact (R.hp t cs hf).md c h
            · rw [h]; exact .inr ⟨_, rfl⟩
          rw [Sφ]
          rw [List.getElem?_set] at hc
          split at hc
          · rename_i e
            subst e
            cases hc
            obtain ⟨v, k1, k2, k3, _⟩ := hOc t cs q _ hf hat
            change cel w (g.φ t) q = _ at v1
            rw [k1] at v1; cases v1
            exact ⟨_, k2, k3, KR⟩
          · rename_i e
            obtain ⟨v, _, k2, k3, k4⟩ := hOc t cs q' c hf hc
            exact ⟨v, k2, k3, k4 (by simp [e])⟩
        · rw [List.getElem?_set_ne e] at hi
          exact hOx id cs' hi (by simp [e])
      · cases r' with
        | tmp t' => exact hHd (.tmp t') d' z' ys hr
        | loc t' q => exact hHd (.loc t' q) d' z' ys hr
        | obj t' q' =>
          change cellOf q' ((s.h.set t _)[t']?) = _ at hr
          by_cases e : t = t'
          · subst e
            rw [List.getElem?_set_self htl] at hr
            change (cs.set q _)[q']? = _ at hr
            rw [List.getElem?_set] at hr
            split at hr
            · rename_i e; subst e
              cases hr
              exact hHd (.obj t q) d z xs (by show cellOf q (s.h[t]?) = _; rw [hf]; exact hat)
            · exact hHd (.obj t q') d' z' ys (by show cellOf q' (s.h[t]?) = _; rw [hf]; exact hr)
          · rw [List.getElem?_set_ne e] at hr; exact hHd (.obj t' q') d' z' ys hr

/-- a slice's elements are written: the rest stays -/
theorem Rel.setRow {r : Rt} {d z : Nat} {xs xs' : List (List AV)} {b o cap at_ : Nat} {L : List Value} (R : Rel s [] a w g) (hat : atRoot s r = some (.own (d + 1), .sl z xs)) (hx : xs ≠ [])
    (hl : (rk r).isObj = true ∨ NoMd isBl s) (hh : (rk r).isObj = false ∨ NoMd isBh s) (hhd : g.hd r = (b, o, z, cap)) (hlen : xs'.length = xs.length) (hz : ∀ x, x ∈ xs' → x.length = z)
    (hin : ∀ j, j < L.length → ∃ q, q < xs.length * z ∧ at_ + j = o + q)
    (hnew : ∀ i x j c, xs'[i]? = some x → x[j]? = some c → (∃ k v, L[k]? = some v ∧ o + i * z + j = at_ + k ∧ KC w g (.own d) (rk r) (rp r ++ [i, j]) c v) ∨
      ((o + i * z + j < at_ ∨ at_ + L.length ≤ o + i * z + j) ∧ ∃ x0, xs[i]? = some x0 ∧ x0[j]? = some c)) (hp : pu.ob = true → (rk r).isObj = false) :
    ∃ g', Rel (setRoot s r (.own (d + 1), .sl z xs')) [] a (w.setCells b at_ L) g' ∧ Le pu w g (w.setCells b at_ L) g' ∧ Same g g' := by
  obtain ⟨b', o', cap, v1, v2, k⟩ := R.rootAt hat hx
  rw [hhd] at v2
  cases v2
  obtain ⟨hown, hfr⟩ := k.hok
  have hsm : ∀ j, j < L.length → (cel w b (at_ + j)).isSome = true := fun j hj => by
    obtain ⟨q, h1, h2⟩ := hin j hj
    rw [h2]
    obtain ⟨vs, h3, _⟩ := k.all
    rw [h3 q h1]; rfl
  obtain ⟨ob, hob⟩ : ∃ ob, ob = (rk r).isObj := ⟨_, rfl⟩
  have C := chg_setCells (w := w) (g := g) (b := b) (o := at_) (e := g.fr b) (vs := L) (vl := ob) (vh := !ob) hown hsm (fun h => .inl (by rw [← hob]; exact h)) (fun h => .inl (by rw [← hob]; simpa using h))
  have hl' : ob = true ∨ NoMd isBl s := by rw [hob]; exact hl
  have hh' : (!ob) = true ∨ NoMd isBh s := by rw [hob]; simpa using hh
  have hg' : setFr g b (g.fr b) = g := by
    have : (fun b' => if b' = b then g.fr b else g.fr b') = g.fr := by funext b'; split <;> rename_i h; rw [h]; rfl
    show { g with fr := _ } = g
    rw [this]
  rw [hg'] at C
  have hnb : ∀ b', (∃ rr, g.own b' = .pth rr []) → b' ≠ b := fun b' ⟨rr, h⟩ e => by
    subst e; rw [hown] at h
    have h2 := rp_length r
    injection h with _ h3
    rw [h3] at h2; cases h2
  have KR : KC (w.setCells b at_ L) g (.own (d + 1)) (rk r) (rp r) (.sl z xs') (.slice (some ⟨b, o, none⟩) xs.length cap) := by
    have S : SlAt (w.setCells b at_ L) g (.own (d + 1)) (rk r) (rp r) z xs' b o cap := by
      refine ⟨by rw [size_setCells]; exact k.hb, ⟨hown, by rw [hlen]; exact hfr⟩, hz, by rw [hlen]; exact k.hcap, fun _ j hj => free_setCells hsm (k.room rfl j hj), fun i x j c hx hc => ?_⟩
      have chg : ∀ {v}, KC w g (.own d) (rk r) (rp r ++ [i, j]) c v → KC (w.setCells b at_ L) g (.own d) (rk r) (rp r ++ [i, j]) c v := fun hk => hk.chg C (fun _ => .inr (deep_ok r i j [])) (fun e => by cases e) (fun e => by cases e)
      rcases hnew i x j c hx hc with ⟨k0, v, h1, h2, h3⟩ | ⟨h1, x0, h2, h3⟩
      · refine ⟨v, ?_, chg h3⟩
        have hlt := (List.getElem?_eq_some_iff.1 h1).1
        rw [h2, cel_setCells_in hsm hlt]
        rw [List.getElem?_eq_getElem hlt] at h1
        exact h1
      · obtain ⟨v, h4, h5⟩ := k.cell i x0 j c h2 h3
        exact ⟨v, by rw [cel_setCells_out (.inr h1)]; exact h4, chg h5⟩
    have := S.kc
    rw [hlen] at this; exact this
  refine ⟨g, R.setRowG C hat hl' hh' (fun r' π h _ => .inl h) (fun q hq => .inr fun hp => hq ?_) (fun b' rr hb h hr => ?_) (.refl _) v1 KR, ?_, .refl _⟩
  · have := rp_length r
    exact hp.eq_of_length (by rw [this]; rfl)
  · have hnb' := hnb b' ⟨rr, h⟩
    exact ⟨h, rfl, fun i _ => cel_setCells_out (.inl hnb'), fun i hf => free_setCells hsm hf⟩
  · have := le_setCells (w := w) (g := g) (b := b) (o := at_) (e := g.fr b) (vs := L) pu hown hp (fun _ _ _ e => by have := rp_length r; rw [e] at this; cases this)
    rw [hg'] at this; exact this
end
end Go.Proofs.Abs
/- Stores into elements; copy. -/
namespace Go.Proofs.Abs
open Go
set_option linter.unusedVariables false
set_option linter.unusedSimpArgs false

section
variable {X : Cx} {pu : Pu} {s s' : St} {a : Act} {w : World} {g : Gh}

def pEl (r : Rt) (ow : Bool) : Md → Bool := match r with
  | .obj _ _ => if ow then isB else isBh
  | _ => isBl
theorem killEl_eq (r ow) (s : St) : killEl r ow s = s.kill (pEl r ow) noAV := by cases r <;> rfl
theorem pEl_top (r ow) : pEl r ow .top = false := by cases r <;> cases ow <;> rfl
theorem pEl_own (r ow d) : pEl r ow (.own d) = false := by cases r <;> cases ow <;> rfl
theorem killC_ownsl (r ow d z xs) : killC (pEl r ow) noAV (.own d, .sl z xs) = (.own d, .sl z xs) := by
  unfold killC
  rw [pEl_own]
  rfl
theorem atRoot_killed {r ow d z xs r'} (h : atRoot s r' = some (.own (d + 1), .sl z xs)) : atRoot (s.kill (pEl r ow) noAV) r' = some (.own (d + 1), .sl z xs) := by
  cases r' with
  | obj id off => exact h
  | loc t off =>
    change cellOf off (find t (s.kill _ _).l) = _
    change cellOf off (find t s.l) = _ at h
    rw [find_kill_l]
    cases hf : find t s.l with
    | none => rw [hf] at h; cases h
    | some cs =>
      rw [hf] at h
      change cs[off]? = _ at h
      show (cs.map _)[off]? = _
      rw [List.getElem?_map, h]
      show some _ = _
      rw [killC_ownsl]
  | tmp t =>
    change oneOf (find t (s.kill _ _).t) = _
    change oneOf (find t s.t) = _ at h
    rw [find_kill_t]
    cases hf : find t s.t with
    | none => rw [hf] at h; cases h
    | some tv =>
      rw [hf] at h
      cases tv with
      | one m a =>
        cases h
        show some (killC _ _ _) = _
        rw [killC_ownsl]
      | agg cs => cases h
      | tup vs => cases h
theorem Rel.setRoot_kill {p : Md → Bool} {r : Rt} {c : MC} {fl} (hc : killC p noAV c = c) (R : Rel (setRoot (s.kill p noAV) r c) fl a w g) : Rel ((setRoot s r c).kill p noAV) fl a w g := by
  cases r with
  | tmp t =>
    refine R.ext (fun t' tv hf => ?_) (fun _ _ h => h) rfl
    rw [find_kill_t, Option.map_eq_some_iff] at hf
    obtain ⟨tv0, h1, rfl⟩ := hf
    change find t' (put t _ s.t) = _ at h1
    show find t' (put t _ (s.kill p noAV).t) = _
    rw [find_put] at h1 ⊢
    split
    · rename_i e; rw [if_pos e] at h1; cases h1
      show some (TV.one c.1 c.2) = some (TV.one (killC p noAV (c.1, c.2)).1 (killC p noAV (c.1, c.2)).2)
      rw [show (c.1, c.2) = c from rfl, hc]
    · rename_i e; rw [if_neg e] at h1; rw [find_kill_t, h1]; rfl
  | loc t off =>
    have e1 : setRoot (s.kill p noAV) (.loc t off) c = match (find t s.l).map (List.map (killC p noAV)) with
      | some cs => { s.kill p noAV with l := put t (cs.set off c) (s.kill p noAV).l }
      | none => s.kill p noAV := by rw [← find_kill_l]; rfl
    cases hf : find t s.l with
    | none =>
      rw [hf] at e1
      rw [e1] at R
      have e2 : setRoot s (.loc t off) c = s := by show (match find t s.l with | some cs => _ | none => s) = _; rw [hf]
      rw [e2]; exact R
    | some cs =>
      rw [hf] at e1
      rw [e1] at R
      have e2 : setRoot s (.loc t off) c = { s with l := put t (cs.set off c) s.l } := by show (match find t s.l with | some cs => _ | none => s) = _; rw [hf]
      rw [e2]
      refine R.ext (fun _ _ h => h) (fun t' cs' hf' => ?_) rfl
      rw [find_kill_l, Option.map_eq_some_iff] at hf'
      obtain ⟨cs0, h1, rfl⟩ := hf'
      change find t' (put t _ s.l) = _ at h1
      show find t' (put t _ (s.kill p noAV).l) = _
      rw [find_put] at h1 ⊢
      split
      · rename_i e; rw [if_pos e] at h1; cases h1
        rw [List.map_set, hc]
      · rename_i e; rw [if_neg e] at h1; rw [find_kill_l, h1]; rfl
  | obj id off =>
    cases hf : s.h[id]? with
    | none =>
      have e1 : setRoot (s.kill p noAV) (.obj id off) c = s.kill p noAV := by show (match s.h[id]? with | some cs => _ | none => _) = _; rw [hf]
      have e2 : setRoot s (.obj id off) c = s := by show (match s.h[id]? with | some cs => _ | none => _) = _; rw [hf]
      rw [e1] at R; rw [e2]; exact R
    | some cs =>
      have e1 : setRoot (s.kill p noAV) (.obj id off) c = { s.kill p noAV with h := s.h.set id (cs.set off c) } := by show (match s.h[id]? with | some cs => _ | none => _) = _; rw [hf]; rfl
      have e2 : setRoot s (.obj id off) c = { s with h := s.h.set id (cs.set off c) } := by show (match s.h[id]? with | some cs => _ | none => _) = _; rw [hf]
      rw [e1] at R; rw [e2]; exact R

theorem elOk_inv {d : Nat} {c : MC} (h : elOk d c = true) : (∃ d' z xs, c = (.own d', .sl z xs) ∧ d ≤ d') ∨ c.2.scalar = true := by
  obtain ⟨m, a⟩ := c
  unfold elOk at h
  split at h
  · rename_i he; cases he; exact .inl ⟨_, _, _, rfl, by simpa using h⟩
  · rename_i he; cases he; exact .inr h

theorem noMd_sub {p q : Md → Bool} (h : NoMd p s) (hq : ∀ m, q m = true → p m = true) : NoMd q s := by
  have hc : ∀ c : MC, p c.1 = false ∧ c.2.lent p = false → q c.1 = false ∧ c.2.lent q = false := fun c h => by
    have hm : ∀ m, p m = false → q m = false := fun m h => by
      cases hh : q m with
      | false => rfl
      | true => rw [hq m hh] at h; cases h
    refine ⟨hm _ h.1, ?_⟩
    cases h2 : c.2 with
    | rd mo mi cs off =>
      have := h.2
      rw [h2] at this
      simp only [AV.lent, Bool.or_eq_false_iff] at this ⊢
      exact ⟨hm _ this.1, hm _ this.2⟩
    | it b pos =>
      have := h.2
      rw [h2] at this
      simp only [AV.lent, Bool.or_eq_false_iff] at this ⊢
      exact ⟨hm _ this.1, hm _ this.2⟩
    | _ => rfl
  exact ⟨fun t tv ht c hm => hc c (h.1 t tv ht c hm), fun t cs ht c hm => hc c (h.2 t cs ht c hm)⟩

theorem acts_stEl {o : Oper} {ty ad x} (ho : o.op = .store ty ad x) (R : Rel s [] a w g) {m r i off v n} (ha : opnd X.P s 0 ad = some (.one m (.el r i off))) {zb : Bool} (hx : opndZ zb X.P s ty x = some v)
    (hn : szOf X.P ty = some n) (hv : v.cells.length = n) (hnt : noTup v = true)
    (h : stEl pu r i off v.cells (used s x) (atRoot (used s x) r) = some s') : Sets X pu o a w g s' := by
  unfold stEl at h
  split at h
  rotate_left
  · cases h
  rename_i d z xs hat
  split at h
  rotate_left
  · cases h
  rename_i x0 hxi
  split at h
  rotate_left
  · cases h
  rename_i hc
  obtain ⟨c1, c2, c3⟩ := hc
  cases h
  obtain ⟨rr, _, hr⟩ := R.val ha
  obtain ⟨g1, R1, L1, S1⟩ := R.opndSZ pu hx
  simp only [List.nil_append] at R1
  have hrt : RT w g1 (.lim 0) v (a.eval x) := R1.fl 0 _ rfl
  have hcs := RT.cellsOf hrt hnt
  have R2 := R1.asCells hnt
  obtain ⟨p, hpd⟩ : ∃ p, p = pEl r (anyOwned v.cells) := ⟨_, rfl⟩
  have Rk := R2.kill p noAV
  have hatk : atRoot ((used s x).kill p noAV) r = some (.own (d + 1), .sl z xs) := by rw [hpd]; exact atRoot_killed hat
  have hxne : xs ≠ [] := fun e => by rw [e] at hxi; simp at hxi
  -- labels
  obtain ⟨keep, hkp⟩ : ∃ keep, keep = !anyOwned v.cells := ⟨_, rfl⟩
  obtain ⟨vl, hvl⟩ : ∃ vl, vl = (keep || !(Abs.rk r).isObj) := ⟨_, rfl⟩
  have C1 : Chg (fun r' π => ∀ ρ, Fel keep (Abs.rk r) (rp r) i off d r' (π ++ ρ) = .pth r' (π ++ ρ)) vl true w g1 w (relabel (Fel keep (Abs.rk r) (rp r) i off d) g1) :=
    chg_relabelW (fun h => Fel_L (by rw [hvl] at h; simpa using h)) (fun _ => Fel_H)
  have hno : NoMd p ((used s x).kill p noAV) := noMd_kill (by rw [hpd]; exact pEl_top _ _)
  have hpl : (Abs.rk r).isObj = false → NoMd isBl ((used s x).kill p noAV) := fun h => noMd_sub hno fun m hm => by
    rw [hpd]; cases r <;> first | (cases h; done) | exact hm
  have hph : (Abs.rk r).isObj = true → NoMd isBh ((used s x).kill p noAV) := fun h => noMd_sub hno fun m hm => by
    rw [hpd]
    cases r with
    | obj id o =>
      show (if _ then isB else isBh) m = true
      split
      · simp only [isBh, decide_eq_true_eq] at hm; subst hm; rfl
      · exact hm
    | _ => cases h
  have hl : vl = true ∨ NoMd isBl ((used s x).kill p noAV) := by
    cases hk : vl with
    | true => exact .inl rfl
    | false =>
      right
      rw [hvl] at hk
      simp only [Bool.or_eq_false_iff, Bool.not_eq_false'] at hk
      refine noMd_sub hno fun m hm => ?_
      have hao : anyOwned v.cells = true := by have := hk.1; rw [hkp] at this; simpa using this
      rw [hpd]
      cases r with
      | obj id o =>
        show (if _ then isB else isBh) m = true
        rw [if_pos hao]
        simp only [isBl, decide_eq_true_eq] at hm; subst hm; rfl
      | _ => cases hk.2
  have R0 := Rk.forget (fl := [])
  have RL : Rel ((used s x).kill p noAV) [] a w (relabel (Fel keep (Abs.rk r) (rp r) i off d) g1) :=
    ⟨R0.n, fun i y hi => by simp at hi, fun t' tv ht => (R0.tm t' tv ht).chg C1 fun c hc π => (safe_t hl (.inl rfl) ht hc).ok (fun ρ => Fel_keep (by simp) _) (fun _ => rfl) (fun _ => rfl),
      fun t' cs' ht => (R0.bx t' cs' ht).chg C1 rfl (fun ρ => Fel_keep (by simp) _) fun c hc π => (safe_l hl (.inl rfl) ht hc).ok (fun ρ => Fel_keep (by simp) _) (fun _ => rfl) (fun _ => rfl),
      fun id cs' hi => (R0.hp id cs' hi).chg C1 (by rw [R0.n]; exact (List.getElem?_eq_some_iff.1 hi).1) fun π ρ => Fel_keep (by simp) _, R0.hd⟩
  have cells : ∀ (j : Nat) c, v.cells[j]? = some c → ∃ u, (a.eval x).cells[j]? = some u ∧ KC w (relabel (Fel keep (Abs.rk r) (rp r) i off d) g1) (.own d) (Abs.rk r) (rp r ++ [i, off + j]) c.2 u := fun j c hc => by
    obtain ⟨u, h1, h2⟩ := hcs.2 j c hc
    refine ⟨u, h1, ?_⟩
    have hm := List.mem_of_getElem? hc
    rcases elOk_inv (List.all_eq_true.1 c3 c hm) with ⟨d', z', ys, rfl, hd⟩ | hsc
    · have hkc := RC.sl h2
      cases d' with
      | zero =>
        obtain rfl : d = 0 := by omega
        exact (hkc.anywhere rfl (Abs.rk r) (rp r ++ [i, off + j])).chg C1 (fun h => by cases h) (fun e => by cases e) (fun e => by cases e)
      | succ d' =>
        have hk : keep = false := by
          have : anyOwned v.cells = true := List.any_eq_true.2 ⟨_, hm, rfl⟩
          rw [hkp, this]; rfl
        exact KC.sinkTo (π1 := [j]) (fun ρ hρ => by simp [Fel, hk, hρ]) (fun ρ hρ => by simp [Fel, hk]; omega) hkc hd
    · exact RC.plainAt (g' := relabel (Fel keep (Abs.rk r) (rp r) i off d) g1) h2 hsc (fun _ _ => rfl) (Nat.le_refl _) _ _ _
  -- the row
  obtain ⟨g2, hg2⟩ : ∃ g2, g2 = relabel (Fel keep (Abs.rk r) (rp r) i off d) g1 := ⟨_, rfl⟩
  rw [← hg2] at RL cells
  obtain ⟨b, o', cap, k1, k2, k⟩ := RL.rootAt hatk hxne
  have hil : i < xs.length := (List.getElem?_eq_some_iff.1 hxi).1
  have hx0 : x0.length = z := k.hz x0 (List.mem_of_getElem? hxi)
  have hus : (a.eval x).cells.size = v.cells.length := hcs.1
  have hoff : off + v.cells.length ≤ z := by rw [← hx0]; exact c1
  have hnz : (v.cells.map (·.2)).length = v.cells.length := by simp
  have hiz : i * z + z ≤ xs.length * z := by rw [← Nat.succ_mul]; exact Nat.mul_le_mul_right z hil
  obtain ⟨g3, R3, L3, S3⟩ := RL.setRow (pu := pu) (xs' := xs.set i (setAt x0 off (v.cells.map (·.2)))) (b := b) (o := o') (cap := cap) (at_ := o' + i * z + off) (L := (a.eval x).cells.toList) hatk hxne
    (by cases h : (Abs.rk r).isObj with | true => exact .inl rfl | false => exact .inr (hpl h)) (by cases h : (Abs.rk r).isObj with | false => exact .inl rfl | true => exact .inr (hph h)) k2 (by simp)
    (fun y hy => by
      rcases List.mem_or_eq_of_mem_set hy with h | h
      · exact k.hz y h
      · rw [h, setAt_length _ _ _ (by rw [hnz]; exact c1)]; exact hx0)
    (fun j hj => ⟨i * z + off + j, by simp [hus] at hj; omega, by omega⟩)
    (fun i' y j c hy hc => by
      rw [List.getElem?_set] at hy
      split at hy
      · rename_i e
        subst e
        cases hy
        rw [setAt_get _ _ _ (by rw [hnz]; exact c1)] at hc
        split at hc
        · rename_i hj
          rw [hnz] at hj
          left
          rw [List.getElem?_map, Option.map_eq_some_iff] at hc
          obtain ⟨mc, h1, rfl⟩ := hc
          obtain ⟨u, h2, h3⟩ := cells _ mc h1
          rw [show off + (j - off) = j from by omega] at h3
          exact ⟨j - off, u, by simpa using h2, by omega, h3⟩
        · rename_i hj
          rw [hnz] at hj
          refine .inr ⟨by simp [hus]; omega, x0, hxi, hc⟩
      · rename_i e
        have hi' : i' < xs.length := (List.getElem?_eq_some_iff.1 hy).1
        have hj : j < z := by rw [← k.hz y (List.mem_of_getElem? hy)]; exact (List.getElem?_eq_some_iff.1 hc).1
        refine .inr ⟨?_, y, hy, hc⟩
        simp [hus]
        rcases Nat.lt_or_gt_of_ne e with h | h
        · have : (i + 1) * z ≤ i' * z := Nat.mul_le_mul_right z h
          rw [Nat.succ_mul] at this
          right; omega
        · have : (i' + 1) * z ≤ i * z := Nat.mul_le_mul_right z h
          rw [Nat.succ_mul] at this
          left; omega)
    (fun hp => by
      rw [hp] at c2
      cases r <;> first | rfl | (simp [rootedObj, AV.root] at c2))
  have hval : a.eval ad = ptr b (o' + i * z + off) := by
    have h1 := hr.one.el
    rw [h1]
    have h2 : g.hd r = (b, o', z, cap) := by
      rw [← S1.2.2.2 r]
      rw [hg2] at k2
      exact k2
    rw [h2]
  have hfree : ∀ j, j < n → free w b (o' + i * z + off + j) := fun j hj => by
    have := k.room rfl (i * z + off + j) (by
      have : xs.length * z ≤ cap * z := Nat.mul_le_mul_right z k.hcap
      omega)
    rw [show o' + i * z + off + j = o' + (i * z + off + j) from by omega]; exact this
  refine ⟨_, g3, ?_, ?_, L1.trans (Le.trans ?_ L3)⟩
  · unfold execOp; rw [ho]
    have := run_storeAt (P := X.P) (w := w) (ty := ty) (b := b) (off := o' + i * z + off) (v := a.eval x) hn (by rw [hcs.1, hv]) hfree (cells_one_of hrt hnt)
    simp only [Sem.run_bind, hval, this, Result.andThen_ok]
    rfl
  · rw [killEl_eq, ← hpd]
    exact R3.setRoot_kill (by rw [hpd]; exact killC_ownsl _ _ _ _ _)
  · rw [hg2]
    exact le_relabel2 pu (fun _ id π => Fel_keep (by simp) π) (fun _ t => rfl) Fel_ext
end
end Go.Proofs.Abs
/- copy. -/
namespace Go.Proofs.Abs
open Go
set_option linter.unusedVariables false
set_option linter.unusedSimpArgs false

section
variable {X : Cx} {pu : Pu} {s s' : St} {a : Act} {w : World} {g : Gh}

theorem elems_pre {P : Program} {m r π z xs v} (h : KC w g m r π (.sl z xs) v) : ∃ vs : Nat → Value, (Builtin.lenOf v = pure xs.length) ∧ (∀ n, n ≤ xs.length → (Builtin.firstCells z n v).run P w = .ok ((List.range (n * z)).map vs).toArray w) ∧
    ∀ i x j c, xs[i]? = some x → x[j]? = some c → KC w g m.inner r (π ++ [i, j]) c (vs (i * z + j)) := by
  rcases h.sl_inv with ⟨rfl, rfl, _⟩ | ⟨b, o, cap, rfl, k⟩ | ⟨rfl, ⟨a, cap, rfl⟩, _, _⟩
  · exact ⟨fun _ => undef, rfl, fun n hn => by
      obtain rfl : n = 0 := by simpa using hn
      simp [Builtin.firstCells], fun i x j c h => by simp at h⟩
  rotate_left
  · exact ⟨fun _ => undef, rfl, fun n hn => by
      obtain rfl : n = 0 := by simpa using hn
      simp [Builtin.firstCells, loadCells, loadCellsFrom], fun i x j c h => by simp at h⟩
  · obtain ⟨vs, h1, h2⟩ := k.all
    refine ⟨vs, rfl, fun n hn => ?_, h2⟩
    simp only [Builtin.firstCells, loadCells]
    have hle : n * z ≤ xs.length * z := Nat.mul_le_mul_right z hn
    rw [run_loadCells (vs := vs) (n * z) 0 #[] (by
      intro j hj
      have := h1 j (by omega)
      rw [Nat.zero_add]; exact this)]
    simp [List.range_eq_range']
theorem Rel.setRoot_same {r : Rt} {c : MC} {fl} (hat : atRoot s r = some c) (R : Rel s fl a w g) : Rel (setRoot s r c) fl a w g := by
  cases r with
  | tmp t =>
    change oneOf (find t s.t) = _ at hat
    refine R.ext (fun t' tv hf => ?_) (fun _ _ h => h) rfl
    change find t' (put t _ s.t) = _ at hf
    rw [find_put] at hf
    split at hf
    · rename_i e; subst e
      cases hf
      cases h : find t' s.t with
      | none => rw [h] at hat; cases hat
      | some tv =>
        rw [h] at hat
        cases tv with
        | one m a => cases hat; rfl
        | agg cs => cases hat
        | tup vs => cases hat
    · exact hf
  | loc t off =>
    change cellOf off (find t s.l) = _ at hat
    cases h : find t s.l with
    | none => rw [h] at hat; cases hat
    | some cs =>
      rw [h] at hat
      have e2 : setRoot s (.loc t off) c = { s with l := put t (cs.set off c) s.l } := by show (match find t s.l with | some cs => _ | none => s) = _; rw [h]
      rw [e2]
      refine R.ext (fun _ _ h => h) (fun t' cs' hf => ?_) rfl
      change find t' (put t _ s.l) = _ at hf
      rw [find_put] at hf
      split at hf
      · rename_i e; subst e
        cases hf
        rw [h]
        congr 1
        apply List.ext_getElem?
        intro i
        rw [List.getElem?_set]
        split
        · rename_i e; subst e
          split
          · exact hat
          · rename_i hlt; rw [List.getElem?_eq_none (by omega)]
        · rfl
      · exact hf
  | obj id off =>
    change cellOf off (s.h[id]?) = _ at hat
    cases h : s.h[id]? with
    | none => rw [h] at hat; cases hat
    | some cs =>
      rw [h] at hat
      have e2 : setRoot s (.obj id off) c = { s with h := s.h.set id (cs.set off c) } := by show (match s.h[id]? with | some cs => _ | none => s) = _; rw [h]
      rw [e2]
      refine R.ext (fun _ _ h => h) (fun _ _ h => h) ?_
      have hcs : cs.set off c = cs := by
        apply List.ext_getElem?
        intro i
        rw [List.getElem?_set]
        split
        · rename_i e; subst e
          split
          · exact hat.symm
          · rename_i hlt; rw [List.getElem?_eq_none (by omega)]
        · rfl
      show s.h.set id _ = s.h
      rw [hcs]
      apply List.ext_getElem?
      intro i
      rw [List.getElem?_set]
      split
      · rename_i e; subst e
        split
        · exact h.symm
        · rename_i hlt; rw [List.getElem?_eq_none (by omega)]
      · rfl

theorem acts_copy {o : Oper} {args ats t rest} (ho : o.op = .call { callee := .builtin .copy, args := args, argTypes := ats }) (hats : ats.toList = t :: rest)
    {vs : List TV} {vals : List Value} (hargs : (args.map a.eval).toList = vals) {s1 : St} (R : Rel s1 (vs.zip vals) a w g) (hl : vals.length = vs.length)
    (hd : ∀ d, o.dst = some d → d < a.tmps.size) {v s2} (h : evCopy X.P pu t vs s1 = some (v, s2)) : Acts X pu o a w g (setT s2 o.dst v) := by
  unfold evCopy at h
  split at h
  rotate_left
  · cases h
  rename_i m1 r lo n m2 z' ys
  split at h
  rotate_left
  · cases h
  rename_i e hu
  split at h
  rotate_left
  · cases h
  rename_i hz'
  unfold cpEl at h
  split at h
  rotate_left
  · cases h
  rename_i d z xs hat
  split at h
  rotate_left
  · cases h
  rename_i hc
  obtain ⟨c1, c2, c3, c4⟩ := hc
  cases h
  obtain ⟨v0, v1, rfl⟩ : ∃ v0 v1, vals = [v0, v1] := by
    cases vals with
    | nil => simp at hl
    | cons v0 r => cases r with
      | nil => simp at hl
      | cons v1 r => cases r with
        | nil => exact ⟨v0, v1, rfl⟩
        | cons _ _ => simp at hl
  have hat0 : ats[0]? = some t := by rw [← Array.getElem?_toList, hats]; rfl
  have hargs' : args.map a.eval = #[v0, v1] := by
    cases hm : args.map a.eval with
    | mk l => rw [hm] at hargs; simp at hargs; rw [hargs]
  have hrun : ∀ rv w', (Builtin.copy_ ats o.type #[v0, v1]).run X.P w = .ok rv w' → (execOp a.eval o).run X.P w = .ok (.value rv) w' := fun rv w' hr => by
    unfold execOp; rw [ho]
    simp only [resolve, hargs', pure_bind, invoke, builtin, Sem.run_bind, hr, Result.andThen_ok]
    rfl
  have hY : KC w g m2 (.lim 1) [0] (.sl z' ys) v1 := RC.sl (R.fl 1 _ rfl)
  have hA : RC w g m1 (.lim 0) [0] (.at_ r lo n) v0 := R.fl 0 _ rfl
  obtain ⟨vy, y1, y2, y3⟩ := elems_pre (P := X.P) hY
  obtain ⟨base, cap, hv0, hbase⟩ : ∃ base cap, v0 = .slice base n cap ∧ (0 < n → base = some ⟨(g.hd r).1, (g.hd r).2.1 + lo * (g.hd r).2.2.1, none⟩) := by
    rcases hA with h | h
    · cases h
    · cases h with
      | at_ hc h hx => exact ⟨_, _, rfl, h⟩
  obtain ⟨k, hk⟩ : ∃ k, k = Nat.min ys.length n := ⟨_, rfl⟩
  have hkn : k ≤ n := by rw [hk]; exact Nat.min_le_right _ _
  have hky : k ≤ ys.length := by rw [hk]; exact Nat.min_le_left _ _
  have hkt : (ys.take n).length = k := by rw [List.length_take, hk]; exact Nat.min_comm _ _
  have run : (Builtin.copy_ ats o.type #[v0, v1]).run X.P w =
      ((match base with | some a => storeCells a ((List.range (k * z')).map vy) | none => pure ()).run X.P w).andThen fun _ w' => .ok (.int .i64 (k : Int)) w' := by
    unfold Builtin.copy_
    simp only [hat0, hv0, Sem.run_bind, run_underlying' hu, Result.andThen_ok, run_sizeOf' hz', pure_bind, y1, Sem.run_pure, List.getElem?_toArray, List.getElem?_cons_zero, List.getElem?_cons_succ, ← hk, y2 k hky]
    cases base with
    | none => rfl
    | some b0 => simp only [Sem.run_bind]; rfl
  have R0 := R.forget (fl := [])
  have fin : ∀ {s3 : St} {w' g'}, Rel s3 [] a w' g' → Le pu w g w' g' → (Builtin.copy_ ats o.type #[v0, v1]).run X.P w = .ok (.int .i64 (k : Int)) w' → Acts X pu o a w g (setT s3 o.dst (sc (.int .i64 ((Nat.min ys.length n : Nat) : Int)))) := fun {s3 w' g'} R3 L3 hr => by
    obtain ⟨g4, q1, q2⟩ := R3.tell pu hd (c := .int .i64 ((Nat.min ys.length n : Nat) : Int)) (v := .int .i64 (k : Int)) fun _ _ => by rw [← hk]; exact .inl .int
    exact ⟨_, _, g4, hrun _ _ hr, q1, L3.trans q2⟩
  rw [killEl_eq]
  have RK := R0.kill (pEl r false) noAV
  have hatk := atRoot_killed (r := r) (ow := false) hat
  by_cases hk0 : k = 0
  · have hxs : setAt xs lo (ys.take n) = xs := by
      have : ys.take n = [] := List.length_eq_zero_iff.1 (by rw [hkt]; exact hk0)
      rw [this]; simp [setAt]
    rw [hxs]
    refine fin (Rel.setRoot_kill (killC_ownsl _ _ _ _ _) (RK.setRoot_same hatk)) (.refl _ _ _) ?_
    rw [run, hk0]
    cases base <;> simp [storeCells]
  · have hn0 : 0 < n := by omega
    have hyne : ys ≠ [] := fun e => by rw [e] at hky; simp at hky; exact hk0 hky
    have hzz : z = z' := by
      obtain ⟨y, ysr, rfl⟩ := List.exists_cons_of_ne_nil hyne
      have h1 : y.length = z := by
        simp only [lenIs, List.all_eq_true, beq_iff_eq] at c2
        exact c2 y (by simp)
      have h2 : y.length = z' := by
        rcases hY.sl_inv with ⟨e, _⟩ | ⟨_, _, _, _, k⟩ | ⟨e, _⟩
        · cases e
        rotate_left
        · cases e
        · exact k.hz y (by simp)
      omega
    subst hzz
    have hxne : xs ≠ [] := fun e => by rw [e] at c4; simp at c4; omega
    have hb := hbase hn0
    obtain ⟨b, o', cap', k1, k2, kk⟩ := RK.rootAt hatk hxne
    rw [k2] at hb
    simp only at hb
    have hph : (Abs.rk r).isObj = true → NoMd isBh (s1.kill (pEl r false) noAV) := fun h => noMd_sub (noMd_kill (pEl_top _ _)) fun m hm => by
      cases r <;> first | (cases h; done) | exact hm
    have hpl : (Abs.rk r).isObj = false → NoMd isBl (s1.kill (pEl r false) noAV) := fun h => noMd_sub (noMd_kill (pEl_top _ _)) fun m hm => by
      cases r <;> first | (cases h; done) | exact hm
    have hLl : ((List.range (k * z)).map vy).length = k * z := by simp
    have hlok : (lo + k) * z ≤ xs.length * z := Nat.mul_le_mul_right z (by omega)
    rw [Nat.add_mul] at hlok
    have hset : lo + (ys.take n).length ≤ xs.length := by rw [hkt]; omega
    obtain ⟨g3, R3, L3, S3⟩ := RK.setRow (pu := pu) (xs' := setAt xs lo (ys.take n)) (b := b) (o := o') (cap := cap') (at_ := o' + lo * z) (L := (List.range (k * z)).map vy) hatk hxne
      (by cases h : (Abs.rk r).isObj with | true => exact .inl rfl | false => exact .inr (hpl h)) (by cases h : (Abs.rk r).isObj with | false => exact .inl rfl | true => exact .inr (hph h)) k2 (setAt_length _ _ _ hset)
      (fun y hy => by
        obtain ⟨i, hi⟩ := List.mem_iff_getElem?.1 hy
        rw [setAt_get _ _ _ hset] at hi
        split at hi
        · simp only [lenIs, List.all_eq_true, beq_iff_eq] at c2
          exact c2 y (List.mem_of_mem_take (List.mem_of_getElem? hi))
        · exact kk.hz y (List.mem_of_getElem? hi))
      (fun j hj => ⟨lo * z + j, by rw [hLl] at hj; omega, by omega⟩)
      (fun i y j c hy hc => by
        have hj : j < z := by
          rw [setAt_get _ _ _ hset] at hy
          split at hy
          · simp only [lenIs, List.all_eq_true, beq_iff_eq] at c2
            rw [← c2 y (List.mem_of_mem_take (List.mem_of_getElem? hy))]; exact (List.getElem?_eq_some_iff.1 hc).1
          · rw [← kk.hz y (List.mem_of_getElem? hy)]; exact (List.getElem?_eq_some_iff.1 hc).1
        rw [setAt_get _ _ _ hset, hkt] at hy
        split at hy
        · rename_i hi
          left
          obtain ⟨i', rfl⟩ : ∃ i', i = lo + i' := ⟨i - lo, by omega⟩
          rw [Nat.add_sub_cancel_left] at hy
          have hi' : i' < k := by omega
          have hp := pos_lt hi' hj
          have hy' : ys[i']? = some y := by rw [List.getElem?_take] at hy; split at hy; exact hy; cases hy
          refine ⟨i' * z + j, vy (i' * z + j), by simp [hp], by rw [Nat.add_mul]; omega, ?_⟩
          exact RC.plainAt (g' := g) (.inl (y3 i' y j c hy' hc)) (flat_scalar c1 hy' hc) (fun _ _ => rfl) (Nat.le_refl _) _ _ _
        · rename_i hi
          refine .inr ⟨?_, y, hy, hc⟩
          rw [hLl]
          by_cases h : i < lo
          · have : (i + 1) * z ≤ lo * z := Nat.mul_le_mul_right z h
            rw [Nat.succ_mul] at this
            left; omega
          · have : (lo + k) * z ≤ i * z := Nat.mul_le_mul_right z (by omega)
            rw [Nat.add_mul] at this
            right; omega)
      (fun hp => by
        rw [hp] at c3
        cases r <;> first | rfl | (simp [rootedObj, AV.root] at c3))
    refine fin (R3.setRoot_kill (killC_ownsl _ _ _ _ _)) L3 ?_
    rw [run, hb]
    have hst : (storeCells ⟨b, o' + lo * z, none⟩ ((List.range (k * z)).map vy)).run X.P w = .ok () (w.setCells b (o' + lo * z) ((List.range (k * z)).map vy)) := by
      have := run_storeCells (P := X.P) (b := b) ((List.range (k * z)).map vy) (o' + lo * z) 0 w (fun j hj => by
        rw [hLl] at hj
        have := kk.room rfl (lo * z + j) (by
          have : xs.length * z ≤ cap' * z := Nat.mul_le_mul_right z kk.hcap
          omega)
        rw [show o' + lo * z + (0 + j) = o' + (lo * z + j) from by omega]; exact this) (fun u hu => by
          obtain ⟨q, hq, rfl⟩ := List.mem_map.1 hu
          rw [List.mem_range] at hq
          have hz0 : 0 < z := by
            rcases Nat.eq_zero_or_pos z with h | h
            · rw [h] at hq; simp at hq
            · exact h
          have hi : q / z < ys.length := Nat.lt_of_lt_of_le (Nat.div_lt_of_lt_mul (by rw [Nat.mul_comm]; exact hq)) hky
          have hx : ys[q / z]? = some ys[q / z] := by simp [hi]
          have hj : q % z < ys[q / z].length := by
            have : ys[q / z].length = z := by
              simp only [lenIs, List.all_eq_true, beq_iff_eq] at c2
              exact c2 _ (List.getElem_mem hi)
            rw [this]; exact Nat.mod_lt _ hz0
          have := (y3 _ _ _ _ hx (by simp [hj] : ys[q / z][q % z]? = some ys[q / z][q % z])).oneCell
          rw [show q / z * z + q % z = q from by rw [Nat.mul_comm]; exact Nat.div_add_mod q z] at this
          exact this)
      rw [Nat.add_zero] at this; exact this
    simp only [hst, Result.andThen_ok]
end
end Go.Proofs.Abs
/- Parts taken out of an element. -/
namespace Go.Proofs.Abs
open Go
set_option linter.unusedVariables false
set_option linter.unusedSimpArgs false

section
variable {X : Cx} {pu : Pu} {s s' : St} {a : Act} {w : World} {g : Gh} {lc : List Nat}

def Ftk (k : Rk) (πr : List Nat) (i off n : Nat) (r : Rk) (π : List Nat) : Ow :=
  match π with
  | o' :: i' :: q :: ρ => if r = k ∧ πr = [o'] ∧ i' = i ∧ off ≤ q ∧ q < off + n then .pth (.lim 0) ((q - off) :: ρ) else .pth r (o' :: i' :: q :: ρ)
  | π => .pth r π
theorem Ftk_ext {k πr i off n} (r π) : Ftk k πr i off n r π ≠ .ext := by
  unfold Ftk
  split
  · split <;> simp
  · simp
theorem Ftk_keep {k πr i off n r} (h : r ≠ k) (π) : Ftk k πr i off n r π = .pth r π := by
  unfold Ftk
  split
  · rw [if_neg (fun h' => h h'.1)]
  · rfl
theorem KC.mvd {F : Rk → List Nat → Ow} {m r π c v r' π'} (h : KC w g m r π c v) (hm : m = .top ∨ ∃ d, m = .own d) (hf : ∀ ρ, F r (π ++ ρ) = .pth r' (π' ++ ρ)) : KC w (relabel F g) m r' π' c v := by
  refine KC.map (g := g) (g' := relabel F g) (r := r) (r' := r') (fun m π m' π' => m' = m ∧ (m = .top ∨ ∃ d, m = .own d) ∧ ∀ ρ, F r (π ++ ρ) = .pth r' (π' ++ ρ)) (Nat.le_refl _) (fun _ hi => ⟨hi, rfl⟩) ?_ h ⟨rfl, hm, hf⟩
  rintro m π m' π' ⟨rfl, hm, hf⟩
  refine ⟨fun h => h, fun h => h, fun b e hb ho => ⟨?_, fun _ _ _ => rfl⟩, fun _ _ _ _ _ _ h => h, fun i j => ⟨rfl, ?_, fun ρ => by rw [List.append_assoc, List.append_assoc]; exact hf _⟩⟩
  · rcases hm with rfl | ⟨d, rfl⟩
    · exact ho.elim
    · cases d with
      | zero =>
        change g.own b = .shared at ho
        show (relabel F g).own b = .shared
        simp [relabel, ho]
      | succ d => exact ⟨by rw [relabel_own ho.1]; simpa using hf [], ho.2⟩
  · rcases hm with rfl | ⟨d, rfl⟩
    · exact .inl rfl
    · cases d with
      | zero => exact .inr ⟨0, rfl⟩
      | succ d => exact .inr ⟨d, rfl⟩
theorem rp_one (r : Rt) : ∃ o, rp r = [o] := by cases r <;> exact ⟨_, rfl⟩

theorem toldL_el_take {o : Oper} {ty x} (ho : o.op = .load ty x) (R : Rel s [] a w g) (hd : ∀ d, o.dst = some d → d < a.tmps.size) {agg n m r i off tv s1}
    (ha : isAggT X.P ty = some agg) (hn : szOf X.P ty = some n) (hx : opnd X.P s 0 x = some (.one m (.el r i off)))
    (h : ldEl .take agg n r i off s (atRoot s r) = some (tv, s1)) : ∃ b o', ToldL X ⟨false, lc⟩ o a w g (setT s1 o.dst tv) b o' n := by
  unfold ldEl at h
  split at h
  rotate_left
  · cases h
  rename_i d z xs hat
  split at h
  rotate_left
  · cases h
  rename_i x0 hxi
  split at h
  rotate_left
  · cases h
  rename_i hoff
  simp only at h
  split at h
  · cases h
  rename_i hd0
  unfold mkV at h
  split at h
  rotate_left
  · cases h
  rename_i tv' ht
  cases h
  obtain ⟨rr, _, hr⟩ := R.val hx
  have RK := R.kill isB noAV
  have hatk : atRoot (s.kill isB noAV) r = some (.own (d + 1), .sl z xs) := by
    have := atRoot_killed (r := .obj 0 0) (ow := true) hat
    exact this
  have hno : NoMd isB (s.kill isB noAV) := noMd_kill rfl
  have hl : NoMd isBl (s.kill isB noAV) := noMd_sub hno fun m hm => by simp only [isBl, decide_eq_true_eq] at hm; subst hm; rfl
  have hh : NoMd isBh (s.kill isB noAV) := noMd_sub hno fun m hm => by simp only [isBh, decide_eq_true_eq] at hm; subst hm; rfl
  have hxne : xs ≠ [] := fun e => by rw [e] at hxi; simp at hxi
  obtain ⟨b, o', cap, v1, v2, k⟩ := RK.rootAt hatk hxne
  obtain ⟨hown, hfr⟩ := k.hok
  obtain ⟨or, hor⟩ := rp_one r
  let F := Ftk (rk r) (rp r) i off n
  have Fin : ∀ q, off ≤ q → q < off + n → ∀ ρ, F (rk r) ((rp r ++ [i, q]) ++ ρ) = .pth (.lim 0) ([q - off] ++ ρ) := fun q h1 h2 ρ => by
    show Ftk _ _ _ _ _ _ _ = _
    rw [hor]
    simp [Ftk, h1, h2]
  have Fout : ∀ i' q, ¬(i' = i ∧ off ≤ q ∧ q < off + n) → ∀ ρ, F (rk r) ((rp r ++ [i', q]) ++ ρ) = .pth (rk r) ((rp r ++ [i', q]) ++ ρ) := fun i' q h ρ => by
    show Ftk _ _ _ _ _ _ _ = _
    rw [hor]
    simp only [Ftk, List.cons_append, List.nil_append]
    rw [if_neg (fun h' => h h'.2.2)]
  have C1 : Chg (fun r' π => ∀ ρ, F r' (π ++ ρ) = .pth r' (π ++ ρ)) false false w g w (relabel F g) := chg_relabelW (fun h => by cases h) (fun h => by cases h)
  have hx0 : x0.length = z := k.hz x0 (List.mem_of_getElem? hxi)
  have hil : i < xs.length := (List.getElem?_eq_some_iff.1 hxi).1
  have hnl : (((x0.drop off).take n).map fun a : AV => if a.scalar then a else .junk).length = n := by simp; omega
  have hset : off + (((x0.drop off).take n).map fun a : AV => if a.scalar then a else .junk).length ≤ x0.length := by rw [hnl]; exact hoff
  have part : ∀ j c, ((x0.drop off).take n)[j]? = some c → j < n ∧ x0[off + j]? = some c := fun j c hc => by
    rw [List.getElem?_take] at hc
    split at hc
    · rename_i hj; rw [List.getElem?_drop] at hc; exact ⟨hj, hc⟩
    · cases hc
  -- the row
  have S : SlAt w (relabel F g) (.own (d + 1)) (rk r) (rp r) z (xs.set i (setAt x0 off (((x0.drop off).take n).map fun a => if a.scalar then a else .junk))) b o' cap := by
    refine ⟨k.hb, ⟨by rw [relabel_own hown, hor]; rfl, by rw [List.length_set]; exact hfr⟩, fun y hy => ?_, by rw [List.length_set]; exact k.hcap, k.room, fun i' y j c hy hc => ?_⟩
    · rcases List.mem_or_eq_of_mem_set hy with h | h
      · exact k.hz y h
      · rw [h, setAt_length _ _ _ hset]; exact hx0
    · rw [List.getElem?_set] at hy
      split at hy
      · rename_i e
        subst e
        cases hy
        rw [setAt_get _ _ _ hset, hnl] at hc
        split at hc
        · rename_i hj
          rw [List.getElem?_map, Option.map_eq_some_iff] at hc
          obtain ⟨c0, h1, rfl⟩ := hc
          obtain ⟨_, h2⟩ := part _ _ h1
          rw [show off + (j - off) = j from by omega] at h2
          obtain ⟨u, h3, h4⟩ := k.cell i x0 j c0 hxi h2
          refine ⟨u, h3, ?_⟩
          split
          · rename_i hs
            exact RC.plainAt (g' := relabel F g) (.inl h4) hs (fun _ _ => rfl) (Nat.le_refl _) _ _ _
          · exact .junk h4.oneCell
        · rename_i hj
          obtain ⟨u, h3, h4⟩ := k.cell i x0 j c hxi hc
          exact ⟨u, h3, h4.mvd (.inr ⟨d, rfl⟩) (Fout i j fun h => hj h.2)⟩
      · rename_i e
        obtain ⟨u, h3, h4⟩ := k.cell i' y j c hy hc
        exact ⟨u, h3, h4.mvd (.inr ⟨d, rfl⟩) (Fout i' j fun h => e h.1.symm)⟩
  have KR := S.kc
  rw [List.length_set] at KR
  have R1 := RK.setRowG C1 hatk (.inr hl) (.inr hh) (fun r' π h _ ρ => Ftk_keep h _) (fun q hq ρ => by
    show Ftk _ _ _ _ _ _ _ = _
    rw [hor] at hq ⊢
    unfold Ftk
    split
    · rename_i e
      simp at e
      rw [if_neg (fun h' => hq (by simp only [List.cons.injEq, and_true] at h'; rw [h'.2.1, e.1])), e.1, e.2]
      rfl
    · rfl) (fun b' rr hb h _ => ⟨by rw [relabel_own h]; rfl, rfl, fun _ _ => rfl, fun _ h => h⟩) (.refl _) v1 KR
  -- the value
  have hex : ∃ vs : Nat → Value, ∀ j, j < n → cel w b (o' + i * z + off + j) = some (vs j) := ⟨fun j => (cel w b (o' + i * z + off + j)).getD undef, fun j hj => by
    have hlt : off + j < x0.length := by omega
    obtain ⟨v, hv, _⟩ := k.cell i x0 (off + j) x0[off + j] hxi (by simp [hlt])
    rw [show o' + i * z + (off + j) = o' + i * z + off + j from by omega] at hv
    show _ = some ((cel w b _).getD undef)
    rw [hv]; rfl⟩
  obtain ⟨vs, hvs⟩ := hex
  obtain ⟨h1, h2⟩ := loaded_RT (w := w) (g := relabel F g) (vs := vs) ht (by simp [rdCells]; omega : (rdCells (.own d) ((x0.drop off).take n)).length = n) (r := .lim 0) fun j c hc => by
    unfold rdCells at hc
    rw [List.getElem?_map, Option.map_eq_some_iff] at hc
    obtain ⟨c0, h1, rfl⟩ := hc
    obtain ⟨hj, h2⟩ := part _ _ h1
    obtain ⟨u, h3, h4⟩ := k.cell i x0 (off + j) c0 hxi h2
    rw [show o' + i * z + (off + j) = o' + i * z + off + j from by omega, hvs j hj] at h3
    cases h3
    simp only
    split
    · rename_i hs
      exact .inl (RC.plainAt (g' := relabel F g) (.inl h4) hs (fun _ _ => rfl) (Nat.le_refl _) _ _ _)
    · have := h4.mvd (F := F) (r' := .lim 0) (π' := [j]) (.inr ⟨d, rfl⟩) (fun ρ => by
        have := Fin (off + j) (by omega) (by omega) ρ
        rw [Nat.add_sub_cancel_left] at this; exact this)
      exact .inl this
  have R2 := (Rel.setRoot_kill (p := isB) (by rfl) R1).push (fl := []) h1
  obtain ⟨g', k1, k2⟩ := R2.finish ⟨false, lc⟩ hd
  refine ⟨b, o' + i * z + off, _, g', fun w' hw => ?_, k1, (le_relabel2 ⟨false, lc⟩ (fun h => by cases h) (fun _ t => by rfl) Ftk_ext).trans k2⟩
  unfold execOp; rw [ho]
  have hval : a.eval x = ptr b (o' + i * z + off) := by rw [hr.one.el, v2]
  simp only [Sem.run_bind, Instr.loadAt, hval, ptr, Instr.sureAddr, pure_bind]
  rw [run_loadVar ha hn h2 fun j hj => (hw j hj).trans (hvs j hj)]
  rfl
end
end Go.Proofs.Abs
/- Calls: into a function, and out of it. -/
namespace Go.Proofs.Abs
open Go
set_option linter.unusedVariables false
set_option linter.unusedSimpArgs false

section
variable {X : Cx} {pu : Pu} {s s' : St} {a : Act} {w : World} {g : Gh}

def enterO (own : Bool) : Ow → Ow
  | .pth (.lim i) π => if own then .pth (.tmp i) π else .ext
  | .pth (.obj id) π => .pth (.obj id) π
  | .pth _ _ => .ext
  | .itr => .ext
  | o => o
def hdV : Option TV → Option Value → Nat × Nat × Nat × Nat
  | some (.one _ (.sl z _)), some (.slice (some a) _ cap) => (a.block, a.off, z, cap)
  | _, _ => (0, 0, 0, 0)
def enterG (own : Bool) (args : List TV) (us : List Value) (g : Gh) : Gh :=
  { g with own := fun b => enterO own (g.own b), hd := fun r => match r with
    | .tmp t => hdV args[t]? us[t]?
    | r => g.hd r }

theorem mapO_get {α β : Type} {f : α → Option β} : ∀ {l : List α} {l' : List β}, mapO f l = some l' → l'.length = l.length ∧ ∀ (i : Nat) b, l'[i]? = some b → ∃ x, l[i]? = some x ∧ f x = some b
  | [], l', h => by cases h; exact ⟨rfl, fun i b h => by simp at h⟩
  | x :: l, l', h => by
    simp only [mapO, Option.bind_eq_some_iff, Option.map_eq_some_iff] at h
    obtain ⟨b, h1, bs, h2, rfl⟩ := h
    obtain ⟨k1, k2⟩ := mapO_get h2
    refine ⟨by simp [k1], fun i b' hb => ?_⟩
    cases i with
    | zero => simp at hb; subst hb; exact ⟨x, rfl, h1⟩
    | succ i => exact k2 i b' (by simpa using hb)
theorem find_number {α : Type} : ∀ (l : List α) (k t : Nat) (x : α), find t (number k l) = some x → k ≤ t ∧ l[t - k]? = some x
  | [], k, t, x, h => by cases h
  | y :: l, k, t, x, h => by
    simp only [number, find] at h
    split at h
    · rename_i e; cases h; subst e; simp
    · obtain ⟨h1, h2⟩ := find_number l (k + 1) t x h
      refine ⟨by omega, ?_⟩
      rw [show t - k = (t - (k + 1)) + 1 from by omega]; exact h2

def passMd (own : Bool) (m m' : Md) : Prop := (m' = m ∧ (m = .bl → own = true)) ∨ (m = .bl ∧ m' = .ro ∧ own = false)
theorem KC.pass {own args us m m' t π c v} (h : KC w g m (.lim t) π c v) (hm : passMd own m m') (ho : m.owned = true → own = true) : KC w (enterG own args us g) m' (.tmp t) π c v := by
  refine KC.map (g := g) (g' := enterG own args us g) (r := .lim t) (r' := .tmp t) (fun m π m' π' => passMd own m m' ∧ (m.owned = true → own = true) ∧ π' = π) (Nat.le_refl _) (fun _ hi => ⟨hi, rfl⟩) ?_ h ⟨hm, ho, rfl⟩
  rintro m π m' π' ⟨hm, ho, rfl⟩
  refine ⟨fun h => ?_, fun h => ?_, fun b e hb hok => ⟨?_, fun _ _ _ => rfl⟩, fun _ _ _ _ _ _ h => h, fun i j => ⟨?_, fun h => ho (Md.inner_owned h), rfl⟩⟩
  · rcases hm with ⟨rfl, _⟩ | ⟨rfl, rfl, _⟩
    · exact h
    · simp
  · rcases hm with ⟨rfl, _⟩ | ⟨rfl, rfl, _⟩
    · exact h
    · cases h
  · have nonobj : ∀ {r0 : Rk} {π0 e0}, g.own b = .pth r0 π0 → r0.isObj = false → e0 ≤ g.fr b → (enterG own args us g).own b = .ext ∨ ∃ r π, (enterG own args us g).own b = .pth r π ∧ r.isObj = false ∧ e0 ≤ (enterG own args us g).fr b := fun {r0 π0 e0} h1 h2 h3 => by
      show enterO own (g.own b) = .ext ∨ ∃ r π, enterO own (g.own b) = .pth r π ∧ r.isObj = false ∧ e0 ≤ g.fr b
      rw [h1]
      cases r0 with
      | obj id => cases h2
      | loc t => exact .inl rfl
      | tmp t => exact .inl rfl
      | lim i =>
        cases own with
        | true => exact .inr ⟨_, _, rfl, rfl, h3⟩
        | false => exact .inl rfl
    rcases hm with ⟨rfl, hbl⟩ | ⟨rfl, rfl, hown⟩
    · cases m' with
      | top => exact hok.elim
      | own d => cases d with
        | zero =>
          show enterO own (g.own b) = .shared
          rw [show g.own b = .shared from hok]; rfl
        | succ d =>
          refine ⟨?_, hok.2⟩
          show enterO own (g.own b) = _
          rw [hok.1, ho rfl]; rfl
      | ro =>
        rcases hok with h | h
        · exact .inl (by show enterO own (g.own b) = _; rw [h]; rfl)
        · exact .inr (by show enterO own (g.own b) = _; rw [h]; rfl)
      | bl =>
        rcases hok with h | h | ⟨r0, π0, h1, h2, h3⟩
        · exact .inl (by show enterO own (g.own b) = _; rw [h]; rfl)
        · exact .inr (.inl (by show enterO own (g.own b) = _; rw [h]; rfl))
        · rcases nonobj h1 h2 h3 with h | h
          · exact .inr (.inl h)
          · exact .inr (.inr h)
      | bh =>
        rcases hok with h | ⟨r0, π0, h1, h2, h3⟩
        · exact .inl (by show enterO own (g.own b) = _; rw [h]; rfl)
        · refine .inr ⟨r0, π0, ?_, h2, h3⟩
          show enterO own (g.own b) = _
          rw [h1]
          cases r0 <;> first | rfl | cases h2
    · rcases hok with h | h | ⟨r0, π0, h1, h2, h3⟩
      · exact .inl (by show enterO own (g.own b) = _; rw [h]; rfl)
      · exact .inr (by show enterO own (g.own b) = _; rw [h]; rfl)
      · refine .inr ?_
        show enterO own (g.own b) = _
        rw [h1, hown]
        cases r0 <;> first | rfl | cases h2
  · rcases hm with ⟨rfl, hbl⟩ | ⟨rfl, rfl, hown⟩
    · exact .inl ⟨rfl, fun h => hbl (Md.inner_bl h)⟩
    · exact .inr ⟨rfl, rfl, hown⟩

theorem passC_ok {own args us m c t π v} {d : MC} (h : passC own (m, c) = some d) (hr : RC w g m (.lim t) π c v) (ho : m.owned = true → own = true) : RC w (enterG own args us g) d.1 (.tmp t) π d.2 v := by
  unfold passC at h
  split at h
  · rename_i m0 z xs he
    cases he
    have hk := RC.sl hr
    split at h
    · cases h
    · cases h
      refine .inl (hk.pass ?_ ho)
      cases own with
      | true => exact .inl ⟨rfl, fun _ => rfl⟩
      | false => exact .inr ⟨rfl, rfl, rfl⟩
    · rename_i hnt hnb
      cases h
      exact .inl (hk.pass (.inl ⟨rfl, fun e => absurd e hnb⟩) ho)
  · cases h
    exact .inl (.junk hr.oneCell)
  · rename_i m0 a0 h1 h2 he
    cases he
    split at h
    · rename_i hs
      cases h
      exact .inl (RC.plainAt (g' := enterG own args us g) hr hs (fun _ _ => rfl) (Nat.le_refl _) _ _ _)
    · cases h
theorem passT_ok {own args us t tv tv' v} (h : passT own tv = some tv') (hr : RT w g (.lim t) tv v) (ho : anyOwned tv.cells = true → own = true) : RT w (enterG own args us g) (.tmp t) tv' v := by
  have hoc : ∀ c : MC, c ∈ tv.cells → c.1.owned = true → own = true := fun c hc h => ho (List.any_eq_true.2 ⟨c, hc, h⟩)
  cases tv with
  | one m c =>
    simp only [passT, Option.map_eq_some_iff] at h
    obtain ⟨d, h1, rfl⟩ := h
    exact passC_ok h1 hr (hoc (m, c) (by simp [TV.cells]))
  | agg cs =>
    simp only [passT, Option.map_eq_some_iff] at h
    obtain ⟨ds, h1, rfl⟩ := h
    obtain ⟨vs, rfl, h2, h3⟩ := hr
    obtain ⟨k1, k2⟩ := mapO_get h1
    refine ⟨vs, rfl, h2.trans k1.symm, fun j d hd => ?_⟩
    obtain ⟨c, hc, hp⟩ := k2 j d hd
    obtain ⟨u, hu, hk⟩ := h3 j c hc
    exact ⟨u, hu, passC_ok (m := c.1) (c := c.2) hp hk (hoc c (List.mem_of_getElem? hc))⟩
  | tup vs => cases vs with
    | nil =>
      cases h
      obtain ⟨vs, e1, e2, _⟩ := hr
      exact ⟨vs, e1, e2, fun j tv h => by simp at h⟩
    | cons x xs => cases h

theorem chg_enter {own args us} : Chg (fun r _ => r.isObj = true) false true w g w (enterG own args us g) := by
  refine ⟨Nat.le_refl _, Nat.le_refl _, fun _ _ => rfl, fun _ _ _ h => h, fun b _ h => ⟨?_, fun _ _ => rfl⟩, fun b r π _ h hr => ⟨?_, rfl, fun _ _ => rfl, fun _ h => h⟩, fun h => by (cases h), fun _ b r π _ h hr => ⟨.inr ⟨r, π, ?_, hr, Nat.le_refl _⟩, fun _ _ _ => rfl⟩, fun h => by (cases h)⟩
  · show enterO own (g.own b) = _
    rcases h with h | h <;> rw [h] <;> rfl
  · show enterO own (g.own b) = _
    rw [h]; cases r <;> first | rfl | cases hr
  · show enterO own (g.own b) = _
    rw [h]; cases r <;> first | rfl | cases hr
theorem Rel.enter {own vs us args} (R : Rel s (vs.zip us) a w g) (hl : us.length = vs.length) (h : mapO (passT own) vs = some args) (ho : ownArgs vs = own) {a0 : Act} (ha : ∀ (i : Nat) u, us[i]? = some u → a0.tmps.getD i undef = u) :
    Rel ⟨number 0 args, [], s.h⟩ [] a0 w (enterG own args us g) := by
  obtain ⟨k1, k2⟩ := mapO_get h
  have hfind : ∀ t tv, find t (number 0 args) = some tv → ∃ v0 u, vs[t]? = some v0 ∧ us[t]? = some u ∧ passT own v0 = some tv ∧ args[t]? = some tv := fun t tv ht => by
    obtain ⟨_, h1⟩ := find_number args 0 t tv ht
    rw [Nat.sub_zero] at h1
    obtain ⟨v0, h2, h3⟩ := k2 t tv h1
    have hlt : t < us.length := by rw [hl]; exact (List.getElem?_eq_some_iff.1 h2).1
    exact ⟨v0, us[t], h2, by simp [hlt], h3, h1⟩
  have hrt : ∀ t tv, find t (number 0 args) = some tv → RT w (enterG own args us g) (.tmp t) tv (a0.tmps.getD t undef) := fun t tv ht => by
    obtain ⟨v0, u, h1, h2, h3, _⟩ := hfind t tv ht
    rw [ha t u h2]
    exact passT_ok h3 (R.fl t (v0, u) (by rw [List.getElem?_zip_eq_some]; exact ⟨h1, h2⟩)) fun h => by
      rw [← ho]; exact List.any_eq_true.2 ⟨v0, List.mem_of_getElem? h1, h⟩
  refine ⟨R.n, fun i y hi => by simp at hi, hrt, fun t cs ht => (by cases ht), fun id cs hi => (R.hp id cs hi).chg chg_enter (by rw [R.n]; exact (List.getElem?_eq_some_iff.1 hi).1) (fun _ => rfl), fun r d z xs hr b o sp len cap hv => ?_⟩
  cases r with
  | obj id off => exact R.hd (.obj id off) d z xs hr b o sp len cap hv
  | loc t off => cases hr
  | tmp t =>
    change oneOf (find t (number 0 args)) = _ at hr
    cases hf : find t (number 0 args) with
    | none => rw [hf] at hr; cases hr
    | some tv =>
      rw [hf] at hr
      obtain ⟨v0, u, h1, h2, h3, h4⟩ := hfind t tv hf
      change some (a0.tmps.getD t undef) = _ at hv
      rw [ha t u h2] at hv
      cases tv with
      | one m c =>
        cases hr
        cases hv
        show hdV args[t]? us[t]? = _
        rw [h4, h2]; rfl
      | agg cs => cases hr
      | tup vs => cases hr

/-! ### out of it -/
def mapBack : Ow → Ow
  | .pth (.lim 0) π => .pth (.lim 0) π
  | .pth (.obj id) π => .pth (.obj id) π
  | .pth _ _ => .shared
  | .itr => .shared
  | o => o
def backG (pf own : Bool) (w : World) (g g' : Gh) : Gh :=
  { n := g'.n, φ := g'.φ, ψ := g.ψ, fr := g'.fr
    own := fun b => if b < w.heap.size ∧ enterO own (g.own b) = .ext then g.own b else mapBack (g'.own b)
    hd := fun r => match r with
      | .obj id off => if pf then g.hd (.obj id off) else g'.hd (.obj id off)
      | r => g.hd r }

/-- labels of blocks that the callee did not own -/
theorem back_ext {pf own args us w' g'} (L : Le ⟨pf, []⟩ w (enterG own args us g) w' g') {b} (hb : b < w.heap.size) (h : enterO own (g.own b) = .ext) :
    (backG pf own w g g').own b = g.own b ∧ g'.own b = .ext ∧ g'.fr b = g.fr b ∧ w'.heap[b]? = w.heap[b]? := by
  obtain ⟨h1, h2, h3⟩ := L.keep b hb (.inr (.inl h))
  refine ⟨?_, h2.trans h, h3, h1⟩
  show (if _ then _ else _) = _
  rw [if_pos ⟨hb, h⟩]
theorem back_own {pf own args us w' g'} (L : Le ⟨pf, []⟩ w (enterG own args us g) w' g') {b} (h : g'.own b ≠ .ext) : (backG pf own w g g').own b = mapBack (g'.own b) := by
  show (if _ then _ else _) = _
  rw [if_neg]
  rintro ⟨hb, he⟩
  exact h ((L.keep b hb (.inr (.inl he))).2.1.trans he)
theorem cel_heap {w' : World} {b : Nat} (h : w'.heap[b]? = w.heap[b]?) (o : Nat) : cel w' b o = cel w b o := by
  show (match w'.heap[b]? with | _ => _) = _
  simp only [World.cell?, h]
theorem free_heap {w' : World} {b : Nat} (h : w'.heap[b]? = w.heap[b]?) {o : Nat} (hf : free w b o) : free w' b o := by
  refine ⟨by rw [cel_heap h]; exact hf.1, ?_⟩
  have := hf.2
  simp only [World.frozen?, h] at this ⊢
  exact this
theorem chg_back {pf own args us w' g'} (L : Le ⟨pf, []⟩ w (enterG own args us g) w' g') :
    Chg (fun r _ => (r.isObj = false ∧ ∀ i, r ≠ .lim i) ∨ (pf = true ∧ r.isObj = true)) (!own) pf w g w' (backG pf own w g g') := by
  have loc : ∀ b r π, b < w.heap.size → g.own b = .pth r π → (r.isObj = false ∧ ∀ i, r ≠ .lim i) → enterO own (g.own b) = .ext := fun b r π _ h hr => by
    rw [h]; cases r <;> first | rfl | (cases hr.1; done) | exact absurd rfl (hr.2 _)
  have obj : pf = true → ∀ b r π, b < w.heap.size → g.own b = .pth r π → r.isObj = true → (backG pf own w g g').own b = .pth r π ∧ g'.fr b = g.fr b ∧ w'.heap[b]? = w.heap[b]? := fun hp b r π hb h hr => by
    cases r with
    | obj id =>
      have h0 : (enterG own args us g).own b = .pth (.obj id) π := by show enterO own (g.own b) = _; rw [h]; rfl
      obtain ⟨k1, k2, k3⟩ := L.keep b hb (.inr (.inr (.inl ⟨hp, id, π, h0⟩)))
      rw [h0] at k2
      refine ⟨?_, k3, k1⟩
      rw [back_own L (by rw [k2]; simp), k2]; rfl
    | _ => cases hr
  refine ⟨L.size, L.n, L.ids, fun _ _ _ h => h, fun b hb h => ?_, fun b r π hb h hu => ?_, fun v b r π hb h hr => ?_, fun v b r π hb h hr => ?_, fun _ _ b hb h => by obtain ⟨k1, _, _, k4⟩ := back_ext L hb (by rw [h]; rfl); exact ⟨k1.trans h, k4⟩⟩
  · rcases h with h | h
    · have h0 : (enterG own args us g).own b = .shared := by show enterO own (g.own b) = _; rw [h]; rfl
      obtain ⟨k1, k2, k3⟩ := L.keep b hb (.inl h0)
      rw [h0] at k2
      exact ⟨by rw [back_own L (by rw [k2]; simp), k2, h]; rfl, fun o _ => cel_heap k1 o⟩
    · obtain ⟨k1, _, _, k4⟩ := back_ext L hb (by rw [h]; rfl)
      exact ⟨k1, fun o _ => cel_heap k4 o⟩
  · rcases hu with hu | ⟨hp, hr⟩
    · obtain ⟨k1, _, k3, k4⟩ := back_ext L hb (loc b r π hb h hu)
      exact ⟨k1.trans h, k3, fun o _ => cel_heap k4 o, fun o hf => free_heap k4 hf⟩
    · obtain ⟨k1, k2, k3⟩ := obj hp b r π hb h hr
      exact ⟨k1, k2, fun o _ => cel_heap k3 o, fun o hf => free_heap k3 hf⟩
  · have he : enterO own (g.own b) = .ext := by
      rw [h]
      cases r with
      | obj id => cases hr
      | lim i => simp only [enterO]; rw [if_neg (by simpa using v)]
      | _ => rfl
    obtain ⟨k1, _, k3, k4⟩ := back_ext L hb he
    refine ⟨.inr ⟨r, π, k1.trans h, hr, ?_⟩, fun o _ _ => cel_heap k4 o⟩
    show g.fr b ≤ g'.fr b
    rw [k3]; exact Nat.le_refl _
  · obtain ⟨k1, k2, k3⟩ := obj v b r π hb h hr
    refine ⟨.inr ⟨r, π, k1, hr, ?_⟩, fun o _ _ => cel_heap k3 o⟩
    show g.fr b ≤ g'.fr b
    rw [k2]; exact Nat.le_refl _
theorem le_back {pf own args us w' g'} (pu : Pu) (L : Le ⟨pf, []⟩ w (enterG own args us g) w' g') (hp : pu.ob = true → pf = true) : Le pu w g w' (backG pf own w g g') := by
  have C := chg_back L
  refine ⟨L.size, fun b hb h => ?_, fun b h1 h2 => ?_, fun b hb h => ?_, L.n, L.ids, L.os, L.tape, L.out⟩
  · rcases h with h | h | ⟨hpu, id, π, h⟩ | ⟨t, hpu, h⟩
    · have h0 : (enterG own args us g).own b = .shared := by show enterO own (g.own b) = _; rw [h]; rfl
      obtain ⟨k1, k2, k3⟩ := L.keep b hb (.inl h0)
      rw [h0] at k2
      exact ⟨k1, by rw [back_own L (by rw [k2]; simp), k2, h]; rfl, k3⟩
    · obtain ⟨k1, _, k3, k4⟩ := back_ext L hb (by rw [h]; rfl)
      exact ⟨k4, k1, k3⟩
    · have h0 : (enterG own args us g).own b = .pth (.obj id) π := by show enterO own (g.own b) = _; rw [h]; rfl
      obtain ⟨k1, k2, k3⟩ := L.keep b hb (.inr (.inr (.inl ⟨hp hpu, id, π, h0⟩)))
      rw [h0] at k2
      exact ⟨k1, by rw [back_own L (by rw [k2]; simp), k2, h]; rfl, k3⟩
    · obtain ⟨k1, _, k3, k4⟩ := back_ext L hb (by rw [h]; rfl)
      exact ⟨k4, k1, k3⟩
  · have h0 := L.new b h1 h2
    rw [back_own L h0]
    cases hq : g'.own b with
    | shared => simp [mapBack]
    | itr => simp [mapBack]
    | ext => exact absurd hq h0
    | pth r π =>
      cases r with
      | lim i => cases i <;> simp [mapBack]
      | _ => simp [mapBack]
  · by_cases he : enterO own (g.own b) = .ext
    · exact (back_ext L hb he).1 ▸ h
    · have hne : g'.own b ≠ .ext := fun hq => he (L.ext b hb hq)
      rw [back_own L hne] at h
      cases hq : g'.own b with
      | shared => rw [hq] at h; cases h
      | itr => rw [hq] at h; cases h
      | ext => exact absurd hq hne
      | pth r π =>
        rw [hq] at h
        cases r with
        | lim i => cases i <;> cases h
        | _ => cases h
/-- what comes back -/
theorem KC.back {pf own args us w' g' m r π c v} (L : Le ⟨pf, []⟩ w (enterG own args us g) w' g') (h : KC w' g' m r π c v) (hm : m = .top ∨ (∃ d, m = .own d) ∨ m = .bh) (hr : r = .lim 0 ∨ r.isObj = true) :
    KC w' (backG pf own w g g') m r π c v := by
  refine KC.map (g := g') (g' := backG pf own w g g') (r := r) (r' := r) (fun m π m' π' => m' = m ∧ π' = π ∧ (m = .top ∨ (∃ d, m = .own d) ∨ m = .bh)) (Nat.le_refl _) (fun _ hi => ⟨hi, rfl⟩) ?_ h ⟨rfl, rfl, hm⟩
  rintro m π m' π' ⟨rfl, rfl, hm⟩
  refine ⟨id, id, fun b e hb hok => ⟨?_, fun _ _ _ => rfl⟩, fun _ _ _ _ _ _ h => h, fun i j => ⟨rfl, rfl, ?_⟩⟩
  · rcases hm with rfl | ⟨d, rfl⟩ | rfl
    · exact hok.elim
    · cases d with
      | zero =>
        have h1 : g'.own b = .shared := hok
        show (backG pf own w g g').own b = .shared
        rw [back_own L (by rw [h1]; simp), h1]; rfl
      | succ d =>
        obtain ⟨h1, h2⟩ := hok
        refine ⟨?_, h2⟩
        rw [back_own L (by rw [h1]; simp), h1]
        rcases hr with rfl | hr
        · rfl
        · cases r <;> first | rfl | cases hr
    · rcases hok with h1 | ⟨r0, π0, h1, h2, h3⟩
      · refine .inl ?_
        rw [back_own L (by rw [h1]; simp), h1]; rfl
      · refine .inr ⟨r0, π0, ?_, h2, h3⟩
        rw [back_own L (by rw [h1]; simp), h1]
        cases r0 <;> first | rfl | cases h2
  · rcases hm with rfl | ⟨d, rfl⟩ | rfl
    · exact .inl rfl
    · right; left; cases d with
      | zero => exact ⟨0, rfl⟩
      | succ d => exact ⟨d, rfl⟩
    · exact .inr (.inr rfl)
end
end Go.Proofs.Abs
/- Behind a call. -/
namespace Go.Proofs.Abs
open Go
set_option linter.unusedVariables false
set_option linter.unusedSimpArgs false

section
variable {X : Cx} {pu : Pu} {s s' : St} {a : Act} {w : World} {g : Gh}

theorem all_killC {P : MC → Prop} {p q} (hk : ∀ c, P c → P (killC p q c)) {tv : TV} (h : ∀ c, c ∈ tv.all → P c) : ∀ c, c ∈ (killT p q tv).all → P c := by
  have k1 : ∀ tv, (∀ c, c ∈ all1 tv → P c) → ∀ c, c ∈ all1 (kill1 p q tv) → P c := fun tv h c hc => by
    cases tv with
    | one m a => simp [kill1, all1] at hc; subst hc; exact hk (m, a) (h _ (by simp [all1]))
    | agg cs => simp only [kill1, all1, List.mem_map] at hc; obtain ⟨c0, h3, rfl⟩ := hc; exact hk c0 (h c0 h3)
    | tup vs => simp [kill1, all1] at hc
  intro c hc
  cases tv with
  | one m a => exact k1 (.one m a) h c hc
  | agg cs => exact k1 (.agg cs) h c hc
  | tup vs =>
    simp only [killT, TV.all, List.mem_flatMap, List.mem_map] at hc
    obtain ⟨tv', ⟨tv1, h3, rfl⟩, hc⟩ := hc
    exact k1 tv1 (fun c hc => h c (List.mem_flatMap.2 ⟨tv1, h3, hc⟩)) c hc
theorem NoMd.kill {p p' : Md → Bool} {q' : AV → Bool} (hp : p .top = false) (h : NoMd p s) : NoMd p (s.kill p' q') := by
  have hk : ∀ c : MC, p c.1 = false ∧ c.2.lent p = false → p (killC p' q' c).1 = false ∧ (killC p' q' c).2.lent p = false := fun c h => by
    unfold killC
    split
    · exact ⟨hp, rfl⟩
    · exact h
  refine ⟨fun t tv ht c hc => ?_, fun t cs ht c hc => ?_⟩
  · rw [find_kill_t, Option.map_eq_some_iff] at ht
    obtain ⟨tv0, h1, rfl⟩ := ht
    exact all_killC (P := fun c => p c.1 = false ∧ c.2.lent p = false) hk (h.1 t tv0 h1) c hc
  · rw [find_kill_l, Option.map_eq_some_iff] at ht
    obtain ⟨cs0, h1, rfl⟩ := ht
    obtain ⟨c0, h3, rfl⟩ := List.mem_map.1 hc
    exact hk c0 (h.2 t cs0 h1 c0 h3)
theorem NoRoot.kill {D : Rt → Bool} {p' : Md → Bool} {q' : AV → Bool} (h : NoRoot D s []) : NoRoot D (s.kill p' q') [] := by
  have hk : ∀ c : MC, (∀ q, c.2.root = some q → D q = false) → ∀ q, (killC p' q' c).2.root = some q → D q = false := fun c h => by
    unfold killC
    split
    · intro q hq; cases hq
    · exact h
  refine ⟨fun t tv ht c hc => ?_, fun t cs ht c hc => ?_, fun x hx => by cases hx⟩
  · rw [find_kill_t, Option.map_eq_some_iff] at ht
    obtain ⟨tv0, h1, rfl⟩ := ht
    exact all_killC (P := fun c => ∀ q, c.2.root = some q → D q = false) hk (h.1 t tv0 h1) c hc
  · rw [find_kill_l, Option.map_eq_some_iff] at ht
    obtain ⟨cs0, h1, rfl⟩ := ht
    obtain ⟨c0, h3, rfl⟩ := List.mem_map.1 hc
    exact hk c0 (h.2.1 t cs0 h1 c0 h3)

def retOk (c : MC) : Bool := match c with
  | (.own _, .sl _ _) => true
  | (.bh, .sl _ _) => true
  | (_, .junk) => true
  | (_, a) => a.scalar
def retOkT (tv : TV) : Bool := tv.all.all retOk
def isObjRt (q : Rt) : Bool := match q with
  | .obj _ _ => true
  | _ => false
theorem rootedObj_root (a : AV) (q : Rt) (h : a.root = some q) (hD : isObjRt q = true) : rootedObj a = true := by
  cases q with
  | obj id off => simp [rootedObj, h]
  | _ => cases hD

theorem RC.back {pf own args us w' g' π u} {c : MC} (L : Le ⟨pf, []⟩ w (enterG own args us g) w' g') (h : RC w' g' c.1 (.lim 0) π c.2 u) (hr : retOk c = true) : RC w' (backG pf own w g g') c.1 (.lim 0) π c.2 u := by
  obtain ⟨m, c⟩ := c
  unfold retOk at hr
  split at hr
  · rename_i he; cases he
    exact .inl ((RC.sl h).back L (.inr (.inl ⟨_, rfl⟩)) (.inl rfl))
  · rename_i he; cases he
    exact .inl ((RC.sl h).back L (.inr (.inr rfl)) (.inl rfl))
  · rename_i he; cases he
    exact .inl (.junk h.oneCell)
  · rename_i he; cases he
    exact .inl (RC.plainAt (g' := backG pf own w g g') h hr (fun _ _ => rfl) (Nat.le_refl _) _ _ _)
theorem RT1.back {pf own args us w' g' π u tv} (L : Le ⟨pf, []⟩ w (enterG own args us g) w' g') (h : RT1 w' g' (.lim 0) π tv u) (hr : ∀ c, c ∈ all1 tv → retOk c = true) : RT1 w' (backG pf own w g g') (.lim 0) π tv u := by
  cases tv with
  | one m a => exact RC.back (c := (m, a)) L h (hr _ (by simp [all1]))
  | agg cs =>
    obtain ⟨vs, hv, h⟩ := h
    refine ⟨vs, hv, h.map rfl fun j c c' v hc hc' hk => ?_⟩
    rw [hc] at hc'; cases hc'
    exact hk.back L (hr c (List.mem_of_getElem? hc))
  | tup vs => cases vs with
    | nil => exact h
    | cons x xs => exact h.elim
theorem RT.back {pf own args us w' g' u tv} (L : Le ⟨pf, []⟩ w (enterG own args us g) w' g') (h : RT w' g' (.lim 0) tv u) (hr : retOkT tv = true) : RT w' (backG pf own w g g') (.lim 0) tv u := by
  have hr' : ∀ c, c ∈ tv.all → retOk c = true := fun c hc => List.all_eq_true.1 hr c hc
  cases tv with
  | one m a => exact RT1.back (tv := .one m a) L h hr'
  | agg cs => exact RT1.back (tv := .agg cs) L h hr'
  | tup tvs =>
    obtain ⟨vs, hv, hs, h⟩ := h
    refine ⟨vs, hv, hs, fun j tv ht => ?_⟩
    obtain ⟨u, hu, hk⟩ := h j tv ht
    exact ⟨u, hu, hk.back L fun c hc => hr' c (List.mem_flatMap.2 ⟨tv, List.mem_of_getElem? ht, hc⟩)⟩

theorem Rel.back0 {pf own args us hf hfin a' v u w' g'} (R : Rel s [] a w g) (L : Le ⟨pf, []⟩ w (enterG own args us g) w' g') (Rc : Rel ⟨[], [], hf⟩ [(v, u)] a' w' g') (hret : retOkT v = true)
    (hl : own = true → NoMd isBl s) (hh : pf = false → NoMd isBh s ∧ NoRoot isObjRt s []) (hpf : pf = true → hfin = s.h ∧ hf.length = s.h.length) (hnp : pf = false → hf = hfin) :
    Rel { s with h := hfin } [(v, u)] a w' (backG pf own w g g') := by
  have C := chg_back L
  have hl' : (!own) = true ∨ NoMd isBl s := by
    cases h : own with
    | false => exact .inl rfl
    | true => exact .inr (hl h)
  have hh' : pf = true ∨ NoMd isBh s := by
    cases h : pf with
    | true => exact .inl rfl
    | false => exact .inr (hh h).1
  have hdq : ∀ c : MC, (pf = false → ∀ q, c.2.root = some q → isObjRt q = false) → ∀ q, c.2.root = some q → (backG pf own w g g').hd q = g.hd q := fun c h q hq => by
    cases q with
    | obj id off =>
      show (if pf then _ else _) = _
      cases hp : pf with
      | true => rfl
      | false => have := h hp _ hq; cases this
    | _ => rfl
  have ok : ∀ {c : MC} {r π}, Safe (!own) pf c → (r.isObj = false ∧ ∀ i, r ≠ Rk.lim i) → (pf = false → ∀ q, c.2.root = some q → isObjRt q = false) →
      cellOk (fun r _ => (r.isObj = false ∧ ∀ i, r ≠ .lim i) ∨ (pf = true ∧ r.isObj = true)) (!own) pf g (backG pf own w g g') r π c := fun {c r π} h1 h2 h3 => by
    refine ⟨fun _ => .inl h2, ?_, ?_, ?_⟩
    · have := (h1.ok (U := fun _ _ => True) (g := g) (g' := g) (r := r) (π := π) trivial (fun _ => rfl) (fun _ => rfl)).l; exact this
    · have := (h1.ok (U := fun _ _ => True) (g := g) (g' := g) (r := r) (π := π) trivial (fun _ => rfl) (fun _ => rfl)).h; exact this
    · have h4 := (h1.ok (U := fun _ _ => True) (g := g) (g' := g) (r := r) (π := π) trivial (fun _ => rfl) (fun _ => rfl)).e
      have h5 := hdq c h3
      cases hc : c.2 with
      | el q i off => rw [hc] at h5; exact h5 q rfl
      | at_ q lo n => rw [hc] at h5; exact h5 q rfl
      | rd mo mi cs off => rw [hc] at h4; exact h4
      | it b pos => rw [hc] at h4; exact h4
      | loc t off => rfl
      | _ => trivial
  have hroot : ∀ t tv, find t s.t = some tv → ∀ c, c ∈ tv.all → pf = false → ∀ q, c.2.root = some q → isObjRt q = false := fun t tv ht c hc hp => (hh hp).2.1 t tv ht c hc
  have hrootl : ∀ t cs, find t s.l = some cs → ∀ c, c ∈ cs → pf = false → ∀ q, c.2.root = some q → isObjRt q = false := fun t cs ht c hc hp => (hh hp).2.2.1 t cs ht c hc
  have hn : g'.n = hfin.length := by
    cases hp : pf with
    | true => obtain ⟨e1, e2⟩ := hpf hp; rw [e1, ← e2]; exact Rc.n
    | false => rw [← hnp hp]; exact Rc.n
  refine ⟨hn, fun i y hi => ?_, fun t tv ht => (R.tm t tv ht).chg C fun c hc π => ok (safe_t hl' hh' ht hc) ⟨rfl, by simp⟩ (hroot t tv ht c hc),
    fun t cs ht => (R.bx t cs ht).chg C rfl (.inl ⟨rfl, by simp⟩) fun c hc π => ok (safe_l hl' hh' ht hc) ⟨rfl, by simp⟩ (hrootl t cs ht c hc), fun id cs hi => ?_, fun r d z xs hr b o sp len cap hv => ?_⟩
  · cases i with
    | succ i => simp at hi
    | zero => simp at hi; subst hi; exact (Rc.fl 0 (v, u) rfl).back L hret
  · cases hp : pf with
    | true =>
      rw [← hp]
      have hi' : s.h[id]? = some cs := by rw [← (hpf hp).1]; exact hi
      exact (R.hp id cs hi').chg C (by rw [R.n]; exact (List.getElem?_eq_some_iff.1 hi').1) fun _ => .inr ⟨hp, rfl⟩
    | false =>
      rw [← hp]
      have hi' : hf[id]? = some cs := by rw [hnp hp]; exact hi
      have hB := Rc.hp id cs hi'
      refine ⟨?_, hB.blk, hB.fr, hB.md, fun j c hc => ?_⟩
      · show (backG pf own w g g').own (g'.φ id) = _
        rw [back_own L (by rw [hB.own]; simp), hB.own]; rfl
      · obtain ⟨x, k1, k2, k3⟩ := hB.cell j c hc
        exact ⟨x, k1, k2, k3.back L ((hB.md c (List.mem_of_getElem? hc)).imp (fun h => h) .inl) (.inr rfl)⟩
  · cases r with
    | tmp t => exact R.hd (.tmp t) d z xs hr b o sp len cap hv
    | loc t off =>
      refine R.hd (.loc t off) d z xs hr b o sp len cap ?_
      change cellOf off (find t s.l) = _ at hr
      cases hs : find t s.l with
      | none => rw [hs] at hr; cases hr
      | some cs =>
        rw [hs] at hr
        have hB := R.bx t cs hs
        obtain ⟨x, h1, h2, h3⟩ := hB.cell off _ hr
        obtain ⟨_, _, k3, _⟩ := C.un _ _ _ hB.blk hB.own (.inl ⟨rfl, by simp⟩)
        change cel w' (g.ψ t) off = _ at hv
        rw [k3 off (by rw [h1]; rfl)] at hv
        exact hv
    | obj id off =>
      change cellOf off (hfin[id]?) = _ at hr
      show (if pf then _ else _) = _
      cases hp : pf with
      | true =>
        simp only [if_true]
        rw [(hpf hp).1] at hr
        refine R.hd (.obj id off) d z xs hr b o sp len cap ?_
        cases hs : s.h[id]? with
        | none => rw [hs] at hr; cases hr
        | some cs =>
          rw [hs] at hr
          have hB := R.hp id cs hs
          obtain ⟨x, h1, h2, h3⟩ := hB.cell off _ hr
          obtain ⟨_, _, k3, _⟩ := C.un _ _ _ hB.blk hB.own (.inr ⟨hp, rfl⟩)
          change cel w' (g'.φ id) off = _ at hv
          rw [show g'.φ id = g.φ id from C.ids id (by rw [R.n]; exact (List.getElem?_eq_some_iff.1 hs).1), k3 off (by rw [h1]; rfl)] at hv
          exact hv
      | false =>
        simp only [Bool.false_eq_true, if_false]
        rw [← hnp hp] at hr
        exact Rc.hd (.obj id off) d z xs hr b o sp len cap hv
theorem Rel.back {pf own} {vs : List TV} {us : List Value} {args hf h' a' v u w' g'} (pu : Pu) (R : Rel s (vs.zip us) a w g) (L : Le ⟨pf, []⟩ w (enterG own args us g) w' g') (Rc : Rel ⟨[], [], hf⟩ [(v, u)] a' w' g') (hret : retOkT v = true)
    (hpf : pf = true → h' = s.h ∧ hf.length = s.h.length) (hnp : pf = false → hf = h') : Rel (afterCall pf own s h') [(v, u)] a w' (backG pf own w g g') := by
  have R0 := R.forget (fl := [])
  cases hp : pf with
  | true =>
    cases ho : own with
    | true =>
      have := (R0.kill isBl noAV).back0 (hfin := s.h) L Rc hret (fun _ => noMd_kill rfl) (fun h => by rw [hp] at h; cases h) (fun h => ⟨rfl, (hpf h).2⟩) (fun h => by rw [hp] at h; cases h)
      rw [hp, ho] at this; exact this
    | false =>
      have := R0.back0 (hfin := s.h) L Rc hret (fun h => by rw [ho] at h; cases h) (fun h => by rw [hp] at h; cases h) (fun h => ⟨rfl, (hpf h).2⟩) (fun h => by rw [hp] at h; cases h)
      rw [hp, ho] at this; exact this
  | false =>
    have R1 := R0.kill isBh rootedObj
    have n1 : NoMd isBh (s.kill isBh rootedObj) := noMd_kill rfl
    have n2 : NoRoot isObjRt (s.kill isBh rootedObj) [] := noRoot_kill rootedObj_root
    cases ho : own with
    | true =>
      have := (R1.kill isBl noAV).back0 (hfin := h') L Rc hret (fun _ => noMd_kill rfl) (fun _ => ⟨n1.kill rfl, n2.kill⟩) (fun h => by rw [hp] at h; cases h) hnp
      rw [hp, ho] at this; exact this
    | false =>
      have := R1.back0 (hfin := h') L Rc hret (fun h => by rw [ho] at h; cases h) (fun _ => ⟨n1, n2⟩) (fun h => by rw [hp] at h; cases h) hnp
      rw [hp, ho] at this; exact this
end

/-! ### the program's variables -/
def Glob (X : Cx) (w : World) (g : Gh) : Prop := ∀ b, b ∈ X.gs → b < w.heap.size ∧ g.own b = .shared ∧ ∃ m, cel w b 0 = some (.int .i64 m)
theorem Glob.le {X : Cx} {pu : Pu} {w w' : World} {g g' : Gh} (G : Glob X w g) (L : Le pu w g w' g') : Glob X w' g' := fun b hb => by
  obtain ⟨h1, h2, m, h3⟩ := G b hb
  obtain ⟨k1, k2, _⟩ := L.keep b h1 (.inl h2)
  exact ⟨Nat.lt_of_lt_of_le h1 L.size, k2.trans h2, m, (cel_heap k1 0).trans h3⟩
theorem Glob.enter {X : Cx} {w : World} {g : Gh} {own args us} (G : Glob X w g) : Glob X w (enterG own args us g) := fun b hb => by
  obtain ⟨h1, h2, m, h3⟩ := G b hb
  exact ⟨h1, by show enterO own (g.own b) = _; rw [h2]; rfl, m, h3⟩
end Go.Proofs.Abs
/- Every operation, told or carried out, as the machine goes on behind it. -/
namespace Go.Proofs.Abs
open Go
set_option linter.unusedVariables false
set_option linter.unusedSimpArgs false

section
variable {X : Cx} {pu : Pu} {s s' : St} {a : Act} {w : World} {g : Gh}

def Goes (X : Cx) (pu : Pu) (o : Oper) (a : Act) (w : World) (g : Gh) (s' : St) : Prop :=
  ∀ (next : Act → World → Prop) (Q : Exit → Act → World → Prop), (∀ a' w' g', Rel s' [] a' w' g' → Le pu w g w' g' → a'.defers = a.defers → a'.tmps.size = a.tmps.size → next a' w') → o.wp X.P a w next Q
theorem put_defers (a : Act) (d : Option Tmp) (v : Value) : (a.put d v).defers = a.defers := by cases d <;> rfl
theorem put_size (a : Act) (d : Option Tmp) (v : Value) : (a.put d v).tmps.size = a.tmps.size := by
  cases d with
  | none => rfl
  | some d => show (a.tmps.setIfInBounds d v).size = _; simp
theorem Acts.goes {o : Oper} (h : Acts X pu o a w g s') : Goes X pu o a w g s' := by
  intro next Q hn
  obtain ⟨v, w', g', h1, h2, h3⟩ := h
  unfold Oper.wp
  rw [h1, Oper.upon_value]
  exact hn _ _ _ h2 h3 (put_defers _ _ _) (put_size _ _ _)
theorem Sets.goes {o : Oper} (h : Sets X pu o a w g s') (hd : o.dst = none) : Goes X pu o a w g s' := by
  intro next Q hn
  obtain ⟨w', g', h1, h2, h3⟩ := h
  unfold Oper.wp
  rw [h1, Oper.upon_skip, hd]
  exact hn _ _ _ h2 h3 rfl rfl
theorem Told.goes {o : Oper} (h : Told X pu o a w g s') : Goes X pu o a w g s' := h.acts.goes
theorem ToldL.goes {o : Oper} {b o' n} (h : ToldL X pu o a w g s' b o' n) : Goes X pu o a w g s' := h.acts.goes
theorem mkV_inv {agg : Bool} {f : TV → Option (TV × St)} {cs : List MC} {q} (h : mkV agg f cs = some q) : ∃ t, mkT agg cs = some t ∧ f t = some q := by
  unfold mkV at h
  split at h
  · exact ⟨_, ‹_›, h⟩
  · cases h
theorem cellsAt_one {cs p : List MC} {off n : Nat} {m c} (h : cellsAt cs off n = some p) (hp : p = [(m, c)]) : n = 1 ∧ cs[off]? = some (m, c) := by
  obtain ⟨_, h2, h3⟩ := cellsAt_inv h
  subst hp
  refine ⟨by simpa using h2.symm, ?_⟩
  have := (h3 0 (m, c) rfl).2
  simpa using this

theorem load_told {o : Oper} {hm t x} (ho : o.op = .load t x) (R : Rel s [] a w g) (hd : ∀ d, o.dst = some d → d < a.tmps.size) (h : setQ o.dst (loadF X.P pu hm t s (opnd X.P s 0 x)) = some s') :
    ∃ b o' n, ToldL X pu o a w g s' b o' n ∧ (quietLd pu (opnd X.P s 0 x) = true → b < w.heap.size ∧ stay pu (g.own b)) := by
  obtain ⟨v, s1, h1, rfl⟩ := setQ_inv h
  unfold loadF at h1
  split at h1
  rotate_left
  · cases h1
  rename_i m c hx
  split at h1
  · cases h1
  rename_i hpt
  unfold evLoad at h1
  split at h1
  rotate_left
  · cases h1
  rename_i agg n ha hn
  split at h1
  · rename_i id off
    split at h1
    rotate_left
    · cases h1
    rename_i cs hs
    unfold ldObj at h1
    split at h1
    rotate_left
    · cases h1
    rename_i p hp
    split at h1
    · obtain ⟨tv, ht, h2⟩ := mkV_inv h1
      cases h2
      exact ⟨_, _, _, toldL_obj_cp ho R hd ha hn hx hs hp ht, fun hq => ⟨(R.hp id cs hs).blk, .inr (.inr (.inl ⟨by rw [hx] at hq; exact hq, id, [], (R.hp id cs hs).own⟩))⟩⟩
    · obtain ⟨tv, ht, h2⟩ := mkV_inv h1
      cases h2
      obtain ⟨ob, lc⟩ := pu
      have : ob = false := by
        cases ob with
        | false => rfl
        | true => simp [isLocA] at hpt
      subst this
      exact ⟨_, _, _, toldL_obj_take ho R hd ha hn hx hs hp ht, fun hq => by rw [hx] at hq; cases hq⟩
    · split at h1
      · rename_i d z xs
        cases h1
        obtain ⟨e1, e2⟩ := cellsAt_one hp rfl
        subst e1
        obtain ⟨r, _, hr⟩ := R.val hx
        have hat : atRoot s (.obj id off) = some (.own (d + 1), .sl z xs) := by show cellOf off (s.h[id]?) = _; rw [hs]; exact e2
        exact ⟨_, _, _, toldL_place ho R hd ha hn hr.one.obj.1 hat rfl, fun hq => ⟨(R.hp id cs hs).blk, .inr (.inr (.inl ⟨by rw [hx] at hq; exact hq, id, [], (R.hp id cs hs).own⟩))⟩⟩
      · cases h1
  · rename_i id off
    split at h1
    rotate_left
    · cases h1
    rename_i cs hs
    unfold ldLoc at h1
    split at h1
    rotate_left
    · cases h1
    rename_i p hp
    split at h1
    · obtain ⟨tv, ht, h2⟩ := mkV_inv h1
      cases h2
      exact ⟨_, _, _, toldL_loc_cp ho R hd ha hn hx hs hp ht, fun hq => ⟨(R.bx id cs hs).blk, .inr (.inr (.inr ⟨id, by rw [hx] at hq; exact hq, (R.bx id cs hs).own⟩))⟩⟩
    · obtain ⟨tv, ht, h2⟩ := mkV_inv h1
      cases h2
      exact ⟨_, _, _, toldL_loc_take ho R hd ha hn hx hs hp ht, fun hq => ⟨(R.bx id cs hs).blk, .inr (.inr (.inr ⟨id, by rw [hx] at hq; exact hq, (R.bx id cs hs).own⟩))⟩⟩
    · split at h1
      · rename_i d z xs
        cases h1
        obtain ⟨e1, e2⟩ := cellsAt_one hp rfl
        subst e1
        obtain ⟨r, _, hr⟩ := R.val hx
        have hat : atRoot s (.loc id off) = some (.own (d + 1), .sl z xs) := by show cellOf off (find id s.l) = _; rw [hs]; exact e2
        exact ⟨_, _, _, toldL_place ho R hd ha hn hr.one.loc hat rfl, fun hq => ⟨(R.bx id cs hs).blk, .inr (.inr (.inr ⟨id, by rw [hx] at hq; exact hq, (R.bx id cs hs).own⟩))⟩⟩
      · cases h1
  · rename_i r i off
    cases hm with
    | take =>
      obtain ⟨ob, lc⟩ := pu
      have : ob = false := by
        cases ob with
        | false => rfl
        | true => simp [isLocA] at hpt
      subst this
      obtain ⟨b, o', k⟩ := toldL_el_take ho R hd ha hn hx h1
      exact ⟨_, _, _, k, fun hq => by rw [hx] at hq; cases r <;> cases hq⟩
    | cp =>
      unfold ldEl at h1
      split at h1
      rotate_left
      · cases h1
      rename_i d z xs hat
      split at h1
      rotate_left
      · cases h1
      rename_i e he
      split at h1
      rotate_left
      · cases h1
      rename_i hl
      obtain ⟨tv, ht, h2⟩ := mkV_inv h1
      cases h2
      obtain ⟨b, o', cap, sa, k⟩ := toldL_el_cp ho R hd ha hn hx hat he hl ht (pu := pu)
      exact ⟨_, _, _, k, fun hq => by
        rw [hx] at hq
        cases r with
        | obj id o2 => exact ⟨sa.hb, .inr (.inr (.inl ⟨hq, id, _, sa.hok.1⟩))⟩
        | loc t o2 => cases hq
        | tmp t => cases hq⟩
    | place =>
      unfold ldEl at h1
      split at h1
      rotate_left
      · cases h1
      split at h1
      rotate_left
      · cases h1
      split at h1 <;> cases h1
  · rename_i mo mi cs off
    unfold ldRd at h1
    split at h1
    rotate_left
    · cases h1
    rename_i hl
    obtain ⟨tv, ht, h2⟩ := mkV_inv h1
    cases h2
    obtain ⟨b, o', hb, _, hok, k⟩ := toldL_rd ho R hd ha hn hx hl ht (pu := pu)
    refine ⟨_, _, _, k, fun hq => ⟨hb, ?_⟩⟩
    rw [hx] at hq
    cases mo with
    | top => cases hq
    | own d => cases d with
      | zero => exact .inl hok
      | succ d => cases hq
    | ro =>
      rcases hok with h | h
      · exact .inl h
      · exact .inr (.inl h)
    | bl => cases hq
    | bh =>
      rcases hok with h | ⟨r0, π0, h1, h2, h3⟩
      · exact .inl h
      · cases r0 with
        | obj id => exact .inr (.inr (.inl ⟨hq, id, π0, h1⟩))
        | _ => cases h2
  · cases h1

theorem goes_load {o : Oper} {hm t x} (ho : o.op = .load t x) (R : Rel s [] a w g) (hd : ∀ d, o.dst = some d → d < a.tmps.size) (h : setQ o.dst (loadF X.P pu hm t s (opnd X.P s 0 x)) = some s') : Goes X pu o a w g s' := by
  obtain ⟨b, o', n, k, _⟩ := load_told ho R hd h
  exact k.goes

theorem goes_store {o : Oper} {t ad x} (ho : o.op = .store t ad x) (R : Rel s [] a w g) (hdst : o.dst = none) {zb : Bool} (h : storeF X.P pu t (used s x) (opnd X.P s 0 ad) (opndZ zb X.P s t x) = some s') : Goes X pu o a w g s' := by
  unfold storeF at h
  split at h
  rotate_left
  · cases h
  rename_i m c v ha hx
  unfold evStore at h
  split at h
  rotate_left
  · cases h
  rename_i n hn
  split at h
  rotate_left
  · cases h
  rename_i hc
  obtain ⟨hv, hnt⟩ := hc
  split at h
  · rename_i id off
    split at h
    rotate_left
    · cases h
    rename_i cs hs
    cases h1 : stObj pu id off v.cells (used s x) cs (cellsAt cs off n) with
    | some s1 =>
      rw [h1] at h; cases h
      cases hp : cellsAt cs off n with
      | none => rw [hp] at h1; cases h1
      | some old => rw [hp] at h1; exact (acts_stObj ho R ha hx hn hv hnt hs hp h1).goes hdst
    | none =>
      rw [h1] at h
      change stPart pu id off v (used s x) cs (cellsAt cs off n) = some s' at h
      unfold stPart at h
      split at h
      · rename_i m' id' off' lo k
        split at h
        · rename_i he
          obtain ⟨rfl, rfl⟩ := he
          obtain rfl : n = 1 := by simpa [TV.cells] using hv.symm
          cases hp : cellsAt cs off' 1 with
          | none => rw [hp] at h; cases h
          | some old => rw [hp] at h; exact (acts_stAt ho R ha hx hn hs hp h).goes hdst
        · cases h
      · cases h
  · rename_i id off
    split at h
    · cases h
    rename_i hlc
    have hlc : inL id pu.lc = false := by simpa using hlc
    split at h
    rotate_left
    · cases h
    rename_i cs hs
    cases hp : cellsAt cs off n with
    | none => rw [hp] at h; cases h
    | some old => rw [hp] at h; exact (acts_stLoc hlc ho R ha hx hn hv hnt hs hp h).goes hdst
  · rename_i r i off
    exact (acts_stEl ho R ha hx hn hv hnt h).goes hdst
  · cases h

theorem goes_builtin {o : Oper} {b : Builtin} {args ats} (ho : o.op = .call { callee := .builtin b, args := args, argTypes := ats }) (hsz : args.size ≤ ats.size) (R : Rel s [] a w g) (hd : ∀ d, o.dst = some d → d < a.tmps.size)
    (h : callB X.P pu b ats.toList args.toList o.dst s = some s') : Goes X pu o a w g s' := by
  unfold callB at h
  split at h
  · rename_i t x hle
    obtain ⟨rfl, e1, e2⟩ := lenOf_inv hle
    exact (told_len1 ho e1 e2 R hd h).goes
  rename_i hnone
  clear hnone
  unfold builtinF at h
  split at h
  rotate_left
  · cases h
  rename_i vs s1 hps
  obtain ⟨v, s2, h1, rfl⟩ := setQ_inv h
  obtain ⟨g1, k1, k2, k3⟩ := Rel.opnds pu _ s [] g vs s1 R hps
  simp only [List.nil_append] at k2
  obtain ⟨vals, hvals⟩ : ∃ vals, vals = (args.map a.eval).toList := ⟨_, rfl⟩
  have he : (ats.toList.zip args.toList).map (fun p => a.eval p.2) = vals := by
    rw [hvals]
    have := args_eq (n := 0) (f := fun _ => undef) ats.toList args.toList a.eval (by simpa using hsz)
    rw [this]; simp
  rw [he] at k2
  have hl : vals.length = vs.length := by
    rw [k1, hvals]
    simp; omega
  have sub : ∀ {s2}, Goes X pu o a w g1 s2 → Goes X pu o a w g s2 := fun {s2} hg next Q hn => hg next Q fun a' w' g' r1 r2 r3 r4 => hn a' w' g' r1 (k3.trans r2) r3 r4
  apply sub
  unfold evBuiltin at h1
  split at h1
  · rename_i vs' b' as' ys' t u rest heq
    cases hq : evAppend X.P t u vs' with
    | none => rw [hq] at h1; cases h1
    | some v' =>
      rw [hq] at h1
      cases h1
      exact (acts_append ho heq hvals.symm k2 hl hd hq).goes
  · rename_i t rest heq
    exact (acts_copy ho heq hvals.symm k2 hl hd h1).goes
  · rename_i t v0 heq
    cases hq : evLen X.P t v0 with
    | none => rw [hq] at h1; cases h1
    | some v' =>
      rw [hq] at h1
      cases h1
      exact (told_len ho heq hvals.symm k2 (by simpa using hl) hd hq).goes
  · rename_i v0 y r
    cases hq : foldO max2 v0 (y :: r) with
    | none => rw [hq] at h1; cases h1
    | some v' =>
      rw [hq] at h1
      cases h1
      refine (told_fold (f := max2) (f' := Builtin.max2) ho hvals.symm k2 hl hd max2_ok (fun u us hu => ?_) hq).goes
      unfold execOp; rw [ho]
      simp only [resolve, pure_bind, invoke, builtin, Builtin.max_, hu]
  · rename_i v0 y r
    cases hq : foldO min2 v0 (y :: r) with
    | none => rw [hq] at h1; cases h1
    | some v' =>
      rw [hq] at h1
      cases h1
      refine (told_fold (f := min2) (f' := Builtin.min2) ho hvals.symm k2 hl hd min2_ok (fun u us hu => ?_) hq).goes
      unfold execOp; rw [ho]
      simp only [resolve, pure_bind, invoke, builtin, Builtin.min_, hu]
  · cases h1

/-! ### calls of the program's functions -/
def CallOk (X : Cx) (call : CallF) : Prop := ∀ f args h v h', call f args h = some (v, h') →
  (∃ fn, X.P.funcs[f]? = some fn ∧ (fn.name == "runtime.NumGoroutine") = false ∧ fn.body.isNone = false) ∧
  ∀ (w : World) (g : Gh) (a0 : Act) (us : Array Value), us.size = args.length → (∀ (i : Nat) u, us[i]? = some u → a0.tmps.getD i undef = u) → Rel ⟨number 0 args, [], h⟩ [] a0 w g → Glob X w g →
    Calls X.P f us w fun e w' => ∃ u g' a' hf, e = .returned u ∧ Rel ⟨[], [], hf⟩ [(v, u)] a' w' g' ∧ Le ⟨X.leaves f, []⟩ w g w' g' ∧ retOkT v = true ∧ (X.leaves f = true → h' = h ∧ hf.length = h.length) ∧ (X.leaves f = false → hf = h')

def Ffrz (r : Rk) (π : List Nat) : Ow := if r = .lim 0 then .shared else .pth r π
theorem Ffrz_side : keepsSide Ffrz := by
  intro r π
  unfold Ffrz
  split
  · exact .inl rfl
  · exact .inr ⟨r, π, rfl, rfl⟩
theorem Ffrz_keep {r} (h : r ≠ .lim 0) (π) : Ffrz r π = .pth r π := if_neg h
theorem KC.frozen {m π c v} (h : KC w g m (.lim 0) π c v) : KC w (relabel Ffrz g) m.frz (.lim 0) π c v := by
  refine KC.map (g := g) (g' := relabel Ffrz g) (r := .lim 0) (r' := .lim 0) (fun m π m' π' => m' = m.frz ∧ π' = π) (Nat.le_refl _) (fun _ hi => ⟨hi, rfl⟩) ?_ h ⟨rfl, rfl⟩
  rintro m π m' π' ⟨rfl, rfl⟩
  have hnf : m.frz.owned = false := by cases m <;> rfl
  have hin : m.frz.inner = m.inner.frz := by
    cases m with
    | own d => cases d <;> rfl
    | _ => rfl
  refine ⟨fun h => (by cases m <;> first | exact absurd rfl h | (intro h; cases h)), fun h => (by rw [hnf] at h; cases h), fun b e hb ho => ⟨?_, fun _ _ _ => rfl⟩, fun h => (by rw [hnf] at h; cases h), fun i j => ⟨hin, rfl⟩⟩
  cases m with
  | top => exact ho
  | own d =>
    show (relabel Ffrz g).own b = .shared
    cases d with
    | zero => have ho : g.own b = .shared := ho; simp [relabel, ho]
    | succ d => rw [relabel_own ho.1]; rfl
  | ro =>
    rcases ho with ho | ho
    · exact .inl (by simp [relabel, ho])
    · exact .inr (by simp [relabel, ho])
  | bl =>
    rcases ho with ho | ho | ⟨r, ρ, h1, h2, h3⟩
    · exact .inl (by simp [relabel, ho])
    · exact .inr (.inl (by simp [relabel, ho]))
    · by_cases hr : r = .lim 0
      · exact .inl (by rw [relabel_own h1]; simp [Ffrz, hr])
      · exact .inr (.inr ⟨r, ρ, by rw [relabel_own h1, Ffrz_keep hr], h2, h3⟩)
  | bh =>
    rcases ho with ho | ⟨r, ρ, h1, h2, h3⟩
    · exact .inl (by simp [relabel, ho])
    · exact .inr ⟨r, ρ, by rw [relabel_own h1, Ffrz_keep (by intro h; rw [h] at h2; cases h2)], h2, h3⟩
theorem RC.frozen {m π c v} (h : RC w g m (.lim 0) π c v) : RC w (relabel Ffrz g) m.frz (.lim 0) π c v := h.imp (fun h => h.frozen) (fun h => h.relabel Ffrz_side)
theorem RT1.frozen {π tv v} (h : RT1 w g (.lim 0) π tv v) : RT1 w (relabel Ffrz g) (.lim 0) π (frz1 tv) v := by
  cases tv with
  | one m c => exact RC.frozen h
  | agg cs =>
    obtain ⟨vs, rfl, h1, h2⟩ := h
    refine ⟨vs, rfl, by simpa using h1, fun j c hc => ?_⟩
    rw [List.getElem?_map, Option.map_eq_some_iff] at hc
    obtain ⟨c0, hc0, rfl⟩ := hc
    obtain ⟨u, hu, hk⟩ := h2 j c0 hc0
    exact ⟨u, hu, hk.frozen⟩
  | tup vs => cases vs with
    | nil => exact h
    | cons x xs => exact h
theorem RT.frozen {tv v} (h : RT w g (.lim 0) tv v) : RT w (relabel Ffrz g) (.lim 0) tv.frz v := by
  cases tv with
  | one m c => exact RT1.frozen (tv := .one m c) h
  | agg cs => exact RT1.frozen (tv := .agg cs) h
  | tup tvs =>
    obtain ⟨vs, rfl, h1, h2⟩ := h
    refine ⟨vs, rfl, by simpa using h1, fun j c hc => ?_⟩
    rw [List.getElem?_map, Option.map_eq_some_iff] at hc
    obtain ⟨c0, hc0, rfl⟩ := hc
    obtain ⟨u, hu, hk⟩ := h2 j c0 hc0
    exact ⟨u, hu, hk.frozen⟩
theorem Rel.frozen (pu : Pu) {tv v} (R : Rel s [(tv, v)] a w g) : ∃ g', Rel s [(tv.frz, v)] a w g' ∧ Le pu w g w g' := by
  refine ⟨relabel Ffrz g, ⟨R.n, fun i x hi => ?_, fun t' tv' ht => (R.tm t' tv' ht).kept Ffrz_side fun π => Ffrz_keep (by simp) π, fun t' cs ht => (R.bx t' cs ht).kept Ffrz_side fun π => Ffrz_keep (by simp) π,
    fun id cs hi => (R.hp id cs hi).kept Ffrz_side (by rw [R.n]; exact (List.getElem?_eq_some_iff.1 hi).1) fun π => Ffrz_keep (by simp) π, R.hd⟩, le_relabel Ffrz_side pu (fun id π => Ffrz_keep (by simp) π) fun _ t => Ffrz_keep (by simp) []⟩
  rw [List.getElem?_singleton] at hi
  split at hi
  · rename_i e; subst e; cases hi; exact (R.fl 0 (tv, v) rfl).frozen
  · cases hi
theorem Rel.frzIf (pu : Pu) {tv v} (hm : Bool) (R : Rel s [(tv, v)] a w g) : ∃ g', Rel s [(Abs.frzIf hm tv, v)] a w g' ∧ Le pu w g w g' := by
  cases hm with
  | true => exact R.frozen pu
  | false => exact ⟨g, R, .refl _ _ _⟩

theorem goes_call {call : CallF} (hcall : CallOk X call) {o : Oper} {f : FuncId} {args ats} (ho : o.op = .call { callee := .value (.func f), args := args, argTypes := ats }) (hsz : args.size ≤ ats.size) (R : Rel s [] a w g) (GL : call ≠ call0 → Glob X w g) (hd : ∀ d, o.dst = some d → d < a.tmps.size)
    {hm : Bool} (h : callF0 hm pu (X.leaves f) call f o.dst (opnds X.P (ats.toList.zip args.toList) s) = some s') : Goes X pu o a w g s' := by
  unfold callF0 at h
  split at h
  rotate_left
  · cases h
  rename_i vs s1 hps
  obtain ⟨g1, k1, k2, k3⟩ := Rel.opnds pu _ s [] g vs s1 R hps
  simp only [List.nil_append] at k2
  have he : (ats.toList.zip args.toList).map (fun p => a.eval p.2) = (args.map a.eval).toList := by
    have := args_eq (n := 0) (f := fun _ => undef) ats.toList args.toList a.eval (by simpa using hsz)
    rw [this]; simp
  rw [he] at k2
  have hl : (args.map a.eval).toList.length = vs.length := by
    rw [k1]
    simp; omega
  unfold callF at h
  split at h
  rotate_left
  · cases h
  rename_i args' hargs
  split at h
  · cases h
  rename_i hpu
  unfold retF at h
  split at h
  rotate_left
  · cases h
  rename_i v h' hc
  cases h
  obtain ⟨⟨fn, f1, f2, f3⟩, hcalls⟩ := hcall f args' s1.h v h' hc
  obtain ⟨own, hown⟩ : ∃ own, own = ownArgs vs := ⟨_, rfl⟩
  rw [← hown] at hargs ⊢
  have hal : args'.length = vs.length := (mapO_get hargs).1
  have C := hcalls w (enterG own args' (args.map a.eval).toList g1) ⟨args.map a.eval, []⟩ (args.map a.eval) (by rw [hal, ← hl]; simp) (fun i u hu => by simp [Array.getD_eq_getD_getElem?, hu])
    (k2.enter hl hargs hown.symm (a0 := ⟨args.map a.eval, []⟩) fun i u hu => by
      rw [Array.getElem?_toList] at hu
      simp [Array.getD_eq_getD_getElem?, hu]) ((GL fun e => by subst e; cases hc).le k3).enter
  intro next Q hn
  unfold Oper.wp
  have run : (execOp a.eval o).run X.P w = .ok (.enter f (args.map a.eval)) w := by
    unfold execOp; rw [ho]
    have f2' : ¬ (fn.name = "runtime.NumGoroutine") := by simpa using f2
    have f3' : ¬ (fn.body = none) := fun e => by rw [e] at f3; cases f3
    simp [resolve, Deferred.ofValue, Act.eval, invoke, callFunc, f1, f2', f3']
  rw [run, Oper.upon_enter]
  refine Calls.mono C fun e w'' he => ?_
  obtain ⟨u, g', a', hf, rfl, r1, r2, r3, r4, r5⟩ := he
  have hp : pu.ob = true → X.leaves f = true := fun h => by
    rw [h] at hpu
    simpa using hpu
  have RB := Rel.back pu k2 r2 r1 r3 r4 r5
  have LB := le_back pu r2 hp
  obtain ⟨g4, RB4, LB4⟩ := RB.frzIf pu hm
  obtain ⟨g3, q1, q2⟩ := RB4.finish pu hd
  exact hn _ _ _ q1 (k3.trans (LB.trans (LB4.trans q2))) (put_defers _ _ _) (put_size _ _ _)

/-! ### all of them -/
theorem op_goes {call : CallF} (hcall : CallOk X call) {hint : Hint} {o : Oper} {n : Nat} (hok : okOper n o = true) (hn : n ≤ a.tmps.size) (R : Rel s [] a w g) (GL : call ≠ call0 → Glob X w g) (h : evOp X pu call hint o s = some s') : Goes X pu o a w g s' := by
  simp only [okOper, Bool.and_eq_true] at hok
  obtain ⟨hd0, hc0⟩ := hok
  have hd : ∀ d, o.dst = some d → d < a.tmps.size := fun d hd => by
    have hdn : d < n := by rw [hd] at hd0; simpa using hd0
    exact Nat.lt_of_lt_of_le hdn hn
  unfold evOp at h
  split at h
  · rename_i x ho; exact (told_move ho R hd h).goes
  · rename_i x ho; exact (told_assign ho R hd h).goes
  · rename_i c x y ho; exact (told_pick ho R hd h).goes
  · rename_i e ho
    cases hh : hint.heap with
    | false => rw [hh] at h; exact (acts_alloc ho R hd h).goes
    | true =>
      rw [hh] at h
      obtain ⟨ob, lc⟩ := pu
      cases ob with
      | false => exact (acts_allocH ho R hd (by simpa [zeroZ] using h)).goes
      | true =>
        unfold allocF at h
        split at h
        · simp at h
        · cases h
  · rename_i e x ho
    cases hh : hint.heap with
    | false => rw [hh] at h; exact (acts_box ho R hd rfl h).goes
    | true =>
      rw [hh] at h
      obtain ⟨ob, lc⟩ := pu
      cases ob with
      | false => exact (acts_boxH ho R hd h).goes
      | true =>
        unfold boxF at h
        split at h
        · split at h
          · cases h
          · simp at h
        · cases h
  · rename_i t parts ho; exact (told_build ho R hd h).goes
  · rename_i t len parts ho; exact (acts_lit ho R hd h).goes
  · rename_i t x ho; exact goes_load ho R hd h
  · rename_i t ad x ho
    split at h
    · rename_i hdst; exact goes_store ho R hdst h
    · cases h
  · rename_i x ho; exact (told_nil ho R hd h).goes
  · rename_i op t x y yt ho; exact (told_bin ho R hd h).goes
  · rename_i op t x ho; exact (told_un ho R hd h).goes
  · rename_i t1 t2 x ho
    cases hb : isSlT X.P t1 with
    | true => rw [hb] at h; exact (acts_str ho R hd h).goes
    | false => rw [hb] at h; exact (told_conv ho R hd h).goes
  · rename_i t l c ho; exact (acts_make ho R hd h).goes
  · rename_i t x lo hi ho
    cases hb : isArrT X.P t with
    | true => rw [hb] at h; exact (acts_slArr ho R hd h).goes
    | false => rw [hb] at h; exact (told_slice ho R hd h).goes
  · rename_i t x f ho; exact (told_fieldAddr ho R hd h).goes
  · rename_i t x f ho; exact (told_field ho R hd h).goes
  · rename_i t x i ho; exact (told_indexAddr ho R hd h).goes
  · rename_i t x i ho; exact (told_index ho R hd h).goes
  · rename_i t i ho; exact (told_extract ho R hd h).goes
  · rename_i t x ho; exact (acts_range ho R hd h).goes
  · rename_i t ho; exact (acts_next ho R hd h).goes
  · rename_i b args ats ho
    rw [ho] at hc0
    exact goes_builtin ho (by simpa using hc0) R hd h
  · rename_i f args ats ho
    rw [ho] at hc0
    exact goes_call hcall ho (by simpa using hc0) R GL hd h
  · cases h
theorem Rel.act {fl a'} (R : Rel s fl a w g) (h : ∀ t tv, find t s.t = some tv → a'.tmps.getD t undef = a.tmps.getD t undef) : Rel s fl a' w g := by
  refine ⟨R.n, R.fl, fun t tv ht => by rw [h t tv ht]; exact R.tm t tv ht, R.bx, R.hp, fun r d z xs hr b o sp len cap hv => R.hd r d z xs hr b o sp len cap ?_⟩
  cases r with
  | obj id off => exact hv
  | loc t off => exact hv
  | tmp t =>
    change oneOf (find t s.t) = _ at hr
    cases hf : find t s.t with
    | none => rw [hf] at hr; cases hr
    | some tv =>
      change some (a'.tmps.getD t undef) = _ at hv
      rw [h t tv hf] at hv
      exact hv
theorem Rel.fzS {d : Nat} (pu : Pu) (R : Rel s [] a w g) (hd : d < a.tmps.size) : ∃ g', Rel (Abs.fzS d s) [] a w g' ∧ Le pu w g w g' := by
  unfold Abs.fzS
  split
  · rename_i v hf
    obtain ⟨g1, k1, k2⟩ := R.take pu hf
    obtain ⟨g2, k3, k4⟩ := Rel.frozen pu k1
    obtain ⟨g3, k5, k6⟩ := Rel.finish (dst := some d) pu k3 (fun _ e => by cases e; exact hd)
    refine ⟨g3, k5.act fun t tv ht => ?_, (k2.trans k4).trans k6⟩
    show a.tmps.getD t undef = (a.tmps.setIfInBounds d (a.tmps.getD d undef)).getD t undef
    by_cases e : t = d
    · subst e; simp [Array.getD_eq_getD_getElem?, hd]
    · simp [Array.getD_eq_getD_getElem?, Array.getElem?_setIfInBounds_ne (Ne.symm e)]
  · exact ⟨g, R, .refl _ _ _⟩
theorem Rel.fzD {d : Option Tmp} (pu : Pu) (R : Rel s [] a w g) (hd : ∀ t, d = some t → t < a.tmps.size) : ∃ g', Rel (Abs.fzD d s) [] a w g' ∧ Le pu w g w g' := by
  cases d with
  | none => exact ⟨g, R, .refl _ _ _⟩
  | some d => exact R.fzS pu (hd d rfl)
theorem fzO_inv {b : Bool} {d : Option Tmp} {q : Option St} {s' : St} (h : fzO b d q = some s') : ∃ s0, q = some s0 ∧ (s' = s0 ∨ s' = fzD d s0) := by
  unfold fzO at h
  cases b with
  | false => exact ⟨s', h, .inl rfl⟩
  | true =>
    rw [cond_true, Option.map_eq_some_iff] at h
    obtain ⟨s0, h1, h2⟩ := h
    exact ⟨s0, h1, .inr h2.symm⟩
theorem opZ_goes {call : CallF} (hcall : CallOk X call) {hint : Hint} {o : Oper} {n : Nat} (hok : okOper n o = true) (hn : n ≤ a.tmps.size) (R : Rel s [] a w g) (GL : call ≠ call0 → Glob X w g) (h : evOpZ X pu call hint o s = some s') : Goes X pu o a w g s' := by
  obtain ⟨s0, h1, h2⟩ := fzO_inv h
  have k := op_goes hcall hok hn R GL h1
  rcases h2 with rfl | rfl
  · exact k
  · refine fun next Q hN => k next Q fun a' w' g' r1 r2 r3 r4 => ?_
    obtain ⟨g2, q1, q2⟩ := r1.fzD pu (d := o.dst) fun t ht => by
      simp only [okOper, Bool.and_eq_true] at hok
      have hdn : t < n := by have := hok.1; rw [ht] at this; simpa using this
      exact Nat.lt_of_lt_of_le hdn (by rw [r4]; exact hn)
    exact hN a' w' g2 q1 (r2.trans q2) r3 r4
end
end Go.Proofs.Abs
/- Regions. -/
namespace Go.Proofs.Abs
open Go
set_option linter.unusedVariables false
set_option linter.unusedSimpArgs false

section
variable {X : Cx} {pu : Pu} {s s' : St} {a : Act} {w : World} {g : Gh}

theorem tmps_of {v : Value} {d : Nat} (h : a.tmps.getD d undef = v) (hv : v ≠ undef) : a.tmps[d]? = some v := by
  rw [Array.getD_eq_getD_getElem?] at h
  cases hd : a.tmps[d]? with
  | none => rw [hd] at h; exact absurd h.symm hv
  | some x => rw [hd] at h; rw [show x = v from h]
theorem want_ok {ops : Array Oper} {o : Oper} {b : Bool} (R : Rel s [] a w g) (h : wantA ops.toList s o.guard = some b) : Region.wanted o (yielded ops a.tmps) = b := by
  unfold Region.wanted
  cases hg : o.guard with
  | none => rw [hg] at h; cases h; rfl
  | some p =>
    obtain ⟨j, want⟩ := p
    rw [hg] at h
    simp only [wantA] at h
    rw [Array.getElem?_toList] at h
    cases hj : ops[j]? with
    | none => rw [hj] at h; cases h
    | some gg =>
      rw [hj] at h
      simp only at h
      cases hd : gg.dst with
      | none => rw [hd] at h; cases h
      | some d =>
        rw [hd] at h
        simp only at h
        show (yielded ops a.tmps j == some want) = b
        unfold yielded
        rw [hj]
        simp only [Option.bind_some, hd]
        unfold wantF at h
        split at h
        · rename_i m b0 hf
          cases h
          have hv : a.tmps.getD d undef = .bool b0 := (show RC w g m (.tmp d) [0] (.bool b0) _ from R.tm d _ hf).bool
          rw [tmps_of hv (by simp [undef])]
          cases b0 <;> cases want <;> rfl
        · rename_i vs hf
          cases h
          obtain ⟨us, hv, _⟩ := R.tm d _ hf
          rw [Array.getD_eq_getD_getElem?] at hv
          cases hd2 : a.tmps[d]? with
          | none => rfl
          | some x =>
            rw [hd2] at hv
            rw [show x = .tuple us from hv]; rfl
        · cases h
theorem undef_ok {d : Option Tmp} (R : Rel s [] a w g) (hd : ∀ t, d = some t → t < a.tmps.size) : ∃ g', Rel (setT s d (.tup [])) [] (a.put d undef) w g' ∧ Le pu w g w g' :=
  (R.push (fl := []) (tv := .tup []) (v := undef) ⟨#[], rfl, rfl, fun j tv h => by simp at h⟩).finish pu hd
theorem okOper_dst {n : Nat} {o : Oper} (h : okOper n o = true) (hn : n ≤ a.tmps.size) : ∀ d, o.dst = some d → d < a.tmps.size := fun d hd => by
  simp only [okOper, Bool.and_eq_true] at h
  have hdn : d < n := by have := h.1; rw [hd] at this; simpa using this
  exact Nat.lt_of_lt_of_le hdn hn

theorem stepI_goes {call : CallF} (hcall : CallOk X call) {fn id i n : Nat} {ops : Array Oper} (hok : ops.toList.all (okOper n) = true) (hn : n ≤ a.tmps.size) (R : Rel s [] a w g) (GL : call ≠ call0 → Glob X w g) 
    (h : stepI X pu call fn id ops.toList i (some s) = some s') {K : Act → World → Prop} {Q} (hK : ∀ a' w' g', Rel s' [] a' w' g' → Le pu w g w' g' → a'.defers = a.defers → a'.tmps.size = a.tmps.size → K a' w') : wpOp X.P ops Q i K a w := by
  simp only [stepI] at h
  rw [Array.getElem?_toList] at h
  unfold wpOp
  cases ho : ops[i]? with
  | none => rw [ho] at h; cases h
  | some o =>
    rw [ho] at h
    simp only at h ⊢
    have hoo : okOper n o = true := List.all_eq_true.1 hok o (by rw [← Array.getElem?_toList] at ho; exact List.mem_of_getElem? ho)
    unfold stepA at h
    split at h
    · rename_i hw
      rw [if_pos (want_ok R hw)]
      exact .inl (opZ_goes hcall hoo hn R GL h K Q hK)
    · rename_i hw
      rw [if_neg (by rw [want_ok R hw]; simp)]
      cases h
      obtain ⟨g', k1, k2⟩ := undef_ok (pu := pu) R (okOper_dst hoo hn)
      exact hK _ _ _ k1 k2 (put_defers _ _ _) (put_size _ _ _)
    · cases h

theorem evOps_none {call : CallF} {fn id : Nat} {ops : List Oper} : ∀ (i : Nat) (l : List Oper), evOps X pu call fn id ops i l none = none
  | _, [] => rfl
  | _, _ :: _ => rfl
theorem ops_ok {call : CallF} (hcall : CallOk X call) {fn id n : Nat} {ops : Array Oper} (hok : ops.toList.all (okOper n) = true) {Q : Exit → Act → World → Prop} : ∀ (l : List Oper) (i : Nat) (s : St) (a : Act) (w : World) (g : Gh), (∀ j, l[j]? = ops[i + j]?) → n ≤ a.tmps.size → Rel s [] a w g → (call ≠ call0 → Glob X w g) →
    evOps X pu call fn id ops.toList i l (some s) = some s' → (∀ a' w' g', Rel s' [] a' w' g' → Le pu w g w' g' → a'.defers = a.defers → a'.tmps.size = a.tmps.size → Q .normal a' w') → wpOps X.P ops Q (List.range' i l.length) a w
  | [], i, s, a, w, g, hl, hn, R, GL, h, hQ => by
    cases h
    exact hQ _ _ _ R (.refl _ _ _) rfl rfl
  | o :: l, i, s, a, w, g, hl, hn, R, GL, h, hQ => by
    simp only [evOps] at h
    have ho : ops[i]? = some o := by have := hl 0; simpa using this.symm
    simp only [List.length_cons, List.range'_succ]
    rw [wpOps_cons]
    cases hs : stepA X pu call (X.hint fn id i) o s (wantA ops.toList s o.guard) with
    | none => rw [hs, evOps_none] at h; cases h
    | some s1 =>
      rw [hs] at h
      refine stepI_goes (s' := s1) (fn := fn) (id := id) hcall hok hn R GL (by simp only [stepI]; rw [Array.getElem?_toList, ho]; exact hs) fun a' w' g' r1 r2 r3 r4 => ?_
      exact ops_ok hcall hok l (i + 1) s1 a' w' g' (fun j => by have := hl (j + 1); rw [show i + 1 + j = i + (j + 1) from by omega]; simpa using this) (by rw [r4]; exact hn) r1 (fun e => (GL e).le r2) h
        fun a2 w2 g2 q1 q2 q3 q4 => hQ a2 w2 g2 q1 (r2.trans q2) (q3.trans r3) (q4.trans r4)

/-! ### drawn regions -/
/-- what is held in a region -/
def Held (st : Bool) (pu : Pu) (S : World → Prop) (w : World) (g : Gh) : Prop :=
  (st = true ∧ ∀ w', S w' ↔ w' = w) ∨ (st = false ∧ ∃ B : Nat → Prop, (∀ b, B b → b < w.heap.size ∧ stay pu (g.own b)) ∧ ∀ w', S w' ↔ ∀ b, B b → w'.heap[b]? = w.heap[b]?)
theorem Held.now {st S} (h : Held st pu S w g) : S w := by
  rcases h with ⟨_, h⟩ | ⟨_, B, _, h⟩
  · exact (h w).2 rfl
  · exact (h w).2 fun _ _ => rfl
theorem Held.step {S w' g'} (h : Held false pu S w g) (L : Le pu w g w' g') : S w' ∧ Held false pu S w' g' := by
  rcases h with ⟨h, _⟩ | ⟨_, B, hB, h⟩
  · cases h
  · have hk : ∀ b, B b → w'.heap[b]? = w.heap[b]? := fun b hb => (L.keep b (hB b hb).1 (hB b hb).2).1
    refine ⟨(h w').2 hk, .inr ⟨rfl, B, fun b hb => ⟨Nat.lt_of_lt_of_le (hB b hb).1 L.size, by rw [(L.keep b (hB b hb).1 (hB b hb).2).2.1]; exact (hB b hb).2⟩, fun w2 => ?_⟩⟩
    rw [h w2]
    exact ⟨fun h b hb => (h b hb).trans (hk b hb).symm, fun h b hb => (h b hb).trans (hk b hb)⟩
theorem Held.add {S b} (h : Held false pu S w g) (hb : b < w.heap.size) (hs : stay pu (g.own b)) : ∃ S' : World → Prop, (∀ w', S' w' → S w' ∧ w'.heap[b]? = w.heap[b]?) ∧ Held false pu S' w g := by
  rcases h with ⟨h, _⟩ | ⟨_, B, hB, h⟩
  · cases h
  · refine ⟨fun w' => ∀ c, (B c ∨ c = b) → w'.heap[c]? = w.heap[c]?, fun w' hw => ⟨(h w').2 fun c hc => hw c (.inl hc), hw b (.inr rfl)⟩, .inr ⟨rfl, fun c => B c ∨ c = b, fun c hc => ?_, fun _ => Iff.rfl⟩⟩
    rcases hc with hc | rfl
    · exact hB c hc
    · exact ⟨hb, hs⟩
theorem Held.same {st S g'} (h : Held st pu S w g) (L : Le pu w g w g') : Held st pu S w g' := by
  cases st with
  | true =>
    rcases h with h | ⟨h, _⟩
    · exact .inl h
    · cases h
  | false => exact (h.step L).2

theorem wpAnyH_weak {P : Program} {md : Region.Mode} {ops : Array Oper} {Q : Exit → Act → World → Prop} {S S' : World → Prop} (hS : ∀ w, S' w → S w) : ∀ (f : Nat) (listed : Array Bool) (a : Act) (w : World), wpAnyH P md ops Q S' f listed a w → wpAnyH P md ops Q S f listed a w
  | 0, _, _, _, h => h
  | f + 1, _, _, _, h => ⟨h.1, fun i hi => wpOp_mono (fun a' w' h' => ⟨hS _ h'.1, wpAnyH_weak hS f _ a' w' h'.2⟩) (h.2 i hi)⟩

/-- an operation that may be taken first: it tells its value wherever this holds -/
def TellsIf (X : Cx) (pu : Pu) (st : Bool) (o : Oper) (a : Act) (w : World) (g : Gh) (s' : St) : Prop :=
  ∃ v g', Rel s' [] (a.put o.dst v) w g' ∧ Le pu w g w g' ∧
    ((∀ w', (execOp a.eval o).run X.P w' = .ok (.value v) w') ∨ (st = true ∧ (execOp a.eval o).run X.P w = .ok (.value v) w) ∨
      ∃ b, b < w.heap.size ∧ stay pu (g.own b) ∧ ∀ w', w'.heap[b]? = w.heap[b]? → (execOp a.eval o).run X.P w' = .ok (.value v) w')
theorem Told.tells {st} {o : Oper} (h : Told X pu o a w g s') : TellsIf X pu st o a w g s' := by
  obtain ⟨v, g', h1, h2, h3⟩ := h
  exact ⟨v, g', h2, h3, .inl h1⟩
theorem op_tells {call : CallF} {hint : Hint} {o : Oper} {n : Nat} {st : Bool} (hok : okOper n o = true) (hn : n ≤ a.tmps.size) (R : Rel s [] a w g) (hq : quietA X.P pu st o s = true) (h : evOp X pu call hint o s = some s') : TellsIf X pu st o a w g s' := by
  have hd := okOper_dst hok hn
  have hc0 : ∀ c, o.op = .call c → c.args.size ≤ c.argTypes.size := fun c hc => by
    simp only [okOper, Bool.and_eq_true] at hok
    have := hok.2; rw [hc] at this; simpa using this
  unfold evOp at h
  split at h
  · rename_i x ho; exact (told_move ho R hd h).tells
  · rename_i x ho; exact (told_assign ho R hd h).tells
  · rename_i c x y ho; exact (told_pick ho R hd h).tells
  · rename_i e ho; simp [quietA, quietO, ho] at hq
  · rename_i e x ho; simp [quietA, quietO, ho] at hq
  · rename_i t parts ho; exact (told_build ho R hd h).tells
  · rename_i t len parts ho; simp [quietA, quietO, ho] at hq
  · rename_i t x ho
    obtain ⟨b, o', m, ⟨v, g', h1, h2, h3⟩, h4⟩ := load_told ho R hd h
    refine ⟨v, g', h2, h3, ?_⟩
    simp only [quietA, ho, Bool.or_eq_true] at hq
    rcases hq with hq | hq
    · exact .inr (.inl ⟨hq, h1 w fun _ _ => rfl⟩)
    · obtain ⟨k1, k2⟩ := h4 hq
      exact .inr (.inr ⟨b, k1, k2, fun w' hw => h1 w' fun j _ => cel_heap hw _⟩)
  · rename_i t ad x ho; simp [quietA, quietO, ho] at hq
  · rename_i x ho; exact (told_nil ho R hd h).tells
  · rename_i op t x y yt ho; exact (told_bin ho R hd h).tells
  · rename_i op t x ho; exact (told_un ho R hd h).tells
  · rename_i t1 t2 x ho
    have hb : isSlT X.P t1 = false := by simpa [quietA, quietO, ho] using hq
    rw [hb] at h
    exact (told_conv ho R hd h).tells
  · rename_i t l c ho; simp [quietA, quietO, ho] at hq
  · rename_i t x lo hi ho
    have hb : isArrT X.P t = false := by simpa [quietA, quietO, ho] using hq
    rw [hb] at h
    exact (told_slice ho R hd h).tells
  · rename_i t x f ho; exact (told_fieldAddr ho R hd h).tells
  · rename_i t x f ho; exact (told_field ho R hd h).tells
  · rename_i t x i ho; exact (told_indexAddr ho R hd h).tells
  · rename_i t x i ho; exact (told_index ho R hd h).tells
  · rename_i t i ho; exact (told_extract ho R hd h).tells
  · rename_i t x ho; simp [quietA, quietO, ho] at hq
  · rename_i t ho; simp [quietA, quietO, ho] at hq
  · rename_i b args ats ho
    have hsz := hc0 _ ho
    simp only at hsz
    unfold callB at h
    split at h
    · rename_i t x hle
      obtain ⟨rfl, e1, e2⟩ := lenOf_inv hle
      exact (told_len1 ho e1 e2 R hd h).tells
    rename_i hnone
    clear hnone
    unfold builtinF at h
    split at h
    rotate_left
    · cases h
    rename_i vs s1 hps
    obtain ⟨v, s2, h1, rfl⟩ := setQ_inv h
    obtain ⟨g1, k1, k2, k3⟩ := Rel.opnds pu _ s [] g vs s1 R hps
    simp only [List.nil_append] at k2
    obtain ⟨vals, hvals⟩ : ∃ vals, vals = (args.map a.eval).toList := ⟨_, rfl⟩
    have he : (ats.toList.zip args.toList).map (fun p => a.eval p.2) = vals := by
      rw [hvals]
      have := args_eq (n := 0) (f := fun _ => undef) ats.toList args.toList a.eval (by simpa using hsz)
      rw [this]; simp
    rw [he] at k2
    have hl : vals.length = vs.length := by
      rw [k1, hvals]
      simp; omega
    have fin : ∀ {s2}, Told X pu o a w g1 s2 → TellsIf X pu st o a w g s2 := fun {s2} hg => by
      obtain ⟨v, g', r1, r2, r3⟩ := hg
      exact ⟨v, g', r2, k3.trans r3, .inl r1⟩
    unfold evBuiltin at h1
    split at h1
    · simp [quietA, quietO, ho] at hq
    · simp [quietA, quietO, ho] at hq
    · rename_i t v0 heq
      cases hq2 : evLen X.P t v0 with
      | none => rw [hq2] at h1; cases h1
      | some v' =>
        rw [hq2] at h1
        cases h1
        exact fin (told_len ho heq hvals.symm k2 (by simpa using hl) hd hq2)
    · rename_i v0 y r
      cases hq2 : foldO max2 v0 (y :: r) with
      | none => rw [hq2] at h1; cases h1
      | some v' =>
        rw [hq2] at h1
        cases h1
        refine fin (told_fold (f := max2) (f' := Builtin.max2) ho hvals.symm k2 hl hd max2_ok (fun u us hu => ?_) hq2)
        unfold execOp; rw [ho]
        simp only [resolve, pure_bind, invoke, builtin, Builtin.max_, hu]
    · rename_i v0 y r
      cases hq2 : foldO min2 v0 (y :: r) with
      | none => rw [hq2] at h1; cases h1
      | some v' =>
        rw [hq2] at h1
        cases h1
        refine fin (told_fold (f := min2) (f' := Builtin.min2) ho hvals.symm k2 hl hd min2_ok (fun u us hu => ?_) hq2)
        unfold execOp; rw [ho]
        simp only [resolve, pure_bind, invoke, builtin, Builtin.min_, hu]
    · cases h1
  · rename_i f args ats ho; simp [quietA, quietO, ho] at hq
  · cases h
theorem opZ_tells {call : CallF} {hint : Hint} {o : Oper} {n : Nat} {st : Bool} (hok : okOper n o = true) (hn : n ≤ a.tmps.size) (R : Rel s [] a w g) (hq : quietA X.P pu st o s = true) (h : evOpZ X pu call hint o s = some s') : TellsIf X pu st o a w g s' := by
  obtain ⟨s0, h1, h2⟩ := fzO_inv h
  have k := op_tells hok hn R hq h1
  rcases h2 with rfl | rfl
  · exact k
  · obtain ⟨v, g', k1, k2, k3⟩ := k
    obtain ⟨g2, q1, q2⟩ := k1.fzD pu (d := o.dst) fun t ht => by
      rw [put_size]; exact okOper_dst hok hn t ht
    exact ⟨v, g2, q1, k2.trans q2, k3⟩
end
end Go.Proofs.Abs
/- Drawn regions: a schedule shows every order. -/
namespace Go.Proofs.Abs
open Go
set_option linter.unusedVariables false
set_option linter.unusedSimpArgs false

section
variable {X : Cx} {pu : Pu} {st : Bool} {s s' : St} {a : Act} {w : World} {g : Gh}

theorem agree_inv {p q : Option St} {r : St} (h : agree p q = some r) : p = some r ∧ q = some r := by
  unfold agree at h
  split at h
  · rename_i e; subst e; exact ⟨h, h⟩
  · cases h
theorem evSch_none {call : CallF} {fn id : Nat} {ops : List Oper} : ∀ (sch : Sch), evSch X pu st call fn id ops sch none = none
  | .done => rfl
  | .take i n => evSch_none n
  | .last i n => evSch_none n
  | .alt i n r => by
    show agree (evSch X pu st call fn id ops n none) _ = none
    rw [evSch_none n]
    unfold agree
    split <;> rfl
theorem yields_take {ops : Array Oper} {o : Oper} {n : Nat} {call : CallF} {hint : Hint} (hok : okOper n o = true) (hn : n ≤ a.tmps.size) (R : Rel s [] a w g) {S : World → Prop} (hS : Held st pu S w g)
    (h : takeA X pu st call hint o s (wantA ops.toList s o.guard) = some s') : ∃ v g' S', Rel s' [] (a.put o.dst v) w g' ∧ Le pu w g w g' ∧ (∀ w', S' w' → S w') ∧ Held st pu S' w g' ∧ YieldsIf X.P ops S' o v a := by
  unfold takeA at h
  split at h
  · rename_i hw
    split at h
    rotate_left
    · cases h
    rename_i hq
    obtain ⟨v, g', k1, k2, k3⟩ := opZ_tells hok hn R hq h
    rcases k3 with k3 | ⟨k0, k3⟩ | ⟨b, b1, b2, k3⟩
    · exact ⟨v, g', S, k1, k2, fun _ h => h, hS.same k2, .inl ⟨want_ok R hw, fun w' _ => k3 w'⟩⟩
    · refine ⟨v, g', S, k1, k2, fun _ h => h, hS.same k2, .inl ⟨want_ok R hw, fun w' hw' => ?_⟩⟩
      rcases hS with ⟨_, hS⟩ | ⟨h0, _⟩
      · rw [(hS w').1 hw']; exact k3
      · rw [k0] at h0; cases h0
    · cases hst : st with
      | true =>
        rw [hst] at hS
        refine ⟨v, g', S, k1, k2, fun _ h => h, hS.same k2, .inl ⟨want_ok R hw, fun w' hw' => ?_⟩⟩
        rcases hS with ⟨_, hS⟩ | ⟨h0, _⟩
        · rw [(hS w').1 hw']; exact k3 w rfl
        · cases h0
      | false =>
        rw [hst] at hS
        obtain ⟨S', q1, q2⟩ := hS.add b1 b2
        exact ⟨v, g', S', k1, k2, fun w' h => (q1 w' h).1, q2.same k2, .inl ⟨want_ok R hw, fun w' hw' => k3 w' (q1 w' hw').2⟩⟩
  · rename_i hw
    cases h
    obtain ⟨g', k1, k2⟩ := undef_ok (pu := pu) R (okOper_dst hok hn)
    exact ⟨undef, g', S, k1, k2, fun _ h => h, hS.same k2, .inr ⟨want_ok R hw, rfl⟩⟩
  · cases h

theorem step_held {call : CallF} (hcall : CallOk X call) {fn id i n : Nat} {ops : Array Oper} (hok : ops.toList.all (okOper n) = true) (hst : st = true → ∀ o, o ∈ ops.toList → (quietO X.P o || isLoad o) = true) (hn : n ≤ a.tmps.size) (R : Rel s [] a w g) (GL : call ≠ call0 → Glob X w g) 
    {S : World → Prop} (hS : Held st pu S w g) (h : stepI X pu call fn id ops.toList i (some s) = some s') {K : Act → World → Prop} {Q}
    (hK : ∀ a' w' g', Rel s' [] a' w' g' → Le pu w g w' g' → Held st pu S w' g' → a'.defers = a.defers → a'.tmps.size = a.tmps.size → K a' w') : wpOp X.P ops Q i (fun a' w' => S w' ∧ K a' w') a w := by
  cases hs : st with
  | false =>
    rw [hs] at hS hK
    refine stepI_goes hcall hok hn R GL h fun a' w' g' r1 r2 r3 r4 => ?_
    obtain ⟨q1, q2⟩ := hS.step r2
    exact ⟨q1, hK a' w' g' r1 r2 q2 r3 r4⟩
  | true =>
    have hq := hst hs
    simp only [stepI] at h
    rw [Array.getElem?_toList] at h
    unfold wpOp
    cases ho : ops[i]? with
    | none => rw [ho] at h; cases h
    | some o =>
      rw [ho] at h
      simp only at h ⊢
      have hm : o ∈ ops.toList := by rw [← Array.getElem?_toList] at ho; exact List.mem_of_getElem? ho
      have hoo : okOper n o = true := List.all_eq_true.1 hok o hm
      unfold stepA at h
      split at h
      · rename_i hw
        rw [if_pos (want_ok R hw)]
        left
        have hqa : quietA X.P pu true o s = true := by
          unfold quietA
          split
          · rfl
          · rename_i hno
            have := hq o hm
            simp only [Bool.or_eq_true] at this
            rcases this with h | h
            · exact h
            · unfold isLoad at h
              split at h
              · rename_i t x he; exact absurd he (hno t x)
              · cases h
        obtain ⟨v, g', k1, k2, k3⟩ := opZ_tells hoo hn R hqa h
        have run : (execOp a.eval o).run X.P w = .ok (.value v) w := by
          rcases k3 with k3 | ⟨_, k3⟩ | ⟨b, _, _, k3⟩
          · exact k3 w
          · exact k3
          · exact k3 w rfl
        unfold Oper.wp
        rw [run, Oper.upon_value]
        exact ⟨hS.now, hK _ _ _ k1 k2 (hS.same k2) (put_defers _ _ _) (put_size _ _ _)⟩
      · rename_i hw
        rw [if_neg (by rw [want_ok R hw]; simp)]
        cases h
        obtain ⟨g', k1, k2⟩ := undef_ok (pu := pu) R (okOper_dst hoo hn)
        exact ⟨hS.now, hK _ _ _ k1 k2 (hS.same k2) (put_defers _ _ _) (put_size _ _ _)⟩
      · cases h

theorem sch_ok {call : CallF} (hcall : CallOk X call) {fn id n : Nat} {ops : Array Oper} (hok : ops.toList.all (okOper n) = true) (hsel : Region.noSelect ops = true) (hst : st = true → ∀ o, o ∈ ops.toList → (quietO X.P o || isLoad o) = true)
    {Q : Exit → Act → World → Prop} (hQp : ∀ c a w, ¬ Q (.panic c) a w) : ∀ (sch : Sch) (f : Nat) (listed : Array Bool) (inb : Bool) (s : St) (a : Act) (w : World) (g : Gh) (S : World → Prop), okSch ops inb f listed sch = true → n ≤ a.tmps.size → Rel s [] a w g → (call ≠ call0 → Glob X w g) → Held st pu S w g →
      evSch X pu st call fn id ops.toList sch (some s) = some s' → (∀ a' w' g', Rel s' [] a' w' g' → Le pu w g w' g' → a'.defers = a.defers → a'.tmps.size = a.tmps.size → Q .normal a' w') →
      (inb = false → wpAnyH X.P .any ops Q S f listed a w) ∧ (∀ f', f = f' + 1 → ∀ i, i ∈ sch.heads → wpOp X.P ops Q i (fun a' w' => S w' ∧ wpAnyH X.P .any ops Q S f' (listed.setIfInBounds i true) a' w') a w)
  | .done, f, listed, inb, s, a, w, g, S, hB, hn, R, GL, hS, h, hK => by
    cases h
    refine ⟨fun _ => wpAnyH_done ?_ (hK a w g R (.refl _ _ _) rfl rfl) f, fun f' _ i hi => by cases hi⟩
    have : (Region.ready .any ops listed).isEmpty = true := by cases f <;> exact hB
    simpa using this
  | .take i nx, f, listed, inb, s, a, w, g, S, hB, hn, R, GL, hS, h, hK => by
    refine ⟨fun _ => ?_, fun f' _ i hi => by cases hi⟩
    cases f with
    | zero => cases hB
    | succ f =>
      simp only [okSch, Bool.and_eq_true] at hB
      obtain ⟨⟨hB1, hB2⟩, hB3⟩ := hB
      simp only [evSch] at h
      cases ht : takeI X pu st call fn id ops.toList i (some s) with
      | none => rw [ht, evSch_none] at h; cases h
      | some s1 =>
        rw [ht] at h
        simp only [takeI] at ht
        rw [Array.getElem?_toList] at ht
        cases ho : ops[i]? with
        | none => rw [ho] at ht; cases ht
        | some o =>
          rw [ho] at ht
          have hoo : okOper n o = true := List.all_eq_true.1 hok o (by rw [← Array.getElem?_toList] at ho; exact List.mem_of_getElem? ho)
          obtain ⟨v, g', S', k1, k2, k3, k4, k5⟩ := yields_take hoo hn R hS ht
          refine wpAnyH_weak k3 _ _ _ _ (wpAnyH_take ho hsel hB2 hB1 (fun c a w hq => absurd hq (hQp _ _ _)) k5 k4.now ?_)
          exact (sch_ok hcall hok hsel hst hQp nx f _ false s1 _ w g' S' hB3 (by rw [put_size]; exact hn) k1 (fun e => (GL e).le k2) k4 h fun a2 w2 g2 q1 q2 q3 q4 => hK a2 w2 g2 q1 (k2.trans q2) (q3.trans (put_defers _ _ _)) (q4.trans (put_size _ _ _))).1 rfl
  | .last i nx, f, listed, inb, s, a, w, g, S, hB, hn, R, GL, hS, h, hK => by
    cases f with
    | zero => cases hB
    | succ f =>
      simp only [okSch, Bool.and_eq_true, Bool.or_eq_true] at hB
      obtain ⟨hB1, hB3⟩ := hB
      simp only [evSch] at h
      have key : wpOp X.P ops Q i (fun a' w' => S w' ∧ wpAnyH X.P .any ops Q S f (listed.setIfInBounds i true) a' w') a w := by
        cases ht : stepI X pu call fn id ops.toList i (some s) with
        | none => rw [ht, evSch_none] at h; cases h
        | some s1 =>
          rw [ht] at h
          refine step_held hcall hok hst hn R GL hS ht fun a' w' g' r1 r2 r3 r4 r5 => ?_
          exact (sch_ok hcall hok hsel hst hQp nx f _ false s1 a' w' g' S hB3 (by rw [r5]; exact hn) r1 (fun e => (GL e).le r2) r3 h fun a2 w2 g2 q1 q2 q3 q4 => hK a2 w2 g2 q1 (r2.trans q2) (q3.trans r4) (q4.trans r5)).1 rfl
      refine ⟨fun hb => ?_, fun f' e j hj => ?_⟩
      · have hr : Region.ready .any ops listed = [i] := by
          rcases hB1 with h | h
          · rw [hb] at h; cases h
          · simpa using h
        exact wpAnyH_all hr (by simp) fun j hj => by
          obtain rfl : j = i := by simpa using hj
          exact key
      · cases e
        obtain rfl : j = i := by simpa [Sch.heads] using hj
        exact key
  | .alt i nx r, f, listed, inb, s, a, w, g, S, hB, hn, R, GL, hS, h, hK => by
    cases f with
    | zero => cases hB
    | succ f =>
      simp only [okSch, Bool.and_eq_true, Bool.or_eq_true] at hB
      obtain ⟨⟨hB1, hB3⟩, hB4⟩ := hB
      simp only [evSch] at h
      obtain ⟨h1, h2⟩ := agree_inv h
      have key : wpOp X.P ops Q i (fun a' w' => S w' ∧ wpAnyH X.P .any ops Q S f (listed.setIfInBounds i true) a' w') a w := by
        cases ht : stepI X pu call fn id ops.toList i (some s) with
        | none => rw [ht, evSch_none] at h1; cases h1
        | some s1 =>
          rw [ht] at h1
          refine step_held hcall hok hst hn R GL hS ht fun a' w' g' r1 r2 r3 r4 r5 => ?_
          exact (sch_ok hcall hok hsel hst hQp nx f _ false s1 a' w' g' S hB3 (by rw [r5]; exact hn) r1 (fun e => (GL e).le r2) r3 h1 fun a2 w2 g2 q1 q2 q3 q4 => hK a2 w2 g2 q1 (r2.trans q2) (q3.trans r4) (q4.trans r5)).1 rfl
      have rest := (sch_ok hcall hok hsel hst hQp r (f + 1) listed true s a w g S hB4 hn R GL hS h2 hK).2 f rfl
      have all : ∀ j, j ∈ (Sch.alt i nx r).heads → wpOp X.P ops Q j (fun a' w' => S w' ∧ wpAnyH X.P .any ops Q S f (listed.setIfInBounds j true) a' w') a w := fun j hj => by
        simp only [Sch.heads, List.mem_cons] at hj
        rcases hj with rfl | hj
        · exact key
        · exact rest j hj
      refine ⟨fun hb => ?_, fun f' e j hj => ?_⟩
      · have hr : Region.ready .any ops listed = i :: r.heads := by
          rcases hB1 with h | h
          · rw [hb] at h; cases h
          · simpa using h
        exact wpAnyH_all hr (by simp) fun j hj => all j hj
      · cases e; exact all j hj
end
end Go.Proofs.Abs
/- Code, and bodies. -/
namespace Go.Proofs.Abs
open Go
set_option linter.unusedVariables false
set_option linter.unusedSimpArgs false

section
variable {X : Cx} {pu : Pu} {st : Bool} {s s' : St} {a : Act} {w : World} {g : Gh}

def toExit : Ex → Exit
  | .nrm => .normal
  | .exit id => .exit id
  | .ret => .ret
theorem Le.weak {w' g'} {p : Bool} {q : List Nat} (h : Le ⟨pu.ob || p, pu.lc ++ q⟩ w g w' g') : Le pu w g w' g' :=
  ⟨h.size, fun b hb hs => h.keep b hb (hs.imp id (.imp id (.imp (fun ⟨e, h⟩ => ⟨by simp [e], h⟩) fun ⟨t, e, h⟩ => ⟨t, inL_append e, h⟩))), h.new, h.ext, h.n, h.ids, h.os, h.tape, h.out⟩
theorem endR_inv {dead : List Nat × List Nat} {q : Option St} {e s'} (h : endR dead q = some (e, s')) : ∃ s1, q = some s1 ∧ e = .nrm ∧ s' = s1.drop dead := by
  unfold endR at h
  split at h
  · cases h; exact ⟨_, rfl, rfl, rfl⟩
  · cases h
theorem Rel.dropped {dead} (R : Rel s [] a w g) : Rel (s.drop dead) [] a w g := R.drops dead

/-- what code does -/
def Does (X : Cx) (pu : Pu) (c : Code) (a : Act) (w : World) (g : Gh) (e : Ex) (s' : St) : Prop :=
  ∀ (Q : Exit → Act → World → Prop), (∀ ch a w, ¬ Q (.panic ch) a w) → (∀ a' w' g', Rel s' [] a' w' g' → Le pu w g w' g' → a'.defers = a.defers → a'.tmps.size = a.tmps.size → Q (toExit e) a' w') → c.wp X.P Q a w

theorem does_region (hm : X.P.follows .mixedOrders = true) {call : CallF} (hcall : CallOk X call) {fn id n : Nat} {ops : Array Oper} {dr : Bool} {e} (hok : okCode X fn n (.region id ops dr) = true) (hn : n ≤ a.tmps.size) (R : Rel s [] a w g) (GL : call ≠ call0 → Glob X w g) 
    (h : endR (X.dead fn id) (if dr then evSch X ⟨pu.ob || X.rpu fn id, pu.lc ++ X.rlc fn id⟩ (X.rst fn id) call fn id ops.toList (X.sch fn id) (some s) else evOps X pu call fn id ops.toList 0 ops.toList (some s)) = some (e, s')) : Does X pu (.region id ops dr) a w g e s' := by
  intro Q hQp hQ
  obtain ⟨s1, h1, rfl, rfl⟩ := endR_inv h
  simp only [okCode, Bool.and_eq_true] at hok
  obtain ⟨hok1, hok2⟩ := hok
  cases dr with
  | false =>
    simp only [Bool.false_eq_true, if_false] at h1
    refine wp_region ?_
    have := ops_ok (fn := fn) (id := id) hcall hok1 (Q := Q) ops.toList 0 s a w g (fun j => by rw [Nat.zero_add, Array.getElem?_toList]) hn R GL h1 fun a' w' g' q1 q2 q3 q4 => hQ a' w' g' q1.dropped q2 q3 q4
    rw [List.range_eq_range']
    simpa using this
  | true =>
    simp only [if_true] at h1
    simp only [Bool.not_true, Bool.false_or] at hok2
    simp only [okDrawn, Bool.and_eq_true, Bool.or_eq_true, Bool.not_eq_true'] at hok2
    obtain ⟨⟨hk1, hk2⟩, hk3⟩ := hok2
    refine wp_region_held (S := if X.rst fn id then fun w' => w' = { w with drawn := w.drawn + 1 } else fun _ => True) hm ?_
    have R1 : Rel s [] a { w with drawn := w.drawn + 1 } g := R.all (chg_same (w := w) (w' := { w with drawn := w.drawn + 1 }) rfl) (fun _ _ => trivial) rfl (fun _ => rfl) (fun _ => rfl)
    have L1 : ∀ pu, Le pu w g { w with drawn := w.drawn + 1 } g := fun pu => le_same pu rfl rfl rfl rfl
    refine (sch_ok hcall hok1 hk1 (st := X.rst fn id) (pu := ⟨pu.ob || X.rpu fn id, pu.lc ++ X.rlc fn id⟩) (fun hst o ho => ?_) hQp (X.sch fn id) ops.size _ false s a _ g _ hk2 hn R1 (fun e => (GL e).le (L1 pu)) ?_ h1 fun a' w' g' q1 q2 q3 q4 => hQ a' w' g' q1.dropped ?_ q3 q4).1 rfl
    · rcases hk3 with h | h
      · rw [hst] at h; cases h
      · exact List.all_eq_true.1 h o ho
    · cases hst : X.rst fn id with
      | true => exact .inl ⟨rfl, fun w' => by simp⟩
      | false => exact .inr ⟨rfl, fun _ => False, fun b hb => hb.elim, fun w' => by simp⟩
    · refine (L1 pu).trans ?_
      exact Le.weak q2

theorem least {p : Nat → Prop} (h : ∃ n, p n) : ∃ n, p n ∧ ∀ m, p m → n ≤ m := by
  obtain ⟨n, hn⟩ := h
  induction n using Nat.strongRecOn with
  | _ n ih =>
    by_cases hc : ∃ m, m < n ∧ p m
    · obtain ⟨m, h1, h2⟩ := hc
      exact ih m h1 h2
    · exact ⟨n, hn, fun m hm => Nat.le_of_not_lt fun hl => hc ⟨m, hl, hm⟩⟩

theorem does_loop {call : CallF} {fn n k : Nat} {c : Code} (ih : ∀ (s : St) (a : Act) (w : World) (g : Gh) e s', n ≤ a.tmps.size → Rel s [] a w g → (call ≠ call0 → Glob X w g) → evC X pu call (itK k) fn c s = some (e, s') → Does X pu c a w g e s') {e}
    (hn : n ≤ a.tmps.size) (R : Rel s [] a w g) (GL : call ≠ call0 → Glob X w g) (h : iter (evC X pu call (itK k) fn c) k s = some (e, s')) : Does X pu (.loop c) a w g e s' := by
  intro Q hQp hQ
  obtain ⟨f, hf⟩ : ∃ f, f = evC X pu call (itK k) fn c := ⟨_, rfl⟩
  rw [← hf] at h ih
  let J : Nat → Act → World → Prop := fun j a' w' => ∃ s1 g1, iter f j s1 = some (e, s') ∧ Rel s1 [] a' w' g1 ∧ Le pu w g w' g1 ∧ a'.defers = a.defers ∧ a'.tmps.size = a.tmps.size
  open Classical in
  let μ : Act → World → Nat := fun a' w' => if hj : ∃ j, J j a' w' then Classical.choose (least hj) else 0
  have hμ : ∀ a' w' j, J j a' w' → J (μ a' w') a' w' ∧ μ a' w' ≤ j := fun a' w' j hj => by
    have hex : ∃ j, J j a' w' := ⟨j, hj⟩
    have := Classical.choose_spec (least hex)
    show J (if hj : ∃ j, J j a' w' then _ else _) a' w' ∧ (if hj : ∃ j, J j a' w' then _ else _) ≤ j
    rw [dif_pos hex]
    exact ⟨this.1, this.2 j hj⟩
  refine wp_loop (fun a' w' => ∃ j, J j a' w') μ ⟨k, s, g, h, R, .refl _ _ _, rfl, rfl⟩ fun a1 w1 hI => ?_
  obtain ⟨j0, hj0⟩ := hI
  obtain ⟨hJ, _⟩ := hμ a1 w1 j0 hj0
  obtain ⟨j, hj⟩ : ∃ j, j = μ a1 w1 := ⟨_, rfl⟩
  rw [← hj] at hJ ⊢
  obtain ⟨s1, g1, k1, k2, k3, k4, k5⟩ := hJ
  cases j with
  | zero => cases k1
  | succ j =>
    simp only [iter] at k1
    cases hs : f s1 with
    | none => rw [hs] at k1; cases k1
    | some q =>
      obtain ⟨e1, s2⟩ := q
      rw [hs] at k1
      refine ih s1 a1 w1 g1 e1 s2 (by rw [k5]; exact hn) k2 (fun e => (GL e).le k3) hs _ (fun ch a w => hQp ch a w) fun a' w' g' r1 r2 r3 r4 => ?_
      cases e1 with
      | nrm =>
        have hJ' : J j a' w' := ⟨s2, g', k1, r1, k3.trans r2, r3.trans k4, r4.trans k5⟩
        exact ⟨⟨j, hJ'⟩, Nat.lt_of_le_of_lt (hμ a' w' j hJ').2 (Nat.lt_succ_self j)⟩
      | exit id => cases k1; exact hQ a' w' g' r1 (k3.trans r2) (r3.trans k4) (r4.trans k5)
      | ret => cases k1; exact hQ a' w' g' r1 (k3.trans r2) (r3.trans k4) (r4.trans k5)

theorem code_ok (hm : X.P.follows .mixedOrders = true) {call : CallF} (hcall : CallOk X call) {fn n k : Nat} : ∀ (c : Code) (s : St) (a : Act) (w : World) (g : Gh) e s', okCode X fn n c = true → n ≤ a.tmps.size → Rel s [] a w g → (call ≠ call0 → Glob X w g) → evC X pu call (itK k) fn c s = some (e, s') → Does X pu c a w g e s'
  | .skip, s, a, w, g, e, s', hok, hn, R, GL, h => by
    cases h
    exact fun Q _ hQ => wp_skip (hQ a w g R (.refl _ _ _) rfl rfl)
  | .region id ops dr, s, a, w, g, e, s', hok, hn, R, GL, h => does_region hm hcall hok hn R GL h
  | .seq x y, s, a, w, g, e, s', hok, hn, R, GL, h => by
    simp only [okCode, Bool.and_eq_true] at hok
    simp only [evC] at h
    intro Q hQp hQ
    cases hx : evC X pu call (itK k) fn x s with
    | none => rw [hx] at h; cases h
    | some q =>
      obtain ⟨e1, s1⟩ := q
      rw [hx] at h
      refine wp_seq (code_ok hm hcall x s a w g e1 s1 hok.1 hn R GL hx _ (fun ch a w => hQp ch a w) fun a' w' g' r1 r2 r3 r4 => ?_)
      cases e1 with
      | nrm => exact code_ok hm hcall y s1 a' w' g' e s' hok.2 (by rw [r4]; exact hn) r1 (fun e => (GL e).le r2) h Q hQp fun a2 w2 g2 q1 q2 q3 q4 => hQ a2 w2 g2 q1 (r2.trans q2) (q3.trans r3) (q4.trans r4)
      | exit id => cases h; exact hQ a' w' g' r1 r2 r3 r4
      | ret => cases h; exact hQ a' w' g' r1 r2 r3 r4
  | .cond c x y, s, a, w, g, e, s', hok, hn, R, GL, h => by
    simp only [okCode, Bool.and_eq_true] at hok
    simp only [evC] at h
    unfold condF at h
    split at h
    rotate_left
    · cases h
    rename_i m t hc
    intro Q hQp hQ
    obtain ⟨r, _, hr⟩ := R.val hc
    refine wp_cond (t := t) hr.one.bool ?_
    cases t with
    | true => exact code_ok hm hcall x _ a w g e s' hok.1 hn R.dropped GL h Q hQp hQ
    | false => exact code_ok hm hcall y _ a w g e s' hok.2 hn R.dropped GL h Q hQp hQ
  | .block id c, s, a, w, g, e, s', hok, hn, R, GL, h => by
    simp only [evC] at h
    intro Q hQp hQ
    cases hc : evC X pu call (itK k) fn c s with
    | none => rw [hc] at h; cases h
    | some q =>
      obtain ⟨e1, s1⟩ := q
      rw [hc] at h
      refine wp_block (code_ok hm hcall c s a w g e1 s1 hok hn R GL hc _ (fun ch a w => hQp ch a w) fun a' w' g' r1 r2 r3 r4 => ?_)
      cases e1 with
      | nrm => cases h; exact hQ a' w' g' r1 r2 r3 r4
      | ret => cases h; exact hQ a' w' g' r1 r2 r3 r4
      | exit j =>
        simp only [endB] at h
        show if j = id then Q .normal a' w' else Q (.exit j) a' w'
        split at h
        · rename_i e; rw [if_pos e]; cases h; exact hQ a' w' g' r1 r2 r3 r4
        · rename_i e; rw [if_neg e]; cases h; exact hQ a' w' g' r1 r2 r3 r4
  | .loop c, s, a, w, g, e, s', hok, hn, R, GL, h => does_loop (fun s a w g e s' hn R GL h => code_ok hm hcall c s a w g e s' hok hn R GL h) hn R GL h
  | .scope c, s, a, w, g, e, s', hok, hn, R, GL, h => by
    intro Q hQp hQ
    refine wp_scope_straight (code_ok hm hcall c s a w g e s' hok hn R GL h _ (fun ch a w hq => hQp ch a w hq) fun a' w' g' r1 r2 r3 r4 => ?_)
    have := hQ a' w' g' r1 r2 r3 r4
    cases e <;> exact this
  | .exit id, s, a, w, g, e, s', hok, hn, R, GL, h => by
    cases h
    exact fun Q _ hQ => wp_exit (hQ a w g R (.refl _ _ _) rfl rfl)
  | .ret, s, a, w, g, e, s', hok, hn, R, GL, h => by
    cases h
    exact fun Q _ hQ => wp_ret (hQ a w g R (.refl _ _ _) rfl rfl)
  | .label _, s, a, w, g, e, s', hok, hn, R, GL, h => by cases h
  | .goto _, s, a, w, g, e, s', hok, hn, R, GL, h => by cases h
/-! ### both ways of a comparison with nil -/
theorem call0_ok : CallOk X call0 := fun f args h v h' he => by cases he
theorem agreeR_inv {R : Type} {p q : Option R} {r : R} (h : agreeR p q = some r) : p = some r ∧ q = some r := by
  unfold agreeR at h
  split at h
  · rename_i e; exact ⟨h, e ▸ h⟩
  · cases h
theorem nilOp_inv {P : Program} {o : Oper} {d t x} (h : nilOp P o = some (d, t, x)) : o.guard = none ∧ o.dst = some d ∧ (∃ yt, o.op = .binOp .eql t x (.const (.slice none 0 0)) yt) ∧ ∃ e, P.underlying t = some (.slice e) := by
  unfold nilOp at h
  split at h
  · rename_i t' x' yt h1 h2 h3
    split at h
    · rename_i e he; cases h; exact ⟨h1, h2, ⟨_, h3⟩, e, he⟩
    · cases h
  · cases h
theorem opsK_ok {fn id n : Nat} {ops : Array Oper} (hok : ops.toList.all (okOper n) = true) {R : Type} {k : St → Option R} {r : R} {Q : Exit → Act → World → Prop} : ∀ (l : List Oper) (i : Nat) (s : St) (a : Act) (w : World) (g : Gh), (∀ j, l[j]? = ops[i + j]?) → n ≤ a.tmps.size → Rel s [] a w g →
    evOpsK X pu fn id ops.toList i l k s = some r → (∀ a' w' g' s', Rel s' [] a' w' g' → Le pu w g w' g' → a'.defers = a.defers → a'.tmps.size = a.tmps.size → k s' = some r → Q .normal a' w') → wpOps X.P ops Q (List.range' i l.length) a w
  | [], i, s, a, w, g, hl, hn, R, h, hQ => hQ _ _ _ _ R.dropped (.refl _ _ _) rfl rfl h
  | o :: l, i, s, a, w, g, hl, hn, R, h, hQ => by
    simp only [evOpsK] at h
    have ho : ops[i]? = some o := by have := hl 0; simpa using this.symm
    simp only [List.length_cons, List.range'_succ]
    rw [wpOps_cons]
    have next : ∀ (s1 : St) (a' : Act) (w' : World) (g' : Gh), evOpsK X pu fn id ops.toList (i + 1) l k s1 = some r → Rel s1 [] a' w' g' → Le pu w g w' g' → a'.defers = a.defers → a'.tmps.size = a.tmps.size → wpOps X.P ops Q (List.range' (i + 1) l.length) a' w' := fun s1 a' w' g' he r1 r2 r3 r4 =>
      opsK_ok hok l (i + 1) s1 a' w' g' (fun j => by have := hl (j + 1); rw [show i + 1 + j = i + (j + 1) from by omega]; simpa using this) (by rw [r4]; exact hn) r1 he
        fun a2 w2 g2 s2 q1 q2 q3 q4 q5 => hQ a2 w2 g2 s2 q1 (r2.trans q2) (q3.trans r3) (q4.trans r4) q5
    cases hno : nilOp X.P o with
    | none =>
      rw [hno] at h
      simp only at h
      cases hs : stepA X pu call0 (X.hint fn id i) o s (wantA ops.toList s o.guard) with
      | none => rw [hs] at h; cases h
      | some s1 =>
        rw [hs] at h
        exact stepI_goes (s' := s1) (fn := fn) (id := id) call0_ok hok hn R (fun e => absurd rfl e) (by simp only [stepI]; rw [Array.getElem?_toList, ho]; exact hs) fun a' w' g' r1 r2 r3 r4 => next s1 a' w' g' h r1 r2 r3 r4
    | some q =>
      obtain ⟨d, t, x⟩ := q
      rw [hno] at h
      simp only at h
      obtain ⟨hgd, hdst, ⟨yt, hop⟩, e, ht⟩ := nilOp_inv hno
      split at h
      rotate_left
      · cases h
      rename_i m z xs hx
      have hoo : okOper n o = true := List.all_eq_true.1 hok o (by rw [← Array.getElem?_toList] at ho; exact List.mem_of_getElem? ho)
      obtain ⟨b, hb, told⟩ := told_nilcmp (pu := pu) hop R (okOper_dst hoo hn) ht hx
      rw [hdst] at told
      have he : evOpsK X pu fn id ops.toList (i + 1) l k (setT s (some d) (sc (.bool b))) = some r := by
        cases b with
        | true =>
          rw [hb rfl] at h
          exact (agreeR_inv h).1
        | false =>
          split at h
          · exact (agreeR_inv h).2
          · exact h
      unfold wpOp
      rw [ho]
      simp only
      have hw : wantA ops.toList s o.guard = some true := by rw [hgd]; rfl
      rw [if_pos (want_ok R hw)]
      exact .inl (told.goes _ _ fun a' w' g' r1 r2 r3 r4 => next _ a' w' g' he r1 r2 r3 r4)
theorem kont_ok {R : Type} {fin : St → Option R} {r : R} {fn n : Nat} : ∀ (c : Code) (k : St → Option R) (s : St) (a : Act) (w : World) (g : Gh), okCode X fn n c = true → n ≤ a.tmps.size → Rel s [] a w g → evK X pu fn fin c k s = some r →
    ∀ (Q : Exit → Act → World → Prop), (∀ ch a w, ¬ Q (.panic ch) a w) → (∀ a' w' g' s', Rel s' [] a' w' g' → Le pu w g w' g' → a'.defers = a.defers → a'.tmps.size = a.tmps.size → k s' = some r → Q .normal a' w') →
    (∀ a' w' g' s', Rel s' [] a' w' g' → Le pu w g w' g' → a'.defers = a.defers → a'.tmps.size = a.tmps.size → fin s' = some r → Q .ret a' w') → c.wp X.P Q a w
  | .skip, k, s, a, w, g, hok, hn, R, h, Q, hQp, hN, hR => wp_skip (hN a w g s R (.refl _ _ _) rfl rfl h)
  | .region id ops true, k, s, a, w, g, hok, hn, R, h, Q, hQp, hN, hR => by cases h
  | .region id ops false, k, s, a, w, g, hok, hn, R, h, Q, hQp, hN, hR => by
    simp only [okCode, Bool.and_eq_true] at hok
    simp only [evK] at h
    refine wp_region ?_
    have := opsK_ok (Q := Q) hok.1 ops.toList 0 s a w g (fun j => by rw [Nat.zero_add, Array.getElem?_toList]) hn R h hN
    rw [List.range_eq_range']
    simpa using this
  | .seq x y, k, s, a, w, g, hok, hn, R, h, Q, hQp, hN, hR => by
    simp only [okCode, Bool.and_eq_true] at hok
    simp only [evK] at h
    refine wp_seq (kont_ok x _ s a w g hok.1 hn R h _ (fun ch a w => hQp ch a w) (fun a' w' g' s' r1 r2 r3 r4 r5 => ?_) fun a' w' g' s' r1 r2 r3 r4 r5 => ?_)
    · exact kont_ok y k s' a' w' g' hok.2 (by rw [r4]; exact hn) r1 r5 Q hQp (fun a2 w2 g2 s2 q1 q2 q3 q4 q5 => hN a2 w2 g2 s2 q1 (r2.trans q2) (q3.trans r3) (q4.trans r4) q5) fun a2 w2 g2 s2 q1 q2 q3 q4 q5 => hR a2 w2 g2 s2 q1 (r2.trans q2) (q3.trans r3) (q4.trans r4) q5
    · exact hR a' w' g' s' r1 r2 r3 r4 r5
  | .cond c x y, k, s, a, w, g, hok, hn, R, h, Q, hQp, hN, hR => by
    simp only [okCode, Bool.and_eq_true] at hok
    simp only [evK] at h
    split at h
    rotate_left
    · cases h
    rename_i m t hc
    obtain ⟨r, _, hr⟩ := R.val hc
    refine wp_cond (t := t) hr.one.bool ?_
    cases t with
    | true => exact kont_ok x k _ a w g hok.1 hn R.dropped h Q hQp hN hR
    | false => exact kont_ok y k _ a w g hok.2 hn R.dropped h Q hQp hN hR
  | .ret, k, s, a, w, g, hok, hn, R, h, Q, hQp, hN, hR => wp_ret (hR a w g s R (.refl _ _ _) rfl rfl h)
  | .block id c, k, s, a, w, g, hok, hn, R, h, Q, hQp, hN, hR => by cases h
  | .loop c, k, s, a, w, g, hok, hn, R, h, Q, hQp, hN, hR => by cases h
  | .exit id, k, s, a, w, g, hok, hn, R, h, Q, hQp, hN, hR => by cases h
  | .label _, k, s, a, w, g, hok, hn, R, h, Q, hQp, hN, hR => by cases h
  | .goto _, k, s, a, w, g, hok, hn, R, h, Q, hQp, hN, hR => by cases h
end
end Go.Proofs.Abs
