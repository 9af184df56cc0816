/- The law EmitLands: whatever the input, it answers true. No conditions. (Part EmitLandsP of its proof.) -/
import Derived.Test.YtdfdjhimecmkfaaEmitLandsF2
set_option linter.unusedVariables false
set_option linter.unusedSimpArgs false
set_option linter.unusedSectionVars false
/- Code that is written, in plain Lean: what stands in it, what is put, what is ended. -/
namespace Go.Proofs.Abs
open Go
set_option linter.unusedVariables false
set_option linter.unusedSimpArgs false
theorem room_big : 1048576 ≤ roomBytes := Nat.le_of_ble_eq_true (by kernel_rfl)
theorem app_some {α : Type} {zb : Nat} {xs ys : List α} (h : (xs.length + ys.length) * zb ≤ 1048576) : app zb xs ys = some (xs ++ ys) := by
  unfold app; rw [if_pos (Nat.le_trans h room_big)]
theorem seg_inj (x y : T_api_Segment) (h : e_api_Segment x = e_api_Segment y) : x = y := by
  cases x; cases y; simpa [e_api_Segment] using h
theorem fix_inj (x y : T_api_Fixup) (h : e_api_Fixup x = e_api_Fixup y) : x = y := by
  cases x; cases y; simpa [e_api_Fixup] using h
theorem bld_inj (x y : T_ranges_Builder) (h : o_ranges_Builder x = o_ranges_Builder y) : x = y := by
  cases x; cases y
  simp only [o_ranges_Builder, List.cons.injEq, Prod.mk.injEq, AV.sl.injEq, true_and, and_true] at h
  rw [map_inj seg_inj _ _ h]
theorem bld_len (x : T_ranges_Builder) : (o_ranges_Builder x).length = 1 := rfl
theorem cod_inj (x y : T_emit_Code) (h : o_emit_Code x = o_emit_Code y) : x = y := by
  obtain ⟨a, b, ⟨c⟩, d, e, f, g, k⟩ := x
  obtain ⟨a', b', ⟨c'⟩, d', e', f', g', k'⟩ := y
  simp only [o_emit_Code, List.cons.injEq, Prod.mk.injEq, AV.sl.injEq, AV.int.injEq, true_and, and_true] at h
  obtain ⟨h1, h2, h3, h4, h5, rfl, rfl, rfl⟩ := h
  rw [map_inj eI_inj _ _ h1, map_inj fix_inj _ _ h2, map_inj seg_inj _ _ h3, map_inj eI_inj _ _ h4, map_inj eI_inj _ _ h5]
theorem cod_len (x : T_emit_Code) : (o_emit_Code x).length = 8 := rfl
def CodeAt (H : Heap) (p : Ptr) (c : T_emit_Code) : Prop := ∃ i o, p = .at i o ∧ get_emit_Code H i o = some c
section
variable {H : Heap} {i o : Nat} {p : Ptr} {c : T_emit_Code}
theorem cod_set (y : T_emit_Code) (h : get_emit_Code H i o = some c) : get_emit_Code (set_emit_Code H i o y) i o = some y := hgT_set cod_inj cod_len h y
theorem cod_marks (h : get_emit_Code H i o = some c) : get_ranges_Builder H i (o + 2) = some c.marks_ := by
  refine hgetT_of bld_inj ?_
  have := hget_sub (hgetT_inv h) 2 1 (by omega)
  rw [this]; rfl
theorem cod_setMarks (m : T_ranges_Builder) (h : get_emit_Code H i o = some c) : get_emit_Code (set_ranges_Builder H i (o + 2) m) i o = some ⟨c.words_, c.fixups_, m, c.pads_, c.active_, c.depth_, c.most_, c.err_⟩ := by
  refine hgetT_of cod_inj ?_
  unfold set_ranges_Builder
  rw [hset_sub0 (hgetT_inv h) (k := 2) (b := o_ranges_Builder m) (by rw [bld_len]; omega)]
  rw [hset_get (hgetT_inv h) (by rw [setAt_len (by rw [bld_len, cod_len]; omega)]; rfl)]
  rfl
def failC (c : T_emit_Code) (e : Int) : T_emit_Code := ⟨c.words_, c.fixups_, c.marks_, c.pads_, c.active_, c.depth_, c.most_, if c.err_ = 0 then e else c.err_⟩
def addW (c : T_emit_Code) (w : Int) : T_emit_Code := ⟨c.words_ ++ [w], c.fixups_, c.marks_, c.pads_, c.active_, c.depth_, c.most_, c.err_⟩
theorem put_spec {x : T_instr_Instr} {w : Int} (h : get_emit_Code H i o = some c) (hw : instr_Encode x = some (w, 0)) (hl : c.words_.length < 16384) :
    ∃ H', emit_Code_Put H (.at i o) x = some (H', (c.words_.length : Int)) ∧ get_emit_Code H' i o = some (addW c w) := by
  unfold emit_Code_Put emit_Code_Put_j1
  rw [hw, bind2_some, if_neg (by simp), pbnd_at, h, bind1_some, if_neg (by simp; omega), app_some (by simp; omega), bind1_some, bnd_def]
  refine ⟨_, ?_, cod_set _ h⟩
  rw [wrap_i64 _ (by simp <;> omega) (by simp <;> omega)]
  simp [addW]
theorem here_spec (h : get_emit_Code H i o = some c) : emit_Code_Here H (.at i o) = some (c.words_.length : Int) := by
  unfold emit_Code_Here; rw [pbnd_at, h]; rfl
theorem mark0 (h : get_ranges_Builder H i o = some ⟨[]⟩) : ranges_Builder_Mark H (.at i o) 0 (-1) = some (set_ranges_Builder H i o ⟨[⟨0, -1⟩]⟩) := by
  unfold ranges_Builder_Mark ranges_Builder_Mark_j1
  rw [pbnd_at, h, bind1_some, if_neg (by simp), bind1_some, if_neg (by simp), bind1_some, if_neg (by simp), bind1_some, if_neg (by simp), app_some (by simp), bind1_some, bnd_def]
  rfl
/-- code of which nothing but words was written -/
def C (ws : List Int) (e : Int) : T_emit_Code := ⟨ws, [], ⟨[⟨0, -1⟩]⟩, [], [], 0, 0, e⟩
theorem new_spec (H : Heap) : ∃ H', emit_New H = some (H', .at H.length 0) ∧ get_emit_Code H' H.length 0 = some (C [] 0) := by
  have h1 : get_emit_Code (new_emit_Code H ⟨[], [], ⟨[]⟩, [], [], 0, 0, 0⟩) H.length 0 = some ⟨[], [], ⟨[]⟩, [], [], 0, 0, 0⟩ := hgT_new cod_inj cod_len H _
  unfold emit_New
  rw [bnd_def, bnd_def, h1, bind1_some, mark0 (cod_marks h1), bind1_some]
  exact ⟨_, rfl, cod_setMarks _ h1⟩
theorem clone_seg {l : List T_api_Segment} (hl : l.length ≤ 1000) : slices_Clone_api_Segment_api_Segment l = some l := by
  unfold slices_Clone_api_Segment_api_Segment; rw [app_some (by simp; omega)]; rfl
theorem list_spec {l : List T_api_Segment} (h : get_ranges_Builder H i o = some ⟨l⟩) (hl : l.length ≤ 1000) : ranges_Builder_List H (.at i o) = some l := by
  unfold ranges_Builder_List; rw [pbnd_at, h, bind1_some, clone_seg hl]; rfl
theorem finish_ok {ws : List Int} (h : get_emit_Code H i o = some (C ws 0)) (hl : ws.length ≤ 16384) :
    ∃ H' sg, emit_Code_Finish H (.at i o) = some (H', ⟨ws, [], sg⟩, 0) ∧ get_emit_Code H' i o = some (C ws 0) := by
  have hi : i < H.length := hgT_lt h
  obtain ⟨H1, hH1⟩ : ∃ H1, H1 = new_ranges_Builder H ⟨[]⟩ := ⟨_, rfl⟩
  have b1 : get_ranges_Builder H1 H.length 0 = some ⟨[]⟩ := by rw [hH1]; exact hgT_new bld_inj bld_len H _
  have c1 : get_emit_Code H1 i o = some (C ws 0) := by rw [hH1]; exact hgT_old cod_inj h
  have lp : ∃ H2 sg, loopO (fun (x : Int × Heap) => emit_Code_Finish_L1 [⟨0, -1⟩] i o H.length x.1 x.2) (0, H1) = some H2 ∧ get_emit_Code H2 i o = some (C ws 0) ∧ get_ranges_Builder H2 H.length 0 = some ⟨sg⟩ ∧ sg.length ≤ 1 := by
    by_cases hw : ws = []
    · subst hw
      refine ⟨H1, [], loopO_out ?_, c1, b1, by simp⟩
      show emit_Code_Finish_L1 [⟨0, -1⟩] i o H.length 0 H1 = _
      unfold emit_Code_Finish_L1
      rw [if_pos (by simp), gi_some (by omega) (by simp), bind1_some, c1, bind1_some]
      rfl
    · have h0 : 0 < ws.length := List.length_pos_iff.2 hw
      have c2 : get_emit_Code (set_ranges_Builder H1 H.length 0 ⟨[⟨0, -1⟩]⟩) i o = some (C ws 0) := hgT_other cod_inj (by omega) c1
      refine ⟨set_ranges_Builder H1 H.length 0 ⟨[⟨0, -1⟩]⟩, [⟨0, -1⟩], ?_, c2, hgT_set bld_inj bld_len b1 _, by simp⟩
      rw [loopO_go (f := fun (x : Int × Heap) => emit_Code_Finish_L1 [⟨0, -1⟩] i o H.length x.1 x.2) (s' := (1, set_ranges_Builder H1 H.length 0 ⟨[⟨0, -1⟩]⟩))]
      · refine loopO_out ?_
        show emit_Code_Finish_L1 [⟨0, -1⟩] i o H.length 1 _ = _
        unfold emit_Code_Finish_L1
        rw [if_neg (by simp)]
      · show emit_Code_Finish_L1 [⟨0, -1⟩] i o H.length 0 H1 = _
        unfold emit_Code_Finish_L1 emit_Code_Finish_j2
        rw [if_pos (by simp), gi_some (by omega) (by simp), bind1_some, c1, bind1_some]
        have e : ([⟨0, -1⟩] : List T_api_Segment)[(0 : Int).toNat]'(by simp) = ⟨0, -1⟩ := rfl
        rw [e, if_neg (by simp [C]; omega), if_neg (by simp), mark0 b1, bind1_some]
        rfl
  obtain ⟨H2, sg, l1, l2, l3, l4⟩ := lp
  refine ⟨H2, sg, ?_, l2⟩
  unfold emit_Code_Finish
  rw [pbnd_at, h, bind1_some, if_neg (by simp [C]), bnd_def, bnd_def, ← hH1, c1, bind1_some, list_spec (cod_marks c1) (by simp [C]), bind1_some]
  show bind1 (loopO (fun (x : Int × Heap) => emit_Code_Finish_L1 [⟨0, -1⟩] i o H.length x.1 x.2) (0, H1)) _ = _
  rw [l1, bind1_some, l2, bind1_some]
  show bind1 (app 4 [] ws) _ = _
  rw [app_some (by simp; omega), bind1_some]
  show bind1 (app 32 [] ([] : List T_api_Fixup)) _ = _
  rw [app_some (by simp), bind1_some, list_spec l3 (by omega), bind1_some]
  rfl
theorem set_spec {x : T_instr_Instr} {q w n a : Int} (h : get_emit_Code H i o = some c) (h0 : 0 ≤ a) (h1 : a < c.words_.length) (hd : instr_Decode (c.words_[a.toNat]'(by omega)) = some (x, q))
    (hw : instr_Encode ⟨x.Op_, x.A_, x.B_, x.C_, n⟩ = some (w, 0)) : ∃ H', emit_Code_set H (.at i o) a n = some H' ∧ get_emit_Code H' i o = some ⟨c.words_.set a.toNat w, c.fixups_, c.marks_, c.pads_, c.active_, c.depth_, c.most_, c.err_⟩ := by
  unfold emit_Code_set
  rw [if_neg (by simp; omega), pbnd_at, h, bind1_some, bind2_some, if_neg (by simp; omega), pbnd_at, h, bind1_some, gi_some h0 h1, bind1_some, hd, bind2_some, hw, bind2_some, if_neg (by simp), bind1_some, si_some h0 h1, bind1_some, bnd_def]
  exact ⟨_, rfl, cod_set _ h⟩
end
end Go.Proofs.Abs
/- The page's example of code that is written. -/
namespace Go.Proofs.Abs
open Go
set_option linter.unusedVariables false
set_option linter.unusedSimpArgs false
theorem wf_u8 {n : Int} : (Lit.int .u8 n).wf = true ↔ 0 ≤ n ∧ n ≤ 255 := by
  simp [Lit.wf, IntKind.min, IntKind.max, IntKind.signed, IntKind.bits]
theorem enc_halt : instr_Encode ⟨1, 0, 0, 0, 0⟩ = some (16777216, 0) := by kernel_rfl
theorem enc_br : instr_Encode ⟨22, 0, 0, 0, 0⟩ = some (369098752, 0) := by kernel_rfl
theorem enc_br1 : instr_Encode ⟨22, 0, 0, 0, 1⟩ = some (369098753, 0) := by kernel_rfl
theorem dec_br : instr_Decode 369098752 = some (⟨22, 0, 0, 0, 0⟩, 0) := by kernel_rfl
theorem words_refl (l : List Int) (hl : l.length ≤ 1000000) : ref01_Words l l = some true := by
  have loop : ∀ (k : Nat) (j : Int), 0 ≤ j → j + k = l.length → loopO (fun (x : Int) => ref01_Words_L1 l l x) j = some (.inl ()) := by
    intro k
    induction k with
    | zero =>
      intro j h0 h1
      refine loopO_out ?_
      unfold ref01_Words_L1; rw [if_neg (by simp; omega)]
    | succ k ih =>
      intro j h0 h1
      rw [loopO_go (f := fun (x : Int) => ref01_Words_L1 l l x) (s' := j + 1)]
      · exact ih (j + 1) (by omega) (by omega)
      · show ref01_Words_L1 l l j = _
        unfold ref01_Words_L1
        rw [if_pos (by simp; omega), gi_some h0 (by omega), bind1_some, bind1_some, if_neg (by simp), wrap_i64 _ (by omega) (by omega)]
  unfold ref01_Words
  rw [if_neg (by simp), loop l.length 0 (by omega) (by omega)]
  rfl
section
variable {H : Heap} {i o : Nat} {c : T_emit_Code}
theorem reg_spec {x y w : Int} (h : get_emit_Code H i o = some c) (hw : instr_Encode ⟨x, y, 0, 0, 0⟩ = some (w, 0)) (hl : c.words_.length < 16384) :
    ∃ H', emit_Code_Reg H (.at i o) x y = some (H', (c.words_.length : Int)) ∧ get_emit_Code H' i o = some (addW c w) := by
  obtain ⟨H', e1, e2⟩ := put_spec h hw hl
  exact ⟨H', by unfold emit_Code_Reg; rw [e1]; rfl, e2⟩
theorem jump_spec {x y w : Int} (h : get_emit_Code H i o = some c) (hw : instr_Encode ⟨x, y, 0, 0, 0⟩ = some (w, 0)) (hl : c.words_.length < 16384) :
    ∃ H', emit_Code_Jump H (.at i o) x y = some (H', (c.words_.length : Int)) ∧ get_emit_Code H' i o = some (addW c w) := by
  obtain ⟨H', e1, e2⟩ := put_spec h hw hl
  exact ⟨H', by unfold emit_Code_Jump; rw [e1]; rfl, e2⟩
end
theorem eawake_spec (H : Heap) : ∃ H', law17_awake H = some (H', true) := by
  obtain ⟨H1, e1, g1⟩ := new_spec H
  obtain ⟨H2, e2, g2⟩ := jump_spec g1 enc_br (by simp [C])
  obtain ⟨H3, e3, g3⟩ := reg_spec g2 enc_halt (by simp [C, addW])
  obtain ⟨H4, e4, g4⟩ := set_spec (a := 0) (n := 1) g3 (by omega) (by simp [C, addW]) (x := ⟨22, 0, 0, 0, 0⟩) (q := 0) dec_br enc_br1
  obtain ⟨H5, e5, g5⟩ := reg_spec g4 enc_halt (by simp [C, addW])
  have g6 : get_emit_Code H5 H.length 0 = some (C [369098753, 16777216, 16777216] 0) := g5
  obtain ⟨H6, sg, e6, _⟩ := finish_ok g6 (by simp)
  have e7 : emit_Code_Land H3 (.at H.length 0) 0 = some H4 := by
    unfold emit_Code_Land
    rw [here_spec g3, bind1_some]
    have : IntKind.wrap .i64 ((IntKind.wrap .i64 (((addW (addW (C [] 0) 369098752) 16777216).words_.length : Int) - 0)) - 1) = 1 := rfl
    rw [this, e4]; rfl
  unfold law17_awake
  rw [e1, bind2_some, isNil_at, if_neg (by simp), e2, bind2_some, e3, bind2_some]
  have z : (((C [] 0).words_.length : Nat) : Int) = 0 := rfl
  rw [z, e7, bind1_some, e5, bind2_some, e6, bind3_some, if_pos (by simp), words_refl _ (by simp)]
  exact ⟨_, rfl⟩
end Go.Proofs.Abs
/- Printed by gen (walk.py). -/
namespace Go.Proofs.Abs
open Go Go.Proofs
set_option linter.unusedVariables false
set_option maxRecDepth 100000
set_option maxHeartbeats 0
/-- the statement, in plain Lean -/
def EmitLandsPure : Prop := ∀ (p0 : Int) (p1 : Int), (fun n => (Lit.int .u8 n).wf = true) p0 → (fun n => (Lit.int .u8 n).wf = true) p1 → ∃ Hr, law17_EmitLands [] p0 p1 = some (Hr, true)
end Go.Proofs.Abs
/- A jump that landed leads to where it landed; one back, to where it was told. -/
namespace Go.Proofs.Abs
open Go
set_option linter.unusedVariables false
set_option linter.unusedSimpArgs false
set_option maxRecDepth 20000
/-! the words -/
theorem all_below {n : Nat} {p : Nat → Bool} (h : (List.range n).all p = true) (k : Nat) (hk : k < n) : p k = true := List.all_eq_true.1 h k (List.mem_range.2 hk)
theorem enc_bz (n : Nat) (h : n < 520) : instr_Encode ⟨20, 3, 0, 0, (n : Int)⟩ = some (338690048 + (n : Int), 0) :=
  of_decide_eq_true (all_below (p := fun n => decide (instr_Encode ⟨20, 3, 0, 0, (n : Int)⟩ = some (338690048 + (n : Int), 0))) (by kernel_rfl) n h)
theorem enc_bnz (n : Nat) (h : n < 520) : instr_Encode ⟨21, 3, 0, 0, -((n : Int) + 1)⟩ = some (355532799 - (n : Int), 0) :=
  of_decide_eq_true (all_below (p := fun n => decide (instr_Encode ⟨21, 3, 0, 0, -((n : Int) + 1)⟩ = some (355532799 - (n : Int), 0))) (by kernel_rfl) n h)
theorem renc_bz (n : Nat) (h : n < 520) : ref02_Encode ⟨20, 3, 0, 0, (n : Int)⟩ = some (338690048 + (n : Int), 0) :=
  of_decide_eq_true (all_below (p := fun n => decide (ref02_Encode ⟨20, 3, 0, 0, (n : Int)⟩ = some (338690048 + (n : Int), 0))) (by kernel_rfl) n h)
theorem renc_bnz (n : Nat) (h : n < 520) : ref02_Encode ⟨21, 3, 0, 0, -((n : Int) + 1)⟩ = some (355532799 - (n : Int), 0) :=
  of_decide_eq_true (all_below (p := fun n => decide (ref02_Encode ⟨21, 3, 0, 0, -((n : Int) + 1)⟩ = some (355532799 - (n : Int), 0))) (by kernel_rfl) n h)
theorem enc_bz0 : instr_Encode ⟨20, 3, 0, 0, 0⟩ = some (338690048, 0) := by kernel_rfl
theorem enc_bnz0 : instr_Encode ⟨21, 3, 0, 0, 0⟩ = some (355467264, 0) := by kernel_rfl
theorem dec_bz0 : instr_Decode 338690048 = some (⟨20, 3, 0, 0, 0⟩, 0) := by kernel_rfl
theorem dec_bnz0 : instr_Decode 355467264 = some (⟨21, 3, 0, 0, 0⟩, 0) := by kernel_rfl
theorem enc_lui : instr_Encode ⟨3, 1, 0, 0, 1⟩ = some (51380225, 0) := by kernel_rfl
theorem enc_ori : instr_Encode ⟨4, 1, 1, 0, 4464⟩ = some (68227440, 0) := by kernel_rfl
theorem power16 : ref01_Power 16 = some 65536 := by
  have step : ∀ (a j : Int), j < 16 → 0 ≤ j → 0 ≤ a → a ≤ 65536 → ref01_Power_L1 16 a j = some (.inl (a * 2, j + 1)) := by
    intro a j h1 h2 h3 h4
    unfold ref01_Power_L1
    rw [if_pos (by simpa using h1), wrap_i64 _ (by omega) (by omega), wrap_i64 _ (by omega) (by omega)]
  have fin : ∀ a : Int, ref01_Power_L1 16 a 16 = some (.inr a) := fun a => by unfold ref01_Power_L1; rw [if_neg (by simp)]
  have go : ∀ (k : Nat) (a j : Int), j + k = 16 → 0 ≤ j → 0 ≤ a → a * 2 ^ k ≤ 65536 → loopO (fun (x : Int × Int) => ref01_Power_L1 16 x.1 x.2) (a, j) = some (a * 2 ^ k) := by
    intro k
    induction k with
    | zero =>
      intro a j h1 h2 h3 h4
      obtain rfl : j = 16 := by omega
      refine loopO_out ?_
      show ref01_Power_L1 16 a 16 = _
      rw [fin]; simp
    | succ k ih =>
      intro a j h1 h2 h3 h4
      have e : a * 2 ^ (k + 1) = a * 2 * 2 ^ k := by rw [Int.pow_succ, Int.mul_comm (2 ^ k) 2, ← Int.mul_assoc]
      have p : (1 : Int) ≤ 2 ^ k := Int.pow_pos (by decide) 
      have le : a * 2 ≤ 65536 := by
        rw [e] at h4
        have := Int.mul_le_mul_of_nonneg_left p (show 0 ≤ a * 2 by omega)
        omega
      rw [loopO_go (f := fun (x : Int × Int) => ref01_Power_L1 16 x.1 x.2) (s' := (a * 2, j + 1)) (step a j (by omega) h2 h3 (by omega))]
      rw [ih (a * 2) (j + 1) (by omega) (by omega) (by omega) (by rw [← e]; exact h4), e]
  unfold ref01_Power
  rw [go 16 1 0 (by omega) (by omega) (by omega) (by decide)]
  rfl
noncomputable def sextB (w : Int) : Option Int := bind1 (remI .i64 (IntKind.wrap .i64 w) 65536) fun v4 =>
  if (decide (v4 ≥ (IntKind.wrap .i64 (Int.tdiv 65536 2)))) = true then (ref01_Sext_j1 (IntKind.wrap .i64 (v4 - 65536)))
  else (ref01_Sext_j1 v4)
theorem sext_spec (w : Int) : ref01_Sext w 16 = sextB w := by
  unfold ref01_Sext
  rw [if_neg (by decide)]
  have : (if (32 : Int) < 16 then (32 : Int) else 16) = 16 := by decide
  rw [this, power16, bind1_some]; rfl
noncomputable def decB (w : Int) : Option (T_ref02_Instr × Int) := bind1 (sextB w) fun n => some (⟨IntKind.wrap .i64 (IntKind.wrap .u32 (Int.tdiv w 16777216)), IntKind.wrap .i64 (Int.tmod (IntKind.wrap .u32 (Int.tdiv w 1048576)) 16), 0, 0, IntKind.wrap .i64 n⟩, 0)
theorem rdec_of {w op n : Int} (hs : ref02_Shape (IntKind.wrap .i64 (IntKind.wrap .u32 (Int.tdiv w 16777216))) = some 1) (hd : decB w = some (⟨op, 3, 0, 0, n⟩, 0)) (he : ref02_Encode ⟨op, 3, 0, 0, n⟩ = some (w, 0)) :
    ref02_Decode w = some (⟨op, 3, 0, 0, n⟩, 0) := by
  unfold decB at hd
  obtain ⟨v, hv, hd⟩ := bind1_inv hd
  have h := congrArg Prod.fst (Option.some.inj hd)
  unfold ref02_Decode
  have hh : ref02_has 1 = some (true, false, false) := rfl
  rw [hs, bind1_some, hh, bind3_some, if_pos rfl]
  unfold ref02_Decode_j1 ref02_Decode_j2 ref02_Decode_j3
  rw [if_neg (by simp), if_neg (by simp), if_pos (by simp)]
  unfold ref02_Decode_j4
  rw [if_pos (by simp), sext_spec, hv, bind1_some]
  unfold ref02_Decode_j5
  simp only at h ⊢
  rw [h, he, bind2_some, if_neg (by simp)]
theorem rdec_bz (n : Nat) (h : n < 520) : ref02_Decode (338690048 + (n : Int)) = some (⟨20, 3, 0, 0, (n : Int)⟩, 0) :=
  rdec_of (of_decide_eq_true (all_below (p := fun n => decide (ref02_Shape (IntKind.wrap .i64 (IntKind.wrap .u32 (Int.tdiv (338690048 + (n : Int)) 16777216))) = some 1)) (by kernel_rfl) n h))
    (by
      have := all_below (n := 520) (p := fun n => match decB (338690048 + (n : Int)) with | some (⟨20, 3, 0, 0, m⟩, 0) => decide (m = (n : Int)) | _ => false) (by kernel_rfl) n h
      split at this
      · rename_i m e; rw [e, of_decide_eq_true this]
      · cases this) (renc_bz n h)
theorem rdec_bnz (n : Nat) (h : n < 520) : ref02_Decode (355532799 - (n : Int)) = some (⟨21, 3, 0, 0, -((n : Int) + 1)⟩, 0) :=
  rdec_of (of_decide_eq_true (all_below (p := fun n => decide (ref02_Shape (IntKind.wrap .i64 (IntKind.wrap .u32 (Int.tdiv (355532799 - (n : Int)) 16777216))) = some 1)) (by kernel_rfl) n h))
    (by
      have := all_below (n := 520) (p := fun n => match decB (355532799 - (n : Int)) with | some (⟨21, 3, 0, 0, m⟩, 0) => decide (m = -((n : Int) + 1)) | _ => false) (by kernel_rfl) n h
      split at this
      · rename_i m e; rw [e, of_decide_eq_true this]
      · cases this) (renc_bnz n h)
/-! the code -/
theorem number_spec {H : Heap} {i : Nat} {ws : List Int} (h : get_emit_Code H i 0 = some (C ws 0)) (hl : ws.length < 16380) :
    ∃ H', emit_Code_Number H (.at i 0) 1 70000 = some H' ∧ get_emit_Code H' i 0 = some (C (ws ++ [51380225, 68227440]) 0) := by
  obtain ⟨H1, e1, g1⟩ := put_spec h enc_lui (show ws.length < 16384 by omega)
  have g1 : get_emit_Code H1 i 0 = some (C (ws ++ [51380225]) 0) := g1
  obtain ⟨H2, e2, g2⟩ := put_spec g1 enc_ori (show (ws ++ [51380225]).length < 16384 by simp; omega)
  refine ⟨H2, ?_, by rw [g2]; simp [addW, C]⟩
  have f : word_Fits (IntKind.wrap .i64 70000) 16 = some false := by kernel_rfl
  have q1 : (IntKind.wrap .i64 (Int.fdiv (IntKind.wrap .u32 70000) (2 ^ 16))) = 1 := by kernel_rfl
  have q2 : (IntKind.wrap .i64 (bitsOf .and .u32 (IntKind.wrap .u32 70000) 65535)) = 4464 := by kernel_rfl
  unfold emit_Code_Number
  rw [f, bind1_some, if_neg (by simp), q1, q2, e1, bind2_some, e2, bind2_some]
theorem lands_loop1 {p0 : Int} {i B : Nat} (hB : IntKind.wrap .i64 p0 = B) (hB2 : B < 1000) : ∀ (k j : Nat) (ws : List Int) (H : Heap), j + k = B → ws.length = j → get_emit_Code H i 0 = some (C ws 0) →
    ∃ H' ws', loopO (fun (x : Int × Heap) => law17_EmitLands_L1 p0 (.at i 0) x.1 x.2) ((j : Int), H) = some H' ∧ ws'.length = B ∧ get_emit_Code H' i 0 = some (C ws' 0)
  | 0, j, ws, H, hk, hw, h => by
    refine ⟨H, ws, loopO_out ?_, by omega, h⟩
    show law17_EmitLands_L1 p0 (.at i 0) (j : Int) H = _
    unfold law17_EmitLands_L1
    rw [hB, if_neg (by simp; omega)]
  | k + 1, j, ws, H, hk, hw, h => by
    obtain ⟨H1, e1, g1⟩ := reg_spec h enc_halt (show ws.length < 16384 by omega)
    obtain ⟨H2, ws', e2, l2, g2⟩ := lands_loop1 hB hB2 k (j + 1) (ws ++ [16777216]) H1 (by omega) (by simp; omega) g1
    refine ⟨H2, ws', ?_, l2, g2⟩
    rw [loopO_go (f := fun (x : Int × Heap) => law17_EmitLands_L1 p0 (.at i 0) x.1 x.2) (s' := (((j + 1 : Nat) : Int), H1))]
    · exact e2
    · show law17_EmitLands_L1 p0 (.at i 0) (j : Int) H = _
      unfold law17_EmitLands_L1
      rw [hB, if_pos (by simp; omega), e1, bind2_some, wrap_i64 _ (by omega) (by omega)]
      rfl
theorem lands_loop2 {p1 : Int} {i W B : Nat} (hW : IntKind.wrap .i64 p1 = W) (hW2 : W < 1000) (hB2 : B < 1000) : ∀ (k j : Nat) (ws : List Int) (H : Heap), j + k = W → ws.length = B + 1 + 2 * j → ws[B]? = some 338690048 → get_emit_Code H i 0 = some (C ws 0) →
    ∃ H' ws', loopO (fun (x : Int × Heap) => law17_EmitLands_L2 p1 (.at i 0) x.1 x.2) ((j : Int), H) = some H' ∧ ws'.length = B + 1 + 2 * W ∧ ws'[B]? = some 338690048 ∧ get_emit_Code H' i 0 = some (C ws' 0)
  | 0, j, ws, H, hk, hw, hb, h => by
    obtain rfl : j = W := by omega
    refine ⟨H, ws, loopO_out ?_, hw, hb, h⟩
    show law17_EmitLands_L2 p1 (.at i 0) (j : Int) H = _
    unfold law17_EmitLands_L2
    rw [hW, if_neg (by simp)]
  | k + 1, j, ws, H, hk, hw, hb, h => by
    obtain ⟨H1, e1, g1⟩ := number_spec h (by omega)
    obtain ⟨H2, ws', e2, l2, b2, g2⟩ := lands_loop2 hW hW2 hB2 k (j + 1) (ws ++ [51380225, 68227440]) H1 (by omega) (by simp; omega) (by rw [List.getElem?_append_left (by omega)]; exact hb) g1
    refine ⟨H2, ws', ?_, l2, b2, g2⟩
    rw [loopO_go (f := fun (x : Int × Heap) => law17_EmitLands_L2 p1 (.at i 0) x.1 x.2) (s' := (((j + 1 : Nat) : Int), H1))]
    · exact e2
    · show law17_EmitLands_L2 p1 (.at i 0) (j : Int) H = _
      unfold law17_EmitLands_L2
      rw [hW, if_pos (by simp; omega), e1, bind1_some, wrap_i64 _ (by omega) (by omega)]
      rfl
theorem getE {ws : List Int} {k : Nat} {x : Int} (h : ws[k]? = some x) (hk : k < ws.length) : ws[((k : Nat) : Int).toNat]'(by simpa using hk) = x := by
  have : ws[k]'hk = x := by rw [List.getElem?_eq_getElem hk] at h; exact Option.some.inj h
  simpa using this
theorem EmitLands_holds : EmitLandsPure := by
  intro p0 p1 w0 w1
  have w0 := wf_u8.1 w0
  have w1 := wf_u8.1 w1
  obtain ⟨B, hB0⟩ : ∃ B : Nat, p0 = B := ⟨p0.toNat, by omega⟩
  obtain ⟨W, hW0⟩ : ∃ W : Nat, p1 = W := ⟨p1.toNat, by omega⟩
  have hB : IntKind.wrap .i64 p0 = B := by rw [wrap_i64 _ (by omega) (by omega), hB0]
  have hW : IntKind.wrap .i64 p1 = W := by rw [wrap_i64 _ (by omega) (by omega), hW0]
  obtain ⟨H1, e1⟩ := eawake_spec []
  obtain ⟨H2, e2, g2⟩ := new_spec H1
  obtain ⟨i, hi⟩ : ∃ i, i = H1.length := ⟨_, rfl⟩
  rw [← hi] at e2 g2
  obtain ⟨H3, ws3, e3, l3, g3⟩ := lands_loop1 (p0 := p0) (i := i) hB (by omega) B 0 [] H2 (by omega) rfl g2
  obtain ⟨H4, e4, g4⟩ := jump_spec g3 enc_bz0 (show ws3.length < 16384 by omega)
  obtain ⟨H5, ws5, e5, l5, b5, g5⟩ := lands_loop2 (p1 := p1) (i := i) (B := B) hW (by omega) (by omega) W 0 (ws3 ++ [338690048]) H4 (by omega) (by simp; omega) (by rw [List.getElem?_append_right (by omega), l3]; simp) g4
  have h5 : ((B : Nat) : Int) < ((C ws5 0).words_.length : Nat) := by show ((B : Nat) : Int) < (ws5.length : Nat); omega
  obtain ⟨H6, e6, g6⟩ := set_spec (a := (B : Int)) (n := ((2 * W : Nat) : Int)) g5 (by omega) h5 (x := ⟨20, 3, 0, 0, 0⟩) (q := 0) (by rw [show (C ws5 0).words_[((B : Nat) : Int).toNat]'(by omega) = 338690048 from getE b5 (by omega)]; exact dec_bz0) (enc_bz (2 * W) (by omega))
  obtain ⟨ws6, hw6⟩ : ∃ ws6, ws6 = ws5.set B (338690048 + ((2 * W : Nat) : Int)) := ⟨_, rfl⟩
  have g6 : get_emit_Code H6 i 0 = some (C ws6 0) := by rw [g6, hw6]; rfl
  have l6 : ws6.length = B + 1 + 2 * W := by rw [hw6, List.length_set, l5]
  have b6 : ws6[B]? = some (338690048 + ((2 * W : Nat) : Int)) := by rw [hw6, List.getElem?_set_self (by omega)]
  obtain ⟨H7, e7, g7⟩ := put_spec g6 enc_bnz0 (show ws6.length < 16384 by omega)
  have g7 : get_emit_Code H7 i 0 = some (C (ws6 ++ [355467264]) 0) := g7
  have b7 : (ws6 ++ [355467264])[ws6.length]? = some 355467264 := by rw [List.getElem?_append_right (by omega)]; simp
  have h7 : ((ws6.length : Nat) : Int) < ((C (ws6 ++ [355467264]) 0).words_.length : Nat) := by show ((ws6.length : Nat) : Int) < ((ws6 ++ [355467264]).length : Nat); simp; omega
  obtain ⟨H8, e8, g8⟩ := set_spec (a := (ws6.length : Int)) (n := -(((2 * W + 1 : Nat) : Int) + 1)) g7 (by omega) h7 (x := ⟨21, 3, 0, 0, 0⟩) (q := 0) (by rw [show (C (ws6 ++ [355467264]) 0).words_[((ws6.length : Nat) : Int).toNat]'(by omega) = 355467264 from getE b7 (by simp)]; exact dec_bnz0) (enc_bnz (2 * W + 1) (by omega))
  obtain ⟨ws8, hw8⟩ : ∃ ws8, ws8 = (ws6 ++ [355467264]).set ws6.length (355532799 - ((2 * W + 1 : Nat) : Int)) := ⟨_, rfl⟩
  have g8 : get_emit_Code H8 i 0 = some (C ws8 0) := by rw [g8, hw8]; rfl
  have l8 : ws8.length = B + 1 + 2 * W + 1 := by rw [hw8, List.length_set]; simp [l6]
  have b8 : ws8[B]? = some (338690048 + ((2 * W : Nat) : Int)) := by rw [hw8, List.getElem?_set_ne (by omega), List.getElem?_append_left (by omega)]; exact b6
  have c8 : ws8[B + 1 + 2 * W]? = some (355532799 - ((2 * W + 1 : Nat) : Int)) := by rw [hw8, l6, List.getElem?_set_self (by simp; omega)]
  obtain ⟨H9, sg, e9, _⟩ := finish_ok g8 (by omega)
  have land : emit_Code_Land H5 (.at i 0) (B : Int) = some H6 := by
    unfold emit_Code_Land
    rw [here_spec g5, bind1_some]
    have : IntKind.wrap .i64 ((IntKind.wrap .i64 (((C ws5 0).words_.length : Int) - (B : Int))) - 1) = ((2 * W : Nat) : Int) := by
      show IntKind.wrap .i64 ((IntKind.wrap .i64 ((ws5.length : Int) - (B : Int))) - 1) = ((2 * W : Nat) : Int)
      rw [wrap_i64 ((ws5.length : Int) - (B : Int)) (by omega) (by omega), wrap_i64 _ (by omega) (by omega), l5]
      omega
    rw [this, e6]; rfl
  have back : emit_Code_Back H6 (.at i 0) 21 3 (B : Int) = some H8 := by
    unfold emit_Code_Back
    rw [e7, bind2_some]
    have : IntKind.wrap .i64 ((IntKind.wrap .i64 ((B : Int) - ((C ws6 0).words_.length : Int))) - 1) = -(((2 * W + 1 : Nat) : Int) + 1) := by
      show IntKind.wrap .i64 ((IntKind.wrap .i64 ((B : Int) - (ws6.length : Int))) - 1) = _
      rw [wrap_i64 ((B : Int) - (ws6.length : Int)) (by omega) (by omega), wrap_i64 _ (by omega) (by omega), l6]
      omega
    rw [this]
    show bind1 (emit_Code_set H7 (.at i 0) (ws6.length : Int) _) _ = _
    rw [e8]; rfl
  unfold law17_EmitLands
  rw [e1, bind2_some, if_neg (by simp), e2, bind2_some]
  have e3' : loopO (fun (x : Int × Heap) => law17_EmitLands_L1 p0 (.at i 0) x.1 x.2) (0, H2) = some H3 := e3
  have e5' : loopO (fun (x : Int × Heap) => law17_EmitLands_L2 p1 (.at i 0) x.1 x.2) (0, H4) = some H5 := e5
  have z3 : ((C ws3 0).words_.length : Int) = (B : Int) := by show (ws3.length : Int) = _; omega
  rw [z3] at e4
  have z6 : ((C ws6 0).words_.length : Int) = ((B + 1 + 2 * W : Nat) : Int) := by show (ws6.length : Int) = _; omega
  rw [e3', bind1_some, e4, bind2_some, e5', bind1_some, land, bind1_some, here_spec g6, bind1_some, z6, back, bind1_some, e9, bind3_some, hB]
  have w31 : IntKind.wrap .i64 (((B + 1 + 2 * W : Nat) : Int) + 1) = (ws8.length : Int) := by rw [wrap_i64 _ (by omega) (by omega)]; omega
  rw [w31, if_neg (by simp)]
  rw [gi_some (by omega) (by show (B : Int) < (ws8.length : Int); omega), bind1_some, getE b8 (by omega), rdec_bz (2 * W) (by omega), bind2_some]
  rw [gi_some (by omega) (by show ((B + 1 + 2 * W : Nat) : Int) < (ws8.length : Int); omega), bind1_some, getE c8 (by omega), rdec_bnz (2 * W + 1) (by omega), bind2_some]
  refine ⟨H9, ?_⟩
  have f1 : IntKind.wrap .i64 ((IntKind.wrap .i64 ((B : Int) + 1)) + ((2 * W : Nat) : Int)) = ((B + 1 + 2 * W : Nat) : Int) := by
    rw [wrap_i64 ((B : Int) + 1) (by omega) (by omega), wrap_i64 _ (by omega) (by omega)]; omega
  have f2 : IntKind.wrap .i64 ((ws8.length : Int) + -(((2 * W + 1 : Nat) : Int) + 1)) = (B : Int) := by
    rw [wrap_i64 _ (by omega) (by omega)]; omega
  simp only [f1, f2, beq_self_eq_true, Bool.and_true, Bool.true_and]
end Go.Proofs.Abs
