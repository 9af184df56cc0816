/- The law EmitMany: whatever the input, it answers true. No conditions. (Part EmitManyP of its proof.) -/
import Derived.Test.YtdfdjhimecmkfaaEmitManyF1
set_option linter.unusedVariables false
set_option linter.unusedSimpArgs false
set_option linter.unusedSectionVars false
/- Code that is written, in plain Lean: what stands in it, what is put, what is ended. -/
namespace Go.Proofs.Abs
open Go
set_option linter.unusedVariables false
set_option linter.unusedSimpArgs false
theorem room_big : 1048576 ≤ roomBytes := Nat.le_of_ble_eq_true (by kernel_rfl)
theorem app_some {α : Type} {zb : Nat} {xs ys : List α} (h : (xs.length + ys.length) * zb ≤ 1048576) : app zb xs ys = some (xs ++ ys) := by
  unfold app; rw [if_pos (Nat.le_trans h room_big)]
theorem seg_inj (x y : T_api_Segment) (h : e_api_Segment x = e_api_Segment y) : x = y := by
  cases x; cases y; simpa [e_api_Segment] using h
theorem fix_inj (x y : T_api_Fixup) (h : e_api_Fixup x = e_api_Fixup y) : x = y := by
  cases x; cases y; simpa [e_api_Fixup] using h
theorem bld_inj (x y : T_ranges_Builder) (h : o_ranges_Builder x = o_ranges_Builder y) : x = y := by
  cases x; cases y
  simp only [o_ranges_Builder, List.cons.injEq, Prod.mk.injEq, AV.sl.injEq, true_and, and_true] at h
  rw [map_inj seg_inj _ _ h]
theorem bld_len (x : T_ranges_Builder) : (o_ranges_Builder x).length = 1 := rfl
theorem cod_inj (x y : T_emit_Code) (h : o_emit_Code x = o_emit_Code y) : x = y := by
  obtain ⟨a, b, ⟨c⟩, d, e, f, g, k⟩ := x
  obtain ⟨a', b', ⟨c'⟩, d', e', f', g', k'⟩ := y
  simp only [o_emit_Code, List.cons.injEq, Prod.mk.injEq, AV.sl.injEq, AV.int.injEq, true_and, and_true] at h
  obtain ⟨h1, h2, h3, h4, h5, rfl, rfl, rfl⟩ := h
  rw [map_inj eI_inj _ _ h1, map_inj fix_inj _ _ h2, map_inj seg_inj _ _ h3, map_inj eI_inj _ _ h4, map_inj eI_inj _ _ h5]
theorem cod_len (x : T_emit_Code) : (o_emit_Code x).length = 8 := rfl
def CodeAt (H : Heap) (p : Ptr) (c : T_emit_Code) : Prop := ∃ i o, p = .at i o ∧ get_emit_Code H i o = some c
section
variable {H : Heap} {i o : Nat} {p : Ptr} {c : T_emit_Code}
theorem cod_set (y : T_emit_Code) (h : get_emit_Code H i o = some c) : get_emit_Code (set_emit_Code H i o y) i o = some y := hgT_set cod_inj cod_len h y
theorem cod_marks (h : get_emit_Code H i o = some c) : get_ranges_Builder H i (o + 2) = some c.marks_ := by
  refine hgetT_of bld_inj ?_
  have := hget_sub (hgetT_inv h) 2 1 (by omega)
  rw [this]; rfl
theorem cod_setMarks (m : T_ranges_Builder) (h : get_emit_Code H i o = some c) : get_emit_Code (set_ranges_Builder H i (o + 2) m) i o = some ⟨c.words_, c.fixups_, m, c.pads_, c.active_, c.depth_, c.most_, c.err_⟩ := by
  refine hgetT_of cod_inj ?_
  unfold set_ranges_Builder
  rw [hset_sub0 (hgetT_inv h) (k := 2) (b := o_ranges_Builder m) (by rw [bld_len]; omega)]
  rw [hset_get (hgetT_inv h) (by rw [setAt_len (by rw [bld_len, cod_len]; omega)]; rfl)]
  rfl
def failC (c : T_emit_Code) (e : Int) : T_emit_Code := ⟨c.words_, c.fixups_, c.marks_, c.pads_, c.active_, c.depth_, c.most_, if c.err_ = 0 then e else c.err_⟩
theorem fail_spec (h : get_emit_Code H i o = some c) (e : Int) : ∃ H', emit_Code_Fail H (.at i o) e = some H' ∧ get_emit_Code H' i o = some (failC c e) := by
  unfold emit_Code_Fail
  rw [pbnd_at, h, bind1_some]
  by_cases k : c.err_ = 0
  · rw [if_pos (by simpa using k), bnd_def]
    exact ⟨_, rfl, by rw [cod_set _ h]; simp [failC, k]⟩
  · rw [if_neg (by simpa using k)]
    exact ⟨_, rfl, by rw [h]; simp [failC, k]⟩
def addW (c : T_emit_Code) (w : Int) : T_emit_Code := ⟨c.words_ ++ [w], c.fixups_, c.marks_, c.pads_, c.active_, c.depth_, c.most_, c.err_⟩
theorem put_spec {x : T_instr_Instr} {w : Int} (h : get_emit_Code H i o = some c) (hw : instr_Encode x = some (w, 0)) (hl : c.words_.length < 16384) :
    ∃ H', emit_Code_Put H (.at i o) x = some (H', (c.words_.length : Int)) ∧ get_emit_Code H' i o = some (addW c w) := by
  unfold emit_Code_Put emit_Code_Put_j1
  rw [hw, bind2_some, if_neg (by simp), pbnd_at, h, bind1_some, if_neg (by simp; omega), app_some (by simp; omega), bind1_some, bnd_def]
  refine ⟨_, ?_, cod_set _ h⟩
  rw [wrap_i64 _ (by simp <;> omega) (by simp <;> omega)]
  simp [addW]
theorem put_full {x : T_instr_Instr} {w : Int} (h : get_emit_Code H i o = some c) (hw : instr_Encode x = some (w, 0)) (hl : c.words_.length = 16384) :
    ∃ H', emit_Code_Put H (.at i o) x = some (H', 16383) ∧ get_emit_Code H' i o = some (failC c 242) := by
  obtain ⟨H', e1, e2⟩ := fail_spec h 242
  unfold emit_Code_Put emit_Code_Put_j1
  rw [hw, bind2_some, if_neg (by simp), pbnd_at, h, bind1_some, if_pos (by simp [hl]), e1, bind1_some, e2, bind1_some]
  refine ⟨H', ?_, e2⟩
  have : (failC c 242).words_ = c.words_ := rfl
  rw [this, hl]; rfl
theorem here_spec (h : get_emit_Code H i o = some c) : emit_Code_Here H (.at i o) = some (c.words_.length : Int) := by
  unfold emit_Code_Here; rw [pbnd_at, h]; rfl
theorem mark0 (h : get_ranges_Builder H i o = some ⟨[]⟩) : ranges_Builder_Mark H (.at i o) 0 (-1) = some (set_ranges_Builder H i o ⟨[⟨0, -1⟩]⟩) := by
  unfold ranges_Builder_Mark ranges_Builder_Mark_j1
  rw [pbnd_at, h, bind1_some, if_neg (by simp), bind1_some, if_neg (by simp), bind1_some, if_neg (by simp), bind1_some, if_neg (by simp), app_some (by simp), bind1_some, bnd_def]
  rfl
/-- code of which nothing but words was written -/
def C (ws : List Int) (e : Int) : T_emit_Code := ⟨ws, [], ⟨[⟨0, -1⟩]⟩, [], [], 0, 0, e⟩
theorem new_spec (H : Heap) : ∃ H', emit_New H = some (H', .at H.length 0) ∧ get_emit_Code H' H.length 0 = some (C [] 0) := by
  have h1 : get_emit_Code (new_emit_Code H ⟨[], [], ⟨[]⟩, [], [], 0, 0, 0⟩) H.length 0 = some ⟨[], [], ⟨[]⟩, [], [], 0, 0, 0⟩ := hgT_new cod_inj cod_len H _
  unfold emit_New
  rw [bnd_def, bnd_def, h1, bind1_some, mark0 (cod_marks h1), bind1_some]
  exact ⟨_, rfl, cod_setMarks _ h1⟩
theorem clone_seg {l : List T_api_Segment} (hl : l.length ≤ 1000) : slices_Clone_api_Segment_api_Segment l = some l := by
  unfold slices_Clone_api_Segment_api_Segment; rw [app_some (by simp; omega)]; rfl
theorem list_spec {l : List T_api_Segment} (h : get_ranges_Builder H i o = some ⟨l⟩) (hl : l.length ≤ 1000) : ranges_Builder_List H (.at i o) = some l := by
  unfold ranges_Builder_List; rw [pbnd_at, h, bind1_some, clone_seg hl]; rfl
theorem finish_err {ws : List Int} {e : Int} (h : get_emit_Code H i o = some (C ws e)) (he : e ≠ 0) : emit_Code_Finish H (.at i o) = some (H, ⟨[], [], []⟩, e) := by
  unfold emit_Code_Finish
  rw [pbnd_at, h, bind1_some, if_pos (by simpa [C] using he)]; rfl
theorem finish_ok {ws : List Int} (h : get_emit_Code H i o = some (C ws 0)) (hl : ws.length ≤ 16384) :
    ∃ H' sg, emit_Code_Finish H (.at i o) = some (H', ⟨ws, [], sg⟩, 0) ∧ get_emit_Code H' i o = some (C ws 0) := by
  have hi : i < H.length := hgT_lt h
  obtain ⟨H1, hH1⟩ : ∃ H1, H1 = new_ranges_Builder H ⟨[]⟩ := ⟨_, rfl⟩
  have b1 : get_ranges_Builder H1 H.length 0 = some ⟨[]⟩ := by rw [hH1]; exact hgT_new bld_inj bld_len H _
  have c1 : get_emit_Code H1 i o = some (C ws 0) := by rw [hH1]; exact hgT_old cod_inj h
  have lp : ∃ H2 sg, loopO (fun (x : Int × Heap) => emit_Code_Finish_L1 [⟨0, -1⟩] i o H.length x.1 x.2) (0, H1) = some H2 ∧ get_emit_Code H2 i o = some (C ws 0) ∧ get_ranges_Builder H2 H.length 0 = some ⟨sg⟩ ∧ sg.length ≤ 1 := by
    by_cases hw : ws = []
    · subst hw
      refine ⟨H1, [], loopO_out ?_, c1, b1, by simp⟩
      show emit_Code_Finish_L1 [⟨0, -1⟩] i o H.length 0 H1 = _
      unfold emit_Code_Finish_L1
      rw [if_pos (by simp), gi_some (by omega) (by simp), bind1_some, c1, bind1_some]
      rfl
    · have h0 : 0 < ws.length := List.length_pos_iff.2 hw
      have c2 : get_emit_Code (set_ranges_Builder H1 H.length 0 ⟨[⟨0, -1⟩]⟩) i o = some (C ws 0) := hgT_other cod_inj (by omega) c1
      refine ⟨set_ranges_Builder H1 H.length 0 ⟨[⟨0, -1⟩]⟩, [⟨0, -1⟩], ?_, c2, hgT_set bld_inj bld_len b1 _, by simp⟩
      rw [loopO_go (f := fun (x : Int × Heap) => emit_Code_Finish_L1 [⟨0, -1⟩] i o H.length x.1 x.2) (s' := (1, set_ranges_Builder H1 H.length 0 ⟨[⟨0, -1⟩]⟩))]
      · refine loopO_out ?_
        show emit_Code_Finish_L1 [⟨0, -1⟩] i o H.length 1 _ = _
        unfold emit_Code_Finish_L1
        rw [if_neg (by simp)]
      · show emit_Code_Finish_L1 [⟨0, -1⟩] i o H.length 0 H1 = _
        unfold emit_Code_Finish_L1 emit_Code_Finish_j2
        rw [if_pos (by simp), gi_some (by omega) (by simp), bind1_some, c1, bind1_some]
        have e : ([⟨0, -1⟩] : List T_api_Segment)[(0 : Int).toNat]'(by simp) = ⟨0, -1⟩ := rfl
        rw [e, if_neg (by simp [C]; omega), if_neg (by simp), mark0 b1, bind1_some]
        rfl
  obtain ⟨H2, sg, l1, l2, l3, l4⟩ := lp
  refine ⟨H2, sg, ?_, l2⟩
  unfold emit_Code_Finish
  rw [pbnd_at, h, bind1_some, if_neg (by simp [C]), bnd_def, bnd_def, ← hH1, c1, bind1_some, list_spec (cod_marks c1) (by simp [C]), bind1_some]
  show bind1 (loopO (fun (x : Int × Heap) => emit_Code_Finish_L1 [⟨0, -1⟩] i o H.length x.1 x.2) (0, H1)) _ = _
  rw [l1, bind1_some, l2, bind1_some]
  show bind1 (app 4 [] ws) _ = _
  rw [app_some (by simp; omega), bind1_some]
  show bind1 (app 32 [] ([] : List T_api_Fixup)) _ = _
  rw [app_some (by simp), bind1_some, list_spec l3 (by omega), bind1_some]
  rfl
theorem set_spec {x : T_instr_Instr} {q w n a : Int} (h : get_emit_Code H i o = some c) (h0 : 0 ≤ a) (h1 : a < c.words_.length) (hd : instr_Decode (c.words_[a.toNat]'(by omega)) = some (x, q))
    (hw : instr_Encode ⟨x.Op_, x.A_, x.B_, x.C_, n⟩ = some (w, 0)) : ∃ H', emit_Code_set H (.at i o) a n = some H' ∧ get_emit_Code H' i o = some ⟨c.words_.set a.toNat w, c.fixups_, c.marks_, c.pads_, c.active_, c.depth_, c.most_, c.err_⟩ := by
  unfold emit_Code_set
  rw [if_neg (by simp; omega), pbnd_at, h, bind1_some, bind2_some, if_neg (by simp; omega), pbnd_at, h, bind1_some, gi_some h0 h1, bind1_some, hd, bind2_some, hw, bind2_some, if_neg (by simp), bind1_some, si_some h0 h1, bind1_some, bnd_def]
  exact ⟨_, rfl, cod_set _ h⟩
end
end Go.Proofs.Abs
/- The page's example of code that is written. -/
namespace Go.Proofs.Abs
open Go
set_option linter.unusedVariables false
set_option linter.unusedSimpArgs false
theorem wf_u16 {n : Int} : (Lit.int .u16 n).wf = true ↔ 0 ≤ n ∧ n ≤ 65535 := by
  simp [Lit.wf, IntKind.min, IntKind.max, IntKind.signed, IntKind.bits]
theorem enc_halt : instr_Encode ⟨1, 0, 0, 0, 0⟩ = some (16777216, 0) := by kernel_rfl
theorem enc_br : instr_Encode ⟨22, 0, 0, 0, 0⟩ = some (369098752, 0) := by kernel_rfl
theorem enc_br1 : instr_Encode ⟨22, 0, 0, 0, 1⟩ = some (369098753, 0) := by kernel_rfl
theorem dec_br : instr_Decode 369098752 = some (⟨22, 0, 0, 0, 0⟩, 0) := by kernel_rfl
theorem words_refl (l : List Int) (hl : l.length ≤ 1000000) : ref01_Words l l = some true := by
  have loop : ∀ (k : Nat) (j : Int), 0 ≤ j → j + k = l.length → loopO (fun (x : Int) => ref01_Words_L1 l l x) j = some (.inl ()) := by
    intro k
    induction k with
    | zero =>
      intro j h0 h1
      refine loopO_out ?_
      unfold ref01_Words_L1; rw [if_neg (by simp; omega)]
    | succ k ih =>
      intro j h0 h1
      rw [loopO_go (f := fun (x : Int) => ref01_Words_L1 l l x) (s' := j + 1)]
      · exact ih (j + 1) (by omega) (by omega)
      · show ref01_Words_L1 l l j = _
        unfold ref01_Words_L1
        rw [if_pos (by simp; omega), gi_some h0 (by omega), bind1_some, bind1_some, if_neg (by simp), wrap_i64 _ (by omega) (by omega)]
  unfold ref01_Words
  rw [if_neg (by simp), loop l.length 0 (by omega) (by omega)]
  rfl
section
variable {H : Heap} {i o : Nat} {c : T_emit_Code}
theorem reg_spec {x y w : Int} (h : get_emit_Code H i o = some c) (hw : instr_Encode ⟨x, y, 0, 0, 0⟩ = some (w, 0)) (hl : c.words_.length < 16384) :
    ∃ H', emit_Code_Reg H (.at i o) x y = some (H', (c.words_.length : Int)) ∧ get_emit_Code H' i o = some (addW c w) := by
  obtain ⟨H', e1, e2⟩ := put_spec h hw hl
  exact ⟨H', by unfold emit_Code_Reg; rw [e1]; rfl, e2⟩
theorem reg_full {x y w : Int} (h : get_emit_Code H i o = some c) (hw : instr_Encode ⟨x, y, 0, 0, 0⟩ = some (w, 0)) (hl : c.words_.length = 16384) :
    ∃ H', emit_Code_Reg H (.at i o) x y = some (H', 16383) ∧ get_emit_Code H' i o = some (failC c 242) := by
  obtain ⟨H', e1, e2⟩ := put_full h hw hl
  exact ⟨H', by unfold emit_Code_Reg; rw [e1]; rfl, e2⟩
theorem jump_spec {x y w : Int} (h : get_emit_Code H i o = some c) (hw : instr_Encode ⟨x, y, 0, 0, 0⟩ = some (w, 0)) (hl : c.words_.length < 16384) :
    ∃ H', emit_Code_Jump H (.at i o) x y = some (H', (c.words_.length : Int)) ∧ get_emit_Code H' i o = some (addW c w) := by
  obtain ⟨H', e1, e2⟩ := put_spec h hw hl
  exact ⟨H', by unfold emit_Code_Jump; rw [e1]; rfl, e2⟩
end
theorem eawake_spec (H : Heap) : ∃ H', law17_awake H = some (H', true) := by
  obtain ⟨H1, e1, g1⟩ := new_spec H
  obtain ⟨H2, e2, g2⟩ := jump_spec g1 enc_br (by simp [C])
  obtain ⟨H3, e3, g3⟩ := reg_spec g2 enc_halt (by simp [C, addW])
  obtain ⟨H4, e4, g4⟩ := set_spec (a := 0) (n := 1) g3 (by omega) (by simp [C, addW]) (x := ⟨22, 0, 0, 0, 0⟩) (q := 0) dec_br enc_br1
  obtain ⟨H5, e5, g5⟩ := reg_spec g4 enc_halt (by simp [C, addW])
  have g6 : get_emit_Code H5 H.length 0 = some (C [369098753, 16777216, 16777216] 0) := g5
  obtain ⟨H6, sg, e6, _⟩ := finish_ok g6 (by simp)
  have e7 : emit_Code_Land H3 (.at H.length 0) 0 = some H4 := by
    unfold emit_Code_Land
    rw [here_spec g3, bind1_some]
    have : IntKind.wrap .i64 ((IntKind.wrap .i64 (((addW (addW (C [] 0) 369098752) 16777216).words_.length : Int) - 0)) - 1) = 1 := rfl
    rw [this, e4]; rfl
  unfold law17_awake
  rw [e1, bind2_some, isNil_at, if_neg (by simp), e2, bind2_some, e3, bind2_some]
  have z : (((C [] 0).words_.length : Nat) : Int) = 0 := rfl
  rw [z, e7, bind1_some, e5, bind2_some, e6, bind3_some, if_pos (by simp), words_refl _ (by simp)]
  exact ⟨_, rfl⟩
end Go.Proofs.Abs
/- Printed by gen (walk.py). -/
namespace Go.Proofs.Abs
open Go Go.Proofs
set_option linter.unusedVariables false
set_option maxRecDepth 100000
set_option maxHeartbeats 0
/-- the statement, in plain Lean -/
def EmitManyPure : Prop := ∀ (p0 : Int), (fun n => (Lit.int .u16 n).wf = true) p0 → ∃ Hr, law17_EmitMany [] p0 = some (Hr, true)
end Go.Proofs.Abs
/- So many words are too many, just where the page says. -/
namespace Go.Proofs.Abs
open Go
set_option linter.unusedVariables false
set_option linter.unusedSimpArgs false
def manyC (j : Nat) : T_emit_Code := C (List.replicate (min j 16384) 16777216) (if j ≤ 16384 then 0 else 242)
theorem many_step {H : Heap} {i : Nat} {j : Nat} (h : get_emit_Code H i 0 = some (manyC j)) : ∃ H' r, emit_Code_Reg H (.at i 0) 1 0 = some (H', r) ∧ get_emit_Code H' i 0 = some (manyC (j + 1)) := by
  by_cases hj : j < 16384
  · obtain ⟨H', e1, e2⟩ := reg_spec h enc_halt (by simp [manyC, C]; omega)
    refine ⟨H', _, e1, ?_⟩
    rw [e2]
    have a : min j 16384 = j := by omega
    have b : min (j + 1) 16384 = j + 1 := by omega
    have d : j ≤ 16384 := by omega
    have d' : j + 1 ≤ 16384 := by omega
    simp only [manyC, a, b, if_pos d, if_pos d', addW, C, List.replicate_succ']
  · obtain ⟨H', e1, e2⟩ := reg_full h enc_halt (by simp [manyC, C]; omega)
    refine ⟨H', _, e1, ?_⟩
    rw [e2]
    have a : min j 16384 = 16384 := by omega
    have b : min (j + 1) 16384 = 16384 := by omega
    have d' : ¬ (j + 1 ≤ 16384) := by omega
    simp only [manyC, a, b, if_neg d', failC, C]
    by_cases k : j ≤ 16384
    · rw [if_pos k]; rfl
    · rw [if_neg k]; rfl
theorem many_loop {p0 : Int} {i M : Nat} (hM : Int.tmod (IntKind.wrap .i64 p0) 17000 = M) (hM2 : M < 17000) : ∀ (k j : Nat) (H : Heap), j + k = M → get_emit_Code H i 0 = some (manyC j) →
    ∃ H', loopO (fun (x : Int × Heap) => law17_EmitMany_L1 p0 (.at i 0) x.1 x.2) ((j : Int), H) = some ((M : Int), H') ∧ get_emit_Code H' i 0 = some (manyC M)
  | 0, j, H, hk, h => by
    obtain rfl : j = M := by omega
    refine ⟨H, loopO_out ?_, h⟩
    show law17_EmitMany_L1 p0 (.at i 0) (j : Int) H = _
    unfold law17_EmitMany_L1
    rw [hM, if_neg (by simp)]
  | k + 1, j, H, hk, h => by
    obtain ⟨H1, r, e1, g1⟩ := many_step h
    obtain ⟨H2, e2, g2⟩ := many_loop hM hM2 k (j + 1) H1 (by omega) g1
    refine ⟨H2, ?_, g2⟩
    rw [loopO_go (f := fun (x : Int × Heap) => law17_EmitMany_L1 p0 (.at i 0) x.1 x.2) (s' := (((j + 1 : Nat) : Int), H1))]
    · exact e2
    · show law17_EmitMany_L1 p0 (.at i 0) (j : Int) H = _
      unfold law17_EmitMany_L1
      rw [hM, if_pos (by simp; omega), e1, bind2_some, wrap_i64 _ (by omega) (by omega)]
      rfl
theorem EmitMany_holds : EmitManyPure := by
  intro p wp
  have wp := wf_u16.1 wp
  obtain ⟨H1, e1⟩ := eawake_spec []
  obtain ⟨H2, e2, g2⟩ := new_spec H1
  obtain ⟨M, hM0⟩ : ∃ M : Nat, p % 17000 = M := ⟨(p % 17000).toNat, by omega⟩
  have hM : Int.tmod (IntKind.wrap .i64 p) 17000 = M := by rw [wrap_i64 _ (by omega) (by omega), tmod_pos (by omega), hM0]
  obtain ⟨H3, e3, g3⟩ := many_loop (p0 := p) (i := H1.length) hM (by omega) M 0 H2 (by omega) g2
  unfold law17_EmitMany
  rw [e1, bind2_some, if_neg (by simp), e2, bind2_some]
  have e3' : loopO (fun (x : Int × Heap) => law17_EmitMany_L1 p (.at H1.length 0) x.1 x.2) (0, H2) = some ((M : Int), H3) := e3
  rw [e3', bind1_some]
  show ∃ Hr, bind3 (emit_Code_Finish H3 (.at H1.length 0)) _ = some (Hr, true)
  by_cases hm : M ≤ 16384
  · have g4 : get_emit_Code H3 H1.length 0 = some (C (List.replicate M 16777216) 0) := by
      rw [g3]; simp only [manyC, if_pos hm, show min M 16384 = M by omega]
    obtain ⟨H4, sg, e4, _⟩ := finish_ok g4 (by simp; omega)
    rw [e4, bind3_some, if_neg (by simp; omega)]
    exact ⟨H4, by simp⟩
  · obtain ⟨N, hN⟩ : ∃ N : Nat, N = 16384 := ⟨_, rfl⟩
    have g4 : get_emit_Code H3 H1.length 0 = some (C (List.replicate N 16777216) 242) := by
      rw [g3]; simp only [manyC, if_neg hm, show min M 16384 = N by omega]
    have hl : ((C (List.replicate N 16777216) 242).words_.length : Int) = 16384 := by
      show ((List.replicate N (16777216 : Int)).length : Int) = 16384
      rw [List.length_replicate]; omega
    rw [finish_err g4 (by omega), bind3_some, if_pos (by simp; omega), if_pos (by rfl), if_pos (by rfl), here_spec g4, bind1_some, bind1_some, hl]
    exact ⟨H3, rfl⟩
end Go.Proofs.Abs
