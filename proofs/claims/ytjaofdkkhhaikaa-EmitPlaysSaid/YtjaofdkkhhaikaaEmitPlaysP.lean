/- The law EmitPlays: whatever the input, it answers true. No conditions. (Part EmitPlaysP of its proof.) -/
import Derived.Test.YtjaofdkkhhaikaaEmitPlaysF3
set_option linter.unusedVariables false
set_option linter.unusedSimpArgs false
set_option linter.unusedSectionVars false
/- Code that is written, in plain Lean: what stands in it, what is put, what is ended. -/
namespace Go.Proofs.Abs
open Go
set_option linter.unusedVariables false
set_option linter.unusedSimpArgs false
theorem room_big : 1048576 ≤ roomBytes := Nat.le_of_ble_eq_true (by kernel_rfl)
theorem app_some {α : Type} {zb : Nat} {xs ys : List α} (h : (xs.length + ys.length) * zb ≤ 1048576) : app zb xs ys = some (xs ++ ys) := by
  unfold app; rw [if_pos (Nat.le_trans h room_big)]
theorem seg_inj (x y : T_api_Segment) (h : e_api_Segment x = e_api_Segment y) : x = y := by
  cases x; cases y; simpa [e_api_Segment] using h
theorem fix_inj (x y : T_api_Fixup) (h : e_api_Fixup x = e_api_Fixup y) : x = y := by
  cases x; cases y; simpa [e_api_Fixup] using h
theorem bld_inj (x y : T_ranges_Builder) (h : o_ranges_Builder x = o_ranges_Builder y) : x = y := by
  cases x; cases y
  simp only [o_ranges_Builder, List.cons.injEq, Prod.mk.injEq, AV.sl.injEq, true_and, and_true] at h
  rw [map_inj seg_inj _ _ h]
theorem bld_len (x : T_ranges_Builder) : (o_ranges_Builder x).length = 1 := rfl
theorem cod_inj (x y : T_emit_Code) (h : o_emit_Code x = o_emit_Code y) : x = y := by
  obtain ⟨a, b, ⟨c⟩, d, e, f, g, k⟩ := x
  obtain ⟨a', b', ⟨c'⟩, d', e', f', g', k'⟩ := y
  simp only [o_emit_Code, List.cons.injEq, Prod.mk.injEq, AV.sl.injEq, AV.int.injEq, true_and, and_true] at h
  obtain ⟨h1, h2, h3, h4, h5, rfl, rfl, rfl⟩ := h
  rw [map_inj eI_inj _ _ h1, map_inj fix_inj _ _ h2, map_inj seg_inj _ _ h3, map_inj eI_inj _ _ h4, map_inj eI_inj _ _ h5]
theorem cod_len (x : T_emit_Code) : (o_emit_Code x).length = 8 := rfl
def CodeAt (H : Heap) (p : Ptr) (c : T_emit_Code) : Prop := ∃ i o, p = .at i o ∧ get_emit_Code H i o = some c
section
variable {H : Heap} {i o : Nat} {p : Ptr} {c : T_emit_Code}
theorem cod_set (y : T_emit_Code) (h : get_emit_Code H i o = some c) : get_emit_Code (set_emit_Code H i o y) i o = some y := hgT_set cod_inj cod_len h y
theorem cod_marks (h : get_emit_Code H i o = some c) : get_ranges_Builder H i (o + 2) = some c.marks_ := by
  refine hgetT_of bld_inj ?_
  have := hget_sub (hgetT_inv h) 2 1 (by omega)
  rw [this]; rfl
theorem cod_setMarks (m : T_ranges_Builder) (h : get_emit_Code H i o = some c) : get_emit_Code (set_ranges_Builder H i (o + 2) m) i o = some ⟨c.words_, c.fixups_, m, c.pads_, c.active_, c.depth_, c.most_, c.err_⟩ := by
  refine hgetT_of cod_inj ?_
  unfold set_ranges_Builder
  rw [hset_sub0 (hgetT_inv h) (k := 2) (b := o_ranges_Builder m) (by rw [bld_len]; omega)]
  rw [hset_get (hgetT_inv h) (by rw [setAt_len (by rw [bld_len, cod_len]; omega)]; rfl)]
  rfl
def failC (c : T_emit_Code) (e : Int) : T_emit_Code := ⟨c.words_, c.fixups_, c.marks_, c.pads_, c.active_, c.depth_, c.most_, if c.err_ = 0 then e else c.err_⟩
theorem fail_spec (h : get_emit_Code H i o = some c) (e : Int) : ∃ H', emit_Code_Fail H (.at i o) e = some H' ∧ get_emit_Code H' i o = some (failC c e) := by
  unfold emit_Code_Fail
  rw [pbnd_at, h, bind1_some]
  by_cases k : c.err_ = 0
  · rw [if_pos (by simpa using k), bnd_def]
    exact ⟨_, rfl, by rw [cod_set _ h]; simp [failC, k]⟩
  · rw [if_neg (by simpa using k)]
    exact ⟨_, rfl, by rw [h]; simp [failC, k]⟩
def addW (c : T_emit_Code) (w : Int) : T_emit_Code := ⟨c.words_ ++ [w], c.fixups_, c.marks_, c.pads_, c.active_, c.depth_, c.most_, c.err_⟩
theorem put_spec {x : T_instr_Instr} {w : Int} (h : get_emit_Code H i o = some c) (hw : instr_Encode x = some (w, 0)) (hl : c.words_.length < 16384) :
    ∃ H', emit_Code_Put H (.at i o) x = some (H', (c.words_.length : Int)) ∧ get_emit_Code H' i o = some (addW c w) := by
  unfold emit_Code_Put emit_Code_Put_j1
  rw [hw, bind2_some, if_neg (by simp), pbnd_at, h, bind1_some, if_neg (by simp; omega), app_some (by simp; omega), bind1_some, bnd_def]
  refine ⟨_, ?_, cod_set _ h⟩
  rw [wrap_i64 _ (by simp <;> omega) (by simp <;> omega)]
  simp [addW]
theorem mark0 (h : get_ranges_Builder H i o = some ⟨[]⟩) : ranges_Builder_Mark H (.at i o) 0 (-1) = some (set_ranges_Builder H i o ⟨[⟨0, -1⟩]⟩) := by
  unfold ranges_Builder_Mark ranges_Builder_Mark_j1
  rw [pbnd_at, h, bind1_some, if_neg (by simp), bind1_some, if_neg (by simp), bind1_some, if_neg (by simp), bind1_some, if_neg (by simp), app_some (by simp), bind1_some, bnd_def]
  rfl
/-- code of which nothing but words was written -/
def C (ws : List Int) (e : Int) : T_emit_Code := ⟨ws, [], ⟨[⟨0, -1⟩]⟩, [], [], 0, 0, e⟩
theorem new_spec (H : Heap) : ∃ H', emit_New H = some (H', .at H.length 0) ∧ get_emit_Code H' H.length 0 = some (C [] 0) := by
  have h1 : get_emit_Code (new_emit_Code H ⟨[], [], ⟨[]⟩, [], [], 0, 0, 0⟩) H.length 0 = some ⟨[], [], ⟨[]⟩, [], [], 0, 0, 0⟩ := hgT_new cod_inj cod_len H _
  unfold emit_New
  rw [bnd_def, bnd_def, h1, bind1_some, mark0 (cod_marks h1), bind1_some]
  exact ⟨_, rfl, cod_setMarks _ h1⟩
theorem clone_seg {l : List T_api_Segment} (hl : l.length ≤ 1000) : slices_Clone_api_Segment_api_Segment l = some l := by
  unfold slices_Clone_api_Segment_api_Segment; rw [app_some (by simp; omega)]; rfl
theorem list_spec {l : List T_api_Segment} (h : get_ranges_Builder H i o = some ⟨l⟩) (hl : l.length ≤ 1000) : ranges_Builder_List H (.at i o) = some l := by
  unfold ranges_Builder_List; rw [pbnd_at, h, bind1_some, clone_seg hl]; rfl
theorem finish_ok {ws : List Int} (h : get_emit_Code H i o = some (C ws 0)) (hl : ws.length ≤ 16384) :
    ∃ H' sg, emit_Code_Finish H (.at i o) = some (H', ⟨ws, [], sg⟩, 0) ∧ get_emit_Code H' i o = some (C ws 0) := by
  have hi : i < H.length := hgT_lt h
  obtain ⟨H1, hH1⟩ : ∃ H1, H1 = new_ranges_Builder H ⟨[]⟩ := ⟨_, rfl⟩
  have b1 : get_ranges_Builder H1 H.length 0 = some ⟨[]⟩ := by rw [hH1]; exact hgT_new bld_inj bld_len H _
  have c1 : get_emit_Code H1 i o = some (C ws 0) := by rw [hH1]; exact hgT_old cod_inj h
  have lp : ∃ H2 sg, loopO (fun (x : Int × Heap) => emit_Code_Finish_L1 [⟨0, -1⟩] i o H.length x.1 x.2) (0, H1) = some H2 ∧ get_emit_Code H2 i o = some (C ws 0) ∧ get_ranges_Builder H2 H.length 0 = some ⟨sg⟩ ∧ sg.length ≤ 1 := by
    by_cases hw : ws = []
    · subst hw
      refine ⟨H1, [], loopO_out ?_, c1, b1, by simp⟩
      show emit_Code_Finish_L1 [⟨0, -1⟩] i o H.length 0 H1 = _
      unfold emit_Code_Finish_L1
      rw [if_pos (by simp), gi_some (by omega) (by simp), bind1_some, c1, bind1_some]
      rfl
    · have h0 : 0 < ws.length := List.length_pos_iff.2 hw
      have c2 : get_emit_Code (set_ranges_Builder H1 H.length 0 ⟨[⟨0, -1⟩]⟩) i o = some (C ws 0) := hgT_other cod_inj (by omega) c1
      refine ⟨set_ranges_Builder H1 H.length 0 ⟨[⟨0, -1⟩]⟩, [⟨0, -1⟩], ?_, c2, hgT_set bld_inj bld_len b1 _, by simp⟩
      rw [loopO_go (f := fun (x : Int × Heap) => emit_Code_Finish_L1 [⟨0, -1⟩] i o H.length x.1 x.2) (s' := (1, set_ranges_Builder H1 H.length 0 ⟨[⟨0, -1⟩]⟩))]
      · refine loopO_out ?_
        show emit_Code_Finish_L1 [⟨0, -1⟩] i o H.length 1 _ = _
        unfold emit_Code_Finish_L1
        rw [if_neg (by simp)]
      · show emit_Code_Finish_L1 [⟨0, -1⟩] i o H.length 0 H1 = _
        unfold emit_Code_Finish_L1 emit_Code_Finish_j2
        rw [if_pos (by simp), gi_some (by omega) (by simp), bind1_some, c1, bind1_some]
        have e : ([⟨0, -1⟩] : List T_api_Segment)[(0 : Int).toNat]'(by simp) = ⟨0, -1⟩ := rfl
        rw [e, if_neg (by simp [C]; omega), if_neg (by simp), mark0 b1, bind1_some]
        rfl
  obtain ⟨H2, sg, l1, l2, l3, l4⟩ := lp
  refine ⟨H2, sg, ?_, l2⟩
  unfold emit_Code_Finish
  rw [pbnd_at, h, bind1_some, if_neg (by simp [C]), bnd_def, bnd_def, ← hH1, c1, bind1_some, list_spec (cod_marks c1) (by simp [C]), bind1_some]
  show bind1 (loopO (fun (x : Int × Heap) => emit_Code_Finish_L1 [⟨0, -1⟩] i o H.length x.1 x.2) (0, H1)) _ = _
  rw [l1, bind1_some, l2, bind1_some]
  show bind1 (app 4 [] ws) _ = _
  rw [app_some (by simp; omega), bind1_some]
  show bind1 (app 32 [] ([] : List T_api_Fixup)) _ = _
  rw [app_some (by simp), bind1_some, list_spec l3 (by omega), bind1_some]
  rfl
end
end Go.Proofs.Abs
/- The page's example of code that is written. -/
namespace Go.Proofs.Abs
open Go
set_option linter.unusedVariables false
set_option linter.unusedSimpArgs false
theorem enc_halt : instr_Encode ⟨1, 0, 0, 0, 0⟩ = some (16777216, 0) := by kernel_rfl
theorem enc_br : instr_Encode ⟨22, 0, 0, 0, 0⟩ = some (369098752, 0) := by kernel_rfl
theorem enc_br1 : instr_Encode ⟨22, 0, 0, 0, 1⟩ = some (369098753, 0) := by kernel_rfl
theorem dec_br : instr_Decode 369098752 = some (⟨22, 0, 0, 0, 0⟩, 0) := by kernel_rfl
theorem words_refl (l : List Int) (hl : l.length ≤ 1000000) : ref01_Words l l = some true := by
  have loop : ∀ (k : Nat) (j : Int), 0 ≤ j → j + k = l.length → loopO (fun (x : Int) => ref01_Words_L1 l l x) j = some (.inl ()) := by
    intro k
    induction k with
    | zero =>
      intro j h0 h1
      refine loopO_out ?_
      unfold ref01_Words_L1; rw [if_neg (by simp; omega)]
    | succ k ih =>
      intro j h0 h1
      rw [loopO_go (f := fun (x : Int) => ref01_Words_L1 l l x) (s' := j + 1)]
      · exact ih (j + 1) (by omega) (by omega)
      · show ref01_Words_L1 l l j = _
        unfold ref01_Words_L1
        rw [if_pos (by simp; omega), gi_some h0 (by omega), bind1_some, bind1_some, if_neg (by simp), wrap_i64 _ (by omega) (by omega)]
  unfold ref01_Words
  rw [if_neg (by simp), loop l.length 0 (by omega) (by omega)]
  rfl
section
variable {H : Heap} {i o : Nat} {c : T_emit_Code}
theorem here_spec (h : get_emit_Code H i o = some c) : emit_Code_Here H (.at i o) = some (c.words_.length : Int) := by
  unfold emit_Code_Here; rw [pbnd_at, h]; rfl
theorem set_spec {x : T_instr_Instr} {q w n a : Int} (h : get_emit_Code H i o = some c) (h0 : 0 ≤ a) (h1 : a < c.words_.length) (hd : instr_Decode (c.words_[a.toNat]'(by omega)) = some (x, q))
    (hw : instr_Encode ⟨x.Op_, x.A_, x.B_, x.C_, n⟩ = some (w, 0)) : ∃ H', emit_Code_set H (.at i o) a n = some H' ∧ get_emit_Code H' i o = some ⟨c.words_.set a.toNat w, c.fixups_, c.marks_, c.pads_, c.active_, c.depth_, c.most_, c.err_⟩ := by
  unfold emit_Code_set
  rw [if_neg (by simp; omega), pbnd_at, h, bind1_some, bind2_some, if_neg (by simp; omega), pbnd_at, h, bind1_some, gi_some h0 h1, bind1_some, hd, bind2_some, hw, bind2_some, if_neg (by simp), bind1_some, si_some h0 h1, bind1_some, bnd_def]
  exact ⟨_, rfl, cod_set _ h⟩
theorem reg_spec {x y w : Int} (h : get_emit_Code H i o = some c) (hw : instr_Encode ⟨x, y, 0, 0, 0⟩ = some (w, 0)) (hl : c.words_.length < 16384) :
    ∃ H', emit_Code_Reg H (.at i o) x y = some (H', (c.words_.length : Int)) ∧ get_emit_Code H' i o = some (addW c w) := by
  obtain ⟨H', e1, e2⟩ := put_spec h hw hl
  exact ⟨H', by unfold emit_Code_Reg; rw [e1]; rfl, e2⟩
theorem jump_spec {x y w : Int} (h : get_emit_Code H i o = some c) (hw : instr_Encode ⟨x, y, 0, 0, 0⟩ = some (w, 0)) (hl : c.words_.length < 16384) :
    ∃ H', emit_Code_Jump H (.at i o) x y = some (H', (c.words_.length : Int)) ∧ get_emit_Code H' i o = some (addW c w) := by
  obtain ⟨H', e1, e2⟩ := put_spec h hw hl
  exact ⟨H', by unfold emit_Code_Jump; rw [e1]; rfl, e2⟩
end
theorem eawake_spec (H : Heap) : ∃ H', law17_awake H = some (H', true) := by
  obtain ⟨H1, e1, g1⟩ := new_spec H
  obtain ⟨H2, e2, g2⟩ := jump_spec g1 enc_br (by simp [C])
  obtain ⟨H3, e3, g3⟩ := reg_spec g2 enc_halt (by simp [C, addW])
  obtain ⟨H4, e4, g4⟩ := set_spec (a := 0) (n := 1) g3 (by omega) (by simp [C, addW]) (x := ⟨22, 0, 0, 0, 0⟩) (q := 0) dec_br enc_br1
  obtain ⟨H5, e5, g5⟩ := reg_spec g4 enc_halt (by simp [C, addW])
  have g6 : get_emit_Code H5 H.length 0 = some (C [369098753, 16777216, 16777216] 0) := g5
  obtain ⟨H6, sg, e6, _⟩ := finish_ok g6 (by simp)
  have e7 : emit_Code_Land H3 (.at H.length 0) 0 = some H4 := by
    unfold emit_Code_Land
    rw [here_spec g3, bind1_some]
    have : IntKind.wrap .i64 ((IntKind.wrap .i64 (((addW (addW (C [] 0) 369098752) 16777216).words_.length : Int) - 0)) - 1) = 1 := rfl
    rw [this, e4]; rfl
  unfold law17_awake
  rw [e1, bind2_some, isNil_at, if_neg (by simp), e2, bind2_some, e3, bind2_some]
  have z : (((C [] 0).words_.length : Nat) : Int) = 0 := rfl
  rw [z, e7, bind1_some, e5, bind2_some, e6, bind3_some, if_pos (by simp), words_refl _ (by simp)]
  exact ⟨_, rfl⟩
end Go.Proofs.Abs
/- Bits of words, as numbers. -/
namespace Go.Proofs.Abs
open Go
set_option linter.unusedVariables false
set_option linter.unusedSimpArgs false
theorem ofInt_nat (a : Nat) (h : a < 4294967296) : (BitVec.ofInt 32 (a : Int)).toNat = a := by
  rw [BitVec.toNat_ofInt]
  have : ((a : Int) % ((2 ^ 32 : Nat) : Int)) = (a : Int) := Int.emod_eq_of_lt (by omega) (by simp; omega)
  rw [this]; simp
theorem or_nat (a b : Nat) (ha : a < 4294967296) (hb : b < 4294967296) : bitsOf .or .u32 (a : Int) (b : Int) = ((a ||| b : Nat) : Int) := by
  have h : a ||| b < 4294967296 := Nat.or_lt_two_pow (n := 32) ha hb
  show IntKind.u32.wrap ((BitVec.ofInt 32 (a : Int) ||| BitVec.ofInt 32 (b : Int)).toNat : Int) = _
  rw [BitVec.toNat_or, ofInt_nat a ha, ofInt_nat b hb, wrap_u32 _ (by omega) (by omega)]
theorem and_nat (a b : Nat) (ha : a < 4294967296) (hb : b < 4294967296) : bitsOf .and .u32 (a : Int) (b : Int) = ((a &&& b : Nat) : Int) := by
  have h : a &&& b < 4294967296 := Nat.lt_of_le_of_lt Nat.and_le_left ha
  show IntKind.u32.wrap ((BitVec.ofInt 32 (a : Int) &&& BitVec.ofInt 32 (b : Int)).toNat : Int) = _
  rw [BitVec.toNat_and, ofInt_nat a ha, ofInt_nat b hb, wrap_u32 _ (by omega) (by omega)]
theorem or_part (k : Nat) (x b : Int) (h0 : 0 ≤ x) (hb0 : 0 ≤ b) (hb : b < 2 ^ k) (h : x * 2 ^ k + b < 4294967296) : bitsOf .or .u32 (x * 2 ^ k) b = x * 2 ^ k + b := by
  obtain ⟨m, rfl⟩ : ∃ m : Nat, x = m := ⟨x.toNat, by omega⟩
  obtain ⟨n, rfl⟩ : ∃ n : Nat, b = n := ⟨b.toNat, by omega⟩
  have hn : n < 2 ^ k := by exact_mod_cast hb
  have e0 : ((m : Int) * 2 ^ k + n) = ((m * 2 ^ k + n : Nat) : Int) := by simp
  rw [e0] at h
  have hs : m * 2 ^ k + n < 4294967296 := Int.ofNat_lt.1 h
  clear h e0
  have e : ((m : Int) * 2 ^ k) = ((m * 2 ^ k : Nat) : Int) := by simp
  rw [e, or_nat _ _ (by omega) (by omega), ← Nat.shiftLeft_eq, ← Nat.shiftLeft_add_eq_or_of_lt hn]
  simp
theorem and_low (k : Nat) (a : Int) (h0 : 0 ≤ a) (h : a < 4294967296) (hk : k ≤ 31) : bitsOf .and .u32 a ((2 ^ k - 1 : Nat) : Int) = a % 2 ^ k := by
  obtain ⟨n, rfl⟩ : ∃ n : Nat, a = n := ⟨a.toNat, by omega⟩
  have p : 2 ^ k ≤ 2 ^ 31 := Nat.pow_le_pow_right (by decide) hk
  rw [and_nat _ _ (by omega) (by omega), Nat.and_two_pow_sub_one_eq_mod]
  simp
theorem and_16 (a : Int) (h0 : 0 ≤ a) (h : a < 4294967296) : bitsOf .and .u32 a 65535 = a % 65536 := and_low 16 a h0 h (by decide)
theorem and_24 (a : Int) (h0 : 0 ≤ a) (h : a < 4294967296) : bitsOf .and .u32 a 16777215 = a % 16777216 := and_low 24 a h0 h (by decide)
theorem wrap_mod (n : Int) : IntKind.u32.wrap n = n % 4294967296 := by
  simp only [IntKind.wrap, IntKind.bits, IntKind.signed]
  simp
/-- the fields of a word -/
theorem word_of (op a b m c : Int) (h1 : 0 ≤ op) (h2 : op < 128) (h3 : 0 ≤ a) (h4 : a < 16) (h5 : 0 ≤ b) (h6 : b < 16) (h7 : 0 ≤ c) (h8 : c < 16) (h9 : m = 0 ∨ c = 0) :
    bitsOf .or .u32 (bitsOf .or .u32 (bitsOf .or .u32 (bitsOf .or .u32 (IntKind.wrap .u32 ((IntKind.wrap .u32 op) * 2 ^ 24)) (IntKind.wrap .u32 ((IntKind.wrap .u32 a) * 2 ^ 20))) (IntKind.wrap .u32 ((IntKind.wrap .u32 b) * 2 ^ 16))) (bitsOf .and .u32 (IntKind.wrap .u32 m) 65535)) (IntKind.wrap .u32 c)
      = op * 16777216 + a * 1048576 + b * 65536 + m % 65536 + c := by
  rw [wrap_u32 op h1 (by omega), wrap_u32 a h3 (by omega), wrap_u32 b h5 (by omega), wrap_u32 c h7 (by omega), wrap_u32 (op * 2 ^ 24) (by omega) (by omega), wrap_u32 (a * 2 ^ 20) (by omega) (by omega), wrap_u32 (b * 2 ^ 16) (by omega) (by omega),
    and_16 _ (by rw [wrap_mod]; omega) (by rw [wrap_mod]; omega), wrap_mod]
  rw [or_part 24 op (a * 2 ^ 20) h1 (by omega) (by omega) (by omega)]
  have e1 : op * 2 ^ 24 + a * 2 ^ 20 = (op * 16 + a) * 2 ^ 20 := by omega
  rw [e1, or_part 20 (op * 16 + a) (b * 2 ^ 16) (by omega) (by omega) (by omega) (by omega)]
  have e2 : (op * 16 + a) * 2 ^ 20 + b * 2 ^ 16 = (op * 256 + a * 16 + b) * 2 ^ 16 := by omega
  rw [e2, or_part 16 (op * 256 + a * 16 + b) (m % 4294967296 % 65536) (by omega) (by omega) (by omega) (by omega)]
  rcases h9 with rfl | rfl
  · have e3 : (op * 256 + a * 16 + b) * 2 ^ 16 + 0 % 4294967296 % 65536 = (op * 4096 + a * 256 + b * 16 + 0) * 2 ^ 12 := by omega
    have e4 : (op * 4096 + a * 256 + b * 16 + 0) * 2 ^ 12 = ((op * 4096 + a * 256 + b * 16 + 0) * 2 ^ 8) * 2 ^ 4 := by omega
    rw [e3, e4, or_part 4 _ c (by omega) h7 (by omega) (by omega)]
    omega
  · have e3 : (op * 256 + a * 16 + b) * 2 ^ 16 + m % 4294967296 % 65536 = ((op * 256 + a * 16 + b) * 2 ^ 16 + m % 4294967296 % 65536) * 2 ^ 0 := by omega
    rw [e3, or_part 0 _ 0 (by omega) (by omega) (by omega) (by omega)]
    omega
end Go.Proofs.Abs
/- Every word is encoded and decoded: the program and the document. -/
namespace Go.Proofs.Abs
open Go
set_option linter.unusedVariables false
set_option linter.unusedSimpArgs false
theorem wrap_i32_mod (x : Int) : IntKind.i32.wrap x = (x + 2147483648) % 4294967296 - 2147483648 := by
  simp only [IntKind.wrap, IntKind.bits, IntKind.signed]
  simp
  omega
/-- the shape of an operation, and which have it -/
def shOk (n s : Int) : Bool := decide ((s = -1 ∨ s = 0 ∧ n = 1 ∨ s = 1 ∧ (n = 2 ∨ n = 20 ∨ n = 21) ∨ s = 2 ∧ (n = 3 ∨ n = 30 ∨ n = 33) ∨ s = 3 ∧ (n = 5 ∨ n = 18 ∨ n = 19) ∨ s = 4 ∧ (n = 4 ∨ n = 26 ∨ n = 34) ∨ s = 5 ∧ 6 ≤ n ∧ n ≤ 17 ∨ s = 6 ∧ (n = 24 ∨ n = 25 ∨ n = 27 ∨ n = 29 ∨ n = 31 ∨ n = 32) ∨ s = 7 ∧ (n = 22 ∨ n = 23) ∨ s = 8 ∧ n = 28))
theorem shape_all : ((List.range 256).all fun n => match instr_Shape (n : Int) with
    | some s => shOk n s && decide (ref02_Shape (n : Int) = some s)
    | none => false) = true := by kernel_rfl
theorem shape_ex {op : Int} (h0 : 0 ≤ op) (h1 : op < 256) : ∃ s, instr_Shape op = some s ∧ ref02_Shape op = some s ∧ (s = -1 ∨ s = 0 ∧ op = 1 ∨ s = 1 ∧ (op = 2 ∨ op = 20 ∨ op = 21) ∨ s = 2 ∧ (op = 3 ∨ op = 30 ∨ op = 33) ∨ s = 3 ∧ (op = 5 ∨ op = 18 ∨ op = 19) ∨ s = 4 ∧ (op = 4 ∨ op = 26 ∨ op = 34) ∨ s = 5 ∧ 6 ≤ op ∧ op ≤ 17 ∨ s = 6 ∧ (op = 24 ∨ op = 25 ∨ op = 27 ∨ op = 29 ∨ op = 31 ∨ op = 32) ∨ s = 7 ∧ (op = 22 ∨ op = 23) ∨ s = 8 ∧ op = 28) := by
  obtain ⟨n, rfl⟩ : ∃ n : Nat, op = n := ⟨op.toNat, by omega⟩
  have := List.all_eq_true.1 shape_all n (List.mem_range.2 (by omega))
  split at this
  · rename_i s hs
    simp only [Bool.and_eq_true, shOk, decide_eq_true_eq] at this
    exact ⟨s, hs, this.2, this.1⟩
  · cases this
def s16 (w : Int) : Int := (w % 65536 + 32768) % 65536 - 32768
def s24 (w : Int) : Int := (w % 16777216 + 8388608) % 16777216 - 8388608
/-- may a number stand in an instruction of a shape? -/
def imP (sh n : Int) : Prop := (sh = 1 ∨ sh = 3) ∧ -32768 ≤ n ∧ n < 32768 ∨ (sh = 2 ∨ sh = 4 ∨ sh = 8) ∧ 0 ≤ n ∧ n < 65536 ∨ sh = 7 ∧ -8388608 ≤ n ∧ n < 8388608 ∨ (sh = 0 ∨ sh = 5 ∨ sh = 6) ∧ n = 0
/-- are the registers 0 that it has not? -/
def ckP (sh a b c : Int) : Prop := (sh = 0 ∨ sh = 7 ∨ sh = 8) ∧ a = 0 ∧ b = 0 ∧ c = 0 ∨ (sh = 1 ∨ sh = 2 ∨ sh = 6) ∧ b = 0 ∧ c = 0 ∨ (sh = 3 ∨ sh = 4) ∧ c = 0 ∨ sh = 5
instance (sh a b c : Int) : Decidable (ckP sh a b c) := by unfold ckP; infer_instance
def woP (sh op a b c n : Int) : Int := if sh = 7 then op * 16777216 + n % 16777216 else op * 16777216 + a * 1048576 + b * 65536 + n % 65536 + c
theorem fitsN {n : Int} (k : Int) (p : Int) (hk : k = 16 ∧ p = 32768 ∨ k = 24 ∧ p = 8388608) : word_Fits n k = some (decide (-p ≤ n ∧ n < p)) := by
  rcases hk with ⟨rfl, rfl⟩ | ⟨rfl, rfl⟩
  all_goals
    unfold word_Fits
    rw [if_neg (by decide)]
    have s1 : ∀ q : Int, shlI .i64 (-1) (IntKind.wrap .i64 q) = shlI .i64 (-1) (IntKind.wrap .i64 q) := fun _ => rfl
  · have s1 : shlI .i64 (-1) (IntKind.wrap .i64 ((if (40 : Int) < 16 then (40 : Int) else 16) - 1)) = some (-32768) := by kernel_rfl
    have s2 : shlI .i64 1 (IntKind.wrap .i64 ((if (40 : Int) < 16 then (40 : Int) else 16) - 1)) = some 32768 := by kernel_rfl
    rw [s1, bind1_some, s2]
    by_cases c : n ≥ -32768
    · rw [if_pos (by simpa using c), bind1_some, bind1_some]
      by_cases d : n < 32768
      · rw [decide_eq_true d, decide_eq_true ⟨c, d⟩]
      · rw [decide_eq_false d, decide_eq_false (fun h => d h.2)]
    · rw [if_neg (by simpa using c), bind1_some, decide_eq_false (fun h => c h.1)]
  · have s1 : shlI .i64 (-1) (IntKind.wrap .i64 ((if (40 : Int) < 24 then (40 : Int) else 24) - 1)) = some (-8388608) := by kernel_rfl
    have s2 : shlI .i64 1 (IntKind.wrap .i64 ((if (40 : Int) < 24 then (40 : Int) else 24) - 1)) = some 8388608 := by kernel_rfl
    rw [s1, bind1_some, s2]
    by_cases c : n ≥ -8388608
    · rw [if_pos (by simpa using c), bind1_some, bind1_some]
      by_cases d : n < 8388608
      · rw [decide_eq_true d, decide_eq_true ⟨c, d⟩]
      · rw [decide_eq_false d, decide_eq_false (fun h => d h.2)]
    · rw [if_neg (by simpa using c), bind1_some, decide_eq_false (fun h => c h.1)]
theorem within16 {n : Int} : word_Within n 16 = some (decide (0 ≤ n ∧ n < 65536)) := by
  unfold word_Within
  have s2 : shlI .i64 1 (if (40 : Int) < 16 then (40 : Int) else 16) = some 65536 := by kernel_rfl
  rw [if_pos (by decide)]
  by_cases c : n ≥ 0
  · rw [if_pos (by simpa using c), s2, bind1_some, bind1_some]
    by_cases d : n < 65536
    · rw [decide_eq_true d, decide_eq_true ⟨c, d⟩]
    · rw [decide_eq_false d, decide_eq_false (fun h => d h.2)]
  · rw [if_neg (by simpa using c), bind1_some, decide_eq_false (fun h => c h.1)]
theorem reg_ok {a : Int} (h0 : 0 ≤ a) (h1 : a < 16) : instr_reg a = some true := by
  unfold instr_reg; simp [h0, h1]
theorem or_far {op n : Int} (h0 : 0 ≤ op) (h1 : op < 128) : bitsOf .or .u32 (IntKind.wrap .u32 (IntKind.wrap .u32 op * 2 ^ 24)) (bitsOf .and .u32 (IntKind.wrap .u32 n) 16777215) = op * 16777216 + n % 16777216 := by
  rw [wrap_u32 op h0 (by omega), wrap_u32 (op * 2 ^ 24) (by omega) (by omega), and_24 _ (by rw [wrap_mod]; omega) (by rw [wrap_mod]; omega), wrap_mod, or_part 24 op _ h0 (by omega) (by omega) (by omega)]
  omega
/-- what the program encodes -/
theorem penc {op a b c n sh : Int} (hs : instr_Shape op = some sh) (hi : imP sh n) (h0 : 0 ≤ op) (h1 : op < 128) (a0 : 0 ≤ a) (a1 : a < 16) (b0 : 0 ≤ b) (b1 : b < 16) (c0 : 0 ≤ c) (c1 : c < 16) (hc : c = 0 ∨ n = 0) :
    instr_Encode ⟨op, a, b, c, n⟩ = some (if ckP sh a b c then (woP sh op a b c n, 0) else (0, 20)) := by
  have sr : 0 ≤ sh ∧ sh ≤ 8 := by rcases hi with h | h | h | h <;> omega
  have im : instr_imm ⟨op, a, b, c, n⟩ sh = some true := by
    unfold instr_imm instr_imm_j1 instr_imm_j3 instr_imm_j2
    have f16 := fitsN (n := n) 16 32768 (.inl ⟨rfl, rfl⟩)
    have f24 := fitsN (n := n) 24 8388608 (.inr ⟨rfl, rfl⟩)
    rcases hi with ⟨rfl | rfl, h⟩ | ⟨rfl | rfl | rfl, h⟩ | ⟨rfl, h⟩ | ⟨rfl | rfl | rfl, h⟩ <;> simp [f16, f24, within16, h, bind1_some] <;> omega
  have ck : instr_Check ⟨op, a, b, c, n⟩ = some (if ckP sh a b c then 0 else 20) := by
    unfold instr_Check
    rw [hs, bind1_some, if_neg (by simp; omega), reg_ok a0 a1, bind1_some, if_neg (by decide), reg_ok b0 b1, bind1_some, if_neg (by decide), reg_ok c0 c1, bind1_some, if_neg (by decide), im, bind1_some, bind1_some, if_neg (by decide)]
    unfold instr_Check_j7 instr_Check_j1 instr_Check_j6 instr_Check_j3 instr_Check_j5 instr_Check_j4 instr_Check_j2 ckP
    have : sh = 0 ∨ sh = 1 ∨ sh = 2 ∨ sh = 3 ∨ sh = 4 ∨ sh = 5 ∨ sh = 6 ∨ sh = 7 ∨ sh = 8 := by omega
    rcases this with rfl | rfl | rfl | rfl | rfl | rfl | rfl | rfl | rfl <;> simp <;> grind
  unfold instr_Encode
  rw [ck, bind1_some]
  by_cases k : ckP sh a b c
  · rw [if_pos k, if_pos k, if_neg (by decide), hs, bind1_some]
    unfold woP
    by_cases s7 : sh = 7
    · rw [if_pos (by simpa using s7), if_pos s7, or_far h0 h1]
    · rw [if_neg (by simpa using s7), if_neg s7, word_of op a b n c h0 h1 a0 a1 b0 b1 c0 c1 (by rcases hc with h | h <;> simp [h])]
  · rw [if_neg k, if_neg k, if_pos (by decide)]
/-- what the document encodes -/
theorem renc {op a b c n sh : Int} (hs : ref02_Shape op = some sh) (hi : imP sh n) (h0 : 0 ≤ op) (h1 : op < 128) (a0 : 0 ≤ a) (a1 : a < 16) (b0 : 0 ≤ b) (b1 : b < 16) (c0 : 0 ≤ c) (c1 : c < 16) (hk : ckP sh a b c) :
    ref02_Encode ⟨op, a, b, c, n⟩ = some (woP sh op a b c n, 0) := by
  have sr : 0 ≤ sh ∧ sh ≤ 8 := by rcases hi with h | h | h | h <;> omega
  have ck : ref02_Check ⟨op, a, b, c, n⟩ = some 0 := by
    unfold ref02_Check
    rw [hs, bind1_some, if_neg (by simp; omega)]
    unfold ref02_has ref02_Check_j1 ref02_Check_j6 ref02_Check_j3 ref02_Check_j5 ref02_Check_j4 ref02_Check_j2
    unfold ckP at hk
    have : sh = 0 ∨ sh = 1 ∨ sh = 2 ∨ sh = 3 ∨ sh = 4 ∨ sh = 5 ∨ sh = 6 ∨ sh = 7 ∨ sh = 8 := by omega
    unfold imP at hi
    rcases this with rfl | rfl | rfl | rfl | rfl | rfl | rfl | rfl | rfl <;> simp [bind3_some] at hk hi ⊢ <;> grind
  have nb : -8388608 ≤ n ∧ n < 8388608 := by rcases hi with h | h | h | h <;> omega
  unfold ref02_Encode
  rw [ck, bind1_some, if_neg (by decide), hs, bind1_some]
  unfold woP
  by_cases s7 : sh = 7
  · rw [if_pos (by simpa using s7), if_pos s7, wrap_i64 (op * 16777216) (by omega) (by omega), wrap_i64 (n + 16777216) (by omega) (by omega), tmod_pos (by omega), wrap_i64 _ (by omega) (by omega), wrap_u32 _ (by omega) (by omega)]
    congr 2; omega
  · have nb : -32768 ≤ n ∧ n < 65536 := by rcases hi with h | h | h | h <;> omega
    have m : Int.tmod (IntKind.wrap .i64 (n + 65536)) 65536 = n % 65536 := by rw [wrap_i64 _ (by omega) (by omega), tmod_pos (by omega)]; omega
    rw [if_neg (by simpa using s7), if_neg s7]
    simp only [m]
    rw [wrap_i64 (op * 16777216) (by omega) (by omega), wrap_i64 (a * 1048576) (by omega) (by omega), wrap_i64 (b * 65536) (by omega) (by omega), wrap_i64 (op * 16777216 + a * 1048576) (by omega) (by omega), wrap_i64 (op * 16777216 + a * 1048576 + b * 65536) (by omega) (by omega), wrap_i64 (op * 16777216 + a * 1048576 + b * 65536 + n % 65536) (by omega) (by omega), wrap_i64 _ (by omega) (by omega), wrap_u32 _ (by omega) (by omega)]
/-- the instruction that a word may be -/
def dvI (w sh : Int) : T_instr_Instr := if sh = 7 then ⟨w / 16777216, 0, 0, 0, s24 w⟩ else
  ⟨w / 16777216, w / 1048576 % 16, w / 65536 % 16, if sh = 5 then w % 16 else 0, if sh = 1 ∨ sh = 3 then s16 w else if sh = 2 ∨ sh = 4 ∨ sh = 8 then w % 65536 else 0⟩
def dvOk (w sh : Int) : Prop := sh ≠ -1 ∧ ckP sh (dvI w sh).A_ (dvI w sh).B_ (dvI w sh).C_ ∧ woP sh (dvI w sh).Op_ (dvI w sh).A_ (dvI w sh).B_ (dvI w sh).C_ (dvI w sh).Imm_ = w
instance (w sh : Int) : Decidable (dvOk w sh) := by unfold dvOk; infer_instance
def shR (sh : Int) : Prop := sh = -1 ∨ sh = 0 ∨ sh = 1 ∨ sh = 2 ∨ sh = 3 ∨ sh = 4 ∨ sh = 5 ∨ sh = 6 ∨ sh = 7 ∨ sh = 8
theorem dvI_im {w sh : Int} (w0 : 0 ≤ w) (h : shR sh) (hn : sh ≠ -1) : imP sh (dvI w sh).Imm_ := by
  unfold imP dvI s16 s24
  rcases h with rfl | rfl | rfl | rfl | rfl | rfl | rfl | rfl | rfl | rfl <;> simp <;> omega
theorem dvI_regs {w sh : Int} (w0 : 0 ≤ w) (w1 : w < 4294967296) : (dvI w sh).Op_ = w / 16777216 ∧ 0 ≤ (dvI w sh).A_ ∧ (dvI w sh).A_ < 16 ∧ 0 ≤ (dvI w sh).B_ ∧ (dvI w sh).B_ < 16 ∧ 0 ≤ (dvI w sh).C_ ∧ (dvI w sh).C_ < 16 ∧ ((dvI w sh).C_ = 0 ∨ (dvI w sh).Imm_ = 0) := by
  unfold dvI
  split
  · refine ⟨rfl, ?_⟩; simp
  · refine ⟨rfl, ?_, ?_, ?_, ?_, ?_, ?_, ?_⟩ <;> simp only [] <;> grind
section
variable {w : Int}
theorem psext (w0 : 0 ≤ w) (w1 : w < 4294967296) : word_Sext w 16 = some (s16 w) ∧ word_Sext w 24 = some (s24 w) := by
  have g : ∀ k : Int, k = 16 ∨ k = 8 → bind1 (shlI .u32 w k) (fun v2 => bind1 (shrI .i32 (IntKind.wrap .i32 v2) k) fun v4 => some v4) = some (if k = 16 then s16 w else s24 w) := by
    rintro k (rfl | rfl)
    · have e1 : shlI .u32 w 16 = some (IntKind.wrap .u32 (w * 65536)) := by unfold shlI; rfl
      have e2 : ∀ v : Int, shrI .i32 v 16 = some (v / 65536) := fun v => by
        unfold shrI
        rw [if_neg (by decide)]
        congr 1
        show Int.fdiv v 65536 = _
        rw [Int.fdiv_eq_ediv_of_nonneg _ (by decide)]
      rw [e1, bind1_some, e2, bind1_some, if_pos rfl, wrap_mod, wrap_i32_mod]
      unfold s16
      congr 1; omega
    · have e1 : shlI .u32 w 8 = some (IntKind.wrap .u32 (w * 256)) := by unfold shlI; rfl
      have e2 : ∀ v : Int, shrI .i32 v 8 = some (v / 256) := fun v => by
        unfold shrI
        rw [if_neg (by decide)]
        congr 1
        show Int.fdiv v 256 = _
        rw [Int.fdiv_eq_ediv_of_nonneg _ (by decide)]
      rw [e1, bind1_some, e2, bind1_some, if_neg (by decide), wrap_mod, wrap_i32_mod]
      unfold s24
      congr 1; omega
  have k1 : IntKind.wrap .i64 (32 - (if (32 : Int) < 16 then 32 else 16)) = 16 := by kernel_rfl
  have k2 : IntKind.wrap .i64 (32 - (if (32 : Int) < 24 then 32 else 24)) = 8 := by kernel_rfl
  constructor
  · unfold word_Sext
    rw [if_neg (by decide), k1]
    exact g 16 (.inl rfl)
  · unfold word_Sext
    rw [if_neg (by decide), k2]
    exact g 8 (.inr rfl)
theorem pdec {sh : Int} (w0 : 0 ≤ w) (w1 : w < 4294967296) (hs : instr_Shape (w / 16777216) = some sh) (hr : shR sh) (h128 : sh ≠ -1 → w / 16777216 < 128) : instr_Decode w = some (if dvOk w sh then (dvI w sh, 0) else (⟨0, 0, 0, 0, 0⟩, 21)) := by
  have fd : ∀ k : Nat, k = 24 ∨ k = 20 ∨ k = 16 → Int.fdiv w (2 ^ k) = w / 2 ^ k := fun k hk => Int.fdiv_eq_ediv_of_nonneg _ (by rcases hk with rfl | rfl | rfl <;> decide)
  have p24 : (2 : Int) ^ 24 = 16777216 := by decide
  have p20 : (2 : Int) ^ 20 = 1048576 := by decide
  have p16 : (2 : Int) ^ 16 = 65536 := by decide
  have and15 : ∀ a : Int, 0 ≤ a → a < 4294967296 → bitsOf .and .u32 a 15 = a % 16 := fun a h0 h1 => and_low 4 a h0 h1 (by decide)
  have e1 : IntKind.wrap .i64 (Int.fdiv w (2 ^ 24)) = w / 16777216 := by rw [fd 24 (by simp), p24, wrap_i64 _ (by omega) (by omega)]
  have e2 : IntKind.wrap .i64 (bitsOf .and .u32 (Int.fdiv w (2 ^ 20)) 15) = w / 1048576 % 16 := by rw [fd 20 (by simp), p20, and15 _ (by omega) (by omega), wrap_i64 _ (by omega) (by omega)]
  have e3 : IntKind.wrap .i64 (bitsOf .and .u32 (Int.fdiv w (2 ^ 16)) 15) = w / 65536 % 16 := by rw [fd 16 (by simp), p16, and15 _ (by omega) (by omega), wrap_i64 _ (by omega) (by omega)]
  have e4 : IntKind.wrap .i64 (bitsOf .and .u32 w 15) = w % 16 := by rw [and15 _ w0 w1, wrap_i64 _ (by omega) (by omega)]
  have e5 : IntKind.wrap .i64 (bitsOf .and .u32 w 65535) = w % 65536 := by rw [and_16 w w0 w1, wrap_i64 _ (by omega) (by omega)]
  obtain ⟨x1, x2⟩ := psext w0 w1
  have e6 : IntKind.wrap .i64 (s16 w) = s16 w := wrap_i64 _ (by unfold s16; omega) (by unfold s16; omega)
  have e7 : IntKind.wrap .i64 (s24 w) = s24 w := wrap_i64 _ (by unfold s24; omega) (by unfold s24; omega)
  have fin : ∀ x, sh ≠ -1 → x = dvI w sh → instr_Decode_j3 w x = some (if dvOk w sh then (dvI w sh, 0) else (⟨0, 0, 0, 0, 0⟩, 21)) := by
    rintro _ hn rfl
    obtain ⟨r0, r1, r2, r3, r4, r5, r6, r7⟩ := dvI_regs (w := w) (sh := sh) w0 w1
    have pe := penc (op := (dvI w sh).Op_) (sh := sh) (by rw [r0]; exact hs) (dvI_im w0 hr hn) (by omega) (by rw [r0]; exact h128 hn) r1 r2 r3 r4 r5 r6 r7
    unfold instr_Decode_j3
    have : dvI w sh = ⟨(dvI w sh).Op_, (dvI w sh).A_, (dvI w sh).B_, (dvI w sh).C_, (dvI w sh).Imm_⟩ := rfl
    rw [← this] at pe
    rw [pe]
    by_cases k : ckP sh (dvI w sh).A_ (dvI w sh).B_ (dvI w sh).C_
    · rw [if_pos k, bind2_some]
      by_cases q : woP sh (dvI w sh).Op_ (dvI w sh).A_ (dvI w sh).B_ (dvI w sh).C_ (dvI w sh).Imm_ = w
      · rw [if_neg (by simp [q]), if_pos ⟨hn, k, q⟩]
      · rw [if_pos (by simp [q]), if_neg (fun h => q h.2.2)]
    · rw [if_neg k, bind2_some, if_pos (by simp), if_neg (fun h => k h.2.1)]
  unfold instr_Decode
  rw [e1, e2, e3, hs, bind1_some]
  rcases hr with rfl | hr
  · rw [if_pos (by decide), if_neg (fun h => h.1 rfl)]
    unfold instr_Decode_j1 instr_Decode_j2 instr_Decode_j8 instr_Decode_j4 instr_Decode_j7 instr_Decode_j6 instr_Decode_j5 instr_Decode_j3
    have : instr_Encode ⟨w / 16777216, w / 1048576 % 16, w / 65536 % 16, 0, 0⟩ = some (0, 21) := by
      unfold instr_Encode instr_Check
      rw [hs, bind1_some]; rfl
    simp [this, bind2_some]
  · rcases hr with rfl | rfl | rfl | rfl | rfl | rfl | rfl | rfl | rfl
    all_goals
      simp only [instr_Decode_j1, instr_Decode_j2, instr_Decode_j8, instr_Decode_j4, instr_Decode_j7, instr_Decode_j6, instr_Decode_j5, x1, x2, bind1_some, e4, e5, e6, e7]
      simp (config := { decide := true }) only [if_true, if_false, reduceIte, Bool.false_eq_true]
      exact fin _ (by decide) (by unfold dvI; simp)
def toI (x : T_instr_Instr) : T_ref02_Instr := ⟨x.Op_, x.A_, x.B_, x.C_, x.Imm_⟩
end
end Go.Proofs.Abs
/- Instructions that are right: both say so alike, encode alike, and the word is decoded. -/
namespace Go.Proofs.Abs
open Go
set_option linter.unusedVariables false
set_option linter.unusedSimpArgs false
theorem shape_far {op : Int} (h : ¬ (0 ≤ op ∧ op < 256)) : instr_Shape op = some (-1) ∧ ref02_Shape op = some (-1) := by
  have e : ∀ k : Int, 0 ≤ k → k < 256 → (op == k) = false := fun k h0 h1 => by simp; omega
  constructor
  · unfold instr_Shape
    simp only [instr_Shape_j1, instr_Shape_j2, instr_Shape_j3, instr_Shape_j4, instr_Shape_j5, instr_Shape_j6, instr_Shape_j7, instr_Shape_j8, instr_Shape_j9, instr_Shape_j10, instr_Shape_j11, instr_Shape_j12, instr_Shape_j13, instr_Shape_j14, instr_Shape_j15, instr_Shape_j16, instr_Shape_j17, instr_Shape_j18, instr_Shape_j19, instr_Shape_j20, instr_Shape_j21, instr_Shape_j22, instr_Shape_j23, instr_Shape_j24, instr_Shape_j25]
    simp [e]
  · unfold ref02_Shape
    rw [if_neg (by simp; omega)]
    simp only [ref02_Shape_j1, ref02_Shape_j2, ref02_Shape_j3, ref02_Shape_j4, ref02_Shape_j5, ref02_Shape_j6, ref02_Shape_j7, ref02_Shape_j8, ref02_Shape_j9, ref02_Shape_j10, ref02_Shape_j11, ref02_Shape_j12, ref02_Shape_j13, ref02_Shape_j14]
    simp [e]
/-- a right instruction, of a shape -/
structure RtI (x : T_instr_Instr) (sh : Int) : Prop where
  p : instr_Shape x.Op_ = some sh
  r : ref02_Shape x.Op_ = some sh
  o : 0 ≤ x.Op_ ∧ x.Op_ < 128
  s : 0 ≤ sh ∧ sh ≤ 8
  a : 0 ≤ x.A_ ∧ x.A_ < 16
  b : 0 ≤ x.B_ ∧ x.B_ < 16
  c : 0 ≤ x.C_ ∧ x.C_ < 16
  i : imP sh x.Imm_
  k : ckP sh x.A_ x.B_ x.C_
instance (sh n : Int) : Decidable (imP sh n) := by unfold imP; infer_instance
theorem imm_eq {x : T_instr_Instr} {sh : Int} (h : 0 ≤ sh ∧ sh ≤ 8) : instr_imm x sh = some (decide (imP sh x.Imm_)) := by
  have f16 := fitsN (n := x.Imm_) 16 32768 (.inl ⟨rfl, rfl⟩)
  have f24 := fitsN (n := x.Imm_) 24 8388608 (.inr ⟨rfl, rfl⟩)
  unfold instr_imm instr_imm_j1 instr_imm_j3 instr_imm_j2 imP
  have : sh = 0 ∨ sh = 1 ∨ sh = 2 ∨ sh = 3 ∨ sh = 4 ∨ sh = 5 ∨ sh = 6 ∨ sh = 7 ∨ sh = 8 := by omega
  rcases this with rfl | rfl | rfl | rfl | rfl | rfl | rfl | rfl | rfl <;> simp [f16, f24, within16, bind1_some] <;> grind
theorem ck_eq {x : T_instr_Instr} {sh : Int} (h : 0 ≤ sh ∧ sh ≤ 8) : (if (sh == 0) = true then instr_Check_j1 x sh (sh == 0) else if (sh == 7) = true then instr_Check_j7 x sh (sh == 7) else instr_Check_j7 x sh (sh == 8)) = some (if ckP sh x.A_ x.B_ x.C_ then 0 else 20) := by
  unfold instr_Check_j7 instr_Check_j1 instr_Check_j6 instr_Check_j3 instr_Check_j5 instr_Check_j4 instr_Check_j2 ckP
  have : sh = 0 ∨ sh = 1 ∨ sh = 2 ∨ sh = 3 ∨ sh = 4 ∨ sh = 5 ∨ sh = 6 ∨ sh = 7 ∨ sh = 8 := by omega
  rcases this with rfl | rfl | rfl | rfl | rfl | rfl | rfl | rfl | rfl <;> simp <;> grind
theorem rim_eq {x : T_ref02_Instr} {sh : Int} (h : 0 ≤ sh ∧ sh ≤ 8) : (if (sh == 1) = true then ref02_Check_j1 x sh (sh == 1) else ref02_Check_j1 x sh (sh == 3)) = some (if imP sh x.Imm_ then 0 else 20) := by
  unfold ref02_Check_j1 ref02_Check_j6 ref02_Check_j3 ref02_Check_j5 ref02_Check_j4 ref02_Check_j2 imP
  have : sh = 0 ∨ sh = 1 ∨ sh = 2 ∨ sh = 3 ∨ sh = 4 ∨ sh = 5 ∨ sh = 6 ∨ sh = 7 ∨ sh = 8 := by omega
  rcases this with rfl | rfl | rfl | rfl | rfl | rfl | rfl | rfl | rfl <;> simp <;> grind
def Regs (a b c : Int) : Prop := (0 ≤ a ∧ a < 16) ∧ (0 ≤ b ∧ b < 16) ∧ 0 ≤ c ∧ c < 16
instance (a b c : Int) : Decidable (Regs a b c) := by unfold Regs; infer_instance
theorem check_eq (x : T_instr_Instr) : ∃ e, instr_Check x = some e ∧ ref02_Check (toI x) = some e ∧ (e = 0 → ∃ sh, RtI x sh) := by
  by_cases far : 0 ≤ x.Op_ ∧ x.Op_ < 256
  · obtain ⟨sh, h1, h2, h3⟩ := shape_ex far.1 far.2
    by_cases m : sh = -1
    · subst m
      refine ⟨21, ?_, ?_, fun h => by cases h⟩
      · unfold instr_Check; rw [h1, bind1_some, if_pos (by decide)]
      · unfold ref02_Check
        show bind1 (ref02_Shape x.Op_) _ = _
        rw [h2, bind1_some, if_pos (by decide)]
    · have s : 0 ≤ sh ∧ sh ≤ 8 := by omega
      have o : x.Op_ < 128 := by omega
      have inner : (if (!(decide (x.A_ ≥ 0) && decide (x.A_ < 16))) = true then some true else bind1 (some (decide (x.B_ ≥ 0) && decide (x.B_ < 16))) fun r7 => if (!r7) = true then some true else bind1 (some (decide (x.C_ ≥ 0) && decide (x.C_ < 16))) fun r10 => if (!r10) = true then some true else bind1 (some (decide (imP sh x.Imm_))) fun r13 => some (!r13)) = some (decide (¬ (Regs x.A_ x.B_ x.C_ ∧ imP sh x.Imm_))) := by
        simp only [bind1_some]
        by_cases ga : 0 ≤ x.A_ ∧ x.A_ < 16
        · by_cases gb : 0 ≤ x.B_ ∧ x.B_ < 16
          · by_cases gc : 0 ≤ x.C_ ∧ x.C_ < 16
            · by_cases i : imP sh x.Imm_ <;> simp [Regs, ga, gb, gc, i]
            · have : ¬ Regs x.A_ x.B_ x.C_ := fun h => gc h.2.2
              rw [if_neg (by simp [ga]), if_neg (by simp [gb]), if_pos (by simp; omega)]; simp [this]
          · have : ¬ Regs x.A_ x.B_ x.C_ := fun h => gb h.2.1
            rw [if_neg (by simp [ga]), if_pos (by simp; omega)]; simp [this]
        · have : ¬ Regs x.A_ x.B_ x.C_ := fun h => ga h.1
          rw [if_pos (by simp; omega)]; simp [this]
      have e1 : instr_Check x = some (if Regs x.A_ x.B_ x.C_ ∧ imP sh x.Imm_ ∧ ckP sh x.A_ x.B_ x.C_ then 0 else 20) := by
        unfold instr_Check instr_reg
        rw [h1, bind1_some, if_neg (by simp; omega), bind1_some, imm_eq s, inner, bind1_some, ck_eq s]
        by_cases g : Regs x.A_ x.B_ x.C_ ∧ imP sh x.Imm_
        · rw [if_neg (by simp [g])]
          by_cases k : ckP sh x.A_ x.B_ x.C_
          · rw [if_pos k, if_pos ⟨g.1, g.2, k⟩]
          · rw [if_neg k, if_neg (fun h => k h.2.2)]
        · rw [if_pos (decide_eq_true g), if_neg (fun h => g ⟨h.1, h.2.1⟩)]
      have e2 : ref02_Check (toI x) = some (if Regs x.A_ x.B_ x.C_ ∧ imP sh x.Imm_ ∧ ckP sh x.A_ x.B_ x.C_ then 0 else 20) := by
        unfold ref02_Check ref02_has
        show bind1 (ref02_Shape x.Op_) _ = _
        rw [h2, bind1_some, if_neg (by simp; omega), bind3_some, rim_eq s]
        have q : ∀ (B : Bool), (B = true ↔ ¬ (Regs x.A_ x.B_ x.C_ ∧ ckP sh x.A_ x.B_ x.C_)) → (if B = true then some (20 : Int) else some (if imP sh x.Imm_ then 0 else 20)) = some (if Regs x.A_ x.B_ x.C_ ∧ imP sh x.Imm_ ∧ ckP sh x.A_ x.B_ x.C_ then (0 : Int) else 20) := fun B hB => by
          by_cases b : B = true
          · rw [if_pos b, if_neg (fun h => hB.1 b ⟨h.1, h.2.2⟩)]
          · rw [if_neg b]
            have : Regs x.A_ x.B_ x.C_ ∧ ckP sh x.A_ x.B_ x.C_ := Classical.byContradiction fun h => b (hB.2 h)
            by_cases i : imP sh x.Imm_
            · rw [if_pos i, if_pos ⟨this.1, i, this.2⟩]
            · rw [if_neg i, if_neg (fun h => i h.2.1)]
        refine q _ ?_
        have : sh = 0 ∨ sh = 1 ∨ sh = 2 ∨ sh = 3 ∨ sh = 4 ∨ sh = 5 ∨ sh = 6 ∨ sh = 7 ∨ sh = 8 := by omega
        unfold Regs ckP toI
        rcases this with rfl | rfl | rfl | rfl | rfl | rfl | rfl | rfl | rfl <;> simp <;> omega
      refine ⟨_, e1, e2, fun h => ?_⟩
      have : Regs x.A_ x.B_ x.C_ ∧ imP sh x.Imm_ ∧ ckP sh x.A_ x.B_ x.C_ := Classical.byContradiction fun k => by rw [if_neg k] at h; cases h
      exact ⟨sh, ⟨h1, h2, ⟨far.1, o⟩, s, this.1.1, this.1.2.1, this.1.2.2, this.2.1, this.2.2⟩⟩
  · obtain ⟨h1, h2⟩ := shape_far far
    refine ⟨21, ?_, ?_, fun h => by cases h⟩
    · unfold instr_Check; rw [h1, bind1_some, if_pos (by decide)]
    · unfold ref02_Check
      show bind1 (ref02_Shape x.Op_) _ = _
      rw [h2, bind1_some, if_pos (by decide)]
theorem rt_words {x : T_instr_Instr} {sh : Int} (R : RtI x sh) : ∃ w, 0 ≤ w ∧ w < 4294967296 ∧ instr_Encode x = some (w, 0) ∧ ref02_Encode (toI x) = some (w, 0) ∧ instr_Decode w = some (x, 0) := by
  obtain ⟨h1, h2, ho, hs, ha, hb, hc, hi, hk⟩ := R
  obtain ⟨op, a, b, c, n⟩ := x
  simp only at h1 h2 ho ha hb hc hi hk
  have cn : c = 0 ∨ n = 0 := by unfold ckP at hk; unfold imP at hi; omega
  have e1 := penc (a := a) (b := b) (c := c) h1 hi ho.1 ho.2 ha.1 ha.2 hb.1 hb.2 hc.1 hc.2 cn
  rw [if_pos hk] at e1
  have e2 := renc h2 hi ho.1 ho.2 ha.1 ha.2 hb.1 hb.2 hc.1 hc.2 hk
  have sr : shR sh := by unfold shR; omega
  obtain ⟨w, hw⟩ : ∃ w, w = woP sh op a b c n := ⟨_, rfl⟩
  have wb : 0 ≤ w ∧ w < 4294967296 ∧ w / 16777216 = op ∧ dvI w sh = ⟨op, a, b, c, n⟩ := by
    unfold ckP at hk
    unfold imP at hi
    rw [hw]
    have : sh = 0 ∨ sh = 1 ∨ sh = 2 ∨ sh = 3 ∨ sh = 4 ∨ sh = 5 ∨ sh = 6 ∨ sh = 7 ∨ sh = 8 := by omega
    rcases this with rfl | rfl | rfl | rfl | rfl | rfl | rfl | rfl | rfl <;> simp [woP, dvI, s16, s24] at hk hi ⊢ <;> omega
  obtain ⟨w0, w1, w2, w3⟩ := wb
  have d := pdec (sh := sh) w0 w1 (by rw [w2]; exact h1) sr (fun _ => by rw [w2]; exact ho.2)
  have ok : dvOk w sh := by
    refine ⟨by omega, ?_, ?_⟩
    · rw [w3]; exact hk
    · rw [w3]; exact hw.symm
  rw [if_pos ok, w3] at d
  exact ⟨w, w0, w1, by rw [hw]; exact e1, by rw [hw]; exact e2, d⟩
end Go.Proofs.Abs
/- The code that is written, and the document's: what both hold; single writes. -/
namespace Go.Proofs.Abs
open Go
set_option linter.unusedVariables false
set_option linter.unusedSimpArgs false
noncomputable def wOf (x : T_instr_Instr) : Int := match instr_Encode x with
  | some (w, _) => w
  | none => 0
theorem wOf_enc {x : T_instr_Instr} {sh : Int} (h : RtI x sh) : instr_Encode x = some (wOf x, 0) ∧ ref02_Encode (toI x) = some (wOf x, 0) ∧ instr_Decode (wOf x) = some (x, 0) := by
  obtain ⟨w, _, _, h1, h2, h3⟩ := rt_words h
  have : wOf x = w := by unfold wOf; rw [h1]
  rw [this]; exact ⟨h1, h2, h3⟩
/-- both hold the same -/
structure ER (N : Nat) (c : T_emit_Code) (w : T_ref17_Code) : Prop where
  wd : ∃ xs : List T_instr_Instr, c.words_ = xs.map wOf ∧ w.L_ = xs.map toI ∧ ∀ x ∈ xs, ∃ sh, RtI x sh
  g : w.G_.length = w.L_.length
  fx : c.fixups_ = w.Fixups_
  pd : c.pads_ = w.Pads_
  ac : c.active_ = w.Active_
  dp : c.depth_ = w.Depth_
  mo : c.most_ = w.Most_
  er : c.err_ = w.Err_
  ms : ∀ s ∈ c.marks_.list_, s.Pad_ = -1 ∨ 0 ≤ s.Pad_ ∧ s.Pad_ < c.pads_.length
  ai : ∀ a ∈ c.active_, 0 ≤ a ∧ a < c.pads_.length
  b1 : c.words_.length ≤ N
  b2 : c.fixups_.length ≤ N
  b3 : c.marks_.list_.length ≤ N
  b4 : c.pads_.length ≤ N
  b5 : c.active_.length ≤ N
  b6 : 0 ≤ c.depth_ ∧ c.depth_ ≤ N
  b7 : 0 ≤ c.most_ ∧ c.most_ ≤ N
section
variable {N : Nat} {c : T_emit_Code} {w : T_ref17_Code} {H : Heap} {i o : Nat}
theorem ER.len (R : ER N c w) : w.L_.length = c.words_.length := by
  obtain ⟨xs, h1, h2, _⟩ := R.wd
  rw [h1, h2]; simp
theorem ER.mono (R : ER N c w) {M : Nat} (h : N ≤ M) : ER M c w :=
  ⟨R.wd, R.g, R.fx, R.pd, R.ac, R.dp, R.mo, R.er, R.ms, R.ai, Nat.le_trans R.b1 h, Nat.le_trans R.b2 h, Nat.le_trans R.b3 h, Nat.le_trans R.b4 h, Nat.le_trans R.b5 h, ⟨R.b6.1, by have := R.b6.2; omega⟩, ⟨R.b7.1, by have := R.b7.2; omega⟩⟩
/-- what a call comes to, at both -/
def Both (f : Heap → Option Heap) (g : Option T_ref17_Code) (i o : Nat) (c : T_emit_Code) (M : Nat) : Prop :=
  ∃ c' w', g = some w' ∧ ER M c' w' ∧ c.pads_.length ≤ c'.pads_.length ∧ ∀ H, get_emit_Code H i o = some c → ∃ H', f H = some H' ∧ get_emit_Code H' i o = some c'
def failW (w : T_ref17_Code) (e : Int) : T_ref17_Code := ⟨w.L_, w.G_, w.Fixups_, w.Pads_, w.Active_, w.Depth_, w.Most_, if w.Err_ = 0 then e else w.Err_⟩
theorem fail_ref (w : T_ref17_Code) (e : Int) : ref17_Fail w e = some (failW w e) := by
  unfold ref17_Fail ref17_Fail_j1 failW
  by_cases h : w.Err_ = 0
  · rw [if_pos (by simpa using h), if_pos h]
  · rw [if_neg (by simpa using h), if_neg h]
theorem ER.fail (R : ER N c w) (e : Int) : ER N (failC c e) (failW w e) :=
  ⟨R.wd, R.g, R.fx, R.pd, R.ac, R.dp, R.mo, by show (if c.err_ = 0 then e else c.err_) = (if w.Err_ = 0 then e else w.Err_); rw [R.er], R.ms, R.ai, R.b1, R.b2, R.b3, R.b4, R.b5, R.b6, R.b7⟩
theorem now_ref (w : T_ref17_Code) (h : w.Active_.length ≤ 100000) : ∃ v, ref17_now w = some v := by
  unfold ref17_now
  by_cases k : (w.Active_.length : Int) = 0
  · rw [if_pos (by simpa using k)]; exact ⟨_, rfl⟩
  · rw [if_neg (by simpa using k), wrap_i64 _ (by omega) (by omega), gi_some (by omega) (by omega)]; exact ⟨_, rfl⟩
def addL (w : T_ref17_Code) (x : T_ref02_Instr) (v : Int) : T_ref17_Code := ⟨w.L_ ++ [x], w.G_ ++ [v], w.Fixups_, w.Pads_, w.Active_, w.Depth_, w.Most_, w.Err_⟩
theorem ER.add (R : ER N c w) {x : T_instr_Instr} {sh : Int} (hx : RtI x sh) (v : Int) : ER (N + 1) (addW c (wOf x)) (addL w (toI x) v) := by
  have R1 := R.mono (Nat.le_add_right N 1)
  obtain ⟨xs, h1, h2, h3⟩ := R.wd
  refine ⟨⟨xs ++ [x], by show c.words_ ++ [_] = _; rw [h1]; simp, by show w.L_ ++ [_] = _; rw [h2]; simp, fun y hy => ?_⟩, by show (w.G_ ++ [v]).length = (w.L_ ++ [_]).length; simp [R.g], R.fx, R.pd, R.ac, R.dp, R.mo, R.er, R.ms, R.ai, by show (c.words_ ++ [_]).length ≤ _; have := R.b1; simp; omega, R1.b2, R1.b3, R1.b4, R1.b5, R1.b6, R1.b7⟩
  rcases List.mem_append.1 hy with h | h
  · exact h3 y h
  · rw [List.mem_singleton.1 h]; exact ⟨sh, hx⟩
theorem put1 {x : T_instr_Instr} {sh : Int} (R : ER N c w) (hN : N ≤ 10000) (hx : RtI x sh) : ∃ v, ref17_Put_j1 w (toI x) = some (addL w (toI x) v) ∧ ∀ H, get_emit_Code H i o = some c → ∃ H', emit_Code_Put_j1 (.at i o) (wOf x) H = some (H', (c.words_.length : Int)) ∧ get_emit_Code H' i o = some (addW c (wOf x)) := by
  have l1 := R.b1
  have ll := R.len
  have lg := R.g
  have l5 := R.b5
  obtain ⟨v, hv⟩ := now_ref (⟨w.L_ ++ [toI x], w.G_, w.Fixups_, w.Pads_, w.Active_, w.Depth_, w.Most_, w.Err_⟩ : T_ref17_Code) (by show w.Active_.length ≤ _; rw [← R.ac]; omega)
  refine ⟨v, ?_, fun H h => ?_⟩
  · unfold ref17_Put_j1
    rw [if_neg (by simp; omega), app_some (by simp; omega), bind1_some, List.nil_append, app_some (by simp; omega), bind1_some, app_some (by simp; omega), bind1_some, List.nil_append, hv, bind1_some, app_some (by simp; omega), bind1_some]; rfl
  · unfold emit_Code_Put_j1
    rw [pbnd_at, h, bind1_some, if_neg (by simp; omega), app_some (by simp; omega), bind1_some, bnd_def]
    refine ⟨_, ?_, cod_set _ h⟩
    rw [wrap_i64 _ (by simp <;> omega) (by simp <;> omega)]
    simp [addW]
theorem halt_rt : ∃ sh, RtI ⟨1, 0, 0, 0, 0⟩ sh := by
  obtain ⟨e, h1, _, h3⟩ := check_eq ⟨1, 0, 0, 0, 0⟩
  have : instr_Check ⟨1, 0, 0, 0, 0⟩ = some 0 := by kernel_rfl
  rw [this] at h1
  exact h3 (Option.some.inj h1).symm
/-- an instruction is put -/
theorem put_both (R : ER N c w) (hN : N ≤ 10000) (x : T_instr_Instr) : ∃ c' w', ref17_Put w (toI x) = some w' ∧ ER (N + 1) c' w' ∧ c'.pads_ = c.pads_ ∧ c'.words_.length = c.words_.length + 1 ∧ ∀ H, get_emit_Code H i o = some c → ∃ H', emit_Code_Put H (.at i o) x = some (H', (c.words_.length : Int)) ∧ get_emit_Code H' i o = some c' := by
  obtain ⟨e, e1, e2, e3⟩ := check_eq x
  by_cases h0 : e = 0
  · obtain ⟨sh, hx⟩ := e3 h0
    obtain ⟨v, r1, r2⟩ := put1 (i := i) (o := o) R hN hx
    refine ⟨_, _, ?_, R.add hx v, rfl, by show (c.words_ ++ [_]).length = _; simp, fun H h => ?_⟩
    · unfold ref17_Put
      rw [e2, bind1_some, if_neg (by simpa using h0), r1]
    · obtain ⟨H', k1, k2⟩ := r2 H h
      refine ⟨H', ?_, k2⟩
      unfold emit_Code_Put
      rw [(wOf_enc hx).1, bind2_some, if_neg (by simp), k1]
  · obtain ⟨sh, hx⟩ := halt_rt
    obtain ⟨v, r1, r2⟩ := put1 (i := i) (o := o) (R.fail e) hN hx
    refine ⟨_, _, ?_, (R.fail e).add hx v, rfl, by show (c.words_ ++ [_]).length = _; simp, fun H h => ?_⟩
    · unfold ref17_Put
      rw [e2, bind1_some, if_pos (by simpa using h0), fail_ref, bind1_some]
      exact r1
    · obtain ⟨H1, f1, f2⟩ := fail_spec h e
      obtain ⟨H', k1, k2⟩ := r2 H1 f2
      refine ⟨H', ?_, k2⟩
      have en : instr_Encode x = some (0, e) := by
        unfold instr_Encode
        rw [e1, bind1_some, if_pos (by simpa using h0)]
      unfold emit_Code_Put
      rw [en, bind2_some, if_pos (by simpa using h0), f1, bind1_some, (wOf_enc hx).1, bind2_some]
      exact k1
/-- another number is put into an instruction -/
theorem patch_both (R : ER N c w) (hN : N ≤ 10000) (a n : Int) : Both (fun H => emit_Code_set H (.at i o) a n) (ref17_Patch w a n) i o c N := by
  have l1 := R.b1
  have ll := R.len
  obtain ⟨xs, h1, h2, h3⟩ := R.wd
  by_cases far : a < 0 ∨ a ≥ c.words_.length
  · refine ⟨_, _, ?_, R.fail 52, Nat.le_refl _, fun H h => ?_⟩
    · unfold ref17_Patch
      rw [if_pos (by simp; omega), fail_ref, bind1_some]
    · obtain ⟨H1, f1, f2⟩ := fail_spec h 52
      refine ⟨H1, ?_, f2⟩
      show emit_Code_set H (.at i o) a n = _
      unfold emit_Code_set
      by_cases q : a < 0
      · rw [if_pos (by simpa using q), bind2_some, if_pos rfl, f1, bind1_some]
      · rw [if_neg (by simpa using q), pbnd_at, h, bind1_some, bind2_some, if_pos (by simp; omega), f1, bind1_some]
  · have a0 : 0 ≤ a := by omega
    have a1 : a < c.words_.length := by omega
    have ax : a.toNat < xs.length := by rw [h1] at a1; simp at a1; omega
    obtain ⟨x, hx⟩ : ∃ x, x = xs[a.toNat] := ⟨_, rfl⟩
    obtain ⟨sh, rx⟩ := h3 x (by rw [hx]; exact List.getElem_mem _)
    have g1 : gi c.words_ a = some (wOf x) := by
      rw [gi_some a0 a1]; simp only [h1, List.getElem_map, ← hx]
    have g2 : gi w.L_ a = some (toI x) := by
      rw [gi_some a0 (by omega)]; simp only [h2, List.getElem_map, ← hx]
    obtain ⟨y, hy⟩ : ∃ y : T_instr_Instr, y = ⟨x.Op_, x.A_, x.B_, x.C_, n⟩ := ⟨_, rfl⟩
    obtain ⟨e, e1, e2, e3⟩ := check_eq y
    have go : ∀ H, get_emit_Code H i o = some c → emit_Code_set H (.at i o) a n = (bind2 (instr_Encode y) fun r23 r24 =>
        if (r24 != 0) = true then (bind1 (emit_Code_Fail H (Ptr.at i o) 52) fun H28 => some H28)
        else (bind1 (gi c.words_ a) fun x29 => bind1 (si c.words_ a r23) fun v31 => bnd (set_emit_Code H i o (T_emit_Code.mk v31 c.fixups_ c.marks_ c.pads_ c.active_ c.depth_ c.most_ c.err_)) fun H33 => some H33)) := fun H h => by
      unfold emit_Code_set
      rw [if_neg (by simp; omega), pbnd_at, h, bind1_some, bind2_some, if_neg (by simp; omega), pbnd_at, h, bind1_some, g1, bind1_some, (wOf_enc rx).2.2, bind2_some, hy]
    have rgo : ref17_Patch w a n = (bind1 (ref02_Check (toI y)) fun r7 => if (r7 != 0) = true then (bind1 (ref17_Fail w 52) fun r10 => some r10) else (bind1 (app 40 ([] : List T_ref02_Instr) w.L_) fun v12 => bind1 (gi v12 a) fun x14 => bind1 (si v12 a (toI y)) fun v16 => some (T_ref17_Code.mk v16 w.G_ w.Fixups_ w.Pads_ w.Active_ w.Depth_ w.Most_ w.Err_))) := by
      unfold ref17_Patch
      rw [if_neg (by simp; omega), g2, bind1_some, hy]; rfl
    by_cases h0 : e = 0
    · obtain ⟨sh2, ry⟩ := e3 h0
      refine ⟨⟨c.words_.set a.toNat (wOf y), c.fixups_, c.marks_, c.pads_, c.active_, c.depth_, c.most_, c.err_⟩, ⟨w.L_.set a.toNat (toI y), w.G_, w.Fixups_, w.Pads_, w.Active_, w.Depth_, w.Most_, w.Err_⟩, ?_, ?_, Nat.le_refl _, fun H h => ?_⟩
      · rw [rgo, e2, bind1_some, if_neg (by simpa using h0), app_some (by simp; omega), bind1_some, List.nil_append, g2, bind1_some, si_some a0 (by omega), bind1_some]
      · refine ⟨⟨xs.set a.toNat y, by show c.words_.set _ _ = _; rw [h1, List.map_set], by show w.L_.set _ _ = _; rw [h2, List.map_set], fun z hz => ?_⟩, by show w.G_.length = (w.L_.set _ _).length; simp [R.g], R.fx, R.pd, R.ac, R.dp, R.mo, R.er, R.ms, R.ai, by show (c.words_.set _ _).length ≤ _; simpa using l1, R.b2, R.b3, R.b4, R.b5, R.b6, R.b7⟩
        rcases List.mem_or_eq_of_mem_set hz with h | h
        · exact h3 z h
        · rw [h]; exact ⟨sh2, ry⟩
      · show ∃ H', emit_Code_set H (.at i o) a n = _ ∧ _
        rw [go H h, (wOf_enc ry).1, bind2_some, if_neg (by simp), g1, bind1_some, si_some a0 a1, bind1_some, bnd_def]
        exact ⟨_, rfl, cod_set _ h⟩
    · refine ⟨_, _, ?_, R.fail 52, Nat.le_refl _, fun H h => ?_⟩
      · rw [rgo, e2, bind1_some, if_pos (by simpa using h0), fail_ref, bind1_some]
      · have en : instr_Encode y = some (0, e) := by
          unfold instr_Encode
          rw [e1, bind1_some, if_pos (by simpa using h0)]
        obtain ⟨H1, f1, f2⟩ := fail_spec h 52
        refine ⟨H1, ?_, f2⟩
        show emit_Code_set H (.at i o) a n = _
        rw [go H h, en, bind2_some, if_pos (by simpa using h0), f1, bind1_some]
/-- a mark is set -/
theorem mark_spec {H : Heap} {j q : Nat} {l : List T_api_Segment} (h : get_ranges_Builder H j q = some ⟨l⟩) (hl : l.length ≤ 10000) (a p : Int) : ∃ H' l', ranges_Builder_Mark H (.at j q) a p = some H' ∧ l'.length ≤ l.length + 1 ∧ (∀ s ∈ l', s ∈ l ∨ s.Pad_ = p) ∧
    (H' = H ∧ l' = l ∨ H' = set_ranges_Builder H j q ⟨l'⟩ ∨ ∃ l1, H' = set_ranges_Builder (set_ranges_Builder H j q ⟨l1⟩) j q ⟨l'⟩) := by
  have j1 : ∀ (H1 : Heap) (l1 : List T_api_Segment) (a1 : Int), get_ranges_Builder H1 j q = some ⟨l1⟩ → l1.length ≤ 10000 → ranges_Builder_Mark_j1 j q p a1 H1 = some H1 ∨ ranges_Builder_Mark_j1 j q p a1 H1 = some (set_ranges_Builder H1 j q ⟨l1 ++ [⟨a1, p⟩]⟩) := fun H1 l1 a1 g1 k1 => by
    unfold ranges_Builder_Mark_j1
    rw [g1, bind1_some]
    by_cases z : (l1.length : Int) > 0
    · rw [if_pos (by simpa using z), wrap_i64 _ (by show -9223372036854775808 ≤ (l1.length : Int) - 1; omega) (by show (l1.length : Int) - 1 ≤ _; omega)]
      show bind1 (bind1 (gi l1 ((l1.length : Int) - 1)) _) _ = _ ∨ bind1 (bind1 (gi l1 ((l1.length : Int) - 1)) _) _ = _
      rw [gi_some (by omega) (by omega), bind1_some, bind1_some]
      split
      · exact .inl rfl
      · right
        show bind1 (app 16 l1 _) _ = _
        rw [app_some (by simp; omega), bind1_some]; rfl
    · rw [if_neg (by simpa using z), bind1_some, if_neg (by simp)]
      right
      show bind1 (app 16 l1 _) _ = _
      rw [app_some (by simp; omega), bind1_some, bnd_def]
  unfold ranges_Builder_Mark
  rw [pbnd_at, h, bind1_some]
  have fin : ∀ b : Bool, (b = true → 0 < l.length) → ∃ H' l', (if b = true then (bind1 (gi l (IntKind.wrap .i64 ((l.length : Int) - 1))) fun x27 => bind1 (cut l 0 (IntKind.wrap .i64 ((l.length : Int) - 1))) fun v29 => bnd (set_ranges_Builder H j q (T_ranges_Builder.mk v29)) fun H31 => ranges_Builder_Mark_j1 j q p x27.Start_ H31) else ranges_Builder_Mark_j1 j q p a H) = some H' ∧ l'.length ≤ l.length + 1 ∧ (∀ s ∈ l', s ∈ l ∨ s.Pad_ = p) ∧
      (H' = H ∧ l' = l ∨ H' = set_ranges_Builder H j q ⟨l'⟩ ∨ ∃ l1, H' = set_ranges_Builder (set_ranges_Builder H j q ⟨l1⟩) j q ⟨l'⟩) := fun b hb => by
    cases b with
    | false =>
      rw [if_neg (by simp)]
      rcases j1 H l a h hl with e | e
      · exact ⟨H, l, e, by omega, fun s hs => .inl hs, .inl ⟨rfl, rfl⟩⟩
      · refine ⟨_, _, e, by simp, fun s hs => ?_, .inr (.inl rfl)⟩
        rcases List.mem_append.1 hs with k | k
        · exact .inl k
        · rw [List.mem_singleton.1 k]; exact .inr rfl
    | true =>
      have hp := hb rfl
      have hc : cut l 0 ((l.length : Int) - 1) = some (l.take (l.length - 1)) := by
        unfold cut
        rw [if_pos ⟨by omega, by omega, by omega⟩]
        simp
      rw [if_pos rfl, wrap_i64 _ (by omega) (by omega), gi_some (by omega) (by omega), bind1_some, hc, bind1_some, bnd_def]
      have g2 : get_ranges_Builder (set_ranges_Builder H j q ⟨l.take (l.length - 1)⟩) j q = some ⟨l.take (l.length - 1)⟩ := hgT_set bld_inj bld_len h _
      rcases j1 _ _ _ g2 (by simp <;> omega) with e | e
      · exact ⟨_, _, e, by simp <;> omega, fun s hs => .inl (List.mem_of_mem_take hs), .inr (.inl rfl)⟩
      · refine ⟨_, _, e, by simp <;> omega, fun s hs => ?_, .inr (.inr ⟨_, rfl⟩)⟩
        rcases List.mem_append.1 hs with k | k
        · exact .inl (List.mem_of_mem_take k)
        · rw [List.mem_singleton.1 k]; exact .inr rfl
  by_cases z : (l.length : Int) > 0
  · rw [if_pos (by simpa using z)]
    show ∃ H' l', bind1 (bind1 (gi l (IntKind.wrap .i64 ((l.length : Int) - 1))) _) _ = _ ∧ _
    rw [wrap_i64 _ (by omega) (by omega), gi_some (by omega) (by omega), bind1_some, bind1_some]
    have := fin (decide (a ≤ (l[((l.length : Int) - 1).toNat]'(by omega)).Start_)) (fun _ => by omega)
    rw [wrap_i64 _ (by omega) (by omega), gi_some (by omega) (by omega)] at this
    exact this
  · rw [if_neg (by simpa using z), bind1_some]
    exact fin false (by simp)
def withM (c : T_emit_Code) (l : List T_api_Segment) : T_emit_Code := ⟨c.words_, c.fixups_, ⟨l⟩, c.pads_, c.active_, c.depth_, c.most_, c.err_⟩
theorem mark_code {H : Heap} (h : get_emit_Code H i o = some c) (hl : c.marks_.list_.length ≤ 10000) (a p : Int) : ∃ H' l', ranges_Builder_Mark H (.at i (o + 2)) a p = some H' ∧ l'.length ≤ c.marks_.list_.length + 1 ∧ (∀ s ∈ l', s ∈ c.marks_.list_ ∨ s.Pad_ = p) ∧ get_emit_Code H' i o = some (withM c l') := by
  obtain ⟨H', l', e1, e2, e3, e4⟩ := mark_spec (cod_marks h) hl a p
  refine ⟨H', l', e1, e2, e3, ?_⟩
  rcases e4 with ⟨rfl, rfl⟩ | rfl | ⟨l1, rfl⟩
  · exact h
  · exact cod_setMarks _ h
  · have h1 := cod_setMarks ⟨l1⟩ h
    have h2 := cod_setMarks ⟨l'⟩ h1
    exact h2
end
end Go.Proofs.Abs
/- Each call of the script, at both. -/
namespace Go.Proofs.Abs
open Go
set_option linter.unusedVariables false
set_option linter.unusedSimpArgs false
section
variable {N M : Nat} {c : T_emit_Code} {w : T_ref17_Code} {i o : Nat}
def Pairs (F : Heap → Option (Heap × T_ref17_Code)) (i o : Nat) (c : T_emit_Code) (M : Nat) : Prop :=
  ∃ c' w', ER M c' w' ∧ c.pads_.length ≤ c'.pads_.length ∧ ∀ H, get_emit_Code H i o = some c → ∃ H', F H = some (H', w') ∧ get_emit_Code H' i o = some c'
theorem Both.bind {f1 f2 g1 g2} (B : Both f1 g1 i o c N) (k : ∀ c' w', ER N c' w' → c.pads_.length ≤ c'.pads_.length → Both f2 (g2 w') i o c' M) : Both (fun H => bind1 (f1 H) f2) (bind1 g1 g2) i o c M := by
  obtain ⟨c1, w1, h1, h2, h3, h4⟩ := B
  obtain ⟨c2, w2, k1, k2, k3, k4⟩ := k c1 w1 h2 h3
  refine ⟨c2, w2, by rw [h1, bind1_some]; exact k1, k2, Nat.le_trans h3 k3, fun H h => ?_⟩
  obtain ⟨H1, e1, e2⟩ := h4 H h
  obtain ⟨H2, e3, e4⟩ := k4 H1 e2
  exact ⟨H2, by show bind1 (f1 H) f2 = _; rw [e1, bind1_some]; exact e3, e4⟩
theorem Both.eq {f f' : Heap → Option Heap} {g g' : Option T_ref17_Code} (B : Both f g i o c M) (h1 : ∀ H, get_emit_Code H i o = some c → f' H = f H) (h2 : g' = g) : Both f' g' i o c M := by
  obtain ⟨c', w', a, b, d, e⟩ := B
  refine ⟨c', w', by rw [h2]; exact a, b, d, fun H h => ?_⟩
  obtain ⟨H', k1, k2⟩ := e H h
  exact ⟨H', by rw [h1 H h]; exact k1, k2⟩
theorem Both.mono {f g} (B : Both f g i o c N) (h : N ≤ M) : Both f g i o c M := by
  obtain ⟨c', w', a, b, d, e⟩ := B
  exact ⟨c', w', a, b.mono h, d, e⟩
noncomputable def putF (i o : Nat) (x : T_instr_Instr) (H : Heap) : Option Heap := bind2 (emit_Code_Put H (.at i o) x) fun H' _ => some H'
theorem put_b (R : ER N c w) (hN : N ≤ 10000) (x : T_instr_Instr) : Both (putF i o x) (ref17_Put w (toI x)) i o c (N + 1) := by
  obtain ⟨c', w', h1, h2, h3, _, h5⟩ := put_both (i := i) (o := o) R hN x
  refine ⟨c', w', h1, h2, by rw [h3]; exact Nat.le_refl _, fun H h => ?_⟩
  obtain ⟨H', k1, k2⟩ := h5 H h
  exact ⟨H', by unfold putF; rw [k1, bind2_some], k2⟩
theorem put2_b (R : ER N c w) (hN : N ≤ 9000) (x y : T_instr_Instr) : Both (fun H => bind1 (putF i o x H) (putF i o y)) (bind1 (ref17_Put w (toI x)) fun r => ref17_Put r (toI y)) i o c (N + 2) :=
  (put_b R (by omega) x).bind fun c' w' R' _ => put_b R' (by omega) y
theorem b2_put {β : Type} {x : T_instr_Instr} {H : Heap} {k : Heap → Option β} : (bind2 (emit_Code_Put H (.at i o) x) fun H' _ => k H') = bind1 (putF i o x H) k := by
  unfold putF
  cases emit_Code_Put H (.at i o) x with
  | none => rfl
  | some q => rfl
theorem bind1_assoc {α β γ : Type} {q : Option α} {f : α → Option β} {g : β → Option γ} : bind1 (bind1 q f) g = bind1 q (fun x => bind1 (f x) g) := by cases q <;> rfl
theorem b1_some {α : Type} {q : Option α} : bind1 q (fun r => some r) = q := by cases q <;> rfl
theorem number_b (R : ER N c w) (hN : N ≤ 9000) (a n : Int) (n0 : -2147483648 ≤ n ∧ n ≤ 2147483647) : Both (fun H => emit_Code_Number H (.at i o) a n) (ref17_Number w a n) i o c (N + 2) := by
  have f := fitsN (n := n) 16 32768 (.inl ⟨rfl, rfl⟩)
  have wn : IntKind.wrap .i64 n = n := wrap_i64 _ (by omega) (by omega)
  by_cases k : -32768 ≤ n ∧ n < 32768
  · refine ((put_b R (by omega) ⟨2, a, 0, 0, n⟩).mono (Nat.le_succ _)).eq (fun H h => ?_) ?_
    · unfold emit_Code_Number
      rw [wn, f, decide_eq_true k, bind1_some, if_pos rfl]
      exact b2_put.trans b1_some
    · unfold ref17_Number
      rw [if_pos (by simp; omega), wn]; exact b1_some
  · obtain ⟨u, hu⟩ : ∃ u, u = IntKind.wrap .u32 n := ⟨_, rfl⟩
    have u0 : 0 ≤ u ∧ u < 4294967296 := by rw [hu, wrap_mod]; omega
    have e1 : IntKind.wrap .i64 (Int.fdiv u (2 ^ 16)) = u / 65536 := by
      rw [Int.fdiv_eq_ediv_of_nonneg _ (by decide)]
      have : (2 : Int) ^ 16 = 65536 := by decide
      rw [this, wrap_i64 _ (by omega) (by omega)]
    have e2 : IntKind.wrap .i64 (bitsOf .and .u32 u 65535) = u % 65536 := by rw [and_16 u u0.1 (by omega), wrap_i64 _ (by omega) (by omega)]
    have e3 : IntKind.wrap .i64 (Int.tdiv (IntKind.wrap .i64 u) 65536) = u / 65536 := by rw [wrap_i64 u (by omega) (by omega), tdiv_pos u0.1, wrap_i64 _ (by omega) (by omega)]
    have e4 : Int.tmod (IntKind.wrap .i64 u) 65536 = u % 65536 := by rw [wrap_i64 u (by omega) (by omega), tmod_pos u0.1]
    refine (put2_b R hN ⟨3, a, 0, 0, u / 65536⟩ ⟨4, a, a, 0, u % 65536⟩).eq (fun H h => ?_) ?_
    · unfold emit_Code_Number
      rw [wn, f, decide_eq_false k, bind1_some, if_neg (by simp), ← hu, e1, e2]
      have : ∀ H9, (bind2 (emit_Code_Put H9 (.at i o) ⟨4, a, a, 0, u % 65536⟩) fun H12 r10 => some H12) = putF i o ⟨4, a, a, 0, u % 65536⟩ H9 := fun _ => rfl
      simp only [this]
      exact b2_put
    · unfold ref17_Number
      rw [if_neg (by simp; omega), ← hu, e3, e4]
      show bind1 (ref17_Put w _) (fun r5 => bind1 (ref17_Put r5 _) fun r7 => some r7) = _
      simp only [b1_some]; rfl
theorem back_b (R : ER N c w) (hN : N ≤ 9000) (a : Int) (a0 : -1000 ≤ a ∧ a ≤ 1000) : Both (fun H => emit_Code_Back H (.at i o) 22 0 a) (bind1 (ref17_Put w ⟨22, 0, 0, 0, 0⟩) fun r21 => bind1 (ref17_Patch r21 (IntKind.wrap .i64 ((r21.L_.length : Int) - 1)) (IntKind.wrap .i64 (a - (r21.L_.length : Int)))) fun r23 => some r23) i o c (N + 1) := by
  obtain ⟨c1, w1, h1, h2, h3, h4, h5⟩ := put_both (i := i) (o := o) R (by omega) ⟨22, 0, 0, 0, 0⟩
  have l1 := h2.b1
  have ll := h2.len
  obtain ⟨c2, w2, k1, k2, k3, k4⟩ := patch_both (i := i) (o := o) h2 (by omega) (c.words_.length : Int) (a - (c1.words_.length : Int))
  refine ⟨c2, w2, ?_, k2, by rw [← h3]; exact k3, fun H h => ?_⟩
  · show bind1 (ref17_Put w (toI ⟨22, 0, 0, 0, 0⟩)) _ = _
    rw [h1, bind1_some, ll, wrap_i64 ((c1.words_.length : Int) - 1) (by omega) (by omega), wrap_i64 (a - (c1.words_.length : Int)) (by omega) (by omega), show ((c1.words_.length : Int) - 1) = (c.words_.length : Int) by omega, k1]; rfl
  · obtain ⟨H1, e1, e2⟩ := h5 H h
    obtain ⟨H2, e3, e4⟩ := k4 H1 e2
    refine ⟨H2, ?_, e4⟩
    show emit_Code_Back H (.at i o) 22 0 a = _
    unfold emit_Code_Back
    rw [e1, bind2_some, wrap_i64 (a - (c.words_.length : Int)) (by omega) (by omega), wrap_i64 (a - (c.words_.length : Int) - 1) (by omega) (by omega), show a - (c.words_.length : Int) - 1 = a - (c1.words_.length : Int) by omega]
    exact b1_some.trans e3
theorem fix_b (R : ER N c w) (hN : N ≤ 8000) (k a b d : Int) : Both (fun H => emit_Code_Fix H (.at i o) k a b d) (ref17_Fix w k a b d) i o c (N + 3) := by
  have l1 := R.b1
  have l2 := R.b2
  have ll := R.len
  obtain ⟨f, hf⟩ : ∃ f : List T_api_Fixup, f = c.fixups_ ++ [⟨(c.words_.length : Int), k, a, b⟩] := ⟨_, rfl⟩
  have R1 := R.mono (Nat.le_add_right N 1)
  have RF : ER (N + 1) ⟨c.words_, f, c.marks_, c.pads_, c.active_, c.depth_, c.most_, c.err_⟩ ⟨w.L_, w.G_, f, w.Pads_, w.Active_, w.Depth_, w.Most_, w.Err_⟩ :=
    ⟨R.wd, R.g, rfl, R.pd, R.ac, R.dp, R.mo, R.er, R.ms, R.ai, R1.b1, by rw [hf]; simp; omega, R1.b3, R1.b4, R1.b5, R1.b6, R1.b7⟩
  have st : Both (fun H => some (set_emit_Code H i o ⟨c.words_, f, c.marks_, c.pads_, c.active_, c.depth_, c.most_, c.err_⟩)) (some ⟨w.L_, w.G_, f, w.Pads_, w.Active_, w.Depth_, w.Most_, w.Err_⟩) i o c (N + 1) :=
    ⟨_, _, rfl, RF, Nat.le_refl _, fun H h => ⟨_, rfl, cod_set _ h⟩⟩
  have pf : ∀ H, get_emit_Code H i o = some c → emit_Code_Fix H (.at i o) k a b d = (if (k == 3) = true then putF i o ⟨23, 0, 0, 0, 0⟩ (set_emit_Code H i o ⟨c.words_, f, c.marks_, c.pads_, c.active_, c.depth_, c.most_, c.err_⟩) else bind1 (putF i o ⟨3, d, 0, 0, 0⟩ (set_emit_Code H i o ⟨c.words_, f, c.marks_, c.pads_, c.active_, c.depth_, c.most_, c.err_⟩)) (putF i o ⟨4, d, d, 0, 0⟩)) := fun H h => by
    unfold emit_Code_Fix
    rw [pbnd_at, h, bind1_some, app_some (by simp; omega), bind1_some, bnd_def, ← hf]
    split
    · rfl
    · exact b2_put
  have rf : ref17_Fix w k a b d = (if (k == 3) = true then ref17_Put ⟨w.L_, w.G_, f, w.Pads_, w.Active_, w.Depth_, w.Most_, w.Err_⟩ ⟨23, 0, 0, 0, 0⟩ else bind1 (ref17_Put ⟨w.L_, w.G_, f, w.Pads_, w.Active_, w.Depth_, w.Most_, w.Err_⟩ ⟨3, d, 0, 0, 0⟩) fun r => ref17_Put r ⟨4, d, d, 0, 0⟩) := by
    unfold ref17_Fix
    rw [← R.fx, app_some (by simp; omega), bind1_some, List.nil_append, app_some (by simp; omega), bind1_some, ll, ← hf]
    simp only [b1_some]
  have n1 : N + 1 ≤ 10000 := by omega
  by_cases k3 : (k == 3) = true
  · refine ((Both.bind (N := N + 1) st fun c' w' R' _ => (put_b (N := N + 1) R' n1 ⟨23, 0, 0, 0, 0⟩).mono (show N + 1 + 1 ≤ N + 3 by omega))).eq (fun H h => ?_) ?_
    · rw [pf H h, if_pos k3]; rfl
    · rw [rf, if_pos k3]; rfl
  · refine ((Both.bind (N := N + 1) st fun c' w' R' _ => (put2_b (N := N + 1) R' (by omega) ⟨3, d, 0, 0, 0⟩ ⟨4, d, d, 0, 0⟩))).eq (fun H h => ?_) ?_
    · rw [pf H h, if_neg k3]; rfl
    · rw [rf, if_neg k3]; rfl
theorem push_b (R : ER N c w) (hN : N ≤ 9000) (a : Int) : Both (fun H => emit_Code_Push H (.at i o) a) (ref17_Push w a) i o c (N + 3) := by
  have st : ∀ c' w', ER (N + 2) c' w' → Both (fun H => (Ptr.at i o).bnd fun i7 o8 =>
      bind1 (get_emit_Code H i7 o8) fun x10 =>
      bnd (set_emit_Code H i7 o8 (T_emit_Code.mk x10.words_ x10.fixups_ x10.marks_ x10.pads_ x10.active_ (IntKind.wrap .i64 (x10.depth_ + 1)) x10.most_ x10.err_)) fun H12 =>
      bnd (set_emit_Code H12 i7 o8 (T_emit_Code.mk x10.words_ x10.fixups_ x10.marks_ x10.pads_ x10.active_ (IntKind.wrap .i64 (x10.depth_ + 1)) (if (IntKind.wrap .i64 (x10.depth_ + 1)) > x10.most_ then (IntKind.wrap .i64 (x10.depth_ + 1)) else x10.most_) x10.err_)) fun H15 =>
      some H15) (some (T_ref17_Code.mk w'.L_ w'.G_ w'.Fixups_ w'.Pads_ w'.Active_ (IntKind.wrap .i64 (w'.Depth_ + 1)) (if (IntKind.wrap .i64 (w'.Depth_ + 1)) > w'.Most_ then (IntKind.wrap .i64 (w'.Depth_ + 1)) else w'.Most_) w'.Err_)) i o c' (N + 3) := fun c' w' R' => by
    have b6 := R'.b6
    have b7 := R'.b7
    have R1 := R'.mono (Nat.le_add_right (N + 2) 1)
    have e : IntKind.wrap .i64 (c'.depth_ + 1) = c'.depth_ + 1 := wrap_i64 _ (by omega) (by omega)
    refine ⟨⟨c'.words_, c'.fixups_, c'.marks_, c'.pads_, c'.active_, c'.depth_ + 1, if c'.depth_ + 1 > c'.most_ then c'.depth_ + 1 else c'.most_, c'.err_⟩, _, rfl, ?_, Nat.le_refl _, fun H h => ?_⟩
    · rw [← R'.dp, ← R'.mo, e]
      exact ⟨R'.wd, R'.g, R'.fx, R'.pd, R'.ac, rfl, rfl, R'.er, R'.ms, R'.ai, R1.b1, R1.b2, R1.b3, R1.b4, R1.b5, ⟨by show 0 ≤ c'.depth_ + 1; omega, by show c'.depth_ + 1 ≤ _; omega⟩, ⟨by show 0 ≤ if c'.depth_ + 1 > c'.most_ then c'.depth_ + 1 else c'.most_; split <;> omega, by show (if c'.depth_ + 1 > c'.most_ then c'.depth_ + 1 else c'.most_) ≤ ((N + 3 : Nat) : Int); split <;> omega⟩⟩
    · show ∃ H', (bind1 (get_emit_Code H i o) _) = _ ∧ _
      rw [h, bind1_some, e]
      have h2 := cod_set ⟨c'.words_, c'.fixups_, c'.marks_, c'.pads_, c'.active_, c'.depth_ + 1, c'.most_, c'.err_⟩ h
      exact ⟨_, rfl, cod_set _ h2⟩
  refine ((put2_b R hN ⟨5, 15, 15, 0, -4⟩ ⟨19, a, 15, 0, 0⟩).bind fun c' w' R' _ => st c' w' R').eq (fun H h => ?_) ?_
  · unfold emit_Code_Push emit_Code_Sign
    show _ = bind1 (bind1 (putF i o _ H) (putF i o _)) _
    unfold putF
    cases emit_Code_Put H (.at i o) ⟨5, 15, 15, 0, -4⟩ with
    | none => rfl
    | some q =>
      show bind2 (bind2 (emit_Code_Put q.1 (.at i o) ⟨19, a, 15, 0, 0⟩) _) _ = bind1 (bind2 (emit_Code_Put q.1 (.at i o) ⟨19, a, 15, 0, 0⟩) _) _
      cases emit_Code_Put q.1 (.at i o) ⟨19, a, 15, 0, 0⟩ with
      | none => rfl
      | some q => rfl
  · unfold ref17_Push
    rw [bind1_assoc]; rfl
theorem drop_b (R : ER N c w) (hN : N ≤ 9000) (n : Int) (n0 : 0 ≤ n ∧ n ≤ 100) : Both (fun H => emit_Code_Drop H (.at i o) n) (some (T_ref17_Code.mk w.L_ w.G_ w.Fixups_ w.Pads_ w.Active_ (if (IntKind.wrap .i64 (w.Depth_ - n)) > 0 then (IntKind.wrap .i64 (w.Depth_ - n)) else 0) w.Most_ w.Err_)) i o c N := by
  have b6 := R.b6
  have e : IntKind.wrap .i64 (c.depth_ - n) = c.depth_ - n := wrap_i64 _ (by omega) (by omega)
  refine ⟨⟨c.words_, c.fixups_, c.marks_, c.pads_, c.active_, if c.depth_ - n > 0 then c.depth_ - n else 0, c.most_, c.err_⟩, _, rfl, ?_, Nat.le_refl _, fun H h => ?_⟩
  · rw [← R.dp, e]
    exact ⟨R.wd, R.g, R.fx, R.pd, R.ac, rfl, R.mo, R.er, R.ms, R.ai, R.b1, R.b2, R.b3, R.b4, R.b5, ⟨by show 0 ≤ if c.depth_ - n > 0 then c.depth_ - n else 0; split <;> omega, by show (if c.depth_ - n > 0 then c.depth_ - n else 0) ≤ (N : Int); split <;> omega⟩, R.b7⟩
  · show ∃ H', emit_Code_Drop H (.at i o) n = _ ∧ _
    unfold emit_Code_Drop
    rw [pbnd_at, h, bind1_some, e, bnd_def]
    exact ⟨_, rfl, cod_set _ h⟩
theorem pop_b (R : ER N c w) (hN : N ≤ 8000) (a : Int) : Both (fun H => emit_Code_Pop H (.at i o) a) (ref17_Pop w a) i o c (N + 2) := by
  refine ((put2_b R (by omega) ⟨18, a, 15, 0, 0⟩ ⟨5, 15, 15, 0, 4⟩).bind fun c' w' R' _ => drop_b R' (by omega) 1 (by omega)).eq (fun H h => ?_) ?_
  · unfold emit_Code_Pop emit_Code_Sign
    show _ = bind1 (bind1 (putF i o _ H) (putF i o _)) _
    unfold putF
    cases emit_Code_Put H (.at i o) ⟨18, a, 15, 0, 0⟩ with
    | none => rfl
    | some q =>
      show bind2 (bind2 (emit_Code_Put q.1 (.at i o) ⟨5, 15, 15, 0, 4⟩) _) _ = bind1 (bind2 (emit_Code_Put q.1 (.at i o) ⟨5, 15, 15, 0, 4⟩) _) _
      cases emit_Code_Put q.1 (.at i o) ⟨5, 15, 15, 0, 4⟩ with
      | none => rfl
      | some q => exact b1_some
  · unfold ref17_Pop
    rw [bind1_assoc]; rfl
end
end Go.Proofs.Abs
/- Each call of the script, at both: guards, pads; a whole call. -/
namespace Go.Proofs.Abs
open Go
set_option linter.unusedVariables false
set_option linter.unusedSimpArgs false
section
variable {N M : Nat} {c : T_emit_Code} {w : T_ref17_Code} {i o : Nat}
def DoesC (F : Heap → Option (Heap × T_ref17_Code)) (i o : Nat) (c : T_emit_Code) (M : Nat) : Prop :=
  ∀ H, get_emit_Code H i o = some c → ∃ H' c' w', F H = some (H', w') ∧ get_emit_Code H' i o = some c' ∧ ER M c' w' ∧ c.pads_.length ≤ c'.pads_.length
theorem Both.does {f g} (B : Both f g i o c N) {F : Heap → Option (Heap × T_ref17_Code)} (hM : N ≤ M) (hF : ∀ H, get_emit_Code H i o = some c → F H = bind1 (f H) fun H1 => bind1 g fun r => some (H1, r)) : DoesC F i o c M := fun H h => by
  obtain ⟨c', w', h1, h2, h3, h4⟩ := B
  obtain ⟨H', k1, k2⟩ := h4 H h
  exact ⟨H', c', w', by rw [hF H h, k1, bind1_some, h1, bind1_some], k2, h2.mono hM, h3⟩
/-- a mark with a pad that is there, at the code -/
theorem marked (R : ER N c w) (hN : N ≤ 9000) {a p : Int} (hp : p = -1 ∨ 0 ≤ p ∧ p < c.pads_.length) {H : Heap} (h : get_emit_Code H i o = some c) : ∃ H' l', ranges_Builder_Mark H (.at i (o + 2)) a p = some H' ∧ get_emit_Code H' i o = some (withM c l') ∧ ER (N + 1) (withM c l') w := by
  obtain ⟨H', l', e1, e2, e3, e4⟩ := mark_code h (by have := R.b3; omega) a p
  have R1 := R.mono (Nat.le_add_right N 1)
  have b3 := R.b3
  refine ⟨H', l', e1, e4, ⟨R.wd, R.g, R.fx, R.pd, R.ac, R.dp, R.mo, R.er, fun s hs => ?_, R.ai, R1.b1, R1.b2, by show l'.length ≤ _; omega, R1.b4, R1.b5, R1.b6, R1.b7⟩⟩
  rcases e3 s hs with h | h
  · exact R.ms s h
  · rw [h]; exact hp
theorem now_code (R : ER N c w) (hN : N ≤ 9000) {H : Heap} (h : get_emit_Code H i o = some c) : ∃ v, emit_Code_now H (.at i o) = some v ∧ (v = -1 ∨ 0 ≤ v ∧ v < c.pads_.length) := by
  have b5 := R.b5
  unfold emit_Code_now
  rw [pbnd_at, h, bind1_some]
  by_cases k : (c.active_.length : Int) = 0
  · rw [if_pos (by simpa using k)]; exact ⟨_, rfl, .inl rfl⟩
  · rw [if_neg (by simpa using k), wrap_i64 _ (by omega) (by omega), gi_some (by omega) (by omega)]
    exact ⟨_, rfl, .inr (R.ai _ (List.getElem_mem _))⟩
/-- other pads count -/
def withA (c : T_emit_Code) (l : List Int) : T_emit_Code := ⟨c.words_, c.fixups_, c.marks_, c.pads_, l, c.depth_, c.most_, c.err_⟩
def withW (w : T_ref17_Code) (l : List Int) : T_ref17_Code := ⟨w.L_, w.G_, w.Fixups_, w.Pads_, l, w.Depth_, w.Most_, w.Err_⟩
theorem ER.act (R : ER N c w) {l : List Int} (hl : l.length ≤ N) (ha : ∀ a ∈ l, 0 ≤ a ∧ a < c.pads_.length) : ER N (withA c l) (withW w l) :=
  ⟨R.wd, R.g, R.fx, R.pd, rfl, R.dp, R.mo, R.er, R.ms, ha, R.b1, R.b2, R.b3, R.b4, hl, R.b6, R.b7⟩
/-- other pads count, and what counts is marked -/
theorem show_code (R : ER N c w) (hN : N ≤ 8000) {l : List Int} (hl : l.length ≤ N) (ha : ∀ a ∈ l, 0 ≤ a ∧ a < c.pads_.length) {H : Heap} (h : get_emit_Code H i o = some c) : ∃ H' c', (bind1 (emit_Code_now (set_emit_Code H i o (withA c l)) (.at i o)) fun r => bind1 (ranges_Builder_Mark (set_emit_Code H i o (withA c l)) (.at i (o + 2)) (c.words_.length : Int) r) fun H12 => some H12) = some H' ∧ get_emit_Code H' i o = some c' ∧ ER (N + 1) c' (withW w l) ∧ c'.pads_ = c.pads_ := by
  have R1 := R.act hl ha
  have h1 : get_emit_Code (set_emit_Code H i o (withA c l)) i o = some (withA c l) := cod_set _ h
  obtain ⟨v, e1, e2⟩ := now_code R1 (by omega) h1
  obtain ⟨H', l', e3, e4, e5⟩ := marked R1 (by omega) (a := (c.words_.length : Int)) e2 h1
  exact ⟨H', _, by rw [e1, bind1_some, e3]; rfl, e4, e5, rfl⟩
theorem hide_code (R : ER N c w) (hN : N ≤ 8000) {H : Heap} (h : get_emit_Code H i o = some c) : ∃ H' c', emit_Code_Hide H (.at i o) = some (H', c.active_) ∧ get_emit_Code H' i o = some c' ∧ ER (N + 1) c' (withW w []) ∧ c'.pads_ = c.pads_ := by
  have R1 := R.act (l := []) (by simp) (fun a ha => by cases ha)
  have h1 : get_emit_Code (set_emit_Code H i o (withA c [])) i o = some (withA c []) := cod_set _ h
  obtain ⟨H', l', e3, e4, e5⟩ := marked R1 (by omega) (a := (c.words_.length : Int)) (.inl rfl) h1
  refine ⟨H', _, ?_, e4, e5, rfl⟩
  unfold emit_Code_Hide
  rw [pbnd_at, h, bind1_some, bnd_def]
  show bind1 (ranges_Builder_Mark (set_emit_Code H i o (withA c [])) _ _ _) _ = _
  rw [e3]; rfl
theorem shown (R : ER N c w) (hN : N ≤ 8000) {l : List Int} (hl : l.length ≤ N) (ha : ∀ a ∈ l, 0 ≤ a ∧ a < c.pads_.length) {H : Heap} (h : get_emit_Code H i o = some c) : ∃ H' c', emit_Code_Show H (.at i o) l = some H' ∧ get_emit_Code H' i o = some c' ∧ ER (N + 1) c' (withW w l) ∧ c'.pads_ = c.pads_ := by
  obtain ⟨H', c', e1, e2, e3, e4⟩ := show_code R hN hl ha h
  refine ⟨H', c', ?_, e2, e3, e4⟩
  unfold emit_Code_Show
  rw [pbnd_at, h, bind1_some, bnd_def]
  exact e1
theorem writes_does (R : ER N c w) (hN : N ≤ 7000) (op : T_law17_Op) (ho : -1000 ≤ op.A_ ∧ op.A_ ≤ 1000) : DoesC (fun H => law17_writes H (.at i o) w op) i o c (N + 3) := by
  by_cases k0 : op.Kind_ = 0
  · refine (put_b R (by omega) op.I_).does (by omega) fun H h => ?_
    show law17_writes H (.at i o) w op = _
    unfold law17_writes
    rw [if_pos (by simpa using k0)]
    exact b2_put (k := fun H4 => bind1 (ref17_Put w (toI op.I_)) fun r => some (H4, r))
  by_cases k1 : op.Kind_ = 1
  · have r : -2147483648 ≤ IntKind.wrap .i32 op.N_ ∧ IntKind.wrap .i32 op.N_ ≤ 2147483647 := by rw [wrap_i32_mod]; omega
    refine (number_b R (by omega) op.A_ (IntKind.wrap .i32 op.N_) r).does (by omega) fun H h => ?_
    show law17_writes H (.at i o) w op = _
    unfold law17_writes
    rw [if_neg (by simpa using k0), if_pos (by simpa using k1)]
  by_cases k2 : op.Kind_ = 2
  · refine (put_b R (by omega) ⟨22, 0, 0, 0, 0⟩).does (by omega) fun H h => ?_
    show law17_writes H (.at i o) w op = _
    unfold law17_writes emit_Code_Jump
    rw [if_neg (by simpa using k0), if_neg (by simpa using k1), if_pos (by simpa using k2)]
    unfold putF
    cases emit_Code_Put H (.at i o) ⟨22, 0, 0, 0, 0⟩ with
    | none => rfl
    | some q => rfl
  by_cases k4 : op.Kind_ = 4
  · refine (back_b R (by omega) op.A_ ho).does (by omega) fun H h => ?_
    show law17_writes H (.at i o) w op = _
    unfold law17_writes
    rw [if_neg (by simpa using k0), if_neg (by simpa using k1), if_neg (by simpa using k2), if_pos (by simpa using k4)]
    congr 1; funext H20
    rw [bind1_assoc]
    congr 1; funext r21
    rw [bind1_assoc]; rfl
  by_cases k6 : op.Kind_ = 6
  · refine (fix_b R (by omega) op.N_ op.A_ op.B_ op.C_).does (by omega) fun H h => ?_
    show law17_writes H (.at i o) w op = _
    unfold law17_writes
    rw [if_neg (by simpa using k0), if_neg (by simpa using k1), if_neg (by simpa using k2), if_neg (by simpa using k4), if_pos (by simpa using k6)]
  by_cases k7 : op.Kind_ = 7
  · refine (push_b R (by omega) op.A_).does (by omega) fun H h => ?_
    show law17_writes H (.at i o) w op = _
    unfold law17_writes
    rw [if_neg (by simpa using k0), if_neg (by simpa using k1), if_neg (by simpa using k2), if_neg (by simpa using k4), if_neg (by simpa using k6), if_pos (by simpa using k7)]
  by_cases k8 : op.Kind_ = 8
  · refine (pop_b R (by omega) op.A_).does (by omega) fun H h => ?_
    show law17_writes H (.at i o) w op = _
    unfold law17_writes
    rw [if_neg (by simpa using k0), if_neg (by simpa using k1), if_neg (by simpa using k2), if_neg (by simpa using k4), if_neg (by simpa using k6), if_neg (by simpa using k7), if_pos (by simpa using k8)]
  intro H h
  refine ⟨H, c, w, ?_, h, R.mono (by omega), Nat.le_refl _⟩
  show law17_writes H (.at i o) w op = _
  unfold law17_writes
  rw [if_neg (by simpa using k0), if_neg (by simpa using k1), if_neg (by simpa using k2), if_neg (by simpa using k4), if_neg (by simpa using k6), if_neg (by simpa using k7), if_neg (by simpa using k8)]
theorem others_does (R : ER N c w) (hN : N ≤ 7000) (op : T_law17_Op) (ho : -1000 ≤ op.A_ ∧ op.A_ ≤ 1000) : DoesC (fun H => law17_others H (.at i o) w op) i o c (N + 3) := by
  have l1 := R.b1
  have ll := R.len
  by_cases k3 : op.Kind_ = 3
  · refine (patch_both R (by omega) op.A_ ((c.words_.length : Int) - op.A_ - 1)).does (by omega) fun H h => ?_
    show law17_others H (.at i o) w op = _
    unfold law17_others emit_Code_Land
    rw [if_pos (by simpa using k3), here_spec h, bind1_some, ll, wrap_i64 ((c.words_.length : Int) - op.A_) (by omega) (by omega), wrap_i64 ((c.words_.length : Int) - op.A_ - 1) (by omega) (by omega), b1_some]
  by_cases k5 : op.Kind_ = 5
  · refine (patch_both R (by omega) op.A_ op.B_).does (by omega) fun H h => ?_
    show law17_others H (.at i o) w op = _
    unfold law17_others emit_Code_Patch
    rw [if_neg (by simpa using k3), if_pos (by simpa using k5), b1_some]
  by_cases k9 : op.Kind_ = 9
  · obtain ⟨n, hn⟩ : ∃ n : Int, n = (if 100 < (if 0 > op.N_ then 0 else op.N_) then 100 else (if 0 > op.N_ then 0 else op.N_)) := ⟨_, rfl⟩
    have n0 : 0 ≤ n ∧ n ≤ 100 := by rw [hn]; split <;> split <;> omega
    refine (drop_b R (by omega) n n0).does (by omega) fun H h => ?_
    show law17_others H (.at i o) w op = _
    unfold law17_others law17_others_j1
    rw [if_neg (by simpa using k3), if_neg (by simpa using k5), if_pos (by simpa using k9), ← hn]; rfl
  by_cases k10 : op.Kind_ = 10
  · intro H h
    have b4 := R.b4
    have R1 := R.mono (Nat.le_add_right N 1)
    have RN : ER (N + 1) ⟨c.words_, c.fixups_, c.marks_, c.pads_ ++ [-1], c.active_, c.depth_, c.most_, c.err_⟩ ⟨w.L_, w.G_, w.Fixups_, w.Pads_ ++ [-1], w.Active_, w.Depth_, w.Most_, w.Err_⟩ := by
      refine ⟨R.wd, R.g, R.fx, by show c.pads_ ++ _ = _; rw [R.pd], R.ac, R.dp, R.mo, R.er, fun s hs => ?_, fun a ha => ?_, R1.b1, R1.b2, R1.b3, by show (c.pads_ ++ [-1]).length ≤ _; simp; omega, R1.b5, R1.b6, R1.b7⟩
      · show _ ∨ _ ∧ s.Pad_ < ((c.pads_ ++ [-1]).length : Int)
        rcases R.ms s hs with h | h
        · exact .inl h
        · exact .inr ⟨h.1, by simp; omega⟩
      · show _ ∧ a < ((c.pads_ ++ [-1]).length : Int)
        have := R.ai a ha
        exact ⟨this.1, by simp; omega⟩
    refine ⟨_, _, _, ?_, cod_set _ h, RN.mono (by omega), by show _ ≤ (c.pads_ ++ [-1]).length; simp⟩
    show law17_others H (.at i o) w op = _
    unfold law17_others emit_Code_Pad law17_others_j2 law17_others_j1
    rw [if_neg (by simpa using k3), if_neg (by simpa using k5), if_neg (by simpa using k9), if_pos (by simpa using k10), pbnd_at, h, bind1_some, app_some (by simp; omega), bind1_some, bnd_def, bind2_some, ← R.pd, app_some (by simp; omega), bind1_some, List.nil_append, app_some (by simp; omega), bind1_some]
  by_cases k11 : op.Kind_ = 11
  · intro H h
    by_cases q : 0 ≤ op.A_ ∧ op.A_ < c.pads_.length
    · have b5 := R.b5
      have R1 := (R.mono (Nat.le_add_right N 1)).act (l := c.active_ ++ [op.A_]) (by simp; omega) (fun a ha => by
        rcases List.mem_append.1 ha with k | k
        · exact R.ai a k
        · rw [List.mem_singleton.1 k]; exact q)
      have h1 : get_emit_Code (set_emit_Code H i o (withA c (c.active_ ++ [op.A_]))) i o = some (withA c (c.active_ ++ [op.A_])) := cod_set _ h
      obtain ⟨H', l', e3, e4, e5⟩ := marked R1 (by omega) (a := (c.words_.length : Int)) (p := op.A_) (.inr q) h1
      refine ⟨H', _, _, ?_, e4, e5.mono (by omega), Nat.le_refl _⟩
      show law17_others H (.at i o) w op = _
      unfold law17_others emit_Code_Guard law17_others_j4 law17_others_j3 law17_others_j2 law17_others_j1
      rw [if_neg (by simpa using k3), if_neg (by simpa using k5), if_neg (by simpa using k9), if_neg (by simpa using k10), if_pos (by simpa using k11), if_pos (by rw [← R.pd]; simp; omega), pbnd_at, h, bind1_some, app_some (by simp; omega), bind1_some, bnd_def]
      show bind1 (bind1 (ranges_Builder_Mark (set_emit_Code H i o (withA c (c.active_ ++ [op.A_]))) _ _ _) _) _ = _
      rw [e3, bind1_some, bind1_some, ← R.ac, app_some (by simp; omega), bind1_some, List.nil_append, app_some (by simp; omega), bind1_some]; rfl
    · refine ⟨H, c, w, ?_, h, R.mono (by omega), Nat.le_refl _⟩
      show law17_others H (.at i o) w op = _
      unfold law17_others law17_others_j4 law17_others_j3 law17_others_j2 law17_others_j1
      rw [if_neg (by simpa using k3), if_neg (by simpa using k5), if_neg (by simpa using k9), if_neg (by simpa using k10), if_pos (by simpa using k11), if_neg (by rw [← R.pd]; simp; omega)]
  by_cases k12 : op.Kind_ = 12
  · intro H h
    have b5 := R.b5
    by_cases q : c.active_.length = 0
    · have e : c.active_ = [] := List.length_eq_zero_iff.1 q
      refine ⟨H, c, withW w [], ?_, h, ?_, Nat.le_refl _⟩
      · show law17_others H (.at i o) w op = _
        unfold law17_others emit_Code_Unguard law17_others_j5 law17_others_j3 law17_others_j2 law17_others_j1
        rw [if_neg (by simpa using k3), if_neg (by simpa using k5), if_neg (by simpa using k9), if_neg (by simpa using k10), if_neg (by simpa using k11), if_pos (by simpa using k12), pbnd_at, h, bind1_some, if_neg (by simp; omega), bind1_some, ← R.ac, e]; rfl
      · have R2 := (R.mono (Nat.le_add_right N 3)).act (l := []) (by simp) (fun a ha => by cases ha)
        have : withA c [] = c := by rw [← e]; rfl
        rw [this] at R2; exact R2
    · have hc : cut c.active_ 0 ((c.active_.length : Int) - 1) = some (c.active_.take (c.active_.length - 1)) := by
        unfold cut
        rw [if_pos ⟨by omega, by omega, by omega⟩]
        simp
      obtain ⟨H', c', e1, e2, e3, e4⟩ := show_code R (by omega) (l := c.active_.take (c.active_.length - 1)) (by simp <;> omega) (fun a ha => R.ai a (List.mem_of_mem_take ha)) h
      refine ⟨H', c', _, ?_, e2, e3.mono (by omega), by rw [e4]; exact Nat.le_refl _⟩
      show law17_others H (.at i o) w op = _
      unfold law17_others emit_Code_Unguard law17_others_j5 law17_others_j3 law17_others_j2 law17_others_j1
      rw [if_neg (by simpa using k3), if_neg (by simpa using k5), if_neg (by simpa using k9), if_neg (by simpa using k10), if_neg (by simpa using k11), if_pos (by simpa using k12), pbnd_at, h, bind1_some, if_pos (by simp; omega), wrap_i64 ((c.active_.length : Int) - 1) (by omega) (by omega), hc, bind1_some, ne_of (fun e => q (by rw [e]; rfl)), bind1_some, bnd_def]
      show bind1 (bind1 (emit_Code_now (set_emit_Code H i o (withA c (c.active_.take (c.active_.length - 1)))) (.at i o)) fun r13 => bind1 (ranges_Builder_Mark (set_emit_Code H i o (withA c (c.active_.take (c.active_.length - 1)))) (.at i (o + 2)) (c.words_.length : Int) r13) fun H16 => some H16) _ = _
      rw [show (bind1 (emit_Code_now (set_emit_Code H i o (withA c (c.active_.take (c.active_.length - 1)))) (.at i o)) fun r13 => bind1 (ranges_Builder_Mark (set_emit_Code H i o (withA c (c.active_.take (c.active_.length - 1)))) (.at i (o + 2)) (c.words_.length : Int) r13) fun H16 => some H16) = some H' from e1, bind1_some, ← R.ac, wrap_i64 ((c.active_.length : Int) - 1) (by omega) (by omega)]
      have : (if (c.active_.length : Int) - 1 > 0 then (c.active_.length : Int) - 1 else 0) = (c.active_.length : Int) - 1 := by split <;> omega
      rw [this, hc, bind1_some]; rfl
  by_cases k13 : op.Kind_ = 13
  · intro H h
    by_cases q : 0 ≤ op.A_ ∧ op.A_ < c.pads_.length
    · have b4 := R.b4
      have RN : ER N ⟨c.words_, c.fixups_, c.marks_, c.pads_.set op.A_.toNat (c.words_.length : Int), c.active_, c.depth_, c.most_, c.err_⟩ ⟨w.L_, w.G_, w.Fixups_, w.Pads_.set op.A_.toNat (w.L_.length : Int), w.Active_, w.Depth_, w.Most_, w.Err_⟩ := by
        refine ⟨R.wd, R.g, R.fx, by show c.pads_.set _ _ = _; rw [R.pd, ll], R.ac, R.dp, R.mo, R.er, fun s hs => ?_, fun a ha => ?_, R.b1, R.b2, R.b3, by show (c.pads_.set _ _).length ≤ _; simpa using b4, R.b5, R.b6, R.b7⟩
        · show _ ∨ _ ∧ s.Pad_ < ((c.pads_.set op.A_.toNat (c.words_.length : Int)).length : Int)
          rw [List.length_set]; exact R.ms s hs
        · show _ ∧ a < ((c.pads_.set op.A_.toNat (c.words_.length : Int)).length : Int)
          rw [List.length_set]; exact R.ai a ha
      refine ⟨_, _, _, ?_, cod_set _ h, RN.mono (by omega), by show _ ≤ (c.pads_.set _ _).length; simp⟩
      show law17_others H (.at i o) w op = _
      unfold law17_others emit_Code_Set law17_others_j6 law17_others_j5 law17_others_j3 law17_others_j2 law17_others_j1
      rw [if_neg (by simpa using k3), if_neg (by simpa using k5), if_neg (by simpa using k9), if_neg (by simpa using k10), if_neg (by simpa using k11), if_neg (by simpa using k12), if_pos (by simpa using k13), if_pos (by simpa using q.1), pbnd_at, h, bind1_some, bind2_some, if_pos (by simpa using q.2), pbnd_at, h, bind1_some, gi_some q.1 q.2, bind1_some, si_some q.1 q.2, bind1_some, bnd_def, bind1_some, if_pos (by rw [← R.pd]; simp; omega), ← R.pd, app_some (by simp; omega), bind1_some, List.nil_append, gi_some q.1 q.2, bind1_some, si_some q.1 q.2, bind1_some]
    · refine ⟨H, c, w, ?_, h, R.mono (by omega), Nat.le_refl _⟩
      have e : emit_Code_Set H (.at i o) op.A_ = some H := by
        unfold emit_Code_Set
        by_cases q0 : 0 ≤ op.A_
        · rw [if_pos (by simpa using q0), pbnd_at, h, bind1_some, bind2_some, if_neg (by simp; omega)]
        · rw [if_neg (by simpa using q0), bind2_some, if_neg (by simp)]
      show law17_others H (.at i o) w op = _
      unfold law17_others law17_others_j6 law17_others_j5 law17_others_j3 law17_others_j2 law17_others_j1
      rw [if_neg (by simpa using k3), if_neg (by simpa using k5), if_neg (by simpa using k9), if_neg (by simpa using k10), if_neg (by simpa using k11), if_neg (by simpa using k12), if_pos (by simpa using k13), e, bind1_some, if_neg (by rw [← R.pd]; simp; omega)]
  by_cases k15 : op.Kind_ = 15
  · intro H h
    obtain ⟨H', e1, e2⟩ := fail_spec h (IntKind.wrap .i64 (1 + (bitsOf .and .i64 op.C_ 7)))
    refine ⟨H', _, _, ?_, e2, (R.fail _).mono (by omega), Nat.le_refl _⟩
    show law17_others H (.at i o) w op = _
    unfold law17_others
    rw [if_neg (by simpa using k3), if_neg (by simpa using k5), if_neg (by simpa using k9), if_neg (by simpa using k10), if_neg (by simpa using k11), if_neg (by simpa using k12), if_neg (by simpa using k13), if_pos (by simpa using k15), e1, bind1_some, fail_ref, bind1_some]
  intro H h
  refine ⟨H, c, w, ?_, h, R.mono (by omega), Nat.le_refl _⟩
  show law17_others H (.at i o) w op = _
  unfold law17_others
  rw [if_neg (by simpa using k3), if_neg (by simpa using k5), if_neg (by simpa using k9), if_neg (by simpa using k10), if_neg (by simpa using k11), if_neg (by simpa using k12), if_neg (by simpa using k13), if_neg (by simpa using k15)]
end
end Go.Proofs.Abs
/- What is ended: the words, the fixups; the document's words. -/
namespace Go.Proofs.Abs
open Go
set_option linter.unusedVariables false
set_option linter.unusedSimpArgs false
section
variable {N : Nat} {c : T_emit_Code} {w : T_ref17_Code} {i o : Nat}
theorem fin_loop {b : Nat} (R : ER N c w) (hN : N ≤ 9000) (hib : i ≠ b) : ∀ (n : Nat) (a : Int) (H : Heap) (l : List T_api_Segment), 0 ≤ a → a + n = c.marks_.list_.length → l.length ≤ a → get_emit_Code H i o = some c → get_ranges_Builder H b 0 = some ⟨l⟩ →
    ∃ H' l', loopO (fun (x : Int × Heap) => emit_Code_Finish_L1 c.marks_.list_ i o b x.1 x.2) (a, H) = some H' ∧ get_emit_Code H' i o = some c ∧ get_ranges_Builder H' b 0 = some ⟨l'⟩ ∧ l'.length ≤ N
  | 0, a, H, l, h0, h1, h2, hc, hb => by
    have b3 := R.b3
    refine ⟨H, l, loopO_out ?_, hc, hb, by omega⟩
    show emit_Code_Finish_L1 c.marks_.list_ i o b a H = _
    unfold emit_Code_Finish_L1
    rw [if_neg (by simp; omega)]
  | n + 1, a, H, l, h0, h1, h2, hc, hb => by
    have b3 := R.b3
    have b4 := R.b4
    have ha : a < c.marks_.list_.length := by omega
    obtain ⟨s, hs⟩ : ∃ s, s = c.marks_.list_[a.toNat]'(by omega) := ⟨_, rfl⟩
    have hm : s ∈ c.marks_.list_ := by rw [hs]; exact List.getElem_mem _
    have gs : gi c.marks_.list_ a = some s := by rw [gi_some h0 ha, hs]
    have go : ∀ p : Int, ∃ H1 l1, emit_Code_Finish_j2 H b a ⟨s.Start_, p⟩ = some (.inl (a + 1, H1)) ∧ get_emit_Code H1 i o = some c ∧ get_ranges_Builder H1 b 0 = some ⟨l1⟩ ∧ l1.length ≤ a + 1 := fun p => by
      obtain ⟨H1, l1, e1, e2, _, e4⟩ := mark_spec hb (by omega) s.Start_ p
      refine ⟨H1, l1, ?_, ?_, ?_, by omega⟩
      · unfold emit_Code_Finish_j2
        show bind1 (ranges_Builder_Mark H (.at b 0) s.Start_ p) _ = _
        rw [e1, bind1_some, wrap_i64 (a + 1) (by omega) (by omega)]
      · rcases e4 with ⟨rfl, _⟩ | rfl | ⟨l2, rfl⟩
        · exact hc
        · exact hgT_other cod_inj (Ne.symm hib) hc
        · exact hgT_other cod_inj (Ne.symm hib) (hgT_other cod_inj (Ne.symm hib) hc)
      · rcases e4 with ⟨rfl, rfl⟩ | rfl | ⟨l2, rfl⟩
        · exact hb
        · exact hgT_set bld_inj bld_len hb _
        · exact hgT_set bld_inj bld_len (hgT_set bld_inj bld_len hb _) _
    have e : emit_Code_Finish_L1 c.marks_.list_ i o b a H = some (.inr H) ∨ ∃ p, emit_Code_Finish_L1 c.marks_.list_ i o b a H = emit_Code_Finish_j2 H b a ⟨s.Start_, p⟩ := by
      unfold emit_Code_Finish_L1
      rw [if_pos (by simp; omega), gs, bind1_some, hc, bind1_some]
      split
      · exact .inl rfl
      · right
        split
        · rename_i hp
          have hp : s.Pad_ ≠ -1 := by simpa using hp
          have := (R.ms s hm).resolve_left hp
          rw [gi_some this.1 this.2, bind1_some]
          exact ⟨_, rfl⟩
        · exact ⟨s.Pad_, rfl⟩
    rcases e with e | ⟨p, e⟩
    · exact ⟨H, l, loopO_out e, hc, hb, by omega⟩
    · obtain ⟨H1, l1, k1, k2, k3, k4⟩ := go p
      obtain ⟨H2, l2, m1, m2⟩ := fin_loop R hN hib n (a + 1) H1 l1 (by omega) (by omega) k4 k2 k3
      exact ⟨H2, l2, (loopO_go (e.trans k1)).trans m1, m2⟩
theorem fin_ok (R : ER N c w) (hN : N ≤ 9000) {H : Heap} (h : get_emit_Code H i o = some c) (he : c.err_ = 0) : ∃ H' sg, emit_Code_Finish H (.at i o) = some (H', ⟨c.words_, c.fixups_, sg⟩, 0) := by
  have hi : i < H.length := hgT_lt h
  have b1 := R.b1
  have b2 := R.b2
  have b3 := R.b3
  obtain ⟨H1, hH1⟩ : ∃ H1, H1 = new_ranges_Builder H ⟨[]⟩ := ⟨_, rfl⟩
  have g1 : get_ranges_Builder H1 H.length 0 = some ⟨[]⟩ := by rw [hH1]; exact hgT_new bld_inj bld_len H _
  have c1 : get_emit_Code H1 i o = some c := by rw [hH1]; exact hgT_old cod_inj h
  have li : ∀ {H : Heap} {j q : Nat} {l : List T_api_Segment}, get_ranges_Builder H j q = some ⟨l⟩ → l.length ≤ 10000 → ranges_Builder_List H (.at j q) = some l := fun {H j q l} hb hl => by
    unfold ranges_Builder_List slices_Clone_api_Segment_api_Segment
    rw [pbnd_at, hb, bind1_some, app_some (by simp; omega), bind1_some, bind1_some]; rfl
  obtain ⟨H2, l2, k1, k2, k3, k4⟩ := fin_loop (b := H.length) R hN (by omega) c.marks_.list_.length 0 H1 [] (by omega) (by omega) (by simp) c1 g1
  refine ⟨H2, l2, ?_⟩
  unfold emit_Code_Finish
  rw [pbnd_at, h, bind1_some, if_neg (by simpa using he), bnd_def, bnd_def, ← hH1, c1, bind1_some, li (l := c.marks_.list_) (cod_marks c1) (by omega), bind1_some]
  show bind1 (loopO (fun (x : Int × Heap) => emit_Code_Finish_L1 c.marks_.list_ i o H.length x.1 x.2) (0, H1)) _ = _
  rw [k1, bind1_some, k2, bind1_some, app_some (by simp; omega), bind1_some, app_some (by simp; omega), bind1_some, li k3 (by omega), bind1_some]
  simp
theorem fin_err {H : Heap} (h : get_emit_Code H i o = some c) (he : c.err_ ≠ 0) : emit_Code_Finish H (.at i o) = some (H, ⟨[], [], []⟩, c.err_) := by
  unfold emit_Code_Finish
  rw [pbnd_at, h, bind1_some, if_pos (by simpa using he)]
theorem words_ok (R : ER N c w) (hN : N ≤ 9000) : ref17_Words w = some c.words_ := by
  obtain ⟨xs, h1, h2, h3⟩ := R.wd
  have b1 := R.b1
  have lx : xs.length ≤ N := by rw [h1] at b1; simpa using b1
  have loop : ∀ (n : Nat) (a : Int), 0 ≤ a → a + n = xs.length → loopO (fun (x : (List Int) × Int) => ref17_Words_L1 w x.1 x.2) ((xs.map wOf).take a.toNat, a) = some (xs.map wOf) := fun n => by
    induction n with
    | zero =>
      intro a h0 h4
      refine loopO_out ?_
      show ref17_Words_L1 w _ a = _
      unfold ref17_Words_L1
      rw [if_neg (by rw [h2]; simp; omega), List.take_of_length_le (by simp; omega)]
    | succ n ih =>
      intro a h0 h4
      have ha : a.toNat < xs.length := by omega
      obtain ⟨sh, rx⟩ := h3 (xs[a.toNat]) (List.getElem_mem _)
      have gl : gi w.L_ a = some (toI (xs[a.toNat])) := by
        rw [gi_some h0 (by rw [h2]; simp; omega)]; simp only [h2, List.getElem_map]
      have e : ref17_Words_L1 w ((xs.map wOf).take a.toNat) a = some (.inl ((xs.map wOf).take (a + 1).toNat, a + 1)) := by
        unfold ref17_Words_L1
        rw [if_pos (by rw [h2]; simp; omega), gl, bind1_some, (wOf_enc rx).2.1, bind2_some, app_some (by simp; omega), bind1_some, wrap_i64 (a + 1) (by omega) (by omega)]
        have e1 : (a + 1).toNat = a.toNat + 1 := by omega
        rw [e1, List.take_add_one]
        simp [ha]
      rw [loopO_go e]
      exact ih (a + 1) (by omega) (by omega)
  have := loop xs.length 0 (by omega) (by omega)
  unfold ref17_Words
  simp only [Int.toNat_zero, List.take_zero] at this
  rw [this, bind1_some, h1]
end
end Go.Proofs.Abs
/- Printed by gen (walk.py). -/
namespace Go.Proofs.Abs
open Go Go.Proofs
set_option linter.unusedVariables false
set_option maxRecDepth 100000
set_option maxHeartbeats 0
def wf_instr_Instr (x : T_instr_Instr) : Prop := (fun n => (Lit.int .i64 n).wf = true) x.Op_ ∧ (fun n => (Lit.int .i64 n).wf = true) x.A_ ∧ (fun n => (Lit.int .i64 n).wf = true) x.B_ ∧ (fun n => (Lit.int .i64 n).wf = true) x.C_ ∧ (fun n => (Lit.int .i64 n).wf = true) x.Imm_
theorem opens_instr_Instr : Opens Try.prog 50 e_instr_Instr wf_instr_Instr := fun H enc w fuel cs x h => by
  obtain ⟨xs, n, _, _, hl, hxl, hp⟩ := DataW.trod_struct Try.underlying50 h
  have hl : cs.length = 5 := by rw [hl]; kernel_rfl
  obtain ⟨a0, w0, r0⟩ := part_of (i := 0) rfl hxl hp (opens_int Try.underlying3)
  obtain ⟨a1, w1, r1⟩ := part_of (i := 1) rfl hxl hp (opens_int Try.underlying3)
  obtain ⟨a2, w2, r2⟩ := part_of (i := 2) rfl hxl hp (opens_int Try.underlying3)
  obtain ⟨a3, w3, r3⟩ := part_of (i := 3) rfl hxl hp (opens_int Try.underlying3)
  obtain ⟨a4, w4, r4⟩ := part_of (i := 4) rfl hxl hp (opens_int Try.underlying3)
  exact ⟨⟨a0, a1, a2, a3, a4⟩, ⟨w0, w1, w2, w3, w4⟩, (reads_step (o := 0) (z := 1) r0 (reads_step (o := 1) (z := 1) r1 (reads_step (o := 2) (z := 1) r2 (reads_step (o := 3) (z := 1) r3 (reads_step (o := 4) (z := 1) r4 (reads_end (o := 5) (by rw [hl]; exact Nat.le_refl _)))))))⟩
def wf_law17_Op (x : T_law17_Op) : Prop := (fun n => (Lit.int .i64 n).wf = true) x.Kind_ ∧ wf_instr_Instr x.I_ ∧ (fun n => (Lit.int .i64 n).wf = true) x.N_ ∧ (fun n => (Lit.int .i64 n).wf = true) x.A_ ∧ (fun n => (Lit.int .i64 n).wf = true) x.B_ ∧ (fun n => (Lit.int .i64 n).wf = true) x.C_
theorem opens_law17_Op : Opens Try.prog 52 e_law17_Op wf_law17_Op := fun H enc w fuel cs x h => by
  obtain ⟨xs, n, _, _, hl, hxl, hp⟩ := DataW.trod_struct Try.underlying52 h
  have hl : cs.length = 10 := by rw [hl]; kernel_rfl
  obtain ⟨a0, w0, r0⟩ := part_of (i := 0) rfl hxl hp (opens_int Try.underlying3)
  obtain ⟨a1, w1, r1⟩ := part_of (i := 1) rfl hxl hp opens_instr_Instr
  obtain ⟨a2, w2, r2⟩ := part_of (i := 2) rfl hxl hp (opens_int Try.underlying3)
  obtain ⟨a3, w3, r3⟩ := part_of (i := 3) rfl hxl hp (opens_int Try.underlying3)
  obtain ⟨a4, w4, r4⟩ := part_of (i := 4) rfl hxl hp (opens_int Try.underlying3)
  obtain ⟨a5, w5, r5⟩ := part_of (i := 5) rfl hxl hp (opens_int Try.underlying3)
  exact ⟨⟨a0, a1, a2, a3, a4, a5⟩, ⟨w0, w1, w2, w3, w4, w5⟩, (reads_step (o := 0) (z := 1) r0 (reads_step (o := 1) (z := 5) r1 (reads_step (o := 6) (z := 1) r2 (reads_step (o := 7) (z := 1) r3 (reads_step (o := 8) (z := 1) r4 (reads_step (o := 9) (z := 1) r5 (reads_end (o := 10) (by rw [hl]; exact Nat.le_refl _))))))))⟩
/-- the statement, in plain Lean -/
def EmitPlaysPure : Prop := ∀ (p0 : (List T_law17_Op)), (fun xs => (∀ x, x ∈ xs → wf_law17_Op x) ∧ xs.length ≤ maxLen) p0 → ∃ Hr, law17_EmitPlays [] p0 = some (Hr, true)
end Go.Proofs.Abs
/- Whatever is written, patched and fixed is what the page says. -/
namespace Go.Proofs.Abs
open Go
set_option linter.unusedVariables false
set_option linter.unusedSimpArgs false
/-- what is hidden -/
def Hid (N : Nat) (c : T_emit_Code) (u : Option (List Int)) (k : List Int) (j : Int) : Prop :=
  j = -1 ∨ 0 ≤ j ∧ j ≤ 80 ∧ u = some k ∧ k.length ≤ N ∧ ∀ a ∈ k, 0 ≤ a ∧ a < c.pads_.length
theorem Hid.mono {N M : Nat} {c c' : T_emit_Code} {u k j} (h : Hid N c u k j) (hN : N ≤ M) (hc : c.pads_.length ≤ c'.pads_.length) : Hid M c' u k j := by
  rcases h with h | ⟨h1, h2, h3, h4, h5⟩
  · exact .inl h
  · exact .inr ⟨h1, h2, h3, by omega, fun a ha => by have := h5 a ha; omega⟩
section
variable {N : Nat} {c : T_emit_Code} {w : T_ref17_Code} {i : Nat}
theorem j4_ok (R : ER N c w) (hN : N ≤ 8000) {H : Heap} (h : get_emit_Code H i 0 = some c) (a : Int) (a0 : 0 ≤ a ∧ a < 1000) (k : List Int) (u : Option (List Int)) (j : Int) :
    law17_played_j4 (.at i 0) a k u j w H = some (.inl (u, j, a + 1, w, k, H)) := by
  have hh : emit_Code_Depth H (.at i 0) = some c.depth_ := by unfold emit_Code_Depth; rw [pbnd_at, h]; rfl
  have he : emit_Code_Err H (.at i 0) = some c.err_ := by unfold emit_Code_Err; rw [pbnd_at, h]; rfl
  unfold law17_played_j4 law17_played_j2
  rw [here_spec h, bind1_some, if_neg (by rw [R.len]; simp), hh, bind1_some, if_neg (by rw [R.dp]; simp), he, bind1_some, bind1_some, if_neg (by rw [R.er]; simp), wrap_i64 (a + 1) (by omega) (by omega)]
theorem j3_ok (R : ER N c w) (hN : N ≤ 6000) {H : Heap} (h : get_emit_Code H i 0 = some c) {op : T_law17_Op} (ho : -1000 ≤ op.A_ ∧ op.A_ ≤ 1000) (a : Int) (a0 : 0 ≤ a ∧ a < 1000) {k : List Int} {u : Option (List Int)} {j : Int} (hd : Hid N c u k j) :
    ∃ H' c' w' u' k' j', law17_played_j3 (.at i 0) op a u k j w H = some (.inl (u', j', a + 1, w', k', H')) ∧ get_emit_Code H' i 0 = some c' ∧ ER (N + 8) c' w' ∧ Hid (N + 8) c' u' k' j' := by
  obtain ⟨H1, c1, w1, e1, g1, R1, p1⟩ := writes_does R (by omega) op ho H h
  obtain ⟨H2, c2, w2, e2, g2, R2, p2⟩ := others_does R1 (by omega) op ho H1 g1
  have e1 : law17_writes H (.at i 0) w op = some (H1, w1) := e1
  have e2 : law17_others H1 (.at i 0) w1 op = some (H2, w2) := e2
  have hd2 := hd.mono (show N ≤ N + 6 by omega) (Nat.le_trans p1 p2)
  unfold law17_played_j3
  rw [e1, bind2_some, e2, bind2_some]
  by_cases q : j ≥ 0 ∧ a ≥ IntKind.wrap .i64 (j + 2)
  · rw [if_pos (by simp [q])]
    rcases hd2 with h1 | ⟨h1, h2, rfl, h4, h5⟩
    · omega
    · obtain ⟨H3, c3, e3, g3, R3, p3⟩ := shown R2 (by omega) h4 h5 g2
      have R3 : ER (N + 7) c3 (withW w2 k) := R3
      refine ⟨H3, c3, withW w2 k, none, k, -1, ?_, g3, R3.mono (by omega), .inl rfl⟩
      rw [bind1_some, e3, bind1_some]
      exact j4_ok R3 (by omega) g3 a a0 k none (-1)
  · rw [if_neg (by simpa using q)]
    exact ⟨H2, c2, w2, u, k, j, j4_ok R2 (by omega) g2 a a0 k u j, g2, R2.mono (by omega), hd2.mono (by omega) (Nat.le_refl _)⟩
theorem played_loop {s : List T_law17_Op} {i : Nat} : ∀ (n a : Nat) (c : T_emit_Code) (w : T_ref17_Code) (H : Heap) (u : Option (List Int)) (k : List Int) (j : Int), a + n = 80 → get_emit_Code H i 0 = some c → ER (1 + 20 * a) c w → Hid (1 + 20 * a) c u k j →
    ∃ w' H' c', loopO (fun (x : ((Option (List Int)) × Int × Int × T_ref17_Code × (List Int) × Heap)) => law17_played_L1 s (.at i 0) x.1 x.2.1 x.2.2.1 x.2.2.2.1 x.2.2.2.2.1 x.2.2.2.2.2) (u, j, (a : Int), w, k, H) = some (.inl (w', H')) ∧ get_emit_Code H' i 0 = some c' ∧ ER 2000 c' w'
  | 0, a, c, w, H, u, k, j, h0, h, R, hd => by
    refine ⟨w, H, c, loopO_out ?_, h, R.mono (by omega)⟩
    show law17_played_L1 s (.at i 0) u j (a : Int) w k H = _
    unfold law17_played_L1
    rw [if_neg (by simp; omega)]
  | n + 1, a, c, w, H, u, k, j, h0, h, R, hd => by
    by_cases q : a < s.length
    · obtain ⟨op, hop⟩ : ∃ op, gi s (a : Int) = some op := ⟨_, gi_some (by omega) (by omega)⟩
      have step : ∃ H' c' w' u' k' j', law17_played_L1 s (.at i 0) u j (a : Int) w k H = some (.inl (u', j', ((a + 1 : Nat) : Int), w', k', H')) ∧ get_emit_Code H' i 0 = some c' ∧ ER (1 + 20 * (a + 1)) c' w' ∧ Hid (1 + 20 * (a + 1)) c' u' k' j' := by
        unfold law17_played_L1 law17_small
        rw [if_pos (by simp; omega), hop, bind1_some, bind1_some]
        have ea : (((a + 1 : Nat) : Int)) = (a : Int) + 1 := by omega
        rw [ea]
        by_cases sm : (op.A_ ≥ -1000 ∧ op.A_ ≤ 1000 ∧ op.B_ ≥ -1000000 ∧ op.B_ ≤ 1000000)
        · rw [if_neg (by simp [sm])]
          by_cases hk : op.Kind_ = 14 ∧ j < 0
          · obtain ⟨H1, c1, e1, g1, R1, p1⟩ := hide_code R (by omega) h
            obtain ⟨H2, c2, w2, u2, k2, j2, e2, g2, R2, hd2⟩ := j3_ok R1 (by omega) g1 (op := op) ⟨by omega, by omega⟩ (a : Int) (by omega) (u := some c.active_) (k := w.Active_) (j := (a : Int)) (.inr ⟨by omega, by omega, by rw [R.ac], by have := R.b5; rw [← R.ac]; omega, fun x hx => by rw [p1]; exact R.ai x (by rw [R.ac]; exact hx)⟩)
            refine ⟨H2, c2, w2, u2, k2, j2, ?_, g2, R2.mono (by omega), hd2.mono (by omega) (Nat.le_refl _)⟩
            rw [if_pos (by simp [hk]), e1, bind2_some]
            exact e2
          · obtain ⟨H2, c2, w2, u2, k2, j2, e2, g2, R2, hd2⟩ := j3_ok R (by omega) h (op := op) ⟨by omega, by omega⟩ (a : Int) (by omega) hd
            refine ⟨H2, c2, w2, u2, k2, j2, ?_, g2, R2.mono (by omega), hd2.mono (by omega) (Nat.le_refl _)⟩
            rw [if_neg (by simpa using hk)]
            exact e2
        · rw [if_pos (by simp; omega)]
          unfold law17_played_j2
          refine ⟨H, c, w, u, k, j, ?_, h, R.mono (by omega), hd.mono (by omega) (Nat.le_refl _)⟩
          rw [wrap_i64 _ (by omega) (by omega)]
      obtain ⟨H1, c1, w1, u1, k1, j1, e1, g1, R1, hd1⟩ := step
      obtain ⟨w2, H2, c2, e2, g2, R2⟩ := played_loop n (a + 1) c1 w1 H1 u1 k1 j1 (by omega) g1 R1 hd1
      exact ⟨w2, H2, c2, (loopO_go e1).trans e2, g2, R2⟩
    · refine ⟨w, H, c, loopO_out ?_, h, R.mono (by omega)⟩
      show law17_played_L1 s (.at i 0) u j (a : Int) w k H = _
      unfold law17_played_L1
      rw [if_neg (by simp; omega)]
end
theorem fix_loop {w : T_ref17_Code} {r : T_emit_Result} (h : r.Fixups_ = w.Fixups_) (hl : w.Fixups_.length ≤ 10000) : loopO (fun (x : Int) => law17_EmitPlays_L1 w r x) 0 = some (.inl ()) := by
  have loop : ∀ (n : Nat) (a : Int), 0 ≤ a → a + n = w.Fixups_.length → loopO (fun (x : Int) => law17_EmitPlays_L1 w r x) a = some (.inl ()) := fun n => by
    induction n with
    | zero =>
      intro a h0 h1
      refine loopO_out ?_
      unfold law17_EmitPlays_L1
      rw [if_neg (by simp; omega)]
    | succ n ih =>
      intro a h0 h1
      have e : law17_EmitPlays_L1 w r a = some (.inl (a + 1)) := by
        unfold law17_EmitPlays_L1
        rw [if_pos (by simp; omega), h, gi_some h0 (by omega), bind1_some, bind1_some, if_neg (by simp [eq_api_Fixup]), wrap_i64 (a + 1) (by omega) (by omega)]
      rw [loopO_go e]
      exact ih (a + 1) (by omega) (by omega)
  exact loop w.Fixups_.length 0 (by omega) (by omega)
theorem EmitPlays_holds : EmitPlaysPure := fun s hs => by
  obtain ⟨H1, e1⟩ := eawake_spec []
  obtain ⟨H2, e2, g2⟩ := new_spec H1
  have R2 : ER 1 (C [] 0) ⟨[], [], [], [], [], 0, 0, 0⟩ :=
    ⟨⟨[], rfl, rfl, fun x hx => by cases hx⟩, rfl, rfl, rfl, rfl, rfl, rfl, rfl, fun s hs => by
      have : s = ⟨0, -1⟩ := List.mem_singleton.1 hs
      rw [this]; exact .inl rfl, fun a ha => (by cases ha), by simp [C], by simp [C], by simp [C], by simp [C], by simp [C], by simp [C], by simp [C]⟩
  obtain ⟨w, H3, c, e3, g3, R⟩ := played_loop (s := s) 80 0 (C [] 0) _ H2 (some []) [] (-1) (by omega) g2 R2 (.inl rfl)
  have pl : law17_played H1 s = some (H3, .at H1.length 0, w, true) := by
    unfold law17_played
    rw [e2, bind2_some, isNil_at, if_neg (by simp)]
    show bind1 (loopO _ (some [], -1, ((0 : Nat) : Int), _, [], H2)) _ = _
    rw [e3, bind1_some, sum2_inl]; rfl
  obtain ⟨c4, hc4⟩ : ∃ c4 : T_emit_Code, c4 = ⟨c.words_, c.fixups_, c.marks_, c.pads_, c.active_, c.depth_, c.depth_, c.err_⟩ := ⟨_, rfl⟩
  have g4 : get_emit_Code (set_emit_Code H3 H1.length 0 c4) H1.length 0 = some c4 := cod_set _ g3
  have g5 : get_emit_Code (set_emit_Code (set_emit_Code H3 H1.length 0 c4) H1.length 0 c4) H1.length 0 = some c4 := cod_set _ g4
  have m1 : emit_Code_Most H3 (.at H1.length 0) = some (set_emit_Code H3 H1.length 0 c4, c.most_) := by
    unfold emit_Code_Most
    rw [pbnd_at, g3, bind1_some, bnd_def, hc4]
  have m2 : emit_Code_Most (set_emit_Code H3 H1.length 0 c4) (.at H1.length 0) = some (set_emit_Code (set_emit_Code H3 H1.length 0 c4) H1.length 0 c4, c.depth_) := by
    unfold emit_Code_Most
    rw [pbnd_at, g4, bind1_some, bnd_def, hc4]
  have R4 : ER 2000 c4 ⟨w.L_, w.G_, w.Fixups_, w.Pads_, w.Active_, w.Depth_, w.Depth_, w.Err_⟩ := by
    rw [hc4]
    exact ⟨R.wd, R.g, R.fx, R.pd, R.ac, R.dp, R.dp, R.er, R.ms, R.ai, R.b1, R.b2, R.b3, R.b4, R.b5, R.b6, R.b6⟩
  have hw : c4.words_ = c.words_ := by rw [hc4]
  have hf : c4.fixups_ = w.Fixups_ := by rw [hc4]; exact R.fx
  have he : c4.err_ = w.Err_ := by rw [hc4]; exact R.er
  have b1 := R.b1
  have b2 := R4.b2
  rw [hf] at b2
  unfold law17_EmitPlays
  rw [e1, bind2_some, if_neg (by simp), pl, bind4_some, if_neg (by simp), m1, bind2_some, if_neg (by rw [R.mo]; simp), m2, bind2_some, bind2_some, if_neg (by rw [R.dp]; simp)]
  by_cases z : w.Err_ = 0
  · obtain ⟨H6, sg, e6⟩ := fin_ok R4 (by omega) g5 (by rw [he]; exact z)
    rw [e6, bind3_some, if_neg (by simpa using z), if_neg (by simp), words_ok R (by omega), bind1_some]
    show ∃ Hr, bind1 (bind1 (ref01_Words c4.words_ c.words_) _) _ = _
    rw [hw, words_refl _ (by omega), bind1_some, if_neg (by simp), bind1_some]
    show ∃ Hr, (if ((c4.fixups_.length : Int) != (w.Fixups_.length : Int)) = true then _ else _) = _
    rw [if_neg (by rw [hf]; simp), fix_loop hf (by omega), bind1_some, sum2_inl]
    exact ⟨_, rfl⟩
  · rw [fin_err g5 (by rw [he]; exact z), bind3_some, if_pos (by simpa using z)]
    exact ⟨set_emit_Code (set_emit_Code H3 H1.length 0 c4) H1.length 0 c4, by rw [he]; simp⟩
end Go.Proofs.Abs
