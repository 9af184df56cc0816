/- The law ItemCalls: whatever the input, it answers true. No conditions. (Part ItemCallsP of its proof.) -/
import Derived.Test.YtjheniapmdcelaaItemCallsF3
set_option linter.unusedVariables false
set_option linter.unusedSimpArgs false
set_option linter.unusedSectionVars false
/- Code that is written, in plain Lean: what stands in it, what is put, what is ended. -/
namespace Go.Proofs.Abs
open Go
set_option linter.unusedVariables false
set_option linter.unusedSimpArgs false
theorem room_big : 1048576 ≤ roomBytes := Nat.le_of_ble_eq_true (by kernel_rfl)
theorem app_some {α : Type} {zb : Nat} {xs ys : List α} (h : (xs.length + ys.length) * zb ≤ 1048576) : app zb xs ys = some (xs ++ ys) := by
  unfold app; rw [if_pos (Nat.le_trans h room_big)]
theorem seg_inj (x y : T_api_Segment) (h : e_api_Segment x = e_api_Segment y) : x = y := by
  cases x; cases y; simpa [e_api_Segment] using h
theorem fix_inj (x y : T_api_Fixup) (h : e_api_Fixup x = e_api_Fixup y) : x = y := by
  cases x; cases y; simpa [e_api_Fixup] using h
theorem bld_inj (x y : T_ranges_Builder) (h : o_ranges_Builder x = o_ranges_Builder y) : x = y := by
  cases x; cases y
  simp only [o_ranges_Builder, List.cons.injEq, Prod.mk.injEq, AV.sl.injEq, true_and, and_true] at h
  rw [map_inj seg_inj _ _ h]
theorem bld_len (x : T_ranges_Builder) : (o_ranges_Builder x).length = 1 := rfl
theorem cod_inj (x y : T_emit_Code) (h : o_emit_Code x = o_emit_Code y) : x = y := by
  obtain ⟨a, b, ⟨c⟩, d, e, f, g, k⟩ := x
  obtain ⟨a', b', ⟨c'⟩, d', e', f', g', k'⟩ := y
  simp only [o_emit_Code, List.cons.injEq, Prod.mk.injEq, AV.sl.injEq, AV.int.injEq, true_and, and_true] at h
  obtain ⟨h1, h2, h3, h4, h5, rfl, rfl, rfl⟩ := h
  rw [map_inj eI_inj _ _ h1, map_inj fix_inj _ _ h2, map_inj seg_inj _ _ h3, map_inj eI_inj _ _ h4, map_inj eI_inj _ _ h5]
theorem cod_len (x : T_emit_Code) : (o_emit_Code x).length = 8 := rfl
def CodeAt (H : Heap) (p : Ptr) (c : T_emit_Code) : Prop := ∃ i o, p = .at i o ∧ get_emit_Code H i o = some c
section
variable {H : Heap} {i o : Nat} {p : Ptr} {c : T_emit_Code}
theorem cod_set (y : T_emit_Code) (h : get_emit_Code H i o = some c) : get_emit_Code (set_emit_Code H i o y) i o = some y := hgT_set cod_inj cod_len h y
theorem cod_marks (h : get_emit_Code H i o = some c) : get_ranges_Builder H i (o + 2) = some c.marks_ := by
  refine hgetT_of bld_inj ?_
  have := hget_sub (hgetT_inv h) 2 1 (by omega)
  rw [this]; rfl
theorem cod_setMarks (m : T_ranges_Builder) (h : get_emit_Code H i o = some c) : get_emit_Code (set_ranges_Builder H i (o + 2) m) i o = some ⟨c.words_, c.fixups_, m, c.pads_, c.active_, c.depth_, c.most_, c.err_⟩ := by
  refine hgetT_of cod_inj ?_
  unfold set_ranges_Builder
  rw [hset_sub0 (hgetT_inv h) (k := 2) (b := o_ranges_Builder m) (by rw [bld_len]; omega)]
  rw [hset_get (hgetT_inv h) (by rw [setAt_len (by rw [bld_len, cod_len]; omega)]; rfl)]
  rfl
def failC (c : T_emit_Code) (e : Int) : T_emit_Code := ⟨c.words_, c.fixups_, c.marks_, c.pads_, c.active_, c.depth_, c.most_, if c.err_ = 0 then e else c.err_⟩
def addW (c : T_emit_Code) (w : Int) : T_emit_Code := ⟨c.words_ ++ [w], c.fixups_, c.marks_, c.pads_, c.active_, c.depth_, c.most_, c.err_⟩
theorem mark0 (h : get_ranges_Builder H i o = some ⟨[]⟩) : ranges_Builder_Mark H (.at i o) 0 (-1) = some (set_ranges_Builder H i o ⟨[⟨0, -1⟩]⟩) := by
  unfold ranges_Builder_Mark ranges_Builder_Mark_j1
  rw [pbnd_at, h, bind1_some, if_neg (by simp), bind1_some, if_neg (by simp), bind1_some, if_neg (by simp), bind1_some, if_neg (by simp), app_some (by simp), bind1_some, bnd_def]
  rfl
/-- code of which nothing but words was written -/
def C (ws : List Int) (e : Int) : T_emit_Code := ⟨ws, [], ⟨[⟨0, -1⟩]⟩, [], [], 0, 0, e⟩
theorem new_spec (H : Heap) : ∃ H', emit_New H = some (H', .at H.length 0) ∧ get_emit_Code H' H.length 0 = some (C [] 0) := by
  have h1 : get_emit_Code (new_emit_Code H ⟨[], [], ⟨[]⟩, [], [], 0, 0, 0⟩) H.length 0 = some ⟨[], [], ⟨[]⟩, [], [], 0, 0, 0⟩ := hgT_new cod_inj cod_len H _
  unfold emit_New
  rw [bnd_def, bnd_def, h1, bind1_some, mark0 (cod_marks h1), bind1_some]
  exact ⟨_, rfl, cod_setMarks _ h1⟩
theorem clone_seg {l : List T_api_Segment} (hl : l.length ≤ 1000) : slices_Clone_api_Segment_api_Segment l = some l := by
  unfold slices_Clone_api_Segment_api_Segment; rw [app_some (by simp; omega)]; rfl
theorem list_spec {l : List T_api_Segment} (h : get_ranges_Builder H i o = some ⟨l⟩) (hl : l.length ≤ 1000) : ranges_Builder_List H (.at i o) = some l := by
  unfold ranges_Builder_List; rw [pbnd_at, h, bind1_some, clone_seg hl]; rfl
end
end Go.Proofs.Abs
/- Code for things that is written: what stands in it. -/
namespace Go.Proofs.Abs
open Go
set_option linter.unusedVariables false
set_option linter.unusedSimpArgs false
theorem gen_inj (x y : T_item_Gen) (h : o_item_Gen x = o_item_Gen y) : x = y := by
  obtain ⟨a, b, ⟨c, d, e, f⟩⟩ := x
  obtain ⟨a', b', ⟨c', d', e', f'⟩⟩ := y
  simp only [o_item_Gen, List.cons.injEq, Prod.mk.injEq, AV.sl.injEq, AV.int.injEq, true_and, and_true] at h
  obtain ⟨h1, rfl, rfl, rfl, h5, h6⟩ := h
  have p : ∀ x y : Ptr, x.av = y.av → x = y := fun x y h => by cases x <;> cases y <;> simp_all [Ptr.av]
  rw [p _ _ h1, map_inj eI_inj _ _ h5, p _ _ h6]
theorem gen_len (x : T_item_Gen) : (o_item_Gen x).length = 6 := rfl
/-- code of which nothing but words was written, and so many wait -/
def D (ws : List Int) (d m e : Int) (fx : List T_api_Fixup := []) : T_emit_Code := ⟨ws, fx, ⟨[⟨0, -1⟩]⟩, [], [], d, m, e⟩
def genV (i : Nat) (L : Int := 0) (Pr : T_item_Proc := ⟨0, 0, [], .nil⟩) : T_item_Gen := ⟨.at i 0, L, Pr⟩
/-- a generator at g, over code at i; and what else stands in objects -/
structure Gn (H : Heap) (i g : Nat) (c : T_emit_Code) (L : Int := 0) (Pr : T_item_Proc := ⟨0, 0, [], .nil⟩) (Fx : List (Nat × List MC) := []) : Prop where
  code : get_emit_Code H i 0 = some c
  gen : get_item_Gen H g 0 = some (genV i L Pr)
  ne : i ≠ g
  frm : ∀ x, x ∈ Fx → hget H x.1 0 x.2.length = some x.2 ∧ x.1 ≠ i ∧ x.1 ≠ g
section
variable {H : Heap} {i g : Nat} {c : T_emit_Code} {L : Int} {Pr : T_item_Proc} {fx : List T_api_Fixup} {Fx : List (Nat × List MC)}
theorem Gn.set (G : Gn H i g c L Pr Fx) (c' : T_emit_Code) : Gn (set_emit_Code H i 0 c') i g c' L Pr Fx :=
  ⟨cod_set c' G.code, hgT_other gen_inj G.ne G.gen, G.ne, fun x hx => ⟨(hget_other (Ne.symm (G.frm x hx).2.1)).trans (G.frm x hx).1, (G.frm x hx).2⟩⟩
theorem put_gn {x : T_instr_Instr} {w : Int} (G : Gn H i g c L Pr Fx) (hw : instr_Encode x = some (w, 0)) (hl : c.words_.length < 16384) :
    ∃ H', emit_Code_Put H (.at i 0) x = some (H', (c.words_.length : Int)) ∧ Gn H' i g (addW c w) L Pr Fx := by
  unfold emit_Code_Put emit_Code_Put_j1
  rw [hw, bind2_some, if_neg (by simp), pbnd_at, G.code, bind1_some, if_neg (by simp; omega), app_some (by simp; omega), bind1_some, bnd_def]
  refine ⟨_, ?_, G.set (addW c w)⟩
  rw [wrap_i64 _ (by simp <;> omega) (by simp <;> omega)]
  simp [addW]
theorem reg_gn {x y w : Int} (G : Gn H i g c L Pr Fx) (hw : instr_Encode ⟨x, y, 0, 0, 0⟩ = some (w, 0)) (hl : c.words_.length < 16384) :
    ∃ H', emit_Code_Reg H (.at i 0) x y = some (H', (c.words_.length : Int)) ∧ Gn H' i g (addW c w) L Pr Fx := by
  obtain ⟨H', e1, e2⟩ := put_gn G hw hl
  exact ⟨H', by unfold emit_Code_Reg; rw [e1]; rfl, e2⟩
theorem inew_spec (H : Heap) : ∃ H' i g, item_New H = some (H', .at g 0) ∧ Gn H' i g (D [] 0 0 0) := by
  obtain ⟨H1, e1, g1⟩ := new_spec H
  have hi : H.length < H1.length := hgT_lt g1
  refine ⟨new_item_Gen H1 ⟨.at H.length 0, 0, ⟨0, 0, [], .nil⟩⟩, H.length, H1.length, ?_, hgT_old cod_inj g1, hgT_new gen_inj gen_len H1 _, by omega, fun _ h => by cases h⟩
  unfold item_New
  rw [e1, bind2_some, bnd_def, bnd_def]
theorem enc_halt : instr_Encode ⟨1, 0, 0, 0, 0⟩ = some (16777216, 0) := by kernel_rfl
theorem begun_spec (H : Heap) : ∃ H' i g, law19_begun H = some (H', .at g 0) ∧ Gn H' i g (D [16777216] 0 0 0) := by
  obtain ⟨H1, i, g, e1, G1⟩ := inew_spec H
  obtain ⟨H2, e2, G2⟩ := reg_gn G1 enc_halt (by simp [D])
  refine ⟨H2, i, g, ?_, G2⟩
  unfold law19_begun
  rw [e1, bind2_some, isNil_at, if_neg (by simp), pbnd_at, G1.gen, bind1_some, bind2_some]
  have : (genV i).Code_.isNil = false := rfl
  rw [this, if_neg (by simp), pbnd_at, G1.gen, bind1_some]
  show bind2 (emit_Code_Reg H1 (.at i 0) 1 0) _ = _
  rw [e2]; rfl
/-- the words that give a register a number -/
noncomputable def numW (a n : Int) : Option (List Int) := bind1 (word_Fits (IntKind.wrap .i64 n) 16) fun r1 =>
  if r1 = true then (bind2 (instr_Encode ⟨2, a, 0, 0, IntKind.wrap .i64 n⟩) fun w e => if e = 0 then some [w] else none)
  else (bind2 (instr_Encode ⟨3, a, 0, 0, IntKind.wrap .i64 (Int.fdiv (IntKind.wrap .u32 n) (2 ^ 16))⟩) fun w e => if e = 0 then (bind2 (instr_Encode ⟨4, a, a, 0, IntKind.wrap .i64 (bitsOf .and .u32 (IntKind.wrap .u32 n) 65535)⟩) fun v f => if f = 0 then some [w, v] else none) else none)
theorem number_gn {ws l : List Int} {d m e a n : Int} (G : Gn H i g (D ws d m e fx) L Pr Fx) (hn : numW a n = some l) (hl : ws.length < 16000) :
    ∃ H', emit_Code_Number H (.at i 0) a n = some H' ∧ Gn H' i g (D (ws ++ l) d m e fx) L Pr Fx := by
  unfold numW at hn
  obtain ⟨r1, h1, hn⟩ := bind1_inv hn
  unfold emit_Code_Number
  rw [h1, bind1_some]
  cases r1 with
  | true =>
    rw [if_pos rfl] at hn ⊢
    obtain ⟨w, e', h2, hn⟩ := bind2_inv hn
    split at hn
    · rename_i he
      subst he
      cases hn
      obtain ⟨H1, e1, G1⟩ := put_gn G h2 (show ws.length < 16384 by omega)
      exact ⟨H1, by rw [e1]; rfl, G1⟩
    · cases hn
  | false =>
    rw [if_neg (by simp)] at hn ⊢
    obtain ⟨w, e', h2, hn⟩ := bind2_inv hn
    split at hn
    · rename_i he
      subst he
      obtain ⟨v, f', h3, hn⟩ := bind2_inv hn
      split at hn
      · rename_i hf
        subst hf
        cases hn
        obtain ⟨H1, e1, G1⟩ := put_gn G h2 (show ws.length < 16384 by omega)
        obtain ⟨H2, e2, G2⟩ := put_gn G1 h3 (show (ws ++ [w]).length < 16384 by simp; omega)
        refine ⟨H2, by rw [e1, bind2_some, e2]; rfl, ?_⟩
        have : addW (addW (D ws d m e fx) w) v = D (ws ++ [w, v]) d m e fx := by simp [addW, D]
        rw [← this]; exact G2
      · cases hn
    · cases hn
theorem sign_gn {x a b n w : Int} (G : Gn H i g c L Pr Fx) (hw : instr_Encode ⟨x, a, b, 0, n⟩ = some (w, 0)) (hl : c.words_.length < 16384) :
    ∃ H', emit_Code_Sign H (.at i 0) x a b n = some (H', (c.words_.length : Int)) ∧ Gn H' i g (addW c w) L Pr Fx := by
  obtain ⟨H', e1, e2⟩ := put_gn G hw hl
  exact ⟨H', by unfold emit_Code_Sign; rw [e1]; rfl, e2⟩
theorem three_gn {x a b d w : Int} (G : Gn H i g c L Pr Fx) (hw : instr_Encode ⟨x, a, b, d, 0⟩ = some (w, 0)) (hl : c.words_.length < 16384) :
    ∃ H', emit_Code_Three H (.at i 0) x a b d = some (H', (c.words_.length : Int)) ∧ Gn H' i g (addW c w) L Pr Fx := by
  obtain ⟨H', e1, e2⟩ := put_gn G hw hl
  exact ⟨H', by unfold emit_Code_Three; rw [e1]; rfl, e2⟩
theorem enc_dn : instr_Encode ⟨5, 15, 15, 0, -4⟩ = some (100663292, 0) := by kernel_rfl
end
end Go.Proofs.Abs
/- Code for things: what waits, what is ended. -/
namespace Go.Proofs.Abs
open Go
set_option linter.unusedVariables false
set_option linter.unusedSimpArgs false
theorem enc_up : instr_Encode ⟨5, 15, 15, 0, 4⟩ = some (100597764, 0) := by kernel_rfl
section
variable {H : Heap} {i g : Nat} {c : T_emit_Code} {L : Int} {Pr : T_item_Proc} {fx : List T_api_Fixup} {Fx : List (Nat × List MC)} {ws : List Int} {d m e : Int}
theorem push_gn {a w : Int} (G : Gn H i g (D ws d m e fx) L Pr Fx) (hw : instr_Encode ⟨19, a, 15, 0, 0⟩ = some (w, 0)) (hl : ws.length < 16000) (h0 : 0 ≤ d) (h1 : d < 1000) :
    ∃ H', emit_Code_Push H (.at i 0) a = some H' ∧ Gn H' i g (D (ws ++ [100663292, w]) (d + 1) (if d + 1 > m then d + 1 else m) e fx) L Pr Fx := by
  obtain ⟨H1, e1, G1⟩ := sign_gn G enc_dn (show ws.length < 16384 by omega)
  obtain ⟨H2, e2, G2⟩ := sign_gn G1 hw (show (ws ++ [100663292]).length < 16384 by simp; omega)
  have k : addW (addW (D ws d m e fx) 100663292) w = D (ws ++ [100663292, w]) d m e fx := by simp [addW, D]
  rw [k] at G2
  have G3 := G2.set (D (ws ++ [100663292, w]) (d + 1) m e fx)
  have G4 := G3.set (D (ws ++ [100663292, w]) (d + 1) (if d + 1 > m then d + 1 else m) e fx)
  refine ⟨_, ?_, G4⟩
  unfold emit_Code_Push
  rw [e1, bind2_some, e2, bind2_some, pbnd_at, G2.code, bind1_some]
  have w1 : IntKind.wrap .i64 ((D (ws ++ [100663292, w]) d m e fx).depth_ + 1) = d + 1 := wrap_i64 _ (by show _ ≤ d + 1; omega) (by show d + 1 ≤ _; omega)
  rw [w1, bnd_def, bnd_def]
  rfl
theorem drop_gn (G : Gn H i g (D ws d m e fx) L Pr Fx) (h0 : 0 ≤ d) (h1 : d < 1000) {n : Int} (hn : 0 ≤ n) (hn2 : n < 1000) :
    ∃ H', emit_Code_Drop H (.at i 0) n = some H' ∧ Gn H' i g (D ws (if d - n > 0 then d - n else 0) m e fx) L Pr Fx := by
  have G3 := G.set (D ws (if d - n > 0 then d - n else 0) m e fx)
  refine ⟨_, ?_, G3⟩
  unfold emit_Code_Drop
  rw [pbnd_at, G.code, bind1_some]
  have w1 : IntKind.wrap .i64 ((D ws d m e fx).depth_ - n) = d - n := wrap_i64 _ (by show _ ≤ d - n; omega) (by show d - n ≤ _; omega)
  rw [w1, bnd_def]
  rfl
theorem pop_gn {a w : Int} (G : Gn H i g (D ws d m e fx) L Pr Fx) (hw : instr_Encode ⟨18, a, 15, 0, 0⟩ = some (w, 0)) (hl : ws.length < 16000) (h0 : 0 ≤ d) (h1 : d < 1000) :
    ∃ H', emit_Code_Pop H (.at i 0) a = some H' ∧ Gn H' i g (D (ws ++ [w, 100597764]) (if d - 1 > 0 then d - 1 else 0) m e fx) L Pr Fx := by
  obtain ⟨H1, e1, G1⟩ := sign_gn G hw (show ws.length < 16384 by omega)
  obtain ⟨H2, e2, G2⟩ := sign_gn G1 enc_up (show (ws ++ [w]).length < 16384 by simp; omega)
  have k : addW (addW (D ws d m e fx) w) 100597764 = D (ws ++ [w, 100597764]) d m e fx := by simp [addW, D]
  rw [k] at G2
  obtain ⟨H3, e3, G3⟩ := drop_gn G2 h0 h1 (n := 1) (by omega) (by omega)
  exact ⟨H3, by unfold emit_Code_Pop; rw [e1, bind2_some, e2, bind2_some, e3]; rfl, G3⟩
theorem finish_gn (G : Gn H i g (D ws d m 0 fx) L Pr Fx) (hl : ws.length ≤ 16384) (hf : fx.length ≤ 1000) : ∃ H' sg, emit_Code_Finish H (.at i 0) = some (H', ⟨ws, fx, sg⟩, 0) := by
  have h := G.code
  have hi : i < H.length := hgT_lt h
  obtain ⟨H1, hH1⟩ : ∃ H1, H1 = new_ranges_Builder H ⟨[]⟩ := ⟨_, rfl⟩
  have b1 : get_ranges_Builder H1 H.length 0 = some ⟨[]⟩ := by rw [hH1]; exact hgT_new bld_inj bld_len H _
  have c1 : get_emit_Code H1 i 0 = some (D ws d m 0 fx) := by rw [hH1]; exact hgT_old cod_inj h
  have lp : ∃ H2 sg, loopO (fun (x : Int × Heap) => emit_Code_Finish_L1 [⟨0, -1⟩] i 0 H.length x.1 x.2) (0, H1) = some H2 ∧ get_emit_Code H2 i 0 = some (D ws d m 0 fx) ∧ get_ranges_Builder H2 H.length 0 = some ⟨sg⟩ ∧ sg.length ≤ 1 := by
    by_cases hw : ws = []
    · subst hw
      refine ⟨H1, [], loopO_out ?_, c1, b1, by simp⟩
      show emit_Code_Finish_L1 [⟨0, -1⟩] i 0 H.length 0 H1 = _
      unfold emit_Code_Finish_L1
      rw [if_pos (by simp), gi_some (by omega) (by simp), bind1_some, c1, bind1_some]
      rfl
    · have h0 : 0 < ws.length := List.length_pos_iff.2 hw
      have c2 : get_emit_Code (set_ranges_Builder H1 H.length 0 ⟨[⟨0, -1⟩]⟩) i 0 = some (D ws d m 0 fx) := hgT_other cod_inj (by omega) c1
      refine ⟨set_ranges_Builder H1 H.length 0 ⟨[⟨0, -1⟩]⟩, [⟨0, -1⟩], ?_, c2, hgT_set bld_inj bld_len b1 _, by simp⟩
      rw [loopO_go (f := fun (x : Int × Heap) => emit_Code_Finish_L1 [⟨0, -1⟩] i 0 H.length x.1 x.2) (s' := (1, set_ranges_Builder H1 H.length 0 ⟨[⟨0, -1⟩]⟩))]
      · refine loopO_out ?_
        show emit_Code_Finish_L1 [⟨0, -1⟩] i 0 H.length 1 _ = _
        unfold emit_Code_Finish_L1
        rw [if_neg (by simp)]
      · show emit_Code_Finish_L1 [⟨0, -1⟩] i 0 H.length 0 H1 = _
        unfold emit_Code_Finish_L1 emit_Code_Finish_j2
        rw [if_pos (by simp), gi_some (by omega) (by simp), bind1_some, c1, bind1_some]
        have e : ([⟨0, -1⟩] : List T_api_Segment)[(0 : Int).toNat]'(by simp) = ⟨0, -1⟩ := rfl
        rw [e, if_neg (by simp [D]; omega), if_neg (by simp), mark0 b1, bind1_some]
        rfl
  obtain ⟨H2, sg, l1, l2, l3, l4⟩ := lp
  refine ⟨H2, sg, ?_⟩
  unfold emit_Code_Finish
  rw [pbnd_at, h, bind1_some, if_neg (by simp [D]), bnd_def, bnd_def, ← hH1, c1, bind1_some, list_spec (cod_marks c1) (by simp [D]), bind1_some]
  show bind1 (loopO (fun (x : Int × Heap) => emit_Code_Finish_L1 [⟨0, -1⟩] i 0 H.length x.1 x.2) (0, H1)) _ = _
  rw [l1, bind1_some, l2, bind1_some]
  show bind1 (app 4 [] ws) _ = _
  rw [app_some (by simp; omega), bind1_some]
  show bind1 (app 32 [] fx) _ = _
  rw [app_some (by simp; omega), bind1_some, list_spec l3 (by omega), bind1_some]
  rfl
theorem ended_gn (G : Gn H i g (D ws d m 0) L Pr Fx) (hl : ws.length < 16000) (n : Int) : ∃ H', law19_ended H (.at g 0) n = some (H', ws ++ [16777216], true) := by
  obtain ⟨H1, e1, G1⟩ := reg_gn G enc_halt (show ws.length < 16384 by omega)
  have G1 : Gn H1 i g (D (ws ++ [16777216]) d m 0) L Pr Fx := G1
  obtain ⟨H2, sg, e2⟩ := finish_gn G1 (by simp; omega) (by simp)
  refine ⟨H2, ?_⟩
  unfold law19_ended
  rw [pbnd_at, G.gen, bind1_some]
  show bind2 (emit_Code_Reg H (.at i 0) 1 0) _ = _
  rw [e1, bind2_some, G1.gen, bind1_some]
  show bind3 (emit_Code_Finish H1 (.at i 0)) _ = _
  rw [e2, bind3_some, if_neg (by simp), app_some (by simp; omega), bind1_some, List.nil_append]
  have lp : loopO (fun (x : List Int × Int) => law19_ended_L1 ⟨ws ++ [16777216], [], sg⟩ n x.1 x.2) (ws ++ [16777216], 0) = some (.inl (ws ++ [16777216])) := by
    refine loopO_out ?_
    show law19_ended_L1 ⟨ws ++ [16777216], [], sg⟩ n (ws ++ [16777216]) 0 = _
    unfold law19_ended_L1
    rw [if_neg (by simp)]
  rw [lp, bind1_some, sum2_inl]
theorem enc_st0 : instr_Encode ⟨19, 0, 15, 0, 0⟩ = some (319750144, 0) := by kernel_rfl
theorem enc_ld1 : instr_Encode ⟨18, 1, 15, 0, 0⟩ = some (304021504, 0) := by kernel_rfl
theorem depth_gn (G : Gn H i g c L Pr Fx) : emit_Code_Depth H (.at i 0) = some c.depth_ := by
  unfold emit_Code_Depth; rw [pbnd_at, G.code]; rfl
theorem wait_gn (G : Gn H i g (D ws d m e fx) L Pr Fx) (hl : ws.length < 16000) (h0 : 0 ≤ d) (h1 : d < 32) :
    ∃ H', item_Gen_Wait H (.at g 0) = some H' ∧ Gn H' i g (D (ws ++ [100663292, 319750144]) (d + 1) (if d + 1 > m then d + 1 else m) e fx) L Pr Fx := by
  obtain ⟨H1, e1, G1⟩ := push_gn G enc_st0 hl h0 (by omega)
  refine ⟨H1, ?_, G1⟩
  unfold item_Gen_Wait
  rw [pbnd_at, G.gen, bind1_some]
  show bind1 (emit_Code_Depth H (.at i 0)) _ = _
  rw [depth_gn G, bind1_some, if_neg (by show ¬ (decide (d ≥ 32) = true); simp; omega)]
  unfold item_Gen_Wait_j1
  rw [G.gen, bind1_some]
  show bind1 (emit_Code_Push H (.at i 0) 0) _ = _
  rw [e1]; rfl
end
end Go.Proofs.Abs
/- Bits of words, as numbers. -/
namespace Go.Proofs.Abs
open Go
set_option linter.unusedVariables false
set_option linter.unusedSimpArgs false
theorem ofInt_nat (a : Nat) (h : a < 4294967296) : (BitVec.ofInt 32 (a : Int)).toNat = a := by
  rw [BitVec.toNat_ofInt]
  have : ((a : Int) % ((2 ^ 32 : Nat) : Int)) = (a : Int) := Int.emod_eq_of_lt (by omega) (by simp; omega)
  rw [this]; simp
theorem or_nat (a b : Nat) (ha : a < 4294967296) (hb : b < 4294967296) : bitsOf .or .u32 (a : Int) (b : Int) = ((a ||| b : Nat) : Int) := by
  have h : a ||| b < 4294967296 := Nat.or_lt_two_pow (n := 32) ha hb
  show IntKind.u32.wrap ((BitVec.ofInt 32 (a : Int) ||| BitVec.ofInt 32 (b : Int)).toNat : Int) = _
  rw [BitVec.toNat_or, ofInt_nat a ha, ofInt_nat b hb, wrap_u32 _ (by omega) (by omega)]
theorem and_nat (a b : Nat) (ha : a < 4294967296) (hb : b < 4294967296) : bitsOf .and .u32 (a : Int) (b : Int) = ((a &&& b : Nat) : Int) := by
  have h : a &&& b < 4294967296 := Nat.lt_of_le_of_lt Nat.and_le_left ha
  show IntKind.u32.wrap ((BitVec.ofInt 32 (a : Int) &&& BitVec.ofInt 32 (b : Int)).toNat : Int) = _
  rw [BitVec.toNat_and, ofInt_nat a ha, ofInt_nat b hb, wrap_u32 _ (by omega) (by omega)]
theorem or_part (k : Nat) (x b : Int) (h0 : 0 ≤ x) (hb0 : 0 ≤ b) (hb : b < 2 ^ k) (h : x * 2 ^ k + b < 4294967296) : bitsOf .or .u32 (x * 2 ^ k) b = x * 2 ^ k + b := by
  obtain ⟨m, rfl⟩ : ∃ m : Nat, x = m := ⟨x.toNat, by omega⟩
  obtain ⟨n, rfl⟩ : ∃ n : Nat, b = n := ⟨b.toNat, by omega⟩
  have hn : n < 2 ^ k := by exact_mod_cast hb
  have e0 : ((m : Int) * 2 ^ k + n) = ((m * 2 ^ k + n : Nat) : Int) := by simp
  rw [e0] at h
  have hs : m * 2 ^ k + n < 4294967296 := Int.ofNat_lt.1 h
  clear h e0
  have e : ((m : Int) * 2 ^ k) = ((m * 2 ^ k : Nat) : Int) := by simp
  rw [e, or_nat _ _ (by omega) (by omega), ← Nat.shiftLeft_eq, ← Nat.shiftLeft_add_eq_or_of_lt hn]
  simp
theorem and_low (k : Nat) (a : Int) (h0 : 0 ≤ a) (h : a < 4294967296) (hk : k ≤ 31) : bitsOf .and .u32 a ((2 ^ k - 1 : Nat) : Int) = a % 2 ^ k := by
  obtain ⟨n, rfl⟩ : ∃ n : Nat, a = n := ⟨a.toNat, by omega⟩
  have p : 2 ^ k ≤ 2 ^ 31 := Nat.pow_le_pow_right (by decide) hk
  rw [and_nat _ _ (by omega) (by omega), Nat.and_two_pow_sub_one_eq_mod]
  simp
theorem and_16 (a : Int) (h0 : 0 ≤ a) (h : a < 4294967296) : bitsOf .and .u32 a 65535 = a % 65536 := and_low 16 a h0 h (by decide)
theorem wrap_mod (n : Int) : IntKind.u32.wrap n = n % 4294967296 := by
  simp only [IntKind.wrap, IntKind.bits, IntKind.signed]
  simp
/-- the fields of a word -/
theorem word_of (op a b m c : Int) (h1 : 0 ≤ op) (h2 : op < 128) (h3 : 0 ≤ a) (h4 : a < 16) (h5 : 0 ≤ b) (h6 : b < 16) (h7 : 0 ≤ c) (h8 : c < 16) (h9 : m = 0 ∨ c = 0) :
    bitsOf .or .u32 (bitsOf .or .u32 (bitsOf .or .u32 (bitsOf .or .u32 (IntKind.wrap .u32 ((IntKind.wrap .u32 op) * 2 ^ 24)) (IntKind.wrap .u32 ((IntKind.wrap .u32 a) * 2 ^ 20))) (IntKind.wrap .u32 ((IntKind.wrap .u32 b) * 2 ^ 16))) (bitsOf .and .u32 (IntKind.wrap .u32 m) 65535)) (IntKind.wrap .u32 c)
      = op * 16777216 + a * 1048576 + b * 65536 + m % 65536 + c := by
  rw [wrap_u32 op h1 (by omega), wrap_u32 a h3 (by omega), wrap_u32 b h5 (by omega), wrap_u32 c h7 (by omega), wrap_u32 (op * 2 ^ 24) (by omega) (by omega), wrap_u32 (a * 2 ^ 20) (by omega) (by omega), wrap_u32 (b * 2 ^ 16) (by omega) (by omega),
    and_16 _ (by rw [wrap_mod]; omega) (by rw [wrap_mod]; omega), wrap_mod]
  rw [or_part 24 op (a * 2 ^ 20) h1 (by omega) (by omega) (by omega)]
  have e1 : op * 2 ^ 24 + a * 2 ^ 20 = (op * 16 + a) * 2 ^ 20 := by omega
  rw [e1, or_part 20 (op * 16 + a) (b * 2 ^ 16) (by omega) (by omega) (by omega) (by omega)]
  have e2 : (op * 16 + a) * 2 ^ 20 + b * 2 ^ 16 = (op * 256 + a * 16 + b) * 2 ^ 16 := by omega
  rw [e2, or_part 16 (op * 256 + a * 16 + b) (m % 4294967296 % 65536) (by omega) (by omega) (by omega) (by omega)]
  rcases h9 with rfl | rfl
  · have e3 : (op * 256 + a * 16 + b) * 2 ^ 16 + 0 % 4294967296 % 65536 = (op * 4096 + a * 256 + b * 16 + 0) * 2 ^ 12 := by omega
    have e4 : (op * 4096 + a * 256 + b * 16 + 0) * 2 ^ 12 = ((op * 4096 + a * 256 + b * 16 + 0) * 2 ^ 8) * 2 ^ 4 := by omega
    rw [e3, e4, or_part 4 _ c (by omega) h7 (by omega) (by omega)]
    omega
  · have e3 : (op * 256 + a * 16 + b) * 2 ^ 16 + m % 4294967296 % 65536 = ((op * 256 + a * 16 + b) * 2 ^ 16 + m % 4294967296 % 65536) * 2 ^ 0 := by omega
    rw [e3, or_part 0 _ 0 (by omega) (by omega) (by omega) (by omega)]
    omega
end Go.Proofs.Abs
/- What a word is, reckoned: the document's decoding without its loop. -/
namespace Go.Proofs.Abs
open Go
set_option linter.unusedVariables false
set_option linter.unusedSimpArgs false
theorem power_spec (n : Nat) (hn : n ≤ 32) : ref01_Power (n : Int) = some (2 ^ n) := by
  have go : ∀ (k : Nat) (a j : Int), j + k = n → 0 ≤ j → 0 ≤ a → a * 2 ^ k ≤ 4294967296 → loopO (fun (x : Int × Int) => ref01_Power_L1 (n : Int) x.1 x.2) (a, j) = some (a * 2 ^ k) := by
    intro k
    induction k with
    | zero =>
      intro a j h1 h2 h3 h4
      obtain rfl : j = n := by omega
      refine loopO_out ?_
      show ref01_Power_L1 (n : Int) a n = _
      unfold ref01_Power_L1; rw [if_neg (by simp)]; simp
    | succ k ih =>
      intro a j h1 h2 h3 h4
      have e : a * 2 ^ (k + 1) = a * 2 * 2 ^ k := by rw [Int.pow_succ, Int.mul_comm (2 ^ k) 2, ← Int.mul_assoc]
      have p : (1 : Int) ≤ 2 ^ k := Int.pow_pos (by decide)
      have le : a * 2 ≤ 4294967296 := by
        rw [e] at h4
        have := Int.mul_le_mul_of_nonneg_left p (show 0 ≤ a * 2 by omega)
        omega
      rw [loopO_go (f := fun (x : Int × Int) => ref01_Power_L1 (n : Int) x.1 x.2) (s' := (a * 2, j + 1))]
      · rw [ih (a * 2) (j + 1) (by omega) (by omega) (by omega) (by rw [← e]; exact h4), e]
      · show ref01_Power_L1 (n : Int) a j = _
        unfold ref01_Power_L1
        rw [if_pos (by simp; omega), wrap_i64 _ (by omega) (by omega), wrap_i64 _ (by omega) (by omega)]
  unfold ref01_Power
  have p : (2 : Int) ^ n ≤ 4294967296 := by
    have : (2 : Nat) ^ n ≤ 2 ^ 32 := Nat.pow_le_pow_right (by decide) hn
    have e : ((2 : Int) ^ n) = ((2 ^ n : Nat) : Int) := by simp
    rw [e]; exact Int.ofNat_le.2 this
  have := go n 1 0 (by omega) (by omega) (by omega) (by rw [Int.one_mul]; exact p)
  rw [this]; simp [bind1_some]
noncomputable def sextC (w k : Int) : Option Int := bind1 (remI .i64 (IntKind.wrap .i64 w) (2 ^ k.toNat)) fun v4 =>
  if (decide (v4 ≥ (IntKind.wrap .i64 (Int.tdiv (2 ^ k.toNat) 2)))) = true then (ref01_Sext_j1 (IntKind.wrap .i64 (v4 - 2 ^ k.toNat)))
  else (ref01_Sext_j1 v4)
theorem sext_eq (w : Int) (k : Nat) (h0 : 1 ≤ k) (hk : k ≤ 32) : ref01_Sext w k = sextC w k := by
  unfold ref01_Sext
  rw [if_neg (by simp; omega)]
  have : (if (32 : Int) < k then (32 : Int) else k) = k := by rw [if_neg (by omega)]
  rw [this, power_spec k hk, bind1_some]; rfl
theorem sext16 (w : Int) : ref01_Sext w 16 = sextC w 16 := sext_eq w 16 (by decide) (by decide)
theorem sext24 (w : Int) : ref01_Sext w 24 = sextC w 24 := sext_eq w 24 (by decide) (by decide)
noncomputable def decC_j5 (p0 : Int) (j11 : T_ref02_Instr) : Option (T_ref02_Instr × Int) :=
  bind2 (ref02_Encode j11) fun r12 r13 =>
  if ((r13 != 0) || (r12 != p0)) = true then (some ((T_ref02_Instr.mk 0 0 0 0 0), 21))
  else (some (j11, 0))
noncomputable def decC_j7 (p0 : Int) (j21 : T_ref02_Instr) : Option (T_ref02_Instr × Int) :=
  decC_j5 p0 j21
noncomputable def decC_j8 (p0 : Int) (j23 : T_ref02_Instr) : Option (T_ref02_Instr × Int) :=
  decC_j7 p0 j23
noncomputable def decC_j6 (p0 : Int) (j9 : T_ref02_Instr) (r1 : Int) (j20 : Bool) : Option (T_ref02_Instr × Int) :=
  if j20 = true then (decC_j7 p0 (T_ref02_Instr.mk j9.Op_ j9.A_ j9.B_ j9.C_ (IntKind.wrap .i64 (Int.tmod p0 65536))))
  else (if (r1 == 7) = true then (bind1 (sextC p0 24) fun r25 =>
  decC_j8 p0 (T_ref02_Instr.mk j9.Op_ j9.A_ j9.B_ j9.C_ (IntKind.wrap .i64 r25)))
  else (decC_j8 p0 j9))
noncomputable def decC_j9 (p0 : Int) (j9 : T_ref02_Instr) (r1 : Int) (j28 : Bool) : Option (T_ref02_Instr × Int) :=
  decC_j6 p0 j9 r1 j28
noncomputable def decC_j4 (p0 : Int) (j9 : T_ref02_Instr) (r1 : Int) (j10 : Bool) : Option (T_ref02_Instr × Int) :=
  if j10 = true then (bind1 (sextC p0 16) fun r18 =>
  decC_j5 p0 (T_ref02_Instr.mk j9.Op_ j9.A_ j9.B_ j9.C_ (IntKind.wrap .i64 r18)))
  else (if (r1 == 2) = true then (decC_j6 p0 j9 r1 (r1 == 2))
  else (if (r1 == 4) = true then (decC_j9 p0 j9 r1 (r1 == 4))
  else (decC_j9 p0 j9 r1 (r1 == 8))))
noncomputable def decC_j3 (r1 : Int) (p0 : Int) (j9 : T_ref02_Instr) : Option (T_ref02_Instr × Int) :=
  if (r1 == 1) = true then (decC_j4 p0 j9 r1 (r1 == 1))
  else (decC_j4 p0 j9 r1 (r1 == 3))
noncomputable def decC_j2 (r5 : Bool) (r1 : Int) (p0 : Int) (j8 : T_ref02_Instr) : Option (T_ref02_Instr × Int) :=
  if r5 = true then (decC_j3 r1 p0 (T_ref02_Instr.mk j8.Op_ j8.A_ j8.B_ (IntKind.wrap .i64 (Int.tmod p0 16)) j8.Imm_))
  else (decC_j3 r1 p0 j8)
noncomputable def decC_j1 (r4 : Bool) (r5 : Bool) (r1 : Int) (p0 : Int) (j7 : T_ref02_Instr) : Option (T_ref02_Instr × Int) :=
  if r4 = true then (decC_j2 r5 r1 p0 (T_ref02_Instr.mk j7.Op_ j7.A_ (IntKind.wrap .i64 (Int.tmod (IntKind.wrap .u32 (Int.tdiv p0 65536)) 16)) j7.C_ j7.Imm_))
  else (decC_j2 r5 r1 p0 j7)
noncomputable def decC  (p0 : Int) : Option (T_ref02_Instr × Int) :=
  bind1 (ref02_Shape (IntKind.wrap .i64 (IntKind.wrap .u32 (Int.tdiv p0 16777216)))) fun r1 =>
  bind3 (ref02_has r1) fun r3 r4 r5 =>
  if r3 = true then (decC_j1 r4 r5 r1 p0 (T_ref02_Instr.mk (IntKind.wrap .i64 (IntKind.wrap .u32 (Int.tdiv p0 16777216))) (IntKind.wrap .i64 (Int.tmod (IntKind.wrap .u32 (Int.tdiv p0 1048576)) 16)) 0 0 0))
  else (decC_j1 r4 r5 r1 p0 (T_ref02_Instr.mk (IntKind.wrap .i64 (IntKind.wrap .u32 (Int.tdiv p0 16777216))) 0 0 0 0))
theorem decC_j5_eq (p0 : Int) (j11 : T_ref02_Instr) : ref02_Decode_j5 p0 j11 = decC_j5 p0 j11 := by
  unfold ref02_Decode_j5 decC_j5
  simp only [sext16, sext24]
theorem decC_j7_eq (p0 : Int) (j21 : T_ref02_Instr) : ref02_Decode_j7 p0 j21 = decC_j7 p0 j21 := by
  unfold ref02_Decode_j7 decC_j7
  simp only [sext16, sext24, decC_j5_eq]
theorem decC_j8_eq (p0 : Int) (j23 : T_ref02_Instr) : ref02_Decode_j8 p0 j23 = decC_j8 p0 j23 := by
  unfold ref02_Decode_j8 decC_j8
  simp only [sext16, sext24, decC_j5_eq, decC_j7_eq]
theorem decC_j6_eq (p0 : Int) (j9 : T_ref02_Instr) (r1 : Int) (j20 : Bool) : ref02_Decode_j6 p0 j9 r1 j20 = decC_j6 p0 j9 r1 j20 := by
  unfold ref02_Decode_j6 decC_j6
  simp only [sext16, sext24, decC_j5_eq, decC_j7_eq, decC_j8_eq]
theorem decC_j9_eq (p0 : Int) (j9 : T_ref02_Instr) (r1 : Int) (j28 : Bool) : ref02_Decode_j9 p0 j9 r1 j28 = decC_j9 p0 j9 r1 j28 := by
  unfold ref02_Decode_j9 decC_j9
  simp only [sext16, sext24, decC_j5_eq, decC_j7_eq, decC_j8_eq, decC_j6_eq]
theorem decC_j4_eq (p0 : Int) (j9 : T_ref02_Instr) (r1 : Int) (j10 : Bool) : ref02_Decode_j4 p0 j9 r1 j10 = decC_j4 p0 j9 r1 j10 := by
  unfold ref02_Decode_j4 decC_j4
  simp only [sext16, sext24, decC_j5_eq, decC_j7_eq, decC_j8_eq, decC_j6_eq, decC_j9_eq]
theorem decC_j3_eq (r1 : Int) (p0 : Int) (j9 : T_ref02_Instr) : ref02_Decode_j3 r1 p0 j9 = decC_j3 r1 p0 j9 := by
  unfold ref02_Decode_j3 decC_j3
  simp only [sext16, sext24, decC_j5_eq, decC_j7_eq, decC_j8_eq, decC_j6_eq, decC_j9_eq, decC_j4_eq]
theorem decC_j2_eq (r5 : Bool) (r1 : Int) (p0 : Int) (j8 : T_ref02_Instr) : ref02_Decode_j2 r5 r1 p0 j8 = decC_j2 r5 r1 p0 j8 := by
  unfold ref02_Decode_j2 decC_j2
  simp only [sext16, sext24, decC_j5_eq, decC_j7_eq, decC_j8_eq, decC_j6_eq, decC_j9_eq, decC_j4_eq, decC_j3_eq]
theorem decC_j1_eq (r4 : Bool) (r5 : Bool) (r1 : Int) (p0 : Int) (j7 : T_ref02_Instr) : ref02_Decode_j1 r4 r5 r1 p0 j7 = decC_j1 r4 r5 r1 p0 j7 := by
  unfold ref02_Decode_j1 decC_j1
  simp only [sext16, sext24, decC_j5_eq, decC_j7_eq, decC_j8_eq, decC_j6_eq, decC_j9_eq, decC_j4_eq, decC_j3_eq, decC_j2_eq]
theorem decC_eq (p0 : Int) : ref02_Decode p0 = decC p0 := by
  unfold ref02_Decode decC
  simp only [sext16, sext24, decC_j5_eq, decC_j7_eq, decC_j8_eq, decC_j6_eq, decC_j9_eq, decC_j4_eq, decC_j3_eq, decC_j2_eq, decC_j1_eq]
end Go.Proofs.Abs
/- The document's machine that runs words, in plain Lean. -/
namespace Go.Proofs.Abs
open Go
set_option linter.unusedVariables false
set_option linter.unusedSimpArgs false
theorem room_bigR : 1048576 ≤ roomBytes := Nat.le_of_ble_eq_true (by kernel_rfl)
theorem with_loop (p2 : List Int) (k : Nat) : ∀ (n : Nat) (p1 : Int) (a5 : List Int) (a6 : Int), 0 ≤ a6 → a6 + n = p2.length → 0 ≤ p1 → p1 + p2.length ≤ a5.length → (a5.length : Int) ≤ 4294967295 →
    loopO (fun (x : List Int × Int) => ref03_with_L1 p2 p1 x.1 x.2) (a5, a6) = some (setAt a5 (p1 + a6).toNat (p2.drop a6.toNat))
  | 0, p1, a5, a6, h0, h1, h2, h3, h4 => by
    rw [loopO_out (r := a5)]
    · have : p2.drop a6.toNat = [] := List.drop_eq_nil_of_le (by omega)
      rw [this]
      simp [setAt]
    · show ref03_with_L1 p2 p1 a5 a6 = _
      unfold ref03_with_L1
      have c : (decide (a6 < (p2.length : Int))) = false := by simp; omega
      simp [c]
  | n + 1, p1, a5, a6, h0, h1, h2, h3, h4 => by
    have hlt : a6 < p2.length := by omega
    have e : ref03_with_L1 p2 p1 a5 a6 = some (.inl (a5.set (p1 + a6).toNat (p2[a6.toNat]'(by omega)), a6 + 1)) := by
      unfold ref03_with_L1
      have c : (decide (a6 < (p2.length : Int))) = true := by simp; omega
      rw [if_pos c, gi_some h0 hlt, bind1_some, wrap_i64 (p1 + a6) (by omega) (by omega), gi_some (by omega) (by omega), bind1_some, si_some (by omega) (by omega), bind1_some, wrap_i64 (a6 + 1) (by omega) (by omega)]
    rw [loopO_go (s' := (a5.set (p1 + a6).toNat (p2[a6.toNat]'(by omega)), a6 + 1)) e]
    rw [with_loop p2 k n p1 _ (a6 + 1) (by omega) (by omega) h2 (by simpa using h3) (by simpa using h4)]
    congr 1
    have e1 : (p1 + (a6 + 1)).toNat = (p1 + a6).toNat + 1 := by omega
    have e2 : (a6 + 1).toNat = a6.toNat + 1 := by omega
    have e3 : p2.drop a6.toNat = p2[a6.toNat]'(by omega) :: p2.drop (a6.toNat + 1) := by rw [List.drop_eq_getElem_cons]
    rw [e1, e2, e3]
    apply List.ext_getElem?
    intro j
    simp only [setAt, List.getElem?_append, List.length_append, List.length_take, List.getElem?_take, List.getElem?_drop, List.length_drop, List.length_set, List.getElem?_set, List.length_cons, List.getElem?_cons]
    grind
theorem with_spec {ws : List Int} {E : Arr 5 Int} (p1 : Int) (p2 : List Int) (h0 : 0 ≤ p1) (h1 : p1 + p2.length ≤ ws.length) (h2 : ws.length ≤ 262144) : ref03_with ⟨E, ws⟩ p1 p2 = some ⟨E, setAt ws p1.toNat p2⟩ := by
  unfold ref03_with
  have hm : mks 4 (ws.length : Int) (ws.length : Int) (0 : Int) = some (List.replicate ws.length 0) := by
    unfold mks
    rw [if_pos ⟨by omega, by omega, by simp [roomBytes]; omega, by omega⟩]
    simp
  simp only [hm, bind1_some, bnd_def]
  have hc : cpy (List.replicate ws.length (0 : Int)) 0 ws = ws := by
    simp [cpy, setAt]
  rw [hc, with_loop p2 0 p2.length p1 ws 0 (by omega) (by omega) h0 h1 (by omega), bind1_some]
  simp

/-- a memory: words, and a stack of zeros -/
def endsR (n : Int) : Arr 5 Int := arrL [4 * n, 4 * n, 4 * n, 4 * n, 4 * n + 256]
def memR (n : Nat) (W : List Int) : T_ref03_Mem := ⟨endsR n, W⟩
theorem fill_spec {E : Arr 5 Int} {W l : List Int} (k : Nat) (hk : k + l.length ≤ W.length) (hW : W.length ≤ 20000) : ref03_Fill ⟨E, W⟩ (4 * (k : Int)) l = some (⟨E, setAt W k l⟩, 0) := by
  unfold ref03_Fill
  simp only [tmod_pos (show 0 ≤ 4 * (k : Int) by omega), tdiv_pos (show 0 ≤ 4 * (k : Int) by omega)]
  have e1 : 4 * (k : Int) % 4 = 0 := by omega
  have e2 : 4 * (k : Int) / 4 = (k : Int) := by omega
  rw [e1, e2, wrap_u32 (k : Int) (by omega) (by omega), wrap_i64 (k : Int) (by omega) (by omega), wrap_i64 _ (by omega) (by omega), if_neg (by simp), if_neg (by simp; omega), with_spec (k : Int) l (by omega) (by omega) (by omega), bind1_some]
  simp
theorem fetch_spec {n k : Nat} {W : List Int} {w : Int} (hk : k < n) (hn : n ≤ 16000) (hw : W[k]? = some w) : ref03_Fetch (memR n W) (4 * (k : Int)) = some (w, 0) := by
  have hl : k < W.length := (List.getElem?_eq_some_iff.1 hw).1
  unfold ref03_Fetch ref03_Load
  simp only [tmod_pos (show 0 ≤ 4 * (k : Int) by omega), tdiv_pos (show 0 ≤ 4 * (k : Int) by omega)]
  have e1 : 4 * (k : Int) % 4 = 0 := by omega
  have e2 : 4 * (k : Int) / 4 = (k : Int) := by omega
  have e3 : (memR n W).Ends_.g 0 = 4 * (n : Int) := rfl
  have e4 : (memR n W).W_ = W := rfl
  rw [e1, e2, e4, wrap_u32 (k : Int) (by omega) (by omega), wrap_i64 (k : Int) (by omega) (by omega), if_neg (by simp), if_neg (by simp; omega), gi_some (by omega) (by omega), bind1_some, bind2_some, e3, if_neg (by simp; omega)]
  have : W[((k : Nat) : Int).toNat]'(by simpa using hl) = w := by
    have h : W[k]'hl = w := by rw [List.getElem?_eq_getElem hl] at hw; exact Option.some.inj hw
    simpa using h
  rw [this]
/-! one step, and many -/
def tick (c : T_ref04_Cpu) : T_ref04_Cpu := ⟨c.R_, c.PC_, c.EPC_, c.Cause_, c.State_, c.Why_, IntKind.wrap .i64 (c.Steps_ + 1), c.Taken_, c.Out_, c.Entry_, c.Vector_, c.Guard_, c.Limit_, c.Input_⟩
theorem step_spec {c c' : T_ref04_Cpu} {m m' : T_ref03_Mem} {w : Int} {x : T_ref02_Instr} (h0 : c.State_ = 0) (h1 : ref03_Fetch m c.PC_ = some (w, 0)) (h2 : ref02_Decode w = some (x, 0)) (h3 : ref04_do (tick c) m x = some (c', m')) : ref04_Step c m = some (c', m') := by
  unfold ref04_Step
  rw [if_neg (by simp [h0]), h1, bind2_some, if_neg (by simp), h2, bind2_some, if_neg (by simp)]
  show bind2 (ref04_do (tick c) m x) _ = _
  rw [h3]; rfl
def RunTo (p a : Int) (m : T_ref03_Mem) (c : T_ref04_Cpu) (r : T_ref03_Mem × T_ref04_Cpu) : Prop := loopO (fun (x : Int × T_ref03_Mem × T_ref04_Cpu) => ref19_Run_L1 p x.1 x.2.1 x.2.2) (a, m, c) = some r
theorem run_go {p a : Int} {m m' : T_ref03_Mem} {c c' : T_ref04_Cpu} {r} (ha : 0 ≤ a) (hp : a < p) (hp2 : p ≤ 1000000) (h0 : c.State_ = 0) (h : ref04_Step c m = some (c', m')) (k : RunTo p (a + 1) m' c' r) : RunTo p a m c r := by
  unfold RunTo
  rw [loopO_go (f := fun (x : Int × T_ref03_Mem × T_ref04_Cpu) => ref19_Run_L1 p x.1 x.2.1 x.2.2) (s' := (a + 1, m', c'))]
  · exact k
  · show ref19_Run_L1 p a m c = _
    unfold ref19_Run_L1
    rw [if_pos (by simp [h0, hp]), h, bind2_some, wrap_i64 _ (by omega) (by omega)]
theorem run_end {p a : Int} {m : T_ref03_Mem} {c : T_ref04_Cpu} (h : c.State_ ≠ 0) : RunTo p a m c (m, c) := by
  refine loopO_out ?_
  show ref19_Run_L1 p a m c = _
  unfold ref19_Run_L1
  rw [if_neg (by simp [h])]
/-- where it begins -/
def cpu0 (n : Int) : T_ref04_Cpu := ⟨(arrL [0, 0, 0, 0, 0, 0, 0, 0, 0, 0, 0, 0, 0, 4 * n + 192, 0, 4 * n + 256] : Arr 16 Int), 4, 0, 0, 0, 0, 0, 0, [], 4, 0, 4, 4 * n, []⟩
theorem arr5 {a b c d e a' b' c' d' e' : Int} (h1 : a = a') (h2 : b = b') (h3 : c = c') (h4 : d = d') (h5 : e = e') : (arrL [a, b, c, d, e] : Arr 5 Int) = arrL [a', b', c', d', e'] := by subst h1 h2 h3 h4 h5; rfl
theorem arrR {x y x' y' : Int} (h1 : x = x') (h2 : y = y') : (arrL [0, 0, 0, 0, 0, 0, 0, 0, 0, 0, 0, 0, 0, x, 0, y] : Arr 16 Int) = arrL [0, 0, 0, 0, 0, 0, 0, 0, 0, 0, 0, 0, 0, x', 0, y'] := by subst h1 h2; rfl
theorem run_spec {ws : List Int} (hl : ws.length ≤ 15000) {q : Ptr} {r : T_ref03_Mem × T_ref04_Cpu} (h : RunTo 5000 0 (memR ws.length (ws ++ List.replicate 64 0)) (cpu0 ws.length) r) : law19_run q ws = some r.2 := by
  obtain ⟨n, hn⟩ : ∃ n, n = ws.length := ⟨_, rfl⟩
  rw [← hn] at h hl
  obtain ⟨z, hz⟩ : ∃ z : List Int, z = List.replicate 64 0 := ⟨_, rfl⟩
  have lz : z.length = 64 := by rw [hz, List.length_replicate]
  rw [← hz] at h
  have hk : mks 4 64 64 (0 : Int) = some z := by
    unfold mks
    rw [if_pos ⟨by omega, by omega, by have := room_bigR; omega, by omega⟩, hz]; rfl
  have hk2 : mks 4 ((n : Int) + 64) ((n : Int) + 64) (0 : Int) = some (List.replicate (n + 64) 0) := by
    unfold mks
    rw [if_pos ⟨by omega, by omega, by have := room_bigR; omega, by omega⟩]
    have : ((n : Int) + 64).toNat = n + 64 := by omega
    rw [this]
  have w0 : IntKind.wrap .i64 (4 * (n : Int)) = 4 * (n : Int) := wrap_i64 _ (by omega) (by omega)
  have w1 : IntKind.wrap .u32 (IntKind.wrap .i64 (4 * (n : Int))) = 4 * (n : Int) := by rw [w0]; exact wrap_u32 _ (by omega) (by omega)
  have w2 : IntKind.wrap .u32 (IntKind.wrap .i64 (4 * (([] : List Int).length : Int))) = 0 := rfl
  have w3 : IntKind.wrap .u32 (IntKind.wrap .u32 (IntKind.wrap .i64 (4 * (n : Int))) + IntKind.wrap .u32 (IntKind.wrap .i64 (4 * (([] : List Int).length : Int)))) = 4 * (n : Int) := by rw [w1, w2]; exact (wrap_u32 _ (by omega) (by omega)).trans (by omega)
  have w4 : IntKind.wrap .u32 (IntKind.wrap .u32 (IntKind.wrap .u32 (IntKind.wrap .i64 (4 * (n : Int))) + IntKind.wrap .u32 (IntKind.wrap .i64 (4 * (([] : List Int).length : Int)))) + IntKind.wrap .u32 0) = 4 * (n : Int) := by
    rw [w3]; exact (wrap_u32 _ (by show 0 ≤ 4 * (n : Int) + 0; omega) (by show 4 * (n : Int) + 0 ≤ _; omega)).trans (by show 4 * (n : Int) + 0 = _; omega)
  have w5 : IntKind.wrap .u32 (IntKind.wrap .i64 (4 * (z.length : Int))) = 256 := by rw [lz]; rfl
  have w6 : IntKind.wrap .u32 (IntKind.wrap .u32 (IntKind.wrap .u32 (IntKind.wrap .u32 (IntKind.wrap .i64 (4 * (n : Int))) + IntKind.wrap .u32 (IntKind.wrap .i64 (4 * (([] : List Int).length : Int)))) + IntKind.wrap .u32 0) + IntKind.wrap .u32 (IntKind.wrap .i64 (4 * (z.length : Int)))) = 4 * (n : Int) + 256 := by
    rw [w4, w5]; exact wrap_u32 _ (by omega) (by omega)
  have w7 : IntKind.wrap .u32 (IntKind.wrap .i64 (IntKind.wrap .i64 (4 * (n : Int)) + 256)) = 4 * (n : Int) + 256 := by
    rw [w0, wrap_i64 _ (by omega) (by omega)]; exact wrap_u32 _ (by omega) (by omega)
  have w8 : IntKind.wrap .u32 (IntKind.wrap .u32 (IntKind.wrap .i64 (IntKind.wrap .i64 (4 * (n : Int)) + 256)) - 64) = 4 * (n : Int) + 192 := by
    rw [w7, wrap_u32 _ (by omega) (by omega)]; omega
  have g4 : (endsR n).g 4 = 4 * (n : Int) + 256 := rfl
  have w9 : IntKind.wrap .u32 (Int.tdiv (4 * (n : Int) + 256) 4) = (n : Int) + 64 := by rw [tdiv_pos (by omega), wrap_u32 _ (by omega) (by omega)]; omega
  have f1 : ref03_Fill ⟨endsR n, List.replicate (n + 64) 0⟩ 0 ws = some (⟨endsR n, ws ++ z⟩, 0) := by
    have : ref03_Fill ⟨endsR n, List.replicate (n + 64) 0⟩ (4 * ((0 : Nat) : Int)) ws = _ := fill_spec 0 (by simp; omega) (by simp; omega)
    refine Eq.trans this ?_
    have : setAt (List.replicate (n + 64) (0 : Int)) 0 ws = ws ++ z := by
      simp only [setAt, List.take_zero, List.nil_append, List.drop_replicate, Nat.zero_add, ← hn, hz]
      congr 2; omega
    rw [this]
  have f2 : ref03_Fill ⟨endsR n, ws ++ z⟩ (4 * (n : Int)) [] = some (⟨endsR n, ws ++ z⟩, 0) := by
    rw [fill_spec n (by simp; omega) (by simp; omega)]
    simp [setAt]
  have f3 : ref03_Fill ⟨endsR n, ws ++ z⟩ (4 * (n : Int)) z = some (⟨endsR n, ws ++ z⟩, 0) := by
    rw [fill_spec n (by simp; omega) (by simp; omega)]
    have : setAt (ws ++ z) n z = ws ++ z := by
      unfold setAt
      rw [hn, List.take_left', List.drop_eq_nil_of_le (by simp)]
      · simp
      · rfl
    rw [this]
  unfold law19_run
  rw [hk, bind1_some, ← hn, arrR w8 w7]
  unfold ref19_Run
  rw [← hn, arr5 w1 w1 w3 w4 w6, w4, w1]
  show bind2 (bind1 (ref03_New (endsR n)) _) _ = _
  unfold ref03_New
  rw [g4, w9, hk2, bind1_some, bind1_some, f1, bind2_some, f2, bind2_some, f3, bind2_some]
  show bind2 (bind1 (loopO (fun (x : Int × T_ref03_Mem × T_ref04_Cpu) => ref19_Run_L1 5000 x.1 x.2.1 x.2.2) (0, memR n (ws ++ z), cpu0 n)) _) _ = _
  have h' : loopO (fun (x : Int × T_ref03_Mem × T_ref04_Cpu) => ref19_Run_L1 5000 x.1 x.2.1 x.2.2) (0, memR n (ws ++ z), cpu0 n) = some r := h
  rw [h', bind1_some]
  rfl
end Go.Proofs.Abs
/- The document's machine, instruction by instruction. -/
namespace Go.Proofs.Abs
open Go
set_option linter.unusedVariables false
set_option linter.unusedSimpArgs false
def Arr.put {n : Nat} (a : Arr n Int) (j : Nat) (v : Int) : Arr n Int := ⟨a.l.set j v, by rw [List.length_set, a.h]⟩
theorem ga_g {n : Nat} {a : Arr n Int} {j : Nat} (h : j < n) : ga a (j : Int) = some (a.g j) := by
  unfold ga Arr.g
  have hl := a.h
  rw [if_pos (by omega)]
  have : ((j : Nat) : Int).toNat = j := by simp
  rw [this, List.getElem?_eq_getElem (by omega)]; rfl
theorem sa_put {n : Nat} {a : Arr n Int} {j : Nat} {v : Int} (h : j < n) : sa a (j : Int) v = some (a.put j v) := by
  unfold sa
  rw [if_pos ⟨by omega, by omega⟩]
  rfl
theorem put_same {n : Nat} {a : Arr n Int} {j : Nat} {v : Int} (h : j < n) : (a.put j v).g j = v := by
  unfold Arr.g Arr.put
  have hl := a.h
  simp [hl, h]
theorem put_other {n : Nat} {a : Arr n Int} {j k : Nat} {v : Int} (h : j ≠ k) : (a.put j v).g k = a.g k := by
  unfold Arr.g Arr.put
  simp [h]
/-- the machine at a word, that goes on -/
def cpS (R : Arr 16 Int) (k : Nat) (s : Int) (n : Nat) : T_ref04_Cpu := ⟨R, 4 * (k : Int), 0, 0, 0, 0, s, 0, [], 4, 0, 4, 4 * (n : Int), []⟩
/-- the machine at its end: by a trap, or not -/
def cpE (R : Arr 16 Int) (k : Nat) (s : Int) (n : Nat) (epc ca st : Int) : T_ref04_Cpu := ⟨R, 4 * (k : Int), epc, ca, st, 0, s, 0, [], 4, 0, 4, 4 * (n : Int), []⟩
section
variable {R : Arr 16 Int} {k n : Nat} {s t w : Int} {W : List Int} {r : T_ref03_Mem × T_ref04_Cpu}
theorem pc_next (h : k < 15000) : IntKind.wrap .u32 (4 * (k : Int) + 4) = 4 * ((k + 1 : Nat) : Int) := by rw [wrap_u32 _ (by omega) (by omega)]; omega
theorem ex_one {x : T_ref02_Instr} {c' : T_ref04_Cpu} {m' : T_ref03_Mem} (ht : 0 ≤ t) (ht1 : t < 4999) (hw : W[k]? = some w) (hd : ref02_Decode w = some (x, 0)) (hk : k < n) (hn : n ≤ 15000)
    (h3 : ref04_do (tick (cpS R k s n)) (memR n W) x = some (c', m')) (next : RunTo 5000 (t + 1) m' c' r) : RunTo 5000 t (memR n W) (cpS R k s n) r :=
  run_go ht (by omega) (by omega) rfl (step_spec rfl (fetch_spec hk (by omega) hw) hd h3) next
/-- it comes to an end, and there P holds -/
def ExR (P : T_ref04_Cpu → Prop) (t : Int) (m : T_ref03_Mem) (c : T_ref04_Cpu) : Prop := ∃ r, RunTo 5000 t m c r ∧ P r.2
theorem xr_one {P : T_ref04_Cpu → Prop} {x : T_ref02_Instr} {c' : T_ref04_Cpu} {m' : T_ref03_Mem} (ht : 0 ≤ t) (ht1 : t < 4999) (hw : W[k]? = some w) (hd : ref02_Decode w = some (x, 0)) (hk : k < n) (hn : n ≤ 15000)
    (h3 : ref04_do (tick (cpS R k s n)) (memR n W) x = some (c', m')) (next : ExR P (t + 1) m' c') : ExR P t (memR n W) (cpS R k s n) := by
  obtain ⟨r, h, p⟩ := next
  exact ⟨r, ex_one ht ht1 hw hd hk hn h3 h, p⟩
theorem xr_end {P : T_ref04_Cpu → Prop} {m : T_ref03_Mem} {c : T_ref04_Cpu} (h : c.State_ ≠ 0) (p : P c) : ExR P t m c := ⟨(m, c), run_end h, p⟩
theorem do_ldi {a : Nat} {v : Int} {m : T_ref03_Mem} (ha : a < 16) (hk : k < 15000) : ref04_do (tick (cpS R k s n)) m ⟨2, a, 0, 0, v⟩ = some (cpS (R.put a (IntKind.wrap .u32 v)) (k + 1) (IntKind.wrap .i64 (s + 1)) n, m) := by
  unfold ref04_do
  show bind1 (ga R a) _ = _
  rw [ga_g ha, bind1_some]
  show bind1 (ga R ((0 : Nat) : Int)) _ = _
  rw [ga_g (by omega), bind1_some, if_neg (by simp), if_neg (by simp), if_pos (by simp)]
  show bind1 (ga R a) _ = _
  rw [ga_g ha, bind1_some]
  show bind1 (sa R a (IntKind.wrap .u32 v)) _ = _
  rw [sa_put ha, bind1_some]
  unfold ref04_do_j1
  show some ((⟨_, IntKind.wrap .u32 (4 * (k : Int) + 4), _, _, _, _, _, _, _, _, _, _, _, _⟩ : T_ref04_Cpu), m) = _
  rw [pc_next hk]; rfl
theorem do_lui {a : Nat} {v : Int} {m : T_ref03_Mem} (ha : a < 16) (hk : k < 15000) : ref04_do (tick (cpS R k s n)) m ⟨3, a, 0, 0, v⟩ = some (cpS (R.put a (IntKind.wrap .u32 (IntKind.wrap .u32 v * 65536))) (k + 1) (IntKind.wrap .i64 (s + 1)) n, m) := by
  unfold ref04_do
  show bind1 (ga R a) _ = _
  rw [ga_g ha, bind1_some]
  show bind1 (ga R ((0 : Nat) : Int)) _ = _
  rw [ga_g (by omega), bind1_some, if_neg (by simp), if_neg (by simp), if_neg (by simp), if_pos (by simp)]
  show bind1 (ga R a) _ = _
  rw [ga_g ha, bind1_some]
  show bind1 (sa R a _) _ = _
  rw [sa_put ha, bind1_some]
  unfold ref04_do_j2 ref04_do_j1
  show some ((⟨_, IntKind.wrap .u32 (4 * (k : Int) + 4), _, _, _, _, _, _, _, _, _, _, _, _⟩ : T_ref04_Cpu), m) = _
  rw [pc_next hk]; rfl
theorem do_ori {a b : Nat} {v : Int} {m : T_ref03_Mem} (ha : a < 16) (hb : b < 16) (hk : k < 15000) : ref04_do (tick (cpS R k s n)) m ⟨4, a, b, 0, v⟩ = some (cpS (R.put a (bitsOf .or .u32 (R.g b) (IntKind.wrap .u32 v))) (k + 1) (IntKind.wrap .i64 (s + 1)) n, m) := by
  unfold ref04_do
  show bind1 (ga R a) _ = _
  rw [ga_g ha, bind1_some]
  show bind1 (ga R b) _ = _
  rw [ga_g hb, bind1_some, if_neg (by simp), if_neg (by simp), if_neg (by simp), if_neg (by simp), if_pos (by simp)]
  show bind1 (ga R a) _ = _
  rw [ga_g ha, bind1_some]
  show bind1 (sa R a _) _ = _
  rw [sa_put ha, bind1_some]
  unfold ref04_do_j3 ref04_do_j2 ref04_do_j1
  show some ((⟨_, IntKind.wrap .u32 (4 * (k : Int) + 4), _, _, _, _, _, _, _, _, _, _, _, _⟩ : T_ref04_Cpu), m) = _
  rw [pc_next hk]; rfl
theorem do_addi {a b : Nat} {v : Int} {m : T_ref03_Mem} (ha : a < 16) (hb : b < 16) (hk : k < 15000) : ref04_do (tick (cpS R k s n)) m ⟨5, a, b, 0, v⟩ = some (cpS (R.put a (IntKind.wrap .u32 (R.g b + IntKind.wrap .u32 v))) (k + 1) (IntKind.wrap .i64 (s + 1)) n, m) := by
  unfold ref04_do
  show bind1 (ga R a) _ = _
  rw [ga_g ha, bind1_some]
  show bind1 (ga R b) _ = _
  rw [ga_g hb, bind1_some, if_neg (by simp), if_neg (by simp), if_neg (by simp), if_neg (by simp), if_neg (by simp), if_pos (by simp)]
  show bind1 (ga R a) _ = _
  rw [ga_g ha, bind1_some]
  show bind1 (sa R a _) _ = _
  rw [sa_put ha, bind1_some]
  unfold ref04_do_j4 ref04_do_j3 ref04_do_j2 ref04_do_j1
  show some ((⟨_, IntKind.wrap .u32 (4 * (k : Int) + 4), _, _, _, _, _, _, _, _, _, _, _, _⟩ : T_ref04_Cpu), m) = _
  rw [pc_next hk]; rfl
theorem do_three {o v : Int} {a b c : Nat} {m : T_ref03_Mem} (ho : 6 ≤ o) (ho2 : o ≤ 17) (ha : a < 16) (hb : b < 16) (hc : c < 16) (hk : k < 15000) (hr : ref04_reckon o (R.g b) (R.g c) = some (v, true)) :
    ref04_do (tick (cpS R k s n)) m ⟨o, a, b, c, 0⟩ = some (cpS (R.put a v) (k + 1) (IntKind.wrap .i64 (s + 1)) n, m) := by
  unfold ref04_do
  show bind1 (ga R a) _ = _
  rw [ga_g ha, bind1_some]
  show bind1 (ga R b) _ = _
  rw [ga_g hb, bind1_some, if_pos (by simp; omega)]
  show bind1 (ga R c) _ = _
  rw [ga_g hc, bind1_some, hr, bind2_some, if_neg (by simp)]
  show bind1 (ga R a) _ = _
  rw [ga_g ha, bind1_some]
  show bind1 (sa R a _) _ = _
  rw [sa_put ha, bind1_some]
  show some ((⟨_, IntKind.wrap .u32 (4 * (k : Int) + 4), _, _, _, _, _, _, _, _, _, _, _, _⟩ : T_ref04_Cpu), m) = _
  rw [pc_next hk]; rfl
theorem do_halt {m : T_ref03_Mem} : ref04_do (tick (cpS R k s n)) m ⟨1, 0, 0, 0, 0⟩ = some (cpE R k (IntKind.wrap .i64 (s + 1)) n 0 0 1, m) := by
  unfold ref04_do
  show bind1 (ga R ((0 : Nat) : Int)) _ = _
  rw [ga_g (by omega), bind1_some]
  show bind1 (ga R ((0 : Nat) : Int)) _ = _
  rw [ga_g (by omega), bind1_some, if_neg (by simp), if_pos (by simp)]
  rfl
end
end Go.Proofs.Abs
/- A number that is put into register 0. -/
namespace Go.Proofs.Abs
open Go
set_option linter.unusedVariables false
set_option linter.unusedSimpArgs false
theorem put_put {n : Nat} {a : Arr n Int} {j : Nat} {u v : Int} : (a.put j u).put j v = a.put j v := by
  unfold Arr.put; congr 1; simp
theorem fits16 {n : Int} (h0 : -2147483648 ≤ n) (h1 : n ≤ 2147483647) : word_Fits (IntKind.wrap .i64 n) 16 = some (decide (-32768 ≤ n ∧ n < 32768)) := by
  unfold word_Fits
  have e : (if (40 : Int) < 16 then (40 : Int) else 16) - 1 = 15 := by decide
  have s1 : shlI .i64 (-1) (IntKind.wrap .i64 15) = some (-32768) := by kernel_rfl
  have s2 : shlI .i64 1 (IntKind.wrap .i64 15) = some 32768 := by kernel_rfl
  rw [if_neg (by decide), e, s1, bind1_some, wrap_i64 n (by omega) (by omega)]
  by_cases c : n ≥ -32768
  · rw [if_pos (by simpa using c), s2, bind1_some, bind1_some]
    congr 1
    by_cases d : n < 32768
    · rw [decide_eq_true d, decide_eq_true ⟨c, d⟩]
    · rw [decide_eq_false d, decide_eq_false (fun h => d h.2)]
  · rw [if_neg (by simpa using c), bind1_some, decide_eq_false (fun h => c h.1)]
theorem within16 {n : Int} : word_Within n 16 = some (decide (0 ≤ n ∧ n < 65536)) := by
  unfold word_Within
  have e : (if (40 : Int) < 16 then (40 : Int) else 16) = 16 := by decide
  have s2 : shlI .i64 1 16 = some 65536 := by kernel_rfl
  rw [if_pos (by decide), e]
  by_cases c : n ≥ 0
  · rw [if_pos (by simpa using c), s2, bind1_some, bind1_some]
    congr 1
    by_cases d : n < 65536
    · rw [decide_eq_true d, decide_eq_true ⟨c, d⟩]
    · rw [decide_eq_false d, decide_eq_false (fun h => d h.2)]
  · rw [if_neg (by simpa using c), bind1_some, decide_eq_false (fun h => c h.1)]
theorem reg_ok {a : Int} (h0 : 0 ≤ a) (h1 : a < 16) : instr_reg a = some true := by
  unfold instr_reg; simp [h0, h1]
theorem wrap_i32 (x : Int) (h1 : -2147483648 ≤ x) (h2 : x ≤ 2147483647) : IntKind.i32.wrap x = x := by
  simp only [IntKind.wrap, IntKind.bits, IntKind.signed]
  simp
  omega
theorem round_small {x : Int} (h0 : -2147483648 ≤ x) (h1 : x ≤ 2147483647) : ref01_Round x = some x := by
  unfold ref01_Round ref01_Round_j1 ref01_Round_j2
  by_cases c : x < 0
  · have e : Int.tmod x 4294967296 = x := by
      have : Int.tmod (-x) 4294967296 = -x := by rw [tmod_pos (by omega)]; omega
      rw [Int.neg_tmod] at this; omega
    rw [e, if_pos (by simpa using c), wrap_i64 _ (by omega) (by omega), if_pos (by simp; omega), wrap_i64 _ (by omega) (by omega), wrap_i32 _ (by omega) (by omega)]
    congr 1; omega
  · have e : Int.tmod x 4294967296 = x := by rw [tmod_pos (by omega)]; omega
    rw [e, if_neg (by simp; omega), if_neg (by simp; omega), wrap_i32 _ (by omega) (by omega)]
theorem sextC16 {w n : Int} (h0 : -32768 ≤ n) (h1 : n < 32768) (hw0 : 0 ≤ w) (hw1 : w < 4294967296) (hw : w % 65536 = n % 65536) : sextC w 16 = some n := by
  unfold sextC
  have e : (2 : Int) ^ (16 : Int).toNat = 65536 := by decide
  have r : remI .i64 (IntKind.wrap .i64 w) 65536 = some (n % 65536) := by
    unfold remI
    rw [if_neg (by decide), wrap_i64 w (by omega) (by omega), tmod_pos hw0, hw]
    try rw [wrap_i64 _ (by omega) (by omega)]
  have t : IntKind.wrap .i64 (Int.tdiv 65536 2) = 32768 := by kernel_rfl
  rw [e, r, bind1_some, t]
  unfold ref01_Sext_j1
  by_cases c : n < 0
  · rw [if_pos (by simp; omega), wrap_i64 _ (by omega) (by omega)]
    have : n % 65536 - 65536 = n := by omega
    rw [this, round_small (by omega) (by omega), bind1_some]
  · have : n % 65536 = n := by omega
    rw [if_neg (by simp; omega), this, round_small (by omega) (by omega), bind1_some]
end Go.Proofs.Abs
/- A number that is put into register 0: what the machine does. -/
namespace Go.Proofs.Abs
open Go
set_option linter.unusedVariables false
set_option linter.unusedSimpArgs false
/-- words stand one behind the other -/
def Sits (W : List Int) (k : Nat) (l : List Int) : Prop := ∀ (j : Nat) (x : Int), l[j]? = some x → W[k + j]? = some x
theorem Sits.app {W : List Int} {k : Nat} {l l' : List Int} (h : Sits W k (l ++ l')) : Sits W k l ∧ Sits W (k + l.length) l' := by
  refine ⟨fun j x hj => h j x ?_, fun j x hj => ?_⟩
  · rw [List.getElem?_append_left (List.getElem?_eq_some_iff.1 hj).1]; exact hj
  · have := h (l.length + j) x (by rw [List.getElem?_append_right (by omega)]; simpa using hj)
    rw [Nat.add_assoc]; exact this
theorem Sits.here {W : List Int} {k : Nat} {x : Int} {l : List Int} (h : Sits W k (x :: l)) : W[k]? = some x ∧ Sits W (k + 1) l :=
  ⟨h 0 x rfl, fun j y hj => by have := h (j + 1) y (by simpa using hj); rw [show k + 1 + j = k + (j + 1) by omega]; exact this⟩
end Go.Proofs.Abs
/- What is stored and loaded by the document's machine; the page's example. -/
namespace Go.Proofs.Abs
open Go
set_option linter.unusedVariables false
set_option linter.unusedSimpArgs false
section
variable {R : Arr 16 Int} {k n : Nat} {s t w : Int} {W : List Int} {r : T_ref03_Mem × T_ref04_Cpu}
theorem load_at {j : Nat} {x : Int} (hW : W.length ≤ 20000) (hj : W[j]? = some x) : ref03_Load (memR n W) (4 * (j : Int)) = some (x, 0) := by
  have hl : j < W.length := (List.getElem?_eq_some_iff.1 hj).1
  unfold ref03_Load
  simp only [tmod_pos (show 0 ≤ 4 * (j : Int) by omega), tdiv_pos (show 0 ≤ 4 * (j : Int) by omega)]
  have e1 : 4 * (j : Int) % 4 = 0 := by omega
  have e2 : 4 * (j : Int) / 4 = (j : Int) := by omega
  have e4 : (memR n W).W_ = W := rfl
  rw [e1, e2, e4, wrap_u32 (j : Int) (by omega) (by omega), wrap_i64 (j : Int) (by omega) (by omega), if_neg (by simp), if_neg (by simp; omega), gi_some (by omega) (by omega), bind1_some]
  have : W[((j : Nat) : Int).toNat]'(by simpa using hl) = x := by
    have h : W[j]'hl = x := by rw [List.getElem?_eq_getElem hl] at hj; exact Option.some.inj hj
    simpa using h
  rw [this]
theorem store_at {j : Nat} {x : Int} (hW : W.length ≤ 20000) (hj : j < W.length) (hn : n ≤ j) : ref03_Store (memR n W) (4 * (j : Int)) x = some (memR n (W.set j x), 0) := by
  have e1 : (memR n W).Ends_.g 1 = 4 * (n : Int) := rfl
  unfold ref03_Store
  rw [load_at hW (List.getElem?_eq_getElem hj), bind2_some, if_neg (by simp), e1, if_neg (by simp; omega)]
  have e2 : IntKind.wrap .i64 (IntKind.wrap .u32 (Int.tdiv (4 * (j : Int)) 4)) = (j : Int) := by
    rw [tdiv_pos (by omega), wrap_u32 _ (by omega) (by omega), wrap_i64 _ (by omega) (by omega)]; omega
  rw [e2]
  show bind1 (ref03_with ⟨endsR n, W⟩ (j : Int) [x]) _ = _
  rw [with_spec (j : Int) [x] (by omega) (by simp; omega) (by omega), bind1_some]
  have : setAt W ((j : Nat) : Int).toNat [x] = W.set j x := by
    have : ((j : Nat) : Int).toNat = j := by simp
    rw [this]
    apply List.ext_getElem?
    intro q
    simp only [setAt, List.getElem?_append, List.length_append, List.length_take, List.getElem?_take, List.getElem?_drop, List.getElem?_set, List.length_cons, List.getElem?_cons]
    grind
  rw [this]; rfl
theorem do_ldw {a b : Nat} {v x : Int} {m : T_ref03_Mem} (ha : a < 16) (hb : b < 16) (hk : k < 15000) (hl : ref03_Load m (IntKind.wrap .u32 (R.g b + IntKind.wrap .u32 v)) = some (x, 0)) :
    ref04_do (tick (cpS R k s n)) m ⟨18, a, b, 0, v⟩ = some (cpS (R.put a x) (k + 1) (IntKind.wrap .i64 (s + 1)) n, m) := by
  unfold ref04_do
  show bind1 (ga R a) _ = _
  rw [ga_g ha, bind1_some]
  show bind1 (ga R b) _ = _
  rw [ga_g hb, bind1_some, if_neg (by simp), if_neg (by simp), if_neg (by simp), if_neg (by simp), if_neg (by simp), if_neg (by simp), if_neg (by simp), if_pos (by simp), hl, bind2_some, if_neg (by simp)]
  show bind1 (ga R a) _ = _
  rw [ga_g ha, bind1_some]
  show bind1 (sa R a _) _ = _
  rw [sa_put ha, bind1_some]
  unfold ref04_do_j6 ref04_do_j5 ref04_do_j4 ref04_do_j3 ref04_do_j2 ref04_do_j1
  show some ((⟨_, IntKind.wrap .u32 (4 * (k : Int) + 4), _, _, _, _, _, _, _, _, _, _, _, _⟩ : T_ref04_Cpu), m) = _
  rw [pc_next hk]; rfl
theorem do_stw {a b : Nat} {v : Int} {m m' : T_ref03_Mem} (ha : a < 16) (hb : b < 16) (hk : k < 15000) (hl : ref03_Store m (IntKind.wrap .u32 (R.g b + IntKind.wrap .u32 v)) (R.g a) = some (m', 0)) :
    ref04_do (tick (cpS R k s n)) m ⟨19, a, b, 0, v⟩ = some (cpS R (k + 1) (IntKind.wrap .i64 (s + 1)) n, m') := by
  unfold ref04_do
  show bind1 (ga R a) _ = _
  rw [ga_g ha, bind1_some]
  show bind1 (ga R b) _ = _
  rw [ga_g hb, bind1_some, if_neg (by simp), if_neg (by simp), if_neg (by simp), if_neg (by simp), if_neg (by simp), if_neg (by simp), if_neg (by simp), if_neg (by simp), if_pos (by simp), hl, bind2_some, if_neg (by simp)]
  unfold ref04_do_j7 ref04_do_j6 ref04_do_j5 ref04_do_j4 ref04_do_j3 ref04_do_j2 ref04_do_j1
  show some ((⟨_, IntKind.wrap .u32 (4 * (k : Int) + 4), _, _, _, _, _, _, _, _, _, _, _, _⟩ : T_ref04_Cpu), m') = _
  rw [pc_next hk]; rfl
end
/-! words that are known -/
theorem dec_halt : ref02_Decode 16777216 = some (⟨1, 0, 0, 0, 0⟩, 0) := by rw [decC_eq]; kernel_rfl
theorem dec_dn : ref02_Decode 100663292 = some (⟨5, 15, 15, 0, -4⟩, 0) := by rw [decC_eq]; kernel_rfl
theorem dec_up : ref02_Decode 100597764 = some (⟨5, 15, 15, 0, 4⟩, 0) := by rw [decC_eq]; kernel_rfl
theorem dec_st0 : ref02_Decode 319750144 = some (⟨19, 0, 15, 0, 0⟩, 0) := by rw [decC_eq]; kernel_rfl
theorem dec_ld1 : ref02_Decode 304021504 = some (⟨18, 1, 15, 0, 0⟩, 0) := by rw [decC_eq]; kernel_rfl
theorem dec_ldi7 : ref02_Decode 33554439 = some (⟨2, 0, 0, 0, 7⟩, 0) := by rw [decC_eq]; kernel_rfl
theorem dec_ldim2 : ref02_Decode 33619966 = some (⟨2, 0, 0, 0, -2⟩, 0) := by rw [decC_eq]; kernel_rfl
theorem dec_div : ref02_Decode 151060480 = some (⟨9, 0, 1, 0, 0⟩, 0) := by rw [decC_eq]; kernel_rfl
theorem enc_div : instr_Encode ⟨9, 0, 1, 0, 0⟩ = some (151060480, 0) := by kernel_rfl
def awW : List Int := [16777216, 33554439, 100663292, 319750144, 33619966, 304021504, 100597764, 151060480, 16777216]
def R0 (n : Nat) : Arr 16 Int := arrL [0, 0, 0, 0, 0, 0, 0, 0, 0, 0, 0, 0, 0, 4 * (n : Int) + 192, 0, 4 * (n : Int) + 256]
theorem run_xr {ws : List Int} (hl : ws.length ≤ 15000) {q : Ptr} {P : T_ref04_Cpu → Prop} (h : ExR P 0 (memR ws.length (ws ++ List.replicate 64 0)) (cpS (R0 ws.length) 1 0 ws.length)) : ∃ c, law19_run q ws = some c ∧ P c := by
  obtain ⟨r, h1, h2⟩ := h
  exact ⟨r.2, run_spec hl h1, h2⟩
theorem awake_run (q : Ptr) : ∃ c, law19_run q awW = some c ∧ c.State_ = 1 ∧ IntKind.wrap .i32 (c.R_.g 0) = -4 := by
  have hl : awW.length = 9 := rfl
  obtain ⟨W, hW⟩ : ∃ W, W = awW ++ List.replicate 64 0 := ⟨_, rfl⟩
  have s3 : ref03_Store (memR 9 W) (4 * ((72 : Nat) : Int)) 7 = some (memR 9 (W.set 72 7), 0) := store_at (by rw [hW]; decide) (by rw [hW]; decide) (by decide)
  have l5 : ref03_Load (memR 9 (W.set 72 7)) (4 * ((72 : Nat) : Int)) = some (7, 0) := load_at (by rw [hW]; decide) (by rw [hW]; rfl)
  have w : ∀ j x, awW[j]? = some x → W[j]? = some x := fun j x h => by rw [hW, List.getElem?_append_left (List.getElem?_eq_some_iff.1 h).1]; exact h
  have w' : ∀ j x, j < 9 → awW[j]? = some x → (W.set 72 7)[j]? = some x := fun j x hj h => by rw [List.getElem?_set_ne (by omega)]; exact w j x h
  refine run_xr (ws := awW) (by decide) ?_
  rw [hl, ← hW]
  refine xr_one (by decide) (by decide) (w 1 _ rfl) dec_ldi7 (by decide) (by decide) (do_ldi (a := 0) (by decide) (by decide)) ?_
  refine xr_one (by decide) (by decide) (w 2 _ rfl) dec_dn (by decide) (by decide) (do_addi (a := 15) (b := 15) (by decide) (by decide) (by decide)) ?_
  refine xr_one (by decide) (by decide) (w 3 _ rfl) dec_st0 (by decide) (by decide) (do_stw (a := 0) (b := 15) (by decide) (by decide) (by decide) s3) ?_
  refine xr_one (by decide) (by decide) (w' 4 _ (by decide) rfl) dec_ldim2 (by decide) (by decide) (do_ldi (a := 0) (by decide) (by decide)) ?_
  refine xr_one (by decide) (by decide) (w' 5 _ (by decide) rfl) dec_ld1 (by decide) (by decide) (do_ldw (a := 1) (b := 15) (by decide) (by decide) (by decide) l5) ?_
  refine xr_one (by decide) (by decide) (w' 6 _ (by decide) rfl) dec_up (by decide) (by decide) (do_addi (a := 15) (b := 15) (by decide) (by decide) (by decide)) ?_
  refine xr_one (by decide) (by decide) (w' 7 _ (by decide) rfl) dec_div (by decide) (by decide) (do_three (v := 4294967292) (a := 0) (b := 1) (c := 0) (by decide) (by decide) (by decide) (by decide) (by decide) (by decide) (by kernel_rfl)) ?_
  refine xr_one (by decide) (by decide) (w' 8 _ (by decide) rfl) dec_halt (by decide) (by decide) do_halt ?_
  exact xr_end (show (1 : Int) ≠ 0 by decide) ⟨rfl, by kernel_rfl⟩
end Go.Proofs.Abs
/- The page's example of code for things. -/
namespace Go.Proofs.Abs
open Go
set_option linter.unusedVariables false
set_option linter.unusedSimpArgs false
theorem iawake_spec (H : Heap) : ∃ H', law19_awake H = some (H', true) := by
  obtain ⟨H1, i, g, e1, G1⟩ := begun_spec H
  obtain ⟨H2, e2, G2⟩ := number_gn G1 (a := 0) (n := 7) (l := [33554439]) (by kernel_rfl) (by decide)
  obtain ⟨H3, e3, G3⟩ := wait_gn G2 (by decide) (by decide) (by decide)
  obtain ⟨H4, e4, G4⟩ := number_gn G3 (a := 0) (n := -2) (l := [33619966]) (by kernel_rfl) (by decide)
  obtain ⟨H5, e5, G5⟩ := pop_gn G4 enc_ld1 (by decide) (by decide) (by decide)
  obtain ⟨H6, e6, G6⟩ := three_gn G5 enc_div (by decide)
  obtain ⟨H7, e7⟩ := ended_gn (H := H6) (i := i) (g := g) (ws := [16777216, 33554439, 100663292, 319750144, 33619966, 304021504, 100597764, 151060480]) (d := 0) (m := 1) G6 (by decide) 0
  obtain ⟨c, r1, r2, r3⟩ := awake_run (.at g 0)
  have two : item_Gen_Two H4 (.at g 0) (ByteArray.mk #[68, 73, 86]) = some (H6, 0) := by
    have : item_Gen_Two H4 (.at g 0) (ByteArray.mk #[68, 73, 86]) = item_Gen_Two_j1 (.at g 0) H4 false 9 := by kernel_rfl
    rw [this]
    unfold item_Gen_Two_j1
    rw [pbnd_at, G4.gen, bind1_some]
    show bind1 (emit_Code_Pop H4 (.at i 0) 1) _ = _
    rw [e5, bind1_some, if_neg (by simp), G5.gen, bind1_some]
    show bind2 (emit_Code_Three H5 (.at i 0) 9 0 1 0) _ = _
    rw [e6]; rfl
  unfold law19_awake
  rw [e1, bind2_some, isNil_at, if_neg (by simp), pbnd_at, G1.gen, bind1_some]
  show ∃ H', bind1 (emit_Code_Number H1 (.at i 0) 0 7) _ = some (H', true)
  rw [e2, bind1_some, e3, bind1_some, G3.gen, bind1_some]
  show ∃ H', bind1 (emit_Code_Number H3 (.at i 0) 0 (-2)) _ = some (H', true)
  rw [e4, bind1_some, two, bind2_some, e7, bind3_some, if_neg (by decide)]
  have : ([16777216, 33554439, 100663292, 319750144, 33619966, 304021504, 100597764, 151060480] ++ [16777216] : List Int) = awW := rfl
  rw [this, r1, bind1_some, r2, r3]
  exact ⟨H7, rfl⟩
section
variable {R : Arr 16 Int} {k n : Nat} {s t w : Int} {W : List Int} {P : T_ref04_Cpu → Prop}
end
end Go.Proofs.Abs
/- How a run ends. -/
namespace Go.Proofs.Abs
open Go
set_option linter.unusedVariables false
set_option linter.unusedSimpArgs false
theorem wf_i32 {n : Int} : (Lit.int .i32 n).wf = true ↔ -2147483648 ≤ n ∧ n ≤ 2147483647 := by
  simp [Lit.wf, IntKind.min, IntKind.max, IntKind.signed, IntKind.bits]
theorem wrap_i32_mod (x : Int) : IntKind.i32.wrap x = (x + 2147483648) % 4294967296 - 2147483648 := by
  simp only [IntKind.wrap, IntKind.bits, IntKind.signed]
  simp
  omega
theorem sits_mk (x : Int) (l z : List Int) : Sits (x :: (l ++ z)) 1 l := fun j y h => by
  rw [Nat.add_comm, List.getElem?_cons_succ, List.getElem?_append_left (List.getElem?_eq_some_iff.1 h).1]; exact h
def PV (v : Int) (N : Nat) (c : T_ref04_Cpu) : Prop := c.State_ = 1 ∧ c.Cause_ = 0 ∧ IntKind.wrap .i32 (c.R_.g 0) = v ∧ c.R_.g 15 = 4 * (N : Int) + 256 ∧ c.R_.g 13 = 4 * (N : Int) + 192
def PT (ca : Int) (c : T_ref04_Cpu) : Prop := c.State_ = 1 ∧ c.Cause_ = ca
end Go.Proofs.Abs
/- How a run is judged. -/
namespace Go.Proofs.Abs
open Go
set_option linter.unusedVariables false
set_option linter.unusedSimpArgs false
/-! stops -/
theorem stop_spec {c : T_ref04_Cpu} {n : Nat} {v : Int} (hn : n ≤ 15000) (h1 : c.State_ = 1) (h2 : c.Cause_ = 0) (h3 : IntKind.wrap .i32 (c.R_.g 0) = v) (h4 : c.R_.g 15 = 4 * (n : Int) + 256) (h5 : c.R_.g 13 = 4 * (n : Int) + 192) : law19_stopped c (n : Int) v 0 = some true := by
  unfold law19_stopped
  rw [h1, h2, h3, h4, h5]
  have w1 : IntKind.wrap .u32 (IntKind.wrap .i64 (IntKind.wrap .i64 (4 * (n : Int)) + 256)) = 4 * (n : Int) + 256 := by
    rw [wrap_i64 (4 * (n : Int)) (by omega) (by omega), wrap_i64 _ (by omega) (by omega), wrap_u32 _ (by omega) (by omega)]
  have w2 : IntKind.wrap .u32 (IntKind.wrap .i64 (IntKind.wrap .i64 (4 * (n : Int)) + 192)) = 4 * (n : Int) + 192 := by
    rw [wrap_i64 (4 * (n : Int)) (by omega) (by omega), wrap_i64 _ (by omega) (by omega), wrap_u32 _ (by omega) (by omega)]
  rw [w1, w2]
  simp
end Go.Proofs.Abs
/- Words with two registers and a number, in general; pushes and pops; pointers that are followed. -/
namespace Go.Proofs.Abs
open Go
set_option linter.unusedVariables false
set_option linter.unusedSimpArgs false
/-- may a number of such a shape be n? -/
def immOk (sh n : Int) : Prop := ((sh = 1 ∨ sh = 3) ∧ -32768 ≤ n ∧ n < 32768) ∨ ((sh = 2 ∨ sh = 4) ∧ 0 ≤ n ∧ n < 65536)
theorem enc_gen {op a b n sh : Int} (hs : instr_Shape op = some sh) (hn : immOk sh n) (ho : 0 ≤ op) (ho2 : op < 64) (ha : 0 ≤ a) (ha2 : a < 16) (hb : 0 ≤ b) (hb2 : b < 16) (hb0 : sh ≤ 2 → b = 0) :
    instr_Encode ⟨op, a, b, 0, n⟩ = some (op * 16777216 + a * 1048576 + b * 65536 + n % 65536, 0) := by
  have b32 : -32768 ≤ n ∧ n < 65536 := by rcases hn with h | h <;> omega
  have sh4 : 1 ≤ sh ∧ sh ≤ 4 := by rcases hn with h | h <;> omega
  have f16 := fits16 (n := n) (by omega) (by omega)
  rw [wrap_i64 n (by omega) (by omega)] at f16
  have im : instr_imm ⟨op, a, b, 0, n⟩ sh = some true := by
    unfold instr_imm instr_imm_j1 instr_imm_j3 instr_imm_j2
    rcases hn with ⟨rfl | rfl, h⟩ | ⟨rfl | rfl, h⟩ <;> simp [f16, within16, h, bind1_some]
  have ck : instr_Check ⟨op, a, b, 0, n⟩ = some 0 := by
    unfold instr_Check
    rw [hs, bind1_some, if_neg (by simp; omega), reg_ok ha ha2, bind1_some, if_neg (by decide), reg_ok hb hb2, bind1_some, if_neg (by decide), reg_ok (Int.le_refl 0) (show (0 : Int) < 16 by decide), bind1_some, if_neg (by decide), im, bind1_some, bind1_some, if_neg (by decide)]
    unfold instr_Check_j7 instr_Check_j1 instr_Check_j6 instr_Check_j3 instr_Check_j5 instr_Check_j4 instr_Check_j2
    rcases hn with ⟨rfl | rfl, h⟩ | ⟨rfl | rfl, h⟩
    · simp [hb0 (by omega)]
    · simp
    · simp [hb0 (by omega)]
    · simp
  unfold instr_Encode
  rw [ck, bind1_some, if_neg (by decide), hs, bind1_some, if_neg (by simp; omega), word_of op a b n 0 ho (by omega) ha ha2 hb hb2 (by decide) (by decide) (.inr rfl)]
  congr 2; omega
theorem dec_gen {op a b n sh : Int} (hs : ref02_Shape op = some sh) (hn : immOk sh n) (ho : 0 ≤ op) (ho2 : op < 64) (ha : 0 ≤ a) (ha2 : a < 16) (hb : 0 ≤ b) (hb2 : b < 16) (hb0 : sh ≤ 2 → b = 0) :
    ref02_Decode (op * 16777216 + a * 1048576 + b * 65536 + n % 65536) = some (⟨op, a, b, 0, n⟩, 0) := by
  obtain ⟨w, hw⟩ : ∃ w, w = op * 16777216 + a * 1048576 + b * 65536 + n % 65536 := ⟨_, rfl⟩
  rw [← hw, decC_eq]
  have b32 : -32768 ≤ n ∧ n < 65536 := by rcases hn with h | h <;> omega
  have sh4 : 1 ≤ sh ∧ sh ≤ 4 := by rcases hn with h | h <;> omega
  have d1 : IntKind.wrap .i64 (IntKind.wrap .u32 (Int.tdiv w 16777216)) = op := by rw [tdiv_pos (by omega), wrap_u32 _ (by omega) (by omega), wrap_i64 _ (by omega) (by omega)]; omega
  have d2 : IntKind.wrap .i64 (Int.tmod (IntKind.wrap .u32 (Int.tdiv w 1048576)) 16) = a := by rw [tdiv_pos (by omega), wrap_u32 _ (by omega) (by omega), tmod_pos (by omega), wrap_i64 _ (by omega) (by omega)]; omega
  have d4 : IntKind.wrap .i64 (Int.tmod (IntKind.wrap .u32 (Int.tdiv w 65536)) 16) = b := by rw [tdiv_pos (by omega), wrap_u32 _ (by omega) (by omega), tmod_pos (by omega), wrap_i64 _ (by omega) (by omega)]; omega
  have d3 : 0 ≤ n → IntKind.wrap .i64 (Int.tmod w 65536) = n := fun h => by rw [tmod_pos (by omega), wrap_i64 _ (by omega) (by omega)]; omega
  have hh : ref02_has sh = some (true, decide (sh ≥ 3), false) := by
    unfold ref02_has
    have e1 : decide (sh ≥ 1) = true := by simp; omega
    have e2 : decide (sh ≤ 6) = true := by simp; omega
    have e3 : decide (sh ≤ 5) = true := by simp; omega
    have e4 : (sh == 5) = false := by simp; omega
    rw [e1, e2, e3, e4, Bool.and_true, Bool.and_true]
  have en : ref02_Encode ⟨op, a, b, 0, n⟩ = some (w, 0) := by
    unfold ref02_Encode
    have ck : ref02_Check ⟨op, a, b, 0, n⟩ = some 0 := by
      unfold ref02_Check
      rw [hs, bind1_some, if_neg (by simp; omega), hh, bind3_some, if_neg]
      · unfold ref02_Check_j1 ref02_Check_j6 ref02_Check_j3 ref02_Check_j4 ref02_Check_j2
        rcases hn with ⟨rfl | rfl, h⟩ | ⟨rfl | rfl, h⟩ <;> simp <;> omega
      · have x1 : decide (a < 0) = false := by simp; omega
        have x2 : decide (a > 15) = false := by simp; omega
        have x3 : decide (b < 0) = false := by simp; omega
        have x4 : decide (b > 15) = false := by simp; omega
        by_cases h3 : sh ≥ 3
        · simp [x1, x2, x3, x4, h3] <;> omega
        · have := hb0 (by omega)
          simp [x1, x2, h3, this] <;> omega
    rw [ck, bind1_some, if_neg (by decide), hs, bind1_some, if_neg (by simp; omega)]
    have m : Int.tmod (IntKind.wrap .i64 (n + 65536)) 65536 = n % 65536 := by rw [wrap_i64 _ (by omega) (by omega), tmod_pos (by omega)]; omega
    simp only [m]
    rw [wrap_i64 (op * 16777216) (by omega) (by omega), wrap_i64 (a * 1048576) (by omega) (by omega), wrap_i64 (b * 65536) (by omega) (by omega), wrap_i64 (op * 16777216 + a * 1048576) (by omega) (by omega), wrap_i64 (op * 16777216 + a * 1048576 + b * 65536) (by omega) (by omega), wrap_i64 (op * 16777216 + a * 1048576 + b * 65536 + n % 65536) (by omega) (by omega), wrap_i64 _ (by omega) (by omega), wrap_u32 _ (by omega) (by omega)]
    congr 2; omega
  have j3 : ∀ q : T_ref02_Instr, q = ⟨op, a, b, 0, 0⟩ → decC_j3 sh w q = some (⟨op, a, b, 0, n⟩, 0) := by
    rintro _ rfl
    unfold decC_j3 decC_j4 decC_j9 decC_j6
    rcases hn with ⟨rfl | rfl, h⟩ | ⟨rfl | rfl, h⟩
    · simp only [beq_self_eq_true, if_true]
      rw [sextC16 h.1 h.2 (by omega) (by omega) (by omega), bind1_some, wrap_i64 n (by omega) (by omega)]
      unfold decC_j5
      rw [en, bind2_some, if_neg (by simp)]
    · rw [if_neg (by decide), if_pos (by decide), sextC16 h.1 h.2 (by omega) (by omega) (by omega), bind1_some, wrap_i64 n (by omega) (by omega)]
      unfold decC_j5
      rw [en, bind2_some, if_neg (by simp)]
    · rw [if_neg (by decide), if_neg (by decide), if_pos (by decide), if_pos (by decide), d3 h.1]
      unfold decC_j7 decC_j5
      rw [en, bind2_some, if_neg (by simp)]
    · rw [if_neg (by decide), if_neg (by decide), if_neg (by decide), if_pos (by decide), if_pos (by decide), d3 h.1]
      unfold decC_j7 decC_j5
      rw [en, bind2_some, if_neg (by simp)]
  unfold decC
  rw [d1, d2, hs, bind1_some, hh, bind3_some, if_pos rfl]
  unfold decC_j1 decC_j2
  by_cases h3 : sh ≥ 3
  · rw [if_pos (by simpa using h3), d4, if_neg (by decide)]
    exact j3 _ rfl
  · rw [if_neg (by simpa using h3), if_neg (by decide)]
    exact j3 _ (by rw [hb0 (by omega)])
section
variable {R : Arr 16 Int} {k n N j : Nat} {s t w : Int} {W : List Int} {P : T_ref04_Cpu → Prop}
theorem push_xr (hs : Sits W k [100663292, 319750144]) (g15 : R.g 15 = 4 * ((j + 1 : Nat) : Int)) (hj : N ≤ j) (hjW : j < W.length) (hW : W.length ≤ 20000) (hk : k + 2 ≤ N) (hN : N ≤ 15000) (t0 : 0 ≤ t) (t1 : t < 4900)
    (next : ∀ (R' : Arr 16 Int) s', R'.g 15 = 4 * (j : Int) → (∀ q, 15 ≠ q → R'.g q = R.g q) → ExR P (t + 2) (memR N (W.set j (R.g 0))) (cpS R' (k + 2) s' N)) : ExR P t (memR N W) (cpS R k s N) := by
  obtain ⟨h1, hs⟩ := hs.here
  obtain ⟨h2, _⟩ := hs.here
  have wm4 : IntKind.wrap .u32 (-4) = 4294967292 := by kernel_rfl
  have w00 : IntKind.wrap .u32 0 = 0 := by kernel_rfl
  refine xr_one t0 (by omega) h1 dec_dn (by omega) (by omega) (do_addi (a := 15) (b := 15) (by decide) (by decide) (by omega)) ?_
  have d15 : IntKind.wrap .u32 (R.g 15 + IntKind.wrap .u32 (-4)) = 4 * (j : Int) := by
    rw [g15, wm4, wrap_mod]; omega
  rw [d15]
  refine xr_one (by omega) (by omega) h2 dec_st0 (by omega) (by omega) (do_stw (a := 0) (b := 15) (m' := memR N (W.set j (R.g 0))) (by decide) (by decide) (by omega) ?_) ?_
  · rw [put_same (by decide), put_other (by decide), w00]
    have : IntKind.wrap .u32 (4 * (j : Int) + 0) = 4 * (j : Int) := by rw [wrap_u32 _ (by omega) (by omega)]; omega
    rw [this]; exact store_at (by omega) (by omega) (by omega)
  have := next (R.put 15 (4 * (j : Int))) (IntKind.wrap .i64 (IntKind.wrap .i64 (s + 1) + 1)) (put_same (by decide)) (fun q hq => put_other hq)
  rw [show t + 2 = t + 1 + 1 by omega] at this
  exact this
end
end Go.Proofs.Abs
/- Printed by gen (walk.py). -/
namespace Go.Proofs.Abs
open Go Go.Proofs
set_option linter.unusedVariables false
set_option maxRecDepth 100000
set_option maxHeartbeats 0
/-- the statement, in plain Lean -/
def ItemCallsPure : Prop := ∀ (p0 : Int) (p1 : Int) (p2 : Int), (fun n => (Lit.int .i32 n).wf = true) p0 → (fun n => (Lit.int .i32 n).wf = true) p1 → (fun n => (Lit.int .i32 n).wf = true) p2 → ∃ Hr, law19_ItemCalls [] p0 p1 p2 = some (Hr, true)
end Go.Proofs.Abs
/- A procedure that is called: what is written. -/
namespace Go.Proofs.Abs
open Go
set_option linter.unusedVariables false
set_option linter.unusedSimpArgs false
section
variable {H : Heap} {i g : Nat} {ws : List Int} {d m e L : Int} {Pr : T_item_Proc} {fx : List T_api_Fixup} {Fx : List (Nat × List MC)}
theorem set_gn {at_ : Nat} {n w w' : Int} {x : T_instr_Instr} (G : Gn H i g (D ws d m e fx) L Pr Fx) (hl : ws.length < 16000) (hw : ws[at_]? = some w) (hd : instr_Decode w = some (x, 0)) (he : instr_Encode ⟨x.Op_, x.A_, x.B_, x.C_, n⟩ = some (w', 0)) :
    ∃ H', emit_Code_set H (.at i 0) (at_ : Int) n = some H' ∧ Gn H' i g (D (ws.set at_ w') d m e fx) L Pr Fx := by
  have ha : at_ < ws.length := (List.getElem?_eq_some_iff.1 hw).1
  have gw : gi ws (at_ : Int) = some w := by
    rw [gi_some (by omega) (by omega)]
    obtain ⟨v1, v2⟩ := List.getElem?_eq_some_iff.1 hw
    have : ((at_ : Nat) : Int).toNat = at_ := by simp
    simp only [this, v2]
  refine ⟨_, ?_, G.set (D (ws.set at_ w') d m e fx)⟩
  unfold emit_Code_set
  rw [if_neg (by simp), pbnd_at, G.code, bind1_some, bind2_some, if_neg (by simp [D]; omega), pbnd_at, G.code, bind1_some]
  show bind1 (gi ws (at_ : Int)) _ = _
  rw [gw, bind1_some, hd, bind2_some, he, bind2_some, if_neg (by simp)]
  show bind1 (gi ws (at_ : Int)) _ = _
  rw [gw, bind1_some]
  show bind1 (si ws (at_ : Int) w') _ = _
  rw [si_some (by omega) (by omega), bind1_some, bnd_def]
  have : ((at_ : Nat) : Int).toNat = at_ := by simp
  rw [this]; rfl
theorem land_gn {at_ : Nat} {n w w' : Int} {x : T_instr_Instr} (G : Gn H i g (D ws d m e fx) L Pr Fx) (hl : ws.length < 16000) (hw : ws[at_]? = some w) (hd : instr_Decode w = some (x, 0)) (hn : n = (ws.length : Int) - at_ - 1) (he : instr_Encode ⟨x.Op_, x.A_, x.B_, x.C_, n⟩ = some (w', 0)) :
    ∃ H', emit_Code_Land H (.at i 0) (at_ : Int) = some H' ∧ Gn H' i g (D (ws.set at_ w') d m e fx) L Pr Fx := by
  have ha : at_ < ws.length := (List.getElem?_eq_some_iff.1 hw).1
  have hr : emit_Code_Here H (.at i 0) = some (ws.length : Int) := by
    unfold emit_Code_Here
    rw [pbnd_at, G.code]; rfl
  obtain ⟨H', e1, G1⟩ := set_gn G hl hw hd he
  refine ⟨H', ?_, G1⟩
  unfold emit_Code_Land
  rw [hr, bind1_some, wrap_i64 ((ws.length : Int) - (at_ : Int)) (by omega) (by omega), wrap_i64 _ (by omega) (by omega), ← hn, e1]; rfl
theorem back_gn {op a w w' n : Int} {to : Nat} {x : T_instr_Instr} (G : Gn H i g (D ws d m e fx) L Pr Fx) (hl : ws.length < 15000) (hto : to < 15000) (h1 : instr_Encode ⟨op, a, 0, 0, 0⟩ = some (w, 0)) (hd : instr_Decode w = some (x, 0)) (hn : n = (to : Int) - ws.length - 1) (he : instr_Encode ⟨x.Op_, x.A_, x.B_, x.C_, n⟩ = some (w', 0)) :
    ∃ H', emit_Code_Back H (.at i 0) op a (to : Int) = some H' ∧ Gn H' i g (D (ws ++ [w']) d m e fx) L Pr Fx := by
  obtain ⟨H1, e1, G1⟩ := put_gn G h1 (show ws.length < 16384 by omega)
  have G1 : Gn H1 i g (D (ws ++ [w]) d m e fx) L Pr Fx := G1
  obtain ⟨H2, e2, G2⟩ := set_gn (at_ := ws.length) G1 (by simp; omega) (by rw [List.getElem?_append_right (by omega), Nat.sub_self]; rfl) hd he
  refine ⟨H2, ?_, ?_⟩
  · unfold emit_Code_Back
    have e1 : emit_Code_Put H (.at i 0) ⟨op, a, 0, 0, 0⟩ = some (H1, (ws.length : Int)) := e1
    rw [e1, bind2_some, wrap_i64 ((to : Int) - (ws.length : Int)) (by omega) (by omega), wrap_i64 _ (by omega) (by omega), ← hn, e2]; rfl
  · have : (ws ++ [w]).set ws.length w' = ws ++ [w'] := by rw [List.set_append_right _ _ (by omega), Nat.sub_self]; rfl
    rw [← this]; exact G2
theorem most_gn (G : Gn H i g (D ws d m e fx) L Pr Fx) : ∃ H', emit_Code_Most H (.at i 0) = some (H', m) ∧ Gn H' i g (D ws d d e fx) L Pr Fx := by
  refine ⟨_, ?_, G.set (D ws d d e fx)⟩
  unfold emit_Code_Most
  rw [pbnd_at, G.code, bind1_some, bnd_def]; rfl
theorem proc_gn {c : T_emit_Code} (G : Gn H i g c L Pr Fx) (P2 : T_item_Proc) : Gn (set_item_Gen H g 0 ⟨.at i 0, L, P2⟩) i g c L P2 Fx :=
  ⟨hgT_other cod_inj (Ne.symm G.ne) G.code, hgT_set gen_inj gen_len G.gen _, G.ne, fun x hx => ⟨(hget_other (Ne.symm (G.frm x hx).2.2)).trans (G.frm x hx).1, (G.frm x hx).2⟩⟩
theorem frame_gn {c : T_emit_Code} (G : Gn H i g c L Pr) : Gn (new_frame_Frame H ⟨0⟩) i g c L Pr [(H.length, o_frame_Frame ⟨0⟩)] :=
  ⟨hgT_old cod_inj G.code, hgT_old gen_inj G.gen, G.ne, fun x hx => by
    obtain rfl : x = (H.length, o_frame_Frame ⟨0⟩) := by simpa using hx
    have h1 := hgT_lt G.code
    have h2 := hgT_lt G.gen
    exact ⟨hget_new, by show H.length ≠ i; omega, by show H.length ≠ g; omega⟩⟩
theorem fget_gn {c : T_emit_Code} {f : Nat} (G : Gn H i g c L Pr [(f, o_frame_Frame ⟨0⟩)]) : get_frame_Frame H f 0 = some ⟨0⟩ :=
  hgetT_of (fun x y h => by
    obtain ⟨a⟩ := x; obtain ⟨b⟩ := y
    simp only [o_frame_Frame, List.cons.injEq, Prod.mk.injEq, AV.int.injEq, true_and, and_true] at h
    rw [h]) (G.frm (f, o_frame_Frame ⟨0⟩) (by simp)).1
end
/-! the words -/
def pA : List Int := [16777216, 369098752, 100663292, 334430208, 100663292, 333381632, 98500608, 85917696, 537919488, 100597760, 33554432, 85917696, 270598157, 354418688, 318832640, 85000196]
def pB : List Int := [16777216, 369098752, 100663292, 334430208, 100663292, 333381632, 98500608, 85917696, 537919488, 100597760, 33554432, 85917696, 270598157, 354418691, 318832640, 85000196, 385875963, 302841872, 303890444, 117440513, 100466688, 316604416, 317652996, 100597780, 417333248]
def pC : List Int := [16777216, 369098775, 100663292, 334430208, 100663292, 333381632, 98500608, 85983168, 537919488, 100597760, 33554432, 85917696, 270598157, 354418691, 318832640, 85000196, 385875963, 302841872, 303890444, 117440513, 100466688, 316604416, 317652996, 100597780, 417333248]
def frP (a b : Int) (f : Nat) : T_item_Proc := ⟨a, b, [], .at f 0⟩
section
variable {H : Heap} {i g f : Nat} {d m e L : Int} {Pr : T_item_Proc} {Fx : List (Nat × List MC)}
theorem enter_gn (G : Gn H i g (D (pA.take 2) 0 0 0) L Pr Fx) : ∃ H', item_Gen_Enter H (.at g 0) (.at f 0) = some H' ∧ Gn H' i g (D (pB.take 17) 0 0 0) L (frP 7 9 f) Fx := by
  obtain ⟨H1, e1, G1⟩ := push_gn (a := 14) (w := 334430208) G (by kernel_rfl) (by decide) (by decide) (by decide)
  have G1 : Gn H1 i g (D (pA.take 4) 1 1 0) L Pr Fx := G1
  obtain ⟨H2, e2, G2⟩ := push_gn (a := 13) (w := 333381632) G1 (by kernel_rfl) (by decide) (by decide) (by decide)
  have G2 : Gn H2 i g (D (pA.take 6) 2 2 0) L Pr Fx := G2
  obtain ⟨H3, e3, G3⟩ := drop_gn G2 (by decide) (by decide) (n := 2) (by decide) (by decide)
  have G3 : Gn H3 i g (D (pA.take 6) 0 2 0) L Pr Fx := G3
  obtain ⟨H4, e4, G4⟩ := most_gn G3
  obtain ⟨H5, e5, G5⟩ := sign_gn (x := 5) (a := 13) (b := 15) (n := 0) (w := 98500608) G4 (by kernel_rfl) (by decide)
  have G5 : Gn H5 i g (D (pA.take 7) 0 0 0) L Pr Fx := G5
  have G6 := proc_gn G5 (frP 0 0 f)
  obtain ⟨H6, hH6⟩ : ∃ H6, H6 = set_item_Gen H5 g 0 ⟨.at i 0, L, frP 0 0 f⟩ := ⟨_, rfl⟩
  rw [← hH6] at G6
  obtain ⟨H7, e7, G7⟩ := sign_gn (x := 5) (a := 1) (b := 15) (n := 0) (w := 85917696) G6 (by kernel_rfl) (by decide)
  have G7 : Gn H7 i g (D (pA.take 8) 0 0 0) L (frP 0 0 f) Fx := G7
  have G8 := proc_gn G7 (frP 7 0 f)
  obtain ⟨H8, hH8⟩ : ∃ H8, H8 = set_item_Gen H7 g 0 ⟨.at i 0, L, frP 7 0 f⟩ := ⟨_, rfl⟩
  rw [← hH8] at G8
  obtain ⟨H9, e9, G9⟩ := reg_gn (x := 32) (y := 1) (w := 537919488) G8 (by kernel_rfl) (by decide)
  have G9 : Gn H9 i g (D (pA.take 9) 0 0 0) L (frP 7 0 f) Fx := G9
  obtain ⟨H10, e10, G10⟩ := sign_gn (x := 5) (a := 15) (b := 15) (n := 0) (w := 100597760) G9 (by kernel_rfl) (by decide)
  have G10 : Gn H10 i g (D (pA.take 10) 0 0 0) L (frP 7 0 f) Fx := G10
  have G11 := proc_gn G10 (frP 7 9 f)
  obtain ⟨H11, hH11⟩ : ∃ H11, H11 = set_item_Gen H10 g 0 ⟨.at i 0, L, frP 7 9 f⟩ := ⟨_, rfl⟩
  rw [← hH11] at G11
  obtain ⟨H12, e12, G12⟩ := number_gn (a := 0) (n := 0) (l := [33554432]) G11 (by kernel_rfl) (by decide)
  have G12 : Gn H12 i g (D (pA.take 11) 0 0 0) L (frP 7 9 f) Fx := G12
  obtain ⟨H13, e13, G13⟩ := sign_gn (x := 5) (a := 1) (b := 15) (n := 0) (w := 85917696) G12 (by kernel_rfl) (by decide)
  have G13 : Gn H13 i g (D (pA.take 12) 0 0 0) L (frP 7 9 f) Fx := G13
  obtain ⟨H14, e14, G14⟩ := three_gn (x := 16) (a := 2) (b := 1) (d := 13) (w := 270598157) G13 (by kernel_rfl) (by decide)
  have G14 : Gn H14 i g (D (pA.take 13) 0 0 0) L (frP 7 9 f) Fx := G14
  obtain ⟨H15, e15, G15⟩ := put_gn (x := ⟨21, 2, 0, 0, 0⟩) (w := 354418688) G14 (by kernel_rfl) (by decide)
  have G15 : Gn H15 i g (D (pA.take 14) 0 0 0) L (frP 7 9 f) Fx := G15
  obtain ⟨H16, e16, G16⟩ := sign_gn (x := 19) (a := 0) (b := 1) (n := 0) (w := 318832640) G15 (by kernel_rfl) (by decide)
  have G16 : Gn H16 i g (D (pA.take 15) 0 0 0) L (frP 7 9 f) Fx := G16
  obtain ⟨H17, e17, G17⟩ := sign_gn (x := 5) (a := 1) (b := 1) (n := 4) (w := 85000196) G16 (by kernel_rfl) (by decide)
  have G17 : Gn H17 i g (D (pA.take 16) 0 0 0) L (frP 7 9 f) Fx := G17
  obtain ⟨H18, e18, G18⟩ := back_gn (op := 22) (a := 0) (w := 369098752) (w' := 385875963) (n := -5) (to := 12) (x := ⟨22, 0, 0, 0, 0⟩) G17 (by decide) (by decide) (by kernel_rfl) (by kernel_rfl) (by decide) (by kernel_rfl)
  obtain ⟨H19, e19, G19⟩ := land_gn (at_ := 13) (n := 3) (w := 354418688) (w' := 354418691) (x := ⟨21, 2, 0, 0, 0⟩) G18 (by decide) (by rfl) (by kernel_rfl) (by decide) (by kernel_rfl)
  refine ⟨H19, ?_, G19⟩
  unfold item_Gen_Enter
  rw [pbnd_at, G.gen, bind1_some]
  show bind1 (emit_Code_Push H (.at i 0) 14) _ = _
  rw [e1, bind1_some, G1.gen, bind1_some]
  show bind1 (emit_Code_Push H1 (.at i 0) 13) _ = _
  rw [e2, bind1_some, G2.gen, bind1_some]
  show bind1 (emit_Code_Drop H2 (.at i 0) 2) _ = _
  rw [e3, bind1_some, G3.gen, bind1_some]
  show bind2 (emit_Code_Most H3 (.at i 0)) _ = _
  rw [e4, bind2_some, G4.gen, bind1_some]
  show bind2 (emit_Code_Sign H4 (.at i 0) 5 13 15 0) _ = _
  rw [e5, bind2_some, G5.gen, bind1_some, bnd_def]
  show bind2 (emit_Code_Sign (set_item_Gen H5 g 0 ⟨.at i 0, L, frP 0 0 f⟩) (.at i 0) 5 1 15 0) _ = _
  rw [← hH6, e7, bind2_some, G7.gen, bind1_some, bnd_def]
  show bind2 (emit_Code_Reg (set_item_Gen H7 g 0 ⟨.at i 0, L, frP 7 0 f⟩) (.at i 0) 32 1) _ = _
  rw [← hH8, e9, bind2_some, G9.gen, bind1_some]
  show bind2 (emit_Code_Sign H9 (.at i 0) 5 15 15 0) _ = _
  rw [e10, bind2_some, G10.gen, bind1_some, bnd_def]
  show bind1 (emit_Code_Number (set_item_Gen H10 g 0 ⟨.at i 0, L, frP 7 9 f⟩) (.at i 0) 0 0) _ = _
  rw [← hH11, e12, bind1_some, G12.gen, bind1_some]
  show bind2 (emit_Code_Sign H12 (.at i 0) 5 1 15 0) _ = _
  rw [e13, bind2_some, G13.gen, bind1_some]
  show bind2 (emit_Code_Three H13 (.at i 0) 16 2 1 13) _ = _
  rw [e14, bind2_some, G14.gen, bind1_some]
  have ej : emit_Code_Jump H14 (.at i 0) 21 2 = some (H15, 13) := by unfold emit_Code_Jump; rw [e15]; rfl
  show bind2 (emit_Code_Jump H14 (.at i 0) 21 2) _ = _
  rw [ej, bind2_some, G15.gen, bind1_some]
  show bind2 (emit_Code_Sign H15 (.at i 0) 19 0 1 0) _ = _
  rw [e16, bind2_some, G16.gen, bind1_some]
  show bind2 (emit_Code_Sign H16 (.at i 0) 5 1 1 4) _ = _
  rw [e17, bind2_some, G17.gen, bind1_some]
  show bind1 (emit_Code_Back H17 (.at i 0) 22 0 12) _ = _
  have e18 : emit_Code_Back H17 (.at i 0) 22 0 12 = some H18 := e18
  rw [e18, bind1_some, G18.gen, bind1_some]
  show bind1 (emit_Code_Land H18 (.at i 0) 13) _ = _
  have e19 : emit_Code_Land H18 (.at i 0) 13 = some H19 := e19
  rw [e19]; rfl
theorem leave_gn (G : Gn H i g (D (pB.take 20) 0 0 0) L Pr Fx) : ∃ H', item_Gen_Leave H (.at g 0) 2 = some H' ∧ Gn H' i g (D pB 0 0 0) L Pr Fx := by
  obtain ⟨H1, e1, G1⟩ := sign_gn (x := 5) (a := 15) (b := 13) (n := 0) (w := 100466688) G (by kernel_rfl) (by decide)
  have G1 : Gn H1 i g (D (pB.take 21) 0 0 0) L Pr Fx := G1
  obtain ⟨H2, e2, G2⟩ := sign_gn (x := 18) (a := 13) (b := 15) (n := 0) (w := 316604416) G1 (by kernel_rfl) (by decide)
  have G2 : Gn H2 i g (D (pB.take 22) 0 0 0) L Pr Fx := G2
  obtain ⟨H3, e3, G3⟩ := sign_gn (x := 18) (a := 14) (b := 15) (n := 4) (w := 317652996) G2 (by kernel_rfl) (by decide)
  have G3 : Gn H3 i g (D (pB.take 23) 0 0 0) L Pr Fx := G3
  obtain ⟨H4, e4, G4⟩ := sign_gn (x := 5) (a := 15) (b := 15) (n := 20) (w := 100597780) G3 (by kernel_rfl) (by decide)
  have G4 : Gn H4 i g (D (pB.take 24) 0 0 0) L Pr Fx := G4
  obtain ⟨H5, e5, G5⟩ := reg_gn (x := 24) (y := 14) (w := 417333248) G4 (by kernel_rfl) (by decide)
  refine ⟨H5, ?_, G5⟩
  unfold item_Gen_Leave
  rw [pbnd_at, G.gen, bind1_some]
  show bind2 (emit_Code_Sign H (.at i 0) 5 15 13 0) _ = _
  rw [e1, bind2_some, G1.gen, bind1_some]
  show bind2 (emit_Code_Sign H1 (.at i 0) 18 13 15 0) _ = _
  rw [e2, bind2_some, G2.gen, bind1_some]
  show bind2 (emit_Code_Sign H2 (.at i 0) 18 14 15 4) _ = _
  rw [e3, bind2_some, G3.gen, bind1_some]
  have fg : frame_Gone 2 = some 12 := by kernel_rfl
  rw [fg, bind1_some]
  show bind2 (emit_Code_Sign H3 (.at i 0) 5 15 15 20) _ = _
  rw [e4, bind2_some, G4.gen, bind1_some]
  show bind2 (emit_Code_Reg H4 (.at i 0) 24 14) _ = _
  rw [e5]; rfl
theorem done_gn (G : Gn H i g (D pB 0 0 0) L (frP 7 9 f) [(f, o_frame_Frame ⟨0⟩)]) : ∃ H', item_Gen_Done H (.at g 0) = some H' ∧ Gn H' i g (D (pB.set 7 85983168) 0 0 0) L (frP 7 9 f) [(f, o_frame_Frame ⟨0⟩)] := by
  obtain ⟨H1, e1, G1⟩ := most_gn G
  obtain ⟨H2, e2, G2⟩ := set_gn (at_ := 7) (n := -64) (w := 85917696) (w' := 85983168) (x := ⟨5, 1, 15, 0, 0⟩) G1 (by decide) (by rfl) (by kernel_rfl) (by kernel_rfl)
  obtain ⟨H3, e3, G3⟩ := set_gn (at_ := 9) (n := 0) (w := 100597760) (w' := 100597760) (x := ⟨5, 15, 15, 0, 0⟩) G2 (by decide) (by rfl) (by kernel_rfl) (by kernel_rfl)
  refine ⟨H3, ?_, G3⟩
  have fn : frame_Need 0 0 = some 64 := by kernel_rfl
  have p1 : emit_Code_Patch H1 (.at i 0) 7 (-64) = some H2 := by
    unfold emit_Code_Patch
    have e2 : emit_Code_set H1 (.at i 0) 7 (-64) = some H2 := e2
    rw [e2]; rfl
  have p2 : emit_Code_Patch H2 (.at i 0) 9 0 = some H3 := by
    unfold emit_Code_Patch
    have e3 : emit_Code_set H2 (.at i 0) 9 0 = some H3 := e3
    rw [e3]; rfl
  unfold item_Gen_Done
  rw [pbnd_at, G.gen, bind1_some, if_pos (by rfl)]
  show (Ptr.at f 0).bnd _ = _
  rw [pbnd_at, fget_gn G, bind1_some]
  unfold item_Gen_Done_j1
  show bind2 (emit_Code_Most H (.at i 0)) _ = _
  rw [e1, bind2_some, same_of G1.gen, bind1_some]
  show bind1 (frame_Need 0 0) _ = _
  rw [fn, bind1_some]
  show bind1 (emit_Code_Patch H1 (.at i 0) 7 (-64)) _ = _
  rw [p1, bind1_some, same_of G2.gen, bind1_some]
  show bind1 (emit_Code_Patch H2 (.at i 0) 9 0) _ = _
  rw [p2, bind1_some, G3.gen, bind1_some]
  have lp : loopO (fun (x : Int × Heap) => item_Gen_Done_L2 (genV i L (frP 7 9 f)) g 0 0 x.1 x.2) ((0 : Int), H3) = some H3 := by
    refine loopO_out ?_
    show item_Gen_Done_L2 (genV i L (frP 7 9 f)) g 0 0 0 H3 = _
    unfold item_Gen_Done_L2
    rw [if_neg (by simp [genV, frP])]
  show bind1 (loopO (fun (x : Int × Heap) => item_Gen_Done_L2 (genV i L (frP 7 9 f)) g 0 0 x.1 x.2) ((0 : Int), H3)) _ = _
  rw [lp]; rfl
end
end Go.Proofs.Abs
/- A procedure that is called: what the machine does. -/
namespace Go.Proofs.Abs
open Go
set_option linter.unusedVariables false
set_option linter.unusedSimpArgs false
section
variable {R : Arr 16 Int} {k n : Nat} {s t : Int} {W : List Int} {P : T_ref04_Cpu → Prop}
/-- where a jump leads -/
theorem jump_to {k j : Nat} {v : Int} (hk : k < 14000) (hv : (j : Int) = k + 1 + v) : IntKind.wrap .u32 (IntKind.wrap .u32 (4 * (k : Int) + 4) + IntKind.wrap .u32 (4 * IntKind.wrap .u32 v)) = 4 * (j : Int) ∨ ¬ (j < 14000) := by
  by_cases c : j < 14000
  · left
    rw [wrap_mod, wrap_mod, wrap_mod, wrap_mod]; omega
  · exact .inr c
theorem do_bnz {a j : Nat} {v : Int} {m : T_ref03_Mem} (ha : a < 16) (hk : k < 14000) (hj : j < 14000) (hv : (j : Int) = k + 1 + v) (hr : R.g a ≠ 0) :
    ref04_do (tick (cpS R k s n)) m ⟨21, a, 0, 0, v⟩ = some (cpS R j (IntKind.wrap .i64 (s + 1)) n, m) := by
  unfold ref04_do
  show bind1 (ga R a) _ = _
  rw [ga_g ha, bind1_some]
  show bind1 (ga R ((0 : Nat) : Int)) _ = _
  rw [ga_g (by omega), bind1_some, if_neg (by simp), if_neg (by simp), if_neg (by simp), if_neg (by simp), if_neg (by simp), if_neg (by simp), if_neg (by simp), if_neg (by simp), if_neg (by simp), if_neg (by simp), if_pos (by simp), if_pos (by simpa using hr)]
  unfold ref04_do_j11 ref04_do_j10 ref04_do_j8 ref04_do_j7 ref04_do_j6 ref04_do_j5 ref04_do_j4 ref04_do_j3 ref04_do_j2 ref04_do_j1
  show some ((⟨_, IntKind.wrap .u32 (IntKind.wrap .u32 (4 * (k : Int) + 4) + IntKind.wrap .u32 (4 * IntKind.wrap .u32 v)), _, _, _, _, _, _, _, _, _, _, _, _⟩ : T_ref04_Cpu), m) = _
  rw [(jump_to hk hv).resolve_right (by omega)]; rfl
theorem do_br {j : Nat} {v : Int} {m : T_ref03_Mem} (hk : k < 14000) (hj : j < 14000) (hv : (j : Int) = k + 1 + v) :
    ref04_do (tick (cpS R k s n)) m ⟨22, 0, 0, 0, v⟩ = some (cpS R j (IntKind.wrap .i64 (s + 1)) n, m) := by
  unfold ref04_do
  show bind1 (ga R ((0 : Nat) : Int)) _ = _
  rw [ga_g (by omega), bind1_some]
  show bind1 (ga R ((0 : Nat) : Int)) _ = _
  rw [ga_g (by omega), bind1_some, if_neg (by simp), if_neg (by simp), if_neg (by simp), if_neg (by simp), if_neg (by simp), if_neg (by simp), if_neg (by simp), if_neg (by simp), if_neg (by simp), if_neg (by simp), if_neg (by simp), if_pos (by simp)]
  unfold ref04_do_j12 ref04_do_j10 ref04_do_j8 ref04_do_j7 ref04_do_j6 ref04_do_j5 ref04_do_j4 ref04_do_j3 ref04_do_j2 ref04_do_j1
  show some ((⟨_, IntKind.wrap .u32 (IntKind.wrap .u32 (4 * (k : Int) + 4) + IntKind.wrap .u32 (4 * IntKind.wrap .u32 v)), _, _, _, _, _, _, _, _, _, _, _, _⟩ : T_ref04_Cpu), m) = _
  rw [(jump_to hk hv).resolve_right (by omega)]; rfl
theorem arr16_put (R : Arr 16 Int) (v : Int) : (arrL [R.g 0, R.g 1, R.g 2, R.g 3, R.g 4, R.g 5, R.g 6, R.g 7, R.g 8, R.g 9, R.g 10, R.g 11, R.g 12, R.g 13, v, R.g 15] : Arr 16 Int) = R.put 14 v := by
  obtain ⟨l, h⟩ := R
  unfold Arr.put Arr.g arrL
  congr 1
  match l, h with
  | [a0, a1, a2, a3, a4, a5, a6, a7, a8, a9, a10, a11, a12, a13, a14, a15], _ => rfl
theorem do_call {j : Nat} {v : Int} {m : T_ref03_Mem} (hk : k < 14000) (hj : j < 14000) (hv : (j : Int) = k + 1 + v) :
    ref04_do (tick (cpS R k s n)) m ⟨23, 0, 0, 0, v⟩ = some (cpS (R.put 14 (4 * ((k + 1 : Nat) : Int))) j (IntKind.wrap .i64 (s + 1)) n, m) := by
  unfold ref04_do
  show bind1 (ga R ((0 : Nat) : Int)) _ = _
  rw [ga_g (by omega), bind1_some]
  show bind1 (ga R ((0 : Nat) : Int)) _ = _
  rw [ga_g (by omega), bind1_some, if_neg (by simp), if_neg (by simp), if_neg (by simp), if_neg (by simp), if_neg (by simp), if_neg (by simp), if_neg (by simp), if_neg (by simp), if_neg (by simp), if_neg (by simp), if_neg (by simp), if_neg (by simp), if_pos (by simp)]
  unfold ref04_do_j12 ref04_do_j10 ref04_do_j8 ref04_do_j7 ref04_do_j6 ref04_do_j5 ref04_do_j4 ref04_do_j3 ref04_do_j2 ref04_do_j1
  show some ((⟨(arrL [R.g 0, R.g 1, R.g 2, R.g 3, R.g 4, R.g 5, R.g 6, R.g 7, R.g 8, R.g 9, R.g 10, R.g 11, R.g 12, R.g 13, IntKind.wrap .u32 (4 * (k : Int) + 4), R.g 15] : Arr 16 Int), IntKind.wrap .u32 (IntKind.wrap .u32 (4 * (k : Int) + 4) + IntKind.wrap .u32 (4 * IntKind.wrap .u32 v)), _, _, _, _, _, _, _, _, _, _, _, _⟩ : T_ref04_Cpu), m) = _
  rw [(jump_to hk hv).resolve_right (by omega), pc_next (by omega), arr16_put]; rfl
theorem do_jr {a j : Nat} {m : T_ref03_Mem} (ha : a < 16) (hj : R.g a = 4 * (j : Int)) :
    ref04_do (tick (cpS R k s n)) m ⟨24, a, 0, 0, 0⟩ = some (cpS R j (IntKind.wrap .i64 (s + 1)) n, m) := by
  unfold ref04_do
  show bind1 (ga R a) _ = _
  rw [ga_g ha, bind1_some]
  show bind1 (ga R ((0 : Nat) : Int)) _ = _
  rw [ga_g (by omega), bind1_some, if_neg (by simp), if_neg (by simp), if_neg (by simp), if_neg (by simp), if_neg (by simp), if_neg (by simp), if_neg (by simp), if_neg (by simp), if_neg (by simp), if_neg (by simp), if_neg (by simp), if_neg (by simp), if_neg (by simp)]
  unfold ref04_others
  rw [if_pos (by simp)]
  unfold ref04_others_j1
  rw [bind1_some, hj]; rfl
theorem do_chks {a : Nat} {m : T_ref03_Mem} (ha : a < 16) (hk : k < 15000) (hn : n ≤ 100000) (hv : 4 * (n : Int) ≤ R.g a) (hv2 : R.g a < 2147483648) :
    ref04_do (tick (cpS R k s n)) m ⟨32, a, 0, 0, 0⟩ = some (cpS R (k + 1) (IntKind.wrap .i64 (s + 1)) n, m) := by
  unfold ref04_do
  show bind1 (ga R a) _ = _
  rw [ga_g ha, bind1_some]
  show bind1 (ga R ((0 : Nat) : Int)) _ = _
  rw [ga_g (by omega), bind1_some, if_neg (by simp), if_neg (by simp), if_neg (by simp), if_neg (by simp), if_neg (by simp), if_neg (by simp), if_neg (by simp), if_neg (by simp), if_neg (by simp), if_neg (by simp), if_neg (by simp), if_neg (by simp), if_neg (by simp)]
  unfold ref04_others
  rw [if_neg (by simp), if_neg (by simp), if_neg (by simp), if_neg (by simp), if_neg (by simp), if_neg (by simp), if_neg (by simp), if_neg (by simp), if_pos (by simp)]
  have c : ¬ decide (IntKind.wrap .i32 (R.g a) < IntKind.wrap .i32 (4 * (n : Int))) = true := by
    rw [wrap_i32 _ (by omega) (by omega), wrap_i32 _ (by omega) (by omega)]; simp; omega
  show bind1 (if decide (IntKind.wrap .i32 (R.g a) < IntKind.wrap .i32 (4 * (n : Int))) = true then _ else _) _ = _
  rw [if_neg c]
  unfold ref04_others_j7 ref04_others_j6 ref04_others_j5 ref04_others_j4 ref04_others_j3 ref04_others_j2 ref04_others_j1
  rw [bind1_some]
  show some ((⟨_, IntKind.wrap .u32 (4 * (k : Int) + 4), _, _, _, _, _, _, _, _, _, _, _, _⟩ : T_ref04_Cpu), m) = _
  rw [pc_next hk]; rfl
end
/-- any number, into any register -/
theorem num_any {r : Nat} (hr : r < 16) {n : Int} (h0 : -2147483648 ≤ n) (h1 : n ≤ 2147483647) : ∃ l, numW r n = some l ∧ l.length ≤ 2 ∧
    ∀ {W : List Int} {k N : Nat} {R : Arr 16 Int} {s t : Int} {P : T_ref04_Cpu → Prop}, Sits W k l → k + l.length ≤ N → N ≤ 15000 → 0 ≤ t → t < 4000 →
      (∀ s', ExR P (t + l.length) (memR N W) (cpS (R.put r (IntKind.wrap .u32 n)) (k + l.length) s' N)) → ExR P t (memR N W) (cpS R k s N) := by
  have wn : IntKind.wrap .i64 n = n := wrap_i64 _ (by omega) (by omega)
  by_cases c : -32768 ≤ n ∧ n < 32768
  · have he := enc_gen (op := 2) (a := r) (b := 0) (n := n) (sh := 1) (by kernel_rfl) (.inl ⟨.inl rfl, by omega, by omega⟩) (by decide) (by decide) (by omega) (by omega) (by decide) (by decide) (fun _ => rfl)
    have hd := dec_gen (op := 2) (a := r) (b := 0) (n := n) (sh := 1) (by kernel_rfl) (.inl ⟨.inl rfl, by omega, by omega⟩) (by decide) (by decide) (by omega) (by omega) (by decide) (by decide) (fun _ => rfl)
    refine ⟨[2 * 16777216 + (r : Int) * 1048576 + 0 * 65536 + n % 65536], ?_, by simp, fun {W k N R s t P} hs hk hN t0 t1 next => ?_⟩
    · unfold numW
      rw [fits16 h0 h1, bind1_some, decide_eq_true c, if_pos rfl, wn, he, bind2_some, if_pos rfl]
    · obtain ⟨g1, _⟩ := hs.here
      simp at hk
      exact xr_one t0 (by omega) g1 hd (by omega) hN (do_ldi hr (by omega)) (next _)
  · obtain ⟨u, hu⟩ : ∃ u, u = IntKind.wrap .u32 n := ⟨_, rfl⟩
    have u0 : 0 ≤ u ∧ u < 4294967296 := by rw [hu, wrap_mod]; omega
    have hi : IntKind.wrap .i64 (Int.fdiv u (2 ^ 16)) = u / 65536 := by
      have e : Int.fdiv u (2 ^ 16) = u / 65536 := by rw [Int.fdiv_eq_ediv_of_nonneg _ (by decide)]; rfl
      rw [e, wrap_i64 _ (by omega) (by omega)]
    have lo : IntKind.wrap .i64 (bitsOf .and .u32 u 65535) = u % 65536 := by rw [and_16 u u0.1 u0.2, wrap_i64 _ (by omega) (by omega)]
    have he1 := enc_gen (op := 3) (a := r) (b := 0) (n := u / 65536) (sh := 2) (by kernel_rfl) (.inr ⟨.inl rfl, by omega, by omega⟩) (by decide) (by decide) (by omega) (by omega) (by decide) (by decide) (fun _ => rfl)
    have hd1 := dec_gen (op := 3) (a := r) (b := 0) (n := u / 65536) (sh := 2) (by kernel_rfl) (.inr ⟨.inl rfl, by omega, by omega⟩) (by decide) (by decide) (by omega) (by omega) (by decide) (by decide) (fun _ => rfl)
    have he2 := enc_gen (op := 4) (a := r) (b := r) (n := u % 65536) (sh := 4) (by kernel_rfl) (.inr ⟨.inr rfl, by omega, by omega⟩) (by decide) (by decide) (by omega) (by omega) (by omega) (by omega) (fun h => by omega)
    have hd2 := dec_gen (op := 4) (a := r) (b := r) (n := u % 65536) (sh := 4) (by kernel_rfl) (.inr ⟨.inr rfl, by omega, by omega⟩) (by decide) (by decide) (by omega) (by omega) (by omega) (by omega) (fun h => by omega)
    refine ⟨[3 * 16777216 + (r : Int) * 1048576 + 0 * 65536 + u / 65536 % 65536, 4 * 16777216 + (r : Int) * 1048576 + (r : Int) * 65536 + u % 65536 % 65536], ?_, by simp, fun {W k N R s t P} hs hk hN t0 t1 next => ?_⟩
    · unfold numW
      rw [fits16 h0 h1, bind1_some, decide_eq_false c, if_neg (by simp), ← hu, hi, lo, he1, bind2_some, if_pos rfl, he2, bind2_some, if_pos rfl]
    · obtain ⟨g1, hs⟩ := hs.here
      obtain ⟨g2, _⟩ := hs.here
      simp only [List.length_cons, List.length_nil] at hk next
      refine xr_one t0 (by omega) g1 hd1 (by omega) hN (do_lui hr (by omega)) ?_
      refine xr_one (by omega) (by omega) g2 hd2 (by omega) hN (do_ori hr hr (by omega)) ?_
      have e1 : IntKind.wrap .u32 (IntKind.wrap .u32 (u / 65536) * 65536) = u / 65536 * 2 ^ 16 := by
        have p16 : (2 : Int) ^ 16 = 65536 := by decide
        rw [wrap_u32 (u / 65536) (by omega) (by omega), wrap_u32 _ (by omega) (by omega), p16]
      have e2 : bitsOf .or .u32 (u / 65536 * 2 ^ 16) (IntKind.wrap .u32 (u % 65536)) = u := by
        rw [wrap_u32 (u % 65536) (by omega) (by omega), or_part 16 _ _ (by omega) (by omega) (by omega) (by omega)]; omega
      rw [e1, put_same hr, e2, put_put]
      have := next (IntKind.wrap .i64 (IntKind.wrap .i64 (s + 1) + 1))
      rw [← hu, show t + ((0 + 1 + 1 : Nat) : Int) = t + 1 + 1 by omega] at this
      exact this
theorem keep_set {W : List Int} {N j : Nat} {v : Int} {l : List Int} {k : Nat} (h : Sits W k l) (hk : k + l.length ≤ N) (hj : N ≤ j) : Sits (W.set j v) k l := fun q x hq => by
  have := (List.getElem?_eq_some_iff.1 hq).1
  rw [List.getElem?_set_ne (by omega)]; exact h q x hq
/-- the procedure, from its first word to where it was called from -/
theorem proc_xr {N k : Nat} {s t ua ub fp : Int} {W : List Int} {R : Arr 16 Int} {P : T_ref04_Cpu → Prop} (hN : N ≤ 1000) (hN0 : 25 ≤ N) (hW : W.length = N + 64) (hs : Sits W 2 (pC.drop 2)) (xa : W[N + 63]? = some ua) (xb : W[N + 62]? = some ub) (ha : 0 ≤ ua ∧ ua < 4294967296) (hb : 0 ≤ ub ∧ ub < 4294967296)
    (g15 : R.g 15 = 4 * ((N + 61 : Nat) : Int)) (g14 : R.g 14 = 4 * (k : Int)) (g13 : R.g 13 = fp) (t0 : 0 ≤ t) (t1 : t < 3000)
    (next : ∀ (R' : Arr 16 Int) (s' : Int), R'.g 15 = 4 * ((N + 64 : Nat) : Int) → R'.g 13 = fp → R'.g 0 = IntKind.wrap .u32 (ua - ub) → ExR P (t + 20) (memR N ((W.set (N + 60) (4 * (k : Int))).set (N + 59) fp)) (cpS R' k s' N)) :
    ExR P t (memR N W) (cpS R 2 s N) := by
  have hs : Sits W 2 [100663292, 334430208, 100663292, 333381632, 98500608, 85983168, 537919488, 100597760, 33554432, 85917696, 270598157, 354418691, 318832640, 85000196, 385875963, 302841872, 303890444, 117440513, 100466688, 316604416, 317652996, 100597780, 417333248] := hs
  have w00 : IntKind.wrap .u32 0 = 0 := by kernel_rfl
  have wm4 : IntKind.wrap .u32 (-4) = 4294967292 := by kernel_rfl
  have wm64 : IntKind.wrap .u32 (-64) = 4294967232 := by kernel_rfl
  have w4 : IntKind.wrap .u32 4 = 4 := by kernel_rfl
  have w16 : IntKind.wrap .u32 16 = 16 := by kernel_rfl
  have w12 : IntKind.wrap .u32 12 = 12 := by kernel_rfl
  have w20 : IntKind.wrap .u32 20 = 20 := by kernel_rfl
  have add : ∀ (q d : Nat) (v : Int), q ≤ 20000 → d ≤ 10 → v = 4 * (d : Int) → IntKind.wrap .u32 (4 * (q : Int) + v) = 4 * ((q + d : Nat) : Int) := fun q d v h1 h2 h3 => by rw [h3, wrap_u32 _ (by omega) (by omega)]; omega
  obtain ⟨x2, hs⟩ := hs.here
  obtain ⟨x3, hs⟩ := hs.here
  refine xr_one t0 (by omega) x2 dec_dn (by omega) (by omega) (do_addi (a := 15) (b := 15) (by decide) (by decide) (by omega)) ?_
  have d1 : IntKind.wrap .u32 (R.g 15 + IntKind.wrap .u32 (-4)) = 4 * ((N + 60 : Nat) : Int) := by rw [g15, wm4, wrap_mod]; omega
  rw [d1]
  refine xr_one (by omega) (by omega) x3 (show ref02_Decode 334430208 = some (⟨19, 14, 15, 0, 0⟩, 0) by rw [decC_eq]; kernel_rfl) (by omega) (by omega) (do_stw (a := 14) (b := 15) (m' := memR N (W.set (N + 60) (4 * (k : Int)))) (by decide) (by decide) (by omega) ?_) ?_
  · rw [put_same (by decide), put_other (by decide), g14, w00, add _ 0 0 (by omega) (by decide) rfl]; exact store_at (by omega) (by omega) (by omega)
  obtain ⟨W1, hW1⟩ : ∃ W1, W1 = W.set (N + 60) (4 * (k : Int)) := ⟨_, rfl⟩
  have hs := keep_set (N := N) (j := N + 60) (v := 4 * (k : Int)) hs (by simp; omega) (by omega)
  rw [← hW1] at hs ⊢ next
  have l1 : W1.length = N + 64 := by rw [hW1, List.length_set, hW]
  obtain ⟨x4, hs⟩ := hs.here
  obtain ⟨x5, hs⟩ := hs.here
  refine xr_one (by omega) (by omega) x4 dec_dn (by omega) (by omega) (do_addi (a := 15) (b := 15) (by decide) (by decide) (by omega)) ?_
  have d2 : IntKind.wrap .u32 ((R.put 15 (4 * ((N + 60 : Nat) : Int))).g 15 + IntKind.wrap .u32 (-4)) = 4 * ((N + 59 : Nat) : Int) := by rw [put_same (by decide), wm4, wrap_mod]; omega
  rw [d2, put_put]
  refine xr_one (by omega) (by omega) x5 (show ref02_Decode 333381632 = some (⟨19, 13, 15, 0, 0⟩, 0) by rw [decC_eq]; kernel_rfl) (by omega) (by omega) (do_stw (a := 13) (b := 15) (m' := memR N (W1.set (N + 59) fp)) (by decide) (by decide) (by omega) ?_) ?_
  · rw [put_same (by decide), put_other (by decide), g13, w00, add _ 0 0 (by omega) (by decide) rfl]; exact store_at (by omega) (by omega) (by omega)
  obtain ⟨W2, hW2⟩ : ∃ W2, W2 = W1.set (N + 59) fp := ⟨_, rfl⟩
  have hs := keep_set (N := N) (j := N + 59) (v := fp) hs (by simp; omega) (by omega)
  rw [← hW2] at hs ⊢ next
  have l2 : W2.length = N + 64 := by rw [hW2, List.length_set, l1]
  have ya : W2[N + 63]? = some ua := by rw [hW2, List.getElem?_set_ne (by omega), hW1, List.getElem?_set_ne (by omega)]; exact xa
  have yb : W2[N + 62]? = some ub := by rw [hW2, List.getElem?_set_ne (by omega), hW1, List.getElem?_set_ne (by omega)]; exact xb
  have yk : W2[N + 60]? = some (4 * (k : Int)) := by rw [hW2, List.getElem?_set_ne (by omega), hW1, List.getElem?_set_self (by omega)]
  have yf : W2[N + 59]? = some fp := by rw [hW2, List.getElem?_set_self (by omega)]
  obtain ⟨x6, hs⟩ := hs.here
  obtain ⟨x7, hs⟩ := hs.here
  obtain ⟨x8, hs⟩ := hs.here
  obtain ⟨x9, hs⟩ := hs.here
  obtain ⟨x10, hs⟩ := hs.here
  obtain ⟨x11, hs⟩ := hs.here
  obtain ⟨x12, hs⟩ := hs.here
  obtain ⟨x13, hs⟩ := hs.here
  obtain ⟨_, hs⟩ := hs.here
  obtain ⟨_, hs⟩ := hs.here
  obtain ⟨_, hs⟩ := hs.here
  obtain ⟨x17, hs⟩ := hs.here
  obtain ⟨x18, hs⟩ := hs.here
  obtain ⟨x19, hs⟩ := hs.here
  obtain ⟨x20, hs⟩ := hs.here
  obtain ⟨x21, hs⟩ := hs.here
  obtain ⟨x22, hs⟩ := hs.here
  obtain ⟨x23, hs⟩ := hs.here
  obtain ⟨x24, _⟩ := hs.here
  obtain ⟨v, hv⟩ : ∃ v, v = 4 * ((N + 59 : Nat) : Int) := ⟨_, rfl⟩
  rw [← hv]
  have v0 : IntKind.wrap .u32 (v + IntKind.wrap .u32 0) = v := by rw [w00, hv, add _ 0 0 (by omega) (by decide) rfl]
  refine xr_one (by omega) (by omega) x6 (show ref02_Decode 98500608 = some (⟨5, 13, 15, 0, 0⟩, 0) by rw [decC_eq]; kernel_rfl) (by omega) (by omega) (do_addi (a := 13) (b := 15) (by decide) (by decide) (by omega)) ?_
  rw [put_same (by decide), v0]
  obtain ⟨R1, hR1⟩ : ∃ R1, R1 = (R.put 15 v).put 13 v := ⟨_, rfl⟩
  rw [← hR1]
  have a15 : R1.g 15 = v := by rw [hR1, put_other (by decide), put_same (by decide)]
  have a13 : R1.g 13 = v := by rw [hR1, put_same (by decide)]
  refine xr_one (by omega) (by omega) x7 (show ref02_Decode 85983168 = some (⟨5, 1, 15, 0, -64⟩, 0) by rw [decC_eq]; kernel_rfl) (by omega) (by omega) (do_addi (a := 1) (b := 15) (by decide) (by decide) (by omega)) ?_
  refine xr_one (by omega) (by omega) x8 (show ref02_Decode 537919488 = some (⟨32, 1, 0, 0, 0⟩, 0) by rw [decC_eq]; kernel_rfl) (by omega) (by omega) (do_chks (a := 1) (by decide) (by omega) (by omega) (by rw [put_same (by decide), a15, wm64, wrap_mod]; omega) (by rw [put_same (by decide), a15, wm64, wrap_mod]; omega)) ?_
  refine xr_one (by omega) (by omega) x9 (show ref02_Decode 100597760 = some (⟨5, 15, 15, 0, 0⟩, 0) by rw [decC_eq]; kernel_rfl) (by omega) (by omega) (do_addi (a := 15) (b := 15) (by decide) (by decide) (by omega)) ?_
  refine xr_one (by omega) (by omega) x10 (show ref02_Decode 33554432 = some (⟨2, 0, 0, 0, 0⟩, 0) by rw [decC_eq]; kernel_rfl) (by omega) (by omega) (do_ldi (a := 0) (by decide) (by omega)) ?_
  refine xr_one (by omega) (by omega) x11 (show ref02_Decode 85917696 = some (⟨5, 1, 15, 0, 0⟩, 0) by rw [decC_eq]; kernel_rfl) (by omega) (by omega) (do_addi (a := 1) (b := 15) (by decide) (by decide) (by omega)) ?_
  rw [put_other (show 0 ≠ 15 by decide), put_same (show 15 < 16 by decide), put_other (show 1 ≠ 15 by decide), a15, v0, v0]
  obtain ⟨R2, hR2⟩ : ∃ R2, R2 = (((R1.put 1 (IntKind.wrap .u32 (v + IntKind.wrap .u32 (-64)))).put 15 v).put 0 (IntKind.wrap .u32 0)).put 1 v := ⟨_, rfl⟩
  rw [← hR2]
  have b1 : R2.g 1 = v := by rw [hR2, put_same (by decide)]
  have b13 : R2.g 13 = v := by rw [hR2, put_other (by decide), put_other (by decide), put_other (by decide), put_other (by decide), a13]
  have re : ref04_reckon 16 (R2.g 1) (R2.g 13) = some (1, true) := by
    rw [b1, b13]
    have e : ref04_reckon 16 v v = bind1 (ref04_is (v == v)) fun r => some (r, true) := by unfold ref04_reckon; rfl
    rw [e, beq_self_eq_true]; rfl
  refine xr_one (by omega) (by omega) x12 (show ref02_Decode 270598157 = some (⟨16, 2, 1, 13, 0⟩, 0) by rw [decC_eq]; kernel_rfl) (by omega) (by omega) (do_three (v := 1) (a := 2) (b := 1) (c := 13) (by decide) (by decide) (by decide) (by decide) (by decide) (by omega) re) ?_
  refine xr_one (by omega) (by omega) x13 (show ref02_Decode 354418691 = some (⟨21, 2, 0, 0, 3⟩, 0) by rw [decC_eq]; kernel_rfl) (by omega) (by omega) (do_bnz (a := 2) (j := 17) (by decide) (by omega) (by decide) (by omega) (by rw [put_same (by decide)]; decide)) ?_
  have c13 : (R2.put 2 1).g 13 = v := by rw [put_other (by decide), b13]
  refine xr_one (by omega) (by omega) x17 (show ref02_Decode 302841872 = some (⟨18, 0, 13, 0, 16⟩, 0) by rw [decC_eq]; kernel_rfl) (by omega) (by omega) (do_ldw (a := 0) (b := 13) (x := ua) (by decide) (by decide) (by omega) ?_) ?_
  · rw [c13, hv, w16, add _ 4 16 (by omega) (by decide) rfl]; exact load_at (by omega) ya
  refine xr_one (by omega) (by omega) x18 (show ref02_Decode 303890444 = some (⟨18, 1, 13, 0, 12⟩, 0) by rw [decC_eq]; kernel_rfl) (by omega) (by omega) (do_ldw (a := 1) (b := 13) (x := ub) (by decide) (by decide) (by omega) ?_) ?_
  · rw [put_other (by decide), c13, hv, w12, add _ 3 12 (by omega) (by decide) rfl]; exact load_at (by omega) yb
  refine xr_one (by omega) (by omega) x19 (show ref02_Decode 117440513 = some (⟨7, 0, 0, 1, 0⟩, 0) by rw [decC_eq]; kernel_rfl) (by omega) (by omega) (do_three (v := IntKind.wrap .u32 (ua - ub)) (a := 0) (b := 0) (c := 1) (by decide) (by decide) (by decide) (by decide) (by decide) (by omega) ?_) ?_
  · rw [put_same (by decide), put_other (by decide), put_same (by decide)]; rfl
  obtain ⟨R3, hR3⟩ : ∃ R3, R3 = (((R2.put 2 1).put 0 ua).put 1 ub).put 0 (IntKind.wrap .u32 (ua - ub)) := ⟨_, rfl⟩
  rw [← hR3]
  have e0 : R3.g 0 = IntKind.wrap .u32 (ua - ub) := by rw [hR3, put_same (by decide)]
  have e13 : R3.g 13 = v := by rw [hR3, put_other (by decide), put_other (by decide), put_other (by decide), c13]
  refine xr_one (by omega) (by omega) x20 (show ref02_Decode 100466688 = some (⟨5, 15, 13, 0, 0⟩, 0) by rw [decC_eq]; kernel_rfl) (by omega) (by omega) (do_addi (a := 15) (b := 13) (by decide) (by decide) (by omega)) ?_
  rw [e13, v0]
  refine xr_one (by omega) (by omega) x21 (show ref02_Decode 316604416 = some (⟨18, 13, 15, 0, 0⟩, 0) by rw [decC_eq]; kernel_rfl) (by omega) (by omega) (do_ldw (a := 13) (b := 15) (x := fp) (by decide) (by decide) (by omega) ?_) ?_
  · rw [put_same (by decide), v0, hv]; exact load_at (by omega) yf
  refine xr_one (by omega) (by omega) x22 (show ref02_Decode 317652996 = some (⟨18, 14, 15, 0, 4⟩, 0) by rw [decC_eq]; kernel_rfl) (by omega) (by omega) (do_ldw (a := 14) (b := 15) (x := 4 * (k : Int)) (by decide) (by decide) (by omega) ?_) ?_
  · rw [put_other (by decide), put_same (by decide), hv, w4, add _ 1 4 (by omega) (by decide) rfl]; exact load_at (by omega) yk
  refine xr_one (by omega) (by omega) x23 (show ref02_Decode 100597780 = some (⟨5, 15, 15, 0, 20⟩, 0) by rw [decC_eq]; kernel_rfl) (by omega) (by omega) (do_addi (a := 15) (b := 15) (by decide) (by decide) (by omega)) ?_
  have d5 : IntKind.wrap .u32 ((((R3.put 15 v).put 13 fp).put 14 (4 * (k : Int))).g 15 + IntKind.wrap .u32 20) = 4 * ((N + 64 : Nat) : Int) := by
    rw [put_other (by decide), put_other (by decide), put_same (by decide), hv, w20, add _ 5 20 (by omega) (by decide) rfl]
  rw [d5]
  refine xr_one (by omega) (by omega) x24 (show ref02_Decode 417333248 = some (⟨24, 14, 0, 0, 0⟩, 0) by rw [decC_eq]; kernel_rfl) (by omega) (by omega) (do_jr (a := 14) (j := k) (by decide) (by rw [put_other (by decide), put_same (by decide)])) ?_
  have := next ((((R3.put 15 v).put 13 fp).put 14 (4 * (k : Int))).put 15 (4 * ((N + 64 : Nat) : Int)))
  rw [show t + 20 = t + 1 + 1 + 1 + 1 + 1 + 1 + 1 + 1 + 1 + 1 + 1 + 1 + 1 + 1 + 1 + 1 + 1 + 1 + 1 + 1 by omega] at this
  exact this _ (put_same (by decide)) (by rw [put_other (by decide), put_other (by decide), put_same (by decide)]) (by rw [put_other (by decide), put_other (by decide), put_other (by decide), put_other (by decide), e0])
end Go.Proofs.Abs
/- A procedure that is called gets what waits, in order, and its answer is there; so are exceptions' numbers, in any register that is free. -/
namespace Go.Proofs.Abs
open Go
set_option linter.unusedVariables false
set_option linter.unusedSimpArgs false
theorem dec_callw {k : Nat} (h0 : 32 ≤ k) (h1 : k ≤ 36) : ref02_Decode (402653185 - (k : Int)) = some (⟨23, 0, 0, 0, 1 - (k : Int)⟩, 0) := by
  have : k = 32 ∨ k = 33 ∨ k = 34 ∨ k = 35 ∨ k = 36 := by omega
  rcases this with rfl | rfl | rfl | rfl | rfl <;> (rw [decC_eq]; show decC _ = some _; kernel_rfl)
theorem enc_callw {k : Nat} (h0 : 32 ≤ k) (h1 : k ≤ 36) : instr_Encode ⟨23, 0, 0, 0, 1 - (k : Int)⟩ = some (402653185 - (k : Int), 0) := by
  have : k = 32 ∨ k = 33 ∨ k = 34 ∨ k = 35 ∨ k = 36 := by omega
  rcases this with rfl | rfl | rfl | rfl | rfl <;> (show instr_Encode _ = some _; kernel_rfl)
/-- all of the code -/
theorem calls_run {a b d : Int} (a0 : -2147483648 ≤ a) (a1 : a ≤ 2147483647) (b0 : -2147483648 ≤ b) (b1 : b ≤ 2147483647) (d0 : -2147483648 ≤ d) (d1 : d ≤ 2147483647) :
    ∃ la lb ld, numW 0 a = some la ∧ numW 0 b = some lb ∧ numW 3 d = some ld ∧ la.length ≤ 2 ∧ lb.length ≤ 2 ∧ ld.length ≤ 2 ∧
    ∀ (N kc : Nat) (ws : List Int), kc = 32 + la.length + lb.length → ws = pC ++ (la ++ ([100663292, 319750144] ++ (lb ++ ([100663292, 319750144] ++ ([33554432] ++ ([100663292, 319750144] ++ ([402653185 - (kc : Int)] ++ ld))))))) → N = ws.length + 1 →
      ExR (fun c => PV (IntKind.wrap .i32 (a - b)) N c ∧ IntKind.wrap .i32 (c.R_.g 3) = d) 0 (memR N (ws ++ [16777216] ++ List.replicate 64 0)) (cpS (R0 N) 1 0 N) := by
  obtain ⟨la, na, la2, ra⟩ := num_any (r := 0) (by decide) a0 a1
  obtain ⟨lb, nb, lb2, rb⟩ := num_any (r := 0) (by decide) b0 b1
  obtain ⟨ld, nd, ld2, rd⟩ := num_any (r := 3) (by decide) d0 d1
  refine ⟨la, lb, ld, na, nb, nd, la2, lb2, ld2, fun N kc ws hkc hws hN => ?_⟩
  obtain ⟨y, hy⟩ : ∃ z : List Int, z = List.replicate 64 0 := ⟨_, rfl⟩
  have ly : y.length = 64 := by rw [hy, List.length_replicate]
  rw [← hy]
  obtain ⟨W, hW⟩ : ∃ W, W = ws ++ [16777216] ++ y := ⟨_, rfl⟩
  rw [← hW]
  have lp : pC.length = 25 := rfl
  have lws : ws.length = la.length + lb.length + ld.length + 33 := by rw [hws]; simp [lp]; omega
  have lW : W.length = N + 64 := by rw [hW]; simp [ly]; omega
  have hW2 : W = 16777216 :: ((pC.drop 1 ++ (la ++ ([100663292, 319750144] ++ (lb ++ ([100663292, 319750144] ++ ([33554432] ++ ([100663292, 319750144] ++ ([402653185 - (kc : Int)] ++ (ld ++ [16777216]))))))))) ++ y) := by rw [hW, hws]; simp [pC]
  have hs : Sits W 1 (pC.drop 1 ++ (la ++ ([100663292, 319750144] ++ (lb ++ ([100663292, 319750144] ++ ([33554432] ++ ([100663292, 319750144] ++ ([402653185 - (kc : Int)] ++ (ld ++ [16777216]))))))))) := by rw [hW2]; exact sits_mk _ _ _
  obtain ⟨q0, hs⟩ := hs.app
  have q0' : Sits W 1 (369098775 :: pC.drop 2) := q0
  obtain ⟨x1, qp⟩ := q0'.here
  have hs : Sits W 25 (la ++ ([100663292, 319750144] ++ (lb ++ ([100663292, 319750144] ++ ([33554432] ++ ([100663292, 319750144] ++ ([402653185 - (kc : Int)] ++ (ld ++ [16777216])))))))) := hs
  refine xr_one (by omega) (by omega) x1 (show ref02_Decode 369098775 = some (⟨22, 0, 0, 0, 23⟩, 0) by rw [decC_eq]; kernel_rfl) (by omega) (by omega) (do_br (j := 25) (by decide) (by decide) (by decide)) ?_
  obtain ⟨q1, hs⟩ := hs.app
  obtain ⟨q2, hs⟩ := hs.app
  simp only [List.length_cons, List.length_nil] at hs
  refine ra q1 (by omega) (by omega) (by omega) (by omega) fun s1 => ?_
  obtain ⟨ua, hua⟩ : ∃ u, u = IntKind.wrap .u32 a := ⟨_, rfl⟩
  obtain ⟨ub, hub⟩ : ∃ u, u = IntKind.wrap .u32 b := ⟨_, rfl⟩
  rw [← hua]
  have g15 : (R0 N).g 15 = 4 * (N : Int) + 256 := rfl
  have g13 : (R0 N).g 13 = 4 * (N : Int) + 192 := rfl
  refine push_xr (j := N + 63) q2 (by rw [put_other (by decide), g15]; omega) (by omega) (by omega) (by omega) (by omega) (by omega) (by omega) (by omega) fun R1 s2 r15 rq => ?_
  rw [put_same (by decide)]
  have r13 : R1.g 13 = 4 * (N : Int) + 192 := by rw [rq 13 (by decide), put_other (by decide)]; exact g13
  obtain ⟨W1, hW1⟩ : ∃ W1, W1 = W.set (N + 63) ua := ⟨_, rfl⟩
  have lW1 : W1.length = N + 64 := by rw [hW1, List.length_set, lW]
  have hs := keep_set (N := N) (j := N + 63) (v := ua) hs (by simp; omega) (by omega)
  rw [← hW1] at hs ⊢
  obtain ⟨q3, hs⟩ := hs.app
  obtain ⟨q4, hs⟩ := hs.app
  simp only [List.length_cons, List.length_nil] at hs
  refine rb q3 (by omega) (by omega) (by omega) (by omega) fun s3 => ?_
  rw [← hub]
  refine push_xr (j := N + 62) q4 (by rw [put_other (by decide), r15]) (by omega) (by omega) (by omega) (by omega) (by omega) (by omega) (by omega) fun R2 s4 r215 rq2 => ?_
  rw [put_same (by decide)]
  have r213 : R2.g 13 = 4 * (N : Int) + 192 := by rw [rq2 13 (by decide), put_other (by decide)]; exact r13
  obtain ⟨W2, hW2⟩ : ∃ W2, W2 = W1.set (N + 62) ub := ⟨_, rfl⟩
  have lW2 : W2.length = N + 64 := by rw [hW2, List.length_set, lW1]
  have hs := keep_set (N := N) (j := N + 62) (v := ub) hs (by simp; omega) (by omega)
  rw [← hW2] at hs ⊢
  obtain ⟨q5, hs⟩ := hs.app
  obtain ⟨q6, hs⟩ := hs.app
  obtain ⟨q7, hs⟩ := hs.app
  obtain ⟨x5, _⟩ := q5.here
  obtain ⟨x7, _⟩ := q7.here
  simp only [List.length_cons, List.length_nil] at hs q6 x7
  refine xr_one (by omega) (by omega) x5 (show ref02_Decode 33554432 = some (⟨2, 0, 0, 0, 0⟩, 0) by rw [decC_eq]; kernel_rfl) (by omega) (by omega) (do_ldi (a := 0) (by decide) (by omega)) ?_
  refine push_xr (j := N + 61) q6 (by rw [put_other (by decide), r215]) (by omega) (by omega) (by omega) (by omega) (by omega) (by omega) (by omega) fun R3 s5 r315 rq3 => ?_
  have r313 : R3.g 13 = 4 * (N : Int) + 192 := by rw [rq3 13 (by decide), put_other (by decide)]; exact r213
  obtain ⟨z0, hz0⟩ : ∃ z0, z0 = (R2.put 0 (IntKind.wrap .u32 0)).g 0 := ⟨_, rfl⟩
  rw [← hz0]
  obtain ⟨W3, hW3⟩ : ∃ W3, W3 = W2.set (N + 61) z0 := ⟨_, rfl⟩
  have lW3 : W3.length = N + 64 := by rw [hW3, List.length_set, lW2]
  have hs := keep_set (N := N) (j := N + 61) (v := z0) hs (by simp; omega) (by omega)
  have x7 : W3[kc]? = some (402653185 - (kc : Int)) := by
    rw [hW3, List.getElem?_set_ne (by omega), ← x7]; congr 1; omega
  rw [← hW3] at hs ⊢
  have ek : 25 + la.length + (0 + 1 + 1) + lb.length + (0 + 1 + 1) + (0 + 1) + (0 + 1 + 1) = kc := by omega
  have ek2 : 25 + la.length + 2 + lb.length + 2 + 1 + 2 = kc := by omega
  rw [ek] at hs
  rw [ek2]
  have qp3 : Sits W3 2 (pC.drop 2) := by
    have l : 2 + (pC.drop 2).length ≤ N := by simp [lp]; omega
    rw [hW3, hW2, hW1]
    exact keep_set (N := N) (keep_set (N := N) (keep_set (N := N) qp l (by omega)) l (by omega)) l (by omega)
  refine xr_one (by omega) (by omega) x7 (dec_callw (by omega) (by omega)) (by omega) (by omega) (do_call (j := 2) (by omega) (by decide) (by omega)) ?_
  refine proc_xr (k := kc + 1) (ua := ua) (ub := ub) (fp := 4 * (N : Int) + 192) (by omega) (by omega) lW3 qp3 (by rw [hW3, List.getElem?_set_ne (by omega), hW2, List.getElem?_set_ne (by omega), hW1, List.getElem?_set_self (by omega)]) (by rw [hW3, List.getElem?_set_ne (by omega), hW2, List.getElem?_set_self (by omega)])
    (by rw [hua, wrap_mod]; omega) (by rw [hub, wrap_mod]; omega) (by rw [put_other (by decide), r315]) (put_same (by decide)) (by rw [put_other (by decide), r313]) (by omega) (by omega) fun R4 s6 r415 r413 r40 => ?_
  have l9 : kc + (0 + 1) + (ld ++ [16777216]).length ≤ N := by simp; omega
  have hs := keep_set (N := N) (j := N + 59) (v := 4 * (N : Int) + 192) (keep_set (N := N) (j := N + 60) (v := 4 * ((kc + 1 : Nat) : Int)) hs l9 (by omega)) l9 (by omega)
  obtain ⟨q8, hs⟩ := hs.app
  obtain ⟨xh, _⟩ := hs.here
  have q8 := q8
  refine rd q8 (by omega) (by omega) (by omega) (by omega) fun s7 => ?_
  refine xr_one (by omega) (by omega) xh dec_halt (by omega) (by omega) do_halt ?_
  refine xr_end (show (1 : Int) ≠ 0 by decide) ⟨⟨rfl, rfl, ?_, ?_, ?_⟩, ?_⟩
  · show IntKind.wrap .i32 ((R4.put 3 _).g 0) = _
    rw [put_other (by decide), r40, hua, hub]
    simp only [wrap_mod, wrap_i32_mod]
    omega
  · show (R4.put 3 _).g 15 = _
    rw [put_other (by decide), r415]; omega
  · show (R4.put 3 _).g 13 = _
    rw [put_other (by decide), r413]
  · show IntKind.wrap .i32 ((R4.put 3 _).g 3) = _
    rw [put_same (by decide), wrap_mod, wrap_i32_mod]; omega
theorem ItemCalls_holds : ItemCallsPure := by
  intro a b d wa wb wd
  have wa := wf_i32.1 wa
  have wb := wf_i32.1 wb
  have wd := wf_i32.1 wd
  obtain ⟨la, lb, ld, na, nb, nd, la2, lb2, ld2, run⟩ := calls_run wa.1 wa.2 wb.1 wb.2 wd.1 wd.2
  obtain ⟨kc, hkc⟩ : ∃ kc, kc = 32 + la.length + lb.length := ⟨_, rfl⟩
  obtain ⟨Ha, ea⟩ := iawake_spec []
  obtain ⟨H1, i, g, e1, G1⟩ := begun_spec Ha
  obtain ⟨H2, e2, G2⟩ := put_gn (x := ⟨22, 0, 0, 0, 0⟩) (w := 369098752) G1 (by kernel_rfl) (by decide)
  have G2 : Gn H2 i g (D (pA.take 2) 0 0 0) := G2
  have G3 := frame_gn G2
  obtain ⟨f, hf⟩ : ∃ f, f = H2.length := ⟨_, rfl⟩
  rw [← hf] at G3
  obtain ⟨H3, hH3⟩ : ∃ H3, H3 = new_frame_Frame H2 ⟨0⟩ := ⟨_, rfl⟩
  rw [← hH3] at G3
  obtain ⟨H4, e4, G4⟩ := enter_gn (f := f) G3
  obtain ⟨H5, e5, G5⟩ := sign_gn (x := 18) (a := 0) (b := 13) (n := 16) (w := 302841872) G4 (by kernel_rfl) (by decide)
  have G5 : Gn H5 i g (D (pB.take 18) 0 0 0) 0 (frP 7 9 f) [(f, o_frame_Frame ⟨0⟩)] := G5
  obtain ⟨H6, e6, G6⟩ := sign_gn (x := 18) (a := 1) (b := 13) (n := 12) (w := 303890444) G5 (by kernel_rfl) (by decide)
  have G6 : Gn H6 i g (D (pB.take 19) 0 0 0) 0 (frP 7 9 f) [(f, o_frame_Frame ⟨0⟩)] := G6
  obtain ⟨H7, e7, G7⟩ := three_gn (x := 7) (a := 0) (b := 0) (d := 1) (w := 117440513) G6 (by kernel_rfl) (by decide)
  have G7 : Gn H7 i g (D (pB.take 20) 0 0 0) 0 (frP 7 9 f) [(f, o_frame_Frame ⟨0⟩)] := G7
  obtain ⟨H8, e8, G8⟩ := leave_gn G7
  obtain ⟨H9, e9, G9⟩ := done_gn G8
  obtain ⟨H10, e10, G10⟩ := land_gn (at_ := 1) (n := 23) (w := 369098752) (w' := 369098775) (x := ⟨22, 0, 0, 0, 0⟩) G9 (by decide) (by rfl) (by kernel_rfl) (by decide) (by kernel_rfl)
  have G10 : Gn H10 i g (D pC 0 0 0) 0 (frP 7 9 f) [(f, o_frame_Frame ⟨0⟩)] := G10
  have lp : pC.length = 25 := rfl
  obtain ⟨H11, e11, G11⟩ := number_gn G10 na (by decide)
  obtain ⟨H12, e12, G12⟩ := wait_gn G11 (by simp [lp]; omega) (by decide) (by decide)
  obtain ⟨H13, e13, G13⟩ := number_gn G12 nb (by simp [lp]; omega)
  obtain ⟨H14, e14, G14⟩ := wait_gn G13 (by simp [lp]; omega) (by decide) (by decide)
  obtain ⟨H15, e15, G15⟩ := number_gn (a := 0) (n := 0) (l := [33554432]) G14 (by kernel_rfl) (by simp [lp]; omega)
  obtain ⟨H16, e16, G16⟩ := push_gn (a := 0) G15 enc_st0 (by simp [lp]; omega) (by decide) (by decide)
  obtain ⟨w1, hw1⟩ : ∃ w1, w1 = pC ++ la ++ [100663292, 319750144] ++ lb ++ [100663292, 319750144] ++ [33554432] ++ [100663292, 319750144] := ⟨_, rfl⟩
  have G16 : Gn H16 i g (D w1 3 3 0) 0 (frP 7 9 f) [(f, o_frame_Frame ⟨0⟩)] := by rw [hw1]; exact G16
  have lw1 : w1.length = kc := by rw [hw1, hkc]; simp [lp]; omega
  obtain ⟨H17, e17, G17⟩ := back_gn (op := 23) (a := 0) (w := 385875968) (w' := 402653185 - (kc : Int)) (n := 1 - (kc : Int)) (to := 2) (x := ⟨23, 0, 0, 0, 0⟩) G16 (by omega) (by decide) (by kernel_rfl) (by kernel_rfl) (by rw [lw1]; omega) (enc_callw (by omega) (by omega))
  obtain ⟨H18, e18, G18⟩ := drop_gn G17 (by decide) (by decide) (n := 3) (by decide) (by decide)
  have G18 : Gn H18 i g (D (w1 ++ [402653185 - (kc : Int)]) 0 3 0) 0 (frP 7 9 f) [(f, o_frame_Frame ⟨0⟩)] := G18
  obtain ⟨H19, e19, G19⟩ := number_gn G18 nd (by simp; omega)
  obtain ⟨ws, hws⟩ : ∃ ws, ws = pC ++ (la ++ ([100663292, 319750144] ++ (lb ++ ([100663292, 319750144] ++ ([33554432] ++ ([100663292, 319750144] ++ ([402653185 - (kc : Int)] ++ ld))))))) := ⟨_, rfl⟩
  have G19 : Gn H19 i g (D ws 0 3 0) 0 (frP 7 9 f) [(f, o_frame_Frame ⟨0⟩)] := by
    have : w1 ++ [402653185 - (kc : Int)] ++ ld = ws := by rw [hw1, hws]; simp
    rw [← this]; exact G19
  have lws : ws.length = la.length + lb.length + ld.length + 33 := by rw [hws]; simp [lp]; omega
  obtain ⟨H20, e20⟩ := ended_gn G19 (by omega) 0
  have hlen : (ws ++ [16777216] : List Int).length = ws.length + 1 := by simp
  obtain ⟨c, r1, r2, r3⟩ := run_xr (ws := ws ++ [16777216]) (by omega) (q := .at g 0) (by rw [hlen]; exact run (ws.length + 1) kc ws hkc hws rfl)
  have ej : emit_Code_Jump H1 (.at i 0) 22 0 = some (H2, 1) := by unfold emit_Code_Jump; rw [e2]; rfl
  have eh : emit_Code_Here H2 (.at i 0) = some 2 := by
    unfold emit_Code_Here
    rw [pbnd_at, G2.code]; rfl
  have lk : item_Gen_Link H14 (.at g 0) 0 = some H16 := by
    unfold item_Gen_Link item_Gen_Link_j1
    rw [if_pos (by decide), pbnd_at, G14.gen, bind1_some]
    show bind1 (emit_Code_Number H14 (.at i 0) 0 0) _ = _
    rw [e15, bind1_some, pbnd_at, G15.gen, bind1_some]
    show bind1 (emit_Code_Push H15 (.at i 0) 0) _ = _
    rw [e16]; rfl
  have cl : ∀ x : T_scope_Object, x.Module_ = 0 → x.N_ = 2 → x.Params_.length = 2 → item_Gen_Call H16 (.at g 0) x = some H18 := fun x h1 h2 h3 => by
    unfold item_Gen_Call item_Gen_Call_j1
    have w2 : IntKind.wrap .i64 2 = ((2 : Nat) : Int) := by kernel_rfl
    have w3 : IntKind.wrap .i64 (((2 : Nat) : Int) + 1) = 3 := by kernel_rfl
    rw [h1, h2, h3, if_neg (by decide), pbnd_at, G16.gen, bind1_some, w2, w3]
    show bind1 (emit_Code_Back H16 (.at i 0) 23 0 ((2 : Nat) : Int)) _ = _
    rw [e17, bind1_some, pbnd_at, G17.gen, bind1_some]
    show bind1 (emit_Code_Drop H17 (.at i 0) 3) _ = _
    rw [e18]; rfl
  have xc : ∀ x : T_scope_Object, x.Module_ = -1 → x.N_ = d → item_Gen_Exception H18 (.at g 0) x 3 = some H19 := fun x h1 h2 => by
    unfold item_Gen_Exception
    rw [h1, h2, if_pos (by decide), pbnd_at, G18.gen, bind1_some]
    show bind1 (emit_Code_Number H18 (.at i 0) 3 d) _ = _
    rw [e19]; rfl
  refine ⟨H20, ?_⟩
  unfold law19_ItemCalls
  rw [ea, bind2_some, if_neg (by simp), e1, bind2_some, pbnd_at, G1.gen, bind1_some]
  show bind2 (emit_Code_Jump H1 (.at i 0) 22 0) _ = _
  rw [ej, bind2_some, G2.gen, bind1_some]
  show bind1 (emit_Code_Here H2 (.at i 0)) _ = _
  rw [eh, bind1_some, bnd_def, bnd_def, ← hf, ← hH3, e4, bind1_some, G4.gen, bind1_some]
  show bind2 (emit_Code_Sign H4 (.at i 0) 18 0 13 16) _ = _
  rw [e5, bind2_some, G5.gen, bind1_some]
  show bind2 (emit_Code_Sign H5 (.at i 0) 18 1 13 12) _ = _
  rw [e6, bind2_some, G6.gen, bind1_some]
  show bind2 (emit_Code_Three H6 (.at i 0) 7 0 0 1) _ = _
  rw [e7, bind2_some, e8, bind1_some, e9, bind1_some, G9.gen, bind1_some]
  show bind1 (emit_Code_Land H9 (.at i 0) 1) _ = _
  have e10 : emit_Code_Land H9 (.at i 0) 1 = some H10 := e10
  rw [e10, bind1_some, G10.gen, bind1_some]
  show bind1 (emit_Code_Number H10 (.at i 0) 0 a) _ = _
  rw [e11, bind1_some, e12, bind1_some, G12.gen, bind1_some]
  show bind1 (emit_Code_Number H12 (.at i 0) 0 b) _ = _
  rw [e13, bind1_some, e14, bind1_some, lk, bind1_some, G16.gen, bind1_some]
  show bind1 (emit_Code_Depth H16 (.at i 0)) _ = _
  have d3 : emit_Code_Depth H16 (.at i 0) = some 3 := depth_gn G16
  have d0 : emit_Code_Depth H18 (.at i 0) = some 0 := depth_gn G18
  rw [d3, bind1_some, if_neg (by decide), cl _ rfl (by kernel_rfl) rfl, bind1_some, G18.gen, bind1_some]
  show bind1 (emit_Code_Depth H18 (.at i 0)) _ = _
  rw [d0, bind1_some, if_neg (by decide), xc _ rfl rfl, bind1_some, e20, bind3_some, if_neg (by simp), r1, bind1_some, hlen, stop_spec (by omega) r2.1 r2.2.1 r2.2.2.1 r2.2.2.2.1 r2.2.2.2.2, bind1_some, r3]
  simp
end Go.Proofs.Abs
