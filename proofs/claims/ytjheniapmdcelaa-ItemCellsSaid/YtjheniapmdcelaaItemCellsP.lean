/- The law ItemCells: whatever the input, it answers true. No conditions. (Part ItemCellsP of its proof.) -/
import Derived.Test.YtjheniapmdcelaaItemCellsF3
set_option linter.unusedVariables false
set_option linter.unusedSimpArgs false
set_option linter.unusedSectionVars false
/- Code that is written, in plain Lean: what stands in it, what is put, what is ended. -/
namespace Go.Proofs.Abs
open Go
set_option linter.unusedVariables false
set_option linter.unusedSimpArgs false
theorem room_big : 1048576 ≤ roomBytes := Nat.le_of_ble_eq_true (by kernel_rfl)
theorem app_some {α : Type} {zb : Nat} {xs ys : List α} (h : (xs.length + ys.length) * zb ≤ 1048576) : app zb xs ys = some (xs ++ ys) := by
  unfold app; rw [if_pos (Nat.le_trans h room_big)]
theorem seg_inj (x y : T_api_Segment) (h : e_api_Segment x = e_api_Segment y) : x = y := by
  cases x; cases y; simpa [e_api_Segment] using h
theorem fix_inj (x y : T_api_Fixup) (h : e_api_Fixup x = e_api_Fixup y) : x = y := by
  cases x; cases y; simpa [e_api_Fixup] using h
theorem bld_inj (x y : T_ranges_Builder) (h : o_ranges_Builder x = o_ranges_Builder y) : x = y := by
  cases x; cases y
  simp only [o_ranges_Builder, List.cons.injEq, Prod.mk.injEq, AV.sl.injEq, true_and, and_true] at h
  rw [map_inj seg_inj _ _ h]
theorem bld_len (x : T_ranges_Builder) : (o_ranges_Builder x).length = 1 := rfl
theorem cod_inj (x y : T_emit_Code) (h : o_emit_Code x = o_emit_Code y) : x = y := by
  obtain ⟨a, b, ⟨c⟩, d, e, f, g, k⟩ := x
  obtain ⟨a', b', ⟨c'⟩, d', e', f', g', k'⟩ := y
  simp only [o_emit_Code, List.cons.injEq, Prod.mk.injEq, AV.sl.injEq, AV.int.injEq, true_and, and_true] at h
  obtain ⟨h1, h2, h3, h4, h5, rfl, rfl, rfl⟩ := h
  rw [map_inj eI_inj _ _ h1, map_inj fix_inj _ _ h2, map_inj seg_inj _ _ h3, map_inj eI_inj _ _ h4, map_inj eI_inj _ _ h5]
theorem cod_len (x : T_emit_Code) : (o_emit_Code x).length = 8 := rfl
def CodeAt (H : Heap) (p : Ptr) (c : T_emit_Code) : Prop := ∃ i o, p = .at i o ∧ get_emit_Code H i o = some c
section
variable {H : Heap} {i o : Nat} {p : Ptr} {c : T_emit_Code}
theorem cod_set (y : T_emit_Code) (h : get_emit_Code H i o = some c) : get_emit_Code (set_emit_Code H i o y) i o = some y := hgT_set cod_inj cod_len h y
theorem cod_marks (h : get_emit_Code H i o = some c) : get_ranges_Builder H i (o + 2) = some c.marks_ := by
  refine hgetT_of bld_inj ?_
  have := hget_sub (hgetT_inv h) 2 1 (by omega)
  rw [this]; rfl
theorem cod_setMarks (m : T_ranges_Builder) (h : get_emit_Code H i o = some c) : get_emit_Code (set_ranges_Builder H i (o + 2) m) i o = some ⟨c.words_, c.fixups_, m, c.pads_, c.active_, c.depth_, c.most_, c.err_⟩ := by
  refine hgetT_of cod_inj ?_
  unfold set_ranges_Builder
  rw [hset_sub0 (hgetT_inv h) (k := 2) (b := o_ranges_Builder m) (by rw [bld_len]; omega)]
  rw [hset_get (hgetT_inv h) (by rw [setAt_len (by rw [bld_len, cod_len]; omega)]; rfl)]
  rfl
def failC (c : T_emit_Code) (e : Int) : T_emit_Code := ⟨c.words_, c.fixups_, c.marks_, c.pads_, c.active_, c.depth_, c.most_, if c.err_ = 0 then e else c.err_⟩
def addW (c : T_emit_Code) (w : Int) : T_emit_Code := ⟨c.words_ ++ [w], c.fixups_, c.marks_, c.pads_, c.active_, c.depth_, c.most_, c.err_⟩
theorem mark0 (h : get_ranges_Builder H i o = some ⟨[]⟩) : ranges_Builder_Mark H (.at i o) 0 (-1) = some (set_ranges_Builder H i o ⟨[⟨0, -1⟩]⟩) := by
  unfold ranges_Builder_Mark ranges_Builder_Mark_j1
  rw [pbnd_at, h, bind1_some, if_neg (by simp), bind1_some, if_neg (by simp), bind1_some, if_neg (by simp), bind1_some, if_neg (by simp), app_some (by simp), bind1_some, bnd_def]
  rfl
/-- code of which nothing but words was written -/
def C (ws : List Int) (e : Int) : T_emit_Code := ⟨ws, [], ⟨[⟨0, -1⟩]⟩, [], [], 0, 0, e⟩
theorem new_spec (H : Heap) : ∃ H', emit_New H = some (H', .at H.length 0) ∧ get_emit_Code H' H.length 0 = some (C [] 0) := by
  have h1 : get_emit_Code (new_emit_Code H ⟨[], [], ⟨[]⟩, [], [], 0, 0, 0⟩) H.length 0 = some ⟨[], [], ⟨[]⟩, [], [], 0, 0, 0⟩ := hgT_new cod_inj cod_len H _
  unfold emit_New
  rw [bnd_def, bnd_def, h1, bind1_some, mark0 (cod_marks h1), bind1_some]
  exact ⟨_, rfl, cod_setMarks _ h1⟩
theorem clone_seg {l : List T_api_Segment} (hl : l.length ≤ 1000) : slices_Clone_api_Segment_api_Segment l = some l := by
  unfold slices_Clone_api_Segment_api_Segment; rw [app_some (by simp; omega)]; rfl
theorem list_spec {l : List T_api_Segment} (h : get_ranges_Builder H i o = some ⟨l⟩) (hl : l.length ≤ 1000) : ranges_Builder_List H (.at i o) = some l := by
  unfold ranges_Builder_List; rw [pbnd_at, h, bind1_some, clone_seg hl]; rfl
end
end Go.Proofs.Abs
/- Code for things that is written: what stands in it. -/
namespace Go.Proofs.Abs
open Go
set_option linter.unusedVariables false
set_option linter.unusedSimpArgs false
theorem gen_inj (x y : T_item_Gen) (h : o_item_Gen x = o_item_Gen y) : x = y := by
  obtain ⟨a, b, ⟨c, d, e, f⟩⟩ := x
  obtain ⟨a', b', ⟨c', d', e', f'⟩⟩ := y
  simp only [o_item_Gen, List.cons.injEq, Prod.mk.injEq, AV.sl.injEq, AV.int.injEq, true_and, and_true] at h
  obtain ⟨h1, rfl, rfl, rfl, h5, h6⟩ := h
  have p : ∀ x y : Ptr, x.av = y.av → x = y := fun x y h => by cases x <;> cases y <;> simp_all [Ptr.av]
  rw [p _ _ h1, map_inj eI_inj _ _ h5, p _ _ h6]
theorem gen_len (x : T_item_Gen) : (o_item_Gen x).length = 6 := rfl
/-- code of which nothing but words was written, and so many wait -/
def D (ws : List Int) (d m e : Int) (fx : List T_api_Fixup := []) : T_emit_Code := ⟨ws, fx, ⟨[⟨0, -1⟩]⟩, [], [], d, m, e⟩
def genV (i : Nat) (L : Int := 0) (Pr : T_item_Proc := ⟨0, 0, [], .nil⟩) : T_item_Gen := ⟨.at i 0, L, Pr⟩
structure Gn (H : Heap) (i g : Nat) (c : T_emit_Code) (L : Int := 0) (Pr : T_item_Proc := ⟨0, 0, [], .nil⟩) : Prop where
  code : get_emit_Code H i 0 = some c
  gen : get_item_Gen H g 0 = some (genV i L Pr)
  ne : i ≠ g
section
variable {H : Heap} {i g : Nat} {c : T_emit_Code} {L : Int} {Pr : T_item_Proc} {fx : List T_api_Fixup}
theorem Gn.set (G : Gn H i g c L Pr) (c' : T_emit_Code) : Gn (set_emit_Code H i 0 c') i g c' L Pr :=
  ⟨cod_set c' G.code, hgT_other gen_inj G.ne G.gen, G.ne⟩
theorem put_gn {x : T_instr_Instr} {w : Int} (G : Gn H i g c L Pr) (hw : instr_Encode x = some (w, 0)) (hl : c.words_.length < 16384) :
    ∃ H', emit_Code_Put H (.at i 0) x = some (H', (c.words_.length : Int)) ∧ Gn H' i g (addW c w) L Pr := by
  unfold emit_Code_Put emit_Code_Put_j1
  rw [hw, bind2_some, if_neg (by simp), pbnd_at, G.code, bind1_some, if_neg (by simp; omega), app_some (by simp; omega), bind1_some, bnd_def]
  refine ⟨_, ?_, G.set (addW c w)⟩
  rw [wrap_i64 _ (by simp <;> omega) (by simp <;> omega)]
  simp [addW]
theorem reg_gn {x y w : Int} (G : Gn H i g c L Pr) (hw : instr_Encode ⟨x, y, 0, 0, 0⟩ = some (w, 0)) (hl : c.words_.length < 16384) :
    ∃ H', emit_Code_Reg H (.at i 0) x y = some (H', (c.words_.length : Int)) ∧ Gn H' i g (addW c w) L Pr := by
  obtain ⟨H', e1, e2⟩ := put_gn G hw hl
  exact ⟨H', by unfold emit_Code_Reg; rw [e1]; rfl, e2⟩
theorem inew_spec (H : Heap) : ∃ H' i g, item_New H = some (H', .at g 0) ∧ Gn H' i g (D [] 0 0 0) := by
  obtain ⟨H1, e1, g1⟩ := new_spec H
  have hi : H.length < H1.length := hgT_lt g1
  refine ⟨new_item_Gen H1 ⟨.at H.length 0, 0, ⟨0, 0, [], .nil⟩⟩, H.length, H1.length, ?_, hgT_old cod_inj g1, hgT_new gen_inj gen_len H1 _, by omega⟩
  unfold item_New
  rw [e1, bind2_some, bnd_def, bnd_def]
theorem enc_halt : instr_Encode ⟨1, 0, 0, 0, 0⟩ = some (16777216, 0) := by kernel_rfl
theorem begun_spec (H : Heap) : ∃ H' i g, law19_begun H = some (H', .at g 0) ∧ Gn H' i g (D [16777216] 0 0 0) := by
  obtain ⟨H1, i, g, e1, G1⟩ := inew_spec H
  obtain ⟨H2, e2, G2⟩ := reg_gn G1 enc_halt (by simp [D])
  refine ⟨H2, i, g, ?_, G2⟩
  unfold law19_begun
  rw [e1, bind2_some, isNil_at, if_neg (by simp), pbnd_at, G1.gen, bind1_some, bind2_some]
  have : (genV i).Code_.isNil = false := rfl
  rw [this, if_neg (by simp), pbnd_at, G1.gen, bind1_some]
  show bind2 (emit_Code_Reg H1 (.at i 0) 1 0) _ = _
  rw [e2]; rfl
/-- the words that give a register a number -/
noncomputable def numW (a n : Int) : Option (List Int) := bind1 (word_Fits (IntKind.wrap .i64 n) 16) fun r1 =>
  if r1 = true then (bind2 (instr_Encode ⟨2, a, 0, 0, IntKind.wrap .i64 n⟩) fun w e => if e = 0 then some [w] else none)
  else (bind2 (instr_Encode ⟨3, a, 0, 0, IntKind.wrap .i64 (Int.fdiv (IntKind.wrap .u32 n) (2 ^ 16))⟩) fun w e => if e = 0 then (bind2 (instr_Encode ⟨4, a, a, 0, IntKind.wrap .i64 (bitsOf .and .u32 (IntKind.wrap .u32 n) 65535)⟩) fun v f => if f = 0 then some [w, v] else none) else none)
theorem number_gn {ws l : List Int} {d m e a n : Int} (G : Gn H i g (D ws d m e fx) L Pr) (hn : numW a n = some l) (hl : ws.length < 16000) :
    ∃ H', emit_Code_Number H (.at i 0) a n = some H' ∧ Gn H' i g (D (ws ++ l) d m e fx) L Pr := by
  unfold numW at hn
  obtain ⟨r1, h1, hn⟩ := bind1_inv hn
  unfold emit_Code_Number
  rw [h1, bind1_some]
  cases r1 with
  | true =>
    rw [if_pos rfl] at hn ⊢
    obtain ⟨w, e', h2, hn⟩ := bind2_inv hn
    split at hn
    · rename_i he
      subst he
      cases hn
      obtain ⟨H1, e1, G1⟩ := put_gn G h2 (show ws.length < 16384 by omega)
      exact ⟨H1, by rw [e1]; rfl, G1⟩
    · cases hn
  | false =>
    rw [if_neg (by simp)] at hn ⊢
    obtain ⟨w, e', h2, hn⟩ := bind2_inv hn
    split at hn
    · rename_i he
      subst he
      obtain ⟨v, f', h3, hn⟩ := bind2_inv hn
      split at hn
      · rename_i hf
        subst hf
        cases hn
        obtain ⟨H1, e1, G1⟩ := put_gn G h2 (show ws.length < 16384 by omega)
        obtain ⟨H2, e2, G2⟩ := put_gn G1 h3 (show (ws ++ [w]).length < 16384 by simp; omega)
        refine ⟨H2, by rw [e1, bind2_some, e2]; rfl, ?_⟩
        have : addW (addW (D ws d m e fx) w) v = D (ws ++ [w, v]) d m e fx := by simp [addW, D]
        rw [← this]; exact G2
      · cases hn
    · cases hn
theorem sign_gn {x a b n w : Int} (G : Gn H i g c L Pr) (hw : instr_Encode ⟨x, a, b, 0, n⟩ = some (w, 0)) (hl : c.words_.length < 16384) :
    ∃ H', emit_Code_Sign H (.at i 0) x a b n = some (H', (c.words_.length : Int)) ∧ Gn H' i g (addW c w) L Pr := by
  obtain ⟨H', e1, e2⟩ := put_gn G hw hl
  exact ⟨H', by unfold emit_Code_Sign; rw [e1]; rfl, e2⟩
theorem three_gn {x a b d w : Int} (G : Gn H i g c L Pr) (hw : instr_Encode ⟨x, a, b, d, 0⟩ = some (w, 0)) (hl : c.words_.length < 16384) :
    ∃ H', emit_Code_Three H (.at i 0) x a b d = some (H', (c.words_.length : Int)) ∧ Gn H' i g (addW c w) L Pr := by
  obtain ⟨H', e1, e2⟩ := put_gn G hw hl
  exact ⟨H', by unfold emit_Code_Three; rw [e1]; rfl, e2⟩
theorem enc_dn : instr_Encode ⟨5, 15, 15, 0, -4⟩ = some (100663292, 0) := by kernel_rfl
end
end Go.Proofs.Abs
/- Code for things: what waits, what is ended. -/
namespace Go.Proofs.Abs
open Go
set_option linter.unusedVariables false
set_option linter.unusedSimpArgs false
theorem enc_up : instr_Encode ⟨5, 15, 15, 0, 4⟩ = some (100597764, 0) := by kernel_rfl
section
variable {H : Heap} {i g : Nat} {c : T_emit_Code} {L : Int} {Pr : T_item_Proc} {fx : List T_api_Fixup} {ws : List Int} {d m e : Int}
theorem push_gn {a w : Int} (G : Gn H i g (D ws d m e fx) L Pr) (hw : instr_Encode ⟨19, a, 15, 0, 0⟩ = some (w, 0)) (hl : ws.length < 16000) (h0 : 0 ≤ d) (h1 : d < 1000) :
    ∃ H', emit_Code_Push H (.at i 0) a = some H' ∧ Gn H' i g (D (ws ++ [100663292, w]) (d + 1) (if d + 1 > m then d + 1 else m) e fx) L Pr := by
  obtain ⟨H1, e1, G1⟩ := sign_gn G enc_dn (show ws.length < 16384 by omega)
  obtain ⟨H2, e2, G2⟩ := sign_gn G1 hw (show (ws ++ [100663292]).length < 16384 by simp; omega)
  have k : addW (addW (D ws d m e fx) 100663292) w = D (ws ++ [100663292, w]) d m e fx := by simp [addW, D]
  rw [k] at G2
  have G3 := G2.set (D (ws ++ [100663292, w]) (d + 1) m e fx)
  have G4 := G3.set (D (ws ++ [100663292, w]) (d + 1) (if d + 1 > m then d + 1 else m) e fx)
  refine ⟨_, ?_, G4⟩
  unfold emit_Code_Push
  rw [e1, bind2_some, e2, bind2_some, pbnd_at, G2.code, bind1_some]
  have w1 : IntKind.wrap .i64 ((D (ws ++ [100663292, w]) d m e fx).depth_ + 1) = d + 1 := wrap_i64 _ (by show _ ≤ d + 1; omega) (by show d + 1 ≤ _; omega)
  rw [w1, bnd_def, bnd_def]
  rfl
theorem drop_gn (G : Gn H i g (D ws d m e fx) L Pr) (h0 : 0 ≤ d) (h1 : d < 1000) {n : Int} (hn : 0 ≤ n) (hn2 : n < 1000) :
    ∃ H', emit_Code_Drop H (.at i 0) n = some H' ∧ Gn H' i g (D ws (if d - n > 0 then d - n else 0) m e fx) L Pr := by
  have G3 := G.set (D ws (if d - n > 0 then d - n else 0) m e fx)
  refine ⟨_, ?_, G3⟩
  unfold emit_Code_Drop
  rw [pbnd_at, G.code, bind1_some]
  have w1 : IntKind.wrap .i64 ((D ws d m e fx).depth_ - n) = d - n := wrap_i64 _ (by show _ ≤ d - n; omega) (by show d - n ≤ _; omega)
  rw [w1, bnd_def]
  rfl
theorem pop_gn {a w : Int} (G : Gn H i g (D ws d m e fx) L Pr) (hw : instr_Encode ⟨18, a, 15, 0, 0⟩ = some (w, 0)) (hl : ws.length < 16000) (h0 : 0 ≤ d) (h1 : d < 1000) :
    ∃ H', emit_Code_Pop H (.at i 0) a = some H' ∧ Gn H' i g (D (ws ++ [w, 100597764]) (if d - 1 > 0 then d - 1 else 0) m e fx) L Pr := by
  obtain ⟨H1, e1, G1⟩ := sign_gn G hw (show ws.length < 16384 by omega)
  obtain ⟨H2, e2, G2⟩ := sign_gn G1 enc_up (show (ws ++ [w]).length < 16384 by simp; omega)
  have k : addW (addW (D ws d m e fx) w) 100597764 = D (ws ++ [w, 100597764]) d m e fx := by simp [addW, D]
  rw [k] at G2
  obtain ⟨H3, e3, G3⟩ := drop_gn G2 h0 h1 (n := 1) (by omega) (by omega)
  exact ⟨H3, by unfold emit_Code_Pop; rw [e1, bind2_some, e2, bind2_some, e3]; rfl, G3⟩
theorem finish_gn (G : Gn H i g (D ws d m 0 fx) L Pr) (hl : ws.length ≤ 16384) (hf : fx.length ≤ 1000) : ∃ H' sg, emit_Code_Finish H (.at i 0) = some (H', ⟨ws, fx, sg⟩, 0) := by
  have h := G.code
  have hi : i < H.length := hgT_lt h
  obtain ⟨H1, hH1⟩ : ∃ H1, H1 = new_ranges_Builder H ⟨[]⟩ := ⟨_, rfl⟩
  have b1 : get_ranges_Builder H1 H.length 0 = some ⟨[]⟩ := by rw [hH1]; exact hgT_new bld_inj bld_len H _
  have c1 : get_emit_Code H1 i 0 = some (D ws d m 0 fx) := by rw [hH1]; exact hgT_old cod_inj h
  have lp : ∃ H2 sg, loopO (fun (x : Int × Heap) => emit_Code_Finish_L1 [⟨0, -1⟩] i 0 H.length x.1 x.2) (0, H1) = some H2 ∧ get_emit_Code H2 i 0 = some (D ws d m 0 fx) ∧ get_ranges_Builder H2 H.length 0 = some ⟨sg⟩ ∧ sg.length ≤ 1 := by
    by_cases hw : ws = []
    · subst hw
      refine ⟨H1, [], loopO_out ?_, c1, b1, by simp⟩
      show emit_Code_Finish_L1 [⟨0, -1⟩] i 0 H.length 0 H1 = _
      unfold emit_Code_Finish_L1
      rw [if_pos (by simp), gi_some (by omega) (by simp), bind1_some, c1, bind1_some]
      rfl
    · have h0 : 0 < ws.length := List.length_pos_iff.2 hw
      have c2 : get_emit_Code (set_ranges_Builder H1 H.length 0 ⟨[⟨0, -1⟩]⟩) i 0 = some (D ws d m 0 fx) := hgT_other cod_inj (by omega) c1
      refine ⟨set_ranges_Builder H1 H.length 0 ⟨[⟨0, -1⟩]⟩, [⟨0, -1⟩], ?_, c2, hgT_set bld_inj bld_len b1 _, by simp⟩
      rw [loopO_go (f := fun (x : Int × Heap) => emit_Code_Finish_L1 [⟨0, -1⟩] i 0 H.length x.1 x.2) (s' := (1, set_ranges_Builder H1 H.length 0 ⟨[⟨0, -1⟩]⟩))]
      · refine loopO_out ?_
        show emit_Code_Finish_L1 [⟨0, -1⟩] i 0 H.length 1 _ = _
        unfold emit_Code_Finish_L1
        rw [if_neg (by simp)]
      · show emit_Code_Finish_L1 [⟨0, -1⟩] i 0 H.length 0 H1 = _
        unfold emit_Code_Finish_L1 emit_Code_Finish_j2
        rw [if_pos (by simp), gi_some (by omega) (by simp), bind1_some, c1, bind1_some]
        have e : ([⟨0, -1⟩] : List T_api_Segment)[(0 : Int).toNat]'(by simp) = ⟨0, -1⟩ := rfl
        rw [e, if_neg (by simp [D]; omega), if_neg (by simp), mark0 b1, bind1_some]
        rfl
  obtain ⟨H2, sg, l1, l2, l3, l4⟩ := lp
  refine ⟨H2, sg, ?_⟩
  unfold emit_Code_Finish
  rw [pbnd_at, h, bind1_some, if_neg (by simp [D]), bnd_def, bnd_def, ← hH1, c1, bind1_some, list_spec (cod_marks c1) (by simp [D]), bind1_some]
  show bind1 (loopO (fun (x : Int × Heap) => emit_Code_Finish_L1 [⟨0, -1⟩] i 0 H.length x.1 x.2) (0, H1)) _ = _
  rw [l1, bind1_some, l2, bind1_some]
  show bind1 (app 4 [] ws) _ = _
  rw [app_some (by simp; omega), bind1_some]
  show bind1 (app 32 [] fx) _ = _
  rw [app_some (by simp; omega), bind1_some, list_spec l3 (by omega), bind1_some]
  rfl
theorem ended_gn (G : Gn H i g (D ws d m 0) L Pr) (hl : ws.length < 16000) (n : Int) : ∃ H', law19_ended H (.at g 0) n = some (H', ws ++ [16777216], true) := by
  obtain ⟨H1, e1, G1⟩ := reg_gn G enc_halt (show ws.length < 16384 by omega)
  have G1 : Gn H1 i g (D (ws ++ [16777216]) d m 0) L Pr := G1
  obtain ⟨H2, sg, e2⟩ := finish_gn G1 (by simp; omega) (by simp)
  refine ⟨H2, ?_⟩
  unfold law19_ended
  rw [pbnd_at, G.gen, bind1_some]
  show bind2 (emit_Code_Reg H (.at i 0) 1 0) _ = _
  rw [e1, bind2_some, G1.gen, bind1_some]
  show bind3 (emit_Code_Finish H1 (.at i 0)) _ = _
  rw [e2, bind3_some, if_neg (by simp), app_some (by simp; omega), bind1_some, List.nil_append]
  have lp : loopO (fun (x : List Int × Int) => law19_ended_L1 ⟨ws ++ [16777216], [], sg⟩ n x.1 x.2) (ws ++ [16777216], 0) = some (.inl (ws ++ [16777216])) := by
    refine loopO_out ?_
    show law19_ended_L1 ⟨ws ++ [16777216], [], sg⟩ n (ws ++ [16777216]) 0 = _
    unfold law19_ended_L1
    rw [if_neg (by simp)]
  rw [lp, bind1_some, sum2_inl]
theorem enc_st0 : instr_Encode ⟨19, 0, 15, 0, 0⟩ = some (319750144, 0) := by kernel_rfl
theorem enc_ld1 : instr_Encode ⟨18, 1, 15, 0, 0⟩ = some (304021504, 0) := by kernel_rfl
theorem depth_gn (G : Gn H i g c L Pr) : emit_Code_Depth H (.at i 0) = some c.depth_ := by
  unfold emit_Code_Depth; rw [pbnd_at, G.code]; rfl
theorem wait_gn (G : Gn H i g (D ws d m e fx) L Pr) (hl : ws.length < 16000) (h0 : 0 ≤ d) (h1 : d < 32) :
    ∃ H', item_Gen_Wait H (.at g 0) = some H' ∧ Gn H' i g (D (ws ++ [100663292, 319750144]) (d + 1) (if d + 1 > m then d + 1 else m) e fx) L Pr := by
  obtain ⟨H1, e1, G1⟩ := push_gn G enc_st0 hl h0 (by omega)
  refine ⟨H1, ?_, G1⟩
  unfold item_Gen_Wait
  rw [pbnd_at, G.gen, bind1_some]
  show bind1 (emit_Code_Depth H (.at i 0)) _ = _
  rw [depth_gn G, bind1_some, if_neg (by show ¬ (decide (d ≥ 32) = true); simp; omega)]
  unfold item_Gen_Wait_j1
  rw [G.gen, bind1_some]
  show bind1 (emit_Code_Push H (.at i 0) 0) _ = _
  rw [e1]; rfl
end
end Go.Proofs.Abs
/- Bits of words, as numbers. -/
namespace Go.Proofs.Abs
open Go
set_option linter.unusedVariables false
set_option linter.unusedSimpArgs false
theorem ofInt_nat (a : Nat) (h : a < 4294967296) : (BitVec.ofInt 32 (a : Int)).toNat = a := by
  rw [BitVec.toNat_ofInt]
  have : ((a : Int) % ((2 ^ 32 : Nat) : Int)) = (a : Int) := Int.emod_eq_of_lt (by omega) (by simp; omega)
  rw [this]; simp
theorem or_nat (a b : Nat) (ha : a < 4294967296) (hb : b < 4294967296) : bitsOf .or .u32 (a : Int) (b : Int) = ((a ||| b : Nat) : Int) := by
  have h : a ||| b < 4294967296 := Nat.or_lt_two_pow (n := 32) ha hb
  show IntKind.u32.wrap ((BitVec.ofInt 32 (a : Int) ||| BitVec.ofInt 32 (b : Int)).toNat : Int) = _
  rw [BitVec.toNat_or, ofInt_nat a ha, ofInt_nat b hb, wrap_u32 _ (by omega) (by omega)]
theorem and_nat (a b : Nat) (ha : a < 4294967296) (hb : b < 4294967296) : bitsOf .and .u32 (a : Int) (b : Int) = ((a &&& b : Nat) : Int) := by
  have h : a &&& b < 4294967296 := Nat.lt_of_le_of_lt Nat.and_le_left ha
  show IntKind.u32.wrap ((BitVec.ofInt 32 (a : Int) &&& BitVec.ofInt 32 (b : Int)).toNat : Int) = _
  rw [BitVec.toNat_and, ofInt_nat a ha, ofInt_nat b hb, wrap_u32 _ (by omega) (by omega)]
theorem or_part (k : Nat) (x b : Int) (h0 : 0 ≤ x) (hb0 : 0 ≤ b) (hb : b < 2 ^ k) (h : x * 2 ^ k + b < 4294967296) : bitsOf .or .u32 (x * 2 ^ k) b = x * 2 ^ k + b := by
  obtain ⟨m, rfl⟩ : ∃ m : Nat, x = m := ⟨x.toNat, by omega⟩
  obtain ⟨n, rfl⟩ : ∃ n : Nat, b = n := ⟨b.toNat, by omega⟩
  have hn : n < 2 ^ k := by exact_mod_cast hb
  have e0 : ((m : Int) * 2 ^ k + n) = ((m * 2 ^ k + n : Nat) : Int) := by simp
  rw [e0] at h
  have hs : m * 2 ^ k + n < 4294967296 := Int.ofNat_lt.1 h
  clear h e0
  have e : ((m : Int) * 2 ^ k) = ((m * 2 ^ k : Nat) : Int) := by simp
  rw [e, or_nat _ _ (by omega) (by omega), ← Nat.shiftLeft_eq, ← Nat.shiftLeft_add_eq_or_of_lt hn]
  simp
theorem and_low (k : Nat) (a : Int) (h0 : 0 ≤ a) (h : a < 4294967296) (hk : k ≤ 31) : bitsOf .and .u32 a ((2 ^ k - 1 : Nat) : Int) = a % 2 ^ k := by
  obtain ⟨n, rfl⟩ : ∃ n : Nat, a = n := ⟨a.toNat, by omega⟩
  have p : 2 ^ k ≤ 2 ^ 31 := Nat.pow_le_pow_right (by decide) hk
  rw [and_nat _ _ (by omega) (by omega), Nat.and_two_pow_sub_one_eq_mod]
  simp
theorem and_16 (a : Int) (h0 : 0 ≤ a) (h : a < 4294967296) : bitsOf .and .u32 a 65535 = a % 65536 := and_low 16 a h0 h (by decide)
theorem wrap_mod (n : Int) : IntKind.u32.wrap n = n % 4294967296 := by
  simp only [IntKind.wrap, IntKind.bits, IntKind.signed]
  simp
/-- the fields of a word -/
theorem word_of (op a b m c : Int) (h1 : 0 ≤ op) (h2 : op < 128) (h3 : 0 ≤ a) (h4 : a < 16) (h5 : 0 ≤ b) (h6 : b < 16) (h7 : 0 ≤ c) (h8 : c < 16) (h9 : m = 0 ∨ c = 0) :
    bitsOf .or .u32 (bitsOf .or .u32 (bitsOf .or .u32 (bitsOf .or .u32 (IntKind.wrap .u32 ((IntKind.wrap .u32 op) * 2 ^ 24)) (IntKind.wrap .u32 ((IntKind.wrap .u32 a) * 2 ^ 20))) (IntKind.wrap .u32 ((IntKind.wrap .u32 b) * 2 ^ 16))) (bitsOf .and .u32 (IntKind.wrap .u32 m) 65535)) (IntKind.wrap .u32 c)
      = op * 16777216 + a * 1048576 + b * 65536 + m % 65536 + c := by
  rw [wrap_u32 op h1 (by omega), wrap_u32 a h3 (by omega), wrap_u32 b h5 (by omega), wrap_u32 c h7 (by omega), wrap_u32 (op * 2 ^ 24) (by omega) (by omega), wrap_u32 (a * 2 ^ 20) (by omega) (by omega), wrap_u32 (b * 2 ^ 16) (by omega) (by omega),
    and_16 _ (by rw [wrap_mod]; omega) (by rw [wrap_mod]; omega), wrap_mod]
  rw [or_part 24 op (a * 2 ^ 20) h1 (by omega) (by omega) (by omega)]
  have e1 : op * 2 ^ 24 + a * 2 ^ 20 = (op * 16 + a) * 2 ^ 20 := by omega
  rw [e1, or_part 20 (op * 16 + a) (b * 2 ^ 16) (by omega) (by omega) (by omega) (by omega)]
  have e2 : (op * 16 + a) * 2 ^ 20 + b * 2 ^ 16 = (op * 256 + a * 16 + b) * 2 ^ 16 := by omega
  rw [e2, or_part 16 (op * 256 + a * 16 + b) (m % 4294967296 % 65536) (by omega) (by omega) (by omega) (by omega)]
  rcases h9 with rfl | rfl
  · have e3 : (op * 256 + a * 16 + b) * 2 ^ 16 + 0 % 4294967296 % 65536 = (op * 4096 + a * 256 + b * 16 + 0) * 2 ^ 12 := by omega
    have e4 : (op * 4096 + a * 256 + b * 16 + 0) * 2 ^ 12 = ((op * 4096 + a * 256 + b * 16 + 0) * 2 ^ 8) * 2 ^ 4 := by omega
    rw [e3, e4, or_part 4 _ c (by omega) h7 (by omega) (by omega)]
    omega
  · have e3 : (op * 256 + a * 16 + b) * 2 ^ 16 + m % 4294967296 % 65536 = ((op * 256 + a * 16 + b) * 2 ^ 16 + m % 4294967296 % 65536) * 2 ^ 0 := by omega
    rw [e3, or_part 0 _ 0 (by omega) (by omega) (by omega) (by omega)]
    omega
end Go.Proofs.Abs
/- What a word is, reckoned: the document's decoding without its loop. -/
namespace Go.Proofs.Abs
open Go
set_option linter.unusedVariables false
set_option linter.unusedSimpArgs false
theorem power_spec (n : Nat) (hn : n ≤ 32) : ref01_Power (n : Int) = some (2 ^ n) := by
  have go : ∀ (k : Nat) (a j : Int), j + k = n → 0 ≤ j → 0 ≤ a → a * 2 ^ k ≤ 4294967296 → loopO (fun (x : Int × Int) => ref01_Power_L1 (n : Int) x.1 x.2) (a, j) = some (a * 2 ^ k) := by
    intro k
    induction k with
    | zero =>
      intro a j h1 h2 h3 h4
      obtain rfl : j = n := by omega
      refine loopO_out ?_
      show ref01_Power_L1 (n : Int) a n = _
      unfold ref01_Power_L1; rw [if_neg (by simp)]; simp
    | succ k ih =>
      intro a j h1 h2 h3 h4
      have e : a * 2 ^ (k + 1) = a * 2 * 2 ^ k := by rw [Int.pow_succ, Int.mul_comm (2 ^ k) 2, ← Int.mul_assoc]
      have p : (1 : Int) ≤ 2 ^ k := Int.pow_pos (by decide)
      have le : a * 2 ≤ 4294967296 := by
        rw [e] at h4
        have := Int.mul_le_mul_of_nonneg_left p (show 0 ≤ a * 2 by omega)
        omega
      rw [loopO_go (f := fun (x : Int × Int) => ref01_Power_L1 (n : Int) x.1 x.2) (s' := (a * 2, j + 1))]
      · rw [ih (a * 2) (j + 1) (by omega) (by omega) (by omega) (by rw [← e]; exact h4), e]
      · show ref01_Power_L1 (n : Int) a j = _
        unfold ref01_Power_L1
        rw [if_pos (by simp; omega), wrap_i64 _ (by omega) (by omega), wrap_i64 _ (by omega) (by omega)]
  unfold ref01_Power
  have p : (2 : Int) ^ n ≤ 4294967296 := by
    have : (2 : Nat) ^ n ≤ 2 ^ 32 := Nat.pow_le_pow_right (by decide) hn
    have e : ((2 : Int) ^ n) = ((2 ^ n : Nat) : Int) := by simp
    rw [e]; exact Int.ofNat_le.2 this
  have := go n 1 0 (by omega) (by omega) (by omega) (by rw [Int.one_mul]; exact p)
  rw [this]; simp [bind1_some]
noncomputable def sextC (w k : Int) : Option Int := bind1 (remI .i64 (IntKind.wrap .i64 w) (2 ^ k.toNat)) fun v4 =>
  if (decide (v4 ≥ (IntKind.wrap .i64 (Int.tdiv (2 ^ k.toNat) 2)))) = true then (ref01_Sext_j1 (IntKind.wrap .i64 (v4 - 2 ^ k.toNat)))
  else (ref01_Sext_j1 v4)
theorem sext_eq (w : Int) (k : Nat) (h0 : 1 ≤ k) (hk : k ≤ 32) : ref01_Sext w k = sextC w k := by
  unfold ref01_Sext
  rw [if_neg (by simp; omega)]
  have : (if (32 : Int) < k then (32 : Int) else k) = k := by rw [if_neg (by omega)]
  rw [this, power_spec k hk, bind1_some]; rfl
theorem sext16 (w : Int) : ref01_Sext w 16 = sextC w 16 := sext_eq w 16 (by decide) (by decide)
theorem sext24 (w : Int) : ref01_Sext w 24 = sextC w 24 := sext_eq w 24 (by decide) (by decide)
noncomputable def decC_j5 (p0 : Int) (j11 : T_ref02_Instr) : Option (T_ref02_Instr × Int) :=
  bind2 (ref02_Encode j11) fun r12 r13 =>
  if ((r13 != 0) || (r12 != p0)) = true then (some ((T_ref02_Instr.mk 0 0 0 0 0), 21))
  else (some (j11, 0))
noncomputable def decC_j7 (p0 : Int) (j21 : T_ref02_Instr) : Option (T_ref02_Instr × Int) :=
  decC_j5 p0 j21
noncomputable def decC_j8 (p0 : Int) (j23 : T_ref02_Instr) : Option (T_ref02_Instr × Int) :=
  decC_j7 p0 j23
noncomputable def decC_j6 (p0 : Int) (j9 : T_ref02_Instr) (r1 : Int) (j20 : Bool) : Option (T_ref02_Instr × Int) :=
  if j20 = true then (decC_j7 p0 (T_ref02_Instr.mk j9.Op_ j9.A_ j9.B_ j9.C_ (IntKind.wrap .i64 (Int.tmod p0 65536))))
  else (if (r1 == 7) = true then (bind1 (sextC p0 24) fun r25 =>
  decC_j8 p0 (T_ref02_Instr.mk j9.Op_ j9.A_ j9.B_ j9.C_ (IntKind.wrap .i64 r25)))
  else (decC_j8 p0 j9))
noncomputable def decC_j9 (p0 : Int) (j9 : T_ref02_Instr) (r1 : Int) (j28 : Bool) : Option (T_ref02_Instr × Int) :=
  decC_j6 p0 j9 r1 j28
noncomputable def decC_j4 (p0 : Int) (j9 : T_ref02_Instr) (r1 : Int) (j10 : Bool) : Option (T_ref02_Instr × Int) :=
  if j10 = true then (bind1 (sextC p0 16) fun r18 =>
  decC_j5 p0 (T_ref02_Instr.mk j9.Op_ j9.A_ j9.B_ j9.C_ (IntKind.wrap .i64 r18)))
  else (if (r1 == 2) = true then (decC_j6 p0 j9 r1 (r1 == 2))
  else (if (r1 == 4) = true then (decC_j9 p0 j9 r1 (r1 == 4))
  else (decC_j9 p0 j9 r1 (r1 == 8))))
noncomputable def decC_j3 (r1 : Int) (p0 : Int) (j9 : T_ref02_Instr) : Option (T_ref02_Instr × Int) :=
  if (r1 == 1) = true then (decC_j4 p0 j9 r1 (r1 == 1))
  else (decC_j4 p0 j9 r1 (r1 == 3))
noncomputable def decC_j2 (r5 : Bool) (r1 : Int) (p0 : Int) (j8 : T_ref02_Instr) : Option (T_ref02_Instr × Int) :=
  if r5 = true then (decC_j3 r1 p0 (T_ref02_Instr.mk j8.Op_ j8.A_ j8.B_ (IntKind.wrap .i64 (Int.tmod p0 16)) j8.Imm_))
  else (decC_j3 r1 p0 j8)
noncomputable def decC_j1 (r4 : Bool) (r5 : Bool) (r1 : Int) (p0 : Int) (j7 : T_ref02_Instr) : Option (T_ref02_Instr × Int) :=
  if r4 = true then (decC_j2 r5 r1 p0 (T_ref02_Instr.mk j7.Op_ j7.A_ (IntKind.wrap .i64 (Int.tmod (IntKind.wrap .u32 (Int.tdiv p0 65536)) 16)) j7.C_ j7.Imm_))
  else (decC_j2 r5 r1 p0 j7)
noncomputable def decC  (p0 : Int) : Option (T_ref02_Instr × Int) :=
  bind1 (ref02_Shape (IntKind.wrap .i64 (IntKind.wrap .u32 (Int.tdiv p0 16777216)))) fun r1 =>
  bind3 (ref02_has r1) fun r3 r4 r5 =>
  if r3 = true then (decC_j1 r4 r5 r1 p0 (T_ref02_Instr.mk (IntKind.wrap .i64 (IntKind.wrap .u32 (Int.tdiv p0 16777216))) (IntKind.wrap .i64 (Int.tmod (IntKind.wrap .u32 (Int.tdiv p0 1048576)) 16)) 0 0 0))
  else (decC_j1 r4 r5 r1 p0 (T_ref02_Instr.mk (IntKind.wrap .i64 (IntKind.wrap .u32 (Int.tdiv p0 16777216))) 0 0 0 0))
theorem decC_j5_eq (p0 : Int) (j11 : T_ref02_Instr) : ref02_Decode_j5 p0 j11 = decC_j5 p0 j11 := by
  unfold ref02_Decode_j5 decC_j5
  simp only [sext16, sext24]
theorem decC_j7_eq (p0 : Int) (j21 : T_ref02_Instr) : ref02_Decode_j7 p0 j21 = decC_j7 p0 j21 := by
  unfold ref02_Decode_j7 decC_j7
  simp only [sext16, sext24, decC_j5_eq]
theorem decC_j8_eq (p0 : Int) (j23 : T_ref02_Instr) : ref02_Decode_j8 p0 j23 = decC_j8 p0 j23 := by
  unfold ref02_Decode_j8 decC_j8
  simp only [sext16, sext24, decC_j5_eq, decC_j7_eq]
theorem decC_j6_eq (p0 : Int) (j9 : T_ref02_Instr) (r1 : Int) (j20 : Bool) : ref02_Decode_j6 p0 j9 r1 j20 = decC_j6 p0 j9 r1 j20 := by
  unfold ref02_Decode_j6 decC_j6
  simp only [sext16, sext24, decC_j5_eq, decC_j7_eq, decC_j8_eq]
theorem decC_j9_eq (p0 : Int) (j9 : T_ref02_Instr) (r1 : Int) (j28 : Bool) : ref02_Decode_j9 p0 j9 r1 j28 = decC_j9 p0 j9 r1 j28 := by
  unfold ref02_Decode_j9 decC_j9
  simp only [sext16, sext24, decC_j5_eq, decC_j7_eq, decC_j8_eq, decC_j6_eq]
theorem decC_j4_eq (p0 : Int) (j9 : T_ref02_Instr) (r1 : Int) (j10 : Bool) : ref02_Decode_j4 p0 j9 r1 j10 = decC_j4 p0 j9 r1 j10 := by
  unfold ref02_Decode_j4 decC_j4
  simp only [sext16, sext24, decC_j5_eq, decC_j7_eq, decC_j8_eq, decC_j6_eq, decC_j9_eq]
theorem decC_j3_eq (r1 : Int) (p0 : Int) (j9 : T_ref02_Instr) : ref02_Decode_j3 r1 p0 j9 = decC_j3 r1 p0 j9 := by
  unfold ref02_Decode_j3 decC_j3
  simp only [sext16, sext24, decC_j5_eq, decC_j7_eq, decC_j8_eq, decC_j6_eq, decC_j9_eq, decC_j4_eq]
theorem decC_j2_eq (r5 : Bool) (r1 : Int) (p0 : Int) (j8 : T_ref02_Instr) : ref02_Decode_j2 r5 r1 p0 j8 = decC_j2 r5 r1 p0 j8 := by
  unfold ref02_Decode_j2 decC_j2
  simp only [sext16, sext24, decC_j5_eq, decC_j7_eq, decC_j8_eq, decC_j6_eq, decC_j9_eq, decC_j4_eq, decC_j3_eq]
theorem decC_j1_eq (r4 : Bool) (r5 : Bool) (r1 : Int) (p0 : Int) (j7 : T_ref02_Instr) : ref02_Decode_j1 r4 r5 r1 p0 j7 = decC_j1 r4 r5 r1 p0 j7 := by
  unfold ref02_Decode_j1 decC_j1
  simp only [sext16, sext24, decC_j5_eq, decC_j7_eq, decC_j8_eq, decC_j6_eq, decC_j9_eq, decC_j4_eq, decC_j3_eq, decC_j2_eq]
theorem decC_eq (p0 : Int) : ref02_Decode p0 = decC p0 := by
  unfold ref02_Decode decC
  simp only [sext16, sext24, decC_j5_eq, decC_j7_eq, decC_j8_eq, decC_j6_eq, decC_j9_eq, decC_j4_eq, decC_j3_eq, decC_j2_eq, decC_j1_eq]
end Go.Proofs.Abs
/- The document's machine that runs words, in plain Lean. -/
namespace Go.Proofs.Abs
open Go
set_option linter.unusedVariables false
set_option linter.unusedSimpArgs false
theorem room_bigR : 1048576 ≤ roomBytes := Nat.le_of_ble_eq_true (by kernel_rfl)
theorem with_loop (p2 : List Int) (k : Nat) : ∀ (n : Nat) (p1 : Int) (a5 : List Int) (a6 : Int), 0 ≤ a6 → a6 + n = p2.length → 0 ≤ p1 → p1 + p2.length ≤ a5.length → (a5.length : Int) ≤ 4294967295 →
    loopO (fun (x : List Int × Int) => ref03_with_L1 p2 p1 x.1 x.2) (a5, a6) = some (setAt a5 (p1 + a6).toNat (p2.drop a6.toNat))
  | 0, p1, a5, a6, h0, h1, h2, h3, h4 => by
    rw [loopO_out (r := a5)]
    · have : p2.drop a6.toNat = [] := List.drop_eq_nil_of_le (by omega)
      rw [this]
      simp [setAt]
    · show ref03_with_L1 p2 p1 a5 a6 = _
      unfold ref03_with_L1
      have c : (decide (a6 < (p2.length : Int))) = false := by simp; omega
      simp [c]
  | n + 1, p1, a5, a6, h0, h1, h2, h3, h4 => by
    have hlt : a6 < p2.length := by omega
    have e : ref03_with_L1 p2 p1 a5 a6 = some (.inl (a5.set (p1 + a6).toNat (p2[a6.toNat]'(by omega)), a6 + 1)) := by
      unfold ref03_with_L1
      have c : (decide (a6 < (p2.length : Int))) = true := by simp; omega
      rw [if_pos c, gi_some h0 hlt, bind1_some, wrap_i64 (p1 + a6) (by omega) (by omega), gi_some (by omega) (by omega), bind1_some, si_some (by omega) (by omega), bind1_some, wrap_i64 (a6 + 1) (by omega) (by omega)]
    rw [loopO_go (s' := (a5.set (p1 + a6).toNat (p2[a6.toNat]'(by omega)), a6 + 1)) e]
    rw [with_loop p2 k n p1 _ (a6 + 1) (by omega) (by omega) h2 (by simpa using h3) (by simpa using h4)]
    congr 1
    have e1 : (p1 + (a6 + 1)).toNat = (p1 + a6).toNat + 1 := by omega
    have e2 : (a6 + 1).toNat = a6.toNat + 1 := by omega
    have e3 : p2.drop a6.toNat = p2[a6.toNat]'(by omega) :: p2.drop (a6.toNat + 1) := by rw [List.drop_eq_getElem_cons]
    rw [e1, e2, e3]
    apply List.ext_getElem?
    intro j
    simp only [setAt, List.getElem?_append, List.length_append, List.length_take, List.getElem?_take, List.getElem?_drop, List.length_drop, List.length_set, List.getElem?_set, List.length_cons, List.getElem?_cons]
    grind
theorem with_spec {ws : List Int} {E : Arr 5 Int} (p1 : Int) (p2 : List Int) (h0 : 0 ≤ p1) (h1 : p1 + p2.length ≤ ws.length) (h2 : ws.length ≤ 262144) : ref03_with ⟨E, ws⟩ p1 p2 = some ⟨E, setAt ws p1.toNat p2⟩ := by
  unfold ref03_with
  have hm : mks 4 (ws.length : Int) (ws.length : Int) (0 : Int) = some (List.replicate ws.length 0) := by
    unfold mks
    rw [if_pos ⟨by omega, by omega, by simp [roomBytes]; omega, by omega⟩]
    simp
  simp only [hm, bind1_some, bnd_def]
  have hc : cpy (List.replicate ws.length (0 : Int)) 0 ws = ws := by
    simp [cpy, setAt]
  rw [hc, with_loop p2 0 p2.length p1 ws 0 (by omega) (by omega) h0 h1 (by omega), bind1_some]
  simp

/-- a memory: words, and a stack of zeros -/
def endsR (n : Int) : Arr 5 Int := arrL [4 * n, 4 * n, 4 * n, 4 * n, 4 * n + 256]
def memR (n : Nat) (W : List Int) : T_ref03_Mem := ⟨endsR n, W⟩
theorem fill_spec {E : Arr 5 Int} {W l : List Int} (k : Nat) (hk : k + l.length ≤ W.length) (hW : W.length ≤ 20000) : ref03_Fill ⟨E, W⟩ (4 * (k : Int)) l = some (⟨E, setAt W k l⟩, 0) := by
  unfold ref03_Fill
  simp only [tmod_pos (show 0 ≤ 4 * (k : Int) by omega), tdiv_pos (show 0 ≤ 4 * (k : Int) by omega)]
  have e1 : 4 * (k : Int) % 4 = 0 := by omega
  have e2 : 4 * (k : Int) / 4 = (k : Int) := by omega
  rw [e1, e2, wrap_u32 (k : Int) (by omega) (by omega), wrap_i64 (k : Int) (by omega) (by omega), wrap_i64 _ (by omega) (by omega), if_neg (by simp), if_neg (by simp; omega), with_spec (k : Int) l (by omega) (by omega) (by omega), bind1_some]
  simp
theorem fetch_spec {n k : Nat} {W : List Int} {w : Int} (hk : k < n) (hn : n ≤ 16000) (hw : W[k]? = some w) : ref03_Fetch (memR n W) (4 * (k : Int)) = some (w, 0) := by
  have hl : k < W.length := (List.getElem?_eq_some_iff.1 hw).1
  unfold ref03_Fetch ref03_Load
  simp only [tmod_pos (show 0 ≤ 4 * (k : Int) by omega), tdiv_pos (show 0 ≤ 4 * (k : Int) by omega)]
  have e1 : 4 * (k : Int) % 4 = 0 := by omega
  have e2 : 4 * (k : Int) / 4 = (k : Int) := by omega
  have e3 : (memR n W).Ends_.g 0 = 4 * (n : Int) := rfl
  have e4 : (memR n W).W_ = W := rfl
  rw [e1, e2, e4, wrap_u32 (k : Int) (by omega) (by omega), wrap_i64 (k : Int) (by omega) (by omega), if_neg (by simp), if_neg (by simp; omega), gi_some (by omega) (by omega), bind1_some, bind2_some, e3, if_neg (by simp; omega)]
  have : W[((k : Nat) : Int).toNat]'(by simpa using hl) = w := by
    have h : W[k]'hl = w := by rw [List.getElem?_eq_getElem hl] at hw; exact Option.some.inj hw
    simpa using h
  rw [this]
/-! one step, and many -/
def tick (c : T_ref04_Cpu) : T_ref04_Cpu := ⟨c.R_, c.PC_, c.EPC_, c.Cause_, c.State_, c.Why_, IntKind.wrap .i64 (c.Steps_ + 1), c.Taken_, c.Out_, c.Entry_, c.Vector_, c.Guard_, c.Limit_, c.Input_⟩
theorem step_spec {c c' : T_ref04_Cpu} {m m' : T_ref03_Mem} {w : Int} {x : T_ref02_Instr} (h0 : c.State_ = 0) (h1 : ref03_Fetch m c.PC_ = some (w, 0)) (h2 : ref02_Decode w = some (x, 0)) (h3 : ref04_do (tick c) m x = some (c', m')) : ref04_Step c m = some (c', m') := by
  unfold ref04_Step
  rw [if_neg (by simp [h0]), h1, bind2_some, if_neg (by simp), h2, bind2_some, if_neg (by simp)]
  show bind2 (ref04_do (tick c) m x) _ = _
  rw [h3]; rfl
def RunTo (p a : Int) (m : T_ref03_Mem) (c : T_ref04_Cpu) (r : T_ref03_Mem × T_ref04_Cpu) : Prop := loopO (fun (x : Int × T_ref03_Mem × T_ref04_Cpu) => ref19_Run_L1 p x.1 x.2.1 x.2.2) (a, m, c) = some r
theorem run_go {p a : Int} {m m' : T_ref03_Mem} {c c' : T_ref04_Cpu} {r} (ha : 0 ≤ a) (hp : a < p) (hp2 : p ≤ 1000000) (h0 : c.State_ = 0) (h : ref04_Step c m = some (c', m')) (k : RunTo p (a + 1) m' c' r) : RunTo p a m c r := by
  unfold RunTo
  rw [loopO_go (f := fun (x : Int × T_ref03_Mem × T_ref04_Cpu) => ref19_Run_L1 p x.1 x.2.1 x.2.2) (s' := (a + 1, m', c'))]
  · exact k
  · show ref19_Run_L1 p a m c = _
    unfold ref19_Run_L1
    rw [if_pos (by simp [h0, hp]), h, bind2_some, wrap_i64 _ (by omega) (by omega)]
theorem run_end {p a : Int} {m : T_ref03_Mem} {c : T_ref04_Cpu} (h : c.State_ ≠ 0) : RunTo p a m c (m, c) := by
  refine loopO_out ?_
  show ref19_Run_L1 p a m c = _
  unfold ref19_Run_L1
  rw [if_neg (by simp [h])]
/-- where it begins -/
def cpu0 (n : Int) : T_ref04_Cpu := ⟨(arrL [0, 0, 0, 0, 0, 0, 0, 0, 0, 0, 0, 0, 0, 4 * n + 192, 0, 4 * n + 256] : Arr 16 Int), 4, 0, 0, 0, 0, 0, 0, [], 4, 0, 4, 4 * n, []⟩
theorem arr5 {a b c d e a' b' c' d' e' : Int} (h1 : a = a') (h2 : b = b') (h3 : c = c') (h4 : d = d') (h5 : e = e') : (arrL [a, b, c, d, e] : Arr 5 Int) = arrL [a', b', c', d', e'] := by subst h1 h2 h3 h4 h5; rfl
theorem arrR {x y x' y' : Int} (h1 : x = x') (h2 : y = y') : (arrL [0, 0, 0, 0, 0, 0, 0, 0, 0, 0, 0, 0, 0, x, 0, y] : Arr 16 Int) = arrL [0, 0, 0, 0, 0, 0, 0, 0, 0, 0, 0, 0, 0, x', 0, y'] := by subst h1 h2; rfl
theorem run_spec {ws : List Int} (hl : ws.length ≤ 15000) {q : Ptr} {r : T_ref03_Mem × T_ref04_Cpu} (h : RunTo 5000 0 (memR ws.length (ws ++ List.replicate 64 0)) (cpu0 ws.length) r) : law19_run q ws = some r.2 := by
  obtain ⟨n, hn⟩ : ∃ n, n = ws.length := ⟨_, rfl⟩
  rw [← hn] at h hl
  obtain ⟨z, hz⟩ : ∃ z : List Int, z = List.replicate 64 0 := ⟨_, rfl⟩
  have lz : z.length = 64 := by rw [hz, List.length_replicate]
  rw [← hz] at h
  have hk : mks 4 64 64 (0 : Int) = some z := by
    unfold mks
    rw [if_pos ⟨by omega, by omega, by have := room_bigR; omega, by omega⟩, hz]; rfl
  have hk2 : mks 4 ((n : Int) + 64) ((n : Int) + 64) (0 : Int) = some (List.replicate (n + 64) 0) := by
    unfold mks
    rw [if_pos ⟨by omega, by omega, by have := room_bigR; omega, by omega⟩]
    have : ((n : Int) + 64).toNat = n + 64 := by omega
    rw [this]
  have w0 : IntKind.wrap .i64 (4 * (n : Int)) = 4 * (n : Int) := wrap_i64 _ (by omega) (by omega)
  have w1 : IntKind.wrap .u32 (IntKind.wrap .i64 (4 * (n : Int))) = 4 * (n : Int) := by rw [w0]; exact wrap_u32 _ (by omega) (by omega)
  have w2 : IntKind.wrap .u32 (IntKind.wrap .i64 (4 * (([] : List Int).length : Int))) = 0 := rfl
  have w3 : IntKind.wrap .u32 (IntKind.wrap .u32 (IntKind.wrap .i64 (4 * (n : Int))) + IntKind.wrap .u32 (IntKind.wrap .i64 (4 * (([] : List Int).length : Int)))) = 4 * (n : Int) := by rw [w1, w2]; exact (wrap_u32 _ (by omega) (by omega)).trans (by omega)
  have w4 : IntKind.wrap .u32 (IntKind.wrap .u32 (IntKind.wrap .u32 (IntKind.wrap .i64 (4 * (n : Int))) + IntKind.wrap .u32 (IntKind.wrap .i64 (4 * (([] : List Int).length : Int)))) + IntKind.wrap .u32 0) = 4 * (n : Int) := by
    rw [w3]; exact (wrap_u32 _ (by show 0 ≤ 4 * (n : Int) + 0; omega) (by show 4 * (n : Int) + 0 ≤ _; omega)).trans (by show 4 * (n : Int) + 0 = _; omega)
  have w5 : IntKind.wrap .u32 (IntKind.wrap .i64 (4 * (z.length : Int))) = 256 := by rw [lz]; rfl
  have w6 : IntKind.wrap .u32 (IntKind.wrap .u32 (IntKind.wrap .u32 (IntKind.wrap .u32 (IntKind.wrap .i64 (4 * (n : Int))) + IntKind.wrap .u32 (IntKind.wrap .i64 (4 * (([] : List Int).length : Int)))) + IntKind.wrap .u32 0) + IntKind.wrap .u32 (IntKind.wrap .i64 (4 * (z.length : Int)))) = 4 * (n : Int) + 256 := by
    rw [w4, w5]; exact wrap_u32 _ (by omega) (by omega)
  have w7 : IntKind.wrap .u32 (IntKind.wrap .i64 (IntKind.wrap .i64 (4 * (n : Int)) + 256)) = 4 * (n : Int) + 256 := by
    rw [w0, wrap_i64 _ (by omega) (by omega)]; exact wrap_u32 _ (by omega) (by omega)
  have w8 : IntKind.wrap .u32 (IntKind.wrap .u32 (IntKind.wrap .i64 (IntKind.wrap .i64 (4 * (n : Int)) + 256)) - 64) = 4 * (n : Int) + 192 := by
    rw [w7, wrap_u32 _ (by omega) (by omega)]; omega
  have g4 : (endsR n).g 4 = 4 * (n : Int) + 256 := rfl
  have w9 : IntKind.wrap .u32 (Int.tdiv (4 * (n : Int) + 256) 4) = (n : Int) + 64 := by rw [tdiv_pos (by omega), wrap_u32 _ (by omega) (by omega)]; omega
  have f1 : ref03_Fill ⟨endsR n, List.replicate (n + 64) 0⟩ 0 ws = some (⟨endsR n, ws ++ z⟩, 0) := by
    have : ref03_Fill ⟨endsR n, List.replicate (n + 64) 0⟩ (4 * ((0 : Nat) : Int)) ws = _ := fill_spec 0 (by simp; omega) (by simp; omega)
    refine Eq.trans this ?_
    have : setAt (List.replicate (n + 64) (0 : Int)) 0 ws = ws ++ z := by
      simp only [setAt, List.take_zero, List.nil_append, List.drop_replicate, Nat.zero_add, ← hn, hz]
      congr 2; omega
    rw [this]
  have f2 : ref03_Fill ⟨endsR n, ws ++ z⟩ (4 * (n : Int)) [] = some (⟨endsR n, ws ++ z⟩, 0) := by
    rw [fill_spec n (by simp; omega) (by simp; omega)]
    simp [setAt]
  have f3 : ref03_Fill ⟨endsR n, ws ++ z⟩ (4 * (n : Int)) z = some (⟨endsR n, ws ++ z⟩, 0) := by
    rw [fill_spec n (by simp; omega) (by simp; omega)]
    have : setAt (ws ++ z) n z = ws ++ z := by
      unfold setAt
      rw [hn, List.take_left', List.drop_eq_nil_of_le (by simp)]
      · simp
      · rfl
    rw [this]
  unfold law19_run
  rw [hk, bind1_some, ← hn, arrR w8 w7]
  unfold ref19_Run
  rw [← hn, arr5 w1 w1 w3 w4 w6, w4, w1]
  show bind2 (bind1 (ref03_New (endsR n)) _) _ = _
  unfold ref03_New
  rw [g4, w9, hk2, bind1_some, bind1_some, f1, bind2_some, f2, bind2_some, f3, bind2_some]
  show bind2 (bind1 (loopO (fun (x : Int × T_ref03_Mem × T_ref04_Cpu) => ref19_Run_L1 5000 x.1 x.2.1 x.2.2) (0, memR n (ws ++ z), cpu0 n)) _) _ = _
  have h' : loopO (fun (x : Int × T_ref03_Mem × T_ref04_Cpu) => ref19_Run_L1 5000 x.1 x.2.1 x.2.2) (0, memR n (ws ++ z), cpu0 n) = some r := h
  rw [h', bind1_some]
  rfl
end Go.Proofs.Abs
/- The document's machine, instruction by instruction. -/
namespace Go.Proofs.Abs
open Go
set_option linter.unusedVariables false
set_option linter.unusedSimpArgs false
def Arr.put {n : Nat} (a : Arr n Int) (j : Nat) (v : Int) : Arr n Int := ⟨a.l.set j v, by rw [List.length_set, a.h]⟩
theorem ga_g {n : Nat} {a : Arr n Int} {j : Nat} (h : j < n) : ga a (j : Int) = some (a.g j) := by
  unfold ga Arr.g
  have hl := a.h
  rw [if_pos (by omega)]
  have : ((j : Nat) : Int).toNat = j := by simp
  rw [this, List.getElem?_eq_getElem (by omega)]; rfl
theorem sa_put {n : Nat} {a : Arr n Int} {j : Nat} {v : Int} (h : j < n) : sa a (j : Int) v = some (a.put j v) := by
  unfold sa
  rw [if_pos ⟨by omega, by omega⟩]
  rfl
theorem put_same {n : Nat} {a : Arr n Int} {j : Nat} {v : Int} (h : j < n) : (a.put j v).g j = v := by
  unfold Arr.g Arr.put
  have hl := a.h
  simp [hl, h]
theorem put_other {n : Nat} {a : Arr n Int} {j k : Nat} {v : Int} (h : j ≠ k) : (a.put j v).g k = a.g k := by
  unfold Arr.g Arr.put
  simp [h]
/-- the machine at a word, that goes on -/
def cpS (R : Arr 16 Int) (k : Nat) (s : Int) (n : Nat) : T_ref04_Cpu := ⟨R, 4 * (k : Int), 0, 0, 0, 0, s, 0, [], 4, 0, 4, 4 * (n : Int), []⟩
/-- the machine at its end: by a trap, or not -/
def cpE (R : Arr 16 Int) (k : Nat) (s : Int) (n : Nat) (epc ca st : Int) : T_ref04_Cpu := ⟨R, 4 * (k : Int), epc, ca, st, 0, s, 0, [], 4, 0, 4, 4 * (n : Int), []⟩
section
variable {R : Arr 16 Int} {k n : Nat} {s t w : Int} {W : List Int} {r : T_ref03_Mem × T_ref04_Cpu}
theorem pc_next (h : k < 15000) : IntKind.wrap .u32 (4 * (k : Int) + 4) = 4 * ((k + 1 : Nat) : Int) := by rw [wrap_u32 _ (by omega) (by omega)]; omega
theorem ex_one {x : T_ref02_Instr} {c' : T_ref04_Cpu} {m' : T_ref03_Mem} (ht : 0 ≤ t) (ht1 : t < 4999) (hw : W[k]? = some w) (hd : ref02_Decode w = some (x, 0)) (hk : k < n) (hn : n ≤ 15000)
    (h3 : ref04_do (tick (cpS R k s n)) (memR n W) x = some (c', m')) (next : RunTo 5000 (t + 1) m' c' r) : RunTo 5000 t (memR n W) (cpS R k s n) r :=
  run_go ht (by omega) (by omega) rfl (step_spec rfl (fetch_spec hk (by omega) hw) hd h3) next
/-- it comes to an end, and there P holds -/
def ExR (P : T_ref04_Cpu → Prop) (t : Int) (m : T_ref03_Mem) (c : T_ref04_Cpu) : Prop := ∃ r, RunTo 5000 t m c r ∧ P r.2
theorem xr_one {P : T_ref04_Cpu → Prop} {x : T_ref02_Instr} {c' : T_ref04_Cpu} {m' : T_ref03_Mem} (ht : 0 ≤ t) (ht1 : t < 4999) (hw : W[k]? = some w) (hd : ref02_Decode w = some (x, 0)) (hk : k < n) (hn : n ≤ 15000)
    (h3 : ref04_do (tick (cpS R k s n)) (memR n W) x = some (c', m')) (next : ExR P (t + 1) m' c') : ExR P t (memR n W) (cpS R k s n) := by
  obtain ⟨r, h, p⟩ := next
  exact ⟨r, ex_one ht ht1 hw hd hk hn h3 h, p⟩
theorem xr_end {P : T_ref04_Cpu → Prop} {m : T_ref03_Mem} {c : T_ref04_Cpu} (h : c.State_ ≠ 0) (p : P c) : ExR P t m c := ⟨(m, c), run_end h, p⟩
theorem do_ldi {a : Nat} {v : Int} {m : T_ref03_Mem} (ha : a < 16) (hk : k < 15000) : ref04_do (tick (cpS R k s n)) m ⟨2, a, 0, 0, v⟩ = some (cpS (R.put a (IntKind.wrap .u32 v)) (k + 1) (IntKind.wrap .i64 (s + 1)) n, m) := by
  unfold ref04_do
  show bind1 (ga R a) _ = _
  rw [ga_g ha, bind1_some]
  show bind1 (ga R ((0 : Nat) : Int)) _ = _
  rw [ga_g (by omega), bind1_some, if_neg (by simp), if_neg (by simp), if_pos (by simp)]
  show bind1 (ga R a) _ = _
  rw [ga_g ha, bind1_some]
  show bind1 (sa R a (IntKind.wrap .u32 v)) _ = _
  rw [sa_put ha, bind1_some]
  unfold ref04_do_j1
  show some ((⟨_, IntKind.wrap .u32 (4 * (k : Int) + 4), _, _, _, _, _, _, _, _, _, _, _, _⟩ : T_ref04_Cpu), m) = _
  rw [pc_next hk]; rfl
theorem do_lui {a : Nat} {v : Int} {m : T_ref03_Mem} (ha : a < 16) (hk : k < 15000) : ref04_do (tick (cpS R k s n)) m ⟨3, a, 0, 0, v⟩ = some (cpS (R.put a (IntKind.wrap .u32 (IntKind.wrap .u32 v * 65536))) (k + 1) (IntKind.wrap .i64 (s + 1)) n, m) := by
  unfold ref04_do
  show bind1 (ga R a) _ = _
  rw [ga_g ha, bind1_some]
  show bind1 (ga R ((0 : Nat) : Int)) _ = _
  rw [ga_g (by omega), bind1_some, if_neg (by simp), if_neg (by simp), if_neg (by simp), if_pos (by simp)]
  show bind1 (ga R a) _ = _
  rw [ga_g ha, bind1_some]
  show bind1 (sa R a _) _ = _
  rw [sa_put ha, bind1_some]
  unfold ref04_do_j2 ref04_do_j1
  show some ((⟨_, IntKind.wrap .u32 (4 * (k : Int) + 4), _, _, _, _, _, _, _, _, _, _, _, _⟩ : T_ref04_Cpu), m) = _
  rw [pc_next hk]; rfl
theorem do_ori {a b : Nat} {v : Int} {m : T_ref03_Mem} (ha : a < 16) (hb : b < 16) (hk : k < 15000) : ref04_do (tick (cpS R k s n)) m ⟨4, a, b, 0, v⟩ = some (cpS (R.put a (bitsOf .or .u32 (R.g b) (IntKind.wrap .u32 v))) (k + 1) (IntKind.wrap .i64 (s + 1)) n, m) := by
  unfold ref04_do
  show bind1 (ga R a) _ = _
  rw [ga_g ha, bind1_some]
  show bind1 (ga R b) _ = _
  rw [ga_g hb, bind1_some, if_neg (by simp), if_neg (by simp), if_neg (by simp), if_neg (by simp), if_pos (by simp)]
  show bind1 (ga R a) _ = _
  rw [ga_g ha, bind1_some]
  show bind1 (sa R a _) _ = _
  rw [sa_put ha, bind1_some]
  unfold ref04_do_j3 ref04_do_j2 ref04_do_j1
  show some ((⟨_, IntKind.wrap .u32 (4 * (k : Int) + 4), _, _, _, _, _, _, _, _, _, _, _, _⟩ : T_ref04_Cpu), m) = _
  rw [pc_next hk]; rfl
theorem do_addi {a b : Nat} {v : Int} {m : T_ref03_Mem} (ha : a < 16) (hb : b < 16) (hk : k < 15000) : ref04_do (tick (cpS R k s n)) m ⟨5, a, b, 0, v⟩ = some (cpS (R.put a (IntKind.wrap .u32 (R.g b + IntKind.wrap .u32 v))) (k + 1) (IntKind.wrap .i64 (s + 1)) n, m) := by
  unfold ref04_do
  show bind1 (ga R a) _ = _
  rw [ga_g ha, bind1_some]
  show bind1 (ga R b) _ = _
  rw [ga_g hb, bind1_some, if_neg (by simp), if_neg (by simp), if_neg (by simp), if_neg (by simp), if_neg (by simp), if_pos (by simp)]
  show bind1 (ga R a) _ = _
  rw [ga_g ha, bind1_some]
  show bind1 (sa R a _) _ = _
  rw [sa_put ha, bind1_some]
  unfold ref04_do_j4 ref04_do_j3 ref04_do_j2 ref04_do_j1
  show some ((⟨_, IntKind.wrap .u32 (4 * (k : Int) + 4), _, _, _, _, _, _, _, _, _, _, _, _⟩ : T_ref04_Cpu), m) = _
  rw [pc_next hk]; rfl
theorem do_three {o v : Int} {a b c : Nat} {m : T_ref03_Mem} (ho : 6 ≤ o) (ho2 : o ≤ 17) (ha : a < 16) (hb : b < 16) (hc : c < 16) (hk : k < 15000) (hr : ref04_reckon o (R.g b) (R.g c) = some (v, true)) :
    ref04_do (tick (cpS R k s n)) m ⟨o, a, b, c, 0⟩ = some (cpS (R.put a v) (k + 1) (IntKind.wrap .i64 (s + 1)) n, m) := by
  unfold ref04_do
  show bind1 (ga R a) _ = _
  rw [ga_g ha, bind1_some]
  show bind1 (ga R b) _ = _
  rw [ga_g hb, bind1_some, if_pos (by simp; omega)]
  show bind1 (ga R c) _ = _
  rw [ga_g hc, bind1_some, hr, bind2_some, if_neg (by simp)]
  show bind1 (ga R a) _ = _
  rw [ga_g ha, bind1_some]
  show bind1 (sa R a _) _ = _
  rw [sa_put ha, bind1_some]
  show some ((⟨_, IntKind.wrap .u32 (4 * (k : Int) + 4), _, _, _, _, _, _, _, _, _, _, _, _⟩ : T_ref04_Cpu), m) = _
  rw [pc_next hk]; rfl
theorem do_halt {m : T_ref03_Mem} : ref04_do (tick (cpS R k s n)) m ⟨1, 0, 0, 0, 0⟩ = some (cpE R k (IntKind.wrap .i64 (s + 1)) n 0 0 1, m) := by
  unfold ref04_do
  show bind1 (ga R ((0 : Nat) : Int)) _ = _
  rw [ga_g (by omega), bind1_some]
  show bind1 (ga R ((0 : Nat) : Int)) _ = _
  rw [ga_g (by omega), bind1_some, if_neg (by simp), if_pos (by simp)]
  rfl
end
end Go.Proofs.Abs
/- A number that is put into register 0. -/
namespace Go.Proofs.Abs
open Go
set_option linter.unusedVariables false
set_option linter.unusedSimpArgs false
theorem put_put {n : Nat} {a : Arr n Int} {j : Nat} {u v : Int} : (a.put j u).put j v = a.put j v := by
  unfold Arr.put; congr 1; simp
theorem fits16 {n : Int} (h0 : -2147483648 ≤ n) (h1 : n ≤ 2147483647) : word_Fits (IntKind.wrap .i64 n) 16 = some (decide (-32768 ≤ n ∧ n < 32768)) := by
  unfold word_Fits
  have e : (if (40 : Int) < 16 then (40 : Int) else 16) - 1 = 15 := by decide
  have s1 : shlI .i64 (-1) (IntKind.wrap .i64 15) = some (-32768) := by kernel_rfl
  have s2 : shlI .i64 1 (IntKind.wrap .i64 15) = some 32768 := by kernel_rfl
  rw [if_neg (by decide), e, s1, bind1_some, wrap_i64 n (by omega) (by omega)]
  by_cases c : n ≥ -32768
  · rw [if_pos (by simpa using c), s2, bind1_some, bind1_some]
    congr 1
    by_cases d : n < 32768
    · rw [decide_eq_true d, decide_eq_true ⟨c, d⟩]
    · rw [decide_eq_false d, decide_eq_false (fun h => d h.2)]
  · rw [if_neg (by simpa using c), bind1_some, decide_eq_false (fun h => c h.1)]
theorem within16 {n : Int} : word_Within n 16 = some (decide (0 ≤ n ∧ n < 65536)) := by
  unfold word_Within
  have e : (if (40 : Int) < 16 then (40 : Int) else 16) = 16 := by decide
  have s2 : shlI .i64 1 16 = some 65536 := by kernel_rfl
  rw [if_pos (by decide), e]
  by_cases c : n ≥ 0
  · rw [if_pos (by simpa using c), s2, bind1_some, bind1_some]
    congr 1
    by_cases d : n < 65536
    · rw [decide_eq_true d, decide_eq_true ⟨c, d⟩]
    · rw [decide_eq_false d, decide_eq_false (fun h => d h.2)]
  · rw [if_neg (by simpa using c), bind1_some, decide_eq_false (fun h => c h.1)]
theorem reg_ok {a : Int} (h0 : 0 ≤ a) (h1 : a < 16) : instr_reg a = some true := by
  unfold instr_reg; simp [h0, h1]
theorem wrap_i32 (x : Int) (h1 : -2147483648 ≤ x) (h2 : x ≤ 2147483647) : IntKind.i32.wrap x = x := by
  simp only [IntKind.wrap, IntKind.bits, IntKind.signed]
  simp
  omega
theorem round_small {x : Int} (h0 : -2147483648 ≤ x) (h1 : x ≤ 2147483647) : ref01_Round x = some x := by
  unfold ref01_Round ref01_Round_j1 ref01_Round_j2
  by_cases c : x < 0
  · have e : Int.tmod x 4294967296 = x := by
      have : Int.tmod (-x) 4294967296 = -x := by rw [tmod_pos (by omega)]; omega
      rw [Int.neg_tmod] at this; omega
    rw [e, if_pos (by simpa using c), wrap_i64 _ (by omega) (by omega), if_pos (by simp; omega), wrap_i64 _ (by omega) (by omega), wrap_i32 _ (by omega) (by omega)]
    congr 1; omega
  · have e : Int.tmod x 4294967296 = x := by rw [tmod_pos (by omega)]; omega
    rw [e, if_neg (by simp; omega), if_neg (by simp; omega), wrap_i32 _ (by omega) (by omega)]
theorem sextC16 {w n : Int} (h0 : -32768 ≤ n) (h1 : n < 32768) (hw0 : 0 ≤ w) (hw1 : w < 4294967296) (hw : w % 65536 = n % 65536) : sextC w 16 = some n := by
  unfold sextC
  have e : (2 : Int) ^ (16 : Int).toNat = 65536 := by decide
  have r : remI .i64 (IntKind.wrap .i64 w) 65536 = some (n % 65536) := by
    unfold remI
    rw [if_neg (by decide), wrap_i64 w (by omega) (by omega), tmod_pos hw0, hw]
    try rw [wrap_i64 _ (by omega) (by omega)]
  have t : IntKind.wrap .i64 (Int.tdiv 65536 2) = 32768 := by kernel_rfl
  rw [e, r, bind1_some, t]
  unfold ref01_Sext_j1
  by_cases c : n < 0
  · rw [if_pos (by simp; omega), wrap_i64 _ (by omega) (by omega)]
    have : n % 65536 - 65536 = n := by omega
    rw [this, round_small (by omega) (by omega), bind1_some]
  · have : n % 65536 = n := by omega
    rw [if_neg (by simp; omega), this, round_small (by omega) (by omega), bind1_some]
end Go.Proofs.Abs
/- A number that is put into register 0: what the machine does. -/
namespace Go.Proofs.Abs
open Go
set_option linter.unusedVariables false
set_option linter.unusedSimpArgs false
/-- words stand one behind the other -/
def Sits (W : List Int) (k : Nat) (l : List Int) : Prop := ∀ (j : Nat) (x : Int), l[j]? = some x → W[k + j]? = some x
theorem Sits.app {W : List Int} {k : Nat} {l l' : List Int} (h : Sits W k (l ++ l')) : Sits W k l ∧ Sits W (k + l.length) l' := by
  refine ⟨fun j x hj => h j x ?_, fun j x hj => ?_⟩
  · rw [List.getElem?_append_left (List.getElem?_eq_some_iff.1 hj).1]; exact hj
  · have := h (l.length + j) x (by rw [List.getElem?_append_right (by omega)]; simpa using hj)
    rw [Nat.add_assoc]; exact this
theorem Sits.here {W : List Int} {k : Nat} {x : Int} {l : List Int} (h : Sits W k (x :: l)) : W[k]? = some x ∧ Sits W (k + 1) l :=
  ⟨h 0 x rfl, fun j y hj => by have := h (j + 1) y (by simpa using hj); rw [show k + 1 + j = k + (j + 1) by omega]; exact this⟩
end Go.Proofs.Abs
/- What is stored and loaded by the document's machine; the page's example. -/
namespace Go.Proofs.Abs
open Go
set_option linter.unusedVariables false
set_option linter.unusedSimpArgs false
section
variable {R : Arr 16 Int} {k n : Nat} {s t w : Int} {W : List Int} {r : T_ref03_Mem × T_ref04_Cpu}
theorem load_at {j : Nat} {x : Int} (hW : W.length ≤ 20000) (hj : W[j]? = some x) : ref03_Load (memR n W) (4 * (j : Int)) = some (x, 0) := by
  have hl : j < W.length := (List.getElem?_eq_some_iff.1 hj).1
  unfold ref03_Load
  simp only [tmod_pos (show 0 ≤ 4 * (j : Int) by omega), tdiv_pos (show 0 ≤ 4 * (j : Int) by omega)]
  have e1 : 4 * (j : Int) % 4 = 0 := by omega
  have e2 : 4 * (j : Int) / 4 = (j : Int) := by omega
  have e4 : (memR n W).W_ = W := rfl
  rw [e1, e2, e4, wrap_u32 (j : Int) (by omega) (by omega), wrap_i64 (j : Int) (by omega) (by omega), if_neg (by simp), if_neg (by simp; omega), gi_some (by omega) (by omega), bind1_some]
  have : W[((j : Nat) : Int).toNat]'(by simpa using hl) = x := by
    have h : W[j]'hl = x := by rw [List.getElem?_eq_getElem hl] at hj; exact Option.some.inj hj
    simpa using h
  rw [this]
theorem store_at {j : Nat} {x : Int} (hW : W.length ≤ 20000) (hj : j < W.length) (hn : n ≤ j) : ref03_Store (memR n W) (4 * (j : Int)) x = some (memR n (W.set j x), 0) := by
  have e1 : (memR n W).Ends_.g 1 = 4 * (n : Int) := rfl
  unfold ref03_Store
  rw [load_at hW (List.getElem?_eq_getElem hj), bind2_some, if_neg (by simp), e1, if_neg (by simp; omega)]
  have e2 : IntKind.wrap .i64 (IntKind.wrap .u32 (Int.tdiv (4 * (j : Int)) 4)) = (j : Int) := by
    rw [tdiv_pos (by omega), wrap_u32 _ (by omega) (by omega), wrap_i64 _ (by omega) (by omega)]; omega
  rw [e2]
  show bind1 (ref03_with ⟨endsR n, W⟩ (j : Int) [x]) _ = _
  rw [with_spec (j : Int) [x] (by omega) (by simp; omega) (by omega), bind1_some]
  have : setAt W ((j : Nat) : Int).toNat [x] = W.set j x := by
    have : ((j : Nat) : Int).toNat = j := by simp
    rw [this]
    apply List.ext_getElem?
    intro q
    simp only [setAt, List.getElem?_append, List.length_append, List.length_take, List.getElem?_take, List.getElem?_drop, List.getElem?_set, List.length_cons, List.getElem?_cons]
    grind
  rw [this]; rfl
theorem do_ldw {a b : Nat} {v x : Int} {m : T_ref03_Mem} (ha : a < 16) (hb : b < 16) (hk : k < 15000) (hl : ref03_Load m (IntKind.wrap .u32 (R.g b + IntKind.wrap .u32 v)) = some (x, 0)) :
    ref04_do (tick (cpS R k s n)) m ⟨18, a, b, 0, v⟩ = some (cpS (R.put a x) (k + 1) (IntKind.wrap .i64 (s + 1)) n, m) := by
  unfold ref04_do
  show bind1 (ga R a) _ = _
  rw [ga_g ha, bind1_some]
  show bind1 (ga R b) _ = _
  rw [ga_g hb, bind1_some, if_neg (by simp), if_neg (by simp), if_neg (by simp), if_neg (by simp), if_neg (by simp), if_neg (by simp), if_neg (by simp), if_pos (by simp), hl, bind2_some, if_neg (by simp)]
  show bind1 (ga R a) _ = _
  rw [ga_g ha, bind1_some]
  show bind1 (sa R a _) _ = _
  rw [sa_put ha, bind1_some]
  unfold ref04_do_j6 ref04_do_j5 ref04_do_j4 ref04_do_j3 ref04_do_j2 ref04_do_j1
  show some ((⟨_, IntKind.wrap .u32 (4 * (k : Int) + 4), _, _, _, _, _, _, _, _, _, _, _, _⟩ : T_ref04_Cpu), m) = _
  rw [pc_next hk]; rfl
theorem do_stw {a b : Nat} {v : Int} {m m' : T_ref03_Mem} (ha : a < 16) (hb : b < 16) (hk : k < 15000) (hl : ref03_Store m (IntKind.wrap .u32 (R.g b + IntKind.wrap .u32 v)) (R.g a) = some (m', 0)) :
    ref04_do (tick (cpS R k s n)) m ⟨19, a, b, 0, v⟩ = some (cpS R (k + 1) (IntKind.wrap .i64 (s + 1)) n, m') := by
  unfold ref04_do
  show bind1 (ga R a) _ = _
  rw [ga_g ha, bind1_some]
  show bind1 (ga R b) _ = _
  rw [ga_g hb, bind1_some, if_neg (by simp), if_neg (by simp), if_neg (by simp), if_neg (by simp), if_neg (by simp), if_neg (by simp), if_neg (by simp), if_neg (by simp), if_pos (by simp), hl, bind2_some, if_neg (by simp)]
  unfold ref04_do_j7 ref04_do_j6 ref04_do_j5 ref04_do_j4 ref04_do_j3 ref04_do_j2 ref04_do_j1
  show some ((⟨_, IntKind.wrap .u32 (4 * (k : Int) + 4), _, _, _, _, _, _, _, _, _, _, _, _⟩ : T_ref04_Cpu), m') = _
  rw [pc_next hk]; rfl
end
/-! words that are known -/
theorem dec_halt : ref02_Decode 16777216 = some (⟨1, 0, 0, 0, 0⟩, 0) := by rw [decC_eq]; kernel_rfl
theorem dec_dn : ref02_Decode 100663292 = some (⟨5, 15, 15, 0, -4⟩, 0) := by rw [decC_eq]; kernel_rfl
theorem dec_up : ref02_Decode 100597764 = some (⟨5, 15, 15, 0, 4⟩, 0) := by rw [decC_eq]; kernel_rfl
theorem dec_st0 : ref02_Decode 319750144 = some (⟨19, 0, 15, 0, 0⟩, 0) := by rw [decC_eq]; kernel_rfl
theorem dec_ld1 : ref02_Decode 304021504 = some (⟨18, 1, 15, 0, 0⟩, 0) := by rw [decC_eq]; kernel_rfl
theorem dec_ldi7 : ref02_Decode 33554439 = some (⟨2, 0, 0, 0, 7⟩, 0) := by rw [decC_eq]; kernel_rfl
theorem dec_ldim2 : ref02_Decode 33619966 = some (⟨2, 0, 0, 0, -2⟩, 0) := by rw [decC_eq]; kernel_rfl
theorem dec_div : ref02_Decode 151060480 = some (⟨9, 0, 1, 0, 0⟩, 0) := by rw [decC_eq]; kernel_rfl
theorem enc_div : instr_Encode ⟨9, 0, 1, 0, 0⟩ = some (151060480, 0) := by kernel_rfl
def awW : List Int := [16777216, 33554439, 100663292, 319750144, 33619966, 304021504, 100597764, 151060480, 16777216]
def R0 (n : Nat) : Arr 16 Int := arrL [0, 0, 0, 0, 0, 0, 0, 0, 0, 0, 0, 0, 0, 4 * (n : Int) + 192, 0, 4 * (n : Int) + 256]
theorem run_xr {ws : List Int} (hl : ws.length ≤ 15000) {q : Ptr} {P : T_ref04_Cpu → Prop} (h : ExR P 0 (memR ws.length (ws ++ List.replicate 64 0)) (cpS (R0 ws.length) 1 0 ws.length)) : ∃ c, law19_run q ws = some c ∧ P c := by
  obtain ⟨r, h1, h2⟩ := h
  exact ⟨r.2, run_spec hl h1, h2⟩
theorem awake_run (q : Ptr) : ∃ c, law19_run q awW = some c ∧ c.State_ = 1 ∧ IntKind.wrap .i32 (c.R_.g 0) = -4 := by
  have hl : awW.length = 9 := rfl
  obtain ⟨W, hW⟩ : ∃ W, W = awW ++ List.replicate 64 0 := ⟨_, rfl⟩
  have s3 : ref03_Store (memR 9 W) (4 * ((72 : Nat) : Int)) 7 = some (memR 9 (W.set 72 7), 0) := store_at (by rw [hW]; decide) (by rw [hW]; decide) (by decide)
  have l5 : ref03_Load (memR 9 (W.set 72 7)) (4 * ((72 : Nat) : Int)) = some (7, 0) := load_at (by rw [hW]; decide) (by rw [hW]; rfl)
  have w : ∀ j x, awW[j]? = some x → W[j]? = some x := fun j x h => by rw [hW, List.getElem?_append_left (List.getElem?_eq_some_iff.1 h).1]; exact h
  have w' : ∀ j x, j < 9 → awW[j]? = some x → (W.set 72 7)[j]? = some x := fun j x hj h => by rw [List.getElem?_set_ne (by omega)]; exact w j x h
  refine run_xr (ws := awW) (by decide) ?_
  rw [hl, ← hW]
  refine xr_one (by decide) (by decide) (w 1 _ rfl) dec_ldi7 (by decide) (by decide) (do_ldi (a := 0) (by decide) (by decide)) ?_
  refine xr_one (by decide) (by decide) (w 2 _ rfl) dec_dn (by decide) (by decide) (do_addi (a := 15) (b := 15) (by decide) (by decide) (by decide)) ?_
  refine xr_one (by decide) (by decide) (w 3 _ rfl) dec_st0 (by decide) (by decide) (do_stw (a := 0) (b := 15) (by decide) (by decide) (by decide) s3) ?_
  refine xr_one (by decide) (by decide) (w' 4 _ (by decide) rfl) dec_ldim2 (by decide) (by decide) (do_ldi (a := 0) (by decide) (by decide)) ?_
  refine xr_one (by decide) (by decide) (w' 5 _ (by decide) rfl) dec_ld1 (by decide) (by decide) (do_ldw (a := 1) (b := 15) (by decide) (by decide) (by decide) l5) ?_
  refine xr_one (by decide) (by decide) (w' 6 _ (by decide) rfl) dec_up (by decide) (by decide) (do_addi (a := 15) (b := 15) (by decide) (by decide) (by decide)) ?_
  refine xr_one (by decide) (by decide) (w' 7 _ (by decide) rfl) dec_div (by decide) (by decide) (do_three (v := 4294967292) (a := 0) (b := 1) (c := 0) (by decide) (by decide) (by decide) (by decide) (by decide) (by decide) (by kernel_rfl)) ?_
  refine xr_one (by decide) (by decide) (w' 8 _ (by decide) rfl) dec_halt (by decide) (by decide) do_halt ?_
  exact xr_end (show (1 : Int) ≠ 0 by decide) ⟨rfl, by kernel_rfl⟩
end Go.Proofs.Abs
/- The page's example of code for things. -/
namespace Go.Proofs.Abs
open Go
set_option linter.unusedVariables false
set_option linter.unusedSimpArgs false
theorem iawake_spec (H : Heap) : ∃ H', law19_awake H = some (H', true) := by
  obtain ⟨H1, i, g, e1, G1⟩ := begun_spec H
  obtain ⟨H2, e2, G2⟩ := number_gn G1 (a := 0) (n := 7) (l := [33554439]) (by kernel_rfl) (by decide)
  obtain ⟨H3, e3, G3⟩ := wait_gn G2 (by decide) (by decide) (by decide)
  obtain ⟨H4, e4, G4⟩ := number_gn G3 (a := 0) (n := -2) (l := [33619966]) (by kernel_rfl) (by decide)
  obtain ⟨H5, e5, G5⟩ := pop_gn G4 enc_ld1 (by decide) (by decide) (by decide)
  obtain ⟨H6, e6, G6⟩ := three_gn G5 enc_div (by decide)
  obtain ⟨H7, e7⟩ := ended_gn (H := H6) (i := i) (g := g) (ws := [16777216, 33554439, 100663292, 319750144, 33619966, 304021504, 100597764, 151060480]) (d := 0) (m := 1) G6 (by decide) 0
  obtain ⟨c, r1, r2, r3⟩ := awake_run (.at g 0)
  have two : item_Gen_Two H4 (.at g 0) (ByteArray.mk #[68, 73, 86]) = some (H6, 0) := by
    have : item_Gen_Two H4 (.at g 0) (ByteArray.mk #[68, 73, 86]) = item_Gen_Two_j1 (.at g 0) H4 false 9 := by kernel_rfl
    rw [this]
    unfold item_Gen_Two_j1
    rw [pbnd_at, G4.gen, bind1_some]
    show bind1 (emit_Code_Pop H4 (.at i 0) 1) _ = _
    rw [e5, bind1_some, if_neg (by simp), G5.gen, bind1_some]
    show bind2 (emit_Code_Three H5 (.at i 0) 9 0 1 0) _ = _
    rw [e6]; rfl
  unfold law19_awake
  rw [e1, bind2_some, isNil_at, if_neg (by simp), pbnd_at, G1.gen, bind1_some]
  show ∃ H', bind1 (emit_Code_Number H1 (.at i 0) 0 7) _ = some (H', true)
  rw [e2, bind1_some, e3, bind1_some, G3.gen, bind1_some]
  show ∃ H', bind1 (emit_Code_Number H3 (.at i 0) 0 (-2)) _ = some (H', true)
  rw [e4, bind1_some, two, bind2_some, e7, bind3_some, if_neg (by decide)]
  have : ([16777216, 33554439, 100663292, 319750144, 33619966, 304021504, 100597764, 151060480] ++ [16777216] : List Int) = awW := rfl
  rw [this, r1, bind1_some, r2, r3]
  exact ⟨H7, rfl⟩
section
variable {R : Arr 16 Int} {k n : Nat} {s t w : Int} {W : List Int} {P : T_ref04_Cpu → Prop}
end
end Go.Proofs.Abs
/- How a run ends. -/
namespace Go.Proofs.Abs
open Go
set_option linter.unusedVariables false
set_option linter.unusedSimpArgs false
theorem sits_mk (x : Int) (l z : List Int) : Sits (x :: (l ++ z)) 1 l := fun j y h => by
  rw [Nat.add_comm, List.getElem?_cons_succ, List.getElem?_append_left (List.getElem?_eq_some_iff.1 h).1]; exact h
def PV (v : Int) (N : Nat) (c : T_ref04_Cpu) : Prop := c.State_ = 1 ∧ c.Cause_ = 0 ∧ IntKind.wrap .i32 (c.R_.g 0) = v ∧ c.R_.g 15 = 4 * (N : Int) + 256 ∧ c.R_.g 13 = 4 * (N : Int) + 192
def PT (ca : Int) (c : T_ref04_Cpu) : Prop := c.State_ = 1 ∧ c.Cause_ = ca
end Go.Proofs.Abs
/- Words with two registers and a number, in general; pushes and pops; pointers that are followed. -/
namespace Go.Proofs.Abs
open Go
set_option linter.unusedVariables false
set_option linter.unusedSimpArgs false
/-- may a number of such a shape be n? -/
def immOk (sh n : Int) : Prop := ((sh = 1 ∨ sh = 3) ∧ -32768 ≤ n ∧ n < 32768) ∨ ((sh = 2 ∨ sh = 4) ∧ 0 ≤ n ∧ n < 65536)
theorem enc_gen {op a b n sh : Int} (hs : instr_Shape op = some sh) (hn : immOk sh n) (ho : 0 ≤ op) (ho2 : op < 64) (ha : 0 ≤ a) (ha2 : a < 16) (hb : 0 ≤ b) (hb2 : b < 16) (hb0 : sh ≤ 2 → b = 0) :
    instr_Encode ⟨op, a, b, 0, n⟩ = some (op * 16777216 + a * 1048576 + b * 65536 + n % 65536, 0) := by
  have b32 : -32768 ≤ n ∧ n < 65536 := by rcases hn with h | h <;> omega
  have sh4 : 1 ≤ sh ∧ sh ≤ 4 := by rcases hn with h | h <;> omega
  have f16 := fits16 (n := n) (by omega) (by omega)
  rw [wrap_i64 n (by omega) (by omega)] at f16
  have im : instr_imm ⟨op, a, b, 0, n⟩ sh = some true := by
    unfold instr_imm instr_imm_j1 instr_imm_j3 instr_imm_j2
    rcases hn with ⟨rfl | rfl, h⟩ | ⟨rfl | rfl, h⟩ <;> simp [f16, within16, h, bind1_some]
  have ck : instr_Check ⟨op, a, b, 0, n⟩ = some 0 := by
    unfold instr_Check
    rw [hs, bind1_some, if_neg (by simp; omega), reg_ok ha ha2, bind1_some, if_neg (by decide), reg_ok hb hb2, bind1_some, if_neg (by decide), reg_ok (Int.le_refl 0) (show (0 : Int) < 16 by decide), bind1_some, if_neg (by decide), im, bind1_some, bind1_some, if_neg (by decide)]
    unfold instr_Check_j7 instr_Check_j1 instr_Check_j6 instr_Check_j3 instr_Check_j5 instr_Check_j4 instr_Check_j2
    rcases hn with ⟨rfl | rfl, h⟩ | ⟨rfl | rfl, h⟩
    · simp [hb0 (by omega)]
    · simp
    · simp [hb0 (by omega)]
    · simp
  unfold instr_Encode
  rw [ck, bind1_some, if_neg (by decide), hs, bind1_some, if_neg (by simp; omega), word_of op a b n 0 ho (by omega) ha ha2 hb hb2 (by decide) (by decide) (.inr rfl)]
  congr 2; omega
theorem dec_gen {op a b n sh : Int} (hs : ref02_Shape op = some sh) (hn : immOk sh n) (ho : 0 ≤ op) (ho2 : op < 64) (ha : 0 ≤ a) (ha2 : a < 16) (hb : 0 ≤ b) (hb2 : b < 16) (hb0 : sh ≤ 2 → b = 0) :
    ref02_Decode (op * 16777216 + a * 1048576 + b * 65536 + n % 65536) = some (⟨op, a, b, 0, n⟩, 0) := by
  obtain ⟨w, hw⟩ : ∃ w, w = op * 16777216 + a * 1048576 + b * 65536 + n % 65536 := ⟨_, rfl⟩
  rw [← hw, decC_eq]
  have b32 : -32768 ≤ n ∧ n < 65536 := by rcases hn with h | h <;> omega
  have sh4 : 1 ≤ sh ∧ sh ≤ 4 := by rcases hn with h | h <;> omega
  have d1 : IntKind.wrap .i64 (IntKind.wrap .u32 (Int.tdiv w 16777216)) = op := by rw [tdiv_pos (by omega), wrap_u32 _ (by omega) (by omega), wrap_i64 _ (by omega) (by omega)]; omega
  have d2 : IntKind.wrap .i64 (Int.tmod (IntKind.wrap .u32 (Int.tdiv w 1048576)) 16) = a := by rw [tdiv_pos (by omega), wrap_u32 _ (by omega) (by omega), tmod_pos (by omega), wrap_i64 _ (by omega) (by omega)]; omega
  have d4 : IntKind.wrap .i64 (Int.tmod (IntKind.wrap .u32 (Int.tdiv w 65536)) 16) = b := by rw [tdiv_pos (by omega), wrap_u32 _ (by omega) (by omega), tmod_pos (by omega), wrap_i64 _ (by omega) (by omega)]; omega
  have d3 : 0 ≤ n → IntKind.wrap .i64 (Int.tmod w 65536) = n := fun h => by rw [tmod_pos (by omega), wrap_i64 _ (by omega) (by omega)]; omega
  have hh : ref02_has sh = some (true, decide (sh ≥ 3), false) := by
    unfold ref02_has
    have e1 : decide (sh ≥ 1) = true := by simp; omega
    have e2 : decide (sh ≤ 6) = true := by simp; omega
    have e3 : decide (sh ≤ 5) = true := by simp; omega
    have e4 : (sh == 5) = false := by simp; omega
    rw [e1, e2, e3, e4, Bool.and_true, Bool.and_true]
  have en : ref02_Encode ⟨op, a, b, 0, n⟩ = some (w, 0) := by
    unfold ref02_Encode
    have ck : ref02_Check ⟨op, a, b, 0, n⟩ = some 0 := by
      unfold ref02_Check
      rw [hs, bind1_some, if_neg (by simp; omega), hh, bind3_some, if_neg]
      · unfold ref02_Check_j1 ref02_Check_j6 ref02_Check_j3 ref02_Check_j4 ref02_Check_j2
        rcases hn with ⟨rfl | rfl, h⟩ | ⟨rfl | rfl, h⟩ <;> simp <;> omega
      · have x1 : decide (a < 0) = false := by simp; omega
        have x2 : decide (a > 15) = false := by simp; omega
        have x3 : decide (b < 0) = false := by simp; omega
        have x4 : decide (b > 15) = false := by simp; omega
        by_cases h3 : sh ≥ 3
        · simp [x1, x2, x3, x4, h3] <;> omega
        · have := hb0 (by omega)
          simp [x1, x2, h3, this] <;> omega
    rw [ck, bind1_some, if_neg (by decide), hs, bind1_some, if_neg (by simp; omega)]
    have m : Int.tmod (IntKind.wrap .i64 (n + 65536)) 65536 = n % 65536 := by rw [wrap_i64 _ (by omega) (by omega), tmod_pos (by omega)]; omega
    simp only [m]
    rw [wrap_i64 (op * 16777216) (by omega) (by omega), wrap_i64 (a * 1048576) (by omega) (by omega), wrap_i64 (b * 65536) (by omega) (by omega), wrap_i64 (op * 16777216 + a * 1048576) (by omega) (by omega), wrap_i64 (op * 16777216 + a * 1048576 + b * 65536) (by omega) (by omega), wrap_i64 (op * 16777216 + a * 1048576 + b * 65536 + n % 65536) (by omega) (by omega), wrap_i64 _ (by omega) (by omega), wrap_u32 _ (by omega) (by omega)]
    congr 2; omega
  have j3 : ∀ q : T_ref02_Instr, q = ⟨op, a, b, 0, 0⟩ → decC_j3 sh w q = some (⟨op, a, b, 0, n⟩, 0) := by
    rintro _ rfl
    unfold decC_j3 decC_j4 decC_j9 decC_j6
    rcases hn with ⟨rfl | rfl, h⟩ | ⟨rfl | rfl, h⟩
    · simp only [beq_self_eq_true, if_true]
      rw [sextC16 h.1 h.2 (by omega) (by omega) (by omega), bind1_some, wrap_i64 n (by omega) (by omega)]
      unfold decC_j5
      rw [en, bind2_some, if_neg (by simp)]
    · rw [if_neg (by decide), if_pos (by decide), sextC16 h.1 h.2 (by omega) (by omega) (by omega), bind1_some, wrap_i64 n (by omega) (by omega)]
      unfold decC_j5
      rw [en, bind2_some, if_neg (by simp)]
    · rw [if_neg (by decide), if_neg (by decide), if_pos (by decide), if_pos (by decide), d3 h.1]
      unfold decC_j7 decC_j5
      rw [en, bind2_some, if_neg (by simp)]
    · rw [if_neg (by decide), if_neg (by decide), if_neg (by decide), if_pos (by decide), if_pos (by decide), d3 h.1]
      unfold decC_j7 decC_j5
      rw [en, bind2_some, if_neg (by simp)]
  unfold decC
  rw [d1, d2, hs, bind1_some, hh, bind3_some, if_pos rfl]
  unfold decC_j1 decC_j2
  by_cases h3 : sh ≥ 3
  · rw [if_pos (by simpa using h3), d4, if_neg (by decide)]
    exact j3 _ rfl
  · rw [if_neg (by simpa using h3), if_neg (by decide)]
    exact j3 _ (by rw [hb0 (by omega)])
section
variable {R : Arr 16 Int} {k n N j : Nat} {s t w : Int} {W : List Int} {P : T_ref04_Cpu → Prop}
end
end Go.Proofs.Abs
/- The document's machine with any data, any heap and any stack. -/
namespace Go.Proofs.Abs
open Go
set_option linter.unusedVariables false
set_option linter.unusedSimpArgs false
def endsG (n d h z : Nat) : Arr 5 Int := arrL [4 * (n : Int), 4 * (n : Int), 4 * (n : Int) + 4 * (d : Int), 4 * (n : Int) + 4 * (d : Int) + 4 * (h : Int), 4 * (n : Int) + 4 * (d : Int) + 4 * (h : Int) + 4 * (z : Int)]
def memG (n d h z : Nat) (W : List Int) : T_ref03_Mem := ⟨endsG n d h z, W⟩
section
variable {R : Arr 16 Int} {k n d h z L j : Nat} {s t w p : Int} {W : List Int}
theorem fetchG (hk : k < n) (hn : n ≤ 16000) (hw : W[k]? = some w) : ref03_Fetch (memG n d h z W) (4 * (k : Int)) = some (w, 0) := by
  have hl : k < W.length := (List.getElem?_eq_some_iff.1 hw).1
  unfold ref03_Fetch ref03_Load
  simp only [tmod_pos (show 0 ≤ 4 * (k : Int) by omega), tdiv_pos (show 0 ≤ 4 * (k : Int) by omega)]
  have e1 : 4 * (k : Int) % 4 = 0 := by omega
  have e2 : 4 * (k : Int) / 4 = (k : Int) := by omega
  have e3 : (memG n d h z W).Ends_.g 0 = 4 * (n : Int) := rfl
  have e4 : (memG n d h z W).W_ = W := rfl
  rw [e1, e2, e4, wrap_u32 (k : Int) (by omega) (by omega), wrap_i64 (k : Int) (by omega) (by omega), if_neg (by simp), if_neg (by simp; omega), gi_some (by omega) (by omega), bind1_some, bind2_some, e3, if_neg (by simp; omega)]
  have : W[((k : Nat) : Int).toNat]'(by simpa using hl) = w := by
    have h : W[k]'hl = w := by rw [List.getElem?_eq_getElem hl] at hw; exact Option.some.inj hw
    simpa using h
  rw [this]
theorem loadG {x : Int} (hW : W.length ≤ 20000) (hj : W[j]? = some x) : ref03_Load (memG n d h z W) (4 * (j : Int)) = some (x, 0) := by
  have hl : j < W.length := (List.getElem?_eq_some_iff.1 hj).1
  unfold ref03_Load
  simp only [tmod_pos (show 0 ≤ 4 * (j : Int) by omega), tdiv_pos (show 0 ≤ 4 * (j : Int) by omega)]
  have e1 : 4 * (j : Int) % 4 = 0 := by omega
  have e2 : 4 * (j : Int) / 4 = (j : Int) := by omega
  have e4 : (memG n d h z W).W_ = W := rfl
  rw [e1, e2, e4, wrap_u32 (j : Int) (by omega) (by omega), wrap_i64 (j : Int) (by omega) (by omega), if_neg (by simp), if_neg (by simp; omega), gi_some (by omega) (by omega), bind1_some]
  have : W[((j : Nat) : Int).toNat]'(by simpa using hl) = x := by
    have h : W[j]'hl = x := by rw [List.getElem?_eq_getElem hl] at hj; exact Option.some.inj hj
    simpa using h
  rw [this]
theorem storeG {x : Int} (hW : W.length ≤ 20000) (hj : j < W.length) (hn : n ≤ j) : ref03_Store (memG n d h z W) (4 * (j : Int)) x = some (memG n d h z (W.set j x), 0) := by
  have e1 : (memG n d h z W).Ends_.g 1 = 4 * (n : Int) := rfl
  unfold ref03_Store
  rw [loadG hW (List.getElem?_eq_getElem hj), bind2_some, if_neg (by simp), e1, if_neg (by simp; omega)]
  have e2 : IntKind.wrap .i64 (IntKind.wrap .u32 (Int.tdiv (4 * (j : Int)) 4)) = (j : Int) := by
    rw [tdiv_pos (by omega), wrap_u32 _ (by omega) (by omega), wrap_i64 _ (by omega) (by omega)]; omega
  rw [e2]
  show bind1 (ref03_with ⟨endsG n d h z, W⟩ (j : Int) [x]) _ = _
  rw [with_spec (j : Int) [x] (by omega) (by simp; omega) (by omega), bind1_some]
  have : setAt W ((j : Nat) : Int).toNat [x] = W.set j x := by
    have : ((j : Nat) : Int).toNat = j := by simp
    rw [this]
    apply List.ext_getElem?
    intro q
    simp only [setAt, List.getElem?_append, List.length_append, List.length_take, List.getElem?_take, List.getElem?_drop, List.getElem?_set, List.length_cons, List.getElem?_cons]
    grind
  rw [this]; rfl
/-- it comes to an end within so many steps, and there P holds -/
def ExG (p : Int) (P : T_ref03_Mem → T_ref04_Cpu → Prop) (t : Int) (m : T_ref03_Mem) (c : T_ref04_Cpu) : Prop := ∃ r, RunTo p t m c r ∧ P r.1 r.2
variable {P : T_ref03_Mem → T_ref04_Cpu → Prop}
theorem xg_one {x : T_ref02_Instr} {c' : T_ref04_Cpu} {m' : T_ref03_Mem} (hp : p ≤ 1000000) (ht : 0 ≤ t) (ht1 : t < p) (hw : W[k]? = some w) (hd : ref02_Decode w = some (x, 0)) (hk : k < n) (hn : n ≤ 15000)
    (h3 : ref04_do (tick (cpS R k s L)) (memG n d h z W) x = some (c', m')) (next : ExG p P (t + 1) m' c') : ExG p P t (memG n d h z W) (cpS R k s L) := by
  obtain ⟨r, e, q⟩ := next
  exact ⟨r, run_go ht ht1 hp rfl (step_spec rfl (fetchG hk (by omega) hw) hd h3) e, q⟩
theorem xg_end {m : T_ref03_Mem} {c : T_ref04_Cpu} (h : c.State_ ≠ 0) (q : P m c) : ExG p P t m c := ⟨(m, c), run_end h, q⟩
end
theorem setAt_rep {A l : List Int} {a b : Nat} (h : l.length = a) : setAt (A ++ List.replicate (a + b) 0) A.length l = A ++ l ++ List.replicate b 0 := by
  unfold setAt
  rw [List.take_left' rfl, List.drop_append, List.drop_eq_nil_of_le (by omega), List.nil_append, List.drop_replicate]
  congr 2; omega
theorem runG_spec {ws dt st : List Int} {h : Nat} (hl : ws.length + dt.length + h + st.length ≤ 19000) {R : Arr 16 Int} {p : Int} {r : T_ref03_Mem × T_ref04_Cpu}
    (H : RunTo p 0 (memG ws.length dt.length h st.length (ws ++ dt ++ List.replicate h 0 ++ st)) (cpS R 1 0 (ws.length + dt.length + h)) r) : ref19_Run ws dt (4 * (h : Int)) st R p = some (r.2, r.1) := by
  obtain ⟨n, hn⟩ : ∃ n, n = ws.length := ⟨_, rfl⟩
  obtain ⟨d, hd⟩ : ∃ d, d = dt.length := ⟨_, rfl⟩
  obtain ⟨z, hz⟩ : ∃ z, z = st.length := ⟨_, rfl⟩
  rw [← hn, ← hd, ← hz] at H hl
  have wn : ∀ a : Nat, a ≤ 19000 → IntKind.wrap .u32 (IntKind.wrap .i64 (4 * (a : Int))) = 4 * (a : Int) := fun a ha => by rw [wrap_i64 _ (by omega) (by omega)]; exact wrap_u32 _ (by omega) (by omega)
  have wh : IntKind.wrap .u32 (4 * (h : Int)) = 4 * (h : Int) := wrap_u32 _ (by omega) (by omega)
  have w3 : IntKind.wrap .u32 (4 * (n : Int) + 4 * (d : Int)) = 4 * (n : Int) + 4 * (d : Int) := wrap_u32 _ (by omega) (by omega)
  have w4 : IntKind.wrap .u32 (4 * (n : Int) + 4 * (d : Int) + 4 * (h : Int)) = 4 * (n : Int) + 4 * (d : Int) + 4 * (h : Int) := wrap_u32 _ (by omega) (by omega)
  have w5 : IntKind.wrap .u32 (4 * (n : Int) + 4 * (d : Int) + 4 * (h : Int) + 4 * (z : Int)) = 4 * (n : Int) + 4 * (d : Int) + 4 * (h : Int) + 4 * (z : Int) := wrap_u32 _ (by omega) (by omega)
  have hk2 : mks 4 ((n + (d + (h + z)) : Nat) : Int) ((n + (d + (h + z)) : Nat) : Int) (0 : Int) = some (List.replicate (n + (d + (h + z))) 0) := by
    unfold mks
    rw [if_pos ⟨by omega, by omega, by have := room_bigR; omega, by omega⟩]
    have : ((n + (d + (h + z)) : Nat) : Int).toNat = n + (d + (h + z)) := by omega
    rw [this]
  have f1 : ref03_Fill ⟨endsG n d h z, List.replicate (n + (d + (h + z))) 0⟩ 0 ws = some (⟨endsG n d h z, ws ++ List.replicate (d + (h + z)) 0⟩, 0) := by
    have e : ref03_Fill ⟨endsG n d h z, List.replicate (n + (d + (h + z))) 0⟩ (4 * ((0 : Nat) : Int)) ws = _ := fill_spec 0 (by simp; omega) (by simp; omega)
    refine Eq.trans e ?_
    have := setAt_rep (A := []) (l := ws) (b := d + (h + z)) hn.symm
    rw [List.nil_append, List.nil_append] at this
    rw [show (0 : Nat) = ([] : List Int).length from rfl, this]
  have f2 : ref03_Fill ⟨endsG n d h z, ws ++ List.replicate (d + (h + z)) 0⟩ (4 * (n : Int)) dt = some (⟨endsG n d h z, ws ++ dt ++ List.replicate (h + z) 0⟩, 0) := by
    rw [fill_spec n (by simp; omega) (by simp; omega), hn, setAt_rep hd.symm]
  have f3 : ref03_Fill ⟨endsG n d h z, ws ++ dt ++ List.replicate (h + z) 0⟩ (4 * (n : Int) + 4 * (d : Int) + 4 * (h : Int)) st = some (⟨endsG n d h z, ws ++ dt ++ List.replicate h 0 ++ st⟩, 0) := by
    have e : 4 * (n : Int) + 4 * (d : Int) + 4 * (h : Int) = 4 * ((n + d + h : Nat) : Int) := by omega
    rw [e, fill_spec (n + d + h) (by simp; omega) (by simp; omega), ← List.replicate_append_replicate, ← List.append_assoc]
    have := setAt_rep (A := ws ++ dt ++ List.replicate h 0) (l := st) (b := 0) hz.symm
    rw [show (ws ++ dt ++ List.replicate h (0 : Int)).length = n + d + h by simp; omega, Nat.add_zero] at this
    rw [this]; simp
  have g4 : (endsG n d h z).g 4 = 4 * (n : Int) + 4 * (d : Int) + 4 * (h : Int) + 4 * (z : Int) := rfl
  have w9 : IntKind.wrap .u32 (Int.tdiv (4 * (n : Int) + 4 * (d : Int) + 4 * (h : Int) + 4 * (z : Int)) 4) = ((n + (d + (h + z)) : Nat) : Int) := by rw [tdiv_pos (by omega), wrap_u32 _ (by omega) (by omega)]; omega
  have e3 : IntKind.wrap .u32 (IntKind.wrap .u32 (IntKind.wrap .i64 (4 * (n : Int))) + IntKind.wrap .u32 (IntKind.wrap .i64 (4 * (d : Int)))) = 4 * (n : Int) + 4 * (d : Int) := by rw [wn n (by omega), wn d (by omega), w3]
  have e4 : IntKind.wrap .u32 (IntKind.wrap .u32 (IntKind.wrap .u32 (IntKind.wrap .i64 (4 * (n : Int))) + IntKind.wrap .u32 (IntKind.wrap .i64 (4 * (d : Int)))) + IntKind.wrap .u32 (4 * (h : Int))) = 4 * (n : Int) + 4 * (d : Int) + 4 * (h : Int) := by rw [e3, wh, w4]
  have e5 : IntKind.wrap .u32 (IntKind.wrap .u32 (IntKind.wrap .u32 (IntKind.wrap .u32 (IntKind.wrap .i64 (4 * (n : Int))) + IntKind.wrap .u32 (IntKind.wrap .i64 (4 * (d : Int)))) + IntKind.wrap .u32 (4 * (h : Int))) + IntKind.wrap .u32 (IntKind.wrap .i64 (4 * (z : Int)))) = 4 * (n : Int) + 4 * (d : Int) + 4 * (h : Int) + 4 * (z : Int) := by rw [e4, wn z (by omega), w5]
  unfold ref19_Run
  rw [← hn, ← hd, ← hz, arr5 (wn n (by omega)) (wn n (by omega)) e3 e4 e5]
  simp only [wn n (by omega), wn d (by omega), wn z (by omega), wh, w3, w4, w5]
  show bind1 (ref03_New (endsG n d h z)) _ = _
  unfold ref03_New
  rw [g4, w9, hk2, bind1_some, bind1_some, f1, bind2_some, f2, bind2_some, f3, bind2_some]
  have c0 : (T_ref04_Cpu.mk R 4 0 0 0 0 0 0 ([] : List T_api_Event) 4 0 4 (4 * (n : Int) + 4 * (d : Int) + 4 * (h : Int)) ([] : List Int)) = cpS R 1 0 (n + d + h) := by
    unfold cpS
    have e : 4 * (n : Int) + 4 * (d : Int) + 4 * (h : Int) = 4 * ((n + d + h : Nat) : Int) := by omega
    rw [e]; rfl
  rw [c0]
  have h' : loopO (fun (x : Int × T_ref03_Mem × T_ref04_Cpu) => ref19_Run_L1 p x.1 x.2.1 x.2.2) (0, memG n d h z (ws ++ dt ++ List.replicate h 0 ++ st), cpS R 1 0 (n + d + h)) = some r := H
  show bind1 (loopO (fun (x : Int × T_ref03_Mem × T_ref04_Cpu) => ref19_Run_L1 p x.1 x.2.1 x.2.2) (0, memG n d h z (ws ++ dt ++ List.replicate h 0 ++ st), cpS R 1 0 (n + d + h))) _ = _
  rw [h', bind1_some]
  rfl
end Go.Proofs.Abs
/- Printed by gen (walk.py). -/
namespace Go.Proofs.Abs
open Go Go.Proofs
set_option linter.unusedVariables false
set_option maxRecDepth 100000
set_option maxHeartbeats 0
/-- the statement, in plain Lean -/
def ItemCellsPure : Prop := ∀ (p0 : (List Int)) (p1 : Int), (fun xs => (∀ x, x ∈ xs → (fun n => (Lit.int .u16 n).wf = true) x) ∧ xs.length ≤ maxLen) p0 → (fun n => (Lit.int .u16 n).wf = true) p1 → ∃ Hr, law19_ItemCells [] p0 p1 = some (Hr, true)
end Go.Proofs.Abs
/- Cells: what is written for each, and what is patched. -/
namespace Go.Proofs.Abs
open Go
set_option linter.unusedVariables false
set_option linter.unusedSimpArgs false
/-- the words of one cell: as they are written; and as they are patched -/
def cellU (z : Int) : List Int := [50331648, 67108864, 100663292, 319750144, 51380224, 68222976, 302055424, 305201156, 35651584 + z, 102760450, 255983619, 356515841, 469762054, 320929792, 304021504, 100597764, 318832640]
def cellP (a hp z : Int) : List Int := [50331648, 67108864 + a, 100663292, 319750144, 51380224, 68222976 + hp, 302055424, 305201156, 35651584 + z, 102760450, 255983619, 356515841, 469762054, 320929792, 304021504, 100597764, 318832640]
def allU : List Int → List Int
  | [] => []
  | z :: zs => cellU z ++ allU zs
def allP (hp : Int) : Int → List Int → List Int
  | _, [] => []
  | a, z :: zs => cellP a hp z ++ allP hp (a + 4) zs
def allF : Nat → List Int → List T_api_Fixup
  | _, [] => []
  | i, z :: zs => ⟨((17 * i + 1 : Nat) : Int), 1, 0, 4 * (i : Int)⟩ :: ⟨((17 * i + 5 : Nat) : Int), 4, 0, 0⟩ :: allF (i + 1) zs
theorem allU_len : ∀ l : List Int, (allU l).length = 17 * l.length
  | [] => rfl
  | z :: l => by simp [allU, cellU, allU_len l]; omega
theorem allP_len (hp : Int) : ∀ (a : Int) (l : List Int), (allP hp a l).length = 17 * l.length
  | _, [] => rfl
  | a, z :: l => by simp [allP, cellP, allP_len hp (a + 4) l]; omega
theorem allF_len : ∀ (i : Nat) (l : List Int), (allF i l).length = 2 * l.length
  | _, [] => rfl
  | i, z :: l => by simp [allF, allF_len (i + 1) l]; omega
section
variable {H : Heap} {i g : Nat} {ws : List Int} {d m e L : Int} {Pr : T_item_Proc} {fx : List T_api_Fixup}
theorem fix_gn {kind module value a w1 w2 : Int} (G : Gn H i g (D ws d m e fx) L Pr) (hk : kind ≠ 3) (e1 : instr_Encode ⟨3, a, 0, 0, 0⟩ = some (w1, 0)) (e2 : instr_Encode ⟨4, a, a, 0, 0⟩ = some (w2, 0)) (hl : ws.length < 16000) (hf : fx.length < 1000) :
    ∃ H', emit_Code_Fix H (.at i 0) kind module value a = some H' ∧ Gn H' i g (D (ws ++ [w1, w2]) d m e (fx ++ [⟨(ws.length : Int), kind, module, value⟩])) L Pr := by
  obtain ⟨f2, hf2⟩ : ∃ f2, f2 = fx ++ [⟨(ws.length : Int), kind, module, value⟩] := ⟨_, rfl⟩
  have G1 := G.set (D ws d m e f2)
  obtain ⟨H2, r1, G2⟩ := put_gn G1 e1 (show ws.length < 16384 by omega)
  obtain ⟨H3, r2, G3⟩ := put_gn G2 e2 (show (ws ++ [w1]).length < 16384 by simp; omega)
  have k : addW (addW (D ws d m e f2) w1) w2 = D (ws ++ [w1, w2]) d m e f2 := by simp [addW, D]
  rw [k] at G3
  refine ⟨H3, ?_, by rw [← hf2]; exact G3⟩
  unfold emit_Code_Fix
  rw [pbnd_at, G.code, bind1_some]
  show bind1 (app 32 fx [⟨(ws.length : Int), kind, module, value⟩]) _ = _
  rw [app_some (by simp; omega), bind1_some, ← hf2, bnd_def, if_neg (by simpa using hk)]
  show bind2 (emit_Code_Put (set_emit_Code H i 0 (D ws d m e f2)) (.at i 0) _) _ = _
  rw [r1, bind2_some, r2]; rfl
theorem land_gn {at_ : Nat} {w w' : Int} {x : T_instr_Instr} (G : Gn H i g (D ws d m e fx) L Pr) (hl : ws.length < 16000) (hw : ws[at_]? = some w) (hd : instr_Decode w = some (x, 0)) (he : instr_Encode ⟨x.Op_, x.A_, x.B_, x.C_, (ws.length : Int) - at_ - 1⟩ = some (w', 0)) :
    ∃ H', emit_Code_Land H (.at i 0) (at_ : Int) = some H' ∧ Gn H' i g (D (ws.set at_ w') d m e fx) L Pr := by
  have ha : at_ < ws.length := (List.getElem?_eq_some_iff.1 hw).1
  have hr : emit_Code_Here H (.at i 0) = some (ws.length : Int) := by
    unfold emit_Code_Here
    rw [pbnd_at, G.code]; rfl
  have gw : gi ws (at_ : Int) = some w := by
    rw [gi_some (by omega) (by omega)]
    obtain ⟨v1, v2⟩ := List.getElem?_eq_some_iff.1 hw
    have : ((at_ : Nat) : Int).toNat = at_ := by simp
    simp only [this, v2]
  have wn : IntKind.wrap .i64 (IntKind.wrap .i64 ((ws.length : Int) - (at_ : Int)) - 1) = (ws.length : Int) - at_ - 1 := by rw [wrap_i64 ((ws.length : Int) - (at_ : Int)) (by omega) (by omega), wrap_i64 _ (by omega) (by omega)]
  have G1 := G.set (D (ws.set at_ w') d m e fx)
  refine ⟨_, ?_, G1⟩
  unfold emit_Code_Land emit_Code_set
  rw [hr, bind1_some, wn, if_neg (by simp), pbnd_at, G.code, bind1_some, bind2_some, if_neg (by simp [D]; omega), pbnd_at, G.code, bind1_some]
  show bind1 (bind1 (gi ws (at_ : Int)) _) _ = _
  rw [gw, bind1_some, hd, bind2_some, he, bind2_some, if_neg (by simp)]
  show bind1 (bind1 (gi ws (at_ : Int)) _) _ = _
  rw [gw, bind1_some]
  show bind1 (bind1 (si ws (at_ : Int) w') _) _ = _
  rw [si_some (by omega) (by omega), bind1_some, bnd_def, bind1_some]
  have : ((at_ : Nat) : Int).toNat = at_ := by simp
  rw [this]; rfl
end
theorem enc_u0 : instr_Encode ⟨3, 0, 0, 0, 0⟩ = some (50331648, 0) := by kernel_rfl
theorem enc_o0 : instr_Encode ⟨4, 0, 0, 0, 0⟩ = some (67108864, 0) := by kernel_rfl
theorem enc_u1 : instr_Encode ⟨3, 1, 0, 0, 0⟩ = some (51380224, 0) := by kernel_rfl
theorem enc_o1 : instr_Encode ⟨4, 1, 1, 0, 0⟩ = some (68222976, 0) := by kernel_rfl
theorem enc_c1 : instr_Encode ⟨18, 0, 1, 0, 0⟩ = some (302055424, 0) := by kernel_rfl
theorem enc_c2 : instr_Encode ⟨18, 3, 1, 0, 4⟩ = some (305201156, 0) := by kernel_rfl
theorem enc_c3 : instr_Encode ⟨6, 2, 0, 2, 0⟩ = some (102760450, 0) := by kernel_rfl
theorem enc_c4 : instr_Encode ⟨15, 4, 2, 3, 0⟩ = some (255983619, 0) := by kernel_rfl
theorem enc_c5 : instr_Encode ⟨21, 4, 0, 0, 0⟩ = some (356515840, 0) := by kernel_rfl
theorem idec_c5 : instr_Decode 356515840 = some (⟨21, 4, 0, 0, 0⟩, 0) := by kernel_rfl
theorem enc_c6 : instr_Encode ⟨21, 4, 0, 0, 1⟩ = some (356515841, 0) := by kernel_rfl
theorem enc_c7 : instr_Encode ⟨28, 0, 0, 0, 6⟩ = some (469762054, 0) := by kernel_rfl
theorem enc_c8 : instr_Encode ⟨19, 2, 1, 0, 0⟩ = some (320929792, 0) := by kernel_rfl
theorem enc_c9 : instr_Encode ⟨19, 0, 1, 0, 0⟩ = some (318832640, 0) := by kernel_rfl
section
variable {H : Heap} {i g : Nat} {ws : List Int} {d m e L : Int} {Pr : T_item_Proc} {fx : List T_api_Fixup}
theorem cell_gn {p z : Int} (G : Gn H i g (D ws d m e fx) L Pr) (hz : z = (if 4 > p then 4 else p)) (z1 : z < 3000) (hl : ws.length < 10000) (hf : fx.length < 900) (h0 : 0 ≤ d) (h1 : d < 1000) :
    ∃ H', item_Gen_Cell H (.at g 0) p = some H' ∧ Gn H' i g (D (ws ++ [51380224, 68222976, 302055424, 305201156, 35651584 + z, 102760450, 255983619, 356515841, 469762054, 320929792, 304021504, 100597764, 318832640]) (if d - 1 > 0 then d - 1 else 0) m e (fx ++ [⟨(ws.length : Int), 4, 0, 0⟩])) L Pr := by
  have z0 : 4 ≤ z := by rw [hz]; split <;> omega
  obtain ⟨H1, e1, G1⟩ := fix_gn (kind := 4) (module := 0) (value := 0) G (by decide) enc_u1 enc_o1 (by omega) (by omega)
  obtain ⟨f2, hf2⟩ : ∃ f2, f2 = fx ++ [⟨(ws.length : Int), 4, 0, 0⟩] := ⟨_, rfl⟩
  rw [← hf2] at G1 ⊢
  obtain ⟨H2, e2, G2⟩ := sign_gn G1 enc_c1 (show (ws ++ [51380224, 68222976]).length < 16384 by simp; omega)
  have G2 : Gn H2 i g (D (ws ++ [51380224, 68222976, 302055424]) d m e f2) L Pr := by
    have k : addW (D (ws ++ [51380224, 68222976]) d m e f2) 302055424 = D (ws ++ [51380224, 68222976, 302055424]) d m e f2 := by simp [addW, D]
    rw [← k]; exact G2
  obtain ⟨H3, e3, G3⟩ := sign_gn G2 enc_c2 (show (ws ++ [51380224, 68222976, 302055424]).length < 16384 by simp; omega)
  have G3 : Gn H3 i g (D (ws ++ [51380224, 68222976, 302055424, 305201156]) d m e f2) L Pr := by
    have k : addW (D (ws ++ [51380224, 68222976, 302055424]) d m e f2) 305201156 = D (ws ++ [51380224, 68222976, 302055424, 305201156]) d m e f2 := by simp [addW, D]
    rw [← k]; exact G3
  have hn : numW 2 (IntKind.wrap .i32 z) = some [35651584 + z] := by
    unfold numW
    have := enc_gen (op := 2) (a := 2) (b := 0) (n := z) (sh := 1) (by kernel_rfl) (.inl ⟨.inl rfl, by omega, by omega⟩) (by decide) (by decide) (by decide) (by decide) (by decide) (by decide) (fun _ => rfl)
    rw [wrap_i32 z (by omega) (by omega), fits16 (by omega) (by omega), bind1_some, decide_eq_true ⟨by omega, by omega⟩, if_pos rfl, wrap_i64 z (by omega) (by omega), this, bind2_some, if_pos rfl]
    congr 2; omega
  obtain ⟨H4, e4, G4⟩ := number_gn G3 hn (by simp; omega)
  obtain ⟨H5, e5, G5⟩ := three_gn G4 enc_c3 (show (ws ++ [51380224, 68222976, 302055424, 305201156] ++ [35651584 + z]).length < 16384 by simp; omega)
  obtain ⟨H6, e6, G6⟩ := three_gn G5 enc_c4 (show (ws ++ [51380224, 68222976, 302055424, 305201156] ++ [35651584 + z] ++ [102760450]).length < 16384 by simp; omega)
  have G6 : Gn H6 i g (D (ws ++ [51380224, 68222976, 302055424, 305201156, 35651584 + z, 102760450, 255983619]) d m e f2) L Pr := by
    have k : addW (addW (D (ws ++ [51380224, 68222976, 302055424, 305201156] ++ [35651584 + z]) d m e f2) 102760450) 255983619 = D (ws ++ [51380224, 68222976, 302055424, 305201156, 35651584 + z, 102760450, 255983619]) d m e f2 := by simp [addW, D]
    rw [← k]; exact G6
  obtain ⟨H7, e7, G7⟩ := put_gn G6 enc_c5 (show (ws ++ [51380224, 68222976, 302055424, 305201156, 35651584 + z, 102760450, 255983619]).length < 16384 by simp; omega)
  have e7 : emit_Code_Put H6 (.at i 0) ⟨21, 4, 0, 0, 0⟩ = some (H7, ((ws.length + 7 : Nat) : Int)) := by rw [e7]; simp [D]
  obtain ⟨H8, e8, G8⟩ := put_gn G7 enc_c7 (show (ws ++ [51380224, 68222976, 302055424, 305201156, 35651584 + z, 102760450, 255983619] ++ [356515840]).length < 16384 by simp; omega)
  have G8 : Gn H8 i g (D (ws ++ [51380224, 68222976, 302055424, 305201156, 35651584 + z, 102760450, 255983619, 356515840, 469762054]) d m e f2) L Pr := by
    have k : addW (addW (D (ws ++ [51380224, 68222976, 302055424, 305201156, 35651584 + z, 102760450, 255983619]) d m e f2) 356515840) 469762054 = D (ws ++ [51380224, 68222976, 302055424, 305201156, 35651584 + z, 102760450, 255983619, 356515840, 469762054]) d m e f2 := by simp [addW, D]
    rw [← k]; exact G8
  obtain ⟨H9, e9, G9⟩ := land_gn (at_ := ws.length + 7) (w' := 356515841) G8 (by simp; omega) (by rw [List.getElem?_append_right (by omega), show ws.length + 7 - ws.length = 7 by omega]; rfl) idec_c5 (by
    have : (((ws ++ [51380224, 68222976, 302055424, 305201156, 35651584 + z, 102760450, 255983619, 356515840, 469762054]).length : Nat) : Int) - ((ws.length + 7 : Nat) : Int) - 1 = 1 := by simp; omega
    rw [this]; exact enc_c6)
  have G9 : Gn H9 i g (D (ws ++ [51380224, 68222976, 302055424, 305201156, 35651584 + z, 102760450, 255983619, 356515841, 469762054]) d m e f2) L Pr := by
    have k : (ws ++ [51380224, 68222976, 302055424, 305201156, 35651584 + z, 102760450, 255983619, 356515840, 469762054]).set (ws.length + 7) 356515841 = ws ++ [51380224, 68222976, 302055424, 305201156, 35651584 + z, 102760450, 255983619, 356515841, 469762054] := by
      rw [List.set_append_right _ _ (by omega), show ws.length + 7 - ws.length = 7 by omega]; rfl
    rw [← k]; exact G9
  obtain ⟨H10, e10, G10⟩ := sign_gn G9 enc_c8 (show (ws ++ [51380224, 68222976, 302055424, 305201156, 35651584 + z, 102760450, 255983619, 356515841, 469762054]).length < 16384 by simp; omega)
  have G10 : Gn H10 i g (D (ws ++ [51380224, 68222976, 302055424, 305201156, 35651584 + z, 102760450, 255983619, 356515841, 469762054] ++ [320929792]) d m e f2) L Pr := G10
  obtain ⟨H11, e11, G11⟩ := pop_gn G10 enc_ld1 (by simp; omega) h0 h1
  obtain ⟨H12, e12, G12⟩ := sign_gn G11 enc_c9 (show (ws ++ [51380224, 68222976, 302055424, 305201156, 35651584 + z, 102760450, 255983619, 356515841, 469762054] ++ [320929792] ++ [304021504, 100597764]).length < 16384 by simp; omega)
  have st : item_Gen_Store H10 (.at g 0) = some H12 := by
    unfold item_Gen_Store
    rw [pbnd_at, G10.gen, bind1_some]
    show bind1 (emit_Code_Pop H10 (.at i 0) 1) _ = _
    rw [e11, bind1_some, G11.gen, bind1_some]
    show bind2 (emit_Code_Sign H11 (.at i 0) 19 0 1 0) _ = _
    rw [e12]; rfl
  refine ⟨H12, ?_, ?_⟩
  · unfold item_Gen_Cell
    rw [pbnd_at, G.gen, bind1_some]
    show bind1 (emit_Code_Fix H (.at i 0) 4 0 0 1) _ = _
    rw [e1, bind1_some, G1.gen, bind1_some]
    show bind2 (emit_Code_Sign H1 (.at i 0) 18 0 1 0) _ = _
    rw [e2, bind2_some, G2.gen, bind1_some]
    show bind2 (emit_Code_Sign H2 (.at i 0) 18 3 1 4) _ = _
    rw [e3, bind2_some, G3.gen, bind1_some, ← hz]
    show bind1 (emit_Code_Number H3 (.at i 0) 2 (IntKind.wrap .i32 z)) _ = _
    rw [e4, bind1_some, G4.gen, bind1_some]
    show bind2 (emit_Code_Three H4 (.at i 0) 6 2 0 2) _ = _
    rw [e5, bind2_some, G5.gen, bind1_some]
    show bind2 (emit_Code_Three H5 (.at i 0) 15 4 2 3) _ = _
    rw [e6, bind2_some, G6.gen, bind1_some]
    have ej : emit_Code_Jump H6 (.at i 0) 21 4 = some (H7, ((ws.length + 7 : Nat) : Int)) := by unfold emit_Code_Jump; rw [e7]; rfl
    show bind2 (emit_Code_Jump H6 (.at i 0) 21 4) _ = _
    rw [ej, bind2_some, G7.gen, bind1_some]
    show bind2 (emit_Code_Put H7 (.at i 0) _) _ = _
    rw [e8, bind2_some, G8.gen, bind1_some]
    show bind1 (emit_Code_Land H8 (.at i 0) _) _ = _
    rw [e9, bind1_some, G9.gen, bind1_some]
    show bind2 (emit_Code_Sign H9 (.at i 0) 19 2 1 0) _ = _
    rw [e10, bind2_some, st]; rfl
  · have k : ∀ x, addW (D (ws ++ [51380224, 68222976, 302055424, 305201156, 35651584 + z, 102760450, 255983619, 356515841, 469762054] ++ [320929792] ++ [304021504, 100597764]) x m e f2) 318832640 = D (ws ++ [51380224, 68222976, 302055424, 305201156, 35651584 + z, 102760450, 255983619, 356515841, 469762054, 320929792, 304021504, 100597764, 318832640]) x m e f2 := fun x => by simp [addW, D]
    rw [← k]; exact G12
end
end Go.Proofs.Abs
/- Cells: what the machine does for each. -/
namespace Go.Proofs.Abs
open Go
set_option linter.unusedVariables false
set_option linter.unusedSimpArgs false
section
variable {R : Arr 16 Int} {k n d h z L : Nat} {s t p : Int} {W : List Int} {P : T_ref03_Mem → T_ref04_Cpu → Prop}
theorem do_bnz_go {a v : Nat} {m : T_ref03_Mem} (ha : a < 16) (hk : k < 14000) (hv : v < 500) (hr : R.g a ≠ 0) :
    ref04_do (tick (cpS R k s n)) m ⟨21, a, 0, 0, (v : Int)⟩ = some (cpS R (k + 1 + v) (IntKind.wrap .i64 (s + 1)) n, m) := by
  unfold ref04_do
  show bind1 (ga R a) _ = _
  rw [ga_g ha, bind1_some]
  show bind1 (ga R ((0 : Nat) : Int)) _ = _
  rw [ga_g (by omega), bind1_some, if_neg (by simp), if_neg (by simp), if_neg (by simp), if_neg (by simp), if_neg (by simp), if_neg (by simp), if_neg (by simp), if_neg (by simp), if_neg (by simp), if_neg (by simp), if_pos (by simp), if_pos (by simpa using hr)]
  unfold ref04_do_j11 ref04_do_j10 ref04_do_j8 ref04_do_j7 ref04_do_j6 ref04_do_j5 ref04_do_j4 ref04_do_j3 ref04_do_j2 ref04_do_j1
  show some ((⟨_, IntKind.wrap .u32 (IntKind.wrap .u32 (4 * (k : Int) + 4) + IntKind.wrap .u32 (4 * IntKind.wrap .u32 (v : Int))), _, _, _, _, _, _, _, _, _, _, _, _⟩ : T_ref04_Cpu), m) = _
  have : IntKind.wrap .u32 (IntKind.wrap .u32 (4 * (k : Int) + 4) + IntKind.wrap .u32 (4 * IntKind.wrap .u32 (v : Int))) = 4 * ((k + 1 + v : Nat) : Int) := by
    rw [wrap_u32 (v : Int) (by omega) (by omega), wrap_u32 (4 * (k : Int) + 4) (by omega) (by omega), wrap_u32 (4 * (v : Int)) (by omega) (by omega), wrap_u32 _ (by omega) (by omega)]; omega
  rw [this]; rfl
theorem do_bnz_no {a : Nat} {v : Int} {m : T_ref03_Mem} (ha : a < 16) (hk : k < 14000) (hr : R.g a = 0) :
    ref04_do (tick (cpS R k s n)) m ⟨21, a, 0, 0, v⟩ = some (cpS R (k + 1) (IntKind.wrap .i64 (s + 1)) n, m) := by
  unfold ref04_do
  show bind1 (ga R a) _ = _
  rw [ga_g ha, bind1_some]
  show bind1 (ga R ((0 : Nat) : Int)) _ = _
  rw [ga_g (by omega), bind1_some, if_neg (by simp), if_neg (by simp), if_neg (by simp), if_neg (by simp), if_neg (by simp), if_neg (by simp), if_neg (by simp), if_neg (by simp), if_neg (by simp), if_neg (by simp), if_pos (by simp), if_neg (by simpa using hr)]
  unfold ref04_do_j11 ref04_do_j10 ref04_do_j8 ref04_do_j7 ref04_do_j6 ref04_do_j5 ref04_do_j4 ref04_do_j3 ref04_do_j2 ref04_do_j1
  show some ((⟨_, IntKind.wrap .u32 (4 * (k : Int) + 4), _, _, _, _, _, _, _, _, _, _, _, _⟩ : T_ref04_Cpu), m) = _
  rw [pc_next (by omega)]; rfl
theorem do_trap {v : Int} {m : T_ref03_Mem} (hk : 1 ≤ k) (v0 : 0 ≤ v) (v1 : v < 65536) :
    ref04_do (tick (cpS R k s n)) m ⟨28, 0, 0, 0, v⟩ = some (cpE R 0 (IntKind.wrap .i64 (s + 1)) n (4 * (k : Int)) v 0, m) := by
  have ev : IntKind.wrap .u32 v = v := wrap_u32 _ v0 (by omega)
  unfold ref04_do
  show bind1 (ga R ((0 : Nat) : Int)) _ = _
  rw [ga_g (by omega), bind1_some]
  show bind1 (ga R ((0 : Nat) : Int)) _ = _
  rw [ga_g (by omega), bind1_some, if_neg (by simp), if_neg (by simp), if_neg (by simp), if_neg (by simp), if_neg (by simp), if_neg (by simp), if_neg (by simp), if_neg (by simp), if_neg (by simp), if_neg (by simp), if_neg (by simp), if_neg (by simp), if_neg (by simp)]
  unfold ref04_others
  rw [if_neg (by simp), if_neg (by simp), if_neg (by simp), if_neg (by simp), if_pos (by simp)]
  unfold ref04_trap
  show bind1 (bind1 (if decide (4 * (k : Int) < 4) = true then _ else _) _) _ = _
  rw [if_neg (by simp; omega), bind1_some, bind1_some]
  show some ((⟨_, _, _, IntKind.wrap .u32 v, _, _, _, _, _, _, _, _, _, _⟩ : T_ref04_Cpu), m) = _
  rw [ev]; rfl
theorem xg_trap {epc ca : Int} (hp : p ≤ 1000000) (ht : 0 ≤ t) (ht1 : t < p) (hw : W[0]? = some 16777216) (hn0 : 0 < n) (hn : n ≤ 15000) (q : ∀ s', P (memG n d h z W) (cpE R 0 s' L epc ca 1)) : ExG p P t (memG n d h z W) (cpE R 0 s L epc ca 0) := by
  refine ⟨(memG n d h z W, cpE R 0 (IntKind.wrap .i64 (s + 1)) L epc ca 1), run_go ht ht1 hp rfl (step_spec rfl (fetchG (k := 0) hn0 (by omega) hw) dec_halt ?_) (run_end (show (1 : Int) ≠ 0 by decide)), q _⟩
  unfold ref04_do
  show bind1 (ga R ((0 : Nat) : Int)) _ = _
  rw [ga_g (by omega), bind1_some]
  show bind1 (ga R ((0 : Nat) : Int)) _ = _
  rw [ga_g (by omega), bind1_some, if_neg (by simp), if_pos (by simp)]
  rfl
end
theorem dec_u0 : ref02_Decode 50331648 = some (⟨3, 0, 0, 0, 0⟩, 0) := by rw [decC_eq]; kernel_rfl
theorem dec_u1 : ref02_Decode 51380224 = some (⟨3, 1, 0, 0, 0⟩, 0) := by rw [decC_eq]; kernel_rfl
theorem dec_c1 : ref02_Decode 302055424 = some (⟨18, 0, 1, 0, 0⟩, 0) := by rw [decC_eq]; kernel_rfl
theorem dec_c2 : ref02_Decode 305201156 = some (⟨18, 3, 1, 0, 4⟩, 0) := by rw [decC_eq]; kernel_rfl
theorem dec_c3 : ref02_Decode 102760450 = some (⟨6, 2, 0, 2, 0⟩, 0) := by rw [decC_eq]; kernel_rfl
theorem dec_c4 : ref02_Decode 255983619 = some (⟨15, 4, 2, 3, 0⟩, 0) := by rw [decC_eq]; kernel_rfl
theorem dec_c6 : ref02_Decode 356515841 = some (⟨21, 4, 0, 0, 1⟩, 0) := by rw [decC_eq]; kernel_rfl
theorem dec_c7 : ref02_Decode 469762054 = some (⟨28, 0, 0, 0, 6⟩, 0) := by rw [decC_eq]; kernel_rfl
theorem dec_c8 : ref02_Decode 320929792 = some (⟨19, 2, 1, 0, 0⟩, 0) := by rw [decC_eq]; kernel_rfl
theorem dec_c9 : ref02_Decode 318832640 = some (⟨19, 0, 1, 0, 0⟩, 0) := by rw [decC_eq]; kernel_rfl
theorem dec_o0 {a : Int} (a0 : 0 ≤ a) (a1 : a < 65536) : ref02_Decode (67108864 + a) = some (⟨4, 0, 0, 0, a⟩, 0) := by
  have := dec_gen (op := 4) (a := 0) (b := 0) (n := a) (sh := 4) (by kernel_rfl) (.inr ⟨.inr rfl, a0, a1⟩) (by decide) (by decide) (by decide) (by decide) (by decide) (by decide) (fun _ => rfl)
  rw [← this]; congr 1; omega
theorem dec_o1 {a : Int} (a0 : 0 ≤ a) (a1 : a < 65536) : ref02_Decode (68222976 + a) = some (⟨4, 1, 1, 0, a⟩, 0) := by
  have := dec_gen (op := 4) (a := 1) (b := 1) (n := a) (sh := 4) (by kernel_rfl) (.inr ⟨.inr rfl, a0, a1⟩) (by decide) (by decide) (by decide) (by decide) (by decide) (by decide) (fun h => by omega)
  rw [← this]; congr 1; omega
theorem dec_l2 {a : Int} (a0 : 0 ≤ a) (a1 : a < 3000) : ref02_Decode (35651584 + a) = some (⟨2, 2, 0, 0, a⟩, 0) := by
  have := dec_gen (op := 2) (a := 2) (b := 0) (n := a) (sh := 1) (by kernel_rfl) (.inl ⟨.inl rfl, by omega, by omega⟩) (by decide) (by decide) (by decide) (by decide) (by decide) (by decide) (fun _ => rfl)
  rw [← this]; congr 1; omega
theorem or_0 {a : Int} (a0 : 0 ≤ a) (a1 : a < 65536) : bitsOf .or .u32 0 (IntKind.wrap .u32 a) = a := by
  have := or_part 16 0 a (by decide) a0 (by omega) (by omega)
  rw [wrap_u32 a a0 (by omega)]
  rw [Int.zero_mul, Int.zero_add] at this; exact this
/-- a list of words that stay -/
theorem sits_set {W : List Int} {k j N : Nat} {l : List Int} {v : Int} (h : Sits W k l) (hk : k + l.length ≤ N) (hj : N ≤ j) : Sits (W.set j v) k l := fun q x hq => by
  have := (List.getElem?_eq_some_iff.1 hq).1
  rw [List.getElem?_set_ne (by omega)]; exact h q x hq
theorem cell_xg {N h L k i T : Nat} {s t p z cur lim : Int} {W : List Int} {R : Arr 16 Int} {P : T_ref03_Mem → T_ref04_Cpu → Prop} (hp : p ≤ 1000000) (hN : N ≤ 1000) (hh : h ≤ 2500) (hT : T = N + 14 + h + 32) (hW : W.length = T) (hi : i < 12)
    (hs : Sits W k (cellP (4 * ((N + i : Nat) : Int)) (4 * ((N + 12 : Nat) : Int)) z)) (w0 : W[0]? = some 16777216) (hc : W[N + 12]? = some cur) (hl : W[N + 13]? = some lim) (c0 : 0 ≤ cur) (c1 : cur ≤ 100000) (l0 : 0 ≤ lim) (l1 : lim ≤ 100000) (z0 : 4 ≤ z) (z1 : z < 3000)
    (g15 : R.g 15 = 4 * (T : Int)) (hk0 : 1 ≤ k) (hk : k + 17 ≤ N) (t0 : 0 ≤ t) (t1 : t + 40 < p)
    (trap : cur + z > lim → ∀ (R' : Arr 16 Int) (s' epc : Int), P (memG N 14 h 32 (W.set (T - 1) (4 * ((N + i : Nat) : Int)))) (cpE R' 0 s' L epc 6 1))
    (go : ¬ cur + z > lim → ∀ (R' : Arr 16 Int) (s' : Int), R'.g 15 = 4 * (T : Int) → ExG p P (t + 16) (memG N 14 h 32 (((W.set (T - 1) (4 * ((N + i : Nat) : Int))).set (N + 12) (cur + z)).set (N + i) cur)) (cpS R' (k + 17) s' L)) :
    ExG p P t (memG N 14 h 32 W) (cpS R k s L) := by
  obtain ⟨a, ha⟩ : ∃ a : Int, a = 4 * ((N + i : Nat) : Int) := ⟨_, rfl⟩
  obtain ⟨b, hb⟩ : ∃ b : Int, b = 4 * ((N + 12 : Nat) : Int) := ⟨_, rfl⟩
  rw [← ha, ← hb] at hs
  rw [← ha] at trap go
  have w00 : IntKind.wrap .u32 0 = 0 := by kernel_rfl
  have w4 : IntKind.wrap .u32 4 = 4 := by kernel_rfl
  have wm4 : IntKind.wrap .u32 (-4) = 4294967292 := by kernel_rfl
  have wz : IntKind.wrap .u32 (0 * 65536) = 0 := by kernel_rfl
  obtain ⟨x1, hs⟩ := hs.here
  obtain ⟨x2, hs⟩ := hs.here
  obtain ⟨x3, hs⟩ := hs.here
  obtain ⟨x4, hs⟩ := hs.here
  refine xg_one hp t0 (by omega) x1 dec_u0 (by omega) (by omega) (do_lui (a := 0) (by decide) (by omega)) ?_
  refine xg_one hp (by omega) (by omega) x2 (dec_o0 (by omega) (by omega)) (by omega) (by omega) (do_ori (a := 0) (b := 0) (by decide) (by decide) (by omega)) ?_
  rw [put_same (by decide), w00, wz, or_0 (by omega) (by omega), put_put]
  refine xg_one hp (by omega) (by omega) x3 dec_dn (by omega) (by omega) (do_addi (a := 15) (b := 15) (by decide) (by decide) (by omega)) ?_
  have d15 : IntKind.wrap .u32 ((R.put 0 a).g 15 + IntKind.wrap .u32 (-4)) = 4 * ((T - 1 : Nat) : Int) := by
    rw [put_other (by decide), g15, wm4, wrap_mod]; omega
  rw [d15]
  have add0 : ∀ q : Nat, q ≤ 20000 → IntKind.wrap .u32 (4 * (q : Int) + IntKind.wrap .u32 0) = 4 * (q : Int) := fun q hq => by rw [w00, Int.add_zero, wrap_u32 _ (by omega) (by omega)]
  refine xg_one hp (by omega) (by omega) x4 dec_st0 (by omega) (by omega) (do_stw (a := 0) (b := 15) (m' := memG N 14 h 32 (W.set (T - 1) a)) (by decide) (by decide) (by omega) ?_) ?_
  · rw [put_same (by decide), put_other (by decide), put_same (by decide), add0 _ (by omega)]
    exact storeG (by omega) (by omega) (by omega)
  obtain ⟨W1, hW1⟩ : ∃ W1, W1 = W.set (T - 1) a := ⟨_, rfl⟩
  rw [← hW1] at trap go ⊢
  have lW1 : W1.length = T := by rw [hW1, List.length_set, hW]
  have hs : Sits W1 (k + 1 + 1 + 1 + 1) [51380224, 68222976 + b, 302055424, 305201156, 35651584 + z, 102760450, 255983619, 356515841, 469762054, 320929792, 304021504, 100597764, 318832640] := by
    rw [hW1]; exact sits_set (N := N) hs (by simp; omega) (by omega)
  have hc1 : W1[N + 12]? = some cur := by rw [hW1, List.getElem?_set_ne (by omega)]; exact hc
  have hl1 : W1[N + 13]? = some lim := by rw [hW1, List.getElem?_set_ne (by omega)]; exact hl
  have hs1 : W1[T - 1]? = some a := by rw [hW1, List.getElem?_set_self (by omega)]
  have w01 : W1[0]? = some 16777216 := by rw [hW1, List.getElem?_set_ne (by omega)]; exact w0
  obtain ⟨x5, hs⟩ := hs.here
  obtain ⟨x6, hs⟩ := hs.here
  obtain ⟨x7, hs⟩ := hs.here
  obtain ⟨x8, hs⟩ := hs.here
  obtain ⟨x9, hs⟩ := hs.here
  obtain ⟨x10, hs⟩ := hs.here
  obtain ⟨x11, hs⟩ := hs.here
  obtain ⟨x12, hs⟩ := hs.here
  obtain ⟨x13, hs⟩ := hs.here
  refine xg_one hp (by omega) (by omega) x5 dec_u1 (by omega) (by omega) (do_lui (a := 1) (by decide) (by omega)) ?_
  refine xg_one hp (by omega) (by omega) x6 (dec_o1 (by omega) (by omega)) (by omega) (by omega) (do_ori (a := 1) (b := 1) (by decide) (by decide) (by omega)) ?_
  rw [put_same (by decide), w00, wz, or_0 (by omega) (by omega), put_put]
  obtain ⟨R1, hR1⟩ : ∃ R1, R1 = (((R.put 0 a).put 15 (4 * ((T - 1 : Nat) : Int))).put 1 b) := ⟨_, rfl⟩
  rw [← hR1]
  have r1 : R1.g 1 = b := by rw [hR1, put_same (by decide)]
  have r15 : R1.g 15 = 4 * ((T - 1 : Nat) : Int) := by rw [hR1, put_other (by decide), put_same (by decide)]
  refine xg_one hp (by omega) (by omega) x7 dec_c1 (by omega) (by omega) (do_ldw (a := 0) (b := 1) (x := cur) (by decide) (by decide) (by omega) ?_) ?_
  · rw [r1, hb, add0 _ (by omega)]; exact loadG (by omega) hc1
  refine xg_one hp (by omega) (by omega) x8 dec_c2 (by omega) (by omega) (do_ldw (a := 3) (b := 1) (x := lim) (by decide) (by decide) (by omega) ?_) ?_
  · rw [put_other (by decide), r1, hb, w4, wrap_u32 _ (by omega) (by omega)]
    have : 4 * ((N + 12 : Nat) : Int) + 4 = 4 * ((N + 13 : Nat) : Int) := by omega
    rw [this]; exact loadG (by omega) hl1
  refine xg_one hp (by omega) (by omega) x9 (dec_l2 (by omega) z1) (by omega) (by omega) (do_ldi (a := 2) (by decide) (by omega)) ?_
  rw [wrap_u32 z (by omega) (by omega)]
  obtain ⟨R2, hR2⟩ : ∃ R2, R2 = ((R1.put 0 cur).put 3 lim).put 2 z := ⟨_, rfl⟩
  rw [← hR2]
  have r20 : R2.g 0 = cur := by rw [hR2, put_other (by decide), put_other (by decide), put_same (by decide)]
  have r21 : R2.g 1 = b := by rw [hR2, put_other (by decide), put_other (by decide), put_other (by decide), r1]
  have r22 : R2.g 2 = z := by rw [hR2, put_same (by decide)]
  have r23 : R2.g 3 = lim := by rw [hR2, put_other (by decide), put_same (by decide)]
  have r215 : R2.g 15 = 4 * ((T - 1 : Nat) : Int) := by rw [hR2, put_other (by decide), put_other (by decide), put_other (by decide), r15]
  refine xg_one hp (by omega) (by omega) x10 dec_c3 (by omega) (by omega) (do_three (v := cur + z) (a := 2) (b := 0) (c := 2) (by decide) (by decide) (by decide) (by decide) (by decide) (by omega) ?_) ?_
  · rw [r20, r22]
    unfold ref04_reckon
    rw [if_pos (by decide), wrap_u32 _ (by omega) (by omega)]
  refine xg_one hp (by omega) (by omega) x11 dec_c4 (by omega) (by omega) (do_three (v := if cur + z ≤ lim then 1 else 0) (a := 4) (b := 2) (c := 3) (by decide) (by decide) (by decide) (by decide) (by decide) (by omega) ?_) ?_
  · rw [put_same (by decide), put_other (by decide), r23]
    have e : ref04_reckon 15 (cur + z) lim = bind1 (ref04_is (decide (IntKind.wrap .i32 (cur + z) ≤ IntKind.wrap .i32 lim))) fun r => some (r, true) := by
      unfold ref04_reckon
      rfl
    rw [e, wrap_i32 _ (by omega) (by omega), wrap_i32 _ (by omega) (by omega)]
    by_cases c : cur + z ≤ lim
    · rw [decide_eq_true c, if_pos c]; rfl
    · rw [decide_eq_false c, if_neg c]; rfl
  obtain ⟨R3, hR3⟩ : ∃ R3, R3 = (R2.put 2 (cur + z)).put 4 (if cur + z ≤ lim then 1 else 0) := ⟨_, rfl⟩
  rw [← hR3]
  have r30 : R3.g 0 = cur := by rw [hR3, put_other (by decide), put_other (by decide), r20]
  have r31 : R3.g 1 = b := by rw [hR3, put_other (by decide), put_other (by decide), r21]
  have r32 : R3.g 2 = cur + z := by rw [hR3, put_other (by decide), put_same (by decide)]
  have r34 : R3.g 4 = if cur + z ≤ lim then 1 else 0 := by rw [hR3, put_same (by decide)]
  have r315 : R3.g 15 = 4 * ((T - 1 : Nat) : Int) := by rw [hR3, put_other (by decide), put_other (by decide), r215]
  by_cases c : cur + z > lim
  · rw [if_neg (by omega)] at r34
    refine xg_one hp (by omega) (by omega) x12 dec_c6 (by omega) (by omega) (do_bnz_no (a := 4) (by decide) (by omega) r34) ?_
    refine xg_one hp (by omega) (by omega) x13 dec_c7 (by omega) (by omega) (do_trap (by omega) (by decide) (by decide)) ?_
    exact xg_trap hp (by omega) (by omega) w01 (by omega) (by omega) fun s' => trap c _ _ _
  · have go := go c
    rw [if_pos (by omega)] at r34
    obtain ⟨x14, hs⟩ := hs.here
    refine xg_one hp (by omega) (by omega) x12 dec_c6 (by omega) (by omega) (do_bnz_go (a := 4) (v := 1) (by decide) (by omega) (by decide) (by rw [r34]; decide)) ?_
    refine xg_one hp (by omega) (by omega) x14 dec_c8 (by omega) (by omega) (do_stw (a := 2) (b := 1) (m' := memG N 14 h 32 (W1.set (N + 12) (cur + z))) (by decide) (by decide) (by omega) ?_) ?_
    · rw [r31, r32, hb, add0 _ (by omega)]; exact storeG (by omega) (by omega) (by omega)
    have hs := sits_set (N := N) (j := N + 12) (v := cur + z) hs (by simp; omega) (by omega)
    obtain ⟨x15, hs⟩ := hs.here
    obtain ⟨x16, hs⟩ := hs.here
    obtain ⟨x17, _⟩ := hs.here
    refine xg_one hp (by omega) (by omega) x15 dec_ld1 (by omega) (by omega) (do_ldw (a := 1) (b := 15) (x := a) (by decide) (by decide) (by omega) ?_) ?_
    · rw [r315, add0 _ (by omega)]; exact loadG (by simp; omega) (by rw [List.getElem?_set_ne (by omega)]; exact hs1)
    refine xg_one hp (by omega) (by omega) x16 dec_up (by omega) (by omega) (do_addi (a := 15) (b := 15) (by decide) (by decide) (by omega)) ?_
    have u15 : IntKind.wrap .u32 ((R3.put 1 a).g 15 + IntKind.wrap .u32 4) = 4 * (T : Int) := by
      rw [put_other (by decide), r315, w4, wrap_u32 _ (by omega) (by omega)]; omega
    rw [u15]
    refine xg_one hp (by omega) (by omega) x17 dec_c9 (by omega) (by omega) (do_stw (a := 0) (b := 1) (m' := memG N 14 h 32 ((W1.set (N + 12) (cur + z)).set (N + i) cur)) (by decide) (by decide) (by omega) ?_) ?_
    · rw [put_other (by decide), put_same (by decide), put_other (by decide), put_other (by decide), r30, ha, add0 _ (by omega)]
      exact storeG (by simp; omega) (by simp; omega) (by omega)
    have := go ((R3.put 1 a).put 15 (4 * (T : Int))) (IntKind.wrap .i64 (IntKind.wrap .i64 (IntKind.wrap .i64 (IntKind.wrap .i64 (IntKind.wrap .i64 (IntKind.wrap .i64 (IntKind.wrap .i64 (IntKind.wrap .i64 (IntKind.wrap .i64 (IntKind.wrap .i64 (IntKind.wrap .i64 (IntKind.wrap .i64 (IntKind.wrap .i64 (IntKind.wrap .i64 (IntKind.wrap .i64 (IntKind.wrap .i64 (s + 1) + 1) + 1) + 1) + 1) + 1) + 1) + 1) + 1) + 1) + 1) + 1) + 1) + 1) + 1) + 1)) (put_same (by decide))
    rw [show t + 16 = t + 1 + 1 + 1 + 1 + 1 + 1 + 1 + 1 + 1 + 1 + 1 + 1 + 1 + 1 + 1 + 1 by omega] at this
    exact this
end Go.Proofs.Abs
/- Cells that are made stand one behind the other, each known to whom it was made for, till there is no room. -/
namespace Go.Proofs.Abs
open Go
set_option linter.unusedVariables false
set_option linter.unusedSimpArgs false
theorem wf_u16c {n : Int} : (Lit.int .u16 n).wf = true ↔ 0 ≤ n ∧ n ≤ 65535 := by
  simp [Lit.wf, IntKind.min, IntKind.max, IntKind.signed, IntKind.bits]
def zf (x : Int) : Int := if 4 > x % 3000 then 4 else x % 3000
theorem zf_le (x : Int) : 4 ≤ zf x ∧ zf x < 3000 := by unfold zf; split <;> omega
/-! what is written -/
theorem emit_loop {p0 : List Int} {i0 g : Nat} (hp : ∀ x, x ∈ p0 → 0 ≤ x ∧ x ≤ 65535) : ∀ (l : List Int) (i : Nat) (pre : List Int) (H : Heap) (ws : List Int) (m : Int) (fx : List T_api_Fixup), p0.take 12 = pre ++ l → pre.length = i → ws.length = 17 * i + 1 → fx.length = 2 * i → Gn H i0 g (D ws 0 m 0 fx) →
    ∃ H' m', loopO (fun (x : Int × Heap) => law19_ItemCells_L1 p0 (.at g 0) x.1 x.2) ((i : Int), H) = some (.inl H') ∧ Gn H' i0 g (D (ws ++ allU (l.map zf)) 0 m' 0 (fx ++ allF i (l.map zf)))
  | [], i, pre, H, ws, m, fx, h1, h2, h3, h4, G => by
    refine ⟨H, m, loopO_out ?_, by simpa [allU, allF] using G⟩
    have : (p0.take 12).length = i := by rw [h1]; simpa using h2
    rw [List.length_take] at this
    show law19_ItemCells_L1 p0 (.at g 0) i H = _
    unfold law19_ItemCells_L1
    rw [if_neg]
    simp only [decide_eq_true_eq]
    split <;> omega
  | x :: l, i, pre, H, ws, m, fx, h1, h2, h3, h4, G => by
    have hl : (p0.take 12).length = i + (l.length + 1) := by rw [h1]; simp [h2]
    rw [List.length_take] at hl
    have gx : p0[i]? = some x := by
      have : (p0.take 12)[i]? = some x := by rw [h1, List.getElem?_append_right (by omega), h2, Nat.sub_self]; rfl
      rw [List.getElem?_take, if_pos (by omega)] at this; exact this
    have gi1 : gi p0 (i : Int) = some x := by
      have hi : i < p0.length := (List.getElem?_eq_some_iff.1 gx).1
      rw [gi_some (by omega) (by omega)]
      obtain ⟨v1, v2⟩ := List.getElem?_eq_some_iff.1 gx
      have : ((i : Nat) : Int).toNat = i := by simp
      simp only [this, v2]
    have xb := hp x (List.mem_of_getElem? gx)
    obtain ⟨H1, e1, G1⟩ := fix_gn (kind := 1) (module := 0) (value := 4 * (i : Int)) G (by decide) enc_u0 enc_o0 (by omega) (by omega)
    obtain ⟨H2, e2, G2⟩ := wait_gn G1 (by simp; omega) (by decide) (by decide)
    obtain ⟨H3, e3, G3⟩ := cell_gn (p := x % 3000) (z := zf x) G2 rfl (zf_le x).2 (by simp; omega) (by simp; omega) (by decide) (by decide)
    obtain ⟨H4, m4, e4, G4⟩ := emit_loop hp l (i + 1) (pre ++ [x]) H3 _ _ _ (by rw [h1]; simp) (by simp [h2]) (by simp [h3]; omega) (by simp [h4]; omega) G3
    refine ⟨H4, m4, ?_, ?_⟩
    · rw [loopO_go (f := fun (x : Int × Heap) => law19_ItemCells_L1 p0 (.at g 0) x.1 x.2) (s' := (((i + 1 : Nat) : Int), H3))]
      · exact e4
      · show law19_ItemCells_L1 p0 (.at g 0) i H = _
        have w1 : IntKind.wrap .i32 (IntKind.wrap .i64 (4 * (i : Int))) = 4 * (i : Int) := by rw [wrap_i64 _ (by omega) (by omega), wrap_i32 _ (by omega) (by omega)]
        have ea : item_Gen_Address H (.at g 0) (T_scope_Object.mk ByteArray.empty 3 0 0 (4 * (i : Int)) 0 false []) = some (H1, 0) := by
          unfold item_Gen_Address item_Gen_Address_j1
          rw [if_pos (by rfl), pbnd_at, G.gen, bind1_some]
          show bind1 (emit_Code_Fix H (.at i0 0) 1 0 (IntKind.wrap .i64 (4 * (i : Int))) 0) _ = _
          rw [wrap_i64 (4 * (i : Int)) (by omega) (by omega), e1]; rfl
        unfold law19_ItemCells_L1
        rw [if_pos (by simp only [decide_eq_true_eq]; split <;> omega), w1, ea, bind2_some, if_neg (by simp), e2, bind1_some, gi1, bind1_some, tmod_pos xb.1, wrap_i64 (x % 3000) (by omega) (by omega), e3, bind1_some, wrap_i64 ((i : Int) + 1) (by omega) (by omega)]
        rfl
    · have k1 : ws ++ [50331648, 67108864] ++ [100663292, 319750144] ++ [51380224, 68222976, 302055424, 305201156, 35651584 + zf x, 102760450, 255983619, 356515841, 469762054, 320929792, 304021504, 100597764, 318832640] ++ allU (l.map zf) = ws ++ allU ((x :: l).map zf) := by simp [allU, cellU]
      have k2 : fx ++ [⟨(ws.length : Int), 1, 0, 4 * (i : Int)⟩] ++ [⟨((ws ++ [50331648, 67108864] ++ [100663292, 319750144]).length : Int), 4, 0, 0⟩] ++ allF (i + 1) (l.map zf) = fx ++ allF i ((x :: l).map zf) := by
        have a1 : (ws.length : Int) = ((17 * i + 1 : Nat) : Int) := by rw [h3]
        have a2 : ((ws ++ [50331648, 67108864] ++ [100663292, 319750144]).length : Int) = ((17 * i + 5 : Nat) : Int) := by simp [h3]; omega
        rw [a1, a2]
        simp [allF]
      rw [← k1, ← k2]; exact G4
/-! what is patched -/
theorem and_i64_16 {a : Int} (h0 : 0 ≤ a) (h : a < 65536) : bitsOf .and .i64 a 65535 = a := by
  obtain ⟨n, rfl⟩ : ∃ n : Nat, a = n := ⟨a.toNat, by omega⟩
  show IntKind.i64.wrap ((BitVec.ofInt 64 (n : Int) &&& BitVec.ofInt 64 65535).toNat : Int) = _
  have e1 : (BitVec.ofInt 64 65535).toNat = 2 ^ 16 - 1 := by decide
  have e2 : (BitVec.ofInt 64 (n : Int)).toNat = n := by rw [BitVec.toNat_ofInt]; omega
  rw [BitVec.toNat_and, e1, e2, Nat.and_two_pow_sub_one_eq_mod, Nat.mod_eq_of_lt (by omega), wrap_i64 _ (by omega) (by omega)]
theorem or_low {y a : Int} (h0 : 0 ≤ y) (h1 : y < 65536) (a0 : 0 ≤ a) (a1 : a < 65536) : bitsOf .or .u32 (y * 65536) a = y * 65536 + a := or_part 16 y a h0 a0 a1 (by omega)
theorem or_zero {x : Int} (h0 : 0 ≤ x) (h1 : x < 4294967296) : bitsOf .or .u32 x 0 = x := by
  have := or_part 0 x 0 h0 (by decide) (by decide) (by omega)
  rw [show x * 2 ^ 0 = x by omega] at this; omega
theorem patch_one {r : T_emit_Result} {p1 j : Int} {A : List Int} {f : T_api_Fixup} {q : Nat} {x y a : Int} (hf : gi r.Fixups_ j = some f) (j0 : 0 ≤ j) (j1 : j < r.Fixups_.length) (j2 : j < 1000) (hq : f.At_ = (q : Int)) (hx : A[q]? = some x) (hy : A[q + 1]? = some (y * 65536)) (x0 : 0 ≤ x) (x1 : x < 4294967296) (y0 : 0 ≤ y) (y1 : y < 65536) (hA : A.length ≤ 1000)
    (ha : (if f.Kind_ = 4 then IntKind.wrap .i64 (IntKind.wrap .i64 (4 * (A.length : Int)) + p1) else IntKind.wrap .i64 (IntKind.wrap .i64 (4 * (A.length : Int)) + f.Value_)) = a) (a0 : 0 ≤ a) (a1 : a < 65536) :
    law19_ended_L1 r p1 A j = some (.inl (A.set (q + 1) (y * 65536 + a), j + 1)) := by
  have hq1 : q + 1 < A.length := (List.getElem?_eq_some_iff.1 hy).1
  have gg : ∀ (B : List Int) (k : Nat) (v : Int), B[k]? = some v → gi B (k : Int) = some v := fun B k v h => by
    have hk : k < B.length := (List.getElem?_eq_some_iff.1 h).1
    rw [gi_some (by omega) (by omega)]
    obtain ⟨v1, v2⟩ := List.getElem?_eq_some_iff.1 h
    have : ((k : Nat) : Int).toNat = k := by simp
    simp only [this, v2]
  have j2' : ∀ b : Int, b = a → law19_ended_j2 A f j b = some (.inl (A.set (q + 1) (y * 65536 + a), j + 1)) := by
    intro b hb
    rw [hb]
    have e1 : IntKind.wrap .u32 (Int.fdiv a (2 ^ 16)) = 0 := by
      have e : Int.fdiv a (2 ^ 16) = a / 65536 := by rw [Int.fdiv_eq_ediv_of_nonneg _ (by decide)]; rfl
      rw [e, wrap_u32 _ (by omega) (by omega)]; omega
    have e2 : A.set q x = A := by
      apply List.ext_getElem?
      intro k
      rw [List.getElem?_set]
      split
      · rename_i h; subst h; rw [if_pos (by omega), hx]
      · rfl
    have e3 : IntKind.wrap .i64 ((q : Int) + 1) = ((q + 1 : Nat) : Int) := wrap_i64 _ (by omega) (by omega)
    unfold law19_ended_j2
    rw [hq, gg A q x hx, bind1_some, bind1_some, e1, or_zero x0 x1, si_some (by omega) (by omega), bind1_some]
    have t1 : ((q : Nat) : Int).toNat = q := by simp
    rw [t1, e2, e3, gg A (q + 1) _ hy, bind1_some, bind1_some, and_i64_16 a0 a1, wrap_u32 a (by omega) (by omega), or_low y0 y1 a0 a1, si_some (by omega) (by omega), bind1_some, wrap_i64 (j + 1) (by omega) (by omega)]
    have t2 : ((q + 1 : Nat) : Int).toNat = q + 1 := by simp
    rw [t2]
  unfold law19_ended_L1
  rw [if_pos (by simpa using j1), hf, bind1_some, if_neg (by rw [hq, wrap_i64 _ (by omega) (by omega)]; simp; omega)]
  by_cases c : f.Kind_ = 4
  · rw [if_pos c] at ha
    rw [if_pos (by simpa using c)]; exact j2' _ ha
  · rw [if_neg c] at ha
    rw [if_neg (by simpa using c)]; exact j2' _ ha
theorem patch_loop {r : T_emit_Result} {N : Nat} (hN : N ≤ 1000) : ∀ (zs : List Int) (i : Nat) (pre post : List Int) (F0 : List T_api_Fixup), (∀ z, z ∈ zs → 4 ≤ z ∧ z < 3000) → pre.length = 17 * i + 1 → F0.length = 2 * i → r.Fixups_ = F0 ++ allF i zs → pre.length + 17 * zs.length + post.length = N → i + zs.length ≤ 50 →
    loopO (fun (x : List Int × Int) => law19_ended_L1 r 48 x.1 x.2) (pre ++ (allU zs ++ post), ((2 * i : Nat) : Int)) = some (.inl (pre ++ (allP (4 * ((N + 12 : Nat) : Int)) (4 * ((N + i : Nat) : Int)) zs ++ post)))
  | [], i, pre, post, F0, hz, h1, h2, h3, h4, h5 => by
    refine loopO_out ?_
    show law19_ended_L1 r 48 (pre ++ (allU [] ++ post)) ((2 * i : Nat) : Int) = _
    unfold law19_ended_L1
    rw [if_neg (by rw [h3]; simp [allF]; omega)]
    rfl
  | z :: zs, i, pre, post, F0, hz, h1, h2, h3, h4, h5 => by
    have hf := allF_len (i + 1) zs
    have hlen : r.Fixups_.length = 2 * i + (2 * zs.length + 2) := by rw [h3]; simp [allF, h2, hf]
    have gf : ∀ (k : Nat) (f : T_api_Fixup), r.Fixups_[k]? = some f → gi r.Fixups_ (k : Int) = some f := fun k f h => by
      have hk : k < r.Fixups_.length := (List.getElem?_eq_some_iff.1 h).1
      rw [gi_some (by omega) (by omega)]
      obtain ⟨v1, v2⟩ := List.getElem?_eq_some_iff.1 h
      have : ((k : Nat) : Int).toNat = k := by simp
      simp only [this, v2]
    have f1 : gi r.Fixups_ ((2 * i : Nat) : Int) = some ⟨((17 * i + 1 : Nat) : Int), 1, 0, 4 * (i : Int)⟩ := gf _ _ (by rw [h3, List.getElem?_append_right (by omega), h2, Nat.sub_self]; rfl)
    have f2 : gi r.Fixups_ ((2 * i + 1 : Nat) : Int) = some ⟨((17 * i + 5 : Nat) : Int), 4, 0, 0⟩ := gf _ _ (by rw [h3, List.getElem?_append_right (by omega), h2, show 2 * i + 1 - 2 * i = 1 by omega]; rfl)
    have zb := hz z (by simp)
    have lU := allU_len zs
    obtain ⟨A0, hA0⟩ : ∃ A0, A0 = pre ++ (allU (z :: zs) ++ post) := ⟨_, rfl⟩
    have hA0' : A0 = pre ++ (cellU z ++ (allU zs ++ post)) := by rw [hA0]; simp [allU]
    have lA : A0.length = N := by rw [hA0']; simp [cellU, lU]; simp at h4; omega
    have s1 := patch_one (r := r) (p1 := 48) (A := A0) (q := 17 * i + 1) (x := 50331648) (y := 1024) (a := 4 * ((N + i : Nat) : Int)) f1 (by omega) (by omega) (by omega) rfl
      (by rw [hA0', List.getElem?_append_right (by omega), h1, Nat.sub_self]; rfl) (by rw [hA0', List.getElem?_append_right (by omega), h1, show 17 * i + 1 + 1 - (17 * i + 1) = 1 by omega]; rfl)
      (by decide) (by decide) (by decide) (by decide) (by omega) (by rw [if_neg (show ¬ (1 : Int) = 4 by decide), lA, wrap_i64 (4 * (N : Int)) (by omega) (by omega), wrap_i64 _ (by show _ ≤ 4 * (N : Int) + 4 * (i : Int); omega) (by show 4 * (N : Int) + 4 * (i : Int) ≤ _; omega)]; show 4 * (N : Int) + 4 * (i : Int) = _; omega) (by omega) (by simp at h4; omega)
    obtain ⟨A1, hA1⟩ : ∃ A1, A1 = A0.set (17 * i + 1 + 1) (1024 * 65536 + 4 * ((N + i : Nat) : Int)) := ⟨_, rfl⟩
    have hA1' : A1 = pre ++ ([50331648, 67108864 + 4 * ((N + i : Nat) : Int), 100663292, 319750144, 51380224, 68222976, 302055424, 305201156, 35651584 + z, 102760450, 255983619, 356515841, 469762054, 320929792, 304021504, 100597764, 318832640] ++ (allU zs ++ post)) := by
      rw [hA1, hA0', List.set_append_right _ _ (by omega), h1, show 17 * i + 1 + 1 - (17 * i + 1) = 1 by omega]; rfl
    have lA1 : A1.length = N := by rw [hA1, List.length_set, lA]
    have s2 := patch_one (r := r) (p1 := 48) (A := A1) (q := 17 * i + 5) (x := 51380224) (y := 1041) (a := 4 * ((N + 12 : Nat) : Int)) f2 (by omega) (by omega) (by omega) rfl
      (by rw [hA1', List.getElem?_append_right (by omega), h1, show 17 * i + 5 - (17 * i + 1) = 4 by omega]; rfl) (by rw [hA1', List.getElem?_append_right (by omega), h1, show 17 * i + 5 + 1 - (17 * i + 1) = 5 by omega]; rfl)
      (by decide) (by decide) (by decide) (by decide) (by omega) (by rw [if_pos rfl, lA1, wrap_i64 (4 * (N : Int)) (by omega) (by omega), wrap_i64 _ (by omega) (by omega)]; omega) (by omega) (by omega)
    have hA2 : A1.set (17 * i + 5 + 1) (1041 * 65536 + 4 * ((N + 12 : Nat) : Int)) = (pre ++ cellP (4 * ((N + i : Nat) : Int)) (4 * ((N + 12 : Nat) : Int)) z) ++ (allU zs ++ post) := by
      rw [hA1', List.set_append_right _ _ (by omega), h1, show 17 * i + 5 + 1 - (17 * i + 1) = 5 by omega, List.append_assoc]; rfl
    have ih := patch_loop hN zs (i + 1) (pre ++ cellP (4 * ((N + i : Nat) : Int)) (4 * ((N + 12 : Nat) : Int)) z) post (F0 ++ [⟨((17 * i + 1 : Nat) : Int), 1, 0, 4 * (i : Int)⟩, ⟨((17 * i + 5 : Nat) : Int), 4, 0, 0⟩]) (fun z h => hz z (by simp [h])) (by simp [cellP]; omega) (by simp; omega) (by rw [h3]; simp [allF]) (by simp [cellP]; simp at h4; omega) (by simp at h5; omega)
    rw [← hA0]
    rw [loopO_go (f := fun (x : List Int × Int) => law19_ended_L1 r 48 x.1 x.2) (s' := (A1, ((2 * i + 1 : Nat) : Int))) (by rw [hA1]; exact s1)]
    rw [loopO_go (f := fun (x : List Int × Int) => law19_ended_L1 r 48 x.1 x.2) (s' := ((pre ++ cellP (4 * ((N + i : Nat) : Int)) (4 * ((N + 12 : Nat) : Int)) z) ++ (allU zs ++ post), ((2 * (i + 1) : Nat) : Int))) (by rw [← hA2]; exact s2)]
    rw [ih]
    have : 4 * ((N + (i + 1) : Nat) : Int) = 4 * ((N + i : Nat) : Int) + 4 := by omega
    rw [this]
    simp [allP]
/-! what it does -/
def cellsOk (N T : Nat) (lim : Int) : Nat → Int → List Int → T_ref03_Mem → T_ref04_Cpu → Prop
  | _, _, [], _, c => c.State_ = 1 ∧ c.Cause_ = 0 ∧ c.R_.g 15 = 4 * (T : Int)
  | i, cur, z :: zs, m, c => if cur + z > lim then c.State_ = 1 ∧ c.Cause_ = 6 else ref03_Load m (4 * ((N + i : Nat) : Int)) = some (cur, 0) ∧ cellsOk N T lim (i + 1) (cur + z) zs m c
theorem xg_mono {p : Int} {P Q : T_ref03_Mem → T_ref04_Cpu → Prop} {t : Int} {m : T_ref03_Mem} {c : T_ref04_Cpu} (h : ExG p P t m c) (k : ∀ m c, P m c → Q m c) : ExG p Q t m c := by
  obtain ⟨r, h1, h2⟩ := h; exact ⟨r, h1, k _ _ h2⟩
theorem cells_run {N h L T : Nat} {p lim : Int} (hp : p ≤ 1000000) (hN : N ≤ 1000) (hh : h ≤ 2500) (hT : T = N + 14 + h + 32) (l0 : 0 ≤ lim) (l1 : lim ≤ 100000) : ∀ (zs : List Int) (i k : Nat) (cur s t : Int) (W : List Int) (R : Arr 16 Int), (∀ z, z ∈ zs → 4 ≤ z ∧ z < 3000) → i + zs.length ≤ 12 → W.length = T → Sits W k (allP (4 * ((N + 12 : Nat) : Int)) (4 * ((N + i : Nat) : Int)) zs ++ [16777216]) → W[0]? = some 16777216 →
    W[N + 12]? = some cur → W[N + 13]? = some lim → 0 ≤ cur → cur + 3000 * (zs.length : Int) ≤ 90000 → R.g 15 = 4 * (T : Int) → 1 ≤ k → k + 17 * zs.length < N → 0 ≤ t → t + 60 * (zs.length + 1) < p →
    ExG p (fun m c => cellsOk N T lim i cur zs m c ∧ ∃ W', m = memG N 14 h 32 W' ∧ W'.length = T ∧ ∀ q, q < N + i → W'[q]? = W[q]?) t (memG N 14 h 32 W) (cpS R k s L)
  | [], i, k, cur, s, t, W, R, hz, hi, hW, hs, w0, hc, hl, c0, c1, g15, hk0, hk, t0, t1 => by
    have hs : Sits W k [16777216] := hs
    obtain ⟨x1, _⟩ := hs.here
    refine xg_one hp t0 (by simp at t1; omega) x1 dec_halt (by omega) (by omega) do_halt ?_
    exact xg_end (show (1 : Int) ≠ 0 by decide) ⟨⟨rfl, rfl, g15⟩, W, rfl, hW, fun _ _ => rfl⟩
  | z :: zs, i, k, cur, s, t, W, R, hz, hi, hW, hs, w0, hc, hl, c0, c1, g15, hk0, hk, t0, t1 => by
    have zb := hz z (by simp)
    simp only [List.length_cons] at hi c1 hk t1
    have hs' : Sits W k (cellP (4 * ((N + i : Nat) : Int)) (4 * ((N + 12 : Nat) : Int)) z ++ (allP (4 * ((N + 12 : Nat) : Int)) (4 * ((N + (i + 1) : Nat) : Int)) zs ++ [16777216])) := by
      have : 4 * ((N + (i + 1) : Nat) : Int) = 4 * ((N + i : Nat) : Int) + 4 := by omega
      rw [this]
      have : allP (4 * ((N + 12 : Nat) : Int)) (4 * ((N + i : Nat) : Int)) (z :: zs) ++ [16777216] = cellP (4 * ((N + i : Nat) : Int)) (4 * ((N + 12 : Nat) : Int)) z ++ (allP (4 * ((N + 12 : Nat) : Int)) (4 * ((N + i : Nat) : Int) + 4) zs ++ [16777216]) := by simp [allP]
      rw [← this]; exact hs
    obtain ⟨s1, s2⟩ := hs'.app
    have s2 : Sits W (k + 17) (allP (4 * ((N + 12 : Nat) : Int)) (4 * ((N + (i + 1) : Nat) : Int)) zs ++ [16777216]) := s2
    refine cell_xg hp hN hh hT hW (by omega) s1 w0 hc hl c0 (by omega) l0 l1 zb.1 zb.2 g15 hk0 (by omega) t0 (by omega) (fun c R' s' epc => ?_) (fun c R' s' g => ?_)
    · refine ⟨?_, W.set (T - 1) (4 * ((N + i : Nat) : Int)), rfl, by rw [List.length_set, hW], fun (q : Nat) (hq : q < N + i) => by rw [List.getElem?_set_ne (by omega)]⟩
      unfold cellsOk
      rw [if_pos c]; exact ⟨rfl, rfl⟩
    · obtain ⟨W3, hW3⟩ : ∃ W3, W3 = ((W.set (T - 1) (4 * ((N + i : Nat) : Int))).set (N + 12) (cur + z)).set (N + i) cur := ⟨_, rfl⟩
      rw [← hW3]
      have lP := allP_len (4 * ((N + 12 : Nat) : Int)) (4 * ((N + (i + 1) : Nat) : Int)) zs
      have hl2 : (k + 17) + (allP (4 * ((N + 12 : Nat) : Int)) (4 * ((N + (i + 1) : Nat) : Int)) zs ++ [16777216]).length ≤ N := by rw [List.length_append, lP, List.length_singleton]; omega
      have k3 : Sits W3 (k + 17) (allP (4 * ((N + 12 : Nat) : Int)) (4 * ((N + (i + 1) : Nat) : Int)) zs ++ [16777216]) := by
        rw [hW3]
        exact sits_set (N := N) (sits_set (N := N) (sits_set (N := N) s2 hl2 (by omega)) hl2 (by omega)) hl2 (by omega)
      have ih := cells_run (L := L) hp hN hh hT l0 l1 zs (i + 1) (k + 17) (cur + z) s' (t + 16) W3 R' (fun z h => hz z (by simp [h])) (by omega) (by rw [hW3]; simp [hW]) k3 (by rw [hW3, List.getElem?_set_ne (by omega), List.getElem?_set_ne (by omega), List.getElem?_set_ne (by omega)]; exact w0)
        (by rw [hW3, List.getElem?_set_ne (by omega), List.getElem?_set_self (by simp; omega)]) (by rw [hW3, List.getElem?_set_ne (by omega), List.getElem?_set_ne (by omega), List.getElem?_set_ne (by omega)]; exact hl) (by omega) (by omega) g (by omega) (by omega) (by omega) (by omega)
      refine xg_mono ih fun m cc ⟨q1, W', q2, q3, q4⟩ => ⟨?_, W', q2, q3, fun q hq => ?_⟩
      · unfold cellsOk
        rw [if_neg c]
        refine ⟨?_, q1⟩
        rw [q2]
        refine loadG (by omega) ?_
        rw [q4 (N + i) (by omega), hW3, List.getElem?_set_self (by simp; omega)]
      · rw [q4 q (by omega), hW3, List.getElem?_set_ne (by omega), List.getElem?_set_ne (by omega), List.getElem?_set_ne (by omega)]
end Go.Proofs.Abs
/- Cells that are made: the law. -/
namespace Go.Proofs.Abs
open Go
set_option linter.unusedVariables false
set_option linter.unusedSimpArgs false
theorem ended_cells {H : Heap} {i0 g : Nat} {zs : List Int} {d m L : Int} {Pr : T_item_Proc} (G : Gn H i0 g (D (16777216 :: allU zs) d m 0 (allF 0 zs)) L Pr) (hz : ∀ z, z ∈ zs → 4 ≤ z ∧ z < 3000) (hl : zs.length ≤ 12) :
    ∃ H', law19_ended H (.at g 0) 48 = some (H', 16777216 :: allP (4 * ((17 * zs.length + 2 + 12 : Nat) : Int)) (4 * ((17 * zs.length + 2 : Nat) : Int)) zs ++ [16777216], true) := by
  have lU := allU_len zs
  have lF := allF_len 0 zs
  obtain ⟨H1, e1, G1⟩ := reg_gn G enc_halt (show (16777216 :: allU zs).length < 16384 by simp [lU]; omega)
  have G1 : Gn H1 i0 g (D (16777216 :: allU zs ++ [16777216]) d m 0 (allF 0 zs)) L Pr := G1
  obtain ⟨H2, sg, e2⟩ := finish_gn G1 (by simp [lU]; omega) (by omega)
  refine ⟨H2, ?_⟩
  unfold law19_ended
  rw [pbnd_at, G.gen, bind1_some]
  show bind2 (emit_Code_Reg H (.at i0 0) 1 0) _ = _
  rw [e1, bind2_some, G1.gen, bind1_some]
  show bind3 (emit_Code_Finish H1 (.at i0 0)) _ = _
  rw [e2, bind3_some, if_neg (by simp), app_some (by simp [lU]; omega), bind1_some, List.nil_append]
  have lp := patch_loop (r := ⟨16777216 :: allU zs ++ [16777216], allF 0 zs, sg⟩) (N := 17 * zs.length + 2) (by omega) zs 0 [16777216] [16777216] [] hz rfl rfl rfl (by simp; omega) (by omega)
  have lp : loopO (fun (x : List Int × Int) => law19_ended_L1 ⟨16777216 :: allU zs ++ [16777216], allF 0 zs, sg⟩ 48 x.1 x.2) (16777216 :: allU zs ++ [16777216], (0 : Int)) = some (.inl (16777216 :: allP (4 * ((17 * zs.length + 2 + 12 : Nat) : Int)) (4 * ((17 * zs.length + 2 : Nat) : Int)) zs ++ [16777216])) := lp
  rw [lp, bind1_some, sum2_inl]
def topE (n p1 : Int) : Int := IntKind.wrap .u32 ((IntKind.wrap .u32 ((IntKind.wrap .u32 (IntKind.wrap .i64 ((IntKind.wrap .i64 (4 * n)) + 56))) + (IntKind.wrap .u32 (IntKind.wrap .i64 ((IntKind.wrap .i64 (Int.tmod p1 8000)) - (Int.tmod (IntKind.wrap .i64 (Int.tmod p1 8000)) 4)))))) + 128)
theorem check_loop {p0 : List Int} {p1 : Int} {r24 : List Int} {c : T_ref04_Cpu} {m : T_ref03_Mem} {N T : Nat} {lim : Int} (hN : N ≤ 1000) (h24 : r24.length = N) (hp : ∀ x, x ∈ p0 → 0 ≤ x ∧ x ≤ 65535)
    (hlim : IntKind.wrap .i64 ((IntKind.wrap .i64 (IntKind.wrap .u32 (IntKind.wrap .i64 ((IntKind.wrap .i64 (4 * (r24.length : Int))) + 56)))) + (IntKind.wrap .i64 ((IntKind.wrap .i64 (Int.tmod p1 8000)) - (Int.tmod (IntKind.wrap .i64 (Int.tmod p1 8000)) 4)))) = lim) :
    ∀ (l : List Int) (i : Nat) (pre : List Int) (cur : Int), p0.take 12 = pre ++ l → pre.length = i → i + l.length ≤ 12 → 0 ≤ cur → cur + 3000 * (l.length : Int) ≤ 90000 → cellsOk N T lim i cur (l.map zf) m c →
      ∃ o, loopO (fun (x : Int × Int) => law19_ItemCells_L2 p0 r24 p1 c m x.1 x.2) (cur, (i : Int)) = some o ∧ (o = .inr true ∨ ∃ A, o = .inl A ∧ (A.g 15 = topE (r24.length : Int) p1) ∧ c.State_ = 1 ∧ c.Cause_ = 0 ∧ c.R_.g 15 = 4 * (T : Int))
  | [], i, pre, cur, h1, h2, h3, c0, c1, ok => by
    have hl : (p0.take 12).length = i := by rw [h1]; simpa using h2
    rw [List.length_take] at hl
    obtain ⟨A, hA, hA2⟩ : ∃ A : Arr 16 Int, law19_ItemCells_L2 p0 r24 p1 c m cur i = some (.inr (.inl A)) ∧ A.g 15 = topE (r24.length : Int) p1 := by
      unfold law19_ItemCells_L2
      rw [if_neg (by simp only [decide_eq_true_eq]; split <;> omega)]
      exact ⟨_, rfl, rfl⟩
    exact ⟨.inl A, loopO_out hA, .inr ⟨A, rfl, hA2, ok.1, ok.2.1, ok.2.2⟩⟩
  | x :: l, i, pre, cur, h1, h2, h3, c0, c1, ok => by
    simp only [List.length_cons] at h3 c1
    have hl : (p0.take 12).length = i + (l.length + 1) := by rw [h1]; simp [h2]
    rw [List.length_take] at hl
    have gx : p0[i]? = some x := by
      have : (p0.take 12)[i]? = some x := by rw [h1, List.getElem?_append_right (by omega), h2, Nat.sub_self]; rfl
      rw [List.getElem?_take, if_pos (by omega)] at this; exact this
    have gi1 : gi p0 (i : Int) = some x := by
      have hi : i < p0.length := (List.getElem?_eq_some_iff.1 gx).1
      rw [gi_some (by omega) (by omega)]
      obtain ⟨v1, v2⟩ := List.getElem?_eq_some_iff.1 gx
      have : ((i : Nat) : Int).toNat = i := by simp
      simp only [this, v2]
    have xb := hp x (List.mem_of_getElem? gx)
    have zb := zf_le x
    have ez : (if 4 > x % 3000 then 4 else x % 3000) = zf x := rfl
    have er : IntKind.wrap .i64 (Int.tmod x 3000) = x % 3000 := by rw [tmod_pos xb.1, wrap_i64 _ (by omega) (by omega)]
    have ok : (if cur + zf x > lim then c.State_ = 1 ∧ c.Cause_ = 6 else ref03_Load m (4 * ((N + i : Nat) : Int)) = some (cur, 0) ∧ cellsOk N T lim (i + 1) (cur + zf x) (l.map zf) m c) := ok
    by_cases k : cur + zf x > lim
    · rw [if_pos k] at ok
      refine ⟨.inr true, loopO_out ?_, .inl rfl⟩
      show law19_ItemCells_L2 p0 r24 p1 c m cur i = _
      unfold law19_ItemCells_L2
      rw [if_pos (by simp only [decide_eq_true_eq]; split <;> omega), gi1, bind1_some, er, ez, hlim, wrap_i64 (cur + zf x) (by omega) (by omega), if_pos (by simpa using k), ok.1, ok.2]
      rfl
    · rw [if_neg k] at ok
      obtain ⟨o, o1, o2⟩ := check_loop hN h24 hp hlim l (i + 1) (pre ++ [x]) (cur + zf x) (by rw [h1]; simp) (by simp [h2]) (by omega) (by omega) (by omega) ok.2
      refine ⟨o, ?_, o2⟩
      rw [loopO_go (f := fun (x : Int × Int) => law19_ItemCells_L2 p0 r24 p1 c m x.1 x.2) (s' := (cur + zf x, ((i + 1 : Nat) : Int)))]
      · exact o1
      · show law19_ItemCells_L2 p0 r24 p1 c m cur i = _
        have e1 : IntKind.wrap .u32 (IntKind.wrap .i64 ((IntKind.wrap .i64 (4 * (r24.length : Int))) + (IntKind.wrap .i64 (4 * (i : Int))))) = 4 * ((N + i : Nat) : Int) := by
          rw [h24, wrap_i64 (4 * (N : Int)) (by omega) (by omega), wrap_i64 (4 * (i : Int)) (by omega) (by omega), wrap_i64 _ (by omega) (by omega), wrap_u32 _ (by omega) (by omega)]; omega
        unfold law19_ItemCells_L2
        rw [if_pos (by simp only [decide_eq_true_eq]; split <;> omega), gi1, bind1_some, er, ez, hlim, wrap_i64 (cur + zf x) (by omega) (by omega), if_neg (by simpa using k), e1, ok.1, bind2_some, wrap_u32 cur (by omega) (by omega), if_neg (by simp), wrap_i64 ((i : Int) + 1) (by omega) (by omega)]
        rfl
theorem ItemCells_holds : ItemCellsPure := by
  intro p0 p1 w0 w1
  have hp : ∀ x, x ∈ p0 → 0 ≤ x ∧ x ≤ 65535 := fun x hx => wf_u16c.1 (w0.1 x hx)
  have w1 := wf_u16c.1 w1
  obtain ⟨zs, hzs⟩ : ∃ zs, zs = (p0.take 12).map zf := ⟨_, rfl⟩
  have lz : zs.length ≤ 12 := by rw [hzs, List.length_map, List.length_take]; omega
  have hz : ∀ z, z ∈ zs → 4 ≤ z ∧ z < 3000 := fun z h => by
    rw [hzs, List.mem_map] at h
    obtain ⟨x, _, rfl⟩ := h
    exact zf_le x
  obtain ⟨Ha, ea⟩ := iawake_spec []
  obtain ⟨H1, i, g, e1, G1⟩ := begun_spec Ha
  obtain ⟨H2, m2, e2, G2⟩ := emit_loop hp (p0.take 12) 0 [] H1 [16777216] 0 [] rfl rfl rfl rfl G1
  rw [← hzs] at G2
  obtain ⟨H3, e3⟩ := ended_cells (zs := zs) G2 hz lz
  obtain ⟨ws, hws⟩ : ∃ ws, ws = 16777216 :: allP (4 * ((17 * zs.length + 2 + 12 : Nat) : Int)) (4 * ((17 * zs.length + 2 : Nat) : Int)) zs ++ [16777216] := ⟨_, rfl⟩
  rw [← hws] at e3
  obtain ⟨N, hN⟩ : ∃ N, N = 17 * zs.length + 2 := ⟨_, rfl⟩
  have lw : ws.length = N := by rw [hws, hN]; simp [allP_len]
  have hws : ws = 16777216 :: allP (4 * ((N + 12 : Nat) : Int)) (4 * ((N + 0 : Nat) : Int)) zs ++ [16777216] := by rw [hN]; exact hws
  obtain ⟨h, hh⟩ : ∃ h : Nat, (h : Int) = p1 % 8000 / 4 := ⟨(p1 % 8000 / 4).toNat, by omega⟩
  have eh : IntKind.wrap .i64 ((IntKind.wrap .i64 (Int.tmod p1 8000)) - (Int.tmod (IntKind.wrap .i64 (Int.tmod p1 8000)) 4)) = 4 * (h : Int) := by
    rw [tmod_pos w1.1, wrap_i64 (p1 % 8000) (by omega) (by omega), tmod_pos (by omega), wrap_i64 _ (by omega) (by omega)]; omega
  have ef : IntKind.wrap .u32 (IntKind.wrap .i64 ((IntKind.wrap .i64 (4 * (ws.length : Int))) + 56)) = 4 * ((N + 14 : Nat) : Int) := by
    rw [lw, wrap_i64 (4 * (N : Int)) (by omega) (by omega), wrap_i64 _ (by omega) (by omega), wrap_u32 _ (by omega) (by omega)]; omega
  obtain ⟨T, hT⟩ : ∃ T, T = N + 14 + h + 32 := ⟨_, rfl⟩
  have elim : IntKind.wrap .u32 (4 * ((N + 14 : Nat) : Int) + IntKind.wrap .u32 (4 * (h : Int))) = 4 * ((N + 14 + h : Nat) : Int) := by
    rw [wrap_u32 (4 * (h : Int)) (by omega) (by omega), wrap_u32 _ (by omega) (by omega)]; omega
  have etop : IntKind.wrap .u32 (4 * ((N + 14 + h : Nat) : Int) + 128) = 4 * (T : Int) := by rw [wrap_u32 _ (by omega) (by omega)]; omega
  obtain ⟨dt, hdt⟩ : ∃ dt, dt = ((List.replicate 14 (0 : Int)).set 12 (4 * ((N + 14 : Nat) : Int))).set 13 (4 * ((N + 14 + h : Nat) : Int)) := ⟨_, rfl⟩
  have ld : dt.length = 14 := by rw [hdt]; simp
  have hk14 : mks 4 14 14 (0 : Int) = some (List.replicate 14 0) := by
    unfold mks
    rw [if_pos ⟨by omega, by omega, by have := room_bigR; omega, by omega⟩]; rfl
  have hk32 : mks 4 32 32 (0 : Int) = some (List.replicate 32 0) := by
    unfold mks
    rw [if_pos ⟨by omega, by omega, by have := room_bigR; omega, by omega⟩]; rfl
  obtain ⟨W, hW⟩ : ∃ W, W = ws ++ dt ++ List.replicate h 0 ++ List.replicate 32 0 := ⟨_, rfl⟩
  have lW : W.length = T := by rw [hW]; simp [lw, ld]; omega
  have wd : ∀ q, q < 14 → W[N + q]? = dt[q]? := fun q hq => by
    rw [hW, List.append_assoc, List.append_assoc, List.getElem?_append_right (by omega), lw, List.getElem?_append_left (by omega), Nat.add_sub_cancel_left]
  have hs : Sits W 1 (allP (4 * ((N + 12 : Nat) : Int)) (4 * ((N + 0 : Nat) : Int)) zs ++ [16777216]) := by
    have : W = 16777216 :: ((allP (4 * ((N + 12 : Nat) : Int)) (4 * ((N + 0 : Nat) : Int)) zs ++ [16777216]) ++ (dt ++ List.replicate h 0 ++ List.replicate 32 0)) := by rw [hW, hws]; simp
    rw [this]; exact sits_mk _ _ _
  have w0 : W[0]? = some 16777216 := by rw [hW, hws]; rfl
  obtain ⟨R, hR⟩ : ∃ R : Arr 16 Int, R = arrL [0, 0, 0, 0, 0, 0, 0, 0, 0, 0, 0, 0, 0, 4 * (T : Int), 0, 4 * (T : Int)] := ⟨_, rfl⟩
  obtain ⟨r, ru, rq, _⟩ := cells_run (L := N + 14 + h) (p := 100000) (lim := 4 * ((N + 14 + h : Nat) : Int)) (by decide) (by omega) (by omega) hT (by omega) (by omega) zs 0 1 (4 * ((N + 14 : Nat) : Int)) 0 0 W R hz (by omega) lW hs w0
    (by rw [wd 12 (by decide), hdt]; rfl) (by rw [wd 13 (by decide), hdt]; rfl) (by omega) (by omega) (by rw [hR]; rfl) (by omega) (by omega) (by omega) (by omega)
  have run := runG_spec (ws := ws) (dt := dt) (st := List.replicate 32 0) (h := h) (by simp [lw, ld]; omega) (R := R) (p := 100000) (r := r) (by rw [← hW, lw, ld, List.length_replicate]; exact ru)
  have hlim : IntKind.wrap .i64 ((IntKind.wrap .i64 (IntKind.wrap .u32 (IntKind.wrap .i64 ((IntKind.wrap .i64 (4 * (ws.length : Int))) + 56)))) + (IntKind.wrap .i64 ((IntKind.wrap .i64 (Int.tmod p1 8000)) - (Int.tmod (IntKind.wrap .i64 (Int.tmod p1 8000)) 4)))) = 4 * ((N + 14 + h : Nat) : Int) := by
    rw [ef, eh, wrap_i64 (4 * ((N + 14 : Nat) : Int)) (by omega) (by omega), wrap_i64 _ (by omega) (by omega)]; omega
  have lt : (p0.take 12).length = zs.length := by rw [hzs, List.length_map]
  obtain ⟨o, o1, o2⟩ := check_loop (c := r.2) (m := r.1) (T := T) (by omega) lw hp hlim (p0.take 12) 0 [] (4 * ((N + 14 : Nat) : Int)) rfl rfl (by omega) (by omega) (by omega) (by rw [← hzs]; exact rq)
  have o1 : loopO (fun (x : Int × Int) => law19_ItemCells_L2 p0 ws p1 r.2 r.1 x.1 x.2) (4 * ((N + 14 : Nat) : Int), (0 : Int)) = some o := o1
  have e2 : loopO (fun (x : Int × Heap) => law19_ItemCells_L1 p0 (.at g 0) x.1 x.2) ((0 : Int), H1) = some (.inl H2) := e2
  refine ⟨H3, ?_⟩
  unfold law19_ItemCells
  rw [ea, bind2_some, if_neg (by simp), e1, bind2_some, e2, bind1_some, sum2_inl, e3, bind3_some, if_neg (by simp), hk14, bind1_some, ef, eh, elim, etop, gi_some (by omega) (by simp), bind1_some, si_some (by omega) (by simp), bind1_some, gi_some (by omega) (by simp), bind1_some, si_some (by omega) (by simp), bind1_some, hk32, bind1_some]
  have ed : ((List.replicate 14 (0 : Int)).set (12 : Int).toNat (4 * ((N + 14 : Nat) : Int))).set (13 : Int).toNat (4 * ((N + 14 + h : Nat) : Int)) = dt := by rw [hdt]; rfl
  rw [ed, ← hR, run, bind2_some, wrap_i64 (4 * ((N + 14 : Nat) : Int)) (by omega) (by omega), o1, bind1_some]
  rcases o2 with rfl | ⟨A, rfl, a1, a2, a3, a4⟩
  · rfl
  · have et : topE (ws.length : Int) p1 = 4 * (T : Int) := by unfold topE; rw [ef, eh, elim, etop]
    rw [sum2_inl, a1, a2, a3, a4, et]; simp
end Go.Proofs.Abs
