/- The law ItemReaches: whatever the input, it answers true. No conditions. (Part ItemReachesP of its proof.) -/
import Derived.Test.YtjheniapmdcelaaItemReachesF3
set_option linter.unusedVariables false
set_option linter.unusedSimpArgs false
set_option linter.unusedSectionVars false
/- Code that is written, in plain Lean: what stands in it, what is put, what is ended. -/
namespace Go.Proofs.Abs
open Go
set_option linter.unusedVariables false
set_option linter.unusedSimpArgs false
theorem room_big : 1048576 ≤ roomBytes := Nat.le_of_ble_eq_true (by kernel_rfl)
theorem app_some {α : Type} {zb : Nat} {xs ys : List α} (h : (xs.length + ys.length) * zb ≤ 1048576) : app zb xs ys = some (xs ++ ys) := by
  unfold app; rw [if_pos (Nat.le_trans h room_big)]
theorem seg_inj (x y : T_api_Segment) (h : e_api_Segment x = e_api_Segment y) : x = y := by
  cases x; cases y; simpa [e_api_Segment] using h
theorem fix_inj (x y : T_api_Fixup) (h : e_api_Fixup x = e_api_Fixup y) : x = y := by
  cases x; cases y; simpa [e_api_Fixup] using h
theorem bld_inj (x y : T_ranges_Builder) (h : o_ranges_Builder x = o_ranges_Builder y) : x = y := by
  cases x; cases y
  simp only [o_ranges_Builder, List.cons.injEq, Prod.mk.injEq, AV.sl.injEq, true_and, and_true] at h
  rw [map_inj seg_inj _ _ h]
theorem bld_len (x : T_ranges_Builder) : (o_ranges_Builder x).length = 1 := rfl
theorem cod_inj (x y : T_emit_Code) (h : o_emit_Code x = o_emit_Code y) : x = y := by
  obtain ⟨a, b, ⟨c⟩, d, e, f, g, k⟩ := x
  obtain ⟨a', b', ⟨c'⟩, d', e', f', g', k'⟩ := y
  simp only [o_emit_Code, List.cons.injEq, Prod.mk.injEq, AV.sl.injEq, AV.int.injEq, true_and, and_true] at h
  obtain ⟨h1, h2, h3, h4, h5, rfl, rfl, rfl⟩ := h
  rw [map_inj eI_inj _ _ h1, map_inj fix_inj _ _ h2, map_inj seg_inj _ _ h3, map_inj eI_inj _ _ h4, map_inj eI_inj _ _ h5]
theorem cod_len (x : T_emit_Code) : (o_emit_Code x).length = 8 := rfl
def CodeAt (H : Heap) (p : Ptr) (c : T_emit_Code) : Prop := ∃ i o, p = .at i o ∧ get_emit_Code H i o = some c
section
variable {H : Heap} {i o : Nat} {p : Ptr} {c : T_emit_Code}
theorem cod_set (y : T_emit_Code) (h : get_emit_Code H i o = some c) : get_emit_Code (set_emit_Code H i o y) i o = some y := hgT_set cod_inj cod_len h y
theorem cod_marks (h : get_emit_Code H i o = some c) : get_ranges_Builder H i (o + 2) = some c.marks_ := by
  refine hgetT_of bld_inj ?_
  have := hget_sub (hgetT_inv h) 2 1 (by omega)
  rw [this]; rfl
theorem cod_setMarks (m : T_ranges_Builder) (h : get_emit_Code H i o = some c) : get_emit_Code (set_ranges_Builder H i (o + 2) m) i o = some ⟨c.words_, c.fixups_, m, c.pads_, c.active_, c.depth_, c.most_, c.err_⟩ := by
  refine hgetT_of cod_inj ?_
  unfold set_ranges_Builder
  rw [hset_sub0 (hgetT_inv h) (k := 2) (b := o_ranges_Builder m) (by rw [bld_len]; omega)]
  rw [hset_get (hgetT_inv h) (by rw [setAt_len (by rw [bld_len, cod_len]; omega)]; rfl)]
  rfl
def failC (c : T_emit_Code) (e : Int) : T_emit_Code := ⟨c.words_, c.fixups_, c.marks_, c.pads_, c.active_, c.depth_, c.most_, if c.err_ = 0 then e else c.err_⟩
def addW (c : T_emit_Code) (w : Int) : T_emit_Code := ⟨c.words_ ++ [w], c.fixups_, c.marks_, c.pads_, c.active_, c.depth_, c.most_, c.err_⟩
theorem mark0 (h : get_ranges_Builder H i o = some ⟨[]⟩) : ranges_Builder_Mark H (.at i o) 0 (-1) = some (set_ranges_Builder H i o ⟨[⟨0, -1⟩]⟩) := by
  unfold ranges_Builder_Mark ranges_Builder_Mark_j1
  rw [pbnd_at, h, bind1_some, if_neg (by simp), bind1_some, if_neg (by simp), bind1_some, if_neg (by simp), bind1_some, if_neg (by simp), app_some (by simp), bind1_some, bnd_def]
  rfl
/-- code of which nothing but words was written -/
def C (ws : List Int) (e : Int) : T_emit_Code := ⟨ws, [], ⟨[⟨0, -1⟩]⟩, [], [], 0, 0, e⟩
theorem new_spec (H : Heap) : ∃ H', emit_New H = some (H', .at H.length 0) ∧ get_emit_Code H' H.length 0 = some (C [] 0) := by
  have h1 : get_emit_Code (new_emit_Code H ⟨[], [], ⟨[]⟩, [], [], 0, 0, 0⟩) H.length 0 = some ⟨[], [], ⟨[]⟩, [], [], 0, 0, 0⟩ := hgT_new cod_inj cod_len H _
  unfold emit_New
  rw [bnd_def, bnd_def, h1, bind1_some, mark0 (cod_marks h1), bind1_some]
  exact ⟨_, rfl, cod_setMarks _ h1⟩
theorem clone_seg {l : List T_api_Segment} (hl : l.length ≤ 1000) : slices_Clone_api_Segment_api_Segment l = some l := by
  unfold slices_Clone_api_Segment_api_Segment; rw [app_some (by simp; omega)]; rfl
theorem list_spec {l : List T_api_Segment} (h : get_ranges_Builder H i o = some ⟨l⟩) (hl : l.length ≤ 1000) : ranges_Builder_List H (.at i o) = some l := by
  unfold ranges_Builder_List; rw [pbnd_at, h, bind1_some, clone_seg hl]; rfl
end
end Go.Proofs.Abs
/- Code for things that is written: what stands in it. -/
namespace Go.Proofs.Abs
open Go
set_option linter.unusedVariables false
set_option linter.unusedSimpArgs false
theorem gen_inj (x y : T_item_Gen) (h : o_item_Gen x = o_item_Gen y) : x = y := by
  obtain ⟨a, b, ⟨c, d, e, f⟩⟩ := x
  obtain ⟨a', b', ⟨c', d', e', f'⟩⟩ := y
  simp only [o_item_Gen, List.cons.injEq, Prod.mk.injEq, AV.sl.injEq, AV.int.injEq, true_and, and_true] at h
  obtain ⟨h1, rfl, rfl, rfl, h5, h6⟩ := h
  have p : ∀ x y : Ptr, x.av = y.av → x = y := fun x y h => by cases x <;> cases y <;> simp_all [Ptr.av]
  rw [p _ _ h1, map_inj eI_inj _ _ h5, p _ _ h6]
theorem gen_len (x : T_item_Gen) : (o_item_Gen x).length = 6 := rfl
/-- code of which nothing but words was written, and so many wait -/
def D (ws : List Int) (d m e : Int) : T_emit_Code := ⟨ws, [], ⟨[⟨0, -1⟩]⟩, [], [], d, m, e⟩
def genV (i : Nat) (L : Int := 0) (Pr : T_item_Proc := ⟨0, 0, [], .nil⟩) : T_item_Gen := ⟨.at i 0, L, Pr⟩
structure Gn (H : Heap) (i g : Nat) (c : T_emit_Code) (L : Int := 0) (Pr : T_item_Proc := ⟨0, 0, [], .nil⟩) : Prop where
  code : get_emit_Code H i 0 = some c
  gen : get_item_Gen H g 0 = some (genV i L Pr)
  ne : i ≠ g
section
variable {H : Heap} {i g : Nat} {c : T_emit_Code} {L : Int} {Pr : T_item_Proc}
theorem Gn.set (G : Gn H i g c L Pr) (c' : T_emit_Code) : Gn (set_emit_Code H i 0 c') i g c' L Pr :=
  ⟨cod_set c' G.code, hgT_other gen_inj G.ne G.gen, G.ne⟩
theorem put_gn {x : T_instr_Instr} {w : Int} (G : Gn H i g c L Pr) (hw : instr_Encode x = some (w, 0)) (hl : c.words_.length < 16384) :
    ∃ H', emit_Code_Put H (.at i 0) x = some (H', (c.words_.length : Int)) ∧ Gn H' i g (addW c w) L Pr := by
  unfold emit_Code_Put emit_Code_Put_j1
  rw [hw, bind2_some, if_neg (by simp), pbnd_at, G.code, bind1_some, if_neg (by simp; omega), app_some (by simp; omega), bind1_some, bnd_def]
  refine ⟨_, ?_, G.set (addW c w)⟩
  rw [wrap_i64 _ (by simp <;> omega) (by simp <;> omega)]
  simp [addW]
theorem reg_gn {x y w : Int} (G : Gn H i g c L Pr) (hw : instr_Encode ⟨x, y, 0, 0, 0⟩ = some (w, 0)) (hl : c.words_.length < 16384) :
    ∃ H', emit_Code_Reg H (.at i 0) x y = some (H', (c.words_.length : Int)) ∧ Gn H' i g (addW c w) L Pr := by
  obtain ⟨H', e1, e2⟩ := put_gn G hw hl
  exact ⟨H', by unfold emit_Code_Reg; rw [e1]; rfl, e2⟩
theorem inew_spec (H : Heap) : ∃ H' i g, item_New H = some (H', .at g 0) ∧ Gn H' i g (D [] 0 0 0) := by
  obtain ⟨H1, e1, g1⟩ := new_spec H
  have hi : H.length < H1.length := hgT_lt g1
  refine ⟨new_item_Gen H1 ⟨.at H.length 0, 0, ⟨0, 0, [], .nil⟩⟩, H.length, H1.length, ?_, hgT_old cod_inj g1, hgT_new gen_inj gen_len H1 _, by omega⟩
  unfold item_New
  rw [e1, bind2_some, bnd_def, bnd_def]
theorem enc_halt : instr_Encode ⟨1, 0, 0, 0, 0⟩ = some (16777216, 0) := by kernel_rfl
theorem begun_spec (H : Heap) : ∃ H' i g, law19_begun H = some (H', .at g 0) ∧ Gn H' i g (D [16777216] 0 0 0) := by
  obtain ⟨H1, i, g, e1, G1⟩ := inew_spec H
  obtain ⟨H2, e2, G2⟩ := reg_gn G1 enc_halt (by simp [D])
  refine ⟨H2, i, g, ?_, G2⟩
  unfold law19_begun
  rw [e1, bind2_some, isNil_at, if_neg (by simp), pbnd_at, G1.gen, bind1_some, bind2_some]
  have : (genV i).Code_.isNil = false := rfl
  rw [this, if_neg (by simp), pbnd_at, G1.gen, bind1_some]
  show bind2 (emit_Code_Reg H1 (.at i 0) 1 0) _ = _
  rw [e2]; rfl
/-- the words that give a register a number -/
noncomputable def numW (a n : Int) : Option (List Int) := bind1 (word_Fits (IntKind.wrap .i64 n) 16) fun r1 =>
  if r1 = true then (bind2 (instr_Encode ⟨2, a, 0, 0, IntKind.wrap .i64 n⟩) fun w e => if e = 0 then some [w] else none)
  else (bind2 (instr_Encode ⟨3, a, 0, 0, IntKind.wrap .i64 (Int.fdiv (IntKind.wrap .u32 n) (2 ^ 16))⟩) fun w e => if e = 0 then (bind2 (instr_Encode ⟨4, a, a, 0, IntKind.wrap .i64 (bitsOf .and .u32 (IntKind.wrap .u32 n) 65535)⟩) fun v f => if f = 0 then some [w, v] else none) else none)
theorem number_gn {ws l : List Int} {d m e a n : Int} (G : Gn H i g (D ws d m e) L Pr) (hn : numW a n = some l) (hl : ws.length < 16000) :
    ∃ H', emit_Code_Number H (.at i 0) a n = some H' ∧ Gn H' i g (D (ws ++ l) d m e) L Pr := by
  unfold numW at hn
  obtain ⟨r1, h1, hn⟩ := bind1_inv hn
  unfold emit_Code_Number
  rw [h1, bind1_some]
  cases r1 with
  | true =>
    rw [if_pos rfl] at hn ⊢
    obtain ⟨w, e', h2, hn⟩ := bind2_inv hn
    split at hn
    · rename_i he
      subst he
      cases hn
      obtain ⟨H1, e1, G1⟩ := put_gn G h2 (show ws.length < 16384 by omega)
      exact ⟨H1, by rw [e1]; rfl, G1⟩
    · cases hn
  | false =>
    rw [if_neg (by simp)] at hn ⊢
    obtain ⟨w, e', h2, hn⟩ := bind2_inv hn
    split at hn
    · rename_i he
      subst he
      obtain ⟨v, f', h3, hn⟩ := bind2_inv hn
      split at hn
      · rename_i hf
        subst hf
        cases hn
        obtain ⟨H1, e1, G1⟩ := put_gn G h2 (show ws.length < 16384 by omega)
        obtain ⟨H2, e2, G2⟩ := put_gn G1 h3 (show (ws ++ [w]).length < 16384 by simp; omega)
        refine ⟨H2, by rw [e1, bind2_some, e2]; rfl, ?_⟩
        have : addW (addW (D ws d m e) w) v = D (ws ++ [w, v]) d m e := by simp [addW, D]
        rw [← this]; exact G2
      · cases hn
    · cases hn
theorem sign_gn {x a b n w : Int} (G : Gn H i g c L Pr) (hw : instr_Encode ⟨x, a, b, 0, n⟩ = some (w, 0)) (hl : c.words_.length < 16384) :
    ∃ H', emit_Code_Sign H (.at i 0) x a b n = some (H', (c.words_.length : Int)) ∧ Gn H' i g (addW c w) L Pr := by
  obtain ⟨H', e1, e2⟩ := put_gn G hw hl
  exact ⟨H', by unfold emit_Code_Sign; rw [e1]; rfl, e2⟩
theorem three_gn {x a b d w : Int} (G : Gn H i g c L Pr) (hw : instr_Encode ⟨x, a, b, d, 0⟩ = some (w, 0)) (hl : c.words_.length < 16384) :
    ∃ H', emit_Code_Three H (.at i 0) x a b d = some (H', (c.words_.length : Int)) ∧ Gn H' i g (addW c w) L Pr := by
  obtain ⟨H', e1, e2⟩ := put_gn G hw hl
  exact ⟨H', by unfold emit_Code_Three; rw [e1]; rfl, e2⟩
theorem enc_dn : instr_Encode ⟨5, 15, 15, 0, -4⟩ = some (100663292, 0) := by kernel_rfl
end
end Go.Proofs.Abs
/- Code for things: what waits, what is ended. -/
namespace Go.Proofs.Abs
open Go
set_option linter.unusedVariables false
set_option linter.unusedSimpArgs false
theorem enc_up : instr_Encode ⟨5, 15, 15, 0, 4⟩ = some (100597764, 0) := by kernel_rfl
section
variable {H : Heap} {i g : Nat} {c : T_emit_Code} {L : Int} {Pr : T_item_Proc} {ws : List Int} {d m e : Int}
theorem push_gn {a w : Int} (G : Gn H i g (D ws d m e) L Pr) (hw : instr_Encode ⟨19, a, 15, 0, 0⟩ = some (w, 0)) (hl : ws.length < 16000) (h0 : 0 ≤ d) (h1 : d < 1000) :
    ∃ H', emit_Code_Push H (.at i 0) a = some H' ∧ Gn H' i g (D (ws ++ [100663292, w]) (d + 1) (if d + 1 > m then d + 1 else m) e) L Pr := by
  obtain ⟨H1, e1, G1⟩ := sign_gn G enc_dn (show ws.length < 16384 by omega)
  obtain ⟨H2, e2, G2⟩ := sign_gn G1 hw (show (ws ++ [100663292]).length < 16384 by simp; omega)
  have k : addW (addW (D ws d m e) 100663292) w = D (ws ++ [100663292, w]) d m e := by simp [addW, D]
  rw [k] at G2
  have G3 := G2.set (D (ws ++ [100663292, w]) (d + 1) m e)
  have G4 := G3.set (D (ws ++ [100663292, w]) (d + 1) (if d + 1 > m then d + 1 else m) e)
  refine ⟨_, ?_, G4⟩
  unfold emit_Code_Push
  rw [e1, bind2_some, e2, bind2_some, pbnd_at, G2.code, bind1_some]
  have w1 : IntKind.wrap .i64 ((D (ws ++ [100663292, w]) d m e).depth_ + 1) = d + 1 := wrap_i64 _ (by show _ ≤ d + 1; omega) (by show d + 1 ≤ _; omega)
  rw [w1, bnd_def, bnd_def]
  rfl
theorem drop_gn (G : Gn H i g (D ws d m e) L Pr) (h0 : 0 ≤ d) (h1 : d < 1000) {n : Int} (hn : 0 ≤ n) (hn2 : n < 1000) :
    ∃ H', emit_Code_Drop H (.at i 0) n = some H' ∧ Gn H' i g (D ws (if d - n > 0 then d - n else 0) m e) L Pr := by
  have G3 := G.set (D ws (if d - n > 0 then d - n else 0) m e)
  refine ⟨_, ?_, G3⟩
  unfold emit_Code_Drop
  rw [pbnd_at, G.code, bind1_some]
  have w1 : IntKind.wrap .i64 ((D ws d m e).depth_ - n) = d - n := wrap_i64 _ (by show _ ≤ d - n; omega) (by show d - n ≤ _; omega)
  rw [w1, bnd_def]
  rfl
theorem pop_gn {a w : Int} (G : Gn H i g (D ws d m e) L Pr) (hw : instr_Encode ⟨18, a, 15, 0, 0⟩ = some (w, 0)) (hl : ws.length < 16000) (h0 : 0 ≤ d) (h1 : d < 1000) :
    ∃ H', emit_Code_Pop H (.at i 0) a = some H' ∧ Gn H' i g (D (ws ++ [w, 100597764]) (if d - 1 > 0 then d - 1 else 0) m e) L Pr := by
  obtain ⟨H1, e1, G1⟩ := sign_gn G hw (show ws.length < 16384 by omega)
  obtain ⟨H2, e2, G2⟩ := sign_gn G1 enc_up (show (ws ++ [w]).length < 16384 by simp; omega)
  have k : addW (addW (D ws d m e) w) 100597764 = D (ws ++ [w, 100597764]) d m e := by simp [addW, D]
  rw [k] at G2
  obtain ⟨H3, e3, G3⟩ := drop_gn G2 h0 h1 (n := 1) (by omega) (by omega)
  exact ⟨H3, by unfold emit_Code_Pop; rw [e1, bind2_some, e2, bind2_some, e3]; rfl, G3⟩
theorem finish_gn (G : Gn H i g (D ws d m 0) L Pr) (hl : ws.length ≤ 16384) : ∃ H' sg, emit_Code_Finish H (.at i 0) = some (H', ⟨ws, [], sg⟩, 0) := by
  have h := G.code
  have hi : i < H.length := hgT_lt h
  obtain ⟨H1, hH1⟩ : ∃ H1, H1 = new_ranges_Builder H ⟨[]⟩ := ⟨_, rfl⟩
  have b1 : get_ranges_Builder H1 H.length 0 = some ⟨[]⟩ := by rw [hH1]; exact hgT_new bld_inj bld_len H _
  have c1 : get_emit_Code H1 i 0 = some (D ws d m 0) := by rw [hH1]; exact hgT_old cod_inj h
  have lp : ∃ H2 sg, loopO (fun (x : Int × Heap) => emit_Code_Finish_L1 [⟨0, -1⟩] i 0 H.length x.1 x.2) (0, H1) = some H2 ∧ get_emit_Code H2 i 0 = some (D ws d m 0) ∧ get_ranges_Builder H2 H.length 0 = some ⟨sg⟩ ∧ sg.length ≤ 1 := by
    by_cases hw : ws = []
    · subst hw
      refine ⟨H1, [], loopO_out ?_, c1, b1, by simp⟩
      show emit_Code_Finish_L1 [⟨0, -1⟩] i 0 H.length 0 H1 = _
      unfold emit_Code_Finish_L1
      rw [if_pos (by simp), gi_some (by omega) (by simp), bind1_some, c1, bind1_some]
      rfl
    · have h0 : 0 < ws.length := List.length_pos_iff.2 hw
      have c2 : get_emit_Code (set_ranges_Builder H1 H.length 0 ⟨[⟨0, -1⟩]⟩) i 0 = some (D ws d m 0) := hgT_other cod_inj (by omega) c1
      refine ⟨set_ranges_Builder H1 H.length 0 ⟨[⟨0, -1⟩]⟩, [⟨0, -1⟩], ?_, c2, hgT_set bld_inj bld_len b1 _, by simp⟩
      rw [loopO_go (f := fun (x : Int × Heap) => emit_Code_Finish_L1 [⟨0, -1⟩] i 0 H.length x.1 x.2) (s' := (1, set_ranges_Builder H1 H.length 0 ⟨[⟨0, -1⟩]⟩))]
      · refine loopO_out ?_
        show emit_Code_Finish_L1 [⟨0, -1⟩] i 0 H.length 1 _ = _
        unfold emit_Code_Finish_L1
        rw [if_neg (by simp)]
      · show emit_Code_Finish_L1 [⟨0, -1⟩] i 0 H.length 0 H1 = _
        unfold emit_Code_Finish_L1 emit_Code_Finish_j2
        rw [if_pos (by simp), gi_some (by omega) (by simp), bind1_some, c1, bind1_some]
        have e : ([⟨0, -1⟩] : List T_api_Segment)[(0 : Int).toNat]'(by simp) = ⟨0, -1⟩ := rfl
        rw [e, if_neg (by simp [D]; omega), if_neg (by simp), mark0 b1, bind1_some]
        rfl
  obtain ⟨H2, sg, l1, l2, l3, l4⟩ := lp
  refine ⟨H2, sg, ?_⟩
  unfold emit_Code_Finish
  rw [pbnd_at, h, bind1_some, if_neg (by simp [D]), bnd_def, bnd_def, ← hH1, c1, bind1_some, list_spec (cod_marks c1) (by simp [D]), bind1_some]
  show bind1 (loopO (fun (x : Int × Heap) => emit_Code_Finish_L1 [⟨0, -1⟩] i 0 H.length x.1 x.2) (0, H1)) _ = _
  rw [l1, bind1_some, l2, bind1_some]
  show bind1 (app 4 [] ws) _ = _
  rw [app_some (by simp; omega), bind1_some]
  show bind1 (app 32 [] ([] : List T_api_Fixup)) _ = _
  rw [app_some (by simp), bind1_some, list_spec l3 (by omega), bind1_some]
  rfl
theorem ended_gn (G : Gn H i g (D ws d m 0) L Pr) (hl : ws.length < 16000) (n : Int) : ∃ H', law19_ended H (.at g 0) n = some (H', ws ++ [16777216], true) := by
  obtain ⟨H1, e1, G1⟩ := reg_gn G enc_halt (show ws.length < 16384 by omega)
  have G1 : Gn H1 i g (D (ws ++ [16777216]) d m 0) L Pr := G1
  obtain ⟨H2, sg, e2⟩ := finish_gn G1 (by simp; omega)
  refine ⟨H2, ?_⟩
  unfold law19_ended
  rw [pbnd_at, G.gen, bind1_some]
  show bind2 (emit_Code_Reg H (.at i 0) 1 0) _ = _
  rw [e1, bind2_some, G1.gen, bind1_some]
  show bind3 (emit_Code_Finish H1 (.at i 0)) _ = _
  rw [e2, bind3_some, if_neg (by simp), app_some (by simp; omega), bind1_some, List.nil_append]
  have lp : loopO (fun (x : List Int × Int) => law19_ended_L1 ⟨ws ++ [16777216], [], sg⟩ n x.1 x.2) (ws ++ [16777216], 0) = some (.inl (ws ++ [16777216])) := by
    refine loopO_out ?_
    show law19_ended_L1 ⟨ws ++ [16777216], [], sg⟩ n (ws ++ [16777216]) 0 = _
    unfold law19_ended_L1
    rw [if_neg (by simp)]
  rw [lp, bind1_some, sum2_inl]
theorem enc_st0 : instr_Encode ⟨19, 0, 15, 0, 0⟩ = some (319750144, 0) := by kernel_rfl
theorem enc_ld1 : instr_Encode ⟨18, 1, 15, 0, 0⟩ = some (304021504, 0) := by kernel_rfl
theorem depth_gn (G : Gn H i g c L Pr) : emit_Code_Depth H (.at i 0) = some c.depth_ := by
  unfold emit_Code_Depth; rw [pbnd_at, G.code]; rfl
theorem wait_gn (G : Gn H i g (D ws d m e) L Pr) (hl : ws.length < 16000) (h0 : 0 ≤ d) (h1 : d < 32) :
    ∃ H', item_Gen_Wait H (.at g 0) = some H' ∧ Gn H' i g (D (ws ++ [100663292, 319750144]) (d + 1) (if d + 1 > m then d + 1 else m) e) L Pr := by
  obtain ⟨H1, e1, G1⟩ := push_gn G enc_st0 hl h0 (by omega)
  refine ⟨H1, ?_, G1⟩
  unfold item_Gen_Wait
  rw [pbnd_at, G.gen, bind1_some]
  show bind1 (emit_Code_Depth H (.at i 0)) _ = _
  rw [depth_gn G, bind1_some, if_neg (by show ¬ (decide (d ≥ 32) = true); simp; omega)]
  unfold item_Gen_Wait_j1
  rw [G.gen, bind1_some]
  show bind1 (emit_Code_Push H (.at i 0) 0) _ = _
  rw [e1]; rfl
end
end Go.Proofs.Abs
/- Bits of words, as numbers. -/
namespace Go.Proofs.Abs
open Go
set_option linter.unusedVariables false
set_option linter.unusedSimpArgs false
theorem ofInt_nat (a : Nat) (h : a < 4294967296) : (BitVec.ofInt 32 (a : Int)).toNat = a := by
  rw [BitVec.toNat_ofInt]
  have : ((a : Int) % ((2 ^ 32 : Nat) : Int)) = (a : Int) := Int.emod_eq_of_lt (by omega) (by simp; omega)
  rw [this]; simp
theorem or_nat (a b : Nat) (ha : a < 4294967296) (hb : b < 4294967296) : bitsOf .or .u32 (a : Int) (b : Int) = ((a ||| b : Nat) : Int) := by
  have h : a ||| b < 4294967296 := Nat.or_lt_two_pow (n := 32) ha hb
  show IntKind.u32.wrap ((BitVec.ofInt 32 (a : Int) ||| BitVec.ofInt 32 (b : Int)).toNat : Int) = _
  rw [BitVec.toNat_or, ofInt_nat a ha, ofInt_nat b hb, wrap_u32 _ (by omega) (by omega)]
theorem and_nat (a b : Nat) (ha : a < 4294967296) (hb : b < 4294967296) : bitsOf .and .u32 (a : Int) (b : Int) = ((a &&& b : Nat) : Int) := by
  have h : a &&& b < 4294967296 := Nat.lt_of_le_of_lt Nat.and_le_left ha
  show IntKind.u32.wrap ((BitVec.ofInt 32 (a : Int) &&& BitVec.ofInt 32 (b : Int)).toNat : Int) = _
  rw [BitVec.toNat_and, ofInt_nat a ha, ofInt_nat b hb, wrap_u32 _ (by omega) (by omega)]
theorem or_part (k : Nat) (x b : Int) (h0 : 0 ≤ x) (hb0 : 0 ≤ b) (hb : b < 2 ^ k) (h : x * 2 ^ k + b < 4294967296) : bitsOf .or .u32 (x * 2 ^ k) b = x * 2 ^ k + b := by
  obtain ⟨m, rfl⟩ : ∃ m : Nat, x = m := ⟨x.toNat, by omega⟩
  obtain ⟨n, rfl⟩ : ∃ n : Nat, b = n := ⟨b.toNat, by omega⟩
  have hn : n < 2 ^ k := by exact_mod_cast hb
  have e0 : ((m : Int) * 2 ^ k + n) = ((m * 2 ^ k + n : Nat) : Int) := by simp
  rw [e0] at h
  have hs : m * 2 ^ k + n < 4294967296 := Int.ofNat_lt.1 h
  clear h e0
  have e : ((m : Int) * 2 ^ k) = ((m * 2 ^ k : Nat) : Int) := by simp
  rw [e, or_nat _ _ (by omega) (by omega), ← Nat.shiftLeft_eq, ← Nat.shiftLeft_add_eq_or_of_lt hn]
  simp
theorem and_low (k : Nat) (a : Int) (h0 : 0 ≤ a) (h : a < 4294967296) (hk : k ≤ 31) : bitsOf .and .u32 a ((2 ^ k - 1 : Nat) : Int) = a % 2 ^ k := by
  obtain ⟨n, rfl⟩ : ∃ n : Nat, a = n := ⟨a.toNat, by omega⟩
  have p : 2 ^ k ≤ 2 ^ 31 := Nat.pow_le_pow_right (by decide) hk
  rw [and_nat _ _ (by omega) (by omega), Nat.and_two_pow_sub_one_eq_mod]
  simp
theorem and_16 (a : Int) (h0 : 0 ≤ a) (h : a < 4294967296) : bitsOf .and .u32 a 65535 = a % 65536 := and_low 16 a h0 h (by decide)
theorem wrap_mod (n : Int) : IntKind.u32.wrap n = n % 4294967296 := by
  simp only [IntKind.wrap, IntKind.bits, IntKind.signed]
  simp
/-- the fields of a word -/
theorem word_of (op a b m c : Int) (h1 : 0 ≤ op) (h2 : op < 128) (h3 : 0 ≤ a) (h4 : a < 16) (h5 : 0 ≤ b) (h6 : b < 16) (h7 : 0 ≤ c) (h8 : c < 16) (h9 : m = 0 ∨ c = 0) :
    bitsOf .or .u32 (bitsOf .or .u32 (bitsOf .or .u32 (bitsOf .or .u32 (IntKind.wrap .u32 ((IntKind.wrap .u32 op) * 2 ^ 24)) (IntKind.wrap .u32 ((IntKind.wrap .u32 a) * 2 ^ 20))) (IntKind.wrap .u32 ((IntKind.wrap .u32 b) * 2 ^ 16))) (bitsOf .and .u32 (IntKind.wrap .u32 m) 65535)) (IntKind.wrap .u32 c)
      = op * 16777216 + a * 1048576 + b * 65536 + m % 65536 + c := by
  rw [wrap_u32 op h1 (by omega), wrap_u32 a h3 (by omega), wrap_u32 b h5 (by omega), wrap_u32 c h7 (by omega), wrap_u32 (op * 2 ^ 24) (by omega) (by omega), wrap_u32 (a * 2 ^ 20) (by omega) (by omega), wrap_u32 (b * 2 ^ 16) (by omega) (by omega),
    and_16 _ (by rw [wrap_mod]; omega) (by rw [wrap_mod]; omega), wrap_mod]
  rw [or_part 24 op (a * 2 ^ 20) h1 (by omega) (by omega) (by omega)]
  have e1 : op * 2 ^ 24 + a * 2 ^ 20 = (op * 16 + a) * 2 ^ 20 := by omega
  rw [e1, or_part 20 (op * 16 + a) (b * 2 ^ 16) (by omega) (by omega) (by omega) (by omega)]
  have e2 : (op * 16 + a) * 2 ^ 20 + b * 2 ^ 16 = (op * 256 + a * 16 + b) * 2 ^ 16 := by omega
  rw [e2, or_part 16 (op * 256 + a * 16 + b) (m % 4294967296 % 65536) (by omega) (by omega) (by omega) (by omega)]
  rcases h9 with rfl | rfl
  · have e3 : (op * 256 + a * 16 + b) * 2 ^ 16 + 0 % 4294967296 % 65536 = (op * 4096 + a * 256 + b * 16 + 0) * 2 ^ 12 := by omega
    have e4 : (op * 4096 + a * 256 + b * 16 + 0) * 2 ^ 12 = ((op * 4096 + a * 256 + b * 16 + 0) * 2 ^ 8) * 2 ^ 4 := by omega
    rw [e3, e4, or_part 4 _ c (by omega) h7 (by omega) (by omega)]
    omega
  · have e3 : (op * 256 + a * 16 + b) * 2 ^ 16 + m % 4294967296 % 65536 = ((op * 256 + a * 16 + b) * 2 ^ 16 + m % 4294967296 % 65536) * 2 ^ 0 := by omega
    rw [e3, or_part 0 _ 0 (by omega) (by omega) (by omega) (by omega)]
    omega
end Go.Proofs.Abs
/- What a word is, reckoned: the document's decoding without its loop. -/
namespace Go.Proofs.Abs
open Go
set_option linter.unusedVariables false
set_option linter.unusedSimpArgs false
theorem power_spec (n : Nat) (hn : n ≤ 32) : ref01_Power (n : Int) = some (2 ^ n) := by
  have go : ∀ (k : Nat) (a j : Int), j + k = n → 0 ≤ j → 0 ≤ a → a * 2 ^ k ≤ 4294967296 → loopO (fun (x : Int × Int) => ref01_Power_L1 (n : Int) x.1 x.2) (a, j) = some (a * 2 ^ k) := by
    intro k
    induction k with
    | zero =>
      intro a j h1 h2 h3 h4
      obtain rfl : j = n := by omega
      refine loopO_out ?_
      show ref01_Power_L1 (n : Int) a n = _
      unfold ref01_Power_L1; rw [if_neg (by simp)]; simp
    | succ k ih =>
      intro a j h1 h2 h3 h4
      have e : a * 2 ^ (k + 1) = a * 2 * 2 ^ k := by rw [Int.pow_succ, Int.mul_comm (2 ^ k) 2, ← Int.mul_assoc]
      have p : (1 : Int) ≤ 2 ^ k := Int.pow_pos (by decide)
      have le : a * 2 ≤ 4294967296 := by
        rw [e] at h4
        have := Int.mul_le_mul_of_nonneg_left p (show 0 ≤ a * 2 by omega)
        omega
      rw [loopO_go (f := fun (x : Int × Int) => ref01_Power_L1 (n : Int) x.1 x.2) (s' := (a * 2, j + 1))]
      · rw [ih (a * 2) (j + 1) (by omega) (by omega) (by omega) (by rw [← e]; exact h4), e]
      · show ref01_Power_L1 (n : Int) a j = _
        unfold ref01_Power_L1
        rw [if_pos (by simp; omega), wrap_i64 _ (by omega) (by omega), wrap_i64 _ (by omega) (by omega)]
  unfold ref01_Power
  have p : (2 : Int) ^ n ≤ 4294967296 := by
    have : (2 : Nat) ^ n ≤ 2 ^ 32 := Nat.pow_le_pow_right (by decide) hn
    have e : ((2 : Int) ^ n) = ((2 ^ n : Nat) : Int) := by simp
    rw [e]; exact Int.ofNat_le.2 this
  have := go n 1 0 (by omega) (by omega) (by omega) (by rw [Int.one_mul]; exact p)
  rw [this]; simp [bind1_some]
noncomputable def sextC (w k : Int) : Option Int := bind1 (remI .i64 (IntKind.wrap .i64 w) (2 ^ k.toNat)) fun v4 =>
  if (decide (v4 ≥ (IntKind.wrap .i64 (Int.tdiv (2 ^ k.toNat) 2)))) = true then (ref01_Sext_j1 (IntKind.wrap .i64 (v4 - 2 ^ k.toNat)))
  else (ref01_Sext_j1 v4)
theorem sext_eq (w : Int) (k : Nat) (h0 : 1 ≤ k) (hk : k ≤ 32) : ref01_Sext w k = sextC w k := by
  unfold ref01_Sext
  rw [if_neg (by simp; omega)]
  have : (if (32 : Int) < k then (32 : Int) else k) = k := by rw [if_neg (by omega)]
  rw [this, power_spec k hk, bind1_some]; rfl
theorem sext16 (w : Int) : ref01_Sext w 16 = sextC w 16 := sext_eq w 16 (by decide) (by decide)
theorem sext24 (w : Int) : ref01_Sext w 24 = sextC w 24 := sext_eq w 24 (by decide) (by decide)
noncomputable def decC_j5 (p0 : Int) (j11 : T_ref02_Instr) : Option (T_ref02_Instr × Int) :=
  bind2 (ref02_Encode j11) fun r12 r13 =>
  if ((r13 != 0) || (r12 != p0)) = true then (some ((T_ref02_Instr.mk 0 0 0 0 0), 21))
  else (some (j11, 0))
noncomputable def decC_j7 (p0 : Int) (j21 : T_ref02_Instr) : Option (T_ref02_Instr × Int) :=
  decC_j5 p0 j21
noncomputable def decC_j8 (p0 : Int) (j23 : T_ref02_Instr) : Option (T_ref02_Instr × Int) :=
  decC_j7 p0 j23
noncomputable def decC_j6 (p0 : Int) (j9 : T_ref02_Instr) (r1 : Int) (j20 : Bool) : Option (T_ref02_Instr × Int) :=
  if j20 = true then (decC_j7 p0 (T_ref02_Instr.mk j9.Op_ j9.A_ j9.B_ j9.C_ (IntKind.wrap .i64 (Int.tmod p0 65536))))
  else (if (r1 == 7) = true then (bind1 (sextC p0 24) fun r25 =>
  decC_j8 p0 (T_ref02_Instr.mk j9.Op_ j9.A_ j9.B_ j9.C_ (IntKind.wrap .i64 r25)))
  else (decC_j8 p0 j9))
noncomputable def decC_j9 (p0 : Int) (j9 : T_ref02_Instr) (r1 : Int) (j28 : Bool) : Option (T_ref02_Instr × Int) :=
  decC_j6 p0 j9 r1 j28
noncomputable def decC_j4 (p0 : Int) (j9 : T_ref02_Instr) (r1 : Int) (j10 : Bool) : Option (T_ref02_Instr × Int) :=
  if j10 = true then (bind1 (sextC p0 16) fun r18 =>
  decC_j5 p0 (T_ref02_Instr.mk j9.Op_ j9.A_ j9.B_ j9.C_ (IntKind.wrap .i64 r18)))
  else (if (r1 == 2) = true then (decC_j6 p0 j9 r1 (r1 == 2))
  else (if (r1 == 4) = true then (decC_j9 p0 j9 r1 (r1 == 4))
  else (decC_j9 p0 j9 r1 (r1 == 8))))
noncomputable def decC_j3 (r1 : Int) (p0 : Int) (j9 : T_ref02_Instr) : Option (T_ref02_Instr × Int) :=
  if (r1 == 1) = true then (decC_j4 p0 j9 r1 (r1 == 1))
  else (decC_j4 p0 j9 r1 (r1 == 3))
noncomputable def decC_j2 (r5 : Bool) (r1 : Int) (p0 : Int) (j8 : T_ref02_Instr) : Option (T_ref02_Instr × Int) :=
  if r5 = true then (decC_j3 r1 p0 (T_ref02_Instr.mk j8.Op_ j8.A_ j8.B_ (IntKind.wrap .i64 (Int.tmod p0 16)) j8.Imm_))
  else (decC_j3 r1 p0 j8)
noncomputable def decC_j1 (r4 : Bool) (r5 : Bool) (r1 : Int) (p0 : Int) (j7 : T_ref02_Instr) : Option (T_ref02_Instr × Int) :=
  if r4 = true then (decC_j2 r5 r1 p0 (T_ref02_Instr.mk j7.Op_ j7.A_ (IntKind.wrap .i64 (Int.tmod (IntKind.wrap .u32 (Int.tdiv p0 65536)) 16)) j7.C_ j7.Imm_))
  else (decC_j2 r5 r1 p0 j7)
noncomputable def decC  (p0 : Int) : Option (T_ref02_Instr × Int) :=
  bind1 (ref02_Shape (IntKind.wrap .i64 (IntKind.wrap .u32 (Int.tdiv p0 16777216)))) fun r1 =>
  bind3 (ref02_has r1) fun r3 r4 r5 =>
  if r3 = true then (decC_j1 r4 r5 r1 p0 (T_ref02_Instr.mk (IntKind.wrap .i64 (IntKind.wrap .u32 (Int.tdiv p0 16777216))) (IntKind.wrap .i64 (Int.tmod (IntKind.wrap .u32 (Int.tdiv p0 1048576)) 16)) 0 0 0))
  else (decC_j1 r4 r5 r1 p0 (T_ref02_Instr.mk (IntKind.wrap .i64 (IntKind.wrap .u32 (Int.tdiv p0 16777216))) 0 0 0 0))
theorem decC_j5_eq (p0 : Int) (j11 : T_ref02_Instr) : ref02_Decode_j5 p0 j11 = decC_j5 p0 j11 := by
  unfold ref02_Decode_j5 decC_j5
  simp only [sext16, sext24]
theorem decC_j7_eq (p0 : Int) (j21 : T_ref02_Instr) : ref02_Decode_j7 p0 j21 = decC_j7 p0 j21 := by
  unfold ref02_Decode_j7 decC_j7
  simp only [sext16, sext24, decC_j5_eq]
theorem decC_j8_eq (p0 : Int) (j23 : T_ref02_Instr) : ref02_Decode_j8 p0 j23 = decC_j8 p0 j23 := by
  unfold ref02_Decode_j8 decC_j8
  simp only [sext16, sext24, decC_j5_eq, decC_j7_eq]
theorem decC_j6_eq (p0 : Int) (j9 : T_ref02_Instr) (r1 : Int) (j20 : Bool) : ref02_Decode_j6 p0 j9 r1 j20 = decC_j6 p0 j9 r1 j20 := by
  unfold ref02_Decode_j6 decC_j6
  simp only [sext16, sext24, decC_j5_eq, decC_j7_eq, decC_j8_eq]
theorem decC_j9_eq (p0 : Int) (j9 : T_ref02_Instr) (r1 : Int) (j28 : Bool) : ref02_Decode_j9 p0 j9 r1 j28 = decC_j9 p0 j9 r1 j28 := by
  unfold ref02_Decode_j9 decC_j9
  simp only [sext16, sext24, decC_j5_eq, decC_j7_eq, decC_j8_eq, decC_j6_eq]
theorem decC_j4_eq (p0 : Int) (j9 : T_ref02_Instr) (r1 : Int) (j10 : Bool) : ref02_Decode_j4 p0 j9 r1 j10 = decC_j4 p0 j9 r1 j10 := by
  unfold ref02_Decode_j4 decC_j4
  simp only [sext16, sext24, decC_j5_eq, decC_j7_eq, decC_j8_eq, decC_j6_eq, decC_j9_eq]
theorem decC_j3_eq (r1 : Int) (p0 : Int) (j9 : T_ref02_Instr) : ref02_Decode_j3 r1 p0 j9 = decC_j3 r1 p0 j9 := by
  unfold ref02_Decode_j3 decC_j3
  simp only [sext16, sext24, decC_j5_eq, decC_j7_eq, decC_j8_eq, decC_j6_eq, decC_j9_eq, decC_j4_eq]
theorem decC_j2_eq (r5 : Bool) (r1 : Int) (p0 : Int) (j8 : T_ref02_Instr) : ref02_Decode_j2 r5 r1 p0 j8 = decC_j2 r5 r1 p0 j8 := by
  unfold ref02_Decode_j2 decC_j2
  simp only [sext16, sext24, decC_j5_eq, decC_j7_eq, decC_j8_eq, decC_j6_eq, decC_j9_eq, decC_j4_eq, decC_j3_eq]
theorem decC_j1_eq (r4 : Bool) (r5 : Bool) (r1 : Int) (p0 : Int) (j7 : T_ref02_Instr) : ref02_Decode_j1 r4 r5 r1 p0 j7 = decC_j1 r4 r5 r1 p0 j7 := by
  unfold ref02_Decode_j1 decC_j1
  simp only [sext16, sext24, decC_j5_eq, decC_j7_eq, decC_j8_eq, decC_j6_eq, decC_j9_eq, decC_j4_eq, decC_j3_eq, decC_j2_eq]
theorem decC_eq (p0 : Int) : ref02_Decode p0 = decC p0 := by
  unfold ref02_Decode decC
  simp only [sext16, sext24, decC_j5_eq, decC_j7_eq, decC_j8_eq, decC_j6_eq, decC_j9_eq, decC_j4_eq, decC_j3_eq, decC_j2_eq, decC_j1_eq]
end Go.Proofs.Abs
/- The document's machine that runs words, in plain Lean. -/
namespace Go.Proofs.Abs
open Go
set_option linter.unusedVariables false
set_option linter.unusedSimpArgs false
theorem room_bigR : 1048576 ≤ roomBytes := Nat.le_of_ble_eq_true (by kernel_rfl)
theorem with_loop (p2 : List Int) (k : Nat) : ∀ (n : Nat) (p1 : Int) (a5 : List Int) (a6 : Int), 0 ≤ a6 → a6 + n = p2.length → 0 ≤ p1 → p1 + p2.length ≤ a5.length → (a5.length : Int) ≤ 4294967295 →
    loopO (fun (x : List Int × Int) => ref03_with_L1 p2 p1 x.1 x.2) (a5, a6) = some (setAt a5 (p1 + a6).toNat (p2.drop a6.toNat))
  | 0, p1, a5, a6, h0, h1, h2, h3, h4 => by
    rw [loopO_out (r := a5)]
    · have : p2.drop a6.toNat = [] := List.drop_eq_nil_of_le (by omega)
      rw [this]
      simp [setAt]
    · show ref03_with_L1 p2 p1 a5 a6 = _
      unfold ref03_with_L1
      have c : (decide (a6 < (p2.length : Int))) = false := by simp; omega
      simp [c]
  | n + 1, p1, a5, a6, h0, h1, h2, h3, h4 => by
    have hlt : a6 < p2.length := by omega
    have e : ref03_with_L1 p2 p1 a5 a6 = some (.inl (a5.set (p1 + a6).toNat (p2[a6.toNat]'(by omega)), a6 + 1)) := by
      unfold ref03_with_L1
      have c : (decide (a6 < (p2.length : Int))) = true := by simp; omega
      rw [if_pos c, gi_some h0 hlt, bind1_some, wrap_i64 (p1 + a6) (by omega) (by omega), gi_some (by omega) (by omega), bind1_some, si_some (by omega) (by omega), bind1_some, wrap_i64 (a6 + 1) (by omega) (by omega)]
    rw [loopO_go (s' := (a5.set (p1 + a6).toNat (p2[a6.toNat]'(by omega)), a6 + 1)) e]
    rw [with_loop p2 k n p1 _ (a6 + 1) (by omega) (by omega) h2 (by simpa using h3) (by simpa using h4)]
    congr 1
    have e1 : (p1 + (a6 + 1)).toNat = (p1 + a6).toNat + 1 := by omega
    have e2 : (a6 + 1).toNat = a6.toNat + 1 := by omega
    have e3 : p2.drop a6.toNat = p2[a6.toNat]'(by omega) :: p2.drop (a6.toNat + 1) := by rw [List.drop_eq_getElem_cons]
    rw [e1, e2, e3]
    apply List.ext_getElem?
    intro j
    simp only [setAt, List.getElem?_append, List.length_append, List.length_take, List.getElem?_take, List.getElem?_drop, List.length_drop, List.length_set, List.getElem?_set, List.length_cons, List.getElem?_cons]
    grind
theorem with_spec {ws : List Int} {E : Arr 5 Int} (p1 : Int) (p2 : List Int) (h0 : 0 ≤ p1) (h1 : p1 + p2.length ≤ ws.length) (h2 : ws.length ≤ 262144) : ref03_with ⟨E, ws⟩ p1 p2 = some ⟨E, setAt ws p1.toNat p2⟩ := by
  unfold ref03_with
  have hm : mks 4 (ws.length : Int) (ws.length : Int) (0 : Int) = some (List.replicate ws.length 0) := by
    unfold mks
    rw [if_pos ⟨by omega, by omega, by simp [roomBytes]; omega, by omega⟩]
    simp
  simp only [hm, bind1_some, bnd_def]
  have hc : cpy (List.replicate ws.length (0 : Int)) 0 ws = ws := by
    simp [cpy, setAt]
  rw [hc, with_loop p2 0 p2.length p1 ws 0 (by omega) (by omega) h0 h1 (by omega), bind1_some]
  simp

/-- a memory: words, and a stack of zeros -/
def endsR (n : Int) : Arr 5 Int := arrL [4 * n, 4 * n, 4 * n, 4 * n, 4 * n + 256]
def memR (n : Nat) (W : List Int) : T_ref03_Mem := ⟨endsR n, W⟩
theorem fill_spec {E : Arr 5 Int} {W l : List Int} (k : Nat) (hk : k + l.length ≤ W.length) (hW : W.length ≤ 20000) : ref03_Fill ⟨E, W⟩ (4 * (k : Int)) l = some (⟨E, setAt W k l⟩, 0) := by
  unfold ref03_Fill
  simp only [tmod_pos (show 0 ≤ 4 * (k : Int) by omega), tdiv_pos (show 0 ≤ 4 * (k : Int) by omega)]
  have e1 : 4 * (k : Int) % 4 = 0 := by omega
  have e2 : 4 * (k : Int) / 4 = (k : Int) := by omega
  rw [e1, e2, wrap_u32 (k : Int) (by omega) (by omega), wrap_i64 (k : Int) (by omega) (by omega), wrap_i64 _ (by omega) (by omega), if_neg (by simp), if_neg (by simp; omega), with_spec (k : Int) l (by omega) (by omega) (by omega), bind1_some]
  simp
theorem fetch_spec {n k : Nat} {W : List Int} {w : Int} (hk : k < n) (hn : n ≤ 16000) (hw : W[k]? = some w) : ref03_Fetch (memR n W) (4 * (k : Int)) = some (w, 0) := by
  have hl : k < W.length := (List.getElem?_eq_some_iff.1 hw).1
  unfold ref03_Fetch ref03_Load
  simp only [tmod_pos (show 0 ≤ 4 * (k : Int) by omega), tdiv_pos (show 0 ≤ 4 * (k : Int) by omega)]
  have e1 : 4 * (k : Int) % 4 = 0 := by omega
  have e2 : 4 * (k : Int) / 4 = (k : Int) := by omega
  have e3 : (memR n W).Ends_.g 0 = 4 * (n : Int) := rfl
  have e4 : (memR n W).W_ = W := rfl
  rw [e1, e2, e4, wrap_u32 (k : Int) (by omega) (by omega), wrap_i64 (k : Int) (by omega) (by omega), if_neg (by simp), if_neg (by simp; omega), gi_some (by omega) (by omega), bind1_some, bind2_some, e3, if_neg (by simp; omega)]
  have : W[((k : Nat) : Int).toNat]'(by simpa using hl) = w := by
    have h : W[k]'hl = w := by rw [List.getElem?_eq_getElem hl] at hw; exact Option.some.inj hw
    simpa using h
  rw [this]
/-! one step, and many -/
def tick (c : T_ref04_Cpu) : T_ref04_Cpu := ⟨c.R_, c.PC_, c.EPC_, c.Cause_, c.State_, c.Why_, IntKind.wrap .i64 (c.Steps_ + 1), c.Taken_, c.Out_, c.Entry_, c.Vector_, c.Guard_, c.Limit_, c.Input_⟩
theorem step_spec {c c' : T_ref04_Cpu} {m m' : T_ref03_Mem} {w : Int} {x : T_ref02_Instr} (h0 : c.State_ = 0) (h1 : ref03_Fetch m c.PC_ = some (w, 0)) (h2 : ref02_Decode w = some (x, 0)) (h3 : ref04_do (tick c) m x = some (c', m')) : ref04_Step c m = some (c', m') := by
  unfold ref04_Step
  rw [if_neg (by simp [h0]), h1, bind2_some, if_neg (by simp), h2, bind2_some, if_neg (by simp)]
  show bind2 (ref04_do (tick c) m x) _ = _
  rw [h3]; rfl
def RunTo (p a : Int) (m : T_ref03_Mem) (c : T_ref04_Cpu) (r : T_ref03_Mem × T_ref04_Cpu) : Prop := loopO (fun (x : Int × T_ref03_Mem × T_ref04_Cpu) => ref19_Run_L1 p x.1 x.2.1 x.2.2) (a, m, c) = some r
theorem run_go {p a : Int} {m m' : T_ref03_Mem} {c c' : T_ref04_Cpu} {r} (ha : 0 ≤ a) (hp : a < p) (hp2 : p ≤ 1000000) (h0 : c.State_ = 0) (h : ref04_Step c m = some (c', m')) (k : RunTo p (a + 1) m' c' r) : RunTo p a m c r := by
  unfold RunTo
  rw [loopO_go (f := fun (x : Int × T_ref03_Mem × T_ref04_Cpu) => ref19_Run_L1 p x.1 x.2.1 x.2.2) (s' := (a + 1, m', c'))]
  · exact k
  · show ref19_Run_L1 p a m c = _
    unfold ref19_Run_L1
    rw [if_pos (by simp [h0, hp]), h, bind2_some, wrap_i64 _ (by omega) (by omega)]
theorem run_end {p a : Int} {m : T_ref03_Mem} {c : T_ref04_Cpu} (h : c.State_ ≠ 0) : RunTo p a m c (m, c) := by
  refine loopO_out ?_
  show ref19_Run_L1 p a m c = _
  unfold ref19_Run_L1
  rw [if_neg (by simp [h])]
/-- where it begins -/
def cpu0 (n : Int) : T_ref04_Cpu := ⟨(arrL [0, 0, 0, 0, 0, 0, 0, 0, 0, 0, 0, 0, 0, 4 * n + 192, 0, 4 * n + 256] : Arr 16 Int), 4, 0, 0, 0, 0, 0, 0, [], 4, 0, 4, 4 * n, []⟩
theorem arr5 {a b c d e a' b' c' d' e' : Int} (h1 : a = a') (h2 : b = b') (h3 : c = c') (h4 : d = d') (h5 : e = e') : (arrL [a, b, c, d, e] : Arr 5 Int) = arrL [a', b', c', d', e'] := by subst h1 h2 h3 h4 h5; rfl
theorem arrR {x y x' y' : Int} (h1 : x = x') (h2 : y = y') : (arrL [0, 0, 0, 0, 0, 0, 0, 0, 0, 0, 0, 0, 0, x, 0, y] : Arr 16 Int) = arrL [0, 0, 0, 0, 0, 0, 0, 0, 0, 0, 0, 0, 0, x', 0, y'] := by subst h1 h2; rfl
theorem run_spec {ws : List Int} (hl : ws.length ≤ 15000) {q : Ptr} {r : T_ref03_Mem × T_ref04_Cpu} (h : RunTo 5000 0 (memR ws.length (ws ++ List.replicate 64 0)) (cpu0 ws.length) r) : law19_run q ws = some r.2 := by
  obtain ⟨n, hn⟩ : ∃ n, n = ws.length := ⟨_, rfl⟩
  rw [← hn] at h hl
  obtain ⟨z, hz⟩ : ∃ z : List Int, z = List.replicate 64 0 := ⟨_, rfl⟩
  have lz : z.length = 64 := by rw [hz, List.length_replicate]
  rw [← hz] at h
  have hk : mks 4 64 64 (0 : Int) = some z := by
    unfold mks
    rw [if_pos ⟨by omega, by omega, by have := room_bigR; omega, by omega⟩, hz]; rfl
  have hk2 : mks 4 ((n : Int) + 64) ((n : Int) + 64) (0 : Int) = some (List.replicate (n + 64) 0) := by
    unfold mks
    rw [if_pos ⟨by omega, by omega, by have := room_bigR; omega, by omega⟩]
    have : ((n : Int) + 64).toNat = n + 64 := by omega
    rw [this]
  have w0 : IntKind.wrap .i64 (4 * (n : Int)) = 4 * (n : Int) := wrap_i64 _ (by omega) (by omega)
  have w1 : IntKind.wrap .u32 (IntKind.wrap .i64 (4 * (n : Int))) = 4 * (n : Int) := by rw [w0]; exact wrap_u32 _ (by omega) (by omega)
  have w2 : IntKind.wrap .u32 (IntKind.wrap .i64 (4 * (([] : List Int).length : Int))) = 0 := rfl
  have w3 : IntKind.wrap .u32 (IntKind.wrap .u32 (IntKind.wrap .i64 (4 * (n : Int))) + IntKind.wrap .u32 (IntKind.wrap .i64 (4 * (([] : List Int).length : Int)))) = 4 * (n : Int) := by rw [w1, w2]; exact (wrap_u32 _ (by omega) (by omega)).trans (by omega)
  have w4 : IntKind.wrap .u32 (IntKind.wrap .u32 (IntKind.wrap .u32 (IntKind.wrap .i64 (4 * (n : Int))) + IntKind.wrap .u32 (IntKind.wrap .i64 (4 * (([] : List Int).length : Int)))) + IntKind.wrap .u32 0) = 4 * (n : Int) := by
    rw [w3]; exact (wrap_u32 _ (by show 0 ≤ 4 * (n : Int) + 0; omega) (by show 4 * (n : Int) + 0 ≤ _; omega)).trans (by show 4 * (n : Int) + 0 = _; omega)
  have w5 : IntKind.wrap .u32 (IntKind.wrap .i64 (4 * (z.length : Int))) = 256 := by rw [lz]; rfl
  have w6 : IntKind.wrap .u32 (IntKind.wrap .u32 (IntKind.wrap .u32 (IntKind.wrap .u32 (IntKind.wrap .i64 (4 * (n : Int))) + IntKind.wrap .u32 (IntKind.wrap .i64 (4 * (([] : List Int).length : Int)))) + IntKind.wrap .u32 0) + IntKind.wrap .u32 (IntKind.wrap .i64 (4 * (z.length : Int)))) = 4 * (n : Int) + 256 := by
    rw [w4, w5]; exact wrap_u32 _ (by omega) (by omega)
  have w7 : IntKind.wrap .u32 (IntKind.wrap .i64 (IntKind.wrap .i64 (4 * (n : Int)) + 256)) = 4 * (n : Int) + 256 := by
    rw [w0, wrap_i64 _ (by omega) (by omega)]; exact wrap_u32 _ (by omega) (by omega)
  have w8 : IntKind.wrap .u32 (IntKind.wrap .u32 (IntKind.wrap .i64 (IntKind.wrap .i64 (4 * (n : Int)) + 256)) - 64) = 4 * (n : Int) + 192 := by
    rw [w7, wrap_u32 _ (by omega) (by omega)]; omega
  have g4 : (endsR n).g 4 = 4 * (n : Int) + 256 := rfl
  have w9 : IntKind.wrap .u32 (Int.tdiv (4 * (n : Int) + 256) 4) = (n : Int) + 64 := by rw [tdiv_pos (by omega), wrap_u32 _ (by omega) (by omega)]; omega
  have f1 : ref03_Fill ⟨endsR n, List.replicate (n + 64) 0⟩ 0 ws = some (⟨endsR n, ws ++ z⟩, 0) := by
    have : ref03_Fill ⟨endsR n, List.replicate (n + 64) 0⟩ (4 * ((0 : Nat) : Int)) ws = _ := fill_spec 0 (by simp; omega) (by simp; omega)
    refine Eq.trans this ?_
    have : setAt (List.replicate (n + 64) (0 : Int)) 0 ws = ws ++ z := by
      simp only [setAt, List.take_zero, List.nil_append, List.drop_replicate, Nat.zero_add, ← hn, hz]
      congr 2; omega
    rw [this]
  have f2 : ref03_Fill ⟨endsR n, ws ++ z⟩ (4 * (n : Int)) [] = some (⟨endsR n, ws ++ z⟩, 0) := by
    rw [fill_spec n (by simp; omega) (by simp; omega)]
    simp [setAt]
  have f3 : ref03_Fill ⟨endsR n, ws ++ z⟩ (4 * (n : Int)) z = some (⟨endsR n, ws ++ z⟩, 0) := by
    rw [fill_spec n (by simp; omega) (by simp; omega)]
    have : setAt (ws ++ z) n z = ws ++ z := by
      unfold setAt
      rw [hn, List.take_left', List.drop_eq_nil_of_le (by simp)]
      · simp
      · rfl
    rw [this]
  unfold law19_run
  rw [hk, bind1_some, ← hn, arrR w8 w7]
  unfold ref19_Run
  rw [← hn, arr5 w1 w1 w3 w4 w6, w4, w1]
  show bind2 (bind1 (ref03_New (endsR n)) _) _ = _
  unfold ref03_New
  rw [g4, w9, hk2, bind1_some, bind1_some, f1, bind2_some, f2, bind2_some, f3, bind2_some]
  show bind2 (bind1 (loopO (fun (x : Int × T_ref03_Mem × T_ref04_Cpu) => ref19_Run_L1 5000 x.1 x.2.1 x.2.2) (0, memR n (ws ++ z), cpu0 n)) _) _ = _
  have h' : loopO (fun (x : Int × T_ref03_Mem × T_ref04_Cpu) => ref19_Run_L1 5000 x.1 x.2.1 x.2.2) (0, memR n (ws ++ z), cpu0 n) = some r := h
  rw [h', bind1_some]
  rfl
end Go.Proofs.Abs
/- The document's machine, instruction by instruction. -/
namespace Go.Proofs.Abs
open Go
set_option linter.unusedVariables false
set_option linter.unusedSimpArgs false
def Arr.put {n : Nat} (a : Arr n Int) (j : Nat) (v : Int) : Arr n Int := ⟨a.l.set j v, by rw [List.length_set, a.h]⟩
theorem ga_g {n : Nat} {a : Arr n Int} {j : Nat} (h : j < n) : ga a (j : Int) = some (a.g j) := by
  unfold ga Arr.g
  have hl := a.h
  rw [if_pos (by omega)]
  have : ((j : Nat) : Int).toNat = j := by simp
  rw [this, List.getElem?_eq_getElem (by omega)]; rfl
theorem sa_put {n : Nat} {a : Arr n Int} {j : Nat} {v : Int} (h : j < n) : sa a (j : Int) v = some (a.put j v) := by
  unfold sa
  rw [if_pos ⟨by omega, by omega⟩]
  rfl
theorem put_same {n : Nat} {a : Arr n Int} {j : Nat} {v : Int} (h : j < n) : (a.put j v).g j = v := by
  unfold Arr.g Arr.put
  have hl := a.h
  simp [hl, h]
/-- the machine at a word, that goes on -/
def cpS (R : Arr 16 Int) (k : Nat) (s : Int) (n : Nat) : T_ref04_Cpu := ⟨R, 4 * (k : Int), 0, 0, 0, 0, s, 0, [], 4, 0, 4, 4 * (n : Int), []⟩
/-- the machine at its end: by a trap, or not -/
def cpE (R : Arr 16 Int) (k : Nat) (s : Int) (n : Nat) (epc ca st : Int) : T_ref04_Cpu := ⟨R, 4 * (k : Int), epc, ca, st, 0, s, 0, [], 4, 0, 4, 4 * (n : Int), []⟩
section
variable {R : Arr 16 Int} {k n : Nat} {s t w : Int} {W : List Int} {r : T_ref03_Mem × T_ref04_Cpu}
theorem pc_next (h : k < 15000) : IntKind.wrap .u32 (4 * (k : Int) + 4) = 4 * ((k + 1 : Nat) : Int) := by rw [wrap_u32 _ (by omega) (by omega)]; omega
theorem ex_one {x : T_ref02_Instr} {c' : T_ref04_Cpu} {m' : T_ref03_Mem} (ht : 0 ≤ t) (ht1 : t < 4999) (hw : W[k]? = some w) (hd : ref02_Decode w = some (x, 0)) (hk : k < n) (hn : n ≤ 15000)
    (h3 : ref04_do (tick (cpS R k s n)) (memR n W) x = some (c', m')) (next : RunTo 5000 (t + 1) m' c' r) : RunTo 5000 t (memR n W) (cpS R k s n) r :=
  run_go ht (by omega) (by omega) rfl (step_spec rfl (fetch_spec hk (by omega) hw) hd h3) next
/-- it comes to an end, and there P holds -/
def ExR (P : T_ref04_Cpu → Prop) (t : Int) (m : T_ref03_Mem) (c : T_ref04_Cpu) : Prop := ∃ r, RunTo 5000 t m c r ∧ P r.2
theorem xr_one {P : T_ref04_Cpu → Prop} {x : T_ref02_Instr} {c' : T_ref04_Cpu} {m' : T_ref03_Mem} (ht : 0 ≤ t) (ht1 : t < 4999) (hw : W[k]? = some w) (hd : ref02_Decode w = some (x, 0)) (hk : k < n) (hn : n ≤ 15000)
    (h3 : ref04_do (tick (cpS R k s n)) (memR n W) x = some (c', m')) (next : ExR P (t + 1) m' c') : ExR P t (memR n W) (cpS R k s n) := by
  obtain ⟨r, h, p⟩ := next
  exact ⟨r, ex_one ht ht1 hw hd hk hn h3 h, p⟩
theorem xr_end {P : T_ref04_Cpu → Prop} {m : T_ref03_Mem} {c : T_ref04_Cpu} (h : c.State_ ≠ 0) (p : P c) : ExR P t m c := ⟨(m, c), run_end h, p⟩
theorem do_ldi {a : Nat} {v : Int} {m : T_ref03_Mem} (ha : a < 16) (hk : k < 15000) : ref04_do (tick (cpS R k s n)) m ⟨2, a, 0, 0, v⟩ = some (cpS (R.put a (IntKind.wrap .u32 v)) (k + 1) (IntKind.wrap .i64 (s + 1)) n, m) := by
  unfold ref04_do
  show bind1 (ga R a) _ = _
  rw [ga_g ha, bind1_some]
  show bind1 (ga R ((0 : Nat) : Int)) _ = _
  rw [ga_g (by omega), bind1_some, if_neg (by simp), if_neg (by simp), if_pos (by simp)]
  show bind1 (ga R a) _ = _
  rw [ga_g ha, bind1_some]
  show bind1 (sa R a (IntKind.wrap .u32 v)) _ = _
  rw [sa_put ha, bind1_some]
  unfold ref04_do_j1
  show some ((⟨_, IntKind.wrap .u32 (4 * (k : Int) + 4), _, _, _, _, _, _, _, _, _, _, _, _⟩ : T_ref04_Cpu), m) = _
  rw [pc_next hk]; rfl
theorem do_addi {a b : Nat} {v : Int} {m : T_ref03_Mem} (ha : a < 16) (hb : b < 16) (hk : k < 15000) : ref04_do (tick (cpS R k s n)) m ⟨5, a, b, 0, v⟩ = some (cpS (R.put a (IntKind.wrap .u32 (R.g b + IntKind.wrap .u32 v))) (k + 1) (IntKind.wrap .i64 (s + 1)) n, m) := by
  unfold ref04_do
  show bind1 (ga R a) _ = _
  rw [ga_g ha, bind1_some]
  show bind1 (ga R b) _ = _
  rw [ga_g hb, bind1_some, if_neg (by simp), if_neg (by simp), if_neg (by simp), if_neg (by simp), if_neg (by simp), if_pos (by simp)]
  show bind1 (ga R a) _ = _
  rw [ga_g ha, bind1_some]
  show bind1 (sa R a _) _ = _
  rw [sa_put ha, bind1_some]
  unfold ref04_do_j4 ref04_do_j3 ref04_do_j2 ref04_do_j1
  show some ((⟨_, IntKind.wrap .u32 (4 * (k : Int) + 4), _, _, _, _, _, _, _, _, _, _, _, _⟩ : T_ref04_Cpu), m) = _
  rw [pc_next hk]; rfl
theorem do_three {o v : Int} {a b c : Nat} {m : T_ref03_Mem} (ho : 6 ≤ o) (ho2 : o ≤ 17) (ha : a < 16) (hb : b < 16) (hc : c < 16) (hk : k < 15000) (hr : ref04_reckon o (R.g b) (R.g c) = some (v, true)) :
    ref04_do (tick (cpS R k s n)) m ⟨o, a, b, c, 0⟩ = some (cpS (R.put a v) (k + 1) (IntKind.wrap .i64 (s + 1)) n, m) := by
  unfold ref04_do
  show bind1 (ga R a) _ = _
  rw [ga_g ha, bind1_some]
  show bind1 (ga R b) _ = _
  rw [ga_g hb, bind1_some, if_pos (by simp; omega)]
  show bind1 (ga R c) _ = _
  rw [ga_g hc, bind1_some, hr, bind2_some, if_neg (by simp)]
  show bind1 (ga R a) _ = _
  rw [ga_g ha, bind1_some]
  show bind1 (sa R a _) _ = _
  rw [sa_put ha, bind1_some]
  show some ((⟨_, IntKind.wrap .u32 (4 * (k : Int) + 4), _, _, _, _, _, _, _, _, _, _, _, _⟩ : T_ref04_Cpu), m) = _
  rw [pc_next hk]; rfl
theorem do_halt {m : T_ref03_Mem} : ref04_do (tick (cpS R k s n)) m ⟨1, 0, 0, 0, 0⟩ = some (cpE R k (IntKind.wrap .i64 (s + 1)) n 0 0 1, m) := by
  unfold ref04_do
  show bind1 (ga R ((0 : Nat) : Int)) _ = _
  rw [ga_g (by omega), bind1_some]
  show bind1 (ga R ((0 : Nat) : Int)) _ = _
  rw [ga_g (by omega), bind1_some, if_neg (by simp), if_pos (by simp)]
  rfl
end
end Go.Proofs.Abs
/- A number that is put into register 0. -/
namespace Go.Proofs.Abs
open Go
set_option linter.unusedVariables false
set_option linter.unusedSimpArgs false
theorem fits16 {n : Int} (h0 : -2147483648 ≤ n) (h1 : n ≤ 2147483647) : word_Fits (IntKind.wrap .i64 n) 16 = some (decide (-32768 ≤ n ∧ n < 32768)) := by
  unfold word_Fits
  have e : (if (40 : Int) < 16 then (40 : Int) else 16) - 1 = 15 := by decide
  have s1 : shlI .i64 (-1) (IntKind.wrap .i64 15) = some (-32768) := by kernel_rfl
  have s2 : shlI .i64 1 (IntKind.wrap .i64 15) = some 32768 := by kernel_rfl
  rw [if_neg (by decide), e, s1, bind1_some, wrap_i64 n (by omega) (by omega)]
  by_cases c : n ≥ -32768
  · rw [if_pos (by simpa using c), s2, bind1_some, bind1_some]
    congr 1
    by_cases d : n < 32768
    · rw [decide_eq_true d, decide_eq_true ⟨c, d⟩]
    · rw [decide_eq_false d, decide_eq_false (fun h => d h.2)]
  · rw [if_neg (by simpa using c), bind1_some, decide_eq_false (fun h => c h.1)]
theorem within16 {n : Int} : word_Within n 16 = some (decide (0 ≤ n ∧ n < 65536)) := by
  unfold word_Within
  have e : (if (40 : Int) < 16 then (40 : Int) else 16) = 16 := by decide
  have s2 : shlI .i64 1 16 = some 65536 := by kernel_rfl
  rw [if_pos (by decide), e]
  by_cases c : n ≥ 0
  · rw [if_pos (by simpa using c), s2, bind1_some, bind1_some]
    congr 1
    by_cases d : n < 65536
    · rw [decide_eq_true d, decide_eq_true ⟨c, d⟩]
    · rw [decide_eq_false d, decide_eq_false (fun h => d h.2)]
  · rw [if_neg (by simpa using c), bind1_some, decide_eq_false (fun h => c h.1)]
theorem reg_ok {a : Int} (h0 : 0 ≤ a) (h1 : a < 16) : instr_reg a = some true := by
  unfold instr_reg; simp [h0, h1]
theorem wrap_i32 (x : Int) (h1 : -2147483648 ≤ x) (h2 : x ≤ 2147483647) : IntKind.i32.wrap x = x := by
  simp only [IntKind.wrap, IntKind.bits, IntKind.signed]
  simp
  omega
theorem round_small {x : Int} (h0 : -2147483648 ≤ x) (h1 : x ≤ 2147483647) : ref01_Round x = some x := by
  unfold ref01_Round ref01_Round_j1 ref01_Round_j2
  by_cases c : x < 0
  · have e : Int.tmod x 4294967296 = x := by
      have : Int.tmod (-x) 4294967296 = -x := by rw [tmod_pos (by omega)]; omega
      rw [Int.neg_tmod] at this; omega
    rw [e, if_pos (by simpa using c), wrap_i64 _ (by omega) (by omega), if_pos (by simp; omega), wrap_i64 _ (by omega) (by omega), wrap_i32 _ (by omega) (by omega)]
    congr 1; omega
  · have e : Int.tmod x 4294967296 = x := by rw [tmod_pos (by omega)]; omega
    rw [e, if_neg (by simp; omega), if_neg (by simp; omega), wrap_i32 _ (by omega) (by omega)]
theorem sextC16 {w n : Int} (h0 : -32768 ≤ n) (h1 : n < 32768) (hw0 : 0 ≤ w) (hw1 : w < 4294967296) (hw : w % 65536 = n % 65536) : sextC w 16 = some n := by
  unfold sextC
  have e : (2 : Int) ^ (16 : Int).toNat = 65536 := by decide
  have r : remI .i64 (IntKind.wrap .i64 w) 65536 = some (n % 65536) := by
    unfold remI
    rw [if_neg (by decide), wrap_i64 w (by omega) (by omega), tmod_pos hw0, hw]
    try rw [wrap_i64 _ (by omega) (by omega)]
  have t : IntKind.wrap .i64 (Int.tdiv 65536 2) = 32768 := by kernel_rfl
  rw [e, r, bind1_some, t]
  unfold ref01_Sext_j1
  by_cases c : n < 0
  · rw [if_pos (by simp; omega), wrap_i64 _ (by omega) (by omega)]
    have : n % 65536 - 65536 = n := by omega
    rw [this, round_small (by omega) (by omega), bind1_some]
  · have : n % 65536 = n := by omega
    rw [if_neg (by simp; omega), this, round_small (by omega) (by omega), bind1_some]
end Go.Proofs.Abs
/- A number that is put into register 0: what the machine does. -/
namespace Go.Proofs.Abs
open Go
set_option linter.unusedVariables false
set_option linter.unusedSimpArgs false
/-- words stand one behind the other -/
def Sits (W : List Int) (k : Nat) (l : List Int) : Prop := ∀ (j : Nat) (x : Int), l[j]? = some x → W[k + j]? = some x
theorem Sits.app {W : List Int} {k : Nat} {l l' : List Int} (h : Sits W k (l ++ l')) : Sits W k l ∧ Sits W (k + l.length) l' := by
  refine ⟨fun j x hj => h j x ?_, fun j x hj => ?_⟩
  · rw [List.getElem?_append_left (List.getElem?_eq_some_iff.1 hj).1]; exact hj
  · have := h (l.length + j) x (by rw [List.getElem?_append_right (by omega)]; simpa using hj)
    rw [Nat.add_assoc]; exact this
theorem Sits.here {W : List Int} {k : Nat} {x : Int} {l : List Int} (h : Sits W k (x :: l)) : W[k]? = some x ∧ Sits W (k + 1) l :=
  ⟨h 0 x rfl, fun j y hj => by have := h (j + 1) y (by simpa using hj); rw [show k + 1 + j = k + (j + 1) by omega]; exact this⟩
end Go.Proofs.Abs
/- What is stored and loaded by the document's machine; the page's example. -/
namespace Go.Proofs.Abs
open Go
set_option linter.unusedVariables false
set_option linter.unusedSimpArgs false
section
variable {R : Arr 16 Int} {k n : Nat} {s t w : Int} {W : List Int} {r : T_ref03_Mem × T_ref04_Cpu}
theorem load_at {j : Nat} {x : Int} (hW : W.length ≤ 20000) (hj : W[j]? = some x) : ref03_Load (memR n W) (4 * (j : Int)) = some (x, 0) := by
  have hl : j < W.length := (List.getElem?_eq_some_iff.1 hj).1
  unfold ref03_Load
  simp only [tmod_pos (show 0 ≤ 4 * (j : Int) by omega), tdiv_pos (show 0 ≤ 4 * (j : Int) by omega)]
  have e1 : 4 * (j : Int) % 4 = 0 := by omega
  have e2 : 4 * (j : Int) / 4 = (j : Int) := by omega
  have e4 : (memR n W).W_ = W := rfl
  rw [e1, e2, e4, wrap_u32 (j : Int) (by omega) (by omega), wrap_i64 (j : Int) (by omega) (by omega), if_neg (by simp), if_neg (by simp; omega), gi_some (by omega) (by omega), bind1_some]
  have : W[((j : Nat) : Int).toNat]'(by simpa using hl) = x := by
    have h : W[j]'hl = x := by rw [List.getElem?_eq_getElem hl] at hj; exact Option.some.inj hj
    simpa using h
  rw [this]
theorem store_at {j : Nat} {x : Int} (hW : W.length ≤ 20000) (hj : j < W.length) (hn : n ≤ j) : ref03_Store (memR n W) (4 * (j : Int)) x = some (memR n (W.set j x), 0) := by
  have e1 : (memR n W).Ends_.g 1 = 4 * (n : Int) := rfl
  unfold ref03_Store
  rw [load_at hW (List.getElem?_eq_getElem hj), bind2_some, if_neg (by simp), e1, if_neg (by simp; omega)]
  have e2 : IntKind.wrap .i64 (IntKind.wrap .u32 (Int.tdiv (4 * (j : Int)) 4)) = (j : Int) := by
    rw [tdiv_pos (by omega), wrap_u32 _ (by omega) (by omega), wrap_i64 _ (by omega) (by omega)]; omega
  rw [e2]
  show bind1 (ref03_with ⟨endsR n, W⟩ (j : Int) [x]) _ = _
  rw [with_spec (j : Int) [x] (by omega) (by simp; omega) (by omega), bind1_some]
  have : setAt W ((j : Nat) : Int).toNat [x] = W.set j x := by
    have : ((j : Nat) : Int).toNat = j := by simp
    rw [this]
    apply List.ext_getElem?
    intro q
    simp only [setAt, List.getElem?_append, List.length_append, List.length_take, List.getElem?_take, List.getElem?_drop, List.getElem?_set, List.length_cons, List.getElem?_cons]
    grind
  rw [this]; rfl
theorem do_ldw {a b : Nat} {v x : Int} {m : T_ref03_Mem} (ha : a < 16) (hb : b < 16) (hk : k < 15000) (hl : ref03_Load m (IntKind.wrap .u32 (R.g b + IntKind.wrap .u32 v)) = some (x, 0)) :
    ref04_do (tick (cpS R k s n)) m ⟨18, a, b, 0, v⟩ = some (cpS (R.put a x) (k + 1) (IntKind.wrap .i64 (s + 1)) n, m) := by
  unfold ref04_do
  show bind1 (ga R a) _ = _
  rw [ga_g ha, bind1_some]
  show bind1 (ga R b) _ = _
  rw [ga_g hb, bind1_some, if_neg (by simp), if_neg (by simp), if_neg (by simp), if_neg (by simp), if_neg (by simp), if_neg (by simp), if_neg (by simp), if_pos (by simp), hl, bind2_some, if_neg (by simp)]
  show bind1 (ga R a) _ = _
  rw [ga_g ha, bind1_some]
  show bind1 (sa R a _) _ = _
  rw [sa_put ha, bind1_some]
  unfold ref04_do_j6 ref04_do_j5 ref04_do_j4 ref04_do_j3 ref04_do_j2 ref04_do_j1
  show some ((⟨_, IntKind.wrap .u32 (4 * (k : Int) + 4), _, _, _, _, _, _, _, _, _, _, _, _⟩ : T_ref04_Cpu), m) = _
  rw [pc_next hk]; rfl
theorem do_stw {a b : Nat} {v : Int} {m m' : T_ref03_Mem} (ha : a < 16) (hb : b < 16) (hk : k < 15000) (hl : ref03_Store m (IntKind.wrap .u32 (R.g b + IntKind.wrap .u32 v)) (R.g a) = some (m', 0)) :
    ref04_do (tick (cpS R k s n)) m ⟨19, a, b, 0, v⟩ = some (cpS R (k + 1) (IntKind.wrap .i64 (s + 1)) n, m') := by
  unfold ref04_do
  show bind1 (ga R a) _ = _
  rw [ga_g ha, bind1_some]
  show bind1 (ga R b) _ = _
  rw [ga_g hb, bind1_some, if_neg (by simp), if_neg (by simp), if_neg (by simp), if_neg (by simp), if_neg (by simp), if_neg (by simp), if_neg (by simp), if_neg (by simp), if_pos (by simp), hl, bind2_some, if_neg (by simp)]
  unfold ref04_do_j7 ref04_do_j6 ref04_do_j5 ref04_do_j4 ref04_do_j3 ref04_do_j2 ref04_do_j1
  show some ((⟨_, IntKind.wrap .u32 (4 * (k : Int) + 4), _, _, _, _, _, _, _, _, _, _, _, _⟩ : T_ref04_Cpu), m') = _
  rw [pc_next hk]; rfl
end
/-! words that are known -/
theorem dec_halt : ref02_Decode 16777216 = some (⟨1, 0, 0, 0, 0⟩, 0) := by rw [decC_eq]; kernel_rfl
theorem dec_dn : ref02_Decode 100663292 = some (⟨5, 15, 15, 0, -4⟩, 0) := by rw [decC_eq]; kernel_rfl
theorem dec_up : ref02_Decode 100597764 = some (⟨5, 15, 15, 0, 4⟩, 0) := by rw [decC_eq]; kernel_rfl
theorem dec_st0 : ref02_Decode 319750144 = some (⟨19, 0, 15, 0, 0⟩, 0) := by rw [decC_eq]; kernel_rfl
theorem dec_ld1 : ref02_Decode 304021504 = some (⟨18, 1, 15, 0, 0⟩, 0) := by rw [decC_eq]; kernel_rfl
theorem dec_ldi7 : ref02_Decode 33554439 = some (⟨2, 0, 0, 0, 7⟩, 0) := by rw [decC_eq]; kernel_rfl
theorem dec_ldim2 : ref02_Decode 33619966 = some (⟨2, 0, 0, 0, -2⟩, 0) := by rw [decC_eq]; kernel_rfl
theorem dec_div : ref02_Decode 151060480 = some (⟨9, 0, 1, 0, 0⟩, 0) := by rw [decC_eq]; kernel_rfl
theorem enc_div : instr_Encode ⟨9, 0, 1, 0, 0⟩ = some (151060480, 0) := by kernel_rfl
def awW : List Int := [16777216, 33554439, 100663292, 319750144, 33619966, 304021504, 100597764, 151060480, 16777216]
def R0 (n : Nat) : Arr 16 Int := arrL [0, 0, 0, 0, 0, 0, 0, 0, 0, 0, 0, 0, 0, 4 * (n : Int) + 192, 0, 4 * (n : Int) + 256]
theorem run_xr {ws : List Int} (hl : ws.length ≤ 15000) {q : Ptr} {P : T_ref04_Cpu → Prop} (h : ExR P 0 (memR ws.length (ws ++ List.replicate 64 0)) (cpS (R0 ws.length) 1 0 ws.length)) : ∃ c, law19_run q ws = some c ∧ P c := by
  obtain ⟨r, h1, h2⟩ := h
  exact ⟨r.2, run_spec hl h1, h2⟩
theorem awake_run (q : Ptr) : ∃ c, law19_run q awW = some c ∧ c.State_ = 1 ∧ IntKind.wrap .i32 (c.R_.g 0) = -4 := by
  have hl : awW.length = 9 := rfl
  obtain ⟨W, hW⟩ : ∃ W, W = awW ++ List.replicate 64 0 := ⟨_, rfl⟩
  have s3 : ref03_Store (memR 9 W) (4 * ((72 : Nat) : Int)) 7 = some (memR 9 (W.set 72 7), 0) := store_at (by rw [hW]; decide) (by rw [hW]; decide) (by decide)
  have l5 : ref03_Load (memR 9 (W.set 72 7)) (4 * ((72 : Nat) : Int)) = some (7, 0) := load_at (by rw [hW]; decide) (by rw [hW]; rfl)
  have w : ∀ j x, awW[j]? = some x → W[j]? = some x := fun j x h => by rw [hW, List.getElem?_append_left (List.getElem?_eq_some_iff.1 h).1]; exact h
  have w' : ∀ j x, j < 9 → awW[j]? = some x → (W.set 72 7)[j]? = some x := fun j x hj h => by rw [List.getElem?_set_ne (by omega)]; exact w j x h
  refine run_xr (ws := awW) (by decide) ?_
  rw [hl, ← hW]
  refine xr_one (by decide) (by decide) (w 1 _ rfl) dec_ldi7 (by decide) (by decide) (do_ldi (a := 0) (by decide) (by decide)) ?_
  refine xr_one (by decide) (by decide) (w 2 _ rfl) dec_dn (by decide) (by decide) (do_addi (a := 15) (b := 15) (by decide) (by decide) (by decide)) ?_
  refine xr_one (by decide) (by decide) (w 3 _ rfl) dec_st0 (by decide) (by decide) (do_stw (a := 0) (b := 15) (by decide) (by decide) (by decide) s3) ?_
  refine xr_one (by decide) (by decide) (w' 4 _ (by decide) rfl) dec_ldim2 (by decide) (by decide) (do_ldi (a := 0) (by decide) (by decide)) ?_
  refine xr_one (by decide) (by decide) (w' 5 _ (by decide) rfl) dec_ld1 (by decide) (by decide) (do_ldw (a := 1) (b := 15) (by decide) (by decide) (by decide) l5) ?_
  refine xr_one (by decide) (by decide) (w' 6 _ (by decide) rfl) dec_up (by decide) (by decide) (do_addi (a := 15) (b := 15) (by decide) (by decide) (by decide)) ?_
  refine xr_one (by decide) (by decide) (w' 7 _ (by decide) rfl) dec_div (by decide) (by decide) (do_three (v := 4294967292) (a := 0) (b := 1) (c := 0) (by decide) (by decide) (by decide) (by decide) (by decide) (by decide) (by kernel_rfl)) ?_
  refine xr_one (by decide) (by decide) (w' 8 _ (by decide) rfl) dec_halt (by decide) (by decide) do_halt ?_
  exact xr_end (show (1 : Int) ≠ 0 by decide) ⟨rfl, by kernel_rfl⟩
end Go.Proofs.Abs
/- The page's example of code for things. -/
namespace Go.Proofs.Abs
open Go
set_option linter.unusedVariables false
set_option linter.unusedSimpArgs false
theorem iawake_spec (H : Heap) : ∃ H', law19_awake H = some (H', true) := by
  obtain ⟨H1, i, g, e1, G1⟩ := begun_spec H
  obtain ⟨H2, e2, G2⟩ := number_gn G1 (a := 0) (n := 7) (l := [33554439]) (by kernel_rfl) (by decide)
  obtain ⟨H3, e3, G3⟩ := wait_gn G2 (by decide) (by decide) (by decide)
  obtain ⟨H4, e4, G4⟩ := number_gn G3 (a := 0) (n := -2) (l := [33619966]) (by kernel_rfl) (by decide)
  obtain ⟨H5, e5, G5⟩ := pop_gn G4 enc_ld1 (by decide) (by decide) (by decide)
  obtain ⟨H6, e6, G6⟩ := three_gn G5 enc_div (by decide)
  obtain ⟨H7, e7⟩ := ended_gn (H := H6) (i := i) (g := g) (ws := [16777216, 33554439, 100663292, 319750144, 33619966, 304021504, 100597764, 151060480]) (d := 0) (m := 1) G6 (by decide) 0
  obtain ⟨c, r1, r2, r3⟩ := awake_run (.at g 0)
  have two : item_Gen_Two H4 (.at g 0) (ByteArray.mk #[68, 73, 86]) = some (H6, 0) := by
    have : item_Gen_Two H4 (.at g 0) (ByteArray.mk #[68, 73, 86]) = item_Gen_Two_j1 (.at g 0) H4 false 9 := by kernel_rfl
    rw [this]
    unfold item_Gen_Two_j1
    rw [pbnd_at, G4.gen, bind1_some]
    show bind1 (emit_Code_Pop H4 (.at i 0) 1) _ = _
    rw [e5, bind1_some, if_neg (by simp), G5.gen, bind1_some]
    show bind2 (emit_Code_Three H5 (.at i 0) 9 0 1 0) _ = _
    rw [e6]; rfl
  unfold law19_awake
  rw [e1, bind2_some, isNil_at, if_neg (by simp), pbnd_at, G1.gen, bind1_some]
  show ∃ H', bind1 (emit_Code_Number H1 (.at i 0) 0 7) _ = some (H', true)
  rw [e2, bind1_some, e3, bind1_some, G3.gen, bind1_some]
  show ∃ H', bind1 (emit_Code_Number H3 (.at i 0) 0 (-2)) _ = some (H', true)
  rw [e4, bind1_some, two, bind2_some, e7, bind3_some, if_neg (by decide)]
  have : ([16777216, 33554439, 100663292, 319750144, 33619966, 304021504, 100597764, 151060480] ++ [16777216] : List Int) = awW := rfl
  rw [this, r1, bind1_some, r2, r3]
  exact ⟨H7, rfl⟩
section
variable {R : Arr 16 Int} {k n : Nat} {s t w : Int} {W : List Int} {P : T_ref04_Cpu → Prop}
end
end Go.Proofs.Abs
/- How a run ends. -/
namespace Go.Proofs.Abs
open Go
set_option linter.unusedVariables false
set_option linter.unusedSimpArgs false
theorem wf_i32 {n : Int} : (Lit.int .i32 n).wf = true ↔ -2147483648 ≤ n ∧ n ≤ 2147483647 := by
  simp [Lit.wf, IntKind.min, IntKind.max, IntKind.signed, IntKind.bits]
theorem sits_mk (x : Int) (l z : List Int) : Sits (x :: (l ++ z)) 1 l := fun j y h => by
  rw [Nat.add_comm, List.getElem?_cons_succ, List.getElem?_append_left (List.getElem?_eq_some_iff.1 h).1]; exact h
def PV (v : Int) (N : Nat) (c : T_ref04_Cpu) : Prop := c.State_ = 1 ∧ c.Cause_ = 0 ∧ IntKind.wrap .i32 (c.R_.g 0) = v ∧ c.R_.g 15 = 4 * (N : Int) + 256 ∧ c.R_.g 13 = 4 * (N : Int) + 192
def PT (ca : Int) (c : T_ref04_Cpu) : Prop := c.State_ = 1 ∧ c.Cause_ = ca
end Go.Proofs.Abs
/- Words with two registers and a number, in general; pushes and pops; pointers that are followed. -/
namespace Go.Proofs.Abs
open Go
set_option linter.unusedVariables false
set_option linter.unusedSimpArgs false
/-- may a number of such a shape be n? -/
def immOk (sh n : Int) : Prop := ((sh = 1 ∨ sh = 3) ∧ -32768 ≤ n ∧ n < 32768) ∨ ((sh = 2 ∨ sh = 4) ∧ 0 ≤ n ∧ n < 65536)
theorem enc_gen {op a b n sh : Int} (hs : instr_Shape op = some sh) (hn : immOk sh n) (ho : 0 ≤ op) (ho2 : op < 64) (ha : 0 ≤ a) (ha2 : a < 16) (hb : 0 ≤ b) (hb2 : b < 16) (hb0 : sh ≤ 2 → b = 0) :
    instr_Encode ⟨op, a, b, 0, n⟩ = some (op * 16777216 + a * 1048576 + b * 65536 + n % 65536, 0) := by
  have b32 : -32768 ≤ n ∧ n < 65536 := by rcases hn with h | h <;> omega
  have sh4 : 1 ≤ sh ∧ sh ≤ 4 := by rcases hn with h | h <;> omega
  have f16 := fits16 (n := n) (by omega) (by omega)
  rw [wrap_i64 n (by omega) (by omega)] at f16
  have im : instr_imm ⟨op, a, b, 0, n⟩ sh = some true := by
    unfold instr_imm instr_imm_j1 instr_imm_j3 instr_imm_j2
    rcases hn with ⟨rfl | rfl, h⟩ | ⟨rfl | rfl, h⟩ <;> simp [f16, within16, h, bind1_some]
  have ck : instr_Check ⟨op, a, b, 0, n⟩ = some 0 := by
    unfold instr_Check
    rw [hs, bind1_some, if_neg (by simp; omega), reg_ok ha ha2, bind1_some, if_neg (by decide), reg_ok hb hb2, bind1_some, if_neg (by decide), reg_ok (Int.le_refl 0) (show (0 : Int) < 16 by decide), bind1_some, if_neg (by decide), im, bind1_some, bind1_some, if_neg (by decide)]
    unfold instr_Check_j7 instr_Check_j1 instr_Check_j6 instr_Check_j3 instr_Check_j5 instr_Check_j4 instr_Check_j2
    rcases hn with ⟨rfl | rfl, h⟩ | ⟨rfl | rfl, h⟩
    · simp [hb0 (by omega)]
    · simp
    · simp [hb0 (by omega)]
    · simp
  unfold instr_Encode
  rw [ck, bind1_some, if_neg (by decide), hs, bind1_some, if_neg (by simp; omega), word_of op a b n 0 ho (by omega) ha ha2 hb hb2 (by decide) (by decide) (.inr rfl)]
  congr 2; omega
theorem dec_gen {op a b n sh : Int} (hs : ref02_Shape op = some sh) (hn : immOk sh n) (ho : 0 ≤ op) (ho2 : op < 64) (ha : 0 ≤ a) (ha2 : a < 16) (hb : 0 ≤ b) (hb2 : b < 16) (hb0 : sh ≤ 2 → b = 0) :
    ref02_Decode (op * 16777216 + a * 1048576 + b * 65536 + n % 65536) = some (⟨op, a, b, 0, n⟩, 0) := by
  obtain ⟨w, hw⟩ : ∃ w, w = op * 16777216 + a * 1048576 + b * 65536 + n % 65536 := ⟨_, rfl⟩
  rw [← hw, decC_eq]
  have b32 : -32768 ≤ n ∧ n < 65536 := by rcases hn with h | h <;> omega
  have sh4 : 1 ≤ sh ∧ sh ≤ 4 := by rcases hn with h | h <;> omega
  have d1 : IntKind.wrap .i64 (IntKind.wrap .u32 (Int.tdiv w 16777216)) = op := by rw [tdiv_pos (by omega), wrap_u32 _ (by omega) (by omega), wrap_i64 _ (by omega) (by omega)]; omega
  have d2 : IntKind.wrap .i64 (Int.tmod (IntKind.wrap .u32 (Int.tdiv w 1048576)) 16) = a := by rw [tdiv_pos (by omega), wrap_u32 _ (by omega) (by omega), tmod_pos (by omega), wrap_i64 _ (by omega) (by omega)]; omega
  have d4 : IntKind.wrap .i64 (Int.tmod (IntKind.wrap .u32 (Int.tdiv w 65536)) 16) = b := by rw [tdiv_pos (by omega), wrap_u32 _ (by omega) (by omega), tmod_pos (by omega), wrap_i64 _ (by omega) (by omega)]; omega
  have d3 : 0 ≤ n → IntKind.wrap .i64 (Int.tmod w 65536) = n := fun h => by rw [tmod_pos (by omega), wrap_i64 _ (by omega) (by omega)]; omega
  have hh : ref02_has sh = some (true, decide (sh ≥ 3), false) := by
    unfold ref02_has
    have e1 : decide (sh ≥ 1) = true := by simp; omega
    have e2 : decide (sh ≤ 6) = true := by simp; omega
    have e3 : decide (sh ≤ 5) = true := by simp; omega
    have e4 : (sh == 5) = false := by simp; omega
    rw [e1, e2, e3, e4, Bool.and_true, Bool.and_true]
  have en : ref02_Encode ⟨op, a, b, 0, n⟩ = some (w, 0) := by
    unfold ref02_Encode
    have ck : ref02_Check ⟨op, a, b, 0, n⟩ = some 0 := by
      unfold ref02_Check
      rw [hs, bind1_some, if_neg (by simp; omega), hh, bind3_some, if_neg]
      · unfold ref02_Check_j1 ref02_Check_j6 ref02_Check_j3 ref02_Check_j4 ref02_Check_j2
        rcases hn with ⟨rfl | rfl, h⟩ | ⟨rfl | rfl, h⟩ <;> simp <;> omega
      · have x1 : decide (a < 0) = false := by simp; omega
        have x2 : decide (a > 15) = false := by simp; omega
        have x3 : decide (b < 0) = false := by simp; omega
        have x4 : decide (b > 15) = false := by simp; omega
        by_cases h3 : sh ≥ 3
        · simp [x1, x2, x3, x4, h3] <;> omega
        · have := hb0 (by omega)
          simp [x1, x2, h3, this] <;> omega
    rw [ck, bind1_some, if_neg (by decide), hs, bind1_some, if_neg (by simp; omega)]
    have m : Int.tmod (IntKind.wrap .i64 (n + 65536)) 65536 = n % 65536 := by rw [wrap_i64 _ (by omega) (by omega), tmod_pos (by omega)]; omega
    simp only [m]
    rw [wrap_i64 (op * 16777216) (by omega) (by omega), wrap_i64 (a * 1048576) (by omega) (by omega), wrap_i64 (b * 65536) (by omega) (by omega), wrap_i64 (op * 16777216 + a * 1048576) (by omega) (by omega), wrap_i64 (op * 16777216 + a * 1048576 + b * 65536) (by omega) (by omega), wrap_i64 (op * 16777216 + a * 1048576 + b * 65536 + n % 65536) (by omega) (by omega), wrap_i64 _ (by omega) (by omega), wrap_u32 _ (by omega) (by omega)]
    congr 2; omega
  have j3 : ∀ q : T_ref02_Instr, q = ⟨op, a, b, 0, 0⟩ → decC_j3 sh w q = some (⟨op, a, b, 0, n⟩, 0) := by
    rintro _ rfl
    unfold decC_j3 decC_j4 decC_j9 decC_j6
    rcases hn with ⟨rfl | rfl, h⟩ | ⟨rfl | rfl, h⟩
    · simp only [beq_self_eq_true, if_true]
      rw [sextC16 h.1 h.2 (by omega) (by omega) (by omega), bind1_some, wrap_i64 n (by omega) (by omega)]
      unfold decC_j5
      rw [en, bind2_some, if_neg (by simp)]
    · rw [if_neg (by decide), if_pos (by decide), sextC16 h.1 h.2 (by omega) (by omega) (by omega), bind1_some, wrap_i64 n (by omega) (by omega)]
      unfold decC_j5
      rw [en, bind2_some, if_neg (by simp)]
    · rw [if_neg (by decide), if_neg (by decide), if_pos (by decide), if_pos (by decide), d3 h.1]
      unfold decC_j7 decC_j5
      rw [en, bind2_some, if_neg (by simp)]
    · rw [if_neg (by decide), if_neg (by decide), if_neg (by decide), if_pos (by decide), if_pos (by decide), d3 h.1]
      unfold decC_j7 decC_j5
      rw [en, bind2_some, if_neg (by simp)]
  unfold decC
  rw [d1, d2, hs, bind1_some, hh, bind3_some, if_pos rfl]
  unfold decC_j1 decC_j2
  by_cases h3 : sh ≥ 3
  · rw [if_pos (by simpa using h3), d4, if_neg (by decide)]
    exact j3 _ rfl
  · rw [if_neg (by simpa using h3), if_neg (by decide)]
    exact j3 _ (by rw [hb0 (by omega)])
section
variable {R : Arr 16 Int} {k n N j : Nat} {s t w : Int} {W : List Int} {P : T_ref04_Cpu → Prop}
end
end Go.Proofs.Abs
/- The document's machine with any data, any heap and any stack. -/
namespace Go.Proofs.Abs
open Go
set_option linter.unusedVariables false
set_option linter.unusedSimpArgs false
def endsG (n d h z : Nat) : Arr 5 Int := arrL [4 * (n : Int), 4 * (n : Int), 4 * (n : Int) + 4 * (d : Int), 4 * (n : Int) + 4 * (d : Int) + 4 * (h : Int), 4 * (n : Int) + 4 * (d : Int) + 4 * (h : Int) + 4 * (z : Int)]
def memG (n d h z : Nat) (W : List Int) : T_ref03_Mem := ⟨endsG n d h z, W⟩
section
variable {R : Arr 16 Int} {k n d h z L j : Nat} {s t w p : Int} {W : List Int}
theorem fetchG (hk : k < n) (hn : n ≤ 16000) (hw : W[k]? = some w) : ref03_Fetch (memG n d h z W) (4 * (k : Int)) = some (w, 0) := by
  have hl : k < W.length := (List.getElem?_eq_some_iff.1 hw).1
  unfold ref03_Fetch ref03_Load
  simp only [tmod_pos (show 0 ≤ 4 * (k : Int) by omega), tdiv_pos (show 0 ≤ 4 * (k : Int) by omega)]
  have e1 : 4 * (k : Int) % 4 = 0 := by omega
  have e2 : 4 * (k : Int) / 4 = (k : Int) := by omega
  have e3 : (memG n d h z W).Ends_.g 0 = 4 * (n : Int) := rfl
  have e4 : (memG n d h z W).W_ = W := rfl
  rw [e1, e2, e4, wrap_u32 (k : Int) (by omega) (by omega), wrap_i64 (k : Int) (by omega) (by omega), if_neg (by simp), if_neg (by simp; omega), gi_some (by omega) (by omega), bind1_some, bind2_some, e3, if_neg (by simp; omega)]
  have : W[((k : Nat) : Int).toNat]'(by simpa using hl) = w := by
    have h : W[k]'hl = w := by rw [List.getElem?_eq_getElem hl] at hw; exact Option.some.inj hw
    simpa using h
  rw [this]
theorem loadG {x : Int} (hW : W.length ≤ 20000) (hj : W[j]? = some x) : ref03_Load (memG n d h z W) (4 * (j : Int)) = some (x, 0) := by
  have hl : j < W.length := (List.getElem?_eq_some_iff.1 hj).1
  unfold ref03_Load
  simp only [tmod_pos (show 0 ≤ 4 * (j : Int) by omega), tdiv_pos (show 0 ≤ 4 * (j : Int) by omega)]
  have e1 : 4 * (j : Int) % 4 = 0 := by omega
  have e2 : 4 * (j : Int) / 4 = (j : Int) := by omega
  have e4 : (memG n d h z W).W_ = W := rfl
  rw [e1, e2, e4, wrap_u32 (j : Int) (by omega) (by omega), wrap_i64 (j : Int) (by omega) (by omega), if_neg (by simp), if_neg (by simp; omega), gi_some (by omega) (by omega), bind1_some]
  have : W[((j : Nat) : Int).toNat]'(by simpa using hl) = x := by
    have h : W[j]'hl = x := by rw [List.getElem?_eq_getElem hl] at hj; exact Option.some.inj hj
    simpa using h
  rw [this]
/-- it comes to an end within so many steps, and there P holds -/
def ExG (p : Int) (P : T_ref03_Mem → T_ref04_Cpu → Prop) (t : Int) (m : T_ref03_Mem) (c : T_ref04_Cpu) : Prop := ∃ r, RunTo p t m c r ∧ P r.1 r.2
variable {P : T_ref03_Mem → T_ref04_Cpu → Prop}
theorem xg_one {x : T_ref02_Instr} {c' : T_ref04_Cpu} {m' : T_ref03_Mem} (hp : p ≤ 1000000) (ht : 0 ≤ t) (ht1 : t < p) (hw : W[k]? = some w) (hd : ref02_Decode w = some (x, 0)) (hk : k < n) (hn : n ≤ 15000)
    (h3 : ref04_do (tick (cpS R k s L)) (memG n d h z W) x = some (c', m')) (next : ExG p P (t + 1) m' c') : ExG p P t (memG n d h z W) (cpS R k s L) := by
  obtain ⟨r, e, q⟩ := next
  exact ⟨r, run_go ht ht1 hp rfl (step_spec rfl (fetchG hk (by omega) hw) hd h3) e, q⟩
theorem xg_end {m : T_ref03_Mem} {c : T_ref04_Cpu} (h : c.State_ ≠ 0) (q : P m c) : ExG p P t m c := ⟨(m, c), run_end h, q⟩
end
theorem setAt_rep {A l : List Int} {a b : Nat} (h : l.length = a) : setAt (A ++ List.replicate (a + b) 0) A.length l = A ++ l ++ List.replicate b 0 := by
  unfold setAt
  rw [List.take_left' rfl, List.drop_append, List.drop_eq_nil_of_le (by omega), List.nil_append, List.drop_replicate]
  congr 2; omega
theorem runG_spec {ws dt st : List Int} {h : Nat} (hl : ws.length + dt.length + h + st.length ≤ 19000) {R : Arr 16 Int} {p : Int} {r : T_ref03_Mem × T_ref04_Cpu}
    (H : RunTo p 0 (memG ws.length dt.length h st.length (ws ++ dt ++ List.replicate h 0 ++ st)) (cpS R 1 0 (ws.length + dt.length + h)) r) : ref19_Run ws dt (4 * (h : Int)) st R p = some (r.2, r.1) := by
  obtain ⟨n, hn⟩ : ∃ n, n = ws.length := ⟨_, rfl⟩
  obtain ⟨d, hd⟩ : ∃ d, d = dt.length := ⟨_, rfl⟩
  obtain ⟨z, hz⟩ : ∃ z, z = st.length := ⟨_, rfl⟩
  rw [← hn, ← hd, ← hz] at H hl
  have wn : ∀ a : Nat, a ≤ 19000 → IntKind.wrap .u32 (IntKind.wrap .i64 (4 * (a : Int))) = 4 * (a : Int) := fun a ha => by rw [wrap_i64 _ (by omega) (by omega)]; exact wrap_u32 _ (by omega) (by omega)
  have wh : IntKind.wrap .u32 (4 * (h : Int)) = 4 * (h : Int) := wrap_u32 _ (by omega) (by omega)
  have w3 : IntKind.wrap .u32 (4 * (n : Int) + 4 * (d : Int)) = 4 * (n : Int) + 4 * (d : Int) := wrap_u32 _ (by omega) (by omega)
  have w4 : IntKind.wrap .u32 (4 * (n : Int) + 4 * (d : Int) + 4 * (h : Int)) = 4 * (n : Int) + 4 * (d : Int) + 4 * (h : Int) := wrap_u32 _ (by omega) (by omega)
  have w5 : IntKind.wrap .u32 (4 * (n : Int) + 4 * (d : Int) + 4 * (h : Int) + 4 * (z : Int)) = 4 * (n : Int) + 4 * (d : Int) + 4 * (h : Int) + 4 * (z : Int) := wrap_u32 _ (by omega) (by omega)
  have hk2 : mks 4 ((n + (d + (h + z)) : Nat) : Int) ((n + (d + (h + z)) : Nat) : Int) (0 : Int) = some (List.replicate (n + (d + (h + z))) 0) := by
    unfold mks
    rw [if_pos ⟨by omega, by omega, by have := room_bigR; omega, by omega⟩]
    have : ((n + (d + (h + z)) : Nat) : Int).toNat = n + (d + (h + z)) := by omega
    rw [this]
  have f1 : ref03_Fill ⟨endsG n d h z, List.replicate (n + (d + (h + z))) 0⟩ 0 ws = some (⟨endsG n d h z, ws ++ List.replicate (d + (h + z)) 0⟩, 0) := by
    have e : ref03_Fill ⟨endsG n d h z, List.replicate (n + (d + (h + z))) 0⟩ (4 * ((0 : Nat) : Int)) ws = _ := fill_spec 0 (by simp; omega) (by simp; omega)
    refine Eq.trans e ?_
    have := setAt_rep (A := []) (l := ws) (b := d + (h + z)) hn.symm
    rw [List.nil_append, List.nil_append] at this
    rw [show (0 : Nat) = ([] : List Int).length from rfl, this]
  have f2 : ref03_Fill ⟨endsG n d h z, ws ++ List.replicate (d + (h + z)) 0⟩ (4 * (n : Int)) dt = some (⟨endsG n d h z, ws ++ dt ++ List.replicate (h + z) 0⟩, 0) := by
    rw [fill_spec n (by simp; omega) (by simp; omega), hn, setAt_rep hd.symm]
  have f3 : ref03_Fill ⟨endsG n d h z, ws ++ dt ++ List.replicate (h + z) 0⟩ (4 * (n : Int) + 4 * (d : Int) + 4 * (h : Int)) st = some (⟨endsG n d h z, ws ++ dt ++ List.replicate h 0 ++ st⟩, 0) := by
    have e : 4 * (n : Int) + 4 * (d : Int) + 4 * (h : Int) = 4 * ((n + d + h : Nat) : Int) := by omega
    rw [e, fill_spec (n + d + h) (by simp; omega) (by simp; omega), ← List.replicate_append_replicate, ← List.append_assoc]
    have := setAt_rep (A := ws ++ dt ++ List.replicate h 0) (l := st) (b := 0) hz.symm
    rw [show (ws ++ dt ++ List.replicate h (0 : Int)).length = n + d + h by simp; omega, Nat.add_zero] at this
    rw [this]; simp
  have g4 : (endsG n d h z).g 4 = 4 * (n : Int) + 4 * (d : Int) + 4 * (h : Int) + 4 * (z : Int) := rfl
  have w9 : IntKind.wrap .u32 (Int.tdiv (4 * (n : Int) + 4 * (d : Int) + 4 * (h : Int) + 4 * (z : Int)) 4) = ((n + (d + (h + z)) : Nat) : Int) := by rw [tdiv_pos (by omega), wrap_u32 _ (by omega) (by omega)]; omega
  have e3 : IntKind.wrap .u32 (IntKind.wrap .u32 (IntKind.wrap .i64 (4 * (n : Int))) + IntKind.wrap .u32 (IntKind.wrap .i64 (4 * (d : Int)))) = 4 * (n : Int) + 4 * (d : Int) := by rw [wn n (by omega), wn d (by omega), w3]
  have e4 : IntKind.wrap .u32 (IntKind.wrap .u32 (IntKind.wrap .u32 (IntKind.wrap .i64 (4 * (n : Int))) + IntKind.wrap .u32 (IntKind.wrap .i64 (4 * (d : Int)))) + IntKind.wrap .u32 (4 * (h : Int))) = 4 * (n : Int) + 4 * (d : Int) + 4 * (h : Int) := by rw [e3, wh, w4]
  have e5 : IntKind.wrap .u32 (IntKind.wrap .u32 (IntKind.wrap .u32 (IntKind.wrap .u32 (IntKind.wrap .i64 (4 * (n : Int))) + IntKind.wrap .u32 (IntKind.wrap .i64 (4 * (d : Int)))) + IntKind.wrap .u32 (4 * (h : Int))) + IntKind.wrap .u32 (IntKind.wrap .i64 (4 * (z : Int)))) = 4 * (n : Int) + 4 * (d : Int) + 4 * (h : Int) + 4 * (z : Int) := by rw [e4, wn z (by omega), w5]
  unfold ref19_Run
  rw [← hn, ← hd, ← hz, arr5 (wn n (by omega)) (wn n (by omega)) e3 e4 e5]
  simp only [wn n (by omega), wn d (by omega), wn z (by omega), wh, w3, w4, w5]
  show bind1 (ref03_New (endsG n d h z)) _ = _
  unfold ref03_New
  rw [g4, w9, hk2, bind1_some, bind1_some, f1, bind2_some, f2, bind2_some, f3, bind2_some]
  have c0 : (T_ref04_Cpu.mk R 4 0 0 0 0 0 0 ([] : List T_api_Event) 4 0 4 (4 * (n : Int) + 4 * (d : Int) + 4 * (h : Int)) ([] : List Int)) = cpS R 1 0 (n + d + h) := by
    unfold cpS
    have e : 4 * (n : Int) + 4 * (d : Int) + 4 * (h : Int) = 4 * ((n + d + h : Nat) : Int) := by omega
    rw [e]; rfl
  rw [c0]
  have h' : loopO (fun (x : Int × T_ref03_Mem × T_ref04_Cpu) => ref19_Run_L1 p x.1 x.2.1 x.2.2) (0, memG n d h z (ws ++ dt ++ List.replicate h 0 ++ st), cpS R 1 0 (n + d + h)) = some r := H
  show bind1 (loopO (fun (x : Int × T_ref03_Mem × T_ref04_Cpu) => ref19_Run_L1 p x.1 x.2.1 x.2.2) (0, memG n d h z (ws ++ dt ++ List.replicate h 0 ++ st), cpS R 1 0 (n + d + h))) _ = _
  rw [h', bind1_some]
  rfl
end Go.Proofs.Abs
/- Printed by gen (walk.py). -/
namespace Go.Proofs.Abs
open Go Go.Proofs
set_option linter.unusedVariables false
set_option maxRecDepth 100000
set_option maxHeartbeats 0
def wf_api_Param (x : T_api_Param) : Prop := (fun n => (Lit.int .i64 n).wf = true) x.Type_ ∧ (fun _ => True) x.Ref_
theorem opens_api_Param : Opens Try.prog 88 e_api_Param wf_api_Param := fun H enc w fuel cs x h => by
  obtain ⟨xs, n, _, _, hl, hxl, hp⟩ := DataW.trod_struct Try.underlying88 h
  have hl : cs.length = 2 := by rw [hl]; kernel_rfl
  obtain ⟨a0, w0, r0⟩ := part_of (i := 0) rfl hxl hp (opens_int Try.underlying3)
  obtain ⟨a1, w1, r1⟩ := part_of (i := 1) rfl hxl hp (opens_bool Try.underlying4)
  exact ⟨⟨a0, a1⟩, ⟨w0, w1⟩, (reads_step (o := 0) (z := 1) r0 (reads_step (o := 1) (z := 1) r1 (reads_end (o := 2) (by rw [hl]; exact Nat.le_refl _))))⟩
def wf_scope_Object (x : T_scope_Object) : Prop := (fun s => s.size ≤ maxLen) x.Name_ ∧ (fun n => (Lit.int .i64 n).wf = true) x.Kind_ ∧ (fun n => (Lit.int .i64 n).wf = true) x.Type_ ∧ (fun n => (Lit.int .i64 n).wf = true) x.Level_ ∧ (fun n => (Lit.int .i32 n).wf = true) x.N_ ∧ (fun n => (Lit.int .i64 n).wf = true) x.Module_ ∧ (fun _ => True) x.Out_ ∧ (fun xs => (∀ x, x ∈ xs → wf_api_Param x) ∧ xs.length ≤ maxLen) x.Params_
theorem opens_scope_Object : Opens Try.prog 65 e_scope_Object wf_scope_Object := fun H enc w fuel cs x h => by
  obtain ⟨xs, n, _, _, hl, hxl, hp⟩ := DataW.trod_struct Try.underlying65 h
  have hl : cs.length = 8 := by rw [hl]; kernel_rfl
  obtain ⟨a0, w0, r0⟩ := part_of (i := 0) rfl hxl hp (opens_str Try.underlying9)
  obtain ⟨a1, w1, r1⟩ := part_of (i := 1) rfl hxl hp (opens_int Try.underlying3)
  obtain ⟨a2, w2, r2⟩ := part_of (i := 2) rfl hxl hp (opens_int Try.underlying3)
  obtain ⟨a3, w3, r3⟩ := part_of (i := 3) rfl hxl hp (opens_int Try.underlying3)
  obtain ⟨a4, w4, r4⟩ := part_of (i := 4) rfl hxl hp (opens_int Try.underlying21)
  obtain ⟨a5, w5, r5⟩ := part_of (i := 5) rfl hxl hp (opens_int Try.underlying3)
  obtain ⟨a6, w6, r6⟩ := part_of (i := 6) rfl hxl hp (opens_bool Try.underlying4)
  obtain ⟨a7, w7, r7⟩ := part_of (i := 7) rfl hxl hp (opens_slice (z := 2) Try.underlying63 (by kernel_rfl) (by kernel_rfl) (fun _ => rfl) opens_api_Param)
  exact ⟨⟨a0, a1, a2, a3, a4, a5, a6, a7⟩, ⟨w0, w1, w2, w3, w4, w5, w6, w7⟩, (reads_step (o := 0) (z := 1) r0 (reads_step (o := 1) (z := 1) r1 (reads_step (o := 2) (z := 1) r2 (reads_step (o := 3) (z := 1) r3 (reads_step (o := 4) (z := 1) r4 (reads_step (o := 5) (z := 1) r5 (reads_step (o := 6) (z := 1) r6 (reads_step (o := 7) (z := 1) r7 (reads_end (o := 8) (by rw [hl]; exact Nat.le_refl _))))))))))⟩
/-- the statement, in plain Lean -/
def ItemReachesPure : Prop := ∀ (p0 : Int) (p1 : Int) (p2 : T_scope_Object), (fun n => (Lit.int .u8 n).wf = true) p0 → (fun n => (Lit.int .u8 n).wf = true) p1 → wf_scope_Object p2 → ∃ Hr, law19_ItemReaches [] p0 p1 p2 = some (Hr, true)
end Go.Proofs.Abs
/- Frames in a stack, and the code that leads from one to those without. -/
namespace Go.Proofs.Abs
open Go
set_option linter.unusedVariables false
set_option linter.unusedSimpArgs false
/-! the chain of frames -/
theorem chain2 (M k : Nat) (hk : k < M) (hM : M ≤ 100) : ∀ (n : Nat) (l : List Int) (a : Int), l.length = 16 * M + 32 → 0 ≤ a → a + n = 16 → ∃ r, loopO (fun (x : List Int × Int) => law19_chain_L2 M k x.1 x.2) (l, a) = some r ∧ r.length = 16 * M + 32
  | 0, l, a, hl, h0, h1 => by
    refine ⟨l, loopO_out ?_, hl⟩
    show law19_chain_L2 M k l a = _
    unfold law19_chain_L2
    rw [if_neg (by simp; omega)]
  | n + 1, l, a, hl, h0, h1 => by
    have e : IntKind.wrap .i64 (IntKind.wrap .i64 (IntKind.wrap .i64 (16 * IntKind.wrap .i64 ((M : Int) - (k : Int))) - 8) + a) = 16 * ((M : Int) - k) - 8 + a := by
      rw [wrap_i64 ((M : Int) - (k : Int)) (by omega) (by omega), wrap_i64 (16 * ((M : Int) - (k : Int))) (by omega) (by omega), wrap_i64 (16 * ((M : Int) - (k : Int)) - 8) (by omega) (by omega), wrap_i64 _ (by omega) (by omega)]
    obtain ⟨r, h2, h3⟩ := chain2 M k hk hM n (l.set (16 * ((M : Int) - k) - 8 + a).toNat (IntKind.wrap .u32 (IntKind.wrap .i64 (IntKind.wrap .i64 (1000 * (k : Int)) + a)))) (a + 1) (by simpa using hl) (by omega) (by omega)
    refine ⟨r, ?_, h3⟩
    rw [loopO_go (f := fun (x : List Int × Int) => law19_chain_L2 M k x.1 x.2) (s' := (l.set (16 * ((M : Int) - k) - 8 + a).toNat (IntKind.wrap .u32 (IntKind.wrap .i64 (IntKind.wrap .i64 (1000 * (k : Int)) + a))), a + 1))]
    · exact h2
    · show law19_chain_L2 M k l a = _
      unfold law19_chain_L2
      rw [if_pos (by simp; omega), e, gi_some (by omega) (by omega), bind1_some, si_some (by omega) (by omega), bind1_some, wrap_i64 (a + 1) (by omega) (by omega)]
def atL (N M k : Nat) : List Int := (List.range k).map fun q => 4 * ((N + 16 * (M - q) : Nat) : Int)
theorem atL_len (N M k : Nat) : (atL N M k).length = k := by simp [atL]
theorem atL_succ (N M k : Nat) : atL N M (k + 1) = atL N M k ++ [4 * ((N + 16 * (M - k) : Nat) : Int)] := by unfold atL; rw [List.range_succ, List.map_append]; rfl
theorem atL_get {N M k q : Nat} (h : q < k) : (atL N M k)[q]? = some (4 * ((N + 16 * (M - q) : Nat) : Int)) := by
  unfold atL; rw [List.getElem?_map, List.getElem?_range h]; rfl
theorem chain1 (N M : Nat) (hN : N ≤ 15000) (hM : M ≤ 100) : ∀ (n k : Nat) (l : List Int), l.length = 16 * M + 32 → k + n = M → ∃ r, loopO (fun (x : List Int × Int × List Int × Int) => law19_chain_L1 M x.1 x.2.1 x.2.2.1 x.2.2.2) (l, 4 * (N : Int), atL N M k, (k : Int)) = some (r, atL N M M) ∧ r.length = 16 * M + 32
  | 0, k, l, hl, h1 => by
    obtain rfl : k = M := by omega
    refine ⟨l, loopO_out ?_, hl⟩
    show law19_chain_L1 k l (4 * (N : Int)) (atL N k k) k = _
    unfold law19_chain_L1
    rw [if_neg (by simp)]
  | n + 1, k, l, hl, h1 => by
    obtain ⟨r1, e1, l1⟩ := chain2 M k (by omega) hM 16 l 0 hl (by omega) (by omega)
    obtain ⟨r, h2, h3⟩ := chain1 N M hN hM n (k + 1) r1 l1 (by omega)
    refine ⟨r, ?_, h3⟩
    rw [loopO_go (f := fun (x : List Int × Int × List Int × Int) => law19_chain_L1 M x.1 x.2.1 x.2.2.1 x.2.2.2) (s' := (r1, 4 * (N : Int), atL N M (k + 1), ((k + 1 : Nat) : Int)))]
    · exact h2
    · show law19_chain_L1 M l (4 * (N : Int)) (atL N M k) k = _
      have w : IntKind.wrap .u32 (4 * (N : Int) + IntKind.wrap .u32 (IntKind.wrap .i64 (64 * IntKind.wrap .i64 ((M : Int) - (k : Int))))) = 4 * ((N + 16 * (M - k) : Nat) : Int) := by
        rw [wrap_i64 ((M : Int) - (k : Int)) (by omega) (by omega), wrap_i64 (64 * ((M : Int) - (k : Int))) (by omega) (by omega), wrap_u32 (64 * ((M : Int) - (k : Int))) (by omega) (by omega), wrap_u32 _ (by omega) (by omega)]; omega
      unfold law19_chain_L1
      rw [if_pos (by simp; omega), w, app_some (by rw [atL_len]; simp; omega), bind1_some, e1, bind1_some, wrap_i64 ((k : Int) + 1) (by omega) (by omega), ← atL_succ]
      rfl
theorem chain3 (N M : Nat) (hN : N ≤ 15000) (hM : M ≤ 100) : ∀ (n k : Nat) (l : List Int), l.length = 16 * M + 32 → 1 ≤ k → k + n = M → (∀ q, 1 ≤ q → q < k → l[16 * (M - q) + 2]? = some (4 * ((N + 16 * (M - q + 1) : Nat) : Int))) →
    ∃ r, loopO (fun (x : List Int × Int) => law19_chain_L3 M (atL N M M) x.1 x.2) (l, (k : Int)) = some r ∧ r.length = 16 * M + 32 ∧ ∀ q, 1 ≤ q → q < M → r[16 * (M - q) + 2]? = some (4 * ((N + 16 * (M - q + 1) : Nat) : Int))
  | 0, k, l, hl, h0, h1, hq => by
    obtain rfl : k = M := by omega
    refine ⟨l, loopO_out ?_, hl, hq⟩
    show law19_chain_L3 k (atL N k k) l k = _
    unfold law19_chain_L3
    rw [if_neg (by simp)]
  | n + 1, k, l, hl, h0, h1, hq => by
    obtain ⟨j, hj⟩ : ∃ j, j = 16 * (M - k) + 2 := ⟨_, rfl⟩
    obtain ⟨x, hx⟩ : ∃ x, x = 4 * ((N + 16 * (M - k + 1) : Nat) : Int) := ⟨_, rfl⟩
    have g := atL_get (N := N) (M := M) (k := M) (q := k - 1) (by omega)
    rw [show M - (k - 1) = M - k + 1 by omega, ← hx] at g
    obtain ⟨r, h2, h3, h4⟩ := chain3 N M hN hM n (k + 1) (l.set j x) (by simpa using hl) (by omega) (by omega) (fun q q0 q1 => by
      by_cases c : q = k
      · subst c; rw [← hj, List.getElem?_set_self (by omega), hx]
      · rw [List.getElem?_set_ne (by omega)]; exact hq q q0 (by omega))
    refine ⟨r, ?_, h3, h4⟩
    rw [loopO_go (f := fun (x : List Int × Int) => law19_chain_L3 M (atL N M M) x.1 x.2) (s' := (l.set j x, ((k + 1 : Nat) : Int)))]
    · exact h2
    · show law19_chain_L3 M (atL N M M) l k = _
      have e1 : IntKind.wrap .i64 ((k : Int) - 1) = (k : Int) - 1 := wrap_i64 _ (by omega) (by omega)
      have e2 : IntKind.wrap .i64 (IntKind.wrap .i64 (16 * IntKind.wrap .i64 ((M : Int) - (k : Int))) + 2) = (j : Int) := by
        rw [wrap_i64 ((M : Int) - (k : Int)) (by omega) (by omega), wrap_i64 (16 * ((M : Int) - (k : Int))) (by omega) (by omega), wrap_i64 _ (by omega) (by omega)]; omega
      have g1 : gi (atL N M M) ((k : Int) - 1) = some x := by
        rw [gi_some (by omega) (by rw [atL_len]; omega)]
        have e3 : ((k : Int) - 1).toNat = k - 1 := by omega
        have := List.getElem?_eq_some_iff.1 g
        obtain ⟨w1, w2⟩ := this
        simp only [e3, w2]
      unfold law19_chain_L3
      rw [if_pos (by simp; omega), e1, g1, bind1_some, e2, gi_some (by omega) (by omega), bind1_some, si_some (by omega) (by omega), bind1_some, wrap_i64 ((k : Int) + 1) (by omega) (by omega)]
      have : ((j : Nat) : Int).toNat = j := by simp
      rw [this]; rfl
theorem chain_spec (N M : Nat) (hN : N ≤ 15000) (h1 : 1 ≤ M) (hM : M ≤ 100) : ∃ st, law19_chain N M = some (st, atL N M M) ∧ st.length = 16 * M + 32 ∧ ∀ q, 1 ≤ q → q < M → st[16 * q + 2]? = some (4 * ((N + 16 * (q + 1) : Nat) : Int)) := by
  have w1 : IntKind.wrap .i64 (IntKind.wrap .i64 (16 * (M : Int)) + 32) = ((16 * M + 32 : Nat) : Int) := by rw [wrap_i64 (16 * (M : Int)) (by omega) (by omega), wrap_i64 _ (by omega) (by omega)]; omega
  have w2 : IntKind.wrap .u32 (IntKind.wrap .i64 (4 * (N : Int))) = 4 * (N : Int) := by rw [wrap_i64 _ (by omega) (by omega)]; exact wrap_u32 _ (by omega) (by omega)
  have hk : mks 4 ((16 * M + 32 : Nat) : Int) ((16 * M + 32 : Nat) : Int) (0 : Int) = some (List.replicate (16 * M + 32) 0) := by
    unfold mks
    rw [if_pos ⟨by omega, by omega, by have := room_bigR; omega, by omega⟩]
    have : ((16 * M + 32 : Nat) : Int).toNat = 16 * M + 32 := by omega
    rw [this]
  obtain ⟨r1, e1, l1⟩ := chain1 N M hN hM M 0 (List.replicate (16 * M + 32) 0) (by simp) (by omega)
  obtain ⟨r2, e2, l2, q2⟩ := chain3 N M hN hM (M - 1) 1 r1 l1 (by omega) (by omega) (fun q a b => by omega)
  refine ⟨r2, ?_, l2, fun q a b => ?_⟩
  · have e1 : loopO (fun (x : List Int × Int × List Int × Int) => law19_chain_L1 M x.1 x.2.1 x.2.2.1 x.2.2.2) (List.replicate (16 * M + 32) 0, 4 * (N : Int), ([] : List Int), (0 : Int)) = some (r1, atL N M M) := e1
    have e2 : loopO (fun (x : List Int × Int) => law19_chain_L3 M (atL N M M) x.1 x.2) (r1, (1 : Int)) = some r2 := e2
    unfold law19_chain
    rw [w1, hk, bind1_some, w2, e1, bind1_some]
    show bind1 (loopO (fun (x : List Int × Int) => law19_chain_L3 M (atL N M M) x.1 x.2) (r1, (1 : Int))) _ = _
    rw [e2]; rfl
  · have := q2 (M - q) (by omega) (by omega)
    rw [show M - (M - q) = q by omega] at this
    exact this
/-! the code -/
def baseW (j : Nat) : List Int := if j = 0 then [84738048] else 302841864 :: List.replicate (j - 1) 301989896
theorem enc_fp : instr_Encode ⟨5, 0, 13, 0, 0⟩ = some (84738048, 0) := by kernel_rfl
theorem enc_st : instr_Encode ⟨18, 0, 13, 0, 8⟩ = some (302841864, 0) := by kernel_rfl
theorem enc_hop : instr_Encode ⟨18, 0, 0, 0, 8⟩ = some (301989896, 0) := by kernel_rfl
theorem enc_ld0 : instr_Encode ⟨18, 0, 0, 0, 0⟩ = some (301989888, 0) := by kernel_rfl
theorem dec_fp : ref02_Decode 84738048 = some (⟨5, 0, 13, 0, 0⟩, 0) := by rw [decC_eq]; kernel_rfl
theorem dec_st : ref02_Decode 302841864 = some (⟨18, 0, 13, 0, 8⟩, 0) := by rw [decC_eq]; kernel_rfl
theorem dec_hop : ref02_Decode 301989896 = some (⟨18, 0, 0, 0, 8⟩, 0) := by rw [decC_eq]; kernel_rfl
theorem dec_ld0 : ref02_Decode 301989888 = some (⟨18, 0, 0, 0, 0⟩, 0) := by rw [decC_eq]; kernel_rfl
section
variable {H : Heap} {i g : Nat} {c : T_emit_Code} {ws : List Int} {d m e L : Int} {Pr : T_item_Proc}
theorem hops_gn {lv : Int} : ∀ (j : Nat) (a : Int) (H : Heap) (ws : List Int), Gn H i g (D ws d m e) L Pr → a - lv = j → -1000 ≤ lv → a ≤ 1000 → ws.length + j < 16000 →
    ∃ H', loopO (fun (x : Int × Heap) => item_Gen_Base_L1 lv g 0 x.1 x.2) (a, H) = some H' ∧ Gn H' i g (D (ws ++ List.replicate j 301989896) d m e) L Pr
  | 0, a, H, ws, G, h1, h2, h3, h4 => by
    refine ⟨H, loopO_out ?_, by simpa using G⟩
    show item_Gen_Base_L1 lv g 0 a H = _
    unfold item_Gen_Base_L1
    rw [if_neg (by simp; omega)]
  | j + 1, a, H, ws, G, h1, h2, h3, h4 => by
    obtain ⟨H1, e1, G1⟩ := sign_gn G enc_hop (show ws.length < 16384 by omega)
    have G1 : Gn H1 i g (D (ws ++ [301989896]) d m e) L Pr := G1
    obtain ⟨H2, e2, G2⟩ := hops_gn j (a - 1) H1 _ G1 (by omega) h2 (by omega) (by simp; omega)
    refine ⟨H2, ?_, by rw [List.replicate_succ]; simpa using G2⟩
    rw [loopO_go (f := fun (x : Int × Heap) => item_Gen_Base_L1 lv g 0 x.1 x.2) (s' := (a - 1, H1))]
    · exact e2
    · show item_Gen_Base_L1 lv g 0 a H = _
      unfold item_Gen_Base_L1
      rw [if_pos (by simp; omega), G.gen, bind1_some]
      show bind2 (emit_Code_Sign H (.at i 0) 18 0 0 8) _ = _
      rw [e1, bind2_some, wrap_i64 (a - 1) (by omega) (by omega)]
theorem base_gn {lv : Int} (G : Gn H i g (D ws d m e) L Pr) (hl : ws.length < 14000) (h0 : -1000 ≤ lv) (h1 : L ≤ 900) :
    ∃ H', item_Gen_Base H (.at g 0) lv = some H' ∧ Gn H' i g (D (ws ++ baseW (L - lv).toNat) d m e) L Pr := by
  unfold item_Gen_Base
  rw [pbnd_at, G.gen, bind1_some]
  by_cases k : lv ≥ L
  · obtain ⟨H1, e1, G1⟩ := sign_gn G enc_fp (show ws.length < 16384 by omega)
    rw [if_pos (by simpa [genV] using k)]
    show ∃ H', bind2 (emit_Code_Sign H (.at i 0) 5 0 13 0) _ = _ ∧ _
    rw [e1, bind2_some]
    refine ⟨H1, rfl, ?_⟩
    unfold baseW
    rw [if_pos (by omega)]
    exact G1
  · obtain ⟨H1, e1, G1⟩ := sign_gn G enc_st (show ws.length < 16384 by omega)
    have G1 : Gn H1 i g (D (ws ++ [302841864]) d m e) L Pr := G1
    obtain ⟨H2, e2, G2⟩ := hops_gn (lv := lv) ((L - lv).toNat - 1) (L - 1) H1 _ G1 (by omega) h0 (by omega) (by simp; omega)
    rw [if_neg (by simpa [genV] using k)]
    show ∃ H', bind2 (emit_Code_Sign H (.at i 0) 18 0 13 8) _ = _ ∧ _
    rw [e1, bind2_some, G1.gen, bind1_some]
    show ∃ H', bind1 (loopO (fun (x : Int × Heap) => item_Gen_Base_L1 lv g 0 x.1 x.2) (IntKind.wrap .i64 (L - 1), H1)) _ = _ ∧ _
    rw [wrap_i64 (L - 1) (by omega) (by omega), e2, bind1_some]
    refine ⟨H2, rfl, ?_⟩
    unfold baseW
    rw [if_neg (by omega)]
    simpa using G2
end
/-! what it does -/
section
variable {k N M dd hh z L : Nat} {s t p : Int} {W : List Int} {P : T_ref03_Mem → T_ref04_Cpu → Prop}
theorem hops_xg (hp : p ≤ 1000000) (hW : W.length ≤ 20000) (hN : N ≤ 15000) (links : ∀ q, 1 ≤ q → q < M → W[N + 16 * q + 2]? = some (4 * ((N + 16 * (q + 1) : Nat) : Int))) :
    ∀ (j q k : Nat) (R : Arr 16 Int) (s t : Int), Sits W k (List.replicate j 301989896) → R.g 0 = 4 * ((N + 16 * q : Nat) : Int) → 1 ≤ q → q + j ≤ M → M ≤ 100 → k + j ≤ N → 0 ≤ t → t + j < p →
      (∀ (R' : Arr 16 Int) s', R'.g 0 = 4 * ((N + 16 * (q + j) : Nat) : Int) → ExG p P (t + j) (memG N dd hh z W) (cpS R' (k + j) s' L)) → ExG p P t (memG N dd hh z W) (cpS R k s L)
  | 0, q, k, R, s, t, hs, g0, q0, q1, hM, hk, t0, t1, next => by
    have := next R s (by simpa using g0)
    simpa using this
  | j + 1, q, k, R, s, t, hs, g0, q0, q1, hM, hk, t0, t1, next => by
    rw [List.replicate_succ] at hs
    obtain ⟨h1, hs⟩ := hs.here
    have w8 : IntKind.wrap .u32 8 = 8 := by kernel_rfl
    refine xg_one hp t0 (by omega) h1 dec_hop (by omega) hN (do_ldw (a := 0) (b := 0) (x := 4 * ((N + 16 * (q + 1) : Nat) : Int)) (by decide) (by decide) (by omega) ?_) ?_
    · rw [g0, w8, wrap_u32 _ (by omega) (by omega)]
      have : 4 * ((N + 16 * q : Nat) : Int) + 8 = 4 * ((N + 16 * q + 2 : Nat) : Int) := by omega
      rw [this]; exact loadG hW (links q q0 (by omega))
    · refine hops_xg hp hW hN links j (q + 1) (k + 1) _ _ (t + 1) hs (put_same (by decide)) (by omega) (by omega) hM (by omega) (by omega) (by omega) fun R' s' h => ?_
      have := next R' s' (by rw [h]; congr 2; omega)
      rw [show t + ((j + 1 : Nat) : Int) = t + 1 + j by omega, show k + (j + 1) = k + 1 + j by omega] at this
      exact this
theorem base_xg (hp : p ≤ 1000000) (hW : W.length ≤ 20000) (hN : N ≤ 15000) (links : ∀ q, 1 ≤ q → q < M → W[N + 16 * q + 2]? = some (4 * ((N + 16 * (q + 1) : Nat) : Int))) {j : Nat} {R : Arr 16 Int}
    (hs : Sits W k (baseW j)) (g13 : R.g 13 = 4 * ((N + 16 : Nat) : Int)) (q1 : 1 + j ≤ M) (hM : M ≤ 100) (hk : k + (baseW j).length ≤ N) (t0 : 0 ≤ t) (t1 : t + (baseW j).length < p)
    (next : ∀ (R' : Arr 16 Int) s', R'.g 0 = 4 * ((N + 16 * (1 + j) : Nat) : Int) → ExG p P (t + (baseW j).length) (memG N dd hh z W) (cpS R' (k + (baseW j).length) s' L)) : ExG p P t (memG N dd hh z W) (cpS R k s L) := by
  unfold baseW at hs hk t1 next
  have w0 : IntKind.wrap .u32 0 = 0 := by kernel_rfl
  have w8 : IntKind.wrap .u32 8 = 8 := by kernel_rfl
  by_cases c : j = 0
  · subst c
    rw [if_pos rfl] at hs hk t1 next
    simp only [List.length_cons, List.length_nil] at hk t1 next
    obtain ⟨h1, _⟩ := hs.here
    refine xg_one hp t0 (by omega) h1 dec_fp (by omega) hN (do_addi (a := 0) (b := 13) (by decide) (by decide) (by omega)) ?_
    exact next _ _ (by rw [put_same (by decide), g13, w0, wrap_u32 _ (by omega) (by omega)]; omega)
  · rw [if_neg c] at hs hk t1 next
    simp only [List.length_cons, List.length_replicate] at hk t1 next
    obtain ⟨h1, hs⟩ := hs.here
    refine xg_one hp t0 (by omega) h1 dec_st (by omega) hN (do_ldw (a := 0) (b := 13) (x := 4 * ((N + 16 * 2 : Nat) : Int)) (by decide) (by decide) (by omega) ?_) ?_
    · rw [g13, w8, wrap_u32 _ (by omega) (by omega)]
      have : 4 * ((N + 16 : Nat) : Int) + 8 = 4 * ((N + 16 * 1 + 2 : Nat) : Int) := by omega
      rw [this]; exact loadG hW (links 1 (by omega) (by omega))
    · refine hops_xg hp hW hN links (j - 1) 2 (k + 1) _ _ (t + 1) hs (put_same (by decide)) (by omega) (by omega) hM (by omega) (by omega) (by omega) fun R' s' h => ?_
      have := next R' s' (by rw [h]; congr 2; omega)
      rw [show t + ((j - 1 + 1 : Nat) : Int) = t + 1 + ((j - 1 : Nat) : Int) by omega, show k + (j - 1 + 1) = k + 1 + (j - 1) by omega] at this
      exact this
end
end Go.Proofs.Abs
/- From any level, where anything of a level without is, and what stands there, is what the page says. -/
namespace Go.Proofs.Abs
open Go
set_option linter.unusedVariables false
set_option linter.unusedSimpArgs false
theorem wf_u8r {n : Int} : (Lit.int .u8 n).wf = true ↔ 0 ≤ n ∧ n ≤ 255 := by
  simp [Lit.wf, IntKind.min, IntKind.max, IntKind.signed, IntKind.bits]
def addpW (y : Int) : Int := 5 * 16777216 + 0 * 1048576 + 0 * 65536 + y % 65536
def ldpW (y : Int) : Int := 18 * 16777216 + 0 * 1048576 + 0 * 65536 + y % 65536
def tailW (ref : Bool) (y : Int) : List Int := if ref = true then [ldpW y] else [addpW y, 301989888]
theorem enc_add0 {y : Int} (h0 : -100 ≤ y) (h1 : y ≤ 100) : instr_Encode ⟨5, 0, 0, 0, y⟩ = some (addpW y, 0) :=
  enc_gen (sh := 3) (by kernel_rfl) (.inl ⟨.inr rfl, by omega, by omega⟩) (by decide) (by decide) (by decide) (by decide) (by decide) (by decide) (fun _ => rfl)
theorem dec_add0 {y : Int} (h0 : -100 ≤ y) (h1 : y ≤ 100) : ref02_Decode (addpW y) = some (⟨5, 0, 0, 0, y⟩, 0) :=
  dec_gen (sh := 3) (by kernel_rfl) (.inl ⟨.inr rfl, by omega, by omega⟩) (by decide) (by decide) (by decide) (by decide) (by decide) (by decide) (fun _ => rfl)
theorem enc_ldp {y : Int} (h0 : -100 ≤ y) (h1 : y ≤ 100) : instr_Encode ⟨18, 0, 0, 0, y⟩ = some (ldpW y, 0) :=
  enc_gen (sh := 3) (by kernel_rfl) (.inl ⟨.inr rfl, by omega, by omega⟩) (by decide) (by decide) (by decide) (by decide) (by decide) (by decide) (fun _ => rfl)
theorem dec_ldp {y : Int} (h0 : -100 ≤ y) (h1 : y ≤ 100) : ref02_Decode (ldpW y) = some (⟨18, 0, 0, 0, y⟩, 0) :=
  dec_gen (sh := 3) (by kernel_rfl) (.inl ⟨.inr rfl, by omega, by omega⟩) (by decide) (by decide) (by decide) (by decide) (by decide) (by decide) (fun _ => rfl)
def RP (m0 : T_ref03_Mem) (x : Int) (m : T_ref03_Mem) (c : T_ref04_Cpu) : Prop := m = m0 ∧ c.State_ = 1 ∧ c.Cause_ = 0 ∧ c.R_.g 0 = x
theorem tail_xg {k N dd hh z L : Nat} {s t p y : Int} {W : List Int} (ref : Bool) {R : Arr 16 Int} {a b : Nat} {x : Int} (hp : p ≤ 1000000) (hW : W.length ≤ 20000) (hN : N ≤ 15000) (y0 : -100 ≤ y) (y1 : y ≤ 100)
    (hs : Sits W k (tailW ref y ++ [16777216])) (g0 : R.g 0 = 4 * (a : Int)) (ha : 4 * (a : Int) + y = 4 * (b : Int)) (ha2 : a ≤ 20000) (hx : W[b]? = some x) (hk : k + (tailW ref y).length < N) (t0 : 0 ≤ t) (t1 : t + 10 < p) :
    ExG p (RP (memG N dd hh z W) x) t (memG N dd hh z W) (cpS R k s L) := by
  have hb : b < W.length := (List.getElem?_eq_some_iff.1 hx).1
  have w0 : IntKind.wrap .u32 0 = 0 := by kernel_rfl
  have ad : IntKind.wrap .u32 (4 * (a : Int) + IntKind.wrap .u32 y) = 4 * (b : Int) := by rw [wrap_mod, wrap_mod]; omega
  cases ref with
  | true =>
    have hs : Sits W k ([ldpW y] ++ [16777216]) := hs
    have hk : k + 1 < N := hk
    obtain ⟨h1, hs⟩ := hs.here
    obtain ⟨h2, _⟩ := hs.here
    refine xg_one hp t0 (by omega) h1 (dec_ldp y0 y1) (by omega) hN (do_ldw (a := 0) (b := 0) (x := x) (by decide) (by decide) (by omega) (by rw [g0, ad]; exact loadG hW hx)) ?_
    refine xg_one hp (by omega) (by omega) h2 dec_halt (by omega) hN do_halt ?_
    exact xg_end (show (1 : Int) ≠ 0 by decide) ⟨rfl, rfl, rfl, put_same (by decide)⟩
  | false =>
    have hs : Sits W k ([addpW y, 301989888] ++ [16777216]) := hs
    have hk : k + 2 < N := hk
    obtain ⟨h1, hs⟩ := hs.here
    obtain ⟨h2, hs⟩ := hs.here
    obtain ⟨h3, _⟩ := hs.here
    refine xg_one hp t0 (by omega) h1 (dec_add0 y0 y1) (by omega) hN (do_addi (a := 0) (b := 0) (by decide) (by decide) (by omega)) ?_
    rw [g0, ad]
    refine xg_one hp (by omega) (by omega) h2 dec_ld0 (by omega) hN (do_ldw (a := 0) (b := 0) (x := x) (by decide) (by decide) (by omega) ?_) ?_
    · rw [put_same (by decide), w0]
      have : IntKind.wrap .u32 (4 * (b : Int) + 0) = 4 * (b : Int) := by rw [wrap_u32 _ (by omega) (by omega)]; omega
      rw [this]; exact loadG hW hx
    refine xg_one hp (by omega) (by omega) h3 dec_halt (by omega) hN do_halt ?_
    exact xg_end (show (1 : Int) ≠ 0 by decide) ⟨rfl, rfl, rfl, put_same (by decide)⟩
/-- all of the code -/
theorem reaches_run (ref : Bool) {M to : Nat} {y : Int} (h1 : 1 ≤ M) (hM : M ≤ 12) (hto : to < M) (y0 : -16 ≤ y) (y1 : y ≤ 16) (y4 : y % 4 = 0) {ws : List Int} (hws : ws = 16777216 :: (baseW (M - 1 - to) ++ tailW ref y) ++ [16777216]) :
    ∃ st r m c, law19_chain ws.length M = some (st, atL ws.length M M) ∧
      (∀ R : Arr 16 Int, R.g 13 = 4 * ((ws.length + 16 : Nat) : Int) → ∃ c m, ref19_Run ws [] 0 st R 5000 = some (c, m) ∧ c.State_ = 1 ∧ c.Cause_ = 0 ∧ c.R_.g 0 = r ∧ ref03_Load m (4 * ((ws.length + 16 * (M - to) : Nat) : Int) + y) = some (r, 0)) ∧ m = (0 : Int) ∧ c = (0 : Int) := by
  have lb : (baseW (M - 1 - to)).length ≤ 12 := by unfold baseW; split <;> simp; omega
  have lt : (tailW ref y).length ≤ 2 := by unfold tailW; split <;> simp
  have lw : ws.length = (baseW (M - 1 - to)).length + (tailW ref y).length + 2 := by rw [hws]; simp; omega
  obtain ⟨N, hN⟩ : ∃ N, N = ws.length := ⟨_, rfl⟩
  rw [← hN] at lw ⊢
  obtain ⟨st, e1, l1, q1⟩ := chain_spec N M (by omega) h1 (by omega)
  obtain ⟨b, hb⟩ : ∃ b : Nat, (b : Int) = (N : Int) + 16 * ((M - to : Nat) : Int) + y / 4 := ⟨((N : Int) + 16 * ((M - to : Nat) : Int) + y / 4).toNat, by omega⟩
  obtain ⟨W, hW⟩ : ∃ W, W = ws ++ [] ++ List.replicate 0 0 ++ st := ⟨_, rfl⟩
  have lW : W.length = N + (16 * M + 32) := by rw [hW]; simp; omega
  have hbW : b < W.length := by omega
  refine ⟨st, W[b], 0, 0, e1, fun R g13 => ?_, rfl, rfl⟩
  have hx : W[b]? = some W[b] := List.getElem?_eq_getElem hbW
  have links : ∀ q, 1 ≤ q → q < M → W[N + 16 * q + 2]? = some (4 * ((N + 16 * (q + 1) : Nat) : Int)) := fun q a c => by
    rw [hW, List.append_nil, List.replicate_zero, List.append_nil, List.getElem?_append_right (by omega), ← hN, show N + 16 * q + 2 - N = 16 * q + 2 by omega]
    exact q1 q a c
  have hs : Sits W 1 (baseW (M - 1 - to) ++ (tailW ref y ++ [16777216])) := by
    have : W = 16777216 :: ((baseW (M - 1 - to) ++ (tailW ref y ++ [16777216])) ++ st) := by rw [hW, hws]; simp
    rw [this]; exact sits_mk _ _ _
  obtain ⟨s1, s2⟩ := hs.app
  have ex : ExG 5000 (RP (memG N 0 0 st.length W) W[b]) 0 (memG N 0 0 st.length W) (cpS R 1 0 (N + 0 + 0)) := by
    refine base_xg (by decide) (by omega) (by omega) links s1 g13 (by omega) (by omega) (by omega) (by omega) (by omega) fun R' s' g0 => ?_
    exact tail_xg ref (a := N + 16 * (1 + (M - 1 - to))) (b := b) (by decide) (by omega) (by omega) (by omega) (by omega) s2 g0 (by omega) (by omega) hx (by omega) (by omega) (by omega)
  obtain ⟨r, ru, rm, r1, r2, r3⟩ := ex
  have run := runG_spec (ws := ws) (dt := []) (st := st) (h := 0) (by simp; omega) (R := R) (p := 5000) (r := r) (by rw [← hW, ← hN]; exact ru)
  refine ⟨r.2, r.1, run, r1, r2, r3, ?_⟩
  rw [rm]
  have : 4 * ((N + 16 * (M - to) : Nat) : Int) + y = 4 * (b : Int) := by omega
  rw [this]; exact loadG (by omega) hx
section
variable {H : Heap} {i g : Nat} {ws : List Int} {d m e L : Int} {Pr : T_item_Proc}
theorem addr_gn {x : T_scope_Object} (G : Gn H i g (D ws d m e) L Pr) (hl : ws.length < 10000) (hL : L ≤ 900) (h1 : x.Level_ ≥ 1) (h0 : x.Module_ = 0) (y0 : -100 ≤ x.N_) (y1 : x.N_ ≤ 100) :
    ((x.Kind_ = 3 ∨ x.Kind_ = 4) → ∃ H', item_Gen_Address H (.at g 0) x = some (H', 0) ∧ Gn H' i g (D (ws ++ baseW (L - x.Level_).toNat ++ [addpW x.N_]) d m e) L Pr) ∧
    (x.Kind_ = 5 → ∃ H', item_Gen_Address H (.at g 0) x = some (H', 0) ∧ Gn H' i g (D (ws ++ baseW (L - x.Level_).toNat ++ [ldpW x.N_]) d m e) L Pr) ∧
    (¬ (x.Kind_ = 3 ∨ x.Kind_ = 4 ∨ x.Kind_ = 5) → item_Gen_Address H (.at g 0) x = some (H, 111)) := by
  have c1 : ¬ ((x.Kind_ == 3) && ((x.Level_ == 0) || (decide (x.Module_ > 0)))) = true := by
    have a : (x.Level_ == 0) = false := by simp; omega
    have b : decide (x.Module_ > 0) = false := by simp; omega
    rw [a, b]; simp
  have wn : IntKind.wrap .i64 x.N_ = x.N_ := wrap_i64 _ (by omega) (by omega)
  unfold item_Gen_Address
  rw [if_neg c1, wn]
  obtain ⟨H1, e1, G1⟩ := base_gn G (by omega) (show -1000 ≤ x.Level_ by omega) hL
  have lb : (baseW (L - x.Level_).toNat).length ≤ 901 := by unfold baseW; split <;> simp; omega
  refine ⟨fun h => ?_, fun h => ?_, fun h => ?_⟩
  · obtain ⟨H2, e2, G2⟩ := sign_gn G1 (enc_add0 y0 y1) (show (ws ++ baseW (L - x.Level_).toNat).length < 16384 by simp; omega)
    rw [if_pos (by rcases h with h | h <;> simp [h]), e1, bind1_some, pbnd_at, G1.gen, bind1_some]
    show ∃ H', bind2 (emit_Code_Sign H1 (.at i 0) 5 0 0 x.N_) _ = _ ∧ _
    rw [e2, bind2_some]
    exact ⟨H2, rfl, G2⟩
  · obtain ⟨H2, e2, G2⟩ := sign_gn G1 (enc_ldp y0 y1) (show (ws ++ baseW (L - x.Level_).toNat).length < 16384 by simp; omega)
    rw [if_neg (by simp [h]), if_pos (by simp [h]), e1, bind1_some, pbnd_at, G1.gen, bind1_some]
    show ∃ H', bind2 (emit_Code_Sign H1 (.at i 0) 18 0 0 x.N_) _ = _ ∧ _
    rw [e2, bind2_some]
    exact ⟨H2, rfl, G2⟩
  · rw [if_neg (by simp; omega), if_neg (by simp; omega)]
end
theorem item_set {H : Heap} {i g : Nat} {c : T_emit_Code} (G : Gn H i g c) (L : Int) : Gn (set_item_Gen H g 0 ⟨.at i 0, L, ⟨0, 0, [], .nil⟩⟩) i g c L :=
  ⟨hgT_other cod_inj (Ne.symm G.ne) G.code, hgT_set gen_inj gen_len G.gen _, G.ne⟩
theorem ItemReaches_holds : ItemReachesPure := by
  intro lv tv x w0 w1 wx
  have w0 := wf_u8r.1 w0
  have w1 := wf_u8r.1 w1
  have wN : -2147483648 ≤ x.N_ ∧ x.N_ ≤ 2147483647 := wf_i32.1 (by unfold wf_scope_Object at wx; simp only [] at wx; exact wx.2.2.2.2.1)
  obtain ⟨M, hM⟩ : ∃ M : Nat, (M : Int) = 1 + lv % 12 := ⟨(1 + lv % 12).toNat, by omega⟩
  have eM : IntKind.wrap .i64 (1 + IntKind.wrap .i64 (Int.tmod lv 12)) = (M : Int) := by
    rw [tmod_pos w0.1, wrap_i64 (lv % 12) (by omega) (by omega), wrap_i64 _ (by omega) (by omega), hM]
  obtain ⟨to, hto⟩ : ∃ to : Nat, (to : Int) = tv % (M : Int) := ⟨(tv % (M : Int)).toNat, by have := Int.emod_nonneg tv (show (M : Int) ≠ 0 by omega); omega⟩
  have hto2 : to < M := by have := Int.emod_lt_of_pos tv (show (0 : Int) < M by omega); omega
  have er : remI .i64 (IntKind.wrap .i64 tv) (M : Int) = some (to : Int) := by
    unfold remI
    rw [if_neg (by omega), wrap_i64 tv (by omega) (by omega), tmod_pos w1.1, ← hto]
    try rw [wrap_i64 (to : Int) (by omega) (by omega)]
  obtain ⟨y, hy⟩ : ∃ y, y = IntKind.wrap .i32 (IntKind.wrap .i64 (4 * Int.tmod (IntKind.wrap .i64 x.N_) 5)) := ⟨_, rfl⟩
  have yb : -16 ≤ y ∧ y ≤ 16 ∧ y % 4 = 0 := by
    rw [wrap_i64 x.N_ (by omega) (by omega)] at hy
    have tb : -4 ≤ Int.tmod x.N_ 5 ∧ Int.tmod x.N_ 5 ≤ 4 := by
      by_cases c : 0 ≤ x.N_
      · rw [tmod_pos c]; omega
      · have : Int.tmod (-x.N_) 5 = (-x.N_) % 5 := tmod_pos (by omega)
        rw [Int.neg_tmod] at this; omega
    rw [wrap_i64 _ (by omega) (by omega), wrap_i32 _ (by omega) (by omega)] at hy
    omega
  unfold law19_ItemReaches
  rw [eM, er, ← hy]
  obtain ⟨Ha, ea⟩ := iawake_spec []
  obtain ⟨H1, i, g, e1, G1⟩ := begun_spec Ha
  rw [ea, bind2_some, if_neg (by simp), bind1_some, e1, bind2_some, pbnd_at, G1.gen, bind1_some, bnd_def]
  obtain ⟨H2, hH2⟩ : ∃ H2, H2 = set_item_Gen H1 g 0 ⟨.at i 0, (M : Int), ⟨0, 0, [], .nil⟩⟩ := ⟨_, rfl⟩
  have G2 : Gn H2 i g (D [16777216] 0 0 0) M := by rw [hH2]; exact item_set G1 M
  have eL : IntKind.wrap .i64 ((to : Int) + 1) = (to : Int) + 1 := wrap_i64 _ (by omega) (by omega)
  rw [eL]
  show ∃ Hr, bind2 (item_Gen_Address (set_item_Gen H1 g 0 ⟨.at i 0, (M : Int), ⟨0, 0, [], .nil⟩⟩) (.at g 0) _) _ = _
  rw [← hH2]
  obtain ⟨x', hx'⟩ : ∃ x', x' = T_scope_Object.mk x.Name_ x.Kind_ x.Type_ ((to : Int) + 1) y 0 x.Out_ x.Params_ := ⟨_, rfl⟩
  have k1 : x'.Kind_ = x.Kind_ := by rw [hx']
  have k2 : x'.N_ = y := by rw [hx']
  have k3 : x'.Level_ = (to : Int) + 1 := by rw [hx']
  rw [← hx']
  obtain ⟨a1, a2, a3⟩ := addr_gn (x := x') G2 (by simp) (by omega) (by rw [k3]; omega) (by rw [hx']) (by rw [k2]; omega) (by rw [k2]; omega)
  rw [k1, k2, k3] at a1
  rw [k1, k2, k3] at a2
  rw [k1] at a3
  have ej : ((M : Int) - ((to : Int) + 1)).toNat = M - 1 - to := by omega
  rw [ej] at a1 a2
  have fin : ∀ (ref : Bool) (H3 : Heap), Gn H3 i g (D (16777216 :: (baseW (M - 1 - to) ++ tailW ref y)) 0 0 0) M → ∃ Hr, law19_ItemReaches_j1 g 0 0 lv (to : Int) x H3 = some (Hr, true) := fun ref H3 G3 => by
    have lb : (baseW (M - 1 - to)).length ≤ 12 := by unfold baseW; split <;> simp; omega
    have lt : (tailW ref y).length ≤ 2 := by unfold tailW; split <;> simp
    obtain ⟨H4, e4⟩ := ended_gn G3 (by simp; omega) 0
    obtain ⟨ws, hws⟩ : ∃ ws, ws = 16777216 :: (baseW (M - 1 - to) ++ tailW ref y) ++ [16777216] := ⟨_, rfl⟩
    rw [← hws] at e4
    obtain ⟨st, r, _, _, c1, c2, _, _⟩ := reaches_run ref (M := M) (to := to) (by omega) (by omega) hto2 yb.1 yb.2.1 yb.2.2 hws
    have gg : ∀ q : Nat, q < M → gi (atL ws.length M M) (q : Int) = some (4 * ((ws.length + 16 * (M - q) : Nat) : Int)) := fun q hq => by
      rw [gi_some (by omega) (by rw [atL_len]; omega)]
      obtain ⟨v1, v2⟩ := List.getElem?_eq_some_iff.1 (atL_get (N := ws.length) (M := M) (k := M) hq)
      have : ((q : Nat) : Int).toNat = q := by simp
      simp only [this, v2]
    have g1 : gi (atL ws.length M M) (IntKind.wrap .i64 ((M : Int) - 1)) = some (4 * ((ws.length + 16 : Nat) : Int)) := by
      have : IntKind.wrap .i64 ((M : Int) - 1) = ((M - 1 : Nat) : Int) := by rw [wrap_i64 _ (by omega) (by omega)]; omega
      rw [this, gg (M - 1) (by omega), show M - (M - 1) = 1 by omega]
    refine ⟨H4, ?_⟩
    unfold law19_ItemReaches_j1
    rw [eM, e4, bind3_some, if_neg (by simp), c1, bind2_some, g1, bind1_some, bind1_some]
    obtain ⟨c, m, r1, r2, r3, r4, r5⟩ := c2 (arrL [0, 0, 0, 0, 0, 0, 0, 0, 0, 0, 0, 0, 0, 4 * ((ws.length + 16 : Nat) : Int), 0, IntKind.wrap .u32 (4 * ((ws.length + 16 : Nat) : Int) - 64)] : Arr 16 Int) rfl
    have lw : ws.length ≤ 20 := by rw [hws]; simp; omega
    have ad : IntKind.wrap .u32 (4 * ((ws.length + 16 * (M - to) : Nat) : Int) + IntKind.wrap .u32 y) = 4 * ((ws.length + 16 * (M - to) : Nat) : Int) + y := by rw [wrap_mod, wrap_mod]; omega
    rw [r1, bind2_some, gg to hto2, bind1_some, ← hy, ad, r5, bind2_some, r2, r3, r4]
    simp
  by_cases h : x.Kind_ = 3 ∨ x.Kind_ = 4
  · obtain ⟨H3, e3, G3⟩ := a1 h
    obtain ⟨H4, e4, G4⟩ := sign_gn G3 enc_ld0 (show ([16777216] ++ baseW (M - 1 - to) ++ [addpW y]).length < 16384 by
      have lb : (baseW (M - 1 - to)).length ≤ 12 := by unfold baseW; split <;> simp; omega
      simp; omega)
    rw [e3, bind2_some, if_neg (by rcases h with h | h <;> simp [h]), if_pos (by rcases h with h | h <;> simp [h])]
    have ld : item_Gen_Load H3 (.at g 0) = some H4 := by
      unfold item_Gen_Load
      rw [pbnd_at, G3.gen, bind1_some]
      show bind2 (emit_Code_Sign H3 (.at i 0) 18 0 0 0) _ = _
      rw [e4]; rfl
    rw [ld, bind1_some]
    refine fin false H4 ?_
    have : addW (D ([16777216] ++ baseW (M - 1 - to) ++ [addpW y]) 0 0 0) 301989888 = D (16777216 :: (baseW (M - 1 - to) ++ tailW false y)) 0 0 0 := by simp [addW, D, tailW]
    rw [← this]; exact G4
  · by_cases h5 : x.Kind_ = 5
    · obtain ⟨H3, e3, G3⟩ := a2 h5
      rw [e3, bind2_some, if_neg (by simp [h5]), if_neg (by simp [h5])]
      refine fin true H3 ?_
      have : D ([16777216] ++ baseW (M - 1 - to) ++ [ldpW y]) 0 0 0 = D (16777216 :: (baseW (M - 1 - to) ++ tailW true y)) 0 0 0 := by simp [tailW]
      rw [← this]; exact G3
    · rw [a3 (by omega), bind2_some, if_pos (by simp; omega)]
      exact ⟨H2, rfl⟩
end Go.Proofs.Abs
