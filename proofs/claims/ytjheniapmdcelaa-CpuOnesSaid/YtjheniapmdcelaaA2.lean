import Derived.Test.YtjheniapmdcelaaA1
import Derived.Below
set_option linter.unusedVariables false
set_option linter.unusedSimpArgs false
set_option linter.unusedSectionVars false
namespace Go.Proofs.Abs
open Go
set_option linter.unusedVariables false
set_option linter.unusedSimpArgs false
section
variable {X : Cx} {w : World}
def Vy : Gh := { n := 0, φ := fun _ => 0, ψ := fun _ => 0, own := fun _ => .shared, fr := fun _ => 0, hd := fun _ => (0, 0, 0) }
theorem lV (hm : X.P.follows .mixedOrders = true) {f : FuncId} {args : List TV} {v : TV} {h' : Ah} (he : evS X f args [] = some (v, h')) {us : Array Value} (hsz : us.size = args.length)
    (hrt : ∀ (i : Nat) tv u, args[i]? = some tv → us[i]? = some u → RT w Vy (.tmp i) tv u) (hno : ∀ m a, TV.one m a ∈ args → m.owned = false) :
    Calls X.P f us w fun e w' => ∃ u g', e = .returned u ∧ RT w' g' (.lim 0) v u ∧ Go.RowKit.Below w.heap.size w w' := by
  have hfind : ∀ t tv, A5 t (C7 0 args) = some tv → args[t]? = some tv ∧ t < us.size := fun t tv ht => by
    obtain ⟨_, h1⟩ := M9 args 0 t tv ht
    rw [Nat.sub_zero] at h1
    exact ⟨h1, by rw [hsz]; exact (List.getElem?_eq_some_iff.1 h1).1⟩
  have R : Rel ⟨C7 0 args, [], []⟩ [] ⟨us, []⟩ w Vy := by
    refine ⟨rfl, fun i y hi => by simp at hi, fun t tv ht => ?_, fun t cs ht => (by cases ht), fun id cs hi => by simp at hi, fun r d z xs hr b o sp len cap hv => ?_⟩
    · obtain ⟨h1, h2⟩ := hfind t tv ht
      have := hrt t tv us[t] h1 (by simp [h2])
      simpa [Array.getD_eq_getD_getElem?, h2] using this
    · cases r with
      | obj id off =>
        change Bk off (([] : Ah)[id]?) = _ at hr
        simp [Bk] at hr
      | loc t off => cases hr
      | tmp t =>
        change Ko (A5 t (C7 0 args)) = _ at hr
        cases hf : A5 t (C7 0 args) with
        | none => rw [hf] at hr; cases hr
        | some tv =>
          rw [hf] at hr
          obtain ⟨h1, _⟩ := hfind t tv hf
          cases tv with
          | one m c =>
            cases hr
            have := hno _ _ (List.mem_of_getElem? h1)
            cases this
          | agg cs => cases hr
          | tup vs => cases hr
  refine Calls.mono ((pN hm f args [] v h' he).2 w Vy ⟨us, []⟩ us hsz (fun i u hu => by simp [Array.getD_eq_getD_getElem?, hu]) R) fun e w' hx => ?_
  obtain ⟨u, g', a', hf, rfl, r1, r2, _⟩ := hx
  exact ⟨u, g', rfl, r1.fl 0 (v, u) rfl, r2.os, r2.tape, r2.out, r2.size, fun b hb => (r2.keep b hb (.inl rfl)).1⟩
theorem law_true (hm : X.P.follows .mixedOrders = true) {f : FuncId} {args : List TV} {h' : Ah} (he : evS X f args [] = some (sc (.bool true), h')) {us : Array Value} (hsz : us.size = args.length)
    (hrt : ∀ (i : Nat) tv u, args[i]? = some tv → us[i]? = some u → RT w Vy (.tmp i) tv u) (hno : ∀ m a, TV.one m a ∈ args → m.owned = false) :
    Calls X.P f us w fun e w' => e = .returned (.bool true) ∧ Go.RowKit.Below w.heap.size w w' := by
  refine Calls.mono (lV hm he hsz hrt hno) fun e w' hx => ?_
  obtain ⟨u, g', rfl, r1, r2⟩ := hx
  have : u = .bool true := (show RC w' g' .top (.lim 0) [0] (.bool true) u from r1).bool
  rw [this]; exact ⟨rfl, r2⟩
end
end Go.Proofs.Abs
namespace Go.Proofs.Abs
open Go
set_option linter.unusedVariables false
section
variable {α : Type} {P : Program} {X : Cx} {pu : Pu} {call : C8} {it : It} {fn : Nat} {s : St} {d : Option Tmp}
/-! binary operations on numbers -/
theorem iI (op : BinOp) (ty x y m m' k a b) : Kp P op ty x y (some (.one m (.int k a))) (some (.one m' (.int k b))) = ((Ew P (binOp op ty (.int k a) (.int k b))).bind ofV).map sc := by
  cases op <;> rfl
theorem nR (ty x y m m' k a b) : Kp P .quo ty x y (some (.one m (.int k a))) (some (.one m' (.int k b))) = if b = 0 then none else some (.one .top (.int k (k.wrap (a.tdiv b)))) := by
  by_cases h : b = 0 <;> simp [iI, binOp, Op.intDiv, pure, Ew, ofV, sc, h, runtimePanic, goPanic, bind, Sem.bind, Go.program]
theorem nS (ty x y m m' k a b) : Kp P .rem ty x y (some (.one m (.int k a))) (some (.one m' (.int k b))) = if b = 0 then none else some (.one .top (.int k (a.tmod b))) := by
  by_cases h : b = 0 <;> simp [iI, binOp, Op.intDiv, pure, Ew, ofV, sc, h, runtimePanic, goPanic, bind, Sem.bind, Go.program]
def A9 (op : BinOp) (k : IntKind) (a b : Int) : Int :=
  match op with
  | .and => k.wrap (BitVec.ofInt k.bits a &&& BitVec.ofInt k.bits b).toNat
  | .or => k.wrap (BitVec.ofInt k.bits a ||| BitVec.ofInt k.bits b).toNat
  | .xor => k.wrap (BitVec.ofInt k.bits a ^^^ BitVec.ofInt k.bits b).toNat
  | _ => k.wrap (BitVec.ofInt k.bits a &&& ~~~BitVec.ofInt k.bits b).toNat
theorem nT (ty x y m m' k k' a b) : Kp P .shl ty x y (some (.one m (.int k a))) (some (.one m' (.int k' b))) = if b < 0 then none else some (.one .top (.int k (k.wrap (a * 2 ^ min b.toNat k.bits)))) := by
  by_cases h : b < 0 <;> simp [Kp, Xf, TV.conc, AV.conc, eqGuard, binOp, Op.shift, pure, Ew, ofV, sc, h, runtimePanic, goPanic, bind, Sem.bind, Go.program]
theorem nU (ty x y m m' k k' a b) : Kp P .shr ty x y (some (.one m (.int k a))) (some (.one m' (.int k' b))) = if b < 0 then none else some (.one .top (.int k (a.fdiv (2 ^ min b.toNat k.bits)))) := by
  by_cases h : b < 0 <;> simp [Kp, Xf, TV.conc, AV.conc, eqGuard, binOp, Op.shift, pure, Ew, ofV, sc, h, runtimePanic, goPanic, bind, Sem.bind, Go.program]
theorem nV {f : FuncId} {args : List TV} {h : Ah} {r} {fu : Func} {c : Code} (hf : X.P.funcs[f]? = some fu) (hc : fu.body = some c) (hok : Xo X f fu c = true)
    (hr : iZ (X.frz f) (Og X.P (X.pure f) h fu.results.toList (evC X ⟨X.pure f, []⟩ (evS X) N2 f c { t := C7 0 args, l := [], h := h })) = some r) : evS X f args h = some r := by
  refine lU ?_
  unfold Mn
  rw [hf]
  simp only [hc, hok, if_true]
  exact hr
end
end Go.Proofs.Abs
