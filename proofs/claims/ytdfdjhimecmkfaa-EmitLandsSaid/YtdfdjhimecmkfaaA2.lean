/- The law EmitLands: whatever the input, it answers true. No conditions. (Part A2 of its proof.) -/
import Derived.Test.YtdfdjhimecmkfaaA1
set_option linter.unusedVariables false
set_option linter.unusedSimpArgs false
set_option linter.unusedSectionVars false
/- What each step of the abstract machine comes to, as rules for 'simp only'. -/
namespace Go.Proofs.Abs
open Go
set_option linter.unusedVariables false

section
variable {α : Type} {P : Program} {X : Cx} {pu : Pu} {call : CallF} {it : It} {fn : Nat} {s : St} {d : Option Tmp}
/-! binary operations on numbers -/
theorem bin_int (op : BinOp) (ty x y m m' k a b) : evBin P op ty x y (some (.one m (.int k a))) (some (.one m' (.int k b))) = ((pureP P (binOp op ty (.int k a) (.int k b))).bind ofV).map sc := by
  cases op <;> rfl
theorem bin_rem (ty x y m m' k a b) : evBin P .rem ty x y (some (.one m (.int k a))) (some (.one m' (.int k b))) = if b = 0 then none else some (.one .top (.int k (a.tmod b))) := by
  by_cases h : b = 0 <;> simp [bin_int, binOp, Op.intDiv, pure, pureP, ofV, sc, h, runtimePanic, goPanic, bind, Sem.bind, Go.program]
def bitsOf (op : BinOp) (k : IntKind) (a b : Int) : Int :=
  match op with
  | .and => k.wrap (BitVec.ofInt k.bits a &&& BitVec.ofInt k.bits b).toNat
  | .or => k.wrap (BitVec.ofInt k.bits a ||| BitVec.ofInt k.bits b).toNat
  | .xor => k.wrap (BitVec.ofInt k.bits a ^^^ BitVec.ofInt k.bits b).toNat
  | _ => k.wrap (BitVec.ofInt k.bits a &&& ~~~BitVec.ofInt k.bits b).toNat
theorem bin_shl (ty x y m m' k k' a b) : evBin P .shl ty x y (some (.one m (.int k a))) (some (.one m' (.int k' b))) = if b < 0 then none else some (.one .top (.int k (k.wrap (a * 2 ^ min b.toNat k.bits)))) := by
  by_cases h : b < 0 <;> simp [evBin, evBinC, TV.conc, AV.conc, eqGuard, binOp, Op.shift, pure, pureP, ofV, sc, h, runtimePanic, goPanic, bind, Sem.bind, Go.program]
theorem bin_shr (ty x y m m' k k' a b) : evBin P .shr ty x y (some (.one m (.int k a))) (some (.one m' (.int k' b))) = if b < 0 then none else some (.one .top (.int k (a.fdiv (2 ^ min b.toNat k.bits)))) := by
  by_cases h : b < 0 <;> simp [evBin, evBinC, TV.conc, AV.conc, eqGuard, binOp, Op.shift, pure, pureP, ofV, sc, h, runtimePanic, goPanic, bind, Sem.bind, Go.program]
/-- a function's contract begins here -/
theorem evS_fun {f : FuncId} {args : List TV} {h : Heap} {r} {fu : Func} {c : Code} (hf : X.P.funcs[f]? = some fu) (hc : fu.body = some c) (hok : okBody X f fu c = true)
    (hr : frzR (X.frz f) (bodyF X.P (X.pure f) h fu.results.toList (evC X ⟨X.pure f, []⟩ (evS X) iterS f c { t := number 0 args, l := [], h := h })) = some r) : evS X f args h = some r := by
  refine evS_body ?_
  unfold evBody
  rw [hf]
  simp only [hc, hok, if_true]
  exact hr
end
end Go.Proofs.Abs
