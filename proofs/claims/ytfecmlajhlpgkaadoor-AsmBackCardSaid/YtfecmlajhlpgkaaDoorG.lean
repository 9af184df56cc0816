/- The law AsmBack: whatever the input, it answers true. No conditions. (Part G of its proof.) -/
import Derived.Test.YtfecmlajhlpgkaaDoorA2
import Derived.KernelRfl
import Derived.OpenShut
import Derived.ChangeArms
import Derived.Lib.Split
import Derived.Lib.Bytealg
import Derived.Lib.Strings
import Derived.Lib.SplitLaws
import Derived.Below
set_option linter.unusedVariables false
set_option linter.unusedSimpArgs false
set_option linter.unusedSectionVars false
/- What printed proofs lean on: functions in plain Lean, and how they stand to the abstract machine. -/
namespace Go.Proofs.Abs
open Go
set_option linter.unusedVariables false
set_option linter.unusedSimpArgs false

/-! ### words of the printed functions -/
def Ptr.bnd {β : Type} (p : Ptr) (k : Nat → Nat → Option β) : Option β := match p with
  | .nil => none
  | .at i o => k i o
theorem pbnd_inv {β : Type} {p : Ptr} {k : Nat → Nat → Option β} {r} (h : p.bnd k = some r) : ∃ i o, p = .at i o ∧ k i o = some r := by
  cases p with
  | nil => cases h
  | «at» i o => exact ⟨i, o, rfl, h⟩
/-- one that leads to an object's beginning -/
def Ptr.bnd0 {β : Type} (p : Ptr) (k : Nat → Option β) : Option β := match p with
  | .at i 0 => k i
  | _ => none
theorem pbnd0_inv {β : Type} {p : Ptr} {k : Nat → Option β} {r} (h : p.bnd0 k = some r) : ∃ i, p = .at i 0 ∧ k i = some r := by
  unfold Ptr.bnd0 at h
  split at h
  · exact ⟨_, rfl, h⟩
  · cases h
/-- strings that hold the same bytes -/
def strEq (x y : ByteArray) : Bool := x.toList == y.toList
section
variable {α β γ δ ε ζ η θ : Type}
def bnd (a : α) (k : α → Option β) : Option β := k a
theorem bnd_inv {a : α} {k : α → Option β} {r} (h : bnd a k = some r) : ∃ x, a = x ∧ k x = some r := ⟨a, rfl, h⟩
def bind1 (q : Option α) (k : α → Option β) : Option β := match q with
  | some a => k a
  | none => none
def bind2 (q : Option (α × β)) (k : α → β → Option γ) : Option γ := match q with
  | some (a, b) => k a b
  | none => none
def bind3 (q : Option (α × β × γ)) (k : α → β → γ → Option δ) : Option δ := match q with
  | some (a, b, c) => k a b c
  | none => none
def bind4 (q : Option (α × β × γ × δ)) (k : α → β → γ → δ → Option ε) : Option ε := match q with
  | some (a, b, c, d) => k a b c d
  | none => none
def bind5 (q : Option (α × β × γ × δ × ε)) (k : α → β → γ → δ → ε → Option ζ) : Option ζ := match q with
  | some (a, b, c, d, e) => k a b c d e
  | none => none
def bind6 (q : Option (α × β × γ × δ × ε × ζ)) (k : α → β → γ → δ → ε → ζ → Option η) : Option η := match q with
  | some (a, b, c, d, e, f) => k a b c d e f
  | none => none
theorem bind1_inv {q : Option α} {k : α → Option β} {r} (h : bind1 q k = some r) : ∃ x, q = some x ∧ k x = some r := by
  cases q with
  | none => cases h
  | some x => exact ⟨x, rfl, h⟩
theorem bind2_inv {q : Option (α × β)} {k : α → β → Option γ} {r} (h : bind2 q k = some r) : ∃ x y, q = some (x, y) ∧ k x y = some r := by
  cases q with
  | none => cases h
  | some x => exact ⟨x.1, x.2, rfl, h⟩
theorem bind3_inv {q : Option (α × β × γ)} {k : α → β → γ → Option δ} {r} (h : bind3 q k = some r) : ∃ x y z, q = some (x, y, z) ∧ k x y z = some r := by
  cases q with
  | none => cases h
  | some x => exact ⟨x.1, x.2.1, x.2.2, rfl, h⟩
theorem bind4_inv {q : Option (α × β × γ × δ)} {k : α → β → γ → δ → Option ε} {r} (h : bind4 q k = some r) : ∃ x y z u, q = some (x, y, z, u) ∧ k x y z u = some r := by
  cases q with
  | none => cases h
  | some x => exact ⟨x.1, x.2.1, x.2.2.1, x.2.2.2, rfl, h⟩
def sum2 (f : α → Option γ) (g : β → Option γ) : α ⊕ β → Option γ
  | .inl a => f a
  | .inr b => g b
theorem sum2_inv {f : α → Option γ} {g : β → Option γ} {s : α ⊕ β} {r} (h : sum2 f g s = some r) : (∃ x, s = .inl x ∧ f x = some r) ∨ (∃ x, s = .inr x ∧ g x = some r) := by
  cases s with
  | inl x => exact .inl ⟨x, rfl, h⟩
  | inr x => exact .inr ⟨x, rfl, h⟩
def tup2 (f : α → β → γ) (x : α × β) : γ := f x.1 x.2
def tup3 (f : α → β → γ → δ) (x : α × β × γ) : δ := f x.1 x.2.1 x.2.2
def tup4 (f : α → β → γ → δ → ε) (x : α × β × γ × δ) : ε := f x.1 x.2.1 x.2.2.1 x.2.2.2
def tup5 (f : α → β → γ → δ → ε → ζ) (x : α × β × γ × δ × ε) : ζ := f x.1 x.2.1 x.2.2.1 x.2.2.2.1 x.2.2.2.2
theorem tup2_inv {f : α → β → γ} {a b} {r : γ} (h : tup2 f (a, b) = r) : f a b = r := h
theorem tup3_inv {f : α → β → γ → δ} {a b c} {r : δ} (h : tup3 f (a, b, c) = r) : f a b c = r := h
theorem some1_inv {a a' : α} (h : some a = some a') : a = a' := Option.some.inj h
theorem some2_inv {a a' : α} {b b' : β} (h : some (a, b) = some (a', b')) : a = a' ∧ b = b' := by cases h; exact ⟨rfl, rfl⟩
theorem some3_inv {a a' : α} {b b' : β} {c c' : γ} (h : some (a, b, c) = some (a', b', c')) : a = a' ∧ b = b' ∧ c = c' := by cases h; exact ⟨rfl, rfl, rfl⟩
theorem some4_inv {a a' : α} {b b' : β} {c c' : γ} {d d' : δ} (h : some (a, b, c, d) = some (a', b', c', d')) : a = a' ∧ b = b' ∧ c = c' ∧ d = d' := by cases h; exact ⟨rfl, rfl, rfl, rfl⟩
/-- words of one list over those of another, from a place on -/
def cpy (xs : List α) (lo : Nat) (ys : List α) : List α := setAt xs lo (ys.take (xs.length - lo))
/-- an element -/
def gi (xs : List α) (i : Int) : Option α := if 0 ≤ i then xs[i.toNat]? else none
theorem gi_inv {xs : List α} {i : Int} {x : α} (h : gi xs i = some x) : 0 ≤ i ∧ xs[i.toNat]? = some x := by
  unfold gi at h
  split at h
  · exact ⟨‹_›, h⟩
  · cases h
/-- another one in its place -/
def si (xs : List α) (i : Int) (x : α) : Option (List α) := if 0 ≤ i ∧ i.toNat < xs.length then some (xs.set i.toNat x) else none
theorem si_inv {xs : List α} {i : Int} {x : α} {ys} (h : si xs i x = some ys) : 0 ≤ i ∧ i.toNat < xs.length ∧ ys = xs.set i.toNat x := by
  unfold si at h
  split at h
  · rename_i hh; cases h; exact ⟨hh.1, hh.2, rfl⟩
  · cases h
/-- append: cells of so many bytes -/
def app (zb : Nat) (xs ys : List α) : Option (List α) := if (xs.length + ys.length) * zb ≤ roomBytes then some (xs ++ ys) else none
theorem app_inv {zb : Nat} {xs ys zs : List α} (h : app zb xs ys = some zs) : (xs.length + ys.length) * zb ≤ roomBytes ∧ zs = xs ++ ys := by
  unfold app at h
  split at h
  · cases h; exact ⟨‹_›, rfl⟩
  · cases h
def mks (zb : Nat) (n m : Int) (x : α) : Option (List α) := if 0 ≤ n ∧ n ≤ m ∧ m * zb ≤ roomBytes ∧ m < 2 ^ 63 then some (List.replicate n.toNat x) else none
/-- a part of a list -/
def cut (xs : List α) (lo hi : Int) : Option (List α) := if 0 ≤ lo ∧ lo ≤ hi ∧ hi ≤ xs.length then some ((xs.take hi.toNat).drop lo.toNat) else none
theorem cut_inv {xs ys : List α} {lo hi : Int} (h : cut xs lo hi = some ys) : 0 ≤ lo ∧ lo ≤ hi ∧ hi ≤ xs.length ∧ ys = (xs.take hi.toNat).drop lo.toNat := by
  unfold cut at h
  split at h
  · rename_i hh; cases h; exact ⟨hh.1, hh.2.1, hh.2.2, rfl⟩
  · cases h
/-- quotient, remainder, shifts: what stops -/
def quoI (k : IntKind) (a b : Int) : Option Int := if b = 0 then none else some (k.wrap (a.tdiv b))
def remI (k : IntKind) (a b : Int) : Option Int := if b = 0 then none else some (a.tmod b)
def shlI (k : IntKind) (a b : Int) : Option Int := if b < 0 then none else some (k.wrap (a * 2 ^ min b.toNat k.bits))
def shrI (k : IntKind) (a b : Int) : Option Int := if b < 0 then none else some (a.fdiv (2 ^ min b.toNat k.bits))

/-! arrays -/
structure Arr (n : Nat) (α : Type) where
  l : List α
  h : l.length = n
def Arr.g [Inhabited α] {n : Nat} (a : Arr n α) (j : Nat) : α := a.l[j]?.getD default
def arrL (l : List α) : Arr l.length α := ⟨l, rfl⟩
def ga {n : Nat} (a : Arr n α) (i : Int) : Option α := if 0 ≤ i then a.l[i.toNat]? else none
def sa {n : Nat} (a : Arr n α) (i : Int) (x : α) : Option (Arr n α) := if 0 ≤ i ∧ i < n then some ⟨a.l.set i.toNat x, by rw [List.length_set, a.h]⟩ else none
instance [Inhabited α] {n : Nat} : Inhabited (Arr n α) := ⟨⟨List.replicate n default, by simp⟩⟩
theorem ga_inv [Inhabited α] {n : Nat} {a : Arr n α} {i : Int} {x : α} (h : ga a i = some x) : 0 ≤ i ∧ i < n ∧ x = a.g i.toNat := by
  unfold ga at h
  split at h
  · rename_i h0
    have := (List.getElem?_eq_some_iff.1 h).1
    exact ⟨h0, by have := a.h; omega, by unfold Arr.g; rw [h]; rfl⟩
  · cases h
theorem sa_inv [Inhabited α] {n : Nat} {a b : Arr n α} {i : Int} {x : α} (h : sa a i x = some b) : 0 ≤ i ∧ i < n ∧ ∀ j, b.g j = if j = i.toNat then x else a.g j := by
  unfold sa at h
  split at h
  · rename_i h0
    cases h
    refine ⟨h0.1, h0.2, fun j => ?_⟩
    have := a.h
    unfold Arr.g
    rw [List.getElem?_set]
    split
    · rename_i e; subst e
      rw [if_pos rfl, if_pos (by omega)]; rfl
    · rename_i e; rw [if_neg (Ne.symm e)]
  · cases h

def tup6 {α β γ δ ε ζ ω : Type} (f : α → β → γ → δ → ε → ζ → ω) (y : α × β × γ × δ × ε × ζ) : ω := f y.1 y.2.1 y.2.2.1 y.2.2.2.1 y.2.2.2.2.1 y.2.2.2.2.2
def bind7 {α β γ δ ε ζ η ω : Type} (q : Option (α × β × γ × δ × ε × ζ × η)) (k : α → β → γ → δ → ε → ζ → η → Option ω) : Option ω := match q with
  | some (x0, x1, x2, x3, x4, x5, x6) => k x0 x1 x2 x3 x4 x5 x6
  | none => none
def tup7 {α β γ δ ε ζ η ω : Type} (f : α → β → γ → δ → ε → ζ → η → ω) (y : α × β × γ × δ × ε × ζ × η) : ω := f y.1 y.2.1 y.2.2.1 y.2.2.2.1 y.2.2.2.2.1 y.2.2.2.2.2.1 y.2.2.2.2.2.2
def bind8 {α β γ δ ε ζ η θ ω : Type} (q : Option (α × β × γ × δ × ε × ζ × η × θ)) (k : α → β → γ → δ → ε → ζ → η → θ → Option ω) : Option ω := match q with
  | some (x0, x1, x2, x3, x4, x5, x6, x7) => k x0 x1 x2 x3 x4 x5 x6 x7
  | none => none
def tup8 {α β γ δ ε ζ η θ ω : Type} (f : α → β → γ → δ → ε → ζ → η → θ → ω) (y : α × β × γ × δ × ε × ζ × η × θ) : ω := f y.1 y.2.1 y.2.2.1 y.2.2.2.1 y.2.2.2.2.1 y.2.2.2.2.2.1 y.2.2.2.2.2.2.1 y.2.2.2.2.2.2.2
def bind9 {α β γ δ ε ζ η θ ι ω : Type} (q : Option (α × β × γ × δ × ε × ζ × η × θ × ι)) (k : α → β → γ → δ → ε → ζ → η → θ → ι → Option ω) : Option ω := match q with
  | some (x0, x1, x2, x3, x4, x5, x6, x7, x8) => k x0 x1 x2 x3 x4 x5 x6 x7 x8
  | none => none
def tup9 {α β γ δ ε ζ η θ ι ω : Type} (f : α → β → γ → δ → ε → ζ → η → θ → ι → ω) (y : α × β × γ × δ × ε × ζ × η × θ × ι) : ω := f y.1 y.2.1 y.2.2.1 y.2.2.2.1 y.2.2.2.2.1 y.2.2.2.2.2.1 y.2.2.2.2.2.2.1 y.2.2.2.2.2.2.2.1 y.2.2.2.2.2.2.2.2
def bind10 {α β γ δ ε ζ η θ ι κ ω : Type} (q : Option (α × β × γ × δ × ε × ζ × η × θ × ι × κ)) (k : α → β → γ → δ → ε → ζ → η → θ → ι → κ → Option ω) : Option ω := match q with
  | some (x0, x1, x2, x3, x4, x5, x6, x7, x8, x9) => k x0 x1 x2 x3 x4 x5 x6 x7 x8 x9
  | none => none
def tup10 {α β γ δ ε ζ η θ ι κ ω : Type} (f : α → β → γ → δ → ε → ζ → η → θ → ι → κ → ω) (y : α × β × γ × δ × ε × ζ × η × θ × ι × κ) : ω := f y.1 y.2.1 y.2.2.1 y.2.2.2.1 y.2.2.2.2.1 y.2.2.2.2.2.1 y.2.2.2.2.2.2.1 y.2.2.2.2.2.2.2.1 y.2.2.2.2.2.2.2.2.1 y.2.2.2.2.2.2.2.2.2
def bind11 {α β γ δ ε ζ η θ ι κ μ ω : Type} (q : Option (α × β × γ × δ × ε × ζ × η × θ × ι × κ × μ)) (k : α → β → γ → δ → ε → ζ → η → θ → ι → κ → μ → Option ω) : Option ω := match q with
  | some (x0, x1, x2, x3, x4, x5, x6, x7, x8, x9, x10) => k x0 x1 x2 x3 x4 x5 x6 x7 x8 x9 x10
  | none => none
def tup11 {α β γ δ ε ζ η θ ι κ μ ω : Type} (f : α → β → γ → δ → ε → ζ → η → θ → ι → κ → μ → ω) (y : α × β × γ × δ × ε × ζ × η × θ × ι × κ × μ) : ω := f y.1 y.2.1 y.2.2.1 y.2.2.2.1 y.2.2.2.2.1 y.2.2.2.2.2.1 y.2.2.2.2.2.2.1 y.2.2.2.2.2.2.2.1 y.2.2.2.2.2.2.2.2.1 y.2.2.2.2.2.2.2.2.2.1 y.2.2.2.2.2.2.2.2.2.2
def bind12 {α β γ δ ε ζ η θ ι κ μ ν ω : Type} (q : Option (α × β × γ × δ × ε × ζ × η × θ × ι × κ × μ × ν)) (k : α → β → γ → δ → ε → ζ → η → θ → ι → κ → μ → ν → Option ω) : Option ω := match q with
  | some (x0, x1, x2, x3, x4, x5, x6, x7, x8, x9, x10, x11) => k x0 x1 x2 x3 x4 x5 x6 x7 x8 x9 x10 x11
  | none => none
def tup12 {α β γ δ ε ζ η θ ι κ μ ν ω : Type} (f : α → β → γ → δ → ε → ζ → η → θ → ι → κ → μ → ν → ω) (y : α × β × γ × δ × ε × ζ × η × θ × ι × κ × μ × ν) : ω := f y.1 y.2.1 y.2.2.1 y.2.2.2.1 y.2.2.2.2.1 y.2.2.2.2.2.1 y.2.2.2.2.2.2.1 y.2.2.2.2.2.2.2.1 y.2.2.2.2.2.2.2.2.1 y.2.2.2.2.2.2.2.2.2.1 y.2.2.2.2.2.2.2.2.2.2.1 y.2.2.2.2.2.2.2.2.2.2.2
/-! loops -/
def loopK {σ ρ : Type} (f : σ → Option (σ ⊕ ρ)) : Nat → σ → Option ρ
  | 0, _ => none
  | k + 1, s => match f s with
    | some (.inl s') => loopK f k s'
    | some (.inr r) => some r
    | none => none
open Classical in
noncomputable def loopO {σ ρ : Type} (f : σ → Option (σ ⊕ ρ)) (s : σ) : Option ρ := if h : ∃ r k, loopK f k s = some r then some h.choose else none
theorem loopK_mono {σ ρ : Type} {f : σ → Option (σ ⊕ ρ)} : ∀ (k k' : Nat) s r, k ≤ k' → loopK f k s = some r → loopK f k' s = some r
  | 0, _, s, r, _, h => by cases h
  | k + 1, 0, s, r, hk, h => by omega
  | k + 1, k' + 1, s, r, hk, h => by
    simp only [loopK] at h ⊢
    split at h
    · exact loopK_mono k k' _ r (by omega) h
    · exact h
    · cases h
theorem loopO_inv {σ ρ : Type} {f : σ → Option (σ ⊕ ρ)} {s r} (h : loopO f s = some r) : ∃ k, loopK f k s = some r := by
  unfold loopO at h
  split at h
  · rename_i hk; cases h; exact hk.choose_spec
  · cases h
theorem loopO_of {σ ρ : Type} {f : σ → Option (σ ⊕ ρ)} {s r k} (h : loopK f k s = some r) : loopO f s = some r := by
  have hk : ∃ r k, loopK f k s = some r := ⟨r, k, h⟩
  unfold loopO
  rw [dif_pos hk]
  obtain ⟨k', hk'⟩ := hk.choose_spec
  have h1 := loopK_mono k (max k k') s r (Nat.le_max_left _ _) h
  have h2 := loopK_mono k' (max k k') s _ (Nat.le_max_right _ _) hk'
  rw [h1] at h2
  exact h2.symm
/-- a loop unrolled once -/
theorem loopO_eq {σ ρ : Type} (f : σ → Option (σ ⊕ ρ)) (s : σ) : loopO f s = match f s with
    | some (.inl s') => loopO f s'
    | some (.inr r) => some r
    | none => none := by
  cases h : loopO f s with
  | some r =>
    obtain ⟨k, hk⟩ := loopO_inv h
    cases k with
    | zero => cases hk
    | succ k =>
      simp only [loopK] at hk
      split at hk
      · exact (loopO_of hk).symm
      · exact hk.symm
      · cases hk
  | none =>
    split
    · rename_i s' hs
      cases h2 : loopO f s' with
      | none => rfl
      | some r =>
        obtain ⟨k, hk⟩ := loopO_inv h2
        rw [loopO_of (k := k + 1) (r := r) (by simp only [loopK, hs]; exact hk)] at h
        cases h
    · rename_i r hs
      rw [loopO_of (k := 1) (r := r) (by simp only [loopK, hs])] at h
      cases h
    · rfl
theorem loopO_go {σ ρ : Type} {f : σ → Option (σ ⊕ ρ)} {s s' : σ} (h : f s = some (.inl s')) : loopO f s = loopO f s' := by rw [loopO_eq, h]
theorem loopO_out {σ ρ : Type} {f : σ → Option (σ ⊕ ρ)} {s : σ} {r : ρ} (h : f s = some (.inr r)) : loopO f s = some r := by rw [loopO_eq, h]
end

/-! how values stand in cells -/
def eI (k : IntKind) (n : Int) : List AV := [.int k n]
def eB (b : Bool) : List AV := [.bool b]
def eS (b : ByteArray) : List AV := [.str b]
def eP (p : Ptr) : List AV := [.ptr p]
def eL {α : Type} (z : Nat) (E : α → List AV) (xs : List α) : List AV := [.sl z (xs.map E)]
def eA {α : Type} [Inhabited α] (n : Nat) (E : α → List AV) (a : Arr n α) : List AV := (List.range n).flatMap fun j => E (a.g j)
/-! the heap -/
def hget (H : Heap) (i off n : Nat) : Option (List MC) := match H[i]? with
  | some o => cellsAt o off n
  | none => none
def hset (H : Heap) (i off : Nat) (cs : List MC) : Heap := match H[i]? with
  | some o => H.set i (setAt o off cs)
  | none => H
section
variable {H : Heap} {i o N k n : Nat} {cs new : List MC}
theorem hget_inv (h : hget H i o n = some cs) : ∃ c, H[i]? = some c ∧ o + n ≤ c.length ∧ cs = (c.drop o).take n ∧ cs.length = n := by
  unfold hget at h
  split at h
  · rename_i c hc
    unfold cellsAt at h
    split at h
    · rename_i hl
      cases h
      exact ⟨c, hc, hl, rfl, by simp; omega⟩
    · cases h
  · cases h
theorem hget_of {c : List MC} (h : H[i]? = some c) (hl : o + n ≤ c.length) : hget H i o n = some ((c.drop o).take n) := by
  unfold hget cellsAt
  rw [h]
  simp [hl]
theorem hget_sub (V : hget H i o N = some cs) (k n : Nat) (h : k + n ≤ N) : hget H i (o + k) n = some ((cs.drop k).take n) := by
  obtain ⟨c, h1, h2, rfl, _⟩ := hget_inv V
  rw [hget_of h1 (by omega)]
  congr 1
  rw [List.drop_take, List.drop_drop, List.take_take, Nat.min_eq_left (by omega)]
theorem setAt_len {α : Type} {cs new : List α} {off : Nat} (h : off + new.length ≤ cs.length) : (setAt cs off new).length = cs.length := by
  simp [setAt]; omega
theorem hset_eq {c : List MC} (h : H[i]? = some c) (off : Nat) (cs : List MC) : hset H i off cs = H.set i (setAt c off cs) := by
  unfold hset; rw [h]
theorem hset_get (V : hget H i o N = some cs) (hn : new.length = N) : hget (hset H i o new) i o N = some new := by
  obtain ⟨c, h1, h2, rfl, _⟩ := hget_inv V
  have hi : i < H.length := (List.getElem?_eq_some_iff.1 h1).1
  rw [hset_eq h1, hget_of (c := setAt c o new) (by simp [hi]) (by rw [setAt_len (by omega)]; exact h2)]
  congr 1
  subst hn
  apply List.ext_getElem?
  intro j
  have e : min o c.length = o := by omega
  simp only [setAt, List.getElem?_append, List.length_append, List.length_take, List.getElem?_take, List.getElem?_drop, List.length_drop, e]
  grind
theorem setAt_setAt {α : Type} {cs a b : List α} {o k : Nat} (h1 : o + a.length ≤ cs.length) (h2 : k + b.length ≤ a.length) : setAt (setAt cs o a) (o + k) b = setAt cs o (setAt a k b) := by
  apply List.ext_getElem?
  intro j
  have e0 : min o cs.length = o := by omega
  have e1 : min k a.length = k := by omega
  simp only [setAt, List.getElem?_append, List.length_append, List.length_take, List.getElem?_take, List.getElem?_drop, List.length_drop, e0, e1]
  grind
theorem hset_sub (V : hget H i o N = some cs) (hc : new.length = N) {k : Nat} {b : List MC} (h : k + b.length ≤ N) : hset (hset H i o new) i (o + k) b = hset H i o (setAt new k b) := by
  obtain ⟨c, h1, h2, rfl, _⟩ := hget_inv V
  have hi : i < H.length := (List.getElem?_eq_some_iff.1 h1).1
  rw [hset_eq h1, hset_eq h1, hset_eq (c := setAt c o new) (by simp [hi]), List.set_set, setAt_setAt (by omega) (by omega)]
theorem hset_self (V : hget H i o N = some cs) : hset H i o cs = H := by
  obtain ⟨c, h1, h2, rfl, _⟩ := hget_inv V
  rw [hset_eq h1]
  have : setAt c o (List.take N (List.drop o c)) = c := by
    apply List.ext_getElem?
    intro j
    simp only [setAt, List.getElem?_append, List.length_append, List.length_take, List.getElem?_take, List.getElem?_drop, List.length_drop]
    grind
  rw [this]
  apply List.ext_getElem?
  intro j
  by_cases hj : j = i
  · subst hj; rw [h1]; simp [(List.getElem?_eq_some_iff.1 h1).1]
  · simp [List.getElem?_set, Ne.symm hj]
theorem hset_sub0 (V : hget H i o N = some cs) {k : Nat} {b : List MC} (h : k + b.length ≤ N) : hset H i (o + k) b = hset H i o (setAt cs k b) := by
  obtain ⟨_, _, _, _, hl⟩ := hget_inv V
  have := hset_sub V hl h
  rw [hset_self V] at this
  exact this
theorem hget_app {new : List (List MC)} (V : hget H i o N = some cs) : hget (H ++ new) i o N = some cs := by
  obtain ⟨c, h1, h2, rfl, _⟩ := hget_inv V
  exact hget_of (by rw [List.getElem?_append_left (List.getElem?_eq_some_iff.1 h1).1]; exact h1) h2
open Classical in
noncomputable def hgetT {α : Type} (en : α → List MC) (n : Nat) (H : Heap) (i o : Nat) : Option α := if h : ∃ x, hget H i o n = some (en x) then some h.choose else none
theorem hgetT_inv {α : Type} {en : α → List MC} {x : α} (h : hgetT en n H i o = some x) : hget H i o n = some (en x) := by
  unfold hgetT at h
  split at h
  · rename_i hx; cases h; exact hx.choose_spec
  · cases h
theorem hgetT_of {α : Type} {en : α → List MC} (inj : ∀ x y, en x = en y → x = y) {x : α} (h : hget H i o n = some (en x)) : hgetT en n H i o = some x := by
  have hx : ∃ x, hget H i o n = some (en x) := ⟨x, h⟩
  unfold hgetT
  rw [dif_pos hx]
  exact congrArg some (inj _ _ (Option.some.inj (hx.choose_spec.symm.trans h)))
theorem hget_new {cs : List MC} : hget (H ++ [cs]) H.length 0 cs.length = some cs := by
  rw [hget_of (c := cs) (by simp) (by simp)]
  simp
end
end Go.Proofs.Abs
/- How a printed function is walked: rules. -/
namespace Go.Proofs.Abs
open Go
set_option linter.unusedVariables false
set_option linter.unusedSimpArgs false

def wpC0 (q : Option (Ex × St)) (N : St → Prop) (E : Nat → St → Prop) (R : St → Prop) : Prop := match q with
  | some (.nrm, s) => N s
  | some (.exit i, s) => E i s
  | some (.ret, s) => R s
  | none => False
structure wpC (q : Option (Ex × St)) (N : St → Prop) (E : Nat → St → Prop) (R : St → Prop) : Prop where
  h : wpC0 q N E R
def blkE (id : Nat) (N : St → Prop) (E : Nat → St → Prop) (j : Nat) (s : St) : Prop := if j = id then N s else E j s
section
variable {X : Cx} {pu : Pu} {st : Bool} {fn id i : Nat} {ops : List Oper} {s s1 s2 s' : St} {N : St → Prop} {E : Nat → St → Prop} {R : St → Prop} {c c' : Code}
noncomputable abbrev ev (X : Cx) (pu : Pu) (fn : Nat) (c : Code) (s : St) : Option (Ex × St) := evC X pu (evS X) iterS fn c s
theorem wp_some {q : Option (Ex × St)} (h : wpC q N E R) : ∃ e t, q = some (e, t) ∧ wpC (some (e, t)) N E R := by
  cases q with
  | none => exact h.h.elim
  | some x => exact ⟨x.1, x.2, rfl, h⟩
/-! regions, step by step -/
def OpsW (X : Cx) (pu : Pu) (fn id : Nat) (ops : List Oper) (i : Nat) (s s2 : St) : Prop := ∃ t, evOps X pu (evS X) fn id ops i (ops.drop i) (some s) = some t ∧ t.drop (X.dead fn id) = s2
/-! drawn regions -/
def SchW (X : Cx) (pu : Pu) (st : Bool) (fn id : Nat) (ops : List Oper) (sch : Sch) (s s2 : St) : Prop := ∃ t, evSch X pu st (evS X) fn id ops sch (some s) = some t ∧ t.drop (X.dead fn id) = s2
/-- loads from objects -/
theorem ld_obj {ty : TypeId} {j o N k n : Nat} {cs : List MC} {agg : Bool} {v : TV} (V : hget s.h j o N = some cs) (hT : isAggT X.P ty = some agg) (hn : szOf X.P ty = some n) (hk : Nat.ble (k + n) N = true) (hv : mkT agg (((cs.drop k).take n).map fun c => (c.1.cpH, c.2)) = some v) :
    evLoad X.P .cp ty (.ptr (.at j (o + k))) s = some (v, s) := by
  have h1 := hget_sub V k n (Nat.le_of_ble_eq_true hk)
  unfold hget at h1
  split at h1
  · rename_i c hc
    simp only [evLoad, hT, hn, hc, ldObj, h1, mkV, hv]
  · cases h1
theorem st_ld {Y : Option St} (s : St) (ty : TypeId) {j o N : Nat} {cs : List MC} (V : hget s.h j o N = some cs) (k n : Nat) (agg : Bool) (v : TV) (d : Option Tmp) (hr : Y = setQ d (evLoad X.P .cp ty (.ptr (.at j (o + k))) s)) (hT : isAggT X.P ty = some agg) (hn : szOf X.P ty = some n) (hk : Nat.ble (k + n) N = true) (hv : mkT agg (((cs.drop k).take n).map fun c => (c.1.cpH, c.2)) = some v) (hs : setT s d v = s1) : Y = some s1 := by
  rw [hr, ld_obj V hT hn hk hv, ← hs]; rfl
theorem st_ldT {Y : Option St} (s : St) (ty : TypeId) {j o N : Nat} {cs : List MC} {h2 : Heap} (V : hget s.h j o N = some cs) (k n : Nat) (agg : Bool) (v : TV) (d : Option Tmp) (hr : Y = setQ d (evLoad X.P .take ty (.ptr (.at j (o + k))) s)) (hT : isAggT X.P ty = some agg) (hn : szOf X.P ty = some n) (hk : Nat.ble (k + n) N = true) (hv : mkT agg ((cs.drop k).take n) = some v)
    (hh : hset s.h j (o + k) (((cs.drop k).take n).map leaveC) = h2) (hs : setT ({ s with h := h2 }.kill isBh noAV) d v = s1) : Y = some s1 := by
  have h1 := hget_sub V k n (Nat.le_of_ble_eq_true hk)
  unfold hget at h1
  split at h1
  · rename_i c hc
    rw [hset_eq hc] at hh
    rw [hr]
    simp only [evLoad, hT, hn, hc, ldObj, h1, mkV, hv, setQ]
    rw [hh, hs]
  · cases h1
theorem st_ldP {Y : Option St} (s : St) (ty : TypeId) {j o N : Nat} {cs : List MC} (V : hget s.h j o N = some cs) (k e z : Nat) (xs : List (List AV)) (d : Option Tmp) (hr : Y = setQ d (evLoad X.P .place ty (.ptr (.at j (o + k))) s)) (hT : isAggT X.P ty = some false) (hn : szOf X.P ty = some 1) (hk : Nat.ble (k + 1) N = true) (hv : (cs.drop k).take 1 = [(.own (e + 1), .sl z xs)])
    (hs : setT s d (.one .top (.at_ (.obj j (o + k)) 0 xs.length)) = s1) : Y = some s1 := by
  have h1 := hget_sub V k 1 (Nat.le_of_ble_eq_true hk)
  rw [hv] at h1
  unfold hget at h1
  split at h1
  · rename_i c hc
    rw [hr, ← hs]
    simp only [evLoad, hT, hn, hc, ldObj, h1]
    rfl
  · cases h1
/-- stores into objects -/
def stKill (j off : Nat) (new old : List MC) (s : St) : St :=
  let s2 := if anyOwned new then s.kill isBl noAV else s
  if anySlice new || anySlice old then s2.kill noMd (rootedObjIn j off new.length) else s2
theorem st_st {lc : List Nat} {Y : Option St} (s : St) (ty : TypeId) {j o N : Nat} {cs : List MC} {h2 : Heap} (V : hget s.h j o N = some cs) (k n : Nat) (v : TV) (hr : Y = evStore X.P ⟨false, lc⟩ ty (.ptr (.at j (o + k))) v s) (hn : szOf X.P ty = some n) (hk : Nat.ble (k + n) N = true) (hl : v.cells.length = n) (hv : noTup v = true) (hkp : v.cells.all keepC = true)
    (hh : hset s.h j (o + k) v.cells = h2) (hs : stKill j (o + k) v.cells ((cs.drop k).take n) { s with h := h2 } = s1) : Y = some s1 := by
  have h1 := hget_sub V k n (Nat.le_of_ble_eq_true hk)
  unfold hget at h1
  split at h1
  · rename_i c hc
    rw [hset_eq hc] at hh
    rw [hr]
    simp only [evStore, hn, hl, hv, and_self, if_true, hc, stObj, h1, hkp, Bool.not_true, Bool.or_false, Bool.false_eq_true, if_false]
    rw [hh]
    subst hl
    exact congrArg some hs
  · cases h1
/-- elements -/
theorem ix_sl {α : Type} {P : Program} {t e : TypeId} {z : Nat} {xs : List α} {En : α → List AV} {n : Int} {x : α} {m : Md} (hx : gi xs n = some x) (ht : P.underlying t = some (.slice e)) (hz : szOf P e = some z) :
    evIndexAddr P s t (.one m (.sl z (xs.map En))) n = some (.one .top (.rd m.cp m.inner.cp (En x) 0)) := by
  obtain ⟨h0, h1⟩ := gi_inv hx
  simp only [evIndexAddr, ht, hz, h0, true_and, if_true, List.getElem?_map, h1, Option.map_some, sc]
theorem st_ix {α : Type} {Y : Option St} (s : St) (t e : TypeId) (z : Nat) {xs : List α} {n : Int} {x : α} (hx : gi xs n = some x) (En : α → List AV) (m : Md) (d : Option Tmp) (hr : Y = setO s d (evIndexAddr X.P s t (.one m (.sl z (xs.map En))) n)) (ht : X.P.underlying t = some (.slice e)) (hz : szOf X.P e = some z)
    (hs : setT s d (.one .top (.rd m.cp m.inner.cp (En x) 0)) = s1) : Y = some s1 := by
  rw [hr, ix_sl hx ht hz, ← hs]; rfl
/-- an element's place, in a slice that is held -/
theorem st_ixA {α : Type} {Y : Option St} (s : St) (t e : TypeId) (z : Nat) {xs : List α} {n : Int} {x : α} (hx : gi xs n = some x) (En : α → List AV) (r : Rt) (lo len : Nat) (q : Nat) (d : Option Tmp) (hr : Y = setO s d (evIndexAddr X.P s t (.one .top (.at_ r lo len)) n)) (ht : X.P.underlying t = some (.slice e)) (hz : szOf X.P e = some z)
    (hat : atRoot s r = some (.own (q + 1), .sl z (xs.map En))) (hlo : lo = 0) (hlen : len = xs.length) (hs : setT s d (.one .top (.el r n.toNat 0)) = s1) : Y = some s1 := by
  obtain ⟨h0, h1⟩ := gi_inv hx
  have h2 := (List.getElem?_eq_some_iff.1 h1).1
  subst hlo hlen
  rw [hr, ← hs]
  simp only [evIndexAddr, ht, hz, hat, atEl]
  rw [if_pos ⟨h0, by omega, trivial, by simpa using h2⟩]
  simp [setO, sc]
theorem at_obj {j o N k : Nat} {cs : List MC} {c : MC} (V : hget s.h j o N = some cs) (hk : Nat.ble (k + 1) N = true) (hv : (cs.drop k).take 1 = [c]) : atRoot s (.obj j (o + k)) = some c := by
  have h1 := hget_sub V k 1 (Nat.le_of_ble_eq_true hk)
  rw [hv] at h1
  unfold hget at h1
  split at h1
  · rename_i c' hc
    show cellOf (o + k) s.h[j]? = _
    rw [hc]
    obtain ⟨_, h2, h3⟩ := cellsAt_inv h1
    exact (by simpa using (h3 0 c rfl).2 : c'[o + k]? = some c)
  · cases h1
/-- how many -/
theorem st_len {α : Type} {Y : Option St} (s : St) (xs : List α) (En : α → List AV) (d : Option Tmp) (hr : Y = some (setT s d (.one .top (.int .i64 ((xs.map En).length : Nat))))) (hs : setT s d (.one .top (.int .i64 (xs.length : Nat))) = s1) : Y = some s1 := by
  rw [List.length_map] at hr
  rw [hr, hs]
/-- append -/
theorem st_app {α : Type} {Y : Option St} (s : St) (zb : Nat) {xs ys zs : List α} (hx : app zb xs ys = some zs) (aty bty e : TypeId) (z q : Nat) (ze : List MC) (my : Md) (En : α → List AV) (dp : Nat) (d : Option Tmp) (hr : Y = setQ d (fstO s (evAppend X.P aty bty [.one (.own (q + 1)) (.sl z (xs.map En)), .one my (.sl z (ys.map En))])))
    (ht : X.P.underlying aty = some (.slice e)) (hz : zeroOf X.P e = some ze) (hb : byOf X.P e = some zb) (hl : z = ze.length) (h0 : Nat.beq z 0 = false) (hb0 : Nat.beq zb 0 = false) (hbt : isSliceT X.P bty = true) (hd : depthIn my (ys.map En) = some dp) (hlen : ∀ x, (En x).length = z)
    (hs : setT s d (.one (.own (min q dp + 1)) (.sl z (zs.map En))) = s1) : Y = some s1 := by
  obtain ⟨k1, rfl⟩ := app_inv hx
  have e1 : z ≠ 0 := fun e => by subst e; cases h0
  have e2 : zb ≠ 0 := fun e => by subst e; cases hb0
  rw [hr, ← hs]
  simp only [evAppend, ht, hz, hb]
  rw [if_pos ⟨hl, trivial, e1, e2, hbt⟩, hd]
  simp only [appendF]
  rw [if_pos ⟨by simpa using k1, by simp [lenIs, hlen]⟩]
  simp [fstO, setQ]
theorem ev_quo {P : Program} {ty : TypeId} {x y : Operand} {m m' : Md} {k : IntKind} {a b : Int} : evBin P .quo ty x y (some (.one m (.int k a))) (some (.one m' (.int k b))) = (quoI k a b).map fun n => .one .top (.int k n) := by
  rw [bin_quo]; unfold quoI; split <;> rfl
theorem ev_rem {P : Program} {ty : TypeId} {x y : Operand} {m m' : Md} {k : IntKind} {a b : Int} : evBin P .rem ty x y (some (.one m (.int k a))) (some (.one m' (.int k b))) = (remI k a b).map fun n => .one .top (.int k n) := by
  rw [bin_rem]; unfold remI; split <;> rfl
theorem ev_shl {P : Program} {ty : TypeId} {x y : Operand} {m m' : Md} {k k' : IntKind} {a b : Int} : evBin P .shl ty x y (some (.one m (.int k a))) (some (.one m' (.int k' b))) = (shlI k a b).map fun n => .one .top (.int k n) := by
  rw [bin_shl]; unfold shlI; split <;> rfl
theorem ev_shr {P : Program} {ty : TypeId} {x y : Operand} {m m' : Md} {k k' : IntKind} {a b : Int} : evBin P .shr ty x y (some (.one m (.int k a))) (some (.one m' (.int k' b))) = (shrI k a b).map fun n => .one .top (.int k n) := by
  rw [bin_shr]; unfold shrI; split <;> rfl
theorem st_binI {Y : Option St} (s : St) (k : IntKind) {q : Option Int} {n : Int} (hq : q = some n) {Z : Option TV} (hw : Z = q.map fun n => .one .top (.int k n)) (d : Option Tmp) (hr : Y = setO s d Z) (hs : setT s d (.one .top (.int k n)) = s1) : Y = some s1 := by
  subst hq; rw [hr, hw, ← hs]; rfl
/-! what is told of a program beside its text -/
def h0 : Nat → Hint := fun _ => {}
def hl (l : List Hint) (i : Nat) : Hint := l.getD i {}
structure RI where
  h : Nat → Hint := h0
  dead : List Nat × List Nat := ([], [])
  sch : Sch := .done
  rpu : Bool := false
  rlc : List Nat := []
  rst : Bool := false
structure FI where
  pure : Bool := false
  frz : Bool := false
  two : Bool := false
  alone : Bool := false
  regs : List (Nat × RI) := []
  conds : List ((Nat × Nat × Nat) × (List Nat × List Nat) × (List Nat × List Nat)) := []
def lkR : List (Nat × RI) → Nat → RI
  | [], _ => {}
  | (k, r) :: l, j => bif Nat.beq k j then r else lkR l j
def lkC : List ((Nat × Nat × Nat) × (List Nat × List Nat) × (List Nat × List Nat)) → Nat × Nat × Nat → Bool → List Nat × List Nat
  | [], _, _ => ([], [])
  | (k, a, b) :: l, j, w => bif Nat.beq k.1 j.1 && (Nat.beq k.2.1 j.2.1 && Nat.beq k.2.2 j.2.2) then (bif w then a else b) else lkC l j w
def mkX (P : Program) (fi : Nat → FI) (gs : List Nat := []) (ct : FuncId → List TV → Option TV := fun _ _ => none) : Cx := { P := P, gs := gs, ct := ct, alone := fun f => (fi f).alone, sch := fun f r => (lkR (fi f).regs r).sch, rpu := fun f r => (lkR (fi f).regs r).rpu, rlc := fun f r => (lkR (fi f).regs r).rlc, rst := fun f r => (lkR (fi f).regs r).rst, hint := fun f r => (lkR (fi f).regs r).h, dead := fun f r => (lkR (fi f).regs r).dead, deadC := fun f t w => lkC (fi f).conds t w, pure := fun f => (fi f).pure, frz := fun f => (fi f).frz, two := fun f => (fi f).two }
/-! whole functions -/
def Fin (X : Cx) (f : Nat) (h : Heap) (rs : List ResultVar) (r : TV × Heap) (s : St) : Prop := frzR (X.frz f) (bodyF X.P (X.pure f) h rs (some (.ret, s))) = some r
theorem w_fun {f : FuncId} {args : List TV} {h : Heap} {r} {fu : Func} {c : Code} (hf : X.P.funcs[f]? = some fu) (hc : fu.body = some c) (hok : okBody X f fu c = true) (b : Bool) (hp : X.pure f = b) {s0 : St} (hs : { t := number 0 args, l := [], h := h } = s0)
    (hr : wpC (ev X ⟨b, []⟩ f c s0) (Fin X f h fu.results.toList r) (fun _ _ => False) (Fin X f h fu.results.toList r)) (hct : isBody X f args = true := by rfl) : evS X f args h = some r := by
  subst hs hp
  refine evS_fun hf hc hok hct ?_
  obtain ⟨e, t, he, hw⟩ := wp_some hr
  simp only [ev] at he
  rw [he]
  cases e with
  | nrm => exact hw.h
  | exit i => exact hw.h.elim
  | ret => exact hw.h
theorem fin_pure {f : Nat} {h : Heap} {rs : List ResultVar} {v v' : TV} (hv : results X.P rs s = some v) (hp : X.pure f = true) (hh : s.h.length = h.length) (hz : frzIf (X.frz f) v = v') : Fin X f h rs (v', h) s := by
  unfold Fin
  simp only [bodyF, hv, hp, if_true, hh, frzR, hz]
theorem fin_imp {f : Nat} {h : Heap} {rs : List ResultVar} {v v' : TV} (hv : results X.P rs s = some v) (hp : X.pure f = false) (hz : frzIf (X.frz f) v = v') : Fin X f h rs (v', s.h) s := by
  unfold Fin
  simp only [bodyF, hv, hp, Bool.false_eq_true, if_false, frzR, hz]
abbrev EN := Nat × TV
abbrev EB := Nat × List MC
/-- an array's cells -/
def arM (k : IntKind) (n : Nat) {N : Nat} (a : Arr N Int) : List MC := (List.range n).map fun j => (.top, .int k (a.g j))
/-! functions that ask whether a slice is nil -/
section
variable {R : Type} {fin k : St → Option R} {r : R} {c' : Code}
end
end
end Go.Proofs.Abs
/- Steps at lists and arrays. -/
namespace Go.Proofs.Abs
open Go
set_option linter.unusedVariables false
set_option linter.unusedSimpArgs false
section
variable {X : Cx} {s1 : St} {α : Type}
/-- a bound of a slice expression -/
def bndIs (P : Program) (s : St) (d : Int) (x : Option Operand) (n : Int) : Prop := match x with
  | none => n = d
  | some x => (opnd P s 0 x).bind natOf = some n
theorem bound_of {P : Program} {s : St} {d hi : Nat} {x : Option Operand} {n : Int} (h : bndIs P s d x n) (h0 : 0 ≤ n) (h1 : n ≤ hi) : bound P s d hi x = some n.toNat := by
  cases x with
  | none =>
    have h : n = d := h
    subst h; simp [bound]
  | some x =>
    have h : (opnd P s 0 x).bind natOf = some n := h
    simp only [bound]
    cases hv : opnd P s 0 x with
    | none => rw [hv] at h; cases h
    | some v =>
      rw [hv] at h
      have h : natOf v = some n := h
      simp [h, h0, h1]
/-! elements of a slice that is held -/
theorem el_at {xs : List α} {i : Int} {x : α} {β : Type} {En : α → β} (h : gi xs i = some x) : (xs.map En)[i.toNat]? = some (En x) := by
  rw [List.getElem?_map, (gi_inv h).2]; rfl
theorem el_put {xs ys : List α} {i : Int} {x : α} {β : Type} {En : α → β} (h : si xs i x = some ys) : (xs.map En).set i.toNat (En x) = ys.map En := by
  obtain ⟨_, _, rfl⟩ := si_inv h
  rw [List.map_set]
theorem st_ldE {Y : Option St} (s : St) (ty : TypeId) (r : Rt) (ix off n q : Nat) (L : List (List AV)) (x : List AV) (z : Nat) (agg : Bool) (v : TV) (d : Option Tmp) (hr : Y = setQ d (evLoad X.P .cp ty (.el r ix off) s)) (hT : isAggT X.P ty = some agg) (hn : szOf X.P ty = some n) (hat : atRoot s r = some (.own (q + 1), .sl z L)) (hL : L[ix]? = some x) (ho : Nat.ble (off + n) x.length = true) (hv : mkT agg (rdCells (Md.cpR r (.own q)) ((x.drop off).take n)) = some v)
    (hs : setT s d v = s1) : Y = some s1 := by
  rw [hr, ← hs]
  simp only [evLoad, hT, hn, hat, ldEl, hL]
  rw [if_pos (Nat.le_of_ble_eq_true ho)]
  simp only [mkV, hv, setQ]
theorem st_stE {Y : Option St} (s s' : St) (pu : Pu) (ty : TypeId) (r : Rt) (ix off n q : Nat) (L : List (List AV)) (x x2 : List AV) (L2 : List (List AV)) (z : Nat) (v : TV) (hr : Y = evStore X.P pu ty (.el r ix off) v s) (hn : szOf X.P ty = some n) (hl : v.cells.length = n) (hv : noTup v = true) (hpu : (pu.ob && rootedObj (.el r 0 0)) = false) (hat : atRoot s r = some (.own (q + 1), .sl z L)) (hL : L[ix]? = some x) (hk : (v.cells.all (elOk q) && Nat.ble (off + v.cells.length) x.length) = true)
    (hE : setAt x off (v.cells.map (·.2)) = x2) (hL2 : L.set ix x2 = L2) (hR : setRoot s r (.own (q + 1), .sl z L2) = s') (hs : killEl r (anyOwned v.cells) s' = s1) : Y = some s1 := by
  rw [hr, ← hs]
  simp only [Bool.and_eq_true] at hk
  simp only [evStore, hn, hl, hv, and_self, if_true, hat, stEl, hL]
  rw [if_pos ⟨by have := Nat.le_of_ble_eq_true hk.2; omega, hpu, hk.1⟩, hE, hL2, hR]
/-! arrays -/
theorem arr_get [Inhabited α] {n : Nat} {A : Arr n α} {i : Int} {x : α} {β : Type} (C : α → β) (hx : ga A i = some x) {cs : List β} {off : Nat} (hA : (cs.drop off).take n = (List.range n).map fun j => C (A.g j)) : cs[off + i.toNat]? = some (C x) := by
  obtain ⟨h0, h1, rfl⟩ := ga_inv hx
  have h2 : ((cs.drop off).take n)[i.toNat]? = some (C (A.g i.toNat)) := by rw [hA]; simp [List.getElem?_range (show i.toNat < n by omega)]
  rw [List.getElem?_take, if_pos (by omega), List.getElem?_drop] at h2
  exact h2
theorem cellsAt_one' {cs : List MC} {k : Nat} {c : MC} (h : cs[k]? = some c) : cellsAt cs k 1 = some [c] := by
  have hl := (List.getElem?_eq_some_iff.1 h).1
  unfold cellsAt
  rw [if_pos (by omega), List.take_one]
  simp [List.head?_drop, h]
theorem st_ixL [Inhabited α] {Y : Option St} (s : St) (t e n : Nat) {A : Arr n α} {i : Int} {x : α} (hx : ga A i = some x) (b off : Nat) (d : Option Tmp) (hr : Y = setO s d (evIndexAddr X.P s t (.one .top (.loc b off)) i)) (ht : X.P.underlying t = some (.array n e)) (hz : szOf X.P e = some 1) (hs : setT s d (.one .top (.loc b (off + i.toNat))) = s1) : Y = some s1 := by
  obtain ⟨h0, h1, _⟩ := ga_inv hx
  rw [hr, ← hs]
  simp only [evIndexAddr, ht, hz]
  rw [if_pos ⟨h0, h1⟩]
  simp [setO, sc]
/-- a store into an array in a box -/
theorem arr_set [Inhabited α] {n : Nat} {A B : Arr n α} {i : Int} {x : α} {β : Type} (C : α → β) (hx : sa A i x = some B) {cs : List β} {off : Nat} (hA : (cs.drop off).take n = (List.range n).map fun j => C (A.g j)) : setAt cs (off + i.toNat) [C x] = setAt cs off ((List.range n).map fun j => C (B.g j)) := by
  obtain ⟨h0, h1, h2⟩ := sa_inv hx
  have hl : n ≤ (cs.drop off).length := by
    have := congrArg List.length hA
    simp at this
    simp; omega
  have hl' : off + n ≤ cs.length := by simp at hl; omega
  have hc : ∀ j, j < n → cs[off + j]? = some (C (A.g j)) := fun j hj => by
    have : ((cs.drop off).take n)[j]? = some (C (A.g j)) := by rw [hA]; simp [List.getElem?_range hj]
    rw [List.getElem?_take, if_pos hj, List.getElem?_drop] at this
    exact this
  apply List.ext_getElem?
  intro j
  simp only [setAt, List.getElem?_append, List.length_append, List.length_take, List.length_map, List.length_range, List.getElem?_take, List.getElem?_drop, List.length_cons, List.length_nil]
  by_cases c1 : j < off
  · grind
  · by_cases c2 : j < off + n
    · have hj := hc (j - off) (by omega)
      have e2 : off + (j - off) = j := by omega
      rw [e2] at hj
      have h3 := h2 (j - off)
      have hr : ((List.range n).map fun j => C (B.g j))[j - off]? = some (C (B.g (j - off))) := by simp [List.getElem?_range (show j - off < n by omega)]
      by_cases c3 : j - off = i.toNat
      · rw [if_pos c3] at h3
        grind
      · rw [if_neg c3] at h3
        grind
    · grind
theorem st_stL [Inhabited α] {Y : Option St} (s : St) (ty n : Nat) {A B : Arr n α} {i : Int} {x : α} (hx : sa A i x = some B) (b off : Nat) (cs : List MC) (C : α → AV) (pu : Pu) (hpl : inL b pu.lc = false) (hr : Y = evStore X.P pu ty (.loc b (off + i.toNat)) (.one .top (C x)) s) (hn : szOf X.P ty = some 1) (hf : find b s.l = some cs) (hA : (cs.drop off).take n = (List.range n).map fun j => (Md.top, C (A.g j))) (hsc : ∀ x, (C x).scalar = true)
    (hs : { s with l := put b (setAt cs off ((List.range n).map fun j => (Md.top, C (B.g j)))) s.l } = s1) : Y = some s1 := by
  obtain ⟨h0, h1, h2⟩ := sa_inv hx
  have hg : cs[off + i.toNat]? = some (Md.top, C (A.g i.toNat)) := by
    refine arr_get (fun x => (Md.top, C x)) (x := A.g i.toNat) ?_ hA
    unfold ga Arr.g
    rw [if_pos h0]
    have := A.h
    simp [show i.toNat < A.l.length by omega]
  rw [hr, ← hs]
  simp only [evStore, hn, TV.cells, List.length_cons, List.length_nil, noTup, and_self, if_true, hf, hpl, Bool.false_eq_true, if_false, cellsAt_one' hg, stLoc]
  rw [arr_set (fun x => (Md.top, C x)) hx hA]
  simp [anySlice, hsc]
end
end Go.Proofs.Abs
/- Structs and arrays held against each other. -/
namespace Go.Proofs.Abs
open Go
set_option linter.unusedVariables false
set_option linter.unusedSimpArgs false
def eqQs (P : Program) (g : TypeId → Value → Value → Option (List Bool)) (xs ys : Array Value) : List Field → Option (List Bool)
  | [] => some []
  | f :: r => if f.name = "_" then none else (pureP P (part f.type xs f.offset)).bind fun a => (pureP P (part f.type ys f.offset)).bind fun b => (g f.type a b).bind fun q => (eqQs P g xs ys r).map fun q' => q ++ q'
def eqQa (P : Program) (g : TypeId → Value → Value → Option (List Bool)) (e : TypeId) (z : Nat) (xs ys : Array Value) : List Nat → Option (List Bool)
  | [] => some []
  | i :: r => (pureP P (part e xs (i * z))).bind fun a => (pureP P (part e ys (i * z))).bind fun b => (g e a b).bind fun q => (eqQa P g e z xs ys r).map fun q' => q ++ q'
def eqQ (P : Program) : Nat → TypeId → Value → Value → Option (List Bool)
  | 0, _, _, _ => none
  | d + 1, t, x, y => match P.underlying t, x, y with
    | some (.struct fs), .agg xs, .agg ys => if P.stoodInHeld t then none else eqQs P (eqQ P d) xs ys fs.toList
    | some (.array n e), .agg xs, .agg ys => (pureP P (sizeOf e)).bind fun z => eqQa P (eqQ P d) e z xs ys (List.range n)
    | some .bool, .bool a, .bool b => some [a == b]
    | some (.int _), .int k a, .int k' b => if k = k' then some [a == b] else none
    | some .string, .string a, .string b => some [a == b]
    | _, _, _ => none
end Go.Proofs.Abs
/- The rules once more, in the words of short printed proofs: what is reckoned comes last, and is reckoned by itself. -/
namespace Go.Proofs.Abs
open Go
set_option linter.unusedVariables false
section
variable {X : Cx} {s1 : St} {α : Type}
theorem st_ixO [Inhabited α] {Y : Option St} (s : St) (t e n : Nat) {A : Arr n α} {i : Int} {x : α} (hx : ga A i = some x) (j off : Nat) (d : Option Tmp) (hr : Y = setO s d (evIndexAddr X.P s t (.one .top (.ptr (.at j off))) i)) (ht : X.P.underlying t = some (.array n e)) (hz : szOf X.P e = some 1) (hs : setT s d (.one .top (.ptr (.at j (off + i.toNat)))) = s1) : Y = some s1 := by
  obtain ⟨h0, h1, _⟩ := ga_inv hx
  rw [hr, ← hs]
  simp only [evIndexAddr, ht, hz]
  rw [if_pos ⟨h0, h1⟩]
  simp [setO, sc]
theorem st_ldO [Inhabited α] {Y : Option St} (s : St) (ty n : Nat) {A : Arr n α} {i : Int} {x : α} (hx : ga A i = some x) {j o N : Nat} {cs : List MC} (V : hget s.h j o N = some cs) (k : Nat) (C : α → AV) (d : Option Tmp) (hr : Y = setQ d (evLoad X.P .cp ty (.ptr (.at j (o + k + i.toNat))) s)) (hT : isAggT X.P ty = some false) (hn : szOf X.P ty = some 1) (hk : Nat.ble (k + n) N = true)
    (hA : (cs.drop k).take n = (List.range n).map fun j => (Md.top, C (A.g j))) (hs : setT s d (.one .top (C x)) = s1) : Y = some s1 := by
  obtain ⟨h0, h1, _⟩ := ga_inv hx
  have g := cellsAt_one' (arr_get (fun x => (Md.top, C x)) hx hA)
  unfold cellsAt at g
  split at g
  · have g := Option.some.inj g
    have hk := Nat.le_of_ble_eq_true hk
    have := ld_obj (X := X) (s := s) (k := k + i.toNat) (n := 1) (v := .one .top (C x)) V hT hn (Nat.ble_eq_true_of_le (by omega)) (by rw [g]; rfl)
    rw [← Nat.add_assoc] at this
    rw [hr, this, ← hs]; rfl
  · cases g
end
open Classical in
/-- an object is as it was -/
noncomputable def same {α : Type} (q : Option α) (x : α) : Option Unit := if q = some x then some () else none
/-- there is something in it -/
def ne {α : Type} (xs : List α) : Option Unit := if xs.isEmpty then none else some ()
section
variable {X : Cx} {s1 : St} {α : Type}
end
def dd (l : List Nat) : RI := { dead := (l, []) }
/-! values, in short -/
abbrev vT : TV := .one .top (.bool true)
/-- a slice that is held, or was given away -/
def mayT {α : Type} (en : α → List AV) (z k : Nat) : Option (List α) → TV
  | some l => .one (.own k) (.sl z (l.map en))
  | none => .one .top .junk
abbrev vF : TV := .one .top (.bool false)
abbrev vb (b : Bool) : TV := .one .top (.bool b)
abbrev vi (n : Int) : TV := .one .top (.int .i64 n)
abbrev vu (n : Int) : TV := .one .top (.int .u32 n)
abbrev vl (t o : Nat) : TV := .one .top (.loc t o)
abbrev vo (i o : Nat) : TV := .one .top (.ptr (.at i o))
abbrev vp (p : Ptr) : TV := .one .top (.ptr p)
abbrev vN : TV := .tup []
section
variable {X : Cx} {pu : Pu} {st : Bool} {fn id i : Nat} {ops : List Oper} {s s1 s2 s' : St} {N : St → Prop} {E : Nat → St → Prop} {R : St → Prop} {c c' : Code}
def dropT : Nat → Sch → Sch
  | 0, n => n
  | j + 1, .take _ n => dropT j n
  | _ + 1, n => n
noncomputable def takeT (X : Cx) (pu : Pu) (st : Bool) (fn id : Nat) (ops : List Oper) : Nat → Sch → Option St → Option St
  | 0, _, q => q
  | j + 1, .take i n, q => takeT X pu st fn id ops j n (takeI X pu st (evS X) fn id ops i q)
  | _ + 1, _, _ => none
end
end Go.Proofs.Abs
/- What a reader's arguments are to the abstract machine. -/
namespace Go.Proofs.Abs
open Go
set_option linter.unusedVariables false
set_option linter.unusedSimpArgs false
/-- cells that read so, and that nobody writes -/
def Reads (w : World) (E : List AV) (cs : List Value) : Prop := cs.length = E.length ∧ ∀ (j : Nat) (c : AV) (v : Value), E[j]? = some c → cs[j]? = some v → ∀ r π, KC w gAll .ro r π c v
theorem Reads.nil {w : World} : Reads w [] [] := ⟨rfl, fun j c v h => by simp at h⟩
theorem Reads.app {w : World} {E E' : List AV} {cs cs' : List Value} (h : Reads w E cs) (h' : Reads w E' cs') : Reads w (E ++ E') (cs ++ cs') := by
  refine ⟨by simp [h.1, h'.1], fun j c v hc hv => ?_⟩
  rw [List.getElem?_append] at hc hv
  rw [← h.1] at hc
  split at hc
  · rename_i hj; rw [if_pos hj] at hv; exact h.2 j c v hc hv
  · rename_i hj; rw [if_neg hj] at hv; exact h'.2 _ c v hc hv
def Opens (P : Program) (t : TypeId) {α : Type} (E : α → List AV) (W : α → Prop) : Prop :=
  ∀ (H : Type) (enc : TypeId × Value → H) (w : World) (fuel : Nat) (cs : List Value) x, DataW.trod enc P w 0 (fun _ => true) true fuel t cs = some x → ∃ a, W a ∧ Reads w (E a) cs
section
variable {P : Program} {t : TypeId}
theorem opens_int {k : IntKind} (ht : P.underlying t = some (.int k)) : Opens P t (eI k) (fun n => (Lit.int k n).wf = true) := fun H enc w fuel cs x h => by
  obtain ⟨n, rfl, _, hw⟩ := DataW.trod_int ht h
  refine ⟨n, hw, rfl, fun j c v hc hv => ?_⟩
  cases j with
  | zero => cases hc; cases hv; exact fun _ _ => .int
  | succ j => simp [eI] at hc
theorem mapM_cells {w : World} {a : Addr} : ∀ (l : List Nat) (cs : List Value), l.mapM (fun i => w.cell? (a.add i)) = some cs → cs.length = l.length ∧ ∀ (j i : Nat), l[j]? = some i → w.cell? (a.add i) = cs[j]?
  | [], cs, h => by simp at h; subst h; simp
  | i :: l, cs, h => by
    simp only [List.mapM_cons, Option.bind_eq_bind, Option.bind_eq_some_iff] at h
    obtain ⟨v, hv, vs, hvs, h⟩ := h
    cases h
    obtain ⟨h1, h2⟩ := mapM_cells l vs hvs
    refine ⟨by simp [h1], fun j i' hj => ?_⟩
    cases j with
    | zero => cases hj; simpa using hv
    | succ j => simpa using h2 j i' (by simpa using hj)
theorem opens_slice {α : Type} {E : α → List AV} {W : α → Prop} {e : TypeId} {z : Nat} (ht : P.underlying t = some (.slice e)) (hc : P.cellsOf e = z) (hz : Nat.beq z 0 = false) (hE : ∀ x, (E x).length = z) (he : Opens P e E W) :
    Opens P t (eL z E) (fun xs => (∀ x, x ∈ xs → W x) ∧ xs.length ≤ maxLen) := fun H enc w fuel cs x h => by
  have hz0 : z ≠ 0 := fun e => by subst e; cases hz
  rcases DataW.trod_slice ht h with ⟨rfl, _⟩ | ⟨a, len, cap, elems, rest, n, _, rfl, _, hb, hl, hm, hlen, hel, hsp, _⟩
  · refine ⟨[], ⟨fun x hx => (by cases hx), Nat.zero_le _⟩, rfl, fun j c v hc hv => ?_⟩
    cases j with
    | zero => cases hc; cases hv; exact fun _ _ => .nil (by simp)
    | succ j => simp [eL] at hc
  · by_cases hlen0 : len = 0
    · subst hlen0
      refine ⟨[], ⟨fun x hx => (by cases hx), Nat.zero_le _⟩, rfl, fun j c v hc hv => ?_⟩
      cases j with
      | zero => cases hc; cases hv; exact fun _ _ => .emp (by simp) rfl
      | succ j => simp [eL] at hc
    have each : ∀ i, i < len → ∃ x : α, W x ∧ ∃ cs, w.cells? 0 (a.add (i * z)) z = some cs ∧ Reads w (E x) cs := fun i hi => by
      have := hel i hi
      have hsome : (elems[i]?).isSome = true := by simp [hlen, hi]
      rw [← this, hc] at hsome
      obtain ⟨y, hy⟩ := Option.isSome_iff_exists.1 hsome
      rw [Option.bind_eq_some_iff] at hy
      obtain ⟨cs, h1, h2⟩ := hy
      obtain ⟨x, hx, hr⟩ := he H enc w n cs y h2
      exact ⟨x, hx, cs, h1, hr⟩
    have cell : ∀ i (hi : i < len) cs, w.cells? 0 (a.add (i * z)) z = some cs → cs.length = z ∧ ∀ j, j < z → w.cell? ((a.add (i * z)).add j) = cs[j]? := fun i hi cs h => by
      unfold World.cells? at h
      rw [if_pos (Nat.zero_le _)] at h
      obtain ⟨h1, h2⟩ := mapM_cells _ _ h
      refine ⟨by simpa using h1, fun j hj => h2 j j ?_⟩
      rw [List.getElem?_range hj]
    obtain ⟨b, o, spot⟩ := a
    have h0 : 0 < len := by omega
    obtain ⟨x0, _, cs0, k1, _⟩ := each 0 h0
    obtain ⟨k2, k3⟩ := cell 0 h0 cs0 k1
    have k4 := k3 0 (by omega)
    have k5 : cs0[0]? ≠ none := by
      intro hn
      rw [List.getElem?_eq_none_iff] at hn
      omega
    have hbs : b < w.heap.size ∧ spot = none := by
      rw [← k4] at k5
      unfold World.cell? at k5
      constructor
      · by_cases hbh : b < w.heap.size
        · exact hbh
        · exfalso; apply k5
          have : w.heap[b]? = none := by simp; omega
          simp [Addr.add, this]
      · cases spot with
        | none => rfl
        | some q =>
          exfalso; apply k5
          simp only [Addr.add]
          split <;> simp
    obtain ⟨hbs, rfl⟩ := hbs
    obtain ⟨xs, hxs⟩ : ∃ xs : List α, xs = (List.finRange len).map fun (i : _root_.Fin len) => (each i.1 i.2).choose := ⟨_, rfl⟩
    have hxl : xs.length = len := by simp [hxs]
    have hget : ∀ i (hi : i < len), xs[i]? = some (each i hi).choose := fun i hi => by simp [hxs, hi]
    refine ⟨xs, ⟨fun x hx => ?_, by rw [hxl]; omega⟩, rfl, fun j c v hc' hv r π => ?_⟩
    · obtain ⟨i, hi⟩ := List.mem_iff_getElem?.1 hx
      have hil : i < len := by rw [← hxl]; exact (List.getElem?_eq_some_iff.1 hi).1
      rw [hget i hil] at hi
      cases hi
      exact (each i hil).choose_spec.1
    · cases j with
      | succ j => simp [eL] at hc'
      | zero =>
        cases hc'
        have hv' : Value.slice (some ⟨b, o, none⟩) len cap = v := by simpa using hv
        subst hv'
        have hcell : ∀ i x j a, (xs.map E)[i]? = some x → x[j]? = some a → ∃ v, cel w b (o + i * z + j) = some v ∧ ∀ r π, KC w gAll .ro r π a v := by
          intro i x j a hx ha
          rw [List.getElem?_map, Option.map_eq_some_iff] at hx
          obtain ⟨y, hy, rfl⟩ := hx
          have hil : i < len := by rw [← hxl]; exact (List.getElem?_eq_some_iff.1 hy).1
          rw [hget i hil] at hy
          cases hy
          obtain ⟨_, cs, q1, q2⟩ := (each i hil).choose_spec
          obtain ⟨q3, q4⟩ := cell i hil cs q1
          have hj : j < z := by rw [← hE]; exact (List.getElem?_eq_some_iff.1 ha).1
          have hcj : cs[j]? = some cs[j] := by simp [q3, hj]
          refine ⟨cs[j], ?_, fun r π => q2.2 j a cs[j] ha hcj r π⟩
          have := q4 j hj
          rw [hcj, add_mk, add_mk] at this
          exact this
        have hlm : (xs.map E).length = len := by simp [hxl]
        have := KC.sl (w := w) (g := gAll) (m := .ro) (r := r) (π := π) (z := z) (xs := xs.map E) (b := b) (o := o) (cap := cap) (fun i j => (cel w b (o + i * z + j)).getD undef) hbs (.inl rfl) (fun x hx => by
          rw [List.mem_map] at hx; obtain ⟨y, _, rfl⟩ := hx; exact hE y) (by rw [hlm]; exact hl) (fun h => by cases h)
          (fun i x j a hx ha => by obtain ⟨v, h1, _⟩ := hcell i x j a hx ha; rw [h1]; rfl)
          (fun i x j a hx ha => by obtain ⟨v, h1, h2⟩ := hcell i x j a hx ha; rw [h1]; exact h2 _ _)
        rw [hlm] at this
        exact this
end
/-- an argument that is one cell -/
theorem arg_one {w : World} {E : AV} {v : Value} {i : Nat} (h : Reads w [E] v.cells.toList) (hv : v.cells = #[v]) : RT w gAll (.tmp i) (.one .ro E) v :=
  .inl (h.2 0 E v rfl (by rw [hv]; rfl) _ _)
end Go.Proofs.Abs
/- Proofs that go through a function and do not tell its states: what is run is reckoned by the kernel. -/
namespace Go.Proofs.Abs
open Go
set_option linter.unusedVariables false
set_option linter.unusedSimpArgs false

/-- what is left to do -/
inductive Fr where
  | code (c : Code)
  | ops (id i : Nat) (r all : List Oper)
  | sch (dr : Bool) (id : Nat) (pu : Pu) (st : Bool) (all : List Oper) (n : Sch)
  | blk (id : Nat)
  | mark
structure Cf where
  k : List Fr
  s : St

section
variable {X : Cx} {pu : Pu} {fn : Nat}
noncomputable def doF (X : Cx) (pu : Pu) (fn : Nat) : Fr → St → Option (Ex × St)
  | .code c, s => ev X pu fn c s
  | .ops id i r all, s => endR (X.dead fn id) (evOps X pu (evS X) fn id all i r (some s))
  | .sch dr id pu' st all n, s => endR (bif dr then X.dead fn id else ([], [])) (evSch X pu' st (evS X) fn id all n (some s))
  | .blk _, s => some (.nrm, s)
  | .mark, s => some (.nrm, s)
def pass : Fr → Ex × St → Ex × St
  | .blk id, (.exit j, s) => if j = id then (.nrm, s) else (.exit j, s)
  | _, q => q
noncomputable def fin (X : Cx) (pu : Pu) (fn : Nat) : List Fr → Option (Ex × St) → Option (Ex × St)
  | [], q => q
  | _ :: _, none => none
  | f :: k, some (.nrm, s) => fin X pu fn k (doF X pu fn f s)
  | f :: k, some q => fin X pu fn k (some (pass f q))
theorem fin_none : ∀ {k : List Fr}, fin X pu fn k none = none
  | [] => rfl
  | _ :: _ => rfl

def popTo (id : Nat) : List Fr → Option (List Fr)
  | [] => none
  | .blk j :: k => bif Nat.beq id j then some k else popTo id k
  | _ :: k => popTo id k
theorem fin_pop {id : Nat} {s : St} : ∀ {k k' : List Fr}, popTo id k = some k' → fin X pu fn k (some (.exit id, s)) = fin X pu fn k' (some (.nrm, s))
  | .blk j :: k, k', h => by
    simp only [popTo] at h
    cases hb : Nat.beq id j with
    | true =>
      rw [hb] at h; cases h
      have := Nat.eq_of_beq_eq_true hb
      subst this
      simp [fin, pass]
    | false =>
      rw [hb] at h
      have : id ≠ j := fun e => by subst e; simp at hb
      simp only [fin, pass, if_neg this]
      exact fin_pop h
  | .code _ :: k, k', h => fin_pop (k := k) h
  | .ops .. :: k, k', h => fin_pop (k := k) h
  | .sch .. :: k, k', h => fin_pop (k := k) h
  | .mark :: k, k', h => fin_pop (k := k) h
theorem fin_away {id : Nat} {s : St} : ∀ {k : List Fr}, popTo id k = none → fin X pu fn k (some (.exit id, s)) = some (.exit id, s)
  | [], _ => rfl
  | .blk j :: k, h => by
    simp only [popTo] at h
    cases hb : Nat.beq id j with
    | true => rw [hb] at h; cases h
    | false =>
      rw [hb] at h
      have : id ≠ j := fun e => by subst e; simp at hb
      simp only [fin, pass, if_neg this]
      exact fin_away h
  | .code _ :: k, h => fin_away (k := k) h
  | .ops .. :: k, h => fin_away (k := k) h
  | .sch .. :: k, h => fin_away (k := k) h
  | .mark :: k, h => fin_away (k := k) h
theorem fin_ret {s : St} : ∀ {k : List Fr}, fin X pu fn k (some (.ret, s)) = some (.ret, s)
  | [] => rfl
  | .blk _ :: k => fin_ret (k := k)
  | .code _ :: k => fin_ret (k := k)
  | .ops .. :: k => fin_ret (k := k)
  | .sch .. :: k => fin_ret (k := k)
  | .mark :: k => fin_ret (k := k)

/-- one step of what reckons by itself -/
noncomputable def step1 (X : Cx) (pu : Pu) (fn : Nat) : List Fr → St → Option Cf
  | .code .skip :: k, s => some ⟨k, s⟩
  | .code (.seq a b) :: k, s => some ⟨.code a :: .code b :: k, s⟩
  | .code (.region id ops false) :: k, s => some ⟨.ops id 0 ops.toList ops.toList :: k, s⟩
  | .code (.region id ops true) :: k, s => some ⟨.sch true id ⟨pu.ob || X.rpu fn id, pu.lc ++ X.rlc fn id⟩ (X.rst fn id) ops.toList (X.sch fn id) :: k, s⟩
  | .code (.block id c) :: k, s => some ⟨.code c :: .blk id :: k, s⟩
  | .code (.scope c) :: k, s => some ⟨.code c :: k, s⟩
  | .code (.cond x a b) :: k, s => match opnd X.P s 0 x with
    | some (.one _ (.bool true)) => some ⟨.code a :: k, s.drop (X.deadC fn (keyC x a b) true)⟩
    | some (.one _ (.bool false)) => some ⟨.code b :: k, s.drop (X.deadC fn (keyC x a b) false)⟩
    | _ => none
  | .code (.exit id) :: k, s => match popTo id k with
    | some k' => some ⟨k', s⟩
    | none => none
  | .ops id _ [] _ :: k, s => some ⟨k, s.drop (X.dead fn id)⟩
  | .ops id i (o :: r) all :: k, s => match stepA X pu (evS X) (X.hint fn id i) o s (wantA all s o.guard) with
    | some s1 => some ⟨.ops id (i + 1) r all :: k, s1⟩
    | none => none
  | .sch dr id _ _ _ .done :: k, s => some ⟨k, s.drop (bif dr then X.dead fn id else ([], []))⟩
  | .sch dr id pu' st all (.take i n) :: k, s => match takeI X pu' st (evS X) fn id all i (some s) with
    | some s1 => some ⟨.sch dr id pu' st all n :: k, s1⟩
    | none => none
  | .sch dr id pu' st all (.last i n) :: k, s => match stepI X pu' (evS X) fn id all i (some s) with
    | some s1 => some ⟨.sch dr id pu' st all n :: k, s1⟩
    | none => none
  | .blk _ :: k, s => some ⟨k, s⟩
  | _, _ => none
noncomputable def steps (X : Cx) (pu : Pu) (fn : Nat) : Nat → Cf → Option Cf
  | 0, c => some c
  | n + 1, c => match step1 X pu fn c.k c.s with
    | some c' => steps X pu fn n c'
    | none => none
theorem iterF_fin {c : Code} {k : List Fr} {q : Option (Ex × St)} : fin X pu fn k (iterF (ev X pu fn c) q) = fin X pu fn (.code c :: k) q := by
  cases q with
  | none => exact fin_none
  | some q => obtain ⟨e, s⟩ := q; cases e <;> rfl
theorem step1_fin {k : List Fr} {s : St} {c : Cf} (h : step1 X pu fn k s = some c) : fin X pu fn k (some (.nrm, s)) = fin X pu fn c.k (some (.nrm, c.s)) := by
  unfold step1 at h
  split at h
  · cases h; rfl
  · cases h
    simp only [fin, doF, ev, evC]
    exact iterF_fin
  · cases h; rfl
  · cases h; rfl
  · rename_i id b k
    cases h
    simp only [fin, doF, ev, evC]
    cases evC X pu (evS X) iterS fn b s with
    | none => exact fin_none.trans fin_none.symm
    | some q =>
      obtain ⟨e, s1⟩ := q
      cases e with
      | nrm => rfl
      | ret => rfl
      | exit j =>
        simp only [endB, fin, pass]
        split <;> rfl
  · cases h; rfl
  · split at h
    · rename_i hx; cases h; simp only [fin, doF, ev, evC, hx, condF]; rfl
    · rename_i hx; cases h; simp only [fin, doF, ev, evC, hx, condF]; rfl
    · cases h
  · split at h
    · rename_i k' hp; cases h
      exact fin_pop hp
    · cases h
  · cases h; rfl
  · split at h
    · rename_i s1 hs; cases h
      simp only [fin, doF, evOps, hs]
    · cases h
  · cases h; rfl
  · split at h
    · rename_i s1 hs; cases h
      simp only [fin, doF, evSch, hs]
    · cases h
  · split at h
    · rename_i s1 hs; cases h
      simp only [fin, doF, evSch, hs]
    · cases h
  · cases h; rfl
  · cases h
theorem steps_fin : ∀ {n : Nat} {c c' : Cf}, steps X pu fn n c = some c' → fin X pu fn c.k (some (.nrm, c.s)) = fin X pu fn c'.k (some (.nrm, c'.s))
  | 0, c, c', h => by cases h; rfl
  | n + 1, c, c', h => by
    simp only [steps] at h
    split at h
    · rename_i c1 h1; exact (step1_fin h1).trans (steps_fin h)
    · cases h

/-- from here on all goes well -/
def W (X : Cx) (pu : Pu) (fn : Nat) (Q : Ex × St → Prop) (q : Option Cf) : Prop := ∃ c r, q = some c ∧ fin X pu fn c.k (some (.nrm, c.s)) = some r ∧ Q r
noncomputable def stp (X : Cx) (pu : Pu) (fn : Nat) (n : Nat) : Option Cf → Option Cf
  | some c => steps X pu fn n c
  | none => none
variable {Q : Ex × St → Prop} {q : Option Cf}
theorem W_stp {n : Nat} (h : W X pu fn Q (stp X pu fn n q)) : W X pu fn Q q := by
  obtain ⟨c, r, h1, h2, h3⟩ := h
  cases q with
  | none => cases h1
  | some c0 => exact ⟨c0, r, rfl, (steps_fin h1).trans h2, h3⟩
def sO : Option Cf → St
  | some c => c.s
  | none => ⟨[], [], []⟩
theorem go (n : Nat) (h : let q' := stp X pu fn n q; W X pu fn Q q') : W X pu fn Q q := W_stp h

/-! conditions -/
def cndO (X : Cx) : Option Cf → Option Bool
  | some ⟨.code (.cond x _ _) :: _, s⟩ => match opnd X.P s 0 x with
    | some (.one _ (.bool b)) => some b
    | _ => none
  | _ => none
def tkC (X : Cx) (fn : Nat) (t : Bool) : Option Cf → Option Cf
  | some ⟨.code (.cond x a b) :: k, s⟩ => some ⟨.code (match t with | true => a | false => b) :: k, s.drop (X.deadC fn (keyC x a b) t)⟩
  | _ => none
theorem W_cond {b : Bool} (h : cndO X q = some b) (k : W X pu fn Q (tkC X fn b q)) : W X pu fn Q q := by
  unfold cndO at h
  split at h
  · rename_i x a c k' s
    split at h
    · rename_i m t ht
      cases h
      obtain ⟨c1, r, h1, h2, h3⟩ := k
      refine ⟨_, r, rfl, ?_, h3⟩
      rw [← h2]
      cases b <;> (cases h1; simp only [fin, doF, ev, evC, ht, condF]; rfl)
    · cases h
  · cases h
theorem wi {α : Type} (n m : Nat) {b : Bool} {u v : Option α} {r : α} (hF : (if b = true then u else v) = some r) (kT : b = true → u = some r → let q' := stp X pu fn n (tkC X fn true q); W X pu fn Q q') (kF : b = false → v = some r → let q' := stp X pu fn m (tkC X fn false q); W X pu fn Q q') (h : cndO X q = some b := by kernel_rfl) : W X pu fn Q q := by
  refine W_cond h ?_
  cases b with
  | true => exact W_stp (kT rfl hF)
  | false => exact W_stp (kF rfl hF)

/-! one operation -/
noncomputable def pnd (X : Cx) (pu : Pu) (fn : Nat) : Option Cf → Option St
  | some ⟨.ops id i (o :: _) all :: _, s⟩ => stepA X pu (evS X) (X.hint fn id i) o s (wantA all s o.guard)
  | some ⟨.sch _ id pu' st all (.take i _) :: _, s⟩ => takeI X pu' st (evS X) fn id all i (some s)
  | some ⟨.sch _ id pu' _ all (.last i _) :: _, s⟩ => stepI X pu' (evS X) fn id all i (some s)
  | _ => none
def adv : Option Cf → St → Option Cf
  | some ⟨.ops id i (_ :: r) all :: k, _⟩, s => some ⟨.ops id (i + 1) r all :: k, s⟩
  | some ⟨.sch dr id pu st all (.take _ n) :: k, _⟩, s => some ⟨.sch dr id pu st all n :: k, s⟩
  | some ⟨.sch dr id pu st all (.last _ n) :: k, _⟩, s => some ⟨.sch dr id pu st all n :: k, s⟩
  | _, _ => none
theorem wo (n : Nat) {s1 : St} (h : pnd X pu fn q = some s1) (k : let q' := stp X pu fn n (adv q s1); W X pu fn Q q') : W X pu fn Q q := by
  obtain ⟨c1, r, h1, h2, h3⟩ := W_stp k
  unfold pnd at h
  split at h
  · cases h1
    refine ⟨_, r, rfl, ?_, h3⟩
    rw [← h2]; simp only [fin, doF, evOps, h]
  · cases h1
    refine ⟨_, r, rfl, ?_, h3⟩
    rw [← h2]; simp only [fin, doF, evSch, h]
  · cases h1
    refine ⟨_, r, rfl, ?_, h3⟩
    rw [← h2]; simp only [fin, doF, evSch, h]
  · cases h
/-- a state told in other words -/
def stO (s : St) : Option Cf → Option Cf
  | some c => some ⟨c.k, s⟩
  | none => none
theorem wq {s : St} (h : sO q = s) (k : W X pu fn Q (stO s q)) : W X pu fn Q q := by
  cases q with
  | none => obtain ⟨_, _, h1, _⟩ := k; cases h1
  | some c => cases h; exact k
/-! calls -/
structure Ca where
  f : FuncId
  args : List TV
  own : Bool
  hm : Bool
  d : Option Tmp
  s : St
def callA (X : Cx) (pu : Pu) (h : Hint) (o : Oper) (s : St) : Option Ca := match o.op with
  | .call { callee := .value (.func f), args, argTypes } => match opnds X.P (argTypes.toList.zip args.toList) s with
    | some (vs, s1) => match mapO (passT (ownArgs vs)) vs with
      | some as => if (pu.ob && !X.leaves f) || h.fz then none else some ⟨f, as, ownArgs vs, h.frz, o.dst, s1⟩
      | none => none
    | none => none
  | _ => none
theorem callA_ok {call : CallF} {pu' : Pu} {h : Hint} {o : Oper} {s : St} {c : Ca} (hc : callA X pu' h o s = some c) : evOpZ X pu' call h o s = retF c.hm (X.leaves c.f) c.own c.d c.s (call c.f c.args c.s.h) := by
  unfold callA at hc
  split at hc
  · rename_i f args ats ho
    split at hc
    · rename_i vs s1 h1
      split at hc
      · rename_i as h2
        split at hc
        · cases hc
        · rename_i hn
          cases hc
          simp only [Bool.not_eq_true, Bool.or_eq_false_iff] at hn
          unfold evOpZ evOp
          rw [ho, hn.2]
          simp only [h1, callF0, h2, callF, hn.1, Bool.false_eq_true, if_false, fzO, cond_false]
      · cases hc
    · cases hc
  · cases hc
def curA (X : Cx) (pu : Pu) (fn : Nat) : Option Cf → Option Ca
  | some ⟨.ops id i (o :: _) all :: _, s⟩ => match wantA all s o.guard with
    | some true => callA X pu (X.hint fn id i) o s
    | _ => none
  | some ⟨.sch _ id pu' _ all (.last i _) :: _, s⟩ => match all[i]? with
    | some o => match wantA all s o.guard with
      | some true => callA X pu' (X.hint fn id i) o s
      | _ => none
    | none => none
  | _ => none
theorem curA_ok {c : Ca} (hc : curA X pu fn q = some c) : pnd X pu fn q = retF c.hm (X.leaves c.f) c.own c.d c.s (evS X c.f c.args c.s.h) := by
  unfold curA at hc
  split at hc
  · split at hc
    · rename_i hw
      simp only [pnd, hw, stepA]
      exact callA_ok hc
    · cases hc
  · split at hc
    · rename_i o ho
      split at hc
      · rename_i hw
        simp only [pnd, stepI, ho, hw, stepA]
        exact callA_ok hc
      · cases hc
    · cases hc
  · cases hc
def caW (c : Ca) : FuncId × List TV × Heap := (c.f, c.args, c.s.h)
def behindA (X : Cx) (v : TV) (H' : Heap) : Option Ca → St
  | some c => setT (afterCall (X.leaves c.f) c.own c.s H') c.d (frzIf c.hm v)
  | none => ⟨[], [], []⟩
theorem wc (n : Nat) {f : FuncId} {args : List TV} {H H' : Heap} {v : TV} (hc : evS X f args H = some (v, H')) (k : let q' := stp X pu fn n (adv q (behindA X v H' (curA X pu fn q))); W X pu fn Q q') (h : (curA X pu fn q).map caW = some (f, args, H) := by kernel_rfl) : W X pu fn Q q := by
  rw [Option.map_eq_some_iff] at h
  obtain ⟨c, h1, h2⟩ := h
  cases h2
  refine wo n ?_ k
  rw [curA_ok h1, hc, h1]; rfl
/-! the ends -/
def exitO : Option Cf → Option (Ex × St)
  | some ⟨[], s⟩ => some (.nrm, s)
  | some ⟨.code .ret :: _, s⟩ => some (.ret, s)
  | some ⟨.code (.exit id) :: k, s⟩ => match popTo id k with
    | none => some (.exit id, s)
    | some _ => none
  | _ => none
theorem W_exit {r : Ex × St} (h : exitO q = some r) (k : Q r) : W X pu fn Q q := by
  unfold exitO at h
  split at h
  · cases h; exact ⟨_, _, rfl, rfl, k⟩
  · cases h; exact ⟨_, _, rfl, fin_ret, k⟩
  · split at h
    · rename_i hp; cases h; exact ⟨_, _, rfl, fin_away hp, k⟩
    · cases h
  · cases h
def isRet : Ex → Bool
  | .exit _ => false
  | _ => true
def FinR (X : Cx) (f : Nat) (h : Heap) (rs : List ResultVar) (r : TV × Heap) (x : Ex × St) : Prop := isRet x.1 = true ∧ Fin X f h rs r x.2
def bodyC (fu : Func) : Code := match fu.body with
  | some c => c
  | none => .skip
def start (fu : Func) (args : List TV) (h : Heap) : Option Cf := some ⟨[.code (bodyC fu)], { t := number 0 args, l := [], h := h }⟩
theorem wf {f : FuncId} {args : List TV} {h : Heap} {r} {fu : Func} (hf : X.P.funcs[f]? = some fu) (b : Bool) (n : Nat) (hr : let q' := stp X ⟨b, []⟩ f n (start fu args h); W X ⟨b, []⟩ f (FinR X f h fu.results.toList r) q') (hc : fu.body = some (bodyC fu) := by kernel_rfl) (hok : okBody X f fu (bodyC fu) = true := by kernel_rfl) (hp : X.pure f = b := by kernel_rfl) (hct : isBody X f args = true := by kernel_rfl) : evS X f args h = some r := by
  refine w_fun hf hc hok b hp rfl ?_ hct
  obtain ⟨c1, ⟨e, t⟩, h1, h2, h3⟩ := W_stp hr
  cases h1
  have h2 : fin X ⟨b, []⟩ f [] (ev X ⟨b, []⟩ f (bodyC fu) { t := number 0 args, l := [], h := h }) = some (e, t) := h2
  have h2 : ev X ⟨b, []⟩ f (bodyC fu) { t := number 0 args, l := [], h := h } = some (e, t) := h2
  rw [h2]
  cases e with
  | ret => exact ⟨h3.2⟩
  | nrm => exact ⟨h3.2⟩
  | exit i => exact absurd h3.1 (by simp [isRet])
def resO (X : Cx) (rs : List ResultVar) : Option Cf → Option TV
  | some ⟨.code .ret :: _, s⟩ => results X.P rs s
  | some ⟨[], s⟩ => results X.P rs s
  | _ => none
theorem wrp {f : Nat} {h : Heap} {rs : List ResultVar} {v' : TV} (hv : (resO X rs q).map (frzIf (X.frz f)) = some v' := by kernel_rfl) (hp : X.pure f = true := by kernel_rfl) (hh : (sO q).h.length = h.length := by kernel_rfl) : W X pu fn (FinR X f h rs (v', h)) q := by
  rw [Option.map_eq_some_iff] at hv
  obtain ⟨v, h1, h2⟩ := hv
  unfold resO at h1
  split at h1
  · rename_i k s
    exact W_exit (r := (.ret, s)) rfl ⟨rfl, fin_pure h1 hp hh h2⟩
  · rename_i s
    exact W_exit (r := (.nrm, s)) rfl ⟨rfl, fin_pure h1 hp hh h2⟩
  · cases h1
theorem wri {f : Nat} {h H' : Heap} {rs : List ResultVar} {v' : TV} (hv : (resO X rs q).map (frzIf (X.frz f)) = some v' := by kernel_rfl) (hp : X.pure f = false := by kernel_rfl) (hh : (sO q).h = H' := by kernel_rfl) : W X pu fn (FinR X f h rs (v', H')) q := by
  rw [Option.map_eq_some_iff] at hv
  obtain ⟨v, h1, h2⟩ := hv
  subst hh
  unfold resO at h1
  split at h1
  · rename_i k s
    exact W_exit (r := (.ret, s)) rfl ⟨rfl, fin_imp h1 hp h2⟩
  · rename_i s
    exact W_exit (r := (.nrm, s)) rfl ⟨rfl, fin_imp h1 hp h2⟩
  · cases h1
/-- a function over no objects -/
def FinA (X : Cx) (f : Nat) (rs : List ResultVar) (v : TV) (x : Ex × St) : Prop := ∃ h', FinR X f [] rs (v, h') x
theorem wre {f : Nat} {rs : List ResultVar} {v' : TV} (hv : (resO X rs q).map (frzIf (X.frz f)) = some v' := by kernel_rfl) (hp : X.pure f = false := by kernel_rfl) : W X pu fn (FinA X f rs v') q := by
  obtain ⟨c, r, h1, h2, h3⟩ := wri (X := X) (pu := pu) (fn := fn) (q := q) (h := []) (H' := (sO q).h) hv hp rfl
  exact ⟨c, r, h1, h2, _, h3⟩
theorem wfA {f : FuncId} {args : List TV} {h : Heap} {v : TV} {fu : Func} (hf : X.P.funcs[f]? = some fu) (n : Nat) (hi : args.all aloneIn1 = true) (hr : let q' := stp X ⟨false, []⟩ f n (start fu args []); W X ⟨false, []⟩ f (FinA X f fu.results.toList v) q') (hc : fu.body = some (bodyC fu) := by kernel_rfl) (hok : okBody X f fu (bodyC fu) = true := by kernel_rfl) (hp : X.pure f = false := by kernel_rfl) (ho : v.all.all aloneC = true := by kernel_rfl) (hct : isAlone X f args = true := by kernel_rfl) : evS X f args h = some (v, h) := by
  obtain ⟨c1, ⟨e, t⟩, h1, h2, h', h3⟩ := W_stp hr
  cases h1
  have h2 : ev X ⟨false, []⟩ f (bodyC fu) { t := number 0 args, l := [], h := [] } = some (e, t) := h2
  refine evS_alone (h' := h') ?_ hi ho hct
  unfold evBody
  rw [hf]
  simp only [hc, hok, if_true]
  rw [hp, show evC X ⟨false, []⟩ (evS X) iterS f (bodyC fu) { t := number 0 args, l := [], h := [] } = some (e, t) from h2]
  have h4 := h3.2
  unfold Fin at h4
  rw [hp] at h4
  cases e with
  | ret => exact h4
  | nrm => exact h4
  | exit i => exact absurd h3.1 (by simp [isRet])
/-! a state told as a change of another one -/
def putAll {α : Type} : List (Nat × α) → List (Nat × α) → List (Nat × α)
  | [], l => l
  | (k, x) :: r, l => putAll r (put k x l)
def ut (ts : List (Nat × TV)) (dt : List Nat) (s : St) : St := { s with t := putAll ts (dropAll dt s.t) }
def up (ts : List (Nat × TV)) (dt : List Nat) (ls : List (Nat × List MC)) (dl : List Nat) (s : St) : St := { t := putAll ts (dropAll dt s.t), l := putAll ls (dropAll dl s.l), h := s.h }
def uh (H : Heap) (f : St → St) (s : St) : St := { f s with h := H }
def uf (s _ : St) : St := s
def wz (e : Ex) (f : St → St) (s : St) : Ex × St := (e, f s)
/-! where ways meet -/
def tlS (s : St) : Option Cf → Option Cf
  | some ⟨_ :: k, _⟩ => some ⟨k, s⟩
  | _ => none
def mkM : Option Cf → Option Cf
  | some ⟨f :: k, s⟩ => some ⟨f :: .mark :: k, s⟩
  | _ => none
theorem fin_mark {k : List Fr} {p : Option (Ex × St)} : fin X pu fn (.mark :: k) p = fin X pu fn k p := by
  cases p with
  | none => exact fin_none.symm
  | some p => obtain ⟨e, s⟩ := p; cases e <;> rfl
def Mt (X : Cx) (pu : Pu) (fn : Nat) (Q : Ex × St → Prop) {α β : Type} (C : α → St → St) (J : α → Option β) (r : β) (q : Option Cf) : Prop := ∀ x, J x = some r → W X pu fn Q (tlS (C x (sO q)) q)
theorem wj (n m : Nat) {α β : Type} (C : α → St → St) (J : α → Option β) (r : β) (h1 : ∀ x, J x = some r → let q' := stp X pu fn n (tlS (C x (sO q)) q); W X pu fn Q q') (h2 : Mt X pu fn Q C J r q → let q' := stp X pu fn m (mkM q); W X pu fn Q q') : W X pu fn Q q := by
  obtain ⟨c, r, e, h3, h4⟩ := W_stp (h2 fun x hx => W_stp (h1 x hx))
  unfold mkM at e
  split at e
  · rename_i f k s
    cases e
    refine ⟨_, r, rfl, ?_, h4⟩
    rw [← h3]
    simp only [fin]
    exact fin_mark.symm
  · cases e
def popM : Option Cf → Option Cf
  | some ⟨.mark :: k, s⟩ => some ⟨k, s⟩
  | _ => none
theorem we {α β : Type} {C : α → St → St} {J : α → Option β} {r : β} {q0 : Option Cf} (H : Mt X pu fn Q C J r q0) (x : α) (hx : J x = some r) (h : popM q = tlS (C x (sO q0)) q0 := by kernel_rfl) : W X pu fn Q q := by
  obtain ⟨c, r, e, h3, h4⟩ := H x hx
  rw [← h] at e
  unfold popM at e
  split at e
  · rename_i k s
    cases e
    exact ⟨_, r, rfl, by rw [← h3]; exact fin_mark, h4⟩
  · cases e
theorem we2 {α0 α1 β : Type} {C : α0 × α1 → St → St} {J : α0 → α1 → Option β} {r : β} {q0 : Option Cf} (H : Mt X pu fn Q C (tup2 J) r q0) (x0 : α0) (x1 : α1) (hx : J x0 x1 = some r) (h : popM q = tlS (C (x0, x1) (sO q0)) q0 := by kernel_rfl) : W X pu fn Q q := we H (x0, x1) hx h
/-! a stretch by itself: it comes to a state that is told -/
def isS (s : St) (x : Ex × St) : Prop := x = (.nrm, s)
def isC {α : Type} (C : α → St → St) (s : St) (y : α) (x : Ex × St) : Prop := x = (.nrm, C y s)
def hdF : Option Cf → Option Cf
  | some ⟨f :: _, s⟩ => some ⟨[f], s⟩
  | _ => none
theorem wr0' {s1 : St} (h1 : W X pu fn (isS s1) (hdF q)) (k : W X pu fn Q (tlS s1 q)) : W X pu fn Q q := by
  obtain ⟨c, r, e, h3, h4⟩ := h1
  unfold hdF at e
  split at e
  · rename_i f k' s
    cases e
    cases h4
    obtain ⟨c1, r1, e1, h5, h6⟩ := k
    cases e1
    refine ⟨_, r1, rfl, ?_, h6⟩
    rw [← h5]
    simp only [fin] at h3 ⊢
    rw [h3]
  · cases e
theorem wr0 (n : Nat) (C : St → St) (h1 : let q' := hdF q; W X pu fn (isS (C (sO q))) q') (k : let q' := stp X pu fn n (tlS (C (sO q)) q); W X pu fn Q q') : W X pu fn Q q := wr0' h1 (W_stp k)
theorem wr (n : Nat) {α : Type} (C : α → St → St) (y : α) (h1 : let q' := hdF q; W X pu fn (isC C (sO q) y) q') (k : let q' := stp X pu fn n (tlS (C y (sO q)) q); W X pu fn Q q') : W X pu fn Q q := wr0' h1 (W_stp k)
theorem wl {α : Type} {C : α → St → St} {s : St} {y : α} (x : α) (hx : x = y) (h : exitO q = some (.nrm, C x s) := by kernel_rfl) : W X pu fn (isC C s y) q := by
  subst hx; exact W_exit h rfl
theorem wl0 {s : St} (h : exitO q = some (.nrm, s) := by kernel_rfl) : W X pu fn (isS s) q := W_exit h rfl
/-- slots that hold one unknown bool -/
def putBs (b : Bool) : List Nat → List (Nat × TV) → List (Nat × TV)
  | [], l => l
  | t :: ts, l => putBs b ts (put t (vb b) l)
def setBs (ts : List Nat) (b : Bool) : Option Cf → Option Cf
  | some c => some ⟨c.k, { c.s with t := putBs b ts c.s.t }⟩
  | none => none
theorem wb (ts : List Nat) (b : Bool) (n m : Nat) (kT : b = true → let q' := stp X pu fn n (setBs ts true q); W X pu fn Q q') (kF : b = false → let q' := stp X pu fn m (setBs ts false q); W X pu fn Q q') (h : setBs ts b q = q := by kernel_rfl) : W X pu fn Q q := by
  rw [← h]
  cases b with
  | true => exact W_stp (kT rfl)
  | false => exact W_stp (kF rfl)
theorem wg (ts : List Nat) (n m : Nat) {α : Type} {b : Bool} {u v : Option α} {r : α} (hF : (if b = true then u else v) = some r) (kT : b = true → u = some r → let q' := stp X pu fn n (setBs ts true q); W X pu fn Q q') (kF : b = false → v = some r → let q' := stp X pu fn m (setBs ts false q); W X pu fn Q q') (h : setBs ts b q = q := by kernel_rfl) : W X pu fn Q q := by
  rw [← h]
  cases b with
  | true => exact W_stp (kT rfl hF)
  | false => exact W_stp (kF rfl hF)
/-! orders that part -/
def rawF : Option Cf → Option Cf
  | some ⟨.sch _ id pu st all n :: _, s⟩ => some ⟨[.sch false id pu st all n], s⟩
  | _ => none
def tlD (X : Cx) (fn : Nat) (s : St) : Option Cf → Option Cf
  | some ⟨.sch dr id _ _ _ _ :: k, _⟩ => some ⟨k, s.drop (bif dr then X.dead fn id else ([], []))⟩
  | _ => none
theorem drop_nil (s : St) : s.drop ([], []) = s := rfl
theorem wA (n : Nat) (C : St → St) (h1 : let q' := rawF q; W X pu fn (isS (C (sO q))) q') (k : let q' := stp X pu fn n (tlD X fn (C (sO q)) q); W X pu fn Q q') : W X pu fn Q q := by
  replace k := W_stp k
  generalize C (sO q) = S at h1 k
  obtain ⟨c, r, e, h3, h4⟩ := h1
  unfold rawF at e
  split at e
  · rename_i dr id pu' st all sc k' s
    cases e
    cases h4
    obtain ⟨c1, r1, e1, h5, h6⟩ := k
    cases e1
    refine ⟨_, r1, rfl, ?_, h6⟩
    rw [← h5]
    simp only [fin, doF] at h3 ⊢
    cases hs : evSch X pu' st (evS X) fn id all sc (some s) with
    | none => rw [hs] at h3; cases h3
    | some s1 =>
      rw [hs] at h3
      simp only [cond_false, endR, drop_nil, Option.some.injEq, Prod.mk.injEq, true_and] at h3
      subst h3; rfl
  · cases e
def altL : Option Cf → Option Cf
  | some ⟨[.sch false id pu st all (.alt i n _)], s⟩ => some ⟨[.sch false id pu st all (.last i n)], s⟩
  | _ => none
def altR : Option Cf → Option Cf
  | some ⟨[.sch false id pu st all (.alt _ _ r)], s⟩ => some ⟨[.sch false id pu st all r], s⟩
  | _ => none
theorem walt {S : St} (h1 : let q' := altL q; W X pu fn (isS S) q') (h2 : let q' := altR q; W X pu fn (isS S) q') : W X pu fn (isS S) q := by
  obtain ⟨c, r, e, h3, h4⟩ := h1
  unfold altL at e
  split at e
  · rename_i id pu' st all i n r' s
    cases e
    cases h4
    obtain ⟨c1, r1, e1, h5, h6⟩ := h2
    cases e1
    cases h6
    refine ⟨_, _, rfl, ?_, rfl⟩
    simp only [fin, doF, evSch, cond_false] at h3 h5 ⊢
    have key : ∀ {p : Option St}, endR ([], []) p = some (.nrm, S) → p = some S := fun {p} h => by
      cases p with
      | none => cases h
      | some t => simp only [endR, drop_nil, Option.some.injEq, Prod.mk.injEq, true_and] at h; rw [h]
    rw [key h3, key h5, agree_same]; rfl
  · cases e
/-! loops -/
def loopC : Option Cf → Option Cf
  | some ⟨.code (.loop c) :: _, s⟩ => some ⟨[.code c], s⟩
  | _ => none
def loopE (r : Ex × St) : Option Cf → Option Cf
  | some ⟨_ :: k, _⟩ => match r with
    | (.exit i, s) => some ⟨.code (.exit i) :: k, s⟩
    | (.ret, s) => some ⟨.code .ret :: k, s⟩
    | (.nrm, _) => none
  | _ => none
def lpQ {σ ρ : Type} (C : σ → St → St) (out : ρ → St → Ex × St) (s0 : St) : σ ⊕ ρ → Ex × St → Prop
  | .inl x, r => r = (.nrm, C x s0)
  | .inr y, r => r = out y s0 ∧ r.1 ≠ .nrm
theorem wL {σ ρ : Type} (C : σ → St → St) (out : ρ → St → Ex × St) {f : σ → Option (σ ⊕ ρ)} {x0 : σ} {r : ρ} (hl : loopO f x0 = some r) (hb : ∀ x o, f x = some o → let q' := stO (C x (sO q)) (loopC q); W X pu fn (lpQ C out (sO q) o) q') (k : let q' := loopE (out r (sO q)) q; W X pu fn Q q') (hs : sO q = C x0 (sO q) := by kernel_rfl) : W X pu fn Q q := by
  generalize hS : sO q = S at hb k hs
  obtain ⟨c1, r1, e1, h5, h6⟩ := k
  unfold loopE at e1
  split at e1
  · rename_i f0 k0 s0
    have hc : ∃ c, f0 = .code (.loop c) := by
      obtain ⟨j, hj⟩ := loopO_inv hl
      cases j with
      | zero => cases hj
      | succ j =>
        cases hf : f x0 with
        | none => simp only [loopK, hf] at hj; cases hj
        | some o =>
          obtain ⟨c, r', e, _, _⟩ := hb x0 o hf
          cases f0 with
          | code c => cases c <;> first | exact ⟨_, rfl⟩ | (simp only [loopC, stO] at e; cases e)
          | _ => simp only [loopC, stO] at e; cases e
    obtain ⟨c, rfl⟩ := hc
    have hS : s0 = S := hS
    subst hS
    obtain ⟨j, hj⟩ := loopO_inv hl
    have main : ∀ j x, loopK f j x = some r → iterS (ev X pu fn c) (C x s0) = some (out r s0) := by
      intro j
      induction j with
      | zero => intro x h; cases h
      | succ j ih =>
        intro x h
        simp only [loopK] at h
        split at h
        · rename_i x' hx
          obtain ⟨c', r', e', h7, h8⟩ := hb x _ hx
          cases e'
          have h7 : ev X pu fn c (C x s0) = some r' := h7
          cases h8
          exact iterS_nrm h7 (ih x' h)
        · rename_i y hx
          cases h
          obtain ⟨c', r', e', h7, h8⟩ := hb x _ hx
          cases e'
          have h7 : ev X pu fn c (C x s0) = some r' := h7
          obtain ⟨h8, h9⟩ := h8
          subst h8
          exact iterS_out h7 h9
        · cases h
    have hm := main j x0 hj
    have h9 : fin X pu fn (.code (.loop c) :: k0) (some (.nrm, s0)) = fin X pu fn k0 (some (out r s0)) := by
      simp only [fin, doF, ev, evC]
      rw [← hs] at hm
      exact congrArg (fin X pu fn k0) hm
    refine ⟨_, r1, rfl, ?_, h6⟩
    rw [h9, ← h5]
    generalize out r s0 = p at e1
    obtain ⟨e, s⟩ := p
    cases e with
    | nrm => cases e1
    | exit i => cases e1; rfl
    | ret => cases e1; rfl
  · cases e1
theorem wln {σ ρ : Type} {C : σ → St → St} {out : ρ → St → Ex × St} {s0 : St} {o : σ ⊕ ρ} (x : σ) (ho : some (Sum.inl x) = some o) (h : exitO q = some (.nrm, C x s0) := by kernel_rfl) : W X pu fn (lpQ C out s0 o) q := by
  cases ho; exact W_exit h rfl
def isNrm : Ex → Bool
  | .nrm => true
  | _ => false
theorem wlx {σ ρ : Type} {C : σ → St → St} {out : ρ → St → Ex × St} {s0 : St} {o : σ ⊕ ρ} (y : ρ) (ho : some (Sum.inr y) = some o) (h : exitO q = some (out y s0) := by kernel_rfl) (hn : isNrm (out y s0).1 = false := by kernel_rfl) : W X pu fn (lpQ C out s0 o) q := by
  cases ho; exact W_exit h ⟨rfl, fun e => by rw [e] at hn; cases hn⟩
end
end Go.Proofs.Abs
/- One operation each, told by what the printed function asks. -/
namespace Go.Proofs.Abs
open Go
set_option linter.unusedVariables false
set_option linter.unusedSimpArgs false

def op0 : Oper := { dst := none, op := .move (.tmp 0), type := 0, pos := "", after := #[], guard := none }
def opAt (l : List Oper) (i : Nat) : Oper := match l[i]? with
  | some o => o
  | none => op0
def opO : Option Cf → Oper
  | some ⟨.ops _ _ (o :: _) _ :: _, _⟩ => o
  | some ⟨.sch _ _ _ _ all (.take i _) :: _, _⟩ => opAt all i
  | some ⟨.sch _ _ _ _ all (.last i _) :: _, _⟩ => opAt all i
  | _ => op0
def dO (q : Option Cf) : Option Tmp := (opO q).dst
def puO (pu : Pu) : Option Cf → Pu
  | some ⟨.sch _ _ pu' _ _ _ :: _, _⟩ => pu'
  | _ => pu
def tyOf : List TypeId → Nat → TypeId
  | [], _ => 0
  | t :: _, 0 => t
  | _ :: r, n + 1 => tyOf r n
/-- an operation's type, and that of its second argument -/
def tOp : Op → TypeId
  | .load t _ => t
  | .store t _ _ => t
  | .indexAddr t _ _ => t
  | .index t _ _ => t
  | .slice t _ _ _ _ => t
  | .makeSlice t _ _ => t
  | .binOp _ t _ _ _ => t
  | .call c => tyOf c.argTypes.toList 0
  | _ => 0
def tO (q : Option Cf) : TypeId := tOp (opO q).op
def uO (q : Option Cf) : TypeId := match (opO q).op with
  | .call c => tyOf c.argTypes.toList 1
  | _ => 0
def elT : Option TypeDesc → TypeId
  | some (.slice e) => e
  | some (.array _ e) => e
  | _ => 0
def eT (P : Program) (t : TypeId) : TypeId := elT (P.underlying t)
def mdV : Option TV → Md
  | some (.one m _) => m
  | _ => .top
def szV : Option TV → Nat
  | some (.one _ (.sl z _)) => z
  | _ => 0
def kV : Option TV → IntKind
  | some (.one _ (.int k _)) => k
  | _ => .i64
def dpM : Md → Nat
  | .own (n + 1) => n
  | _ => 0
def mdC : List MC → Md
  | c :: _ => c.1
  | [] => .top
def szC : List MC → Nat
  | (_, .sl z _) :: _ => z
  | _ => 0
def szT (P : Program) (t : TypeId) : Nat := match szOf P t with
  | some n => n
  | none => 0
def agT (P : Program) (t : TypeId) : Bool := match isAggT P t with
  | some b => b
  | none => false
def zrT (P : Program) (t : TypeId) : List MC := match zeroOf P t with
  | some z => z
  | none => []
def mkTV (agg : Bool) (cs : List MC) : TV := match mkT agg cs with
  | some v => v
  | none => .tup []
/-- the first operand's value, and the second one's -/
def xO (P : Program) (q : Option Cf) : Option TV := match (opO q).op with
  | .load _ a => opnd P (sO q) 0 a
  | .indexAddr t x _ => opnd P (sO q) t x
  | .slice t x _ _ _ => opnd P (sO q) t x
  | .makeSlice _ l _ => opnd P (sO q) 0 l
  | .nilCheck x => opnd P (sO q) 0 x
  | .index t x _ => opnd P (sO q) t x
  | _ => none
def yO (P : Program) (q : Option Cf) : Option TV := match (opO q).op with
  | .makeSlice _ _ c => opnd P (sO q) 0 c
  | .index _ _ i => opnd P (sO q) 0 i
  | _ => none
/-- a builtin's arguments, and the state behind them -/
def vsO (P : Program) (q : Option Cf) : Option (List TV × St) := match (opO q).op with
  | .call c => opnds P (c.argTypes.toList.zip c.args.toList) (sO q)
  | _ => none
def v1 : Option (List TV × St) → Option TV
  | some (v :: _, _) => some v
  | _ => none
def v2 : Option (List TV × St) → Option TV
  | some (_ :: v :: _, _) => some v
  | _ => none
def s2O (P : Program) (q : Option Cf) : St := match vsO P q with
  | some (_, s) => s
  | none => sO q
/-- what is stored -/
def stV (P : Program) (q : Option Cf) : TV := match (opO q).op with
  | .store t _ x => match opnd P (sO q) t x with
    | some v => v
    | none => .tup []
  | _ => .tup []
/-- the state behind a slice expression's, or a store's, operand -/
def usO (q : Option Cf) : St := match (opO q).op with
  | .slice _ x _ _ _ => used (sO q) x
  | .store _ _ x => used (sO q) x
  | _ => sO q
def loO (q : Option Cf) : Option Operand := match (opO q).op with
  | .slice _ _ l _ _ => l
  | _ => none
def hiO (q : Option Cf) : Option Operand := match (opO q).op with
  | .slice _ _ _ h _ => h
  | _ => none
def bndV (P : Program) (s : St) (d : Int) : Option Operand → Option Int
  | none => some d
  | some x => (opnd P s 0 x).bind natOf
theorem bndIs_of {P : Program} {s : St} {d : Nat} {o : Option Operand} {n : Int} (h : bndV P s d o = some n) : bndIs P s d o n := by
  cases o with
  | none => cases h; rfl
  | some x => exact h

section
variable {X : Cx} {pu : Pu} {fn : Nat} {Q : Ex × St → Prop} {q : Option Cf} {α : Type}
theorem wix (nn : Nat) {xs : List α} {i : Int} {x : α} (hx : gi xs i = some x) (En : α → List AV) (k : let q' := stp X pu fn nn (adv q (setT (sO q) (dO q) (.one .top (.rd (mdV (xO X.P q)).cp (mdV (xO X.P q)).inner.cp (En x) 0)))); W X pu fn Q q')
    (hr : pnd X pu fn q = setO (sO q) (dO q) (evIndexAddr X.P (sO q) (tO q) (.one (mdV (xO X.P q)) (.sl (szV (xO X.P q)) (xs.map En))) i) := by kernel_rfl) (ht : X.P.underlying (tO q) = some (.slice (eT X.P (tO q))) := by kernel_rfl) (hz : szOf X.P (eT X.P (tO q)) = some (szV (xO X.P q)) := by kernel_rfl) : W X pu fn Q q :=
  wo nn (st_ix (sO q) _ _ _ hx En _ (dO q) hr ht hz rfl) k
theorem wle (nn : Nat) (xs : List α) (En : α → List AV) (k : let q' := stp X pu fn nn (adv q (setT (sO q) (dO q) (.one .top (.int .i64 (xs.length : Nat))))); W X pu fn Q q') (hr : pnd X pu fn q = some (setT (sO q) (dO q) (.one .top (.int .i64 ((xs.map En).length : Nat)))) := by kernel_rfl) : W X pu fn Q q :=
  wo nn (st_len (sO q) xs En (dO q) hr rfl) k
section
variable {zb : Nat} {xs ys zs : List α}
theorem wap0 (nn : Nat) (hx : app zb xs ys = some zs) (En : α → List AV) (dp : Nat) (hd : depthIn (mdV (v2 (vsO X.P q))) (ys.map En) = some dp) (k : let q' := stp X pu fn nn (adv q (setT (s2O X.P q) (dO q) (.one (.own (min (dpM (mdV (v1 (vsO X.P q)))) dp + 1)) (.sl (szV (v1 (vsO X.P q))) (zs.map En))))); W X pu fn Q q')
    (hr : pnd X pu fn q = setQ (dO q) (fstO (s2O X.P q) (evAppend X.P (tO q) (uO q) [.one (.own (dpM (mdV (v1 (vsO X.P q))) + 1)) (.sl (szV (v1 (vsO X.P q))) (xs.map En)), .one (mdV (v2 (vsO X.P q))) (.sl (szV (v1 (vsO X.P q))) (ys.map En))])))
    (ht : X.P.underlying (tO q) = some (.slice (eT X.P (tO q)))) (hz : zeroOf X.P (eT X.P (tO q)) = some (zrT X.P (eT X.P (tO q)))) (hb : byOf X.P (eT X.P (tO q)) = some zb) (hl : szV (v1 (vsO X.P q)) = (zrT X.P (eT X.P (tO q))).length) (h0 : Nat.beq (szV (v1 (vsO X.P q))) 0 = false) (hb0 : Nat.beq zb 0 = false) (hbt : isSliceT X.P (uO q) = true) (hlen : ∀ x, (En x).length = szV (v1 (vsO X.P q))) : W X pu fn Q q :=
  wo nn (st_app (s2O X.P q) zb hx _ _ _ _ _ _ _ En dp (dO q) hr ht hz hb hl h0 hb0 hbt hd hlen rfl) k
theorem wap (nn : Nat) (hx : app zb xs ys = some zs) (En : α → List AV) (k : let q' := stp X pu fn nn (adv q (setT (s2O X.P q) (dO q) (.one (.own (min (dpM (mdV (v1 (vsO X.P q)))) (dpM (mdV (v2 (vsO X.P q)))) + 1)) (.sl (szV (v1 (vsO X.P q))) (zs.map En))))); W X pu fn Q q')
    (hr : pnd X pu fn q = setQ (dO q) (fstO (s2O X.P q) (evAppend X.P (tO q) (uO q) [.one (.own (dpM (mdV (v1 (vsO X.P q))) + 1)) (.sl (szV (v1 (vsO X.P q))) (xs.map En)), .one (mdV (v2 (vsO X.P q))) (.sl (szV (v1 (vsO X.P q))) (ys.map En))])) := by kernel_rfl) (hd : depthIn (mdV (v2 (vsO X.P q))) (ys.map En) = some (dpM (mdV (v2 (vsO X.P q)))) := by kernel_rfl)
    (ht : X.P.underlying (tO q) = some (.slice (eT X.P (tO q))) := by kernel_rfl) (hz : zeroOf X.P (eT X.P (tO q)) = some (zrT X.P (eT X.P (tO q))) := by kernel_rfl) (hb : byOf X.P (eT X.P (tO q)) = some zb := by kernel_rfl) (hl : szV (v1 (vsO X.P q)) = (zrT X.P (eT X.P (tO q))).length := by kernel_rfl) (h0 : Nat.beq (szV (v1 (vsO X.P q))) 0 = false := by kernel_rfl) (hb0 : Nat.beq zb 0 = false := by kernel_rfl) (hbt : isSliceT X.P (uO q) = true := by kernel_rfl) (hlen : ∀ x, (En x).length = szV (v1 (vsO X.P q)) := by intro _; kernel_rfl) : W X pu fn Q q :=
  wap0 nn hx En _ hd k hr ht hz hb hl h0 hb0 hbt hlen
def ownM : Md → Bool
  | .own _ => true
  | _ => false
/-- elements without slices may be another's -/
theorem waf (nn : Nat) (hx : app zb xs ys = some zs) (En : α → List AV) (k : let q' := stp X pu fn nn (adv q (setT (s2O X.P q) (dO q) (.one (.own (min (dpM (mdV (v1 (vsO X.P q)))) 9 + 1)) (.sl (szV (v1 (vsO X.P q))) (zs.map En))))); W X pu fn Q q')
    (hr : pnd X pu fn q = setQ (dO q) (fstO (s2O X.P q) (evAppend X.P (tO q) (uO q) [.one (.own (dpM (mdV (v1 (vsO X.P q))) + 1)) (.sl (szV (v1 (vsO X.P q))) (xs.map En)), .one (mdV (v2 (vsO X.P q))) (.sl (szV (v1 (vsO X.P q))) (ys.map En))])) := by kernel_rfl) (hm : ownM (mdV (v2 (vsO X.P q))) = false := by kernel_rfl) (hf : ∀ x, (En x).all (fun a => a.scalar) = true := by intro _; kernel_rfl)
    (ht : X.P.underlying (tO q) = some (.slice (eT X.P (tO q))) := by kernel_rfl) (hz : zeroOf X.P (eT X.P (tO q)) = some (zrT X.P (eT X.P (tO q))) := by kernel_rfl) (hb : byOf X.P (eT X.P (tO q)) = some zb := by kernel_rfl) (hl : szV (v1 (vsO X.P q)) = (zrT X.P (eT X.P (tO q))).length := by kernel_rfl) (h0 : Nat.beq (szV (v1 (vsO X.P q))) 0 = false := by kernel_rfl) (hb0 : Nat.beq zb 0 = false := by kernel_rfl) (hbt : isSliceT X.P (uO q) = true := by kernel_rfl) (hlen : ∀ x, (En x).length = szV (v1 (vsO X.P q)) := by intro _; kernel_rfl) : W X pu fn Q q :=
  wap0 nn hx En 9 (by
    generalize mdV (v2 (vsO X.P q)) = m at hm
    have hfl : flatEls (ys.map En) = true := by simp only [flatEls, List.all_eq_true, List.mem_map]; rintro _ ⟨x, _, rfl⟩; exact List.all_eq_true.1 (hf x)
    cases m <;> first | (simp [ownM] at hm; done) | (simp [depthIn, hfl])) k hr ht hz hb hl h0 hb0 hbt hlen
end
/-! numbers -/
theorem wbi (nn : Nat) {p : Option Int} {n : Int} (hq : p = some n) (kd : IntKind) {Z : Option TV} (hw : Z = p.map fun n => .one .top (.int kd n)) (k : let q' := stp X pu fn nn (adv q (setT (sO q) (dO q) (.one .top (.int kd n)))); W X pu fn Q q') (hr : pnd X pu fn q = setO (sO q) (dO q) Z := by kernel_rfl) : W X pu fn Q q :=
  wo nn (st_binI (sO q) kd hq hw (dO q) hr rfl) k
theorem wlp {H : Heap} {j o N : Nat} {cs : List MC} (nn : Nat) (V : hget H j o N = some cs) (kk : Nat) (xs : List α) (En : α → List AV) (k : let q' := stp X pu fn nn (adv q (setT (sO q) (dO q) (.one .top (.at_ (.obj j (o + kk)) 0 (xs.map En).length)))); W X pu fn Q q')
    (hH : (sO q).h = H := by kernel_rfl) (hr : pnd X pu fn q = setQ (dO q) (evLoad X.P .place (tO q) (.ptr (.at j (o + kk))) (sO q)) := by kernel_rfl) (hT : isAggT X.P (tO q) = some false := by kernel_rfl) (hn : szOf X.P (tO q) = some 1 := by kernel_rfl) (hk : Nat.ble (kk + 1) N = true := by kernel_rfl) (hc : (cs.drop kk).take 1 = [(.own (dpM (mdC (cs.drop kk)) + 1), .sl (szC (cs.drop kk)) (xs.map En))] := by kernel_rfl) : W X pu fn Q q :=
  wo nn (st_ldP (sO q) _ (by rw [hH]; exact V) kk _ _ _ (dO q) hr hT hn hk hc rfl) k
def eqV (e : Bool) : Op → Bool
  | .binOp .eql _ _ _ _ => e
  | _ => !e
theorem wpe (nn : Nat) {p r : Ptr} {e : Bool} (he : peq p r = some e) (k : let q' := stp X pu fn nn (adv q (setT (sO q) (dO q) (.one .top (.bool (eqV e (opO q).op))))); W X pu fn Q q') (hr : pnd X pu fn q = setO (sO q) (dO q) (ptrEqO X.P (match (opO q).op with | .binOp o _ _ _ _ => o | _ => .add) (tO q) (peq p r)) := by kernel_rfl) (hb : ptrEqO X.P (match (opO q).op with | .binOp o _ _ _ _ => o | _ => .add) (tO q) (some e) = some (.one .top (.bool (eqV e (opO q).op))) := by kernel_rfl) : W X pu fn Q q :=
  wo nn (by rw [hr, he, hb]; rfl) k
/-- a pointer that is none, or one -/
theorem wnp (nn : Nat) {p : Ptr} {i o : Nat} (hp : p = .at i o) (k : let q' := stp X pu fn nn (adv q (setT (sO q) (dO q) (.one .top (.ptr (.at i o))))); W X pu fn Q q') (hr : pnd X pu fn q = setO (sO q) (dO q) (nilF (some (.one (mdV (xO X.P q)) (.ptr p)))) := by kernel_rfl) : W X pu fn Q q :=
  wo nn (by rw [hr, hp]; rfl) k
/-! objects -/
theorem hs0 {H : Heap} {i o N k : Nat} {cs b : List MC} (V : hget H i o N = some cs) (h : Nat.ble (k + b.length) N = true := by kernel_rfl) : hset H i (o + k) b = hset H i o (setAt cs k b) := hset_sub0 V (Nat.le_of_ble_eq_true h)
theorem hs1 {H : Heap} {i o N k : Nat} {cs new b : List MC} (V : hget H i o N = some cs) (hc : new.length = N := by kernel_rfl) (h : Nat.ble (k + b.length) N = true := by kernel_rfl) : hset (hset H i o new) i (o + k) b = hset H i o (setAt new k b) := hset_sub V hc (Nat.le_of_ble_eq_true h)
def hpS (H : Heap) : Option Cf → Option Cf
  | some c => some ⟨c.k, { c.s with h := H }⟩
  | none => none
theorem wh (nn : Nat) {H H1 : Heap} (e : H = H1) (k : let q' := stp X pu fn nn (hpS H1 q); W X pu fn Q q') (h : (sO q).h = H := by kernel_rfl) : W X pu fn Q q := by
  refine wq (s := { sO q with h := H1 }) (by rw [← e, ← h]) ?_
  have k := W_stp k
  cases q with
  | none => obtain ⟨_, _, h1, _⟩ := k; cases h1
  | some c => exact k
def stN (d i : Nat) (H : Heap) : Option St → St
  | some s => { t := put d (.one .top (.ptr (.at i 0))) s.t, l := s.l, h := H }
  | none => ⟨[], [], []⟩
section
variable {H h2 : Heap} {j o N : Nat} {cs : List MC}
theorem wld (nn : Nat) (V : hget H j o N = some cs) (kk : Nat) (k : let q' := stp X pu fn nn (adv q (setT (sO q) (dO q) (mkTV (agT X.P (tO q)) (((cs.drop kk).take (szT X.P (tO q))).map fun c => (c.1.cpH, c.2))))); W X pu fn Q q')
    (hH : (sO q).h = H := by kernel_rfl) (hr : pnd X pu fn q = setQ (dO q) (evLoad X.P .cp (tO q) (.ptr (.at j (o + kk))) (sO q)) := by kernel_rfl) (hT : isAggT X.P (tO q) = some (agT X.P (tO q)) := by kernel_rfl) (hn : szOf X.P (tO q) = some (szT X.P (tO q)) := by kernel_rfl) (hk : Nat.ble (kk + szT X.P (tO q)) N = true := by kernel_rfl) (hv : mkT (agT X.P (tO q)) (((cs.drop kk).take (szT X.P (tO q))).map fun c => (c.1.cpH, c.2)) = some (mkTV (agT X.P (tO q)) (((cs.drop kk).take (szT X.P (tO q))).map fun c => (c.1.cpH, c.2))) := by kernel_rfl) : W X pu fn Q q :=
  wo nn (st_ld (sO q) _ (by rw [hH]; exact V) kk _ _ _ (dO q) hr hT hn hk hv rfl) k
theorem wlt (nn : Nat) (V : hget H j o N = some cs) (kk : Nat) (hh : hset H j (o + kk) (((cs.drop kk).take (szT X.P (tO q))).map leaveC) = h2) (k : let q' := stp X pu fn nn (adv q (setT ({ sO q with h := h2 }.kill isBh noAV) (dO q) (mkTV (agT X.P (tO q)) ((cs.drop kk).take (szT X.P (tO q)))))); W X pu fn Q q')
    (hH : (sO q).h = H := by kernel_rfl) (hr : pnd X pu fn q = setQ (dO q) (evLoad X.P .take (tO q) (.ptr (.at j (o + kk))) (sO q)) := by kernel_rfl) (hT : isAggT X.P (tO q) = some (agT X.P (tO q)) := by kernel_rfl) (hn : szOf X.P (tO q) = some (szT X.P (tO q)) := by kernel_rfl) (hk : Nat.ble (kk + szT X.P (tO q)) N = true := by kernel_rfl) (hv : mkT (agT X.P (tO q)) ((cs.drop kk).take (szT X.P (tO q))) = some (mkTV (agT X.P (tO q)) ((cs.drop kk).take (szT X.P (tO q)))) := by kernel_rfl) : W X pu fn Q q :=
  wo nn (st_ldT (sO q) _ (by rw [hH]; exact V) kk _ _ _ (dO q) hr hT hn hk hv (by rw [hH]; exact hh) rfl) k
theorem wst (nn : Nat) (V : hget H j o N = some cs) (kk : Nat) (hh : hset H j (o + kk) (stV X.P q).cells = h2) (k : let q' := stp X pu fn nn (adv q (stKill j (o + kk) (stV X.P q).cells ((cs.drop kk).take (szT X.P (tO q))) { usO q with h := h2 })); W X pu fn Q q')
    (hH : (usO q).h = H := by kernel_rfl) (hr : pnd X pu fn q = evStore X.P ⟨false, (puO pu q).lc⟩ (tO q) (.ptr (.at j (o + kk))) (stV X.P q) (usO q) := by kernel_rfl) (hn : szOf X.P (tO q) = some (szT X.P (tO q)) := by kernel_rfl) (hk : Nat.ble (kk + szT X.P (tO q)) N = true := by kernel_rfl) (hl : (stV X.P q).cells.length = szT X.P (tO q) := by kernel_rfl) (hv : noTup (stV X.P q) = true := by kernel_rfl) (hkp : (stV X.P q).cells.all keepC = true := by kernel_rfl) : W X pu fn Q q :=
  wo nn (st_st (usO q) _ (by rw [hH]; exact V) kk _ _ hr hn hk hl hv hkp (by rw [hH]; exact hh) rfl) k
/-- an object that is new: slot d leads to it -/
theorem wal (nn : Nat) {i : Nat} {d : Nat} {z : List MC} (hb : H.length = i) (ha : H ++ [z] = h2) (k : let q' := stp X pu fn nn (adv q (stN d i h2 (pnd X pu fn q))); W X pu fn Q q') (h : (pnd X pu fn q).map (stN d H.length (H ++ [z]) ∘ some) = pnd X pu fn q := by kernel_rfl) (hs : (pnd X pu fn q).isSome = true := by kernel_rfl) : W X pu fn Q q := by
  subst hb ha
  cases hp : pnd X pu fn q with
  | none => rw [hp] at hs; cases hs
  | some s1 =>
    rw [hp] at h k
    simp only [Option.map_some, Function.comp_apply, Option.some.injEq] at h
    rw [h] at k
    exact wo nn hp k
end
/-! elements of a slice that stands in a slot, or in a box -/
def rtD (s : St) (r : Rt) : Nat := match atRoot s r with
  | some (.own (n + 1), _) => n
  | _ => 0
def rtZ (s : St) (r : Rt) : Nat := match atRoot s r with
  | some (_, .sl z _) => z
  | _ => 0
theorem wxA (nn : Nat) (r : Rt) {xs : List α} {i : Int} {x : α} (hx : gi xs i = some x) (En : α → List AV) {len : Nat} (hlen : len = xs.length) (k : let q' := stp X pu fn nn (adv q (setT (sO q) (dO q) (.one .top (.el r i.toNat 0)))); W X pu fn Q q')
    (hat : atRoot (sO q) r = some (.own (rtD (sO q) r + 1), .sl (rtZ (sO q) r) (xs.map En)) := by kernel_rfl) (hr : pnd X pu fn q = setO (sO q) (dO q) (evIndexAddr X.P (sO q) (tO q) (.one .top (.at_ r 0 len)) i) := by kernel_rfl) (ht : X.P.underlying (tO q) = some (.slice (eT X.P (tO q))) := by kernel_rfl) (hz : szOf X.P (eT X.P (tO q)) = some (rtZ (sO q) r) := by kernel_rfl) : W X pu fn Q q :=
  wo nn (st_ixA (sO q) _ _ _ hx En r 0 len _ (dO q) hr ht hz hat rfl hlen rfl) k
theorem wsE (nn : Nat) (r : Rt) (off : Nat) {xs ys : List α} {i : Int} {x x' : α} (hx : gi xs i = some x) (hy : si xs i x' = some ys) (En : α → List AV) (k : let q' := stp X pu fn nn (adv q (killEl r (anyOwned (stV X.P q).cells) (setRoot (usO q) r (.own (rtD (usO q) r + 1), .sl (rtZ (usO q) r) (ys.map En))))); W X pu fn Q q')
    (hr : pnd X pu fn q = evStore X.P (puO pu q) (tO q) (.el r i.toNat off) (stV X.P q) (usO q) := by kernel_rfl) (hn : szOf X.P (tO q) = some (szT X.P (tO q)) := by kernel_rfl) (hl : (stV X.P q).cells.length = szT X.P (tO q) := by kernel_rfl) (hv : noTup (stV X.P q) = true := by kernel_rfl) (hpu : ((puO pu q).ob && rootedObj (.el r 0 0)) = false := by kernel_rfl) (hat : atRoot (usO q) r = some (.own (rtD (usO q) r + 1), .sl (rtZ (usO q) r) (xs.map En)) := by kernel_rfl) (hk : ((stV X.P q).cells.all (elOk (rtD (usO q) r)) && Nat.ble (off + (stV X.P q).cells.length) (En x).length) = true := by kernel_rfl)
    (hE : setAt (En x) off ((stV X.P q).cells.map (·.2)) = En x' := by kernel_rfl) : W X pu fn Q q :=
  wo nn (st_stE (usO q) _ _ _ r _ off _ _ _ _ _ _ _ _ hr hn hl hv hpu hat (el_at hx) hk hE (el_put hy) rfl rfl) k
/-! elements of a slice that stands in an object -/
def hd1 (cs : List MC) (k : Nat) : MC := match cs.drop k with
  | c :: _ => c
  | [] => (.top, .junk)
def dp1 (c : MC) : Nat := dpM c.1
def sz1 (c : MC) : Nat := match c.2 with
  | .sl z _ => z
  | _ => 0
section
variable {H h2 : Heap} {j o N : Nat} {cs : List MC}
theorem wxO (nn : Nat) (V : hget H j o N = some cs) (kk : Nat) {xs : List α} {i : Int} {x : α} (hx : gi xs i = some x) (En : α → List AV) {len : Nat} (hlen : len = xs.length) (k : let q' := stp X pu fn nn (adv q (setT (sO q) (dO q) (.one .top (.el (.obj j (o + kk)) i.toNat 0)))); W X pu fn Q q')
    (hH : (sO q).h = H := by kernel_rfl) (hk : Nat.ble (kk + 1) N = true := by kernel_rfl) (hc : (cs.drop kk).take 1 = [(.own (dp1 (hd1 cs kk) + 1), .sl (sz1 (hd1 cs kk)) (xs.map En))] := by kernel_rfl) (hr : pnd X pu fn q = setO (sO q) (dO q) (evIndexAddr X.P (sO q) (tO q) (.one .top (.at_ (.obj j (o + kk)) 0 len)) i) := by kernel_rfl) (ht : X.P.underlying (tO q) = some (.slice (eT X.P (tO q))) := by kernel_rfl) (hz : szOf X.P (eT X.P (tO q)) = some (sz1 (hd1 cs kk)) := by kernel_rfl) : W X pu fn Q q :=
  wo nn (st_ixA (sO q) _ _ _ hx En _ 0 len _ (dO q) hr ht hz (at_obj (by rw [hH]; exact V) hk hc) rfl hlen rfl) k
theorem wlO (nn : Nat) (V : hget H j o N = some cs) (kk off : Nat) {xs : List α} {i : Int} {x : α} (hx : gi xs i = some x) (En : α → List AV) (k : let q' := stp X pu fn nn (adv q (setT (sO q) (dO q) (mkTV (agT X.P (tO q)) (rdCells (Md.own (dp1 (hd1 cs kk))).cpH (((En x).drop off).take (szT X.P (tO q))))))); W X pu fn Q q')
    (hH : (sO q).h = H := by kernel_rfl) (hk : Nat.ble (kk + 1) N = true := by kernel_rfl) (hc : (cs.drop kk).take 1 = [(.own (dp1 (hd1 cs kk) + 1), .sl (sz1 (hd1 cs kk)) (xs.map En))] := by kernel_rfl) (hr : pnd X pu fn q = setQ (dO q) (evLoad X.P .cp (tO q) (.el (.obj j (o + kk)) i.toNat off) (sO q)) := by kernel_rfl) (hT : isAggT X.P (tO q) = some (agT X.P (tO q)) := by kernel_rfl) (hn : szOf X.P (tO q) = some (szT X.P (tO q)) := by kernel_rfl) (ho : Nat.ble (off + szT X.P (tO q)) (En x).length = true := by kernel_rfl) (hv : mkT (agT X.P (tO q)) (rdCells (Md.own (dp1 (hd1 cs kk))).cpH (((En x).drop off).take (szT X.P (tO q)))) = some (mkTV (agT X.P (tO q)) (rdCells (Md.own (dp1 (hd1 cs kk))).cpH (((En x).drop off).take (szT X.P (tO q))))) := by kernel_rfl) : W X pu fn Q q :=
  wo nn (st_ldE (sO q) _ _ _ off _ _ _ _ _ _ _ (dO q) hr hT hn (at_obj (by rw [hH]; exact V) hk hc) (el_at hx) ho hv rfl) k
end
/-! arrays -/
def arO (q : Option Cf) (b : Nat) : List MC := match find b (sO q).l with
  | some cs => cs
  | none => []
section
variable [Inhabited α] {n : Nat} {A B : Arr n α} {i : Int} {x : α}
theorem wiL (nn b off : Nat) (hx : ga A i = some x) (k : let q' := stp X pu fn nn (adv q (setT (sO q) (dO q) (.one .top (.loc b (off + i.toNat))))); W X pu fn Q q') (hr : pnd X pu fn q = setO (sO q) (dO q) (evIndexAddr X.P (sO q) (tO q) (.one .top (.loc b off)) i) := by kernel_rfl) (ht : X.P.underlying (tO q) = some (.array n (eT X.P (tO q))) := by kernel_rfl) (hz : szOf X.P (eT X.P (tO q)) = some 1 := by kernel_rfl) : W X pu fn Q q :=
  wo nn (st_ixL (sO q) _ _ n hx b off (dO q) hr ht hz rfl) k
theorem wsL (nn b off : Nat) (hx : sa A i x = some B) (C : α → AV) (k : let q' := stp X pu fn nn (adv q { sO q with l := put b (setAt (arO q b) off ((List.range n).map fun j => (Md.top, C (B.g j)))) (sO q).l }); W X pu fn Q q') (hpl : inL b (puO pu q).lc = false := by kernel_rfl) (hr : pnd X pu fn q = evStore X.P (puO pu q) (tO q) (.loc b (off + i.toNat)) (.one .top (C x)) (sO q) := by kernel_rfl) (hn : szOf X.P (tO q) = some 1 := by kernel_rfl) (hf : find b (sO q).l = some (arO q b) := by kernel_rfl) (hA : ((arO q b).drop off).take n = (List.range n).map (fun j => (Md.top, C (A.g j))) := by kernel_rfl) (hsc : ∀ x, (C x).scalar = true := by intro _; kernel_rfl) : W X pu fn Q q :=
  wo nn (st_stL (sO q) _ n hx b off _ C (puO pu q) hpl hr hn hf hA hsc rfl) k
theorem wiO (nn j off : Nat) (hx : ga A i = some x) (k : let q' := stp X pu fn nn (adv q (setT (sO q) (dO q) (.one .top (.ptr (.at j (off + i.toNat)))))); W X pu fn Q q') (hr : pnd X pu fn q = setO (sO q) (dO q) (evIndexAddr X.P (sO q) (tO q) (.one .top (.ptr (.at j off))) i) := by kernel_rfl) (ht : X.P.underlying (tO q) = some (.array n (eT X.P (tO q))) := by kernel_rfl) (hz : szOf X.P (eT X.P (tO q)) = some 1 := by kernel_rfl) : W X pu fn Q q :=
  wo nn (st_ixO (sO q) _ _ n hx j off (dO q) hr ht hz rfl) k
theorem wdO (nn : Nat) (hx : ga A i = some x) {H : Heap} {j o N : Nat} {cs : List MC} (V : hget H j o N = some cs) (kk : Nat) (C : α → AV) (k : let q' := stp X pu fn nn (adv q (setT (sO q) (dO q) (.one .top (C x)))); W X pu fn Q q') (hH : (sO q).h = H := by kernel_rfl) (hr : pnd X pu fn q = setQ (dO q) (evLoad X.P .cp (tO q) (.ptr (.at j (o + kk + i.toNat))) (sO q)) := by kernel_rfl) (hT : isAggT X.P (tO q) = some false := by kernel_rfl) (hn : szOf X.P (tO q) = some 1 := by kernel_rfl) (hk : Nat.ble (kk + n) N = true := by kernel_rfl) (hA : (cs.drop kk).take n = (List.range n).map (fun j => (Md.top, C (A.g j))) := by kernel_rfl) : W X pu fn Q q :=
  wo nn (st_ldO (sO q) _ n hx (by rw [hH]; exact V) kk C (dO q) hr hT hn hk hA rfl) k
end
end
end Go.Proofs.Abs
/- Strings: one rule for each kind of operation. -/
namespace Go.Proofs.Abs
open Go
set_option linter.unusedVariables false
set_option linter.unusedSimpArgs false

/-- a string's byte -/
def sAt (b : ByteArray) (i : Int) : Option Int := if 0 ≤ i then (match b[i.toNat]? with
  | some c => some (c.toNat : Int)
  | none => none) else none
/-- a part of a string -/
def sCut (b : ByteArray) (lo hi : Int) : Option ByteArray := if 0 ≤ lo ∧ lo ≤ hi ∧ hi ≤ b.size then some (b.extract lo.toNat hi.toNat) else none
/-- one string behind another -/
def sCat (x y : ByteArray) : Option ByteArray := if ((x.size + y.size : Nat) : Int) > IntKind.i64.max then none else some (x ++ y)
/-- bytes as a string -/
def sOf (ns : List Int) : ByteArray := ns.foldl (fun r n => r.push (UInt8.ofNat n.toNat)) ByteArray.empty
def runeAt (b : ByteArray) (pos : Nat) : Int := ((Utf8.decode b pos).1 : Nat)
def runeEnd (b : ByteArray) (pos : Nat) : Nat := pos + (Utf8.decode b pos).2

def addOf : Op → TypeId × Operand × Operand
  | .binOp .add t x y _ => (t, x, y)
  | _ => (0, .tmp 0, .tmp 0)
def cv2 : Op → TypeId × TypeId
  | .convert a b _ => (a, b)
  | _ => (0, 0)
def cvX (P : Program) (q : Option Cf) : Option TV := match (opO q).op with
  | .convert a _ x => opnd P (sO q) a x
  | _ => none
def nxT : Op → Tmp
  | .next (.tmp t) _ => t
  | _ => 0
section
variable {X : Cx} {pu : Pu} {fn : Nat} {Q : Ex × St → Prop} {q : Option Cf} {α : Type}
theorem wsx (nn : Nat) {b : ByteArray} {i n : Int} (hx : sAt b i = some n) (k : let q' := stp X pu fn nn (adv q (setT (sO q) (dO q) (.one .top (.int .u8 n)))); W X pu fn Q q')
    (hr : pnd X pu fn q = setO (sO q) (dO q) (indexF X.P (tO q) (some (.one (mdV (xO X.P q)) (.str b))) (some (.one (mdV (yO X.P q)) (.int (kV (yO X.P q)) i)))) := by kernel_rfl) (ht : X.P.underlying (tO q) = some .string := by kernel_rfl) : W X pu fn Q q := by
  refine wo nn ?_ k
  rw [hr]
  simp only [indexF, ht]
  unfold sAt at hx
  split at hx
  · rename_i h0
    rw [if_pos h0]
    split at hx
    · rename_i c hc; cases hx; rw [hc]; rfl
    · cases hx
  · cases hx
theorem wsc (nn : Nat) {b c : ByteArray} {lo hi : Int} (hy : sCut b lo hi = some c) (k : let q' := stp X pu fn nn (adv q (setT (usO q) (dO q) (.one .top (.str c)))); W X pu fn Q q')
    (hr : pnd X pu fn q = setQ (dO q) (evSlice X.P (tO q) (.one (mdV (xO X.P q)) (.str b)) (loO q) (hiO q) (usO q)) := by kernel_rfl) (ht : X.P.underlying (tO q) = some .string := by kernel_rfl)
    (hlo : bndV X.P (usO q) (0 : Nat) (loO q) = some lo := by kernel_rfl) (hhi : bndV X.P (usO q) (b.size : Nat) (hiO q) = some hi := by kernel_rfl) : W X pu fn Q q := by
  refine wo nn ?_ k
  unfold sCut at hy
  split at hy
  rotate_left
  · cases hy
  rename_i hh
  obtain ⟨h0, h1, h2⟩ := hh
  cases hy
  rw [hr]
  simp only [evSlice, ht]
  rw [bound_of (n := lo) (bndIs_of hlo) h0 (by omega), bound_of (n := hi) (bndIs_of hhi) (by omega) h2]
  simp only [subF]
  rw [if_pos (by omega)]
  rfl
theorem wcat (nn : Nat) {x y z : ByteArray} (hz : sCat x y = some z) (k : let q' := stp X pu fn nn (adv q (setT (sO q) (dO q) (.one .top (.str z)))); W X pu fn Q q')
    (hr : pnd X pu fn q = setO (sO q) (dO q) (((pureP X.P (Op.stringOp .add x y)).bind ofV).map sc) := by kernel_rfl) : W X pu fn Q q := by
  refine wo nn ?_ k
  rw [hr]
  unfold sCat at hz
  split at hz
  · cases hz
  · rename_i h
    cases hz
    simp only [Op.stringOp, if_neg h]
    rfl
theorem wstr (nn : Nat) (ns : List Int) (k : let q' := stp X pu fn nn (adv q (setT (sO q) (dO q) (.one .top (.str (sOf ns))))); W X pu fn Q q')
    (hr : pnd X pu fn q = setO (sO q) (dO q) (strF X.P (cv2 (opO q).op).1 (cv2 (opO q).op).2 (some (.one (mdV (cvX X.P q)) (.sl 1 (ns.map (eI .u8)))))) := by kernel_rfl)
    (h1 : X.P.underlying (cv2 (opO q).op).1 = some (.slice (eT X.P (cv2 (opO q).op).1)) := by kernel_rfl) (h2 : (isU8 (X.P.underlying (eT X.P (cv2 (opO q).op).1)) && isStrT (X.P.underlying (cv2 (opO q).op).2)) = true := by kernel_rfl) : W X pu fn Q q := by
  refine wo nn ?_ k
  rw [hr]
  rw [Bool.and_eq_true] at h2
  simp only [strF, h1]
  rw [if_pos h2, show (ns.map (eI .u8)) = ns.map (fun n => [.int .u8 n]) from rfl, bytesOf_map]
  rfl
theorem wsA (nn b n : Nat) {α : Type} [Inhabited α] {A : Arr n α} {ys : List α} {lo hi : Int} (hy : cut ((List.range n).map A.g) lo hi = some ys) (C : α → AV) (k : let q' := stp X pu fn nn (adv q (setT { sO q with l := drop1 b (sO q).l } (dO q) (.one (.own 0) (.sl 1 (ys.map fun x => [C x]))))); W X pu fn Q q')
    (hr : pnd X pu fn q = setQ (dO q) (slArrF X.P (puO pu q) (tO q) (loO q) (hiO q) (sO q) (some (.one .top (.loc b 0)))) := by kernel_rfl) (ht : X.P.underlying (tO q) = some (.array n (eT X.P (tO q))) := by kernel_rfl) (hz : szOf X.P (eT X.P (tO q)) = some 1 := by kernel_rfl)
    (hf : find b (sO q).l = some (arO q b) := by kernel_rfl) (hA : arO q b = (List.range n).map fun j => (Md.top, C (A.g j)) := by kernel_rfl) (hs : ∀ x, (C x).scalar = true := by intro _; kernel_rfl) (hp : inL b (puO pu q).lc = false := by kernel_rfl)
    (hlo : bndV X.P (sO q) (0 : Nat) (loO q) = some lo := by kernel_rfl) (hhi : bndV X.P (sO q) (n : Nat) (hiO q) = some hi := by kernel_rfl) : W X pu fn Q q := by
  refine wo nn ?_ k
  obtain ⟨h0, h1, h2, rfl⟩ := cut_inv hy
  have h2' : hi ≤ n := by simpa using h2
  rw [hr]
  simp only [slArrF, ht, hz, hf]
  rw [if_pos ⟨by rw [hA]; simp, by rw [hA, List.all_eq_true]; intro c hc; obtain ⟨j, _, rfl⟩ := List.mem_map.1 hc; exact hs _, hp⟩, bound_of (n := lo) (bndIs_of hlo) h0 (by omega), bound_of (n := hi) (bndIs_of hhi) (by omega) h2']
  simp only [subF]
  rw [if_pos (by omega), hA]
  simp only [setQ, List.map_take, List.map_drop, List.map_map, Function.comp_def]
theorem wnx (n m : Nat) {b : ByteArray} {pos : Nat} {α : Type} {u v : Option α} {r : α} (hF : (if pos < b.size then u else v) = some r)
    (kT : pos < b.size → u = some r → let q' := stp X pu fn n (adv q (setT (nextS (nxT (opO q).op) b (runeEnd b pos) (sO q)) (dO q) (.tup [sc (.bool true), sc (.int .i64 (pos : Nat)), sc (.int .i32 (runeAt b pos))]))); W X pu fn Q q')
    (kF : ¬ pos < b.size → v = some r → let q' := stp X pu fn m (adv q (setT (sO q) (dO q) (.tup [sc (.bool false)]))); W X pu fn Q q') (md : Md)
    (h : pnd X pu fn q = nextF (dO q) (nxT (opO q).op) (sO q) (some (.one md (.it b pos))) := by kernel_rfl) : W X pu fn Q q := by
  by_cases hp : pos < b.size
  · rw [if_pos hp] at hF
    refine wo n ?_ (kT hp hF)
    rw [h]
    simp only [nextF, if_pos hp]
    rfl
  · rw [if_neg hp] at hF
    refine wo m ?_ (kF hp hF)
    rw [h]
    simp only [nextF, if_neg hp]
end
end Go.Proofs.Abs
/- Library functions that are told by a contract. -/
namespace Go.Proofs.Abs
open Go
def splitC (s sep : ByteArray) : Option (List ByteArray) := if 1 ≤ sep.size ∧ s.size < 4294967281 then some (Lib.splitB sep 0 (Lib.countB s sep) s) else none
def cutC (s sep : ByteArray) : Option (ByteArray × ByteArray × Bool) := if s.size < 4294967281 then some (⟨(Lib.cut s.data.toList sep.data.toList).1.toArray⟩, ⟨(Lib.cut s.data.toList sep.data.toList).2.1.toArray⟩, (Lib.cut s.data.toList sep.data.toList).2.2) else none
def indexByteC (s : ByteArray) (c : Int) : Option Int := some (Lib.indexByte s.data.toList c.toNat.toUInt8)
def ctSplit : List TV → Option TV
  | [.one _ (.str s), .one _ (.str sep)] => (splitC s sep).map fun l => .one (.own 1) (.sl 1 (l.map eS))
  | _ => none
def ctCut : List TV → Option TV
  | [.one _ (.str s), .one _ (.str sep)] => (cutC s sep).map fun r => .tup [.one .top (.str r.1), .one .top (.str r.2.1), .one .top (.bool r.2.2)]
  | _ => none
def ctIB : List TV → Option TV
  | [.one _ (.str s), .one _ (.int .u8 c)] => (indexByteC s c).map fun n => .one .top (.int .i64 n)
  | _ => none
def ctT (a b c : Nat) (f : FuncId) (args : List TV) : Option TV := bif Nat.beq f a then ctSplit args else bif Nat.beq f b then ctCut args else bif Nat.beq f c then ctIB args else none
section
variable {X : Cx} {H : Heap}
theorem ct_splitC {f : Nat} (hX : ∀ args, X.ct f args = ctSplit args) {p0 p1 : ByteArray} {ra} (h : splitC p0 p1 = some ra) : evS X f [.one .top (.str p0), .one .top (.str p1)] H = some (.one (.own 1) (.sl 1 (List.map eS ra)), H) := evS_ct (by rw [hX]; simp only [ctSplit, h]; rfl)
theorem ct_cutC {f : Nat} (hX : ∀ args, X.ct f args = ctCut args) {p0 p1 ra rb : ByteArray} {rc} (h : cutC p0 p1 = some (ra, rb, rc)) : evS X f [.one .top (.str p0), .one .top (.str p1)] H = some (.tup [.one .top (.str ra), .one .top (.str rb), .one .top (.bool rc)], H) := evS_ct (by rw [hX]; simp only [ctCut, h]; rfl)
theorem ct_indexByteC {f : Nat} (hX : ∀ args, X.ct f args = ctIB args) {p0 : ByteArray} {p1 ra : Int} (h : indexByteC p0 p1 = some ra) : evS X f [.one .top (.str p0), .one .top (.int .u8 p1)] H = some (.one .top (.int .i64 ra), H) := evS_ct (by rw [hX]; simp only [ctIB, h]; rfl)
end
/-- two lengths that must be the same -/
def sameN (a b : Nat) : Option Unit := if a = b then some () else none
theorem sameN_inv {a b : Nat} {u} (h : sameN a b = some u) : a = b := by
  unfold sameN at h
  split at h
  · assumption
  · cases h
/-- many alike -/
def arrR {α : Type} (n : Nat) (x : α) : Arr n α := ⟨List.replicate n x, by simp⟩
def arB (n : Nat) {N : Nat} (a : Arr N Bool) : List MC := (List.range n).map fun j => (.top, .bool (a.g j))
end Go.Proofs.Abs
/- The library's contracts, as the machine takes them: sound. -/
namespace Go.Proofs.Abs
open Go
set_option linter.unusedVariables false
set_option linter.unusedSimpArgs false
section
variable {X : Cx} {h : Heap} {a0 : Act} {w : World} {g : Gh} {us : Array Value}
def isFn (P : Program) (f : Nat) : Prop := ∃ fn, P.funcs[f]? = some fn ∧ (fn.name == "runtime.NumGoroutine") = false ∧ fn.body.isNone = false
theorem two_us {m1 m2 : Md} {c1 c2 : AV} (hsz : us.size = 2) (hus : ∀ (i : Nat) u, us[i]? = some u → a0.tmps.getD i undef = u) (R : Rel ⟨number 0 [.one m1 c1, .one m2 c2], [], h⟩ [] a0 w g) :
    ∃ u1 u2, us = #[u1, u2] ∧ RC w g m1 (.tmp 0) [0] c1 u1 ∧ RC w g m2 (.tmp 1) [0] c2 u2 := by
  obtain ⟨l⟩ := us
  match l, hsz with
  | [u1, u2], _ =>
    refine ⟨u1, u2, rfl, ?_, ?_⟩
    · have := R.tm 0 (.one m1 c1) rfl
      rw [hus 0 u1 rfl] at this
      exact this
    · have := R.tm 1 (.one m2 c2) rfl
      rw [hus 1 u2 rfl] at this
      exact this
theorem Rel.noSlots {t : List (Nat × TV)} (R : Rel ⟨t, [], h⟩ [] a0 w g) : Rel ⟨[], [], h⟩ [] a0 w g :=
  ⟨R.n, fun i x hi => by simp at hi, fun t tv ht => (by cases ht), fun t cs ht => (by cases ht), R.hp, fun r d z xs hr b o sp len cap hv => by
    cases r with
    | obj id off => exact R.hd (.obj id off) d z xs hr b o sp len cap hv
    | loc t off => cases hr
    | tmp t => cases hr⟩
theorem ret_tv {tv : TV} {v : Value} {w' g'} (R : Rel ⟨[], [], h⟩ [] a0 w' g') (hv : RT w' g' (.lim 0) tv v) : Rel ⟨[], [], h⟩ [(tv, v)] a0 w' g' := R.push (fl := []) hv
theorem leaves_any {f : Nat} {hf h' : Heap} (e1 : h' = h) (e2 : hf = h) : (X.leaves f = true → h' = h ∧ hf.length = h.length) ∧ (X.leaves f = false → hf = h') := by
  subst e1; subst e2; exact ⟨fun _ => ⟨rfl, rfl⟩, fun _ => rfl⟩
theorem ctOk_of {a b c : Nat} (hX : ∀ f args, X.ct f args = ctT a b c f args) (hgs : X.gs = [0]) (fa : isFn X.P a) (fb : isFn X.P b) (fc : isFn X.P c)
    (ha : ∀ (s sep : ByteArray) (m : Int) (w : World), s.size < 4294967281 → w.cell? ⟨0, 0, none⟩ = some (.int .i64 m) → 1 ≤ sep.size → Calls X.P a #[.string s, .string sep] w fun e w' =>
      e = .returned (.slice (some ⟨w.heap.size, 0, none⟩) (Lib.countB s sep + 1) (Lib.countB s sep + 1)) ∧ ∃ ty, w' = w.alloc (.cells ((Lib.splitB sep 0 (Lib.countB s sep) s).map Value.string).toArray ty))
    (hb : ∀ (s sep : ByteArray) (m : Int) (w : World), s.size < 4294967281 → w.cell? ⟨0, 0, none⟩ = some (.int .i64 m) → Calls X.P b #[.string s, .string sep] w fun e w' =>
      e = .returned (.tuple #[.string ⟨(Lib.cut s.data.toList sep.data.toList).1.toArray⟩, .string ⟨(Lib.cut s.data.toList sep.data.toList).2.1.toArray⟩, .bool (Lib.cut s.data.toList sep.data.toList).2.2]) ∧ ∃ n, w' = w.drewN n)
    (hc : ∀ (s : ByteArray) (c' : Int) (w : World), Calls X.P c #[.string s, .int .u8 c'] w fun e w' => e = .returned (.int .i64 (Lib.indexByte s.data.toList c'.toNat.toUInt8)) ∧ w' = w) : CtOk X := by
  intro f args h v h' he
  have he : ctO h none (X.ct f args) = some (v, h') := he
  rw [hX] at he
  unfold ctT at he
  cases h1 : Nat.beq f a with
  | true =>
    have e := Nat.eq_of_beq_eq_true h1
    subst e
    rw [h1] at he
    refine ⟨fa, fun w g a0 us hsz hus R hG => ?_⟩
    simp only [cond_true] at he
    unfold ctSplit at he
    split at he
    · rename_i s m1 sep m2
      obtain ⟨u1, u2, rfl, r1, r2⟩ := two_us hsz hus R
      obtain rfl := r1.str; obtain rfl := r2.str
      cases hq : splitC s sep with
      | none => rw [hq] at he; cases he
      | some l =>
        rw [hq] at he
        cases he
        unfold splitC at hq
        split at hq
        · rename_i hh
          cases hq
          obtain ⟨_, _, m, hm⟩ := hG 0 (by rw [hgs]; simp)
          have hlen := Lib.splitB_all sep hh.1 0 _ s rfl
          refine (ha s sep m w hh.2 hm hh.1).mono fun e w' hx => ?_
          obtain ⟨rfl, ty, rfl⟩ := hx
          have K := KC.newSl (w := w) (g := g) (z := 1) (d := 0) (cap := Lib.countB s sep + 1) (xs := (Lib.splitB sep 0 (Lib.countB s sep) s).map eS) (C := ((Lib.splitB sep 0 (Lib.countB s sep) s).map Value.string).toArray) (ty := ty)
            (fun x hx => by obtain ⟨q, _, rfl⟩ := List.mem_map.1 hx; rfl) (by simp [hlen]) (by simp [hlen])
            (fun i x j c hx hc => by
              rw [List.getElem?_map] at hx
              cases hq : (Lib.splitB sep 0 (Lib.countB s sep) s)[i]? with
              | none => rw [hq] at hx; cases hx
              | some q =>
                rw [hq] at hx; cases hx
                have hj : j = 0 := by
                  have := (List.getElem?_eq_some_iff.1 hc).1
                  simp [eS] at this; exact this
                subst hj
                cases hc
                exact ⟨.string q, by simp [hq], .str⟩)
          have R2 := R.noSlots.all (chg_alloc (w := w) (g := g) (.cells ((Lib.splitB sep 0 (Lib.countB s sep) s).map Value.string).toArray ty) (.pth (.lim 0) [0]) (((Lib.splitB sep 0 (Lib.countB s sep) s).map eS).length * 1)) (fun _ _ => trivial) rfl (fun _ => rfl) (fun _ => rfl)
          rw [List.length_map, hlen] at K
          rw [List.length_map, hlen] at R2
          obtain ⟨q1, q2⟩ := leaves_any (X := X) (f := f) (h := h) (hf := h) (h' := h) rfl rfl
          exact ⟨_, _, a0, h, rfl, ret_tv R2 (tv := .one (.own (0 + 1)) (.sl 1 ((Lib.splitB sep 0 (Lib.countB s sep) s).map eS))) (.inl K), le_alloc _ _ _ _ (by simp), rfl, q1, q2⟩
        · cases hq
    · cases he
  | false =>
    rw [h1] at he
    simp only [cond_false] at he
    cases h2 : Nat.beq f b with
    | true =>
      have e := Nat.eq_of_beq_eq_true h2
      subst e
      rw [h2] at he
      refine ⟨fb, fun w g a0 us hsz hus R hG => ?_⟩
      simp only [cond_true] at he
      unfold ctCut at he
      split at he
      · rename_i s m1 sep m2
        obtain ⟨u1, u2, rfl, r1, r2⟩ := two_us hsz hus R
        obtain rfl := r1.str; obtain rfl := r2.str
        cases hq : cutC s sep with
        | none => rw [hq] at he; cases he
        | some l =>
          rw [hq] at he
          cases he
          unfold cutC at hq
          split at hq
          · rename_i hh
            cases hq
            obtain ⟨_, _, m, hm⟩ := hG 0 (by rw [hgs]; simp)
            refine (hb s sep m w hh hm).mono fun e w' hx => ?_
            obtain ⟨rfl, n, rfl⟩ := hx
            have R2 : Rel ⟨[], [], h⟩ [] a0 (w.drewN n) g := R.noSlots.all (chg_same (w := w) (w' := w.drewN n) rfl) (fun _ _ => trivial) rfl (fun _ => rfl) (fun _ => rfl)
            obtain ⟨q1, q2⟩ := leaves_any (X := X) (f := f) (h := h) (hf := h) (h' := h) rfl rfl
            refine ⟨_, g, a0, h, rfl, ret_tv R2 (tv := .tup [.one .top (.str _), .one .top (.str _), .one .top (.bool _)]) ⟨_, rfl, rfl, fun j tv hj => ?_⟩, le_same (w' := w.drewN n) _ rfl rfl rfl rfl, rfl, q1, q2⟩
            match j, hj with
            | 0, hj => cases hj; exact ⟨_, rfl, .inl .str⟩
            | 1, hj => cases hj; exact ⟨_, rfl, .inl .str⟩
            | 2, hj => cases hj; exact ⟨_, rfl, .inl .bool⟩
            | k + 3, hj => simp at hj
          · cases hq
      · cases he
    | false =>
      rw [h2] at he
      simp only [cond_false] at he
      cases h3 : Nat.beq f c with
      | false => rw [h3] at he; cases he
      | true =>
        have e := Nat.eq_of_beq_eq_true h3
        subst e
        rw [h3] at he
        refine ⟨fc, fun w g a0 us hsz hus R hG => ?_⟩
        simp only [cond_true] at he
        unfold ctIB at he
        split at he
        · rename_i s m1 ch m2
          obtain ⟨u1, u2, rfl, r1, r2⟩ := two_us hsz hus R
          obtain rfl := r1.str; obtain rfl := r2.int
          cases he
          refine (hc s ch w).mono fun e w' hx => ?_
          obtain ⟨rfl, rfl⟩ := hx
          obtain ⟨q1, q2⟩ := leaves_any (X := X) (f := f) (h := h) (hf := h) (h' := h) rfl rfl
          exact ⟨_, g, a0, h, rfl, ret_tv R.noSlots (tv := .one .top (.int .i64 _)) (.inl .int), Le.refl _ _ _, rfl, q1, q2⟩
        · cases he
end
end Go.Proofs.Abs
/- One more contract: a function of a slice of words that answers a string, and leaves old memory alone. -/
namespace Go.Proofs.Abs
open Go Go.RowKit
set_option linter.unusedVariables false
set_option linter.unusedSimpArgs false
def unI : List (List AV) → Option (List Int)
  | [] => some []
  | [.int .u32 n] :: l => (unI l).map (n :: ·)
  | _ => none
theorem unI_map : ∀ xs : List Int, unI (xs.map (eI .u32)) = some xs
  | [] => rfl
  | x :: xs => by rw [List.map_cons]; show (unI (xs.map (eI .u32))).map (x :: ·) = _; rw [unI_map xs]; rfl
theorem unI_inv : ∀ {L : List (List AV)} {xs : List Int}, unI L = some xs → L = xs.map (eI .u32)
  | [], xs, h => by cases h; rfl
  | [.int .u32 n] :: l, xs, h => by
    cases hq : unI l with
    | none => simp only [unI, hq] at h; cases h
    | some ys =>
      simp only [unI, hq] at h
      cases h
      rw [unI_inv hq]; rfl
def ctSrc (S : List Int → Option ByteArray) : List TV → Option TV
  | [.one _ (.sl 1 L)] => match unI L with
    | some xs => (S xs).map fun s => .one .top (.str s)
    | none => none
  | _ => none
def ctA (S : List Int → Option ByteArray) (d : Nat) (ct0 : FuncId → List TV → Option TV) (f : FuncId) (args : List TV) : Option TV := bif Nat.beq f d then ctSrc S args else ct0 f args
section
variable {X : Cx} {H : Heap} {S : List Int → Option ByteArray}
theorem ct_src {f : Nat} {m : Md} (hX : ∀ args, X.ct f args = ctSrc S args) {p0 : List Int} {ra : ByteArray} (h : S p0 = some ra) : evS X f [.one m (.sl 1 (List.map (eI .u32) p0))] H = some (.one .top (.str ra), H) := evS_ct (by rw [hX]; simp only [ctSrc, unI_map, h]; rfl)
end
def gB (w : World) (g : Gh) : Gh := { g with own := fun b => if b < w.heap.size then g.own b else .shared, fr := fun b => if b < w.heap.size then g.fr b else 0 }
section
variable {w w' : World} {g : Gh}
theorem chg_below (B : Below w.heap.size w w') : Chg (fun _ _ => True) true true w g w' (gB w g) := by
  have hh : ∀ b, b < w.heap.size → w'.heap[b]? = w.heap[b]? := B.block
  have hc : ∀ b o, b < w.heap.size → cel w' b o = cel w b o := fun b o hb => by simp only [World.cell?, hh b hb]
  have hf : ∀ b o, b < w.heap.size → free w b o → free w' b o := fun b o hb hf => ⟨by rw [hc b o hb]; exact hf.1, by have := hf.2; simp only [World.frozen?, hh b hb] at this ⊢; exact this⟩
  have ho : ∀ b, b < w.heap.size → (gB w g).own b = g.own b := fun b hb => if_pos hb
  have hr : ∀ b, b < w.heap.size → (gB w g).fr b = g.fr b := fun b hb => if_pos hb
  exact ⟨B.size, Nat.le_refl _, fun _ _ => rfl, fun _ _ _ h => h, fun b hb _ => ⟨ho b hb, fun o _ => hc b o hb⟩, fun b r π hb h1 _ => ⟨(ho b hb).trans h1, hr b hb, fun o _ => hc b o hb, fun o => hf b o hb⟩,
    fun _ b r π hb h1 h2 => ⟨.inr ⟨r, π, (ho b hb).trans h1, h2, by rw [hr b hb]; exact Nat.le_refl _⟩, fun o _ _ => hc b o hb⟩, fun _ b r π hb h1 h2 => ⟨.inr ⟨r, π, (ho b hb).trans h1, h2, by rw [hr b hb]; exact Nat.le_refl _⟩, fun o _ _ => hc b o hb⟩, fun _ _ b hb h1 => ⟨(ho b hb).trans h1, hh b hb⟩⟩
theorem le_below (pu : Pu) (B : Below w.heap.size w w') : Le pu w g w' (gB w g) :=
  ⟨B.size, fun b hb _ => ⟨B.block b hb, if_pos hb, if_pos hb⟩, fun b h1 h2 h3 => (by
    have : (gB w g).own b = .shared := if_neg (by omega)
    rw [this] at h3; cases h3), fun b hb h => (by rw [show (gB w g).own b = g.own b from if_pos hb] at h; exact h), Nat.le_refl _, fun _ _ => rfl, B.os, B.tape, B.output⟩
end
/-- the words that a slice holds -/
def Holds (w : World) (xs : List Int) (a : Option Addr) : Prop := xs = [] ∨ ∃ p o, a = some ⟨p, o, none⟩ ∧ p < w.heap.size ∧ ∀ (i : Nat) (x : Int), xs[i]? = some x → w.cell? ⟨p, o + i, none⟩ = some (.int .u32 x)
theorem ctOk_add {X : Cx} {S : List Int → Option ByteArray} {d : Nat} {ct0 : FuncId → List TV → Option TV} (h1 : CtOk { X with ct := ct0 }) (hX : ∀ f args, X.ct f args = ctA S d ct0 f args) (fd : isFn X.P d)
    (hs : ∀ (xs : List Int) (s : ByteArray), S xs = some s → ∀ (a : Option Addr) (cap : Nat) (w : World), Holds w xs a → Calls X.P d #[.slice a xs.length cap] w fun e w' => e = .returned (.string s) ∧ Below w.heap.size w w') : CtOk X := by
  intro f args h v h' he
  have he : ctO h none (X.ct f args) = some (v, h') := he
  rw [hX] at he
  unfold ctA at he
  cases hd : Nat.beq f d with
  | false =>
    rw [hd] at he
    exact h1 f args h v h' he
  | true =>
    have e := Nat.eq_of_beq_eq_true hd
    subst e
    rw [hd] at he
    refine ⟨fd, fun w g a0 us hsz hus R hG => ?_⟩
    simp only [cond_true] at he
    unfold ctSrc at he
    split at he
    · rename_i m L he0
      cases hq : unI L with
      | none => rw [hq] at he; cases he
      | some xs =>
        rw [hq] at he
        have he : ctO h none ((S xs).map fun s => .one .top (.str s)) = some (v, h') := he
        cases hS : S xs with
        | none => rw [hS] at he; cases he
        | some s =>
          rw [hS] at he
          cases he
          obtain rfl := unI_inv hq
          obtain ⟨l⟩ := us
          match l, hsz with
          | [u], _ =>
            have r0 : RC w g m (.tmp 0) [0] (.sl 1 (xs.map (eI .u32))) u := by
              have := R.tm 0 (.one m _) rfl
              rw [hus 0 u rfl] at this
              exact this
            have fin : ∀ (a : Option Addr) (cap : Nat), u = .slice a xs.length cap → Holds w xs a → Calls X.P f #[u] w fun e w' => ∃ u' g' a' hf, e = .returned u' ∧ Rel ⟨[], [], hf⟩ [(.one .top (.str s), u')] a' w' g' ∧ Le ⟨X.leaves f, []⟩ w g w' g' ∧ retOkT (.one .top (.str s)) = true ∧ (X.leaves f = true → h = h ∧ hf.length = h.length) ∧ (X.leaves f = false → hf = h) := by
              intro a cap hu hh
              subst hu
              refine (hs xs s hS a cap w hh).mono fun e w' hx => ?_
              obtain ⟨rfl, B⟩ := hx
              have R2 : Rel ⟨[], [], h⟩ [] a0 w' (gB w g) := R.noSlots.all (chg_below B) (fun _ _ => trivial) rfl (fun _ => rfl) (fun _ => rfl)
              obtain ⟨q1, q2⟩ := leaves_any (X := X) (f := f) (h := h) (hf := h) (h' := h) rfl rfl
              exact ⟨_, _, a0, h, rfl, ret_tv R2 (tv := .one .top (.str s)) (.inl .str), le_below _ B, rfl, q1, q2⟩
            rcases r0 with k | k
            · generalize hE : AV.sl 1 (xs.map (eI .u32)) = av at k
              cases k with
              | nil hm =>
                cases xs with
                | nil => exact fin none 0 rfl (.inl rfl)
                | cons x xs => cases hE
              | emp hm ho =>
                cases xs with
                | nil => exact fin _ _ rfl (.inl rfl)
                | cons x xs => cases hE
              | sl vs hb hok hz hcap room hc hr =>
                cases hE
                refine fin _ _ (by rw [List.length_map]) (.inr ⟨_, _, rfl, hb, fun i x hx => ?_⟩)
                have hi : (xs.map (eI .u32))[i]? = some (eI .u32 x) := by rw [List.getElem?_map, hx]; rfl
                have c1 := hc i (eI .u32 x) 0 _ hi rfl
                have c2 := hr i (eI .u32 x) 0 _ hi rfl
                have c3 := (show RC w g m.inner (.tmp 0) ([0] ++ [i, 0]) (.int .u32 x) (vs i 0) from .inl c2).int
                rw [c3] at c1
                simpa using c1
              | _ => cases hE
            · cases k
    · cases he
end Go.Proofs.Abs
/- Plain lemmas on the printed functions' words. -/
namespace Go.Proofs.Abs
open Go
set_option linter.unusedVariables false
set_option linter.unusedSimpArgs false
section
variable {α β γ δ ε ζ : Type}
theorem bind1_some (a : α) (k : α → Option β) : bind1 (some a) k = k a := rfl
theorem bind2_some (a : α) (b : β) (k : α → β → Option γ) : bind2 (some (a, b)) k = k a b := rfl
theorem bind3_some (a : α) (b : β) (c : γ) (k : α → β → γ → Option δ) : bind3 (some (a, b, c)) k = k a b c := rfl
theorem bind4_some (a : α) (b : β) (c : γ) (d : δ) (k : α → β → γ → δ → Option ε) : bind4 (some (a, b, c, d)) k = k a b c d := rfl
theorem bnd_def (a : α) (k : α → Option β) : bnd a k = k a := rfl
theorem pbnd_at (i o : Nat) (k : Nat → Nat → Option β) : (Ptr.at i o).bnd k = k i o := rfl
theorem sum2_inl (f : α → Option γ) (g : β → Option γ) (a : α) : sum2 f g (.inl a) = f a := rfl
theorem sum2_inr (f : α → Option γ) (g : β → Option γ) (b : β) : sum2 f g (.inr b) = g b := rfl
theorem map_inj {E : α → β} (hE : ∀ x y, E x = E y → x = y) : ∀ (a b : List α), a.map E = b.map E → a = b
  | [], [], _ => rfl
  | [], _ :: _, h => by cases h
  | _ :: _, [], h => by cases h
  | x :: a, y :: b, h => by
    simp only [List.map_cons, List.cons.injEq] at h
    rw [hE _ _ h.1, map_inj hE a b h.2]
theorem eI_inj {k : IntKind} (x y : Int) (h : eI k x = eI k y) : x = y := by simpa [eI] using h
end
/-! numbers -/
theorem wf_u32 {n : Int} : (Lit.int .u32 n).wf = true ↔ 0 ≤ n ∧ n ≤ 4294967295 := by
  simp [Lit.wf, IntKind.min, IntKind.max, IntKind.signed, IntKind.bits]
theorem wrap_i64 (x : Int) (h1 : -9223372036854775808 ≤ x) (h2 : x ≤ 9223372036854775807) : IntKind.i64.wrap x = x := by
  simp only [IntKind.wrap, IntKind.bits, IntKind.signed]
  simp
  omega
theorem wrap_u32 (x : Int) (h1 : 0 ≤ x) (h2 : x ≤ 4294967295) : IntKind.u32.wrap x = x := by
  simp only [IntKind.wrap, IntKind.bits, IntKind.signed]
  simp
  omega
theorem wrap_u64 (x : Int) (h1 : 0 ≤ x) (h2 : x ≤ 18446744073709551615) : IntKind.u64.wrap x = x := by
  simp only [IntKind.wrap, IntKind.bits, IntKind.signed]
  simp
  omega
theorem tmod_pos {a b : Int} (h : 0 ≤ a) : a.tmod b = a % b := Int.tmod_eq_emod_of_nonneg h
theorem tdiv_pos {a b : Int} (h : 0 ≤ a) : a.tdiv b = a / b := Int.tdiv_eq_ediv_of_nonneg h
/-! objects -/
section
variable {α : Type} {en : α → List MC} {n : Nat} {H : Heap} {i o j o' : Nat} {x y : α}
theorem hgT_set (inj : ∀ x y, en x = en y → x = y) (hl : ∀ x, (en x).length = n) (h : hgetT en n H i o = some x) (y : α) : hgetT en n (hset H i o (en y)) i o = some y :=
  hgetT_of inj (hset_get (hgetT_inv h) (hl y))
theorem hgT_new (inj : ∀ x y, en x = en y → x = y) (hl : ∀ x, (en x).length = n) (H : Heap) (y : α) : hgetT en n (H ++ [en y]) H.length 0 = some y := by
  refine hgetT_of inj ?_
  rw [← hl y]; exact hget_new
end
theorem si_some {α : Type} {xs : List α} {i : Int} {x : α} (h0 : 0 ≤ i) (h1 : i < xs.length) : si xs i x = some (xs.set i.toNat x) := by
  unfold si
  rw [if_pos ⟨h0, by omega⟩]
end Go.Proofs.Abs
