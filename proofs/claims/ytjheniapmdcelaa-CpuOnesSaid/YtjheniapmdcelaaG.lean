import Derived.Test.YtjheniapmdcelaaA2
import Derived.KernelRfl
import Derived.OpenShut
import Derived.ChangeArms
set_option linter.unusedVariables false
set_option linter.unusedSimpArgs false
set_option linter.unusedSectionVars false
namespace Go.Proofs.Abs
open Go
set_option linter.unusedVariables false
set_option linter.unusedSimpArgs false
/-! ### words of the printed functions -/
inductive Ptr where
  | nil | at (id off : Nat)
  deriving DecidableEq, Inhabited
def Ptr.av : Ptr → AV
  | .nil => .nilp
  | .at i o => .obj i o
def Ptr.isNil : Ptr → Bool
  | .nil => true
  | .at _ _ => false
def Ptr.bnd {β : Type} (p : Ptr) (k : Nat → Nat → Option β) : Option β := match p with
  | .nil => none
  | .at i o => k i o
theorem Bu {β : Type} {p : Ptr} {k : Nat → Nat → Option β} {r} (h : p.bnd k = some r) : ∃ i o, p = .at i o ∧ k i o = some r := by
  cases p with
  | nil => cases h
  | «at» i o => exact ⟨i, o, rfl, h⟩
def sT (x y : ByteArray) : Bool := x.toList == y.toList
section
variable {α β γ δ ε ζ η θ : Type}
def bnd (a : α) (k : α → Option β) : Option β := k a
theorem Cl {a : α} {k : α → Option β} {r} (h : bnd a k = some r) : ∃ x, a = x ∧ k x = some r := ⟨a, rfl, h⟩
def Af (q : Option α) (k : α → Option β) : Option β := match q with
  | some a => k a
  | none => none
def Cc (q : Option (α × β)) (k : α → β → Option γ) : Option γ := match q with
  | some (a, b) => k a b
  | none => none
def Vt (q : Option (α × β × γ)) (k : α → β → γ → Option δ) : Option δ := match q with
  | some (a, b, c) => k a b c
  | none => none
def sU (q : Option (α × β × γ × δ)) (k : α → β → γ → δ → Option ε) : Option ε := match q with
  | some (a, b, c, d) => k a b c d
  | none => none
def lW (q : Option (α × β × γ × δ × ε)) (k : α → β → γ → δ → ε → Option ζ) : Option ζ := match q with
  | some (a, b, c, d, e) => k a b c d e
  | none => none
def sV (q : Option (α × β × γ × δ × ε × ζ)) (k : α → β → γ → δ → ε → ζ → Option η) : Option η := match q with
  | some (a, b, c, d, e, f) => k a b c d e f
  | none => none
theorem Ab {q : Option α} {k : α → Option β} {r} (h : Af q k = some r) : ∃ x, q = some x ∧ k x = some r := by
  cases q with
  | none => cases h
  | some x => exact ⟨x, rfl, h⟩
theorem Be {q : Option (α × β)} {k : α → β → Option γ} {r} (h : Cc q k = some r) : ∃ x y, q = some (x, y) ∧ k x y = some r := by
  cases q with
  | none => cases h
  | some x => exact ⟨x.1, x.2, rfl, h⟩
theorem R6 {q : Option (α × β × γ)} {k : α → β → γ → Option δ} {r} (h : Vt q k = some r) : ∃ x y z, q = some (x, y, z) ∧ k x y z = some r := by
  cases q with
  | none => cases h
  | some x => exact ⟨x.1, x.2.1, x.2.2, rfl, h⟩
theorem kA {q : Option (α × β × γ × δ × ε)} {k : α → β → γ → δ → ε → Option ζ} {r} (h : lW q k = some r) : ∃ x y z u v, q = some (x, y, z, u, v) ∧ k x y z u v = some r := by
  cases q with
  | none => cases h
  | some x => exact ⟨x.1, x.2.1, x.2.2.1, x.2.2.2.1, x.2.2.2.2, rfl, h⟩
theorem Ae {e : Bool} {p q : Option α} {r} (h : (if e = true then p else q) = some r) : (e = true ∧ p = some r) ∨ (e = false ∧ q = some r) := by
  cases e with
  | true => exact .inl ⟨rfl, h⟩
  | false => exact .inr ⟨rfl, h⟩
def fU (f : α → Option γ) (g : β → Option γ) : α ⊕ β → Option γ
  | .inl a => f a
  | .inr b => g b
theorem Ug {f : α → Option γ} {g : β → Option γ} {s : α ⊕ β} {r} (h : fU f g s = some r) : (∃ x, s = .inl x ∧ f x = some r) ∨ (∃ x, s = .inr x ∧ g x = some r) := by
  cases s with
  | inl x => exact .inl ⟨x, rfl, h⟩
  | inr x => exact .inr ⟨x, rfl, h⟩
def tC (f : α → β → γ) (x : α × β) : γ := f x.1 x.2
def tD (f : α → β → γ → δ) (x : α × β × γ) : δ := f x.1 x.2.1 x.2.2
def tE (f : α → β → γ → δ → ε) (x : α × β × γ × δ) : ε := f x.1 x.2.1 x.2.2.1 x.2.2.2
def tF (f : α → β → γ → δ → ε → ζ) (x : α × β × γ × δ × ε) : ζ := f x.1 x.2.1 x.2.2.1 x.2.2.2.1 x.2.2.2.2
theorem Am {a a' : α} (h : some a = some a') : a = a' := Option.some.inj h
theorem Ar {a a' : α} {b b' : β} (h : some (a, b) = some (a', b')) : a = a' ∧ b = b' := by cases h; exact ⟨rfl, rfl⟩
theorem U6 {a a' : α} {b b' : β} {c c' : γ} (h : some (a, b, c) = some (a', b', c')) : a = a' ∧ b = b' ∧ c = c' := by cases h; exact ⟨rfl, rfl, rfl⟩
def cpy (xs : List α) (lo : Nat) (ys : List α) : List α := A6 xs lo (ys.take (xs.length - lo))
def gi (xs : List α) (i : Int) : Option α := if 0 ≤ i then xs[i.toNat]? else none
theorem fV {xs : List α} {i : Int} {x : α} (h : gi xs i = some x) : 0 ≤ i ∧ xs[i.toNat]? = some x := by
  unfold gi at h
  split at h
  · exact ⟨‹_›, h⟩
  · cases h
def si (xs : List α) (i : Int) (x : α) : Option (List α) := if 0 ≤ i ∧ i.toNat < xs.length then some (xs.set i.toNat x) else none
theorem pO {xs : List α} {i : Int} {x : α} {ys} (h : si xs i x = some ys) : 0 ≤ i ∧ i.toNat < xs.length ∧ ys = xs.set i.toNat x := by
  unfold si at h
  split at h
  · rename_i hh; cases h; exact ⟨hh.1, hh.2, rfl⟩
  · cases h
def app (zb : Nat) (xs ys : List α) : Option (List α) := if (xs.length + ys.length) * zb ≤ Ml then some (xs ++ ys) else none
theorem nW {zb : Nat} {xs ys zs : List α} (h : app zb xs ys = some zs) : (xs.length + ys.length) * zb ≤ Ml ∧ zs = xs ++ ys := by
  unfold app at h
  split at h
  · cases h; exact ⟨‹_›, rfl⟩
  · cases h
def mks (zb : Nat) (n m : Int) (x : α) : Option (List α) := if 0 ≤ n ∧ n ≤ m ∧ m * zb ≤ Ml ∧ m < 2 ^ 63 then some (List.replicate n.toNat x) else none
theorem nX {zb : Nat} {n m : Int} {x : α} {xs} (h : mks zb n m x = some xs) : 0 ≤ n ∧ n ≤ m ∧ m * zb ≤ Ml ∧ m < 2 ^ 63 ∧ xs = List.replicate n.toNat x := by
  unfold mks at h
  split at h
  · rename_i hh; cases h; exact ⟨hh.1, hh.2.1, hh.2.2.1, hh.2.2.2, rfl⟩
  · cases h
def cut (xs : List α) (lo hi : Int) : Option (List α) := if 0 ≤ lo ∧ lo ≤ hi ∧ hi ≤ xs.length then some ((xs.take hi.toNat).drop lo.toNat) else none
theorem bR {xs ys : List α} {lo hi : Int} (h : cut xs lo hi = some ys) : 0 ≤ lo ∧ lo ≤ hi ∧ hi ≤ xs.length ∧ ys = (xs.take hi.toNat).drop lo.toNat := by
  unfold cut at h
  split at h
  · rename_i hh; cases h; exact ⟨hh.1, hh.2.1, hh.2.2, rfl⟩
  · cases h
def Zo (k : IntKind) (a b : Int) : Option Int := if b = 0 then none else some (k.wrap (a.tdiv b))
def Rm (k : IntKind) (a b : Int) : Option Int := if b = 0 then none else some (a.tmod b)
def Qz (k : IntKind) (a b : Int) : Option Int := if b < 0 then none else some (k.wrap (a * 2 ^ min b.toNat k.bits))
def dW (k : IntKind) (a b : Int) : Option Int := if b < 0 then none else some (a.fdiv (2 ^ min b.toNat k.bits))
/-! arrays -/
structure Arr (n : Nat) (α : Type) where
  l : List α
  h : l.length = n
def Arr.g [Inhabited α] {n : Nat} (a : Arr n α) (j : Nat) : α := a.l[j]?.getD default
def Ij (l : List α) : Arr l.length α := ⟨l, rfl⟩
def ga {n : Nat} (a : Arr n α) (i : Int) : Option α := if 0 ≤ i then a.l[i.toNat]? else none
def sa {n : Nat} (a : Arr n α) (i : Int) (x : α) : Option (Arr n α) := if 0 ≤ i ∧ i < n then some ⟨a.l.set i.toNat x, by rw [List.length_set, a.h]⟩ else none
instance [Inhabited α] {n : Nat} : Inhabited (Arr n α) := ⟨⟨List.replicate n default, by simp⟩⟩
theorem Yv [Inhabited α] {n : Nat} {a : Arr n α} {i : Int} {x : α} (h : ga a i = some x) : 0 ≤ i ∧ i < n ∧ x = a.g i.toNat := by
  unfold ga at h
  split at h
  · rename_i h0
    have := (List.getElem?_eq_some_iff.1 h).1
    exact ⟨h0, by have := a.h; omega, by unfold Arr.g; rw [h]; rfl⟩
  · cases h
theorem bS [Inhabited α] {n : Nat} {a b : Arr n α} {i : Int} {x : α} (h : sa a i x = some b) : 0 ≤ i ∧ i < n ∧ ∀ j, b.g j = if j = i.toNat then x else a.g j := by
  unfold sa at h
  split at h
  · rename_i h0
    cases h
    refine ⟨h0.1, h0.2, fun j => ?_⟩
    have := a.h
    unfold Arr.g
    rw [List.getElem?_set]
    split
    · rename_i e; subst e
      rw [if_pos rfl, if_pos (by omega)]; rfl
    · rename_i e; rw [if_neg (Ne.symm e)]
  · cases h
/-! more of them -/
theorem aM {α β γ δ ε : Type} {x0 x0' : α} {x1 x1' : β} {x2 x2' : γ} {x3 x3' : δ} {x4 x4' : ε} (h : some (x0, x1, x2, x3, x4) = some (x0', x1', x2', x3', x4')) : x0 = x0' ∧ x1 = x1' ∧ x2 = x2' ∧ x3 = x3' ∧ x4 = x4' := by cases h; exact ⟨rfl, rfl, rfl, rfl, rfl⟩
def tG {α β γ δ ε ζ ω : Type} (f : α → β → γ → δ → ε → ζ → ω) (y : α × β × γ × δ × ε × ζ) : ω := f y.1 y.2.1 y.2.2.1 y.2.2.2.1 y.2.2.2.2.1 y.2.2.2.2.2
def sW {α β γ δ ε ζ η ω : Type} (q : Option (α × β × γ × δ × ε × ζ × η)) (k : α → β → γ → δ → ε → ζ → η → Option ω) : Option ω := match q with
  | some (x0, x1, x2, x3, x4, x5, x6) => k x0 x1 x2 x3 x4 x5 x6
  | none => none
def tH {α β γ δ ε ζ η ω : Type} (f : α → β → γ → δ → ε → ζ → η → ω) (y : α × β × γ × δ × ε × ζ × η) : ω := f y.1 y.2.1 y.2.2.1 y.2.2.2.1 y.2.2.2.2.1 y.2.2.2.2.2.1 y.2.2.2.2.2.2
def sX {α β γ δ ε ζ η θ ω : Type} (q : Option (α × β × γ × δ × ε × ζ × η × θ)) (k : α → β → γ → δ → ε → ζ → η → θ → Option ω) : Option ω := match q with
  | some (x0, x1, x2, x3, x4, x5, x6, x7) => k x0 x1 x2 x3 x4 x5 x6 x7
  | none => none
def tI {α β γ δ ε ζ η θ ω : Type} (f : α → β → γ → δ → ε → ζ → η → θ → ω) (y : α × β × γ × δ × ε × ζ × η × θ) : ω := f y.1 y.2.1 y.2.2.1 y.2.2.2.1 y.2.2.2.2.1 y.2.2.2.2.2.1 y.2.2.2.2.2.2.1 y.2.2.2.2.2.2.2
def sY {α β γ δ ε ζ η θ ι ω : Type} (q : Option (α × β × γ × δ × ε × ζ × η × θ × ι)) (k : α → β → γ → δ → ε → ζ → η → θ → ι → Option ω) : Option ω := match q with
  | some (x0, x1, x2, x3, x4, x5, x6, x7, x8) => k x0 x1 x2 x3 x4 x5 x6 x7 x8
  | none => none
def tJ {α β γ δ ε ζ η θ ι ω : Type} (f : α → β → γ → δ → ε → ζ → η → θ → ι → ω) (y : α × β × γ × δ × ε × ζ × η × θ × ι) : ω := f y.1 y.2.1 y.2.2.1 y.2.2.2.1 y.2.2.2.2.1 y.2.2.2.2.2.1 y.2.2.2.2.2.2.1 y.2.2.2.2.2.2.2.1 y.2.2.2.2.2.2.2.2
def qZ {α β γ δ ε ζ η θ ι κ ω : Type} (q : Option (α × β × γ × δ × ε × ζ × η × θ × ι × κ)) (k : α → β → γ → δ → ε → ζ → η → θ → ι → κ → Option ω) : Option ω := match q with
  | some (x0, x1, x2, x3, x4, x5, x6, x7, x8, x9) => k x0 x1 x2 x3 x4 x5 x6 x7 x8 x9
  | none => none
def sZ {α β γ δ ε ζ η θ ι κ ω : Type} (f : α → β → γ → δ → ε → ζ → η → θ → ι → κ → ω) (y : α × β × γ × δ × ε × ζ × η × θ × ι × κ) : ω := f y.1 y.2.1 y.2.2.1 y.2.2.2.1 y.2.2.2.2.1 y.2.2.2.2.2.1 y.2.2.2.2.2.2.1 y.2.2.2.2.2.2.2.1 y.2.2.2.2.2.2.2.2.1 y.2.2.2.2.2.2.2.2.2
def rA {α β γ δ ε ζ η θ ι κ μ ω : Type} (q : Option (α × β × γ × δ × ε × ζ × η × θ × ι × κ × μ)) (k : α → β → γ → δ → ε → ζ → η → θ → ι → κ → μ → Option ω) : Option ω := match q with
  | some (x0, x1, x2, x3, x4, x5, x6, x7, x8, x9, x10) => k x0 x1 x2 x3 x4 x5 x6 x7 x8 x9 x10
  | none => none
def tA {α β γ δ ε ζ η θ ι κ μ ω : Type} (f : α → β → γ → δ → ε → ζ → η → θ → ι → κ → μ → ω) (y : α × β × γ × δ × ε × ζ × η × θ × ι × κ × μ) : ω := f y.1 y.2.1 y.2.2.1 y.2.2.2.1 y.2.2.2.2.1 y.2.2.2.2.2.1 y.2.2.2.2.2.2.1 y.2.2.2.2.2.2.2.1 y.2.2.2.2.2.2.2.2.1 y.2.2.2.2.2.2.2.2.2.1 y.2.2.2.2.2.2.2.2.2.2
def rB {α β γ δ ε ζ η θ ι κ μ ν ω : Type} (q : Option (α × β × γ × δ × ε × ζ × η × θ × ι × κ × μ × ν)) (k : α → β → γ → δ → ε → ζ → η → θ → ι → κ → μ → ν → Option ω) : Option ω := match q with
  | some (x0, x1, x2, x3, x4, x5, x6, x7, x8, x9, x10, x11) => k x0 x1 x2 x3 x4 x5 x6 x7 x8 x9 x10 x11
  | none => none
def tB {α β γ δ ε ζ η θ ι κ μ ν ω : Type} (f : α → β → γ → δ → ε → ζ → η → θ → ι → κ → μ → ν → ω) (y : α × β × γ × δ × ε × ζ × η × θ × ι × κ × μ × ν) : ω := f y.1 y.2.1 y.2.2.1 y.2.2.2.1 y.2.2.2.2.1 y.2.2.2.2.2.1 y.2.2.2.2.2.2.1 y.2.2.2.2.2.2.2.1 y.2.2.2.2.2.2.2.2.1 y.2.2.2.2.2.2.2.2.2.1 y.2.2.2.2.2.2.2.2.2.2.1 y.2.2.2.2.2.2.2.2.2.2.2
/-! loops -/
def P2 {σ ρ : Type} (f : σ → Option (σ ⊕ ρ)) : Nat → σ → Option ρ
  | 0, _ => none
  | k + 1, s => match f s with
    | some (.inl s') => P2 f k s'
    | some (.inr r) => some r
    | none => none
open Classical in
noncomputable def Ik {σ ρ : Type} (f : σ → Option (σ ⊕ ρ)) (s : σ) : Option ρ := if h : ∃ r k, P2 f k s = some r then some h.choose else none
theorem Tr {σ ρ : Type} {f : σ → Option (σ ⊕ ρ)} : ∀ (k k' : Nat) s r, k ≤ k' → P2 f k s = some r → P2 f k' s = some r
  | 0, _, s, r, _, h => by cases h
  | k + 1, 0, s, r, hk, h => by omega
  | k + 1, k' + 1, s, r, hk, h => by
    simp only [P2] at h ⊢
    split at h
    · exact Tr k k' _ r (by omega) h
    · exact h
    · cases h
theorem U7 {σ ρ : Type} {f : σ → Option (σ ⊕ ρ)} {s r} (h : Ik f s = some r) : ∃ k, P2 f k s = some r := by
  unfold Ik at h
  split at h
  · rename_i hk; cases h; exact hk.choose_spec
  · cases h
theorem Yw {σ ρ : Type} {f : σ → Option (σ ⊕ ρ)} {s r k} (h : P2 f k s = some r) : Ik f s = some r := by
  have hk : ∃ r k, P2 f k s = some r := ⟨r, k, h⟩
  unfold Ik
  rw [dif_pos hk]
  obtain ⟨k', hk'⟩ := hk.choose_spec
  have h1 := Tr k (max k k') s r (Nat.le_max_left _ _) h
  have h2 := Tr k' (max k k') s _ (Nat.le_max_right _ _) hk'
  rw [h1] at h2
  exact h2.symm
theorem Gb {σ ρ : Type} (f : σ → Option (σ ⊕ ρ)) (s : σ) : Ik f s = match f s with
    | some (.inl s') => Ik f s'
    | some (.inr r) => some r
    | none => none := by
  cases h : Ik f s with
  | some r =>
    obtain ⟨k, hk⟩ := U7 h
    cases k with
    | zero => cases hk
    | succ k =>
      simp only [P2] at hk
      split at hk
      · exact (Yw hk).symm
      · exact hk.symm
      · cases hk
  | none =>
    split
    · rename_i s' hs
      cases h2 : Ik f s' with
      | none => rfl
      | some r =>
        obtain ⟨k, hk⟩ := U7 h2
        rw [Yw (k := k + 1) (r := r) (by simp only [P2, hs]; exact hk)] at h
        cases h
    · rename_i r hs
      rw [Yw (k := 1) (r := r) (by simp only [P2, hs])] at h
      cases h
    · rfl
theorem Rn {σ ρ : Type} {f : σ → Option (σ ⊕ ρ)} {s s' : σ} (h : f s = some (.inl s')) : Ik f s = Ik f s' := by rw [Gb, h]
theorem Ob {σ ρ : Type} {f : σ → Option (σ ⊕ ρ)} {s : σ} {r : ρ} (h : f s = some (.inr r)) : Ik f s = some r := by rw [Gb, h]
end
/-! how values stand in cells -/
def eI (k : IntKind) (n : Int) : List AV := [.int k n]
def eB (b : Bool) : List AV := [.bool b]
def eS (b : ByteArray) : List AV := [.str b]
def eP (p : Ptr) : List AV := [p.av]
def eL {α : Type} (z : Nat) (E : α → List AV) (xs : List α) : List AV := [.sl z (xs.map E)]
def eA {α : Type} [Inhabited α] (n : Nat) (E : α → List AV) (a : Arr n α) : List AV := (List.range n).flatMap fun j => E (a.g j)
/-! the heap -/
def Ct (H : Ah) (i off n : Nat) : Option (List MC) := match H[i]? with
  | some o => Cy o off n
  | none => none
def Dt (H : Ah) (i off : Nat) (cs : List MC) : Ah := match H[i]? with
  | some o => H.set i (A6 o off cs)
  | none => H
section
variable {H : Ah} {i o N k n : Nat} {cs new : List MC}
theorem Oo (h : Ct H i o n = some cs) : ∃ c, H[i]? = some c ∧ o + n ≤ c.length ∧ cs = (c.drop o).take n ∧ cs.length = n := by
  unfold Ct at h
  split at h
  · rename_i c hc
    unfold Cy at h
    split at h
    · rename_i hl
      cases h
      exact ⟨c, hc, hl, rfl, by simp; omega⟩
    · cases h
  · cases h
theorem Wu {c : List MC} (h : H[i]? = some c) (hl : o + n ≤ c.length) : Ct H i o n = some ((c.drop o).take n) := by
  unfold Ct Cy
  rw [h]
  simp [hl]
theorem Oq (V : Ct H i o N = some cs) (k n : Nat) (h : k + n ≤ N) : Ct H i (o + k) n = some ((cs.drop k).take n) := by
  obtain ⟨c, h1, h2, rfl, _⟩ := Oo V
  rw [Wu h1 (by omega)]
  congr 1
  rw [List.drop_take, List.drop_drop, List.take_take, Nat.min_eq_left (by omega)]
theorem U8 {α : Type} {cs new : List α} {off : Nat} (h : off + new.length ≤ cs.length) : (A6 cs off new).length = cs.length := by
  simp [A6]; omega
theorem N6 {c : List MC} (h : H[i]? = some c) (off : Nat) (cs : List MC) : Dt H i off cs = H.set i (A6 c off cs) := by
  unfold Dt; rw [h]
theorem Bv (V : Ct H i o N = some cs) (hn : new.length = N) : Ct (Dt H i o new) i o N = some new := by
  obtain ⟨c, h1, h2, rfl, _⟩ := Oo V
  have hi : i < H.length := (List.getElem?_eq_some_iff.1 h1).1
  rw [N6 h1, Wu (c := A6 c o new) (by simp [hi]) (by rw [U8 (by omega)]; exact h2)]
  congr 1
  subst hn
  apply List.ext_getElem?
  intro j
  have e : min o c.length = o := by omega
  simp only [A6, List.getElem?_append, List.length_append, List.length_take, List.getElem?_take, List.getElem?_drop, List.length_drop, e]
  grind
theorem dX {α : Type} {cs a b : List α} {o k : Nat} (h1 : o + a.length ≤ cs.length) (h2 : k + b.length ≤ a.length) : A6 (A6 cs o a) (o + k) b = A6 cs o (A6 a k b) := by
  apply List.ext_getElem?
  intro j
  have e0 : min o cs.length = o := by omega
  have e1 : min k a.length = k := by omega
  simp only [A6, List.getElem?_append, List.length_append, List.length_take, List.getElem?_take, List.getElem?_drop, List.length_drop, e0, e1]
  grind
theorem Lw (V : Ct H i o N = some cs) (hc : new.length = N) {k : Nat} {b : List MC} (h : k + b.length ≤ N) : Dt (Dt H i o new) i (o + k) b = Dt H i o (A6 new k b) := by
  obtain ⟨c, h1, h2, rfl, _⟩ := Oo V
  have hi : i < H.length := (List.getElem?_eq_some_iff.1 h1).1
  rw [N6 h1, N6 h1, N6 (c := A6 c o new) (by simp [hi]), List.set_set, dX (by omega) (by omega)]
theorem kB (V : Ct H i o N = some cs) : Dt H i o cs = H := by
  obtain ⟨c, h1, h2, rfl, _⟩ := Oo V
  rw [N6 h1]
  have : A6 c o (List.take N (List.drop o c)) = c := by
    apply List.ext_getElem?
    intro j
    simp only [A6, List.getElem?_append, List.length_append, List.length_take, List.getElem?_take, List.getElem?_drop, List.length_drop]
    grind
  rw [this]
  apply List.ext_getElem?
  intro j
  by_cases hj : j = i
  · subst hj; rw [h1]; simp [(List.getElem?_eq_some_iff.1 h1).1]
  · simp [List.getElem?_set, Ne.symm hj]
theorem Cd (V : Ct H i o N = some cs) {k : Nat} {b : List MC} (h : k + b.length ≤ N) : Dt H i (o + k) b = Dt H i o (A6 cs k b) := by
  obtain ⟨_, _, _, _, hl⟩ := Oo V
  have := Lw V hl h
  rw [kB V] at this
  exact this
theorem Ts {j off m : Nat} (h : i ≠ j) : Ct (Dt H i o new) j off m = Ct H j off m := by
  unfold Dt
  split
  · unfold Ct; rw [List.getElem?_set_ne h]
  · rfl
theorem dY : (Dt H i o new).length = H.length := by
  unfold Dt
  split <;> simp
theorem nY (V : Ct H i o N = some cs) : i < H.length := by
  obtain ⟨c, h1, _⟩ := Oo V
  exact (List.getElem?_eq_some_iff.1 h1).1
theorem lX {new : List (List MC)} (V : Ct H i o N = some cs) : Ct (H ++ new) i o N = some cs := by
  obtain ⟨c, h1, h2, rfl, _⟩ := Oo V
  exact Wu (by rw [List.getElem?_append_left (List.getElem?_eq_some_iff.1 h1).1]; exact h1) h2
open Classical in
noncomputable def O9 {α : Type} (en : α → List MC) (n : Nat) (H : Ah) (i o : Nat) : Option α := if h : ∃ x, Ct H i o n = some (en x) then some h.choose else none
theorem Bb {α : Type} {en : α → List MC} {x : α} (h : O9 en n H i o = some x) : Ct H i o n = some (en x) := by
  unfold O9 at h
  split at h
  · rename_i hx; cases h; exact hx.choose_spec
  · cases h
theorem P3 {α : Type} {en : α → List MC} (inj : ∀ x y, en x = en y → x = y) {x : α} (h : Ct H i o n = some (en x)) : O9 en n H i o = some x := by
  have hx : ∃ x, Ct H i o n = some (en x) := ⟨x, h⟩
  unfold O9
  rw [dif_pos hx]
  exact congrArg some (inj _ _ (Option.some.inj (hx.choose_spec.symm.trans h)))
theorem lY {cs : List MC} : Ct (H ++ [cs]) H.length 0 cs.length = some cs := by
  rw [Wu (c := cs) (by simp) (by simp)]
  simp
end
end Go.Proofs.Abs
namespace Go.Proofs.Abs
open Go
set_option linter.unusedVariables false
set_option linter.unusedSimpArgs false
def rC (q : Option (Ex × St)) (N : St → Prop) (E : Nat → St → Prop) (R : St → Prop) : Prop := match q with
  | some (.nrm, s) => N s
  | some (.exit i, s) => E i s
  | some (.ret, s) => R s
  | none => False
structure wpC (q : Option (Ex × St)) (N : St → Prop) (E : Nat → St → Prop) (R : St → Prop) : Prop where
  h : rC q N E R
def fW (id : Nat) (N : St → Prop) (E : Nat → St → Prop) (j : Nat) (s : St) : Prop := if j = id then N s else E j s
theorem Qm {id : Nat} {N : St → Prop} {E : Nat → St → Prop} {s : St} (h : N s) : fW id N E id s := by unfold fW; rw [if_pos rfl]; exact h
theorem qN {id i : Nat} {N : St → Prop} {E : Nat → St → Prop} {s : St} (h : Nat.beq i id = false) (k : E i s) : fW id N E i s := by
  unfold fW
  rw [if_neg (fun e => by subst e; simp at h)]; exact k
section
variable {X : Cx} {pu : Pu} {st : Bool} {fn id i : Nat} {ops : List Oper} {s s1 s2 s' : St} {N : St → Prop} {E : Nat → St → Prop} {R : St → Prop} {c c' : Code}
noncomputable abbrev ev (X : Cx) (pu : Pu) (fn : Nat) (c : Code) (s : St) : Option (Ex × St) := evC X pu (evS X) N2 fn c s
theorem R7 {q : Option (Ex × St)} (h : wpC q N E R) : ∃ e t, q = some (e, t) ∧ wpC (some (e, t)) N E R := by
  cases q with
  | none => exact h.h.elim
  | some x => exact ⟨x.1, x.2, rfl, h⟩
theorem nZ {q : Option (Ex × St)} {N' E' R'} (h : wpC q N E R) (hN : ∀ s, N s → N' s) (hE : ∀ i s, E i s → E' i s) (hR : ∀ s, R s → R' s) : wpC q N' E' R' := by
  obtain ⟨e, t, rfl, h⟩ := R7 h
  cases e with
  | nrm => exact ⟨hN _ h.h⟩
  | exit i => exact ⟨hE _ _ h.h⟩
  | ret => exact ⟨hR _ h.h⟩
theorem Ag (h : wpC (ev X pu fn c s) (fun t => wpC (ev X pu fn c' t) N E R) E R) : wpC (ev X pu fn (.seq c c') s) N E R := by
  obtain ⟨e, t, he, h⟩ := R7 h
  simp only [ev] at he
  simp only [ev, evC, he]
  cases e with
  | nrm => exact h.h
  | exit i => exact ⟨h.h⟩
  | ret => exact ⟨h.h⟩
theorem Ao (h : N s) : wpC (ev X pu fn .skip s) N E R := ⟨h⟩
theorem Ph (h : E i s) : wpC (ev X pu fn (.exit i) s) N E R := ⟨h⟩
theorem Au (h : R s) : wpC (ev X pu fn .ret s) N E R := ⟨h⟩
theorem Bt (h : wpC (ev X pu fn c s) N (fW id N E) R) : wpC (ev X pu fn (.block id c) s) N E R := by
  obtain ⟨e, t, he, h⟩ := R7 h
  simp only [ev] at he
  simp only [ev, evC, he]
  cases e with
  | nrm => exact ⟨h.h⟩
  | ret => exact ⟨h.h⟩
  | exit i =>
    have h : fW id N E i t := h.h
    unfold fW at h
    simp only [pH]
    split
    · rename_i e; rw [if_pos e] at h; exact ⟨h⟩
    · rename_i e; rw [if_neg e] at h; exact ⟨h⟩
theorem oA {x : Operand} {m : Md} (h : opnd X.P s 0 x = some (.one m (.bool true))) (hs : s.drop (X.deadC fn (Zj x c c') true) = s1) (k : wpC (ev X pu fn c s1) N E R) : wpC (ev X pu fn (.cond x c c') s) N E R := by
  subst hs
  simp only [ev, evC, h, Z1]
  exact k
theorem oB {x : Operand} {m : Md} (h : opnd X.P s 0 x = some (.one m (.bool false))) (hs : s.drop (X.deadC fn (Zj x c c') false) = s1) (k : wpC (ev X pu fn c' s1) N E R) : wpC (ev X pu fn (.cond x c c') s) N E R := by
  subst hs
  simp only [ev, evC, h, Z1]
  exact k
theorem rD {x : Operand} {m : Md} {b : Bool} (hb : b = true) (h : opnd X.P s 0 x = some (.one m (.bool b))) (hs : s.drop (X.deadC fn (Zj x c c') true) = s1) (k : wpC (ev X pu fn c s1) N E R) : wpC (ev X pu fn (.cond x c c') s) N E R := by subst hb; exact oA h hs k
theorem rE {x : Operand} {m : Md} {b : Bool} (hb : b = false) (h : opnd X.P s 0 x = some (.one m (.bool b))) (hs : s.drop (X.deadC fn (Zj x c c') false) = s1) (k : wpC (ev X pu fn c' s1) N E R) : wpC (ev X pu fn (.cond x c c') s) N E R := by subst hb; exact oB h hs k
theorem bT {q : Ex × St} (h : q = (.exit i, s)) (k : E i s) : wpC (some q) N E R := by subst h; exact ⟨k⟩
theorem oC {q : Ex × St} (h : q = (.ret, s)) (k : R s) : wpC (some q) N E R := by subst h; exact ⟨k⟩
theorem As {α : Type} {q : Option (Ex × St)} (S : α → St) (P : α → Prop) (h1 : ∀ x, P x → N (S x)) (h2 : wpC q (fun t => ∃ x, P x ∧ t = S x) E R) : wpC q N E R :=
  nZ h2 (fun t ⟨x, hx, e⟩ => by subst e; exact h1 x hx) (fun _ _ h => h) (fun _ h => h)
theorem Ax (b : Bool) : b = true ∨ b = false := by cases b <;> simp
theorem fX {α β γ : Type} (f : α → β → γ) {a a' : α} {b b' : β} (h : a = a') (k : b = b') : f a b = f a' b' := by subst h k; rfl
theorem aN (s1 : St) {ops : Array Oper} (h : cV (X.dead fn id) (Jw X pu (evS X) fn id ops.toList 0 ops.toList (some s)) = some (.nrm, s1)) (k : N s1) : wpC (ev X pu fn (.region id ops false) s) N E R := by
  simp only [ev, evC, Bool.false_eq_true, if_false, h]
  exact ⟨k⟩
/-! regions, step by step -/
def Uh (X : Cx) (pu : Pu) (fn id : Nat) (ops : List Oper) (i : Nat) (s s2 : St) : Prop := ∃ t, Jw X pu (evS X) fn id ops i (ops.drop i) (some s) = some t ∧ t.drop (X.dead fn id) = s2
theorem Aj {ops : Array Oper} (s2 : St) (h : Uh X pu fn id ops.toList 0 s s2) (k : N s2) : wpC (ev X pu fn (.region id ops false) s) N E R := by
  obtain ⟨t, h1, h2⟩ := h
  refine aN s2 ?_ k
  rw [List.drop_zero] at h1
  rw [h1, ← h2]; rfl
theorem qO (h : Nat.ble ops.length i = true) (hs : s.drop (X.dead fn id) = s2) : Uh X pu fn id ops i s s2 := by
  refine ⟨s, ?_, hs⟩
  rw [List.drop_eq_nil_of_le (Nat.le_of_ble_eq_true h)]; rfl
theorem Bd (h : s = s') (k : Uh X pu fn id ops i s' s2) : Uh X pu fn id ops i s s2 := by subst h; exact k
theorem Bw (h : s' = s2) (k : Uh X pu fn id ops i s s') : Uh X pu fn id ops i s s2 := by subst h; exact k
theorem Ui {l' : List Oper} : ∀ (l : List Oper) (i : Nat) (q : Option St), Jw X pu (evS X) fn id ops i (l ++ l') q = Jw X pu (evS X) fn id ops (i + l.length) l' (Jw X pu (evS X) fn id ops i l q)
  | [], i, q => by cases q <;> simp [Jw]
  | o :: l, i, none => by
    rw [List.cons_append]
    cases l' <;> rfl
  | o :: l, i, some t => by
    rw [List.cons_append]
    simp only [Jw]
    rw [Ui l]
    simp only [List.length_cons]
    congr 1; omega
theorem qP (j : Nat) (s1 : St) (hj : Nat.ble (i + j) ops.length = true) (h : Jw X pu (evS X) fn id ops i ((ops.drop i).take j) (some s) = some s1) (k : Uh X pu fn id ops (i + j) s1 s2) : Uh X pu fn id ops i s s2 := by
  obtain ⟨t, h1, h2⟩ := k
  refine ⟨t, ?_, h2⟩
  have hj := Nat.le_of_ble_eq_true hj
  have e : ops.drop i = (ops.drop i).take j ++ ops.drop (i + j) := by rw [← List.drop_drop, List.take_append_drop]
  rw [e, Ui, h]
  have : ((ops.drop i).take j).length = j := by simp; omega
  rw [this]; exact h1
theorem Ai (s1 : St) (h : Gz X pu (evS X) fn id ops i (some s) = some s1) (k : Uh X pu fn id ops (i + 1) s1 s2) : Uh X pu fn id ops i s s2 := by
  obtain ⟨t, h1, h2⟩ := k
  refine ⟨t, ?_, h2⟩
  simp only [Gz] at h
  split at h
  · rename_i o ho
    have hlt := (List.getElem?_eq_some_iff.1 ho)
    have e : ops.drop i = o :: ops.drop (i + 1) := by rw [List.drop_eq_getElem_cons hlt.1, hlt.2]
    rw [e]
    simp only [Jw, h]
    exact h1
  · cases h
/-! drawn regions -/
def Q0 (X : Cx) (pu : Pu) (st : Bool) (fn id : Nat) (ops : List Oper) (sch : Sch) (s s2 : St) : Prop := ∃ t, C9 X pu st (evS X) fn id ops sch (some s) = some t ∧ t.drop (X.dead fn id) = s2
theorem Bs {ops : Array Oper} (sch : Sch) (hsch : X.sch fn id = sch) (s2 : St) (h : Q0 X ⟨pu.ob || X.rpu fn id, pu.lc ++ X.rlc fn id⟩ (X.rst fn id) fn id ops.toList sch s s2) (k : N s2) : wpC (ev X pu fn (.region id ops true) s) N E R := by
  subst hsch
  obtain ⟨t, h1, h2⟩ := h
  simp only [ev, evC, if_true, h1, cV, h2]
  exact ⟨k⟩
theorem qQ (hs : s.drop (X.dead fn id) = s2) : Q0 X pu st fn id ops .done s s2 := ⟨s, rfl, hs⟩
theorem Aq {n : Sch} (s1 : St) (h : M6 X pu st (evS X) fn id ops i (some s) = some s1) (k : Q0 X pu st fn id ops n s1 s2) : Q0 X pu st fn id ops (.take i n) s s2 := by
  obtain ⟨t, h1, h2⟩ := k
  exact ⟨t, by simp only [C9, h]; exact h1, h2⟩
theorem Br {n : Sch} (s1 : St) (h : Gz X pu (evS X) fn id ops i (some s) = some s1) (k : Q0 X pu st fn id ops n s1 s2) : Q0 X pu st fn id ops (.last i n) s s2 := by
  obtain ⟨t, h1, h2⟩ := k
  exact ⟨t, by simp only [C9, h]; exact h1, h2⟩
theorem kC {sch : Sch} (sF : St) (h : C9 X pu st (evS X) fn id ops sch (some s) = some sF) (hs : sF.drop (X.dead fn id) = s2) : Q0 X pu st fn id ops sch s s2 := ⟨sF, h, hs⟩
theorem qR (h : s = s') : C9 X pu st (evS X) fn id ops .done (some s) = some s' := by subst h; rfl
theorem Tt {n : Sch} (s1 : St) (h : M6 X pu st (evS X) fn id ops i (some s) = some s1) (k : C9 X pu st (evS X) fn id ops n (some s1) = some s2) : C9 X pu st (evS X) fn id ops (.take i n) (some s) = some s2 := by
  simp only [C9, h]; exact k
theorem Cb {n : Sch} (s1 : St) (h : Gz X pu (evS X) fn id ops i (some s) = some s1) (k : C9 X pu st (evS X) fn id ops n (some s1) = some s2) : C9 X pu st (evS X) fn id ops (.last i n) (some s) = some s2 := by
  simp only [C9, h]; exact k
theorem P4 {n r : Sch} (s1 : St) (h : Gz X pu (evS X) fn id ops i (some s) = some s1) (k : C9 X pu st (evS X) fn id ops n (some s1) = some s2) (k2 : C9 X pu st (evS X) fn id ops r (some s) = some s2) : C9 X pu st (evS X) fn id ops (.alt i n r) (some s) = some s2 := by
  simp only [C9, h, k, k2]; exact Th _
theorem lZ {d : List Nat × List Nat} (h : s = s') (k : s'.drop d = s2) : s.drop d = s2 := by subst h; exact k
theorem Fi {sch : Sch} (h : s = s') (k : Q0 X pu st fn id ops sch s' s2) : Q0 X pu st fn id ops sch s s2 := by subst h; exact k
theorem Uj {sch : Sch} (h : s' = s2) (k : Q0 X pu st fn id ops sch s s') : Q0 X pu st fn id ops sch s s2 := by subst h; exact k
theorem oD {Y : Option St} {f : FuncId} {args : List TV} {H H' : Ah} {v : TV} {d : Option Tmp} {fz pure own : Bool} (s0 : St) (hc : evS X f args H = some (v, H')) (hr : Y = cS fz pure own d s0 (evS X f args H)) (hs : cS fz pure own d s0 (some (v, H')) = some s1) : Y = some s1 := by
  rw [hr, hc, hs]
theorem mA {ty : TypeId} {j o N k n : Nat} {cs : List MC} {agg : Bool} {v : TV} (V : Ct s.h j o N = some cs) (hT : Ez X.P ty = some agg) (hn : Dg X.P ty = some n) (hk : Nat.ble (k + n) N = true) (hv : mkT agg (((cs.drop k).take n).map fun c => (c.1.cpH, c.2)) = some v) :
    Mm X.P .cp ty (.obj j (o + k)) s = some (v, s) := by
  have h1 := Oq V k n (Nat.le_of_ble_eq_true hk)
  unfold Ct at h1
  split at h1
  · rename_i c hc
    simp only [Mm, hT, hn, hc, cR, h1, mkV, hv]
  · cases h1
theorem aO {Y : Option St} (s : St) (ty : TypeId) {j o N : Nat} {cs : List MC} (V : Ct s.h j o N = some cs) (k n : Nat) (agg : Bool) (v : TV) (d : Option Tmp) (hr : Y = Oe d (Mm X.P .cp ty (.obj j (o + k)) s)) (hT : Ez X.P ty = some agg) (hn : Dg X.P ty = some n) (hk : Nat.ble (k + n) N = true) (hv : mkT agg (((cs.drop k).take n).map fun c => (c.1.cpH, c.2)) = some v) (hs : Dc s d v = s1) : Y = some s1 := by
  rw [hr, mA V hT hn hk hv, ← hs]; rfl
theorem fY {Y : Option St} (s : St) (ty : TypeId) {j o N : Nat} {cs : List MC} {h2 : Ah} (V : Ct s.h j o N = some cs) (k n : Nat) (agg : Bool) (v : TV) (d : Option Tmp) (hr : Y = Oe d (Mm X.P .take ty (.obj j (o + k)) s)) (hT : Ez X.P ty = some agg) (hn : Dg X.P ty = some n) (hk : Nat.ble (k + n) N = true) (hv : mkT agg ((cs.drop k).take n) = some v)
    (hh : Dt s.h j (o + k) (((cs.drop k).take n).map Fz) = h2) (hs : Dc ({ s with h := h2 }.kill Id Cq) d v = s1) : Y = some s1 := by
  have h1 := Oq V k n (Nat.le_of_ble_eq_true hk)
  unfold Ct at h1
  split at h1
  · rename_i c hc
    rw [N6 hc] at hh
    rw [hr]
    simp only [Mm, hT, hn, hc, cR, h1, mkV, hv, Oe]
    rw [hh, hs]
  · cases h1
theorem fZ {Y : Option St} (s : St) (ty : TypeId) {j o N : Nat} {cs : List MC} (V : Ct s.h j o N = some cs) (k e z : Nat) (xs : List (List AV)) (d : Option Tmp) (hr : Y = Oe d (Mm X.P .place ty (.obj j (o + k)) s)) (hT : Ez X.P ty = some false) (hn : Dg X.P ty = some 1) (hk : Nat.ble (k + 1) N = true) (hv : (cs.drop k).take 1 = [(.own (e + 1), .sl z xs)])
    (hs : Dc s d (.one .top (.at_ (.obj j (o + k)) 0 xs.length)) = s1) : Y = some s1 := by
  have h1 := Oq V k 1 (Nat.le_of_ble_eq_true hk)
  rw [hv] at h1
  unfold Ct at h1
  split at h1
  · rename_i c hc
    rw [hr, ← hs]
    simp only [Mm, hT, hn, hc, cR, h1]
    rfl
  · cases h1
def mB (j off : Nat) (new old : List MC) (s : St) : St :=
  let s2 := if Cn new then s.kill D2 Cq else s
  if F8 new || F8 old then s2.kill Dx (O4 j off new.length) else s2
theorem G7 {lc : List Nat} {Y : Option St} (s : St) (ty : TypeId) {j o N : Nat} {cs : List MC} {h2 : Ah} (V : Ct s.h j o N = some cs) (k n : Nat) (v : TV) (hr : Y = N3 X.P ⟨false, lc⟩ ty (.obj j (o + k)) v s) (hn : Dg X.P ty = some n) (hk : Nat.ble (k + n) N = true) (hl : v.cells.length = n) (hv : Mi v = true) (hkp : v.cells.all Mj = true)
    (hh : Dt s.h j (o + k) v.cells = h2) (hs : mB j (o + k) v.cells ((cs.drop k).take n) { s with h := h2 } = s1) : Y = some s1 := by
  have h1 := Oq V k n (Nat.le_of_ble_eq_true hk)
  unfold Ct at h1
  split at h1
  · rename_i c hc
    rw [N6 hc] at hh
    rw [hr]
    simp only [N3, hn, hl, hv, and_self, if_true, hc, gO, h1, hkp, Bool.not_true, Bool.or_false, Bool.false_eq_true, if_false]
    rw [hh]
    subst hl
    exact congrArg some hs
  · cases h1
theorem qS {α : Type} {P : Program} {t e : TypeId} {z : Nat} {xs : List α} {En : α → List AV} {n : Int} {x : α} {m : Md} (hx : gi xs n = some x) (ht : P.underlying t = some (.slice e)) (hz : Dg P e = some z) :
    D5 P s t (.one m (.sl z (xs.map En))) n = some (.one .top (.rd m.cp m.inner.cp (En x) 0)) := by
  obtain ⟨h0, h1⟩ := fV hx
  simp only [D5, ht, hz, h0, true_and, if_true, List.getElem?_map, h1, Option.map_some, sc]
theorem P5 {α : Type} {Y : Option St} (s : St) (t e : TypeId) (z : Nat) {xs : List α} {n : Int} {x : α} (hx : gi xs n = some x) (En : α → List AV) (m : Md) (d : Option Tmp) (hr : Y = Gy s d (D5 X.P s t (.one m (.sl z (xs.map En))) n)) (ht : X.P.underlying t = some (.slice e)) (hz : Dg X.P e = some z)
    (hs : Dc s d (.one .top (.rd m.cp m.inner.cp (En x) 0)) = s1) : Y = some s1 := by
  rw [hr, qS hx ht hz, ← hs]; rfl
theorem bU {α : Type} {Y : Option St} (s : St) (t e : TypeId) (z : Nat) {xs : List α} {n : Int} {x : α} (hx : gi xs n = some x) (En : α → List AV) (r : Rt) (lo len : Nat) (q : Nat) (d : Option Tmp) (hr : Y = Gy s d (D5 X.P s t (.one .top (.at_ r lo len)) n)) (ht : X.P.underlying t = some (.slice e)) (hz : Dg X.P e = some z)
    (hat : Cs s r = some (.own (q + 1), .sl z (xs.map En))) (hlo : lo = 0) (hlen : len = xs.length) (hs : Dc s d (.one .top (.el r n.toNat 0)) = s1) : Y = some s1 := by
  obtain ⟨h0, h1⟩ := fV hx
  have h2 := (List.getElem?_eq_some_iff.1 h1).1
  subst hlo hlen
  rw [hr, ← hs]
  simp only [D5, ht, hz, hat, pD]
  rw [if_pos ⟨h0, by omega, trivial, by simpa using h2⟩]
  simp [Gy, sc]
theorem Yx {j o N k : Nat} {cs : List MC} {c : MC} (V : Ct s.h j o N = some cs) (hk : Nat.ble (k + 1) N = true) (hv : (cs.drop k).take 1 = [c]) : Cs s (.obj j (o + k)) = some c := by
  have h1 := Oq V k 1 (Nat.le_of_ble_eq_true hk)
  rw [hv] at h1
  unfold Ct at h1
  split at h1
  · rename_i c' hc
    show Bk (o + k) s.h[j]? = _
    rw [hc]
    obtain ⟨_, h2, h3⟩ := Da h1
    exact (by simpa using (h3 0 c rfl).2 : c'[o + k]? = some c)
  · cases h1
theorem bV {α : Type} {Y : Option St} (s : St) (xs : List α) (En : α → List AV) (d : Option Tmp) (hr : Y = some (Dc s d (.one .top (.int .i64 ((xs.map En).length : Nat))))) (hs : Dc s d (.one .top (.int .i64 (xs.length : Nat))) = s1) : Y = some s1 := by
  rw [List.length_map] at hr
  rw [hr, hs]
theorem Gu {α : Type} {Y : Option St} (s : St) (zb : Nat) {xs ys zs : List α} (hx : app zb xs ys = some zs) (aty bty e : TypeId) (z q : Nat) (ze : List MC) (my : Md) (En : α → List AV) (dp : Nat) (d : Option Tmp) (hr : Y = Oe d (iX s (Po X.P aty bty [.one (.own (q + 1)) (.sl z (xs.map En)), .one my (.sl z (ys.map En))])))
    (ht : X.P.underlying aty = some (.slice e)) (hz : Lr X.P e = some ze) (hb : iW X.P e = some zb) (hl : z = ze.length) (h0 : Nat.beq z 0 = false) (hb0 : Nat.beq zb 0 = false) (hbt : Pn X.P bty = true) (hd : Rv my (ys.map En) = some dp) (hlen : ∀ x, (En x).length = z)
    (hs : Dc s d (.one (.own (min q dp + 1)) (.sl z (zs.map En))) = s1) : Y = some s1 := by
  obtain ⟨k1, rfl⟩ := nW hx
  have e1 : z ≠ 0 := fun e => by subst e; cases h0
  have e2 : zb ≠ 0 := fun e => by subst e; cases hb0
  rw [hr, ← hs]
  simp only [Po, ht, hz, hb]
  rw [if_pos ⟨hl, trivial, e1, e2, hbt⟩, hd]
  simp only [bA]
  rw [if_pos ⟨by simpa using k1, by simp [T3, hlen]⟩]
  simp [iX, Oe]
theorem If {α : Type} {xs : List α} {En : α → List AV} {m : Md} (hm : Rv m [] = some 9) (h : ∀ x, (En x).all (fun a => a.scalar) = true) : Rv m (xs.map En) = some 9 := by
  have hf : Qa (xs.map En) = true := by
    simp [Qa]
    intro x _ a ha
    exact List.all_eq_true.1 (h x) a ha
  unfold Rv at hm ⊢
  split
  · exact hm
  · exact hm
  · rw [if_pos hf]
theorem mC {P : Program} {ty : TypeId} {x y : Operand} {m m' : Md} {k : IntKind} {a b : Int} : Kp P .quo ty x y (some (.one m (.int k a))) (some (.one m' (.int k b))) = (Zo k a b).map fun n => .one .top (.int k n) := by
  rw [nR]; unfold Zo; split <;> rfl
theorem bW {P : Program} {ty : TypeId} {x y : Operand} {m m' : Md} {k : IntKind} {a b : Int} : Kp P .rem ty x y (some (.one m (.int k a))) (some (.one m' (.int k b))) = (Rm k a b).map fun n => .one .top (.int k n) := by
  rw [nS]; unfold Rm; split <;> rfl
theorem bX {P : Program} {ty : TypeId} {x y : Operand} {m m' : Md} {k k' : IntKind} {a b : Int} : Kp P .shl ty x y (some (.one m (.int k a))) (some (.one m' (.int k' b))) = (Qz k a b).map fun n => .one .top (.int k n) := by
  rw [nT]; unfold Qz; split <;> rfl
theorem pP {P : Program} {ty : TypeId} {x y : Operand} {m m' : Md} {k k' : IntKind} {a b : Int} : Kp P .shr ty x y (some (.one m (.int k a))) (some (.one m' (.int k' b))) = (dW k a b).map fun n => .one .top (.int k n) := by
  rw [nU]; unfold dW; split <;> rfl
theorem Lx {Y : Option St} (s : St) (k : IntKind) {q : Option Int} {n : Int} (hq : q = some n) {Z : Option TV} (hw : Z = q.map fun n => .one .top (.int k n)) (d : Option Tmp) (hr : Y = Gy s d Z) (hs : Dc s d (.one .top (.int k n)) = s1) : Y = some s1 := by
  subst hq; rw [hr, hw, ← hs]; rfl
theorem Ro {Y : Option St} (s : St) {Z W : Option TV} {v : TV} (hw : Z = W) (hz : W = some v) (d : Option Tmp) (hr : Y = Gy s d Z) (hs : Dc s d v = s1) : Y = some s1 := by
  subst hw hz; rw [hr, ← hs]; rfl
theorem Wv {P : Program} {ty : TypeId} {x y : Operand} {m m' : Md} (p : Ptr) (h0 : Kp P .eql ty x y (some (.one m .nilp)) (some (.one m' .nilp)) = some (.one .top (.bool true))) (h1 : Zy P .eql ty = some (.one .top (.bool false))) :
    Kp P .eql ty x y (some (.one m p.av)) (some (.one m' .nilp)) = some (.one .top (.bool p.isNil)) := by
  cases p with
  | nil => exact h0
  | «at» i o => exact h1
theorem oE {P : Program} {ty : TypeId} {x y : Operand} {m m' : Md} (p : Ptr) (h0 : Kp P .neq ty x y (some (.one m .nilp)) (some (.one m' .nilp)) = some (.one .top (.bool false))) (h1 : Zy P .neq ty = some (.one .top (.bool true))) :
    Kp P .neq ty x y (some (.one m p.av)) (some (.one m' .nilp)) = some (.one .top (.bool (!p.isNil))) := by
  cases p with
  | nil => exact h0
  | «at» i o => exact h1
/-! loops -/
theorem Qn {σ ρ : Type} (enc : σ → St) (out : ρ → Ex × St) {body : σ → Option (σ ⊕ ρ)} {r : ρ} {x0 : σ} (hl : Ik body x0 = some r) (hs : s = enc x0)
    (hb : ∀ x o, body x = some o → wpC (ev X pu fn c (enc x)) (fun t => ∃ y, o = .inl y ∧ t = enc y) (fun i t => ∃ y, o = .inr y ∧ out y = (.exit i, t)) (fun t => ∃ y, o = .inr y ∧ out y = (.ret, t)))
    (hk : wpC (some (out r)) N E R) : wpC (ev X pu fn (.loop c) s) N E R := by
  subst hs
  obtain ⟨k, hk'⟩ := U7 hl
  have main : ∀ k x, P2 body k x = some r → N2 (ev X pu fn c) (enc x) = some (out r) := by
    intro k
    induction k with
    | zero => intro x h; cases h
    | succ k ih =>
      intro x h
      simp only [P2] at h
      split at h
      · rename_i x' hx
        obtain ⟨e, t, he, hw⟩ := R7 (hb x _ hx)
        cases e with
        | nrm =>
          obtain ⟨y, e1, e2⟩ : ∃ y, Sum.inl x' = Sum.inl y ∧ t = enc y := hw.h
          cases e1; subst e2
          exact jY he (ih _ h)
        | exit i =>
          obtain ⟨y, e1, e2⟩ : ∃ y, Sum.inl x' = Sum.inr y ∧ out y = (.exit i, t) := hw.h
          cases e1
        | ret =>
          obtain ⟨y, e1, e2⟩ : ∃ y, Sum.inl x' = Sum.inr y ∧ out y = (.ret, t) := hw.h
          cases e1
      · rename_i r' hx
        cases h
        obtain ⟨e, t, he, hw⟩ := R7 (hb x _ hx)
        cases e with
        | nrm =>
          obtain ⟨y, e1, e2⟩ : ∃ y, Sum.inr r = Sum.inl y ∧ t = enc y := hw.h
          cases e1
        | exit i =>
          obtain ⟨y, e1, e2⟩ : ∃ y, Sum.inr r = Sum.inr y ∧ out y = (.exit i, t) := hw.h
          cases e1
          rw [e2]
          exact aK he (by simp)
        | ret =>
          obtain ⟨y, e1, e2⟩ : ∃ y, Sum.inr r = Sum.inr y ∧ out y = (.ret, t) := hw.h
          cases e1
          rw [e2]
          exact aK he (by simp)
      · cases h
  have := main k x0 hk'
  show wpC (N2 (ev X pu fn c) (enc x0)) N E R
  rw [this]
  exact hk
/-! what is told of a program beside its text -/
def h0 : Nat → Hint := fun _ => {}
def hl (l : List Hint) (i : Nat) : Hint := l.getD i {}
structure RI where
  h : Nat → Hint := h0
  dead : List Nat × List Nat := ([], [])
  sch : Sch := .done
  rpu : Bool := false
  rlc : List Nat := []
  rst : Bool := false
structure FI where
  pure : Bool := false
  frz : Bool := false
  two : Bool := false
  regs : List (Nat × RI) := []
  conds : List ((Nat × Nat × Nat) × (List Nat × List Nat) × (List Nat × List Nat)) := []
def lkR : List (Nat × RI) → Nat → RI
  | [], _ => {}
  | (k, r) :: l, j => bif Nat.beq k j then r else lkR l j
def lkC : List ((Nat × Nat × Nat) × (List Nat × List Nat) × (List Nat × List Nat)) → Nat × Nat × Nat → Bool → List Nat × List Nat
  | [], _, _ => ([], [])
  | (k, a, b) :: l, j, w => bif Nat.beq k.1 j.1 && (Nat.beq k.2.1 j.2.1 && Nat.beq k.2.2 j.2.2) then (bif w then a else b) else lkC l j w
def mkX (P : Program) (fi : Nat → FI) : Cx := { P := P, sch := fun f r => (lkR (fi f).regs r).sch, rpu := fun f r => (lkR (fi f).regs r).rpu, rlc := fun f r => (lkR (fi f).regs r).rlc, rst := fun f r => (lkR (fi f).regs r).rst, hint := fun f r => (lkR (fi f).regs r).h, dead := fun f r => (lkR (fi f).regs r).dead, deadC := fun f t w => lkC (fi f).conds t w, pure := fun f => (fi f).pure, frz := fun f => (fi f).frz, two := fun f => (fi f).two }
/-! whole functions -/
def Fin (X : Cx) (f : Nat) (h : Ah) (rs : List ResultVar) (r : TV × Ah) (s : St) : Prop := iZ (X.frz f) (Og X.P (X.pure f) h rs (some (.ret, s))) = some r
theorem qT {f : FuncId} {args : List TV} {h : Ah} {r} {fu : Func} {c : Code} (hf : X.P.funcs[f]? = some fu) (hc : fu.body = some c) (hok : Xo X f fu c = true) (b : Bool) (hp : X.pure f = b) {s0 : St} (hs : { t := C7 0 args, l := [], h := h } = s0)
    (hr : wpC (ev X ⟨b, []⟩ f c s0) (Fin X f h fu.results.toList r) (fun _ _ => False) (Fin X f h fu.results.toList r)) : evS X f args h = some r := by
  subst hs hp
  refine nV hf hc hok ?_
  obtain ⟨e, t, he, hw⟩ := R7 hr
  simp only [ev] at he
  rw [he]
  cases e with
  | nrm => exact hw.h
  | exit i => exact hw.h.elim
  | ret => exact hw.h
theorem mD {f : Nat} {h : Ah} {rs : List ResultVar} {v v' : TV} (hv : results X.P rs s = some v) (hp : X.pure f = true) (hh : s.h.length = h.length) (hz : frzIf (X.frz f) v = v') : Fin X f h rs (v', h) s := by
  unfold Fin
  simp only [Og, hv, hp, if_true, hh, iZ, hz]
theorem iJ {f : Nat} {h : Ah} {rs : List ResultVar} {v v' : TV} (hv : results X.P rs s = some v) (hp : X.pure f = false) (hz : frzIf (X.frz f) v = v') : Fin X f h rs (v', s.h) s := by
  unfold Fin
  simp only [Og, hv, hp, Bool.false_eq_true, if_false, iZ, hz]
abbrev EN := Nat × TV
abbrev EB := Nat × List MC
def arM (k : IntKind) (n : Nat) {N : Nat} (a : Arr N Int) : List MC := (List.range n).map fun j => (.top, .int k (a.g j))
/-! functions that ask whether a slice is nil -/
section
variable {R : Type} {fin k : St → Option R} {r : R} {c' : Code}
end
end
end Go.Proofs.Abs
namespace Go.Proofs.Abs
open Go
set_option linter.unusedVariables false
set_option linter.unusedSimpArgs false
section
variable {X : Cx} {s1 : St} {α : Type}
theorem dZ {Y : Option St} (s : St) (zb : Nat) {n m : Int} {x : α} {xs : List α} (hx : mks zb n m x = some xs) (t e : TypeId) (z : Nat) (ze : List MC) (En : α → List AV) (nt : Nat) (k1 k2 : IntKind) (d : Option Tmp) (hr : Y = Gy s d (Zz X.P t (some (.one .top (.int k1 n))) (some (.one .top (.int k2 m)))))
    (ht : X.P.underlying t = some (.slice e)) (hz : Lr X.P e = some ze) (hs : Dg X.P e = some z) (hb : iW X.P e = some zb) (hl : ze.length = z) (h0 : Nat.beq z 0 = false) (hn : U0 X.P Ku e = nt) (hE : ze.map (·.2) = En x) (hs1 : Dc s d (.one (.own (nt + 1)) (.sl z (xs.map En))) = s1) : Y = some s1 := by
  obtain ⟨k1, k2, k3, k4, rfl⟩ := nX hx
  have e1 : z ≠ 0 := fun e => by subst e; cases h0
  rw [hr, ← hs1]
  simp only [Zz, ht, hz, hs, hb]
  rw [if_pos ⟨k1, k2, k3, k4, hl, e1⟩, hn, hE]
  simp [Gy]
def eC (P : Program) (s : St) (d : Int) (x : Option Operand) (n : Int) : Prop := match x with
  | none => n = d
  | some x => (opnd P s 0 x).bind T2 = some n
theorem Yy {P : Program} {s : St} {d hi : Nat} {x : Option Operand} {n : Int} (h : eC P s d x n) (h0 : 0 ≤ n) (h1 : n ≤ hi) : M5 P s d hi x = some n.toNat := by
  cases x with
  | none =>
    have h : n = d := h
    subst h; simp [M5]
  | some x =>
    have h : (opnd P s 0 x).bind T2 = some n := h
    simp only [M5]
    cases hv : opnd P s 0 x with
    | none => rw [hv] at h; cases h
    | some v =>
      rw [hv] at h
      have h : T2 v = some n := h
      simp [h, h0, h1]
theorem pQ {Y : Option St} (s : St) (t e z : Nat) {xs ys : List α} {lo hi : Int} (hy : cut xs lo hi = some ys) (En : α → List AV) (m : Md) (lo' hi' : Option Operand) (d : Option Tmp) (hr : Y = Oe d (Qb X.P t (.one m (.sl z (xs.map En))) lo' hi' s)) (ht : X.P.underlying t = some (.slice e)) (hz : Dg X.P e = some z) (hm : decide (m = .top) = false)
    (hlo : eC X.P s 0 lo' lo) (hhi : eC X.P s xs.length hi' hi) (hs : Dc (if m.owned then s.kill isB Cq else s) d (.one m (.sl z (ys.map En))) = s1) : Y = some s1 := by
  obtain ⟨h0, h1, h2, rfl⟩ := bR hy
  have hm' : m ≠ .top := by simpa using hm
  rw [hr, ← hs]
  simp only [Qb, ht, hz]
  rw [if_pos ⟨trivial, hm'⟩, Yy (n := lo) hlo h0 (by simp; omega), Yy (n := hi) (by simpa using hhi) (by omega) (by simpa using h2)]
  simp only [eU]
  rw [if_pos (by omega)]
  simp [Oe, List.map_take, List.map_drop]
theorem iK {Y : Option St} (s : St) (t e z : Nat) {xs ys : List α} {lo : Int} (hy : cut xs lo xs.length = some ys) (En : α → List AV) (r : Rt) (q : Nat) (lo' : Option Operand) (d : Option Tmp) (hr : Y = Oe d (Qb X.P t (.one .top (.at_ r 0 (xs.map En).length)) lo' none s)) (ht : X.P.underlying t = some (.slice e)) (hz : Dg X.P e = some z)
    (hat : Cs s r = some (.own (q + 1), .sl z (xs.map En))) (hlo : eC X.P s 0 lo' lo) (hs : Dc s d (.one .top (.at_ r lo.toNat ((xs.map En).length - lo.toNat))) = s1) : Y = some s1 := by
  obtain ⟨h0, h1, h2, rfl⟩ := bR hy
  rw [hr, ← hs]
  simp only [Qb, ht, hz, hat]
  rw [if_pos (by simp), Yy (n := lo) hlo h0 (by simp; omega), show M5 X.P s (xs.map En).length (xs.map En).length none = some (xs.map En).length from rfl]
  simp only [eU]
  rw [if_pos (by simp; omega)]
  simp [Oe, sc]
theorem mE {xs ys : List α} {lo : Int} (h : cut xs lo xs.length = some ys) : lo.toNat ≤ xs.length := by
  obtain ⟨h0, h1, _, _⟩ := bR h
  omega
theorem iL {P : Program} {s : St} {aty e : TypeId} {z q : Nat} {En : α → List AV} {my : Md} {xs ys zs : List α} {lo : Nat} {r : Rt} (hz : cpy xs lo ys = zs) (ht : P.underlying aty = some (.slice e)) (hs : Dg P e = some z) (hlo : lo ≤ xs.length) (hf : ∀ x, (En x).all (fun a => a.scalar) = true) (hl : ∀ x, (En x).length = z)
    (hat : Cs s r = some (.own (q + 1), .sl z (xs.map En))) (pu : Pu) (hpu : (pu.ob && Fh (.el r 0 0)) = false) : Tf P pu aty [.one .top (.at_ r lo ((xs.map En).length - lo)), .one my (.sl z (ys.map En))] s
      = some (.one .top (.int .i64 (min ys.length (xs.length - lo) : Nat)), U1 r false (De s r (.own (q + 1), .sl z (zs.map En)))) := by
  subst hz
  simp only [Tf, ht, hs, if_true, hat, pE]
  rw [if_pos ⟨by simp [Qa]; intro x _ a ha; exact List.all_eq_true.1 (hf x) a ha, by simp [T3, hl], hpu, by simp; omega⟩]
  simp only [sc, List.length_map, cpy]
  rw [← List.map_take, ← Abs.setAt_map]
theorem mF {lc : List Nat} {Y : Option St} {h2 : Ah} (s : St) (aty e : TypeId) {j o N : Nat} {cs : List MC} (V : Ct s.h j o N = some cs) (k q z : Nat) (En : α → List AV) (my : Md) (xs ys : List α) (lo : Nat) {zs : List α} (hz : cpy xs lo ys = zs) (d : Option Tmp) (hlo : lo ≤ xs.length) (hr : Y = Oe d (Tf X.P ⟨false, lc⟩ aty [.one .top (.at_ (.obj j (o + k)) lo ((xs.map En).length - lo)), .one my (.sl z (ys.map En))] s))
    (ht : X.P.underlying aty = some (.slice e)) (hs : Dg X.P e = some z) (hf : ∀ x, (En x).all (fun a => a.scalar) = true) (hl : ∀ x, (En x).length = z) (hk : Nat.ble (k + 1) N = true) (hv : (cs.drop k).take 1 = [(.own (q + 1), .sl z (xs.map En))]) (hh : Dt s.h j (o + k) [(.own (q + 1), .sl z (zs.map En))] = h2)
    (hs1 : Dc ({ s with h := h2 }.kill Id Cq) d (.one .top (.int .i64 (min ys.length (xs.length - lo) : Nat))) = s1) : Y = some s1 := by
  have hat := Yx (s := s) V hk hv
  rw [hr, iL hz ht hs hlo hf hl hat ⟨false, lc⟩ rfl, ← hs1]
  simp only [Oe, U1]
  have h1 := Oq V k 1 (Nat.le_of_ble_eq_true hk)
  unfold Ct at h1
  split at h1
  · rename_i c hc
    obtain ⟨h3, _, _⟩ := Da h1
    rw [N6 hc] at hh
    simp only [De, hc]
    have : c.set (o + k) (.own (q + 1), .sl z (zs.map En)) = A6 c (o + k) [(.own (q + 1), .sl z (zs.map En))] := by
      simp only [A6, List.length_cons, List.length_nil]
      rw [List.set_eq_take_append_cons_drop, if_pos (by omega)]
      simp
    rw [this, hh]
    rfl
  · cases h1
theorem gA {Y : Option St} (s : St) (aty e : TypeId) (q z : Nat) (En : α → List AV) (b : Nat) (my : Md) (xs ys : List α) (lo : Nat) {zs : List α} (hz : cpy xs lo ys = zs) (d : Option Tmp) (pu : Pu) (hlo : lo ≤ xs.length) (hr : Y = Oe d (Tf X.P pu aty [.one .top (.at_ (.tmp b) lo ((xs.map En).length - lo)), .one my (.sl z (ys.map En))] s))
    (ht : X.P.underlying aty = some (.slice e)) (hs : Dg X.P e = some z) (hf : ∀ x, (En x).all (fun a => a.scalar) = true) (hl : ∀ x, (En x).length = z) (hat : Cs s (.tmp b) = some (.own (q + 1), .sl z (xs.map En)))
    (hs1 : Dc ((De s (.tmp b) (.own (q + 1), .sl z (zs.map En))).kill D2 Cq) d (.one .top (.int .i64 (min ys.length (xs.length - lo) : Nat))) = s1) : Y = some s1 := by
  rw [hr, iL hz ht hs hlo hf hl hat pu (by simp [Fh, AV.root]), ← hs1]; rfl
theorem kD {α : Type} {c : List α} {k : Nat} {x : α} (h : k + 1 ≤ c.length) : A6 c k [x] = c.set k x := by
  simp only [A6, List.length_cons, List.length_nil]
  rw [List.set_eq_take_append_cons_drop, if_pos (by omega)]
  simp
/-! elements of a slice that is held -/
theorem iM {xs : List α} {i : Int} {x : α} {β : Type} {En : α → β} (h : gi xs i = some x) : (xs.map En)[i.toNat]? = some (En x) := by
  rw [List.getElem?_map, (fV h).2]; rfl
theorem bY {xs ys : List α} {i : Int} {x : α} {β : Type} {En : α → β} (h : si xs i x = some ys) : (xs.map En).set i.toNat (En x) = ys.map En := by
  obtain ⟨_, _, rfl⟩ := pO h
  rw [List.map_set]
theorem mG {s : St} {j o N k : Nat} {cs : List MC} {c : MC} {h2 : Ah} (V : Ct s.h j o N = some cs) (hk : Nat.ble (k + 1) N = true) (hh : Dt s.h j (o + k) [c] = h2) : De s (.obj j (o + k)) c = { s with h := h2 } := by
  have h1 := Oq V k 1 (Nat.le_of_ble_eq_true hk)
  unfold Ct at h1
  split at h1
  · rename_i c' hc
    obtain ⟨h3, _, _⟩ := Da h1
    rw [N6 hc, kD (by omega)] at hh
    simp only [De, hc, hh]
  · cases h1
theorem bZ {Y : Option St} (s s' : St) (pu : Pu) (ty : TypeId) (r : Rt) (ix off n q : Nat) (L : List (List AV)) (x x2 : List AV) (L2 : List (List AV)) (z : Nat) (v : TV) (hr : Y = N3 X.P pu ty (.el r ix off) v s) (hn : Dg X.P ty = some n) (hl : v.cells.length = n) (hv : Mi v = true) (hpu : (pu.ob && Fh (.el r 0 0)) = false) (hat : Cs s r = some (.own (q + 1), .sl z L)) (hL : L[ix]? = some x) (hk : (v.cells.all (nF q) && Nat.ble (off + v.cells.length) x.length) = true)
    (hE : A6 x off (v.cells.map (·.2)) = x2) (hL2 : L.set ix x2 = L2) (hR : De s r (.own (q + 1), .sl z L2) = s') (hs : U1 r (Cn v.cells) s' = s1) : Y = some s1 := by
  rw [hr, ← hs]
  simp only [Bool.and_eq_true] at hk
  simp only [N3, hn, hl, hv, and_self, if_true, hat, nG, hL]
  rw [if_pos ⟨by have := Nat.le_of_ble_eq_true hk.2; omega, hpu, hk.1⟩, hE, hL2, hR]
/-! arrays -/
theorem Uk [Inhabited α] {n : Nat} {A : Arr n α} {i : Int} {x : α} {β : Type} (C : α → β) (hx : ga A i = some x) {cs : List β} {off : Nat} (hA : (cs.drop off).take n = (List.range n).map fun j => C (A.g j)) : cs[off + i.toNat]? = some (C x) := by
  obtain ⟨h0, h1, rfl⟩ := Yv hx
  have h2 : ((cs.drop off).take n)[i.toNat]? = some (C (A.g i.toNat)) := by rw [hA]; simp [List.getElem?_range (show i.toNat < n by omega)]
  rw [List.getElem?_take, if_pos (by omega), List.getElem?_drop] at h2
  exact h2
theorem Ly {cs : List MC} {k : Nat} {c : MC} (h : cs[k]? = some c) : Cy cs k 1 = some [c] := by
  have hl := (List.getElem?_eq_some_iff.1 h).1
  unfold Cy
  rw [if_pos (by omega), List.take_one]
  simp [List.head?_drop, h]
theorem pR [Inhabited α] {Y : Option St} (s : St) (t e n : Nat) {A : Arr n α} {i : Int} {x : α} (hx : ga A i = some x) (C : α → AV) (k : IntKind) (cs : List MC) (d : Option Tmp) (hr : Y = Gy s d (Xh X.P t (some (.agg cs)) (some (.one .top (.int k i))))) (ht : X.P.underlying t = some (.array n e)) (hT : Ez X.P e = some false) (hz : Dg X.P e = some 1) (hA : cs = (List.range n).map fun j => (Md.top, C (A.g j))) (hs : Dc s d (.one .top (C x)) = s1) : Y = some s1 := by
  obtain ⟨h0, h1, _⟩ := Yv hx
  have h2 := Ly (Uk (cs := cs) (off := 0) (fun x => (Md.top, C x)) hx (by rw [hA, List.drop_zero]; exact List.take_of_length_le (by simp)))
  rw [Nat.zero_add] at h2
  rw [hr, ← hs]
  simp only [Xh, ht, hz]
  rw [if_pos ⟨h0, h1⟩]
  simp only [Nat.mul_one, Xe, hT, hz, h2, List.map_cons, List.map_nil, mkT]
  rfl
theorem Jv [Inhabited α] {Y : Option St} (s : St) (t e n : Nat) {A : Arr n α} {i : Int} {x : α} (hx : ga A i = some x) (b off : Nat) (d : Option Tmp) (hr : Y = Gy s d (D5 X.P s t (.one .top (.loc b off)) i)) (ht : X.P.underlying t = some (.array n e)) (hz : Dg X.P e = some 1) (hs : Dc s d (.one .top (.loc b (off + i.toNat))) = s1) : Y = some s1 := by
  obtain ⟨h0, h1, _⟩ := Yv hx
  rw [hr, ← hs]
  simp only [D5, ht, hz]
  rw [if_pos ⟨h0, h1⟩]
  simp [Gy, sc]
theorem Tu [Inhabited α] {Y : Option St} (s : St) (ty n : Nat) {A : Arr n α} {i : Int} {x : α} (hx : ga A i = some x) (b off : Nat) (cs : List MC) (C : α → AV) (d : Option Tmp) (hr : Y = Oe d (Mm X.P .cp ty (.loc b (off + i.toNat)) s)) (hT : Ez X.P ty = some false) (hn : Dg X.P ty = some 1) (hf : A5 b s.l = some cs) (hA : (cs.drop off).take n = (List.range n).map fun j => (Md.top, C (A.g j)))
    (hs : Dc s d (.one .top (C x)) = s1) : Y = some s1 := by
  have h1 := Ly (Uk (fun x => (Md.top, C x)) hx hA)
  rw [hr, ← hs]
  simp only [Mm, hT, hn, hf, kM, h1, mkV, mkT]
  rfl
theorem iN [Inhabited α] {n : Nat} {A B : Arr n α} {i : Int} {x : α} {β : Type} (C : α → β) (hx : sa A i x = some B) {cs : List β} {off : Nat} (hA : (cs.drop off).take n = (List.range n).map fun j => C (A.g j)) : A6 cs (off + i.toNat) [C x] = A6 cs off ((List.range n).map fun j => C (B.g j)) := by
  obtain ⟨h0, h1, h2⟩ := bS hx
  have hl : n ≤ (cs.drop off).length := by
    have := congrArg List.length hA
    simp at this
    simp; omega
  have hl' : off + n ≤ cs.length := by simp at hl; omega
  have hc : ∀ j, j < n → cs[off + j]? = some (C (A.g j)) := fun j hj => by
    have : ((cs.drop off).take n)[j]? = some (C (A.g j)) := by rw [hA]; simp [List.getElem?_range hj]
    rw [List.getElem?_take, if_pos hj, List.getElem?_drop] at this
    exact this
  apply List.ext_getElem?
  intro j
  simp only [A6, List.getElem?_append, List.length_append, List.length_take, List.length_map, List.length_range, List.getElem?_take, List.getElem?_drop, List.length_cons, List.length_nil]
  by_cases c1 : j < off
  · grind
  · by_cases c2 : j < off + n
    · have hj := hc (j - off) (by omega)
      have e2 : off + (j - off) = j := by omega
      rw [e2] at hj
      have h3 := h2 (j - off)
      have hr : ((List.range n).map fun j => C (B.g j))[j - off]? = some (C (B.g (j - off))) := by simp [List.getElem?_range (show j - off < n by omega)]
      by_cases c3 : j - off = i.toNat
      · rw [if_pos c3] at h3
        grind
      · rw [if_neg c3] at h3
        grind
    · grind
theorem Ot [Inhabited α] {Y : Option St} (s : St) (ty n : Nat) {A B : Arr n α} {i : Int} {x : α} (hx : sa A i x = some B) (b off : Nat) (cs : List MC) (C : α → AV) (pu : Pu) (hpl : inL b pu.lc = false) (hr : Y = N3 X.P pu ty (.loc b (off + i.toNat)) (.one .top (C x)) s) (hn : Dg X.P ty = some 1) (hf : A5 b s.l = some cs) (hA : (cs.drop off).take n = (List.range n).map fun j => (Md.top, C (A.g j))) (hsc : ∀ x, (C x).scalar = true)
    (hs : { s with l := put b (A6 cs off ((List.range n).map fun j => (Md.top, C (B.g j)))) s.l } = s1) : Y = some s1 := by
  obtain ⟨h0, h1, h2⟩ := bS hx
  have hg : cs[off + i.toNat]? = some (Md.top, C (A.g i.toNat)) := by
    refine Uk (fun x => (Md.top, C x)) (x := A.g i.toNat) ?_ hA
    unfold ga Arr.g
    rw [if_pos h0]
    have := A.h
    simp [show i.toNat < A.l.length by omega]
  rw [hr, ← hs]
  simp only [N3, hn, TV.cells, List.length_cons, List.length_nil, Mi, and_self, if_true, hf, hpl, Bool.false_eq_true, if_false, Ly hg, gP]
  rw [iN (fun x => (Md.top, C x)) hx hA]
  simp [F8, hsc]
end
end Go.Proofs.Abs
namespace Go.Proofs.Abs
open Go
set_option linter.unusedVariables false
set_option linter.unusedSimpArgs false
theorem Qo {α β : Type} (P : Program) (m : Sem α) (f : α → Sem β) : Ew P (m.bind f) = (Ew P m).bind fun x => Ew P (f x) := by
  induction m with
  | pure a => rfl
  | program k ih => exact ih P
  | _ => rfl
def mH (P : Program) (g : TypeId → Value → Value → Option (List Bool)) (xs ys : Array Value) : List Field → Option (List Bool)
  | [] => some []
  | f :: r => if f.name = "_" then none else (Ew P (part f.type xs f.offset)).bind fun a => (Ew P (part f.type ys f.offset)).bind fun b => (g f.type a b).bind fun q => (mH P g xs ys r).map fun q' => q ++ q'
def mI (P : Program) (g : TypeId → Value → Value → Option (List Bool)) (e : TypeId) (z : Nat) (xs ys : Array Value) : List Nat → Option (List Bool)
  | [] => some []
  | i :: r => (Ew P (part e xs (i * z))).bind fun a => (Ew P (part e ys (i * z))).bind fun b => (g e a b).bind fun q => (mI P g e z xs ys r).map fun q' => q ++ q'
def eqQ (P : Program) : Nat → TypeId → Value → Value → Option (List Bool)
  | 0, _, _, _ => none
  | d + 1, t, x, y => match P.underlying t, x, y with
    | some (.struct fs), .agg xs, .agg ys => if P.stoodInHeld t then none else mH P (eqQ P d) xs ys fs.toList
    | some (.array n e), .agg xs, .agg ys => (Ew P (sizeOf e)).bind fun z => mI P (eqQ P d) e z xs ys (List.range n)
    | some .bool, .bool a, .bool b => some [a == b]
    | some (.int _), .int k a, .int k' b => if k = k' then some [a == b] else none
    | some .string, .string a, .string b => some [a == b]
    | _, _, _ => none
theorem mJ (P : Program) : ∀ (d : Nat) (t : TypeId) (x y : Value) qs, eqQ P d t x y = some qs → Ew P (Op.equalIn d t x y) = some (qs.all id)
  | 0, _, _, _, _, h => by simp [eqQ] at h
  | d + 1, t, x, y, qs, h => by
    have ih := mJ P d
    have hs : ∀ (xs ys : Array Value) (l : List Field) qs, mH P (eqQ P d) xs ys l = some qs →
        Ew P (do
          for f in l do
            if f.name ≠ "_" then
              if !(← Op.equalIn d f.type (← part f.type xs f.offset) (← part f.type ys f.offset)) then return false
          pure true : Sem Bool) = some (qs.all id) := by
      intro xs ys l
      induction l with
      | nil => intro qs h; simp [mH] at h; subst h; rfl
      | cons f r ihl =>
        intro qs h
        simp only [mH] at h
        split at h
        · cases h
        rename_i hn
        simp only [Option.bind_eq_some_iff, Option.map_eq_some_iff] at h
        obtain ⟨a, ha, b, hb, q, hq, q', hq', rfl⟩ := h
        have h1 := ih _ _ _ _ hq
        have h2 := ihl q' hq'
        simp only [List.forIn_cons, bind, ne_eq, hn, not_false_eq_true, if_true, Qo, ha, hb, h1, Option.bind_some] at h2 ⊢
        cases hqa : q.all id with
        | false => simp [Ew, pure, List.all_append, hqa]
        | true => simp only [List.all_append, hqa, Bool.true_and]; exact h2
    have ha : ∀ (e : TypeId) (z : Nat) (xs ys : Array Value) (l : List Nat) qs, mI P (eqQ P d) e z xs ys l = some qs →
        Ew P (do
          for i in l do
            if !(← Op.equalIn d e (← part e xs (i * z)) (← part e ys (i * z))) then return false
          pure true : Sem Bool) = some (qs.all id) := by
      intro e z xs ys l
      induction l with
      | nil => intro qs h; simp [mI] at h; subst h; rfl
      | cons f r ihl =>
        intro qs h
        simp only [mI, Option.bind_eq_some_iff, Option.map_eq_some_iff] at h
        obtain ⟨a, ha, b, hb, q, hq, q', hq', rfl⟩ := h
        have h1 := ih _ _ _ _ hq
        have h2 := ihl q' hq'
        simp only [List.forIn_cons, bind, Qo, ha, hb, h1, Option.bind_some] at h2 ⊢
        cases hqa : q.all id with
        | false => simp [Ew, pure, List.all_append, hqa]
        | true => simp only [List.all_append, hqa, Bool.true_and]; exact h2
    unfold eqQ at h
    unfold Op.equalIn
    split at h
    · rename_i fs xs ys hu
      split at h
      · cases h
      rename_i hst
      have := hs xs ys fs.toList qs h
      simp only [underlying, program, bind, Sem.bind, Ew, hu, pure, hst, Bool.false_eq_true, if_false] at this ⊢
      simpa using this
    · rename_i n e xs ys hu
      simp only [Option.bind_eq_some_iff] at h
      obtain ⟨z, hz, h⟩ := h
      have := ha e z xs ys _ qs h
      simp only [underlying, program, bind, Sem.bind, Ew, hu, pure, Qo, hz, Option.bind_some, Std.Legacy.Range.forIn_eq_forIn_range', Std.Legacy.Range.size] at this ⊢
      simpa [List.range_eq_range'] using this
    · rename_i a b hu
      cases h
      simp [underlying, program, bind, Sem.bind, Ew, hu, pure]
    · rename_i k1 k a k' b hu
      split at h
      · rename_i e; subst e; cases h
        simp [underlying, program, bind, Sem.bind, Ew, hu, pure]
      · cases h
    · rename_i a b hu
      cases h
      simp [underlying, program, bind, Sem.bind, Ew, hu, pure]
    · cases h
theorem cA {P : Program} {ty : TypeId} {x y : Operand} {cs ds : List MC} {us vs : List Value} {qs : List Bool} (hu : P9 cs = some us) (hv : P9 ds = some vs) (hg : P.eqGuardType P.depth ty = false) (hq : eqQ P Op.maxDepth ty (.agg us.toArray) (.agg vs.toArray) = some qs) :
    Kp P .neq ty x y (some (.agg cs)) (some (.agg ds)) = some (.one .top (.bool (!qs.all id))) := by
  have h1 := mJ P _ _ _ _ _ hq
  simp only [Kp, TV.conc, hu, hv, Option.map_some, Xf]
  have hgd : Ew P (eqGuard .neq ty x y (.agg us.toArray) (.agg vs.toArray)) = some () := by
    simp [eqGuard, program, bind, Sem.bind, Ew, hg, pure]
  simp only [bind, Qo, hgd, Option.bind_some, binOp, Op.equal, h1, pure, Ew, ofV, Option.map_some, sc]
end Go.Proofs.Abs
namespace Go.Proofs.Abs
open Go
set_option linter.unusedVariables false
section
variable {X : Cx} {s1 : St} {α : Type}
theorem Lb [Inhabited α] {Y : Option St} (s : St) (t e n : Nat) {A : Arr n α} {i : Int} {x : α} (hx : ga A i = some x) (j off : Nat) (d : Option Tmp) (hr : Y = Gy s d (D5 X.P s t (.one .top (.obj j off)) i)) (ht : X.P.underlying t = some (.array n e)) (hz : Dg X.P e = some 1) (hs : Dc s d (.one .top (.obj j (off + i.toNat))) = s1) : Y = some s1 := by
  obtain ⟨h0, h1, _⟩ := Yv hx
  rw [hr, ← hs]
  simp only [D5, ht, hz]
  rw [if_pos ⟨h0, h1⟩]
  simp [Gy, sc]
theorem Kq [Inhabited α] {Y : Option St} (s : St) (ty n : Nat) {A : Arr n α} {i : Int} {x : α} (hx : ga A i = some x) {j o N : Nat} {cs : List MC} (V : Ct s.h j o N = some cs) (k : Nat) (C : α → AV) (d : Option Tmp) (hr : Y = Oe d (Mm X.P .cp ty (.obj j (o + k + i.toNat)) s)) (hT : Ez X.P ty = some false) (hn : Dg X.P ty = some 1) (hk : Nat.ble (k + n) N = true)
    (hA : (cs.drop k).take n = (List.range n).map fun j => (Md.top, C (A.g j))) (hs : Dc s d (.one .top (C x)) = s1) : Y = some s1 := by
  obtain ⟨h0, h1, _⟩ := Yv hx
  have g := Ly (Uk (fun x => (Md.top, C x)) hx hA)
  unfold Cy at g
  split at g
  · have g := Option.some.inj g
    have hk := Nat.le_of_ble_eq_true hk
    have := mA (X := X) (s := s) (k := k + i.toNat) (n := 1) (v := .one .top (C x)) V hT hn (Nat.ble_eq_true_of_le (by omega)) (by rw [g]; rfl)
    rw [← Nat.add_assoc] at this
    rw [hr, this, ← hs]; rfl
  · cases g
theorem mK [Inhabited α] {H : Ah} {j o N k n : Nat} {cs : List MC} {A B : Arr n α} {i : Int} {x : α} (C : α → AV) (V : Ct H j o N = some cs) (hx : sa A i x = some B) (hk : Nat.ble (k + n) N = true) (hA : (cs.drop k).take n = (List.range n).map fun j => (Md.top, C (A.g j))) : Dt H j (o + (k + i.toNat)) [(Md.top, C x)] = Dt H j o (A6 cs k ((List.range n).map fun j => (Md.top, C (B.g j)))) := by
  obtain ⟨h0, h1, _⟩ := bS hx
  have hk := Nat.le_of_ble_eq_true hk
  rw [Cd V (by simp; omega), iN (fun x => (Md.top, C x)) hx hA]
theorem pS [Inhabited α] {lc : List Nat} {Y : Option St} {h2 : Ah} (s : St) (ty n : Nat) {A B : Arr n α} {i : Int} {x : α} (hx : sa A i x = some B) {j o N : Nat} {cs : List MC} (V : Ct s.h j o N = some cs) (k : Nat) (C : α → AV) (hsc : ∀ x, (C x).scalar = true) (hr : Y = N3 X.P ⟨false, lc⟩ ty (.obj j (o + k + i.toNat)) (.one .top (C x)) s) (hn : Dg X.P ty = some 1) (hk : Nat.ble (k + n) N = true)
    (hA : (cs.drop k).take n = (List.range n).map fun j => (Md.top, C (A.g j))) (hh : Dt s.h j o (A6 cs k ((List.range n).map fun j => (Md.top, C (B.g j)))) = h2) (hs : { s with h := h2 } = s1) : Y = some s1 := by
  obtain ⟨h0, h1, h2'⟩ := bS hx
  have g := Ly (Uk (fun x => (Md.top, C x)) (x := A.g i.toNat) (by
    unfold ga Arr.g
    rw [if_pos h0]
    have := A.h
    simp [show i.toNat < A.l.length by omega]) hA)
  unfold Cy at g
  split at g
  · have g := Option.some.inj g
    have hkk := Nat.le_of_ble_eq_true hk
    refine G7 (X := X) (lc := lc) s ty V (k + i.toNat) 1 (.one .top (C x)) (by rw [hr, Nat.add_assoc]) hn (Nat.ble_eq_true_of_le (by omega)) rfl rfl (by simp [TV.cells, Mj, hsc]) (mK C V hx hk hA) ?_
    rw [hh, g, ← hs]
    simp [mB, F8, Cn, TV.cells, hsc, Md.owned]
  · cases g
end
open Classical in
noncomputable def same {α : Type} (q : Option α) (x : α) : Option Unit := if q = some x then some () else none
def dd (l : List Nat) : RI := { dead := (l, []) }
/-! values, in short -/
abbrev vT : TV := .one .top (.bool true)
abbrev vF : TV := .one .top (.bool false)
abbrev vb (b : Bool) : TV := .one .top (.bool b)
abbrev vi (n : Int) : TV := .one .top (.int .i64 n)
abbrev vu (n : Int) : TV := .one .top (.int .u32 n)
abbrev vl (t o : Nat) : TV := .one .top (.loc t o)
abbrev vo (i o : Nat) : TV := .one .top (.obj i o)
abbrev vp (p : Ptr) : TV := .one .top p.av
abbrev vN : TV := .tup []
section
variable {X : Cx} {pu : Pu} {st : Bool} {fn id i : Nat} {ops : List Oper} {s s1 s2 s' : St} {N : St → Prop} {E : Nat → St → Prop} {R : St → Prop} {c c' : Code}
theorem yr (j : Nat) (s1 : St) (k : Uh X pu fn id ops (i + j) s1 s2) (hj : Nat.ble (i + j) ops.length = true := by kernel_rfl) (h : Jw X pu (evS X) fn id ops i ((ops.drop i).take j) (some s) = some s1 := by kernel_rfl) : Uh X pu fn id ops i s s2 := qP j s1 hj h k
theorem ye (h : Nat.ble ops.length i = true := by kernel_rfl) (hs : s.drop (X.dead fn id) = s2 := by kernel_rfl) : Uh X pu fn id ops i s s2 := qO h hs
theorem yg (s1 : St) {ops : Array Oper} (k : N s1) (h : cV (X.dead fn id) (Jw X pu (evS X) fn id ops.toList 0 ops.toList (some s)) = some (.nrm, s1) := by kernel_rfl) : wpC (ev X pu fn (.region id ops false) s) N E R := aN s1 h k
theorem ysg (s1 : St) {ops : Array Oper} (k : wpC (ev X pu fn c' s1) N E R) (h : cV (X.dead fn id) (Jw X pu (evS X) fn id ops.toList 0 ops.toList (some s)) = some (.nrm, s1) := by kernel_rfl) : wpC (ev X pu fn (.seq (.region id ops false) c') s) N E R := Ag (aN s1 h k)
theorem yso (s2 : St) {ops : Array Oper} (h : Uh X pu fn id ops.toList 0 s s2) (k : wpC (ev X pu fn c' s2) N E R) : wpC (ev X pu fn (.seq (.region id ops false) c') s) N E R := Ag (Aj s2 h k)
theorem yT {x : Operand} {b : Bool} (hb : b = true) (s1 : St) (k : wpC (ev X pu fn c s1) N E R) (h : opnd X.P s 0 x = some (.one .top (.bool b)) := by kernel_rfl) (hs : s.drop (X.deadC fn (Zj x c c') true) = s1 := by kernel_rfl) : wpC (ev X pu fn (.cond x c c') s) N E R := rD hb h hs k
theorem yF {x : Operand} {b : Bool} (hb : b = false) (s1 : St) (k : wpC (ev X pu fn c' s1) N E R) (h : opnd X.P s 0 x = some (.one .top (.bool b)) := by kernel_rfl) (hs : s.drop (X.deadC fn (Zj x c c') false) = s1 := by kernel_rfl) : wpC (ev X pu fn (.cond x c c') s) N E R := rE hb h hs k
theorem yp {f : Nat} {h : Ah} {rs : List ResultVar} {v' : TV} (v : TV) (hv : results X.P rs s = some v := by kernel_rfl) (hp : X.pure f = true := by kernel_rfl) (hh : s.h.length = h.length := by rfl) (hz : frzIf (X.frz f) v = v' := by kernel_rfl) : Fin X f h rs (v', h) s := mD hv hp hh hz
theorem yi {f : Nat} {h : Ah} {rs : List ResultVar} {v' : TV} (v : TV) (hv : results X.P rs s = some v := by kernel_rfl) (hp : X.pure f = false := by kernel_rfl) (hz : frzIf (X.frz f) v = v' := by kernel_rfl) : Fin X f h rs (v', s.h) s := iJ hv hp hz
theorem yc {Y : Option St} {f : FuncId} {args : List TV} {H H' : Ah} {v : TV} (d : Option Tmp) (pure own : Bool) (s0 : St) (hc : evS X f args H = some (v, H')) (hr : Y = cS false pure own d s0 (evS X f args H) := by kernel_rfl) (hs : cS false pure own d s0 (some (v, H')) = some s1 := by kernel_rfl) : Y = some s1 := oD s0 hc hr hs
theorem yl {α : Type} {Y : Option St} (s : St) (xs : List α) (En : α → List AV) (d : Option Tmp) (hr : Y = some (Dc s d (.one .top (.int .i64 ((xs.map En).length : Nat)))) := by kernel_rfl) (hs : Dc s d (.one .top (.int .i64 (xs.length : Nat))) = s1 := by kernel_rfl) : Y = some s1 := bV s xs En d hr hs
theorem yd {Y : Option St} (s : St) (ty : TypeId) {j o N : Nat} {cs : List MC} (V : Ct s.h j o N = some cs) (k n : Nat) (agg : Bool) (v : TV) (d : Option Tmp) (hr : Y = Oe d (Mm X.P .cp ty (.obj j (o + k)) s) := by kernel_rfl) (hT : Ez X.P ty = some agg := by kernel_rfl) (hn : Dg X.P ty = some n := by kernel_rfl) (hk : Nat.ble (k + n) N = true := by kernel_rfl) (hv : mkT agg (((cs.drop k).take n).map fun c => (c.1.cpH, c.2)) = some v := by kernel_rfl) (hs : Dc s d v = s1 := by kernel_rfl) : Y = some s1 := aO s ty V k n agg v d hr hT hn hk hv hs
theorem ydt {n : Sch} (s1 : St) (k : Q0 X pu st fn id ops n s1 s2) (h : M6 X pu st (evS X) fn id ops i (some s) = some s1 := by kernel_rfl) : Q0 X pu st fn id ops (.take i n) s s2 := Aq s1 h k
theorem ydl {n : Sch} (s1 : St) (k : Q0 X pu st fn id ops n s1 s2) (h : Gz X pu (evS X) fn id ops i (some s) = some s1 := by kernel_rfl) : Q0 X pu st fn id ops (.last i n) s s2 := Br s1 h k
theorem yde (hs : s.drop (X.dead fn id) = s2 := by kernel_rfl) : Q0 X pu st fn id ops .done s s2 := qQ hs
theorem yqt {n : Sch} (s1 : St) (k : C9 X pu st (evS X) fn id ops n (some s1) = some s2) (h : M6 X pu st (evS X) fn id ops i (some s) = some s1 := by kernel_rfl) : C9 X pu st (evS X) fn id ops (.take i n) (some s) = some s2 := Tt s1 h k
theorem yql {n : Sch} (s1 : St) (k : C9 X pu st (evS X) fn id ops n (some s1) = some s2) (h : Gz X pu (evS X) fn id ops i (some s) = some s1 := by kernel_rfl) : C9 X pu st (evS X) fn id ops (.last i n) (some s) = some s2 := Cb s1 h k
theorem yqe (h : s = s' := by kernel_rfl) : C9 X pu st (evS X) fn id ops .done (some s) = some s' := qR h
theorem yf {f : FuncId} {args : List TV} {h : Ah} {r} {fu : Func} {c : Code} (hf : X.P.funcs[f]? = some fu) (b : Bool) (s0 : St) (hr : wpC (ev X ⟨b, []⟩ f c s0) (Fin X f h fu.results.toList r) (fun _ _ => False) (Fin X f h fu.results.toList r)) (hc : fu.body = some c := by rfl) (hok : Xo X f fu c = true := by kernel_rfl) (hp : X.pure f = b := by kernel_rfl) (hs : ({ t := C7 0 args, l := [], h := h } : St) = s0 := by kernel_rfl) : evS X f args h = some r := qT hf hc hok b hp hs hr
def mL : Nat → Sch → Sch
  | 0, n => n
  | j + 1, .take _ n => mL j n
  | _ + 1, n => n
noncomputable def mM (X : Cx) (pu : Pu) (st : Bool) (fn id : Nat) (ops : List Oper) : Nat → Sch → Option St → Option St
  | 0, _, q => q
  | j + 1, .take i n, q => mM X pu st fn id ops j n (M6 X pu st (evS X) fn id ops i q)
  | _ + 1, _, _ => none
theorem Vu : ∀ (j : Nat) (n : Sch) (q : Option St) (s1 : St), mM X pu st fn id ops j n q = some s1 → C9 X pu st (evS X) fn id ops n q = C9 X pu st (evS X) fn id ops (mL j n) (some s1)
  | 0, n, q, s1, h => by
    have h : q = some s1 := h
    subst h; rfl
  | j + 1, .take i n, q, s1, h => Vu j n (M6 X pu st (evS X) fn id ops i q) s1 h
  | j + 1, .done, q, s1, h => by cases h
  | j + 1, .last i n, q, s1, h => by cases h
  | j + 1, .alt i n r, q, s1, h => by cases h
theorem ydk (j : Nat) (s1 : St) {n : Sch} (k : Q0 X pu st fn id ops (mL j n) s1 s2) (h : mM X pu st fn id ops j n (some s) = some s1 := by kernel_rfl) : Q0 X pu st fn id ops n s s2 := by
  obtain ⟨t, h1, h2⟩ := k
  exact ⟨t, by rw [Vu j n _ s1 h]; exact h1, h2⟩
end
end Go.Proofs.Abs
namespace Go.Proofs.Abs
open Go
set_option linter.unusedVariables false
set_option linter.unusedSimpArgs false
def Mk (w : World) (E : List AV) (cs : List Value) : Prop := cs.length = E.length ∧ ∀ (j : Nat) (c : AV) (v : Value), E[j]? = some c → cs[j]? = some v → ∀ r π, KC w Vy .ro r π c v
theorem Mk.nil {w : World} : Mk w [] [] := ⟨rfl, fun j c v h => by simp at h⟩
theorem Mk.app {w : World} {E E' : List AV} {cs cs' : List Value} (h : Mk w E cs) (h' : Mk w E' cs') : Mk w (E ++ E') (cs ++ cs') := by
  refine ⟨by simp [h.1, h'.1], fun j c v hc hv => ?_⟩
  rw [List.getElem?_append] at hc hv
  rw [← h.1] at hc
  split at hc
  · rename_i hj; rw [if_pos hj] at hv; exact h.2 j c v hc hv
  · rename_i hj; rw [if_neg hj] at hv; exact h'.2 _ c v hc hv
def Ta (P : Program) (t : TypeId) {α : Type} (E : α → List AV) (W : α → Prop) : Prop :=
  ∀ (H : Type) (enc : TypeId × Value → H) (w : World) (fuel : Nat) (cs : List Value) x, DataW.trod enc P w 0 (fun _ => true) true fuel t cs = some x → ∃ a, W a ∧ Mk w (E a) cs
section
variable {P : Program} {t : TypeId}
theorem Di {k : IntKind} (ht : P.underlying t = some (.int k)) : Ta P t (eI k) (fun n => (Lit.int k n).wf = true) := fun H enc w fuel cs x h => by
  obtain ⟨n, rfl, _, hw⟩ := DataW.trod_int ht h
  refine ⟨n, hw, rfl, fun j c v hc hv => ?_⟩
  cases j with
  | zero => cases hc; cases hv; exact fun _ _ => .int
  | succ j => simp [eI] at hc
theorem Yz {w : World} {a : Addr} : ∀ (l : List Nat) (cs : List Value), l.mapM (fun i => w.cell? (a.add i)) = some cs → cs.length = l.length ∧ ∀ (j i : Nat), l[j]? = some i → w.cell? (a.add i) = cs[j]?
  | [], cs, h => by simp at h; subst h; simp
  | i :: l, cs, h => by
    simp only [List.mapM_cons, Option.bind_eq_bind, Option.bind_eq_some_iff] at h
    obtain ⟨v, hv, vs, hvs, h⟩ := h
    cases h
    obtain ⟨h1, h2⟩ := Yz l vs hvs
    refine ⟨by simp [h1], fun j i' hj => ?_⟩
    cases j with
    | zero => cases hj; simpa using hv
    | succ j => simpa using h2 j i' (by simpa using hj)
theorem Vv {α : Type} {E : α → List AV} {W : α → Prop} {e : TypeId} {z : Nat} (ht : P.underlying t = some (.slice e)) (hc : P.cellsOf e = z) (hz : Nat.beq z 0 = false) (hE : ∀ x, (E x).length = z) (he : Ta P e E W) :
    Ta P t (eL z E) (fun xs => (∀ x, x ∈ xs → W x) ∧ xs.length ≤ maxLen) := fun H enc w fuel cs x h => by
  have hz0 : z ≠ 0 := fun e => by subst e; cases hz
  rcases DataW.trod_slice ht h with ⟨rfl, _⟩ | ⟨a, len, cap, elems, rest, n, _, rfl, _, hb, hl, hm, hlen, hel, hsp, _⟩
  · refine ⟨[], ⟨fun x hx => (by cases hx), Nat.zero_le _⟩, rfl, fun j c v hc hv => ?_⟩
    cases j with
    | zero => cases hc; cases hv; exact fun _ _ => .nil (by simp)
    | succ j => simp [eL] at hc
  · by_cases hlen0 : len = 0
    · subst hlen0
      refine ⟨[], ⟨fun x hx => (by cases hx), Nat.zero_le _⟩, rfl, fun j c v hc hv => ?_⟩
      cases j with
      | zero => cases hc; cases hv; exact fun _ _ => .emp (by simp) rfl
      | succ j => simp [eL] at hc
    have each : ∀ i, i < len → ∃ x : α, W x ∧ ∃ cs, w.cells? 0 (a.add (i * z)) z = some cs ∧ Mk w (E x) cs := fun i hi => by
      have := hel i hi
      have hsome : (elems[i]?).isSome = true := by simp [hlen, hi]
      rw [← this, hc] at hsome
      obtain ⟨y, hy⟩ := Option.isSome_iff_exists.1 hsome
      rw [Option.bind_eq_some_iff] at hy
      obtain ⟨cs, h1, h2⟩ := hy
      obtain ⟨x, hx, hr⟩ := he H enc w n cs y h2
      exact ⟨x, hx, cs, h1, hr⟩
    have cell : ∀ i (hi : i < len) cs, w.cells? 0 (a.add (i * z)) z = some cs → cs.length = z ∧ ∀ j, j < z → w.cell? ((a.add (i * z)).add j) = cs[j]? := fun i hi cs h => by
      unfold World.cells? at h
      rw [if_pos (Nat.zero_le _)] at h
      obtain ⟨h1, h2⟩ := Yz _ _ h
      refine ⟨by simpa using h1, fun j hj => h2 j j ?_⟩
      rw [List.getElem?_range hj]
    obtain ⟨b, o, spot⟩ := a
    have h0 : 0 < len := by omega
    obtain ⟨x0, _, cs0, k1, _⟩ := each 0 h0
    obtain ⟨k2, k3⟩ := cell 0 h0 cs0 k1
    have k4 := k3 0 (by omega)
    have k5 : cs0[0]? ≠ none := by
      intro hn
      rw [List.getElem?_eq_none_iff] at hn
      omega
    have hbs : b < w.heap.size ∧ spot = none := by
      rw [← k4] at k5
      unfold World.cell? at k5
      constructor
      · by_cases hbh : b < w.heap.size
        · exact hbh
        · exfalso; apply k5
          have : w.heap[b]? = none := by simp; omega
          simp [Addr.add, this]
      · cases spot with
        | none => rfl
        | some q =>
          exfalso; apply k5
          simp only [Addr.add]
          split <;> simp
    obtain ⟨hbs, rfl⟩ := hbs
    obtain ⟨xs, hxs⟩ : ∃ xs : List α, xs = (List.finRange len).map fun (i : _root_.Fin len) => (each i.1 i.2).choose := ⟨_, rfl⟩
    have hxl : xs.length = len := by simp [hxs]
    have Ct : ∀ i (hi : i < len), xs[i]? = some (each i hi).choose := fun i hi => by simp [hxs, hi]
    refine ⟨xs, ⟨fun x hx => ?_, by rw [hxl]; omega⟩, rfl, fun j c v hc' hv r π => ?_⟩
    · obtain ⟨i, hi⟩ := List.mem_iff_getElem?.1 hx
      have hil : i < len := by rw [← hxl]; exact (List.getElem?_eq_some_iff.1 hi).1
      rw [Ct i hil] at hi
      cases hi
      exact (each i hil).choose_spec.1
    · cases j with
      | succ j => simp [eL] at hc'
      | zero =>
        cases hc'
        have hv' : Value.slice (some ⟨b, o, none⟩) len cap = v := by simpa using hv
        subst hv'
        have hcell : ∀ i x j a, (xs.map E)[i]? = some x → x[j]? = some a → ∃ v, cel w b (o + i * z + j) = some v ∧ ∀ r π, KC w Vy .ro r π a v := by
          intro i x j a hx ha
          rw [List.getElem?_map, Option.map_eq_some_iff] at hx
          obtain ⟨y, hy, rfl⟩ := hx
          have hil : i < len := by rw [← hxl]; exact (List.getElem?_eq_some_iff.1 hy).1
          rw [Ct i hil] at hy
          cases hy
          obtain ⟨_, cs, q1, q2⟩ := (each i hil).choose_spec
          obtain ⟨q3, q4⟩ := cell i hil cs q1
          have hj : j < z := by rw [← hE]; exact (List.getElem?_eq_some_iff.1 ha).1
          have hcj : cs[j]? = some cs[j] := by simp [q3, hj]
          refine ⟨cs[j], ?_, fun r π => q2.2 j a cs[j] ha hcj r π⟩
          have := q4 j hj
          rw [hcj, Oi, Oi] at this
          exact this
        have hlm : (xs.map E).length = len := by simp [hxl]
        have := KC.sl (w := w) (g := Vy) (m := .ro) (r := r) (π := π) (z := z) (xs := xs.map E) (b := b) (o := o) (cap := cap) (fun i j => (cel w b (o + i * z + j)).getD undef) hbs (.inl rfl) (fun x hx => by
          rw [List.mem_map] at hx; obtain ⟨y, _, rfl⟩ := hx; exact hE y) (by rw [hlm]; exact hl) (fun h => by cases h)
          (fun i x j a hx ha => by obtain ⟨v, h1, _⟩ := hcell i x j a hx ha; rw [h1]; rfl)
          (fun i x j a hx ha => by obtain ⟨v, h1, h2⟩ := hcell i x j a hx ha; rw [h1]; exact h2 _ _)
        rw [hlm] at this
        exact this
theorem Cm {w : World} {E E' : List AV} {cs : List Value} {o z : Nat} (h : Mk w E ((cs.drop o).take z)) (h' : Mk w E' (cs.drop (o + z))) : Mk w (E ++ E') (cs.drop o) := by
  have := h.app h'
  rw [← List.drop_drop, List.take_append_drop] at this
  exact this
theorem P6 {w : World} {cs : List Value} {o : Nat} (h : cs.length ≤ o) : Mk w [] (cs.drop o) := by
  rw [List.drop_eq_nil_of_le h]; exact Mk.nil
theorem Fa {H : Type} {enc : TypeId × Value → H} {w : World} {n : Nat} {fs : Array Field} {cs : List Value} {xs : List (DataW H × List MemPlace)} {i : Nat} {f : Field} (hf : fs[i]? = some f) (hl : xs.length = fs.size)
    (h : ∀ (i : Nat) (f : Field), fs[i]? = some f → DataW.trod enc P w 0 (fun _ => true) true n f.type ((cs.drop f.offset).take (P.cellsOf f.type)) = xs[i]?)
    {α : Type} {E : α → List AV} {W : α → Prop} (he : Ta P f.type E W) : ∃ a, W a ∧ Mk w (E a) ((cs.drop f.offset).take (P.cellsOf f.type)) := by
  have hi := (Array.getElem?_eq_some_iff.1 hf).1
  have := h i f hf
  obtain ⟨y, hy⟩ : ∃ y, xs[i]? = some y := ⟨xs[i], by simp [hl, hi]⟩
  rw [hy] at this
  exact he H enc w n _ y this
theorem aP {w : World} {α : Type} {E : α → List AV} {g : Nat → α} {cs : List Value} {z : Nat} : ∀ (k i : Nat), (∀ j, i ≤ j → j < i + k → Mk w (E (g j)) ((cs.drop (j * z)).take z)) → cs.length = (i + k) * z → Mk w ((List.range' i k).flatMap fun j => E (g j)) (cs.drop (i * z))
  | 0, i, _, hl => P6 (by rw [hl]; exact Nat.le_refl _)
  | k + 1, i, h, hl => by
    rw [List.range'_succ, List.flatMap_cons]
    refine Cm (h i (Nat.le_refl _) (by omega)) ?_
    rw [← Nat.succ_mul]
    exact aP k (i + 1) (fun j h1 h2 => h j (by omega) (by omega)) (by rw [hl]; congr 1; omega)
theorem kE {α : Type} [Inhabited α] {E : α → List AV} {W : α → Prop} {e : TypeId} {n z : Nat} (ht : P.underlying t = some (.array n e)) (hc : P.cellsOf e = z) (hn : P.cellsOf t = n * z) (he : Ta P e E W) :
    Ta P t (eA n E) (fun (a : Arr n α) => ∀ x, x ∈ a.l → W x) := fun H enc w fuel cs x h => by
  obtain ⟨xs, m, _, _, hl, hxl, hp⟩ := DataW.trod_array ht h
  have each : ∀ i, i < n → ∃ x : α, W x ∧ Mk w (E x) ((cs.drop (i * z)).take z) := fun i hi => by
    have := hp i hi
    rw [hc] at this
    obtain ⟨y, hy⟩ : ∃ y, xs[i]? = some y := ⟨xs[i], by simp [hxl, hi]⟩
    rw [hy] at this
    exact he H enc w m _ y this
  obtain ⟨ys, hys⟩ : ∃ ys : List α, ys = (List.finRange n).map fun (i : _root_.Fin n) => (each i.1 i.2).choose := ⟨_, rfl⟩
  have hyl : ys.length = n := by simp [hys]
  have Ct : ∀ i (hi : i < n), ys[i]? = some (each i hi).choose := fun i hi => by simp [hys, hi]
  refine ⟨⟨ys, hyl⟩, fun x hx => ?_, ?_⟩
  · obtain ⟨i, hi⟩ := List.mem_iff_getElem?.1 hx
    have hil : i < n := by rw [← hyl]; exact (List.getElem?_eq_some_iff.1 hi).1
    rw [Ct i hil] at hi
    cases hi
    exact (each i hil).choose_spec.1
  · have := aP (w := w) (E := E) (g := fun j => (⟨ys, hyl⟩ : Arr n α).g j) (cs := cs) (z := z) n 0 (fun j _ hj => by
      have hg : (⟨ys, hyl⟩ : Arr n α).g j = (each j (by omega)).choose := by
        show (ys[j]?).getD default = _
        rw [Ct j (by omega)]; rfl
      rw [hg]
      exact (each j (by omega)).choose_spec.2) (by rw [hl, hn, Nat.zero_add])
    rw [Nat.zero_mul, List.drop_zero] at this
    unfold eA
    rw [List.range_eq_range']
    exact this
end
theorem KC.anyMode {w : World} {g : Gh} {r π c v} (hs : c.scalar = true) (h : KC w g .ro r π c v) (m : Md) : KC w g m r π c v := by
  cases h with
  | bool => exact .bool
  | int => exact .int
  | str => exact .str
  | nilp => exact .nilp
  | obj h => exact .obj h
  | _ => cases hs
/-! arguments that are shared from the first -/
theorem KC.toShared {w : World} {r π a v} (h : KC w Vy .ro r π a v) : KC w Vy (.own 0) r π a v := by
  refine KC.map (g := Vy) (g' := Vy) (r := r) (r' := r) (fun m _ m' _ => m = .ro ∧ m' = .own 0) (Nat.le_refl _) (fun _ hi => ⟨hi, rfl⟩) ?_ h (π' := π) ⟨rfl, rfl⟩
  rintro m π m' π' ⟨rfl, rfl⟩
  exact ⟨fun _ h => by (cases h), fun h => by (cases h), fun b e hb ho => ⟨rfl, fun _ _ _ => rfl⟩, fun h => by (cases h), fun i j => ⟨rfl, rfl⟩⟩
theorem arg_aggS {w : World} {cs : List MC} {vs : Array Value} {i : Nat} (h : Mk w (cs.map (·.2)) vs.toList) (hm : ∀ c, c ∈ cs → c.1 = .own 0 ∨ c.2.scalar = true) : RT w Vy (.tmp i) (.agg cs) (.agg vs) := by
  have hl := h.1
  simp at hl
  refine ⟨vs, rfl, hl, fun j c hc => ?_⟩
  have hj : j < vs.size := by rw [hl]; exact (List.getElem?_eq_some_iff.1 hc).1
  refine ⟨vs[j], by simp [hj], .inl ?_⟩
  have k := h.2 j c.2 vs[j] (by rw [List.getElem?_map, hc]; rfl) (by simp [hj]) (.tmp i) ([] ++ [j])
  rcases hm c (List.mem_of_getElem? hc) with e | e
  · rw [e]; exact k.toShared
  · exact k.anyMode e _
end Go.Proofs.Abs
namespace Go.Proofs.Abs
open Go
set_option linter.unusedVariables false
set_option linter.unusedSimpArgs false
section
variable {α β γ δ ε ζ : Type}
theorem Aa (a : α) (k : α → Option β) : Af (some a) k = k a := rfl
theorem Ay (a : α) (b : β) (k : α → β → Option γ) : Cc (some (a, b)) k = k a b := rfl
theorem Ou (a : α) (b : β) (c : γ) (k : α → β → γ → Option δ) : Vt (some (a, b, c)) k = k a b c := rfl
theorem gB (a : α) (b : β) (c : γ) (d : δ) (e : ε) (k : α → β → γ → δ → ε → Option ζ) : lW (some (a, b, c, d, e)) k = k a b c d e := rfl
theorem Dl (a : α) (k : α → Option β) : bnd a k = k a := rfl
theorem Bg (i o : Nat) (k : Nat → Nat → Option β) : (Ptr.at i o).bnd k = k i o := rfl
theorem Ul (f : α → Option γ) (g : β → Option γ) (a : α) : fU f g (.inl a) = f a := rfl
theorem Kw (f : α → Option γ) (g : β → Option γ) (b : β) : fU f g (.inr b) = g b := rfl
theorem Um (i o : Nat) : (Ptr.at i o).isNil = false := rfl
theorem Ww {E : α → β} (hE : ∀ x y, E x = E y → x = y) : ∀ (a b : List α), a.map E = b.map E → a = b
  | [], [], _ => rfl
  | [], _ :: _, h => by cases h
  | _ :: _, [], h => by cases h
  | x :: a, y :: b, h => by
    simp only [List.map_cons, List.cons.injEq] at h
    rw [hE _ _ h.1, Ww hE a b h.2]
theorem mN {k : IntKind} (x y : Int) (h : eI k x = eI k y) : x = y := by simpa [eI] using h
end
/-! numbers -/
theorem cB {n : Int} : (Lit.int .u32 n).wf = true ↔ 0 ≤ n ∧ n ≤ 4294967295 := by
  simp [Lit.wf, IntKind.min, IntKind.max, IntKind.signed, IntKind.bits]
theorem Av (x : Int) (h1 : -9223372036854775808 ≤ x) (h2 : x ≤ 9223372036854775807) : IntKind.i64.wrap x = x := by
  simp only [IntKind.wrap, IntKind.bits, IntKind.signed]
  simp
  omega
theorem Cj (x : Int) (h1 : 0 ≤ x) (h2 : x ≤ 4294967295) : IntKind.u32.wrap x = x := by
  simp only [IntKind.wrap, IntKind.bits, IntKind.signed]
  simp
  omega
theorem Y0 (x : Int) (h1 : 0 ≤ x) (h2 : x ≤ 18446744073709551615) : IntKind.u64.wrap x = x := by
  simp only [IntKind.wrap, IntKind.bits, IntKind.signed]
  simp
  omega
theorem Ey {a b : Int} (h : 0 ≤ a) : a.tmod b = a % b := Int.tmod_eq_emod_of_nonneg h
theorem Il {a b : Int} (h : 0 ≤ a) : a.tdiv b = a / b := Int.tdiv_eq_ediv_of_nonneg h
/-! objects -/
section
variable {α : Type} {en : α → List MC} {n : Nat} {H : Ah} {i o j o' : Nat} {x y : α}
theorem cC (inj : ∀ x y, en x = en y → x = y) (hl : ∀ x, (en x).length = n) (h : O9 en n H i o = some x) (y : α) : O9 en n (Dt H i o (en y)) i o = some y :=
  P3 inj (Bv (Bb h) (hl y))
theorem Wx (inj : ∀ x y, en x = en y → x = y) (hl : ∀ x, (en x).length = n) (H : Ah) (y : α) : O9 en n (H ++ [en y]) H.length 0 = some y := by
  refine P3 inj ?_
  rw [← hl y]; exact lY
theorem R8 {new : List MC} (inj : ∀ x y, en x = en y → x = y) (h : O9 en n H i o = some x) : O9 en n (H ++ [new]) i o = some x := P3 inj (lX (Bb h))
theorem aQ {new : List MC} (inj : ∀ x y, en x = en y → x = y) (hij : i ≠ j) (h : O9 en n H j o' = some x) : O9 en n (Dt H i o new) j o' = some x :=
  P3 inj (by rw [Ts hij]; exact Bb h)
theorem mO (h : O9 en n H i o = some x) : i < H.length := nY (Bb h)
end
theorem Qp {α : Type} {xs : List α} {i : Int} (h0 : 0 ≤ i) (h1 : i < xs.length) : gi xs i = some (xs[i.toNat]'(by omega)) := by
  unfold gi
  rw [if_pos h0, List.getElem?_eq_getElem]
theorem iO {α : Type} {xs : List α} {i : Int} {x : α} (h0 : 0 ≤ i) (h1 : i < xs.length) : si xs i x = some (xs.set i.toNat x) := by
  unfold si
  rw [if_pos ⟨h0, by omega⟩]
end Go.Proofs.Abs
