import Derived.Test.YtjheniapmdcelaaA2
import Derived.KernelRfl
import Derived.OpenShut
import Derived.ChangeArms
set_option linter.unusedVariables false
set_option linter.unusedSimpArgs false
set_option linter.unusedSectionVars false
namespace Go.Proofs.Abs
open Go
set_option linter.unusedVariables false
set_option linter.unusedSimpArgs false
/-! ### words of the printed functions -/
inductive Ptr where
  | nil | at (id off : Nat)
  deriving DecidableEq, Inhabited
def Ptr.av : Ptr → AV
  | .nil => .nilp
  | .at i o => .obj i o
def Ptr.isNil : Ptr → Bool
  | .nil => true
  | .at _ _ => false
def Ptr.bnd {β : Type} (p : Ptr) (k : Nat → Nat → Option β) : Option β := match p with
  | .nil => none
  | .at i o => k i o
theorem Br {β : Type} {p : Ptr} {k : Nat → Nat → Option β} {r} (h : p.bnd k = some r) : ∃ i o, p = .at i o ∧ k i o = some r := by
  cases p with
  | nil => cases h
  | «at» i o => exact ⟨i, o, rfl, h⟩
def sS (x y : ByteArray) : Bool := x.toList == y.toList
section
variable {α β γ δ ε ζ η θ : Type}
def bnd (a : α) (k : α → Option β) : Option β := k a
theorem Ci {a : α} {k : α → Option β} {r} (h : bnd a k = some r) : ∃ x, a = x ∧ k x = some r := ⟨a, rfl, h⟩
def Ag (q : Option α) (k : α → Option β) : Option β := match q with
  | some a => k a
  | none => none
def Ch (q : Option (α × β)) (k : α → β → Option γ) : Option γ := match q with
  | some (a, b) => k a b
  | none => none
def Vs (q : Option (α × β × γ)) (k : α → β → γ → Option δ) : Option δ := match q with
  | some (a, b, c) => k a b c
  | none => none
def sT (q : Option (α × β × γ × δ)) (k : α → β → γ → δ → Option ε) : Option ε := match q with
  | some (a, b, c, d) => k a b c d
  | none => none
def lP (q : Option (α × β × γ × δ × ε)) (k : α → β → γ → δ → ε → Option ζ) : Option ζ := match q with
  | some (a, b, c, d, e) => k a b c d e
  | none => none
def sU (q : Option (α × β × γ × δ × ε × ζ)) (k : α → β → γ → δ → ε → ζ → Option η) : Option η := match q with
  | some (a, b, c, d, e, f) => k a b c d e f
  | none => none
theorem Ab {q : Option α} {k : α → Option β} {r} (h : Ag q k = some r) : ∃ x, q = some x ∧ k x = some r := by
  cases q with
  | none => cases h
  | some x => exact ⟨x, rfl, h⟩
theorem Bg {q : Option (α × β)} {k : α → β → Option γ} {r} (h : Ch q k = some r) : ∃ x y, q = some (x, y) ∧ k x y = some r := by
  cases q with
  | none => cases h
  | some x => exact ⟨x.1, x.2, rfl, h⟩
theorem Rx {q : Option (α × β × γ)} {k : α → β → γ → Option δ} {r} (h : Vs q k = some r) : ∃ x y z, q = some (x, y, z) ∧ k x y z = some r := by
  cases q with
  | none => cases h
  | some x => exact ⟨x.1, x.2.1, x.2.2, rfl, h⟩
theorem jT {q : Option (α × β × γ × δ × ε)} {k : α → β → γ → δ → ε → Option ζ} {r} (h : lP q k = some r) : ∃ x y z u v, q = some (x, y, z, u, v) ∧ k x y z u v = some r := by
  cases q with
  | none => cases h
  | some x => exact ⟨x.1, x.2.1, x.2.2.1, x.2.2.2.1, x.2.2.2.2, rfl, h⟩
theorem Af {e : Bool} {p q : Option α} {r} (h : (if e = true then p else q) = some r) : (e = true ∧ p = some r) ∨ (e = false ∧ q = some r) := by
  cases e with
  | true => exact .inl ⟨rfl, h⟩
  | false => exact .inr ⟨rfl, h⟩
def dO (f : α → Option γ) (g : β → Option γ) : α ⊕ β → Option γ
  | .inl a => f a
  | .inr b => g b
theorem Rl {f : α → Option γ} {g : β → Option γ} {s : α ⊕ β} {r} (h : dO f g s = some r) : (∃ x, s = .inl x ∧ f x = some r) ∨ (∃ x, s = .inr x ∧ g x = some r) := by
  cases s with
  | inl x => exact .inl ⟨x, rfl, h⟩
  | inr x => exact .inr ⟨x, rfl, h⟩
def qL (f : α → β → γ) (x : α × β) : γ := f x.1 x.2
def tB (f : α → β → γ → δ) (x : α × β × γ) : δ := f x.1 x.2.1 x.2.2
def tC (f : α → β → γ → δ → ε) (x : α × β × γ × δ) : ε := f x.1 x.2.1 x.2.2.1 x.2.2.2
def tD (f : α → β → γ → δ → ε → ζ) (x : α × β × γ × δ × ε) : ζ := f x.1 x.2.1 x.2.2.1 x.2.2.2.1 x.2.2.2.2
theorem lQ {f : α → β → γ} {a b} {r : γ} (h : qL f (a, b) = r) : f a b = r := h
theorem Al {a a' : α} (h : some a = some a') : a = a' := Option.some.inj h
theorem Ap {a a' : α} {b b' : β} (h : some (a, b) = some (a', b')) : a = a' ∧ b = b' := by cases h; exact ⟨rfl, rfl⟩
theorem U4 {a a' : α} {b b' : β} {c c' : γ} (h : some (a, b, c) = some (a', b', c')) : a = a' ∧ b = b' ∧ c = c' := by cases h; exact ⟨rfl, rfl, rfl⟩
def cpy (xs : List α) (lo : Nat) (ys : List α) : List α := A4 xs lo (ys.take (xs.length - lo))
def gi (xs : List α) (i : Int) : Option α := if 0 ≤ i then xs[i.toNat]? else none
theorem fN {xs : List α} {i : Int} {x : α} (h : gi xs i = some x) : 0 ≤ i ∧ xs[i.toNat]? = some x := by
  unfold gi at h
  split at h
  · exact ⟨‹_›, h⟩
  · cases h
def si (xs : List α) (i : Int) (x : α) : Option (List α) := if 0 ≤ i ∧ i.toNat < xs.length then some (xs.set i.toNat x) else none
theorem pM {xs : List α} {i : Int} {x : α} {ys} (h : si xs i x = some ys) : 0 ≤ i ∧ i.toNat < xs.length ∧ ys = xs.set i.toNat x := by
  unfold si at h
  split at h
  · rename_i hh; cases h; exact ⟨hh.1, hh.2, rfl⟩
  · cases h
def app (zb : Nat) (xs ys : List α) : Option (List α) := if (xs.length + ys.length) * zb ≤ Mf then some (xs ++ ys) else none
theorem nW {zb : Nat} {xs ys zs : List α} (h : app zb xs ys = some zs) : (xs.length + ys.length) * zb ≤ Mf ∧ zs = xs ++ ys := by
  unfold app at h
  split at h
  · cases h; exact ⟨‹_›, rfl⟩
  · cases h
def mks (zb : Nat) (n m : Int) (x : α) : Option (List α) := if 0 ≤ n ∧ n ≤ m ∧ m * zb ≤ Mf ∧ m < 2 ^ 63 then some (List.replicate n.toNat x) else none
theorem nX {zb : Nat} {n m : Int} {x : α} {xs} (h : mks zb n m x = some xs) : 0 ≤ n ∧ n ≤ m ∧ m * zb ≤ Mf ∧ m < 2 ^ 63 ∧ xs = List.replicate n.toNat x := by
  unfold mks at h
  split at h
  · rename_i hh; cases h; exact ⟨hh.1, hh.2.1, hh.2.2.1, hh.2.2.2, rfl⟩
  · cases h
def cut (xs : List α) (lo hi : Int) : Option (List α) := if 0 ≤ lo ∧ lo ≤ hi ∧ hi ≤ xs.length then some ((xs.take hi.toNat).drop lo.toNat) else none
theorem bO {xs ys : List α} {lo hi : Int} (h : cut xs lo hi = some ys) : 0 ≤ lo ∧ lo ≤ hi ∧ hi ≤ xs.length ∧ ys = (xs.take hi.toNat).drop lo.toNat := by
  unfold cut at h
  split at h
  · rename_i hh; cases h; exact ⟨hh.1, hh.2.1, hh.2.2, rfl⟩
  · cases h
def Zn (k : IntKind) (a b : Int) : Option Int := if b = 0 then none else some (k.wrap (a.tdiv b))
def Uc (k : IntKind) (a b : Int) : Option Int := if b = 0 then none else some (a.tmod b)
def Qy (k : IntKind) (a b : Int) : Option Int := if b < 0 then none else some (k.wrap (a * 2 ^ min b.toNat k.bits))
def dP (k : IntKind) (a b : Int) : Option Int := if b < 0 then none else some (a.fdiv (2 ^ min b.toNat k.bits))
/-! arrays -/
structure Arr (n : Nat) (α : Type) where
  l : List α
  h : l.length = n
def Arr.g [Inhabited α] {n : Nat} (a : Arr n α) (j : Nat) : α := a.l[j]?.getD default
def Ho (l : List α) : Arr l.length α := ⟨l, rfl⟩
def ga {n : Nat} (a : Arr n α) (i : Int) : Option α := if 0 ≤ i then a.l[i.toNat]? else none
def sa {n : Nat} (a : Arr n α) (i : Int) (x : α) : Option (Arr n α) := if 0 ≤ i ∧ i < n then some ⟨a.l.set i.toNat x, by rw [List.length_set, a.h]⟩ else none
instance [Inhabited α] {n : Nat} : Inhabited (Arr n α) := ⟨⟨List.replicate n default, by simp⟩⟩
theorem Yt [Inhabited α] {n : Nat} {a : Arr n α} {i : Int} {x : α} (h : ga a i = some x) : 0 ≤ i ∧ i < n ∧ x = a.g i.toNat := by
  unfold ga at h
  split at h
  · rename_i h0
    have := (List.getElem?_eq_some_iff.1 h).1
    exact ⟨h0, by have := a.h; omega, by unfold Arr.g; rw [h]; rfl⟩
  · cases h
theorem bP [Inhabited α] {n : Nat} {a b : Arr n α} {i : Int} {x : α} (h : sa a i x = some b) : 0 ≤ i ∧ i < n ∧ ∀ j, b.g j = if j = i.toNat then x else a.g j := by
  unfold sa at h
  split at h
  · rename_i h0
    cases h
    refine ⟨h0.1, h0.2, fun j => ?_⟩
    have := a.h
    unfold Arr.g
    rw [List.getElem?_set]
    split
    · rename_i e; subst e
      rw [if_pos rfl, if_pos (by omega)]; rfl
    · rename_i e; rw [if_neg (Ne.symm e)]
  · cases h
/-! more of them -/
theorem aK {α β γ δ ε : Type} {x0 x0' : α} {x1 x1' : β} {x2 x2' : γ} {x3 x3' : δ} {x4 x4' : ε} (h : some (x0, x1, x2, x3, x4) = some (x0', x1', x2', x3', x4')) : x0 = x0' ∧ x1 = x1' ∧ x2 = x2' ∧ x3 = x3' ∧ x4 = x4' := by cases h; exact ⟨rfl, rfl, rfl, rfl, rfl⟩
def tE {α β γ δ ε ζ ω : Type} (f : α → β → γ → δ → ε → ζ → ω) (y : α × β × γ × δ × ε × ζ) : ω := f y.1 y.2.1 y.2.2.1 y.2.2.2.1 y.2.2.2.2.1 y.2.2.2.2.2
def sV {α β γ δ ε ζ η ω : Type} (q : Option (α × β × γ × δ × ε × ζ × η)) (k : α → β → γ → δ → ε → ζ → η → Option ω) : Option ω := match q with
  | some (x0, x1, x2, x3, x4, x5, x6) => k x0 x1 x2 x3 x4 x5 x6
  | none => none
def tF {α β γ δ ε ζ η ω : Type} (f : α → β → γ → δ → ε → ζ → η → ω) (y : α × β × γ × δ × ε × ζ × η) : ω := f y.1 y.2.1 y.2.2.1 y.2.2.2.1 y.2.2.2.2.1 y.2.2.2.2.2.1 y.2.2.2.2.2.2
def sW {α β γ δ ε ζ η θ ω : Type} (q : Option (α × β × γ × δ × ε × ζ × η × θ)) (k : α → β → γ → δ → ε → ζ → η → θ → Option ω) : Option ω := match q with
  | some (x0, x1, x2, x3, x4, x5, x6, x7) => k x0 x1 x2 x3 x4 x5 x6 x7
  | none => none
def tG {α β γ δ ε ζ η θ ω : Type} (f : α → β → γ → δ → ε → ζ → η → θ → ω) (y : α × β × γ × δ × ε × ζ × η × θ) : ω := f y.1 y.2.1 y.2.2.1 y.2.2.2.1 y.2.2.2.2.1 y.2.2.2.2.2.1 y.2.2.2.2.2.2.1 y.2.2.2.2.2.2.2
def sX {α β γ δ ε ζ η θ ι ω : Type} (q : Option (α × β × γ × δ × ε × ζ × η × θ × ι)) (k : α → β → γ → δ → ε → ζ → η → θ → ι → Option ω) : Option ω := match q with
  | some (x0, x1, x2, x3, x4, x5, x6, x7, x8) => k x0 x1 x2 x3 x4 x5 x6 x7 x8
  | none => none
def tH {α β γ δ ε ζ η θ ι ω : Type} (f : α → β → γ → δ → ε → ζ → η → θ → ι → ω) (y : α × β × γ × δ × ε × ζ × η × θ × ι) : ω := f y.1 y.2.1 y.2.2.1 y.2.2.2.1 y.2.2.2.2.1 y.2.2.2.2.2.1 y.2.2.2.2.2.2.1 y.2.2.2.2.2.2.2.1 y.2.2.2.2.2.2.2.2
def qY {α β γ δ ε ζ η θ ι κ ω : Type} (q : Option (α × β × γ × δ × ε × ζ × η × θ × ι × κ)) (k : α → β → γ → δ → ε → ζ → η → θ → ι → κ → Option ω) : Option ω := match q with
  | some (x0, x1, x2, x3, x4, x5, x6, x7, x8, x9) => k x0 x1 x2 x3 x4 x5 x6 x7 x8 x9
  | none => none
def sY {α β γ δ ε ζ η θ ι κ ω : Type} (f : α → β → γ → δ → ε → ζ → η → θ → ι → κ → ω) (y : α × β × γ × δ × ε × ζ × η × θ × ι × κ) : ω := f y.1 y.2.1 y.2.2.1 y.2.2.2.1 y.2.2.2.2.1 y.2.2.2.2.2.1 y.2.2.2.2.2.2.1 y.2.2.2.2.2.2.2.1 y.2.2.2.2.2.2.2.2.1 y.2.2.2.2.2.2.2.2.2
def qZ {α β γ δ ε ζ η θ ι κ μ ω : Type} (q : Option (α × β × γ × δ × ε × ζ × η × θ × ι × κ × μ)) (k : α → β → γ → δ → ε → ζ → η → θ → ι → κ → μ → Option ω) : Option ω := match q with
  | some (x0, x1, x2, x3, x4, x5, x6, x7, x8, x9, x10) => k x0 x1 x2 x3 x4 x5 x6 x7 x8 x9 x10
  | none => none
def sZ {α β γ δ ε ζ η θ ι κ μ ω : Type} (f : α → β → γ → δ → ε → ζ → η → θ → ι → κ → μ → ω) (y : α × β × γ × δ × ε × ζ × η × θ × ι × κ × μ) : ω := f y.1 y.2.1 y.2.2.1 y.2.2.2.1 y.2.2.2.2.1 y.2.2.2.2.2.1 y.2.2.2.2.2.2.1 y.2.2.2.2.2.2.2.1 y.2.2.2.2.2.2.2.2.1 y.2.2.2.2.2.2.2.2.2.1 y.2.2.2.2.2.2.2.2.2.2
def rA {α β γ δ ε ζ η θ ι κ μ ν ω : Type} (q : Option (α × β × γ × δ × ε × ζ × η × θ × ι × κ × μ × ν)) (k : α → β → γ → δ → ε → ζ → η → θ → ι → κ → μ → ν → Option ω) : Option ω := match q with
  | some (x0, x1, x2, x3, x4, x5, x6, x7, x8, x9, x10, x11) => k x0 x1 x2 x3 x4 x5 x6 x7 x8 x9 x10 x11
  | none => none
def tA {α β γ δ ε ζ η θ ι κ μ ν ω : Type} (f : α → β → γ → δ → ε → ζ → η → θ → ι → κ → μ → ν → ω) (y : α × β × γ × δ × ε × ζ × η × θ × ι × κ × μ × ν) : ω := f y.1 y.2.1 y.2.2.1 y.2.2.2.1 y.2.2.2.2.1 y.2.2.2.2.2.1 y.2.2.2.2.2.2.1 y.2.2.2.2.2.2.2.1 y.2.2.2.2.2.2.2.2.1 y.2.2.2.2.2.2.2.2.2.1 y.2.2.2.2.2.2.2.2.2.2.1 y.2.2.2.2.2.2.2.2.2.2.2
/-! loops -/
def Px {σ ρ : Type} (f : σ → Option (σ ⊕ ρ)) : Nat → σ → Option ρ
  | 0, _ => none
  | k + 1, s => match f s with
    | some (.inl s') => Px f k s'
    | some (.inr r) => some r
    | none => none
open Classical in
noncomputable def Gg {σ ρ : Type} (f : σ → Option (σ ⊕ ρ)) (s : σ) : Option ρ := if h : ∃ r k, Px f k s = some r then some h.choose else none
theorem Tl {σ ρ : Type} {f : σ → Option (σ ⊕ ρ)} : ∀ (k k' : Nat) s r, k ≤ k' → Px f k s = some r → Px f k' s = some r
  | 0, _, s, r, _, h => by cases h
  | k + 1, 0, s, r, hk, h => by omega
  | k + 1, k' + 1, s, r, hk, h => by
    simp only [Px] at h ⊢
    split at h
    · exact Tl k k' _ r (by omega) h
    · exact h
    · cases h
theorem U5 {σ ρ : Type} {f : σ → Option (σ ⊕ ρ)} {s r} (h : Gg f s = some r) : ∃ k, Px f k s = some r := by
  unfold Gg at h
  split at h
  · rename_i hk; cases h; exact hk.choose_spec
  · cases h
theorem Yu {σ ρ : Type} {f : σ → Option (σ ⊕ ρ)} {s r k} (h : Px f k s = some r) : Gg f s = some r := by
  have hk : ∃ r k, Px f k s = some r := ⟨r, k, h⟩
  unfold Gg
  rw [dif_pos hk]
  obtain ⟨k', hk'⟩ := hk.choose_spec
  have h1 := Tl k (max k k') s r (Nat.le_max_left _ _) h
  have h2 := Tl k' (max k k') s _ (Nat.le_max_right _ _) hk'
  rw [h1] at h2
  exact h2.symm
theorem Fw {σ ρ : Type} (f : σ → Option (σ ⊕ ρ)) (s : σ) : Gg f s = match f s with
    | some (.inl s') => Gg f s'
    | some (.inr r) => some r
    | none => none := by
  cases h : Gg f s with
  | some r =>
    obtain ⟨k, hk⟩ := U5 h
    cases k with
    | zero => cases hk
    | succ k =>
      simp only [Px] at hk
      split at hk
      · exact (Yu hk).symm
      · exact hk.symm
      · cases hk
  | none =>
    split
    · rename_i s' hs
      cases h2 : Gg f s' with
      | none => rfl
      | some r =>
        obtain ⟨k, hk⟩ := U5 h2
        rw [Yu (k := k + 1) (r := r) (by simp only [Px, hs]; exact hk)] at h
        cases h
    · rename_i r hs
      rw [Yu (k := 1) (r := r) (by simp only [Px, hs])] at h
      cases h
    · rfl
theorem Py {σ ρ : Type} {f : σ → Option (σ ⊕ ρ)} {s s' : σ} (h : f s = some (.inl s')) : Gg f s = Gg f s' := by rw [Fw, h]
theorem Mp {σ ρ : Type} {f : σ → Option (σ ⊕ ρ)} {s : σ} {r : ρ} (h : f s = some (.inr r)) : Gg f s = some r := by rw [Fw, h]
end
/-! how values stand in cells -/
def eI (k : IntKind) (n : Int) : List AV := [.int k n]
def eB (b : Bool) : List AV := [.bool b]
def eS (b : ByteArray) : List AV := [.str b]
def eP (p : Ptr) : List AV := [p.av]
def eL {α : Type} (z : Nat) (E : α → List AV) (xs : List α) : List AV := [.sl z (xs.map E)]
def eA {α : Type} [Inhabited α] (n : Nat) (E : α → List AV) (a : Arr n α) : List AV := (List.range n).flatMap fun j => E (a.g j)
/-! the heap -/
def Cq (H : Ai) (i off n : Nat) : Option (List MC) := match H[i]? with
  | some o => Cs o off n
  | none => none
def Dp (H : Ai) (i off : Nat) (cs : List MC) : Ai := match H[i]? with
  | some o => H.set i (A4 o off cs)
  | none => H
section
variable {H : Ai} {i o N k n : Nat} {cs new : List MC}
theorem Oo (h : Cq H i o n = some cs) : ∃ c, H[i]? = some c ∧ o + n ≤ c.length ∧ cs = (c.drop o).take n ∧ cs.length = n := by
  unfold Cq at h
  split at h
  · rename_i c hc
    unfold Cs at h
    split at h
    · rename_i hl
      cases h
      exact ⟨c, hc, hl, rfl, by simp; omega⟩
    · cases h
  · cases h
theorem Wr {c : List MC} (h : H[i]? = some c) (hl : o + n ≤ c.length) : Cq H i o n = some ((c.drop o).take n) := by
  unfold Cq Cs
  rw [h]
  simp [hl]
theorem Oq (V : Cq H i o N = some cs) (k n : Nat) (h : k + n ≤ N) : Cq H i (o + k) n = some ((cs.drop k).take n) := by
  obtain ⟨c, h1, h2, rfl, _⟩ := Oo V
  rw [Wr h1 (by omega)]
  congr 1
  rw [List.drop_take, List.drop_drop, List.take_take, Nat.min_eq_left (by omega)]
theorem aL {α : Type} {cs new : List α} {off : Nat} (h : off + new.length ≤ cs.length) : (A4 cs off new).length = cs.length := by
  simp [A4]; omega
theorem N6 {c : List MC} (h : H[i]? = some c) (off : Nat) (cs : List MC) : Dp H i off cs = H.set i (A4 c off cs) := by
  unfold Dp; rw [h]
theorem Bt (V : Cq H i o N = some cs) (hn : new.length = N) : Cq (Dp H i o new) i o N = some new := by
  obtain ⟨c, h1, h2, rfl, _⟩ := Oo V
  have hi : i < H.length := (List.getElem?_eq_some_iff.1 h1).1
  rw [N6 h1, Wr (c := A4 c o new) (by simp [hi]) (by rw [aL (by omega)]; exact h2)]
  congr 1
  subst hn
  apply List.ext_getElem?
  intro j
  have e : min o c.length = o := by omega
  simp only [A4, List.getElem?_append, List.length_append, List.length_take, List.getElem?_take, List.getElem?_drop, List.length_drop, e]
  grind
theorem dQ {α : Type} {cs a b : List α} {o k : Nat} (h1 : o + a.length ≤ cs.length) (h2 : k + b.length ≤ a.length) : A4 (A4 cs o a) (o + k) b = A4 cs o (A4 a k b) := by
  apply List.ext_getElem?
  intro j
  have e0 : min o cs.length = o := by omega
  have e1 : min k a.length = k := by omega
  simp only [A4, List.getElem?_append, List.length_append, List.length_take, List.getElem?_take, List.getElem?_drop, List.length_drop, e0, e1]
  grind
theorem Lp (V : Cq H i o N = some cs) (hc : new.length = N) {k : Nat} {b : List MC} (h : k + b.length ≤ N) : Dp (Dp H i o new) i (o + k) b = Dp H i o (A4 new k b) := by
  obtain ⟨c, h1, h2, rfl, _⟩ := Oo V
  have hi : i < H.length := (List.getElem?_eq_some_iff.1 h1).1
  rw [N6 h1, N6 h1, N6 (c := A4 c o new) (by simp [hi]), List.set_set, dQ (by omega) (by omega)]
theorem jU (V : Cq H i o N = some cs) : Dp H i o cs = H := by
  obtain ⟨c, h1, h2, rfl, _⟩ := Oo V
  rw [N6 h1]
  have : A4 c o (List.take N (List.drop o c)) = c := by
    apply List.ext_getElem?
    intro j
    simp only [A4, List.getElem?_append, List.length_append, List.length_take, List.getElem?_take, List.getElem?_drop, List.length_drop]
    grind
  rw [this]
  apply List.ext_getElem?
  intro j
  by_cases hj : j = i
  · subst hj; rw [h1]; simp [(List.getElem?_eq_some_iff.1 h1).1]
  · simp [List.getElem?_set, Ne.symm hj]
theorem Ca (V : Cq H i o N = some cs) {k : Nat} {b : List MC} (h : k + b.length ≤ N) : Dp H i (o + k) b = Dp H i o (A4 cs k b) := by
  obtain ⟨_, _, _, _, hl⟩ := Oo V
  have := Lp V hl h
  rw [jU V] at this
  exact this
theorem Tm {j off m : Nat} (h : i ≠ j) : Cq (Dp H i o new) j off m = Cq H j off m := by
  unfold Dp
  split
  · unfold Cq; rw [List.getElem?_set_ne h]
  · rfl
theorem dR : (Dp H i o new).length = H.length := by
  unfold Dp
  split <;> simp
theorem nY (V : Cq H i o N = some cs) : i < H.length := by
  obtain ⟨c, h1, _⟩ := Oo V
  exact (List.getElem?_eq_some_iff.1 h1).1
theorem lR {new : List (List MC)} (V : Cq H i o N = some cs) : Cq (H ++ new) i o N = some cs := by
  obtain ⟨c, h1, h2, rfl, _⟩ := Oo V
  exact Wr (by rw [List.getElem?_append_left (List.getElem?_eq_some_iff.1 h1).1]; exact h1) h2
open Classical in
noncomputable def O7 {α : Type} (en : α → List MC) (n : Nat) (H : Ai) (i o : Nat) : Option α := if h : ∃ x, Cq H i o n = some (en x) then some h.choose else none
theorem A8 {α : Type} {en : α → List MC} {x : α} (h : O7 en n H i o = some x) : Cq H i o n = some (en x) := by
  unfold O7 at h
  split at h
  · rename_i hx; cases h; exact hx.choose_spec
  · cases h
theorem Pz {α : Type} {en : α → List MC} (inj : ∀ x y, en x = en y → x = y) {x : α} (h : Cq H i o n = some (en x)) : O7 en n H i o = some x := by
  have hx : ∃ x, Cq H i o n = some (en x) := ⟨x, h⟩
  unfold O7
  rw [dif_pos hx]
  exact congrArg some (inj _ _ (Option.some.inj (hx.choose_spec.symm.trans h)))
theorem lS {cs : List MC} : Cq (H ++ [cs]) H.length 0 cs.length = some cs := by
  rw [Wr (c := cs) (by simp) (by simp)]
  simp
end
end Go.Proofs.Abs
namespace Go.Proofs.Abs
open Go
set_option linter.unusedVariables false
set_option linter.unusedSimpArgs false
def rB (q : Option (Ex × St)) (N : St → Prop) (E : Nat → St → Prop) (R : St → Prop) : Prop := match q with
  | some (.nrm, s) => N s
  | some (.exit i, s) => E i s
  | some (.ret, s) => R s
  | none => False
structure wpC (q : Option (Ex × St)) (N : St → Prop) (E : Nat → St → Prop) (R : St → Prop) : Prop where
  h : rB q N E R
def fO (id : Nat) (N : St → Prop) (E : Nat → St → Prop) (j : Nat) (s : St) : Prop := if j = id then N s else E j s
theorem Qj {id : Nat} {N : St → Prop} {E : Nat → St → Prop} {s : St} (h : N s) : fO id N E id s := by unfold fO; rw [if_pos rfl]; exact h
theorem qM {id i : Nat} {N : St → Prop} {E : Nat → St → Prop} {s : St} (h : Nat.beq i id = false) (k : E i s) : fO id N E i s := by
  unfold fO
  rw [if_neg (fun e => by subst e; simp at h)]; exact k
section
variable {X : Cx} {pu : Pu} {st : Bool} {fn id i : Nat} {ops : List Oper} {s s1 s2 s' : St} {N : St → Prop} {E : Nat → St → Prop} {R : St → Prop} {c c' : Code}
noncomputable abbrev ev (X : Cx) (pu : Pu) (fn : Nat) (c : Code) (s : St) : Option (Ex × St) := evC X pu (evS X) N2 fn c s
theorem Ry {q : Option (Ex × St)} (h : wpC q N E R) : ∃ e t, q = some (e, t) ∧ wpC (some (e, t)) N E R := by
  cases q with
  | none => exact h.h.elim
  | some x => exact ⟨x.1, x.2, rfl, h⟩
theorem nZ {q : Option (Ex × St)} {N' E' R'} (h : wpC q N E R) (hN : ∀ s, N s → N' s) (hE : ∀ i s, E i s → E' i s) (hR : ∀ s, R s → R' s) : wpC q N' E' R' := by
  obtain ⟨e, t, rfl, h⟩ := Ry h
  cases e with
  | nrm => exact ⟨hN _ h.h⟩
  | exit i => exact ⟨hE _ _ h.h⟩
  | ret => exact ⟨hR _ h.h⟩
theorem Ah (h : wpC (ev X pu fn c s) (fun t => wpC (ev X pu fn c' t) N E R) E R) : wpC (ev X pu fn (.seq c c') s) N E R := by
  obtain ⟨e, t, he, h⟩ := Ry h
  simp only [ev] at he
  simp only [ev, evC, he]
  cases e with
  | nrm => exact h.h
  | exit i => exact ⟨h.h⟩
  | ret => exact ⟨h.h⟩
theorem Am (h : N s) : wpC (ev X pu fn .skip s) N E R := ⟨h⟩
theorem Pg (h : E i s) : wpC (ev X pu fn (.exit i) s) N E R := ⟨h⟩
theorem As (h : R s) : wpC (ev X pu fn .ret s) N E R := ⟨h⟩
theorem Bs (h : wpC (ev X pu fn c s) N (fO id N E) R) : wpC (ev X pu fn (.block id c) s) N E R := by
  obtain ⟨e, t, he, h⟩ := Ry h
  simp only [ev] at he
  simp only [ev, evC, he]
  cases e with
  | nrm => exact ⟨h.h⟩
  | ret => exact ⟨h.h⟩
  | exit i =>
    have h : fO id N E i t := h.h
    unfold fO at h
    simp only [pF]
    split
    · rename_i e; rw [if_pos e] at h; exact ⟨h⟩
    · rename_i e; rw [if_neg e] at h; exact ⟨h⟩
theorem oA {x : Operand} {m : Md} (h : opnd X.P s 0 x = some (.one m (.bool true))) (hs : s.drop (X.deadC fn (Zi x c c') true) = s1) (k : wpC (ev X pu fn c s1) N E R) : wpC (ev X pu fn (.cond x c c') s) N E R := by
  subst hs
  simp only [ev, evC, h, Zz]
  exact k
theorem oB {x : Operand} {m : Md} (h : opnd X.P s 0 x = some (.one m (.bool false))) (hs : s.drop (X.deadC fn (Zi x c c') false) = s1) (k : wpC (ev X pu fn c' s1) N E R) : wpC (ev X pu fn (.cond x c c') s) N E R := by
  subst hs
  simp only [ev, evC, h, Zz]
  exact k
theorem rC {x : Operand} {m : Md} {b : Bool} (hb : b = true) (h : opnd X.P s 0 x = some (.one m (.bool b))) (hs : s.drop (X.deadC fn (Zi x c c') true) = s1) (k : wpC (ev X pu fn c s1) N E R) : wpC (ev X pu fn (.cond x c c') s) N E R := by subst hb; exact oA h hs k
theorem rD {x : Operand} {m : Md} {b : Bool} (hb : b = false) (h : opnd X.P s 0 x = some (.one m (.bool b))) (hs : s.drop (X.deadC fn (Zi x c c') false) = s1) (k : wpC (ev X pu fn c' s1) N E R) : wpC (ev X pu fn (.cond x c c') s) N E R := by subst hb; exact oB h hs k
theorem bQ {q : Ex × St} (h : q = (.exit i, s)) (k : E i s) : wpC (some q) N E R := by subst h; exact ⟨k⟩
theorem lT {q : Ex × St} (h : q = (.ret, s)) (k : R s) : wpC (some q) N E R := by subst h; exact ⟨k⟩
theorem Ar {α : Type} {q : Option (Ex × St)} (S : α → St) (P : α → Prop) (h1 : ∀ x, P x → N (S x)) (h2 : wpC q (fun t => ∃ x, P x ∧ t = S x) E R) : wpC q N E R :=
  nZ h2 (fun t ⟨x, hx, e⟩ => by subst e; exact h1 x hx) (fun _ _ h => h) (fun _ h => h)
theorem Aw (b : Bool) : b = true ∨ b = false := by cases b <;> simp
theorem fP {α β γ : Type} (f : α → β → γ) {a a' : α} {b b' : β} (h : a = a') (k : b = b') : f a b = f a' b' := by subst h k; rfl
theorem Yv (s1 : St) {ops : Array Oper} (h : cN (X.dead fn id) (Jf X pu (evS X) fn id ops.toList 0 ops.toList (some s)) = some (.nrm, s1)) (k : N s1) : wpC (ev X pu fn (.region id ops false) s) N E R := by
  simp only [ev, evC, Bool.false_eq_true, if_false, h]
  exact ⟨k⟩
/-! regions, step by step -/
def Ud (X : Cx) (pu : Pu) (fn id : Nat) (ops : List Oper) (i : Nat) (s s2 : St) : Prop := ∃ t, Jf X pu (evS X) fn id ops i (ops.drop i) (some s) = some t ∧ t.drop (X.dead fn id) = s2
theorem Ak {ops : Array Oper} (s2 : St) (h : Ud X pu fn id ops.toList 0 s s2) (k : N s2) : wpC (ev X pu fn (.region id ops false) s) N E R := by
  obtain ⟨t, h1, h2⟩ := h
  refine Yv s2 ?_ k
  rw [List.drop_zero] at h1
  rw [h1, ← h2]; rfl
theorem qN (h : Nat.ble ops.length i = true) (hs : s.drop (X.dead fn id) = s2) : Ud X pu fn id ops i s s2 := by
  refine ⟨s, ?_, hs⟩
  rw [List.drop_eq_nil_of_le (Nat.le_of_ble_eq_true h)]; rfl
theorem Bc (h : s = s') (k : Ud X pu fn id ops i s' s2) : Ud X pu fn id ops i s s2 := by subst h; exact k
theorem Bw (h : s' = s2) (k : Ud X pu fn id ops i s s') : Ud X pu fn id ops i s s2 := by subst h; exact k
theorem Ue {l' : List Oper} : ∀ (l : List Oper) (i : Nat) (q : Option St), Jf X pu (evS X) fn id ops i (l ++ l') q = Jf X pu (evS X) fn id ops (i + l.length) l' (Jf X pu (evS X) fn id ops i l q)
  | [], i, q => by cases q <;> simp [Jf]
  | o :: l, i, none => by
    rw [List.cons_append]
    cases l' <;> rfl
  | o :: l, i, some t => by
    rw [List.cons_append]
    simp only [Jf]
    rw [Ue l]
    simp only [List.length_cons]
    congr 1; omega
theorem qO (j : Nat) (s1 : St) (hj : Nat.ble (i + j) ops.length = true) (h : Jf X pu (evS X) fn id ops i ((ops.drop i).take j) (some s) = some s1) (k : Ud X pu fn id ops (i + j) s1 s2) : Ud X pu fn id ops i s s2 := by
  obtain ⟨t, h1, h2⟩ := k
  refine ⟨t, ?_, h2⟩
  have hj := Nat.le_of_ble_eq_true hj
  have e : ops.drop i = (ops.drop i).take j ++ ops.drop (i + j) := by rw [← List.drop_drop, List.take_append_drop]
  rw [e, Ue, h]
  have : ((ops.drop i).take j).length = j := by simp; omega
  rw [this]; exact h1
theorem Aj (s1 : St) (h : Gk X pu (evS X) fn id ops i (some s) = some s1) (k : Ud X pu fn id ops (i + 1) s1 s2) : Ud X pu fn id ops i s s2 := by
  obtain ⟨t, h1, h2⟩ := k
  refine ⟨t, ?_, h2⟩
  simp only [Gk] at h
  split at h
  · rename_i o ho
    have hlt := (List.getElem?_eq_some_iff.1 ho)
    have e : ops.drop i = o :: ops.drop (i + 1) := by rw [List.drop_eq_getElem_cons hlt.1, hlt.2]
    rw [e]
    simp only [Jf, h]
    exact h1
  · cases h
/-! drawn regions -/
def Qz (X : Cx) (pu : Pu) (st : Bool) (fn id : Nat) (ops : List Oper) (sch : Sch) (s s2 : St) : Prop := ∃ t, C3 X pu st (evS X) fn id ops sch (some s) = some t ∧ t.drop (X.dead fn id) = s2
theorem Bn {ops : Array Oper} (sch : Sch) (hsch : X.sch fn id = sch) (s2 : St) (h : Qz X ⟨pu.ob || X.rpu fn id, pu.lc ++ X.rlc fn id⟩ (X.rst fn id) fn id ops.toList sch s s2) (k : N s2) : wpC (ev X pu fn (.region id ops true) s) N E R := by
  subst hsch
  obtain ⟨t, h1, h2⟩ := h
  simp only [ev, evC, if_true, h1, cN, h2]
  exact ⟨k⟩
theorem qP (hs : s.drop (X.dead fn id) = s2) : Qz X pu st fn id ops .done s s2 := ⟨s, rfl, hs⟩
theorem Ao {n : Sch} (s1 : St) (h : M5 X pu st (evS X) fn id ops i (some s) = some s1) (k : Qz X pu st fn id ops n s1 s2) : Qz X pu st fn id ops (.take i n) s s2 := by
  obtain ⟨t, h1, h2⟩ := k
  exact ⟨t, by simp only [C3, h]; exact h1, h2⟩
theorem Bo {n : Sch} (s1 : St) (h : Gk X pu (evS X) fn id ops i (some s) = some s1) (k : Qz X pu st fn id ops n s1 s2) : Qz X pu st fn id ops (.last i n) s s2 := by
  obtain ⟨t, h1, h2⟩ := k
  exact ⟨t, by simp only [C3, h]; exact h1, h2⟩
theorem jV {sch : Sch} (sF : St) (h : C3 X pu st (evS X) fn id ops sch (some s) = some sF) (hs : sF.drop (X.dead fn id) = s2) : Qz X pu st fn id ops sch s s2 := ⟨sF, h, hs⟩
theorem qQ (h : s = s') : C3 X pu st (evS X) fn id ops .done (some s) = some s' := by subst h; rfl
theorem Tn {n : Sch} (s1 : St) (h : M5 X pu st (evS X) fn id ops i (some s) = some s1) (k : C3 X pu st (evS X) fn id ops n (some s1) = some s2) : C3 X pu st (evS X) fn id ops (.take i n) (some s) = some s2 := by
  simp only [C3, h]; exact k
theorem Bz {n : Sch} (s1 : St) (h : Gk X pu (evS X) fn id ops i (some s) = some s1) (k : C3 X pu st (evS X) fn id ops n (some s1) = some s2) : C3 X pu st (evS X) fn id ops (.last i n) (some s) = some s2 := by
  simp only [C3, h]; exact k
theorem P2 {n r : Sch} (s1 : St) (h : Gk X pu (evS X) fn id ops i (some s) = some s1) (k : C3 X pu st (evS X) fn id ops n (some s1) = some s2) (k2 : C3 X pu st (evS X) fn id ops r (some s) = some s2) : C3 X pu st (evS X) fn id ops (.alt i n r) (some s) = some s2 := by
  simp only [C3, h, k, k2]; exact Tc _
theorem lU {d : List Nat × List Nat} (h : s = s') (k : s'.drop d = s2) : s.drop d = s2 := by subst h; exact k
theorem Fe {sch : Sch} (h : s = s') (k : Qz X pu st fn id ops sch s' s2) : Qz X pu st fn id ops sch s s2 := by subst h; exact k
theorem Uf {sch : Sch} (h : s' = s2) (k : Qz X pu st fn id ops sch s s') : Qz X pu st fn id ops sch s s2 := by subst h; exact k
theorem oC {Y : Option St} {f : FuncId} {args : List TV} {H H' : Ai} {v : TV} {d : Option Tmp} {fz pure own : Bool} (s0 : St) (hc : evS X f args H = some (v, H')) (hr : Y = cK fz pure own d s0 (evS X f args H)) (hs : cK fz pure own d s0 (some (v, H')) = some s1) : Y = some s1 := by
  rw [hr, hc, hs]
theorem lV {ty : TypeId} {j o N k n : Nat} {cs : List MC} {agg : Bool} {v : TV} (V : Cq s.h j o N = some cs) (hT : Eu X.P ty = some agg) (hn : De X.P ty = some n) (hk : Nat.ble (k + n) N = true) (hv : mkT agg (((cs.drop k).take n).map fun c => (c.1.cpH, c.2)) = some v) :
    Mg X.P .cp ty (.obj j (o + k)) s = some (v, s) := by
  have h1 := Oq V k n (Nat.le_of_ble_eq_true hk)
  unfold Cq at h1
  split at h1
  · rename_i c hc
    simp only [Mg, hT, hn, hc, cI, h1, mkV, hv]
  · cases h1
theorem aM {Y : Option St} (s : St) (ty : TypeId) {j o N : Nat} {cs : List MC} (V : Cq s.h j o N = some cs) (k n : Nat) (agg : Bool) (v : TV) (d : Option Tmp) (hr : Y = Nx d (Mg X.P .cp ty (.obj j (o + k)) s)) (hT : Eu X.P ty = some agg) (hn : De X.P ty = some n) (hk : Nat.ble (k + n) N = true) (hv : mkT agg (((cs.drop k).take n).map fun c => (c.1.cpH, c.2)) = some v) (hs : C8 s d v = s1) : Y = some s1 := by
  rw [hr, lV V hT hn hk hv, ← hs]; rfl
theorem fQ {Y : Option St} (s : St) (ty : TypeId) {j o N : Nat} {cs : List MC} {h2 : Ai} (V : Cq s.h j o N = some cs) (k n : Nat) (agg : Bool) (v : TV) (d : Option Tmp) (hr : Y = Nx d (Mg X.P .take ty (.obj j (o + k)) s)) (hT : Eu X.P ty = some agg) (hn : De X.P ty = some n) (hk : Nat.ble (k + n) N = true) (hv : mkT agg ((cs.drop k).take n) = some v)
    (hh : Dp s.h j (o + k) (((cs.drop k).take n).map Fn) = h2) (hs : C8 ({ s with h := h2 }.kill Hi Cn) d v = s1) : Y = some s1 := by
  have h1 := Oq V k n (Nat.le_of_ble_eq_true hk)
  unfold Cq at h1
  split at h1
  · rename_i c hc
    rw [N6 hc] at hh
    rw [hr]
    simp only [Mg, hT, hn, hc, cI, h1, mkV, hv, Nx]
    rw [hh, hs]
  · cases h1
theorem fR {Y : Option St} (s : St) (ty : TypeId) {j o N : Nat} {cs : List MC} (V : Cq s.h j o N = some cs) (k e z : Nat) (xs : List (List AV)) (d : Option Tmp) (hr : Y = Nx d (Mg X.P .place ty (.obj j (o + k)) s)) (hT : Eu X.P ty = some false) (hn : De X.P ty = some 1) (hk : Nat.ble (k + 1) N = true) (hv : (cs.drop k).take 1 = [(.own (e + 1), .sl z xs)])
    (hs : C8 s d (.one .top (.at_ (.obj j (o + k)) 0 xs.length)) = s1) : Y = some s1 := by
  have h1 := Oq V k 1 (Nat.le_of_ble_eq_true hk)
  rw [hv] at h1
  unfold Cq at h1
  split at h1
  · rename_i c hc
    rw [hr, ← hs]
    simp only [Mg, hT, hn, hc, cI, h1]
    rfl
  · cases h1
def lW (j off : Nat) (new old : List MC) (s : St) : St :=
  let s2 := if Cj new then s.kill Dx Cn else s
  if Ft new || Ft old then s2.kill Ds (O2 j off new.length) else s2
theorem Gp {lc : List Nat} {Y : Option St} (s : St) (ty : TypeId) {j o N : Nat} {cs : List MC} {h2 : Ai} (V : Cq s.h j o N = some cs) (k n : Nat) (v : TV) (hr : Y = N3 X.P ⟨false, lc⟩ ty (.obj j (o + k)) v s) (hn : De X.P ty = some n) (hk : Nat.ble (k + n) N = true) (hl : v.cells.length = n) (hv : Mb v = true) (hkp : v.cells.all Mc = true)
    (hh : Dp s.h j (o + k) v.cells = h2) (hs : lW j (o + k) v.cells ((cs.drop k).take n) { s with h := h2 } = s1) : Y = some s1 := by
  have h1 := Oq V k n (Nat.le_of_ble_eq_true hk)
  unfold Cq at h1
  split at h1
  · rename_i c hc
    rw [N6 hc] at hh
    rw [hr]
    simp only [N3, hn, hl, hv, and_self, if_true, hc, gJ, h1, hkp, Bool.not_true, Bool.or_false, Bool.false_eq_true, if_false]
    rw [hh]
    subst hl
    exact congrArg some hs
  · cases h1
theorem qR {α : Type} {P : Program} {t e : TypeId} {z : Nat} {xs : List α} {En : α → List AV} {n : Int} {x : α} {m : Md} (hx : gi xs n = some x) (ht : P.underlying t = some (.slice e)) (hz : De P e = some z) :
    D1 P s t (.one m (.sl z (xs.map En))) n = some (.one .top (.rd m.cp m.inner.cp (En x) 0)) := by
  obtain ⟨h0, h1⟩ := fN hx
  simp only [D1, ht, hz, h0, true_and, if_true, List.getElem?_map, h1, Option.map_some, sc]
theorem Qw {α : Type} {Y : Option St} (s : St) (t e : TypeId) (z : Nat) {xs : List α} {n : Int} {x : α} (hx : gi xs n = some x) (En : α → List AV) (m : Md) (d : Option Tmp) (hr : Y = Gj s d (D1 X.P s t (.one m (.sl z (xs.map En))) n)) (ht : X.P.underlying t = some (.slice e)) (hz : De X.P e = some z)
    (hs : C8 s d (.one .top (.rd m.cp m.inner.cp (En x) 0)) = s1) : Y = some s1 := by
  rw [hr, qR hx ht hz, ← hs]; rfl
theorem fS {α : Type} {Y : Option St} (s : St) (t e : TypeId) (z : Nat) {xs : List α} {n : Int} {x : α} (hx : gi xs n = some x) (En : α → List AV) (r : Rt) (lo len : Nat) (q : Nat) (d : Option Tmp) (hr : Y = Gj s d (D1 X.P s t (.one .top (.at_ r lo len)) n)) (ht : X.P.underlying t = some (.slice e)) (hz : De X.P e = some z)
    (hat : Cp s r = some (.own (q + 1), .sl z (xs.map En))) (hlo : lo = 0) (hlen : len = xs.length) (hs : C8 s d (.one .top (.el r n.toNat 0)) = s1) : Y = some s1 := by
  obtain ⟨h0, h1⟩ := fN hx
  have h2 := (List.getElem?_eq_some_iff.1 h1).1
  subst hlo hlen
  rw [hr, ← hs]
  simp only [D1, ht, hz, hat, pB]
  rw [if_pos ⟨h0, by omega, trivial, by simpa using h2⟩]
  simp [Gj, sc]
theorem Yw {j o N k : Nat} {cs : List MC} {c : MC} (V : Cq s.h j o N = some cs) (hk : Nat.ble (k + 1) N = true) (hv : (cs.drop k).take 1 = [c]) : Cp s (.obj j (o + k)) = some c := by
  have h1 := Oq V k 1 (Nat.le_of_ble_eq_true hk)
  rw [hv] at h1
  unfold Cq at h1
  split at h1
  · rename_i c' hc
    show Bi (o + k) s.h[j]? = _
    rw [hc]
    obtain ⟨_, h2, h3⟩ := C5 h1
    exact (by simpa using (h3 0 c rfl).2 : c'[o + k]? = some c)
  · cases h1
theorem bR {α : Type} {Y : Option St} (s : St) (xs : List α) (En : α → List AV) (d : Option Tmp) (hr : Y = some (C8 s d (.one .top (.int .i64 ((xs.map En).length : Nat))))) (hs : C8 s d (.one .top (.int .i64 (xs.length : Nat))) = s1) : Y = some s1 := by
  rw [List.length_map] at hr
  rw [hr, hs]
theorem Lq {α : Type} {Y : Option St} (s : St) (zb : Nat) {xs ys zs : List α} (hx : app zb xs ys = some zs) (aty bty e : TypeId) (z q : Nat) (ze : List MC) (my : Md) (En : α → List AV) (dp : Nat) (d : Option Tmp) (hr : Y = Nx d (cJ s (M4 X.P aty bty [.one (.own (q + 1)) (.sl z (xs.map En)), .one my (.sl z (ys.map En))])))
    (ht : X.P.underlying aty = some (.slice e)) (hz : Ks X.P e = some ze) (hb : eH X.P e = some zb) (hl : z = ze.length) (h0 : Nat.beq z 0 = false) (hb0 : Nat.beq zb 0 = false) (hbt : Oe X.P bty = true) (hd : P7 my (ys.map En) = some dp) (hlen : ∀ x, (En x).length = z)
    (hs : C8 s d (.one (.own (min q dp + 1)) (.sl z (zs.map En))) = s1) : Y = some s1 := by
  obtain ⟨k1, rfl⟩ := nW hx
  have e1 : z ≠ 0 := fun e => by subst e; cases h0
  have e2 : zb ≠ 0 := fun e => by subst e; cases hb0
  rw [hr, ← hs]
  simp only [M4, ht, hz, hb]
  rw [if_pos ⟨hl, trivial, e1, e2, hbt⟩, hd]
  simp only [aX]
  rw [if_pos ⟨by simpa using k1, by simp [Tz, hlen]⟩]
  simp [cJ, Nx]
theorem O8 {α : Type} {Y : Option St} (s : St) (zb : Nat) {xs ys zs : List α} (hx : app zb xs ys = some zs) (aty bty e : TypeId) (z q : Nat) (ze : List MC) (my : Md) (En : α → List AV) (dp : Nat) (d : Option Tmp) (hr : Y = fzO true d (Nx d (cJ s (M4 X.P aty bty [.one (.own (q + 1)) (.sl z (xs.map En)), .one my (.sl z (ys.map En))]))))
    (ht : X.P.underlying aty = some (.slice e)) (hz : Ks X.P e = some ze) (hb : eH X.P e = some zb) (hl : z = ze.length) (h0 : Nat.beq z 0 = false) (hb0 : Nat.beq zb 0 = false) (hbt : Oe X.P bty = true) (hd : P7 my (ys.map En) = some dp) (hlen : ∀ x, (En x).length = z)
    (hs : fzD d (C8 s d (.one (.own (min q dp + 1)) (.sl z (zs.map En)))) = s1) : Y = some s1 := by
  have := Lq (X := X) (Y := Nx d (cJ s (M4 X.P aty bty [.one (.own (q + 1)) (.sl z (xs.map En)), .one my (.sl z (ys.map En))]))) s zb hx aty bty e z q ze my En dp d rfl ht hz hb hl h0 hb0 hbt hd hlen rfl
  rw [hr, this, ← hs]; rfl
theorem fT {α : Type} {xs : List α} {En : α → List AV} {m : Md} (hm : P7 m [] = some 9) (h : ∀ x, (En x).all (fun a => a.scalar) = true) : P7 m (xs.map En) = some 9 := by
  have hf : P6 (xs.map En) = true := by
    simp [P6]
    intro x _ a ha
    exact List.all_eq_true.1 (h x) a ha
  unfold P7 at hm ⊢
  split
  · exact hm
  · exact hm
  · rw [if_pos hf]
theorem lX {P : Program} {ty : TypeId} {x y : Operand} {m m' : Md} {k : IntKind} {a b : Int} : Ki P .quo ty x y (some (.one m (.int k a))) (some (.one m' (.int k b))) = (Zn k a b).map fun n => .one .top (.int k n) := by
  rw [nR]; unfold Zn; split <;> rfl
theorem fU {P : Program} {ty : TypeId} {x y : Operand} {m m' : Md} {k : IntKind} {a b : Int} : Ki P .rem ty x y (some (.one m (.int k a))) (some (.one m' (.int k b))) = (Uc k a b).map fun n => .one .top (.int k n) := by
  rw [nS]; unfold Uc; split <;> rfl
theorem bS {P : Program} {ty : TypeId} {x y : Operand} {m m' : Md} {k k' : IntKind} {a b : Int} : Ki P .shl ty x y (some (.one m (.int k a))) (some (.one m' (.int k' b))) = (Qy k a b).map fun n => .one .top (.int k n) := by
  rw [nT]; unfold Qy; split <;> rfl
theorem pN {P : Program} {ty : TypeId} {x y : Operand} {m m' : Md} {k k' : IntKind} {a b : Int} : Ki P .shr ty x y (some (.one m (.int k a))) (some (.one m' (.int k' b))) = (dP k a b).map fun n => .one .top (.int k n) := by
  rw [nU]; unfold dP; split <;> rfl
theorem Mz {Y : Option St} (s : St) (k : IntKind) {q : Option Int} {n : Int} (hq : q = some n) {Z : Option TV} (hw : Z = q.map fun n => .one .top (.int k n)) (d : Option Tmp) (hr : Y = Gj s d Z) (hs : C8 s d (.one .top (.int k n)) = s1) : Y = some s1 := by
  subst hq; rw [hr, hw, ← hs]; rfl
theorem Qk {Y : Option St} (s : St) {Z W : Option TV} {v : TV} (hw : Z = W) (hz : W = some v) (d : Option Tmp) (hr : Y = Gj s d Z) (hs : C8 s d v = s1) : Y = some s1 := by
  subst hw hz; rw [hr, ← hs]; rfl
theorem Ws {P : Program} {ty : TypeId} {x y : Operand} {m m' : Md} (p : Ptr) (h0 : Ki P .eql ty x y (some (.one m .nilp)) (some (.one m' .nilp)) = some (.one .top (.bool true))) (h1 : Zw P .eql ty = some (.one .top (.bool false))) :
    Ki P .eql ty x y (some (.one m p.av)) (some (.one m' .nilp)) = some (.one .top (.bool p.isNil)) := by
  cases p with
  | nil => exact h0
  | «at» i o => exact h1
theorem oD {P : Program} {ty : TypeId} {x y : Operand} {m m' : Md} (p : Ptr) (h0 : Ki P .neq ty x y (some (.one m .nilp)) (some (.one m' .nilp)) = some (.one .top (.bool false))) (h1 : Zw P .neq ty = some (.one .top (.bool true))) :
    Ki P .neq ty x y (some (.one m p.av)) (some (.one m' .nilp)) = some (.one .top (.bool (!p.isNil))) := by
  cases p with
  | nil => exact h0
  | «at» i o => exact h1
/-! loops -/
theorem Ql {σ ρ : Type} (enc : σ → St) (out : ρ → Ex × St) {body : σ → Option (σ ⊕ ρ)} {r : ρ} {x0 : σ} (hl : Gg body x0 = some r) (hs : s = enc x0)
    (hb : ∀ x o, body x = some o → wpC (ev X pu fn c (enc x)) (fun t => ∃ y, o = .inl y ∧ t = enc y) (fun i t => ∃ y, o = .inr y ∧ out y = (.exit i, t)) (fun t => ∃ y, o = .inr y ∧ out y = (.ret, t)))
    (hk : wpC (some (out r)) N E R) : wpC (ev X pu fn (.loop c) s) N E R := by
  subst hs
  obtain ⟨k, hk'⟩ := U5 hl
  have main : ∀ k x, Px body k x = some r → N2 (ev X pu fn c) (enc x) = some (out r) := by
    intro k
    induction k with
    | zero => intro x h; cases h
    | succ k ih =>
      intro x h
      simp only [Px] at h
      split at h
      · rename_i x' hx
        obtain ⟨e, t, he, hw⟩ := Ry (hb x _ hx)
        cases e with
        | nrm =>
          obtain ⟨y, e1, e2⟩ : ∃ y, Sum.inl x' = Sum.inl y ∧ t = enc y := hw.h
          cases e1; subst e2
          exact jR he (ih _ h)
        | exit i =>
          obtain ⟨y, e1, e2⟩ : ∃ y, Sum.inl x' = Sum.inr y ∧ out y = (.exit i, t) := hw.h
          cases e1
        | ret =>
          obtain ⟨y, e1, e2⟩ : ∃ y, Sum.inl x' = Sum.inr y ∧ out y = (.ret, t) := hw.h
          cases e1
      · rename_i r' hx
        cases h
        obtain ⟨e, t, he, hw⟩ := Ry (hb x _ hx)
        cases e with
        | nrm =>
          obtain ⟨y, e1, e2⟩ : ∃ y, Sum.inr r = Sum.inl y ∧ t = enc y := hw.h
          cases e1
        | exit i =>
          obtain ⟨y, e1, e2⟩ : ∃ y, Sum.inr r = Sum.inr y ∧ out y = (.exit i, t) := hw.h
          cases e1
          rw [e2]
          exact aI he (by simp)
        | ret =>
          obtain ⟨y, e1, e2⟩ : ∃ y, Sum.inr r = Sum.inr y ∧ out y = (.ret, t) := hw.h
          cases e1
          rw [e2]
          exact aI he (by simp)
      · cases h
  have := main k x0 hk'
  show wpC (N2 (ev X pu fn c) (enc x0)) N E R
  rw [this]
  exact hk
/-! what is told of a program beside its text -/
def h0 : Nat → Hint := fun _ => {}
def hl (l : List Hint) (i : Nat) : Hint := l.getD i {}
structure RI where
  h : Nat → Hint := h0
  dead : List Nat × List Nat := ([], [])
  sch : Sch := .done
  rpu : Bool := false
  rlc : List Nat := []
  rst : Bool := false
structure FI where
  pure : Bool := false
  frz : Bool := false
  two : Bool := false
  regs : List (Nat × RI) := []
  conds : List ((Nat × Nat × Nat) × (List Nat × List Nat) × (List Nat × List Nat)) := []
def lkR : List (Nat × RI) → Nat → RI
  | [], _ => {}
  | (k, r) :: l, j => bif Nat.beq k j then r else lkR l j
def lkC : List ((Nat × Nat × Nat) × (List Nat × List Nat) × (List Nat × List Nat)) → Nat × Nat × Nat → Bool → List Nat × List Nat
  | [], _, _ => ([], [])
  | (k, a, b) :: l, j, w => bif Nat.beq k.1 j.1 && (Nat.beq k.2.1 j.2.1 && Nat.beq k.2.2 j.2.2) then (bif w then a else b) else lkC l j w
def mkX (P : Program) (fi : Nat → FI) : Cx := { P := P, sch := fun f r => (lkR (fi f).regs r).sch, rpu := fun f r => (lkR (fi f).regs r).rpu, rlc := fun f r => (lkR (fi f).regs r).rlc, rst := fun f r => (lkR (fi f).regs r).rst, hint := fun f r => (lkR (fi f).regs r).h, dead := fun f r => (lkR (fi f).regs r).dead, deadC := fun f t w => lkC (fi f).conds t w, pure := fun f => (fi f).pure, frz := fun f => (fi f).frz, two := fun f => (fi f).two }
/-! whole functions -/
def Fin (X : Cx) (f : Nat) (h : Ai) (rs : List ResultVar) (r : TV × Ai) (s : St) : Prop := iS (X.frz f) (Og X.P (X.pure f) h rs (some (.ret, s))) = some r
theorem qS {f : FuncId} {args : List TV} {h : Ai} {r} {fu : Func} {c : Code} (hf : X.P.funcs[f]? = some fu) (hc : fu.body = some c) (hok : Xm X f fu c = true) (b : Bool) (hp : X.pure f = b) {s0 : St} (hs : { t := Cy 0 args, l := [], h := h } = s0)
    (hr : wpC (ev X ⟨b, []⟩ f c s0) (Fin X f h fu.results.toList r) (fun _ _ => False) (Fin X f h fu.results.toList r)) : evS X f args h = some r := by
  subst hs hp
  refine nV hf hc hok ?_
  obtain ⟨e, t, he, hw⟩ := Ry hr
  simp only [ev] at he
  rw [he]
  cases e with
  | nrm => exact hw.h
  | exit i => exact hw.h.elim
  | ret => exact hw.h
theorem lY {f : Nat} {h : Ai} {rs : List ResultVar} {v v' : TV} (hv : results X.P rs s = some v) (hp : X.pure f = true) (hh : s.h.length = h.length) (hz : frzIf (X.frz f) v = v') : Fin X f h rs (v', h) s := by
  unfold Fin
  simp only [Og, hv, hp, if_true, hh, iS, hz]
theorem iE {f : Nat} {h : Ai} {rs : List ResultVar} {v v' : TV} (hv : results X.P rs s = some v) (hp : X.pure f = false) (hz : frzIf (X.frz f) v = v') : Fin X f h rs (v', s.h) s := by
  unfold Fin
  simp only [Og, hv, hp, Bool.false_eq_true, if_false, iS, hz]
abbrev EN := Nat × TV
abbrev EB := Nat × List MC
def arM (k : IntKind) (n : Nat) {N : Nat} (a : Arr N Int) : List MC := (List.range n).map fun j => (.top, .int k (a.g j))
/-! functions that ask whether a slice is nil -/
section
variable {R : Type} {fin k : St → Option R} {r : R} {c' : Code}
end
end
end Go.Proofs.Abs
namespace Go.Proofs.Abs
open Go
set_option linter.unusedVariables false
set_option linter.unusedSimpArgs false
section
variable {X : Cx} {s1 : St} {α : Type}
theorem iF {Y : Option St} (s : St) (zb : Nat) {n m : Int} {x : α} {xs : List α} (hx : mks zb n m x = some xs) (t e : TypeId) (z : Nat) (ze : List MC) (En : α → List AV) (nt : Nat) (k1 k2 : IntKind) (d : Option Tmp) (hr : Y = Gj s d (Zx X.P t (some (.one .top (.int k1 n))) (some (.one .top (.int k2 m)))))
    (ht : X.P.underlying t = some (.slice e)) (hz : Ks X.P e = some ze) (hs : De X.P e = some z) (hb : eH X.P e = some zb) (hl : ze.length = z) (h0 : Nat.beq z 0 = false) (hn : Uy X.P Kn e = nt) (hE : ze.map (·.2) = En x) (hs1 : C8 s d (.one (.own (nt + 1)) (.sl z (xs.map En))) = s1) : Y = some s1 := by
  obtain ⟨k1, k2, k3, k4, rfl⟩ := nX hx
  have e1 : z ≠ 0 := fun e => by subst e; cases h0
  rw [hr, ← hs1]
  simp only [Zx, ht, hz, hs, hb]
  rw [if_pos ⟨k1, k2, k3, k4, hl, e1⟩, hn, hE]
  simp [Gj]
def dS (P : Program) (s : St) (d : Int) (x : Option Operand) (n : Int) : Prop := match x with
  | none => n = d
  | some x => (opnd P s 0 x).bind Ty = some n
theorem Yx {P : Program} {s : St} {d hi : Nat} {x : Option Operand} {n : Int} (h : dS P s d x n) (h0 : 0 ≤ n) (h1 : n ≤ hi) : M3 P s d hi x = some n.toNat := by
  cases x with
  | none =>
    have h : n = d := h
    subst h; simp [M3]
  | some x =>
    have h : (opnd P s 0 x).bind Ty = some n := h
    simp only [M3]
    cases hv : opnd P s 0 x with
    | none => rw [hv] at h; cases h
    | some v =>
      rw [hv] at h
      have h : Ty v = some n := h
      simp [h, h0, h1]
theorem pO {Y : Option St} (s : St) (t e z : Nat) {xs ys : List α} {lo hi : Int} (hy : cut xs lo hi = some ys) (En : α → List AV) (m : Md) (lo' hi' : Option Operand) (d : Option Tmp) (hr : Y = Nx d (P8 X.P t (.one m (.sl z (xs.map En))) lo' hi' s)) (ht : X.P.underlying t = some (.slice e)) (hz : De X.P e = some z) (hm : decide (m = .top) = false)
    (hlo : dS X.P s 0 lo' lo) (hhi : dS X.P s xs.length hi' hi) (hs : C8 (if m.owned then s.kill isB Cn else s) d (.one m (.sl z (ys.map En))) = s1) : Y = some s1 := by
  obtain ⟨h0, h1, h2, rfl⟩ := bO hy
  have hm' : m ≠ .top := by simpa using hm
  rw [hr, ← hs]
  simp only [P8, ht, hz]
  rw [if_pos ⟨trivial, hm'⟩, Yx (n := lo) hlo h0 (by simp; omega), Yx (n := hi) (by simpa using hhi) (by omega) (by simpa using h2)]
  simp only [eK]
  rw [if_pos (by omega)]
  simp [Nx, List.map_take, List.map_drop]
theorem iG {Y : Option St} (s : St) (t e z : Nat) {xs ys : List α} {lo : Int} (hy : cut xs lo xs.length = some ys) (En : α → List AV) (r : Rt) (q : Nat) (lo' : Option Operand) (d : Option Tmp) (hr : Y = Nx d (P8 X.P t (.one .top (.at_ r 0 (xs.map En).length)) lo' none s)) (ht : X.P.underlying t = some (.slice e)) (hz : De X.P e = some z)
    (hat : Cp s r = some (.own (q + 1), .sl z (xs.map En))) (hlo : dS X.P s 0 lo' lo) (hs : C8 s d (.one .top (.at_ r lo.toNat ((xs.map En).length - lo.toNat))) = s1) : Y = some s1 := by
  obtain ⟨h0, h1, h2, rfl⟩ := bO hy
  rw [hr, ← hs]
  simp only [P8, ht, hz, hat]
  rw [if_pos (by simp), Yx (n := lo) hlo h0 (by simp; omega), show M3 X.P s (xs.map En).length (xs.map En).length none = some (xs.map En).length from rfl]
  simp only [eK]
  rw [if_pos (by simp; omega)]
  simp [Nx, sc]
theorem lZ {xs ys : List α} {lo : Int} (h : cut xs lo xs.length = some ys) : lo.toNat ≤ xs.length := by
  obtain ⟨h0, h1, _, _⟩ := bO h
  omega
theorem iH {P : Program} {s : St} {aty e : TypeId} {z q : Nat} {En : α → List AV} {my : Md} {xs ys zs : List α} {lo : Nat} {r : Rt} (hz : cpy xs lo ys = zs) (ht : P.underlying aty = some (.slice e)) (hs : De P e = some z) (hlo : lo ≤ xs.length) (hf : ∀ x, (En x).all (fun a => a.scalar) = true) (hl : ∀ x, (En x).length = z)
    (hat : Cp s r = some (.own (q + 1), .sl z (xs.map En))) (pu : Pu) (hpu : (pu.ob && Fd (.el r 0 0)) = false) : Ta P pu aty [.one .top (.at_ r lo ((xs.map En).length - lo)), .one my (.sl z (ys.map En))] s
      = some (.one .top (.int .i64 (min ys.length (xs.length - lo) : Nat)), Uz r false (Da s r (.own (q + 1), .sl z (zs.map En)))) := by
  subst hz
  simp only [Ta, ht, hs, if_true, hat, pC]
  rw [if_pos ⟨by simp [P6]; intro x _ a ha; exact List.all_eq_true.1 (hf x) a ha, by simp [Tz, hl], hpu, by simp; omega⟩]
  simp only [sc, List.length_map, cpy]
  rw [← List.map_take, ← Abs.setAt_map]
theorem mA {lc : List Nat} {Y : Option St} {h2 : Ai} (s : St) (aty e : TypeId) {j o N : Nat} {cs : List MC} (V : Cq s.h j o N = some cs) (k q z : Nat) (En : α → List AV) (my : Md) (xs ys : List α) (lo : Nat) {zs : List α} (hz : cpy xs lo ys = zs) (d : Option Tmp) (hlo : lo ≤ xs.length) (hr : Y = Nx d (Ta X.P ⟨false, lc⟩ aty [.one .top (.at_ (.obj j (o + k)) lo ((xs.map En).length - lo)), .one my (.sl z (ys.map En))] s))
    (ht : X.P.underlying aty = some (.slice e)) (hs : De X.P e = some z) (hf : ∀ x, (En x).all (fun a => a.scalar) = true) (hl : ∀ x, (En x).length = z) (hk : Nat.ble (k + 1) N = true) (hv : (cs.drop k).take 1 = [(.own (q + 1), .sl z (xs.map En))]) (hh : Dp s.h j (o + k) [(.own (q + 1), .sl z (zs.map En))] = h2)
    (hs1 : C8 ({ s with h := h2 }.kill Hi Cn) d (.one .top (.int .i64 (min ys.length (xs.length - lo) : Nat))) = s1) : Y = some s1 := by
  have hat := Yw (s := s) V hk hv
  rw [hr, iH hz ht hs hlo hf hl hat ⟨false, lc⟩ rfl, ← hs1]
  simp only [Nx, Uz]
  have h1 := Oq V k 1 (Nat.le_of_ble_eq_true hk)
  unfold Cq at h1
  split at h1
  · rename_i c hc
    obtain ⟨h3, _, _⟩ := C5 h1
    rw [N6 hc] at hh
    simp only [Da, hc]
    have : c.set (o + k) (.own (q + 1), .sl z (zs.map En)) = A4 c (o + k) [(.own (q + 1), .sl z (zs.map En))] := by
      simp only [A4, List.length_cons, List.length_nil]
      rw [List.set_eq_take_append_cons_drop, if_pos (by omega)]
      simp
    rw [this, hh]
    rfl
  · cases h1
theorem mB {Y : Option St} (s : St) (aty e : TypeId) (q z : Nat) (En : α → List AV) (b : Nat) (my : Md) (xs ys : List α) (lo : Nat) {zs : List α} (hz : cpy xs lo ys = zs) (d : Option Tmp) (pu : Pu) (hlo : lo ≤ xs.length) (hr : Y = Nx d (Ta X.P pu aty [.one .top (.at_ (.tmp b) lo ((xs.map En).length - lo)), .one my (.sl z (ys.map En))] s))
    (ht : X.P.underlying aty = some (.slice e)) (hs : De X.P e = some z) (hf : ∀ x, (En x).all (fun a => a.scalar) = true) (hl : ∀ x, (En x).length = z) (hat : Cp s (.tmp b) = some (.own (q + 1), .sl z (xs.map En)))
    (hs1 : C8 ((Da s (.tmp b) (.own (q + 1), .sl z (zs.map En))).kill Dx Cn) d (.one .top (.int .i64 (min ys.length (xs.length - lo) : Nat))) = s1) : Y = some s1 := by
  rw [hr, iH hz ht hs hlo hf hl hat pu (by simp [Fd, AV.root]), ← hs1]; rfl
theorem jW {α : Type} {c : List α} {k : Nat} {x : α} (h : k + 1 ≤ c.length) : A4 c k [x] = c.set k x := by
  simp only [A4, List.length_cons, List.length_nil]
  rw [List.set_eq_take_append_cons_drop, if_pos (by omega)]
  simp
/-! elements of a slice that is held -/
theorem mC {xs : List α} {i : Int} {x : α} {β : Type} {En : α → β} (h : gi xs i = some x) : (xs.map En)[i.toNat]? = some (En x) := by
  rw [List.getElem?_map, (fN h).2]; rfl
theorem fV {xs ys : List α} {i : Int} {x : α} {β : Type} {En : α → β} (h : si xs i x = some ys) : (xs.map En).set i.toNat (En x) = ys.map En := by
  obtain ⟨_, _, rfl⟩ := pM h
  rw [List.map_set]
theorem mD {s : St} {j o N k : Nat} {cs : List MC} {c : MC} {h2 : Ai} (V : Cq s.h j o N = some cs) (hk : Nat.ble (k + 1) N = true) (hh : Dp s.h j (o + k) [c] = h2) : Da s (.obj j (o + k)) c = { s with h := h2 } := by
  have h1 := Oq V k 1 (Nat.le_of_ble_eq_true hk)
  unfold Cq at h1
  split at h1
  · rename_i c' hc
    obtain ⟨h3, _, _⟩ := C5 h1
    rw [N6 hc, jW (by omega)] at hh
    simp only [Da, hc, hh]
  · cases h1
theorem fW {Y : Option St} (s s' : St) (pu : Pu) (ty : TypeId) (r : Rt) (ix off n q : Nat) (L : List (List AV)) (x x2 : List AV) (L2 : List (List AV)) (z : Nat) (v : TV) (hr : Y = N3 X.P pu ty (.el r ix off) v s) (hn : De X.P ty = some n) (hl : v.cells.length = n) (hv : Mb v = true) (hpu : (pu.ob && Fd (.el r 0 0)) = false) (hat : Cp s r = some (.own (q + 1), .sl z L)) (hL : L[ix]? = some x) (hk : (v.cells.all (nF q) && Nat.ble (off + v.cells.length) x.length) = true)
    (hE : A4 x off (v.cells.map (·.2)) = x2) (hL2 : L.set ix x2 = L2) (hR : Da s r (.own (q + 1), .sl z L2) = s') (hs : Uz r (Cj v.cells) s' = s1) : Y = some s1 := by
  rw [hr, ← hs]
  simp only [Bool.and_eq_true] at hk
  simp only [N3, hn, hl, hv, and_self, if_true, hat, nG, hL]
  rw [if_pos ⟨by have := Nat.le_of_ble_eq_true hk.2; omega, hpu, hk.1⟩, hE, hL2, hR]
/-! arrays -/
theorem Ug [Inhabited α] {n : Nat} {A : Arr n α} {i : Int} {x : α} {β : Type} (C : α → β) (hx : ga A i = some x) {cs : List β} {off : Nat} (hA : (cs.drop off).take n = (List.range n).map fun j => C (A.g j)) : cs[off + i.toNat]? = some (C x) := by
  obtain ⟨h0, h1, rfl⟩ := Yt hx
  have h2 : ((cs.drop off).take n)[i.toNat]? = some (C (A.g i.toNat)) := by rw [hA]; simp [List.getElem?_range (show i.toNat < n by omega)]
  rw [List.getElem?_take, if_pos (by omega), List.getElem?_drop] at h2
  exact h2
theorem Lr {cs : List MC} {k : Nat} {c : MC} (h : cs[k]? = some c) : Cs cs k 1 = some [c] := by
  have hl := (List.getElem?_eq_some_iff.1 h).1
  unfold Cs
  rw [if_pos (by omega), List.take_one]
  simp [List.head?_drop, h]
theorem pP [Inhabited α] {Y : Option St} (s : St) (t e n : Nat) {A : Arr n α} {i : Int} {x : α} (hx : ga A i = some x) (C : α → AV) (k : IntKind) (cs : List MC) (d : Option Tmp) (hr : Y = Gj s d (Xf X.P t (some (.agg cs)) (some (.one .top (.int k i))))) (ht : X.P.underlying t = some (.array n e)) (hT : Eu X.P e = some false) (hz : De X.P e = some 1) (hA : cs = (List.range n).map fun j => (Md.top, C (A.g j))) (hs : C8 s d (.one .top (C x)) = s1) : Y = some s1 := by
  obtain ⟨h0, h1, _⟩ := Yt hx
  have h2 := Lr (Ug (cs := cs) (off := 0) (fun x => (Md.top, C x)) hx (by rw [hA, List.drop_zero]; exact List.take_of_length_le (by simp)))
  rw [Nat.zero_add] at h2
  rw [hr, ← hs]
  simp only [Xf, ht, hz]
  rw [if_pos ⟨h0, h1⟩]
  simp only [Nat.mul_one, Xc, hT, hz, h2, List.map_cons, List.map_nil, mkT]
  rfl
theorem Je [Inhabited α] {Y : Option St} (s : St) (t e n : Nat) {A : Arr n α} {i : Int} {x : α} (hx : ga A i = some x) (b off : Nat) (d : Option Tmp) (hr : Y = Gj s d (D1 X.P s t (.one .top (.loc b off)) i)) (ht : X.P.underlying t = some (.array n e)) (hz : De X.P e = some 1) (hs : C8 s d (.one .top (.loc b (off + i.toNat))) = s1) : Y = some s1 := by
  obtain ⟨h0, h1, _⟩ := Yt hx
  rw [hr, ← hs]
  simp only [D1, ht, hz]
  rw [if_pos ⟨h0, h1⟩]
  simp [Gj, sc]
theorem Tp [Inhabited α] {Y : Option St} (s : St) (ty n : Nat) {A : Arr n α} {i : Int} {x : α} (hx : ga A i = some x) (b off : Nat) (cs : List MC) (C : α → AV) (d : Option Tmp) (hr : Y = Nx d (Mg X.P .cp ty (.loc b (off + i.toNat)) s)) (hT : Eu X.P ty = some false) (hn : De X.P ty = some 1) (hf : Az b s.l = some cs) (hA : (cs.drop off).take n = (List.range n).map fun j => (Md.top, C (A.g j)))
    (hs : C8 s d (.one .top (C x)) = s1) : Y = some s1 := by
  have h1 := Lr (Ug (fun x => (Md.top, C x)) hx hA)
  rw [hr, ← hs]
  simp only [Mg, hT, hn, hf, kF, h1, mkV, mkT]
  rfl
theorem iI [Inhabited α] {n : Nat} {A B : Arr n α} {i : Int} {x : α} {β : Type} (C : α → β) (hx : sa A i x = some B) {cs : List β} {off : Nat} (hA : (cs.drop off).take n = (List.range n).map fun j => C (A.g j)) : A4 cs (off + i.toNat) [C x] = A4 cs off ((List.range n).map fun j => C (B.g j)) := by
  obtain ⟨h0, h1, h2⟩ := bP hx
  have hl : n ≤ (cs.drop off).length := by
    have := congrArg List.length hA
    simp at this
    simp; omega
  have hl' : off + n ≤ cs.length := by simp at hl; omega
  have hc : ∀ j, j < n → cs[off + j]? = some (C (A.g j)) := fun j hj => by
    have : ((cs.drop off).take n)[j]? = some (C (A.g j)) := by rw [hA]; simp [List.getElem?_range hj]
    rw [List.getElem?_take, if_pos hj, List.getElem?_drop] at this
    exact this
  apply List.ext_getElem?
  intro j
  simp only [A4, List.getElem?_append, List.length_append, List.length_take, List.length_map, List.length_range, List.getElem?_take, List.getElem?_drop, List.length_cons, List.length_nil]
  by_cases c1 : j < off
  · grind
  · by_cases c2 : j < off + n
    · have hj := hc (j - off) (by omega)
      have e2 : off + (j - off) = j := by omega
      rw [e2] at hj
      have h3 := h2 (j - off)
      have hr : ((List.range n).map fun j => C (B.g j))[j - off]? = some (C (B.g (j - off))) := by simp [List.getElem?_range (show j - off < n by omega)]
      by_cases c3 : j - off = i.toNat
      · rw [if_pos c3] at h3
        grind
      · rw [if_neg c3] at h3
        grind
    · grind
theorem Ot [Inhabited α] {Y : Option St} (s : St) (ty n : Nat) {A B : Arr n α} {i : Int} {x : α} (hx : sa A i x = some B) (b off : Nat) (cs : List MC) (C : α → AV) (pu : Pu) (hpl : inL b pu.lc = false) (hr : Y = N3 X.P pu ty (.loc b (off + i.toNat)) (.one .top (C x)) s) (hn : De X.P ty = some 1) (hf : Az b s.l = some cs) (hA : (cs.drop off).take n = (List.range n).map fun j => (Md.top, C (A.g j))) (hsc : ∀ x, (C x).scalar = true)
    (hs : { s with l := put b (A4 cs off ((List.range n).map fun j => (Md.top, C (B.g j)))) s.l } = s1) : Y = some s1 := by
  obtain ⟨h0, h1, h2⟩ := bP hx
  have hg : cs[off + i.toNat]? = some (Md.top, C (A.g i.toNat)) := by
    refine Ug (fun x => (Md.top, C x)) (x := A.g i.toNat) ?_ hA
    unfold ga Arr.g
    rw [if_pos h0]
    have := A.h
    simp [show i.toNat < A.l.length by omega]
  rw [hr, ← hs]
  simp only [N3, hn, TV.cells, List.length_cons, List.length_nil, Mb, and_self, if_true, hf, hpl, Bool.false_eq_true, if_false, Lr hg, gK]
  rw [iI (fun x => (Md.top, C x)) hx hA]
  simp [Ft, hsc]
end
end Go.Proofs.Abs
namespace Go.Proofs.Abs
open Go
set_option linter.unusedVariables false
set_option linter.unusedSimpArgs false
theorem Qm {α β : Type} (P : Program) (m : Sem α) (f : α → Sem β) : Et P (m.bind f) = (Et P m).bind fun x => Et P (f x) := by
  induction m with
  | pure a => rfl
  | program k ih => exact ih P
  | _ => rfl
def mE (P : Program) (g : TypeId → Value → Value → Option (List Bool)) (xs ys : Array Value) : List Field → Option (List Bool)
  | [] => some []
  | f :: r => if f.name = "_" then none else (Et P (part f.type xs f.offset)).bind fun a => (Et P (part f.type ys f.offset)).bind fun b => (g f.type a b).bind fun q => (mE P g xs ys r).map fun q' => q ++ q'
def mF (P : Program) (g : TypeId → Value → Value → Option (List Bool)) (e : TypeId) (z : Nat) (xs ys : Array Value) : List Nat → Option (List Bool)
  | [] => some []
  | i :: r => (Et P (part e xs (i * z))).bind fun a => (Et P (part e ys (i * z))).bind fun b => (g e a b).bind fun q => (mF P g e z xs ys r).map fun q' => q ++ q'
def eqQ (P : Program) : Nat → TypeId → Value → Value → Option (List Bool)
  | 0, _, _, _ => none
  | d + 1, t, x, y => match P.underlying t, x, y with
    | some (.struct fs), .agg xs, .agg ys => if P.stoodInHeld t then none else mE P (eqQ P d) xs ys fs.toList
    | some (.array n e), .agg xs, .agg ys => (Et P (sizeOf e)).bind fun z => mF P (eqQ P d) e z xs ys (List.range n)
    | some .bool, .bool a, .bool b => some [a == b]
    | some (.int _), .int k a, .int k' b => if k = k' then some [a == b] else none
    | some .string, .string a, .string b => some [a == b]
    | _, _, _ => none
theorem mG (P : Program) : ∀ (d : Nat) (t : TypeId) (x y : Value) qs, eqQ P d t x y = some qs → Et P (Op.equalIn d t x y) = some (qs.all id)
  | 0, _, _, _, _, h => by simp [eqQ] at h
  | d + 1, t, x, y, qs, h => by
    have ih := mG P d
    have hs : ∀ (xs ys : Array Value) (l : List Field) qs, mE P (eqQ P d) xs ys l = some qs →
        Et P (do
          for f in l do
            if f.name ≠ "_" then
              if !(← Op.equalIn d f.type (← part f.type xs f.offset) (← part f.type ys f.offset)) then return false
          pure true : Sem Bool) = some (qs.all id) := by
      intro xs ys l
      induction l with
      | nil => intro qs h; simp [mE] at h; subst h; rfl
      | cons f r ihl =>
        intro qs h
        simp only [mE] at h
        split at h
        · cases h
        rename_i hn
        simp only [Option.bind_eq_some_iff, Option.map_eq_some_iff] at h
        obtain ⟨a, ha, b, hb, q, hq, q', hq', rfl⟩ := h
        have h1 := ih _ _ _ _ hq
        have h2 := ihl q' hq'
        simp only [List.forIn_cons, bind, ne_eq, hn, not_false_eq_true, if_true, Qm, ha, hb, h1, Option.bind_some] at h2 ⊢
        cases hqa : q.all id with
        | false => simp [Et, pure, List.all_append, hqa]
        | true => simp only [List.all_append, hqa, Bool.true_and]; exact h2
    have ha : ∀ (e : TypeId) (z : Nat) (xs ys : Array Value) (l : List Nat) qs, mF P (eqQ P d) e z xs ys l = some qs →
        Et P (do
          for i in l do
            if !(← Op.equalIn d e (← part e xs (i * z)) (← part e ys (i * z))) then return false
          pure true : Sem Bool) = some (qs.all id) := by
      intro e z xs ys l
      induction l with
      | nil => intro qs h; simp [mF] at h; subst h; rfl
      | cons f r ihl =>
        intro qs h
        simp only [mF, Option.bind_eq_some_iff, Option.map_eq_some_iff] at h
        obtain ⟨a, ha, b, hb, q, hq, q', hq', rfl⟩ := h
        have h1 := ih _ _ _ _ hq
        have h2 := ihl q' hq'
        simp only [List.forIn_cons, bind, Qm, ha, hb, h1, Option.bind_some] at h2 ⊢
        cases hqa : q.all id with
        | false => simp [Et, pure, List.all_append, hqa]
        | true => simp only [List.all_append, hqa, Bool.true_and]; exact h2
    unfold eqQ at h
    unfold Op.equalIn
    split at h
    · rename_i fs xs ys hu
      split at h
      · cases h
      rename_i hst
      have := hs xs ys fs.toList qs h
      simp only [underlying, program, bind, Sem.bind, Et, hu, pure, hst, Bool.false_eq_true, if_false] at this ⊢
      simpa using this
    · rename_i n e xs ys hu
      simp only [Option.bind_eq_some_iff] at h
      obtain ⟨z, hz, h⟩ := h
      have := ha e z xs ys _ qs h
      simp only [underlying, program, bind, Sem.bind, Et, hu, pure, Qm, hz, Option.bind_some, Std.Legacy.Range.forIn_eq_forIn_range', Std.Legacy.Range.size] at this ⊢
      simpa [List.range_eq_range'] using this
    · rename_i a b hu
      cases h
      simp [underlying, program, bind, Sem.bind, Et, hu, pure]
    · rename_i k1 k a k' b hu
      split at h
      · rename_i e; subst e; cases h
        simp [underlying, program, bind, Sem.bind, Et, hu, pure]
      · cases h
    · rename_i a b hu
      cases h
      simp [underlying, program, bind, Sem.bind, Et, hu, pure]
    · cases h
theorem Wt {P : Program} {ty : TypeId} {x y : Operand} {cs ds : List MC} {us vs : List Value} {qs : List Bool} (hu : P5 cs = some us) (hv : P5 ds = some vs) (hg : P.eqGuardType P.depth ty = false) (hq : eqQ P Op.maxDepth ty (.agg us.toArray) (.agg vs.toArray) = some qs) :
    Ki P .neq ty x y (some (.agg cs)) (some (.agg ds)) = some (.one .top (.bool (!qs.all id))) := by
  have h1 := mG P _ _ _ _ _ hq
  simp only [Ki, TV.conc, hu, hv, Option.map_some, Xd]
  have hgd : Et P (eqGuard .neq ty x y (.agg us.toArray) (.agg vs.toArray)) = some () := by
    simp [eqGuard, program, bind, Sem.bind, Et, hg, pure]
  simp only [bind, Qm, hgd, Option.bind_some, binOp, Op.equal, h1, pure, Et, ofV, Option.map_some, sc]
end Go.Proofs.Abs
namespace Go.Proofs.Abs
open Go
set_option linter.unusedVariables false
section
variable {X : Cx} {s1 : St} {α : Type}
theorem Kv [Inhabited α] {Y : Option St} (s : St) (t e n : Nat) {A : Arr n α} {i : Int} {x : α} (hx : ga A i = some x) (j off : Nat) (d : Option Tmp) (hr : Y = Gj s d (D1 X.P s t (.one .top (.obj j off)) i)) (ht : X.P.underlying t = some (.array n e)) (hz : De X.P e = some 1) (hs : C8 s d (.one .top (.obj j (off + i.toNat))) = s1) : Y = some s1 := by
  obtain ⟨h0, h1, _⟩ := Yt hx
  rw [hr, ← hs]
  simp only [D1, ht, hz]
  rw [if_pos ⟨h0, h1⟩]
  simp [Gj, sc]
theorem Kj [Inhabited α] {Y : Option St} (s : St) (ty n : Nat) {A : Arr n α} {i : Int} {x : α} (hx : ga A i = some x) {j o N : Nat} {cs : List MC} (V : Cq s.h j o N = some cs) (k : Nat) (C : α → AV) (d : Option Tmp) (hr : Y = Nx d (Mg X.P .cp ty (.obj j (o + k + i.toNat)) s)) (hT : Eu X.P ty = some false) (hn : De X.P ty = some 1) (hk : Nat.ble (k + n) N = true)
    (hA : (cs.drop k).take n = (List.range n).map fun j => (Md.top, C (A.g j))) (hs : C8 s d (.one .top (C x)) = s1) : Y = some s1 := by
  obtain ⟨h0, h1, _⟩ := Yt hx
  have g := Lr (Ug (fun x => (Md.top, C x)) hx hA)
  unfold Cs at g
  split at g
  · have g := Option.some.inj g
    have hk := Nat.le_of_ble_eq_true hk
    have := lV (X := X) (s := s) (k := k + i.toNat) (n := 1) (v := .one .top (C x)) V hT hn (Nat.ble_eq_true_of_le (by omega)) (by rw [g]; rfl)
    rw [← Nat.add_assoc] at this
    rw [hr, this, ← hs]; rfl
  · cases g
theorem mH [Inhabited α] {H : Ai} {j o N k n : Nat} {cs : List MC} {A B : Arr n α} {i : Int} {x : α} (C : α → AV) (V : Cq H j o N = some cs) (hx : sa A i x = some B) (hk : Nat.ble (k + n) N = true) (hA : (cs.drop k).take n = (List.range n).map fun j => (Md.top, C (A.g j))) : Dp H j (o + (k + i.toNat)) [(Md.top, C x)] = Dp H j o (A4 cs k ((List.range n).map fun j => (Md.top, C (B.g j)))) := by
  obtain ⟨h0, h1, _⟩ := bP hx
  have hk := Nat.le_of_ble_eq_true hk
  rw [Ca V (by simp; omega), iI (fun x => (Md.top, C x)) hx hA]
theorem pQ [Inhabited α] {lc : List Nat} {Y : Option St} {h2 : Ai} (s : St) (ty n : Nat) {A B : Arr n α} {i : Int} {x : α} (hx : sa A i x = some B) {j o N : Nat} {cs : List MC} (V : Cq s.h j o N = some cs) (k : Nat) (C : α → AV) (hsc : ∀ x, (C x).scalar = true) (hr : Y = N3 X.P ⟨false, lc⟩ ty (.obj j (o + k + i.toNat)) (.one .top (C x)) s) (hn : De X.P ty = some 1) (hk : Nat.ble (k + n) N = true)
    (hA : (cs.drop k).take n = (List.range n).map fun j => (Md.top, C (A.g j))) (hh : Dp s.h j o (A4 cs k ((List.range n).map fun j => (Md.top, C (B.g j)))) = h2) (hs : { s with h := h2 } = s1) : Y = some s1 := by
  obtain ⟨h0, h1, h2'⟩ := bP hx
  have g := Lr (Ug (fun x => (Md.top, C x)) (x := A.g i.toNat) (by
    unfold ga Arr.g
    rw [if_pos h0]
    have := A.h
    simp [show i.toNat < A.l.length by omega]) hA)
  unfold Cs at g
  split at g
  · have g := Option.some.inj g
    have hkk := Nat.le_of_ble_eq_true hk
    refine Gp (X := X) (lc := lc) s ty V (k + i.toNat) 1 (.one .top (C x)) (by rw [hr, Nat.add_assoc]) hn (Nat.ble_eq_true_of_le (by omega)) rfl rfl (by simp [TV.cells, Mc, hsc]) (mH C V hx hk hA) ?_
    rw [hh, g, ← hs]
    simp [lW, Ft, Cj, TV.cells, hsc, Md.owned]
  · cases g
end
open Classical in
noncomputable def same {α : Type} (q : Option α) (x : α) : Option Unit := if q = some x then some () else none
def dd (l : List Nat) : RI := { dead := (l, []) }
/-! values, in short -/
abbrev vT : TV := .one .top (.bool true)
abbrev vF : TV := .one .top (.bool false)
abbrev vb (b : Bool) : TV := .one .top (.bool b)
abbrev vi (n : Int) : TV := .one .top (.int .i64 n)
abbrev vu (n : Int) : TV := .one .top (.int .u32 n)
abbrev vl (t o : Nat) : TV := .one .top (.loc t o)
abbrev vo (i o : Nat) : TV := .one .top (.obj i o)
abbrev vp (p : Ptr) : TV := .one .top p.av
abbrev vN : TV := .tup []
section
variable {X : Cx} {pu : Pu} {st : Bool} {fn id i : Nat} {ops : List Oper} {s s1 s2 s' : St} {N : St → Prop} {E : Nat → St → Prop} {R : St → Prop} {c c' : Code}
theorem yr (j : Nat) (s1 : St) (k : Ud X pu fn id ops (i + j) s1 s2) (hj : Nat.ble (i + j) ops.length = true := by kernel_rfl) (h : Jf X pu (evS X) fn id ops i ((ops.drop i).take j) (some s) = some s1 := by kernel_rfl) : Ud X pu fn id ops i s s2 := qO j s1 hj h k
theorem ye (h : Nat.ble ops.length i = true := by kernel_rfl) (hs : s.drop (X.dead fn id) = s2 := by kernel_rfl) : Ud X pu fn id ops i s s2 := qN h hs
theorem yg (s1 : St) {ops : Array Oper} (k : N s1) (h : cN (X.dead fn id) (Jf X pu (evS X) fn id ops.toList 0 ops.toList (some s)) = some (.nrm, s1) := by kernel_rfl) : wpC (ev X pu fn (.region id ops false) s) N E R := Yv s1 h k
theorem ysg (s1 : St) {ops : Array Oper} (k : wpC (ev X pu fn c' s1) N E R) (h : cN (X.dead fn id) (Jf X pu (evS X) fn id ops.toList 0 ops.toList (some s)) = some (.nrm, s1) := by kernel_rfl) : wpC (ev X pu fn (.seq (.region id ops false) c') s) N E R := Ah (Yv s1 h k)
theorem yso (s2 : St) {ops : Array Oper} (h : Ud X pu fn id ops.toList 0 s s2) (k : wpC (ev X pu fn c' s2) N E R) : wpC (ev X pu fn (.seq (.region id ops false) c') s) N E R := Ah (Ak s2 h k)
theorem yT {x : Operand} {b : Bool} (hb : b = true) (s1 : St) (k : wpC (ev X pu fn c s1) N E R) (h : opnd X.P s 0 x = some (.one .top (.bool b)) := by kernel_rfl) (hs : s.drop (X.deadC fn (Zi x c c') true) = s1 := by kernel_rfl) : wpC (ev X pu fn (.cond x c c') s) N E R := rC hb h hs k
theorem yF {x : Operand} {b : Bool} (hb : b = false) (s1 : St) (k : wpC (ev X pu fn c' s1) N E R) (h : opnd X.P s 0 x = some (.one .top (.bool b)) := by kernel_rfl) (hs : s.drop (X.deadC fn (Zi x c c') false) = s1 := by kernel_rfl) : wpC (ev X pu fn (.cond x c c') s) N E R := rD hb h hs k
theorem yp {f : Nat} {h : Ai} {rs : List ResultVar} {v' : TV} (v : TV) (hv : results X.P rs s = some v := by kernel_rfl) (hp : X.pure f = true := by kernel_rfl) (hh : s.h.length = h.length := by rfl) (hz : frzIf (X.frz f) v = v' := by kernel_rfl) : Fin X f h rs (v', h) s := lY hv hp hh hz
theorem yi {f : Nat} {h : Ai} {rs : List ResultVar} {v' : TV} (v : TV) (hv : results X.P rs s = some v := by kernel_rfl) (hp : X.pure f = false := by kernel_rfl) (hz : frzIf (X.frz f) v = v' := by kernel_rfl) : Fin X f h rs (v', s.h) s := iE hv hp hz
theorem yc {Y : Option St} {f : FuncId} {args : List TV} {H H' : Ai} {v : TV} (d : Option Tmp) (pure own : Bool) (s0 : St) (hc : evS X f args H = some (v, H')) (hr : Y = cK false pure own d s0 (evS X f args H) := by kernel_rfl) (hs : cK false pure own d s0 (some (v, H')) = some s1 := by kernel_rfl) : Y = some s1 := oC s0 hc hr hs
theorem yl {α : Type} {Y : Option St} (s : St) (xs : List α) (En : α → List AV) (d : Option Tmp) (hr : Y = some (C8 s d (.one .top (.int .i64 ((xs.map En).length : Nat)))) := by kernel_rfl) (hs : C8 s d (.one .top (.int .i64 (xs.length : Nat))) = s1 := by kernel_rfl) : Y = some s1 := bR s xs En d hr hs
theorem yd {Y : Option St} (s : St) (ty : TypeId) {j o N : Nat} {cs : List MC} (V : Cq s.h j o N = some cs) (k n : Nat) (agg : Bool) (v : TV) (d : Option Tmp) (hr : Y = Nx d (Mg X.P .cp ty (.obj j (o + k)) s) := by kernel_rfl) (hT : Eu X.P ty = some agg := by kernel_rfl) (hn : De X.P ty = some n := by kernel_rfl) (hk : Nat.ble (k + n) N = true := by kernel_rfl) (hv : mkT agg (((cs.drop k).take n).map fun c => (c.1.cpH, c.2)) = some v := by kernel_rfl) (hs : C8 s d v = s1 := by kernel_rfl) : Y = some s1 := aM s ty V k n agg v d hr hT hn hk hv hs
theorem ydt {n : Sch} (s1 : St) (k : Qz X pu st fn id ops n s1 s2) (h : M5 X pu st (evS X) fn id ops i (some s) = some s1 := by kernel_rfl) : Qz X pu st fn id ops (.take i n) s s2 := Ao s1 h k
theorem ydl {n : Sch} (s1 : St) (k : Qz X pu st fn id ops n s1 s2) (h : Gk X pu (evS X) fn id ops i (some s) = some s1 := by kernel_rfl) : Qz X pu st fn id ops (.last i n) s s2 := Bo s1 h k
theorem yde (hs : s.drop (X.dead fn id) = s2 := by kernel_rfl) : Qz X pu st fn id ops .done s s2 := qP hs
theorem yqt {n : Sch} (s1 : St) (k : C3 X pu st (evS X) fn id ops n (some s1) = some s2) (h : M5 X pu st (evS X) fn id ops i (some s) = some s1 := by kernel_rfl) : C3 X pu st (evS X) fn id ops (.take i n) (some s) = some s2 := Tn s1 h k
theorem yql {n : Sch} (s1 : St) (k : C3 X pu st (evS X) fn id ops n (some s1) = some s2) (h : Gk X pu (evS X) fn id ops i (some s) = some s1 := by kernel_rfl) : C3 X pu st (evS X) fn id ops (.last i n) (some s) = some s2 := Bz s1 h k
theorem yqe (h : s = s' := by kernel_rfl) : C3 X pu st (evS X) fn id ops .done (some s) = some s' := qQ h
theorem yf {f : FuncId} {args : List TV} {h : Ai} {r} {fu : Func} {c : Code} (hf : X.P.funcs[f]? = some fu) (b : Bool) (s0 : St) (hr : wpC (ev X ⟨b, []⟩ f c s0) (Fin X f h fu.results.toList r) (fun _ _ => False) (Fin X f h fu.results.toList r)) (hc : fu.body = some c := by rfl) (hok : Xm X f fu c = true := by kernel_rfl) (hp : X.pure f = b := by kernel_rfl) (hs : ({ t := Cy 0 args, l := [], h := h } : St) = s0 := by kernel_rfl) : evS X f args h = some r := qS hf hc hok b hp hs hr
def mI : Nat → Sch → Sch
  | 0, n => n
  | j + 1, .take _ n => mI j n
  | _ + 1, n => n
noncomputable def mJ (X : Cx) (pu : Pu) (st : Bool) (fn id : Nat) (ops : List Oper) : Nat → Sch → Option St → Option St
  | 0, _, q => q
  | j + 1, .take i n, q => mJ X pu st fn id ops j n (M5 X pu st (evS X) fn id ops i q)
  | _ + 1, _, _ => none
theorem Vt : ∀ (j : Nat) (n : Sch) (q : Option St) (s1 : St), mJ X pu st fn id ops j n q = some s1 → C3 X pu st (evS X) fn id ops n q = C3 X pu st (evS X) fn id ops (mI j n) (some s1)
  | 0, n, q, s1, h => by
    have h : q = some s1 := h
    subst h; rfl
  | j + 1, .take i n, q, s1, h => Vt j n (M5 X pu st (evS X) fn id ops i q) s1 h
  | j + 1, .done, q, s1, h => by cases h
  | j + 1, .last i n, q, s1, h => by cases h
  | j + 1, .alt i n r, q, s1, h => by cases h
theorem ydk (j : Nat) (s1 : St) {n : Sch} (k : Qz X pu st fn id ops (mI j n) s1 s2) (h : mJ X pu st fn id ops j n (some s) = some s1 := by kernel_rfl) : Qz X pu st fn id ops n s s2 := by
  obtain ⟨t, h1, h2⟩ := k
  exact ⟨t, by rw [Vt j n _ s1 h]; exact h1, h2⟩
end
end Go.Proofs.Abs
namespace Go.Proofs.Abs
open Go
set_option linter.unusedVariables false
set_option linter.unusedSimpArgs false
def Me (w : World) (E : List AV) (cs : List Value) : Prop := cs.length = E.length ∧ ∀ (j : Nat) (c : AV) (v : Value), E[j]? = some c → cs[j]? = some v → ∀ r π, KC w Vx .ro r π c v
theorem Me.nil {w : World} : Me w [] [] := ⟨rfl, fun j c v h => by simp at h⟩
theorem Me.app {w : World} {E E' : List AV} {cs cs' : List Value} (h : Me w E cs) (h' : Me w E' cs') : Me w (E ++ E') (cs ++ cs') := by
  refine ⟨by simp [h.1, h'.1], fun j c v hc hv => ?_⟩
  rw [List.getElem?_append] at hc hv
  rw [← h.1] at hc
  split at hc
  · rename_i hj; rw [if_pos hj] at hv; exact h.2 j c v hc hv
  · rename_i hj; rw [if_neg hj] at hv; exact h'.2 _ c v hc hv
def Uh (P : Program) (t : TypeId) {α : Type} (E : α → List AV) (W : α → Prop) : Prop :=
  ∀ (H : Type) (enc : TypeId × Value → H) (w : World) (fuel : Nat) (cs : List Value) x, DataW.trod enc P w 0 (fun _ => true) true fuel t cs = some x → ∃ a, W a ∧ Me w (E a) cs
section
variable {P : Program} {t : TypeId}
theorem Fp {k : IntKind} (ht : P.underlying t = some (.int k)) : Uh P t (eI k) (fun n => (Lit.int k n).wf = true) := fun H enc w fuel cs x h => by
  obtain ⟨n, rfl, _, hw⟩ := DataW.trod_int ht h
  refine ⟨n, hw, rfl, fun j c v hc hv => ?_⟩
  cases j with
  | zero => cases hc; cases hv; exact fun _ _ => .int
  | succ j => simp [eI] at hc
theorem Yy {w : World} {a : Addr} : ∀ (l : List Nat) (cs : List Value), l.mapM (fun i => w.cell? (a.add i)) = some cs → cs.length = l.length ∧ ∀ (j i : Nat), l[j]? = some i → w.cell? (a.add i) = cs[j]?
  | [], cs, h => by simp at h; subst h; simp
  | i :: l, cs, h => by
    simp only [List.mapM_cons, Option.bind_eq_bind, Option.bind_eq_some_iff] at h
    obtain ⟨v, hv, vs, hvs, h⟩ := h
    cases h
    obtain ⟨h1, h2⟩ := Yy l vs hvs
    refine ⟨by simp [h1], fun j i' hj => ?_⟩
    cases j with
    | zero => cases hj; simpa using hv
    | succ j => simpa using h2 j i' (by simpa using hj)
theorem Vu {α : Type} {E : α → List AV} {W : α → Prop} {e : TypeId} {z : Nat} (ht : P.underlying t = some (.slice e)) (hc : P.cellsOf e = z) (hz : Nat.beq z 0 = false) (hE : ∀ x, (E x).length = z) (he : Uh P e E W) :
    Uh P t (eL z E) (fun xs => (∀ x, x ∈ xs → W x) ∧ xs.length ≤ maxLen) := fun H enc w fuel cs x h => by
  have hz0 : z ≠ 0 := fun e => by subst e; cases hz
  rcases DataW.trod_slice ht h with ⟨rfl, _⟩ | ⟨a, len, cap, elems, rest, n, _, rfl, _, hb, hl, hm, hlen, hel, hsp, _⟩
  · refine ⟨[], ⟨fun x hx => (by cases hx), Nat.zero_le _⟩, rfl, fun j c v hc hv => ?_⟩
    cases j with
    | zero => cases hc; cases hv; exact fun _ _ => .nil (by simp)
    | succ j => simp [eL] at hc
  · by_cases hlen0 : len = 0
    · subst hlen0
      refine ⟨[], ⟨fun x hx => (by cases hx), Nat.zero_le _⟩, rfl, fun j c v hc hv => ?_⟩
      cases j with
      | zero => cases hc; cases hv; exact fun _ _ => .emp (by simp) rfl
      | succ j => simp [eL] at hc
    have each : ∀ i, i < len → ∃ x : α, W x ∧ ∃ cs, w.cells? 0 (a.add (i * z)) z = some cs ∧ Me w (E x) cs := fun i hi => by
      have := hel i hi
      have hsome : (elems[i]?).isSome = true := by simp [hlen, hi]
      rw [← this, hc] at hsome
      obtain ⟨y, hy⟩ := Option.isSome_iff_exists.1 hsome
      rw [Option.bind_eq_some_iff] at hy
      obtain ⟨cs, h1, h2⟩ := hy
      obtain ⟨x, hx, hr⟩ := he H enc w n cs y h2
      exact ⟨x, hx, cs, h1, hr⟩
    have cell : ∀ i (hi : i < len) cs, w.cells? 0 (a.add (i * z)) z = some cs → cs.length = z ∧ ∀ j, j < z → w.cell? ((a.add (i * z)).add j) = cs[j]? := fun i hi cs h => by
      unfold World.cells? at h
      rw [if_pos (Nat.zero_le _)] at h
      obtain ⟨h1, h2⟩ := Yy _ _ h
      refine ⟨by simpa using h1, fun j hj => h2 j j ?_⟩
      rw [List.getElem?_range hj]
    obtain ⟨b, o, spot⟩ := a
    have h0 : 0 < len := by omega
    obtain ⟨x0, _, cs0, k1, _⟩ := each 0 h0
    obtain ⟨k2, k3⟩ := cell 0 h0 cs0 k1
    have k4 := k3 0 (by omega)
    have k5 : cs0[0]? ≠ none := by
      intro hn
      rw [List.getElem?_eq_none_iff] at hn
      omega
    have hbs : b < w.heap.size ∧ spot = none := by
      rw [← k4] at k5
      unfold World.cell? at k5
      constructor
      · by_cases hbh : b < w.heap.size
        · exact hbh
        · exfalso; apply k5
          have : w.heap[b]? = none := by simp; omega
          simp [Addr.add, this]
      · cases spot with
        | none => rfl
        | some q =>
          exfalso; apply k5
          simp only [Addr.add]
          split <;> simp
    obtain ⟨hbs, rfl⟩ := hbs
    obtain ⟨xs, hxs⟩ : ∃ xs : List α, xs = (List.finRange len).map fun (i : _root_.Fin len) => (each i.1 i.2).choose := ⟨_, rfl⟩
    have hxl : xs.length = len := by simp [hxs]
    have Cq : ∀ i (hi : i < len), xs[i]? = some (each i hi).choose := fun i hi => by simp [hxs, hi]
    refine ⟨xs, ⟨fun x hx => ?_, by rw [hxl]; omega⟩, rfl, fun j c v hc' hv r π => ?_⟩
    · obtain ⟨i, hi⟩ := List.mem_iff_getElem?.1 hx
      have hil : i < len := by rw [← hxl]; exact (List.getElem?_eq_some_iff.1 hi).1
      rw [Cq i hil] at hi
      cases hi
      exact (each i hil).choose_spec.1
    · cases j with
      | succ j => simp [eL] at hc'
      | zero =>
        cases hc'
        have hv' : Value.slice (some ⟨b, o, none⟩) len cap = v := by simpa using hv
        subst hv'
        have hcell : ∀ i x j a, (xs.map E)[i]? = some x → x[j]? = some a → ∃ v, cel w b (o + i * z + j) = some v ∧ ∀ r π, KC w Vx .ro r π a v := by
          intro i x j a hx ha
          rw [List.getElem?_map, Option.map_eq_some_iff] at hx
          obtain ⟨y, hy, rfl⟩ := hx
          have hil : i < len := by rw [← hxl]; exact (List.getElem?_eq_some_iff.1 hy).1
          rw [Cq i hil] at hy
          cases hy
          obtain ⟨_, cs, q1, q2⟩ := (each i hil).choose_spec
          obtain ⟨q3, q4⟩ := cell i hil cs q1
          have hj : j < z := by rw [← hE]; exact (List.getElem?_eq_some_iff.1 ha).1
          have hcj : cs[j]? = some cs[j] := by simp [q3, hj]
          refine ⟨cs[j], ?_, fun r π => q2.2 j a cs[j] ha hcj r π⟩
          have := q4 j hj
          rw [hcj, Oi, Oi] at this
          exact this
        have hlm : (xs.map E).length = len := by simp [hxl]
        have := KC.sl (w := w) (g := Vx) (m := .ro) (r := r) (π := π) (z := z) (xs := xs.map E) (b := b) (o := o) (cap := cap) (fun i j => (cel w b (o + i * z + j)).getD undef) hbs (.inl rfl) (fun x hx => by
          rw [List.mem_map] at hx; obtain ⟨y, _, rfl⟩ := hx; exact hE y) (by rw [hlm]; exact hl) (fun h => by cases h)
          (fun i x j a hx ha => by obtain ⟨v, h1, _⟩ := hcell i x j a hx ha; rw [h1]; rfl)
          (fun i x j a hx ha => by obtain ⟨v, h1, h2⟩ := hcell i x j a hx ha; rw [h1]; exact h2 _ _)
        rw [hlm] at this
        exact this
theorem Dd {w : World} {E E' : List AV} {cs : List Value} {o z : Nat} (h : Me w E ((cs.drop o).take z)) (h' : Me w E' (cs.drop (o + z))) : Me w (E ++ E') (cs.drop o) := by
  have := h.app h'
  rw [← List.drop_drop, List.take_append_drop] at this
  exact this
theorem Rz {w : World} {cs : List Value} {o : Nat} (h : cs.length ≤ o) : Me w [] (cs.drop o) := by
  rw [List.drop_eq_nil_of_le h]; exact Me.nil
theorem Jg {H : Type} {enc : TypeId × Value → H} {w : World} {n : Nat} {fs : Array Field} {cs : List Value} {xs : List (DataW H × List MemPlace)} {i : Nat} {f : Field} (hf : fs[i]? = some f) (hl : xs.length = fs.size)
    (h : ∀ (i : Nat) (f : Field), fs[i]? = some f → DataW.trod enc P w 0 (fun _ => true) true n f.type ((cs.drop f.offset).take (P.cellsOf f.type)) = xs[i]?)
    {α : Type} {E : α → List AV} {W : α → Prop} (he : Uh P f.type E W) : ∃ a, W a ∧ Me w (E a) ((cs.drop f.offset).take (P.cellsOf f.type)) := by
  have hi := (Array.getElem?_eq_some_iff.1 hf).1
  have := h i f hf
  obtain ⟨y, hy⟩ : ∃ y, xs[i]? = some y := ⟨xs[i], by simp [hl, hi]⟩
  rw [hy] at this
  exact he H enc w n _ y this
theorem aN {w : World} {α : Type} {E : α → List AV} {g : Nat → α} {cs : List Value} {z : Nat} : ∀ (k i : Nat), (∀ j, i ≤ j → j < i + k → Me w (E (g j)) ((cs.drop (j * z)).take z)) → cs.length = (i + k) * z → Me w ((List.range' i k).flatMap fun j => E (g j)) (cs.drop (i * z))
  | 0, i, _, hl => Rz (by rw [hl]; exact Nat.le_refl _)
  | k + 1, i, h, hl => by
    rw [List.range'_succ, List.flatMap_cons]
    refine Dd (h i (Nat.le_refl _) (by omega)) ?_
    rw [← Nat.succ_mul]
    exact aN k (i + 1) (fun j h1 h2 => h j (by omega) (by omega)) (by rw [hl]; congr 1; omega)
theorem jX {α : Type} [Inhabited α] {E : α → List AV} {W : α → Prop} {e : TypeId} {n z : Nat} (ht : P.underlying t = some (.array n e)) (hc : P.cellsOf e = z) (hn : P.cellsOf t = n * z) (he : Uh P e E W) :
    Uh P t (eA n E) (fun (a : Arr n α) => ∀ x, x ∈ a.l → W x) := fun H enc w fuel cs x h => by
  obtain ⟨xs, m, _, _, hl, hxl, hp⟩ := DataW.trod_array ht h
  have each : ∀ i, i < n → ∃ x : α, W x ∧ Me w (E x) ((cs.drop (i * z)).take z) := fun i hi => by
    have := hp i hi
    rw [hc] at this
    obtain ⟨y, hy⟩ : ∃ y, xs[i]? = some y := ⟨xs[i], by simp [hxl, hi]⟩
    rw [hy] at this
    exact he H enc w m _ y this
  obtain ⟨ys, hys⟩ : ∃ ys : List α, ys = (List.finRange n).map fun (i : _root_.Fin n) => (each i.1 i.2).choose := ⟨_, rfl⟩
  have hyl : ys.length = n := by simp [hys]
  have Cq : ∀ i (hi : i < n), ys[i]? = some (each i hi).choose := fun i hi => by simp [hys, hi]
  refine ⟨⟨ys, hyl⟩, fun x hx => ?_, ?_⟩
  · obtain ⟨i, hi⟩ := List.mem_iff_getElem?.1 hx
    have hil : i < n := by rw [← hyl]; exact (List.getElem?_eq_some_iff.1 hi).1
    rw [Cq i hil] at hi
    cases hi
    exact (each i hil).choose_spec.1
  · have := aN (w := w) (E := E) (g := fun j => (⟨ys, hyl⟩ : Arr n α).g j) (cs := cs) (z := z) n 0 (fun j _ hj => by
      have hg : (⟨ys, hyl⟩ : Arr n α).g j = (each j (by omega)).choose := by
        show (ys[j]?).getD default = _
        rw [Cq j (by omega)]; rfl
      rw [hg]
      exact (each j (by omega)).choose_spec.2) (by rw [hl, hn, Nat.zero_add])
    rw [Nat.zero_mul, List.drop_zero] at this
    unfold eA
    rw [List.range_eq_range']
    exact this
end
theorem KC.anyMode {w : World} {g : Gh} {r π c v} (hs : c.scalar = true) (h : KC w g .ro r π c v) (m : Md) : KC w g m r π c v := by
  cases h with
  | bool => exact .bool
  | int => exact .int
  | str => exact .str
  | nilp => exact .nilp
  | obj h => exact .obj h
  | _ => cases hs
/-! arguments that are shared from the first -/
theorem KC.toShared {w : World} {r π a v} (h : KC w Vx .ro r π a v) : KC w Vx (.own 0) r π a v := by
  refine KC.map (g := Vx) (g' := Vx) (r := r) (r' := r) (fun m _ m' _ => m = .ro ∧ m' = .own 0) (Nat.le_refl _) (fun _ hi => ⟨hi, rfl⟩) ?_ h (π' := π) ⟨rfl, rfl⟩
  rintro m π m' π' ⟨rfl, rfl⟩
  exact ⟨fun _ h => by (cases h), fun h => by (cases h), fun b e hb ho => ⟨rfl, fun _ _ _ => rfl⟩, fun h => by (cases h), fun i j => ⟨rfl, rfl⟩⟩
theorem arg_aggS {w : World} {cs : List MC} {vs : Array Value} {i : Nat} (h : Me w (cs.map (·.2)) vs.toList) (hm : ∀ c, c ∈ cs → c.1 = .own 0 ∨ c.2.scalar = true) : RT w Vx (.tmp i) (.agg cs) (.agg vs) := by
  have hl := h.1
  simp at hl
  refine ⟨vs, rfl, hl, fun j c hc => ?_⟩
  have hj : j < vs.size := by rw [hl]; exact (List.getElem?_eq_some_iff.1 hc).1
  refine ⟨vs[j], by simp [hj], .inl ?_⟩
  have k := h.2 j c.2 vs[j] (by rw [List.getElem?_map, hc]; rfl) (by simp [hj]) (.tmp i) ([] ++ [j])
  rcases hm c (List.mem_of_getElem? hc) with e | e
  · rw [e]; exact k.toShared
  · exact k.anyMode e _
end Go.Proofs.Abs
namespace Go.Proofs.Abs
open Go
set_option linter.unusedVariables false
set_option linter.unusedSimpArgs false
section
variable {α β γ δ ε ζ : Type}
theorem Aa (a : α) (k : α → Option β) : Ag (some a) k = k a := rfl
theorem Ax (a : α) (b : β) (k : α → β → Option γ) : Ch (some (a, b)) k = k a b := rfl
theorem Qn (a : α) (b : β) (c : γ) (k : α → β → γ → Option δ) : Vs (some (a, b, c)) k = k a b c := rfl
theorem fX (a : α) (b : β) (c : γ) (d : δ) (e : ε) (k : α → β → γ → δ → ε → Option ζ) : lP (some (a, b, c, d, e)) k = k a b c d e := rfl
theorem Di (a : α) (k : α → Option β) : bnd a k = k a := rfl
theorem Bd (i o : Nat) (k : Nat → Nat → Option β) : (Ptr.at i o).bnd k = k i o := rfl
theorem Rm (f : α → Option γ) (g : β → Option γ) (a : α) : dO f g (.inl a) = f a := rfl
theorem Kp (f : α → Option γ) (g : β → Option γ) (b : β) : dO f g (.inr b) = g b := rfl
theorem Ui (i o : Nat) : (Ptr.at i o).isNil = false := rfl
theorem Wu {E : α → β} (hE : ∀ x y, E x = E y → x = y) : ∀ (a b : List α), a.map E = b.map E → a = b
  | [], [], _ => rfl
  | [], _ :: _, h => by cases h
  | _ :: _, [], h => by cases h
  | x :: a, y :: b, h => by
    simp only [List.map_cons, List.cons.injEq] at h
    rw [hE _ _ h.1, Wu hE a b h.2]
theorem mK {k : IntKind} (x y : Int) (h : eI k x = eI k y) : x = y := by simpa [eI] using h
end
/-! numbers -/
theorem mL {n : Int} : (Lit.int .u32 n).wf = true ↔ 0 ≤ n ∧ n ≤ 4294967295 := by
  simp [Lit.wf, IntKind.min, IntKind.max, IntKind.signed, IntKind.bits]
theorem Au (x : Int) (h1 : -9223372036854775808 ≤ x) (h2 : x ≤ 9223372036854775807) : IntKind.i64.wrap x = x := by
  simp only [IntKind.wrap, IntKind.bits, IntKind.signed]
  simp
  omega
theorem Cl (x : Int) (h1 : 0 ≤ x) (h2 : x ≤ 4294967295) : IntKind.u32.wrap x = x := by
  simp only [IntKind.wrap, IntKind.bits, IntKind.signed]
  simp
  omega
theorem Yz (x : Int) (h1 : 0 ≤ x) (h2 : x ≤ 18446744073709551615) : IntKind.u64.wrap x = x := by
  simp only [IntKind.wrap, IntKind.bits, IntKind.signed]
  simp
  omega
theorem Fh {a b : Int} (h : 0 ≤ a) : a.tmod b = a % b := Int.tmod_eq_emod_of_nonneg h
theorem Jm {a b : Int} (h : 0 ≤ a) : a.tdiv b = a / b := Int.tdiv_eq_ediv_of_nonneg h
/-! objects -/
section
variable {α : Type} {en : α → List MC} {n : Nat} {H : Ai} {i o j o' : Nat} {x y : α}
theorem bT (inj : ∀ x y, en x = en y → x = y) (hl : ∀ x, (en x).length = n) (h : O7 en n H i o = some x) (y : α) : O7 en n (Dp H i o (en y)) i o = some y :=
  Pz inj (Bt (A8 h) (hl y))
theorem Wv (inj : ∀ x y, en x = en y → x = y) (hl : ∀ x, (en x).length = n) (H : Ai) (y : α) : O7 en n (H ++ [en y]) H.length 0 = some y := by
  refine Pz inj ?_
  rw [← hl y]; exact lS
theorem R5 {new : List MC} (inj : ∀ x y, en x = en y → x = y) (h : O7 en n H i o = some x) : O7 en n (H ++ [new]) i o = some x := Pz inj (lR (A8 h))
theorem aO {new : List MC} (inj : ∀ x y, en x = en y → x = y) (hij : i ≠ j) (h : O7 en n H j o' = some x) : O7 en n (Dp H i o new) j o' = some x :=
  Pz inj (by rw [Tm hij]; exact A8 h)
theorem mM (h : O7 en n H i o = some x) : i < H.length := nY (A8 h)
end
theorem Qo {α : Type} {xs : List α} {i : Int} (h0 : 0 ≤ i) (h1 : i < xs.length) : gi xs i = some (xs[i.toNat]'(by omega)) := by
  unfold gi
  rw [if_pos h0, List.getElem?_eq_getElem]
theorem iJ {α : Type} {xs : List α} {i : Int} {x : α} (h0 : 0 ≤ i) (h1 : i < xs.length) : si xs i x = some (xs.set i.toNat x) := by
  unfold si
  rw [if_pos ⟨h0, by omega⟩]
end Go.Proofs.Abs
