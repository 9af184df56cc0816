/- The law EmitPlays: whatever the input, it answers true. No conditions. (Part G of its proof.) -/
import Derived.Test.YtjaofdkkhhaikaaA2
import Derived.KernelRfl
import Derived.OpenShut
import Derived.ChangeArms
set_option linter.unusedVariables false
set_option linter.unusedSimpArgs false
set_option linter.unusedSectionVars false
/- What printed proofs lean on: functions in plain Lean, and how they stand to the abstract machine. -/
namespace Go.Proofs.Abs
open Go
set_option linter.unusedVariables false
set_option linter.unusedSimpArgs false

/-! ### words of the printed functions -/
inductive Ptr where
  | nil | at (id off : Nat)
  deriving DecidableEq, Inhabited
def Ptr.av : Ptr → AV
  | .nil => .nilp
  | .at i o => .obj i o
def Ptr.isNil : Ptr → Bool
  | .nil => true
  | .at _ _ => false
def Ptr.bnd {β : Type} (p : Ptr) (k : Nat → Nat → Option β) : Option β := match p with
  | .nil => none
  | .at i o => k i o
theorem pbnd_inv {β : Type} {p : Ptr} {k : Nat → Nat → Option β} {r} (h : p.bnd k = some r) : ∃ i o, p = .at i o ∧ k i o = some r := by
  cases p with
  | nil => cases h
  | «at» i o => exact ⟨i, o, rfl, h⟩
/-- strings that hold the same bytes -/
def strEq (x y : ByteArray) : Bool := x.toList == y.toList
section
variable {α β γ δ ε ζ η θ : Type}
def bnd (a : α) (k : α → Option β) : Option β := k a
theorem bnd_inv {a : α} {k : α → Option β} {r} (h : bnd a k = some r) : ∃ x, a = x ∧ k x = some r := ⟨a, rfl, h⟩
def bind1 (q : Option α) (k : α → Option β) : Option β := match q with
  | some a => k a
  | none => none
def bind2 (q : Option (α × β)) (k : α → β → Option γ) : Option γ := match q with
  | some (a, b) => k a b
  | none => none
def bind3 (q : Option (α × β × γ)) (k : α → β → γ → Option δ) : Option δ := match q with
  | some (a, b, c) => k a b c
  | none => none
def bind4 (q : Option (α × β × γ × δ)) (k : α → β → γ → δ → Option ε) : Option ε := match q with
  | some (a, b, c, d) => k a b c d
  | none => none
def bind5 (q : Option (α × β × γ × δ × ε)) (k : α → β → γ → δ → ε → Option ζ) : Option ζ := match q with
  | some (a, b, c, d, e) => k a b c d e
  | none => none
def bind6 (q : Option (α × β × γ × δ × ε × ζ)) (k : α → β → γ → δ → ε → ζ → Option η) : Option η := match q with
  | some (a, b, c, d, e, f) => k a b c d e f
  | none => none
theorem bind1_inv {q : Option α} {k : α → Option β} {r} (h : bind1 q k = some r) : ∃ x, q = some x ∧ k x = some r := by
  cases q with
  | none => cases h
  | some x => exact ⟨x, rfl, h⟩
theorem bind2_inv {q : Option (α × β)} {k : α → β → Option γ} {r} (h : bind2 q k = some r) : ∃ x y, q = some (x, y) ∧ k x y = some r := by
  cases q with
  | none => cases h
  | some x => exact ⟨x.1, x.2, rfl, h⟩
theorem bind3_inv {q : Option (α × β × γ)} {k : α → β → γ → Option δ} {r} (h : bind3 q k = some r) : ∃ x y z, q = some (x, y, z) ∧ k x y z = some r := by
  cases q with
  | none => cases h
  | some x => exact ⟨x.1, x.2.1, x.2.2, rfl, h⟩
theorem bind4_inv {q : Option (α × β × γ × δ)} {k : α → β → γ → δ → Option ε} {r} (h : bind4 q k = some r) : ∃ x y z u, q = some (x, y, z, u) ∧ k x y z u = some r := by
  cases q with
  | none => cases h
  | some x => exact ⟨x.1, x.2.1, x.2.2.1, x.2.2.2, rfl, h⟩
theorem if_inv {e : Bool} {p q : Option α} {r} (h : (if e = true then p else q) = some r) : (e = true ∧ p = some r) ∨ (e = false ∧ q = some r) := by
  cases e with
  | true => exact .inl ⟨rfl, h⟩
  | false => exact .inr ⟨rfl, h⟩
def sum2 (f : α → Option γ) (g : β → Option γ) : α ⊕ β → Option γ
  | .inl a => f a
  | .inr b => g b
theorem sum2_inv {f : α → Option γ} {g : β → Option γ} {s : α ⊕ β} {r} (h : sum2 f g s = some r) : (∃ x, s = .inl x ∧ f x = some r) ∨ (∃ x, s = .inr x ∧ g x = some r) := by
  cases s with
  | inl x => exact .inl ⟨x, rfl, h⟩
  | inr x => exact .inr ⟨x, rfl, h⟩
def tup2 (f : α → β → γ) (x : α × β) : γ := f x.1 x.2
def tup3 (f : α → β → γ → δ) (x : α × β × γ) : δ := f x.1 x.2.1 x.2.2
def tup4 (f : α → β → γ → δ → ε) (x : α × β × γ × δ) : ε := f x.1 x.2.1 x.2.2.1 x.2.2.2
def tup5 (f : α → β → γ → δ → ε → ζ) (x : α × β × γ × δ × ε) : ζ := f x.1 x.2.1 x.2.2.1 x.2.2.2.1 x.2.2.2.2
theorem tup2_inv {f : α → β → γ} {a b} {r : γ} (h : tup2 f (a, b) = r) : f a b = r := h
theorem some1_inv {a a' : α} (h : some a = some a') : a = a' := Option.some.inj h
theorem some2_inv {a a' : α} {b b' : β} (h : some (a, b) = some (a', b')) : a = a' ∧ b = b' := by cases h; exact ⟨rfl, rfl⟩
theorem some3_inv {a a' : α} {b b' : β} {c c' : γ} (h : some (a, b, c) = some (a', b', c')) : a = a' ∧ b = b' ∧ c = c' := by cases h; exact ⟨rfl, rfl, rfl⟩
theorem some4_inv {a a' : α} {b b' : β} {c c' : γ} {d d' : δ} (h : some (a, b, c, d) = some (a', b', c', d')) : a = a' ∧ b = b' ∧ c = c' ∧ d = d' := by cases h; exact ⟨rfl, rfl, rfl, rfl⟩
/-- words of one list over those of another, from a place on -/
def cpy (xs : List α) (lo : Nat) (ys : List α) : List α := setAt xs lo (ys.take (xs.length - lo))
/-- an element -/
def gi (xs : List α) (i : Int) : Option α := if 0 ≤ i then xs[i.toNat]? else none
theorem gi_inv {xs : List α} {i : Int} {x : α} (h : gi xs i = some x) : 0 ≤ i ∧ xs[i.toNat]? = some x := by
  unfold gi at h
  split at h
  · exact ⟨‹_›, h⟩
  · cases h
/-- another one in its place -/
def si (xs : List α) (i : Int) (x : α) : Option (List α) := if 0 ≤ i ∧ i.toNat < xs.length then some (xs.set i.toNat x) else none
theorem si_inv {xs : List α} {i : Int} {x : α} {ys} (h : si xs i x = some ys) : 0 ≤ i ∧ i.toNat < xs.length ∧ ys = xs.set i.toNat x := by
  unfold si at h
  split at h
  · rename_i hh; cases h; exact ⟨hh.1, hh.2, rfl⟩
  · cases h
/-- append: cells of so many bytes -/
def app (zb : Nat) (xs ys : List α) : Option (List α) := if (xs.length + ys.length) * zb ≤ roomBytes then some (xs ++ ys) else none
theorem app_inv {zb : Nat} {xs ys zs : List α} (h : app zb xs ys = some zs) : (xs.length + ys.length) * zb ≤ roomBytes ∧ zs = xs ++ ys := by
  unfold app at h
  split at h
  · cases h; exact ⟨‹_›, rfl⟩
  · cases h
def mks (zb : Nat) (n m : Int) (x : α) : Option (List α) := if 0 ≤ n ∧ n ≤ m ∧ m * zb ≤ roomBytes ∧ m < 2 ^ 63 then some (List.replicate n.toNat x) else none
/-- a part of a list -/
def cut (xs : List α) (lo hi : Int) : Option (List α) := if 0 ≤ lo ∧ lo ≤ hi ∧ hi ≤ xs.length then some ((xs.take hi.toNat).drop lo.toNat) else none
theorem cut_inv {xs ys : List α} {lo hi : Int} (h : cut xs lo hi = some ys) : 0 ≤ lo ∧ lo ≤ hi ∧ hi ≤ xs.length ∧ ys = (xs.take hi.toNat).drop lo.toNat := by
  unfold cut at h
  split at h
  · rename_i hh; cases h; exact ⟨hh.1, hh.2.1, hh.2.2, rfl⟩
  · cases h
/-- quotient, remainder, shifts: what stops -/
def quoI (k : IntKind) (a b : Int) : Option Int := if b = 0 then none else some (k.wrap (a.tdiv b))
def remI (k : IntKind) (a b : Int) : Option Int := if b = 0 then none else some (a.tmod b)
def shlI (k : IntKind) (a b : Int) : Option Int := if b < 0 then none else some (k.wrap (a * 2 ^ min b.toNat k.bits))
def shrI (k : IntKind) (a b : Int) : Option Int := if b < 0 then none else some (a.fdiv (2 ^ min b.toNat k.bits))

/-! arrays -/
structure Arr (n : Nat) (α : Type) where
  l : List α
  h : l.length = n
def Arr.g [Inhabited α] {n : Nat} (a : Arr n α) (j : Nat) : α := a.l[j]?.getD default
def arrL (l : List α) : Arr l.length α := ⟨l, rfl⟩
def ga {n : Nat} (a : Arr n α) (i : Int) : Option α := if 0 ≤ i then a.l[i.toNat]? else none
def sa {n : Nat} (a : Arr n α) (i : Int) (x : α) : Option (Arr n α) := if 0 ≤ i ∧ i < n then some ⟨a.l.set i.toNat x, by rw [List.length_set, a.h]⟩ else none
instance [Inhabited α] {n : Nat} : Inhabited (Arr n α) := ⟨⟨List.replicate n default, by simp⟩⟩
def tup6 {α β γ δ ε ζ ω : Type} (f : α → β → γ → δ → ε → ζ → ω) (y : α × β × γ × δ × ε × ζ) : ω := f y.1 y.2.1 y.2.2.1 y.2.2.2.1 y.2.2.2.2.1 y.2.2.2.2.2
def bind7 {α β γ δ ε ζ η ω : Type} (q : Option (α × β × γ × δ × ε × ζ × η)) (k : α → β → γ → δ → ε → ζ → η → Option ω) : Option ω := match q with
  | some (x0, x1, x2, x3, x4, x5, x6) => k x0 x1 x2 x3 x4 x5 x6
  | none => none
def tup7 {α β γ δ ε ζ η ω : Type} (f : α → β → γ → δ → ε → ζ → η → ω) (y : α × β × γ × δ × ε × ζ × η) : ω := f y.1 y.2.1 y.2.2.1 y.2.2.2.1 y.2.2.2.2.1 y.2.2.2.2.2.1 y.2.2.2.2.2.2
def bind8 {α β γ δ ε ζ η θ ω : Type} (q : Option (α × β × γ × δ × ε × ζ × η × θ)) (k : α → β → γ → δ → ε → ζ → η → θ → Option ω) : Option ω := match q with
  | some (x0, x1, x2, x3, x4, x5, x6, x7) => k x0 x1 x2 x3 x4 x5 x6 x7
  | none => none
def tup8 {α β γ δ ε ζ η θ ω : Type} (f : α → β → γ → δ → ε → ζ → η → θ → ω) (y : α × β × γ × δ × ε × ζ × η × θ) : ω := f y.1 y.2.1 y.2.2.1 y.2.2.2.1 y.2.2.2.2.1 y.2.2.2.2.2.1 y.2.2.2.2.2.2.1 y.2.2.2.2.2.2.2
def bind9 {α β γ δ ε ζ η θ ι ω : Type} (q : Option (α × β × γ × δ × ε × ζ × η × θ × ι)) (k : α → β → γ → δ → ε → ζ → η → θ → ι → Option ω) : Option ω := match q with
  | some (x0, x1, x2, x3, x4, x5, x6, x7, x8) => k x0 x1 x2 x3 x4 x5 x6 x7 x8
  | none => none
def tup9 {α β γ δ ε ζ η θ ι ω : Type} (f : α → β → γ → δ → ε → ζ → η → θ → ι → ω) (y : α × β × γ × δ × ε × ζ × η × θ × ι) : ω := f y.1 y.2.1 y.2.2.1 y.2.2.2.1 y.2.2.2.2.1 y.2.2.2.2.2.1 y.2.2.2.2.2.2.1 y.2.2.2.2.2.2.2.1 y.2.2.2.2.2.2.2.2
def bind10 {α β γ δ ε ζ η θ ι κ ω : Type} (q : Option (α × β × γ × δ × ε × ζ × η × θ × ι × κ)) (k : α → β → γ → δ → ε → ζ → η → θ → ι → κ → Option ω) : Option ω := match q with
  | some (x0, x1, x2, x3, x4, x5, x6, x7, x8, x9) => k x0 x1 x2 x3 x4 x5 x6 x7 x8 x9
  | none => none
def tup10 {α β γ δ ε ζ η θ ι κ ω : Type} (f : α → β → γ → δ → ε → ζ → η → θ → ι → κ → ω) (y : α × β × γ × δ × ε × ζ × η × θ × ι × κ) : ω := f y.1 y.2.1 y.2.2.1 y.2.2.2.1 y.2.2.2.2.1 y.2.2.2.2.2.1 y.2.2.2.2.2.2.1 y.2.2.2.2.2.2.2.1 y.2.2.2.2.2.2.2.2.1 y.2.2.2.2.2.2.2.2.2
def bind11 {α β γ δ ε ζ η θ ι κ μ ω : Type} (q : Option (α × β × γ × δ × ε × ζ × η × θ × ι × κ × μ)) (k : α → β → γ → δ → ε → ζ → η → θ → ι → κ → μ → Option ω) : Option ω := match q with
  | some (x0, x1, x2, x3, x4, x5, x6, x7, x8, x9, x10) => k x0 x1 x2 x3 x4 x5 x6 x7 x8 x9 x10
  | none => none
def tup11 {α β γ δ ε ζ η θ ι κ μ ω : Type} (f : α → β → γ → δ → ε → ζ → η → θ → ι → κ → μ → ω) (y : α × β × γ × δ × ε × ζ × η × θ × ι × κ × μ) : ω := f y.1 y.2.1 y.2.2.1 y.2.2.2.1 y.2.2.2.2.1 y.2.2.2.2.2.1 y.2.2.2.2.2.2.1 y.2.2.2.2.2.2.2.1 y.2.2.2.2.2.2.2.2.1 y.2.2.2.2.2.2.2.2.2.1 y.2.2.2.2.2.2.2.2.2.2
def bind12 {α β γ δ ε ζ η θ ι κ μ ν ω : Type} (q : Option (α × β × γ × δ × ε × ζ × η × θ × ι × κ × μ × ν)) (k : α → β → γ → δ → ε → ζ → η → θ → ι → κ → μ → ν → Option ω) : Option ω := match q with
  | some (x0, x1, x2, x3, x4, x5, x6, x7, x8, x9, x10, x11) => k x0 x1 x2 x3 x4 x5 x6 x7 x8 x9 x10 x11
  | none => none
def tup12 {α β γ δ ε ζ η θ ι κ μ ν ω : Type} (f : α → β → γ → δ → ε → ζ → η → θ → ι → κ → μ → ν → ω) (y : α × β × γ × δ × ε × ζ × η × θ × ι × κ × μ × ν) : ω := f y.1 y.2.1 y.2.2.1 y.2.2.2.1 y.2.2.2.2.1 y.2.2.2.2.2.1 y.2.2.2.2.2.2.1 y.2.2.2.2.2.2.2.1 y.2.2.2.2.2.2.2.2.1 y.2.2.2.2.2.2.2.2.2.1 y.2.2.2.2.2.2.2.2.2.2.1 y.2.2.2.2.2.2.2.2.2.2.2
/-! loops -/
def loopK {σ ρ : Type} (f : σ → Option (σ ⊕ ρ)) : Nat → σ → Option ρ
  | 0, _ => none
  | k + 1, s => match f s with
    | some (.inl s') => loopK f k s'
    | some (.inr r) => some r
    | none => none
open Classical in
noncomputable def loopO {σ ρ : Type} (f : σ → Option (σ ⊕ ρ)) (s : σ) : Option ρ := if h : ∃ r k, loopK f k s = some r then some h.choose else none
theorem loopK_mono {σ ρ : Type} {f : σ → Option (σ ⊕ ρ)} : ∀ (k k' : Nat) s r, k ≤ k' → loopK f k s = some r → loopK f k' s = some r
  | 0, _, s, r, _, h => by cases h
  | k + 1, 0, s, r, hk, h => by omega
  | k + 1, k' + 1, s, r, hk, h => by
    simp only [loopK] at h ⊢
    split at h
    · exact loopK_mono k k' _ r (by omega) h
    · exact h
    · cases h
theorem loopO_inv {σ ρ : Type} {f : σ → Option (σ ⊕ ρ)} {s r} (h : loopO f s = some r) : ∃ k, loopK f k s = some r := by
  unfold loopO at h
  split at h
  · rename_i hk; cases h; exact hk.choose_spec
  · cases h
theorem loopO_of {σ ρ : Type} {f : σ → Option (σ ⊕ ρ)} {s r k} (h : loopK f k s = some r) : loopO f s = some r := by
  have hk : ∃ r k, loopK f k s = some r := ⟨r, k, h⟩
  unfold loopO
  rw [dif_pos hk]
  obtain ⟨k', hk'⟩ := hk.choose_spec
  have h1 := loopK_mono k (max k k') s r (Nat.le_max_left _ _) h
  have h2 := loopK_mono k' (max k k') s _ (Nat.le_max_right _ _) hk'
  rw [h1] at h2
  exact h2.symm
/-- a loop unrolled once -/
theorem loopO_eq {σ ρ : Type} (f : σ → Option (σ ⊕ ρ)) (s : σ) : loopO f s = match f s with
    | some (.inl s') => loopO f s'
    | some (.inr r) => some r
    | none => none := by
  cases h : loopO f s with
  | some r =>
    obtain ⟨k, hk⟩ := loopO_inv h
    cases k with
    | zero => cases hk
    | succ k =>
      simp only [loopK] at hk
      split at hk
      · exact (loopO_of hk).symm
      · exact hk.symm
      · cases hk
  | none =>
    split
    · rename_i s' hs
      cases h2 : loopO f s' with
      | none => rfl
      | some r =>
        obtain ⟨k, hk⟩ := loopO_inv h2
        rw [loopO_of (k := k + 1) (r := r) (by simp only [loopK, hs]; exact hk)] at h
        cases h
    · rename_i r hs
      rw [loopO_of (k := 1) (r := r) (by simp only [loopK, hs])] at h
      cases h
    · rfl
theorem loopO_go {σ ρ : Type} {f : σ → Option (σ ⊕ ρ)} {s s' : σ} (h : f s = some (.inl s')) : loopO f s = loopO f s' := by rw [loopO_eq, h]
theorem loopO_out {σ ρ : Type} {f : σ → Option (σ ⊕ ρ)} {s : σ} {r : ρ} (h : f s = some (.inr r)) : loopO f s = some r := by rw [loopO_eq, h]
end

/-! how values stand in cells -/
def eI (k : IntKind) (n : Int) : List AV := [.int k n]
def eB (b : Bool) : List AV := [.bool b]
def eS (b : ByteArray) : List AV := [.str b]
def eP (p : Ptr) : List AV := [p.av]
def eL {α : Type} (z : Nat) (E : α → List AV) (xs : List α) : List AV := [.sl z (xs.map E)]
def eA {α : Type} [Inhabited α] (n : Nat) (E : α → List AV) (a : Arr n α) : List AV := (List.range n).flatMap fun j => E (a.g j)
/-! the heap -/
def hget (H : Heap) (i off n : Nat) : Option (List MC) := match H[i]? with
  | some o => cellsAt o off n
  | none => none
def hset (H : Heap) (i off : Nat) (cs : List MC) : Heap := match H[i]? with
  | some o => H.set i (setAt o off cs)
  | none => H
section
variable {H : Heap} {i o N k n : Nat} {cs new : List MC}
theorem hget_inv (h : hget H i o n = some cs) : ∃ c, H[i]? = some c ∧ o + n ≤ c.length ∧ cs = (c.drop o).take n ∧ cs.length = n := by
  unfold hget at h
  split at h
  · rename_i c hc
    unfold cellsAt at h
    split at h
    · rename_i hl
      cases h
      exact ⟨c, hc, hl, rfl, by simp; omega⟩
    · cases h
  · cases h
theorem hget_of {c : List MC} (h : H[i]? = some c) (hl : o + n ≤ c.length) : hget H i o n = some ((c.drop o).take n) := by
  unfold hget cellsAt
  rw [h]
  simp [hl]
theorem hget_sub (V : hget H i o N = some cs) (k n : Nat) (h : k + n ≤ N) : hget H i (o + k) n = some ((cs.drop k).take n) := by
  obtain ⟨c, h1, h2, rfl, _⟩ := hget_inv V
  rw [hget_of h1 (by omega)]
  congr 1
  rw [List.drop_take, List.drop_drop, List.take_take, Nat.min_eq_left (by omega)]
theorem setAt_len {α : Type} {cs new : List α} {off : Nat} (h : off + new.length ≤ cs.length) : (setAt cs off new).length = cs.length := by
  simp [setAt]; omega
theorem hset_eq {c : List MC} (h : H[i]? = some c) (off : Nat) (cs : List MC) : hset H i off cs = H.set i (setAt c off cs) := by
  unfold hset; rw [h]
theorem hset_get (V : hget H i o N = some cs) (hn : new.length = N) : hget (hset H i o new) i o N = some new := by
  obtain ⟨c, h1, h2, rfl, _⟩ := hget_inv V
  have hi : i < H.length := (List.getElem?_eq_some_iff.1 h1).1
  rw [hset_eq h1, hget_of (c := setAt c o new) (by simp [hi]) (by rw [setAt_len (by omega)]; exact h2)]
  congr 1
  subst hn
  apply List.ext_getElem?
  intro j
  have e : min o c.length = o := by omega
  simp only [setAt, List.getElem?_append, List.length_append, List.length_take, List.getElem?_take, List.getElem?_drop, List.length_drop, e]
  grind
theorem setAt_setAt {α : Type} {cs a b : List α} {o k : Nat} (h1 : o + a.length ≤ cs.length) (h2 : k + b.length ≤ a.length) : setAt (setAt cs o a) (o + k) b = setAt cs o (setAt a k b) := by
  apply List.ext_getElem?
  intro j
  have e0 : min o cs.length = o := by omega
  have e1 : min k a.length = k := by omega
  simp only [setAt, List.getElem?_append, List.length_append, List.length_take, List.getElem?_take, List.getElem?_drop, List.length_drop, e0, e1]
  grind
theorem hset_sub (V : hget H i o N = some cs) (hc : new.length = N) {k : Nat} {b : List MC} (h : k + b.length ≤ N) : hset (hset H i o new) i (o + k) b = hset H i o (setAt new k b) := by
  obtain ⟨c, h1, h2, rfl, _⟩ := hget_inv V
  have hi : i < H.length := (List.getElem?_eq_some_iff.1 h1).1
  rw [hset_eq h1, hset_eq h1, hset_eq (c := setAt c o new) (by simp [hi]), List.set_set, setAt_setAt (by omega) (by omega)]
theorem hset_self (V : hget H i o N = some cs) : hset H i o cs = H := by
  obtain ⟨c, h1, h2, rfl, _⟩ := hget_inv V
  rw [hset_eq h1]
  have : setAt c o (List.take N (List.drop o c)) = c := by
    apply List.ext_getElem?
    intro j
    simp only [setAt, List.getElem?_append, List.length_append, List.length_take, List.getElem?_take, List.getElem?_drop, List.length_drop]
    grind
  rw [this]
  apply List.ext_getElem?
  intro j
  by_cases hj : j = i
  · subst hj; rw [h1]; simp [(List.getElem?_eq_some_iff.1 h1).1]
  · simp [List.getElem?_set, Ne.symm hj]
theorem hset_sub0 (V : hget H i o N = some cs) {k : Nat} {b : List MC} (h : k + b.length ≤ N) : hset H i (o + k) b = hset H i o (setAt cs k b) := by
  obtain ⟨_, _, _, _, hl⟩ := hget_inv V
  have := hset_sub V hl h
  rw [hset_self V] at this
  exact this
theorem hget_other {j off m : Nat} (h : i ≠ j) : hget (hset H i o new) j off m = hget H j off m := by
  unfold hset
  split
  · unfold hget; rw [List.getElem?_set_ne h]
  · rfl
theorem hget_lt (V : hget H i o N = some cs) : i < H.length := by
  obtain ⟨c, h1, _⟩ := hget_inv V
  exact (List.getElem?_eq_some_iff.1 h1).1
theorem hget_app {new : List (List MC)} (V : hget H i o N = some cs) : hget (H ++ new) i o N = some cs := by
  obtain ⟨c, h1, h2, rfl, _⟩ := hget_inv V
  exact hget_of (by rw [List.getElem?_append_left (List.getElem?_eq_some_iff.1 h1).1]; exact h1) h2
open Classical in
noncomputable def hgetT {α : Type} (en : α → List MC) (n : Nat) (H : Heap) (i o : Nat) : Option α := if h : ∃ x, hget H i o n = some (en x) then some h.choose else none
theorem hgetT_inv {α : Type} {en : α → List MC} {x : α} (h : hgetT en n H i o = some x) : hget H i o n = some (en x) := by
  unfold hgetT at h
  split at h
  · rename_i hx; cases h; exact hx.choose_spec
  · cases h
theorem hgetT_of {α : Type} {en : α → List MC} (inj : ∀ x y, en x = en y → x = y) {x : α} (h : hget H i o n = some (en x)) : hgetT en n H i o = some x := by
  have hx : ∃ x, hget H i o n = some (en x) := ⟨x, h⟩
  unfold hgetT
  rw [dif_pos hx]
  exact congrArg some (inj _ _ (Option.some.inj (hx.choose_spec.symm.trans h)))
theorem hget_new {cs : List MC} : hget (H ++ [cs]) H.length 0 cs.length = some cs := by
  rw [hget_of (c := cs) (by simp) (by simp)]
  simp
end
end Go.Proofs.Abs
/- How a printed function is walked: rules. -/
namespace Go.Proofs.Abs
open Go
set_option linter.unusedVariables false
set_option linter.unusedSimpArgs false

def wpC0 (q : Option (Ex × St)) (N : St → Prop) (E : Nat → St → Prop) (R : St → Prop) : Prop := match q with
  | some (.nrm, s) => N s
  | some (.exit i, s) => E i s
  | some (.ret, s) => R s
  | none => False
structure wpC (q : Option (Ex × St)) (N : St → Prop) (E : Nat → St → Prop) (R : St → Prop) : Prop where
  h : wpC0 q N E R
def blkE (id : Nat) (N : St → Prop) (E : Nat → St → Prop) (j : Nat) (s : St) : Prop := if j = id then N s else E j s
theorem e_here {id : Nat} {N : St → Prop} {E : Nat → St → Prop} {s : St} (h : N s) : blkE id N E id s := by unfold blkE; rw [if_pos rfl]; exact h
theorem e_out {id i : Nat} {N : St → Prop} {E : Nat → St → Prop} {s : St} (h : Nat.beq i id = false) (k : E i s) : blkE id N E i s := by
  unfold blkE
  rw [if_neg (fun e => by subst e; simp at h)]; exact k

section
variable {X : Cx} {pu : Pu} {st : Bool} {fn id i : Nat} {ops : List Oper} {s s1 s2 s' : St} {N : St → Prop} {E : Nat → St → Prop} {R : St → Prop} {c c' : Code}
noncomputable abbrev ev (X : Cx) (pu : Pu) (fn : Nat) (c : Code) (s : St) : Option (Ex × St) := evC X pu (evS X) iterS fn c s
theorem wp_some {q : Option (Ex × St)} (h : wpC q N E R) : ∃ e t, q = some (e, t) ∧ wpC (some (e, t)) N E R := by
  cases q with
  | none => exact h.h.elim
  | some x => exact ⟨x.1, x.2, rfl, h⟩
theorem wp_mono {q : Option (Ex × St)} {N' E' R'} (h : wpC q N E R) (hN : ∀ s, N s → N' s) (hE : ∀ i s, E i s → E' i s) (hR : ∀ s, R s → R' s) : wpC q N' E' R' := by
  obtain ⟨e, t, rfl, h⟩ := wp_some h
  cases e with
  | nrm => exact ⟨hN _ h.h⟩
  | exit i => exact ⟨hE _ _ h.h⟩
  | ret => exact ⟨hR _ h.h⟩
theorem w_seq (h : wpC (ev X pu fn c s) (fun t => wpC (ev X pu fn c' t) N E R) E R) : wpC (ev X pu fn (.seq c c') s) N E R := by
  obtain ⟨e, t, he, h⟩ := wp_some h
  simp only [ev] at he
  simp only [ev, evC, he]
  cases e with
  | nrm => exact h.h
  | exit i => exact ⟨h.h⟩
  | ret => exact ⟨h.h⟩
theorem w_skip (h : N s) : wpC (ev X pu fn .skip s) N E R := ⟨h⟩
theorem w_exit (h : E i s) : wpC (ev X pu fn (.exit i) s) N E R := ⟨h⟩
theorem w_ret (h : R s) : wpC (ev X pu fn .ret s) N E R := ⟨h⟩
theorem w_block (h : wpC (ev X pu fn c s) N (blkE id N E) R) : wpC (ev X pu fn (.block id c) s) N E R := by
  obtain ⟨e, t, he, h⟩ := wp_some h
  simp only [ev] at he
  simp only [ev, evC, he]
  cases e with
  | nrm => exact ⟨h.h⟩
  | ret => exact ⟨h.h⟩
  | exit i =>
    have h : blkE id N E i t := h.h
    unfold blkE at h
    simp only [endB]
    split
    · rename_i e; rw [if_pos e] at h; exact ⟨h⟩
    · rename_i e; rw [if_neg e] at h; exact ⟨h⟩
theorem w_condT {x : Operand} {m : Md} (h : opnd X.P s 0 x = some (.one m (.bool true))) (hs : s.drop (X.deadC fn (keyC x c c') true) = s1) (k : wpC (ev X pu fn c s1) N E R) : wpC (ev X pu fn (.cond x c c') s) N E R := by
  subst hs
  simp only [ev, evC, h, condF]
  exact k
theorem w_condF {x : Operand} {m : Md} (h : opnd X.P s 0 x = some (.one m (.bool false))) (hs : s.drop (X.deadC fn (keyC x c c') false) = s1) (k : wpC (ev X pu fn c' s1) N E R) : wpC (ev X pu fn (.cond x c c') s) N E R := by
  subst hs
  simp only [ev, evC, h, condF]
  exact k
theorem w_cT {x : Operand} {m : Md} {b : Bool} (hb : b = true) (h : opnd X.P s 0 x = some (.one m (.bool b))) (hs : s.drop (X.deadC fn (keyC x c c') true) = s1) (k : wpC (ev X pu fn c s1) N E R) : wpC (ev X pu fn (.cond x c c') s) N E R := by subst hb; exact w_condT h hs k
theorem w_cF {x : Operand} {m : Md} {b : Bool} (hb : b = false) (h : opnd X.P s 0 x = some (.one m (.bool b))) (hs : s.drop (X.deadC fn (keyC x c c') false) = s1) (k : wpC (ev X pu fn c' s1) N E R) : wpC (ev X pu fn (.cond x c c') s) N E R := by subst hb; exact w_condF h hs k
theorem w_oe {q : Ex × St} (h : q = (.exit i, s)) (k : E i s) : wpC (some q) N E R := by subst h; exact ⟨k⟩
theorem w_or {q : Ex × St} (h : q = (.ret, s)) (k : R s) : wpC (some q) N E R := by subst h; exact ⟨k⟩
theorem w_join {α : Type} {q : Option (Ex × St)} (S : α → St) (P : α → Prop) (h1 : ∀ x, P x → N (S x)) (h2 : wpC q (fun t => ∃ x, P x ∧ t = S x) E R) : wpC q N E R :=
  wp_mono h2 (fun t ⟨x, hx, e⟩ => by subst e; exact h1 x hx) (fun _ _ h => h) (fun _ h => h)
theorem bool_cases (b : Bool) : b = true ∨ b = false := by cases b <;> simp
theorem congr2 {α β γ : Type} (f : α → β → γ) {a a' : α} {b b' : β} (h : a = a') (k : b = b') : f a b = f a' b' := by subst h k; rfl
theorem w_reg (s1 : St) {ops : Array Oper} (h : endR (X.dead fn id) (evOps X pu (evS X) fn id ops.toList 0 ops.toList (some s)) = some (.nrm, s1)) (k : N s1) : wpC (ev X pu fn (.region id ops false) s) N E R := by
  simp only [ev, evC, Bool.false_eq_true, if_false, h]
  exact ⟨k⟩

/-! regions, step by step -/
def OpsW (X : Cx) (pu : Pu) (fn id : Nat) (ops : List Oper) (i : Nat) (s s2 : St) : Prop := ∃ t, evOps X pu (evS X) fn id ops i (ops.drop i) (some s) = some t ∧ t.drop (X.dead fn id) = s2
theorem w_regO {ops : Array Oper} (s2 : St) (h : OpsW X pu fn id ops.toList 0 s s2) (k : N s2) : wpC (ev X pu fn (.region id ops false) s) N E R := by
  obtain ⟨t, h1, h2⟩ := h
  refine w_reg s2 ?_ k
  rw [List.drop_zero] at h1
  rw [h1, ← h2]; rfl
theorem o_end (h : Nat.ble ops.length i = true) (hs : s.drop (X.dead fn id) = s2) : OpsW X pu fn id ops i s s2 := by
  refine ⟨s, ?_, hs⟩
  rw [List.drop_eq_nil_of_le (Nat.le_of_ble_eq_true h)]; rfl
theorem o_eq (h : s = s') (k : OpsW X pu fn id ops i s' s2) : OpsW X pu fn id ops i s s2 := by subst h; exact k
theorem o_eq2 (h : s' = s2) (k : OpsW X pu fn id ops i s s') : OpsW X pu fn id ops i s s2 := by subst h; exact k
theorem evOps_append {l' : List Oper} : ∀ (l : List Oper) (i : Nat) (q : Option St), evOps X pu (evS X) fn id ops i (l ++ l') q = evOps X pu (evS X) fn id ops (i + l.length) l' (evOps X pu (evS X) fn id ops i l q)
  | [], i, q => by cases q <;> simp [evOps]
  | o :: l, i, none => by
    rw [List.cons_append]
    cases l' <;> rfl
  | o :: l, i, some t => by
    rw [List.cons_append]
    simp only [evOps]
    rw [evOps_append l]
    simp only [List.length_cons]
    congr 1; omega
theorem o_run (j : Nat) (s1 : St) (hj : Nat.ble (i + j) ops.length = true) (h : evOps X pu (evS X) fn id ops i ((ops.drop i).take j) (some s) = some s1) (k : OpsW X pu fn id ops (i + j) s1 s2) : OpsW X pu fn id ops i s s2 := by
  obtain ⟨t, h1, h2⟩ := k
  refine ⟨t, ?_, h2⟩
  have hj := Nat.le_of_ble_eq_true hj
  have e : ops.drop i = (ops.drop i).take j ++ ops.drop (i + j) := by rw [← List.drop_drop, List.take_append_drop]
  rw [e, evOps_append, h]
  have : ((ops.drop i).take j).length = j := by simp; omega
  rw [this]; exact h1
theorem o_one (s1 : St) (h : stepI X pu (evS X) fn id ops i (some s) = some s1) (k : OpsW X pu fn id ops (i + 1) s1 s2) : OpsW X pu fn id ops i s s2 := by
  obtain ⟨t, h1, h2⟩ := k
  refine ⟨t, ?_, h2⟩
  simp only [stepI] at h
  split at h
  · rename_i o ho
    have hlt := (List.getElem?_eq_some_iff.1 ho)
    have e : ops.drop i = o :: ops.drop (i + 1) := by rw [List.drop_eq_getElem_cons hlt.1, hlt.2]
    rw [e]
    simp only [evOps, h]
    exact h1
  · cases h

/-! drawn regions -/
def SchW (X : Cx) (pu : Pu) (st : Bool) (fn id : Nat) (ops : List Oper) (sch : Sch) (s s2 : St) : Prop := ∃ t, evSch X pu st (evS X) fn id ops sch (some s) = some t ∧ t.drop (X.dead fn id) = s2
theorem w_regD {ops : Array Oper} (sch : Sch) (hsch : X.sch fn id = sch) (s2 : St) (h : SchW X ⟨pu.ob || X.rpu fn id, pu.lc ++ X.rlc fn id⟩ (X.rst fn id) fn id ops.toList sch s s2) (k : N s2) : wpC (ev X pu fn (.region id ops true) s) N E R := by
  subst hsch
  obtain ⟨t, h1, h2⟩ := h
  simp only [ev, evC, if_true, h1, endR, h2]
  exact ⟨k⟩
theorem d_end (hs : s.drop (X.dead fn id) = s2) : SchW X pu st fn id ops .done s s2 := ⟨s, rfl, hs⟩
theorem d_take {n : Sch} (s1 : St) (h : takeI X pu st (evS X) fn id ops i (some s) = some s1) (k : SchW X pu st fn id ops n s1 s2) : SchW X pu st fn id ops (.take i n) s s2 := by
  obtain ⟨t, h1, h2⟩ := k
  exact ⟨t, by simp only [evSch, h]; exact h1, h2⟩
theorem d_last {n : Sch} (s1 : St) (h : stepI X pu (evS X) fn id ops i (some s) = some s1) (k : SchW X pu st fn id ops n s1 s2) : SchW X pu st fn id ops (.last i n) s s2 := by
  obtain ⟨t, h1, h2⟩ := k
  exact ⟨t, by simp only [evSch, h]; exact h1, h2⟩
theorem q_in {sch : Sch} (sF : St) (h : evSch X pu st (evS X) fn id ops sch (some s) = some sF) (hs : sF.drop (X.dead fn id) = s2) : SchW X pu st fn id ops sch s s2 := ⟨sF, h, hs⟩
theorem q_end (h : s = s') : evSch X pu st (evS X) fn id ops .done (some s) = some s' := by subst h; rfl
theorem q_take {n : Sch} (s1 : St) (h : takeI X pu st (evS X) fn id ops i (some s) = some s1) (k : evSch X pu st (evS X) fn id ops n (some s1) = some s2) : evSch X pu st (evS X) fn id ops (.take i n) (some s) = some s2 := by
  simp only [evSch, h]; exact k
theorem q_last {n : Sch} (s1 : St) (h : stepI X pu (evS X) fn id ops i (some s) = some s1) (k : evSch X pu st (evS X) fn id ops n (some s1) = some s2) : evSch X pu st (evS X) fn id ops (.last i n) (some s) = some s2 := by
  simp only [evSch, h]; exact k
theorem q_alt {n r : Sch} (s1 : St) (h : stepI X pu (evS X) fn id ops i (some s) = some s1) (k : evSch X pu st (evS X) fn id ops n (some s1) = some s2) (k2 : evSch X pu st (evS X) fn id ops r (some s) = some s2) : evSch X pu st (evS X) fn id ops (.alt i n r) (some s) = some s2 := by
  simp only [evSch, h, k, k2]; exact agree_same _
theorem eq_via {d : List Nat × List Nat} (h : s = s') (k : s'.drop d = s2) : s.drop d = s2 := by subst h; exact k
theorem d_eq {sch : Sch} (h : s = s') (k : SchW X pu st fn id ops sch s' s2) : SchW X pu st fn id ops sch s s2 := by subst h; exact k
/-- a call, told by its contract -/
theorem st_call {Y : Option St} {f : FuncId} {args : List TV} {H H' : Heap} {v : TV} {d : Option Tmp} {fz pure own : Bool} (s0 : St) (hc : evS X f args H = some (v, H')) (hr : Y = retF fz pure own d s0 (evS X f args H)) (hs : retF fz pure own d s0 (some (v, H')) = some s1) : Y = some s1 := by
  rw [hr, hc, hs]
/-- loads from objects -/
theorem ld_obj {ty : TypeId} {j o N k n : Nat} {cs : List MC} {agg : Bool} {v : TV} (V : hget s.h j o N = some cs) (hT : isAggT X.P ty = some agg) (hn : szOf X.P ty = some n) (hk : Nat.ble (k + n) N = true) (hv : mkT agg (((cs.drop k).take n).map fun c => (c.1.cpH, c.2)) = some v) :
    evLoad X.P .cp ty (.obj j (o + k)) s = some (v, s) := by
  have h1 := hget_sub V k n (Nat.le_of_ble_eq_true hk)
  unfold hget at h1
  split at h1
  · rename_i c hc
    simp only [evLoad, hT, hn, hc, ldObj, h1, mkV, hv]
  · cases h1
theorem st_ld {Y : Option St} (s : St) (ty : TypeId) {j o N : Nat} {cs : List MC} (V : hget s.h j o N = some cs) (k n : Nat) (agg : Bool) (v : TV) (d : Option Tmp) (hr : Y = setQ d (evLoad X.P .cp ty (.obj j (o + k)) s)) (hT : isAggT X.P ty = some agg) (hn : szOf X.P ty = some n) (hk : Nat.ble (k + n) N = true) (hv : mkT agg (((cs.drop k).take n).map fun c => (c.1.cpH, c.2)) = some v) (hs : setT s d v = s1) : Y = some s1 := by
  rw [hr, ld_obj V hT hn hk hv, ← hs]; rfl
theorem st_ldT {Y : Option St} (s : St) (ty : TypeId) {j o N : Nat} {cs : List MC} {h2 : Heap} (V : hget s.h j o N = some cs) (k n : Nat) (agg : Bool) (v : TV) (d : Option Tmp) (hr : Y = setQ d (evLoad X.P .take ty (.obj j (o + k)) s)) (hT : isAggT X.P ty = some agg) (hn : szOf X.P ty = some n) (hk : Nat.ble (k + n) N = true) (hv : mkT agg ((cs.drop k).take n) = some v)
    (hh : hset s.h j (o + k) (((cs.drop k).take n).map leaveC) = h2) (hs : setT ({ s with h := h2 }.kill isBh noAV) d v = s1) : Y = some s1 := by
  have h1 := hget_sub V k n (Nat.le_of_ble_eq_true hk)
  unfold hget at h1
  split at h1
  · rename_i c hc
    rw [hset_eq hc] at hh
    rw [hr]
    simp only [evLoad, hT, hn, hc, ldObj, h1, mkV, hv, setQ]
    rw [hh, hs]
  · cases h1
theorem st_ldP {Y : Option St} (s : St) (ty : TypeId) {j o N : Nat} {cs : List MC} (V : hget s.h j o N = some cs) (k e z : Nat) (xs : List (List AV)) (d : Option Tmp) (hr : Y = setQ d (evLoad X.P .place ty (.obj j (o + k)) s)) (hT : isAggT X.P ty = some false) (hn : szOf X.P ty = some 1) (hk : Nat.ble (k + 1) N = true) (hv : (cs.drop k).take 1 = [(.own (e + 1), .sl z xs)])
    (hs : setT s d (.one .top (.at_ (.obj j (o + k)) 0 xs.length)) = s1) : Y = some s1 := by
  have h1 := hget_sub V k 1 (Nat.le_of_ble_eq_true hk)
  rw [hv] at h1
  unfold hget at h1
  split at h1
  · rename_i c hc
    rw [hr, ← hs]
    simp only [evLoad, hT, hn, hc, ldObj, h1]
    rfl
  · cases h1
/-- stores into objects -/
def stKill (j off : Nat) (new old : List MC) (s : St) : St :=
  let s2 := if anyOwned new then s.kill isBl noAV else s
  if anySlice new || anySlice old then s2.kill noMd (rootedObjIn j off new.length) else s2
theorem st_st {lc : List Nat} {Y : Option St} (s : St) (ty : TypeId) {j o N : Nat} {cs : List MC} {h2 : Heap} (V : hget s.h j o N = some cs) (k n : Nat) (v : TV) (hr : Y = evStore X.P ⟨false, lc⟩ ty (.obj j (o + k)) v s) (hn : szOf X.P ty = some n) (hk : Nat.ble (k + n) N = true) (hl : v.cells.length = n) (hv : noTup v = true) (hkp : v.cells.all keepC = true)
    (hh : hset s.h j (o + k) v.cells = h2) (hs : stKill j (o + k) v.cells ((cs.drop k).take n) { s with h := h2 } = s1) : Y = some s1 := by
  have h1 := hget_sub V k n (Nat.le_of_ble_eq_true hk)
  unfold hget at h1
  split at h1
  · rename_i c hc
    rw [hset_eq hc] at hh
    rw [hr]
    simp only [evStore, hn, hl, hv, and_self, if_true, hc, stObj, h1, hkp, Bool.not_true, Bool.or_false, Bool.false_eq_true, if_false]
    rw [hh]
    subst hl
    exact congrArg some hs
  · cases h1
/-- elements -/
theorem ix_sl {α : Type} {P : Program} {t e : TypeId} {z : Nat} {xs : List α} {En : α → List AV} {n : Int} {x : α} {m : Md} (hx : gi xs n = some x) (ht : P.underlying t = some (.slice e)) (hz : szOf P e = some z) :
    evIndexAddr P s t (.one m (.sl z (xs.map En))) n = some (.one .top (.rd m.cp m.inner.cp (En x) 0)) := by
  obtain ⟨h0, h1⟩ := gi_inv hx
  simp only [evIndexAddr, ht, hz, h0, true_and, if_true, List.getElem?_map, h1, Option.map_some, sc]
theorem st_ix {α : Type} {Y : Option St} (s : St) (t e : TypeId) (z : Nat) {xs : List α} {n : Int} {x : α} (hx : gi xs n = some x) (En : α → List AV) (m : Md) (d : Option Tmp) (hr : Y = setO s d (evIndexAddr X.P s t (.one m (.sl z (xs.map En))) n)) (ht : X.P.underlying t = some (.slice e)) (hz : szOf X.P e = some z)
    (hs : setT s d (.one .top (.rd m.cp m.inner.cp (En x) 0)) = s1) : Y = some s1 := by
  rw [hr, ix_sl hx ht hz, ← hs]; rfl
/-- an element's place, in a slice that is held -/
theorem st_ixA {α : Type} {Y : Option St} (s : St) (t e : TypeId) (z : Nat) {xs : List α} {n : Int} {x : α} (hx : gi xs n = some x) (En : α → List AV) (r : Rt) (lo len : Nat) (q : Nat) (d : Option Tmp) (hr : Y = setO s d (evIndexAddr X.P s t (.one .top (.at_ r lo len)) n)) (ht : X.P.underlying t = some (.slice e)) (hz : szOf X.P e = some z)
    (hat : atRoot s r = some (.own (q + 1), .sl z (xs.map En))) (hlo : lo = 0) (hlen : len = xs.length) (hs : setT s d (.one .top (.el r n.toNat 0)) = s1) : Y = some s1 := by
  obtain ⟨h0, h1⟩ := gi_inv hx
  have h2 := (List.getElem?_eq_some_iff.1 h1).1
  subst hlo hlen
  rw [hr, ← hs]
  simp only [evIndexAddr, ht, hz, hat, atEl]
  rw [if_pos ⟨h0, by omega, trivial, by simpa using h2⟩]
  simp [setO, sc]
theorem at_obj {j o N k : Nat} {cs : List MC} {c : MC} (V : hget s.h j o N = some cs) (hk : Nat.ble (k + 1) N = true) (hv : (cs.drop k).take 1 = [c]) : atRoot s (.obj j (o + k)) = some c := by
  have h1 := hget_sub V k 1 (Nat.le_of_ble_eq_true hk)
  rw [hv] at h1
  unfold hget at h1
  split at h1
  · rename_i c' hc
    show cellOf (o + k) s.h[j]? = _
    rw [hc]
    obtain ⟨_, h2, h3⟩ := cellsAt_inv h1
    exact (by simpa using (h3 0 c rfl).2 : c'[o + k]? = some c)
  · cases h1
/-- how many -/
theorem st_len {α : Type} {Y : Option St} (s : St) (xs : List α) (En : α → List AV) (d : Option Tmp) (hr : Y = some (setT s d (.one .top (.int .i64 ((xs.map En).length : Nat))))) (hs : setT s d (.one .top (.int .i64 (xs.length : Nat))) = s1) : Y = some s1 := by
  rw [List.length_map] at hr
  rw [hr, hs]
/-- append -/
theorem st_app {α : Type} {Y : Option St} (s : St) (zb : Nat) {xs ys zs : List α} (hx : app zb xs ys = some zs) (aty bty e : TypeId) (z q : Nat) (ze : List MC) (my : Md) (En : α → List AV) (dp : Nat) (d : Option Tmp) (hr : Y = setQ d (fstO s (evAppend X.P aty bty [.one (.own (q + 1)) (.sl z (xs.map En)), .one my (.sl z (ys.map En))])))
    (ht : X.P.underlying aty = some (.slice e)) (hz : zeroOf X.P e = some ze) (hb : byOf X.P e = some zb) (hl : z = ze.length) (h0 : Nat.beq z 0 = false) (hb0 : Nat.beq zb 0 = false) (hbt : isSliceT X.P bty = true) (hd : depthIn my (ys.map En) = some dp) (hlen : ∀ x, (En x).length = z)
    (hs : setT s d (.one (.own (min q dp + 1)) (.sl z (zs.map En))) = s1) : Y = some s1 := by
  obtain ⟨k1, rfl⟩ := app_inv hx
  have e1 : z ≠ 0 := fun e => by subst e; cases h0
  have e2 : zb ≠ 0 := fun e => by subst e; cases hb0
  rw [hr, ← hs]
  simp only [evAppend, ht, hz, hb]
  rw [if_pos ⟨hl, trivial, e1, e2, hbt⟩, hd]
  simp only [appendF]
  rw [if_pos ⟨by simpa using k1, by simp [lenIs, hlen]⟩]
  simp [fstO, setQ]
theorem st_appZ {α : Type} {Y : Option St} (s : St) (zb : Nat) {xs ys zs : List α} (hx : app zb xs ys = some zs) (aty bty e : TypeId) (z q : Nat) (ze : List MC) (my : Md) (En : α → List AV) (dp : Nat) (d : Option Tmp) (hr : Y = fzO true d (setQ d (fstO s (evAppend X.P aty bty [.one (.own (q + 1)) (.sl z (xs.map En)), .one my (.sl z (ys.map En))]))))
    (ht : X.P.underlying aty = some (.slice e)) (hz : zeroOf X.P e = some ze) (hb : byOf X.P e = some zb) (hl : z = ze.length) (h0 : Nat.beq z 0 = false) (hb0 : Nat.beq zb 0 = false) (hbt : isSliceT X.P bty = true) (hd : depthIn my (ys.map En) = some dp) (hlen : ∀ x, (En x).length = z)
    (hs : fzD d (setT s d (.one (.own (min q dp + 1)) (.sl z (zs.map En)))) = s1) : Y = some s1 := by
  have := st_app (X := X) (Y := setQ d (fstO s (evAppend X.P aty bty [.one (.own (q + 1)) (.sl z (xs.map En)), .one my (.sl z (ys.map En))]))) s zb hx aty bty e z q ze my En dp d rfl ht hz hb hl h0 hb0 hbt hd hlen rfl
  rw [hr, this, ← hs]; rfl
theorem depth_flat {α : Type} {xs : List α} {En : α → List AV} {m : Md} (hm : depthIn m [] = some 9) (h : ∀ x, (En x).all (fun a => a.scalar) = true) : depthIn m (xs.map En) = some 9 := by
  have hf : flatEls (xs.map En) = true := by
    simp [flatEls]
    intro x _ a ha
    exact List.all_eq_true.1 (h x) a ha
  unfold depthIn at hm ⊢
  split
  · exact hm
  · exact hm
  · rw [if_pos hf]
theorem ev_shl {P : Program} {ty : TypeId} {x y : Operand} {m m' : Md} {k k' : IntKind} {a b : Int} : evBin P .shl ty x y (some (.one m (.int k a))) (some (.one m' (.int k' b))) = (shlI k a b).map fun n => .one .top (.int k n) := by
  rw [bin_shl]; unfold shlI; split <;> rfl
theorem ev_shr {P : Program} {ty : TypeId} {x y : Operand} {m m' : Md} {k k' : IntKind} {a b : Int} : evBin P .shr ty x y (some (.one m (.int k a))) (some (.one m' (.int k' b))) = (shrI k a b).map fun n => .one .top (.int k n) := by
  rw [bin_shr]; unfold shrI; split <;> rfl
theorem st_binI {Y : Option St} (s : St) (k : IntKind) {q : Option Int} {n : Int} (hq : q = some n) {Z : Option TV} (hw : Z = q.map fun n => .one .top (.int k n)) (d : Option Tmp) (hr : Y = setO s d Z) (hs : setT s d (.one .top (.int k n)) = s1) : Y = some s1 := by
  subst hq; rw [hr, hw, ← hs]; rfl
theorem st_bin {Y : Option St} (s : St) {Z W : Option TV} {v : TV} (hw : Z = W) (hz : W = some v) (d : Option Tmp) (hr : Y = setO s d Z) (hs : setT s d v = s1) : Y = some s1 := by
  subst hw hz; rw [hr, ← hs]; rfl
theorem nil_eql {P : Program} {ty : TypeId} {x y : Operand} {m m' : Md} (p : Ptr) (h0 : evBin P .eql ty x y (some (.one m .nilp)) (some (.one m' .nilp)) = some (.one .top (.bool true))) (h1 : ptrEq P .eql ty = some (.one .top (.bool false))) :
    evBin P .eql ty x y (some (.one m p.av)) (some (.one m' .nilp)) = some (.one .top (.bool p.isNil)) := by
  cases p with
  | nil => exact h0
  | «at» i o => exact h1
/-! loops -/
theorem w_loop {σ ρ : Type} (enc : σ → St) (out : ρ → Ex × St) {body : σ → Option (σ ⊕ ρ)} {r : ρ} {x0 : σ} (hl : loopO body x0 = some r) (hs : s = enc x0)
    (hb : ∀ x o, body x = some o → wpC (ev X pu fn c (enc x)) (fun t => ∃ y, o = .inl y ∧ t = enc y) (fun i t => ∃ y, o = .inr y ∧ out y = (.exit i, t)) (fun t => ∃ y, o = .inr y ∧ out y = (.ret, t)))
    (hk : wpC (some (out r)) N E R) : wpC (ev X pu fn (.loop c) s) N E R := by
  subst hs
  obtain ⟨k, hk'⟩ := loopO_inv hl
  have main : ∀ k x, loopK body k x = some r → iterS (ev X pu fn c) (enc x) = some (out r) := by
    intro k
    induction k with
    | zero => intro x h; cases h
    | succ k ih =>
      intro x h
      simp only [loopK] at h
      split at h
      · rename_i x' hx
        obtain ⟨e, t, he, hw⟩ := wp_some (hb x _ hx)
        cases e with
        | nrm =>
          obtain ⟨y, e1, e2⟩ : ∃ y, Sum.inl x' = Sum.inl y ∧ t = enc y := hw.h
          cases e1; subst e2
          exact iterS_nrm he (ih _ h)
        | exit i =>
          obtain ⟨y, e1, e2⟩ : ∃ y, Sum.inl x' = Sum.inr y ∧ out y = (.exit i, t) := hw.h
          cases e1
        | ret =>
          obtain ⟨y, e1, e2⟩ : ∃ y, Sum.inl x' = Sum.inr y ∧ out y = (.ret, t) := hw.h
          cases e1
      · rename_i r' hx
        cases h
        obtain ⟨e, t, he, hw⟩ := wp_some (hb x _ hx)
        cases e with
        | nrm =>
          obtain ⟨y, e1, e2⟩ : ∃ y, Sum.inr r = Sum.inl y ∧ t = enc y := hw.h
          cases e1
        | exit i =>
          obtain ⟨y, e1, e2⟩ : ∃ y, Sum.inr r = Sum.inr y ∧ out y = (.exit i, t) := hw.h
          cases e1
          rw [e2]
          exact iterS_out he (by simp)
        | ret =>
          obtain ⟨y, e1, e2⟩ : ∃ y, Sum.inr r = Sum.inr y ∧ out y = (.ret, t) := hw.h
          cases e1
          rw [e2]
          exact iterS_out he (by simp)
      · cases h
  have := main k x0 hk'
  show wpC (iterS (ev X pu fn c) (enc x0)) N E R
  rw [this]
  exact hk
/-! what is told of a program beside its text -/
def h0 : Nat → Hint := fun _ => {}
def hl (l : List Hint) (i : Nat) : Hint := l.getD i {}
structure RI where
  h : Nat → Hint := h0
  dead : List Nat × List Nat := ([], [])
  sch : Sch := .done
  rpu : Bool := false
  rlc : List Nat := []
  rst : Bool := false
structure FI where
  pure : Bool := false
  frz : Bool := false
  two : Bool := false
  regs : List (Nat × RI) := []
  conds : List ((Nat × Nat × Nat) × (List Nat × List Nat) × (List Nat × List Nat)) := []
def lkR : List (Nat × RI) → Nat → RI
  | [], _ => {}
  | (k, r) :: l, j => bif Nat.beq k j then r else lkR l j
def lkC : List ((Nat × Nat × Nat) × (List Nat × List Nat) × (List Nat × List Nat)) → Nat × Nat × Nat → Bool → List Nat × List Nat
  | [], _, _ => ([], [])
  | (k, a, b) :: l, j, w => bif Nat.beq k.1 j.1 && (Nat.beq k.2.1 j.2.1 && Nat.beq k.2.2 j.2.2) then (bif w then a else b) else lkC l j w
def mkX (P : Program) (fi : Nat → FI) : Cx := { P := P, sch := fun f r => (lkR (fi f).regs r).sch, rpu := fun f r => (lkR (fi f).regs r).rpu, rlc := fun f r => (lkR (fi f).regs r).rlc, rst := fun f r => (lkR (fi f).regs r).rst, hint := fun f r => (lkR (fi f).regs r).h, dead := fun f r => (lkR (fi f).regs r).dead, deadC := fun f t w => lkC (fi f).conds t w, pure := fun f => (fi f).pure, frz := fun f => (fi f).frz, two := fun f => (fi f).two }
/-! whole functions -/
def Fin (X : Cx) (f : Nat) (h : Heap) (rs : List ResultVar) (r : TV × Heap) (s : St) : Prop := frzR (X.frz f) (bodyF X.P (X.pure f) h rs (some (.ret, s))) = some r
theorem w_fun {f : FuncId} {args : List TV} {h : Heap} {r} {fu : Func} {c : Code} (hf : X.P.funcs[f]? = some fu) (hc : fu.body = some c) (hok : okBody X f fu c = true) (b : Bool) (hp : X.pure f = b) {s0 : St} (hs : { t := number 0 args, l := [], h := h } = s0)
    (hr : wpC (ev X ⟨b, []⟩ f c s0) (Fin X f h fu.results.toList r) (fun _ _ => False) (Fin X f h fu.results.toList r)) : evS X f args h = some r := by
  subst hs hp
  refine evS_fun hf hc hok ?_
  obtain ⟨e, t, he, hw⟩ := wp_some hr
  simp only [ev] at he
  rw [he]
  cases e with
  | nrm => exact hw.h
  | exit i => exact hw.h.elim
  | ret => exact hw.h
theorem fin_pure {f : Nat} {h : Heap} {rs : List ResultVar} {v v' : TV} (hv : results X.P rs s = some v) (hp : X.pure f = true) (hh : s.h.length = h.length) (hz : frzIf (X.frz f) v = v') : Fin X f h rs (v', h) s := by
  unfold Fin
  simp only [bodyF, hv, hp, if_true, hh, frzR, hz]
theorem fin_imp {f : Nat} {h : Heap} {rs : List ResultVar} {v v' : TV} (hv : results X.P rs s = some v) (hp : X.pure f = false) (hz : frzIf (X.frz f) v = v') : Fin X f h rs (v', s.h) s := by
  unfold Fin
  simp only [bodyF, hv, hp, Bool.false_eq_true, if_false, frzR, hz]
abbrev EN := Nat × TV
abbrev EB := Nat × List MC
/-- an array's cells -/
def arM (k : IntKind) (n : Nat) {N : Nat} (a : Arr N Int) : List MC := (List.range n).map fun j => (.top, .int k (a.g j))
/-! functions that ask whether a slice is nil -/
section
variable {R : Type} {fin k : St → Option R} {r : R} {c' : Code}
theorem app_nil {α : Type} {zb : Nat} {ra : List α} (h : app zb ([] : List α) [] = some ra) : ra = [] := by
  obtain ⟨_, rfl⟩ := app_inv h; rfl
theorem k_seq (h : evK X pu fn fin c (fun s => evK X pu fn fin c' k s) s = some r) : evK X pu fn fin (.seq c c') k s = some r := h
theorem k_region {ops : Array Oper} (h : evOpsK X pu fn id ops.toList 0 ops.toList k s = some r) : evK X pu fn fin (.region id ops false) k s = some r := h
theorem k_step {ops : List Oper} {i : Nat} {o : Oper} {l : List Oper} (s1 : St) (h0 : nilOp X.P o = none) (h1 : stepA X pu call0 (X.hint fn id i) o s (wantA ops s o.guard) = some s1) (h : evOpsK X pu fn id ops (i + 1) l k s1 = some r) : evOpsK X pu fn id ops i (o :: l) k s = some r := by
  simp only [evOpsK, h0, h1]; exact h
theorem k_done {ops : List Oper} {i : Nat} (s2 : St) (h : s.drop (X.dead fn id) = s2) (hk : k s2 = some r) : evOpsK X pu fn id ops i [] k s = some r := by
  subst h; exact hk
theorem k_nil {ops : List Oper} {i : Nat} {o : Oper} {l : List Oper} {d t : Nat} {x : Operand} {m : Md} {z : Nat} {xs : List (List AV)} (sT sF : St) (h0 : nilOp X.P o = some (d, t, x)) (h1 : opnd X.P s t x = some (.one m (.sl z xs)))
    (e1 : setT s (some d) (sc (.bool true)) = sT) (e2 : setT s (some d) (sc (.bool false)) = sF) (h2 : xs = [] → evOpsK X pu fn id ops (i + 1) l k sT = some r) (h3 : evOpsK X pu fn id ops (i + 1) l k sF = some r) : evOpsK X pu fn id ops i (o :: l) k s = some r := by
  subst e1 e2
  simp only [evOpsK, h0, h1]
  cases xs with
  | nil => simp [agreeR, h2 rfl, h3]
  | cons a l => exact h3
theorem k_condT {x : Operand} {m : Md} (h : opnd X.P s 0 x = some (.one m (.bool true))) (hs : s.drop (X.deadC fn (keyC x c c') true) = s1) (hk : evK X pu fn fin c k s1 = some r) : evK X pu fn fin (.cond x c c') k s = some r := by
  subst hs; simp only [evK, h]; exact hk
theorem k_condF {x : Operand} {m : Md} (h : opnd X.P s 0 x = some (.one m (.bool false))) (hs : s.drop (X.deadC fn (keyC x c c') false) = s1) (hk : evK X pu fn fin c' k s1 = some r) : evK X pu fn fin (.cond x c c') k s = some r := by
  subst hs; simp only [evK, h]; exact hk
theorem k_ret (h : fin s = some r) : evK X pu fn fin .ret k s = some r := h
theorem k_skip (h : k s = some r) : evK X pu fn fin .skip k s = some r := h
theorem k_fin {f : Nat} {h : Heap} {rs : List ResultVar} {v : TV} (hv : results X.P rs s = some v) (hp : X.pure f = true) (hh : s.h.length = h.length) : bodyF X.P (X.pure f) h rs (some (.ret, s)) = some (v, h) := by
  simp only [bodyF, hv, hp, if_true, hh]
theorem k_fun {f : FuncId} {args : List TV} {h : Heap} {r} {fu : Func} {c : Code} (hf : X.P.funcs[f]? = some fu) (hc : fu.body = some c) (hno : okBody X f fu c = false) (hok : okBody2 X f fu c = true) (hz : X.frz f = false) {s0 : St} (hs : { t := number 0 args, l := [], h := h } = s0)
    (hr : evK X ⟨X.pure f, []⟩ f (fun s => bodyF X.P (X.pure f) h fu.results.toList (some (.ret, s))) c (fun s => bodyF X.P (X.pure f) h fu.results.toList (some (.nrm, s))) s0 = some r) : evS X f args h = some r := by
  subst hs
  refine evS_body ?_
  unfold evBody
  rw [hf]
  simp only [hc, hno, Bool.false_eq_true, if_false]
  unfold evBody2
  rw [if_pos hok, hr, hz]
  rfl
end
end
end Go.Proofs.Abs
/- Steps at lists and arrays. -/
namespace Go.Proofs.Abs
open Go
set_option linter.unusedVariables false
set_option linter.unusedSimpArgs false
section
variable {X : Cx} {s1 : St} {α : Type}
/-- a bound of a slice expression -/
def bndIs (P : Program) (s : St) (d : Int) (x : Option Operand) (n : Int) : Prop := match x with
  | none => n = d
  | some x => (opnd P s 0 x).bind natOf = some n
theorem bound_of {P : Program} {s : St} {d hi : Nat} {x : Option Operand} {n : Int} (h : bndIs P s d x n) (h0 : 0 ≤ n) (h1 : n ≤ hi) : bound P s d hi x = some n.toNat := by
  cases x with
  | none =>
    have h : n = d := h
    subst h; simp [bound]
  | some x =>
    have h : (opnd P s 0 x).bind natOf = some n := h
    simp only [bound]
    cases hv : opnd P s 0 x with
    | none => rw [hv] at h; cases h
    | some v =>
      rw [hv] at h
      have h : natOf v = some n := h
      simp [h, h0, h1]
theorem st_cut {Y : Option St} (s : St) (t e z : Nat) {xs ys : List α} {lo hi : Int} (hy : cut xs lo hi = some ys) (En : α → List AV) (m : Md) (lo' hi' : Option Operand) (d : Option Tmp) (hr : Y = setQ d (evSlice X.P t (.one m (.sl z (xs.map En))) lo' hi' s)) (ht : X.P.underlying t = some (.slice e)) (hz : szOf X.P e = some z) (hm : decide (m = .top) = false)
    (hlo : bndIs X.P s 0 lo' lo) (hhi : bndIs X.P s xs.length hi' hi) (hs : setT (if m.owned then s.kill isB noAV else s) d (.one m (.sl z (ys.map En))) = s1) : Y = some s1 := by
  obtain ⟨h0, h1, h2, rfl⟩ := cut_inv hy
  have hm' : m ≠ .top := by simpa using hm
  rw [hr, ← hs]
  simp only [evSlice, ht, hz]
  rw [if_pos ⟨trivial, hm'⟩, bound_of (n := lo) hlo h0 (by simp; omega), bound_of (n := hi) (by simpa using hhi) (by omega) (by simpa using h2)]
  simp only [subF]
  rw [if_pos (by omega)]
  simp [setQ, List.map_take, List.map_drop]
theorem setAt_one {α : Type} {c : List α} {k : Nat} {x : α} (h : k + 1 ≤ c.length) : setAt c k [x] = c.set k x := by
  simp only [setAt, List.length_cons, List.length_nil]
  rw [List.set_eq_take_append_cons_drop, if_pos (by omega)]
  simp
/-! elements of a slice that is held -/
theorem el_at {xs : List α} {i : Int} {x : α} {β : Type} {En : α → β} (h : gi xs i = some x) : (xs.map En)[i.toNat]? = some (En x) := by
  rw [List.getElem?_map, (gi_inv h).2]; rfl
theorem el_put {xs ys : List α} {i : Int} {x : α} {β : Type} {En : α → β} (h : si xs i x = some ys) : (xs.map En).set i.toNat (En x) = ys.map En := by
  obtain ⟨_, _, rfl⟩ := si_inv h
  rw [List.map_set]
theorem root_obj {s : St} {j o N k : Nat} {cs : List MC} {c : MC} {h2 : Heap} (V : hget s.h j o N = some cs) (hk : Nat.ble (k + 1) N = true) (hh : hset s.h j (o + k) [c] = h2) : setRoot s (.obj j (o + k)) c = { s with h := h2 } := by
  have h1 := hget_sub V k 1 (Nat.le_of_ble_eq_true hk)
  unfold hget at h1
  split at h1
  · rename_i c' hc
    obtain ⟨h3, _, _⟩ := cellsAt_inv h1
    rw [hset_eq hc, setAt_one (by omega)] at hh
    simp only [setRoot, hc, hh]
  · cases h1
theorem st_stE {Y : Option St} (s s' : St) (pu : Pu) (ty : TypeId) (r : Rt) (ix off n q : Nat) (L : List (List AV)) (x x2 : List AV) (L2 : List (List AV)) (z : Nat) (v : TV) (hr : Y = evStore X.P pu ty (.el r ix off) v s) (hn : szOf X.P ty = some n) (hl : v.cells.length = n) (hv : noTup v = true) (hpu : (pu.ob && rootedObj (.el r 0 0)) = false) (hat : atRoot s r = some (.own (q + 1), .sl z L)) (hL : L[ix]? = some x) (hk : (v.cells.all (elOk q) && Nat.ble (off + v.cells.length) x.length) = true)
    (hE : setAt x off (v.cells.map (·.2)) = x2) (hL2 : L.set ix x2 = L2) (hR : setRoot s r (.own (q + 1), .sl z L2) = s') (hs : killEl r (anyOwned v.cells) s' = s1) : Y = some s1 := by
  rw [hr, ← hs]
  simp only [Bool.and_eq_true] at hk
  simp only [evStore, hn, hl, hv, and_self, if_true, hat, stEl, hL]
  rw [if_pos ⟨by have := Nat.le_of_ble_eq_true hk.2; omega, hpu, hk.1⟩, hE, hL2, hR]
end
end Go.Proofs.Abs
/- Structs and arrays held against each other. -/
namespace Go.Proofs.Abs
open Go
set_option linter.unusedVariables false
set_option linter.unusedSimpArgs false
theorem pureP_bind {α β : Type} (P : Program) (m : Sem α) (f : α → Sem β) : pureP P (m.bind f) = (pureP P m).bind fun x => pureP P (f x) := by
  induction m with
  | pure a => rfl
  | program k ih => exact ih P
  | _ => rfl
def eqQs (P : Program) (g : TypeId → Value → Value → Option (List Bool)) (xs ys : Array Value) : List Field → Option (List Bool)
  | [] => some []
  | f :: r => if f.name = "_" then none else (pureP P (part f.type xs f.offset)).bind fun a => (pureP P (part f.type ys f.offset)).bind fun b => (g f.type a b).bind fun q => (eqQs P g xs ys r).map fun q' => q ++ q'
def eqQa (P : Program) (g : TypeId → Value → Value → Option (List Bool)) (e : TypeId) (z : Nat) (xs ys : Array Value) : List Nat → Option (List Bool)
  | [] => some []
  | i :: r => (pureP P (part e xs (i * z))).bind fun a => (pureP P (part e ys (i * z))).bind fun b => (g e a b).bind fun q => (eqQa P g e z xs ys r).map fun q' => q ++ q'
def eqQ (P : Program) : Nat → TypeId → Value → Value → Option (List Bool)
  | 0, _, _, _ => none
  | d + 1, t, x, y => match P.underlying t, x, y with
    | some (.struct fs), .agg xs, .agg ys => if P.stoodInHeld t then none else eqQs P (eqQ P d) xs ys fs.toList
    | some (.array n e), .agg xs, .agg ys => (pureP P (sizeOf e)).bind fun z => eqQa P (eqQ P d) e z xs ys (List.range n)
    | some .bool, .bool a, .bool b => some [a == b]
    | some (.int _), .int k a, .int k' b => if k = k' then some [a == b] else none
    | some .string, .string a, .string b => some [a == b]
    | _, _, _ => none
theorem eqQ_ok (P : Program) : ∀ (d : Nat) (t : TypeId) (x y : Value) qs, eqQ P d t x y = some qs → pureP P (Op.equalIn d t x y) = some (qs.all id)
  | 0, _, _, _, _, h => by simp [eqQ] at h
  | d + 1, t, x, y, qs, h => by
    have ih := eqQ_ok P d
    have hs : ∀ (xs ys : Array Value) (l : List Field) qs, eqQs P (eqQ P d) xs ys l = some qs →
        pureP P (do
          for f in l do
            if f.name ≠ "_" then
              if !(← Op.equalIn d f.type (← part f.type xs f.offset) (← part f.type ys f.offset)) then return false
          pure true : Sem Bool) = some (qs.all id) := by
      intro xs ys l
      induction l with
      | nil => intro qs h; simp [eqQs] at h; subst h; rfl
      | cons f r ihl =>
        intro qs h
        simp only [eqQs] at h
        split at h
        · cases h
        rename_i hn
        simp only [Option.bind_eq_some_iff, Option.map_eq_some_iff] at h
        obtain ⟨a, ha, b, hb, q, hq, q', hq', rfl⟩ := h
        have h1 := ih _ _ _ _ hq
        have h2 := ihl q' hq'
        simp only [List.forIn_cons, bind, ne_eq, hn, not_false_eq_true, if_true, pureP_bind, ha, hb, h1, Option.bind_some] at h2 ⊢
        cases hqa : q.all id with
        | false => simp [pureP, pure, List.all_append, hqa]
        | true => simp only [List.all_append, hqa, Bool.true_and]; exact h2
    have ha : ∀ (e : TypeId) (z : Nat) (xs ys : Array Value) (l : List Nat) qs, eqQa P (eqQ P d) e z xs ys l = some qs →
        pureP P (do
          for i in l do
            if !(← Op.equalIn d e (← part e xs (i * z)) (← part e ys (i * z))) then return false
          pure true : Sem Bool) = some (qs.all id) := by
      intro e z xs ys l
      induction l with
      | nil => intro qs h; simp [eqQa] at h; subst h; rfl
      | cons f r ihl =>
        intro qs h
        simp only [eqQa, Option.bind_eq_some_iff, Option.map_eq_some_iff] at h
        obtain ⟨a, ha, b, hb, q, hq, q', hq', rfl⟩ := h
        have h1 := ih _ _ _ _ hq
        have h2 := ihl q' hq'
        simp only [List.forIn_cons, bind, pureP_bind, ha, hb, h1, Option.bind_some] at h2 ⊢
        cases hqa : q.all id with
        | false => simp [pureP, pure, List.all_append, hqa]
        | true => simp only [List.all_append, hqa, Bool.true_and]; exact h2
    unfold eqQ at h
    unfold Op.equalIn
    split at h
    · rename_i fs xs ys hu
      split at h
      · cases h
      rename_i hst
      have := hs xs ys fs.toList qs h
      simp only [underlying, program, bind, Sem.bind, pureP, hu, pure, hst, Bool.false_eq_true, if_false] at this ⊢
      simpa using this
    · rename_i n e xs ys hu
      simp only [Option.bind_eq_some_iff] at h
      obtain ⟨z, hz, h⟩ := h
      have := ha e z xs ys _ qs h
      simp only [underlying, program, bind, Sem.bind, pureP, hu, pure, pureP_bind, hz, Option.bind_some, Std.Legacy.Range.forIn_eq_forIn_range', Std.Legacy.Range.size] at this ⊢
      simpa [List.range_eq_range'] using this
    · rename_i a b hu
      cases h
      simp [underlying, program, bind, Sem.bind, pureP, hu, pure]
    · rename_i k1 k a k' b hu
      split at h
      · rename_i e; subst e; cases h
        simp [underlying, program, bind, Sem.bind, pureP, hu, pure]
      · cases h
    · rename_i a b hu
      cases h
      simp [underlying, program, bind, Sem.bind, pureP, hu, pure]
    · cases h
theorem bin_neA {P : Program} {ty : TypeId} {x y : Operand} {cs ds : List MC} {us vs : List Value} {qs : List Bool} (hu : concAll cs = some us) (hv : concAll ds = some vs) (hg : P.eqGuardType P.depth ty = false) (hq : eqQ P Op.maxDepth ty (.agg us.toArray) (.agg vs.toArray) = some qs) :
    evBin P .neq ty x y (some (.agg cs)) (some (.agg ds)) = some (.one .top (.bool (!qs.all id))) := by
  have h1 := eqQ_ok P _ _ _ _ _ hq
  simp only [evBin, TV.conc, hu, hv, Option.map_some, evBinC]
  have hgd : pureP P (eqGuard .neq ty x y (.agg us.toArray) (.agg vs.toArray)) = some () := by
    simp [eqGuard, program, bind, Sem.bind, pureP, hg, pure]
  simp only [bind, pureP_bind, hgd, Option.bind_some, binOp, Op.equal, h1, pure, pureP, ofV, Option.map_some, sc]
end Go.Proofs.Abs
/- The rules once more, in the words of short printed proofs: what is reckoned comes last, and is reckoned by itself. -/
namespace Go.Proofs.Abs
open Go
set_option linter.unusedVariables false
section
variable {X : Cx} {s1 : St} {α : Type}
end
open Classical in
/-- an object is as it was -/
noncomputable def same {α : Type} (q : Option α) (x : α) : Option Unit := if q = some x then some () else none
/-- there is something in it -/
def ne {α : Type} (xs : List α) : Option Unit := if xs.isEmpty then none else some ()
theorem ne_inv {α : Type} {xs : List α} {u : Unit} (h : ne xs = some u) : xs ≠ [] := by
  unfold ne at h
  split at h
  · cases h
  · rename_i h1; intro e; rw [e] at h1; exact h1 rfl
theorem ne_of {α : Type} {xs : List α} (h : xs ≠ []) : ne xs = some () := by
  unfold ne
  split
  · rename_i h1; exact absurd (List.isEmpty_iff.1 h1) h
  · rfl
section
variable {X : Cx} {s1 : St} {α : Type}
theorem st_cutB {Y : Option St} (s : St) (t e z : Nat) {xs ys : List α} {lo hi : Int} (hy : cut xs lo hi = some ys) (En : α → List AV) (r : Rt) (q : Nat) (lo' hi' : Option Operand) (d : Option Tmp) (hr : Y = setQ d (evSlice X.P t (.one .top (.at_ r 0 (xs.map En).length)) lo' hi' s)) (ht : X.P.underlying t = some (.slice e)) (hz : szOf X.P e = some z)
    (hat : atRoot s r = some (.own (q + 1), .sl z (xs.map En))) (hlo : bndIs X.P s 0 lo' lo) (hhi : bndIs X.P s (xs.map En).length hi' hi) (hs : setT s d (.one .top (.at_ r lo.toNat (hi.toNat - lo.toNat))) = s1) : Y = some s1 := by
  obtain ⟨h0, h1, h2, rfl⟩ := cut_inv hy
  rw [hr, ← hs]
  simp only [evSlice, ht, hz, hat]
  rw [if_pos (by simp), bound_of (n := lo) hlo h0 (by simp; omega), bound_of (n := hi) hhi (by omega) (by simpa using h2)]
  simp only [subF]
  rw [if_pos (by omega)]
  simp [setQ, sc]
theorem st_stAt {lc : List Nat} {Y : Option St} {h2 : Heap} (s : St) (ty : TypeId) {j o N : Nat} {cs : List MC} (V : hget s.h j o N = some cs) (k : Nat) {xs ys : List α} {lo hi : Int} (hy : cut xs lo hi = some ys) (hne : xs ≠ []) (En : α → List AV) (q z : Nat) (hr : Y = evStore X.P ⟨false, lc⟩ ty (.obj j (o + k)) (.one .top (.at_ (.obj j (o + k)) lo.toNat (hi.toNat - lo.toNat))) s) (hn : szOf X.P ty = some 1) (hk : Nat.ble (k + 1) N = true)
    (hc : (cs.drop k).take 1 = [(Md.own (q + 1), AV.sl z (xs.map En))]) (hh : hset s.h j (o + k) [(Md.own (q + 1), AV.sl z (ys.map En))] = h2) (hs : stKill j (o + k) [(Md.own (q + 1), AV.sl z (ys.map En))] [(Md.top, AV.junk)] ((({ s with h := h2 }.kill isBh noAV).kill isB noAV).kill noMd hasRoot) = s1) : Y = some s1 := by
  obtain ⟨h0, h1, h2', rfl⟩ := cut_inv hy
  have g := hget_sub V k 1 (Nat.le_of_ble_eq_true hk)
  rw [hc] at g
  unfold hget at g
  split at g
  · rename_i c hcc
    have hle : o + k + 1 ≤ c.length := by
      unfold cellsAt at g
      split at g
      · assumption
      · cases g
    have hlt : j < s.h.length := (List.getElem?_eq_some_iff.1 hcc).1
    rw [hset_eq hcc] at hh
    have e1 : lo.toNat + (hi.toNat - lo.toNat) = hi.toNat := by omega
    have e2 : ((xs.map En).take hi.toNat).drop lo.toNat = ((xs.take hi.toNat).drop lo.toNat).map En := by simp
    have e3 : (xs.map En).isEmpty = false := by cases xs with
      | nil => exact absurd rfl hne
      | cons _ _ => rfl
    have e4 : decide ((xs.map En).length < hi.toNat) = false := by simp; omega
    rw [hr]
    simp only [evStore, hn, TV.cells, List.length_singleton, noTup, and_self, if_true, hcc, g]
    have s0 : stObj ⟨false, lc⟩ j (o + k) [(Md.top, AV.at_ (Rt.obj j (o + k)) lo.toNat (hi.toNat - lo.toNat))] s c (some [(Md.own (q + 1), AV.sl z (xs.map En))]) = none := rfl
    rw [s0]
    unfold orSt stPart stAt
    simp only [and_self, if_true, e1, e2, e3, e4, Bool.or_false, Bool.false_eq_true, if_false]
    rw [← hs, ← hh]
    have e5 : (s.h.set j (setAt c (o + k) [(Md.top, AV.junk)])).set j (setAt (setAt c (o + k) [(Md.top, AV.junk)]) (o + k) [(Md.own (q + 1), AV.sl z (((xs.take hi.toNat).drop lo.toNat).map En))]) = s.h.set j (setAt c (o + k) [(Md.own (q + 1), AV.sl z (((xs.take hi.toNat).drop lo.toNat).map En))]) := by
      rw [List.set_set]
      congr 1
      apply List.ext_getElem?
      intro i
      have l1 : (c.take (o + k)).length = o + k := by simp; omega
      simp only [setAt, List.getElem?_append, List.length_append, List.length_take, List.getElem?_take, List.getElem?_drop, List.length_cons, List.length_nil, List.length_drop]
      grind
    have e6 : ∀ (S : St) (C0 : List MC) (ys' : List (List AV)), stObj ⟨false, lc⟩ j (o + k) [(Md.own (q + 1), AV.sl z ys')] S C0 (some [(Md.top, AV.junk)]) = some (stKill j (o + k) [(Md.own (q + 1), AV.sl z ys')] [(Md.top, AV.junk)] { S with h := S.h.set j (setAt C0 (o + k) [(Md.own (q + 1), AV.sl z ys')]) }) := fun _ _ _ => rfl
    rw [e6]
    have e7 : ∀ (S : St) (h0 h1 : Heap), { ((({ S with h := h0 } : St).kill isBh noAV).kill isB noAV).kill noMd hasRoot with h := h1 } = ((({ S with h := h1 } : St).kill isBh noAV).kill isB noAV).kill noMd hasRoot := fun _ _ _ => rfl
    rw [e7]
    have e8 : ((((({ s with h := s.h.set j (setAt c (o + k) [(Md.top, AV.junk)]) } : St).kill isBh noAV).kill isB noAV).kill noMd hasRoot)).h = s.h.set j (setAt c (o + k) [(Md.top, AV.junk)]) := rfl
    rw [e8, e5]
  · cases g
end
def dd (l : List Nat) : RI := { dead := (l, []) }
/-! values, in short -/
abbrev vT : TV := .one .top (.bool true)
/-- a slice that is held, or was given away -/
def mayT {α : Type} (en : α → List AV) (z k : Nat) : Option (List α) → TV
  | some l => .one (.own k) (.sl z (l.map en))
  | none => .one .top .junk
abbrev vF : TV := .one .top (.bool false)
abbrev vb (b : Bool) : TV := .one .top (.bool b)
abbrev vi (n : Int) : TV := .one .top (.int .i64 n)
abbrev vu (n : Int) : TV := .one .top (.int .u32 n)
abbrev vl (t o : Nat) : TV := .one .top (.loc t o)
abbrev vo (i o : Nat) : TV := .one .top (.obj i o)
abbrev vp (p : Ptr) : TV := .one .top p.av
abbrev vN : TV := .tup []
section
variable {X : Cx} {pu : Pu} {st : Bool} {fn id i : Nat} {ops : List Oper} {s s1 s2 s' : St} {N : St → Prop} {E : Nat → St → Prop} {R : St → Prop} {c c' : Code}
theorem yr (j : Nat) (s1 : St) (k : OpsW X pu fn id ops (i + j) s1 s2) (hj : Nat.ble (i + j) ops.length = true := by kernel_rfl) (h : evOps X pu (evS X) fn id ops i ((ops.drop i).take j) (some s) = some s1 := by kernel_rfl) : OpsW X pu fn id ops i s s2 := o_run j s1 hj h k
theorem ye (h : Nat.ble ops.length i = true := by kernel_rfl) (hs : s.drop (X.dead fn id) = s2 := by kernel_rfl) : OpsW X pu fn id ops i s s2 := o_end h hs
theorem yg (s1 : St) {ops : Array Oper} (k : N s1) (h : endR (X.dead fn id) (evOps X pu (evS X) fn id ops.toList 0 ops.toList (some s)) = some (.nrm, s1) := by kernel_rfl) : wpC (ev X pu fn (.region id ops false) s) N E R := w_reg s1 h k
theorem ysg (s1 : St) {ops : Array Oper} (k : wpC (ev X pu fn c' s1) N E R) (h : endR (X.dead fn id) (evOps X pu (evS X) fn id ops.toList 0 ops.toList (some s)) = some (.nrm, s1) := by kernel_rfl) : wpC (ev X pu fn (.seq (.region id ops false) c') s) N E R := w_seq (w_reg s1 h k)
theorem yso (s2 : St) {ops : Array Oper} (h : OpsW X pu fn id ops.toList 0 s s2) (k : wpC (ev X pu fn c' s2) N E R) : wpC (ev X pu fn (.seq (.region id ops false) c') s) N E R := w_seq (w_regO s2 h k)
theorem yT {x : Operand} {b : Bool} (hb : b = true) (s1 : St) (k : wpC (ev X pu fn c s1) N E R) (h : opnd X.P s 0 x = some (.one .top (.bool b)) := by kernel_rfl) (hs : s.drop (X.deadC fn (keyC x c c') true) = s1 := by kernel_rfl) : wpC (ev X pu fn (.cond x c c') s) N E R := w_cT hb h hs k
theorem yF {x : Operand} {b : Bool} (hb : b = false) (s1 : St) (k : wpC (ev X pu fn c' s1) N E R) (h : opnd X.P s 0 x = some (.one .top (.bool b)) := by kernel_rfl) (hs : s.drop (X.deadC fn (keyC x c c') false) = s1 := by kernel_rfl) : wpC (ev X pu fn (.cond x c c') s) N E R := w_cF hb h hs k
theorem yp {f : Nat} {h : Heap} {rs : List ResultVar} {v' : TV} (v : TV) (hv : results X.P rs s = some v := by kernel_rfl) (hp : X.pure f = true := by kernel_rfl) (hh : s.h.length = h.length := by rfl) (hz : frzIf (X.frz f) v = v' := by kernel_rfl) : Fin X f h rs (v', h) s := fin_pure hv hp hh hz
theorem yi {f : Nat} {h : Heap} {rs : List ResultVar} {v' : TV} (v : TV) (hv : results X.P rs s = some v := by kernel_rfl) (hp : X.pure f = false := by kernel_rfl) (hz : frzIf (X.frz f) v = v' := by kernel_rfl) : Fin X f h rs (v', s.h) s := fin_imp hv hp hz
theorem yc {Y : Option St} {f : FuncId} {args : List TV} {H H' : Heap} {v : TV} (d : Option Tmp) (pure own : Bool) (s0 : St) (hc : evS X f args H = some (v, H')) (hr : Y = retF false pure own d s0 (evS X f args H) := by kernel_rfl) (hs : retF false pure own d s0 (some (v, H')) = some s1 := by kernel_rfl) : Y = some s1 := st_call s0 hc hr hs
theorem yl {α : Type} {Y : Option St} (s : St) (xs : List α) (En : α → List AV) (d : Option Tmp) (hr : Y = some (setT s d (.one .top (.int .i64 ((xs.map En).length : Nat)))) := by kernel_rfl) (hs : setT s d (.one .top (.int .i64 (xs.length : Nat))) = s1 := by kernel_rfl) : Y = some s1 := st_len s xs En d hr hs
theorem yd {Y : Option St} (s : St) (ty : TypeId) {j o N : Nat} {cs : List MC} (V : hget s.h j o N = some cs) (k n : Nat) (agg : Bool) (v : TV) (d : Option Tmp) (hr : Y = setQ d (evLoad X.P .cp ty (.obj j (o + k)) s) := by kernel_rfl) (hT : isAggT X.P ty = some agg := by kernel_rfl) (hn : szOf X.P ty = some n := by kernel_rfl) (hk : Nat.ble (k + n) N = true := by kernel_rfl) (hv : mkT agg (((cs.drop k).take n).map fun c => (c.1.cpH, c.2)) = some v := by kernel_rfl) (hs : setT s d v = s1 := by kernel_rfl) : Y = some s1 := st_ld s ty V k n agg v d hr hT hn hk hv hs
theorem ydt {n : Sch} (s1 : St) (k : SchW X pu st fn id ops n s1 s2) (h : takeI X pu st (evS X) fn id ops i (some s) = some s1 := by kernel_rfl) : SchW X pu st fn id ops (.take i n) s s2 := d_take s1 h k
theorem ydl {n : Sch} (s1 : St) (k : SchW X pu st fn id ops n s1 s2) (h : stepI X pu (evS X) fn id ops i (some s) = some s1 := by kernel_rfl) : SchW X pu st fn id ops (.last i n) s s2 := d_last s1 h k
theorem yde (hs : s.drop (X.dead fn id) = s2 := by kernel_rfl) : SchW X pu st fn id ops .done s s2 := d_end hs
theorem yqt {n : Sch} (s1 : St) (k : evSch X pu st (evS X) fn id ops n (some s1) = some s2) (h : takeI X pu st (evS X) fn id ops i (some s) = some s1 := by kernel_rfl) : evSch X pu st (evS X) fn id ops (.take i n) (some s) = some s2 := q_take s1 h k
theorem yql {n : Sch} (s1 : St) (k : evSch X pu st (evS X) fn id ops n (some s1) = some s2) (h : stepI X pu (evS X) fn id ops i (some s) = some s1 := by kernel_rfl) : evSch X pu st (evS X) fn id ops (.last i n) (some s) = some s2 := q_last s1 h k
theorem yqe (h : s = s' := by kernel_rfl) : evSch X pu st (evS X) fn id ops .done (some s) = some s' := q_end h
theorem yf {f : FuncId} {args : List TV} {h : Heap} {r} {fu : Func} {c : Code} (hf : X.P.funcs[f]? = some fu) (b : Bool) (s0 : St) (hr : wpC (ev X ⟨b, []⟩ f c s0) (Fin X f h fu.results.toList r) (fun _ _ => False) (Fin X f h fu.results.toList r)) (hc : fu.body = some c := by rfl) (hok : okBody X f fu c = true := by kernel_rfl) (hp : X.pure f = b := by kernel_rfl) (hs : ({ t := number 0 args, l := [], h := h } : St) = s0 := by kernel_rfl) : evS X f args h = some r := w_fun hf hc hok b hp hs hr
def dropT : Nat → Sch → Sch
  | 0, n => n
  | j + 1, .take _ n => dropT j n
  | _ + 1, n => n
noncomputable def takeT (X : Cx) (pu : Pu) (st : Bool) (fn id : Nat) (ops : List Oper) : Nat → Sch → Option St → Option St
  | 0, _, q => q
  | j + 1, .take i n, q => takeT X pu st fn id ops j n (takeI X pu st (evS X) fn id ops i q)
  | _ + 1, _, _ => none
theorem evSch_takes : ∀ (j : Nat) (n : Sch) (q : Option St) (s1 : St), takeT X pu st fn id ops j n q = some s1 → evSch X pu st (evS X) fn id ops n q = evSch X pu st (evS X) fn id ops (dropT j n) (some s1)
  | 0, n, q, s1, h => by
    have h : q = some s1 := h
    subst h; rfl
  | j + 1, .take i n, q, s1, h => evSch_takes j n (takeI X pu st (evS X) fn id ops i q) s1 h
  | j + 1, .done, q, s1, h => by cases h
  | j + 1, .last i n, q, s1, h => by cases h
  | j + 1, .alt i n r, q, s1, h => by cases h
theorem ydk (j : Nat) (s1 : St) {n : Sch} (k : SchW X pu st fn id ops (dropT j n) s1 s2) (h : takeT X pu st fn id ops j n (some s) = some s1 := by kernel_rfl) : SchW X pu st fn id ops n s s2 := by
  obtain ⟨t, h1, h2⟩ := k
  exact ⟨t, by rw [evSch_takes j n _ s1 h]; exact h1, h2⟩
end
end Go.Proofs.Abs
/- What a reader's arguments are to the abstract machine. -/
namespace Go.Proofs.Abs
open Go
set_option linter.unusedVariables false
set_option linter.unusedSimpArgs false
/-- cells that read so, and that nobody writes -/
def Reads (w : World) (E : List AV) (cs : List Value) : Prop := cs.length = E.length ∧ ∀ (j : Nat) (c : AV) (v : Value), E[j]? = some c → cs[j]? = some v → ∀ r π, KC w gAll .ro r π c v
theorem Reads.nil {w : World} : Reads w [] [] := ⟨rfl, fun j c v h => by simp at h⟩
theorem Reads.app {w : World} {E E' : List AV} {cs cs' : List Value} (h : Reads w E cs) (h' : Reads w E' cs') : Reads w (E ++ E') (cs ++ cs') := by
  refine ⟨by simp [h.1, h'.1], fun j c v hc hv => ?_⟩
  rw [List.getElem?_append] at hc hv
  rw [← h.1] at hc
  split at hc
  · rename_i hj; rw [if_pos hj] at hv; exact h.2 j c v hc hv
  · rename_i hj; rw [if_neg hj] at hv; exact h'.2 _ c v hc hv
def Opens (P : Program) (t : TypeId) {α : Type} (E : α → List AV) (W : α → Prop) : Prop :=
  ∀ (H : Type) (enc : TypeId × Value → H) (w : World) (fuel : Nat) (cs : List Value) x, DataW.trod enc P w 0 (fun _ => true) true fuel t cs = some x → ∃ a, W a ∧ Reads w (E a) cs
section
variable {P : Program} {t : TypeId}
theorem opens_int {k : IntKind} (ht : P.underlying t = some (.int k)) : Opens P t (eI k) (fun n => (Lit.int k n).wf = true) := fun H enc w fuel cs x h => by
  obtain ⟨n, rfl, _, hw⟩ := DataW.trod_int ht h
  refine ⟨n, hw, rfl, fun j c v hc hv => ?_⟩
  cases j with
  | zero => cases hc; cases hv; exact fun _ _ => .int
  | succ j => simp [eI] at hc
theorem mapM_cells {w : World} {a : Addr} : ∀ (l : List Nat) (cs : List Value), l.mapM (fun i => w.cell? (a.add i)) = some cs → cs.length = l.length ∧ ∀ (j i : Nat), l[j]? = some i → w.cell? (a.add i) = cs[j]?
  | [], cs, h => by simp at h; subst h; simp
  | i :: l, cs, h => by
    simp only [List.mapM_cons, Option.bind_eq_bind, Option.bind_eq_some_iff] at h
    obtain ⟨v, hv, vs, hvs, h⟩ := h
    cases h
    obtain ⟨h1, h2⟩ := mapM_cells l vs hvs
    refine ⟨by simp [h1], fun j i' hj => ?_⟩
    cases j with
    | zero => cases hj; simpa using hv
    | succ j => simpa using h2 j i' (by simpa using hj)
theorem opens_slice {α : Type} {E : α → List AV} {W : α → Prop} {e : TypeId} {z : Nat} (ht : P.underlying t = some (.slice e)) (hc : P.cellsOf e = z) (hz : Nat.beq z 0 = false) (hE : ∀ x, (E x).length = z) (he : Opens P e E W) :
    Opens P t (eL z E) (fun xs => (∀ x, x ∈ xs → W x) ∧ xs.length ≤ maxLen) := fun H enc w fuel cs x h => by
  have hz0 : z ≠ 0 := fun e => by subst e; cases hz
  rcases DataW.trod_slice ht h with ⟨rfl, _⟩ | ⟨a, len, cap, elems, rest, n, _, rfl, _, hb, hl, hm, hlen, hel, hsp, _⟩
  · refine ⟨[], ⟨fun x hx => (by cases hx), Nat.zero_le _⟩, rfl, fun j c v hc hv => ?_⟩
    cases j with
    | zero => cases hc; cases hv; exact fun _ _ => .nil (by simp)
    | succ j => simp [eL] at hc
  · by_cases hlen0 : len = 0
    · subst hlen0
      refine ⟨[], ⟨fun x hx => (by cases hx), Nat.zero_le _⟩, rfl, fun j c v hc hv => ?_⟩
      cases j with
      | zero => cases hc; cases hv; exact fun _ _ => .emp (by simp) rfl
      | succ j => simp [eL] at hc
    have each : ∀ i, i < len → ∃ x : α, W x ∧ ∃ cs, w.cells? 0 (a.add (i * z)) z = some cs ∧ Reads w (E x) cs := fun i hi => by
      have := hel i hi
      have hsome : (elems[i]?).isSome = true := by simp [hlen, hi]
      rw [← this, hc] at hsome
      obtain ⟨y, hy⟩ := Option.isSome_iff_exists.1 hsome
      rw [Option.bind_eq_some_iff] at hy
      obtain ⟨cs, h1, h2⟩ := hy
      obtain ⟨x, hx, hr⟩ := he H enc w n cs y h2
      exact ⟨x, hx, cs, h1, hr⟩
    have cell : ∀ i (hi : i < len) cs, w.cells? 0 (a.add (i * z)) z = some cs → cs.length = z ∧ ∀ j, j < z → w.cell? ((a.add (i * z)).add j) = cs[j]? := fun i hi cs h => by
      unfold World.cells? at h
      rw [if_pos (Nat.zero_le _)] at h
      obtain ⟨h1, h2⟩ := mapM_cells _ _ h
      refine ⟨by simpa using h1, fun j hj => h2 j j ?_⟩
      rw [List.getElem?_range hj]
    obtain ⟨b, o, spot⟩ := a
    have h0 : 0 < len := by omega
    obtain ⟨x0, _, cs0, k1, _⟩ := each 0 h0
    obtain ⟨k2, k3⟩ := cell 0 h0 cs0 k1
    have k4 := k3 0 (by omega)
    have k5 : cs0[0]? ≠ none := by
      intro hn
      rw [List.getElem?_eq_none_iff] at hn
      omega
    have hbs : b < w.heap.size ∧ spot = none := by
      rw [← k4] at k5
      unfold World.cell? at k5
      constructor
      · by_cases hbh : b < w.heap.size
        · exact hbh
        · exfalso; apply k5
          have : w.heap[b]? = none := by simp; omega
          simp [Addr.add, this]
      · cases spot with
        | none => rfl
        | some q =>
          exfalso; apply k5
          simp only [Addr.add]
          split <;> simp
    obtain ⟨hbs, rfl⟩ := hbs
    obtain ⟨xs, hxs⟩ : ∃ xs : List α, xs = (List.finRange len).map fun (i : _root_.Fin len) => (each i.1 i.2).choose := ⟨_, rfl⟩
    have hxl : xs.length = len := by simp [hxs]
    have hget : ∀ i (hi : i < len), xs[i]? = some (each i hi).choose := fun i hi => by simp [hxs, hi]
    refine ⟨xs, ⟨fun x hx => ?_, by rw [hxl]; omega⟩, rfl, fun j c v hc' hv r π => ?_⟩
    · obtain ⟨i, hi⟩ := List.mem_iff_getElem?.1 hx
      have hil : i < len := by rw [← hxl]; exact (List.getElem?_eq_some_iff.1 hi).1
      rw [hget i hil] at hi
      cases hi
      exact (each i hil).choose_spec.1
    · cases j with
      | succ j => simp [eL] at hc'
      | zero =>
        cases hc'
        have hv' : Value.slice (some ⟨b, o, none⟩) len cap = v := by simpa using hv
        subst hv'
        have hcell : ∀ i x j a, (xs.map E)[i]? = some x → x[j]? = some a → ∃ v, cel w b (o + i * z + j) = some v ∧ ∀ r π, KC w gAll .ro r π a v := by
          intro i x j a hx ha
          rw [List.getElem?_map, Option.map_eq_some_iff] at hx
          obtain ⟨y, hy, rfl⟩ := hx
          have hil : i < len := by rw [← hxl]; exact (List.getElem?_eq_some_iff.1 hy).1
          rw [hget i hil] at hy
          cases hy
          obtain ⟨_, cs, q1, q2⟩ := (each i hil).choose_spec
          obtain ⟨q3, q4⟩ := cell i hil cs q1
          have hj : j < z := by rw [← hE]; exact (List.getElem?_eq_some_iff.1 ha).1
          have hcj : cs[j]? = some cs[j] := by simp [q3, hj]
          refine ⟨cs[j], ?_, fun r π => q2.2 j a cs[j] ha hcj r π⟩
          have := q4 j hj
          rw [hcj, add_mk, add_mk] at this
          exact this
        have hlm : (xs.map E).length = len := by simp [hxl]
        have := KC.sl (w := w) (g := gAll) (m := .ro) (r := r) (π := π) (z := z) (xs := xs.map E) (b := b) (o := o) (cap := cap) (fun i j => (cel w b (o + i * z + j)).getD undef) hbs (.inl rfl) (fun x hx => by
          rw [List.mem_map] at hx; obtain ⟨y, _, rfl⟩ := hx; exact hE y) (by rw [hlm]; exact hl) (fun h => by cases h)
          (fun i x j a hx ha => by obtain ⟨v, h1, _⟩ := hcell i x j a hx ha; rw [h1]; rfl)
          (fun i x j a hx ha => by obtain ⟨v, h1, h2⟩ := hcell i x j a hx ha; rw [h1]; exact h2 _ _)
        rw [hlm] at this
        exact this
/-- parts one behind the other -/
theorem reads_step {w : World} {E E' : List AV} {cs : List Value} {o z : Nat} (h : Reads w E ((cs.drop o).take z)) (h' : Reads w E' (cs.drop (o + z))) : Reads w (E ++ E') (cs.drop o) := by
  have := h.app h'
  rw [← List.drop_drop, List.take_append_drop] at this
  exact this
theorem reads_end {w : World} {cs : List Value} {o : Nat} (h : cs.length ≤ o) : Reads w [] (cs.drop o) := by
  rw [List.drop_eq_nil_of_le h]; exact Reads.nil
/-- a struct's part -/
theorem part_of {H : Type} {enc : TypeId × Value → H} {w : World} {n : Nat} {fs : Array Field} {cs : List Value} {xs : List (DataW H × List MemPlace)} {i : Nat} {f : Field} (hf : fs[i]? = some f) (hl : xs.length = fs.size)
    (h : ∀ (i : Nat) (f : Field), fs[i]? = some f → DataW.trod enc P w 0 (fun _ => true) true n f.type ((cs.drop f.offset).take (P.cellsOf f.type)) = xs[i]?)
    {α : Type} {E : α → List AV} {W : α → Prop} (he : Opens P f.type E W) : ∃ a, W a ∧ Reads w (E a) ((cs.drop f.offset).take (P.cellsOf f.type)) := by
  have hi := (Array.getElem?_eq_some_iff.1 hf).1
  have := h i f hf
  obtain ⟨y, hy⟩ : ∃ y, xs[i]? = some y := ⟨xs[i], by simp [hl, hi]⟩
  rw [hy] at this
  exact he H enc w n _ y this
end
/-- an argument that is one cell -/
theorem arg_one {w : World} {E : AV} {v : Value} {i : Nat} (h : Reads w [E] v.cells.toList) (hv : v.cells = #[v]) : RT w gAll (.tmp i) (.one .ro E) v :=
  .inl (h.2 0 E v rfl (by rw [hv]; rfl) _ _)
end Go.Proofs.Abs
/- Plain lemmas on the printed functions' words. -/
namespace Go.Proofs.Abs
open Go
set_option linter.unusedVariables false
set_option linter.unusedSimpArgs false
section
variable {α β γ δ ε ζ : Type}
theorem bind1_some (a : α) (k : α → Option β) : bind1 (some a) k = k a := rfl
theorem bind2_some (a : α) (b : β) (k : α → β → Option γ) : bind2 (some (a, b)) k = k a b := rfl
theorem bind3_some (a : α) (b : β) (c : γ) (k : α → β → γ → Option δ) : bind3 (some (a, b, c)) k = k a b c := rfl
theorem bind4_some (a : α) (b : β) (c : γ) (d : δ) (k : α → β → γ → δ → Option ε) : bind4 (some (a, b, c, d)) k = k a b c d := rfl
theorem bnd_def (a : α) (k : α → Option β) : bnd a k = k a := rfl
theorem pbnd_at (i o : Nat) (k : Nat → Nat → Option β) : (Ptr.at i o).bnd k = k i o := rfl
theorem sum2_inl (f : α → Option γ) (g : β → Option γ) (a : α) : sum2 f g (.inl a) = f a := rfl
theorem isNil_at (i o : Nat) : (Ptr.at i o).isNil = false := rfl
theorem map_inj {E : α → β} (hE : ∀ x y, E x = E y → x = y) : ∀ (a b : List α), a.map E = b.map E → a = b
  | [], [], _ => rfl
  | [], _ :: _, h => by cases h
  | _ :: _, [], h => by cases h
  | x :: a, y :: b, h => by
    simp only [List.map_cons, List.cons.injEq] at h
    rw [hE _ _ h.1, map_inj hE a b h.2]
theorem eI_inj {k : IntKind} (x y : Int) (h : eI k x = eI k y) : x = y := by simpa [eI] using h
end
theorem wrap_i64 (x : Int) (h1 : -9223372036854775808 ≤ x) (h2 : x ≤ 9223372036854775807) : IntKind.i64.wrap x = x := by
  simp only [IntKind.wrap, IntKind.bits, IntKind.signed]
  simp
  omega
theorem wrap_u32 (x : Int) (h1 : 0 ≤ x) (h2 : x ≤ 4294967295) : IntKind.u32.wrap x = x := by
  simp only [IntKind.wrap, IntKind.bits, IntKind.signed]
  simp
  omega
theorem tmod_pos {a b : Int} (h : 0 ≤ a) : a.tmod b = a % b := Int.tmod_eq_emod_of_nonneg h
theorem tdiv_pos {a b : Int} (h : 0 ≤ a) : a.tdiv b = a / b := Int.tdiv_eq_ediv_of_nonneg h
/-! objects -/
section
variable {α : Type} {en : α → List MC} {n : Nat} {H : Heap} {i o j o' : Nat} {x y : α}
theorem hgT_set (inj : ∀ x y, en x = en y → x = y) (hl : ∀ x, (en x).length = n) (h : hgetT en n H i o = some x) (y : α) : hgetT en n (hset H i o (en y)) i o = some y :=
  hgetT_of inj (hset_get (hgetT_inv h) (hl y))
theorem hgT_new (inj : ∀ x y, en x = en y → x = y) (hl : ∀ x, (en x).length = n) (H : Heap) (y : α) : hgetT en n (H ++ [en y]) H.length 0 = some y := by
  refine hgetT_of inj ?_
  rw [← hl y]; exact hget_new
theorem hgT_old {new : List MC} (inj : ∀ x y, en x = en y → x = y) (h : hgetT en n H i o = some x) : hgetT en n (H ++ [new]) i o = some x := hgetT_of inj (hget_app (hgetT_inv h))
theorem hgT_other {new : List MC} (inj : ∀ x y, en x = en y → x = y) (hij : i ≠ j) (h : hgetT en n H j o' = some x) : hgetT en n (hset H i o new) j o' = some x :=
  hgetT_of inj (by rw [hget_other hij]; exact hgetT_inv h)
theorem hgT_lt (h : hgetT en n H i o = some x) : i < H.length := hget_lt (hgetT_inv h)
end
theorem gi_some {α : Type} {xs : List α} {i : Int} (h0 : 0 ≤ i) (h1 : i < xs.length) : gi xs i = some (xs[i.toNat]'(by omega)) := by
  unfold gi
  rw [if_pos h0, List.getElem?_eq_getElem]
theorem si_some {α : Type} {xs : List α} {i : Int} {x : α} (h0 : 0 ≤ i) (h1 : i < xs.length) : si xs i x = some (xs.set i.toNat x) := by
  unfold si
  rw [if_pos ⟨h0, by omega⟩]
end Go.Proofs.Abs
