/- The law AsmBack: whatever the input, it answers true. No conditions. (Part A0 of its proof.) -/
import Derived.Calls
import Derived.OrdersHeld
import Derived.Deep.Draws
set_option linter.unusedVariables false
set_option linter.unusedSimpArgs false
set_option linter.unusedSectionVars false
/- An abstract machine for the model's code: values without memory, slices as lists, structs behind pointers as objects. Definitions alone. -/
namespace Go.Proofs.Abs
open Go

/-- what one may do with the slices in a cell: 'own d': d levels are held by this cell alone (0: shared for ever, nobody writes); 'ro', 'bl', 'bh': lent. -/
inductive Md where
  | top | own (d : Nat) | ro | bl | bh
  deriving DecidableEq, Inhabited

/-- where a slice stands that is written through -/
inductive Rt where
  | obj (id off : Nat) | loc (t off : Nat) | tmp (t : Nat)
  deriving DecidableEq, Inhabited

/-- a pointer to an object, or none -/
inductive Ptr where
  | nil | at (id off : Nat)
  deriving DecidableEq, Inhabited
def Ptr.isNil : Ptr → Bool
  | .nil => true
  | .at _ _ => false
/-- are two the same? (of two objects nobody asks) -/
def peq : Ptr → Ptr → Option Bool
  | .nil, .nil => some true
  | .nil, .at _ _ => some false
  | .at _ _, .nil => some false
  | .at i o, .at j k => if i = j then some (decide (o = k)) else none

/-- what one memory cell holds -/
inductive AV where
  | junk
  | bool (b : Bool)
  | int (k : IntKind) (n : Int)
  | str (s : ByteArray)
  | ptr (p : Ptr)
  | loc (t off : Nat)
  | el (r : Rt) (i off : Nat)
  | rd (mo mi : Md) (cs : List AV) (off : Nat)
  | sl (z : Nat) (xs : List (List AV))
  | at_ (r : Rt) (lo n : Nat)
  | it (s : ByteArray) (pos : Nat)       -- where a walk over a string stands
  deriving Inhabited

/-- a cell with its mode -/
abbrev MC := Md × AV

/-- what a slot of a frame holds -/
inductive TV where
  | one (m : Md) (a : AV)
  | agg (cs : List MC)
  | tup (vs : List TV)
  deriving Inhabited

def sc (a : AV) : TV := .one .top a

structure St where
  t : List (Nat × TV)
  l : List (Nat × List MC)
  h : List (List MC)

/-! ### tables by numbers -/
def find {α : Type} (k : Nat) : List (Nat × α) → Option α
  | [] => none
  | (j, x) :: r => if k = j then some x else find k r

def put {α : Type} (k : Nat) (x : α) : List (Nat × α) → List (Nat × α)
  | [] => [(k, x)]
  | (j, y) :: r => if k = j then (k, x) :: r else if k < j then (k, x) :: (j, y) :: r else (j, y) :: put k x r

def drop1 {α : Type} (k : Nat) : List (Nat × α) → List (Nat × α)
  | [] => []
  | (j, y) :: r => if k = j then drop1 k r else (j, y) :: drop1 k r

def dropAll {α : Type} : List Nat → List (Nat × α) → List (Nat × α)
  | [], l => l
  | k :: ks, l => dropAll ks (drop1 k l)

/-! ### modes -/
def Md.cp : Md → Md     -- a copy of what a frame holds
  | .own (_ + 1) => .bl
  | m => m
def Md.cpH : Md → Md    -- a copy of what an object holds
  | .own (_ + 1) => .bh
  | m => m
def Md.inner : Md → Md  -- of what the elements hold
  | .own (d + 1) => .own d
  | m => m
def Md.owned : Md → Bool
  | .own (_ + 1) => true
  | _ => false
def Md.cpR : Rt → Md → Md
  | .obj _ _, m => m.cpH
  | _, m => m.cp

def AV.scalar : AV → Bool
  | .bool _ | .int _ _ | .str _ | .ptr _ => true
  | _ => false

/-- no pointer into the frame, or into an element -/
def AV.plain : AV → Bool
  | .loc _ _ | .el _ _ _ | .rd _ _ _ _ | .at_ _ _ _ | .it _ _ => false
  | _ => true
def cp1 : TV → TV
  | .one m a => .one m.cp a
  | .agg cs => .agg (cs.map fun c => (c.1.cp, c.2))
  | .tup vs => .tup vs
def TV.cp : TV → TV
  | .tup vs => .tup (vs.map cp1)
  | v => cp1 v

/-- what is left where owned parts were taken -/
def leaveC (c : MC) : MC := if c.1.owned then (.top, .junk) else c
def leave1 : TV → TV
  | .one m a => .one (leaveC (m, a)).1 (leaveC (m, a)).2
  | .agg cs => .agg (cs.map leaveC)
  | .tup vs => .tup vs
def TV.leave : TV → TV
  | .tup vs => .tup (vs.map leave1)
  | v => leave1 v

/-- shared from now on -/
def Md.frz : Md → Md
  | .own _ => .own 0
  | m => m
def frz1 : TV → TV
  | .one m a => .one m.frz a
  | .agg cs => .agg (cs.map fun c => (c.1.frz, c.2))
  | .tup vs => .tup vs
def TV.frz : TV → TV
  | .tup vs => .tup (vs.map frz1)
  | v => frz1 v

def TV.cells : TV → List MC
  | .one m a => [(m, a)]
  | .agg cs => cs
  | .tup _ => []

def all1 : TV → List MC
  | .one m a => [(m, a)]
  | .agg cs => cs
  | .tup _ => []
def TV.all : TV → List MC
  | .tup vs => vs.flatMap all1
  | v => all1 v

/-! ### what is lent falls -/
def AV.lent (p : Md → Bool) : AV → Bool
  | .rd mo mi _ _ => p mo || p mi
  | .it _ _ => p .bl || p .bh
  | _ => false
def killC (p : Md → Bool) (q : AV → Bool) (c : MC) : MC := if p c.1 || c.2.lent p || q c.2 then (.top, .junk) else c
def kill1 (p : Md → Bool) (q : AV → Bool) : TV → TV
  | .one m a => .one (killC p q (m, a)).1 (killC p q (m, a)).2
  | .agg cs => .agg (cs.map (killC p q))
  | .tup vs => .tup vs
def killT (p : Md → Bool) (q : AV → Bool) : TV → TV
  | .tup vs => .tup (vs.map (kill1 p q))
  | v => kill1 p q v
def St.kill (p : Md → Bool) (q : AV → Bool) (s : St) : St :=
  { s with t := s.t.map fun kv => (kv.1, killT p q kv.2), l := s.l.map fun kv => (kv.1, kv.2.map (killC p q)) }
def isBl (m : Md) : Bool := m = .bl
def isBh (m : Md) : Bool := m = .bh
def isB (m : Md) : Bool := m = .bl || m = .bh
def noMd (_ : Md) : Bool := false
def noAV (_ : AV) : Bool := false
def AV.root : AV → Option Rt
  | .el r _ _ => some r
  | .at_ r _ _ => some r
  | _ => none
def rootedObj (a : AV) : Bool := match a.root with
  | some (.obj _ _) => true
  | _ => false
def rootedTmp (a : AV) : Bool := match a.root with
  | some (.tmp _) => true
  | _ => false
def rootedObjIn (id off n : Nat) (a : AV) : Bool := match a.root with
  | some (.obj id' o) => decide (off ≤ o) && (decide (o < off + n) && decide (id' = id))
  | _ => false
def rootedLocIn (t off n : Nat) (a : AV) : Bool := match a.root with
  | some (.loc t' o) => t' = t && off ≤ o && o < off + n
  | _ => false
def ofObj (id : Nat) (a : AV) : Bool := match a.root with
  | some (.obj id' _) => id' = id
  | _ => false
def ofLoc (t : Nat) (a : AV) : Bool := match a with
  | .loc t' _ => t' = t
  | _ => match a.root with
    | some (.loc t' _) => t' = t
    | _ => false

/-! ### types -/
def szOf (P : Program) (t : TypeId) : Option Nat := (P.info? t).map (·.size)
def byOf (P : Program) (t : TypeId) : Option Nat := (P.info? t).map (·.bytes)
def nest (P : Program) : Nat → TypeId → Nat      -- levels of slices in a type
  | 0, _ => 0
  | n + 1, t => match P.underlying t with
    | some (.slice e) => nest P n e + 1
    | some (.array _ e) => nest P n e
    | some (.struct fs) => fs.toList.foldl (fun a f => max a (nest P n f.type)) 0
    | _ => 0
def zeroM (P : Program) : Nat → TypeId → Option (List MC)
  | 0, _ => none
  | n + 1, t => match P.underlying t with
    | some .bool => some [(.top, .bool false)]
    | some (.int k) => some [(.top, .int k 0)]
    | some .string => some [(.top, .str ByteArray.empty)]
    | some (.pointer _) => some [(.top, .ptr .nil)]
    | some (.slice e) => some [(.own (nest P n e + 1), .sl (P.cellsOf e) [])]
    | some (.array k e) => (zeroM P n e).map fun z => (List.replicate k z).flatten
    | some (.struct fs) => fs.toList.foldr (fun f acc => acc.bind fun r => (zeroM P n f.type).map fun z => z ++ r) (some [])
    | _ => none
/-- does a cell's zero read so? -/
def zeroIs : Value → Md → AV → Bool
  | .bool false, .top, .bool false => true
  | .int k n, .top, .int k' n' => decide (k = k') && decide (n = n')
  | .string s, .top, .str s' => decide (s = s')
  | .pointer none, .top, .ptr .nil => true
  | .slice none 0 0, .own _, .sl _ [] => true
  | _, _, _ => false
def zeroesAre : List Value → List MC → Bool
  | [], [] => true
  | v :: vs, c :: cs => zeroIs v c.1 c.2 && zeroesAre vs cs
  | _, _ => false
def typeFuel : Nat := 12
def zeroOf (P : Program) (t : TypeId) : Option (List MC) :=
  (zeroM P typeFuel t).bind fun z => (P.info? t).bind fun i => i.zero.bind fun v => if zeroesAre v.cells.toList z && i.size = z.length then some z else none
def isAggT (P : Program) (t : TypeId) : Option Bool :=
  (P.underlying t).map fun | .struct _ => true | .array _ _ => true | _ => false
def mkT (agg : Bool) (cs : List MC) : Option TV :=
  if agg then some (.agg cs) else match cs with
    | [(m, a)] => some (.one m a)
    | _ => none

/-! ### what is only numbers is reckoned as the model does -/
def pureP {α : Type} (P : Program) : Sem α → Option α
  | .pure a => some a
  | .program k => pureP P (k P)
  | _ => none
def AV.conc : AV → Option Value
  | .bool b => some (.bool b)
  | .int k n => some (.int k n)
  | .str s => some (.string s)
  | .ptr p => if p.isNil then some (.pointer none) else none
  | _ => none
def concAll : List MC → Option (List Value)
  | [] => some []
  | c :: r => c.2.conc.bind fun v => (concAll r).map fun vs => v :: vs
def TV.conc : TV → Option Value
  | .one _ a => a.conc
  | .agg cs => (concAll cs).map fun vs => .agg vs.toArray
  | .tup _ => none
def ofV : Value → Option AV
  | .bool b => some (.bool b)
  | .int k n => some (.int k n)
  | .string s => some (.str s)
  | .pointer none => some (.ptr .nil)
  | _ => none

/-! ### hints -/
inductive Hm where
  | cp | take | place
  deriving DecidableEq, Inhabited
structure Hint where
  m : Hm := .cp
  heap : Bool := false
  frz : Bool := false
  fz : Bool := false                   -- what was set is shared from then on
  cap : Bool := false                  -- what is new is held at one level alone
  deriving Inhabited

/-- in which orders a drawn region is walked: one operation first; or each of several, the last of them told by 'last' -/
inductive Sch where
  | done
  | take (i : Nat) (n : Sch)
  | last (i : Nat) (n : Sch)
  | alt (i : Nat) (n r : Sch)
  deriving Inhabited
/-- what a stretch of code leaves alone: the objects; the local boxes -/
structure Pu where
  ob : Bool
  lc : List Nat
def inL (t : Nat) : List Nat → Bool
  | [] => false
  | x :: l => Nat.beq x t || inL t l
theorem inL_append {t : Nat} {l' : List Nat} : ∀ {l : List Nat}, inL t l = true → inL t (l ++ l') = true
  | x :: l, h => by
    simp only [inL, List.cons_append, Bool.or_eq_true] at h ⊢
    exact h.imp id inL_append
structure Cx where
  P : Program
  sch : Nat → Nat → Sch                -- function, region
  rpu : Nat → Nat → Bool               -- ", ": leaves the objects alone
  rlc : Nat → Nat → List Nat               -- ", ": leaves the local boxes alone
  rst : Nat → Nat → Bool               -- ", ": nothing but tells
  hint : Nat → Nat → Nat → Hint        -- function, region, operation
  dead : Nat → Nat → List Nat × List Nat          -- function, region: slots, and boxes, that nobody reads behind it
  deadC : Nat → Nat × Nat × Nat → Bool → List Nat × List Nat  -- function, a condition's slot and first regions, which way
  pure : Nat → Bool                    -- functions that leave all objects alone
  frz : Nat → Bool                     -- functions whose answers are shared for ever
  two : Nat → Bool                     -- functions that ask whether a slice is nil: both ways must come to the same
  alone : Nat → Bool := fun _ => false  -- functions that are told over no objects at all: those that they make are their own
  gs : List Nat := []                  -- blocks of the program's variables that hold a number for ever
  ct : FuncId → List TV → Option TV := fun _ _ => none   -- functions that are told by a contract
  
/-- a function that leaves all objects alone, seen from where it is called -/
def Cx.leaves (X : Cx) (f : Nat) : Bool := X.pure f || X.alone f
/-! ### operands -/
def cst (P : Program) (ty : TypeId) : Value → Option TV
  | .slice none 0 0 => match P.underlying ty with
    | some (.slice e) => (szOf P e).map fun z => .one (.own (nest P typeFuel e + 1)) (.sl z [])
    | _ => none
  | .agg cs => (zeroOf P ty).bind fun z => if zeroesAre cs.toList z then some (.agg z) else none
  | v => (ofV v).map sc
def opnd (P : Program) (s : St) (ty : TypeId) : Operand → Option TV
  | .tmp t => find t s.t
  | .const v => cst P ty v
  | _ => none
/-- nothing, shared from the first if a hint says so -/
def cstZ (b : Bool) : TV → TV
  | .one (.own (d + 1)) (.sl z []) => bif b then .one (.own 0) (.sl z []) else .one (.own (d + 1)) (.sl z [])
  | v => v
def opndZ (b : Bool) (P : Program) (s : St) (ty : TypeId) : Operand → Option TV
  | .const v => (cst P ty v).map (cstZ b)
  | x => opnd P s ty x
/-- nothing, held at one level, if a hint says so -/
def cstK (b : Bool) : TV → TV
  | .one (.own (d + 1)) (.sl z []) => bif b then .one (.own 1) (.sl z []) else .one (.own (d + 1)) (.sl z [])
  | v => v
def opndK (b : Bool) (P : Program) (s : St) (ty : TypeId) : Operand → Option TV
  | .const v => (cst P ty v).map (cstK b)
  | x => opnd P s ty x
/-- an operand is used up: what it owned is with the operation -/
def usedF (s : St) (t : Tmp) : Option TV → St
  | some v => { s with t := put t v.leave s.t }
  | none => s
def used (s : St) : Operand → St
  | .tmp t => usedF s t (find t s.t)
  | _ => s
def ofTmp (t : Nat) (a : AV) : Bool := match a.root with
  | some (.tmp t') => t' = t
  | _ => false
def setT1 (s : St) (d : Tmp) : TV → St
  | .one (.own (n + 1)) (.sl z xs) => { s.kill noMd (ofTmp d) with t := put d (.one (.own (n + 1)) (.sl z xs)) (s.kill noMd (ofTmp d)).t }
  | v => { s with t := put d v s.t }
def setT (s : St) (d : Option Tmp) (v : TV) : St :=
  match d with
  | some d => setT1 s d v
  | none => s

/-! ### places -/
def cellsAt (cs : List MC) (off n : Nat) : Option (List MC) := if off + n ≤ cs.length then some ((cs.drop off).take n) else none
def setAt {α : Type} (cs : List α) (off : Nat) (new : List α) : List α := cs.take off ++ new ++ cs.drop (off + new.length)
/-- the slice that stands at a root -/
def oneOf : Option TV → Option MC
  | some (.one m a) => some (m, a)
  | _ => none
def cellOf (off : Nat) : Option (List MC) → Option MC
  | some cs => cs[off]?
  | none => none
def atRoot (s : St) : Rt → Option MC
  | .obj id off => cellOf off s.h[id]?
  | .loc t off => cellOf off (find t s.l)
  | .tmp t => oneOf (find t s.t)
def setRoot (s : St) (r : Rt) (c : MC) : St :=
  match r with
  | .obj id off => match s.h[id]? with
    | some cs => { s with h := s.h.set id (cs.set off c) }
    | none => s
  | .loc t off => match find t s.l with
    | some cs => { s with l := put t (cs.set off c) s.l }
    | none => s
  | .tmp t => { s with t := put t (.one c.1 c.2) s.t }

end Go.Proofs.Abs
/- The abstract machine's steps. Definitions alone. -/
namespace Go.Proofs.Abs
open Go
set_option linter.unusedVariables false

/-- a call's arguments, and its results, as they pass -/
def passC (own : Bool) : MC → Option MC
  | (m, .sl z xs) => match m with
    | .top => none
    | .bl => some (if own then .bl else .ro, .sl z xs)
    | m => some (m, .sl z xs)
  | (_, .junk) => some (.top, .junk)
  | (m, a) => if a.scalar then some (m, a) else none
def mapO {α β : Type} (f : α → Option β) : List α → Option (List β)
  | [] => some []
  | a :: r => (f a).bind fun b => (mapO f r).map fun bs => b :: bs
def passT (own : Bool) : TV → Option TV
  | .one m a => (passC own (m, a)).map fun c => .one c.1 c.2
  | .agg cs => (mapO (passC own) cs).map .agg
  | .tup [] => some (.tup [])
  | .tup _ => none
def retC : MC → Option MC
  | (m, .sl z xs) => match m with
    | .own d => some (.own d, .sl z xs)
    | .bh => some (.bh, .sl z xs)
    | _ => none
  | (_, .junk) => some (.top, .junk)
  | (m, a) => if a.scalar then some (m, a) else none
def retT : TV → Option TV
  | .one m a => (retC (m, a)).map fun c => .one c.1 c.2
  | .agg cs => (mapO retC cs).map .agg
  | .tup [] => some (.tup [])
  | .tup _ => none

def noTup : TV → Bool
  | .tup _ => false
  | _ => true
/-- may it be kept in an object, or in an element? -/
def keepC : MC → Bool
  | (.own _, .sl _ _) => true
  | (.top, a) => a.scalar
  | _ => false
def anyOwned (cs : List MC) : Bool := cs.any fun c => c.1.owned
def anySlice (cs : List MC) : Bool := cs.any fun c => !c.2.scalar

/-- cells into others at a place -/
def fillAll (place : Nat → Option (Nat × Nat)) : List MC → List (Nat × List MC) → Option (List MC)
  | cs, [] => some cs
  | cs, (i, new) :: r => match place i with
    | some p => if new.length = p.2 ∧ p.1 + new.length ≤ cs.length then fillAll place (setAt cs p.1 new) r else none
    | none => none
/-- where a struct's fields are -/
def fieldsOf (P : Program) : List Field → Option (List (Nat × Nat))
  | [] => some []
  | f :: r => match szOf P f.type, fieldsOf P r with
    | some z, some l => some ((f.offset, z) :: l)
    | _, _ => none
def fieldOf (P : Program) (t : TypeId) (i : Nat) : Option (TypeId × Nat × Nat) :=
  match P.underlying t with
  | some (.struct fs) => match fs[i]? with
    | some f => match szOf P f.type with
      | some z => some (f.type, f.offset, z)
      | none => none
    | none => none
  | _ => none

/-- are these elements without slices? -/
def flatEls (xs : List (List AV)) : Bool := xs.all fun x => x.all fun a => a.scalar

/-- operands in a row, each used up -/
def opndsF : Option TV → Option (List TV × St) → Option (List TV × St)
  | some v, some (vs, s) => some (v :: vs, s)
  | _, _ => none
def opnds (P : Program) : List (TypeId × Operand) → St → Option (List TV × St)
  | [], s => some ([], s)
  | p :: r, s => opndsF (opnd P s p.1 p.2) (opnds P r (used s p.2))

def natOf : TV → Option Int
  | .one _ (.int _ n) => some n
  | _ => none
/-- a bound of a slice expression -/
def bound (P : Program) (s : St) (d : Nat) (hi : Nat) : Option Operand → Option Nat
  | none => some d
  | some x => (opnd P s 0 x).bind fun v => (natOf v).bind fun n => if 0 ≤ n ∧ n ≤ hi then some n.toNat else none

def roomBytes : Nat := 2 ^ 47

/-- the depth that a list of new elements leaves -/
def depthIn (mx : Md) (ys : List (List AV)) : Option Nat :=
  match mx with
  | .own (e + 1) => some e
  | .own 0 => some 0
  | _ => if flatEls ys then some 9 else none

def lenIs (z : Nat) (xs : List (List AV)) : Bool := xs.all fun x => x.length == z
def appendF (z zb : Nat) (d : Nat) (xs ys : List (List AV)) : Option Nat → Option TV
  | some e => if (xs.length + ys.length) * zb ≤ roomBytes ∧ lenIs z ys = true then some (.one (.own (min d e + 1)) (.sl z (xs ++ ys))) else none
  | none => none
def isSliceT (P : Program) (t : TypeId) : Bool := match P.underlying t with
  | some (.slice _) => true
  | _ => false
/-- append: what one's slice is, the elements behind it -/
def evAppend (P : Program) (aty bty : TypeId) (vs : List TV) : Option TV :=
  match vs with
  | [.one (.own (d + 1)) (.sl z xs), .one mx (.sl z' ys)] => match P.underlying aty with
    | some (.slice e) => match zeroOf P e, byOf P e with
      | some ze, some zb => if z = ze.length ∧ z' = z ∧ z ≠ 0 ∧ zb ≠ 0 ∧ isSliceT P bty = true then appendF z zb d xs ys (depthIn mx ys) else none
      | _, _ => none
    | _ => none
  | _ => none

/-- load -/
def mkV (agg : Bool) (v : TV → Option (TV × St)) (cs : List MC) : Option (TV × St) :=
  match mkT agg cs with
  | some t => v t
  | none => none
def ldObj (hm : Hm) (agg : Bool) (id off : Nat) (o : List MC) (s : St) : Option (List MC) → Option (TV × St)
  | some cs => match hm with
    | .cp => mkV agg (fun v => some (v, s)) (cs.map fun c => (c.1.cpH, c.2))
    | .take => mkV agg (fun v => some (v, { s with h := s.h.set id (setAt o off (cs.map leaveC)) }.kill isBh noAV)) cs
    | .place => match agg, cs with
      | false, [(.own (_ + 1), .sl _ xs)] => some (sc (.at_ (.obj id off) 0 xs.length), s)
      | _, _ => none
  | none => none
def ldLoc (hm : Hm) (agg : Bool) (t off : Nat) (o : List MC) (s : St) : Option (List MC) → Option (TV × St)
  | some cs => match hm with
    | .cp => mkV agg (fun v => some (v, s)) (cs.map fun c => (c.1.cp, c.2))
    | .take => mkV agg (fun v => some (v, { s with l := put t (setAt o off (cs.map leaveC)) s.l })) cs
    | .place => match agg, cs with
      | false, [(.own (_ + 1), .sl _ xs)] => some (sc (.at_ (.loc t off) 0 xs.length), s)
      | _, _ => none
  | none => none
/-- cells of an element, as they are read -/
def rdCells (m : Md) (l : List AV) : List MC := l.map fun a => (if a.scalar then .top else m, a)
def ldEl (hm : Hm) (agg : Bool) (n : Nat) (r : Rt) (i off : Nat) (s : St) : Option MC → Option (TV × St)
  | some (.own (d + 1), .sl z xs) => match xs[i]? with
    | some x => if off + n ≤ x.length then match hm with
        | .cp => mkV agg (fun v => some (v, s)) (rdCells (Md.cpR r (.own d)) ((x.drop off).take n))
        | .take => if d = 0 then none else
          mkV agg (fun v => some (v, (setRoot s r (.own (d + 1), .sl z (xs.set i (setAt x off (((x.drop off).take n).map fun a => if a.scalar then a else .junk))))).kill isB noAV)) (rdCells (.own d) ((x.drop off).take n))
        | .place => none
      else none
    | none => none
  | _ => none
def ldRd (agg : Bool) (n : Nat) (mi : Md) (cs : List AV) (off : Nat) (s : St) : Option (TV × St) :=
  if off + n ≤ cs.length then mkV agg (fun v => some (v, s)) (rdCells mi ((cs.drop off).take n)) else none
def evLoad (P : Program) (hm : Hm) (ty : TypeId) (a : AV) (s : St) : Option (TV × St) :=
  match isAggT P ty, szOf P ty with
  | some agg, some n => match a with
    | .ptr (.at id off) => match s.h[id]? with
      | some o => ldObj hm agg id off o s (cellsAt o off n)
      | none => none
    | .loc t off => match find t s.l with
      | some o => ldLoc hm agg t off o s (cellsAt o off n)
      | none => none
    | .el r i off => ldEl hm agg n r i off s (atRoot s r)
    | .rd _ mi cs off => ldRd agg n mi cs off s
    | _ => none
  | _, _ => none

/-- store -/
def stObj (pu : Pu) (id off : Nat) (new : List MC) (s : St) (o : List MC) : Option (List MC) → Option St
  | some old => if pu.ob || !(new.all keepC) then none else
      let s1 : St := { s with h := s.h.set id (setAt o off new) }
      let s2 := if anyOwned new then s1.kill isBl noAV else s1
      some (if anySlice new || anySlice old then s2.kill noMd (rootedObjIn id off new.length) else s2)
  | none => none
def stLoc (t off : Nat) (new : List MC) (s : St) (o : List MC) : Option (List MC) → Option St
  | some old => let s1 : St := { s with l := put t (setAt o off new) s.l }
      some (if anySlice new || anySlice old then s1.kill noMd (rootedLocIn t off new.length) else s1)
  | none => none
def elOk (d : Nat) (c : MC) : Bool := match c with
  | (.own d', .sl _ _) => decide (d ≤ d')
  | (_, a) => a.scalar
def killEl (r : Rt) (ow : Bool) (s : St) : St := match r with
  | .obj _ _ => s.kill (if ow then isB else isBh) noAV
  | _ => s.kill isBl noAV
def stEl (pu : Pu) (r : Rt) (i off : Nat) (new : List MC) (s : St) : Option MC → Option St
  | some (.own (d + 1), .sl z xs) => match xs[i]? with
    | some x => if off + new.length ≤ x.length ∧ (pu.ob && rootedObj (.el r 0 0)) = false ∧ new.all (elOk d) = true then
        some (killEl r (anyOwned new) (setRoot s r (.own (d + 1), .sl z (xs.set i (setAt x off (new.map (·.2)))))))
      else none
    | none => none
  | _ => none
def hasRoot (a : AV) : Bool := a.root.isSome
/-- a part of the slice that stands there becomes what stands there -/
def stAt (pu : Pu) (id off lo k : Nat) (s : St) (o : List MC) : Option (List MC) → Option St
  | some [(.own (d + 1), .sl z xs)] => if pu.ob || xs.isEmpty || decide (xs.length < lo + k) then none else
      stObj pu id off [(.own (d + 1), .sl z ((xs.take (lo + k)).drop lo))] ((({ s with h := s.h.set id (setAt o off [(.top, .junk)]) }.kill isBh noAV).kill isB noAV).kill noMd hasRoot) (setAt o off [(.top, .junk)]) (some [(.top, .junk)])
  | _ => none
def stPart (pu : Pu) (id off : Nat) (v : TV) (s : St) (o : List MC) (old : Option (List MC)) : Option St := match v with
  | .one _ (.at_ (.obj id' off') lo k) => if id' = id ∧ off' = off then stAt pu id off lo k s o old else none
  | _ => none
def orSt : Option St → Option St → Option St
  | some s, _ => some s
  | none, q => q
def evStore (P : Program) (pu : Pu) (ty : TypeId) (a : AV) (v : TV) (s : St) : Option St :=
  match szOf P ty with
  | some n => if v.cells.length = n ∧ noTup v = true then match a with
      | .ptr (.at id off) => match s.h[id]? with
        | some o => orSt (stObj pu id off v.cells s o (cellsAt o off n)) (stPart pu id off v s o (cellsAt o off n))
        | none => none
      | .loc t off => if inL t pu.lc then none else match find t s.l with
        | some o => stLoc t off v.cells s o (cellsAt o off n)
        | none => none
      | .el r i off => stEl pu r i off v.cells s (atRoot s r)
      | _ => none
    else none
  | none => none

/-- an element's place -/
def atEl (r : Rt) (lo n : Nat) (k : Nat) (i : Int) : Option MC → Option TV
  | some (.own (_ + 1), .sl z xs) => if 0 ≤ i ∧ i < n ∧ z = k ∧ lo + i.toNat < xs.length then some (sc (.el r (lo + i.toNat) 0)) else none
  | _ => none
def evIndexAddr (P : Program) (s : St) (t : TypeId) (x : TV) (i : Int) : Option TV :=
  match P.underlying t with
  | some (.slice e) => match szOf P e, x with
    | some n, .one m (.sl z xs) => if 0 ≤ i ∧ z = n then match xs[i.toNat]? with
        | some c => some (sc (.rd m.cp m.inner.cp c 0))
        | none => none
      else none
    | some k, .one _ (.at_ r lo n) => atEl r lo n k i (atRoot s r)
    | _, _ => none
  | some (.array n e) => match szOf P e with
    | some z => if 0 ≤ i ∧ i < n then match x with
        | .one _ (.ptr (.at id off)) => some (sc (.ptr (.at id (off + i.toNat * z))))
        | .one _ (.loc id off) => some (sc (.loc id (off + i.toNat * z)))
        | .one _ (.el r k off) => some (sc (.el r k (off + i.toNat * z)))
        | .one _ (.rd mo mi cs off) => some (sc (.rd mo mi cs (off + i.toNat * z)))
        | _ => none
      else none
    | none => none
  | _ => none

def evFieldAddr (P : Program) (t : TypeId) (x : TV) (f : Nat) : Option TV :=
  match fieldOf P t f with
  | some (_, off, z) => if z = 0 then none else match x with
    | .one _ (.ptr (.at id o)) => some (sc (.ptr (.at id (o + off))))
    | .one _ (.loc id o) => some (sc (.loc id (o + off)))
    | .one _ (.el r i o) => some (sc (.el r i (o + off)))
    | .one _ (.rd mo mi cs o) => some (sc (.rd mo mi cs (o + off)))
    | _ => none
  | none => none

/-- a part of a struct, or of an array, by value -/
def evPart (P : Program) (ty : TypeId) (x : TV) (off : Nat) : Option TV :=
  match isAggT P ty, szOf P ty, x with
  | some agg, some n, .agg cs => match cellsAt cs off n with
    | some p => mkT agg (p.map fun c => (c.1.cp, c.2))
    | none => none
  | _, _, _ => none

def subF (lo hi : Option Nat) (k : Nat → Nat → Option (TV × St)) : Option (TV × St) :=
  match lo, hi with
  | some l, some h => if l ≤ h then k l h else none
  | _, _ => none
def evSlice (P : Program) (ty : TypeId) (x : TV) (lo hi : Option Operand) (s : St) : Option (TV × St) :=
  match P.underlying ty, x with
  | some .string, .one _ (.str b) => subF (bound P s 0 b.size lo) (bound P s b.size b.size hi) fun l h => some (sc (.str (b.extract l h)), s)
  | some (.slice e), .one m (.sl z xs) => if szOf P e = some z ∧ m ≠ .top then
      subF (bound P s 0 xs.length lo) (bound P s xs.length xs.length hi) fun l h =>
        some (.one m (.sl z ((xs.take h).drop l)), if m.owned then s.kill isB noAV else s)
    else none
  | some (.slice e), .one _ (.at_ r lo0 n) => match szOf P e, atRoot s r with
    | some z, some (.own (_ + 1), .sl z' xs) => if z = z' ∧ lo0 + n ≤ xs.length then subF (bound P s 0 n lo) (bound P s n n hi) fun l h => some (sc (.at_ r (lo0 + l) (h - l)), s) else none
    | _, _ => none
  | _, _ => none

def cpEl (pu : Pu) (r : Rt) (lo n : Nat) (ys : List (List AV)) (s : St) : Option MC → Option (TV × St)
  | some (.own (d + 1), .sl z xs) => if flatEls ys = true ∧ lenIs z ys = true ∧ (pu.ob && rootedObj (.el r 0 0)) = false ∧ lo + n ≤ xs.length then
      some (sc (.int .i64 (min ys.length n : Nat)), killEl r false (setRoot s r (.own (d + 1), .sl z (setAt xs lo (ys.take n)))))
    else none
  | _ => none
def evCopy (P : Program) (pu : Pu) (aty : TypeId) (vs : List TV) (s : St) : Option (TV × St) :=
  match vs with
  | [.one _ (.at_ r lo n), .one _ (.sl z' ys)] => match P.underlying aty with
    | some (.slice e) => if szOf P e = some z' then cpEl pu r lo n ys s (atRoot s r) else none
    | _ => none
  | _ => none

def evLen (P : Program) (t : TypeId) (v : TV) : Option TV :=
  match P.underlying t, v with
  | some (.slice _), .one _ (.sl _ xs) => some (sc (.int .i64 xs.length))
  | some (.slice _), .one _ (.at_ _ _ n) => some (sc (.int .i64 n))
  | some .string, .one _ (.str b) => some (sc (.int .i64 b.size))
  | _, _ => none

def max2 : TV → TV → Option TV
  | .one _ (.int k x), .one _ (.int _ y) => some (sc (.int k (if y > x then y else x)))
  | _, _ => none
def min2 : TV → TV → Option TV
  | .one _ (.int k x), .one _ (.int _ y) => some (sc (.int k (if y < x then y else x)))
  | _, _ => none
def foldO (f : TV → TV → Option TV) : TV → List TV → Option TV
  | x, [] => some x
  | x, y :: r => (f x y).bind fun z => foldO f z r

abbrev Heap := List (List MC)
abbrev CallF := FuncId → List TV → Heap → Option (TV × Heap)

def fstO (s : St) : Option TV → Option (TV × St)
  | some v => some (v, s)
  | none => none
def evBuiltin (P : Program) (pu : Pu) (b : Builtin) (ats : List TypeId) (vs : List TV) (s : St) : Option (TV × St) :=
  match b, ats, vs with
  | .append, t :: u :: _, vs => fstO s (evAppend P t u vs)
  | .copy, t :: _, vs => evCopy P pu t vs s
  | .len, [t], [v] => fstO s (evLen P t v)
  | .max, _, v :: y :: r => fstO s (foldO max2 v (y :: r))
  | .min, _, v :: y :: r => fstO s (foldO min2 v (y :: r))
  | _, _, _ => none

def evBinC (P : Program) (op : BinOp) (ty : TypeId) (x y : Operand) : Option Value → Option Value → Option TV
  | some u, some v => ((pureP P (do eqGuard op ty x y u v; binOp op ty u v)).bind ofV).map sc
  | _, _ => none
def ptrEq (P : Program) (op : BinOp) (ty : TypeId) (e : Bool) : Option TV :=
  match P.underlying ty, op with
  | some (.pointer _), .eql => some (sc (.bool e))
  | some (.pointer _), .neq => some (sc (.bool (!e)))
  | _, _ => none
def bigE (P : Program) (ty : TypeId) : Bool := match P.underlying ty with
  | some (.pointer e) => match szOf P e with
    | some n => !Nat.beq n 0
    | none => false
  | _ => false
def ptrEqO (P : Program) (op : BinOp) (ty : TypeId) : Option Bool → Option TV
  | some e => bif bigE P ty then ptrEq P op ty e else none
  | none => none
def evBin (P : Program) (op : BinOp) (ty : TypeId) (x y : Operand) : Option TV → Option TV → Option TV
  | some (.one _ (.ptr p)), some (.one _ (.ptr .nil)) => ptrEq P op ty p.isNil
  | some (.one _ (.ptr p)), some (.one _ (.ptr q)) => ptrEqO P op ty (peq p q)
  | some a, some b => evBinC P op ty x y a.conc b.conc
  | _, _ => none
def evUn (P : Program) (op : UnOp) : Option TV → Option TV
  | some a => (a.conc.bind fun u => (pureP P (Op.unary op u)).bind ofV).map sc
  | none => none
def evConv (P : Program) (a b : TypeId) : Option TV → Option TV
  | some v => (v.conc.bind fun u => (pureP P (convert a b u)).bind ofV).map sc
  | none => none

def setO (s : St) (d : Option Tmp) : Option TV → Option St
  | some v => some (setT s d v)
  | none => none
def setQ (d : Option Tmp) : Option (TV × St) → Option St
  | some (v, s) => some (setT s d v)
  | none => none
def cpO : Option TV → Option TV
  | some v => some v.cp
  | none => none
def takeF (t : Tmp) (s : St) (d : Option Tmp) : Option TV → Option St
  | some v => some (setT { s with t := put t v.leave s.t } d v)
  | none => none
def placeF (t : Tmp) : Option TV → Option TV
  | some (.one (.own (_ + 1)) (.sl _ xs)) => some (sc (.at_ (.tmp t) 0 xs.length))
  | _ => none
def evMove (P : Program) (hm : Hm) (ty : TypeId) (d : Option Tmp) (s : St) (x : Operand) : Option St :=
  match hm, x with
  | .take, .tmp t => takeF t s d (find t s.t)
  | .place, .tmp t => setO s d (placeF t (find t s.t))
  | _, x => setO s d (cpO (opnd P s ty x))
def pickF : Option TV → Option TV → Option TV → Option TV
  | some (.one _ (.bool t)), a, b => if t then a else b
  | _, _, _ => none
def allocF (pu : Pu) (heap : Bool) (d : Option Tmp) (s : St) : Option (List MC) → Option St
  | some z => if heap then (if pu.ob then none else let s1 := s.kill (if anyOwned z then isBl else noMd) (ofObj s.h.length); some (setT { s1 with h := s1.h ++ [z] } d (sc (.ptr (.at s.h.length 0)))))
      else match d with
        | some t => if inL t pu.lc then none else let s1 := s.kill noMd (ofLoc t); some (setT { s1 with l := put t z s1.l } d (sc (.loc t 0)))
        | none => none
  | none => none
def boxF (pu : Pu) (heap : Bool) (d : Option Tmp) (s : St) : Option TV → Option St
  | some v => let cs := v.cells
      match v with
      | .tup _ => none
      | _ => if heap then (if pu.ob || !(cs.all keepC) then none else
          let s1 := s.kill (if anyOwned cs then isBl else noMd) (ofObj s.h.length)
          some (setT { s1 with h := s1.h ++ [cs] } d (sc (.ptr (.at s.h.length 0)))))
        else if cs.all fun c => c.2.plain then allocF pu false d s (some cs) else none
  | none => none
def partsOf (P : Program) (t : TypeId) : Option (Nat → Option (Nat × Nat)) :=
  match P.underlying t with
  | some (.struct fs) => match fieldsOf P fs.toList with
    | some l => some fun i => l[i]?
    | none => none
  | some (.array _ e) => match szOf P e with
    | some z => some fun i => some (i * z, z)
    | none => none
  | _ => none
def aggO : Option (List MC) → Option TV
  | some cs => some (.agg cs)
  | none => none
def fillO (z : List MC) (l : List (Nat × List MC)) : Option (Nat → Option (Nat × Nat)) → Option (List MC)
  | some pl => fillAll pl z l
  | none => none
def buildF (P : Program) (t : TypeId) (ix : List Nat) (d : Option Tmp) : Option (List MC) → Option (List TV × St) → Option St
  | some z, some (vs, s) => if vs.all noTup then setO s d (aggO (fillO z (ix.zip (vs.map TV.cells)) (partsOf P t))) else none
  | _, _ => none
def slDepth : MC → Nat → Nat
  | (.own d, .sl _ _), m => min m d
  | _, m => m
def minDepth : Nat → List MC → Nat
  | m, [] => m
  | m, c :: r => minDepth (slDepth c m) r
def okPart (n : Nat) (v : TV) : Bool := v.cells.length == n && v.cells.all keepC
def litF (P : Program) (e : TypeId) (n : Nat) (len : Nat) (ix : List Nat) (d : Option Tmp) : Option (List TV × St) → Option St
  | some (vs, s) => if ix = List.range len ∧ vs.all (okPart n) = true ∧ len * n ≤ 2 ^ 24 ∧ n ≠ 0 then
      some (setT s d (.one (.own (minDepth (nest P typeFuel e) (vs.flatMap TV.cells) + 1)) (.sl n (vs.map fun v => v.cells.map (·.2)))))
    else none
  | none => none
def evLit (P : Program) (t : TypeId) (len : Nat) (ix : List Nat) (d : Option Tmp) (q : Option (List TV × St)) : Option St :=
  match P.underlying t with
  | some (.slice e) => match szOf P e, zeroOf P e with
    | some n, some z => if z.length = n then litF P e n len ix d q else none
    | _, _ => none
  | _ => none
def isLocA : AV → Bool
  | .loc _ _ => true
  | _ => false
def loadF (P : Program) (pu : Pu) (hm : Hm) (t : TypeId) (s : St) : Option TV → Option (TV × St)
  | some (.one _ a) => if (pu.ob && !isLocA a) && hm = .take then none else evLoad P hm t a s
  | _ => none
def storeF (P : Program) (pu : Pu) (t : TypeId) (s : St) : Option TV → Option TV → Option St
  | some (.one _ a), some v => evStore P pu t a v s
  | _, _ => none
def nilF : Option TV → Option TV
  | some (.one _ (.ptr (.at id off))) => some (sc (.ptr (.at id off)))
  | some (.one _ (.loc id off)) => some (sc (.loc id off))
  | some (.one _ (.el r i off)) => some (sc (.el r i off))
  | some (.one _ (.rd mo mi cs off)) => some (sc (.rd mo mi cs off))
  | _ => none
def makeF (P : Program) (t : TypeId) : Option TV → Option TV → Option TV
  | some (.one _ (.int _ n)), some (.one _ (.int _ m)) => match P.underlying t with
    | some (.slice e) => match zeroOf P e, szOf P e, byOf P e with
      | some z, some k, some zb => if 0 ≤ n ∧ n ≤ m ∧ m * zb ≤ roomBytes ∧ m < 2 ^ 63 ∧ z.length = k ∧ k ≠ 0 then
          some (.one (.own (nest P typeFuel e + 1)) (.sl k (List.replicate n.toNat (z.map (·.2)))))
        else none
      | _, _, _ => none
    | _ => none
  | _, _ => none
def sliceF (P : Program) (t : TypeId) (lo hi : Option Operand) (s : St) : Option TV → Option (TV × St)
  | some v => evSlice P t v lo hi s
  | none => none
def fieldAddrF (P : Program) (t : TypeId) (f : Nat) : Option TV → Option TV
  | some v => evFieldAddr P t v f
  | none => none
def fieldF (P : Program) (t : TypeId) (f : Nat) : Option TV → Option TV
  | some v => match fieldOf P t f with
    | some (ty, off, _) => evPart P ty v off
    | none => none
  | none => none
def indexAddrF (P : Program) (s : St) (t : TypeId) : Option TV → Option TV → Option TV
  | some v, some (.one _ (.int _ n)) => evIndexAddr P s t v n
  | _, _ => none
def indexF (P : Program) (t : TypeId) : Option TV → Option TV → Option TV
  | some v, some (.one _ (.int _ n)) => match P.underlying t with
    | some .string => match v with
      | .one _ (.str b) => if 0 ≤ n then match b[n.toNat]? with
          | some c => some (sc (.int .u8 c.toNat))
          | none => none
        else none
      | _ => none
    | some (.array k e) => match szOf P e with
      | some z => if 0 ≤ n ∧ n < k then evPart P e v (n.toNat * z) else none
      | none => none
    | _ => none
  | _, _ => none
def extractF (t : Tmp) (i : Nat) (d : Option Tmp) (s : St) : Option TV → Option St
  | some (.tup vs) => match vs[i]? with
    | some v => some (setT { s with t := put t (.tup (vs.set i (leave1 v))) s.t } d v)
    | none => none
  | _ => none
def builtinF (P : Program) (pu : Pu) (b : Builtin) (ats : List TypeId) (d : Option Tmp) : Option (List TV × St) → Option St
  | some (vs, s) => setQ d (evBuiltin P pu b ats vs s)
  | none => none
def lenOf : Builtin → List TypeId → List Operand → Option (TypeId × Operand)
  | .len, [t], [x] => some (t, x)
  | _, _, _ => none
/-- a length leaves its slice where it stands -/
def callB (P : Program) (pu : Pu) (b : Builtin) (ats : List TypeId) (xs : List Operand) (d : Option Tmp) (s : St) : Option St := match lenOf b ats xs with
  | some (t, x) => setO s d ((opnd P s t x).bind (evLen P t))
  | none => builtinF P pu b ats d (opnds P (ats.zip xs) s)
/-- behind a call: what fell -/
def afterCall (pure own : Bool) (s : St) (h : Heap) : St :=
  let s1 := if pure then s else { s with h := h }.kill isBh rootedObj
  if own then s1.kill isBl noAV else s1
def frzIf (hm : Bool) (v : TV) : TV := match hm with
  | true => v.frz
  | false => v
def retF (hm : Bool) (pure own : Bool) (d : Option Tmp) (s : St) : Option (TV × Heap) → Option St
  | some (v, h) => some (setT (afterCall pure own s h) d (frzIf hm v))
  | none => none
def callF (hm : Bool) (pu : Pu) (pure : Bool) (call : CallF) (f : FuncId) (own : Bool) (d : Option Tmp) (s : St) : Option (List TV) → Option St
  | some args => if pu.ob && !pure then none else retF hm pure own d s (call f args s.h)
  | none => none
def ownArgs (vs : List TV) : Bool := vs.any fun v => anyOwned v.cells
def callF0 (hm : Bool) (pu : Pu) (pure : Bool) (call : CallF) (f : FuncId) (d : Option Tmp) : Option (List TV × St) → Option St
  | some (vs, s) => callF hm pu pure call f (ownArgs vs) d s (mapO (passT (ownArgs vs)) vs)
  | none => none

/-- walks over strings -/
def rangeF (P : Program) (t : TypeId) (d : Option Tmp) (s : St) : Option TV → Option St
  | some (.one _ (.str b)) => match P.underlying t with
    | some .string => some (setT s d (sc (.it b 0)))
    | _ => none
  | _ => none
def nextS (t : Tmp) (b : ByteArray) (pos : Nat) (s : St) : St := { s.kill isBh noAV with t := put t (sc (.it b pos)) (s.kill isBh noAV).t }
def nextF (d : Option Tmp) (t : Tmp) (s : St) : Option TV → Option St
  | some (.one _ (.it b pos)) => if pos < b.size then
      some (setT (nextS t b (pos + (Utf8.decode b pos).2) s) d (.tup [sc (.bool true), sc (.int .i64 pos), sc (.int .i32 (Utf8.decode b pos).1)]))
    else some (setT s d (.tup [sc (.bool false)]))
  | _ => none

/-- bytes as a string -/
def byteOf : List AV → Option UInt8
  | [.int .u8 n] => some (UInt8.ofNat n.toNat)
  | _ => none
def bytesOf : List (List AV) → ByteArray → Option ByteArray
  | [], b => some b
  | x :: r, b => match byteOf x with
    | some c => bytesOf r (b.push c)
    | none => none
def isSlT (P : Program) (t : TypeId) : Bool := match P.underlying t with
  | some (.slice _) => true
  | _ => false
def isArrT (P : Program) (t : TypeId) : Bool := match P.underlying t with
  | some (.array _ _) => true
  | _ => false
def isU8 : Option TypeDesc → Bool
  | some (.int .u8) => true
  | _ => false
def isStrT : Option TypeDesc → Bool
  | some .string => true
  | _ => false
def strF (P : Program) (a b : TypeId) : Option TV → Option TV
  | some (.one _ (.sl 1 xs)) => match P.underlying a with
    | some (.slice e) => if isU8 (P.underlying e) = true ∧ isStrT (P.underlying b) = true then
        (bytesOf xs ByteArray.empty).map fun s => sc (.str s)
      else none
    | _ => none
  | _ => none
/-- a part of an array: its box is given up -/
def slArrF (P : Program) (pu : Pu) (t : TypeId) (lo hi : Option Operand) (s : St) : Option TV → Option (TV × St)
  | some (.one _ (.loc b 0)) => match P.underlying t with
    | some (.array n e) => match szOf P e, find b s.l with
      | some 1, some cs => if cs.length = n ∧ (cs.all fun c => c.2.scalar) = true ∧ inL b pu.lc = false then
          subF (bound P s 0 n lo) (bound P s n n hi) fun l h => some (.one (.own 0) (.sl 1 (((cs.take h).drop l).map fun c => [c.2])), { s with l := drop1 b s.l })
        else none
      | _, _ => none
    | _ => none
  | _ => none
/-- nothing, held at one level -/
def capC : MC → MC
  | (.own (_ + 1), .sl z []) => (.own 1, .sl z [])
  | c => c
def zeroC (b : Bool) (P : Program) (t : TypeId) : Option (List MC) := bif b then (zeroOf P t).map (·.map capC) else zeroOf P t
/-- what a new box holds: shared from the first, if a hint says so -/
def zeroZ (b : Bool) (P : Program) (t : TypeId) : Option (List MC) := bif b then (zeroOf P t).map fun z => z.map fun c => (c.1.frz, c.2) else zeroOf P t
def evOp (X : Cx) (pu : Pu) (call : CallF) (h : Hint) (o : Oper) (s : St) : Option St :=
  match o.op with
  | .move x => evMove X.P h.m o.type o.dst s x
  | .assign x => setO (used s x) o.dst (opndK h.cap X.P s o.type x)
  | .pick c a b => setO s o.dst (cpO (pickF (opnd X.P s 0 c) (opnd X.P s o.type a) (opnd X.P s o.type b)))
  | .alloc e => allocF pu h.heap o.dst s (zeroZ (h.fz && !h.heap) X.P e)
  | .box e x => boxF pu h.heap o.dst (used s x) (opnd X.P s e x)
  | .build t parts => buildF X.P t (parts.toList.map fun (p : Nat × Operand) => p.1) o.dst (zeroC h.cap X.P t) (opnds X.P (parts.toList.map fun (p : Nat × Operand) => (0, p.2)) s)
  | .buildSlice t len parts => evLit X.P t len (parts.toList.map fun (p : Nat × Operand) => p.1) o.dst (opnds X.P (parts.toList.map fun (p : Nat × Operand) => (0, p.2)) s)
  | .load t a => setQ o.dst (loadF X.P pu h.m t s (opnd X.P s 0 a))
  | .store t a x => match o.dst with
    | none => storeF X.P pu t (used s x) (opnd X.P s 0 a) (opndZ h.fz X.P s t x)
    | some _ => none
  | .nilCheck x => setO s o.dst (nilF (opnd X.P s 0 x))
  | .binOp op t x y _ => setO s o.dst (evBin X.P op t x y (opnd X.P s t x) (opnd X.P s t y))
  | .unOp op t x => setO s o.dst (evUn X.P op (opnd X.P s t x))
  | .convert a b x => bif isSlT X.P a then setO s o.dst (strF X.P a b (opnd X.P s a x)) else setO s o.dst (evConv X.P a b (opnd X.P s a x))
  | .makeSlice t l c => setO s o.dst (makeF X.P t (opnd X.P s 0 l) (opnd X.P s 0 c))
  | .slice t x lo hi none => bif isArrT X.P t then setQ o.dst (slArrF X.P pu t lo hi s (opnd X.P s 0 x)) else setQ o.dst (sliceF X.P t lo hi (used s x) (opnd X.P s 0 x))
  | .fieldAddr t x f => setO s o.dst (fieldAddrF X.P t f (opnd X.P s 0 x))
  | .field t x f => setO s o.dst (fieldF X.P t f (opnd X.P s t x))
  | .indexAddr t x i => setO s o.dst (indexAddrF X.P s t (opnd X.P s t x) (opnd X.P s 0 i))
  | .index t x i => setO s o.dst (indexF X.P t (opnd X.P s t x) (opnd X.P s 0 i))
  | .extract (.tmp t) i => extractF t i o.dst s (find t s.t)
  | .range t x => rangeF X.P t o.dst s (opnd X.P s t x)
  | .next (.tmp t) true => nextF o.dst t s (find t s.t)
  | .call { callee := .builtin b, args, argTypes } => callB X.P pu b argTypes.toList args.toList o.dst s
  | .call { callee := .value (.func f), args, argTypes } => callF0 h.frz pu (X.leaves f) call f o.dst (opnds X.P (argTypes.toList.zip args.toList) s)
  | _ => none

inductive Ex where
  | nrm | exit (id : Nat) | ret
  deriving DecidableEq, Inhabited

/-- is an operation wanted? -/
def wantF (want : Bool) : Option TV → Option Bool
  | some (.one _ (.bool b)) => some (b == want)
  | some (.tup _) => some false
  | _ => none
def wantA (ops : List Oper) (s : St) : Option (Nat × Bool) → Option Bool
  | none => some true
  | some (j, want) => match ops[j]? with
    | some g => match g.dst with
      | some d => wantF want (find d s.t)
      | none => none
    | none => none
/-- a slot's value is shared from now on -/
def fzS (d : Tmp) (s : St) : St := match find d s.t with
  | some v => setT { s with t := put d v.leave s.t } (some d) v.frz
  | none => s
def fzD (d : Option Tmp) (s : St) : St := match d with
  | some d => fzS d s
  | none => s
def fzO (b : Bool) (d : Option Tmp) (q : Option St) : Option St := bif b then q.map (fzD d) else q
def evOpZ (X : Cx) (pu : Pu) (call : CallF) (h : Hint) (o : Oper) (s : St) : Option St := fzO h.fz o.dst (evOp X pu call h o s)
def stepA (X : Cx) (pu : Pu) (call : CallF) (h : Hint) (o : Oper) (s : St) : Option Bool → Option St
  | some true => evOpZ X pu call h o s
  | some false => some (setT s o.dst (.tup []))
  | none => none
def evOps (X : Cx) (pu : Pu) (call : CallF) (fn id : Nat) (ops : List Oper) : Nat → List Oper → Option St → Option St
  | _, _, none => none
  | _, [], some s => some s
  | i, o :: r, some s => evOps X pu call fn id ops (i + 1) r (stepA X pu call (X.hint fn id i) o s (wantA ops s o.guard))

/-- operations that only tell a value -/
def quietO (P : Program) (o : Oper) : Bool := match o.op with
  | .convert a _ _ => !isSlT P a
  | .slice t _ _ _ _ => !isArrT P t
  | .move _ | .assign _ | .pick .. | .build .. | .nilCheck _ | .binOp .. | .unOp .. | .fieldAddr .. | .field .. | .indexAddr .. | .index .. | .extract .. => true
  | .call { callee := .builtin b, .. } => match b with
    | .len | .max | .min => true
    | _ => false
  | _ => false
def isLoad (o : Oper) : Bool := match o.op with
  | .load .. => true
  | _ => false
/-- a load that nothing in its region can disturb -/
def quietLd (pu : Pu) : Option TV → Bool
  | some (.one _ (.ptr _)) => pu.ob
  | some (.one _ (.loc t _)) => inL t pu.lc
  | some (.one _ (.el (.obj _ _) _ _)) => pu.ob
  | some (.one _ (.rd .ro _ _ _)) => true
  | some (.one _ (.rd (.own 0) _ _ _)) => true
  | some (.one _ (.rd .bh _ _ _)) => pu.ob
  | _ => false
def quietA (P : Program) (pu : Pu) (st : Bool) (o : Oper) (s : St) : Bool := match o.op with
  | .load _ a => st || quietLd pu (opnd P s 0 a)
  | _ => quietO P o
def stepI (X : Cx) (pu : Pu) (call : CallF) (fn id : Nat) (ops : List Oper) (i : Nat) : Option St → Option St
  | some s => match ops[i]? with
    | some o => stepA X pu call (X.hint fn id i) o s (wantA ops s o.guard)
    | none => none
  | none => none
def takeA (X : Cx) (pu : Pu) (st : Bool) (call : CallF) (h : Hint) (o : Oper) (s : St) : Option Bool → Option St
  | some true => if quietA X.P pu st o s = true then evOpZ X pu call h o s else none
  | some false => some (setT s o.dst (.tup []))
  | none => none
def takeI (X : Cx) (pu : Pu) (st : Bool) (call : CallF) (fn id : Nat) (ops : List Oper) (i : Nat) : Option St → Option St
  | some s => match ops[i]? with
    | some o => takeA X pu st call (X.hint fn id i) o s (wantA ops s o.guard)
    | none => none
  | none => none
open Classical in
noncomputable def agree (p q : Option St) : Option St := if p = q then p else none
theorem agree_same (p : Option St) : agree p p = p := by unfold agree; rw [if_pos rfl]
noncomputable def evSch (X : Cx) (pu : Pu) (st : Bool) (call : CallF) (fn id : Nat) (ops : List Oper) : Sch → Option St → Option St
  | .done, q => q
  | .take i n, q => evSch X pu st call fn id ops n (takeI X pu st call fn id ops i q)
  | .last i n, q => evSch X pu st call fn id ops n (stepI X pu call fn id ops i q)
  | .alt i n r, q => agree (evSch X pu st call fn id ops n (stepI X pu call fn id ops i q)) (evSch X pu st call fn id ops r q)
def Sch.heads : Sch → List Nat
  | .last i _ => [i]
  | .alt i _ r => i :: r.heads
  | _ => []
def okSch (ops : Array Oper) : Bool → Nat → Array Bool → Sch → Bool
  | _, _, listed, .done => (Region.ready .any ops listed).isEmpty
  | _, 0, _, _ => false
  | _, f + 1, listed, .take i n => (Region.ready .any ops listed).contains i && Region.free .any ops listed i && okSch ops false f (listed.setIfInBounds i true) n
  | inb, f + 1, listed, .last i n => (inb || Region.ready .any ops listed == [i]) && okSch ops false f (listed.setIfInBounds i true) n
  | inb, f + 1, listed, .alt i n r => (inb || Region.ready .any ops listed == i :: r.heads) && okSch ops false f (listed.setIfInBounds i true) n && okSch ops true (f + 1) listed r
def okDrawn (X : Cx) (fn id : Nat) (ops : Array Oper) : Bool :=
  Region.noSelect ops && okSch ops false ops.size (Array.replicate ops.size false) (X.sch fn id) && (!X.rst fn id || ops.toList.all fun o => quietO X.P o || isLoad o)

def iterF (f : St → Option (Ex × St)) : Option (Ex × St) → Option (Ex × St)
  | some (.nrm, s) => f s
  | q => q
def iter (f : St → Option (Ex × St)) : Nat → St → Option (Ex × St)
  | 0, _ => none
  | k + 1, s => iterF (iter f k) (f s)
def St.drop (d : List Nat × List Nat) (s : St) : St := { s with t := dropAll d.1 s.t, l := dropAll d.2 s.l }
def firstR : Code → Nat
  | .region id _ _ => id + 1
  | .seq a b => bif Nat.beq (firstR a) 0 then firstR b else firstR a
  | .cond _ a b => bif Nat.beq (firstR a) 0 then firstR b else firstR a
  | .block _ c => firstR c
  | .loop c => firstR c
  | .scope c => firstR c
  | _ => 0
def keyC (x : Operand) (a b : Code) : Nat × Nat × Nat := (match x with
  | .tmp t => t
  | _ => 0, firstR a, firstR b)
def endR (dead : List Nat × List Nat) : Option St → Option (Ex × St)
  | some s => some (.nrm, s.drop dead)
  | none => none
def endB (id : Nat) : Option (Ex × St) → Option (Ex × St)
  | some (.exit j, s) => if j = id then some (.nrm, s) else some (.exit j, s)
  | q => q
def condF (a b : St → Option (Ex × St)) (s : St) : Option TV → Option (Ex × St)
  | some (.one _ (.bool t)) => if t then a s else b s
  | _ => none

abbrev It := (St → Option (Ex × St)) → St → Option (Ex × St)
def itK (k : Nat) : It := fun f s => iter f k s
noncomputable def evC (X : Cx) (pu : Pu) (call : CallF) (it : It) (fn : Nat) : Code → St → Option (Ex × St)
  | .skip, s => some (.nrm, s)
  | .region id ops dr, s => endR (X.dead fn id) (if dr then evSch X ⟨pu.ob || X.rpu fn id, pu.lc ++ X.rlc fn id⟩ (X.rst fn id) call fn id ops.toList (X.sch fn id) (some s) else evOps X pu call fn id ops.toList 0 ops.toList (some s))
  | .seq a b, s => iterF (evC X pu call it fn b) (evC X pu call it fn a s)
  | .cond c a b, s => condF (fun s => evC X pu call it fn a (s.drop (X.deadC fn (keyC c a b) true))) (fun s => evC X pu call it fn b (s.drop (X.deadC fn (keyC c a b) false))) s (opnd X.P s 0 c)
  | .block id c, s => endB id (evC X pu call it fn c s)
  | .loop c, s => it (evC X pu call it fn c) s
  | .scope c, s => evC X pu call it fn c s
  | .exit id, s => some (.exit id, s)
  | .ret, s => some (.ret, s)
  | _, _ => none

/-- what is handed back: each result is taken out of its slot -/
def takes (P : Program) : List ResultVar → St → Option (List TV)
  | [], s => some []
  | .tmp t :: rs, s => match find t s.t with
    | some v => match retT v, takes P rs { s with t := put t v.leave s.t } with
      | some u, some us => some (u :: us)
      | _, _ => none
    | none => none
  | .cell t ty :: rs, s => match find t s.t with
    | some (.one _ (.loc b off)) => match find b s.l, isAggT P ty, szOf P ty with
      | some cs, some agg, some n => match cellsAt cs off n with
        | some p => match mkT agg p with
          | some v => match retT v, takes P rs { s with l := put b (setAt cs off (p.map leaveC)) s.l } with
            | some u, some us => some (u :: us)
            | _, _ => none
          | none => none
        | none => none
      | _, _, _ => none
    | _ => none
def results (P : Program) (rs : List ResultVar) (s : St) : Option TV := match takes P rs s with
  | some [] => some (.tup [])
  | some [v] => some v
  | some vs => some (.tup vs)
  | none => none
def number {α : Type} : Nat → List α → List (Nat × α)
  | _, [] => []
  | k, a :: r => (k, a) :: number (k + 1) r

def bodyF (P : Program) (pure : Bool) (h : Heap) (rs : List ResultVar) : Option (Ex × St) → Option (TV × Heap)
  | some (.exit _, _) => none
  | some (_, s) => match results P rs s with
    | some v => if pure then (if s.h.length = h.length then some (v, h) else none) else some (v, s.h)
    | none => none
  | none => none
def frzR (z : Bool) : Option (TV × Heap) → Option (TV × Heap)
  | some (v, h) => some (frzIf z v, h)
  | none => none
/-- what is asked of a function's text, once and for all -/
def okOper (n : Nat) (o : Oper) : Bool :=
  (match o.dst with
    | some d => decide (d < n)
    | none => true) &&
  (match o.op with
    | .call c => decide (c.args.size ≤ c.argTypes.size)
    | _ => true)
def okCode (X : Cx) (f n : Nat) : Code → Bool
  | .region id ops dr => ops.toList.all (okOper n) && (!dr || okDrawn X f id ops)
  | .seq a b => okCode X f n a && okCode X f n b
  | .cond _ a b => okCode X f n a && okCode X f n b
  | .block _ c => okCode X f n c
  | .loop c => okCode X f n c
  | .scope c => okCode X f n c
  | _ => true
def okBody (X : Cx) (f : Nat) (fn : Func) (c : Code) : Bool := (fn.name != "runtime.NumGoroutine") && (okCode X f fn.ntmps c && !X.two f)
def okBody2 (X : Cx) (f : Nat) (fn : Func) (c : Code) : Bool := (fn.name != "runtime.NumGoroutine") && (okCode X f fn.ntmps c && X.two f)
/-! a function that asks whether a slice is nil: an empty list may be told by either, so both ways are gone -/
def nilOp (P : Program) (o : Oper) : Option (Tmp × TypeId × Operand) := match o.guard, o.dst, o.op with
  | none, some d, .binOp .eql t x (.const (.slice none 0 0)) _ => match P.underlying t with
    | some (.slice _) => some (d, t, x)
    | _ => none
  | _, _, _ => none
open Classical in
noncomputable def agreeR {R : Type} (p q : Option R) : Option R := if p = q then p else none
def call0 : CallF := fun _ _ _ => none
noncomputable def evOpsK {R : Type} (X : Cx) (pu : Pu) (fn id : Nat) (ops : List Oper) : Nat → List Oper → (St → Option R) → St → Option R
  | _, [], k, s => k (s.drop (X.dead fn id))
  | i, o :: l, k, s => match nilOp X.P o with
    | some (d, t, x) => match opnd X.P s t x with
      | some (.one _ (.sl _ xs)) => if xs.isEmpty then agreeR (evOpsK X pu fn id ops (i + 1) l k (setT s (some d) (sc (.bool true)))) (evOpsK X pu fn id ops (i + 1) l k (setT s (some d) (sc (.bool false)))) else evOpsK X pu fn id ops (i + 1) l k (setT s (some d) (sc (.bool false)))
      | _ => none
    | none => match stepA X pu call0 (X.hint fn id i) o s (wantA ops s o.guard) with
      | some s1 => evOpsK X pu fn id ops (i + 1) l k s1
      | none => none
noncomputable def evK {R : Type} (X : Cx) (pu : Pu) (fn : Nat) (fin : St → Option R) : Code → (St → Option R) → St → Option R
  | .skip, k, s => k s
  | .region id ops false, k, s => evOpsK X pu fn id ops.toList 0 ops.toList k s
  | .seq a b, k, s => evK X pu fn fin a (fun s => evK X pu fn fin b k s) s
  | .cond c a b, k, s => match opnd X.P s 0 c with
    | some (.one _ (.bool t)) => if t then evK X pu fn fin a k (s.drop (X.deadC fn (keyC c a b) true)) else evK X pu fn fin b k (s.drop (X.deadC fn (keyC c a b) false))
    | _ => none
  | .ret, _, s => fin s
  | _, _, _ => none
noncomputable def evBody2 (X : Cx) (f : FuncId) (fn : Func) (c : Code) (args : List TV) (h : Heap) : Option (TV × Heap) :=
  if okBody2 X f fn c = true then frzR (X.frz f) (evK X ⟨X.pure f, []⟩ f (fun s => bodyF X.P (X.pure f) h fn.results.toList (some (.ret, s))) c (fun s => bodyF X.P (X.pure f) h fn.results.toList (some (.nrm, s))) { t := number 0 args, l := [], h := h }) else none
noncomputable def evBody (X : Cx) (call : CallF) (it : It) (f : FuncId) (args : List TV) (h : Heap) : Option (TV × Heap) :=
  match X.P.funcs[f]? with
  | some fn => match fn.body with
    | some c => if okBody X f fn c = true then frzR (X.frz f) (bodyF X.P (X.pure f) h fn.results.toList (evC X ⟨X.pure f, []⟩ call it f c { t := number 0 args, l := [], h := h })) else evBody2 X f fn c args h
    | none => none
  | none => none

/-- a function that a contract tells leaves the objects as they are -/
def ctO (h : Heap) (q : Option (TV × Heap)) : Option TV → Option (TV × Heap)
  | some v => some (v, h)
  | none => q
/-- no pointer to an object within -/
def AV.np : Nat → AV → Bool
  | 0, _ => false
  | n + 1, .sl _ xs => xs.all fun x => x.all (AV.np n)
  | _, .ptr p => p.isNil
  | _, a => a.plain
def aloneM (m : Md) : Bool := match m with
  | .top | .ro | .bl | .own 0 => true
  | _ => false
def aloneA (m : Md) : AV → Bool
  | .sl _ _ => aloneM m
  | _ => true
def aloneIn1 : TV → Bool
  | .one m a => aloneA m a && AV.np 4 a
  | .agg cs => cs.all fun c => aloneA c.1 c.2 && AV.np 4 c.2
  | .tup _ => false
def aloneC (c : MC) : Bool := match c.1 with
  | .bh => false
  | _ => AV.np 4 c.2
def aloneO (args : List TV) (h : Heap) : Option (TV × Heap) → Option (TV × Heap)
  | some (v, _) => if args.all aloneIn1 = true ∧ v.all.all aloneC = true then some (v, h) else none
  | none => none
noncomputable def evG (X : Cx) (call : CallF) (it : It) (f : FuncId) (args : List TV) (h : Heap) : Option (TV × Heap) :=
  bif X.alone f then aloneO args h (evBody X call it f args []) else evBody X call it f args h
noncomputable def evF (X : Cx) : Nat → CallF
  | 0, _, _, _ => none
  | k + 1, f, args, h => ctO h (evG X (evF X k) (itK k) f args h) (X.ct f args)

end Go.Proofs.Abs
/- How the abstract machine's values stand to the model's memory. -/
namespace Go.Proofs.Abs
open Go
set_option linter.unusedVariables false

/-- whose a path begins at: an object, a box of this frame, a slot of this frame, a value on its way -/
inductive Rk where
  | obj (id : Nat) | loc (t : Nat) | tmp (t : Nat) | lim (i : Nat)
  deriving DecidableEq
/-- whose a block is: for ever unwritten; of the callers'; of one slice, or one object, or one box -/
inductive Ow where
  | shared | ext | itr | pth (r : Rk) (π : List Nat)
  deriving DecidableEq

structure Gh where
  n : Nat                        -- how many objects
  φ : Nat → Nat                  -- an object's block
  ψ : Nat → Nat                  -- a box's block
  own : Nat → Ow
  fr : Nat → Nat                 -- how far a block's cells stand
  hd : Rt → Nat × Nat × Nat × Nat -- where the slice that stands at a root begins, its elements' size, its room

def Rk.isObj : Rk → Bool
  | .obj _ => true
  | _ => false

/-- may a slice of this mode, at this path, lie in block b, up to e? -/
def okB (g : Gh) (m : Md) (r : Rk) (π : List Nat) (b e : Nat) : Prop :=
  match m with
  | .top => False
  | .own (_ + 1) => g.own b = .pth r π ∧ g.fr b = e
  | .own 0 => g.own b = .shared
  | .ro => g.own b = .shared ∨ g.own b = .ext
  | .bl => g.own b = .shared ∨ g.own b = .ext ∨ ∃ r π, g.own b = .pth r π ∧ r.isObj = false ∧ e ≤ g.fr b
  | .bh => g.own b = .shared ∨ ∃ r π, g.own b = .pth r π ∧ r.isObj = true ∧ e ≤ g.fr b

def ptr (b o : Nat) : Value := .pointer (some ⟨b, o, none⟩)
abbrev cel (w : World) (b o : Nat) : Option Value := w.cell? ⟨b, o, none⟩
def free (w : World) (b o : Nat) : Prop := (cel w b o).isSome = true ∧ w.frozen? ⟨b, o, none⟩ = false

/-- what may be kept in memory -/
inductive KC (w : World) (g : Gh) : Md → Rk → List Nat → AV → Value → Prop
  | junk {m r π v} (h : v.oneCell' = true) : KC w g m r π .junk v
  | bool {m r π b} : KC w g m r π (.bool b) (.bool b)
  | int {m r π k n} : KC w g m r π (.int k n) (.int k n)
  | str {m r π s} : KC w g m r π (.str s) (.string s)
  | nilp {m r π} : KC w g m r π (.ptr .nil) (.pointer none)
  | obj {m r π id off} (h : id < g.n) : KC w g m r π (.ptr (.at id off)) (ptr (g.φ id) off)
  | nil {m r π z} (hm : m ≠ .top) : KC w g m r π (.sl z []) (.slice none 0 0)
  | emp {m r π z a cap} (hm : m ≠ .top) (ho : m.owned = false) : KC w g m r π (.sl z []) (.slice (some a) 0 cap)
  | sl {m r π z xs b o cap} (vs : Nat → Nat → Value) (hb : b < w.heap.size) (hok : okB g m r π b (o + xs.length * z)) (hz : ∀ x, x ∈ xs → x.length = z)
      (hcap : xs.length ≤ cap) (room : m.owned = true → ∀ j, j < cap * z → free w b (o + j))
      (hc : ∀ i x j a, xs[i]? = some x → x[j]? = some a → cel w b (o + i * z + j) = some (vs i j))
      (hr : ∀ i x j a, xs[i]? = some x → x[j]? = some a → KC w g m.inner r (π ++ [i, j]) a (vs i j)) :
      KC w g m r π (.sl z xs) (.slice (some ⟨b, o, none⟩) xs.length cap)

/-- what a slot, or a box, may hold besides -/
inductive Lent (w : World) (g : Gh) : AV → Value → Prop
  | loc {t off} : Lent w g (.loc t off) (ptr (g.ψ t) off)
  | el {q i off} : Lent w g (.el q i off) (ptr (g.hd q).1 ((g.hd q).2.1 + i * (g.hd q).2.2.1 + off))
  | at_ {q lo n a cap} (hc : n ≤ cap) (h : 0 < n → a = some ⟨(g.hd q).1, (g.hd q).2.1 + lo * (g.hd q).2.2.1, none⟩)
      (hx : a = none ∧ cap = 0 ∨ ∃ o', a = some ⟨(g.hd q).1, o', none⟩ ∧ lo + cap ≤ (g.hd q).2.2.2 ∧ (cap = 0 ∨ o' = (g.hd q).2.1 + lo * (g.hd q).2.2.1)) : Lent w g (.at_ q lo n) (.slice a n cap)
  | rd {mo mi cs off b o} (vs : Nat → Value) (hb : b < w.heap.size) (hmo : mo.owned = false) (hmi : mi.owned = false) (hok : okB g mo (.lim 0) [] b (o + cs.length))
      (hc : ∀ j a, cs[j]? = some a → cel w b (o + j) = some (vs j))
      (hr : ∀ j a, cs[j]? = some a → KC w g mi (.lim 0) [] a (vs j)) : Lent w g (.rd mo mi cs off) (ptr b (o + off))
  | it {s pos b} (hb : b < w.heap.size) (ho : g.own b = .itr) (hw : w.heap[b]? = some (.stringIter s pos)) : Lent w g (.it s pos) (ptr b 0)
def RC (w : World) (g : Gh) (m : Md) (r : Rk) (π : List Nat) (a : AV) (v : Value) : Prop := KC w g m r π a v ∨ Lent w g a v

theorem KC.oneCell {w g m r π a v} (h : KC w g m r π a v) : v.oneCell' = true := by
  cases h with
  | junk h => exact h
  | _ => rfl
theorem RC.oneCell {w g m r π a v} (h : RC w g m r π a v) : v.oneCell' = true := by
  rcases h with h | h
  · exact h.oneCell
  · cases h <;> rfl
theorem cells_one {v : Value} (h : v.oneCell' = true) : v.cells = #[v] := by cases v <;> first | rfl | cases h

def RCs (w : World) (g : Gh) (r : Rk) (π : List Nat) (cs : List MC) (vs : Array Value) : Prop :=
  vs.size = cs.length ∧ ∀ j c, cs[j]? = some c → ∃ u, vs[j]? = some u ∧ RC w g c.1 r (π ++ [j]) c.2 u

def RT1 (w : World) (g : Gh) (r : Rk) (π : List Nat) : TV → Value → Prop
  | .one m a, v => RC w g m r (π ++ [0]) a v
  | .agg cs, v => ∃ vs, v = .agg vs ∧ RCs w g r π cs vs
  | .tup [], v => v = .tuple #[]
  | .tup _, _ => False
def RT (w : World) (g : Gh) (r : Rk) : TV → Value → Prop
  | .tup tvs, v => ∃ vs : Array Value, v = .tuple vs ∧ vs.size = tvs.length ∧ ∀ (j : Nat) tv, tvs[j]? = some tv → ∃ u, vs[j]? = some u ∧ RT1 w g r [j] tv u
  | tv, v => RT1 w g r [] tv v

structure ObjR (w : World) (g : Gh) (id : Nat) (cs : List MC) : Prop where
  own : g.own (g.φ id) = .pth (.obj id) []
  blk : g.φ id < w.heap.size
  fr : g.fr (g.φ id) = 0
  md : ∀ c, c ∈ cs → c.1 = .top ∨ ∃ d, c.1 = .own d
  cell : ∀ j c, cs[j]? = some c → ∃ v, cel w (g.φ id) j = some v ∧ w.frozen? ⟨g.φ id, j, none⟩ = false ∧ KC w g c.1 (.obj id) [j] c.2 v
structure BoxR (w : World) (g : Gh) (t : Nat) (cs : List MC) : Prop where
  own : g.own (g.ψ t) = .pth (.loc t) []
  blk : g.ψ t < w.heap.size
  fr : g.fr (g.ψ t) = 0
  cell : ∀ j c, cs[j]? = some c → ∃ v, cel w (g.ψ t) j = some v ∧ w.frozen? ⟨g.ψ t, j, none⟩ = false ∧ RC w g c.1 (.loc t) [j] c.2 v

def valAt (a : Act) (w : World) (g : Gh) : Rt → Option Value
  | .obj id off => cel w (g.φ id) off
  | .loc t off => cel w (g.ψ t) off
  | .tmp t => some (a.tmps.getD t undef)

structure Rel (s : St) (fl : List (TV × Value)) (a : Act) (w : World) (g : Gh) : Prop where
  n : g.n = s.h.length
  fl : ∀ (i : Nat) x, fl[i]? = some x → RT w g (.lim i) x.1 x.2
  tm : ∀ t tv, find t s.t = some tv → RT w g (.tmp t) tv (a.tmps.getD t undef)
  bx : ∀ t cs, find t s.l = some cs → BoxR w g t cs
  hp : ∀ id cs, s.h[id]? = some cs → ObjR w g id cs
  hd : ∀ r d z xs, atRoot s r = some (.own (d + 1), .sl z xs) → ∀ b o sp len cap, valAt a w g r = some (.slice (some ⟨b, o, sp⟩) len cap) → g.hd r = (b, o, z, cap)

/-- what a step leaves as it was -/
def stay (pu : Pu) (o : Ow) : Prop := o = .shared ∨ o = .ext ∨ (pu.ob = true ∧ ∃ id π, o = .pth (.obj id) π) ∨ (∃ t, inL t pu.lc = true ∧ o = .pth (.loc t) [])
structure Le (pu : Pu) (w : World) (g : Gh) (w' : World) (g' : Gh) : Prop where
  size : w.heap.size ≤ w'.heap.size
  keep : ∀ b, b < w.heap.size → stay pu (g.own b) → w'.heap[b]? = w.heap[b]? ∧ g'.own b = g.own b ∧ g'.fr b = g.fr b
  new : ∀ b, w.heap.size ≤ b → b < w'.heap.size → g'.own b ≠ .ext
  ext : ∀ b, b < w.heap.size → g'.own b = .ext → g.own b = .ext
  n : g.n ≤ g'.n
  ids : ∀ id, id < g.n → g'.φ id = g.φ id
  os : w'.os = w.os
  tape : w'.tape = w.tape
  out : w'.output = w.output

theorem Le.refl (pu : Pu) (w : World) (g : Gh) : Le pu w g w g :=
  ⟨Nat.le_refl _, fun _ _ _ => ⟨rfl, rfl, rfl⟩, fun _ h1 h2 => absurd h2 (by omega), fun _ _ h => h, Nat.le_refl _, fun _ _ => rfl, rfl, rfl, rfl⟩
theorem Le.trans {pu : Pu} {w g w1 g1 w2 g2} (h : Le pu w g w1 g1) (k : Le pu w1 g1 w2 g2) : Le pu w g w2 g2 := by
  refine ⟨Nat.le_trans h.size k.size, fun b hb hs => ?_, fun b h1 h2 => ?_, fun b hb h3 => h.ext b hb (k.ext b (Nat.lt_of_lt_of_le hb h.size) h3), Nat.le_trans h.n k.n, fun id hi => (k.ids id (Nat.lt_of_lt_of_le hi h.n)).trans (h.ids id hi), k.os.trans h.os, k.tape.trans h.tape, k.out.trans h.out⟩
  · obtain ⟨a1, a2, a3⟩ := h.keep b hb hs
    obtain ⟨b1, b2, b3⟩ := k.keep b (Nat.lt_of_lt_of_le hb h.size) (a2 ▸ hs)
    exact ⟨b1.trans a1, b2.trans a2, b3.trans a3⟩
  · by_cases hb : b < w1.heap.size
    · exact fun he => h.new b h1 hb (k.ext b hb he)
    · exact k.new b (by omega) h2

/-! ### tables -/
theorem find_put_same {α : Type} (k : Nat) (x : α) : ∀ l, find k (put k x l) = some x
  | [] => by simp [put, find]
  | (j, y) :: r => by
    unfold put
    split
    · simp [find]
    · split
      · simp [find]
      · rename_i h1 h2; simp [find, h1, find_put_same k x r]
theorem find_put_other {α : Type} {k k' : Nat} (h : k' ≠ k) (x : α) : ∀ l, find k' (put k x l) = find k' l
  | [] => by simp [put, find, h]
  | (j, y) :: r => by
    unfold put
    split
    · rename_i e; subst e; simp [find, h]
    · split
      · simp [find, h]
      · simp only [find]; rw [find_put_other h x r]
theorem find_put {α : Type} (k k' : Nat) (x : α) (l) : find k' (put k x l) = if k' = k then some x else find k' l := by
  split
  · rename_i e; subst e; exact find_put_same _ _ _
  · rename_i e; exact find_put_other e _ _
theorem find_drop1 {α : Type} (k k' : Nat) : ∀ (l : List (Nat × α)), find k' (drop1 k l) = if k' = k then none else find k' l
  | [] => by simp [drop1, find]
  | (j, y) :: r => by
    unfold drop1
    split
    · rename_i e; subst e; rw [find_drop1 k k' r]; split
      · rfl
      · rename_i h; simp [find, h]
    · rename_i e; simp only [find]; split
      · rename_i e2; subst e2; simp [Ne.symm e]
      · rw [find_drop1 k k' r]
theorem find_dropAll {α : Type} (k' : Nat) (x : α) : ∀ (ks : List Nat) (l : List (Nat × α)), find k' (dropAll ks l) = some x → find k' l = some x
  | [], _, h => h
  | k :: ks, l, h => by
    have h1 := find_dropAll k' x ks (drop1 k l) h
    rw [find_drop1] at h1
    split at h1
    · cases h1
    · exact h1
theorem find_map {α β : Type} (f : α → β) (k : Nat) : ∀ (l : List (Nat × α)), find k (l.map fun kv => (kv.1, f kv.2)) = (find k l).map f
  | [] => rfl
  | (j, y) :: r => by
    simp only [List.map_cons, find]
    split
    · rfl
    · exact find_map f k r

/-! ### the workhorse: a kept value under another world, another ghost, another path, another mode -/
theorem KC.map {w w' : World} {g g' : Gh} {r r' : Rk} (T : Md → List Nat → Md → List Nat → Prop) (hs : w.heap.size ≤ w'.heap.size)
    (hid : ∀ id, id < g.n → id < g'.n ∧ g'.φ id = g.φ id)
    (hT : ∀ m π m' π', T m π m' π' → (m ≠ .top → m' ≠ .top) ∧ (m'.owned = true → m.owned = true) ∧
      (∀ b e, b < w.heap.size → okB g m r π b e → okB g' m' r' π' b e ∧ ∀ o, o < e → (cel w b o).isSome = true → cel w' b o = cel w b o) ∧
      (m'.owned = true → ∀ b e o, b < w.heap.size → okB g m r π b e → free w b o → free w' b o) ∧ ∀ i j, T m.inner (π ++ [i, j]) m'.inner (π' ++ [i, j])) :
    ∀ {m π a v}, KC w g m r π a v → ∀ {m' π'}, T m π m' π' → KC w' g' m' r' π' a v := by
  intro m π a v h
  induction h with
  | junk h => intros; exact .junk h
  | bool => intros; exact .bool
  | int => intros; exact .int
  | str => intros; exact .str
  | nilp => intros; exact .nilp
  | obj h => intros; obtain ⟨h1, h2⟩ := hid _ h; rw [← h2]; exact .obj h1
  | nil hm => intro m' π' t; exact .nil ((hT _ _ _ _ t).1 hm)
  | emp hm ho => intro m' π' t; exact .emp ((hT _ _ _ _ t).1 hm) (by cases hq : m'.owned with
    | false => rfl
    | true => have := (hT _ _ _ _ t).2.1 hq; rw [ho] at this; cases this)
  | @sl m r0 π z xs b o cap vs hb hok hz hcap room hc hr ih =>
    intro m' π' t
    obtain ⟨h1, h2, h3, h4, h5⟩ := hT _ _ _ _ t
    obtain ⟨k1, k2⟩ := h3 b _ hb hok
    refine .sl vs (Nat.lt_of_lt_of_le hb hs) k1 hz hcap (fun hm j hj => h4 hm b _ _ hb hok (room (h2 hm) j hj)) (fun i x j a hx ha => ?_) (fun i x j a hx ha => ih i x j a hx ha hT (h5 i j))
    have c := hc i x j a hx ha
    rw [k2 _ ?_ (by rw [c]; rfl)]
    · exact c
    · have hl := hz x (List.mem_of_getElem? hx)
      have hj : j < z := by rw [← hl]; exact (List.getElem?_eq_some_iff.1 ha).1
      have hi : i < xs.length := (List.getElem?_eq_some_iff.1 hx).1
      have : (i + 1) * z ≤ xs.length * z := Nat.mul_le_mul_right z hi
      have : (i + 1) * z = i * z + z := Nat.succ_mul i z
      omega

/-! ### what a step changes -/
structure Chg (U : Rk → List Nat → Prop) (vl vh : Bool) (w : World) (g : Gh) (w' : World) (g' : Gh) : Prop where
  size : w.heap.size ≤ w'.heap.size
  n : g.n ≤ g'.n
  ids : ∀ id, id < g.n → g'.φ id = g.φ id
  up : ∀ r π ρ, U r π → U r (π ++ ρ)
  st : ∀ b, b < w.heap.size → (g.own b = .shared ∨ g.own b = .ext) → g'.own b = g.own b ∧ ∀ o, (cel w b o).isSome = true → cel w' b o = cel w b o
  un : ∀ b r π, b < w.heap.size → g.own b = .pth r π → U r π → g'.own b = .pth r π ∧ g'.fr b = g.fr b ∧ (∀ o, (cel w b o).isSome = true → cel w' b o = cel w b o) ∧ ∀ o, free w b o → free w' b o
  bl : vl = true → ∀ b r π, b < w.heap.size → g.own b = .pth r π → r.isObj = false →
    (g'.own b = .shared ∨ ∃ r' π', g'.own b = .pth r' π' ∧ r'.isObj = false ∧ g.fr b ≤ g'.fr b) ∧ ∀ o, o < g.fr b → (cel w b o).isSome = true → cel w' b o = cel w b o
  bh : vh = true → ∀ b r π, b < w.heap.size → g.own b = .pth r π → r.isObj = true →
    (g'.own b = .shared ∨ ∃ r' π', g'.own b = .pth r' π' ∧ r'.isObj = true ∧ g.fr b ≤ g'.fr b) ∧ ∀ o, o < g.fr b → (cel w b o).isSome = true → cel w' b o = cel w b o
  it : vl = true → vh = true → ∀ b, b < w.heap.size → g.own b = .itr → g'.own b = .itr ∧ w'.heap[b]? = w.heap[b]?

theorem okB_chg {U vl vh w g w' g'} (C : Chg U vl vh w g w' g') {m r π b e} (hb : b < w.heap.size) (h : okB g m r π b e) (hu : m.owned = true → U r π)
    (hl : m = .bl → vl = true) (hh : m = .bh → vh = true) :
    okB g' m r π b e ∧ (∀ o, o < e → (cel w b o).isSome = true → cel w' b o = cel w b o) ∧ (m.owned = true → ∀ o, free w b o → free w' b o) := by
  cases m with
  | top => exact h.elim
  | own d =>
    cases d with
    | zero =>
      obtain ⟨h1, h2⟩ := C.st b hb (.inl h)
      exact ⟨h1.trans h, fun o _ ho => h2 o ho, fun hm => by cases hm⟩
    | succ d =>
      obtain ⟨h1, h2⟩ := h
      obtain ⟨k1, k2, k3, k4⟩ := C.un b r π hb h1 (hu rfl)
      exact ⟨⟨k1, k2.trans h2⟩, fun o _ ho => k3 o ho, fun _ o ho => k4 o ho⟩
  | ro =>
    obtain ⟨h1, h2⟩ := C.st b hb h
    refine ⟨?_, fun o _ ho => h2 o ho, fun hm => by cases hm⟩
    show g'.own b = .shared ∨ g'.own b = .ext
    rw [h1]; exact h
  | bl =>
    refine ⟨?_, ?_, fun hm => by cases hm⟩
    · rcases h with h | h | ⟨r', π', h1, h2, h3⟩
      · exact .inl ((C.st b hb (.inl h)).1.trans h)
      · exact .inr (.inl ((C.st b hb (.inr h)).1.trans h))
      · rcases (C.bl (hl rfl) b r' π' hb h1 h2).1 with k | ⟨r2, π2, k1, k2, k3⟩
        · exact .inl k
        · exact .inr (.inr ⟨r2, π2, k1, k2, Nat.le_trans h3 k3⟩)
    · intro o ho hs
      rcases h with h | h | ⟨r', π', h1, h2, h3⟩
      · exact (C.st b hb (.inl h)).2 o hs
      · exact (C.st b hb (.inr h)).2 o hs
      · exact (C.bl (hl rfl) b r' π' hb h1 h2).2 o (by omega) hs
  | bh =>
    refine ⟨?_, ?_, fun hm => by cases hm⟩
    · rcases h with h | ⟨r', π', h1, h2, h3⟩
      · exact .inl ((C.st b hb (.inl h)).1.trans h)
      · rcases (C.bh (hh rfl) b r' π' hb h1 h2).1 with k | ⟨r2, π2, k1, k2, k3⟩
        · exact .inl k
        · exact .inr ⟨r2, π2, k1, k2, Nat.le_trans h3 k3⟩
    · intro o ho hs
      rcases h with h | ⟨r', π', h1, h2, h3⟩
      · exact (C.st b hb (.inl h)).2 o hs
      · exact (C.bh (hh rfl) b r' π' hb h1 h2).2 o (by omega) hs

theorem Md.inner_owned {m : Md} (h : m.inner.owned = true) : m.owned = true := by
  cases m with
  | own d => cases d with
    | zero => exact h
    | succ d => rfl
  | _ => exact h
theorem Md.inner_bl {m : Md} (h : m.inner = .bl) : m = .bl := by
  cases m with
  | own d => cases d <;> cases h
  | _ => first | exact h | cases h
theorem Md.inner_bh {m : Md} (h : m.inner = .bh) : m = .bh := by
  cases m with
  | own d => cases d <;> cases h
  | _ => first | exact h | cases h

theorem KC.chg {U vl vh w g w' g'} (C : Chg U vl vh w g w' g') {m r π a v} (h : KC w g m r π a v) (hu : m.owned = true → U r π)
    (hl : m = .bl → vl = true) (hh : m = .bh → vh = true) : KC w' g' m r π a v := by
  refine h.map (fun m π m' π' => m' = m ∧ π' = π ∧ (m.owned = true → U r π) ∧ (m = .bl → vl = true) ∧ (m = .bh → vh = true)) C.size
    (fun id hi => ⟨Nat.lt_of_lt_of_le hi C.n, C.ids id hi⟩) ?_ ⟨rfl, rfl, hu, hl, hh⟩
  rintro m π m' π' ⟨rfl, rfl, h1, h2, h3⟩
  refine ⟨id, id, fun b e hb ho => ?_, fun hm b e o hb ho hf => ?_, fun i j => ⟨rfl, rfl, fun hm => C.up _ _ _ (h1 (Md.inner_owned hm)), fun hm => h2 (Md.inner_bl hm), fun hm => h3 (Md.inner_bh hm)⟩⟩
  · obtain ⟨k1, k2, _⟩ := okB_chg C hb ho h1 h2 h3
    exact ⟨k1, k2⟩
  · exact (okB_chg C hb ho h1 h2 h3).2.2 hm o hf

/-- does what is lent hang on what falls? -/
def lentOk (vl vh : Bool) (hdk : Rt → Prop) (ψk : Nat → Prop) : AV → Prop
  | .loc t _ => ψk t
  | .el q _ _ => hdk q
  | .at_ q _ _ => hdk q
  | .rd mo mi _ _ => (mo = .bl ∨ mi = .bl → vl = true) ∧ (mo = .bh ∨ mi = .bh → vh = true)
  | .it _ _ => vl = true ∧ vh = true
  | _ => True
theorem Lent.chg {U vl vh w g w' g'} (C : Chg U vl vh w g w' g') {a v} (h : Lent w g a v) (hk : lentOk vl vh (fun q => g'.hd q = g.hd q) (fun t => g'.ψ t = g.ψ t) a) : Lent w' g' a v := by
  cases h with
  | @loc t off => have := @Lent.loc w' g' t off; rw [show g'.ψ t = g.ψ t from hk] at this; exact this
  | @el q i off => have := @Lent.el w' g' q i off; rw [show g'.hd q = g.hd q from hk] at this; exact this
  | at_ hc h hx => exact .at_ hc (by rw [show g'.hd _ = g.hd _ from hk]; exact h) (by rw [show g'.hd _ = g.hd _ from hk]; exact hx)
  | @rd mo mi cs off b o vs hb hmo hmi hok hc hr =>
    obtain ⟨h1, h2⟩ := hk
    obtain ⟨k1, k2, _⟩ := okB_chg C hb hok (fun hm => by rw [hmo] at hm; cases hm) (fun e => h1 (.inl e)) (fun e => h2 (.inl e))
    refine .rd vs (Nat.lt_of_lt_of_le hb C.size) hmo hmi k1 (fun j a ha => ?_) (fun j a ha => (hr j a ha).chg C (fun hm => by rw [hmi] at hm; cases hm) (fun e => h1 (.inr e)) (fun e => h2 (.inr e)))
    have c := hc j a ha
    rw [k2 _ (by have := (List.getElem?_eq_some_iff.1 ha).1; omega) (by rw [c]; rfl)]
    exact c
  | it hb ho hw =>
    obtain ⟨k1, k2⟩ := C.it hk.1 hk.2 _ hb ho
    exact .it (Nat.lt_of_lt_of_le hb C.size) k1 (k2.trans hw)

/-- may a cell stay? -/
structure cellOk (U : Rk → List Nat → Prop) (vl vh : Bool) (g g' : Gh) (r : Rk) (π : List Nat) (c : MC) : Prop where
  u : c.1.owned = true → U r π
  l : c.1 = .bl → vl = true
  h : c.1 = .bh → vh = true
  e : lentOk vl vh (fun q => g'.hd q = g.hd q) (fun t => g'.ψ t = g.ψ t) c.2
theorem RC.chg {U vl vh w g w' g'} (C : Chg U vl vh w g w' g') {m r π a v} (h : RC w g m r π a v) (k : cellOk U vl vh g g' r π (m, a)) : RC w' g' m r π a v :=
  h.imp (fun h => h.chg C k.u k.l k.h) (fun h => h.chg C k.e)

/-- a value whose slices are no one's is at home anywhere -/
theorem KC.anywhere {w g m r π a v} (h : KC w g m r π a v) (hm : m.owned = false) (r' : Rk) (π' : List Nat) : KC w g m r' π' a v := by
  refine h.map (fun m _ m' _ => m' = m ∧ m.owned = false) (Nat.le_refl _) (fun id hi => ⟨hi, rfl⟩) ?_ ⟨rfl, hm⟩
  rintro m π m' π' ⟨rfl, hm⟩
  refine ⟨id, id, fun b e hb ho => ⟨?_, fun _ _ _ => rfl⟩, fun h => (by rw [hm] at h; cases h), fun i j => ⟨rfl, ?_⟩⟩
  · cases m' with
    | own d => cases d with
      | zero => exact ho
      | succ d => cases hm
    | _ => exact ho
  · cases m' with
    | own d => cases d with
      | zero => rfl
      | succ d => cases hm
    | _ => rfl
theorem RC.anywhere {w g m r π a v} (h : RC w g m r π a v) (hm : m.owned = false) (r' : Rk) (π' : List Nat) : RC w g m r' π' a v :=
  h.imp (fun h => h.anywhere hm r' π') id
end Go.Proofs.Abs
/- The relation to memory under steps that leave it as it is, but for labels. -/
namespace Go.Proofs.Abs
open Go
set_option linter.unusedVariables false

theorem RCs.map {w g w' g' r r' π π' cs cs' vs} (h : RCs w g r π cs vs) (hl : cs'.length = cs.length)
    (k : ∀ (j : Nat) (c c' : MC) v, cs[j]? = some c → cs'[j]? = some c' → RC w g c.1 r (π ++ [j]) c.2 v → RC w' g' c'.1 r' (π' ++ [j]) c'.2 v) : RCs w' g' r' π' cs' vs := by
  refine ⟨h.1.trans hl.symm, fun j c' hc' => ?_⟩
  have hj : j < cs.length := by rw [← hl]; exact (List.getElem?_eq_some_iff.1 hc').1
  obtain ⟨u, hu, hr⟩ := h.2 j cs[j] (by simp [hj])
  exact ⟨u, hu, k j cs[j] c' u (by simp [hj]) hc' hr⟩

section
variable {U : Rk → List Nat → Prop} {vl vh : Bool} {w w' : World} {g g' : Gh}

theorem RCs.chg (C : Chg U vl vh w g w' g') {r π cs vs} (h : RCs w g r π cs vs) (k : ∀ c, c ∈ cs → ∀ π, cellOk U vl vh g g' r π c) : RCs w' g' r π cs vs :=
  h.map rfl fun j c c' v hc hc' hr => by
    rw [hc] at hc'; cases hc'
    exact hr.chg C (k c (List.mem_of_getElem? hc) _)
theorem RT1.chg (C : Chg U vl vh w g w' g') {r π tv v} (h : RT1 w g r π tv v) (k : ∀ c, c ∈ all1 tv → ∀ π, cellOk U vl vh g g' r π c) : RT1 w' g' r π tv v := by
  cases tv with
  | one m a => exact RC.chg C h (k (m, a) (by simp [all1]) _)
  | agg cs => obtain ⟨vs, hv, h⟩ := h; exact ⟨vs, hv, h.chg C k⟩
  | tup vs => cases vs with
    | nil => exact h
    | cons x xs => exact h.elim
theorem RT.chg (C : Chg U vl vh w g w' g') {r tv v} (h : RT w g r tv v) (k : ∀ c, c ∈ tv.all → ∀ π, cellOk U vl vh g g' r π c) : RT w' g' r tv v := by
  cases tv with
  | one m a => exact RT1.chg (tv := .one m a) C h k
  | agg cs => exact RT1.chg (tv := .agg cs) C h k
  | tup tvs =>
    obtain ⟨vs, hv, hs, h⟩ := h
    refine ⟨vs, hv, hs, fun j tv ht => ?_⟩
    obtain ⟨u, hu, hr⟩ := h j tv ht
    exact ⟨u, hu, hr.chg C fun c hc => k c (List.mem_flatMap.2 ⟨tv, List.mem_of_getElem? ht, hc⟩)⟩
theorem BoxR.chg (C : Chg U vl vh w g w' g') {t cs} (h : BoxR w g t cs) (hψ : g'.ψ t = g.ψ t) (hu : U (.loc t) []) (k : ∀ c, c ∈ cs → ∀ π, cellOk U vl vh g g' (.loc t) π c) : BoxR w' g' t cs := by
  obtain ⟨k1, k2, k3, k4⟩ := C.un _ _ _ h.blk h.own hu
  refine ⟨by rw [hψ]; exact k1, by rw [hψ]; exact Nat.lt_of_lt_of_le h.blk C.size, by rw [hψ]; exact k2.trans h.fr, fun j c hc => ?_⟩
  obtain ⟨v, h1, h2, h3⟩ := h.cell j c hc
  refine ⟨v, by rw [hψ, k3 _ (by rw [h1]; rfl)]; exact h1, by rw [hψ]; exact (k4 j ⟨by rw [h1]; rfl, h2⟩).2, h3.chg C (k c (List.mem_of_getElem? hc) _)⟩
theorem ObjR.chg (C : Chg U vl vh w g w' g') {id cs} (h : ObjR w g id cs) (hi : id < g.n) (hu : ∀ π, U (.obj id) π) : ObjR w' g' id cs := by
  obtain ⟨k1, k2, k3, k4⟩ := C.un _ _ _ h.blk h.own (hu _)
  have hφ := C.ids id hi
  refine ⟨by rw [hφ]; exact k1, by rw [hφ]; exact Nat.lt_of_lt_of_le h.blk C.size, by rw [hφ]; exact k2.trans h.fr, h.md, fun j c hc => ?_⟩
  obtain ⟨v, h1, h2, h3⟩ := h.cell j c hc
  have hm := h.md c (List.mem_of_getElem? hc)
  exact ⟨v, by rw [hφ, k3 _ (by rw [h1]; rfl)]; exact h1, by rw [hφ]; exact (k4 j ⟨by rw [h1]; rfl, h2⟩).2,
    h3.chg C (fun _ => hu _) (fun e => by rcases hm with h | ⟨d, h⟩ <;> rw [h] at e <;> cases e) (fun e => by rcases hm with h | ⟨d, h⟩ <;> rw [h] at e <;> cases e)⟩
end

theorem cellOk_all {U : Rk → List Nat → Prop} {g g' : Gh} {r π} {c : MC} (hu : U r π) (hd : ∀ q, g'.hd q = g.hd q) (hψ : ∀ t, g'.ψ t = g.ψ t) : cellOk U true true g g' r π c := by
  refine ⟨fun _ => hu, fun _ => rfl, fun _ => rfl, ?_⟩
  cases c.2 with
  | loc t off => exact hψ t
  | el q i off => exact hd q
  | at_ q lo n => exact hd q
  | rd mo mi cs off => exact ⟨fun _ => rfl, fun _ => rfl⟩
  | _ => trivial

/-! ### new labels -/
def relabel (F : Rk → List Nat → Ow) (g : Gh) : Gh := { g with own := fun b => match g.own b with
  | .pth r π => F r π
  | o => o }
def keepsSide (F : Rk → List Nat → Ow) : Prop := ∀ r π, F r π = .shared ∨ ∃ r' π', F r π = .pth r' π' ∧ r'.isObj = r.isObj
theorem relabel_own {F : Rk → List Nat → Ow} {g b r π} (h : g.own b = .pth r π) : (relabel F g).own b = F r π := by simp [relabel, h]
def keepsL (F : Rk → List Nat → Ow) : Prop := ∀ r π, r.isObj = false → F r π = .shared ∨ ∃ r' π', F r π = .pth r' π' ∧ r'.isObj = false
def keepsH (F : Rk → List Nat → Ow) : Prop := ∀ r π, r.isObj = true → F r π = .shared ∨ ∃ r' π', F r π = .pth r' π' ∧ r'.isObj = true
theorem chg_relabelW {F : Rk → List Nat → Ow} {w : World} {g : Gh} {vl vh : Bool} (hl : vl = true → keepsL F) (hh : vh = true → keepsH F) :
    Chg (fun r π => ∀ ρ, F r (π ++ ρ) = .pth r (π ++ ρ)) vl vh w g w (relabel F g) := by
  refine ⟨Nat.le_refl _, Nat.le_refl _, fun _ _ => rfl, fun r π ρ h ρ' => by rw [List.append_assoc]; exact h _, fun b _ h => ⟨?_, fun _ _ => rfl⟩, fun b r π _ h hu => ⟨?_, rfl, fun _ _ => rfl, fun _ h => h⟩, fun v b r π _ h hr => ⟨?_, fun _ _ _ => rfl⟩, fun v b r π _ h hr => ⟨?_, fun _ _ _ => rfl⟩, fun _ _ b _ h => ⟨by simp [relabel, h], rfl⟩⟩
  · rcases h with h | h <;> simp [relabel, h]
  · rw [relabel_own h]; simpa using hu []
  · rw [relabel_own h]
    rcases hl v r π hr with k | ⟨r', π', k1, k2⟩
    · exact .inl k
    · exact .inr ⟨r', π', k1, k2, Nat.le_refl _⟩
  · rw [relabel_own h]
    rcases hh v r π hr with k | ⟨r', π', k1, k2⟩
    · exact .inl k
    · exact .inr ⟨r', π', k1, k2, Nat.le_refl _⟩
theorem chg_relabel {F : Rk → List Nat → Ow} {w : World} {g : Gh} (hF : keepsSide F) :
    Chg (fun r π => ∀ ρ, F r (π ++ ρ) = .pth r (π ++ ρ)) true true w g w (relabel F g) :=
  chg_relabelW (fun _ r π hr => (hF r π).imp id fun ⟨r', π', h1, h2⟩ => ⟨r', π', h1, h2.trans hr⟩) (fun _ r π hr => (hF r π).imp id fun ⟨r', π', h1, h2⟩ => ⟨r', π', h1, h2.trans hr⟩)
theorem le_relabel {F : Rk → List Nat → Ow} {w : World} {g : Gh} (hF : keepsSide F) (pu : Pu) (hp : ∀ id π, F (.obj id) π = .pth (.obj id) π) (hl : ∀ t, inL t pu.lc = true → F (.loc t) [] = .pth (.loc t) []) : Le pu w g w (relabel F g) := by
  refine ⟨Nat.le_refl _, fun b _ h => ⟨rfl, ?_, rfl⟩, fun _ h1 h2 => absurd h2 (by omega), fun b _ h => ?_, Nat.le_refl _, fun _ _ => rfl, rfl, rfl, rfl⟩
  · rcases h with h | h | ⟨_, id, π, h⟩ | ⟨t, hpu, h⟩
    · simp [relabel, h]
    · simp [relabel, h]
    · rw [relabel_own h, h, hp]
    · rw [relabel_own h, h, hl t hpu]
  · cases hb : g.own b with
    | ext => rfl
    | shared => simp [relabel, hb] at h
    | itr => simp [relabel, hb] at h
    | pth r π =>
      rw [relabel_own hb] at h
      rcases hF r π with k | ⟨r', π', k1, k2⟩
      · rw [k] at h; cases h
      · rw [k1] at h; cases h

/-- a value moves to another path -/
theorem KC.moved {F : Rk → List Nat → Ow} {w g m r π a v} (hF : keepsSide F) (h : KC w g m r π a v) {r' π'} (hm : m.owned = true → ∀ ρ, F r (π ++ ρ) = .pth r' (π' ++ ρ)) : KC w (relabel F g) m r' π' a v := by
  refine KC.map (g := g) (g' := relabel F g) (r := r) (r' := r') (fun m π m' π' => m' = m ∧ (m.owned = true → ∀ ρ, F r (π ++ ρ) = .pth r' (π' ++ ρ))) (Nat.le_refl _) (fun _ hi => ⟨hi, rfl⟩) ?_ h ⟨rfl, hm⟩
  rintro m π m' π' ⟨rfl, h1⟩
  refine ⟨id, id, fun b e hb ho => ⟨?_, fun _ _ _ => rfl⟩, fun _ _ _ _ _ _ h => h, fun i j => ⟨rfl, fun hm ρ => by rw [List.append_assoc, List.append_assoc]; exact h1 (Md.inner_owned hm) _⟩⟩
  by_cases ho' : m'.owned = true
  · cases m' with
    | own d => cases d with
      | zero => cases ho'
      | succ d =>
        obtain ⟨k1, k2⟩ := ho
        exact ⟨by rw [relabel_own k1]; simpa using h1 rfl [], k2⟩
    | _ => cases ho'
  · have k := (okB_chg (chg_relabel (w := w) (g := g) hF) hb ho (fun h => absurd h ho') (fun _ => rfl) (fun _ => rfl)).1
    cases m' with
    | own d => cases d with
      | zero => exact k
      | succ d => exact absurd rfl ho'
    | _ => exact k
theorem Lent.relabel {F : Rk → List Nat → Ow} {w g a v} (hF : keepsSide F) (h : Lent w g a v) : Lent w (relabel F g) a v :=
  h.chg (chg_relabel (w := w) (g := g) hF) (cellOk_all (U := fun _ _ => True) (r := .lim 0) (π := []) (c := (.top, a)) trivial (fun _ => rfl) (fun _ => rfl)).e
theorem RC.moved {F : Rk → List Nat → Ow} {w g m r π a v} (hF : keepsSide F) (h : RC w g m r π a v) {r' π'} (hm : m.owned = true → ∀ ρ, F r (π ++ ρ) = .pth r' (π' ++ ρ)) : RC w (relabel F g) m r' π' a v :=
  h.imp (fun h => h.moved hF hm) (fun h => h.relabel hF)
theorem RCs.moved {F : Rk → List Nat → Ow} {w g r π cs vs} (hF : keepsSide F) (h : RCs w g r π cs vs) {r' π'} (hm : ∀ ρ, F r (π ++ ρ) = .pth r' (π' ++ ρ)) : RCs w (relabel F g) r' π' cs vs :=
  h.map rfl fun j c c' v hc hc' hr => by
    rw [hc] at hc'; cases hc'
    exact hr.moved hF fun _ ρ => by rw [List.append_assoc, List.append_assoc]; exact hm _
theorem RT1.moved {F : Rk → List Nat → Ow} {w g r π tv v} (hF : keepsSide F) (h : RT1 w g r π tv v) {r' π'} (hm : ∀ ρ, F r (π ++ ρ) = .pth r' (π' ++ ρ)) : RT1 w (relabel F g) r' π' tv v := by
  cases tv with
  | one m a => exact RC.moved hF h fun _ ρ => by rw [List.append_assoc, List.append_assoc]; exact hm _
  | agg cs => obtain ⟨vs, hv, h⟩ := h; exact ⟨vs, hv, h.moved hF hm⟩
  | tup vs => cases vs with
    | nil => exact h
    | cons x xs => exact h.elim
theorem RT.moved {F : Rk → List Nat → Ow} {w g r tv v} (hF : keepsSide F) (h : RT w g r tv v) {r'} (hm : ∀ ρ, F r ρ = .pth r' ρ) : RT w (relabel F g) r' tv v := by
  cases tv with
  | one m a => exact RT1.moved (tv := .one m a) hF h (π := []) (π' := []) hm
  | agg cs => exact RT1.moved (tv := .agg cs) hF h (π := []) (π' := []) hm
  | tup tvs =>
    obtain ⟨vs, hv, hs, h⟩ := h
    refine ⟨vs, hv, hs, fun j tv ht => ?_⟩
    obtain ⟨u, hu, hr⟩ := h j tv ht
    exact ⟨u, hu, hr.moved hF fun ρ => hm _⟩

/-- nothing turns under labels that stay -/
theorem RT.kept {F : Rk → List Nat → Ow} {w g r tv v} (hF : keepsSide F) (h : RT w g r tv v) (hr : ∀ π, F r π = .pth r π) : RT w (relabel F g) r tv v :=
  h.chg (chg_relabel hF) fun c _ π => cellOk_all (fun ρ => hr _) (fun _ => rfl) (fun _ => rfl)
theorem BoxR.kept {F : Rk → List Nat → Ow} {w g t cs} (hF : keepsSide F) (h : BoxR w g t cs) (hr : ∀ π, F (.loc t) π = .pth (.loc t) π) : BoxR w (relabel F g) t cs :=
  h.chg (chg_relabel hF) rfl (fun ρ => hr _) fun c _ π => cellOk_all (fun ρ => hr _) (fun _ => rfl) (fun _ => rfl)
theorem ObjR.kept {F : Rk → List Nat → Ow} {w g id cs} (hF : keepsSide F) (h : ObjR w g id cs) (hi : id < g.n) (hr : ∀ π, F (.obj id) π = .pth (.obj id) π) : ObjR w (relabel F g) id cs :=
  h.chg (chg_relabel hF) hi (fun π ρ => hr _)

end Go.Proofs.Abs
/- Values on their way: taken from a slot, copied, laid into a slot. -/
namespace Go.Proofs.Abs
open Go
set_option linter.unusedVariables false

theorem getD_setIfInBounds (a : Array Value) (i j : Nat) (v d : Value) : (a.setIfInBounds i v).getD j d = if i = j ∧ i < a.size then v else a.getD j d := by
  simp only [Array.getD_eq_getD_getElem?, Array.getElem?_setIfInBounds]
  by_cases h : i = j
  · subst h
    by_cases h2 : i < a.size
    · simp [h2]
    · simp [h2]
  · simp [h]

/-! ### what is left of a slot -/
theorem RC.leave {F : Rk → List Nat → Ow} {w g m r π a v} (hF : keepsSide F) (h : RC w g m r π a v) : RC w (relabel F g) (leaveC (m, a)).1 r π (leaveC (m, a)).2 v := by
  unfold leaveC
  split
  · exact .inl (.junk h.oneCell)
  · rename_i hm
    exact h.chg (chg_relabel hF) ⟨fun h => absurd h hm, fun _ => rfl, fun _ => rfl, (cellOk_all (U := fun _ _ => True) (r := .lim 0) (π := []) trivial (fun _ => rfl) (fun _ => rfl)).e⟩
theorem RT1.leave {F : Rk → List Nat → Ow} {w g r π tv v} (hF : keepsSide F) (h : RT1 w g r π tv v) : RT1 w (relabel F g) r π (leave1 tv) v := by
  cases tv with
  | one m a => exact RC.leave hF h
  | agg cs =>
    obtain ⟨vs, hv, h⟩ := h
    refine ⟨vs, hv, h.map (by simp) fun j c c' v hc hc' hr => ?_⟩
    simp only [List.getElem?_map, hc, Option.map_some, Option.some.injEq] at hc'
    subst hc'
    exact hr.leave hF
  | tup vs => cases vs with
    | nil => exact h
    | cons x xs => exact h.elim
theorem RT.leave {F : Rk → List Nat → Ow} {w g r tv v} (hF : keepsSide F) (h : RT w g r tv v) : RT w (relabel F g) r tv.leave v := by
  cases tv with
  | one m a => exact RT1.leave (tv := .one m a) hF h
  | agg cs => exact RT1.leave (tv := .agg cs) hF h
  | tup tvs =>
    obtain ⟨vs, hv, hs, h⟩ := h
    refine ⟨vs, hv, by simpa using hs, fun j tv ht => ?_⟩
    simp only [List.getElem?_map, Option.map_eq_some_iff] at ht
    obtain ⟨tv0, h0, rfl⟩ := ht
    obtain ⟨u, hu, hr⟩ := h j tv0 h0
    exact ⟨u, hu, hr.leave hF⟩

/-! ### a copy is lent -/
def lendT (m m' : Md) : Prop := (m' = m ∧ m.owned = false) ∨ (m' = .bl ∧ ∃ d, m = .own d)
theorem KC.lend {w g m r π a v} (h : KC w g m r π a v) (hr : r.isObj = false) {m'} (hm : lendT m m') (r' : Rk) (π' : List Nat) : KC w g m' r' π' a v := by
  refine KC.map (g := g) (g' := g) (r := r) (r' := r') (fun m _ m' _ => lendT m m') (Nat.le_refl _) (fun _ hi => ⟨hi, rfl⟩) ?_ h (π' := π') hm
  intro m π m' π' hm
  rcases hm with ⟨rfl, hm⟩ | ⟨rfl, d, rfl⟩
  · refine ⟨id, id, fun b e hb ho => ⟨?_, fun _ _ _ => rfl⟩, fun h => (by rw [hm] at h; cases h), fun i j => .inl ⟨rfl, ?_⟩⟩
    · cases m' with
      | own d => cases d with
        | zero => exact ho
        | succ d => cases hm
      | _ => exact ho
    · cases m' with
      | own d => cases d with
        | zero => rfl
        | succ d => cases hm
      | _ => rfl
  · refine ⟨fun _ h => by (cases h), fun h => by (cases h), fun b e hb ho => ⟨?_, fun _ _ _ => rfl⟩, fun h => by (cases h), fun i j => ?_⟩
    · cases d with
      | zero => exact .inl ho
      | succ d => exact .inr (.inr ⟨r, π, ho.1, hr, by rw [ho.2]; exact Nat.le_refl _⟩)
    · cases d with
      | zero => exact .inr ⟨rfl, 0, rfl⟩
      | succ d => exact .inr ⟨rfl, d, rfl⟩
theorem lendT_cp (m : Md) : lendT m m.cp := by
  cases m with
  | own d => cases d with
    | zero => exact .inl ⟨rfl, rfl⟩
    | succ d => exact .inr ⟨rfl, d + 1, rfl⟩
  | _ => exact .inl ⟨rfl, rfl⟩
theorem RC.cp {w g m r π a v} (h : RC w g m r π a v) (hr : r.isObj = false) (r' : Rk) (π' : List Nat) : RC w g m.cp r' π' a v :=
  h.imp (fun h => h.lend hr (lendT_cp m) r' π') id
theorem RT1.cp {w g r π tv v} (h : RT1 w g r π tv v) (hr : r.isObj = false) (r' : Rk) (π' : List Nat) : RT1 w g r' π' (cp1 tv) v := by
  cases tv with
  | one m a => exact RC.cp h hr _ _
  | agg cs =>
    obtain ⟨vs, hv, h⟩ := h
    refine ⟨vs, hv, h.map (by simp) fun j c c' v hc hc' hk => ?_⟩
    simp only [List.getElem?_map, hc, Option.map_some, Option.some.injEq] at hc'
    subst hc'
    exact hk.cp hr _ _
  | tup vs => cases vs with
    | nil => exact h
    | cons x xs => exact h.elim
theorem RT.cp {w g r tv v} (h : RT w g r tv v) (hr : r.isObj = false) (r' : Rk) : RT w g r' tv.cp v := by
  cases tv with
  | one m a => exact RT1.cp (tv := .one m a) h hr r' []
  | agg cs => exact RT1.cp (tv := .agg cs) h hr r' []
  | tup tvs =>
    obtain ⟨vs, hv, hs, h⟩ := h
    refine ⟨vs, hv, by simpa using hs, fun j tv ht => ?_⟩
    simp only [List.getElem?_map, Option.map_eq_some_iff] at ht
    obtain ⟨tv0, h0, rfl⟩ := ht
    obtain ⟨u, hu, hk⟩ := h j tv0 h0
    exact ⟨u, hu, hk.cp hr _ _⟩

/-! ### what is lent falls -/
theorem RC.kill {w g r π c v} (p q) (h : RC w g c.1 r π c.2 v) : RC w g (killC p q c).1 r π (killC p q c).2 v := by
  unfold killC
  split
  · exact .inl (.junk h.oneCell)
  · exact h
theorem RT1.kill {w g r π tv v} (p q) (h : RT1 w g r π tv v) : RT1 w g r π (kill1 p q tv) v := by
  cases tv with
  | one m a => exact RC.kill (c := (m, a)) p q h
  | agg cs =>
    obtain ⟨vs, hv, h⟩ := h
    refine ⟨vs, hv, h.map (by simp) fun j c c' v hc hc' hk => ?_⟩
    simp only [List.getElem?_map, hc, Option.map_some, Option.some.injEq] at hc'
    subst hc'
    exact hk.kill p q
  | tup vs => exact h
theorem RT.kill {w g r tv v} (p q) (h : RT w g r tv v) : RT w g r (killT p q tv) v := by
  cases tv with
  | one m a => exact RT1.kill (tv := .one m a) p q h
  | agg cs => exact RT1.kill (tv := .agg cs) p q h
  | tup tvs =>
    obtain ⟨vs, hv, hs, h⟩ := h
    refine ⟨vs, hv, by simpa using hs, fun j tv ht => ?_⟩
    simp only [List.getElem?_map, Option.map_eq_some_iff] at ht
    obtain ⟨tv0, h0, rfl⟩ := ht
    obtain ⟨u, hu, hk⟩ := h j tv0 h0
    exact ⟨u, hu, hk.kill p q⟩
theorem find_kill_t {p q t} {s : St} : find t (s.kill p q).t = (find t s.t).map (killT p q) := find_map _ _ _
theorem find_kill_l {p q t} {s : St} : find t (s.kill p q).l = (find t s.l).map (List.map (killC p q)) := find_map _ _ _
theorem atRoot_kill {p q r d z xs} {s : St} (h : atRoot (s.kill p q) r = some (.own (d + 1), .sl z xs)) : atRoot s r = some (.own (d + 1), .sl z xs) := by
  cases r with
  | obj id off => exact h
  | loc t off =>
    change cellOf off (find t (s.kill p q).l) = _ at h
    change cellOf off (find t s.l) = _
    rw [find_kill_l] at h
    cases hf : find t s.l with
    | none => rw [hf] at h; cases h
    | some cs =>
      rw [hf] at h
      simp only [Option.map_some, cellOf, List.getElem?_map, Option.map_eq_some_iff] at h ⊢
      obtain ⟨c, hc, he⟩ := h
      unfold killC at he
      split at he
      · cases he
      · rw [hc, he]
  | tmp t =>
    change oneOf (find t (s.kill p q).t) = _ at h
    change oneOf (find t s.t) = _
    rw [find_kill_t] at h
    cases hf : find t s.t with
    | none => rw [hf] at h; cases h
    | some tv =>
      rw [hf] at h
      cases tv with
      | one m a =>
        simp only [Option.map_some, killT, kill1, killC, oneOf] at h ⊢
        split at h
        · cases h
        · exact h
      | agg cs => cases h
      | tup vs => cases h
theorem Rel.kill {s fl a w g} (p q) (h : Rel s fl a w g) : Rel (s.kill p q) fl a w g := by
  refine ⟨h.n, h.fl, fun t tv ht => ?_, fun t cs ht => ?_, h.hp, fun r d z xs hr => h.hd r d z xs (atRoot_kill hr)⟩
  · rw [find_kill_t, Option.map_eq_some_iff] at ht
    obtain ⟨tv0, h0, rfl⟩ := ht
    exact (h.tm t tv0 h0).kill p q
  · rw [find_kill_l, Option.map_eq_some_iff] at ht
    obtain ⟨cs0, h0, rfl⟩ := ht
    have hb := h.bx t cs0 h0
    refine ⟨hb.own, hb.blk, hb.fr, fun j c hc => ?_⟩
    simp only [List.getElem?_map, Option.map_eq_some_iff] at hc
    obtain ⟨c0, hc0, rfl⟩ := hc
    obtain ⟨v, h1, h2, h3⟩ := hb.cell j c0 hc0
    exact ⟨v, h1, h2, h3.kill p q⟩

/-! ### on the way -/
def Ftake (t i : Nat) (r : Rk) (π : List Nat) : Ow := if r = .tmp t then .pth (.lim i) π else if r = .lim i then .shared else .pth r π
theorem Ftake_side (t i) : keepsSide (Ftake t i) := by
  intro r π
  unfold Ftake
  split
  · rename_i h; subst h; exact .inr ⟨_, _, rfl, rfl⟩
  · split
    · exact .inl rfl
    · exact .inr ⟨_, _, rfl, rfl⟩
theorem Ftake_keep {t i r} (h1 : r ≠ .tmp t) (h2 : r ≠ .lim i) (π) : Ftake t i r π = .pth r π := by simp [Ftake, h1, h2]

theorem Rel.takeG {s fl a w g t tv} (h : Rel s fl a w g) (hf : find t s.t = some tv) :
    Rel { s with t := put t tv.leave s.t } (fl ++ [(tv, a.tmps.getD t undef)]) a w (relabel (Ftake t fl.length) g) := by
  have hF := Ftake_side t fl.length
  refine ⟨h.n, fun i x hi => ?_, fun t' tv' ht => ?_, fun t' cs ht => ?_, fun id cs hi => ?_, fun r d z xs hr => ?_⟩
  · rw [List.getElem?_append] at hi
    split at hi
    · rename_i hlt
      refine (h.fl i x hi).kept hF fun π => Ftake_keep (by simp) (by simp; omega) π
    · rename_i hge
      rw [List.getElem?_singleton] at hi
      split at hi
      · rename_i h0
        cases hi
        have e : i = fl.length := by omega
        subst e
        exact (h.tm t tv hf).moved hF fun π => by simp [Ftake]
      · cases hi
  · simp only [find_put] at ht
    split at ht
    · rename_i e; subst e; cases ht; exact (h.tm t' tv hf).leave hF
    · rename_i e
      exact (h.tm t' tv' ht).kept hF fun π => Ftake_keep (by simp [e]) (by simp) π
  · exact (h.bx t' cs ht).kept hF fun π => Ftake_keep (by simp) (by simp) π
  · exact (h.hp id cs hi).kept hF (by rw [h.n]; exact (List.getElem?_eq_some_iff.1 hi).1) fun π => Ftake_keep (by simp) (by simp) π
  · refine h.hd r d z xs ?_
    cases r with
    | obj id off => exact hr
    | loc t' off => exact hr
    | tmp t' =>
      change oneOf (find t' (put t tv.leave s.t)) = _ at hr
      change oneOf (find t' s.t) = _
      rw [find_put] at hr
      split at hr
      · rename_i e
        subst e
        cases tv with
        | one m0 a0 =>
          simp only [TV.leave, leave1, leaveC, oneOf] at hr
          split at hr
          · cases hr
          · rename_i hno
            cases hr
            exact absurd rfl hno
        | agg cs => cases hr
        | tup vs => cases hr
      · exact hr
theorem Rel.take {s fl a w g t tv} (pu : Pu) (h : Rel s fl a w g) (hf : find t s.t = some tv) :
    ∃ g', Rel { s with t := put t tv.leave s.t } (fl ++ [(tv, a.tmps.getD t undef)]) a w g' ∧ Le pu w g w g' :=
  ⟨_, h.takeG hf, le_relabel (Ftake_side t fl.length) pu (fun id π => Ftake_keep (by simp) (by simp) π) fun _ t => Ftake_keep (by simp) (by simp) []⟩
/-- the same objects, boxes, headers -/
def Same (g g' : Gh) : Prop := g'.n = g.n ∧ (∀ i, g'.φ i = g.φ i) ∧ (∀ t, g'.ψ t = g.ψ t) ∧ ∀ q, g'.hd q = g.hd q
theorem Same.refl (g : Gh) : Same g g := ⟨rfl, fun _ => rfl, fun _ => rfl, fun _ => rfl⟩
theorem Same.trans {g1 g2 g3 : Gh} (h : Same g1 g2) (k : Same g2 g3) : Same g1 g3 := ⟨k.1.trans h.1, fun i => (k.2.1 i).trans (h.2.1 i), fun i => (k.2.2.1 i).trans (h.2.2.1 i), fun i => (k.2.2.2 i).trans (h.2.2.2 i)⟩
theorem Rel.copy {s fl a w g t tv} (h : Rel s fl a w g) (hf : find t s.t = some tv) : Rel s (fl ++ [(tv.cp, a.tmps.getD t undef)]) a w g := by
  refine ⟨h.n, fun i x hi => ?_, h.tm, h.bx, h.hp, h.hd⟩
  rw [List.getElem?_append] at hi
  split at hi
  · exact h.fl i x hi
  · rw [List.getElem?_singleton] at hi
    split at hi
    · cases hi; exact (h.tm t tv hf).cp rfl _
    · cases hi
/-- another value on its way -/
theorem Rel.push {s fl a w g tv v} (h : Rel s fl a w g) (hv : RT w g (.lim fl.length) tv v) : Rel s (fl ++ [(tv, v)]) a w g := by
  refine ⟨h.n, fun i x hi => ?_, h.tm, h.bx, h.hp, h.hd⟩
  rw [List.getElem?_append] at hi
  split at hi
  · exact h.fl i x hi
  · rw [List.getElem?_singleton] at hi
    split at hi
    · cases hi
      have e : i = fl.length := by omega
      subst e; exact hv
    · cases hi
/-- values that go no further -/
theorem Rel.forget {s fl fl' a w g} (h : Rel s (fl ++ fl') a w g) : Rel s fl a w g :=
  ⟨h.n, fun i x hi => h.fl i x (by rw [List.getElem?_append, if_pos (List.getElem?_eq_some_iff.1 hi).1]; exact hi), h.tm, h.bx, h.hp, h.hd⟩

def Fland (t i : Nat) (r : Rk) (π : List Nat) : Ow := if r = .lim i then .pth (.tmp t) π else if r = .tmp t then .shared else .pth r π
theorem Fland_side (t i) : keepsSide (Fland t i) := by
  intro r π
  unfold Fland
  split
  · rename_i h; subst h; exact .inr ⟨_, _, rfl, rfl⟩
  · split
    · exact .inl rfl
    · exact .inr ⟨_, _, rfl, rfl⟩
theorem Fland_keep {t i r} (h1 : r ≠ .tmp t) (h2 : r ≠ .lim i) (π) : Fland t i r π = .pth r π := by simp [Fland, h1, h2]

theorem put_getD {a : Act} {d : Tmp} {v : Value} (hd : d < a.tmps.size) (t : Nat) : (a.put (some d) v).tmps.getD t undef = if t = d then v else a.tmps.getD t undef := by
  show (a.tmps.setIfInBounds d v).getD t undef = _
  rw [getD_setIfInBounds]
  by_cases h : t = d
  · subst h; simp [hd]
  · rw [if_neg (fun e => h e.1.symm), if_neg h]

/-- without the new place's header -/
theorem Rel.land0 {s : St} {fl tv v a w g} {d : Tmp} (pu : Pu) (h : Rel s (fl ++ [(tv, v)]) a w g) (hd : d < a.tmps.size)
    (hn : ∀ z xs n, tv = .one (.own (n + 1)) (.sl z xs) → ∀ b o sp len cap, v = .slice (some ⟨b, o, sp⟩) len cap → g.hd (.tmp d) = (b, o, z, cap)) :
    ∃ g', g'.hd = g.hd ∧ Rel { s with t := put d tv s.t } fl (a.put (some d) v) w g' ∧ Le pu w g w g' := by
  have hF := Fland_side d fl.length
  refine ⟨relabel (Fland d fl.length) g, rfl, ⟨h.n, fun i x hi => ?_, fun t' tv' ht => ?_, fun t' cs ht => ?_, fun id cs hi => ?_, fun r k z xs hr b o sp len cap hv => ?_⟩, le_relabel hF pu (fun id π => Fland_keep (by simp) (by simp) π) fun _ t => Fland_keep (by simp) (by simp) []⟩
  · have hlt := (List.getElem?_eq_some_iff.1 hi).1
    refine (h.fl i x (by rw [List.getElem?_append, if_pos hlt]; exact hi)).kept hF fun π => Fland_keep (by simp) (by simp; omega) π
  · simp only [find_put] at ht
    rw [put_getD hd]
    split at ht
    · rename_i e; subst e; cases ht
      rw [if_pos rfl]
      exact (h.fl fl.length (tv, v) (by simp)).moved hF fun π => by simp [Fland]
    · rename_i e
      rw [if_neg e]
      exact (h.tm t' tv' ht).kept hF fun π => Fland_keep (by simp [e]) (by simp) π
  · exact (h.bx t' cs ht).kept hF fun π => Fland_keep (by simp) (by simp) π
  · exact (h.hp id cs hi).kept hF (by rw [h.n]; exact (List.getElem?_eq_some_iff.1 hi).1) fun π => Fland_keep (by simp) (by simp) π
  · cases r with
    | obj id off => exact h.hd (.obj id off) k z xs hr b o sp len cap hv
    | loc t' off => exact h.hd (.loc t' off) k z xs hr b o sp len cap hv
    | tmp t' =>
      change oneOf (find t' (put d tv s.t)) = _ at hr
      change some ((a.put (some d) v).tmps.getD t' undef) = _ at hv
      rw [find_put] at hr
      rw [put_getD hd] at hv
      by_cases e : t' = d
      · subst e
        rw [if_pos rfl] at hr hv
        cases tv with
        | one m a0 =>
          simp only [oneOf, Option.some.injEq, Prod.mk.injEq] at hr
          obtain ⟨rfl, rfl⟩ := hr
          exact hn z xs k rfl b o sp len cap (Option.some.inj hv)
        | agg cs => cases hr
        | tup vs => cases hr
      · rw [if_neg e] at hr hv
        exact h.hd (.tmp t') k z xs hr b o sp len cap hv

end Go.Proofs.Abs
/- Laying a value into a slot; operands. -/
namespace Go.Proofs.Abs
open Go
set_option linter.unusedVariables false

theorem Rel.ext {s s' : St} {fl a w g} (h : Rel s fl a w g) (ht : ∀ t tv, find t s'.t = some tv → find t s.t = some tv) (hl : ∀ t cs, find t s'.l = some cs → find t s.l = some cs) (hh : s'.h = s.h) : Rel s' fl a w g := by
  refine ⟨by rw [hh]; exact h.n, h.fl, fun t tv hf => h.tm t tv (ht t tv hf), fun t cs hf => h.bx t cs (hl t cs hf), fun id cs hi => h.hp id cs (by rw [← hh]; exact hi), fun r d z xs hr => h.hd r d z xs ?_⟩
  cases r with
  | obj id off => change cellOf off s'.h[id]? = _ at hr; rw [hh] at hr; exact hr
  | loc t off =>
    change cellOf off (find t s'.l) = _ at hr
    cases hf : find t s'.l with
    | none => rw [hf] at hr; cases hr
    | some cs => rw [hf] at hr; change cellOf off (find t s.l) = _; rw [hl t cs hf]; exact hr
  | tmp t =>
    change oneOf (find t s'.t) = _ at hr
    cases hf : find t s'.t with
    | none => rw [hf] at hr; cases hr
    | some tv => rw [hf] at hr; change oneOf (find t s.t) = _; rw [ht t tv hf]; exact hr
theorem Rel.drops {s : St} {fl a w g} (h : Rel s fl a w g) (ks : List Nat × List Nat) : Rel (s.drop ks) fl a w g :=
  h.ext (fun t tv hf => find_dropAll t tv ks.1 s.t hf) (fun t cs hf => find_dropAll t cs ks.2 s.l hf) rfl

/-! ### headers -/
def withHds (g : Gh) (D : Rt → Bool) (f : Rt → Nat × Nat × Nat × Nat) : Gh := { g with hd := fun q => if D q = true then f q else g.hd q }
theorem okB_withHds {g D f m r π b e} : okB (withHds g D f) m r π b e ↔ okB g m r π b e := by cases m <;> rfl
theorem KC.withHds {w g m r π a v} (h : KC w g m r π a v) (D f) : KC w (withHds g D f) m r π a v := by
  refine KC.map (g := g) (g' := Abs.withHds g D f) (r := r) (r' := r) (fun m π m' π' => m' = m ∧ π' = π) (Nat.le_refl _) (fun _ hi => ⟨hi, rfl⟩) ?_ h ⟨rfl, rfl⟩
  rintro m π m' π' ⟨rfl, rfl⟩
  exact ⟨id, id, fun b e _ ho => ⟨okB_withHds.2 ho, fun _ _ _ => rfl⟩, fun _ _ _ _ _ _ h => h, fun _ _ => ⟨rfl, rfl⟩⟩
theorem Lent.withHds {w g a v} (h : Lent w g a v) {D : Rt → Bool} {f : Rt → Nat × Nat × Nat × Nat} (hr : ∀ q, a.root = some q → D q = false) : Lent w (withHds g D f) a v := by
  cases h with
  | @loc t off => exact @Lent.loc w (Abs.withHds g D f) t off
  | @el q i off =>
    have hq : (Abs.withHds g D f).hd q = g.hd q := by show (if D q = true then f q else g.hd q) = _; rw [if_neg (by rw [hr q rfl]; simp)]
    have := @Lent.el w (Abs.withHds g D f) q i off; rw [hq] at this; exact this
  | @at_ q lo n a cap hc h hx =>
    have hq : (Abs.withHds g D f).hd q = g.hd q := by show (if D q = true then f q else g.hd q) = _; rw [if_neg (by rw [hr q rfl]; simp)]
    exact .at_ hc (by rw [hq]; exact h) (by rw [hq]; exact hx)
  | rd vs hb hmo hmi hok hc hk => exact .rd vs hb hmo hmi (okB_withHds.2 hok) hc fun j a ha => (hk j a ha).withHds _ _
  | it hb ho hw => exact .it hb ho hw
theorem RC.withHds {w g m r π a v} (h : RC w g m r π a v) {D : Rt → Bool} {f : Rt → Nat × Nat × Nat × Nat} (hr : ∀ q, a.root = some q → D q = false) : RC w (withHds g D f) m r π a v :=
  h.imp (fun h => h.withHds _ _) (fun h => h.withHds hr)
theorem RCs.withHds {w g r π cs vs} (h : RCs w g r π cs vs) {D : Rt → Bool} {f : Rt → Nat × Nat × Nat × Nat} (hr : ∀ c, c ∈ cs → ∀ q, c.2.root = some q → D q = false) : RCs w (withHds g D f) r π cs vs :=
  h.map rfl fun j c c' v hc hc' hk => by
    rw [hc] at hc'; cases hc'
    exact hk.withHds (hr c (List.mem_of_getElem? hc))
theorem RT1.withHds {w g r π tv v} (h : RT1 w g r π tv v) {D : Rt → Bool} {f : Rt → Nat × Nat × Nat × Nat} (hr : ∀ c, c ∈ all1 tv → ∀ q, c.2.root = some q → D q = false) : RT1 w (withHds g D f) r π tv v := by
  cases tv with
  | one m a => exact RC.withHds h (hr (m, a) (by simp [all1]))
  | agg cs => obtain ⟨vs, hv, h⟩ := h; exact ⟨vs, hv, h.withHds hr⟩
  | tup vs => cases vs with
    | nil => exact h
    | cons y ys => exact h.elim
theorem RT.withHds {w g r tv v} (h : RT w g r tv v) {D : Rt → Bool} {f : Rt → Nat × Nat × Nat × Nat} (hr : ∀ c, c ∈ tv.all → ∀ q, c.2.root = some q → D q = false) : RT w (withHds g D f) r tv v := by
  cases tv with
  | one m a => exact RT1.withHds (tv := .one m a) h hr
  | agg cs => exact RT1.withHds (tv := .agg cs) h hr
  | tup tvs =>
    obtain ⟨vs, hv, hs, h⟩ := h
    refine ⟨vs, hv, hs, fun j tv ht => ?_⟩
    obtain ⟨u, hu, hk⟩ := h j tv ht
    exact ⟨u, hu, hk.withHds fun c hc => hr c (List.mem_flatMap.2 ⟨tv, List.mem_of_getElem? ht, hc⟩)⟩
/-- nothing hangs on these headers -/
def NoRoot (D : Rt → Bool) (s : St) (fl : List (TV × Value)) : Prop :=
  (∀ t tv, find t s.t = some tv → ∀ c, c ∈ tv.all → ∀ q, c.2.root = some q → D q = false) ∧ (∀ t cs, find t s.l = some cs → ∀ c, c ∈ cs → ∀ q, c.2.root = some q → D q = false) ∧ ∀ x, x ∈ fl → ∀ c, c ∈ x.1.all → ∀ q, c.2.root = some q → D q = false
theorem Rel.rehd {s fl a w g} (h : Rel s fl a w g) {D : Rt → Bool} {f : Rt → Nat × Nat × Nat × Nat} (hn : NoRoot D s fl) (hx : ∀ q0, D q0 = true → ∀ d z xs, atRoot s q0 = some (.own (d + 1), .sl z xs) → ∀ b o sp len cap, valAt a w g q0 = some (.slice (some ⟨b, o, sp⟩) len cap) → f q0 = (b, o, z, cap)) :
    Rel s fl a w (withHds g D f) := by
  refine ⟨h.n, fun i y hi => (h.fl i y hi).withHds (hn.2.2 y (List.mem_of_getElem? hi)), fun t tv ht => (h.tm t tv ht).withHds (hn.1 t tv ht), fun t cs ht => ?_, fun id cs hi => ?_, fun r d z xs hr b o sp len cap hv => ?_⟩
  · have hb := h.bx t cs ht
    refine ⟨hb.own, hb.blk, hb.fr, fun j c hc => ?_⟩
    obtain ⟨v, h1, h2, h3⟩ := hb.cell j c hc
    exact ⟨v, h1, h2, h3.withHds (hn.2.1 t cs ht c (List.mem_of_getElem? hc))⟩
  · have hb := h.hp id cs hi
    refine ⟨hb.own, hb.blk, hb.fr, hb.md, fun j c hc => ?_⟩
    obtain ⟨v, h1, h2, h3⟩ := hb.cell j c hc
    exact ⟨v, h1, h2, h3.withHds _ _⟩
  · have hv' : valAt a w g r = some (.slice (some ⟨b, o, sp⟩) len cap) := by cases r <;> exact hv
    show (if D r = true then f r else g.hd r) = _
    split
    · rename_i e; exact hx r e d z xs hr b o sp len cap hv'
    · exact h.hd r d z xs hr b o sp len cap hv'
theorem le_withHds {w g D f} (pu : Pu) : Le pu w g w (withHds g D f) :=
  ⟨Nat.le_refl _, fun _ _ _ => ⟨rfl, rfl, rfl⟩, fun _ h1 h2 => absurd h2 (by omega), fun _ _ h => h, Nat.le_refl _, fun _ _ => rfl, rfl, rfl, rfl⟩

theorem all_killT {p q} {tv : TV} {c} (hc : c ∈ (killT p q tv).all) : ∃ c0, c = killC p q c0 := by
  have h1 : ∀ tv, c ∈ all1 (kill1 p q tv) → ∃ c0, c = killC p q c0 := by
    intro tv hc
    cases tv with
    | one m a => simp [kill1, all1] at hc; exact ⟨(m, a), hc⟩
    | agg cs => simp only [kill1, all1, List.mem_map] at hc; obtain ⟨c0, _, rfl⟩ := hc; exact ⟨c0, rfl⟩
    | tup vs => simp [kill1, all1] at hc
  cases tv with
  | one m a => exact h1 (.one m a) hc
  | agg cs => exact h1 (.agg cs) hc
  | tup vs =>
    simp only [killT, TV.all, List.mem_flatMap, List.mem_map] at hc
    obtain ⟨tv', ⟨tv0, _, rfl⟩, hc⟩ := hc
    exact h1 tv0 hc
theorem killC_root {p : Md → Bool} {q : AV → Bool} {c : MC} {D : Rt → Bool} (hq : ∀ a q0, AV.root a = some q0 → D q0 = true → q a = true) : ∀ q0, (killC p q c).2.root = some q0 → D q0 = false := by
  intro q0
  unfold killC
  split
  · intro h; cases h
  · rename_i h
    intro hr
    cases hD : D q0 with
    | false => rfl
    | true => exact absurd (by simp [hq _ _ hr hD]) h
theorem noRoot_kill {p : Md → Bool} {q : AV → Bool} {s : St} {D : Rt → Bool} (hq : ∀ a q0, AV.root a = some q0 → D q0 = true → q a = true) : NoRoot D (s.kill p q) [] := by
  refine ⟨fun t tv ht c hc => ?_, fun t cs ht c hc => ?_, fun x hx => by cases hx⟩
  · rw [find_kill_t, Option.map_eq_some_iff] at ht
    obtain ⟨tv0, _, rfl⟩ := ht
    obtain ⟨c0, rfl⟩ := all_killT hc
    exact killC_root hq
  · rw [find_kill_l, Option.map_eq_some_iff] at ht
    obtain ⟨cs0, _, rfl⟩ := ht
    obtain ⟨c0, _, rfl⟩ := List.mem_map.1 hc
    exact killC_root hq
theorem ofTmp_root {d} (a : AV) (q0 : Rt) (h : a.root = some q0) (hD : decide (q0 = .tmp d) = true) : ofTmp d a = true := by simp at hD; subst hD; simp [ofTmp, h]

/-! ### a value is laid into a slot -/
theorem Rel.land {s : St} {tv v a w g} {d : Tmp} (pu : Pu) (h : Rel s [(tv, v)] a w g) (hd : d < a.tmps.size) :
    ∃ g', Rel (setT1 s d tv) [] (a.put (some d) v) w g' ∧ Le pu w g w g' := by
  by_cases ho : ∃ n z xs, tv = .one (.own (n + 1)) (.sl z xs)
  · obtain ⟨n, z, xs, rfl⟩ := ho
    have hk := h.kill noMd (ofTmp d)
    have hk2 : Rel { s.kill noMd (ofTmp d) with t := drop1 d (s.kill noMd (ofTmp d)).t } [(.one (.own (n + 1)) (.sl z xs), v)] a w g :=
      hk.ext (fun t tv hf => by rw [find_drop1] at hf; split at hf; exact absurd hf (by simp); exact hf) (fun _ _ h => h) rfl
    have hno : NoRoot (fun q => decide (q = .tmp d)) { s.kill noMd (ofTmp d) with t := drop1 d (s.kill noMd (ofTmp d)).t } [(.one (.own (n + 1)) (.sl z xs), v)] := by
      obtain ⟨h1, h2, _⟩ := noRoot_kill (p := noMd) (s := s) (ofTmp_root (d := d))
      refine ⟨fun t tv hf => ?_, h2, fun x hx c hc => ?_⟩
      · rw [find_drop1] at hf
        split at hf
        · cases hf
        · exact h1 t tv hf
      · simp only [List.mem_singleton] at hx
        subst hx
        simp only [TV.all, all1, List.mem_singleton] at hc
        subst hc
        intro q h; cases h
    have key : ∀ x, Rel { s.kill noMd (ofTmp d) with t := drop1 d (s.kill noMd (ofTmp d)).t } [(.one (.own (n + 1)) (.sl z xs), v)] a w (withHds g (fun q => decide (q = .tmp d)) fun _ => x) := fun x =>
      hk2.rehd hno fun q0 hq d' z' xs' hr => by
        simp only [decide_eq_true_eq] at hq
        subst hq
        change oneOf (find d (drop1 d (s.kill noMd (ofTmp d)).t)) = _ at hr
        rw [find_drop1, if_pos rfl] at hr
        cases hr
    obtain ⟨x, hx⟩ : ∃ x, ∀ b o sp len cap, v = .slice (some ⟨b, o, sp⟩) len cap → x = (b, o, z, cap) := by
      cases v with
      | slice a len cap => cases a with
        | none => exact ⟨(0, 0, 0, 0), fun b o sp len cap h => by cases h⟩
        | some a => exact ⟨(a.block, a.off, z, cap), fun b o sp len cap h => by cases h; rfl⟩
      | _ => exact ⟨(0, 0, 0, 0), fun b o sp len cap h => by cases h⟩
    obtain ⟨g', e1, e2, e3⟩ := Rel.land0 (fl := []) pu (key x) hd (fun z' xs' n' he b o sp len cap hv => by
      cases he
      show (if decide ((Rt.tmp d) = .tmp d) = true then x else g.hd _) = _
      rw [if_pos (by simp)]; exact hx b o sp len cap hv)
    refine ⟨g', e2.ext (fun t tv hf => ?_) (fun _ _ h => h) rfl, (le_withHds pu).trans e3⟩
    change find t (put d _ (s.kill noMd (ofTmp d)).t) = some tv at hf
    show find t (put d _ (drop1 d (s.kill noMd (ofTmp d)).t)) = some tv
    rw [find_put] at hf ⊢
    split
    · rename_i e; rw [if_pos e] at hf; exact hf
    · rename_i e; rw [if_neg e] at hf; rw [find_drop1, if_neg e]; exact hf
  · have e : setT1 s d tv = { s with t := put d tv s.t } := by
      unfold setT1
      split
      · exact absurd ⟨_, _, _, rfl⟩ ho
      · rfl
    rw [e]
    obtain ⟨g', _, h2, h3⟩ := Rel.land0 (fl := []) pu h hd (fun z xs n he => absurd ⟨n, z, xs, he⟩ ho)
    exact ⟨g', h2, h3⟩
theorem Rel.finish {s : St} {tv v a w g} {dst : Option Tmp} (pu : Pu) (h : Rel s [(tv, v)] a w g) (hd : ∀ d, dst = some d → d < a.tmps.size) :
    ∃ g', Rel (setT s dst tv) [] (a.put dst v) w g' ∧ Le pu w g w g' := by
  cases dst with
  | none => exact ⟨g, h.forget (fl := []), .refl _ _ _⟩
  | some d => exact h.land pu (hd d rfl)

/-! ### operands -/
theorem ofV_ok {w g m r π v a} (h : ofV v = some a) : KC w g m r π a v := by
  unfold ofV at h
  split at h <;> first | (cases h; constructor) | cases h
theorem zeroIs_ok {w g m r π v a} (h : zeroIs v m a = true) : KC w g m r π a v := by
  unfold zeroIs at h
  split at h
  · exact .bool
  · simp only [Bool.and_eq_true, decide_eq_true_eq] at h
    obtain ⟨rfl, rfl⟩ := h; exact .int
  · simp only [decide_eq_true_eq] at h
    subst h; exact .str
  · exact .nilp
  · exact .nil (by simp)
  · cases h
theorem zeroesAre_ok {w g r π} : ∀ {vs : List Value} {cs : List MC}, zeroesAre vs cs = true → vs.length = cs.length ∧ ∀ (j : Nat) c, cs[j]? = some c → ∃ u, vs[j]? = some u ∧ ∀ ρ, KC w g c.1 r (π ++ ρ) c.2 u
  | [], [], _ => ⟨rfl, fun j c h => by simp at h⟩
  | v :: vs, c :: cs, h => by
    simp only [zeroesAre, Bool.and_eq_true] at h
    obtain ⟨h1, h2⟩ := zeroesAre_ok (w := w) (g := g) (r := r) (π := π) h.2
    refine ⟨by simp [h1], fun j c' hc => ?_⟩
    cases j with
    | zero => simp at hc; subst hc; exact ⟨v, rfl, fun ρ => zeroIs_ok h.1⟩
    | succ j => exact h2 j c' (by simpa using hc)
  | [], _ :: _, h => by cases h
  | _ :: _, [], h => by cases h
theorem cst_ok {P w g r ty v tv} (h : cst P ty v = some tv) : RT w g r tv v := by
  unfold cst at h
  split at h
  · split at h
    · rw [Option.map_eq_some_iff] at h
      obtain ⟨z, _, rfl⟩ := h
      exact .inl (.nil (by simp))
    · cases h
  · rename_i cs
    cases hz : zeroOf P ty with
    | none => rw [hz] at h; cases h
    | some z =>
      rw [hz] at h
      simp only [Option.bind_some] at h
      split at h
      · rename_i h1
        cases h
        obtain ⟨k1, k2⟩ := zeroesAre_ok (w := w) (g := g) (r := r) (π := []) h1
        refine ⟨cs, rfl, by simpa using k1, fun j c hc => ?_⟩
        obtain ⟨u, hu, hk⟩ := k2 j c hc
        exact ⟨u, by simpa using hu, .inl (hk _)⟩
      · cases h
  · rw [Option.map_eq_some_iff] at h
    obtain ⟨a, ha, rfl⟩ := h
    exact .inl (ofV_ok ha)
theorem Rel.opndS {P s fl a w g ty x tv} (pu : Pu) (h : Rel s fl a w g) (hx : opnd P s ty x = some tv) :
    ∃ g', Rel (used s x) (fl ++ [(tv, a.eval x)]) a w g' ∧ Le pu w g w g' ∧ Same g g' := by
  cases x with
  | tmp t =>
    change find t s.t = some tv at hx
    refine ⟨_, ?_, le_relabel (Ftake_side t fl.length) pu (fun id π => Ftake_keep (by simp) (by simp) π) fun _ t => Ftake_keep (by simp) (by simp) [], ⟨rfl, fun _ => rfl, fun _ => rfl, fun _ => rfl⟩⟩
    show Rel (usedF s t (find t s.t)) _ a w _
    rw [hx]; exact h.takeG hx
  | const v => exact ⟨g, h.push (cst_ok hx), .refl _ _ _, .refl _⟩
  | global g => cases hx
  | func f => cases hx
theorem cstZ_ok {P w g r ty v tv} (h : cst P ty v = some tv) (b : Bool) : RT w g r (cstZ b tv) v := by
  have h1 : RT w g r tv v := cst_ok h
  unfold cst at h
  split at h
  · split at h
    · rw [Option.map_eq_some_iff] at h
      obtain ⟨z, _, rfl⟩ := h
      cases b with
      | false => exact .inl (.nil (by simp))
      | true => exact .inl (.nil (by simp))
    · cases h
  · rename_i cs
    cases hz : zeroOf P ty with
    | none => rw [hz] at h; cases h
    | some z =>
      rw [hz] at h
      simp only [Option.bind_some] at h
      split at h
      · cases h; exact h1
      · cases h
  · rw [Option.map_eq_some_iff] at h
    obtain ⟨a, ha, rfl⟩ := h
    exact h1
theorem Rel.opndSZ {P s fl a w g ty x tv} {b : Bool} (pu : Pu) (h : Rel s fl a w g) (hx : opndZ b P s ty x = some tv) :
    ∃ g', Rel (used s x) (fl ++ [(tv, a.eval x)]) a w g' ∧ Le pu w g w g' ∧ Same g g' := by
  cases x with
  | tmp t => exact h.opndS (P := P) (ty := ty) pu hx
  | const v =>
    change (cst P ty v).map (cstZ b) = some tv at hx
    rw [Option.map_eq_some_iff] at hx
    obtain ⟨t0, h1, rfl⟩ := hx
    exact ⟨g, h.push (cstZ_ok h1 b), .refl _ _ _, .refl _⟩
  | global g => cases hx
  | func f => cases hx
theorem cstK_ok {P w g r ty v tv} (h : cst P ty v = some tv) (b : Bool) : RT w g r (cstK b tv) v := by
  have h1 : RT w g r tv v := cst_ok h
  unfold cst at h
  split at h
  · split at h
    · rw [Option.map_eq_some_iff] at h
      obtain ⟨z, _, rfl⟩ := h
      cases b with
      | false => exact .inl (.nil (by simp))
      | true => exact .inl (.nil (by simp))
    · cases h
  · rename_i cs
    cases hz : zeroOf P ty with
    | none => rw [hz] at h; cases h
    | some z =>
      rw [hz] at h
      simp only [Option.bind_some] at h
      split at h
      · cases h; exact h1
      · cases h
  · rw [Option.map_eq_some_iff] at h
    obtain ⟨a, ha, rfl⟩ := h
    exact h1
theorem Rel.opndSK {P s fl a w g ty x tv} {b : Bool} (pu : Pu) (h : Rel s fl a w g) (hx : opndK b P s ty x = some tv) :
    ∃ g', Rel (used s x) (fl ++ [(tv, a.eval x)]) a w g' ∧ Le pu w g w g' ∧ Same g g' := by
  cases x with
  | tmp t => exact h.opndS (P := P) (ty := ty) pu hx
  | const v =>
    change (cst P ty v).map (cstK b) = some tv at hx
    rw [Option.map_eq_some_iff] at hx
    obtain ⟨t0, h1, rfl⟩ := hx
    exact ⟨g, h.push (cstK_ok h1 b), .refl _ _ _, .refl _⟩
  | global g => cases hx
  | func f => cases hx
theorem Rel.opndK {P s fl a w g ty x tv} {b : Bool} (pu : Pu) (h : Rel s fl a w g) (hx : Abs.opndK b P s ty x = some tv) :
    ∃ g', Rel (used s x) (fl ++ [(tv, a.eval x)]) a w g' ∧ Le pu w g w g' := by
  obtain ⟨g', h1, h2, _⟩ := h.opndSK pu hx
  exact ⟨g', h1, h2⟩
theorem Rel.opnd {P s fl a w g ty x tv} (pu : Pu) (h : Rel s fl a w g) (hx : opnd P s ty x = some tv) :
    ∃ g', Rel (used s x) (fl ++ [(tv, a.eval x)]) a w g' ∧ Le pu w g w g' := by
  obtain ⟨g', h1, h2, _⟩ := h.opndS pu hx
  exact ⟨g', h1, h2⟩
theorem Rel.opndCp {P s fl a w g ty x tv} (h : Rel s fl a w g) (hx : Abs.opnd P s ty x = some tv) : Rel s (fl ++ [(tv.cp, a.eval x)]) a w g := by
  cases x with
  | tmp t => exact h.copy hx
  | const v => exact h.push ((cst_ok (r := .lim 0) hx).cp rfl _)
  | global g => cases hx
  | func f => cases hx
/-- what a value on its way reads as -/
theorem Rel.at {s fl a w g tv v} (h : Rel s (fl ++ [(tv, v)]) a w g) : RT w g (.lim fl.length) tv v := h.fl fl.length (tv, v) (by simp)

/-! ### what a cell's value is -/
theorem RC.int {w g m r π k n v} (h : RC w g m r π (.int k n) v) : v = .int k n := by rcases h with h | h <;> cases h; rfl
theorem RC.bool {w g m r π b v} (h : RC w g m r π (.bool b) v) : v = .bool b := by rcases h with h | h <;> cases h; rfl
theorem RC.str {w g m r π s v} (h : RC w g m r π (.str s) v) : v = .string s := by rcases h with h | h <;> cases h; rfl
theorem RC.nilp {w g m r π v} (h : RC w g m r π (.ptr .nil) v) : v = .pointer none := by rcases h with h | h <;> cases h; rfl
theorem RC.obj {w g m r π id off v} (h : RC w g m r π (.ptr (.at id off)) v) : v = ptr (g.φ id) off ∧ id < g.n := by rcases h with h | h <;> cases h; exact ⟨rfl, ‹_›⟩
theorem RC.loc {w g m r π t off v} (h : RC w g m r π (.loc t off) v) : v = ptr (g.ψ t) off := by rcases h with h | h <;> cases h; rfl
theorem RC.el {w g m r π q i off v} (h : RC w g m r π (.el q i off) v) : v = ptr (g.hd q).1 ((g.hd q).2.1 + i * (g.hd q).2.2.1 + off) := by rcases h with h | h <;> cases h; rfl
theorem RC.conc {w g m r π a v u} (h : RC w g m r π a v) (hc : a.conc = some u) : v = u := by
  cases a <;> simp [AV.conc] at hc
  · subst hc; exact h.bool
  · subst hc; exact h.int
  · subst hc; exact h.str
  · rename_i p
    cases p with
    | nil => simp [Ptr.isNil] at hc; subst hc; exact h.nilp
    | «at» i o => simp [Ptr.isNil] at hc
theorem RC.scalar {w g m r π a v} (h : RC w g m r π a v) (hs : a.scalar = true) : ∀ m' r' π', KC w g m' r' π' a v := by
  intro m' r' π'
  cases a <;> simp [AV.scalar] at hs
  · rw [h.bool]; exact .bool
  · rw [h.int]; exact .int
  · rw [h.str]; exact .str
  · rename_i p
    cases p with
    | nil => rw [h.nilp]; exact .nilp
    | «at» i o => obtain ⟨h1, h2⟩ := h.obj; rw [h1]; exact .obj h2
theorem RCs.conc {w g r π} : ∀ {cs : List MC} {vs us : List Value} {π0 : Nat}, (∀ (j : Nat) c, cs[j]? = some c → ∃ u, vs[j]? = some u ∧ RC w g c.1 r (π ++ [π0 + j]) c.2 u) → vs.length = cs.length → concAll cs = some us → vs = us
  | [], [], us, _, _, _, h => by simp [concAll] at h; exact h.symm
  | c :: cs, v :: vs, us, π0, h, hl, hc => by
    unfold concAll at hc
    cases h1 : c.2.conc with
    | none => rw [h1] at hc; cases hc
    | some u =>
      rw [h1] at hc
      simp only [Option.bind_some, Option.map_eq_some_iff] at hc
      obtain ⟨us', h2, rfl⟩ := hc
      obtain ⟨u', hu', hr⟩ := h 0 c rfl
      simp at hu'
      subst hu'
      rw [RC.conc hr h1, RCs.conc (cs := cs) (vs := vs) (us := us') (π0 := π0 + 1) (fun j c hj => by
        obtain ⟨u, hu, hk⟩ := h (j + 1) c hj
        exact ⟨u, by simpa using hu, by rw [show π0 + 1 + j = π0 + (j + 1) from by omega]; exact hk⟩) (by simpa using hl) h2]
  | [], v :: vs, us, _, _, hl, _ => by simp at hl
  | c :: cs, [], us, _, _, hl, _ => by simp at hl
theorem RT.conc {w g r tv v u} (h : RT w g r tv v) (hc : tv.conc = some u) : v = u := by
  cases tv with
  | one m a => exact RC.conc h hc
  | agg cs =>
    obtain ⟨vs, rfl, h⟩ := h
    simp only [TV.conc, Option.map_eq_some_iff] at hc
    obtain ⟨us, h1, rfl⟩ := hc
    have := RCs.conc (w := w) (g := g) (r := r) (π := []) (vs := vs.toList) (π0 := 0) (fun j c hj => by
      obtain ⟨u, hu, hk⟩ := h.2 j c hj
      exact ⟨u, by simpa using hu, by simpa using hk⟩) (by simpa using h.1) h1
    subst this; rfl
  | tup vs => cases hc
end Go.Proofs.Abs
/- Operations that only tell a value: sound. -/
namespace Go.Proofs.Abs
open Go
set_option linter.unusedVariables false

/-! ### runs of what reads only the program -/
section
variable {P : Program} {w : World}
theorem run_underlying' {t d} (h : P.underlying t = some d) : (underlying t).run P w = .ok d w := by simp [underlying, h]
theorem info_of_sz {t n} (h : szOf P t = some n) : ∃ i, P.info? t = some i ∧ i.size = n := by
  simpa [szOf, Option.map_eq_some_iff] using h
theorem run_typeInfo' {t i} (h : P.info? t = some i) : (typeInfo t).run P w = .ok i w := by simp [typeInfo, h]
theorem run_sizeOf' {t n} (h : szOf P t = some n) : (sizeOf t).run P w = .ok n w := by
  obtain ⟨i, h1, h2⟩ := info_of_sz h
  simp [sizeOf, run_typeInfo' h1, h2]
theorem run_isAgg' {t b} (h : isAggT P t = some b) : (isAgg t).run P w = .ok b w := by
  simp only [isAggT, Option.map_eq_some_iff] at h
  obtain ⟨d, h1, h2⟩ := h
  simp only [isAgg, Sem.run_bind, run_underlying' h1, Result.andThen_ok]
  cases d <;> simp_all
theorem pureP_run {α : Type} {m : Sem α} {x : α} (h : pureP P m = some x) : ∀ w, m.run P w = .ok x w := by
  induction m with
  | pure a => intro w; simp only [pureP] at h; cases h; rfl
  | program k ih => intro w; exact ih _ h w
  | _ => simp [pureP] at h
theorem add_mk (b o n : Nat) : (⟨b, o, none⟩ : Addr).add n = ⟨b, o + n, none⟩ := by
  unfold Addr.add; split
  · rename_i h; subst h; rfl
  · rfl
end

/-! ### a slice that is known -/
structure SlAt (w : World) (g : Gh) (m : Md) (r : Rk) (π : List Nat) (z : Nat) (xs : List (List AV)) (b o cap : Nat) : Prop where
  hb : b < w.heap.size
  hok : okB g m r π b (o + xs.length * z)
  hz : ∀ x, x ∈ xs → x.length = z
  hcap : xs.length ≤ cap
  room : m.owned = true → ∀ j, j < cap * z → free w b (o + j)
  cell : ∀ i x j a, xs[i]? = some x → x[j]? = some a → ∃ v, cel w b (o + i * z + j) = some v ∧ KC w g m.inner r (π ++ [i, j]) a v
theorem KC.sl_inv {w g m r π z xs v} (h : KC w g m r π (.sl z xs) v) : (xs = [] ∧ v = .slice none 0 0 ∧ m ≠ .top) ∨ (∃ b o cap, v = .slice (some ⟨b, o, none⟩) xs.length cap ∧ SlAt w g m r π z xs b o cap) ∨ (xs = [] ∧ (∃ a cap, v = .slice (some a) 0 cap) ∧ m ≠ .top ∧ m.owned = false) := by
  cases h with
  | nil hm => exact .inl ⟨rfl, rfl, hm⟩
  | emp hm ho => exact .inr (.inr ⟨rfl, ⟨_, _, rfl⟩, hm, ho⟩)
  | sl vs hb hok hz hcap room hc hr => exact .inr <| .inl ⟨_, _, _, rfl, hb, hok, hz, hcap, room, fun i x j a h1 h2 => ⟨vs i j, hc i x j a h1 h2, hr i x j a h1 h2⟩⟩
theorem RC.sl {w g m r π z xs v} (h : RC w g m r π (.sl z xs) v) : KC w g m r π (.sl z xs) v := by
  rcases h with h | h
  · exact h
  · cases h
def rk : Rt → Rk
  | .obj id _ => .obj id
  | .loc t _ => .loc t
  | .tmp t => .tmp t
def rp : Rt → List Nat
  | .obj _ off => [off]
  | .loc _ off => [off]
  | .tmp _ => [0]
theorem Rel.root {s fl a w g r m z xs} (h : Rel s fl a w g) (hr : atRoot s r = some (m, .sl z xs)) : ∃ v, valAt a w g r = some v ∧ KC w g m (rk r) (rp r) (.sl z xs) v := by
  cases r with
  | obj id off =>
    change cellOf off s.h[id]? = _ at hr
    cases hs : s.h[id]? with
    | none => rw [hs] at hr; cases hr
    | some cs =>
      rw [hs] at hr
      obtain ⟨v, h1, h2, h3⟩ := (h.hp id cs hs).cell off _ hr
      exact ⟨v, h1, h3⟩
  | loc t off =>
    change cellOf off (find t s.l) = _ at hr
    cases hs : find t s.l with
    | none => rw [hs] at hr; cases hr
    | some cs =>
      rw [hs] at hr
      obtain ⟨v, h1, h2, h3⟩ := (h.bx t cs hs).cell off _ hr
      exact ⟨v, h1, h3.sl⟩
  | tmp t =>
    change oneOf (find t s.t) = _ at hr
    cases hs : find t s.t with
    | none => rw [hs] at hr; cases hr
    | some tv =>
      rw [hs] at hr
      cases tv with
      | one m' a' =>
        cases hr
        exact ⟨_, rfl, RC.sl (h.tm t _ hs)⟩
      | agg cs => cases hr
      | tup vs => cases hr
/-- where the slice that stands at a root begins -/
theorem Rel.rootAt {s fl a w g r d z xs} (h : Rel s fl a w g) (hr : atRoot s r = some (.own (d + 1), .sl z xs)) (hx : xs ≠ []) :
    ∃ b o cap, valAt a w g r = some (.slice (some ⟨b, o, none⟩) xs.length cap) ∧ g.hd r = (b, o, z, cap) ∧ SlAt w g (.own (d + 1)) (rk r) (rp r) z xs b o cap := by
  obtain ⟨v, h1, h2⟩ := h.root hr
  rcases h2.sl_inv with ⟨h3, _⟩ | ⟨b, o, cap, rfl, h3⟩ | ⟨h3, _⟩
  · exact absurd h3 hx
  rotate_left
  · exact absurd h3 hx
  · exact ⟨b, o, cap, h1, h.hd r d z xs hr b o none _ cap h1, h3⟩

/-! ### a slot's value -/
theorem Rel.val {P s fl a w g ty x tv} (h : Rel s fl a w g) (hx : Abs.opnd P s ty x = some tv) : ∃ r : Rk, r.isObj = false ∧ RT w g r tv (a.eval x) := by
  cases x with
  | tmp t => exact ⟨.tmp t, rfl, h.tm t tv hx⟩
  | const v => exact ⟨.lim 0, rfl, cst_ok hx⟩
  | global g => cases hx
  | func f => cases hx
theorem RT.one {w g r m a v} (h : RT w g r (.one m a) v) : RC w g m r [0] a v := h
/-- a plain value is laid into a slot -/
theorem Rel.tell {s a w g v dst} {c : AV} (pu : Pu) (h : Rel s [] a w g) (hd : ∀ d, dst = some d → d < a.tmps.size) (hv : ∀ r π, RC w g .top r π c v) :
    ∃ g', Rel (setT s dst (sc c)) [] (a.put dst v) w g' ∧ Le pu w g w g' :=
  (h.push (tv := sc c) (v := v) (hv _ _)).finish pu hd
theorem sc_ofV {w g v c} (h : ofV v = some c) : ∀ r π, RC w g .top r π c v := fun _ _ => .inl (ofV_ok h)

section
variable {X : Cx} {pu : Pu} {call : CallF} {s s' : St} {a : Act} {w : World} {g : Gh} {dst : Option Tmp}

theorem setO_inv {d o s'} (h : setO s d o = some s') : ∃ v, o = some v ∧ s' = setT s d v := by
  cases o with
  | none => cases h
  | some v => exact ⟨v, rfl, (Option.some.inj h).symm⟩
theorem setQ_inv {d o s'} (h : setQ d o = some s') : ∃ v s1, o = some (v, s1) ∧ s' = setT s1 d v := by
  cases o with
  | none => cases h
  | some v => exact ⟨v.1, v.2, rfl, (Option.some.inj h).symm⟩

/-- what an operation that only tells a value has to show -/
def Told (X : Cx) (pu : Pu) (o : Oper) (a : Act) (w : World) (g : Gh) (s' : St) : Prop :=
  ∃ v g', (∀ w', (execOp a.eval o).run X.P w' = .ok (.value v) w') ∧ Rel s' [] (a.put o.dst v) w g' ∧ Le pu w g w g'

theorem told_move {o : Oper} {x hm} (ho : o.op = .move x) (R : Rel s [] a w g) (hd : ∀ d, o.dst = some d → d < a.tmps.size) (h : evMove X.P hm o.type o.dst s x = some s') : Told X pu o a w g s' := by
  have run : ∀ w', (execOp a.eval o).run X.P w' = .ok (.value (a.eval x)) w' := fun w' => by unfold execOp; rw [ho]; rfl
  have cp : setO s o.dst (cpO (opnd X.P s o.type x)) = some s' → Told X pu o a w g s' := fun h => by
    obtain ⟨v, h1, rfl⟩ := setO_inv h
    cases hx : opnd X.P s o.type x with
    | none => rw [hx] at h1; cases h1
    | some tv =>
      rw [hx] at h1
      cases h1
      obtain ⟨g', k1, k2⟩ := (R.opndCp hx).finish pu hd
      exact ⟨_, g', run, k1, k2⟩
  unfold evMove at h
  split at h
  · rename_i t
    cases hf : find t s.t with
    | none => rw [hf] at h; cases h
    | some tv =>
      rw [hf] at h
      cases h
      obtain ⟨g1, k1, k2⟩ := R.take pu hf
      obtain ⟨g2, k3, k4⟩ := k1.finish pu hd
      exact ⟨_, g2, run, k3, k2.trans k4⟩
  · rename_i t
    obtain ⟨v, h1, rfl⟩ := setO_inv h
    unfold placeF at h1
    split at h1
    · rename_i d z xs hf
      cases h1
      have hr : atRoot s (.tmp t) = some (.own (d + 1), .sl z xs) := by show oneOf (find t s.t) = _; rw [hf]; rfl
      obtain ⟨v, e1, e2⟩ := R.root hr
      have hv : ∀ r π, RC w g .top r π (.at_ (.tmp t) 0 xs.length) (a.eval (.tmp t)) := fun r π => by
        have e3 : a.eval (.tmp t) = v := Option.some.inj e1
        rw [e3]
        rcases e2.sl_inv with ⟨k1, k2, _⟩ | ⟨b, o, cap, k1, k2⟩ | ⟨_, _, _, hno⟩
        rotate_left 2
        · cases hno
        · subst k1; subst k2; exact .inr (.at_ (Nat.le_refl _) (fun h => absurd h (by simp)) (.inl ⟨rfl, rfl⟩))
        · subst k1
          have := R.hd _ d z xs hr b o none _ cap e1
          exact .inr (.at_ k2.hcap (fun _ => by rw [this]; simp) (.inr ⟨o, by rw [this], by rw [this]; simp, .inr (by rw [this]; simp)⟩))
      obtain ⟨g', k1, k2⟩ := R.tell pu hd hv
      exact ⟨_, g', run, k1, k2⟩
    · cases h1
  · exact cp h

theorem told_assign {o : Oper} {b : Bool} {x} (ho : o.op = .assign x) (R : Rel s [] a w g) (hd : ∀ d, o.dst = some d → d < a.tmps.size) (h : setO (used s x) o.dst (opndK b X.P s o.type x) = some s') : Told X pu o a w g s' := by
  obtain ⟨v, h1, rfl⟩ := setO_inv h
  obtain ⟨g1, k1, k2⟩ := R.opndK pu h1
  obtain ⟨g2, k3, k4⟩ := k1.finish pu hd
  exact ⟨_, g2, fun w' => by unfold execOp; rw [ho]; rfl, k3, k2.trans k4⟩

theorem told_pick {o : Oper} {c x y} (ho : o.op = .pick c x y) (R : Rel s [] a w g) (hd : ∀ d, o.dst = some d → d < a.tmps.size)
    (h : setO s o.dst (cpO (pickF (opnd X.P s 0 c) (opnd X.P s o.type x) (opnd X.P s o.type y))) = some s') : Told X pu o a w g s' := by
  obtain ⟨v, h1, rfl⟩ := setO_inv h
  cases hc : opnd X.P s 0 c with
  | none => rw [hc] at h1; cases h1
  | some cv =>
    rw [hc] at h1
    cases cv with
    | agg cs => cases h1
    | tup vs => cases h1
    | one m c0 => cases c0 with
      | bool t =>
        change cpO (if t = true then opnd X.P s o.type x else opnd X.P s o.type y) = some v at h1
        obtain ⟨r, _, hr⟩ := R.val hc
        have hb := (RT.one hr).bool
        cases t with
        | true =>
          simp only [if_true] at h1
          cases hx : opnd X.P s o.type x with
          | none => rw [hx] at h1; cases h1
          | some tv =>
            rw [hx] at h1; cases h1
            obtain ⟨g', k1, k2⟩ := (R.opndCp hx).finish pu hd
            exact ⟨_, g', fun w' => by unfold execOp; rw [ho]; simp [hb, asBool], k1, k2⟩
        | false =>
          simp only [Bool.false_eq_true, if_false] at h1
          cases hx : opnd X.P s o.type y with
          | none => rw [hx] at h1; cases h1
          | some tv =>
            rw [hx] at h1; cases h1
            obtain ⟨g', k1, k2⟩ := (R.opndCp hx).finish pu hd
            exact ⟨_, g', fun w' => by unfold execOp; rw [ho]; simp [hb, asBool], k1, k2⟩
      | _ => cases h1

theorem told_nil {o : Oper} {x} (ho : o.op = .nilCheck x) (R : Rel s [] a w g) (hd : ∀ d, o.dst = some d → d < a.tmps.size)
    (h : setO s o.dst (nilF (opnd X.P s 0 x)) = some s') : Told X pu o a w g s' := by
  obtain ⟨v, h1, rfl⟩ := setO_inv h
  cases hx : opnd X.P s 0 x with
  | none => rw [hx] at h1; cases h1
  | some tv =>
    rw [hx] at h1
    obtain ⟨r, _, hr⟩ := R.val hx
    have run : ∀ p, a.eval x = .pointer (some p) → ∀ w', (execOp a.eval o).run X.P w' = .ok (.value (.pointer (some p))) w' := fun p hp w' => by
      unfold execOp; rw [ho]; simp [hp]
    unfold nilF at h1
    split at h1
    · rename_i m id off he
      cases he; cases h1
      obtain ⟨e1, e2⟩ := (RT.one hr).obj
      obtain ⟨g', k1, k2⟩ := R.tell pu hd (c := .ptr (.at id off)) (v := ptr (g.φ id) off) fun _ _ => .inl (.obj e2)
      exact ⟨_, g', run _ e1, k1, k2⟩
    · rename_i m id off he
      cases he; cases h1
      obtain ⟨g', k1, k2⟩ := R.tell pu hd (c := .loc id off) fun _ _ => .inr .loc
      exact ⟨_, g', run _ (RT.one hr).loc, k1, k2⟩
    · rename_i m q i off he
      cases he; cases h1
      obtain ⟨g', k1, k2⟩ := R.tell pu hd (c := .el q i off) fun _ _ => .inr .el
      exact ⟨_, g', run _ (RT.one hr).el, k1, k2⟩
    · rename_i m mo mi cs off he
      cases he; cases h1
      rcases RT.one hr with h | h
      · cases h
      · generalize hv : a.eval x = v at h
        have h' := h
        cases h with
        | @rd _ _ _ _ b o vs hb hmo hmi hok hc hk =>
          obtain ⟨g', k1, k2⟩ := R.tell pu hd (c := .rd mo mi cs off) fun _ _ => .inr h'
          exact ⟨_, g', run _ hv, k1, k2⟩
    · cases h1

theorem told_bin {o : Oper} {op t x y yt} (ho : o.op = .binOp op t x y yt) (R : Rel s [] a w g) (hd : ∀ d, o.dst = some d → d < a.tmps.size)
    (h : setO s o.dst (evBin X.P op t x y (opnd X.P s t x) (opnd X.P s t y)) = some s') : Told X pu o a w g s' := by
  obtain ⟨v, h1, rfl⟩ := setO_inv h
  have run : ∀ u, (∀ w', (do eqGuard op t x y (a.eval x) (a.eval y); binOp op t (a.eval x) (a.eval y) : Sem Value).run X.P w' = .ok u w') → ∀ w', (execOp a.eval o).run X.P w' = .ok (.value u) w' := fun u hu w' => by
    unfold execOp; rw [ho]
    have := hu w'
    simp only [Sem.run_bind] at this ⊢
    rw [this]; rfl
  have ptrs : ∀ {p q : Option Addr} {e : Bool} {v}, a.eval x = .pointer p → a.eval y = .pointer q → (∀ el, X.P.underlying t = some (.pointer el) → ∀ w', (Op.equal t (.pointer p) (.pointer q)).run X.P w' = .ok e w') → ptrEq X.P op t e = some v → Told X pu o a w g (setT s o.dst v) := by
    intro p q e v hp hq heq hv
    unfold ptrEq at hv
    split at hv
    · rename_i el he
      cases hv
      obtain ⟨g', k1, k2⟩ := R.tell pu hd (c := .bool e) (v := .bool e) fun _ _ => .inl .bool
      refine ⟨_, g', run _ fun w' => ?_, k1, k2⟩
      simp [hp, hq, eqGuard, binOp, heq el he]
    · rename_i el he
      cases hv
      obtain ⟨g', k1, k2⟩ := R.tell pu hd (c := .bool (!e)) (v := .bool (!e)) fun _ _ => .inl .bool
      refine ⟨_, g', run _ fun w' => ?_, k1, k2⟩
      simp [hp, hq, eqGuard, binOp, heq el he]
    · cases hv
  have eqNN : ∀ el, X.P.underlying t = some (.pointer el) → ∀ w', (Op.equal t (.pointer none) (.pointer none)).run X.P w' = .ok true w' := fun el he w' => by
    unfold Op.equal Op.maxDepth Op.equalIn; simp [run_underlying' he]
  have eqNS : ∀ q el, X.P.underlying t = some (.pointer el) → ∀ w', (Op.equal t (.pointer none) (.pointer (some q))).run X.P w' = .ok false w' := fun q el he w' => by
    unfold Op.equal Op.maxDepth Op.equalIn; simp [run_underlying' he]
  have eqSN : ∀ p el, X.P.underlying t = some (.pointer el) → ∀ w', (Op.equal t (.pointer (some p)) (.pointer none)).run X.P w' = .ok false w' := fun p el he w' => by
    unfold Op.equal Op.maxDepth Op.equalIn; simp [run_underlying' he]
  cases hx : opnd X.P s t x with
  | none => rw [hx] at h1; unfold evBin at h1; split at h1 <;> simp_all
  | some xv => cases hy : opnd X.P s t y with
    | none => rw [hx, hy] at h1; unfold evBin at h1; split at h1 <;> simp_all
    | some yv =>
      rw [hx, hy] at h1
      obtain ⟨r1, _, hr1⟩ := R.val hx
      obtain ⟨r2, _, hr2⟩ := R.val hy
      unfold evBin at h1
      split at h1
      · rename_i m1 p m2 he1 he2; cases he1; cases he2
        cases p with
        | nil => exact ptrs (RT.one hr1).nilp (RT.one hr2).nilp eqNN h1
        | «at» i k => exact ptrs (RT.one hr1).obj.1 (RT.one hr2).nilp (eqSN _) h1
      · rename_i m1 p m2 q _ he1 he2; cases he1; cases he2
        unfold ptrEqO at h1
        split at h1
        · rename_i e he
          cases hb : bigE X.P t with
          | false => rw [hb] at h1; cases h1
          | true =>
            rw [hb] at h1
            simp only [cond_true] at h1
            cases p with
            | nil => cases q with
              | nil => cases he; exact ptrs (RT.one hr1).nilp (RT.one hr2).nilp eqNN h1
              | «at» j k => cases he; exact ptrs (RT.one hr1).nilp (RT.one hr2).obj.1 (eqNS _) h1
            | «at» i k => cases q with
              | nil => cases he; exact ptrs (RT.one hr1).obj.1 (RT.one hr2).nilp (eqSN _) h1
              | «at» j l =>
                simp only [peq] at he
                split at he
                · rename_i hij
                  cases he
                  subst hij
                  refine ptrs (RT.one hr1).obj.1 (RT.one hr2).obj.1 (fun el hel w' => ?_) h1
                  unfold bigE at hb
                  rw [hel] at hb
                  simp only at hb
                  split at hb
                  · rename_i n hn
                    have hn0 : n ≠ 0 := fun e => by subst e; simp at hb
                    unfold Op.equal Op.maxDepth Op.equalIn
                    simp [run_underlying' hel, run_sizeOf' hn, hn0, sameAddr, ptr]
                    first | done | (by_cases e : k = l <;> simp [e]) | rfl
                  · cases hb
                · cases he
        · cases h1
      · rename_i a' b' _ _ he1 he2
        cases he1; cases he2
        unfold evBinC at h1
        split at h1
        · rename_i u v' hu hv
          have e1 := hr1.conc hu
          have e2 := hr2.conc hv
          rw [Option.map_eq_some_iff] at h1
          obtain ⟨c, h2, rfl⟩ := h1
          rw [Option.bind_eq_some_iff] at h2
          obtain ⟨r, h3, h4⟩ := h2
          obtain ⟨g', k1, k2⟩ := R.tell pu hd (c := c) (v := r) (sc_ofV h4)
          exact ⟨_, g', run _ (by rw [e1, e2]; exact pureP_run h3), k1, k2⟩
        · cases h1
      · rename_i hno _ _; cases h1

theorem told_nilcmp {o : Oper} {t x yt m z xs e} (ho : o.op = .binOp .eql t x (.const (.slice none 0 0)) yt) (R : Rel s [] a w g) (hd : ∀ d, o.dst = some d → d < a.tmps.size) (ht : X.P.underlying t = some (.slice e))
    (hx : opnd X.P s t x = some (.one m (.sl z xs))) : ∃ b, (b = true → xs = []) ∧ Told X pu o a w g (setT s o.dst (sc (.bool b))) := by
  obtain ⟨r1, _, hr1⟩ := R.val hx
  have run : ∀ b, (∀ w', (Op.equal t (a.eval x) (.slice none 0 0)).run X.P w' = .ok b w') → ∀ w', (execOp a.eval o).run X.P w' = .ok (.value (.bool b)) w' := fun b hb w' => by
    unfold execOp; rw [ho]
    have hb := hb w'
    have he : a.eval (.const (.slice none 0 0)) = .slice none 0 0 := rfl
    have hg : (eqGuard .eql t x (.const (.slice none 0 0)) (a.eval x) (.slice none 0 0)).run X.P w' = .ok () w' := by
      unfold eqGuard
      cases a.eval x <;> rfl
    simp only [Sem.run_bind, he, hg]
    simp [binOp, hb]
  have fin : ∀ b, (b = true → xs = []) → (∀ w', (Op.equal t (a.eval x) (.slice none 0 0)).run X.P w' = .ok b w') → ∃ b, (b = true → xs = []) ∧ Told X pu o a w g (setT s o.dst (sc (.bool b))) := fun b h1 h2 => by
    obtain ⟨g', k1, k2⟩ := R.tell pu hd (c := .bool b) (v := .bool b) fun _ _ => .inl .bool
    exact ⟨b, h1, _, g', run b h2, k1, k2⟩
  rcases KC.sl_inv (RC.sl (RT.one hr1)) with ⟨h1, h2, _⟩ | ⟨b, o', cap, h2, _⟩ | ⟨h1, ⟨b, cap, h2⟩, _⟩
  · exact fin true (fun _ => h1) fun w' => by rw [h2]; unfold Op.equal Op.maxDepth Op.equalIn; simp [run_underlying' ht]
  · exact fin false (fun h => by cases h) fun w' => by rw [h2]; unfold Op.equal Op.maxDepth Op.equalIn; simp [run_underlying' ht]
  · exact fin false (fun h => by cases h) fun w' => by rw [h2]; unfold Op.equal Op.maxDepth Op.equalIn; simp [run_underlying' ht]

theorem told_un {o : Oper} {op t x} (ho : o.op = .unOp op t x) (R : Rel s [] a w g) (hd : ∀ d, o.dst = some d → d < a.tmps.size)
    (h : setO s o.dst (evUn X.P op (opnd X.P s t x)) = some s') : Told X pu o a w g s' := by
  obtain ⟨v, h1, rfl⟩ := setO_inv h
  cases hx : opnd X.P s t x with
  | none => rw [hx] at h1; cases h1
  | some tv =>
    rw [hx] at h1
    obtain ⟨r, _, hr⟩ := R.val hx
    unfold evUn at h1
    simp only [Option.map_eq_some_iff, Option.bind_eq_some_iff] at h1
    obtain ⟨c, ⟨u, hu, q, hq, hc⟩, rfl⟩ := h1
    have e := hr.conc hu
    obtain ⟨g', k1, k2⟩ := R.tell pu hd (c := c) (v := q) (sc_ofV hc)
    exact ⟨_, g', fun w' => by unfold execOp; rw [ho]; simp [e, pureP_run hq], k1, k2⟩

theorem told_conv {o : Oper} {t1 t2 x} (ho : o.op = .convert t1 t2 x) (R : Rel s [] a w g) (hd : ∀ d, o.dst = some d → d < a.tmps.size)
    (h : setO s o.dst (evConv X.P t1 t2 (opnd X.P s t1 x)) = some s') : Told X pu o a w g s' := by
  obtain ⟨v, h1, rfl⟩ := setO_inv h
  cases hx : opnd X.P s t1 x with
  | none => rw [hx] at h1; cases h1
  | some tv =>
    rw [hx] at h1
    obtain ⟨r, _, hr⟩ := R.val hx
    unfold evConv at h1
    simp only [Option.map_eq_some_iff, Option.bind_eq_some_iff] at h1
    obtain ⟨c, ⟨u, hu, q, hq, hc⟩, rfl⟩ := h1
    have e := hr.conc hu
    obtain ⟨g', k1, k2⟩ := R.tell pu hd (c := c) (v := q) (sc_ofV hc)
    exact ⟨_, g', fun w' => by unfold execOp; rw [ho]; simp [e, pureP_run hq], k1, k2⟩
end
end Go.Proofs.Abs
/- Operations that only tell a value, second half: addresses, parts, indexes. -/
namespace Go.Proofs.Abs
open Go
set_option linter.unusedVariables false

section
variable {X : Cx} {pu : Pu} {s s' : St} {a : Act} {w : World} {g : Gh}

theorem fieldOf_inv {P : Program} {t f ty off z} (h : fieldOf P t f = some (ty, off, z)) : ∃ fs fd, P.underlying t = some (.struct fs) ∧ fs[f]? = some fd ∧ fd.type = ty ∧ fd.offset = off ∧ szOf P ty = some z := by
  unfold fieldOf at h
  split at h
  · rename_i fs hu
    split at h
    · rename_i fd hf
      split at h
      · rename_i z' hz
        cases h
        exact ⟨fs, fd, hu, hf, rfl, rfl, hz⟩
      · cases h
    · cases h
  · cases h
theorem run_fieldAt {P : Program} {t f ty off z b o} (h : fieldOf P t f = some (ty, off, z)) (hz : z ≠ 0) (w' : World) : (Instr.fieldAt t (ptr b o) f).run P w' = .ok (ptr b (o + off)) w' := by
  obtain ⟨fs, fd, h1, h2, rfl, rfl, h3⟩ := fieldOf_inv h
  simp [Instr.fieldAt, run_underlying' h1, h2, ptr, Instr.sureAddr, fieldPlace, run_sizeOf' h3, hz, add_mk]

theorem rd_off {w g m r π mo mi cs off v} (h : RC w g m r π (.rd mo mi cs off) v) : ∃ b o, v = ptr b (o + off) ∧ ∀ off', ∀ m r π, RC w g m r π (.rd mo mi cs off') (ptr b (o + off')) := by
  rcases h with h | h
  · cases h
  · cases h with
    | @rd _ _ _ _ b o vs hb hmo hmi hok hc hk => exact ⟨b, o, rfl, fun off' _ _ _ => .inr (.rd vs hb hmo hmi hok hc hk)⟩

theorem told_fieldAddr {o : Oper} {t x f} (ho : o.op = .fieldAddr t x f) (R : Rel s [] a w g) (hd : ∀ d, o.dst = some d → d < a.tmps.size)
    (h : setO s o.dst (fieldAddrF X.P t f (opnd X.P s 0 x)) = some s') : Told X pu o a w g s' := by
  obtain ⟨v, h1, rfl⟩ := setO_inv h
  cases hx : opnd X.P s 0 x with
  | none => rw [hx] at h1; cases h1
  | some tv =>
    rw [hx] at h1
    obtain ⟨r, _, hr⟩ := R.val hx
    change evFieldAddr X.P t tv f = some v at h1
    unfold evFieldAddr at h1
    split at h1
    · rename_i ty off z hf
      split at h1
      · cases h1
      · rename_i hz
        have run : ∀ b o', a.eval x = ptr b o' → ∀ w', (execOp a.eval o).run X.P w' = .ok (.value (ptr b (o' + off))) w' := fun b o' hp w' => by
          unfold execOp; rw [ho]; simp only [Sem.run_bind, hp, run_fieldAt hf hz]; rfl
        split at h1
        · cases h1
          obtain ⟨e1, e2⟩ := (RT.one hr).obj
          obtain ⟨g', k1, k2⟩ := R.tell pu hd fun _ _ => .inl (.obj e2)
          exact ⟨_, g', run _ _ e1, k1, k2⟩
        · cases h1
          obtain ⟨g', k1, k2⟩ := R.tell pu hd fun _ _ => .inr .loc
          exact ⟨_, g', run _ _ (RT.one hr).loc, k1, k2⟩
        · rename_i q i o'
          cases h1
          have e := (RT.one hr).el
          obtain ⟨g', k1, k2⟩ := R.tell pu hd (c := .el q i (o' + off)) fun _ _ => .inr .el
          refine ⟨_, g', run _ _ e, ?_, k2⟩
          rw [Nat.add_assoc]; exact k1
        · cases h1
          obtain ⟨b, o1, e1, e2⟩ := rd_off (RT.one hr)
          obtain ⟨g', k1, k2⟩ := R.tell pu hd fun r π => e2 _ _ r π
          refine ⟨_, g', run _ _ e1, ?_, k2⟩
          rw [Nat.add_assoc]; exact k1
        · cases h1
    · cases h1

/-- a run of cells -/
theorem cellsAt_inv {cs p : List MC} {off n} (h : cellsAt cs off n = some p) : off + n ≤ cs.length ∧ p.length = n ∧ ∀ j c, p[j]? = some c → j < n ∧ cs[off + j]? = some c := by
  unfold cellsAt at h
  split at h
  · rename_i hl
    cases h
    refine ⟨hl, by simp; omega, fun j c hc => ?_⟩
    rw [List.getElem?_take] at hc
    split at hc
    · rename_i hj
      rw [List.getElem?_drop] at hc
      exact ⟨hj, hc⟩
    · cases hc
  · cases h
theorem mkT_inv {agg : Bool} {cs : List MC} {tv} (h : mkT agg cs = some tv) : (agg = true ∧ tv = .agg cs) ∨ ∃ m c, agg = false ∧ cs = [(m, c)] ∧ tv = .one m c := by
  unfold mkT at h
  split at h
  · rename_i ha; exact .inl ⟨ha, (Option.some.inj h).symm⟩
  · rename_i ha
    split at h
    · exact .inr ⟨_, _, by simpa using ha, rfl, (Option.some.inj h).symm⟩
    · cases h
theorem part_ok {P : Program} {ty x off tv v r} (h : evPart P ty x off = some tv) (hr : r.isObj = false) (hv : RT w g r x v) :
    ∃ u, (∀ cs, v = .agg cs → ∀ w', (part ty cs off).run P w' = .ok u w') ∧ (∃ cs, v = .agg cs) ∧ ∀ r', RT w g r' tv u := by
  unfold evPart at h
  split at h
  · rename_i agg n cs ha hn
    obtain ⟨vs, rfl, hs, hk⟩ := hv
    split at h
    · rename_i p hp
      obtain ⟨h1, h2, h3⟩ := cellsAt_inv hp
      rcases mkT_inv h with ⟨rfl, rfl⟩ | ⟨m, c, rfl, h4, rfl⟩
      · refine ⟨.agg (vs.extract off (off + n)), fun cs' e w' => ?_, ⟨_, rfl⟩, fun r' => ⟨_, rfl, ?_, fun j c hc => ?_⟩⟩
        · cases e; simp [part, run_isAgg' ha, run_sizeOf' hn]
        · simp; omega
        · simp only [List.getElem?_map, Option.map_eq_some_iff] at hc
          obtain ⟨c0, hc0, rfl⟩ := hc
          obtain ⟨hj, hc1⟩ := h3 j c0 hc0
          obtain ⟨u, hu, hk'⟩ := hk (off + j) c0 hc1
          refine ⟨u, ?_, RC.cp hk' hr _ _⟩
          rw [Array.getElem?_extract, if_pos (by omega)]; exact hu
      · cases p with
        | nil => cases h4
        | cons c0 p => cases p with
          | cons _ _ => simp at h4
          | nil =>
            simp only [List.map_cons, List.map_nil, List.cons.injEq, and_true] at h4
            obtain ⟨hj, hc1⟩ := h3 0 c0 rfl
            obtain ⟨u, hu, hk'⟩ := hk (off + 0) c0 hc1
            refine ⟨u, fun cs' e w' => ?_, ⟨_, rfl⟩, fun r' => ?_⟩
            · cases e
              rw [Nat.add_zero] at hu
              simp [part, run_isAgg' ha, hu]
            · have := RC.cp hk' hr r' [0]
              cases h4
              exact this
    · cases h
  · cases h
theorem told_field {o : Oper} {t x f} (ho : o.op = .field t x f) (R : Rel s [] a w g) (hd : ∀ d, o.dst = some d → d < a.tmps.size)
    (h : setO s o.dst (fieldF X.P t f (opnd X.P s t x)) = some s') : Told X pu o a w g s' := by
  obtain ⟨v, h1, rfl⟩ := setO_inv h
  cases hx : opnd X.P s t x with
  | none => rw [hx] at h1; cases h1
  | some tv =>
    rw [hx] at h1
    obtain ⟨r, hl, hr⟩ := R.val hx
    unfold fieldF at h1
    split at h1
    · rename_i v' he
      cases he
      split at h1
      · rename_i ty off z hf
        obtain ⟨fs, fd, e1, e2, rfl, rfl, e3⟩ := fieldOf_inv hf
        obtain ⟨u, p1, ⟨cs, p2⟩, p3⟩ := part_ok h1 hl hr
        obtain ⟨g', k1, k2⟩ := (R.push (p3 _)).finish pu hd
        refine ⟨_, g', fun w' => ?_, k1, k2⟩
        unfold execOp; rw [ho]
        simp [Instr.field, run_underlying' e1, e2, p2, asAgg, p1 cs p2]
      · cases h1
    · rename_i he; cases he

theorem told_index {o : Oper} {t x i} (ho : o.op = .index t x i) (R : Rel s [] a w g) (hd : ∀ d, o.dst = some d → d < a.tmps.size)
    (h : setO s o.dst (indexF X.P t (opnd X.P s t x) (opnd X.P s 0 i)) = some s') : Told X pu o a w g s' := by
  obtain ⟨v, h1, rfl⟩ := setO_inv h
  cases hx : opnd X.P s t x with
  | none => rw [hx] at h1; cases h1
  | some tv => cases hi : opnd X.P s 0 i with
    | none => rw [hx, hi] at h1; cases h1
    | some iv =>
      rw [hx, hi] at h1
      obtain ⟨r, hl, hr⟩ := R.val hx
      obtain ⟨r2, _, hr2⟩ := R.val hi
      unfold indexF at h1
      split at h1
      · rename_i v' m k n he1 he2
        cases he1; cases he2
        have ei := (RT.one hr2).int
        split at h1
        · rename_i hu
          split at h1
          · rename_i m' b
            split at h1
            · rename_i h0
              split at h1
              · rename_i c hc
                cases h1
                have ex := (RT.one hr).str
                obtain ⟨g', k1, k2⟩ := R.tell pu hd (c := .int .u8 c.toNat) (v := .int .u8 c.toNat) fun _ _ => .inl .int
                refine ⟨_, g', fun w' => ?_, k1, k2⟩
                unfold execOp; rw [ho]
                simp [Instr.index, ei, ex, asIntOf, run_underlying' hu, h0, hc]
              · cases h1
            · cases h1
          · cases h1
        · rename_i k' e hu
          split at h1
          · rename_i z hz
            split at h1
            · rename_i hb
              obtain ⟨u, p1, ⟨cs, p2⟩, p3⟩ := part_ok h1 hl hr
              obtain ⟨g', k1, k2⟩ := (R.push (p3 _)).finish pu hd
              refine ⟨_, g', fun w' => ?_, k1, k2⟩
              unfold execOp; rw [ho]
              simp [Instr.index, ei, p2, asIntOf, run_underlying' hu, hb.1, hb.2, run_sizeOf' hz, p1 cs p2]
            · cases h1
          · cases h1
        · cases h1
      · rename_i hno; cases h1

theorem okB_view {g m r π b e e'} (h : okB g m r π b e) (hr : r.isObj = false) (he : e' ≤ e) (r' π') : okB g m.cp r' π' b e' := by
  cases m with
  | top => exact h.elim
  | own d => cases d with
    | zero => exact h
    | succ d => exact .inr (.inr ⟨r, π, h.1, hr, by rw [h.2]; exact he⟩)
  | ro => exact h
  | bl =>
    rcases h with h | h | ⟨r0, π0, h1, h2, h3⟩
    · exact .inl h
    · exact .inr (.inl h)
    · exact .inr (.inr ⟨r0, π0, h1, h2, Nat.le_trans he h3⟩)
  | bh =>
    rcases h with h | ⟨r0, π0, h1, h2, h3⟩
    · exact .inl h
    · exact .inr ⟨r0, π0, h1, h2, Nat.le_trans he h3⟩
theorem cp_owned (m : Md) : m.cp.owned = false := by
  cases m with
  | own d => cases d <;> rfl
  | _ => rfl

theorem told_indexAddr {o : Oper} {t x i} (ho : o.op = .indexAddr t x i) (R : Rel s [] a w g) (hd : ∀ d, o.dst = some d → d < a.tmps.size)
    (h : setO s o.dst (indexAddrF X.P s t (opnd X.P s t x) (opnd X.P s 0 i)) = some s') : Told X pu o a w g s' := by
  obtain ⟨v, h1, rfl⟩ := setO_inv h
  cases hx : opnd X.P s t x with
  | none => rw [hx] at h1; cases h1
  | some tv => cases hi : opnd X.P s 0 i with
    | none => rw [hx, hi] at h1; cases h1
    | some iv =>
      rw [hx, hi] at h1
      obtain ⟨r, hl, hr⟩ := R.val hx
      obtain ⟨r2, _, hr2⟩ := R.val hi
      unfold indexAddrF at h1
      split at h1
      · rename_i v' m k n he1 he2
        cases he1; cases he2
        have ei := (RT.one hr2).int
        unfold evIndexAddr at h1
        split at h1
        · rename_i e hu
          split at h1
          · rename_i n' m' z xs hz
            split at h1
            · rename_i hb
              obtain ⟨h0, rfl⟩ := hb
              split at h1
              · rename_i c hc
                cases h1
                have hlt : n.toNat < xs.length := (List.getElem?_eq_some_iff.1 hc).1
                rcases (RC.sl (RT.one hr)).sl_inv with ⟨k1, _⟩ | ⟨b, o', cap, k1, k2⟩ | ⟨k1, _⟩
                · subst k1; simp at hc
                rotate_left
                · subst k1; simp at hc
                · have hcl := k2.hz c (List.mem_of_getElem? hc)
                  have hmul : (n.toNat + 1) * z ≤ xs.length * z := Nat.mul_le_mul_right z hlt
                  have hs : (n.toNat + 1) * z = n.toNat * z + z := Nat.succ_mul _ z
                  have hv : ∀ r π, RC w g .top r π (.rd m'.cp m'.inner.cp c 0) (ptr b (o' + n.toNat * z + 0)) := fun r π => by
                    have hcell := fun j a (ha : c[j]? = some a) => k2.cell n.toNat c j a hc ha
                    refine .inr (.rd (fun j => (cel w b (o' + n.toNat * z + j)).getD undef) k2.hb (cp_owned _) (cp_owned _) (okB_view k2.hok hl (by omega) _ _) (fun j a ha => ?_) (fun j a ha => ?_))
                    · obtain ⟨u, hu, _⟩ := hcell j a ha
                      rw [hu]; rfl
                    · obtain ⟨u, hu, hk⟩ := hcell j a ha
                      rw [hu]
                      exact hk.lend hl (lendT_cp _) _ _
                  obtain ⟨g', q1, q2⟩ := R.tell pu hd hv
                  refine ⟨_, g', fun w' => ?_, q1, q2⟩
                  unfold execOp; rw [ho]
                  simp [Instr.indexAt, ei, k1, asIntOf, run_underlying' hu, h0, run_sizeOf' hz, add_mk, ptr, show n < (xs.length : Int) by omega]
              · cases h1
            · cases h1
          · rename_i n' m' q lo k' hz
            unfold atEl at h1
            split at h1
            · rename_i d z xs hat
              split at h1
              · rename_i hb
                obtain ⟨h0, hlt, rfl, hlt2⟩ := hb
                cases h1
                obtain ⟨b, o', cap, e1, e2, e3⟩ := R.rootAt hat (by intro h; subst h; simp at hlt2)
                obtain ⟨a0, cap', e4⟩ : ∃ a0 cap', a.eval x = .slice a0 k' cap' ∧ (0 < k' → a0 = some ⟨b, o' + lo * z, none⟩) := by
                  rcases RT.one hr with h | h
                  · cases h
                  · generalize a.eval x = vx at h
                    cases h with
                    | @at_ _ _ _ a0 cap' hc h => exact ⟨a0, cap', rfl, by rw [e2] at h; exact h⟩
                obtain ⟨e4, e5⟩ := e4
                have hk : 0 < k' := by omega
                rw [e5 hk] at e4
                have hv : ∀ r π, RC w g .top r π (.el q (lo + n.toNat) 0) (ptr b (o' + lo * z + n.toNat * z)) := fun r π => by
                  have := @Lent.el w g q (lo + n.toNat) 0
                  rw [e2] at this
                  refine .inr ?_
                  rw [show o' + lo * z + n.toNat * z = o' + (lo + n.toNat) * z + 0 from by rw [Nat.add_mul]; omega]
                  exact this
                obtain ⟨g', q1, q2⟩ := R.tell pu hd hv
                refine ⟨_, g', fun w' => ?_, q1, q2⟩
                unfold execOp; rw [ho]
                simp [Instr.indexAt, ei, e4, asIntOf, run_underlying' hu, h0, hlt, run_sizeOf' hz, add_mk, ptr]
              · cases h1
            · cases h1
          · cases h1
        · rename_i k' e hu
          split at h1
          · rename_i z hz
            split at h1
            · rename_i hb
              have run : ∀ b o', a.eval x = ptr b o' → ∀ w', (execOp a.eval o).run X.P w' = .ok (.value (ptr b (o' + n.toNat * z))) w' := fun b o' hp w' => by
                unfold execOp; rw [ho]
                simp [Instr.indexAt, ei, hp, ptr, asIntOf, run_underlying' hu, hb.1, hb.2, run_sizeOf' hz, add_mk, Instr.sureAddr]
              split at h1
              · cases h1
                obtain ⟨e1, e2⟩ := (RT.one hr).obj
                obtain ⟨g', k1, k2⟩ := R.tell pu hd fun _ _ => .inl (.obj e2)
                exact ⟨_, g', run _ _ e1, k1, k2⟩
              · cases h1
                obtain ⟨g', k1, k2⟩ := R.tell pu hd fun _ _ => .inr .loc
                exact ⟨_, g', run _ _ (RT.one hr).loc, k1, k2⟩
              · rename_i m' q j off
                cases h1
                have e := (RT.one hr).el
                obtain ⟨g', k1, k2⟩ := R.tell pu hd (c := .el q j (off + n.toNat * z)) fun _ _ => .inr .el
                refine ⟨_, g', run _ _ e, ?_, k2⟩
                rw [Nat.add_assoc]; exact k1
              · cases h1
                obtain ⟨b, o1, e1, e2⟩ := rd_off (RT.one hr)
                obtain ⟨g', k1, k2⟩ := R.tell pu hd fun r π => e2 _ _ r π
                refine ⟨_, g', run _ _ e1, ?_, k2⟩
                rw [Nat.add_assoc]; exact k1
              · cases h1
            · cases h1
          · cases h1
        · cases h1
      · cases h1
end
end Go.Proofs.Abs
/- Operations that only tell a value, third part: a tuple's parts, structs that are built, slices of slices, lengths. -/
namespace Go.Proofs.Abs
open Go
set_option linter.unusedVariables false

section
variable {X : Cx} {pu : Pu} {s s' : St} {a : Act} {w : World} {g : Gh}

/-! ### a part of a tuple -/
def Fext (t i : Nat) (r : Rk) (π : List Nat) : Ow :=
  match r, π with
  | .tmp t', j :: ρ => if t' = t ∧ j = i then .pth (.lim 0) ρ else .pth (.tmp t') (j :: ρ)
  | .lim 0, _ => .shared
  | r, π => .pth r π
theorem Fext_side (t i) : keepsSide (Fext t i) := by
  intro r π
  unfold Fext
  split
  · split
    · exact .inr ⟨_, _, rfl, rfl⟩
    · exact .inr ⟨_, _, rfl, rfl⟩
  · exact .inl rfl
  · exact .inr ⟨_, _, rfl, rfl⟩
theorem Fext_tmp {t i t'} (h : t' ≠ t) (π) : Fext t i (.tmp t') π = .pth (.tmp t') π := by cases π <;> simp [Fext, h]
theorem Rel.extract {s a w g t vs i v} (pu : Pu) (h : Rel s [] a w g) (hf : find t s.t = some (.tup vs)) (hi : vs[i]? = some v) :
    ∃ g' u us, a.tmps.getD t undef = .tuple us ∧ us[i]? = some u ∧ Rel { s with t := put t (.tup (vs.set i (leave1 v))) s.t } [(v, u)] a w g' ∧ Le pu w g w g' := by
  have hF := Fext_side t i
  obtain ⟨us, hus, hsz, hk⟩ := h.tm t _ hf
  obtain ⟨u, hu, hr⟩ := hk i v hi
  have hnt : ∀ l, v ≠ .tup (l) ∨ l = [] := fun l => by
    cases v with
    | tup l' => cases l' with
      | nil => by_cases e : l = []
               · exact .inr e
               · exact .inl (fun h => e (by cases h; rfl))
      | cons y ys => exact hr.elim
    | _ => exact .inl (by simp)
  refine ⟨relabel (Fext t i) g, u, us, hus, hu, ⟨h.n, fun j x hj => ?_, fun t' tv' ht => ?_, fun t' cs ht => ?_, fun id cs hi => ?_, fun r d z xs hr b o sp len cap hv => ?_⟩, le_relabel hF pu (fun id π => rfl) fun _ t => rfl⟩
  · cases j with
    | succ j => simp at hj
    | zero =>
      simp at hj
      subst hj
      have := hr.moved hF (r' := .lim 0) (π' := []) fun ρ => by show Fext t i (.tmp t) (i :: ρ) = _; simp [Fext]
      cases v with
      | one m c => exact this
      | agg cs => exact this
      | tup l => cases l with
        | nil => exact ⟨#[], this, rfl, fun j tv h => by simp at h⟩
        | cons y ys => exact this.elim
  · simp only [find_put] at ht
    split at ht
    · rename_i e
      subst e
      cases ht
      refine ⟨us, hus, by simpa using hsz, fun j tv hj => ?_⟩
      rw [List.getElem?_set] at hj
      split at hj
      · rename_i e2
        subst e2
        split at hj
        · cases hj
          exact ⟨u, hu, hr.leave hF⟩
        · cases hj
      · rename_i e2
        obtain ⟨u', hu', hr'⟩ := hk j tv hj
        exact ⟨u', hu', hr'.moved hF (r' := .tmp t') (π' := [j]) fun ρ => by show Fext t' i (.tmp t') (j :: ρ) = _; simp [Fext, Ne.symm e2]⟩
    · rename_i e
      exact (h.tm t' tv' ht).kept hF fun π => Fext_tmp e π
  · exact (h.bx t' cs ht).kept hF fun π => rfl
  · exact (h.hp id cs hi).kept hF (by rw [h.n]; exact (List.getElem?_eq_some_iff.1 hi).1) fun π => rfl
  · cases r with
    | obj id off => exact h.hd (.obj id off) d z xs hr b o sp len cap hv
    | loc t' off => exact h.hd (.loc t' off) d z xs hr b o sp len cap hv
    | tmp t' =>
      change oneOf (find t' (put t _ s.t)) = _ at hr
      rw [find_put] at hr
      split at hr
      · cases hr
      · exact h.hd (.tmp t') d z xs hr b o sp len cap hv
theorem told_extract {o : Oper} {t i} (ho : o.op = .extract (.tmp t) i) (R : Rel s [] a w g) (hd : ∀ d, o.dst = some d → d < a.tmps.size)
    (h : extractF t i o.dst s (find t s.t) = some s') : Told X pu o a w g s' := by
  unfold extractF at h
  split at h
  · rename_i vs hf
    split at h
    · rename_i v hv
      cases h
      obtain ⟨g1, u, us, e1, e2, e3, e4⟩ := R.extract pu hf hv
      obtain ⟨g2, k1, k2⟩ := e3.finish pu hd
      refine ⟨u, g2, fun w' => ?_, k1, e4.trans k2⟩
      unfold execOp; rw [ho]
      have : a.eval (.tmp t) = .tuple us := e1
      simp [Instr.extract, this, e2]
    · cases h
  · cases h

/-! ### lengths -/
theorem told_lenC {o : Oper} {args ats t v0} (ho : o.op = .call { callee := .builtin .len, args := args, argTypes := ats }) (hat : ats.toList = [t])
    {u : Value} {r : Rk} (hargs' : args.map a.eval = #[u]) {s1 : St} (hu : RT w g r v0 u) (R0 : Rel s1 [] a w g)
    (hd : ∀ d, o.dst = some d → d < a.tmps.size) {v} (h : evLen X.P t v0 = some v) : Told X pu o a w g (setT s1 o.dst v) := by
  have hat' : ats = #[t] := by cases ats; simp_all
  have run : ∀ n : Int, (∀ w', (Builtin.len_ #[t] o.type #[u]).run X.P w' = .ok (goInt n) w') → ∀ w', (execOp a.eval o).run X.P w' = .ok (.value (.int .i64 n)) w' := fun n hn w' => by
    unfold execOp; rw [ho]
    simp only [resolve, hargs', hat', pure_bind, invoke, builtin, Sem.run_bind, hn w', Result.andThen_ok]
    rfl
  unfold evLen at h
  split at h
  · rename_i e m z xs hu'
    cases h
    obtain ⟨g', k1, k2⟩ := R0.tell pu hd (c := .int .i64 xs.length) (v := .int .i64 xs.length) fun _ _ => .inl .int
    refine ⟨_, g', run _ fun w' => ?_, k1, k2⟩
    rcases (RC.sl hu.one).sl_inv with ⟨e1, e2, _⟩ | ⟨b, o', cap, e1, _⟩ | ⟨e1, ⟨a0, cap, e2⟩, _⟩
    · subst e1; subst e2; simp [Builtin.len_, run_underlying' hu']
    rotate_left
    · subst e1; subst e2; simp [Builtin.len_, run_underlying' hu']
    · subst e1; simp [Builtin.len_, run_underlying' hu']
  · rename_i e m q lo n hu'
    cases h
    obtain ⟨g', k1, k2⟩ := R0.tell pu hd (c := .int .i64 n) (v := .int .i64 n) fun _ _ => .inl .int
    refine ⟨_, g', run _ fun w' => ?_, k1, k2⟩
    rcases hu.one with h | h
    · cases h
    · cases h with
      | at_ _ _ => simp [Builtin.len_, run_underlying' hu']
  · rename_i m b hu'
    cases h
    obtain ⟨g', k1, k2⟩ := R0.tell pu hd (c := .int .i64 b.size) (v := .int .i64 b.size) fun _ _ => .inl .int
    refine ⟨_, g', run _ fun w' => ?_, k1, k2⟩
    have := hu.one.str
    subst this
    simp [Builtin.len_, run_underlying' hu']
  · cases h
theorem told_len {o : Oper} {args ats t v0} (ho : o.op = .call { callee := .builtin .len, args := args, argTypes := ats }) (hat : ats.toList = [t])
    {vals : List Value} (hargs : (args.map a.eval).toList = vals) {s1 : St} (R : Rel s1 ([v0].zip vals) a w g) (hl : vals.length = 1)
    (hd : ∀ d, o.dst = some d → d < a.tmps.size) {v} (h : evLen X.P t v0 = some v) : Told X pu o a w g (setT s1 o.dst v) := by
  obtain ⟨u, rfl⟩ : ∃ u, vals = [u] := by
    cases vals with
    | nil => simp at hl
    | cons u us => cases us with
      | nil => exact ⟨u, rfl⟩
      | cons _ _ => simp at hl
  have hu : RT w g (.lim 0) v0 u := R.fl 0 (v0, u) rfl
  have hargs' : args.map a.eval = #[u] := by
    cases hm : args.map a.eval with
    | mk l => rw [hm] at hargs; simp at hargs; rw [hargs]
  exact told_lenC ho hat hargs' hu (R.forget (fl := [])) hd h
theorem lenOf_inv {b : Builtin} {ats : List TypeId} {xs : List Operand} {t x} (h : lenOf b ats xs = some (t, x)) : b = .len ∧ ats = [t] ∧ xs = [x] := by
  unfold lenOf at h
  split at h
  · cases h; exact ⟨rfl, rfl, rfl⟩
  · cases h
theorem told_len1 {o : Oper} {args ats t x} (ho : o.op = .call { callee := .builtin .len, args := args, argTypes := ats }) (hat : ats.toList = [t]) (hxs : args.toList = [x]) (R : Rel s [] a w g)
    (hd : ∀ d, o.dst = some d → d < a.tmps.size) (h : setO s o.dst ((opnd X.P s t x).bind (evLen X.P t)) = some s') : Told X pu o a w g s' := by
  obtain ⟨v, h1, rfl⟩ := setO_inv h
  rw [Option.bind_eq_some_iff] at h1
  obtain ⟨v0, h2, h3⟩ := h1
  obtain ⟨r, _, hr⟩ := R.val h2
  have hargs' : args.map a.eval = #[a.eval x] := by cases args; simp_all
  exact told_lenC ho hat hargs' hr R hd h3

/-! ### the greatest, the least -/
theorem max2_ok {w g r r' x y v u t} (h : max2 x y = some t) (hx : RT w g r x v) (hy : RT w g r' y u) : ∃ k n, t = sc (.int k n) ∧ ∀ (P : Program) w', (Builtin.max2 v u).run P w' = .ok (.int k n) w' := by
  unfold max2 at h
  split at h
  · cases h
    rw [hx.one.int, hy.one.int]
    exact ⟨_, _, rfl, fun P w' => rfl⟩
  · cases h
theorem min2_ok {w g r r' x y v u t} (h : min2 x y = some t) (hx : RT w g r x v) (hy : RT w g r' y u) : ∃ k n, t = sc (.int k n) ∧ ∀ (P : Program) w', (Builtin.min2 v u).run P w' = .ok (.int k n) w' := by
  unfold min2 at h
  split at h
  · cases h
    rw [hx.one.int, hy.one.int]
    exact ⟨_, _, rfl, fun P w' => rfl⟩
  · cases h
theorem fold_ok {w g} {f : TV → TV → Option TV} {f' : Value → Value → Sem Value}
    (hf : ∀ {r r' x y v u t}, f x y = some t → RT w g r x v → RT w g r' y u → ∃ k n, t = sc (.int k n) ∧ ∀ (P : Program) w', (f' v u).run P w' = .ok (.int k n) w') :
    ∀ (ys : List TV) (us : List Value) (k0 : Nat) (x : TV) (v : Value) (t : TV) (r : Rk), foldO f x ys = some t → RT w g r x v → us.length = ys.length → (∀ (i : Nat) p, (ys.zip us)[i]? = some p → RT w g (.lim (k0 + i)) p.1 p.2) →
      ys ≠ [] → ∃ k n, t = sc (.int k n) ∧ ∀ (P : Program) w', (us.foldlM f' v).run P w' = .ok (.int k n) w'
  | [], _, _, _, _, _, _, _, _, _, _, hn => absurd rfl hn
  | y :: ys, [], _, _, _, _, _, _, _, hl, _, _ => by simp at hl
  | y :: ys, u :: us, k0, x, v, t, r, h, hx, hl, hfl, _ => by
    unfold foldO at h
    cases hxy : f x y with
    | none => rw [hxy] at h; cases h
    | some q =>
      rw [hxy] at h
      simp only [Option.bind_some] at h
      have hy : RT w g (.lim (k0 + 0)) y u := hfl 0 (y, u) rfl
      obtain ⟨k, n, rfl, run⟩ := hf hxy hx hy
      by_cases hn : ys = []
      · subst hn
        have : us = [] := by cases us with
          | nil => rfl
          | cons _ _ => simp at hl
        subst this
        simp only [foldO, Option.some.injEq] at h
        subst h
        exact ⟨k, n, rfl, fun P w' => by simp [run P w']⟩
      · obtain ⟨k', n', e1, e2⟩ := fold_ok hf ys us (k0 + 1) (sc (.int k n)) (.int k n) t (.lim 0) h (.inl .int) (by simpa using hl) (fun i p hp => by
          rw [show k0 + 1 + i = k0 + (i + 1) from by omega]; exact hfl (i + 1) p hp) hn
        exact ⟨k', n', e1, fun P w' => by simp [run P w', e2 P w']⟩
end
end Go.Proofs.Abs
/- Operations that only tell a value, fourth part: operands in a row; max, min; structs that are built. -/
namespace Go.Proofs.Abs
open Go
set_option linter.unusedVariables false

section
variable {X : Cx} {pu : Pu} {s s' : St} {a : Act} {w : World} {g : Gh}

theorem Rel.opnds {P : Program} (pu : Pu) : ∀ (ps : List (TypeId × Operand)) (s : St) (fl : List (TV × Value)) (g : Gh) (vs : List TV) (s' : St), Rel s fl a w g → Abs.opnds P ps s = some (vs, s') →
    ∃ g', vs.length = ps.length ∧ Rel s' (fl ++ vs.zip (ps.map fun p => a.eval p.2)) a w g' ∧ Le pu w g w g'
  | [], s, fl, g, vs, s', R, h => by
    cases h
    exact ⟨g, rfl, by simpa using R, .refl _ _ _⟩
  | p :: ps, s, fl, g, vs, s', R, h => by
    unfold Abs.opnds at h
    cases hx : Abs.opnd P s p.1 p.2 with
    | none => rw [hx] at h; cases h' : Abs.opnds P ps (used s p.2) <;> rw [h'] at h <;> cases h
    | some v =>
      rw [hx] at h
      cases hr : Abs.opnds P ps (used s p.2) with
      | none => rw [hr] at h; cases h
      | some q =>
        obtain ⟨vs1, s1⟩ := q
        rw [hr] at h
        cases h
        obtain ⟨g1, k1, k2⟩ := R.opnd pu hx
        obtain ⟨g2, l1, l2, l3⟩ := Rel.opnds pu ps (used s p.2) _ g1 vs1 _ k1 hr
        exact ⟨g2, by simp [l1], by simpa using l2, k2.trans l3⟩

theorem args_eq {n : Nat} {f : TypeId × Operand → Value} (ts : List TypeId) (xs : List Operand) (ev : Operand → Value) (h : xs.length ≤ ts.length) : (ts.zip xs).map (fun p => ev p.2) = xs.map ev := by
  induction xs generalizing ts with
  | nil => simp
  | cons x xs ih => cases ts with
    | nil => simp at h
    | cons t ts => simp; exact ih ts (by simpa using h)

theorem told_fold {o : Oper} {b : Builtin} {args ats} (ho : o.op = .call { callee := .builtin b, args := args, argTypes := ats }) {v0 y0 r} {vals : List Value} (hargs : (args.map a.eval).toList = vals)
    {s1 : St} (R : Rel s1 ((v0 :: y0 :: r).zip vals) a w g) (hl : vals.length = (v0 :: y0 :: r).length) (hd : ∀ d, o.dst = some d → d < a.tmps.size)
    {f : TV → TV → Option TV} {f' : Value → Value → Sem Value}
    (hf : ∀ {r r' x y v u t}, f x y = some t → RT w g r x v → RT w g r' y u → ∃ k n, t = sc (.int k n) ∧ ∀ (P : Program) w', (f' v u).run P w' = .ok (.int k n) w')
    (hb : ∀ (u : Value) us, (args.map a.eval).toList = u :: us → execOp a.eval o = (do pure (Next.value (← us.foldlM f' u)))) {v} (h : foldO f v0 (y0 :: r) = some v) : Told X pu o a w g (setT s1 o.dst v) := by
  cases vals with
  | nil => simp at hl
  | cons u us =>
    have h0 : RT w g (.lim 0) v0 u := R.fl 0 (v0, u) rfl
    obtain ⟨k, n, rfl, run⟩ := fold_ok hf (y0 :: r) us 1 v0 u v (.lim 0) h h0 (by simpa using hl) (fun i p hp => by
      rw [Nat.add_comm]
      exact R.fl (i + 1) p (by simpa using hp)) (by simp)
    obtain ⟨g', k1, k2⟩ := (R.forget (fl := [])).tell pu hd (c := .int k n) (v := .int k n) fun _ _ => .inl .int
    refine ⟨_, g', fun w' => ?_, k1, k2⟩
    rw [hb u us hargs]
    simp [run X.P w']

/-! ### a struct that is built -/
/-- where a cell of a built struct comes from: from no slice of its own, or out of a part -/
def FromPart (w : World) (g : Gh) (c : MC) (u : Value) (pos : Nat → Nat → Option Nat) (q : Nat) : Prop :=
  (∀ r π g', (∀ id, g'.φ id = g.φ id) → g'.n = g.n → (∀ t, g'.ψ t = g.ψ t) → RC w g' c.1 r π c.2 u) ∨ ∃ i j, pos i j = some q ∧ RC w g c.1 (.lim i) [j] c.2 u
theorem setAt_get {α : Type} (cs new : List α) (off : Nat) (h : off + new.length ≤ cs.length) (q : Nat) : (setAt cs off new)[q]? = if off ≤ q ∧ q < off + new.length then new[q - off]? else cs[q]? := by
  unfold setAt
  rw [List.append_assoc, List.getElem?_append]
  simp only [List.length_take, Nat.min_eq_left (show off ≤ cs.length by omega)]
  split
  · rename_i h1
    rw [if_neg (by omega), List.getElem?_take, if_pos h1]
  · rename_i h1
    rw [List.getElem?_append]
    split
    · rename_i h2
      rw [if_pos (by omega)]
    · rename_i h2
      rw [if_neg (by omega), List.getElem?_drop]
      congr 1; omega
theorem setAt_length {α : Type} (cs new : List α) (off : Nat) (h : off + new.length ≤ cs.length) : (setAt cs off new).length = cs.length := by
  simp [setAt]; omega

theorem fold_set_get (off : Nat) : ∀ (new : List Value) (k : Nat) (cs : Array Value) (q : Nat), off + k + new.length ≤ cs.size →
    ((new.zipIdx k).foldl (fun cs p => cs.setIfInBounds (off + p.2) p.1) cs)[q]? = if off + k ≤ q ∧ q < off + k + new.length then new[q - (off + k)]? else cs[q]?
  | [], k, cs, q, h => by simp; omega
  | v :: new, k, cs, q, h => by
    simp only [List.zipIdx_cons, List.foldl_cons]
    rw [fold_set_get off new (k + 1) _ q (by simp at h ⊢; omega)]
    simp only [List.length_cons] at h ⊢
    by_cases h1 : off + (k + 1) ≤ q ∧ q < off + (k + 1) + new.length
    · rw [if_pos h1, if_pos (by omega)]
      rw [show q - (off + k) = (q - (off + (k + 1))) + 1 from by omega]
      simp
    · rw [if_neg h1]
      rw [Array.getElem?_setIfInBounds]
      by_cases h2 : off + k = q
      · subst h2
        rw [if_pos rfl, if_pos (by omega), if_pos (by omega)]
        simp
      · rw [if_neg h2, if_neg (by omega)]
theorem fold_set_size (off : Nat) : ∀ (new : List Value) (k : Nat) (cs : Array Value), ((new.zipIdx k).foldl (fun cs p => cs.setIfInBounds (off + p.2) p.1) cs).size = cs.size
  | [], k, cs => rfl
  | v :: new, k, cs => by simp only [List.zipIdx_cons, List.foldl_cons]; rw [fold_set_size off new]; simp

theorem RT.cellsOf {w g r tv v} (h : RT w g r tv v) (hn : noTup tv = true) : v.cells.size = tv.cells.length ∧ ∀ (j : Nat) c, tv.cells[j]? = some c → ∃ u, v.cells[j]? = some u ∧ RC w g c.1 r [j] c.2 u := by
  cases tv with
  | one m a =>
    have hv : v.cells = #[v] := cells_one (RC.oneCell h)
    refine ⟨by rw [hv]; rfl, fun j c hc => ?_⟩
    cases j with
    | zero => simp [TV.cells] at hc; subst hc; exact ⟨v, by rw [hv]; rfl, h⟩
    | succ j => simp [TV.cells] at hc
  | agg cs =>
    obtain ⟨vs, rfl, h1, h2⟩ := h
    exact ⟨h1, fun j c hc => h2 j c hc⟩
  | tup vs => cases hn

def fillP (pos : Nat → Nat → Option Nat) (place : Nat → Option (Nat × Nat)) (k i len : Nat) : Nat → Nat → Option Nat := fun a b =>
  if a = k ∧ b < len then (place i).map fun p => p.1 + b else pos a b
/-- filling: cell by cell, each from where it comes -/
theorem fill_ok {w : World} {g : Gh} {place : Nat → Option (Nat × Nat)} (P0 : Nat → Nat → Option Nat) : ∀ (ix : List Nat) (vs : List TV) (us : List Value) (cs cs' : List MC) (vals : Array Value) (k0 : Nat),
    (∀ (i : Nat) tv u, vs[i]? = some tv → us[i]? = some u → RT w g (.lim (k0 + i)) tv u) → vs.all noTup = true → us.length = vs.length → ix.length = vs.length →
    fillAll place cs (ix.zip (vs.map TV.cells)) = some cs' →
    vals.size = cs.length → (∀ i j, k0 ≤ i → P0 i j = none) → (∀ q c, cs[q]? = some c → ∃ u, vals[q]? = some u ∧ FromPart w g c u P0 q) →
    ∃ vals' P1, Instr.fill place vals (ix.zip us) = some vals' ∧ vals'.size = cs'.length ∧ (∀ q c, cs'[q]? = some c → ∃ u, vals'[q]? = some u ∧ FromPart w g c u P1 q) ∧ cs'.length = cs.length
  | [], vs, us, cs, cs', vals, k0, _, _, hl, hi, h, hs, _, hq => by
    cases vs with
    | nil => cases us with
      | nil => cases h; exact ⟨vals, P0, rfl, hs, hq, rfl⟩
      | cons _ _ => simp at hl
    | cons _ _ => simp at hi
  | i :: ix, [], us, cs, cs', vals, k0, _, _, _, hi, _, _, _, _ => by simp at hi
  | i :: ix, v :: vs, [], cs, cs', vals, k0, _, _, hl, _, _, _, _, _ => by simp at hl
  | i :: ix, v :: vs, u :: us, cs, cs', vals, k0, hv, hn, hl, hi, h, hs, hP, hq => by
    simp only [List.map_cons, List.zip_cons_cons, fillAll] at h
    simp only [List.all_cons, Bool.and_eq_true] at hn
    cases hp : place i with
    | none => rw [hp] at h; cases h
    | some p =>
      rw [hp] at h
      simp only at h
      split at h
      · rename_i hb
        obtain ⟨c1, c2⟩ := RT.cellsOf (hv 0 v u rfl rfl) hn.1
        have hsz : u.cells.size = v.cells.length := c1
        have hlen := setAt_length cs v.cells p.1 hb.2
        obtain ⟨vals', P1, e1, e2, e3, e4⟩ := fill_ok (w := w) (g := g) (place := place) (fillP P0 place k0 i v.cells.length) ix vs us (setAt cs p.1 v.cells) cs'
          (u.cells.toList.zipIdx.foldl (fun cs q => cs.setIfInBounds (p.1 + q.2) q.1) vals) (k0 + 1)
          (fun j tv u' h1 h2 => by rw [show k0 + 1 + j = k0 + (j + 1) from by omega]; exact hv (j + 1) tv u' (by simpa using h1) (by simpa using h2)) hn.2 (by simpa using hl) (by simpa using hi) h
          (by rw [fold_set_size, hs, hlen]) (fun a b hab => by
            unfold fillP; rw [if_neg (by omega)]; exact hP a b (by omega)) (fun q c hc => by
            rw [setAt_get _ _ _ hb.2] at hc
            rw [fold_set_get p.1 u.cells.toList 0 vals q (by simp [hsz]; omega)]
            simp only [Nat.add_zero, Array.length_toList, hsz]
            split at hc
            · rename_i h1
              rw [if_pos h1]
              obtain ⟨u', k1, k2⟩ := c2 _ c hc
              refine ⟨u', by simpa using k1, .inr ⟨k0, q - p.1, ?_, k2⟩⟩
              unfold fillP
              rw [if_pos ⟨rfl, by omega⟩, hp]
              simp; omega
            · rename_i h1
              rw [if_neg h1]
              obtain ⟨u', k1, k2⟩ := hq q c hc
              refine ⟨u', k1, ?_⟩
              rcases k2 with k2 | ⟨a, b, k2, k3⟩
              · exact .inl k2
              · refine .inr ⟨a, b, ?_, k3⟩
                unfold fillP
                rw [if_neg (fun e => by have := hP a b (by omega); rw [this] at k2; cases k2)]
                exact k2)
        refine ⟨vals', P1, ?_, e2, e3, by rw [e4, hlen]⟩
        simp only [List.zip_cons_cons, Instr.fill, hp]
        rw [if_neg (by rw [hsz, hb.1, hs]; simp; omega)]
        rw [show (u.cells.zipIdx.foldl (fun cs x => cs.setIfInBounds (p.1 + x.2) x.1) vals) = u.cells.toList.zipIdx.foldl (fun cs q => cs.setIfInBounds (p.1 + q.2) q.1) vals from by
          rw [← Array.foldl_toList]; simp]
        exact e1
      · cases h

def Fbuild (pos : Nat → Nat → Option Nat) (r : Rk) (π : List Nat) : Ow :=
  match r, π with
  | .lim i, j :: ρ => match pos i j with
    | some q => .pth (.lim 0) (q :: ρ)
    | none => .shared
  | .lim _, [] => .shared
  | r, π => .pth r π
theorem Fbuild_side (pos) : keepsSide (Fbuild pos) := by
  intro r π
  unfold Fbuild
  split
  · split
    · exact .inr ⟨_, _, rfl, rfl⟩
    · exact .inl rfl
  · exact .inl rfl
  · exact .inr ⟨_, _, rfl, rfl⟩
/-- all parts, together, as one value on its way -/
theorem Rel.gather {vs : List TV} {us : List Value} {cs : List MC} {vals : Array Value} {pos} (pu : Pu) (R : Rel s (vs.zip us) a w g)
    (hs : vals.size = cs.length) (hq : ∀ q c, cs[q]? = some c → ∃ u, vals[q]? = some u ∧ FromPart w g c u pos q) :
    ∃ g', Rel s [(.agg cs, .agg vals)] a w g' ∧ Le pu w g w g' := by
  have hF := Fbuild_side pos
  refine ⟨relabel (Fbuild pos) g, ⟨R.n, fun i x hi => ?_, fun t tv ht => (R.tm t tv ht).kept hF fun π => by cases π <;> rfl, fun t cs ht => (R.bx t cs ht).kept hF fun π => by cases π <;> rfl,
    fun id cs hi => (R.hp id cs hi).kept hF (by rw [R.n]; exact (List.getElem?_eq_some_iff.1 hi).1) fun π => by cases π <;> rfl, R.hd⟩, le_relabel hF pu (fun id π => by cases π <;> rfl) fun _ t => rfl⟩
  cases i with
  | succ i => simp at hi
  | zero =>
    simp at hi
    subst hi
    refine ⟨vals, rfl, hs, fun q c hc => ?_⟩
    obtain ⟨u, hu, k⟩ := hq q c hc
    refine ⟨u, hu, ?_⟩
    rcases k with k | ⟨i, j, k1, k2⟩
    · exact k _ _ _ (fun _ => rfl) rfl (fun _ => rfl)
    · exact k2.moved hF fun _ ρ => by show Fbuild pos (.lim i) (j :: ρ) = _; simp [Fbuild, k1]

theorem run_fields {P : Program} (w' : World) : ∀ (fs : List Field) (l : List (Nat × Nat)), fieldsOf P fs = some l → (fs.mapM fun f => Prod.mk f.offset <$> sizeOf f.type : Sem (List (Nat × Nat))).run P w' = .ok l w'
  | [], l, h => by cases h; rfl
  | f :: fs, l, h => by
    unfold fieldsOf at h
    split at h
    · rename_i z l' hz hl
      cases h
      simp [run_sizeOf' hz, run_fields w' fs l' hl]
    · cases h
theorem run_fieldsA {P : Program} (w' : World) (fs : Array Field) (l : List (Nat × Nat)) (h : fieldsOf P fs.toList = some l) : (fs.mapM fun f => do pure (f.offset, ← sizeOf f.type) : Sem (Array (Nat × Nat))).run P w' = .ok l.toArray w' := by
  rw [Array.mapM_eq_mapM_toList]
  have e : (fun f : Field => (do pure (f.offset, ← sizeOf f.type) : Sem (Nat × Nat))) = fun f => Prod.mk f.offset <$> sizeOf f.type := funext fun f => (map_eq_pure_bind _ _).symm
  rw [e]
  simp only [Sem.run_map, run_fields w' fs.toList l h, Result.andThen_ok]
theorem zeroOf_inv {P : Program} {t z} (h : zeroOf P t = some z) : ∃ v i, P.info? t = some i ∧ i.zero = some v ∧ zeroesAre v.cells.toList z = true ∧ i.size = z.length := by
  unfold zeroOf at h
  simp only [Option.bind_eq_some_iff] at h
  obtain ⟨z', h1, i, h2, v, h3, h4⟩ := h
  split at h4
  · rename_i hc
    cases h4
    simp only [Bool.and_eq_true, decide_eq_true_eq] at hc
    exact ⟨v, i, h2, h3, hc.1, hc.2⟩
  · cases h4
theorem zeroIs_frz {v m a} (h : zeroIs v m a = true) : zeroIs v m.frz a = true := by
  unfold zeroIs at h
  split at h <;> first | exact h | cases h
theorem zeroes_frz : ∀ {l : List Value} {z : List MC}, zeroesAre l z = true → zeroesAre l (z.map fun c => (c.1.frz, c.2)) = true
  | [], [], h => rfl
  | v :: vs, c :: cs, h => by
    simp only [zeroesAre, Bool.and_eq_true, List.map_cons] at h ⊢
    exact ⟨zeroIs_frz h.1, zeroes_frz h.2⟩
  | [], _ :: _, h => by cases h
  | _ :: _, [], h => by cases h
theorem zeroZ_inv {b : Bool} {P : Program} {t z} (h : zeroZ b P t = some z) : ∃ v i, P.info? t = some i ∧ i.zero = some v ∧ zeroesAre v.cells.toList z = true ∧ i.size = z.length := by
  cases b with
  | false => exact zeroOf_inv h
  | true =>
    unfold zeroZ at h
    rw [cond_true, Option.map_eq_some_iff] at h
    obtain ⟨z0, h1, rfl⟩ := h
    obtain ⟨v, i, h2, h3, h4, h5⟩ := zeroOf_inv h1
    exact ⟨v, i, h2, h3, zeroes_frz h4, by simpa using h5⟩
theorem zeroIs_cap {v m a} (h : zeroIs v m a = true) : zeroIs v (capC (m, a)).1 (capC (m, a)).2 = true := by
  unfold capC
  split
  · rename_i he; cases he
    unfold zeroIs at h ⊢
    split at h <;> first | rfl | (cases h; done) | (rename_i h1 h2; cases h1; done) | (rename_i h1 h2; cases h2; done) | (rename_i h1 h2 _; cases h1; done) | (rename_i h1 h2 _; cases h2; done)
  · exact h
theorem zeroes_cap : ∀ {l : List Value} {z : List MC}, zeroesAre l z = true → zeroesAre l (z.map capC) = true
  | [], [], h => rfl
  | v :: vs, c :: cs, h => by
    simp only [zeroesAre, Bool.and_eq_true, List.map_cons] at h ⊢
    exact ⟨zeroIs_cap h.1, zeroes_cap h.2⟩
  | [], _ :: _, h => by cases h
  | _ :: _, [], h => by cases h
theorem zeroC_inv {b : Bool} {P : Program} {t z} (h : zeroC b P t = some z) : ∃ v i, P.info? t = some i ∧ i.zero = some v ∧ zeroesAre v.cells.toList z = true ∧ i.size = z.length := by
  cases b with
  | false => exact zeroOf_inv h
  | true =>
    unfold zeroC at h
    rw [cond_true, Option.map_eq_some_iff] at h
    obtain ⟨z0, h1, rfl⟩ := h
    obtain ⟨v, i, h2, h3, h4, h5⟩ := zeroOf_inv h1
    exact ⟨v, i, h2, h3, zeroes_cap h4, by simpa using h5⟩
theorem run_zero {P : Program} {t i v} (h : P.info? t = some i) (hz : i.zero = some v) (w' : World) : (zeroValue t).run P w' = .ok v w' := by
  simp [zeroValue, run_typeInfo' h, hz]

theorem told_build {o : Oper} {b : Bool} {t} {parts : Array (Nat × Operand)} (ho : o.op = .build t parts) (R : Rel s [] a w g) (hd : ∀ d, o.dst = some d → d < a.tmps.size)
    (h : buildF X.P t (parts.toList.map fun (p : Nat × Operand) => p.1) o.dst (zeroC b X.P t) (opnds X.P (parts.toList.map fun (p : Nat × Operand) => (0, p.2)) s) = some s') : Told X pu o a w g s' := by
  unfold buildF at h
  split at h
  · rename_i z vs s1 hz hps
    split at h
    · rename_i hno
      obtain ⟨v, h1, rfl⟩ := setO_inv h
      unfold aggO at h1
      split at h1
      · rename_i cs hf
        cases h1
        obtain ⟨g1, k1, k2, k3⟩ := Rel.opnds pu _ s [] g vs s1 R hps
        simp only [List.nil_append, List.map_map] at k2
        obtain ⟨zv, zi, z1, z2, z3, z4⟩ := zeroC_inv hz
        unfold fillO at hf
        split at hf
        · rename_i pl hpl
          have hzl : zv.cells.size = z.length := by
            obtain ⟨q1, _⟩ := zeroesAre_ok (w := w) (g := g) (r := .lim 0) (π := []) z3
            simpa using q1
          obtain ⟨vals', P1, e1, e2, e3, _⟩ := fill_ok (w := w) (g := g1) (place := pl) (fun _ _ => none) _ vs (parts.toList.map fun p => a.eval p.2) z cs zv.cells 0
            (fun i tv u h1 h2 => by
              rw [Nat.zero_add]
              exact k2.fl i (tv, u) (by
                rw [List.getElem?_zip_eq_some]
                exact ⟨h1, by simpa using h2⟩)) hno (by simp [k1]) (by simp [k1]) hf hzl (fun _ _ _ => rfl) (fun q c hc => by
              obtain ⟨_, q2⟩ := zeroesAre_ok (w := w) (g := g1) (r := .lim 0) (π := []) z3
              obtain ⟨u, hu, _⟩ := q2 q c hc
              refine ⟨u, by simpa using hu, .inl fun r π g' _ _ _ => ?_⟩
              obtain ⟨_, q3⟩ := zeroesAre_ok (w := w) (g := g') (r := r) (π := π) z3
              obtain ⟨u', hu', hk⟩ := q3 q c hc
              rw [hu] at hu'; cases hu'
              have := hk []
              rw [List.append_nil] at this
              exact .inl this)
          obtain ⟨g2, l1, l2⟩ := Rel.gather (us := parts.toList.map fun p => a.eval p.2) pu (by simpa [Function.comp_def] using k2) e2 e3
          obtain ⟨g3, m1, m2⟩ := l1.finish pu hd
          refine ⟨_, g3, fun w' => ?_, m1, (k3.trans l2).trans m2⟩
          have e1' : Instr.fill pl zv.cells ((parts.map fun (i, x) => (i, a.eval x)).toList) = some vals' := by
            rw [← e1]
            congr 1
            simp [List.zip_map']
          unfold execOp; rw [ho]
          simp only [Sem.run_bind, Instr.build, run_zero z1 z2, Result.andThen_ok]
          unfold partsOf at hpl
          split at hpl
          · rename_i fs hu
            split at hpl
            · rename_i l hl
              cases hpl
              simp only [run_underlying' hu, Result.andThen_ok, Sem.run_bind, run_fieldsA w' fs l hl]
              simp only [List.getElem?_toArray, e1']
              rfl
            · cases hpl
          · rename_i k e hu
            split at hpl
            · rename_i zz hzz
              cases hpl
              simp only [run_underlying' hu, Result.andThen_ok, Sem.run_bind, run_sizeOf' hzz, e1']
              rfl
            · cases hpl
          · cases hpl
        · cases hf
      · cases h1
    · cases h
  · cases h
end
end Go.Proofs.Abs
/- Loads. -/
namespace Go.Proofs.Abs
open Go
set_option linter.unusedVariables false

section
variable {X : Cx} {pu : Pu} {s s' : St} {a : Act} {w : World} {g : Gh}

/-- what an operation that tells what stands in memory has to show: it tells so in every world where these cells are alike -/
def ToldL (X : Cx) (pu : Pu) (o : Oper) (a : Act) (w : World) (g : Gh) (s' : St) (b o' n : Nat) : Prop :=
  ∃ v g', (∀ w', (∀ j, j < n → cel w' b (o' + j) = cel w b (o' + j)) → (execOp a.eval o).run X.P w' = .ok (.value v) w') ∧ Rel s' [] (a.put o.dst v) w g' ∧ Le pu w g w g'

theorem run_loadCells {P : Program} {w' : World} {b o : Nat} {vs : Nat → Value} : ∀ (n i : Nat) (acc : Array Value), (∀ j, j < n → cel w' b (o + (i + j)) = some (vs (i + j))) →
    (loadCellsFrom ⟨b, o, none⟩ i n acc).run P w' = .ok (acc ++ ((List.range' i n).map vs).toArray) w'
  | 0, i, acc, _ => by simp [loadCellsFrom]
  | n + 1, i, acc, h => by
    have h0 := h 0 (by omega)
    rw [Nat.add_zero] at h0
    have ih := run_loadCells (P := P) (w' := w') (b := b) (o := o) (vs := vs) n (i + 1) (acc.push (vs i)) fun j hj => by
      have := h (j + 1) (by omega)
      rwa [show i + 1 + j = i + (j + 1) from by omega]
    simp only [loadCellsFrom, Sem.run_bind, run_load, add_mk]
    change cel w' b (o + i) = _ at h0
    rw [show w'.cell? ⟨b, o + i, none⟩ = some (vs i) from h0]
    simp only [Result.andThen_ok, ih, List.range'_succ, List.map_cons]
    congr 1
    apply Array.ext'
    simp
/-- the value that a load tells -/
def loaded (agg : Bool) (n : Nat) (vs : Nat → Value) : Value := if agg then .agg ((List.range n).map vs).toArray else vs 0
theorem run_loadVar {P : Program} {w' : World} {b o n : Nat} {vs : Nat → Value} {ty agg} (ha : isAggT P ty = some agg) (hn : szOf P ty = some n) (h1 : agg = false → n = 1)
    (h : ∀ j, j < n → cel w' b (o + j) = some (vs j)) : (loadVar ty ⟨b, o, none⟩).run P w' = .ok (loaded agg n vs) w' := by
  cases agg with
  | true =>
    simp only [loadVar, Sem.run_bind, run_isAgg' ha, Result.andThen_ok, if_true, run_sizeOf' hn, loadCells, Sem.run_ite]
    rw [run_loadCells n 0 #[] (by simpa using h)]
    simp [loaded, List.range_eq_range']
  | false =>
    have := h 0 (by rw [h1 rfl]; omega)
    rw [Nat.add_zero] at this
    simp only [loadVar, Sem.run_bind, run_isAgg' ha, Result.andThen_ok, Sem.run_ite, Bool.false_eq_true, if_false, run_load]
    rw [show w'.cell? ⟨b, o, none⟩ = some (vs 0) from this]
    rfl
theorem loaded_RT {agg : Bool} {n : Nat} {vs : Nat → Value} {cs : List MC} {tv} (ht : mkT agg cs = some tv) (hl : cs.length = n) {r} (h : ∀ j c, cs[j]? = some c → RC w g c.1 r [j] c.2 (vs j)) :
    RT w g r tv (loaded agg n vs) ∧ (agg = false → n = 1) := by
  rcases mkT_inv ht with ⟨rfl, rfl⟩ | ⟨m, c, rfl, rfl, rfl⟩
  · refine ⟨⟨_, rfl, by simp [hl], fun j c hc => ⟨vs j, ?_, h j c hc⟩⟩, fun h => by cases h⟩
    have : j < n := by rw [← hl]; exact (List.getElem?_eq_some_iff.1 hc).1
    simp [this]
  · exact ⟨h 0 (m, c) rfl, fun _ => by simpa using hl.symm⟩

theorem KC.lendH {m r π a v} (h : KC w g m r π a v) (hr : r.isObj = true) {m'} (hm : (m' = m ∧ m.owned = false) ∨ (m' = .bh ∧ ∃ d, m = .own d)) (r' : Rk) (π' : List Nat) : KC w g m' r' π' a v := by
  refine KC.map (g := g) (g' := g) (r := r) (r' := r') (fun m _ m' _ => (m' = m ∧ m.owned = false) ∨ (m' = .bh ∧ ∃ d, m = .own d)) (Nat.le_refl _) (fun _ hi => ⟨hi, rfl⟩) ?_ h (π' := π') hm
  intro m π m' π' hm
  rcases hm with ⟨rfl, hm⟩ | ⟨rfl, d, rfl⟩
  · refine ⟨id, id, fun b e hb ho => ⟨?_, fun _ _ _ => rfl⟩, fun h => (by rw [hm] at h; cases h), fun i j => .inl ⟨rfl, ?_⟩⟩
    · cases m' with
      | own d => cases d with
        | zero => exact ho
        | succ d => cases hm
      | _ => exact ho
    · cases m' with
      | own d => cases d with
        | zero => rfl
        | succ d => cases hm
      | _ => rfl
  · refine ⟨fun _ h => by (cases h), fun h => by (cases h), fun b e hb ho => ⟨?_, fun _ _ _ => rfl⟩, fun h => by (cases h), fun i j => ?_⟩
    · cases d with
      | zero => exact .inl ho
      | succ d => exact .inr ⟨r, π, ho.1, hr, by rw [ho.2]; exact Nat.le_refl _⟩
    · cases d with
      | zero => exact .inr ⟨rfl, 0, rfl⟩
      | succ d => exact .inr ⟨rfl, d, rfl⟩
theorem lendH_cp (m : Md) : (m.cpH = m ∧ m.owned = false) ∨ (m.cpH = .bh ∧ ∃ d, m = .own d) := by
  cases m with
  | own d => cases d with
    | zero => exact .inl ⟨rfl, rfl⟩
    | succ d => exact .inr ⟨rfl, d + 1, rfl⟩
  | _ => exact .inl ⟨rfl, rfl⟩

/-- cells that are copied -/
theorem toldL_cp {o : Oper} {ty x} (ho : o.op = .load ty x) (R : Rel s [] a w g) (hd : ∀ d, o.dst = some d → d < a.tmps.size) {agg n b o' cs tv}
    (ha : isAggT X.P ty = some agg) (hn : szOf X.P ty = some n) (hx : a.eval x = ptr b o') (ht : mkT agg cs = some tv) (hl : cs.length = n)
    (h : ∀ j c, cs[j]? = some c → ∃ v, cel w b (o' + j) = some v ∧ RC w g c.1 (.lim 0) [j] c.2 v) : ToldL X pu o a w g (setT s o.dst tv) b o' n := by
  have hex : ∃ vs : Nat → Value, ∀ j, j < n → cel w b (o' + j) = some (vs j) := ⟨fun j => (cel w b (o' + j)).getD undef, fun j hj => by
    obtain ⟨v, hv, _⟩ := h j cs[j] (by simp [hl, hj])
    show cel w b (o' + j) = some ((cel w b (o' + j)).getD undef)
    rw [hv]; rfl⟩
  obtain ⟨vs, hvs⟩ := hex
  obtain ⟨h1, h2⟩ := loaded_RT (w := w) (g := g) (vs := vs) ht hl (r := .lim 0) fun j c hc => by
    obtain ⟨v, hv, hk⟩ := h j c hc
    have := hvs j (by rw [← hl]; exact (List.getElem?_eq_some_iff.1 hc).1)
    rw [hv] at this; cases this; exact hk
  obtain ⟨g', k1, k2⟩ := (R.push (fl := []) h1).finish pu hd
  refine ⟨_, g', fun w' hw => ?_, k1, k2⟩
  unfold execOp; rw [ho]
  simp only [Sem.run_bind, Instr.loadAt, hx, ptr, Instr.sureAddr, pure_bind]
  rw [run_loadVar ha hn h2 fun j hj => (hw j hj).trans (hvs j hj)]
  rfl

theorem cells_get {cs p : List MC} {off n} (h : cellsAt cs off n = some p) {f : MC → MC} {j c} (hc : (p.map f)[j]? = some c) : ∃ c0, cs[off + j]? = some c0 ∧ c = f c0 ∧ j < n := by
  simp only [List.getElem?_map, Option.map_eq_some_iff] at hc
  obtain ⟨c0, h0, rfl⟩ := hc
  obtain ⟨h1, h2⟩ := (cellsAt_inv h).2.2 j c0 h0
  exact ⟨c0, h2, rfl, h1⟩

theorem toldL_obj_cp {o : Oper} {ty x} (ho : o.op = .load ty x) (R : Rel s [] a w g) (hd : ∀ d, o.dst = some d → d < a.tmps.size) {agg n id off m cs p tv}
    (ha : isAggT X.P ty = some agg) (hn : szOf X.P ty = some n) (hx : opnd X.P s 0 x = some (.one m (.ptr (.at id off)))) (hs : s.h[id]? = some cs) (hp : cellsAt cs off n = some p)
    (ht : mkT agg (p.map fun c => (c.1.cpH, c.2)) = some tv) : ToldL X pu o a w g (setT s o.dst tv) (g.φ id) off n := by
  obtain ⟨r, _, hr⟩ := R.val hx
  refine toldL_cp ho R hd ha hn hr.one.obj.1 ht (by simp [(cellsAt_inv hp).2.1]) fun j c hc => ?_
  obtain ⟨c0, h0, rfl, _⟩ := cells_get hp hc
  obtain ⟨v, h1, _, h3⟩ := (R.hp id cs hs).cell _ c0 h0
  exact ⟨v, h1, .inl (h3.lendH rfl (lendH_cp _) _ _)⟩
theorem toldL_loc_cp {o : Oper} {ty x} (ho : o.op = .load ty x) (R : Rel s [] a w g) (hd : ∀ d, o.dst = some d → d < a.tmps.size) {agg n t off m cs p tv}
    (ha : isAggT X.P ty = some agg) (hn : szOf X.P ty = some n) (hx : opnd X.P s 0 x = some (.one m (.loc t off))) (hs : find t s.l = some cs) (hp : cellsAt cs off n = some p)
    (ht : mkT agg (p.map fun c => (c.1.cp, c.2)) = some tv) : ToldL X pu o a w g (setT s o.dst tv) (g.ψ t) off n := by
  obtain ⟨r, _, hr⟩ := R.val hx
  refine toldL_cp ho R hd ha hn hr.one.loc ht (by simp [(cellsAt_inv hp).2.1]) fun j c hc => ?_
  obtain ⟨c0, h0, rfl, _⟩ := cells_get hp hc
  obtain ⟨v, h1, _, h3⟩ := (R.bx t cs hs).cell _ c0 h0
  exact ⟨v, h1, h3.cp rfl _ _⟩
theorem rdCells_get {m : Md} {l : List AV} {j : Nat} {c : MC} (h : (rdCells m l)[j]? = some c) : ∃ a : AV, l[j]? = some a ∧ c = (if a.scalar then .top else m, a) := by
  simp only [rdCells, List.getElem?_map, Option.map_eq_some_iff] at h
  obtain ⟨a, h1, rfl⟩ := h
  exact ⟨a, h1, rfl⟩
theorem take_get {l : List AV} {off n j a} (h : ((l.drop off).take n)[j]? = some a) : j < n ∧ l[off + j]? = some a := by
  rw [List.getElem?_take] at h
  split at h
  · rename_i hj; rw [List.getElem?_drop] at h; exact ⟨hj, h⟩
  · cases h
theorem rdCell_RC {m : Md} {a : AV} {v r π} (h : KC w g m r π a v) : RC w g (if a.scalar then .top else m) r π a v := by
  split
  · rename_i hs; exact .inl (RC.scalar (.inl h) hs _ _ _)
  · exact .inl h
theorem toldL_rd {o : Oper} {ty x} (ho : o.op = .load ty x) (R : Rel s [] a w g) (hd : ∀ d, o.dst = some d → d < a.tmps.size) {agg n mo mi m cs off tv}
    (ha : isAggT X.P ty = some agg) (hn : szOf X.P ty = some n) (hx : opnd X.P s 0 x = some (.one m (.rd mo mi cs off))) (hl : off + n ≤ cs.length)
    (ht : mkT agg (rdCells mi ((cs.drop off).take n)) = some tv) : ∃ b o', b < w.heap.size ∧ a.eval x = ptr b (o' + off) ∧ okB g mo (.lim 0) [] b (o' + cs.length) ∧ ToldL X pu o a w g (setT s o.dst tv) b (o' + off) n := by
  obtain ⟨r, _, hr⟩ := R.val hx
  rcases hr.one with h | h
  · cases h
  · generalize hv : a.eval x = v at h
    cases h with
    | @rd _ _ _ _ b o' vs hb hmo hmi hok hc hk =>
      refine ⟨b, o', hb, rfl, hok, toldL_cp ho R hd ha hn hv ht (by simp [rdCells]; omega) fun j c hj => ?_⟩
      obtain ⟨a1, h1, rfl⟩ := rdCells_get hj
      obtain ⟨_, h2⟩ := take_get h1
      exact ⟨vs (off + j), by rw [Nat.add_assoc]; exact hc _ _ h2, rdCell_RC ((hk _ _ h2).anywhere hmi _ _)⟩
theorem toldL_el_cp {o : Oper} {ty x} (ho : o.op = .load ty x) (R : Rel s [] a w g) (hd : ∀ d, o.dst = some d → d < a.tmps.size) {agg n q i off m d z xs e tv}
    (ha : isAggT X.P ty = some agg) (hn : szOf X.P ty = some n) (hx : opnd X.P s 0 x = some (.one m (.el q i off))) (hat : atRoot s q = some (.own (d + 1), .sl z xs)) (he : xs[i]? = some e) (hl : off + n ≤ e.length)
    (ht : mkT agg (rdCells (Md.cpR q (.own d)) ((e.drop off).take n)) = some tv) : ∃ b o' cap, SlAt w g (.own (d + 1)) (rk q) (rp q) z xs b o' cap ∧ ToldL X pu o a w g (setT s o.dst tv) b (o' + i * z + off) n := by
  obtain ⟨r, _, hr⟩ := R.val hx
  obtain ⟨b, o', cap, e1, e2, e3⟩ := R.rootAt hat (by intro h; subst h; simp at he)
  have hv := hr.one.el
  rw [e2] at hv
  refine ⟨b, o', cap, e3, toldL_cp ho R hd ha hn hv ht (by simp [rdCells]; omega) fun j c hj => ?_⟩
  obtain ⟨a1, h1, rfl⟩ := rdCells_get hj
  obtain ⟨_, h2⟩ := take_get h1
  obtain ⟨v, h3, h4⟩ := e3.cell i e (off + j) a1 he h2
  refine ⟨v, by rw [Nat.add_assoc (o' + i * z)]; exact h3, rdCell_RC ?_⟩
  cases q with
  | obj id off => exact h4.lendH rfl (lendH_cp _) _ _
  | loc t off => exact h4.lend rfl (lendT_cp _) _ _
  | tmp t => exact h4.lend rfl (lendT_cp _) _ _

/-- the slice that stands at a place is looked at -/
theorem toldL_place {o : Oper} {ty x} (ho : o.op = .load ty x) (R : Rel s [] a w g) (hd : ∀ d, o.dst = some d → d < a.tmps.size) {q d z xs b o'}
    (ha : isAggT X.P ty = some false) (hn : szOf X.P ty = some 1) (hx : a.eval x = ptr b o') (hat : atRoot s q = some (.own (d + 1), .sl z xs)) (hq : valAt a w g q = cel w b o') :
    ToldL X pu o a w g (setT s o.dst (sc (.at_ q 0 xs.length))) b o' 1 := by
  obtain ⟨v, e1, e2⟩ := R.root hat
  have hv : ∀ r π, RC w g .top r π (.at_ q 0 xs.length) v := fun r π => by
    rcases e2.sl_inv with ⟨k1, k2, _⟩ | ⟨b, o, cap, k1, k2⟩ | ⟨_, _, _, hno⟩
    rotate_left 2
    · cases hno
    · subst k1; subst k2; exact .inr (.at_ (Nat.le_refl _) (fun h => absurd h (by simp)) (.inl ⟨rfl, rfl⟩))
    · subst k1
      have := R.hd _ d z xs hat b o none _ cap e1
      exact .inr (.at_ k2.hcap (fun _ => by rw [this]; simp) (.inr ⟨o, by rw [this], by rw [this]; simp, .inr (by rw [this]; simp)⟩))
  obtain ⟨g', k1, k2⟩ := R.tell pu hd hv
  refine ⟨v, g', fun w' hw => ?_, k1, k2⟩
  unfold execOp; rw [ho]
  simp only [Sem.run_bind, Instr.loadAt, hx, ptr, Instr.sureAddr, pure_bind]
  rw [run_loadVar (vs := fun _ => v) ha hn (fun _ => rfl) fun j hj => by
    obtain rfl : j = 0 := by omega
    rw [hw 0 (by omega), Nat.add_zero, ← hq, e1]]
  rfl
end
end Go.Proofs.Abs
/- Loads that take what they load; slices of slices. -/
namespace Go.Proofs.Abs
open Go
set_option linter.unusedVariables false

section
variable {X : Cx} {pu : Pu} {s s' : St} {a : Act} {w : World} {g : Gh} {lc : List Nat}

def Fmv (r0 : Rk) (off n : Nat) (r : Rk) (π : List Nat) : Ow :=
  match π with
  | q :: ρ => if r = r0 ∧ off ≤ q ∧ q < off + n then .pth (.lim 0) ((q - off) :: ρ) else if r = .lim 0 then .shared else .pth r (q :: ρ)
  | [] => if r = .lim 0 then .shared else .pth r []
theorem Fmv_L (r0 off n) : keepsL (Fmv r0 off n) := by
  intro r π hr
  unfold Fmv
  split
  · split
    · exact .inr ⟨_, _, rfl, rfl⟩
    · split
      · exact .inl rfl
      · exact .inr ⟨_, _, rfl, hr⟩
  · split
    · exact .inl rfl
    · exact .inr ⟨_, _, rfl, hr⟩
theorem Fmv_side {r0 off n} (h0 : r0.isObj = false) : keepsSide (Fmv r0 off n) := by
  intro r π
  unfold Fmv
  split
  · split
    · rename_i h; rw [h.1]; exact .inr ⟨_, _, rfl, h0.symm⟩
    · split
      · exact .inl rfl
      · exact .inr ⟨_, _, rfl, rfl⟩
  · split
    · exact .inl rfl
    · exact .inr ⟨_, _, rfl, rfl⟩
theorem Fmv_keep {r0 off n r} (h1 : r ≠ r0) (h2 : r ≠ .lim 0) (π) : Fmv r0 off n r π = .pth r π := by
  unfold Fmv; split <;> simp [h1, h2]
theorem Fmv_out {r0 off n q} (h2 : r0 ≠ .lim 0) (hq : ¬(off ≤ q ∧ q < off + n)) (ρ) : Fmv r0 off n r0 ([q] ++ ρ) = .pth r0 ([q] ++ ρ) := by
  simp [Fmv, hq, h2]
theorem Fmv_in {r0 off n j} (hj : j < n) (ρ) : Fmv r0 off n r0 ([off + j] ++ ρ) = .pth (.lim 0) ([j] ++ ρ) := by
  simp [Fmv, hj]

theorem leave_get {cs p : List MC} {off n} (hp : cellsAt cs off n = some p) {q c} (hc : (setAt cs off (p.map leaveC))[q]? = some c) :
    (off ≤ q ∧ q < off + n ∧ ∃ c0, cs[q]? = some c0 ∧ c = leaveC c0) ∨ (¬(off ≤ q ∧ q < off + n) ∧ cs[q]? = some c) := by
  obtain ⟨h1, h2, h3⟩ := cellsAt_inv hp
  rw [setAt_get _ _ _ (by simpa [h2] using h1)] at hc
  simp only [List.length_map, h2] at hc
  split at hc
  · rename_i hq
    simp only [List.getElem?_map, Option.map_eq_some_iff] at hc
    obtain ⟨c0, e1, rfl⟩ := hc
    obtain ⟨_, e2⟩ := h3 _ _ e1
    rw [show off + (q - off) = q from by omega] at e2
    exact .inl ⟨hq.1, hq.2, c0, e2, rfl⟩
  · rename_i hq; exact .inr ⟨hq, hc⟩
theorem leaveC_not_own {c : MC} {d z xs} : leaveC c ≠ (.own (d + 1), .sl z xs) := by
  unfold leaveC
  split
  · intro h; cases h
  · rename_i h; intro e; rw [e] at h; exact h rfl

theorem toldL_loc_take {o : Oper} {ty x} (ho : o.op = .load ty x) (R : Rel s [] a w g) (hd : ∀ d, o.dst = some d → d < a.tmps.size) {agg n t off m cs p tv}
    (ha : isAggT X.P ty = some agg) (hn : szOf X.P ty = some n) (hx : opnd X.P s 0 x = some (.one m (.loc t off))) (hs : find t s.l = some cs) (hp : cellsAt cs off n = some p)
    (ht : mkT agg p = some tv) : ToldL X pu o a w g (setT { s with l := put t (setAt cs off (p.map leaveC)) s.l } o.dst tv) (g.ψ t) off n := by
  obtain ⟨r, _, hr⟩ := R.val hx
  have hF : keepsSide (Fmv (.loc t) off n) := Fmv_side rfl
  obtain ⟨q1, q2, q3⟩ := cellsAt_inv hp
  have hB := R.bx t cs hs
  have hex : ∃ vs : Nat → Value, ∀ j, j < n → cel w (g.ψ t) (off + j) = some (vs j) := ⟨fun j => (cel w (g.ψ t) (off + j)).getD undef, fun j hj => by
    obtain ⟨v, hv, _⟩ := hB.cell (off + j) p[j] (q3 j _ (by simp [q2, hj])).2
    show cel w (g.ψ t) (off + j) = some ((cel w (g.ψ t) (off + j)).getD undef)
    rw [hv]; rfl⟩
  obtain ⟨vs, hvs⟩ := hex
  obtain ⟨h1, h2⟩ := loaded_RT (w := w) (g := relabel (Fmv (.loc t) off n) g) (vs := vs) ht q2 (r := .lim 0) fun j c hc => by
    obtain ⟨hj, hc'⟩ := q3 j c hc
    obtain ⟨v, hv, _, hk⟩ := hB.cell _ c hc'
    have := hvs j hj
    rw [hv] at this; cases this
    exact hk.moved hF fun _ ρ => Fmv_in hj ρ
  have R1 : Rel { s with l := put t (setAt cs off (p.map leaveC)) s.l } [(tv, loaded agg n vs)] a w (relabel (Fmv (.loc t) off n) g) := by
    refine ⟨R.n, fun i y hi => ?_, fun t' tv' ht' => (R.tm t' tv' ht').kept hF fun π => Fmv_keep (by simp) (by simp) π, fun t' cs' ht' => ?_,
      fun id cs' hi => (R.hp id cs' hi).kept hF (by rw [R.n]; exact (List.getElem?_eq_some_iff.1 hi).1) fun π => Fmv_keep (by simp) (by simp) π, fun r d z xs hat b o sp len cap hv => ?_⟩
    · cases i with
      | succ i => simp at hi
      | zero => simp at hi; subst hi; exact h1
    · simp only [find_put] at ht'
      split at ht'
      · rename_i e
        subst e
        cases ht'
        refine ⟨by rw [show (relabel (Fmv (.loc t') off n) g).ψ t' = g.ψ t' from rfl, relabel_own hB.own]; simp [Fmv], hB.blk, hB.fr, fun q c hc => ?_⟩
        rcases leave_get hp hc with ⟨e1, e2, c0, e3, rfl⟩ | ⟨e1, e2⟩
        · obtain ⟨v, k1, k2, k3⟩ := hB.cell q c0 e3
          exact ⟨v, k1, k2, k3.leave hF⟩
        · obtain ⟨v, k1, k2, k3⟩ := hB.cell q c e2
          refine ⟨v, k1, k2, k3.chg (chg_relabel hF) (cellOk_all (fun ρ => ?_) (fun _ => rfl) (fun _ => rfl))⟩
          exact Fmv_out (by simp) e1 ρ
      · rename_i e
        exact (R.bx t' cs' ht').kept hF fun π => Fmv_keep (by simp [e]) (by simp) π
    · refine R.hd r d z xs ?_ b o sp len cap hv
      cases r with
      | obj id off' => exact hat
      | tmp t' => exact hat
      | loc t' off' =>
        change cellOf off' (find t' (put t _ s.l)) = _ at hat
        change cellOf off' (find t' s.l) = _
        rw [find_put] at hat
        by_cases e : t' = t
        · subst e
          rw [if_pos rfl] at hat
          rcases leave_get hp hat with ⟨_, _, c0, _, e⟩ | ⟨_, e⟩
          · exact absurd e.symm leaveC_not_own
          · rw [hs]; exact e
        · rw [if_neg e] at hat; exact hat
  obtain ⟨g', k1, k2⟩ := R1.finish pu hd
  refine ⟨_, g', fun w' hw => ?_, k1, (le_relabel hF pu (fun id π => Fmv_keep (by simp) (by simp) π) fun _ t => rfl).trans k2⟩
  unfold execOp; rw [ho]
  simp only [Sem.run_bind, Instr.loadAt, hr.one.loc, ptr, Instr.sureAddr, pure_bind]
  rw [run_loadVar ha hn h2 fun j hj => (hw j hj).trans (hvs j hj)]
  rfl

/-! ### where what is lent has fallen -/
/-- no cell of a state is lent by these modes -/
def NoMd (p : Md → Bool) (s : St) : Prop :=
  (∀ t tv, find t s.t = some tv → ∀ c, c ∈ tv.all → p c.1 = false ∧ c.2.lent p = false) ∧ ∀ t cs, find t s.l = some cs → ∀ c, c ∈ cs → p c.1 = false ∧ c.2.lent p = false
theorem noMd_kill {p : Md → Bool} {q : AV → Bool} {s : St} (hp : p .top = false) : NoMd p (s.kill p q) := by
  have h : ∀ c, p (killC p q c).1 = false ∧ (killC p q c).2.lent p = false := fun c => by
    unfold killC
    split
    · exact ⟨hp, rfl⟩
    · rename_i h
      simp only [Bool.or_eq_true, not_or, Bool.not_eq_true] at h
      exact ⟨h.1.1, h.1.2⟩
  refine ⟨fun t tv ht c hc => ?_, fun t cs ht c hc => ?_⟩
  · rw [find_kill_t, Option.map_eq_some_iff] at ht
    obtain ⟨tv0, _, rfl⟩ := ht
    obtain ⟨c0, rfl⟩ := all_killT hc
    exact h c0
  · rw [find_kill_l, Option.map_eq_some_iff] at ht
    obtain ⟨cs0, _, rfl⟩ := ht
    obtain ⟨c0, _, rfl⟩ := List.mem_map.1 hc
    exact h c0
theorem cellOk_no {U : Rk → List Nat → Prop} {g g' : Gh} {r π} {c : MC} {vl vh : Bool} {p : Md → Bool} (hu : U r π) (hd : ∀ q, g'.hd q = g.hd q) (hψ : ∀ t, g'.ψ t = g.ψ t)
    (hl : vl = true ∨ p .bl = true) (hh : vh = true ∨ p .bh = true) (h1 : p c.1 = false) (h2 : c.2.lent p = false) : cellOk U vl vh g g' r π c := by
  have hm : ∀ m, p m = false → (m = .bl → vl = true) ∧ (m = .bh → vh = true) := fun m hm =>
    ⟨fun e => hl.elim id fun h => (by rw [e, h] at hm; cases hm), fun e => hh.elim id fun h => (by rw [e, h] at hm; cases hm)⟩
  refine ⟨fun _ => hu, (hm _ h1).1, (hm _ h1).2, ?_⟩
  cases hc : c.2 with
  | loc t off => exact hψ t
  | el q i off => exact hd q
  | at_ q lo n => exact hd q
  | rd mo mi cs off =>
    rw [hc] at h2
    simp only [AV.lent, Bool.or_eq_false_iff] at h2
    exact ⟨fun e => e.elim (hm mo h2.1).1 (hm mi h2.2).1, fun e => e.elim (hm mo h2.1).2 (hm mi h2.2).2⟩
  | it s pos =>
    rw [hc] at h2
    simp only [AV.lent, Bool.or_eq_false_iff] at h2
    exact ⟨hl.elim id fun h => (by rw [h] at h2; cases h2.1), hh.elim id fun h => (by rw [h] at h2; cases h2.2)⟩
  | _ => trivial

/-- what stands in an object is taken out: no step, only whose it is -/
theorem Rel.takeObj (R : Rel s [] a w g) {agg n id off cs p tv} (hs : s.h[id]? = some cs) (hp : cellsAt cs off n = some p) (ht : mkT agg p = some tv) :
    ∃ vs : Nat → Value, (∀ j, j < n → cel w (g.φ id) (off + j) = some (vs j)) ∧ (agg = false → n = 1) ∧ ∃ g', Same g g' ∧ Rel ({ s with h := s.h.set id (setAt cs off (p.map leaveC)) }.kill isBh noAV) [(tv, loaded agg n vs)] a w g' ∧ ∀ lc, Le ⟨false, lc⟩ w g w g' := by
  have hK := R.kill isBh noAV
  have hno : NoMd isBh (s.kill isBh noAV) := noMd_kill rfl
  have hidn : id < g.n := by rw [R.n]; exact (List.getElem?_eq_some_iff.1 hs).1
  let F := Fmv (.obj id) off n
  have C : Chg (fun r π => ∀ ρ, F r (π ++ ρ) = .pth r (π ++ ρ)) true false w g w (relabel F g) := chg_relabelW (fun _ => Fmv_L _ _ _) (fun h => by cases h)
  obtain ⟨q1, q2, q3⟩ := cellsAt_inv hp
  have hB := R.hp id cs hs
  have hex : ∃ vs : Nat → Value, ∀ j, j < n → cel w (g.φ id) (off + j) = some (vs j) := ⟨fun j => (cel w (g.φ id) (off + j)).getD undef, fun j hj => by
    obtain ⟨v, hv, _⟩ := hB.cell (off + j) p[j] (q3 j _ (by simp [q2, hj])).2
    show cel w (g.φ id) (off + j) = some ((cel w (g.φ id) (off + j)).getD undef)
    rw [hv]; rfl⟩
  obtain ⟨vs, hvs⟩ := hex
  have mvd : ∀ {m π c v r' π'}, KC w g m (.obj id) π c v → (m = .top ∨ ∃ d, m = .own d) → (∀ ρ, F (.obj id) (π ++ ρ) = .pth r' (π' ++ ρ)) → KC w (relabel F g) m r' π' c v := by
    intro m π c v r' π' h hm hf
    refine KC.map (g := g) (g' := relabel F g) (r := .obj id) (r' := r') (fun m π m' π' => m' = m ∧ (m = .top ∨ ∃ d, m = .own d) ∧ ∀ ρ, F (.obj id) (π ++ ρ) = .pth r' (π' ++ ρ)) (Nat.le_refl _) (fun _ hi => ⟨hi, rfl⟩) ?_ h ⟨rfl, hm, hf⟩
    rintro m π m' π' ⟨rfl, hm, hf⟩
    refine ⟨fun h => h, fun h => h, fun b e hb ho => ⟨?_, fun _ _ _ => rfl⟩, fun _ _ _ _ _ _ h => h, fun i j => ⟨rfl, ?_, fun ρ => by rw [List.append_assoc, List.append_assoc]; exact hf _⟩⟩
    · rcases hm with rfl | ⟨d, rfl⟩
      · exact ho.elim
      · cases d with
        | zero => exact (C.st b hb (.inl ho)).1.trans ho
        | succ d => exact ⟨by rw [relabel_own ho.1]; simpa using hf [], ho.2⟩
    · rcases hm with rfl | ⟨d, rfl⟩
      · exact .inl rfl
      · cases d with
        | zero => exact .inr ⟨0, rfl⟩
        | succ d => exact .inr ⟨d, rfl⟩
  obtain ⟨h1, h2⟩ := loaded_RT (w := w) (g := relabel F g) (vs := vs) ht q2 (r := .lim 0) fun j c hc => by
    obtain ⟨hj, hc'⟩ := q3 j c hc
    obtain ⟨v, hv, _, hk⟩ := hB.cell _ c hc'
    have := hvs j hj
    rw [hv] at this; cases this
    exact .inl (mvd hk (hB.md c (List.mem_of_getElem? hc')) fun ρ => Fmv_in hj ρ)
  have R1 : Rel ({ s with h := s.h.set id (setAt cs off (p.map leaveC)) }.kill isBh noAV) [(tv, loaded agg n vs)] a w (relabel F g) := by
    refine ⟨by show g.n = (s.h.set id _).length; simpa using R.n, fun i y hi => ?_, fun t' tv' ht' => ?_, fun t' cs' ht' => ?_, fun id' cs' hi => ?_, fun r d z xs hat b o sp len cap hv => ?_⟩
    · cases i with
      | succ i => simp at hi
      | zero => simp at hi; subst hi; exact h1
    · exact (hK.tm t' tv' ht').chg C fun c hc π => cellOk_no (p := isBh) (fun ρ => Fmv_keep (by simp) (by simp) _) (fun _ => rfl) (fun _ => rfl) (.inl rfl) (.inr rfl) (hno.1 t' tv' ht' c hc).1 (hno.1 t' tv' ht' c hc).2
    · exact (hK.bx t' cs' ht').chg C rfl (fun ρ => Fmv_keep (by simp) (by simp) _) fun c hc π => cellOk_no (p := isBh) (fun ρ => Fmv_keep (by simp) (by simp) _) (fun _ => rfl) (fun _ => rfl) (.inl rfl) (.inr rfl) (hno.2 t' cs' ht' c hc).1 (hno.2 t' cs' ht' c hc).2
    · change (s.h.set id _)[id']? = some cs' at hi
      rw [List.getElem?_set] at hi
      split at hi
      · rename_i e
        subst e
        split at hi
        · cases hi
          refine ⟨by rw [show (relabel F g).φ id = g.φ id from rfl, relabel_own hB.own]; show Fmv _ _ _ _ _ = _; simp [Fmv], hB.blk, hB.fr, fun c hc => ?_, fun q c hc => ?_⟩
          · obtain ⟨q, hq⟩ := List.mem_iff_getElem?.1 hc
            rcases leave_get hp hq with ⟨_, _, c0, e3, rfl⟩ | ⟨_, e2⟩
            · unfold leaveC
              split
              · exact .inl rfl
              · exact hB.md c0 (List.mem_of_getElem? e3)
            · exact hB.md c (List.mem_of_getElem? e2)
          · rcases leave_get hp hc with ⟨e1, e2, c0, e3, rfl⟩ | ⟨e1, e2⟩
            · obtain ⟨v, k1, k2, k3⟩ := hB.cell q c0 e3
              refine ⟨v, k1, k2, ?_⟩
              unfold leaveC
              split
              · exact .junk k3.oneCell
              · rename_i hno
                have hm := hB.md c0 (List.mem_of_getElem? e3)
                exact k3.chg C (fun h => absurd h hno) (fun e => by rcases hm with h | ⟨d, h⟩ <;> rw [h] at e <;> cases e) (fun e => by rcases hm with h | ⟨d, h⟩ <;> rw [h] at e <;> cases e)
            · obtain ⟨v, k1, k2, k3⟩ := hB.cell q c e2
              exact ⟨v, k1, k2, mvd k3 (hB.md c (List.mem_of_getElem? e2)) fun ρ => Fmv_out (by simp) e1 ρ⟩
        · cases hi
      · rename_i e
        exact (R.hp id' cs' hi).chg C (by rw [R.n]; exact (List.getElem?_eq_some_iff.1 hi).1) (fun π ρ => Fmv_keep (by simp [Ne.symm e]) (by simp) _)
    · have hat' := atRoot_kill hat
      refine R.hd r d z xs ?_ b o sp len cap hv
      cases r with
      | tmp t' => exact hat'
      | loc t' off' => exact hat'
      | obj id' off' =>
        change cellOf off' ((s.h.set id _)[id']?) = _ at hat'
        change cellOf off' (s.h[id']?) = _
        rw [List.getElem?_set] at hat'
        by_cases e : id = id'
        · subst e
          rw [if_pos rfl] at hat'
          split at hat'
          · rcases leave_get hp hat' with ⟨_, _, c0, _, e⟩ | ⟨_, e⟩
            · exact absurd e.symm leaveC_not_own
            · rw [hs]; exact e
          · cases hat'
        · rw [if_neg e] at hat'; exact hat'
  have hle : ∀ lc, Le ⟨false, lc⟩ w g w (relabel F g) := by
    intro lc
    refine ⟨Nat.le_refl _, fun b _ h => ⟨rfl, ?_, rfl⟩, fun _ h1 h2 => absurd h2 (by omega), fun b _ h => ?_, Nat.le_refl _, fun _ _ => rfl, rfl, rfl, rfl⟩
    · rcases h with h | h | ⟨h, _⟩ | ⟨t, _, h⟩
      · simp [relabel, h]
      · simp [relabel, h]
      · cases h
      · rw [relabel_own h, h]; rfl
    · cases hb : g.own b with
      | ext => rfl
      | shared => simp [relabel, hb] at h
      | itr => simp [relabel, hb] at h
      | pth r π =>
        rw [relabel_own hb] at h
        change Fmv _ _ _ _ _ = _ at h
        unfold Fmv at h
        split at h
        · split at h
          · cases h
          · split at h <;> cases h
        · split at h <;> cases h
  exact ⟨vs, hvs, h2, relabel F g, ⟨rfl, fun _ => rfl, fun _ => rfl, fun _ => rfl⟩, R1, hle⟩
theorem toldL_obj_take {o : Oper} {ty x} (ho : o.op = .load ty x) (R : Rel s [] a w g) (hd : ∀ d, o.dst = some d → d < a.tmps.size) {agg n id off m cs p tv}
    (ha : isAggT X.P ty = some agg) (hn : szOf X.P ty = some n) (hx : opnd X.P s 0 x = some (.one m (.ptr (.at id off)))) (hs : s.h[id]? = some cs) (hp : cellsAt cs off n = some p)
    (ht : mkT agg p = some tv) : ToldL X ⟨false, lc⟩ o a w g (setT ({ s with h := s.h.set id (setAt cs off (p.map leaveC)) }.kill isBh noAV) o.dst tv) (g.φ id) off n := by
  obtain ⟨r, _, hr⟩ := R.val hx
  obtain ⟨vs, hvs, h2, g1, _, R1, hle⟩ := R.takeObj hs hp ht
  obtain ⟨g', k1, k2⟩ := R1.finish ⟨false, lc⟩ hd
  refine ⟨_, g', fun w' hw => ?_, k1, (hle lc).trans k2⟩
  unfold execOp; rw [ho]
  simp only [Sem.run_bind, Instr.loadAt, hr.one.obj.1, ptr, Instr.sureAddr, pure_bind]
  rw [run_loadVar ha hn h2 fun j hj => (hw j hj).trans (hvs j hj)]
  rfl
end
end Go.Proofs.Abs
/- Slices of slices, of strings. -/
namespace Go.Proofs.Abs
open Go
set_option linter.unusedVariables false

section
variable {X : Cx} {pu : Pu} {s s' : St} {a : Act} {w : World} {g : Gh}

theorem bound_ok {P : Program} {fl s0} {d hi n : Nat} {x : Option Operand} {y : Nat} {c} (R : Rel s0 fl a w g) (h : bound P s0 d hi x = some n) (hy : hi ≤ y) (hd : x = none → d ≤ hi) :
    n ≤ hi ∧ ∀ w', (∀ v, x = some v → (Instr.sliceBound (a.eval v) y c).run P w' = .ok n w') ∧ (x = none → n = d) := by
  unfold bound at h
  cases x with
  | none => cases h; exact ⟨hd rfl, fun w' => ⟨fun v hv => (by cases hv), fun _ => rfl⟩⟩
  | some x =>
    simp only [Option.bind_eq_some_iff] at h
    obtain ⟨v, hv, k, hk, hc⟩ := h
    split at hc
    · rename_i hb
      cases hc
      obtain ⟨r, _, hr⟩ := R.val hv
      have he : ∃ kk, a.eval x = .int kk k := by
        unfold natOf at hk
        split at hk
        · cases hk; exact ⟨_, hr.one.int⟩
        · cases hk
      obtain ⟨kk, he⟩ := he
      refine ⟨by omega, fun w' => ⟨fun v hv => ?_, fun h => (by cases h)⟩⟩
      cases hv
      simp [Instr.sliceBound, he, asIntOf, hb.1, show k ≤ (y : Int) by omega]
    · cases hc
/-- both bounds, as the model tells them -/
theorem bounds_ok {P : Program} {fl s0} {isS : Bool} {len cap l h : Nat} {lo hi : Option Operand} (R : Rel s0 fl a w g) (hl : bound P s0 0 len lo = some l) (hh : bound P s0 len len hi = some h) (hlh : l ≤ h) (hc : len ≤ cap) (w' : World) :
    (Instr.sliceBounds isS len cap (lo.map a.eval) (hi.map a.eval) none).run P w' = .ok (l, h, cap) w' := by
  obtain ⟨h1, h2⟩ := bound_ok (c := if isS then .sliceAcap else .sliceAlen) R hh hc (fun _ => Nat.le_refl _)
  obtain ⟨h2a, h2b⟩ := h2 w'
  have hlo : ∀ v, lo = some v → (Instr.sliceBound (a.eval v) h .sliceB).run P w' = .ok l w' := fun v hv => by
    subst hv
    unfold bound at hl
    simp only [Option.bind_eq_some_iff] at hl
    obtain ⟨tv, hv, k, hk, hc⟩ := hl
    split at hc
    · rename_i hb
      cases hc
      obtain ⟨r, _, hr⟩ := R.val hv
      have he : ∃ kk, a.eval v = .int kk k := by
        unfold natOf at hk
        split at hk
        · cases hk; exact ⟨_, hr.one.int⟩
        · cases hk
      obtain ⟨kk, he⟩ := he
      simp [Instr.sliceBound, he, asIntOf, hb.1, show k ≤ (h : Int) by omega]
    · cases hc
  have hlo0 : lo = none → l = 0 := fun e => by subst e; cases hl; rfl
  unfold Instr.sliceBounds
  cases hi with
  | none =>
    obtain rfl := h2b rfl
    cases lo with
    | none => obtain rfl := hlo0 rfl; simp
    | some lv => simp [hlo lv rfl]
  | some hv =>
    cases lo with
    | none => obtain rfl := hlo0 rfl; simp [h2a hv rfl]
    | some lv => simp [h2a hv rfl, hlo lv rfl]

theorem subF_inv {lo hi : Option Nat} {k q} (h : subF lo hi k = some q) : ∃ l u, lo = some l ∧ hi = some u ∧ l ≤ u ∧ k l u = some q := by
  unfold subF at h
  split at h
  · split at h
    · exact ⟨_, _, rfl, rfl, ‹_›, h⟩
    · cases h
  · cases h

def Fsh (l : Nat) (r : Rk) (π : List Nat) : Ow :=
  match r, π with
  | .lim 0, 0 :: i :: ρ => if l ≤ i then .pth (.lim 0) (0 :: (i - l) :: ρ) else .shared
  | r, π => .pth r π
theorem Fsh_side (l) : keepsSide (Fsh l) := by
  intro r π
  unfold Fsh
  split
  · split
    · exact .inr ⟨_, _, rfl, rfl⟩
    · exact .inl rfl
  · exact .inr ⟨_, _, rfl, rfl⟩
def setFr (g : Gh) (b e : Nat) : Gh := { g with fr := fun b' => if b' = b then e else g.fr b' }
theorem chg_setFr {b e r0 π0} (h : g.own b = .pth r0 π0) : Chg (fun r π => r ≠ r0 ∨ ¬(π <+: π0)) false false w g w (setFr g b e) := by
  refine ⟨Nat.le_refl _, Nat.le_refl _, fun _ _ => rfl, fun r π ρ h => h.imp id fun h hp => h ((List.prefix_append π ρ).trans hp), fun _ _ _ => ⟨rfl, fun _ _ => rfl⟩, fun b' r π _ h' hu => ⟨h', ?_, fun _ _ => rfl, fun _ h => h⟩, fun h => by (cases h), fun h => by (cases h), fun h => by (cases h)⟩
  show (if b' = b then e else g.fr b') = _
  split
  · rename_i he
    subst he
    rw [h] at h'
    cases h'
    rcases hu with hu | hu
    · exact absurd rfl hu
    · exact absurd (List.prefix_refl _) hu
  · rfl

/-- a slice of a list is a list whose elements are shifted -/
theorem sub_get {xs : List (List AV)} {l h i : Nat} {x} (hx : ((xs.take h).drop l)[i]? = some x) : l + i < h ∧ xs[l + i]? = some x := by
  rw [List.getElem?_drop, List.getElem?_take] at hx
  split at hx
  · exact ⟨‹_›, hx⟩
  · cases hx
theorem sub_length {xs : List (List AV)} {l h : Nat} (hh : h ≤ xs.length) (hl : l ≤ h) : ((xs.take h).drop l).length = h - l := by simp; omega

/-- the value of a slice's slice -/
def subVal (b o z l h cap : Nat) : Value := .slice (some (if cap = l then ⟨b, o, none⟩ else ⟨b, o + l * z, none⟩)) (h - l) (cap - l)

theorem sub_lent {m : Md} {z xs b o cap l h} {r : Rk} {π} (k : SlAt w g m r π z xs b o cap) (hh : h ≤ xs.length) (hl : l ≤ h) (hm : m.owned = false) (r' π') : KC w g m r' π' (.sl z ((xs.take h).drop l)) (subVal b o z l h cap) := by
  have hlen := sub_length (xs := xs) hh hl
  have hmul : ∀ i, (l + i) * z = l * z + i * z := fun i => Nat.add_mul _ _ _
  have hle : h * z ≤ xs.length * z := Nat.mul_le_mul_right z hh
  have hlh : l * z + (h - l) * z = h * z := by rw [← Nat.add_mul]; congr 1; omega
  obtain ⟨o', ho'⟩ : ∃ o', o' = if cap = l then o else o + l * z := ⟨_, rfl⟩
  have hv : subVal b o z l h cap = .slice (some ⟨b, o', none⟩) ((xs.take h).drop l).length (cap - l) := by
    unfold subVal; rw [hlen, ho']; split <;> rfl
  rw [hv]
  have hoff : h = l ∨ o' = o + l * z := by
    rw [ho']
    split
    · rename_i e; have := k.hcap; left; omega
    · exact .inr rfl
  have he : o' + (h - l) * z ≤ o + xs.length * z := by
    rcases hoff with e | e
    · subst e; rw [ho']; simp; split <;> omega
    · rw [e]; omega
  refine (KC.sl (r := r) (π := π) (fun i j => (cel w b (o' + i * z + j)).getD undef) k.hb ?_ (fun x hx => k.hz x (List.mem_of_mem_take (List.mem_of_mem_drop hx))) (by rw [hlen]; have := k.hcap; omega) (fun h => by rw [hm] at h; cases h) (fun i x j c hx hc => ?_) (fun i x j c hx hc => ?_)).anywhere hm _ _
  · rw [hlen]
    cases m with
    | top => exact k.hok.elim
    | own d => cases d with
      | zero => exact k.hok
      | succ d => cases hm
    | ro => exact k.hok
    | bl =>
      rcases k.hok with h | h | ⟨r0, π0, h1, h2, h3⟩
      · exact .inl h
      · exact .inr (.inl h)
      · exact .inr (.inr ⟨r0, π0, h1, h2, Nat.le_trans he h3⟩)
    | bh =>
      rcases k.hok with h | ⟨r0, π0, h1, h2, h3⟩
      · exact .inl h
      · exact .inr ⟨r0, π0, h1, h2, Nat.le_trans he h3⟩
  · obtain ⟨e1, e2⟩ := sub_get hx
    obtain ⟨v, e3, _⟩ := k.cell _ x j c e2 hc
    have eo : o' = o + l * z := hoff.resolve_left (by omega)
    have : o' + i * z + j = o + (l + i) * z + j := by rw [eo, hmul]; omega
    show cel w b _ = some ((cel w b _).getD undef)
    rw [this, e3]; rfl
  · obtain ⟨e1, e2⟩ := sub_get hx
    obtain ⟨v, e3, e4⟩ := k.cell _ x j c e2 hc
    have eo : o' = o + l * z := hoff.resolve_left (by omega)
    have : o' + i * z + j = o + (l + i) * z + j := by rw [eo, hmul]; omega
    show KC w g m.inner r (π ++ [i, j]) c ((cel w b _).getD undef)
    rw [this, e3]
    exact e4.anywhere (by cases hmi : m.inner.owned with
      | false => rfl
      | true => rw [Md.inner_owned hmi] at hm; cases hm) _ _
/-- one's own slice is cut, and has so much room -/
theorem Rel.cutG {m : Md} {z xs b o cap l h o' cap'} {v0 : Value} (pu : Pu) (R : Rel s [(.one m (.sl z xs), v0)] a w g) (k : SlAt w g m (.lim 0) [0] z xs b o cap) (hh : h ≤ xs.length) (hl : l ≤ h) (hm : m.owned = true)
    (hc1 : h - l ≤ cap') (hc2 : l + cap' ≤ cap) (ho : cap' = 0 ∨ o' = o + l * z) :
    ∃ g', Rel (s.kill isB noAV) [(.one m (.sl z ((xs.take h).drop l)), .slice (some ⟨b, o', none⟩) (h - l) cap')] a w g' ∧ Le pu w g w g' ∧ Same g g' := by
  have hlen := sub_length (xs := xs) hh hl
  have hmul : ∀ i, (l + i) * z = l * z + i * z := fun i => Nat.add_mul _ _ _
  have hle : h * z ≤ xs.length * z := Nat.mul_le_mul_right z hh
  have hlh : l * z + (h - l) * z = h * z := by rw [← Nat.add_mul]; congr 1; omega
  have hv : (.slice (some ⟨b, o', none⟩) (h - l) cap' : Value) = .slice (some ⟨b, o', none⟩) ((xs.take h).drop l).length cap' := by rw [hlen]
  have hoff : h = l ∧ cap' = 0 ∨ o' = o + l * z := by
    rcases ho with e | e
    · exact .inl ⟨by omega, e⟩
    · exact .inr e
  have hF := Fsh_side l
  obtain ⟨d, rfl⟩ : ∃ d, m = .own (d + 1) := by
    cases m with
    | own d => cases d with
      | zero => cases hm
      | succ d => exact ⟨d, rfl⟩
    | _ => cases hm
  obtain ⟨hown, hfr⟩ := k.hok
  have hown1 : (relabel (Fsh l) g).own b = .pth (.lim 0) [0] := by rw [relabel_own hown]; rfl
  let g1 := setFr (relabel (Fsh l) g) b (o' + (h - l) * z)
  have C1 : Chg (fun r π => ∀ ρ, Fsh l r (π ++ ρ) = .pth r (π ++ ρ)) true true w g w (relabel (Fsh l) g) := chg_relabel hF
  have C2 : Chg (fun r π => r ≠ Rk.lim 0 ∨ ¬(π <+: [0])) false false w (relabel (Fsh l) g) w g1 := chg_setFr hown1
  have R1 : Rel (s.kill isB noAV) [] a w (relabel (Fsh l) g) := by
    have R0 := (R.forget (fl := [])).kill isB noAV
    exact ⟨R0.n, fun i y hi => by simp at hi, fun t tv ht => (R0.tm t tv ht).kept hF fun π => rfl, fun t cs ht => (R0.bx t cs ht).kept hF fun π => rfl,
      fun id cs hi => (R0.hp id cs hi).kept hF (by rw [R0.n]; exact (List.getElem?_eq_some_iff.1 hi).1) fun π => rfl, R0.hd⟩
  have hno : NoMd isB (s.kill isB noAV) := noMd_kill rfl
  have nob : ∀ c : MC, isB c.1 = false → c.2.lent isB = false → ∀ r π, r ≠ Rk.lim 0 → cellOk (fun r π => r ≠ Rk.lim 0 ∨ ¬(π <+: [0])) false false (relabel (Fsh l) g) g1 r π c := fun c h1 h2 r π hr =>
    cellOk_no (p := isB) (.inl hr) (fun _ => rfl) (fun _ => rfl) (.inr rfl) (.inr rfl) h1 h2
  refine ⟨g1, ⟨R1.n, fun i y hi => ?_, fun t tv ht => (R1.tm t tv ht).chg C2 fun c hc π => nob c (hno.1 t tv ht c hc).1 (hno.1 t tv ht c hc).2 _ _ (by simp),
    fun t cs ht => (R1.bx t cs ht).chg C2 rfl (.inl (by simp)) fun c hc π => nob c (hno.2 t cs ht c hc).1 (hno.2 t cs ht c hc).2 _ _ (by simp),
    fun id cs hi => (R1.hp id cs hi).chg C2 (by rw [R1.n]; exact (List.getElem?_eq_some_iff.1 hi).1) (fun π => .inl (by simp)), R1.hd⟩, (le_relabel hF pu (fun id π => rfl) fun _ t => rfl).trans ?_, ⟨rfl, fun _ => rfl, fun _ => rfl, fun _ => rfl⟩⟩
  · cases i with
    | succ i => simp at hi
    | zero =>
      simp at hi
      subst hi
      show RC w g1 (.own (d + 1)) (.lim 0) [0] (.sl z _) _
      rw [hv]
      have hcell : ∀ i x j c, ((xs.take h).drop l)[i]? = some x → x[j]? = some c → ∃ v, cel w b (o' + i * z + j) = some v ∧ KC w g1 (Md.own (d + 1)).inner (.lim 0) ([0] ++ [i, j]) c v := by
        intro i x j c hx hc
        obtain ⟨e1, e2⟩ := sub_get hx
        obtain ⟨v, e3, e4⟩ := k.cell _ x j c e2 hc
        have eo : o' = o + l * z := hoff.resolve_left (by omega)
        have : o' + i * z + j = o + (l + i) * z + j := by rw [eo, hmul]; omega
        refine ⟨v, by rw [this]; exact e3, ?_⟩
        have e5 : KC w (relabel (Fsh l) g) (Md.own (d + 1)).inner (.lim 0) ([0] ++ [i, j]) c v := e4.moved hF fun _ ρ => by
          show Fsh l (.lim 0) (0 :: (l + i) :: (j :: ρ)) = _
          simp [Fsh]
        refine e5.chg C2 (fun _ => .inr (fun hp => ?_)) (fun e => by cases e) (fun e => by cases e)
        have := hp.length_le
        simp at this
      refine .inl (.sl (fun i j => (cel w b (o' + i * z + j)).getD undef) k.hb ⟨hown1, ?_⟩ (fun x hx => k.hz x (List.mem_of_mem_take (List.mem_of_mem_drop hx))) (by rw [hlen]; exact hc1) (fun _ j hj => ?_) (fun i x j c hx hc => ?_) (fun i x j c hx hc => ?_))
      · show (if b = b then _ else _) = _
        rw [if_pos rfl, hlen]
      · rcases hoff with ⟨e, e'⟩ | e
        · rw [e', Nat.zero_mul] at hj; omega
        · have : cap' * z + l * z ≤ cap * z := by rw [← Nat.add_mul]; exact Nat.mul_le_mul_right z (by omega)
          rw [e, Nat.add_assoc]
          exact k.room rfl _ (by omega)
      · obtain ⟨v, e1, _⟩ := hcell i x j c hx hc
        show _ = some ((cel w b _).getD undef)
        rw [e1]; rfl
      · obtain ⟨v, e1, e2⟩ := hcell i x j c hx hc
        show KC _ _ _ _ _ _ ((cel w b _).getD undef)
        rw [e1]; exact e2
  · refine ⟨Nat.le_refl _, fun b' _ hs => ⟨rfl, rfl, ?_⟩, fun _ h1 h2 => absurd h2 (by omega), fun _ _ h => h, Nat.le_refl _, fun _ _ => rfl, rfl, rfl, rfl⟩
    show (if b' = b then _ else _) = _
    split
    · rename_i e; subst e
      rw [hown1] at hs
      rcases hs with h | h | ⟨_, id, π, h⟩ | ⟨t, _, h⟩ <;> cases h
    · rfl

/-- one's own slice is cut -/
theorem Rel.cut {m : Md} {z xs b o cap l h} (pu : Pu) (R : Rel s [(.one m (.sl z xs), .slice (some ⟨b, o, none⟩) xs.length cap)] a w g) (k : SlAt w g m (.lim 0) [0] z xs b o cap) (hh : h ≤ xs.length) (hl : l ≤ h) (hm : m.owned = true) :
    ∃ g', Rel (s.kill isB noAV) [(.one m (.sl z ((xs.take h).drop l)), subVal b o z l h cap)] a w g' ∧ Le pu w g w g' := by
  have hcap := k.hcap
  obtain ⟨g', h1, h2, _⟩ := Rel.cutG (o' := if cap = l then o else o + l * z) (cap' := cap - l) pu R k hh hl hm (by omega) (by omega) (by
    by_cases e : cap = l
    · exact .inl (by omega)
    · exact .inr (by rw [if_neg e]))
  refine ⟨g', ?_, h2⟩
  have : subVal b o z l h cap = .slice (some ⟨b, if cap = l then o else o + l * z, none⟩) (h - l) (cap - l) := by
    unfold subVal; split <;> rfl
  rw [this]; exact h1

theorem told_slice {o : Oper} {t x lo hi} (ho : o.op = .slice t x lo hi none) (R : Rel s [] a w g) (hd : ∀ d, o.dst = some d → d < a.tmps.size)
    (h : setQ o.dst (sliceF X.P t lo hi (used s x) (opnd X.P s 0 x)) = some s') : Told X pu o a w g s' := by
  obtain ⟨v, s1, h1, rfl⟩ := setQ_inv h
  cases hx : opnd X.P s 0 x with
  | none => rw [hx] at h1; cases h1
  | some tv =>
    rw [hx] at h1
    change evSlice X.P t tv lo hi (used s x) = some (v, s1) at h1
    obtain ⟨g1, R1, L1⟩ := R.opnd pu hx
    simp only [List.nil_append] at R1
    have hr : RT w g1 (.lim 0) tv (a.eval x) := R1.fl 0 _ rfl
    have R0 := R1.forget (fl := [])
    unfold evSlice at h1
    split at h1
    · rename_i m b hu
      obtain ⟨l, u, e1, e2, e3, e4⟩ := subF_inv h1
      cases e4
      obtain ⟨g2, k1, k2⟩ := R0.tell pu hd (c := .str (b.extract l u)) (v := .string (b.extract l u)) fun _ _ => .inl .str
      refine ⟨_, g2, fun w' => ?_, k1, L1.trans k2⟩
      unfold execOp; rw [ho]
      have := hr.one.str
      simp [Instr.sliceAt, Instr.slice, run_underlying' hu, this, bounds_ok R0 e1 e2 e3 (Nat.le_refl _) w']
    · rename_i e m z xs hu
      split at h1
      · rename_i hz
        obtain ⟨l, u, e1, e2, e3, e4⟩ := subF_inv h1
        cases e4
        have hul : u ≤ xs.length := (bound_ok (c := .sliceB) R0 e2 (Nat.le_refl _) (fun _ => Nat.le_refl _)).1
        rcases (RC.sl hr.one).sl_inv with ⟨k1, k2, k3⟩ | ⟨b, o', cap, k1, k2⟩ | ⟨k1, ⟨a0, cap, k2⟩, k3, k4⟩
        rotate_left 2
        · subst k1
          obtain rfl : u = 0 := by simpa using hul
          obtain rfl : l = 0 := by omega
          rw [if_neg (by rw [k4]; simp)]
          have run : ∃ a1 c1, ∀ w', (execOp a.eval o).run X.P w' = .ok (.value (.slice (some a1) 0 c1)) w' := by
            have hb := fun w' => bounds_ok (isS := true) (cap := cap) R0 e1 e2 e3 (Nat.zero_le _) w'
            simp only [List.length_nil] at hb
            by_cases hc : cap = 0
            · refine ⟨a0, 0, fun w' => ?_⟩
              subst hc
              unfold execOp; rw [ho]
              simp [Instr.sliceAt, Instr.slice, run_underlying' hu, k2, hb, run_sizeOf' hz.1]
            · refine ⟨a0.add (0 * z), cap - 0, fun w' => ?_⟩
              unfold execOp; rw [ho]
              simp [Instr.sliceAt, Instr.slice, run_underlying' hu, k2, hb, run_sizeOf' hz.1, hc]
          obtain ⟨a1, c1, run⟩ := run
          have Rk : Rel (used s x) [(.one m (.sl z []), .slice (some a1) 0 c1)] a w g1 := R0.push (.inl (.emp k3 k4))
          obtain ⟨g2, q1, q2⟩ := Rk.finish pu hd
          exact ⟨_, g2, run, q1, L1.trans q2⟩
        · subst k1
          obtain rfl : u = 0 := by simpa using hul
          obtain rfl : l = 0 := by omega
          have hn : KC w g1 m (.lim 0) [0] (.sl z []) (.slice none 0 0) := .nil k3
          have Rk : Rel (if m.owned then (used s x).kill isB noAV else used s x) [(.one m (.sl z []), .slice none 0 0)] a w g1 := by
            rw [k2] at R1
            split
            · exact R1.kill _ _
            · exact R1
          obtain ⟨g2, q1, q2⟩ := Rk.finish pu hd
          refine ⟨_, g2, fun w' => ?_, q1, L1.trans q2⟩
          unfold execOp; rw [ho]
          have hb := bounds_ok (isS := true) R0 e1 e2 e3 (Nat.le_refl _) w'
          simp only [List.length_nil] at hb
          simp [Instr.sliceAt, Instr.slice, run_underlying' hu, k2, hb, run_sizeOf' hz.1]
        · have Rk : ∃ g2, Rel (if m.owned then (used s x).kill isB noAV else used s x) [(.one m (.sl z ((xs.take u).drop l)), subVal b o' z l u cap)] a w g2 ∧ Le pu w g1 w g2 := by
            rw [k1] at R1
            split
            · rename_i hm
              exact Rel.cut pu R1 k2 hul e3 hm
            · rename_i hm
              exact ⟨g1, R0.push (sub_lent k2 hul e3 (by simpa using hm) _ _ |> .inl), .refl _ _ _⟩
          obtain ⟨g2, R2, L2⟩ := Rk
          obtain ⟨g3, q1, q2⟩ := R2.finish pu hd
          refine ⟨_, g3, fun w' => ?_, q1, (L1.trans L2).trans q2⟩
          unfold execOp; rw [ho]
          simp [Instr.sliceAt, Instr.slice, run_underlying' hu, k1, bounds_ok (isS := true) R0 e1 e2 e3 k2.hcap w', run_sizeOf' hz.1, subVal, add_mk]
          split <;> rfl
      · cases h1
    · rename_i e m q lo0 n hu
      split at h1
      · rename_i z d z' xs hz hat
        split at h1
        · rename_i hc
          obtain ⟨rfl, hlen⟩ := hc
          obtain ⟨l, u, e1, e2, e3, e4⟩ := subF_inv h1
          cases e4
          have hul : u ≤ n := (bound_ok (c := .sliceB) R0 e2 (Nat.le_refl _) (fun _ => Nat.le_refl _)).1
          rcases hr.one with h | h
          · cases h
          · generalize hv : a.eval x = v at h
            cases h with
            | @at_ _ _ _ a0 cap hcap h hx =>
              have hval : ∀ r π, RC w g1 .top r π (.at_ q (lo0 + l) (u - l)) (.slice (if cap = l then a0 else a0.map (·.add (l * z))) (u - l) (cap - l)) := fun r π => by
                refine .inr (.at_ (by omega) (fun hp => ?_) ?_)
                · obtain ⟨b, o', cap', f1, f2, f3⟩ := R0.rootAt hat (by intro h; subst h; simp at hlen; omega)
                  rw [if_neg (by omega), h (by omega), f2]
                  simp [add_mk, Nat.add_mul, Nat.add_assoc]
                · rcases hx with ⟨rfl, rfl⟩ | ⟨o', rfl, x2, x3⟩
                  · exact .inl ⟨by split <;> rfl, by omega⟩
                  · right
                    by_cases ec : cap = l
                    · exact ⟨o', by rw [if_pos ec], by omega, .inl (by omega)⟩
                    · rw [if_neg ec]
                      have x3 := x3.resolve_left (by omega)
                      refine ⟨o' + l * z, by simp [add_mk], by omega, .inr ?_⟩
                      by_cases hl0 : l = 0
                      · subst hl0; simp [x3]
                      · obtain ⟨b, o1, cap', f1, f2, f3⟩ := R0.rootAt hat (by intro h; subst h; simp at hlen; omega)
                        rw [x3, f2]
                        simp [Nat.add_mul, Nat.add_assoc]
              obtain ⟨g2, k1, k2⟩ := R0.tell pu hd hval
              refine ⟨_, g2, fun w' => ?_, k1, L1.trans k2⟩
              unfold execOp; rw [ho]
              simp [Instr.sliceAt, Instr.slice, run_underlying' hu, hv, bounds_ok (isS := true) R0 e1 e2 e3 hcap w', run_sizeOf' hz]
        · cases h1
      · cases h1
    · cases h1
end
end Go.Proofs.Abs
/- Operations that make memory. -/
namespace Go.Proofs.Abs
open Go
set_option linter.unusedVariables false

section
variable {X : Cx} {pu : Pu} {s s' : St} {a : Act} {w : World} {g : Gh}

theorem Rel.all {U : Rk → List Nat → Prop} {w' g'} {fl} (C : Chg U true true w g w' g') (R : Rel s fl a w g) (hU : ∀ r π, U r π) (hn : g'.n = g.n) (hψ : ∀ t, g'.ψ t = g.ψ t) (hd : ∀ q, g'.hd q = g.hd q) : Rel s fl a w' g' := by
  refine ⟨hn.trans R.n, fun i x hi => (R.fl i x hi).chg C fun c _ π => cellOk_all (hU _ _) hd hψ, fun t tv ht => (R.tm t tv ht).chg C fun c _ π => cellOk_all (hU _ _) hd hψ,
    fun t cs ht => (R.bx t cs ht).chg C (hψ t) (hU _ _) fun c _ π => cellOk_all (hU _ _) hd hψ, fun id cs hi => (R.hp id cs hi).chg C (by rw [R.n]; exact (List.getElem?_eq_some_iff.1 hi).1) (fun _ => hU _ _), fun r d z xs hr b o sp len cap hv => ?_⟩
  rw [hd]
  refine R.hd r d z xs hr b o sp len cap ?_
  cases r with
  | obj id off =>
    change cellOf off (s.h[id]?) = _ at hr
    cases hs : s.h[id]? with
    | none => rw [hs] at hr; cases hr
    | some cs =>
      rw [hs] at hr
      have hB := R.hp id cs hs
      obtain ⟨v, h1, h2, h3⟩ := hB.cell off _ hr
      obtain ⟨_, _, k3, _⟩ := C.un _ _ _ hB.blk hB.own (hU _ _)
      change cel w' (g'.φ id) off = _ at hv
      rw [C.ids id (by rw [R.n]; exact (List.getElem?_eq_some_iff.1 hs).1), k3 off (by rw [h1]; rfl)] at hv
      exact hv
  | loc t off =>
    change cellOf off (find t s.l) = _ at hr
    cases hs : find t s.l with
    | none => rw [hs] at hr; cases hr
    | some cs =>
      rw [hs] at hr
      have hB := R.bx t cs hs
      obtain ⟨v, h1, h2, h3⟩ := hB.cell off _ hr
      obtain ⟨_, _, k3, _⟩ := C.un _ _ _ hB.blk hB.own (hU _ _)
      change cel w' (g'.ψ t) off = _ at hv
      rw [hψ, k3 off (by rw [h1]; rfl)] at hv
      exact hv
  | tmp t => exact hv

/-! ### a new block -/
def withBlk (g : Gh) (b : Nat) (o : Ow) (e : Nat) : Gh := { g with own := fun b' => if b' = b then o else g.own b', fr := fun b' => if b' = b then e else g.fr b' }
theorem withBlk_own {b o e b'} (h : b' ≠ b) : (withBlk g b o e).own b' = g.own b' := by simp [withBlk, h]
theorem withBlk_fr {b o e b'} (h : b' ≠ b) : (withBlk g b o e).fr b' = g.fr b' := by simp [withBlk, h]
theorem cel_alloc {o : Obj} {b i : Nat} (h : b < w.heap.size) : cel (w.alloc o) b i = cel w b i := World.cell?_alloc_lt (w := w) (o := o) (a := ⟨b, i, none⟩) h
theorem free_alloc {o : Obj} {b i : Nat} (h : b < w.heap.size) (hf : free w b i) : free (w.alloc o) b i :=
  ⟨by rw [cel_alloc h]; exact hf.1, by rw [World.frozen?_alloc_old (w := w) (o := o) (a := ⟨b, i, none⟩) (Nat.ne_of_lt h)]; exact hf.2⟩
theorem heap_alloc (o : Obj) : (w.alloc o).heap.size = w.heap.size + 1 := by show (w.heap.push o).size = _; simp
theorem chg_alloc (ob : Obj) (o : Ow) (e : Nat) : Chg (fun _ _ => True) true true w g (w.alloc ob) (withBlk g w.heap.size o e) := by
  refine ⟨by rw [heap_alloc]; omega, Nat.le_refl _, fun _ _ => rfl, fun _ _ _ h => h, fun b hb h => ⟨withBlk_own (by omega), fun i _ => cel_alloc hb⟩,
    fun b r π hb h _ => ⟨by rw [withBlk_own (by omega)]; exact h, withBlk_fr (by omega), fun i _ => cel_alloc hb, fun i hf => free_alloc hb hf⟩,
    fun _ b r π hb h hr => ⟨.inr ⟨r, π, by rw [withBlk_own (by omega)]; exact h, hr, by rw [withBlk_fr (by omega)]; exact Nat.le_refl _⟩, fun i _ _ => cel_alloc hb⟩,
    fun _ b r π hb h hr => ⟨.inr ⟨r, π, by rw [withBlk_own (by omega)]; exact h, hr, by rw [withBlk_fr (by omega)]; exact Nat.le_refl _⟩, fun i _ _ => cel_alloc hb⟩,
    fun _ _ b hb h => ⟨by rw [withBlk_own (by omega)]; exact h, by show (w.heap.push ob)[b]? = _; rw [Array.getElem?_push, if_neg (by omega)]⟩⟩
theorem le_alloc (pu : Pu) (ob : Obj) (o : Ow) (e : Nat) (ho : o ≠ .ext) : Le pu w g (w.alloc ob) (withBlk g w.heap.size o e) := by
  refine ⟨by rw [heap_alloc]; omega, fun b hb _ => ⟨?_, withBlk_own (by omega), withBlk_fr (by omega)⟩, fun b h1 h2 => ?_, fun b hb h => ?_, Nat.le_refl _, fun _ _ => rfl, rfl, rfl, rfl⟩
  · show (w.heap.push ob)[b]? = _
    rw [Array.getElem?_push, if_neg (by omega)]
  · rw [heap_alloc] at h2
    obtain rfl : b = w.heap.size := by omega
    simpa [withBlk] using ho
  · rw [withBlk_own (by omega)] at h; exact h
theorem cel_new {C : Array Value} {ty : TypeId} {i : Nat} : cel (w.alloc (.cells C ty)) w.heap.size i = C[i]? := World.cell?_alloc_new w C ty i
theorem free_new {C : Array Value} {ty : TypeId} {i : Nat} (h : i < C.size) : free (w.alloc (.cells C ty)) w.heap.size i :=
  ⟨by rw [cel_new]; simp [h], World.frozen?_alloc_new w C ty i⟩

/-- a slice of its own in a new block -/
theorem KC.newSl {z d cap : Nat} {xs : List (List AV)} {C : Array Value} {ty : TypeId} (hz : ∀ x, x ∈ xs → x.length = z) (hC : C.size = cap * z) (hcap : xs.length ≤ cap)
    (h : ∀ i x j c, xs[i]? = some x → x[j]? = some c → ∃ v, C[i * z + j]? = some v ∧ KC w g (.own d) (.lim 0) [0, i, j] c v) :
    KC (w.alloc (.cells C ty)) (withBlk g w.heap.size (.pth (.lim 0) [0]) (xs.length * z)) (.own (d + 1)) (.lim 0) [0] (.sl z xs) (.slice (some ⟨w.heap.size, 0, none⟩) xs.length cap) := by
  refine .sl (fun i j => (C[i * z + j]?).getD undef) (by rw [heap_alloc]; omega) ⟨by simp [withBlk], by simp [withBlk]⟩ hz hcap (fun _ j hj => ?_) (fun i x j c hx hc => ?_) (fun i x j c hx hc => ?_)
  · rw [Nat.zero_add]; exact free_new (by rw [hC]; exact hj)
  · obtain ⟨v, h1, h2⟩ := h i x j c hx hc
    rw [Nat.zero_add, cel_new, h1]; rfl
  · obtain ⟨v, h1, h2⟩ := h i x j c hx hc
    rw [h1]
    exact h2.chg (chg_alloc _ _ _) (fun _ => trivial) (fun e => by cases e) (fun e => by cases e)

/-! ### what an operation that acts has to show -/
def Acts (X : Cx) (pu : Pu) (o : Oper) (a : Act) (w : World) (g : Gh) (s' : St) : Prop :=
  ∃ v w' g', (execOp a.eval o).run X.P w = .ok (.value v) w' ∧ Rel s' [] (a.put o.dst v) w' g' ∧ Le pu w g w' g'
theorem Told.acts {o : Oper} (h : Told X pu o a w g s') : Acts X pu o a w g s' := by
  obtain ⟨v, g', h1, h2, h3⟩ := h
  exact ⟨v, w, g', h1 w, h2, h3⟩
theorem ToldL.acts {o : Oper} {b o' n} (h : ToldL X pu o a w g s' b o' n) : Acts X pu o a w g s' := by
  obtain ⟨v, g', h1, h2, h3⟩ := h
  exact ⟨v, w, g', h1 w fun _ _ => rfl, h2, h3⟩

/-! ### boxes -/
def hdOf (cs : List MC) (vals : Array Value) (off : Nat) : Nat × Nat × Nat × Nat :=
  match cs[off]?, vals[off]? with
  | some (_, .sl z _), some (.slice (some a) _ cap) => (a.block, a.off, z, cap)
  | _, _ => (0, 0, 0, 0)
theorem hdOf_eq {cs : List MC} {vals : Array Value} {off m z xs b o sp len cap} (h1 : cs[off]? = some (m, .sl z xs)) (h2 : vals[off]? = some (.slice (some ⟨b, o, sp⟩) len cap)) : hdOf cs vals off = (b, o, z, cap) := by
  simp [hdOf, h1, h2]
def Fbox (d : Nat) (r : Rk) (π : List Nat) : Ow := if r = .lim 0 then .pth (.loc d) π else if r = .loc d then .shared else .pth r π
theorem Fbox_side (d) : keepsSide (Fbox d) := by
  intro r π
  unfold Fbox
  split
  · rename_i h; subst h; exact .inr ⟨_, _, rfl, rfl⟩
  · split
    · exact .inl rfl
    · exact .inr ⟨_, _, rfl, rfl⟩
theorem Fbox_keep {d r} (h1 : r ≠ .lim 0) (h2 : r ≠ .loc d) (π) : Fbox d r π = .pth r π := by simp [Fbox, h1, h2]
/-- the cells of a value on its way, as a struct's -/
theorem Rel.asCells {tv v} (R : Rel s [(tv, v)] a w g) (hn : noTup tv = true) : Rel s [(.agg tv.cells, .agg v.cells)] a w g := by
  refine ⟨R.n, fun i x hi => ?_, R.tm, R.bx, R.hp, R.hd⟩
  cases i with
  | succ i => simp at hi
  | zero =>
    simp at hi; subst hi
    obtain ⟨h1, h2⟩ := RT.cellsOf (R.fl 0 (tv, v) rfl) hn
    exact ⟨_, rfl, h1, fun j c hc => by simpa using h2 j c hc⟩
def locIs (d : Nat) (q : Rt) : Bool := match q with
  | .loc t _ => t = d
  | _ => false
theorem ofLoc_root {d} (a : AV) (q : Rt) (h : a.root = some q) (hD : locIs d q = true) : ofLoc d a = true := by
  cases q with
  | loc t off =>
    simp only [locIs, decide_eq_true_eq] at hD
    subst hD
    cases a <;> simp [AV.root] at h <;> simp [ofLoc, AV.root, h]
  | _ => cases hD
/-- no pointer to this box is left -/
def NoLoc (d : Nat) (s : St) : Prop :=
  (∀ t tv, find t s.t = some tv → ∀ c, c ∈ tv.all → ∀ off, c.2 ≠ .loc d off) ∧ ∀ t cs, find t s.l = some cs → ∀ c, c ∈ cs → ∀ off, c.2 ≠ .loc d off
theorem noLoc_kill {d} {s : St} : NoLoc d (s.kill noMd (ofLoc d)) := by
  have h : ∀ c off, (killC noMd (ofLoc d) c).2 ≠ .loc d off := fun c off => by
    unfold killC
    split
    · intro h; cases h
    · rename_i h
      intro e
      apply h
      simp [e, ofLoc]
  refine ⟨fun t tv ht c hc off => ?_, fun t cs ht c hc off => ?_⟩
  · rw [find_kill_t, Option.map_eq_some_iff] at ht
    obtain ⟨tv0, _, rfl⟩ := ht
    obtain ⟨c0, rfl⟩ := all_killT hc
    exact h c0 off
  · rw [find_kill_l, Option.map_eq_some_iff] at ht
    obtain ⟨cs0, _, rfl⟩ := ht
    obtain ⟨c0, _, rfl⟩ := List.mem_map.1 hc
    exact h c0 off
theorem Rel.newBox {cs : List MC} {vals : Array Value} {d : Nat} {ty : TypeId} (pu : Pu) (hlc : inL d pu.lc = false) (R : Rel s [(.agg cs, .agg vals)] a w g)
    (hnl : NoLoc d s ∧ NoRoot (locIs d) s []) (hnf : ∀ c, c ∈ cs → (∀ off, c.2 ≠ .loc d off) ∧ ∀ q, c.2.root = some q → locIs d q = false) :
    ∃ g', g'.ψ d = w.heap.size ∧ Rel { s with l := put d cs s.l } [] a (w.alloc (.cells vals ty)) g' ∧ Le pu w g (w.alloc (.cells vals ty)) g' := by
  have hF := Fbox_side d
  -- the labels
  have R1 : Rel { s with l := drop1 d s.l } [] a w (relabel (Fbox d) g) := by
    have R0 : Rel { s with l := drop1 d s.l } [] a w g := (R.forget (fl := [])).ext (fun _ _ h => h) (fun t cs hf => by rw [find_drop1] at hf; split at hf; exact absurd hf (by simp); exact hf) rfl
    refine ⟨R0.n, fun i y hi => by simp at hi, fun t tv ht => (R0.tm t tv ht).kept hF fun π => Fbox_keep (by simp) (by simp) π, fun t cs ht => (R0.bx t cs ht).kept hF fun π => Fbox_keep (by simp) ?_ π,
      fun id cs hi => (R0.hp id cs hi).kept hF (by rw [R0.n]; exact (List.getElem?_eq_some_iff.1 hi).1) fun π => Fbox_keep (by simp) (by simp) π, R0.hd⟩
    change find t (drop1 d s.l) = _ at ht
    rw [find_drop1] at ht
    split at ht
    · cases ht
    · rename_i e; simp [e]
  -- the headers
  obtain ⟨vs, hvs, hlen, hk⟩ := R.fl 0 _ rfl
  cases hvs
  let D := locIs d
  let f : Rt → Nat × Nat × Nat × Nat := fun q => match q with
    | .loc _ off => hdOf cs vals off
    | _ => (0, 0, 0, 0)
  have hnr : NoRoot D { s with l := drop1 d s.l } [] := ⟨hnl.2.1, fun t cs hf => hnl.2.2.1 t cs (by
    change find t (drop1 d s.l) = _ at hf
    rw [find_drop1] at hf
    split at hf
    · cases hf
    · exact hf), fun x hx => by cases hx⟩
  have R2 : Rel { s with l := drop1 d s.l } [] a w (withHds (relabel (Fbox d) g) D f) := R1.rehd hnr fun q0 hq d' z xs hr => by
    cases q0 with
    | loc t off =>
      simp only [D, locIs, decide_eq_true_eq] at hq
      subst hq
      change cellOf off (find t (drop1 t s.l)) = _ at hr
      rw [find_drop1, if_pos rfl] at hr
      cases hr
    | _ => cases hq
  -- the block
  have C := chg_alloc (w := w) (g := withHds (relabel (Fbox d) g) D f) (.cells vals ty) (.pth (.loc d) []) 0
  have R3 := R2.all C (fun _ _ => trivial) rfl (fun _ => rfl) (fun _ => rfl)
  let g3 := withBlk (withHds (relabel (Fbox d) g) D f) w.heap.size (.pth (.loc d) []) 0
  let g4 : Gh := { g3 with ψ := fun t => if t = d then w.heap.size else g3.ψ t }
  have C4 : Chg (fun _ _ => True) true true (w.alloc (.cells vals ty)) g3 (w.alloc (.cells vals ty)) g4 :=
    ⟨Nat.le_refl _, Nat.le_refl _, fun _ _ => rfl, fun _ _ _ h => h, fun _ _ _ => ⟨rfl, fun _ _ => rfl⟩, fun b r π _ h _ => ⟨h, rfl, fun _ _ => rfl, fun _ h => h⟩,
      fun _ b r π _ h hr => ⟨.inr ⟨r, π, h, hr, Nat.le_refl _⟩, fun _ _ _ => rfl⟩, fun _ b r π _ h hr => ⟨.inr ⟨r, π, h, hr, Nat.le_refl _⟩, fun _ _ _ => rfl⟩, fun _ _ _ _ h => ⟨h, rfl⟩⟩
  have ok4 : ∀ c : MC, (∀ off, c.2 ≠ .loc d off) → ∀ r π, cellOk (fun _ _ => True) true true g3 g4 r π c := fun c hc r π => by
    refine ⟨fun _ => trivial, fun _ => rfl, fun _ => rfl, ?_⟩
    cases h2 : c.2 with
    | loc t off =>
      show (if t = d then _ else g3.ψ t) = _
      rw [if_neg (fun e => by subst e; exact hc off h2)]
    | el q i off => rfl
    | at_ q lo n => rfl
    | rd mo mi l off => exact ⟨fun _ => rfl, fun _ => rfl⟩
    | it s pos => exact ⟨rfl, rfl⟩
    | _ => trivial
  refine ⟨g4, by simp [g4], ⟨R3.n, fun i y hi => by simp at hi, fun t tv ht => (R3.tm t tv ht).chg C4 fun c hc π => ok4 c (hnl.1.1 t tv ht c hc) _ _, fun t cs' ht => ?_,
    fun id cs' hi => (R3.hp id cs' hi).chg C4 (by rw [R3.n]; exact (List.getElem?_eq_some_iff.1 hi).1) (fun _ => trivial), fun r k z xs hr b o sp len cap hv => ?_⟩,
    ((le_relabel hF pu (fun id π => Fbox_keep (by simp) (by simp) π) fun t h => Fbox_keep (by simp) (fun e => by cases e; rw [hlc] at h; cases h) []).trans (le_withHds pu)).trans ((le_alloc pu _ _ _ (by simp)).trans ⟨Nat.le_refl _, fun _ _ _ => ⟨rfl, rfl, rfl⟩, fun _ h1 h2 => absurd h2 (by omega), fun _ _ h => h, Nat.le_refl _, fun _ _ => rfl, rfl, rfl, rfl⟩)⟩
  · change find t (put d cs s.l) = _ at ht
    rw [find_put] at ht
    by_cases e : t = d
    · subst e
      rw [if_pos rfl] at ht
      cases ht
      have hψ : g4.ψ t = w.heap.size := by simp [g4]
      refine ⟨by rw [hψ]; simp [g4, g3, withBlk], by rw [hψ, heap_alloc]; omega, by rw [hψ]; simp [g4, g3, withBlk], fun j c hc => ?_⟩
      obtain ⟨u, hu, hc'⟩ := hk j c hc
      have hj : j < vals.size := by rw [hlen]; exact (List.getElem?_eq_some_iff.1 hc).1
      rw [hψ]
      refine ⟨u, by rw [cel_new]; exact hu, (free_new hj).2, ?_⟩
      obtain ⟨n1, n2⟩ := hnf c (List.mem_of_getElem? hc)
      have h1 : RC w (relabel (Fbox t) g) c.1 (.loc t) [j] c.2 u := hc'.moved hF fun _ ρ => by simp [Fbox]
      have h2 := h1.withHds (D := D) (f := f) n2
      have h3 := h2.chg C (cellOk_all trivial (fun _ => rfl) (fun _ => rfl))
      exact h3.chg C4 (ok4 c n1 _ _)
    · rw [if_neg e] at ht
      exact (R3.bx t cs' (by show find t (drop1 d s.l) = _; rw [find_drop1, if_neg e]; exact ht)).chg C4 (by simp [g4, e]) trivial fun c hc π => ok4 c (hnl.1.2 t cs' ht c hc) _ _
  · cases r with
    | obj id off => exact R3.hd (.obj id off) k z xs hr b o sp len cap hv
    | tmp t => exact R3.hd (.tmp t) k z xs hr b o sp len cap hv
    | loc t off =>
      change cellOf off (find t (put d cs s.l)) = _ at hr
      rw [find_put] at hr
      by_cases e : t = d
      · subst e
        rw [if_pos rfl] at hr
        have hψ : g4.ψ t = w.heap.size := by simp [g4]
        change cel _ (g4.ψ t) off = _ at hv
        rw [hψ, cel_new] at hv
        show (if D (.loc t off) = true then f (.loc t off) else _) = _
        rw [if_pos (by simp [D, locIs])]
        exact hdOf_eq hr hv
      · rw [if_neg e] at hr
        refine R3.hd (.loc t off) k z xs (by show cellOf off (find t (drop1 d s.l)) = _; rw [find_drop1, if_neg e]; exact hr) b o sp len cap ?_
        change cel _ (g4.ψ t) off = _ at hv
        rw [show g4.ψ t = g3.ψ t from by simp [g4, e]] at hv
        exact hv
end
end Go.Proofs.Abs
/- Variables and objects that are made. -/
namespace Go.Proofs.Abs
open Go
set_option linter.unusedVariables false

section
variable {X : Cx} {pu : Pu} {s s' : St} {a : Act} {w : World} {g : Gh} {lc : List Nat}

theorem plain_ok {c : AV} (h : c.plain = true) : (∀ t off, c ≠ .loc t off) ∧ c.root = none := by
  cases c <;> first | (cases h; done) | exact ⟨fun _ _ h => (by cases h), rfl⟩
theorem zero_plain {v m c} (h : zeroIs v m c = true) : c.plain = true := by
  unfold zeroIs at h
  split at h <;> first | rfl | cases h
theorem zeroes_plain : ∀ {vs : List Value} {cs : List MC}, zeroesAre vs cs = true → ∀ c, c ∈ cs → c.2.plain = true
  | [], [], _, c, hc => by cases hc
  | v :: vs, c0 :: cs, h, c, hc => by
    simp only [zeroesAre, Bool.and_eq_true] at h
    rcases List.mem_cons.1 hc with rfl | hc
    · exact zero_plain h.1
    · exact zeroes_plain h.2 c hc
  | [], _ :: _, h, _, _ => by cases h
  | _ :: _, [], h, _, _ => by cases h
theorem zeroes_RCs {r} {vs : List Value} {cs : List MC} (h : zeroesAre vs cs = true) (A : Array Value) (hA : A.toList = vs) : RT w g r (.agg cs) (.agg A) := by
  obtain ⟨k1, k2⟩ := zeroesAre_ok (w := w) (g := g) (r := r) (π := []) h
  refine ⟨A, rfl, by rw [← Array.length_toList, hA]; exact k1, fun j c hc => ?_⟩
  obtain ⟨u, hu, hk⟩ := k2 j c hc
  exact ⟨u, by rw [← hA] at hu; simpa using hu, .inl (hk _)⟩

theorem run_newVar {P : Program} {ty : TypeId} {v : Value} : (newVar ty v).run P w = .ok ⟨w.heap.size, 0, none⟩ (w.alloc (.cells v.cells ty)) := by
  simp [newVar, newRow]

/-- a value on its way becomes a box -/
theorem acts_newBox {d : Nat} (hlc : inL d pu.lc = false) {o : Oper} {cs : List MC} {vals : Array Value} {ty : TypeId} (hdst : o.dst = some d) (hd : d < a.tmps.size) {g0} (R : Rel s [(.agg cs, .agg vals)] a w g) (hp : ∀ c, c ∈ cs → c.2.plain = true)
    (hrun : (execOp a.eval o).run X.P w = .ok (.value (ptr w.heap.size 0)) (w.alloc (.cells vals ty))) (L : Le pu w g0 w g) :
    Acts X pu o a w g0 (setT { s.kill noMd (ofLoc d) with l := put d cs (s.kill noMd (ofLoc d)).l } o.dst (sc (.loc d 0))) := by
  have Rk := R.kill noMd (ofLoc d)
  obtain ⟨g1, e1, R1, L1⟩ := Rk.newBox (d := d) (ty := ty) pu hlc ⟨noLoc_kill, noRoot_kill (ofLoc_root (d := d))⟩ fun c hc =>
    ⟨fun off => (plain_ok (hp c hc)).1 d off, fun q hq => by rw [(plain_ok (hp c hc)).2] at hq; cases hq⟩
  obtain ⟨g2, R2, L2⟩ := R1.tell (c := .loc d 0) (v := ptr w.heap.size 0) (dst := o.dst) pu (fun d' h => by rw [hdst] at h; cases h; exact hd) fun r π => by
    rw [← e1]; exact .inr .loc
  exact ⟨_, _, g2, hrun, R2, L.trans (L1.trans L2)⟩

theorem acts_alloc {o : Oper} {e} {fz : Bool} (ho : o.op = .alloc e) (R : Rel s [] a w g) (hd : ∀ d, o.dst = some d → d < a.tmps.size) (h : allocF pu false o.dst s (zeroZ fz X.P e) = some s') : Acts X pu o a w g s' := by
  unfold allocF at h
  split at h
  · rename_i z hz
    simp only [Bool.false_eq_true, if_false] at h
    split at h
    · rename_i t hdst
      split at h
      · cases h
      rename_i hlc
      have hlc : inL t pu.lc = false := by simpa using hlc
      cases h
      obtain ⟨v, i, z1, z2, z3, z4⟩ := zeroZ_inv hz
      have R1 : Rel s [(.agg z, .agg v.cells)] a w g := R.push (zeroes_RCs z3 v.cells rfl)
      have k := acts_newBox (X := X) (pu := pu) hlc hdst (hd t hdst) R1 (zeroes_plain z3) (ty := e) (by
        unfold execOp; rw [ho]
        simp [Instr.alloc, run_zero z1 z2, run_newVar, ptr]) (.refl _ _ _)
      exact k
    · cases h
  · cases h

/-! ### objects -/
def Fobj (id : Nat) (r : Rk) (π : List Nat) : Ow := if r = .lim 0 then .pth (.obj id) π else if r = .obj id then .shared else .pth r π
theorem Fobj_keep {id r} (h1 : r ≠ .lim 0) (h2 : r ≠ .obj id) (π) : Fobj id r π = .pth r π := by simp [Fobj, h1, h2]
theorem Fobj_H (id) : keepsH (Fobj id) := by
  intro r π hr
  unfold Fobj
  split
  · rename_i h; subst h; cases hr
  · split
    · exact .inl rfl
    · exact .inr ⟨_, _, rfl, hr⟩
def objIs (id : Nat) (q : Rt) : Bool := match q with
  | .obj id' _ => id' = id
  | _ => false
theorem ofObj_root {id} (a : AV) (q : Rt) (h : a.root = some q) (hD : objIs id q = true) : ofObj id a = true := by
  cases q with
  | obj id' off =>
    simp only [objIs, decide_eq_true_eq] at hD
    subst hD
    simp [ofObj, h]
  | _ => cases hD
theorem keepC_md {c : MC} (h : keepC c = true) : c.1 = .top ∨ ∃ d, c.1 = .own d := by
  obtain ⟨m, a⟩ := c
  unfold keepC at h
  split at h
  · rename_i he; cases he; exact .inr ⟨_, rfl⟩
  · rename_i he; cases he; exact .inl rfl
  · cases h
theorem keepC_kc {c : MC} {r π u} (h : keepC c = true) (hr : RC w g c.1 r π c.2 u) : KC w g c.1 r π c.2 u := by
  obtain ⟨m, a⟩ := c
  unfold keepC at h
  split at h
  · rename_i he; cases he; exact RC.sl hr
  · rename_i he; cases he; exact RC.scalar hr h _ _ _
  · cases h

/-- the cells of a value on its way become an object. 'own': is anything among them one's own? -/
theorem Rel.newObj {cs : List MC} {vals : Array Value} {ty : TypeId} (R : Rel s [(.agg cs, .agg vals)] a w g)
    (hk : ∀ c, c ∈ cs → keepC c = true) (hno : anyOwned cs = true → NoMd isBl s) (hnr : NoRoot (objIs s.h.length) s []) :
    ∃ g', g'.φ s.h.length = w.heap.size ∧ s.h.length < g'.n ∧ Rel { s with h := s.h ++ [cs] } [] a (w.alloc (.cells vals ty)) g' ∧ Le ⟨false, lc⟩ w g (w.alloc (.cells vals ty)) g' := by
  have hm : ∀ c, c ∈ cs → c.1 = .top ∨ ∃ d, c.1 = .own d := fun c hc => keepC_md (hk c hc)
  let id := s.h.length
  let F := Fobj id
  obtain ⟨vl, hvl⟩ : ∃ vl, vl = !anyOwned cs := ⟨_, rfl⟩
  obtain ⟨vs, hvs, hlen, hfl⟩ := R.fl 0 _ rfl
  cases hvs
  have hkc : ∀ (j : Nat) c u, cs[j]? = some c → RC w g c.1 (.lim 0) [j] c.2 u → KC w g c.1 (.lim 0) [j] c.2 u := fun j c u hc hr => keepC_kc (hk c (List.mem_of_getElem? hc)) hr
  -- labels: if nothing is owned, none turns
  let F' : Rk → List Nat → Ow := fun r π => if vl then (if r = .obj id then .shared else .pth r π) else F r π
  have hF'L : vl = true → keepsL F' := fun h r π hr => by
    simp only [F', h, if_true]
    split
    · exact .inl rfl
    · exact .inr ⟨_, _, rfl, hr⟩
  have hF'H : keepsH F' := fun r π hr => by
    simp only [F']
    split
    · split
      · exact .inl rfl
      · exact .inr ⟨_, _, rfl, hr⟩
    · exact Fobj_H id r π hr
  have hF'k : ∀ {r}, r ≠ Rk.lim 0 → r ≠ Rk.obj id → ∀ π, F' r π = .pth r π := fun h1 h2 π => by
    show (if vl = true then _ else _) = _
    by_cases hv : vl = true
    · rw [if_pos hv, if_neg h2]
    · rw [if_neg hv]; exact Fobj_keep h1 h2 π
  have C1 : Chg (fun r π => ∀ ρ, F' r (π ++ ρ) = .pth r (π ++ ρ)) vl true w g w (relabel F' g) := chg_relabelW hF'L (fun _ => hF'H)
  have hNo : vl = true ∨ NoMd isBl s := by
    cases h : anyOwned cs with
    | false => left; rw [hvl, h]; rfl
    | true => exact .inr (hno h)
  have okT : ∀ {c : MC} {r π}, r ≠ Rk.lim 0 → r ≠ Rk.obj id → (NoMd isBl s → isBl c.1 = false ∧ c.2.lent isBl = false) → cellOk (fun r π => ∀ ρ, F' r (π ++ ρ) = .pth r (π ++ ρ)) vl true g (relabel F' g) r π c := by
    intro c r π h1 h2 h3
    rcases hNo with h | h
    · rw [h]; exact cellOk_all (fun ρ => hF'k h1 h2 _) (fun _ => rfl) (fun _ => rfl)
    · exact cellOk_no (p := isBl) (fun ρ => hF'k h1 h2 _) (fun _ => rfl) (fun _ => rfl) (.inr rfl) (.inl rfl) (h3 h).1 (h3 h).2
  have hidn : ∀ id', id' < g.n → id' ≠ id := fun id' h => by rw [R.n] at h; simp only [id]; omega
  have R1 : Rel s [] a w (relabel F' g) := by
    refine ⟨R.n, fun i y hi => by simp at hi, fun t tv ht => (R.tm t tv ht).chg C1 fun c hc π => okT (by simp) (by simp) fun h => h.1 t tv ht c hc,
      fun t cs' ht => (R.bx t cs' ht).chg C1 rfl (fun ρ => hF'k (by simp) (by simp) _) fun c hc π => okT (by simp) (by simp) fun h => h.2 t cs' ht c hc,
      fun id' cs' hi => ?_, R.hd⟩
    have hlt : id' < g.n := by rw [R.n]; exact (List.getElem?_eq_some_iff.1 hi).1
    exact (R.hp id' cs' hi).chg C1 hlt (fun π ρ => hF'k (by simp) (by simp; exact hidn id' hlt) _)
  -- headers
  let f : Rt → Nat × Nat × Nat × Nat := fun q => match q with
    | .obj _ off => hdOf cs vals off
    | _ => (0, 0, 0, 0)
  have R2 : Rel s [] a w (withHds (relabel F' g) (objIs id) f) := R1.rehd hnr fun q0 hq d' z xs hr => by
    cases q0 with
    | obj id' off =>
      simp only [objIs, decide_eq_true_eq] at hq
      subst hq
      change cellOf off (s.h[s.h.length]?) = _ at hr
      simp [cellOf] at hr
    | _ => cases hq
  have C := chg_alloc (w := w) (g := withHds (relabel F' g) (objIs id) f) (.cells vals ty) (.pth (.obj id) []) 0
  have R3 := R2.all C (fun _ _ => trivial) rfl (fun _ => rfl) (fun _ => rfl)
  let g3 := withBlk (withHds (relabel F' g) (objIs id) f) w.heap.size (.pth (.obj id) []) 0
  let g4 : Gh := { g3 with φ := fun i => if i = id then w.heap.size else g3.φ i, n := g3.n + 1 }
  have hφ : ∀ i, i < g3.n → g4.φ i = g3.φ i := fun i hi => by
    show (if i = id then _ else g3.φ i) = _
    rw [if_neg (hidn i hi)]
  have C4 : Chg (fun _ _ => True) true true (w.alloc (.cells vals ty)) g3 (w.alloc (.cells vals ty)) g4 :=
    ⟨Nat.le_refl _, by show g3.n ≤ g3.n + 1; omega, hφ, fun _ _ _ h => h, fun _ _ _ => ⟨rfl, fun _ _ => rfl⟩, fun b r π _ h _ => ⟨h, rfl, fun _ _ => rfl, fun _ h => h⟩,
      fun _ b r π _ h hr => ⟨.inr ⟨r, π, h, hr, Nat.le_refl _⟩, fun _ _ _ => rfl⟩, fun _ b r π _ h hr => ⟨.inr ⟨r, π, h, hr, Nat.le_refl _⟩, fun _ _ _ => rfl⟩, fun _ _ _ _ h => ⟨h, rfl⟩⟩
  have ok4 : ∀ (c : MC) r π, cellOk (fun _ _ => True) true true g3 g4 r π c := fun c r π => cellOk_all trivial (fun _ => rfl) (fun _ => rfl)
  have hnn : g3.n = s.h.length := R.n
  refine ⟨g4, by simp [g4, id], by show s.h.length < g3.n + 1; omega, ⟨by show g3.n + 1 = (s.h ++ [cs]).length; simp; omega, fun i y hi => by simp at hi, fun t tv ht => (R3.tm t tv ht).chg C4 fun c _ π => ok4 c _ _,
    fun t cs' ht => (R3.bx t cs' ht).chg C4 rfl trivial fun c _ π => ok4 c _ _, fun id' cs' hi => ?_, fun r k z xs hr b o sp len cap hv => ?_⟩, ?_⟩
  · change (s.h ++ [cs])[id']? = some cs' at hi
    rw [List.getElem?_append] at hi
    split at hi
    · rename_i hlt
      exact (R3.hp id' cs' hi).chg C4 (by omega) (fun _ => trivial)
    · rename_i hge
      rw [List.getElem?_singleton] at hi
      split at hi
      · cases hi
        obtain rfl : id' = id := by simp only [id]; omega
        have hφ4 : g4.φ id = w.heap.size := by simp [g4]
        refine ⟨by rw [hφ4]; simp [g4, g3, withBlk], by rw [hφ4, heap_alloc]; omega, by rw [hφ4]; simp [g4, g3, withBlk], hm, fun j c hc => ?_⟩
        obtain ⟨u, hu, hr⟩ := hfl j c hc
        have hj : j < vals.size := by rw [hlen]; exact (List.getElem?_eq_some_iff.1 hc).1
        rw [hφ4]
        refine ⟨u, by rw [cel_new]; exact hu, (free_new hj).2, ?_⟩
        have h0 := hkc j c u hc hr
        have hmd := hm c (List.mem_of_getElem? hc)
        have h1 : KC w (relabel F' g) c.1 (.obj id) [j] c.2 u := by
          by_cases ho : c.1.owned = true
          · have hvf : vl = false := by
              rw [hvl]
              have : anyOwned cs = true := List.any_eq_true.2 ⟨c, List.mem_of_getElem? hc, ho⟩
              rw [this]; rfl
            refine KC.map (g := g) (g' := relabel F' g) (r := .lim 0) (r' := .obj id) (fun m π m' π' => m' = m ∧ π' = π ∧ (m = .top ∨ ∃ d, m = .own d)) (Nat.le_refl _) (fun _ hi => ⟨hi, rfl⟩) ?_ h0 ⟨rfl, rfl, hmd⟩
            rintro m π m' π' ⟨rfl, rfl, hm'⟩
            refine ⟨fun h => h, fun h => h, fun b e hb ho => ⟨?_, fun _ _ _ => rfl⟩, fun _ _ _ _ _ _ h => h, fun i j => ⟨rfl, rfl, ?_⟩⟩
            · rcases hm' with rfl | ⟨d, rfl⟩
              · exact ho.elim
              · cases d with
                | zero => exact (C1.st b hb (.inl ho)).1.trans ho
                | succ d => exact ⟨by rw [relabel_own ho.1]; simp [F', hvf, F, Fobj], ho.2⟩
            · rcases hm' with rfl | ⟨d, rfl⟩
              · exact .inl rfl
              · cases d with
                | zero => exact .inr ⟨0, rfl⟩
                | succ d => exact .inr ⟨d, rfl⟩
          · have h2 := h0.anywhere (by simpa using ho) (.obj id) [j]
            refine h2.chg C1 (fun h => absurd h ho) (fun e => ?_) (fun e => ?_)
            · rcases hmd with h | ⟨d, h⟩ <;> rw [h] at e <;> cases e
            · rcases hmd with h | ⟨d, h⟩ <;> rw [h] at e <;> cases e
        have h2 := h1.withHds (objIs id) f
        have h3 := h2.chg C (fun _ => trivial) (fun _ => rfl) (fun _ => rfl)
        exact h3.chg C4 (fun _ => trivial) (fun _ => rfl) (fun _ => rfl)
      · cases hi
  · cases r with
    | tmp t => exact R3.hd (.tmp t) k z xs hr b o sp len cap hv
    | loc t off => exact R3.hd (.loc t off) k z xs hr b o sp len cap hv
    | obj id' off =>
      change cellOf off ((s.h ++ [cs])[id']?) = _ at hr
      rw [List.getElem?_append] at hr
      split at hr
      · rename_i hlt
        refine R3.hd (.obj id' off) k z xs hr b o sp len cap ?_
        change cel _ (g4.φ id') off = _ at hv
        rw [hφ id' (by omega)] at hv
        exact hv
      · rename_i hge
        rw [List.getElem?_singleton] at hr
        split at hr
        · obtain rfl : id' = id := by simp only [id]; omega
          change cel _ (g4.φ id) off = _ at hv
          rw [show g4.φ id = w.heap.size from by simp [g4], cel_new] at hv
          show (if objIs id (.obj id off) = true then f (.obj id off) else _) = _
          rw [if_pos (by simp [objIs])]
          exact hdOf_eq hr hv
        · cases hr
  · have hrel : Le ⟨false, lc⟩ w g w (relabel F' g) := by
      refine ⟨Nat.le_refl _, fun b _ h => ⟨rfl, ?_, rfl⟩, fun _ h1 h2 => absurd h2 (by omega), fun b _ h => ?_, Nat.le_refl _, fun _ _ => rfl, rfl, rfl, rfl⟩
      · rcases h with h | h | ⟨h, _⟩ | ⟨t, _, h⟩
        · simp [relabel, h]
        · simp [relabel, h]
        · cases h
        · rw [relabel_own h, h]; simp [F', F, Fobj]
      · cases hb : g.own b with
        | ext => rfl
        | shared => simp [relabel, hb] at h
        | itr => simp [relabel, hb] at h
        | pth r π =>
          rw [relabel_own hb] at h
          simp only [F', F, Fobj] at h
          split at h
          · split at h <;> cases h
          · split at h
            · cases h
            · split at h <;> cases h
    refine (hrel.trans (le_withHds ⟨false, lc⟩)).trans ((le_alloc ⟨false, lc⟩ _ _ _ (by simp)).trans ⟨Nat.le_refl _, fun _ _ _ => ⟨rfl, rfl, rfl⟩, fun _ h1 h2 => absurd h2 (by omega), fun _ _ h => h, C4.n, C4.ids, rfl, rfl, rfl⟩)

theorem acts_box {o : Oper} {e x heap} (ho : o.op = .box e x) (R : Rel s [] a w g) (hd : ∀ d, o.dst = some d → d < a.tmps.size) (hh : heap = false)
    (h : boxF pu heap o.dst (used s x) (opnd X.P s e x) = some s') : Acts X pu o a w g s' := by
  subst hh
  unfold boxF at h
  split at h
  · rename_i v hx
    obtain ⟨g1, R1, L1⟩ := R.opnd pu hx
    simp only [List.nil_append] at R1
    have run : (execOp a.eval o).run X.P w = .ok (.value (ptr w.heap.size 0)) (w.alloc (.cells (a.eval x).cells e)) := by
      unfold execOp; rw [ho]
      simp [Instr.box, run_newVar, ptr]
    split at h
    · cases h
    · rename_i hnt
      simp only [Bool.false_eq_true, if_false] at h
      split at h
      · rename_i hp
        have hn : noTup v = true := by cases v <;> first | rfl | exact absurd rfl (hnt _)
        unfold allocF at h
        simp only [Bool.false_eq_true, if_false] at h
        split at h
        · rename_i t hdst
          split at h
          · cases h
          rename_i hlc
          have hlc : inL t pu.lc = false := by simpa using hlc
          cases h
          have k := acts_newBox (X := X) (pu := pu) hlc hdst (hd t hdst) (R1.asCells hn) (fun c hc => by
            have := List.all_eq_true.1 hp c hc; simpa using this) (ty := e) run L1
          exact k
        · cases h
      · cases h
  · cases h

theorem acts_newObj {o : Oper} {cs : List MC} {vals : Array Value} {ty : TypeId} (hd : ∀ d, o.dst = some d → d < a.tmps.size) {g0} (R : Rel s [(.agg cs, .agg vals)] a w g) (hk : ∀ c, c ∈ cs → keepC c = true)
    (hrun : (execOp a.eval o).run X.P w = .ok (.value (ptr w.heap.size 0)) (w.alloc (.cells vals ty))) (L : Le ⟨false, lc⟩ w g0 w g) :
    Acts X ⟨false, lc⟩ o a w g0 (setT { s.kill (if anyOwned cs then isBl else noMd) (ofObj s.h.length) with h := (s.kill (if anyOwned cs then isBl else noMd) (ofObj s.h.length)).h ++ [cs] } o.dst (sc (.ptr (.at s.h.length 0)))) := by
  have Rk := R.kill (if anyOwned cs then isBl else noMd) (ofObj s.h.length)
  obtain ⟨g1, e1, e2, R1, L1⟩ := Rk.newObj (ty := ty) hk (fun h => by rw [if_pos h]; exact noMd_kill rfl) (noRoot_kill (ofObj_root (id := s.h.length)))
  obtain ⟨g2, R2, L2⟩ := R1.tell (c := .ptr (.at s.h.length 0)) (v := ptr w.heap.size 0) (dst := o.dst) ⟨false, lc⟩ hd fun r π => by
    rw [← e1]; exact .inl (.obj e2)
  exact ⟨_, _, g2, hrun, R2, L.trans (L1.trans L2)⟩
theorem zeroIs_md {v m c} (h : zeroIs v m c = true) : keepC (m, c) = true := by
  unfold zeroIs at h
  split at h <;> first | rfl | (exact absurd h (by simp))
theorem zeroes_keep : ∀ {vs : List Value} {cs : List MC}, zeroesAre vs cs = true → ∀ c, c ∈ cs → keepC c = true
  | [], [], _, c, hc => by cases hc
  | v :: vs, c0 :: cs, h, c, hc => by
    simp only [zeroesAre, Bool.and_eq_true] at h
    rcases List.mem_cons.1 hc with rfl | hc
    · exact zeroIs_md h.1
    · exact zeroes_keep h.2 c hc
  | [], _ :: _, h, _, _ => by cases h
  | _ :: _, [], h, _, _ => by cases h

theorem acts_allocH {o : Oper} {e} (ho : o.op = .alloc e) (R : Rel s [] a w g) (hd : ∀ d, o.dst = some d → d < a.tmps.size) (h : allocF ⟨false, lc⟩ true o.dst s (zeroOf X.P e) = some s') : Acts X ⟨false, lc⟩ o a w g s' := by
  unfold allocF at h
  split at h
  · rename_i z hz
    simp only [Bool.false_eq_true, if_false, if_true, Option.some.injEq] at h
    subst h
    obtain ⟨v, i, z1, z2, z3, z4⟩ := zeroOf_inv hz
    exact acts_newObj (X := X) hd (R.push (fl := []) (zeroes_RCs z3 v.cells rfl)) (zeroes_keep z3) (ty := e) (by
      unfold execOp; rw [ho]
      simp [Instr.alloc, run_zero z1 z2, run_newVar, ptr]) (.refl _ _ _)
  · cases h
theorem acts_boxH {o : Oper} {e x} (ho : o.op = .box e x) (R : Rel s [] a w g) (hd : ∀ d, o.dst = some d → d < a.tmps.size)
    (h : boxF ⟨false, lc⟩ true o.dst (used s x) (opnd X.P s e x) = some s') : Acts X ⟨false, lc⟩ o a w g s' := by
  unfold boxF at h
  split at h
  · rename_i v hx
    obtain ⟨g1, R1, L1⟩ := R.opnd ⟨false, lc⟩ hx
    simp only [List.nil_append] at R1
    have run : (execOp a.eval o).run X.P w = .ok (.value (ptr w.heap.size 0)) (w.alloc (.cells (a.eval x).cells e)) := by
      unfold execOp; rw [ho]
      simp [Instr.box, run_newVar, ptr]
    split at h
    · cases h
    · rename_i hnt
      simp only [if_true, Bool.false_or] at h
      split at h
      · cases h
      · rename_i hk
        cases h
        have hn : noTup v = true := by cases v <;> first | rfl | exact absurd rfl (hnt _)
        exact acts_newObj (X := X) hd (R1.asCells hn) (fun c hc => List.all_eq_true.1 (by simpa using hk) c hc) run L1
  · cases h
end
end Go.Proofs.Abs
