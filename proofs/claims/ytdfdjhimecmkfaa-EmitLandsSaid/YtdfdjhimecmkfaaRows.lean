/-
  No cell of these rows narrows 'for every input' (looked for: loops, veiled, ifaces, maps, wideKeys, modest, calm, conditions, laid).
  DERIVED. THE GIVEN ROWS OF THIS SEAT. 10 by the template 'for every input the law returns true; each argument reads behind the call as it read before'; 0 by the template 'total and deterministic' (their statements: YtdfdjhimecmkfaaTotals.lean).
  GIVEN WITH THE SEED: the statements are not yours to turn. If you find one false, say at which input.
  Laid BY PROGRAM, IN A SANDBOX (cutbox-rows.mjs): the forced cells as the released guide's own fill.sh prints them over the translation d665c525888b8273… (all of the seat's roots in one cut). By AI agents, Wed Nov 11 2026. No macro, syntax, notation, axiom, sorry.
-/
import Derived.Test.YtdfdjhimecmkfaaChecked
import GoSem.Claim
import GoSem.ClaimJoined
import GoSem.ClaimMapViews
import Derived.JoinedTies
import Derived.KernelRfl
namespace Go.Proofs.Ytdfdjhimecmkfaa
/- THE CELL 'sum', in the pinned program and in every row, IS THE sha256 OF THE DUMP (.gsa) THAT YtdfdjhimecmkfaaProg.lean LOADS. Nothing in Lean hashes anything: it is a label: what it is worth is what the hold of that sum in a sandbox is worth. -/
noncomputable def Try.pinned : Pinned := { name := "ytdfdjhimecmkfaa", sum := "d665c525888b8273b0a07f5d6e134fbf8e49d45a76dc5ca6c26c8484aff7ce8c", checked := Try.checked }
namespace Rows
def none {H : Type} : Left H := { results := [], args := [] }

/-- 'pascalinelaw03.MemoryPlays': WHATEVER THE INPUT: true; the input reads as it did. -/
def memoryPlaysSpec : ChangeSpec := { name := "memoryPlays", fn := fun _ => fun
  | [d1, d2] => { results := [.lit (.bool true)], args := [d1, d2] }
  | _ => none }
def memoryPlaysRow : OpenClaim := { program := "ytdfdjhimecmkfaa", sum := "d665c525888b8273b0a07f5d6e134fbf8e49d45a76dc5ca6c26c8484aff7ce8c", func := "pascaline/pascalinelaw03.MemoryPlays", spec := "memoryPlays", apart := false }
def MemoryPlaysSaid : Prop := memoryPlaysRow.holds Try.pinned (OpenSpec.ofChange memoryPlaysSpec)

/-- ITS FALSE NEIGHBOUR: 'it returns false'. Refute it at one input. -/
def memoryPlaysWrong : ChangeSpec := { name := "memoryPlays", fn := fun _ => fun
  | [d1, d2] => { results := [.lit (.bool false)], args := [d1, d2] }
  | _ => none }
def MemoryPlaysWrongFalsely : Prop := memoryPlaysRow.holds Try.pinned (OpenSpec.ofChange memoryPlaysWrong)

/-- 'pascalinelaw03.MemoryGuards': WHATEVER THE INPUT: true; the input reads as it did. -/
def memoryGuardsSpec : ChangeSpec := { name := "memoryGuards", fn := fun _ => fun
  | [d1, d2, d3] => { results := [.lit (.bool true)], args := [d1, d2, d3] }
  | _ => none }
def memoryGuardsRow : OpenClaim := { program := "ytdfdjhimecmkfaa", sum := "d665c525888b8273b0a07f5d6e134fbf8e49d45a76dc5ca6c26c8484aff7ce8c", func := "pascaline/pascalinelaw03.MemoryGuards", spec := "memoryGuards", apart := false }
def MemoryGuardsSaid : Prop := memoryGuardsRow.holds Try.pinned (OpenSpec.ofChange memoryGuardsSpec)

/-- ITS FALSE NEIGHBOUR: 'it returns false'. Refute it at one input. -/
def memoryGuardsWrong : ChangeSpec := { name := "memoryGuards", fn := fun _ => fun
  | [d1, d2, d3] => { results := [.lit (.bool false)], args := [d1, d2, d3] }
  | _ => none }
def MemoryGuardsWrongFalsely : Prop := memoryGuardsRow.holds Try.pinned (OpenSpec.ofChange memoryGuardsWrong)

/-- 'pascalinelaw03.MemoryDiffers': WHATEVER THE INPUT: true; the input reads as it did. -/
def memoryDiffersSpec : ChangeSpec := { name := "memoryDiffers", fn := fun _ => fun
  | [d1, d2, d3] => { results := [.lit (.bool true)], args := [d1, d2, d3] }
  | _ => none }
def memoryDiffersRow : OpenClaim := { program := "ytdfdjhimecmkfaa", sum := "d665c525888b8273b0a07f5d6e134fbf8e49d45a76dc5ca6c26c8484aff7ce8c", func := "pascaline/pascalinelaw03.MemoryDiffers", spec := "memoryDiffers", apart := false }
def MemoryDiffersSaid : Prop := memoryDiffersRow.holds Try.pinned (OpenSpec.ofChange memoryDiffersSpec)

/-- ITS FALSE NEIGHBOUR: 'it returns false'. Refute it at one input. -/
def memoryDiffersWrong : ChangeSpec := { name := "memoryDiffers", fn := fun _ => fun
  | [d1, d2, d3] => { results := [.lit (.bool false)], args := [d1, d2, d3] }
  | _ => none }
def MemoryDiffersWrongFalsely : Prop := memoryDiffersRow.holds Try.pinned (OpenSpec.ofChange memoryDiffersWrong)

/-- 'pascalinelaw09.TypesPlays': WHATEVER THE INPUT: true; the input reads as it did. -/
def typesPlaysSpec : ChangeSpec := { name := "typesPlays", fn := fun _ => fun
  | [d] => { results := [.lit (.bool true)], args := [d] }
  | _ => none }
def typesPlaysRow : OpenClaim := { program := "ytdfdjhimecmkfaa", sum := "d665c525888b8273b0a07f5d6e134fbf8e49d45a76dc5ca6c26c8484aff7ce8c", func := "pascaline/pascalinelaw09.TypesPlays", spec := "typesPlays", apart := false }
def TypesPlaysSaid : Prop := typesPlaysRow.holds Try.pinned (OpenSpec.ofChange typesPlaysSpec)

/-- ITS FALSE NEIGHBOUR: 'it returns false'. Refute it at one input. -/
def typesPlaysWrong : ChangeSpec := { name := "typesPlays", fn := fun _ => fun
  | [d] => { results := [.lit (.bool false)], args := [d] }
  | _ => none }
def TypesPlaysWrongFalsely : Prop := typesPlaysRow.holds Try.pinned (OpenSpec.ofChange typesPlaysWrong)

/-- 'pascalinelaw09.TypesFit': WHATEVER THE INPUT: true; the input reads as it did. -/
def typesFitSpec : ChangeSpec := { name := "typesFit", fn := fun _ => fun
  | [d] => { results := [.lit (.bool true)], args := [d] }
  | _ => none }
def typesFitRow : OpenClaim := { program := "ytdfdjhimecmkfaa", sum := "d665c525888b8273b0a07f5d6e134fbf8e49d45a76dc5ca6c26c8484aff7ce8c", func := "pascaline/pascalinelaw09.TypesFit", spec := "typesFit", apart := false }
def TypesFitSaid : Prop := typesFitRow.holds Try.pinned (OpenSpec.ofChange typesFitSpec)

/-- ITS FALSE NEIGHBOUR: 'it returns false'. Refute it at one input. -/
def typesFitWrong : ChangeSpec := { name := "typesFit", fn := fun _ => fun
  | [d] => { results := [.lit (.bool false)], args := [d] }
  | _ => none }
def TypesFitWrongFalsely : Prop := typesFitRow.holds Try.pinned (OpenSpec.ofChange typesFitWrong)

/-- 'pascalinelaw03.MemoryTells': WHATEVER THE INPUT: true; the input reads as it did. -/
def memoryTellsSpec : ChangeSpec := { name := "memoryTells", fn := fun _ => fun
  | [d1, d2, d3] => { results := [.lit (.bool true)], args := [d1, d2, d3] }
  | _ => none }
def memoryTellsRow : OpenClaim := { program := "ytdfdjhimecmkfaa", sum := "d665c525888b8273b0a07f5d6e134fbf8e49d45a76dc5ca6c26c8484aff7ce8c", func := "pascaline/pascalinelaw03.MemoryTells", spec := "memoryTells", apart := false }
def MemoryTellsSaid : Prop := memoryTellsRow.holds Try.pinned (OpenSpec.ofChange memoryTellsSpec)

/-- ITS FALSE NEIGHBOUR: 'it returns false'. Refute it at one input. -/
def memoryTellsWrong : ChangeSpec := { name := "memoryTells", fn := fun _ => fun
  | [d1, d2, d3] => { results := [.lit (.bool false)], args := [d1, d2, d3] }
  | _ => none }
def MemoryTellsWrongFalsely : Prop := memoryTellsRow.holds Try.pinned (OpenSpec.ofChange memoryTellsWrong)

/-- 'pascalinelaw09.TypesTells': WHATEVER THE INPUT: true; the input reads as it did. -/
def typesTellsSpec : ChangeSpec := { name := "typesTells", fn := fun _ => fun
  | [d1, d2] => { results := [.lit (.bool true)], args := [d1, d2] }
  | _ => none }
def typesTellsRow : OpenClaim := { program := "ytdfdjhimecmkfaa", sum := "d665c525888b8273b0a07f5d6e134fbf8e49d45a76dc5ca6c26c8484aff7ce8c", func := "pascaline/pascalinelaw09.TypesTells", spec := "typesTells", apart := false }
def TypesTellsSaid : Prop := typesTellsRow.holds Try.pinned (OpenSpec.ofChange typesTellsSpec)

/-- ITS FALSE NEIGHBOUR: 'it returns false'. Refute it at one input. -/
def typesTellsWrong : ChangeSpec := { name := "typesTells", fn := fun _ => fun
  | [d1, d2] => { results := [.lit (.bool false)], args := [d1, d2] }
  | _ => none }
def TypesTellsWrongFalsely : Prop := typesTellsRow.holds Try.pinned (OpenSpec.ofChange typesTellsWrong)

/-- 'pascalinelaw17.EmitMany': WHATEVER THE INPUT: true; the input reads as it did. -/
def emitManySpec : ChangeSpec := { name := "emitMany", fn := fun _ => fun
  | [d] => { results := [.lit (.bool true)], args := [d] }
  | _ => none }
def emitManyRow : OpenClaim := { program := "ytdfdjhimecmkfaa", sum := "d665c525888b8273b0a07f5d6e134fbf8e49d45a76dc5ca6c26c8484aff7ce8c", func := "pascaline/pascalinelaw17.EmitMany", spec := "emitMany", apart := false }
def EmitManySaid : Prop := emitManyRow.holds Try.pinned (OpenSpec.ofChange emitManySpec)

/-- ITS FALSE NEIGHBOUR: 'it returns false'. Refute it at one input. -/
def emitManyWrong : ChangeSpec := { name := "emitMany", fn := fun _ => fun
  | [d] => { results := [.lit (.bool false)], args := [d] }
  | _ => none }
def EmitManyWrongFalsely : Prop := emitManyRow.holds Try.pinned (OpenSpec.ofChange emitManyWrong)

/-- 'pascalinelaw17.EmitLands': WHATEVER THE INPUT: true; the input reads as it did. -/
def emitLandsSpec : ChangeSpec := { name := "emitLands", fn := fun _ => fun
  | [d1, d2] => { results := [.lit (.bool true)], args := [d1, d2] }
  | _ => none }
def emitLandsRow : OpenClaim := { program := "ytdfdjhimecmkfaa", sum := "d665c525888b8273b0a07f5d6e134fbf8e49d45a76dc5ca6c26c8484aff7ce8c", func := "pascaline/pascalinelaw17.EmitLands", spec := "emitLands", apart := false }
def EmitLandsSaid : Prop := emitLandsRow.holds Try.pinned (OpenSpec.ofChange emitLandsSpec)

/-- ITS FALSE NEIGHBOUR: 'it returns false'. Refute it at one input. -/
def emitLandsWrong : ChangeSpec := { name := "emitLands", fn := fun _ => fun
  | [d1, d2] => { results := [.lit (.bool false)], args := [d1, d2] }
  | _ => none }
def EmitLandsWrongFalsely : Prop := emitLandsRow.holds Try.pinned (OpenSpec.ofChange emitLandsWrong)

/-- 'pascalinelaw17.EmitPlays': WHATEVER THE INPUT: true; the input reads as it did. -/
def emitPlaysSpec : ChangeSpec := { name := "emitPlays", fn := fun _ => fun
  | [d] => { results := [.lit (.bool true)], args := [d] }
  | _ => none }
def emitPlaysRow : OpenClaim := { program := "ytdfdjhimecmkfaa", sum := "d665c525888b8273b0a07f5d6e134fbf8e49d45a76dc5ca6c26c8484aff7ce8c", func := "pascaline/pascalinelaw17.EmitPlays", spec := "emitPlays", apart := false }
def EmitPlaysSaid : Prop := emitPlaysRow.holds Try.pinned (OpenSpec.ofChange emitPlaysSpec)

/-- ITS FALSE NEIGHBOUR: 'it returns false'. Refute it at one input. -/
def emitPlaysWrong : ChangeSpec := { name := "emitPlays", fn := fun _ => fun
  | [d] => { results := [.lit (.bool false)], args := [d] }
  | _ => none }
def EmitPlaysWrongFalsely : Prop := emitPlaysRow.holds Try.pinned (OpenSpec.ofChange emitPlaysWrong)

/- THE SECOND FORM. 'bulk': how many values and letters a reading holds, each counted each time it is reached (what is shared counts as often as it is met; a slice's spare places count too). A statement '..UptoSaid' is the law's where the arguments, and the package variables that the reading takes, are together of bulk at most 1048576: NARROWER than '..Said'. Prove '..Said' where nothing that the law and all that it calls make is longer than what came in: it says more and counts as full. Else prove '..UptoSaid'. A law counts once. -/
mutual
def uptoBulk {H : Type} : DataW H → Nat
  | .lit (.string bytes) => bytes.length + 1
  | .lit _ => 1
  | .nil => 1
  | .ptr d => uptoBulk d + 1
  | .slice elems spare => uptoBulkAll elems + uptoBulkAll spare + 1
  | .agg parts => uptoBulkAll parts + 1
  | .iface _ d => uptoBulk d + 1
  | .map entries => uptoBulkEntries entries + 1
  | .held _ => 1
def uptoBulkAll {H : Type} : List (DataW H) → Nat
  | [] => 0
  | d :: r => uptoBulk d + uptoBulkAll r
def uptoBulkEntries {H : Type} : List (Lit × DataW H) → Nat
  | [] => 0
  | x :: r => uptoBulkEntry x + uptoBulkEntries r
def uptoBulkEntry {H : Type} : Lit × DataW H → Nat
  | (.string bytes, d) => bytes.length + uptoBulk d + 1
  | (_, d) => uptoBulk d + 1
 end
def uptoSmall : (H : Type) → List (DataW H) → Bool := fun _ ds => decide (uptoBulkAll ds ≤ 1048576)
def OpenSpec.upto (s : _root_.Go.ChangeSpec) : _root_.Go.OpenSpec := { _root_.Go.OpenSpec.ofChange s with cond := some uptoSmall }

/-- 'pascalinelaw03.MemoryPlays', WHERE WHAT IT READS IS OF BULK AT MOST 1048576: true; the input reads as it did. -/
def memoryPlaysUptoRow : OpenClaim := { program := "ytdfdjhimecmkfaa", sum := "d665c525888b8273b0a07f5d6e134fbf8e49d45a76dc5ca6c26c8484aff7ce8c", func := "pascaline/pascalinelaw03.MemoryPlays", spec := "memoryPlays", apart := false, narrowed := true }
def MemoryPlaysUptoSaid : Prop := memoryPlaysUptoRow.holds Try.pinned (OpenSpec.upto memoryPlaysSpec)

/-- 'pascalinelaw03.MemoryGuards', WHERE WHAT IT READS IS OF BULK AT MOST 1048576: true; the input reads as it did. -/
def memoryGuardsUptoRow : OpenClaim := { program := "ytdfdjhimecmkfaa", sum := "d665c525888b8273b0a07f5d6e134fbf8e49d45a76dc5ca6c26c8484aff7ce8c", func := "pascaline/pascalinelaw03.MemoryGuards", spec := "memoryGuards", apart := false, narrowed := true }
def MemoryGuardsUptoSaid : Prop := memoryGuardsUptoRow.holds Try.pinned (OpenSpec.upto memoryGuardsSpec)

/-- 'pascalinelaw03.MemoryDiffers', WHERE WHAT IT READS IS OF BULK AT MOST 1048576: true; the input reads as it did. -/
def memoryDiffersUptoRow : OpenClaim := { program := "ytdfdjhimecmkfaa", sum := "d665c525888b8273b0a07f5d6e134fbf8e49d45a76dc5ca6c26c8484aff7ce8c", func := "pascaline/pascalinelaw03.MemoryDiffers", spec := "memoryDiffers", apart := false, narrowed := true }
def MemoryDiffersUptoSaid : Prop := memoryDiffersUptoRow.holds Try.pinned (OpenSpec.upto memoryDiffersSpec)

/-- 'pascalinelaw09.TypesPlays', WHERE WHAT IT READS IS OF BULK AT MOST 1048576: true; the input reads as it did. -/
def typesPlaysUptoRow : OpenClaim := { program := "ytdfdjhimecmkfaa", sum := "d665c525888b8273b0a07f5d6e134fbf8e49d45a76dc5ca6c26c8484aff7ce8c", func := "pascaline/pascalinelaw09.TypesPlays", spec := "typesPlays", apart := false, narrowed := true }
def TypesPlaysUptoSaid : Prop := typesPlaysUptoRow.holds Try.pinned (OpenSpec.upto typesPlaysSpec)

/-- 'pascalinelaw09.TypesFit', WHERE WHAT IT READS IS OF BULK AT MOST 1048576: true; the input reads as it did. -/
def typesFitUptoRow : OpenClaim := { program := "ytdfdjhimecmkfaa", sum := "d665c525888b8273b0a07f5d6e134fbf8e49d45a76dc5ca6c26c8484aff7ce8c", func := "pascaline/pascalinelaw09.TypesFit", spec := "typesFit", apart := false, narrowed := true }
def TypesFitUptoSaid : Prop := typesFitUptoRow.holds Try.pinned (OpenSpec.upto typesFitSpec)

/-- 'pascalinelaw03.MemoryTells', WHERE WHAT IT READS IS OF BULK AT MOST 1048576: true; the input reads as it did. -/
def memoryTellsUptoRow : OpenClaim := { program := "ytdfdjhimecmkfaa", sum := "d665c525888b8273b0a07f5d6e134fbf8e49d45a76dc5ca6c26c8484aff7ce8c", func := "pascaline/pascalinelaw03.MemoryTells", spec := "memoryTells", apart := false, narrowed := true }
def MemoryTellsUptoSaid : Prop := memoryTellsUptoRow.holds Try.pinned (OpenSpec.upto memoryTellsSpec)

/-- 'pascalinelaw09.TypesTells', WHERE WHAT IT READS IS OF BULK AT MOST 1048576: true; the input reads as it did. -/
def typesTellsUptoRow : OpenClaim := { program := "ytdfdjhimecmkfaa", sum := "d665c525888b8273b0a07f5d6e134fbf8e49d45a76dc5ca6c26c8484aff7ce8c", func := "pascaline/pascalinelaw09.TypesTells", spec := "typesTells", apart := false, narrowed := true }
def TypesTellsUptoSaid : Prop := typesTellsUptoRow.holds Try.pinned (OpenSpec.upto typesTellsSpec)

/-- 'pascalinelaw17.EmitMany', WHERE WHAT IT READS IS OF BULK AT MOST 1048576: true; the input reads as it did. -/
def emitManyUptoRow : OpenClaim := { program := "ytdfdjhimecmkfaa", sum := "d665c525888b8273b0a07f5d6e134fbf8e49d45a76dc5ca6c26c8484aff7ce8c", func := "pascaline/pascalinelaw17.EmitMany", spec := "emitMany", apart := false, narrowed := true }
def EmitManyUptoSaid : Prop := emitManyUptoRow.holds Try.pinned (OpenSpec.upto emitManySpec)

/-- 'pascalinelaw17.EmitLands', WHERE WHAT IT READS IS OF BULK AT MOST 1048576: true; the input reads as it did. -/
def emitLandsUptoRow : OpenClaim := { program := "ytdfdjhimecmkfaa", sum := "d665c525888b8273b0a07f5d6e134fbf8e49d45a76dc5ca6c26c8484aff7ce8c", func := "pascaline/pascalinelaw17.EmitLands", spec := "emitLands", apart := false, narrowed := true }
def EmitLandsUptoSaid : Prop := emitLandsUptoRow.holds Try.pinned (OpenSpec.upto emitLandsSpec)

/-- 'pascalinelaw17.EmitPlays', WHERE WHAT IT READS IS OF BULK AT MOST 1048576: true; the input reads as it did. -/
def emitPlaysUptoRow : OpenClaim := { program := "ytdfdjhimecmkfaa", sum := "d665c525888b8273b0a07f5d6e134fbf8e49d45a76dc5ca6c26c8484aff7ce8c", func := "pascaline/pascalinelaw17.EmitPlays", spec := "emitPlays", apart := false, narrowed := true }
def EmitPlaysUptoSaid : Prop := emitPlaysUptoRow.holds Try.pinned (OpenSpec.upto emitPlaysSpec)

end Rows
end Go.Proofs.Ytdfdjhimecmkfaa
