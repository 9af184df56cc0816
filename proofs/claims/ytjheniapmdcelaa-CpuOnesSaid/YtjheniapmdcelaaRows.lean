/-
  No cell of these rows narrows 'for every input' (looked for: loops, veiled, ifaces, maps, wideKeys, modest, calm, conditions, laid).
  DERIVED. THE GIVEN ROWS OF THIS SEAT. 11 by the template 'for every input the law returns true; each argument reads behind the call as it read before'; 0 by the template 'total and deterministic' (their statements: YtjheniapmdcelaaTotals.lean).
  GIVEN WITH THE SEED: the statements are not yours to turn. If you find one false, say at which input.
  Laid BY PROGRAM, IN A SANDBOX (cutbox-rows.mjs): the forced cells as the released guide's own fill.sh prints them over the translation 5bea633fbc6c2210… (all of the seat's roots in one cut). By AI agents, Wed Nov 11 2026. No macro, syntax, notation, axiom, sorry.
-/
import Derived.Test.YtjheniapmdcelaaChecked
import GoSem.Claim
import GoSem.ClaimJoined
import GoSem.ClaimMapViews
import Derived.JoinedTies
import Derived.KernelRfl
namespace Go.Proofs.Ytjheniapmdcelaa
/- THE CELL 'sum', in the pinned program and in every row, IS THE sha256 OF THE DUMP (.gsa) THAT YtjheniapmdcelaaProg.lean LOADS. Nothing in Lean hashes anything: it is a label: what it is worth is what the hold of that sum in a sandbox is worth. -/
noncomputable def Try.pinned : Pinned := { name := "ytjheniapmdcelaa", sum := "5bea633fbc6c2210483b6fac58252a160ecc5f1bdc03a361d25debef5f5ed71e", checked := Try.checked }
namespace Rows
def none {H : Type} : Left H := { results := [], args := [] }

/-- 'pascalinelaw19.ItemTwo': WHATEVER THE INPUT: true; the input reads as it did. -/
def itemTwoSpec : ChangeSpec := { name := "itemTwo", fn := fun _ => fun
  | [d1, d2, d3] => { results := [.lit (.bool true)], args := [d1, d2, d3] }
  | _ => none }
def itemTwoRow : OpenClaim := { program := "ytjheniapmdcelaa", sum := "5bea633fbc6c2210483b6fac58252a160ecc5f1bdc03a361d25debef5f5ed71e", func := "pascaline/pascalinelaw19.ItemTwo", spec := "itemTwo", apart := false }
def ItemTwoSaid : Prop := itemTwoRow.holds Try.pinned (OpenSpec.ofChange itemTwoSpec)

/-- ITS FALSE NEIGHBOUR: 'it returns false'. Refute it at one input. -/
def itemTwoWrong : ChangeSpec := { name := "itemTwo", fn := fun _ => fun
  | [d1, d2, d3] => { results := [.lit (.bool false)], args := [d1, d2, d3] }
  | _ => none }
def ItemTwoWrongFalsely : Prop := itemTwoRow.holds Try.pinned (OpenSpec.ofChange itemTwoWrong)

/-- 'pascalinelaw19.ItemWaits': WHATEVER THE INPUT: true; the input reads as it did. -/
def itemWaitsSpec : ChangeSpec := { name := "itemWaits", fn := fun _ => fun
  | [d] => { results := [.lit (.bool true)], args := [d] }
  | _ => none }
def itemWaitsRow : OpenClaim := { program := "ytjheniapmdcelaa", sum := "5bea633fbc6c2210483b6fac58252a160ecc5f1bdc03a361d25debef5f5ed71e", func := "pascaline/pascalinelaw19.ItemWaits", spec := "itemWaits", apart := false }
def ItemWaitsSaid : Prop := itemWaitsRow.holds Try.pinned (OpenSpec.ofChange itemWaitsSpec)

/-- ITS FALSE NEIGHBOUR: 'it returns false'. Refute it at one input. -/
def itemWaitsWrong : ChangeSpec := { name := "itemWaits", fn := fun _ => fun
  | [d] => { results := [.lit (.bool false)], args := [d] }
  | _ => none }
def ItemWaitsWrongFalsely : Prop := itemWaitsRow.holds Try.pinned (OpenSpec.ofChange itemWaitsWrong)

/-- 'pascalinelaw19.ItemPlaces': WHATEVER THE INPUT: true; the input reads as it did. -/
def itemPlacesSpec : ChangeSpec := { name := "itemPlaces", fn := fun _ => fun
  | [d1, d2, d3] => { results := [.lit (.bool true)], args := [d1, d2, d3] }
  | _ => none }
def itemPlacesRow : OpenClaim := { program := "ytjheniapmdcelaa", sum := "5bea633fbc6c2210483b6fac58252a160ecc5f1bdc03a361d25debef5f5ed71e", func := "pascaline/pascalinelaw19.ItemPlaces", spec := "itemPlaces", apart := false }
def ItemPlacesSaid : Prop := itemPlacesRow.holds Try.pinned (OpenSpec.ofChange itemPlacesSpec)

/-- ITS FALSE NEIGHBOUR: 'it returns false'. Refute it at one input. -/
def itemPlacesWrong : ChangeSpec := { name := "itemPlaces", fn := fun _ => fun
  | [d1, d2, d3] => { results := [.lit (.bool false)], args := [d1, d2, d3] }
  | _ => none }
def ItemPlacesWrongFalsely : Prop := itemPlacesRow.holds Try.pinned (OpenSpec.ofChange itemPlacesWrong)

/-- 'pascalinelaw19.ItemOne': WHATEVER THE INPUT: true; the input reads as it did. -/
def itemOneSpec : ChangeSpec := { name := "itemOne", fn := fun _ => fun
  | [d1, d2] => { results := [.lit (.bool true)], args := [d1, d2] }
  | _ => none }
def itemOneRow : OpenClaim := { program := "ytjheniapmdcelaa", sum := "5bea633fbc6c2210483b6fac58252a160ecc5f1bdc03a361d25debef5f5ed71e", func := "pascaline/pascalinelaw19.ItemOne", spec := "itemOne", apart := false }
def ItemOneSaid : Prop := itemOneRow.holds Try.pinned (OpenSpec.ofChange itemOneSpec)

/-- ITS FALSE NEIGHBOUR: 'it returns false'. Refute it at one input. -/
def itemOneWrong : ChangeSpec := { name := "itemOne", fn := fun _ => fun
  | [d1, d2] => { results := [.lit (.bool false)], args := [d1, d2] }
  | _ => none }
def ItemOneWrongFalsely : Prop := itemOneRow.holds Try.pinned (OpenSpec.ofChange itemOneWrong)

/-- 'pascalinelaw19.ItemOuts': WHATEVER THE INPUT: true; the input reads as it did. -/
def itemOutsSpec : ChangeSpec := { name := "itemOuts", fn := fun _ => fun
  | [d1, d2, d3] => { results := [.lit (.bool true)], args := [d1, d2, d3] }
  | _ => none }
def itemOutsRow : OpenClaim := { program := "ytjheniapmdcelaa", sum := "5bea633fbc6c2210483b6fac58252a160ecc5f1bdc03a361d25debef5f5ed71e", func := "pascaline/pascalinelaw19.ItemOuts", spec := "itemOuts", apart := false }
def ItemOutsSaid : Prop := itemOutsRow.holds Try.pinned (OpenSpec.ofChange itemOutsSpec)

/-- ITS FALSE NEIGHBOUR: 'it returns false'. Refute it at one input. -/
def itemOutsWrong : ChangeSpec := { name := "itemOuts", fn := fun _ => fun
  | [d1, d2, d3] => { results := [.lit (.bool false)], args := [d1, d2, d3] }
  | _ => none }
def ItemOutsWrongFalsely : Prop := itemOutsRow.holds Try.pinned (OpenSpec.ofChange itemOutsWrong)

/-- 'pascalinelaw19.ItemReaches': WHATEVER THE INPUT: true; the input reads as it did. -/
def itemReachesSpec : ChangeSpec := { name := "itemReaches", fn := fun _ => fun
  | [d1, d2, d3] => { results := [.lit (.bool true)], args := [d1, d2, d3] }
  | _ => none }
def itemReachesRow : OpenClaim := { program := "ytjheniapmdcelaa", sum := "5bea633fbc6c2210483b6fac58252a160ecc5f1bdc03a361d25debef5f5ed71e", func := "pascaline/pascalinelaw19.ItemReaches", spec := "itemReaches", apart := false }
def ItemReachesSaid : Prop := itemReachesRow.holds Try.pinned (OpenSpec.ofChange itemReachesSpec)

/-- ITS FALSE NEIGHBOUR: 'it returns false'. Refute it at one input. -/
def itemReachesWrong : ChangeSpec := { name := "itemReaches", fn := fun _ => fun
  | [d1, d2, d3] => { results := [.lit (.bool false)], args := [d1, d2, d3] }
  | _ => none }
def ItemReachesWrongFalsely : Prop := itemReachesRow.holds Try.pinned (OpenSpec.ofChange itemReachesWrong)

/-- 'pascalinelaw19.ItemCells': WHATEVER THE INPUT: true; the input reads as it did. -/
def itemCellsSpec : ChangeSpec := { name := "itemCells", fn := fun _ => fun
  | [d1, d2] => { results := [.lit (.bool true)], args := [d1, d2] }
  | _ => none }
def itemCellsRow : OpenClaim := { program := "ytjheniapmdcelaa", sum := "5bea633fbc6c2210483b6fac58252a160ecc5f1bdc03a361d25debef5f5ed71e", func := "pascaline/pascalinelaw19.ItemCells", spec := "itemCells", apart := false }
def ItemCellsSaid : Prop := itemCellsRow.holds Try.pinned (OpenSpec.ofChange itemCellsSpec)

/-- ITS FALSE NEIGHBOUR: 'it returns false'. Refute it at one input. -/
def itemCellsWrong : ChangeSpec := { name := "itemCells", fn := fun _ => fun
  | [d1, d2] => { results := [.lit (.bool false)], args := [d1, d2] }
  | _ => none }
def ItemCellsWrongFalsely : Prop := itemCellsRow.holds Try.pinned (OpenSpec.ofChange itemCellsWrong)

/-- 'pascalinelaw19.ItemCalls': WHATEVER THE INPUT: true; the input reads as it did. -/
def itemCallsSpec : ChangeSpec := { name := "itemCalls", fn := fun _ => fun
  | [d1, d2, d3] => { results := [.lit (.bool true)], args := [d1, d2, d3] }
  | _ => none }
def itemCallsRow : OpenClaim := { program := "ytjheniapmdcelaa", sum := "5bea633fbc6c2210483b6fac58252a160ecc5f1bdc03a361d25debef5f5ed71e", func := "pascaline/pascalinelaw19.ItemCalls", spec := "itemCalls", apart := false }
def ItemCallsSaid : Prop := itemCallsRow.holds Try.pinned (OpenSpec.ofChange itemCallsSpec)

/-- ITS FALSE NEIGHBOUR: 'it returns false'. Refute it at one input. -/
def itemCallsWrong : ChangeSpec := { name := "itemCalls", fn := fun _ => fun
  | [d1, d2, d3] => { results := [.lit (.bool false)], args := [d1, d2, d3] }
  | _ => none }
def ItemCallsWrongFalsely : Prop := itemCallsRow.holds Try.pinned (OpenSpec.ofChange itemCallsWrong)

/-- 'pascalinelaw04.CpuOnes': WHATEVER THE INPUT: true; the input reads as it did. -/
def cpuOnesSpec : ChangeSpec := { name := "cpuOnes", fn := fun _ => fun
  | [d1, d2] => { results := [.lit (.bool true)], args := [d1, d2] }
  | _ => none }
def cpuOnesRow : OpenClaim := { program := "ytjheniapmdcelaa", sum := "5bea633fbc6c2210483b6fac58252a160ecc5f1bdc03a361d25debef5f5ed71e", func := "pascaline/pascalinelaw04.CpuOnes", spec := "cpuOnes", apart := false }
def CpuOnesSaid : Prop := cpuOnesRow.holds Try.pinned (OpenSpec.ofChange cpuOnesSpec)

/-- ITS FALSE NEIGHBOUR: 'it returns false'. Refute it at one input. -/
def cpuOnesWrong : ChangeSpec := { name := "cpuOnes", fn := fun _ => fun
  | [d1, d2] => { results := [.lit (.bool false)], args := [d1, d2] }
  | _ => none }
def CpuOnesWrongFalsely : Prop := cpuOnesRow.holds Try.pinned (OpenSpec.ofChange cpuOnesWrong)

/-- 'pascalinelaw04.CpuSteps': WHATEVER THE INPUT: true; the input reads as it did. -/
def cpuStepsSpec : ChangeSpec := { name := "cpuSteps", fn := fun _ => fun
  | [d] => { results := [.lit (.bool true)], args := [d] }
  | _ => none }
def cpuStepsRow : OpenClaim := { program := "ytjheniapmdcelaa", sum := "5bea633fbc6c2210483b6fac58252a160ecc5f1bdc03a361d25debef5f5ed71e", func := "pascaline/pascalinelaw04.CpuSteps", spec := "cpuSteps", apart := false }
def CpuStepsSaid : Prop := cpuStepsRow.holds Try.pinned (OpenSpec.ofChange cpuStepsSpec)

/-- ITS FALSE NEIGHBOUR: 'it returns false'. Refute it at one input. -/
def cpuStepsWrong : ChangeSpec := { name := "cpuSteps", fn := fun _ => fun
  | [d] => { results := [.lit (.bool false)], args := [d] }
  | _ => none }
def CpuStepsWrongFalsely : Prop := cpuStepsRow.holds Try.pinned (OpenSpec.ofChange cpuStepsWrong)

/-- 'pascalinelaw04.CpuParts': WHATEVER THE INPUT: true; the input reads as it did. -/
def cpuPartsSpec : ChangeSpec := { name := "cpuParts", fn := fun _ => fun
  | [d1, d2, d3] => { results := [.lit (.bool true)], args := [d1, d2, d3] }
  | _ => none }
def cpuPartsRow : OpenClaim := { program := "ytjheniapmdcelaa", sum := "5bea633fbc6c2210483b6fac58252a160ecc5f1bdc03a361d25debef5f5ed71e", func := "pascaline/pascalinelaw04.CpuParts", spec := "cpuParts", apart := false }
def CpuPartsSaid : Prop := cpuPartsRow.holds Try.pinned (OpenSpec.ofChange cpuPartsSpec)

/-- ITS FALSE NEIGHBOUR: 'it returns false'. Refute it at one input. -/
def cpuPartsWrong : ChangeSpec := { name := "cpuParts", fn := fun _ => fun
  | [d1, d2, d3] => { results := [.lit (.bool false)], args := [d1, d2, d3] }
  | _ => none }
def CpuPartsWrongFalsely : Prop := cpuPartsRow.holds Try.pinned (OpenSpec.ofChange cpuPartsWrong)

/- THE SECOND FORM. 'bulk': how many values and letters a reading holds, each counted each time it is reached (what is shared counts as often as it is met; a slice's spare places count too). A statement '..UptoSaid' is the law's where the arguments, and the package variables that the reading takes, are together of bulk at most 1048576: NARROWER than '..Said'. Prove '..Said' where nothing that the law and all that it calls make is longer than what came in: it says more and counts as full. Else prove '..UptoSaid'. A law counts once. -/
mutual
def uptoBulk {H : Type} : DataW H → Nat
  | .lit (.string bytes) => bytes.length + 1
  | .lit _ => 1
  | .nil => 1
  | .ptr d => uptoBulk d + 1
  | .slice elems spare => uptoBulkAll elems + uptoBulkAll spare + 1
  | .agg parts => uptoBulkAll parts + 1
  | .iface _ d => uptoBulk d + 1
  | .map entries => uptoBulkEntries entries + 1
  | .held _ => 1
def uptoBulkAll {H : Type} : List (DataW H) → Nat
  | [] => 0
  | d :: r => uptoBulk d + uptoBulkAll r
def uptoBulkEntries {H : Type} : List (Lit × DataW H) → Nat
  | [] => 0
  | x :: r => uptoBulkEntry x + uptoBulkEntries r
def uptoBulkEntry {H : Type} : Lit × DataW H → Nat
  | (.string bytes, d) => bytes.length + uptoBulk d + 1
  | (_, d) => uptoBulk d + 1
 end
def uptoSmall : (H : Type) → List (DataW H) → Bool := fun _ ds => decide (uptoBulkAll ds ≤ 1048576)
def OpenSpec.upto (s : _root_.Go.ChangeSpec) : _root_.Go.OpenSpec := { _root_.Go.OpenSpec.ofChange s with cond := some uptoSmall }

/-- 'pascalinelaw19.ItemTwo', WHERE WHAT IT READS IS OF BULK AT MOST 1048576: true; the input reads as it did. -/
def itemTwoUptoRow : OpenClaim := { program := "ytjheniapmdcelaa", sum := "5bea633fbc6c2210483b6fac58252a160ecc5f1bdc03a361d25debef5f5ed71e", func := "pascaline/pascalinelaw19.ItemTwo", spec := "itemTwo", apart := false, narrowed := true }
def ItemTwoUptoSaid : Prop := itemTwoUptoRow.holds Try.pinned (OpenSpec.upto itemTwoSpec)

/-- 'pascalinelaw19.ItemWaits', WHERE WHAT IT READS IS OF BULK AT MOST 1048576: true; the input reads as it did. -/
def itemWaitsUptoRow : OpenClaim := { program := "ytjheniapmdcelaa", sum := "5bea633fbc6c2210483b6fac58252a160ecc5f1bdc03a361d25debef5f5ed71e", func := "pascaline/pascalinelaw19.ItemWaits", spec := "itemWaits", apart := false, narrowed := true }
def ItemWaitsUptoSaid : Prop := itemWaitsUptoRow.holds Try.pinned (OpenSpec.upto itemWaitsSpec)

/-- 'pascalinelaw19.ItemPlaces', WHERE WHAT IT READS IS OF BULK AT MOST 1048576: true; the input reads as it did. -/
def itemPlacesUptoRow : OpenClaim := { program := "ytjheniapmdcelaa", sum := "5bea633fbc6c2210483b6fac58252a160ecc5f1bdc03a361d25debef5f5ed71e", func := "pascaline/pascalinelaw19.ItemPlaces", spec := "itemPlaces", apart := false, narrowed := true }
def ItemPlacesUptoSaid : Prop := itemPlacesUptoRow.holds Try.pinned (OpenSpec.upto itemPlacesSpec)

/-- 'pascalinelaw19.ItemOne', WHERE WHAT IT READS IS OF BULK AT MOST 1048576: true; the input reads as it did. -/
def itemOneUptoRow : OpenClaim := { program := "ytjheniapmdcelaa", sum := "5bea633fbc6c2210483b6fac58252a160ecc5f1bdc03a361d25debef5f5ed71e", func := "pascaline/pascalinelaw19.ItemOne", spec := "itemOne", apart := false, narrowed := true }
def ItemOneUptoSaid : Prop := itemOneUptoRow.holds Try.pinned (OpenSpec.upto itemOneSpec)

/-- 'pascalinelaw19.ItemOuts', WHERE WHAT IT READS IS OF BULK AT MOST 1048576: true; the input reads as it did. -/
def itemOutsUptoRow : OpenClaim := { program := "ytjheniapmdcelaa", sum := "5bea633fbc6c2210483b6fac58252a160ecc5f1bdc03a361d25debef5f5ed71e", func := "pascaline/pascalinelaw19.ItemOuts", spec := "itemOuts", apart := false, narrowed := true }
def ItemOutsUptoSaid : Prop := itemOutsUptoRow.holds Try.pinned (OpenSpec.upto itemOutsSpec)

/-- 'pascalinelaw19.ItemReaches', WHERE WHAT IT READS IS OF BULK AT MOST 1048576: true; the input reads as it did. -/
def itemReachesUptoRow : OpenClaim := { program := "ytjheniapmdcelaa", sum := "5bea633fbc6c2210483b6fac58252a160ecc5f1bdc03a361d25debef5f5ed71e", func := "pascaline/pascalinelaw19.ItemReaches", spec := "itemReaches", apart := false, narrowed := true }
def ItemReachesUptoSaid : Prop := itemReachesUptoRow.holds Try.pinned (OpenSpec.upto itemReachesSpec)

/-- 'pascalinelaw19.ItemCells', WHERE WHAT IT READS IS OF BULK AT MOST 1048576: true; the input reads as it did. -/
def itemCellsUptoRow : OpenClaim := { program := "ytjheniapmdcelaa", sum := "5bea633fbc6c2210483b6fac58252a160ecc5f1bdc03a361d25debef5f5ed71e", func := "pascaline/pascalinelaw19.ItemCells", spec := "itemCells", apart := false, narrowed := true }
def ItemCellsUptoSaid : Prop := itemCellsUptoRow.holds Try.pinned (OpenSpec.upto itemCellsSpec)

/-- 'pascalinelaw19.ItemCalls', WHERE WHAT IT READS IS OF BULK AT MOST 1048576: true; the input reads as it did. -/
def itemCallsUptoRow : OpenClaim := { program := "ytjheniapmdcelaa", sum := "5bea633fbc6c2210483b6fac58252a160ecc5f1bdc03a361d25debef5f5ed71e", func := "pascaline/pascalinelaw19.ItemCalls", spec := "itemCalls", apart := false, narrowed := true }
def ItemCallsUptoSaid : Prop := itemCallsUptoRow.holds Try.pinned (OpenSpec.upto itemCallsSpec)

/-- 'pascalinelaw04.CpuOnes', WHERE WHAT IT READS IS OF BULK AT MOST 1048576: true; the input reads as it did. -/
def cpuOnesUptoRow : OpenClaim := { program := "ytjheniapmdcelaa", sum := "5bea633fbc6c2210483b6fac58252a160ecc5f1bdc03a361d25debef5f5ed71e", func := "pascaline/pascalinelaw04.CpuOnes", spec := "cpuOnes", apart := false, narrowed := true }
def CpuOnesUptoSaid : Prop := cpuOnesUptoRow.holds Try.pinned (OpenSpec.upto cpuOnesSpec)

/-- 'pascalinelaw04.CpuSteps', WHERE WHAT IT READS IS OF BULK AT MOST 1048576: true; the input reads as it did. -/
def cpuStepsUptoRow : OpenClaim := { program := "ytjheniapmdcelaa", sum := "5bea633fbc6c2210483b6fac58252a160ecc5f1bdc03a361d25debef5f5ed71e", func := "pascaline/pascalinelaw04.CpuSteps", spec := "cpuSteps", apart := false, narrowed := true }
def CpuStepsUptoSaid : Prop := cpuStepsUptoRow.holds Try.pinned (OpenSpec.upto cpuStepsSpec)

/-- 'pascalinelaw04.CpuParts', WHERE WHAT IT READS IS OF BULK AT MOST 1048576: true; the input reads as it did. -/
def cpuPartsUptoRow : OpenClaim := { program := "ytjheniapmdcelaa", sum := "5bea633fbc6c2210483b6fac58252a160ecc5f1bdc03a361d25debef5f5ed71e", func := "pascaline/pascalinelaw04.CpuParts", spec := "cpuParts", apart := false, narrowed := true }
def CpuPartsUptoSaid : Prop := cpuPartsUptoRow.holds Try.pinned (OpenSpec.upto cpuPartsSpec)

end Rows
end Go.Proofs.Ytjheniapmdcelaa
