/-
  DERIVED. GIVEN WITH THE SEED: THE CARDS: each row of YtjondopapanmkaaDoorRows.lean that lists a variable, with what it lists TIED to the program's text (the seventh form; the later family's looks); each row that meets fmt, with fmt's text TOLD by the authors' own Lean function (tested against real Go, not proved from fmt's source: count such statements apart). THE CARD IS WHAT COUNTS. Prove the row's statement (the work); the ties are given (YtjondopapanmkaaDoorTie.lean); close each card by the builder's one call (the guide's Derived/Test/ToyasCard.lean, 'card_holds'). Laid BY PROGRAM, IN A SANDBOX (cutbox-door.mjs). By AI agents, Wed Nov 11 2026. No macro, syntax, notation, axiom, sorry.
-/
import Derived.Test.YtjondopapanmkaaDoorRows
import GoSem.ClaimSeven
namespace Go.Proofs.YtjondopapanmkaaDoor
namespace Rows

/-- THE TIED CARD OF 'pascalinelaw24.RuntimeBuilds'. -/
def runtimeBuildsCard : Claim7 := { stood := { row := runtimeBuildsRow, standIns := [], harness := (true, "f21caafabf3e20c328946dcf451ed0f770cf30dcfb52339219119d956fe9eec4"), looks := false }, kinds := [], alts := [], laidByText := true, laidKinds := [.data, .pinned], laidTests := true, laidLooks := .later }
def RuntimeBuildsCardSaid : Prop := Claim7.holds Tryd.pinned (.plain (OpenSpec.ofChange runtimeBuildsSpec)) runtimeBuildsCard

/-- THE TIED CARD OF 'pascalinelaw24.RuntimeUnwinds'. -/
def runtimeUnwindsCard : Claim7 := { stood := { row := runtimeUnwindsRow, standIns := [], harness := (true, "f21caafabf3e20c328946dcf451ed0f770cf30dcfb52339219119d956fe9eec4"), looks := false }, kinds := [], alts := [], laidByText := true, laidKinds := [.data, .pinned], laidTests := true, laidLooks := .later }
def RuntimeUnwindsCardSaid : Prop := Claim7.holds Tryd.pinned (.plain (OpenSpec.ofChange runtimeUnwindsSpec)) runtimeUnwindsCard

/-- THE SECOND FORM's CARD OF 'pascalinelaw24.RuntimeBuilds'. -/
def runtimeBuildsUptoCard : Claim7 := { stood := { row := runtimeBuildsUptoRow, standIns := [], harness := (true, "f21caafabf3e20c328946dcf451ed0f770cf30dcfb52339219119d956fe9eec4"), looks := false }, kinds := [], alts := [], laidByText := true, laidKinds := [.data, .pinned], laidTests := true, laidLooks := .later }
def RuntimeBuildsUptoCardSaid : Prop := Claim7.holds Tryd.pinned (.plain (OpenSpec.upto runtimeBuildsSpec)) runtimeBuildsUptoCard

/-- THE SECOND FORM's CARD OF 'pascalinelaw24.RuntimeUnwinds'. -/
def runtimeUnwindsUptoCard : Claim7 := { stood := { row := runtimeUnwindsUptoRow, standIns := [], harness := (true, "f21caafabf3e20c328946dcf451ed0f770cf30dcfb52339219119d956fe9eec4"), looks := false }, kinds := [], alts := [], laidByText := true, laidKinds := [.data, .pinned], laidTests := true, laidLooks := .later }
def RuntimeUnwindsUptoCardSaid : Prop := Claim7.holds Tryd.pinned (.plain (OpenSpec.upto runtimeUnwindsSpec)) runtimeUnwindsUptoCard
end Rows
end Go.Proofs.YtjondopapanmkaaDoor
