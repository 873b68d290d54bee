/-
  DERIVED. GIVEN WITH THE SEED: THE CARDS: each row of YthgichbbgocmoaaGreatDoorRows.lean that lists a variable, with what it lists TIED to the program's text (the seventh form; the later family's looks); each row that meets fmt, with fmt's text TOLD by the authors' own Lean function (tested against real Go, not proved from fmt's source: count such statements apart). THE CARD IS WHAT COUNTS. Prove the row's statement (the work); the ties are given (YthgichbbgocmoaaGreatDoorTie.lean); close each card by the builder's one call (the guide's Derived/Test/ToyasCard.lean, 'card_holds'). Laid BY PROGRAM, IN A SANDBOX (cutbox-door.mjs). By AI agents, Wed Nov 11 2026. No macro, syntax, notation, axiom, sorry.
-/
import Derived.Test.YthgichbbgocmoaaGreatDoorRows
import GoSem.ClaimSeven
namespace Go.Proofs.YthgichbbgocmoaaGreatDoor
namespace Rows

/-- THE TIED CARD OF 'brocadelaw36.SplitRuns'. -/
def splitRunsCard : Claim7 := { stood := { row := splitRunsRow, standIns := [], harness := (true, "379b5d39f51fd452c1375bbd53fc3e8a97795e4ac5f697132d5485ea61ca23e0"), looks := false }, kinds := [], alts := [], laidByText := true, laidKinds := [.listed, .data], laidTests := true, laidLooks := .later }
def SplitRunsCardSaid : Prop := Claim7.holds Tryz.pinned (.plain (OpenSpec.ofChange splitRunsSpec)) splitRunsCard

/-- THE TIED CARD OF 'brocadelaw36.SplitGuardsRedundant'. -/
def splitGuardsRedundantCard : Claim7 := { stood := { row := splitGuardsRedundantRow, standIns := [], harness := (true, "379b5d39f51fd452c1375bbd53fc3e8a97795e4ac5f697132d5485ea61ca23e0"), looks := false }, kinds := [], alts := [], laidByText := true, laidKinds := [.listed, .data], laidTests := true, laidLooks := .later }
def SplitGuardsRedundantCardSaid : Prop := Claim7.holds Tryz.pinned (.plain (OpenSpec.ofChange splitGuardsRedundantSpec)) splitGuardsRedundantCard

/-- THE SECOND FORM's CARD OF 'brocadelaw36.SplitRuns'. -/
def splitRunsUptoCard : Claim7 := { stood := { row := splitRunsUptoRow, standIns := [], harness := (true, "379b5d39f51fd452c1375bbd53fc3e8a97795e4ac5f697132d5485ea61ca23e0"), looks := false }, kinds := [], alts := [], laidByText := true, laidKinds := [.listed, .data], laidTests := true, laidLooks := .later }
def SplitRunsUptoCardSaid : Prop := Claim7.holds Tryz.pinned (.plain (OpenSpec.upto splitRunsSpec)) splitRunsUptoCard

/-- THE SECOND FORM's CARD OF 'brocadelaw36.SplitGuardsRedundant'. -/
def splitGuardsRedundantUptoCard : Claim7 := { stood := { row := splitGuardsRedundantUptoRow, standIns := [], harness := (true, "379b5d39f51fd452c1375bbd53fc3e8a97795e4ac5f697132d5485ea61ca23e0"), looks := false }, kinds := [], alts := [], laidByText := true, laidKinds := [.listed, .data], laidTests := true, laidLooks := .later }
def SplitGuardsRedundantUptoCardSaid : Prop := Claim7.holds Tryz.pinned (.plain (OpenSpec.upto splitGuardsRedundantSpec)) splitGuardsRedundantUptoCard
end Rows
end Go.Proofs.YthgichbbgocmoaaGreatDoor
