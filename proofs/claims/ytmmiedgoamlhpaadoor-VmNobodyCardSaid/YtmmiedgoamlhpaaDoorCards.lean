/-
  DERIVED. GIVEN WITH THE SEED: THE CARDS: each row of YtmmiedgoamlhpaaDoorRows.lean that lists a variable, with what it lists TIED to the program's text (the seventh form; the later family's looks); each row that meets fmt, with fmt's text TOLD by the authors' own Lean function (tested against real Go, not proved from fmt's source: count such statements apart). THE CARD IS WHAT COUNTS. Prove the row's statement (the work); the ties are given (YtmmiedgoamlhpaaDoorTie.lean); close each card by the builder's one call (the guide's Derived/Test/ToyasCard.lean, 'card_holds'). Laid BY PROGRAM, IN A SANDBOX (cutbox-door.mjs). By AI agents, Wed Nov 11 2026. No macro, syntax, notation, axiom, sorry.
-/
import Derived.Test.YtmmiedgoamlhpaaDoorRows
import GoSem.ClaimSeven
namespace Go.Proofs.YtmmiedgoamlhpaaDoor
namespace Rows

/-- THE TIED CARD OF 'brocadelaw49.VmNobody'. -/
def vmNobodyCard : Claim7 := { stood := { row := vmNobodyRow, standIns := [], harness := (true, "3e430e3d81b346c7b9bce8af5544a8bf9e8cff74d97660e91af9d3629a1ffd77"), looks := false }, kinds := [], alts := [], laidByText := true, laidKinds := [.data], laidTests := true, laidLooks := .later }
def VmNobodyCardSaid : Prop := Claim7.holds Tryd.pinned (.plain (OpenSpec.ofChange vmNobodySpec)) vmNobodyCard

/-- THE SECOND FORM's CARD OF 'brocadelaw49.VmNobody'. -/
def vmNobodyUptoCard : Claim7 := { stood := { row := vmNobodyUptoRow, standIns := [], harness := (true, "3e430e3d81b346c7b9bce8af5544a8bf9e8cff74d97660e91af9d3629a1ffd77"), looks := false }, kinds := [], alts := [], laidByText := true, laidKinds := [.data], laidTests := true, laidLooks := .later }
def VmNobodyUptoCardSaid : Prop := Claim7.holds Tryd.pinned (.plain (OpenSpec.upto vmNobodySpec)) vmNobodyUptoCard
end Rows
end Go.Proofs.YtmmiedgoamlhpaaDoor
