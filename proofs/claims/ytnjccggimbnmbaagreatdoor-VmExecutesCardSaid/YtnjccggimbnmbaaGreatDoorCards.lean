/-
  DERIVED. GIVEN WITH THE SEED: THE CARDS: each row of YtnjccggimbnmbaaGreatDoorRows.lean that lists a variable, with what it lists TIED to the program's text (the seventh form; the later family's looks); each row that meets fmt, with fmt's text TOLD by the authors' own Lean function (tested against real Go, not proved from fmt's source: count such statements apart). THE CARD IS WHAT COUNTS. Prove the row's statement (the work); the ties are given (YtnjccggimbnmbaaGreatDoorTie.lean); close each card by the builder's one call (the guide's Derived/Test/ToyasCard.lean, 'card_holds'). Laid BY PROGRAM, IN A SANDBOX (cutbox-door.mjs). By AI agents, Wed Nov 11 2026. No macro, syntax, notation, axiom, sorry.
-/
import Derived.Test.YtnjccggimbnmbaaGreatDoorRows
import GoSem.ClaimSeven
namespace Go.Proofs.YtnjccggimbnmbaaGreatDoor
namespace Rows

/-- THE TIED CARD OF 'brocadelaw49.VmExecutes'. -/
def vmExecutesCard : Claim7 := { stood := { row := vmExecutesRow, standIns := [], harness := (true, "0e8565fd7ca23bb7c7442575498694f9a51b5adde1d571afede7cc2865f9ef22"), looks := false }, kinds := [], alts := [], laidByText := true, laidKinds := [.listed, .data, .data], laidTests := true, laidLooks := .later }
def VmExecutesCardSaid : Prop := Claim7.holds Tryz.pinned (.plain (OpenSpec.ofChange vmExecutesSpec)) vmExecutesCard

/-- THE SECOND FORM's CARD OF 'brocadelaw49.VmExecutes'. -/
def vmExecutesUptoCard : Claim7 := { stood := { row := vmExecutesUptoRow, standIns := [], harness := (true, "0e8565fd7ca23bb7c7442575498694f9a51b5adde1d571afede7cc2865f9ef22"), looks := false }, kinds := [], alts := [], laidByText := true, laidKinds := [.listed, .data, .data], laidTests := true, laidLooks := .later }
def VmExecutesUptoCardSaid : Prop := Claim7.holds Tryz.pinned (.plain (OpenSpec.upto vmExecutesSpec)) vmExecutesUptoCard
end Rows
end Go.Proofs.YtnjccggimbnmbaaGreatDoor
