/-
  DERIVED. GIVEN WITH THE SEED: THE CARDS: each row of YtgfomfnjionbeaaGreatDoorRows.lean that lists a variable, with what it lists TIED to the program's text (the seventh form; the later family's looks); each row that meets fmt, with fmt's text TOLD by the authors' own Lean function (tested against real Go, not proved from fmt's source: count such statements apart). THE CARD IS WHAT COUNTS. Prove the row's statement (the work); the ties are given (YtgfomfnjionbeaaGreatDoorTie.lean); close each card by the builder's one call (the guide's Derived/Test/ToyasCard.lean, 'card_holds'). Laid BY PROGRAM, IN A SANDBOX (cutbox-door.mjs). By AI agents, Wed Nov 11 2026. No macro, syntax, notation, axiom, sorry.
-/
import Derived.Test.YtgfomfnjionbeaaGreatDoorRows
import GoSem.ClaimSeven
namespace Go.Proofs.YtgfomfnjionbeaaGreatDoor
namespace Rows

/-- THE TIED CARD OF 'brocadelaw32.LowerNames'. -/
def lowerNamesCard : Claim7 := { stood := { row := lowerNamesRow, standIns := [], harness := (true, "08608d5ab9d4bb5ba57cdde9807c5517e2f9e9a95244c52c522eb176dbcc49fe"), looks := false }, kinds := [], alts := [], laidByText := true, laidKinds := [.listed, .data], laidTests := true, laidLooks := .later }
def LowerNamesCardSaid : Prop := Claim7.holds Tryz.pinned (.plain (OpenSpec.ofChange lowerNamesSpec)) lowerNamesCard

/-- THE TIED CARD OF 'brocadelaw32.LowerDefs'. -/
def lowerDefsCard : Claim7 := { stood := { row := lowerDefsRow, standIns := [], harness := (true, "08608d5ab9d4bb5ba57cdde9807c5517e2f9e9a95244c52c522eb176dbcc49fe"), looks := false }, kinds := [], alts := [], laidByText := true, laidKinds := [.listed, .data], laidTests := true, laidLooks := .later }
def LowerDefsCardSaid : Prop := Claim7.holds Tryz.pinned (.plain (OpenSpec.ofChange lowerDefsSpec)) lowerDefsCard

/-- THE TIED CARD OF 'brocadelaw32.LowerProgs'. -/
def lowerProgsCard : Claim7 := { stood := { row := lowerProgsRow, standIns := [], harness := (true, "08608d5ab9d4bb5ba57cdde9807c5517e2f9e9a95244c52c522eb176dbcc49fe"), looks := false }, kinds := [], alts := [], laidByText := true, laidKinds := [.listed, .data], laidTests := true, laidLooks := .later }
def LowerProgsCardSaid : Prop := Claim7.holds Tryz.pinned (.plain (OpenSpec.ofChange lowerProgsSpec)) lowerProgsCard

/-- THE TIED CARD OF 'brocadelaw32.LowerValid'. -/
def lowerValidCard : Claim7 := { stood := { row := lowerValidRow, standIns := [], harness := (true, "08608d5ab9d4bb5ba57cdde9807c5517e2f9e9a95244c52c522eb176dbcc49fe"), looks := false }, kinds := [], alts := [], laidByText := true, laidKinds := [.listed, .data], laidTests := true, laidLooks := .later }
def LowerValidCardSaid : Prop := Claim7.holds Tryz.pinned (.plain (OpenSpec.ofChange lowerValidSpec)) lowerValidCard

/-- THE SECOND FORM's CARD OF 'brocadelaw32.LowerNames'. -/
def lowerNamesUptoCard : Claim7 := { stood := { row := lowerNamesUptoRow, standIns := [], harness := (true, "08608d5ab9d4bb5ba57cdde9807c5517e2f9e9a95244c52c522eb176dbcc49fe"), looks := false }, kinds := [], alts := [], laidByText := true, laidKinds := [.listed, .data], laidTests := true, laidLooks := .later }
def LowerNamesUptoCardSaid : Prop := Claim7.holds Tryz.pinned (.plain (OpenSpec.upto lowerNamesSpec)) lowerNamesUptoCard

/-- THE SECOND FORM's CARD OF 'brocadelaw32.LowerDefs'. -/
def lowerDefsUptoCard : Claim7 := { stood := { row := lowerDefsUptoRow, standIns := [], harness := (true, "08608d5ab9d4bb5ba57cdde9807c5517e2f9e9a95244c52c522eb176dbcc49fe"), looks := false }, kinds := [], alts := [], laidByText := true, laidKinds := [.listed, .data], laidTests := true, laidLooks := .later }
def LowerDefsUptoCardSaid : Prop := Claim7.holds Tryz.pinned (.plain (OpenSpec.upto lowerDefsSpec)) lowerDefsUptoCard

/-- THE SECOND FORM's CARD OF 'brocadelaw32.LowerProgs'. -/
def lowerProgsUptoCard : Claim7 := { stood := { row := lowerProgsUptoRow, standIns := [], harness := (true, "08608d5ab9d4bb5ba57cdde9807c5517e2f9e9a95244c52c522eb176dbcc49fe"), looks := false }, kinds := [], alts := [], laidByText := true, laidKinds := [.listed, .data], laidTests := true, laidLooks := .later }
def LowerProgsUptoCardSaid : Prop := Claim7.holds Tryz.pinned (.plain (OpenSpec.upto lowerProgsSpec)) lowerProgsUptoCard

/-- THE SECOND FORM's CARD OF 'brocadelaw32.LowerValid'. -/
def lowerValidUptoCard : Claim7 := { stood := { row := lowerValidUptoRow, standIns := [], harness := (true, "08608d5ab9d4bb5ba57cdde9807c5517e2f9e9a95244c52c522eb176dbcc49fe"), looks := false }, kinds := [], alts := [], laidByText := true, laidKinds := [.listed, .data], laidTests := true, laidLooks := .later }
def LowerValidUptoCardSaid : Prop := Claim7.holds Tryz.pinned (.plain (OpenSpec.upto lowerValidSpec)) lowerValidUptoCard
end Rows
end Go.Proofs.YtgfomfnjionbeaaGreatDoor
