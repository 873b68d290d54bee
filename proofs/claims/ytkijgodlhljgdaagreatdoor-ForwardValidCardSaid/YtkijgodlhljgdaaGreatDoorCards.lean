/-
  DERIVED. GIVEN WITH THE SEED: THE CARDS: each row of YtkijgodlhljgdaaGreatDoorRows.lean that lists a variable, with what it lists TIED to the program's text (the seventh form; the later family's looks); each row that meets fmt, with fmt's text TOLD by the authors' own Lean function (tested against real Go, not proved from fmt's source: count such statements apart). THE CARD IS WHAT COUNTS. Prove the row's statement (the work); the ties are given (YtkijgodlhljgdaaGreatDoorTie.lean); close each card by the builder's one call (the guide's Derived/Test/ToyasCard.lean, 'card_holds'). Laid BY PROGRAM, IN A SANDBOX (cutbox-door.mjs). By AI agents, Wed Nov 11 2026. No macro, syntax, notation, axiom, sorry.
-/
import Derived.Test.YtkijgodlhljgdaaGreatDoorRows
import GoSem.ClaimSeven
namespace Go.Proofs.YtkijgodlhljgdaaGreatDoor
namespace Rows

/-- THE TIED CARD OF 'brocadelaw26.ForwardExprs'. -/
def forwardExprsCard : Claim7 := { stood := { row := forwardExprsRow, standIns := [], harness := (true, "bfdbfbdf8ddb1596ef6ad10737a1e9e064aa0e4ef9170037b8867751afc390eb"), looks := false }, kinds := [], alts := [], laidByText := true, laidKinds := [.listed, .data], laidTests := true, laidLooks := .later }
def ForwardExprsCardSaid : Prop := Claim7.holds Tryz.pinned (.plain (OpenSpec.ofChange forwardExprsSpec)) forwardExprsCard

/-- THE TIED CARD OF 'brocadelaw26.ForwardProgs'. -/
def forwardProgsCard : Claim7 := { stood := { row := forwardProgsRow, standIns := [], harness := (true, "bfdbfbdf8ddb1596ef6ad10737a1e9e064aa0e4ef9170037b8867751afc390eb"), looks := false }, kinds := [], alts := [], laidByText := true, laidKinds := [.listed, .data], laidTests := true, laidLooks := .later }
def ForwardProgsCardSaid : Prop := Claim7.holds Tryz.pinned (.plain (OpenSpec.ofChange forwardProgsSpec)) forwardProgsCard

/-- THE TIED CARD OF 'brocadelaw26.ForwardValid'. -/
def forwardValidCard : Claim7 := { stood := { row := forwardValidRow, standIns := [], harness := (true, "bfdbfbdf8ddb1596ef6ad10737a1e9e064aa0e4ef9170037b8867751afc390eb"), looks := false }, kinds := [], alts := [], laidByText := true, laidKinds := [.listed, .data], laidTests := true, laidLooks := .later }
def ForwardValidCardSaid : Prop := Claim7.holds Tryz.pinned (.plain (OpenSpec.ofChange forwardValidSpec)) forwardValidCard

/-- THE TIED CARD OF 'brocadelaw22.DeltaProgs'. -/
def deltaProgsCard : Claim7 := { stood := { row := deltaProgsRow, standIns := [], harness := (true, "bfdbfbdf8ddb1596ef6ad10737a1e9e064aa0e4ef9170037b8867751afc390eb"), looks := false }, kinds := [], alts := [], laidByText := true, laidKinds := [.listed, .data], laidTests := true, laidLooks := .later }
def DeltaProgsCardSaid : Prop := Claim7.holds Tryz.pinned (.plain (OpenSpec.ofChange deltaProgsSpec)) deltaProgsCard

/-- THE SECOND FORM's CARD OF 'brocadelaw26.ForwardExprs'. -/
def forwardExprsUptoCard : Claim7 := { stood := { row := forwardExprsUptoRow, standIns := [], harness := (true, "bfdbfbdf8ddb1596ef6ad10737a1e9e064aa0e4ef9170037b8867751afc390eb"), looks := false }, kinds := [], alts := [], laidByText := true, laidKinds := [.listed, .data], laidTests := true, laidLooks := .later }
def ForwardExprsUptoCardSaid : Prop := Claim7.holds Tryz.pinned (.plain (OpenSpec.upto forwardExprsSpec)) forwardExprsUptoCard

/-- THE SECOND FORM's CARD OF 'brocadelaw26.ForwardProgs'. -/
def forwardProgsUptoCard : Claim7 := { stood := { row := forwardProgsUptoRow, standIns := [], harness := (true, "bfdbfbdf8ddb1596ef6ad10737a1e9e064aa0e4ef9170037b8867751afc390eb"), looks := false }, kinds := [], alts := [], laidByText := true, laidKinds := [.listed, .data], laidTests := true, laidLooks := .later }
def ForwardProgsUptoCardSaid : Prop := Claim7.holds Tryz.pinned (.plain (OpenSpec.upto forwardProgsSpec)) forwardProgsUptoCard

/-- THE SECOND FORM's CARD OF 'brocadelaw26.ForwardValid'. -/
def forwardValidUptoCard : Claim7 := { stood := { row := forwardValidUptoRow, standIns := [], harness := (true, "bfdbfbdf8ddb1596ef6ad10737a1e9e064aa0e4ef9170037b8867751afc390eb"), looks := false }, kinds := [], alts := [], laidByText := true, laidKinds := [.listed, .data], laidTests := true, laidLooks := .later }
def ForwardValidUptoCardSaid : Prop := Claim7.holds Tryz.pinned (.plain (OpenSpec.upto forwardValidSpec)) forwardValidUptoCard

/-- THE SECOND FORM's CARD OF 'brocadelaw22.DeltaProgs'. -/
def deltaProgsUptoCard : Claim7 := { stood := { row := deltaProgsUptoRow, standIns := [], harness := (true, "bfdbfbdf8ddb1596ef6ad10737a1e9e064aa0e4ef9170037b8867751afc390eb"), looks := false }, kinds := [], alts := [], laidByText := true, laidKinds := [.listed, .data], laidTests := true, laidLooks := .later }
def DeltaProgsUptoCardSaid : Prop := Claim7.holds Tryz.pinned (.plain (OpenSpec.upto deltaProgsSpec)) deltaProgsUptoCard
end Rows
end Go.Proofs.YtkijgodlhljgdaaGreatDoor
