/-
  DERIVED. GIVEN WITH THE SEED: THE CARDS: each row of YtkidnhldibjiaaaGreatDoorRows.lean that lists a variable, with what it lists TIED to the program's text (the seventh form; the later family's looks); each row that meets fmt, with fmt's text TOLD by the authors' own Lean function (tested against real Go, not proved from fmt's source: count such statements apart). THE CARD IS WHAT COUNTS. Prove the row's statement (the work); the ties are given (YtkidnhldibjiaaaGreatDoorTie.lean); close each card by the builder's one call (the guide's Derived/Test/ToyasCard.lean, 'card_holds'). Laid BY PROGRAM, IN A SANDBOX (cutbox-door.mjs). By AI agents, Wed Nov 11 2026. No macro, syntax, notation, axiom, sorry.
-/
import Derived.Test.YtkidnhldibjiaaaGreatDoorRows
import GoSem.ClaimSeven
namespace Go.Proofs.YtkidnhldibjiaaaGreatDoor
namespace Rows

/-- THE TIED CARD OF 'brocadelaw23.CseCandidates'. -/
def cseCandidatesCard : Claim7 := { stood := { row := cseCandidatesRow, standIns := [], harness := (true, "9ba3fd7ab75ad637ee5cf7a4d98d3ed4d537c53ebab90a93d984ed650bbd4cf1"), looks := false }, kinds := [], alts := [], laidByText := true, laidKinds := [.data, .data, .data, .listed, .data], laidTests := true, laidLooks := .later }
def CseCandidatesCardSaid : Prop := Claim7.holds Tryz.pinned (.plain (OpenSpec.ofChange cseCandidatesSpec)) cseCandidatesCard

/-- THE TIED CARD OF 'brocadelaw23.CseExtracts'. -/
def cseExtractsCard : Claim7 := { stood := { row := cseExtractsRow, standIns := [], harness := (true, "9ba3fd7ab75ad637ee5cf7a4d98d3ed4d537c53ebab90a93d984ed650bbd4cf1"), looks := false }, kinds := [], alts := [], laidByText := true, laidKinds := [.data, .data, .data, .listed, .data], laidTests := true, laidLooks := .later }
def CseExtractsCardSaid : Prop := Claim7.holds Tryz.pinned (.plain (OpenSpec.ofChange cseExtractsSpec)) cseExtractsCard

/-- THE TIED CARD OF 'brocadelaw23.CseMerges'. -/
def cseMergesCard : Claim7 := { stood := { row := cseMergesRow, standIns := [], harness := (true, "9ba3fd7ab75ad637ee5cf7a4d98d3ed4d537c53ebab90a93d984ed650bbd4cf1"), looks := false }, kinds := [], alts := [], laidByText := true, laidKinds := [.data, .data, .data, .listed, .data], laidTests := true, laidLooks := .later }
def CseMergesCardSaid : Prop := Claim7.holds Tryz.pinned (.plain (OpenSpec.ofChange cseMergesSpec)) cseMergesCard

/-- THE TIED CARD OF 'brocadelaw23.CseComplete'. -/
def cseCompleteCard : Claim7 := { stood := { row := cseCompleteRow, standIns := [], harness := (true, "9ba3fd7ab75ad637ee5cf7a4d98d3ed4d537c53ebab90a93d984ed650bbd4cf1"), looks := false }, kinds := [], alts := [], laidByText := true, laidKinds := [.data, .data, .data, .listed, .data], laidTests := true, laidLooks := .later }
def CseCompleteCardSaid : Prop := Claim7.holds Tryz.pinned (.plain (OpenSpec.ofChange cseCompleteSpec)) cseCompleteCard

/-- THE TIED CARD OF 'brocadelaw22.DeltaProgs'. -/
def deltaProgsCard : Claim7 := { stood := { row := deltaProgsRow, standIns := [], harness := (true, "9ba3fd7ab75ad637ee5cf7a4d98d3ed4d537c53ebab90a93d984ed650bbd4cf1"), looks := false }, kinds := [], alts := [], laidByText := true, laidKinds := [.listed, .data], laidTests := true, laidLooks := .later }
def DeltaProgsCardSaid : Prop := Claim7.holds Tryz.pinned (.plain (OpenSpec.ofChange deltaProgsSpec)) deltaProgsCard

/-- THE SECOND FORM's CARD OF 'brocadelaw23.CseCandidates'. -/
def cseCandidatesUptoCard : Claim7 := { stood := { row := cseCandidatesUptoRow, standIns := [], harness := (true, "9ba3fd7ab75ad637ee5cf7a4d98d3ed4d537c53ebab90a93d984ed650bbd4cf1"), looks := false }, kinds := [], alts := [], laidByText := true, laidKinds := [.data, .data, .data, .listed, .data], laidTests := true, laidLooks := .later }
def CseCandidatesUptoCardSaid : Prop := Claim7.holds Tryz.pinned (.plain (OpenSpec.upto cseCandidatesSpec)) cseCandidatesUptoCard

/-- THE SECOND FORM's CARD OF 'brocadelaw23.CseExtracts'. -/
def cseExtractsUptoCard : Claim7 := { stood := { row := cseExtractsUptoRow, standIns := [], harness := (true, "9ba3fd7ab75ad637ee5cf7a4d98d3ed4d537c53ebab90a93d984ed650bbd4cf1"), looks := false }, kinds := [], alts := [], laidByText := true, laidKinds := [.data, .data, .data, .listed, .data], laidTests := true, laidLooks := .later }
def CseExtractsUptoCardSaid : Prop := Claim7.holds Tryz.pinned (.plain (OpenSpec.upto cseExtractsSpec)) cseExtractsUptoCard

/-- THE SECOND FORM's CARD OF 'brocadelaw23.CseMerges'. -/
def cseMergesUptoCard : Claim7 := { stood := { row := cseMergesUptoRow, standIns := [], harness := (true, "9ba3fd7ab75ad637ee5cf7a4d98d3ed4d537c53ebab90a93d984ed650bbd4cf1"), looks := false }, kinds := [], alts := [], laidByText := true, laidKinds := [.data, .data, .data, .listed, .data], laidTests := true, laidLooks := .later }
def CseMergesUptoCardSaid : Prop := Claim7.holds Tryz.pinned (.plain (OpenSpec.upto cseMergesSpec)) cseMergesUptoCard

/-- THE SECOND FORM's CARD OF 'brocadelaw23.CseComplete'. -/
def cseCompleteUptoCard : Claim7 := { stood := { row := cseCompleteUptoRow, standIns := [], harness := (true, "9ba3fd7ab75ad637ee5cf7a4d98d3ed4d537c53ebab90a93d984ed650bbd4cf1"), looks := false }, kinds := [], alts := [], laidByText := true, laidKinds := [.data, .data, .data, .listed, .data], laidTests := true, laidLooks := .later }
def CseCompleteUptoCardSaid : Prop := Claim7.holds Tryz.pinned (.plain (OpenSpec.upto cseCompleteSpec)) cseCompleteUptoCard

/-- THE SECOND FORM's CARD OF 'brocadelaw22.DeltaProgs'. -/
def deltaProgsUptoCard : Claim7 := { stood := { row := deltaProgsUptoRow, standIns := [], harness := (true, "9ba3fd7ab75ad637ee5cf7a4d98d3ed4d537c53ebab90a93d984ed650bbd4cf1"), looks := false }, kinds := [], alts := [], laidByText := true, laidKinds := [.listed, .data], laidTests := true, laidLooks := .later }
def DeltaProgsUptoCardSaid : Prop := Claim7.holds Tryz.pinned (.plain (OpenSpec.upto deltaProgsSpec)) deltaProgsUptoCard
end Rows
end Go.Proofs.YtkidnhldibjiaaaGreatDoor
