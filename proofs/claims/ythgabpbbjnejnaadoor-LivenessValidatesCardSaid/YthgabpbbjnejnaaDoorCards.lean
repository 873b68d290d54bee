/-
  DERIVED. GIVEN WITH THE SEED: THE CARDS: each row of YthgabpbbjnejnaaDoorRows.lean that lists a variable, with what it lists TIED to the program's text (the seventh form; the later family's looks); each row that meets fmt, with fmt's text TOLD by the authors' own Lean function (tested against real Go, not proved from fmt's source: count such statements apart). THE CARD IS WHAT COUNTS. Prove the row's statement (the work); the ties are given (YthgabpbbjnejnaaDoorTie.lean); close each card by the builder's one call (the guide's Derived/Test/ToyasCard.lean, 'card_holds'). Laid BY PROGRAM, IN A SANDBOX (cutbox-door.mjs). By AI agents, Wed Nov 11 2026. No macro, syntax, notation, axiom, sorry.
-/
import Derived.Test.YthgabpbbjnejnaaDoorRows
import GoSem.ClaimSeven
namespace Go.Proofs.YthgabpbbjnejnaaDoor
namespace Rows

/-- THE TIED CARD OF 'brocadelaw41.LivenessOverlaps'. -/
def livenessOverlapsCard : Claim7 := { stood := { row := livenessOverlapsRow, standIns := [], harness := (true, "a1ae814ce42b75bd501e7c58cb3a382ce7d9a9daf65d714864269250be9c506c"), looks := false }, kinds := [], alts := [], laidByText := true, laidKinds := [.listed, .data], laidTests := true, laidLooks := .later }
def LivenessOverlapsCardSaid : Prop := Claim7.holds Tryd.pinned (.plain (OpenSpec.ofChange livenessOverlapsSpec)) livenessOverlapsCard

/-- THE TIED CARD OF 'brocadelaw41.LivenessCounts'. -/
def livenessCountsCard : Claim7 := { stood := { row := livenessCountsRow, standIns := [], harness := (true, "a1ae814ce42b75bd501e7c58cb3a382ce7d9a9daf65d714864269250be9c506c"), looks := false }, kinds := [], alts := [], laidByText := true, laidKinds := [.listed, .data], laidTests := true, laidLooks := .later }
def LivenessCountsCardSaid : Prop := Claim7.holds Tryd.pinned (.plain (OpenSpec.ofChange livenessCountsSpec)) livenessCountsCard

/-- THE TIED CARD OF 'brocadelaw41.LivenessValidates'. -/
def livenessValidatesCard : Claim7 := { stood := { row := livenessValidatesRow, standIns := [], harness := (true, "a1ae814ce42b75bd501e7c58cb3a382ce7d9a9daf65d714864269250be9c506c"), looks := false }, kinds := [], alts := [], laidByText := true, laidKinds := [.listed, .data], laidTests := true, laidLooks := .later }
def LivenessValidatesCardSaid : Prop := Claim7.holds Tryd.pinned (.plain (OpenSpec.ofChange livenessValidatesSpec)) livenessValidatesCard

/-- THE TIED CARD OF 'brocadelaw41.LivenessExtremes'. -/
def livenessExtremesCard : Claim7 := { stood := { row := livenessExtremesRow, standIns := [], harness := (true, "a1ae814ce42b75bd501e7c58cb3a382ce7d9a9daf65d714864269250be9c506c"), looks := false }, kinds := [], alts := [], laidByText := true, laidKinds := [.listed, .data], laidTests := true, laidLooks := .later }
def LivenessExtremesCardSaid : Prop := Claim7.holds Tryd.pinned (.plain (OpenSpec.ofChange livenessExtremesSpec)) livenessExtremesCard

/-- THE SECOND FORM's CARD OF 'brocadelaw41.LivenessOverlaps'. -/
def livenessOverlapsUptoCard : Claim7 := { stood := { row := livenessOverlapsUptoRow, standIns := [], harness := (true, "a1ae814ce42b75bd501e7c58cb3a382ce7d9a9daf65d714864269250be9c506c"), looks := false }, kinds := [], alts := [], laidByText := true, laidKinds := [.listed, .data], laidTests := true, laidLooks := .later }
def LivenessOverlapsUptoCardSaid : Prop := Claim7.holds Tryd.pinned (.plain (OpenSpec.upto livenessOverlapsSpec)) livenessOverlapsUptoCard

/-- THE SECOND FORM's CARD OF 'brocadelaw41.LivenessCounts'. -/
def livenessCountsUptoCard : Claim7 := { stood := { row := livenessCountsUptoRow, standIns := [], harness := (true, "a1ae814ce42b75bd501e7c58cb3a382ce7d9a9daf65d714864269250be9c506c"), looks := false }, kinds := [], alts := [], laidByText := true, laidKinds := [.listed, .data], laidTests := true, laidLooks := .later }
def LivenessCountsUptoCardSaid : Prop := Claim7.holds Tryd.pinned (.plain (OpenSpec.upto livenessCountsSpec)) livenessCountsUptoCard

/-- THE SECOND FORM's CARD OF 'brocadelaw41.LivenessValidates'. -/
def livenessValidatesUptoCard : Claim7 := { stood := { row := livenessValidatesUptoRow, standIns := [], harness := (true, "a1ae814ce42b75bd501e7c58cb3a382ce7d9a9daf65d714864269250be9c506c"), looks := false }, kinds := [], alts := [], laidByText := true, laidKinds := [.listed, .data], laidTests := true, laidLooks := .later }
def LivenessValidatesUptoCardSaid : Prop := Claim7.holds Tryd.pinned (.plain (OpenSpec.upto livenessValidatesSpec)) livenessValidatesUptoCard

/-- THE SECOND FORM's CARD OF 'brocadelaw41.LivenessExtremes'. -/
def livenessExtremesUptoCard : Claim7 := { stood := { row := livenessExtremesUptoRow, standIns := [], harness := (true, "a1ae814ce42b75bd501e7c58cb3a382ce7d9a9daf65d714864269250be9c506c"), looks := false }, kinds := [], alts := [], laidByText := true, laidKinds := [.listed, .data], laidTests := true, laidLooks := .later }
def LivenessExtremesUptoCardSaid : Prop := Claim7.holds Tryd.pinned (.plain (OpenSpec.upto livenessExtremesSpec)) livenessExtremesUptoCard
end Rows
end Go.Proofs.YthgabpbbjnejnaaDoor
