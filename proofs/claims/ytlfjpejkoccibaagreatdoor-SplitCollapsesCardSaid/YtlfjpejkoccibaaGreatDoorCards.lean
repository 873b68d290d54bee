/-
  DERIVED. GIVEN WITH THE SEED: THE CARDS: each row of YtlfjpejkoccibaaGreatDoorRows.lean that lists a variable, with what it lists TIED to the program's text (the seventh form; the later family's looks); each row that meets fmt, with fmt's text TOLD by the authors' own Lean function (tested against real Go, not proved from fmt's source: count such statements apart). THE CARD IS WHAT COUNTS. Prove the row's statement (the work); the ties are given (YtlfjpejkoccibaaGreatDoorTie.lean); close each card by the builder's one call (the guide's Derived/Test/ToyasCard.lean, 'card_holds'). Laid BY PROGRAM, IN A SANDBOX (cutbox-door.mjs). By AI agents, Wed Nov 11 2026. No macro, syntax, notation, axiom, sorry.
-/
import Derived.Test.YtlfjpejkoccibaaGreatDoorRows
import GoSem.ClaimSeven
namespace Go.Proofs.YtlfjpejkoccibaaGreatDoor
namespace Rows

/-- THE TIED CARD OF 'brocadelaw30.NestReplaces'. -/
def nestReplacesCard : Claim7 := { stood := { row := nestReplacesRow, standIns := [], harness := (true, "e3b40857ce29eca37eafff72a378e573721391fb97faf804287160f3cb39f04f"), looks := false }, kinds := [], alts := [], laidByText := true, laidKinds := [.data, .data, .data, .listed, .data], laidTests := true, laidLooks := .later }
def NestReplacesCardSaid : Prop := Claim7.holds Tryz.pinned (.plain (OpenSpec.ofChange nestReplacesSpec)) nestReplacesCard

/-- THE TIED CARD OF 'brocadelaw36.SplitSplits'. -/
def splitSplitsCard : Claim7 := { stood := { row := splitSplitsRow, standIns := [], harness := (true, "e3b40857ce29eca37eafff72a378e573721391fb97faf804287160f3cb39f04f"), looks := false }, kinds := [], alts := [], laidByText := true, laidKinds := [.listed, .data], laidTests := true, laidLooks := .later }
def SplitSplitsCardSaid : Prop := Claim7.holds Tryz.pinned (.plain (OpenSpec.ofChange splitSplitsSpec)) splitSplitsCard

/-- THE TIED CARD OF 'brocadelaw36.SplitPeels'. -/
def splitPeelsCard : Claim7 := { stood := { row := splitPeelsRow, standIns := [], harness := (true, "e3b40857ce29eca37eafff72a378e573721391fb97faf804287160f3cb39f04f"), looks := false }, kinds := [], alts := [], laidByText := true, laidKinds := [.listed, .data], laidTests := true, laidLooks := .later }
def SplitPeelsCardSaid : Prop := Claim7.holds Tryz.pinned (.plain (OpenSpec.ofChange splitPeelsSpec)) splitPeelsCard

/-- THE TIED CARD OF 'brocadelaw36.SplitRemovesGuards'. -/
def splitRemovesGuardsCard : Claim7 := { stood := { row := splitRemovesGuardsRow, standIns := [], harness := (true, "e3b40857ce29eca37eafff72a378e573721391fb97faf804287160f3cb39f04f"), looks := false }, kinds := [], alts := [], laidByText := true, laidKinds := [.listed, .data], laidTests := true, laidLooks := .later }
def SplitRemovesGuardsCardSaid : Prop := Claim7.holds Tryz.pinned (.plain (OpenSpec.ofChange splitRemovesGuardsSpec)) splitRemovesGuardsCard

/-- THE TIED CARD OF 'brocadelaw36.SplitCollapses'. -/
def splitCollapsesCard : Claim7 := { stood := { row := splitCollapsesRow, standIns := [], harness := (true, "e3b40857ce29eca37eafff72a378e573721391fb97faf804287160f3cb39f04f"), looks := false }, kinds := [], alts := [], laidByText := true, laidKinds := [.listed, .data], laidTests := true, laidLooks := .later }
def SplitCollapsesCardSaid : Prop := Claim7.holds Tryz.pinned (.plain (OpenSpec.ofChange splitCollapsesSpec)) splitCollapsesCard

/-- THE TIED CARD OF 'brocadelaw36.SplitInverse'. -/
def splitInverseCard : Claim7 := { stood := { row := splitInverseRow, standIns := [], harness := (true, "e3b40857ce29eca37eafff72a378e573721391fb97faf804287160f3cb39f04f"), looks := false }, kinds := [], alts := [], laidByText := true, laidKinds := [.listed, .data], laidTests := true, laidLooks := .later }
def SplitInverseCardSaid : Prop := Claim7.holds Tryz.pinned (.plain (OpenSpec.ofChange splitInverseSpec)) splitInverseCard

/-- THE SECOND FORM's CARD OF 'brocadelaw30.NestReplaces'. -/
def nestReplacesUptoCard : Claim7 := { stood := { row := nestReplacesUptoRow, standIns := [], harness := (true, "e3b40857ce29eca37eafff72a378e573721391fb97faf804287160f3cb39f04f"), looks := false }, kinds := [], alts := [], laidByText := true, laidKinds := [.data, .data, .data, .listed, .data], laidTests := true, laidLooks := .later }
def NestReplacesUptoCardSaid : Prop := Claim7.holds Tryz.pinned (.plain (OpenSpec.upto nestReplacesSpec)) nestReplacesUptoCard

/-- THE SECOND FORM's CARD OF 'brocadelaw36.SplitSplits'. -/
def splitSplitsUptoCard : Claim7 := { stood := { row := splitSplitsUptoRow, standIns := [], harness := (true, "e3b40857ce29eca37eafff72a378e573721391fb97faf804287160f3cb39f04f"), looks := false }, kinds := [], alts := [], laidByText := true, laidKinds := [.listed, .data], laidTests := true, laidLooks := .later }
def SplitSplitsUptoCardSaid : Prop := Claim7.holds Tryz.pinned (.plain (OpenSpec.upto splitSplitsSpec)) splitSplitsUptoCard

/-- THE SECOND FORM's CARD OF 'brocadelaw36.SplitPeels'. -/
def splitPeelsUptoCard : Claim7 := { stood := { row := splitPeelsUptoRow, standIns := [], harness := (true, "e3b40857ce29eca37eafff72a378e573721391fb97faf804287160f3cb39f04f"), looks := false }, kinds := [], alts := [], laidByText := true, laidKinds := [.listed, .data], laidTests := true, laidLooks := .later }
def SplitPeelsUptoCardSaid : Prop := Claim7.holds Tryz.pinned (.plain (OpenSpec.upto splitPeelsSpec)) splitPeelsUptoCard

/-- THE SECOND FORM's CARD OF 'brocadelaw36.SplitRemovesGuards'. -/
def splitRemovesGuardsUptoCard : Claim7 := { stood := { row := splitRemovesGuardsUptoRow, standIns := [], harness := (true, "e3b40857ce29eca37eafff72a378e573721391fb97faf804287160f3cb39f04f"), looks := false }, kinds := [], alts := [], laidByText := true, laidKinds := [.listed, .data], laidTests := true, laidLooks := .later }
def SplitRemovesGuardsUptoCardSaid : Prop := Claim7.holds Tryz.pinned (.plain (OpenSpec.upto splitRemovesGuardsSpec)) splitRemovesGuardsUptoCard

/-- THE SECOND FORM's CARD OF 'brocadelaw36.SplitCollapses'. -/
def splitCollapsesUptoCard : Claim7 := { stood := { row := splitCollapsesUptoRow, standIns := [], harness := (true, "e3b40857ce29eca37eafff72a378e573721391fb97faf804287160f3cb39f04f"), looks := false }, kinds := [], alts := [], laidByText := true, laidKinds := [.listed, .data], laidTests := true, laidLooks := .later }
def SplitCollapsesUptoCardSaid : Prop := Claim7.holds Tryz.pinned (.plain (OpenSpec.upto splitCollapsesSpec)) splitCollapsesUptoCard

/-- THE SECOND FORM's CARD OF 'brocadelaw36.SplitInverse'. -/
def splitInverseUptoCard : Claim7 := { stood := { row := splitInverseUptoRow, standIns := [], harness := (true, "e3b40857ce29eca37eafff72a378e573721391fb97faf804287160f3cb39f04f"), looks := false }, kinds := [], alts := [], laidByText := true, laidKinds := [.listed, .data], laidTests := true, laidLooks := .later }
def SplitInverseUptoCardSaid : Prop := Claim7.holds Tryz.pinned (.plain (OpenSpec.upto splitInverseSpec)) splitInverseUptoCard
end Rows
end Go.Proofs.YtlfjpejkoccibaaGreatDoor
