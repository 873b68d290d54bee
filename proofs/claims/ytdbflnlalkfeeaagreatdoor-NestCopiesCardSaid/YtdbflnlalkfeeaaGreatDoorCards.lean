/-
  DERIVED. GIVEN WITH THE SEED: THE CARDS: each row of YtdbflnlalkfeeaaGreatDoorRows.lean that lists a variable, with what it lists TIED to the program's text (the seventh form; the later family's looks); each row that meets fmt, with fmt's text TOLD by the authors' own Lean function (tested against real Go, not proved from fmt's source: count such statements apart). THE CARD IS WHAT COUNTS. Prove the row's statement (the work); the ties are given (YtdbflnlalkfeeaaGreatDoorTie.lean); close each card by the builder's one call (the guide's Derived/Test/ToyasCard.lean, 'card_holds'). Laid BY PROGRAM, IN A SANDBOX (cutbox-door.mjs). By AI agents, Wed Nov 11 2026. No macro, syntax, notation, axiom, sorry.
-/
import Derived.Test.YtdbflnlalkfeeaaGreatDoorRows
import GoSem.ClaimSeven
namespace Go.Proofs.YtdbflnlalkfeeaaGreatDoor
namespace Rows

/-- THE TIED CARD OF 'brocadelaw41.LivenessAnalyzes'. -/
def livenessAnalyzesCard : Claim7 := { stood := { row := livenessAnalyzesRow, standIns := [], harness := (true, "1eda43b97535fcc9bd0e2037eeb1f6500f589514dcc6ebd532fd4686ff2a48c2"), looks := false }, kinds := [], alts := [], laidByText := true, laidKinds := [.listed, .data], laidTests := true, laidLooks := .later }
def LivenessAnalyzesCardSaid : Prop := Claim7.holds Tryz.pinned (.plain (OpenSpec.ofChange livenessAnalyzesSpec)) livenessAnalyzesCard

/-- THE TIED CARD OF 'brocadelaw41.LivenessCovers'. -/
def livenessCoversCard : Claim7 := { stood := { row := livenessCoversRow, standIns := [], harness := (true, "1eda43b97535fcc9bd0e2037eeb1f6500f589514dcc6ebd532fd4686ff2a48c2"), looks := false }, kinds := [], alts := [], laidByText := true, laidKinds := [.listed, .data], laidTests := true, laidLooks := .later }
def LivenessCoversCardSaid : Prop := Claim7.holds Tryz.pinned (.plain (OpenSpec.ofChange livenessCoversSpec)) livenessCoversCard

/-- THE TIED CARD OF 'brocadelaw30.NestValidates'. -/
def nestValidatesCard : Claim7 := { stood := { row := nestValidatesRow, standIns := [], harness := (true, "1eda43b97535fcc9bd0e2037eeb1f6500f589514dcc6ebd532fd4686ff2a48c2"), looks := false }, kinds := [], alts := [], laidByText := true, laidKinds := [.data, .data, .data, .listed, .data], laidTests := true, laidLooks := .later }
def NestValidatesCardSaid : Prop := Claim7.holds Tryz.pinned (.plain (OpenSpec.ofChange nestValidatesSpec)) nestValidatesCard

/-- THE TIED CARD OF 'brocadelaw30.NestLimits'. -/
def nestLimitsCard : Claim7 := { stood := { row := nestLimitsRow, standIns := [], harness := (true, "1eda43b97535fcc9bd0e2037eeb1f6500f589514dcc6ebd532fd4686ff2a48c2"), looks := false }, kinds := [], alts := [], laidByText := true, laidKinds := [.data, .data, .data, .listed, .data], laidTests := true, laidLooks := .later }
def NestLimitsCardSaid : Prop := Claim7.holds Tryz.pinned (.plain (OpenSpec.ofChange nestLimitsSpec)) nestLimitsCard

/-- THE TIED CARD OF 'brocadelaw30.NestNavigates'. -/
def nestNavigatesCard : Claim7 := { stood := { row := nestNavigatesRow, standIns := [], harness := (true, "1eda43b97535fcc9bd0e2037eeb1f6500f589514dcc6ebd532fd4686ff2a48c2"), looks := false }, kinds := [], alts := [], laidByText := true, laidKinds := [.data, .data, .data, .listed, .data], laidTests := true, laidLooks := .later }
def NestNavigatesCardSaid : Prop := Claim7.holds Tryz.pinned (.plain (OpenSpec.ofChange nestNavigatesSpec)) nestNavigatesCard

/-- THE TIED CARD OF 'brocadelaw30.NestReplaces'. -/
def nestReplacesCard : Claim7 := { stood := { row := nestReplacesRow, standIns := [], harness := (true, "1eda43b97535fcc9bd0e2037eeb1f6500f589514dcc6ebd532fd4686ff2a48c2"), looks := false }, kinds := [], alts := [], laidByText := true, laidKinds := [.data, .data, .data, .listed, .data], laidTests := true, laidLooks := .later }
def NestReplacesCardSaid : Prop := Claim7.holds Tryz.pinned (.plain (OpenSpec.ofChange nestReplacesSpec)) nestReplacesCard

/-- THE TIED CARD OF 'brocadelaw30.NestRenames'. -/
def nestRenamesCard : Claim7 := { stood := { row := nestRenamesRow, standIns := [], harness := (true, "1eda43b97535fcc9bd0e2037eeb1f6500f589514dcc6ebd532fd4686ff2a48c2"), looks := false }, kinds := [], alts := [], laidByText := true, laidKinds := [.data, .data, .data, .listed, .data], laidTests := true, laidLooks := .later }
def NestRenamesCardSaid : Prop := Claim7.holds Tryz.pinned (.plain (OpenSpec.ofChange nestRenamesSpec)) nestRenamesCard

/-- THE TIED CARD OF 'brocadelaw30.NestFreshNames'. -/
def nestFreshNamesCard : Claim7 := { stood := { row := nestFreshNamesRow, standIns := [], harness := (true, "1eda43b97535fcc9bd0e2037eeb1f6500f589514dcc6ebd532fd4686ff2a48c2"), looks := false }, kinds := [], alts := [], laidByText := true, laidKinds := [.data, .data, .data, .listed, .data], laidTests := true, laidLooks := .later }
def NestFreshNamesCardSaid : Prop := Claim7.holds Tryz.pinned (.plain (OpenSpec.ofChange nestFreshNamesSpec)) nestFreshNamesCard

/-- THE TIED CARD OF 'brocadelaw30.NestCopies'. -/
def nestCopiesCard : Claim7 := { stood := { row := nestCopiesRow, standIns := [], harness := (true, "1eda43b97535fcc9bd0e2037eeb1f6500f589514dcc6ebd532fd4686ff2a48c2"), looks := false }, kinds := [], alts := [], laidByText := true, laidKinds := [.data, .data, .data, .listed, .data], laidTests := true, laidLooks := .later }
def NestCopiesCardSaid : Prop := Claim7.holds Tryz.pinned (.plain (OpenSpec.ofChange nestCopiesSpec)) nestCopiesCard

/-- THE SECOND FORM's CARD OF 'brocadelaw41.LivenessAnalyzes'. -/
def livenessAnalyzesUptoCard : Claim7 := { stood := { row := livenessAnalyzesUptoRow, standIns := [], harness := (true, "1eda43b97535fcc9bd0e2037eeb1f6500f589514dcc6ebd532fd4686ff2a48c2"), looks := false }, kinds := [], alts := [], laidByText := true, laidKinds := [.listed, .data], laidTests := true, laidLooks := .later }
def LivenessAnalyzesUptoCardSaid : Prop := Claim7.holds Tryz.pinned (.plain (OpenSpec.upto livenessAnalyzesSpec)) livenessAnalyzesUptoCard

/-- THE SECOND FORM's CARD OF 'brocadelaw41.LivenessCovers'. -/
def livenessCoversUptoCard : Claim7 := { stood := { row := livenessCoversUptoRow, standIns := [], harness := (true, "1eda43b97535fcc9bd0e2037eeb1f6500f589514dcc6ebd532fd4686ff2a48c2"), looks := false }, kinds := [], alts := [], laidByText := true, laidKinds := [.listed, .data], laidTests := true, laidLooks := .later }
def LivenessCoversUptoCardSaid : Prop := Claim7.holds Tryz.pinned (.plain (OpenSpec.upto livenessCoversSpec)) livenessCoversUptoCard

/-- THE SECOND FORM's CARD OF 'brocadelaw30.NestValidates'. -/
def nestValidatesUptoCard : Claim7 := { stood := { row := nestValidatesUptoRow, standIns := [], harness := (true, "1eda43b97535fcc9bd0e2037eeb1f6500f589514dcc6ebd532fd4686ff2a48c2"), looks := false }, kinds := [], alts := [], laidByText := true, laidKinds := [.data, .data, .data, .listed, .data], laidTests := true, laidLooks := .later }
def NestValidatesUptoCardSaid : Prop := Claim7.holds Tryz.pinned (.plain (OpenSpec.upto nestValidatesSpec)) nestValidatesUptoCard

/-- THE SECOND FORM's CARD OF 'brocadelaw30.NestLimits'. -/
def nestLimitsUptoCard : Claim7 := { stood := { row := nestLimitsUptoRow, standIns := [], harness := (true, "1eda43b97535fcc9bd0e2037eeb1f6500f589514dcc6ebd532fd4686ff2a48c2"), looks := false }, kinds := [], alts := [], laidByText := true, laidKinds := [.data, .data, .data, .listed, .data], laidTests := true, laidLooks := .later }
def NestLimitsUptoCardSaid : Prop := Claim7.holds Tryz.pinned (.plain (OpenSpec.upto nestLimitsSpec)) nestLimitsUptoCard

/-- THE SECOND FORM's CARD OF 'brocadelaw30.NestNavigates'. -/
def nestNavigatesUptoCard : Claim7 := { stood := { row := nestNavigatesUptoRow, standIns := [], harness := (true, "1eda43b97535fcc9bd0e2037eeb1f6500f589514dcc6ebd532fd4686ff2a48c2"), looks := false }, kinds := [], alts := [], laidByText := true, laidKinds := [.data, .data, .data, .listed, .data], laidTests := true, laidLooks := .later }
def NestNavigatesUptoCardSaid : Prop := Claim7.holds Tryz.pinned (.plain (OpenSpec.upto nestNavigatesSpec)) nestNavigatesUptoCard

/-- THE SECOND FORM's CARD OF 'brocadelaw30.NestReplaces'. -/
def nestReplacesUptoCard : Claim7 := { stood := { row := nestReplacesUptoRow, standIns := [], harness := (true, "1eda43b97535fcc9bd0e2037eeb1f6500f589514dcc6ebd532fd4686ff2a48c2"), looks := false }, kinds := [], alts := [], laidByText := true, laidKinds := [.data, .data, .data, .listed, .data], laidTests := true, laidLooks := .later }
def NestReplacesUptoCardSaid : Prop := Claim7.holds Tryz.pinned (.plain (OpenSpec.upto nestReplacesSpec)) nestReplacesUptoCard

/-- THE SECOND FORM's CARD OF 'brocadelaw30.NestRenames'. -/
def nestRenamesUptoCard : Claim7 := { stood := { row := nestRenamesUptoRow, standIns := [], harness := (true, "1eda43b97535fcc9bd0e2037eeb1f6500f589514dcc6ebd532fd4686ff2a48c2"), looks := false }, kinds := [], alts := [], laidByText := true, laidKinds := [.data, .data, .data, .listed, .data], laidTests := true, laidLooks := .later }
def NestRenamesUptoCardSaid : Prop := Claim7.holds Tryz.pinned (.plain (OpenSpec.upto nestRenamesSpec)) nestRenamesUptoCard

/-- THE SECOND FORM's CARD OF 'brocadelaw30.NestFreshNames'. -/
def nestFreshNamesUptoCard : Claim7 := { stood := { row := nestFreshNamesUptoRow, standIns := [], harness := (true, "1eda43b97535fcc9bd0e2037eeb1f6500f589514dcc6ebd532fd4686ff2a48c2"), looks := false }, kinds := [], alts := [], laidByText := true, laidKinds := [.data, .data, .data, .listed, .data], laidTests := true, laidLooks := .later }
def NestFreshNamesUptoCardSaid : Prop := Claim7.holds Tryz.pinned (.plain (OpenSpec.upto nestFreshNamesSpec)) nestFreshNamesUptoCard

/-- THE SECOND FORM's CARD OF 'brocadelaw30.NestCopies'. -/
def nestCopiesUptoCard : Claim7 := { stood := { row := nestCopiesUptoRow, standIns := [], harness := (true, "1eda43b97535fcc9bd0e2037eeb1f6500f589514dcc6ebd532fd4686ff2a48c2"), looks := false }, kinds := [], alts := [], laidByText := true, laidKinds := [.data, .data, .data, .listed, .data], laidTests := true, laidLooks := .later }
def NestCopiesUptoCardSaid : Prop := Claim7.holds Tryz.pinned (.plain (OpenSpec.upto nestCopiesSpec)) nestCopiesUptoCard
end Rows
end Go.Proofs.YtdbflnlalkfeeaaGreatDoor
