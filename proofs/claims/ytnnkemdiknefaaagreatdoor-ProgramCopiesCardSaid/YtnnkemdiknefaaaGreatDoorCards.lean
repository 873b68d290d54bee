/-
  DERIVED. GIVEN WITH THE SEED: THE CARDS: each row of YtnnkemdiknefaaaGreatDoorRows.lean that lists a variable, with what it lists TIED to the program's text (the seventh form; the later family's looks); each row that meets fmt, with fmt's text TOLD by the authors' own Lean function (tested against real Go, not proved from fmt's source: count such statements apart). THE CARD IS WHAT COUNTS. Prove the row's statement (the work); the ties are given (YtnnkemdiknefaaaGreatDoorTie.lean); close each card by the builder's one call (the guide's Derived/Test/ToyasCard.lean, 'card_holds'). Laid BY PROGRAM, IN A SANDBOX (cutbox-door.mjs). By AI agents, Wed Nov 11 2026. No macro, syntax, notation, axiom, sorry.
-/
import Derived.Test.YtnnkemdiknefaaaGreatDoorRows
import GoSem.ClaimSeven
namespace Go.Proofs.YtnnkemdiknefaaaGreatDoor
namespace Rows

/-- THE TIED CARD OF 'brocadelaw22.DeltaDefs'. -/
def deltaDefsCard : Claim7 := { stood := { row := deltaDefsRow, standIns := [], harness := (true, "7de34a5b317a682199fd761250bba320d7f9ff9335535688bb58c46ead52c60e"), looks := false }, kinds := [], alts := [], laidByText := true, laidKinds := [.listed, .data], laidTests := true, laidLooks := .later }
def DeltaDefsCardSaid : Prop := Claim7.holds Tryz.pinned (.plain (OpenSpec.ofChange deltaDefsSpec)) deltaDefsCard

/-- THE TIED CARD OF 'brocadelaw22.DeltaProgs'. -/
def deltaProgsCard : Claim7 := { stood := { row := deltaProgsRow, standIns := [], harness := (true, "7de34a5b317a682199fd761250bba320d7f9ff9335535688bb58c46ead52c60e"), looks := false }, kinds := [], alts := [], laidByText := true, laidKinds := [.listed, .data], laidTests := true, laidLooks := .later }
def DeltaProgsCardSaid : Prop := Claim7.holds Tryz.pinned (.plain (OpenSpec.ofChange deltaProgsSpec)) deltaProgsCard

/-- THE TIED CARD OF 'brocadelaw14.ExprSubstitutes'. -/
def exprSubstitutesCard : Claim7 := { stood := { row := exprSubstitutesRow, standIns := [], harness := (true, "7de34a5b317a682199fd761250bba320d7f9ff9335535688bb58c46ead52c60e"), looks := false }, kinds := [], alts := [], laidByText := true, laidKinds := [.listed, .data], laidTests := true, laidLooks := .later }
def ExprSubstitutesCardSaid : Prop := Claim7.holds Tryz.pinned (.plain (OpenSpec.ofChange exprSubstitutesSpec)) exprSubstitutesCard

/-- THE TIED CARD OF 'brocadelaw14.ExprWalks'. -/
def exprWalksCard : Claim7 := { stood := { row := exprWalksRow, standIns := [], harness := (true, "7de34a5b317a682199fd761250bba320d7f9ff9335535688bb58c46ead52c60e"), looks := false }, kinds := [], alts := [], laidByText := true, laidKinds := [.listed, .data], laidTests := true, laidLooks := .later }
def ExprWalksCardSaid : Prop := Claim7.holds Tryz.pinned (.plain (OpenSpec.ofChange exprWalksSpec)) exprWalksCard

/-- THE TIED CARD OF 'brocadelaw14.ExprCopies'. -/
def exprCopiesCard : Claim7 := { stood := { row := exprCopiesRow, standIns := [], harness := (true, "7de34a5b317a682199fd761250bba320d7f9ff9335535688bb58c46ead52c60e"), looks := false }, kinds := [], alts := [], laidByText := true, laidKinds := [.listed, .data], laidTests := true, laidLooks := .later }
def ExprCopiesCardSaid : Prop := Claim7.holds Tryz.pinned (.plain (OpenSpec.ofChange exprCopiesSpec)) exprCopiesCard

/-- THE TIED CARD OF 'brocadelaw14.ExprTotalOrder'. -/
def exprTotalOrderCard : Claim7 := { stood := { row := exprTotalOrderRow, standIns := [], harness := (true, "7de34a5b317a682199fd761250bba320d7f9ff9335535688bb58c46ead52c60e"), looks := false }, kinds := [], alts := [], laidByText := true, laidKinds := [.listed, .data], laidTests := true, laidLooks := .later }
def ExprTotalOrderCardSaid : Prop := Claim7.holds Tryz.pinned (.plain (OpenSpec.ofChange exprTotalOrderSpec)) exprTotalOrderCard

/-- THE TIED CARD OF 'brocadelaw14.ExprEliminates'. -/
def exprEliminatesCard : Claim7 := { stood := { row := exprEliminatesRow, standIns := [], harness := (true, "7de34a5b317a682199fd761250bba320d7f9ff9335535688bb58c46ead52c60e"), looks := false }, kinds := [], alts := [], laidByText := true, laidKinds := [.listed, .data], laidTests := true, laidLooks := .later }
def ExprEliminatesCardSaid : Prop := Claim7.holds Tryz.pinned (.plain (OpenSpec.ofChange exprEliminatesSpec)) exprEliminatesCard

/-- THE TIED CARD OF 'brocadelaw14.ExprReplaces'. -/
def exprReplacesCard : Claim7 := { stood := { row := exprReplacesRow, standIns := [], harness := (true, "7de34a5b317a682199fd761250bba320d7f9ff9335535688bb58c46ead52c60e"), looks := false }, kinds := [], alts := [], laidByText := true, laidKinds := [.listed, .data], laidTests := true, laidLooks := .later }
def ExprReplacesCardSaid : Prop := Claim7.holds Tryz.pinned (.plain (OpenSpec.ofChange exprReplacesSpec)) exprReplacesCard

/-- THE TIED CARD OF 'brocadelaw17.ProgramCopies'. -/
def programCopiesCard : Claim7 := { stood := { row := programCopiesRow, standIns := [], harness := (true, "7de34a5b317a682199fd761250bba320d7f9ff9335535688bb58c46ead52c60e"), looks := false }, kinds := [], alts := [], laidByText := true, laidKinds := [.listed, .data], laidTests := true, laidLooks := .later }
def ProgramCopiesCardSaid : Prop := Claim7.holds Tryz.pinned (.plain (OpenSpec.ofChange programCopiesSpec)) programCopiesCard

/-- THE SECOND FORM's CARD OF 'brocadelaw22.DeltaDefs'. -/
def deltaDefsUptoCard : Claim7 := { stood := { row := deltaDefsUptoRow, standIns := [], harness := (true, "7de34a5b317a682199fd761250bba320d7f9ff9335535688bb58c46ead52c60e"), looks := false }, kinds := [], alts := [], laidByText := true, laidKinds := [.listed, .data], laidTests := true, laidLooks := .later }
def DeltaDefsUptoCardSaid : Prop := Claim7.holds Tryz.pinned (.plain (OpenSpec.upto deltaDefsSpec)) deltaDefsUptoCard

/-- THE SECOND FORM's CARD OF 'brocadelaw22.DeltaProgs'. -/
def deltaProgsUptoCard : Claim7 := { stood := { row := deltaProgsUptoRow, standIns := [], harness := (true, "7de34a5b317a682199fd761250bba320d7f9ff9335535688bb58c46ead52c60e"), looks := false }, kinds := [], alts := [], laidByText := true, laidKinds := [.listed, .data], laidTests := true, laidLooks := .later }
def DeltaProgsUptoCardSaid : Prop := Claim7.holds Tryz.pinned (.plain (OpenSpec.upto deltaProgsSpec)) deltaProgsUptoCard

/-- THE SECOND FORM's CARD OF 'brocadelaw14.ExprSubstitutes'. -/
def exprSubstitutesUptoCard : Claim7 := { stood := { row := exprSubstitutesUptoRow, standIns := [], harness := (true, "7de34a5b317a682199fd761250bba320d7f9ff9335535688bb58c46ead52c60e"), looks := false }, kinds := [], alts := [], laidByText := true, laidKinds := [.listed, .data], laidTests := true, laidLooks := .later }
def ExprSubstitutesUptoCardSaid : Prop := Claim7.holds Tryz.pinned (.plain (OpenSpec.upto exprSubstitutesSpec)) exprSubstitutesUptoCard

/-- THE SECOND FORM's CARD OF 'brocadelaw14.ExprWalks'. -/
def exprWalksUptoCard : Claim7 := { stood := { row := exprWalksUptoRow, standIns := [], harness := (true, "7de34a5b317a682199fd761250bba320d7f9ff9335535688bb58c46ead52c60e"), looks := false }, kinds := [], alts := [], laidByText := true, laidKinds := [.listed, .data], laidTests := true, laidLooks := .later }
def ExprWalksUptoCardSaid : Prop := Claim7.holds Tryz.pinned (.plain (OpenSpec.upto exprWalksSpec)) exprWalksUptoCard

/-- THE SECOND FORM's CARD OF 'brocadelaw14.ExprCopies'. -/
def exprCopiesUptoCard : Claim7 := { stood := { row := exprCopiesUptoRow, standIns := [], harness := (true, "7de34a5b317a682199fd761250bba320d7f9ff9335535688bb58c46ead52c60e"), looks := false }, kinds := [], alts := [], laidByText := true, laidKinds := [.listed, .data], laidTests := true, laidLooks := .later }
def ExprCopiesUptoCardSaid : Prop := Claim7.holds Tryz.pinned (.plain (OpenSpec.upto exprCopiesSpec)) exprCopiesUptoCard

/-- THE SECOND FORM's CARD OF 'brocadelaw14.ExprTotalOrder'. -/
def exprTotalOrderUptoCard : Claim7 := { stood := { row := exprTotalOrderUptoRow, standIns := [], harness := (true, "7de34a5b317a682199fd761250bba320d7f9ff9335535688bb58c46ead52c60e"), looks := false }, kinds := [], alts := [], laidByText := true, laidKinds := [.listed, .data], laidTests := true, laidLooks := .later }
def ExprTotalOrderUptoCardSaid : Prop := Claim7.holds Tryz.pinned (.plain (OpenSpec.upto exprTotalOrderSpec)) exprTotalOrderUptoCard

/-- THE SECOND FORM's CARD OF 'brocadelaw14.ExprEliminates'. -/
def exprEliminatesUptoCard : Claim7 := { stood := { row := exprEliminatesUptoRow, standIns := [], harness := (true, "7de34a5b317a682199fd761250bba320d7f9ff9335535688bb58c46ead52c60e"), looks := false }, kinds := [], alts := [], laidByText := true, laidKinds := [.listed, .data], laidTests := true, laidLooks := .later }
def ExprEliminatesUptoCardSaid : Prop := Claim7.holds Tryz.pinned (.plain (OpenSpec.upto exprEliminatesSpec)) exprEliminatesUptoCard

/-- THE SECOND FORM's CARD OF 'brocadelaw14.ExprReplaces'. -/
def exprReplacesUptoCard : Claim7 := { stood := { row := exprReplacesUptoRow, standIns := [], harness := (true, "7de34a5b317a682199fd761250bba320d7f9ff9335535688bb58c46ead52c60e"), looks := false }, kinds := [], alts := [], laidByText := true, laidKinds := [.listed, .data], laidTests := true, laidLooks := .later }
def ExprReplacesUptoCardSaid : Prop := Claim7.holds Tryz.pinned (.plain (OpenSpec.upto exprReplacesSpec)) exprReplacesUptoCard

/-- THE SECOND FORM's CARD OF 'brocadelaw17.ProgramCopies'. -/
def programCopiesUptoCard : Claim7 := { stood := { row := programCopiesUptoRow, standIns := [], harness := (true, "7de34a5b317a682199fd761250bba320d7f9ff9335535688bb58c46ead52c60e"), looks := false }, kinds := [], alts := [], laidByText := true, laidKinds := [.listed, .data], laidTests := true, laidLooks := .later }
def ProgramCopiesUptoCardSaid : Prop := Claim7.holds Tryz.pinned (.plain (OpenSpec.upto programCopiesSpec)) programCopiesUptoCard
end Rows
end Go.Proofs.YtnnkemdiknefaaaGreatDoor
