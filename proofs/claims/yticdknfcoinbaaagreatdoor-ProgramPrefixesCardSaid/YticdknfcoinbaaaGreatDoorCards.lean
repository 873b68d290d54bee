/-
  DERIVED. GIVEN WITH THE SEED: THE CARDS: each row of YticdknfcoinbaaaGreatDoorRows.lean that lists a variable, with what it lists TIED to the program's text (the seventh form; the later family's looks); each row that meets fmt, with fmt's text TOLD by the authors' own Lean function (tested against real Go, not proved from fmt's source: count such statements apart). THE CARD IS WHAT COUNTS. Prove the row's statement (the work); the ties are given (YticdknfcoinbaaaGreatDoorTie.lean); close each card by the builder's one call (the guide's Derived/Test/ToyasCard.lean, 'card_holds'). Laid BY PROGRAM, IN A SANDBOX (cutbox-door.mjs). By AI agents, Wed Nov 11 2026. No macro, syntax, notation, axiom, sorry.
-/
import Derived.Test.YticdknfcoinbaaaGreatDoorRows
import GoSem.ClaimSeven
namespace Go.Proofs.YticdknfcoinbaaaGreatDoor
namespace Rows

/-- THE TIED CARD OF 'brocadelaw17.ProgramValidates'. -/
def programValidatesCard : Claim7 := { stood := { row := programValidatesRow, standIns := [], harness := (true, "b8dbfd5e9ff2ad171c4529989b6fe3bf67531959783c7454aa03d3d1f74f33eb"), looks := false }, kinds := [], alts := [], laidByText := true, laidKinds := [.listed, .data], laidTests := true, laidLooks := .later }
def ProgramValidatesCardSaid : Prop := Claim7.holds Tryz.pinned (.plain (OpenSpec.ofChange programValidatesSpec)) programValidatesCard

/-- THE TIED CARD OF 'brocadelaw17.ProgramLimits'. -/
def programLimitsCard : Claim7 := { stood := { row := programLimitsRow, standIns := [], harness := (true, "b8dbfd5e9ff2ad171c4529989b6fe3bf67531959783c7454aa03d3d1f74f33eb"), looks := false }, kinds := [], alts := [], laidByText := true, laidKinds := [.listed, .data], laidTests := true, laidLooks := .later }
def ProgramLimitsCardSaid : Prop := Claim7.holds Tryz.pinned (.plain (OpenSpec.ofChange programLimitsSpec)) programLimitsCard

/-- THE TIED CARD OF 'brocadelaw17.ProgramTypes'. -/
def programTypesCard : Claim7 := { stood := { row := programTypesRow, standIns := [], harness := (true, "b8dbfd5e9ff2ad171c4529989b6fe3bf67531959783c7454aa03d3d1f74f33eb"), looks := false }, kinds := [], alts := [], laidByText := true, laidKinds := [.listed, .data], laidTests := true, laidLooks := .later }
def ProgramTypesCardSaid : Prop := Claim7.holds Tryz.pinned (.plain (OpenSpec.ofChange programTypesSpec)) programTypesCard

/-- THE TIED CARD OF 'brocadelaw17.ProgramCopies'. -/
def programCopiesCard : Claim7 := { stood := { row := programCopiesRow, standIns := [], harness := (true, "b8dbfd5e9ff2ad171c4529989b6fe3bf67531959783c7454aa03d3d1f74f33eb"), looks := false }, kinds := [], alts := [], laidByText := true, laidKinds := [.listed, .data], laidTests := true, laidLooks := .later }
def ProgramCopiesCardSaid : Prop := Claim7.holds Tryz.pinned (.plain (OpenSpec.ofChange programCopiesSpec)) programCopiesCard

/-- THE TIED CARD OF 'brocadelaw17.ProgramQueries'. -/
def programQueriesCard : Claim7 := { stood := { row := programQueriesRow, standIns := [], harness := (true, "b8dbfd5e9ff2ad171c4529989b6fe3bf67531959783c7454aa03d3d1f74f33eb"), looks := false }, kinds := [], alts := [], laidByText := true, laidKinds := [.listed, .data], laidTests := true, laidLooks := .later }
def ProgramQueriesCardSaid : Prop := Claim7.holds Tryz.pinned (.plain (OpenSpec.ofChange programQueriesSpec)) programQueriesCard

/-- THE TIED CARD OF 'brocadelaw17.ProgramPrefixes'. -/
def programPrefixesCard : Claim7 := { stood := { row := programPrefixesRow, standIns := [], harness := (true, "b8dbfd5e9ff2ad171c4529989b6fe3bf67531959783c7454aa03d3d1f74f33eb"), looks := false }, kinds := [], alts := [], laidByText := true, laidKinds := [.listed, .data], laidTests := true, laidLooks := .later }
def ProgramPrefixesCardSaid : Prop := Claim7.holds Tryz.pinned (.plain (OpenSpec.ofChange programPrefixesSpec)) programPrefixesCard

/-- THE TIED CARD OF 'brocadelaw22.DeltaDefs'. -/
def deltaDefsCard : Claim7 := { stood := { row := deltaDefsRow, standIns := [], harness := (true, "b8dbfd5e9ff2ad171c4529989b6fe3bf67531959783c7454aa03d3d1f74f33eb"), looks := false }, kinds := [], alts := [], laidByText := true, laidKinds := [.listed, .data], laidTests := true, laidLooks := .later }
def DeltaDefsCardSaid : Prop := Claim7.holds Tryz.pinned (.plain (OpenSpec.ofChange deltaDefsSpec)) deltaDefsCard

/-- THE TIED CARD OF 'brocadelaw22.DeltaProgs'. -/
def deltaProgsCard : Claim7 := { stood := { row := deltaProgsRow, standIns := [], harness := (true, "b8dbfd5e9ff2ad171c4529989b6fe3bf67531959783c7454aa03d3d1f74f33eb"), looks := false }, kinds := [], alts := [], laidByText := true, laidKinds := [.listed, .data], laidTests := true, laidLooks := .later }
def DeltaProgsCardSaid : Prop := Claim7.holds Tryz.pinned (.plain (OpenSpec.ofChange deltaProgsSpec)) deltaProgsCard

/-- THE SECOND FORM's CARD OF 'brocadelaw17.ProgramValidates'. -/
def programValidatesUptoCard : Claim7 := { stood := { row := programValidatesUptoRow, standIns := [], harness := (true, "b8dbfd5e9ff2ad171c4529989b6fe3bf67531959783c7454aa03d3d1f74f33eb"), looks := false }, kinds := [], alts := [], laidByText := true, laidKinds := [.listed, .data], laidTests := true, laidLooks := .later }
def ProgramValidatesUptoCardSaid : Prop := Claim7.holds Tryz.pinned (.plain (OpenSpec.upto programValidatesSpec)) programValidatesUptoCard

/-- THE SECOND FORM's CARD OF 'brocadelaw17.ProgramLimits'. -/
def programLimitsUptoCard : Claim7 := { stood := { row := programLimitsUptoRow, standIns := [], harness := (true, "b8dbfd5e9ff2ad171c4529989b6fe3bf67531959783c7454aa03d3d1f74f33eb"), looks := false }, kinds := [], alts := [], laidByText := true, laidKinds := [.listed, .data], laidTests := true, laidLooks := .later }
def ProgramLimitsUptoCardSaid : Prop := Claim7.holds Tryz.pinned (.plain (OpenSpec.upto programLimitsSpec)) programLimitsUptoCard

/-- THE SECOND FORM's CARD OF 'brocadelaw17.ProgramTypes'. -/
def programTypesUptoCard : Claim7 := { stood := { row := programTypesUptoRow, standIns := [], harness := (true, "b8dbfd5e9ff2ad171c4529989b6fe3bf67531959783c7454aa03d3d1f74f33eb"), looks := false }, kinds := [], alts := [], laidByText := true, laidKinds := [.listed, .data], laidTests := true, laidLooks := .later }
def ProgramTypesUptoCardSaid : Prop := Claim7.holds Tryz.pinned (.plain (OpenSpec.upto programTypesSpec)) programTypesUptoCard

/-- THE SECOND FORM's CARD OF 'brocadelaw17.ProgramCopies'. -/
def programCopiesUptoCard : Claim7 := { stood := { row := programCopiesUptoRow, standIns := [], harness := (true, "b8dbfd5e9ff2ad171c4529989b6fe3bf67531959783c7454aa03d3d1f74f33eb"), looks := false }, kinds := [], alts := [], laidByText := true, laidKinds := [.listed, .data], laidTests := true, laidLooks := .later }
def ProgramCopiesUptoCardSaid : Prop := Claim7.holds Tryz.pinned (.plain (OpenSpec.upto programCopiesSpec)) programCopiesUptoCard

/-- THE SECOND FORM's CARD OF 'brocadelaw17.ProgramQueries'. -/
def programQueriesUptoCard : Claim7 := { stood := { row := programQueriesUptoRow, standIns := [], harness := (true, "b8dbfd5e9ff2ad171c4529989b6fe3bf67531959783c7454aa03d3d1f74f33eb"), looks := false }, kinds := [], alts := [], laidByText := true, laidKinds := [.listed, .data], laidTests := true, laidLooks := .later }
def ProgramQueriesUptoCardSaid : Prop := Claim7.holds Tryz.pinned (.plain (OpenSpec.upto programQueriesSpec)) programQueriesUptoCard

/-- THE SECOND FORM's CARD OF 'brocadelaw17.ProgramPrefixes'. -/
def programPrefixesUptoCard : Claim7 := { stood := { row := programPrefixesUptoRow, standIns := [], harness := (true, "b8dbfd5e9ff2ad171c4529989b6fe3bf67531959783c7454aa03d3d1f74f33eb"), looks := false }, kinds := [], alts := [], laidByText := true, laidKinds := [.listed, .data], laidTests := true, laidLooks := .later }
def ProgramPrefixesUptoCardSaid : Prop := Claim7.holds Tryz.pinned (.plain (OpenSpec.upto programPrefixesSpec)) programPrefixesUptoCard

/-- THE SECOND FORM's CARD OF 'brocadelaw22.DeltaDefs'. -/
def deltaDefsUptoCard : Claim7 := { stood := { row := deltaDefsUptoRow, standIns := [], harness := (true, "b8dbfd5e9ff2ad171c4529989b6fe3bf67531959783c7454aa03d3d1f74f33eb"), looks := false }, kinds := [], alts := [], laidByText := true, laidKinds := [.listed, .data], laidTests := true, laidLooks := .later }
def DeltaDefsUptoCardSaid : Prop := Claim7.holds Tryz.pinned (.plain (OpenSpec.upto deltaDefsSpec)) deltaDefsUptoCard

/-- THE SECOND FORM's CARD OF 'brocadelaw22.DeltaProgs'. -/
def deltaProgsUptoCard : Claim7 := { stood := { row := deltaProgsUptoRow, standIns := [], harness := (true, "b8dbfd5e9ff2ad171c4529989b6fe3bf67531959783c7454aa03d3d1f74f33eb"), looks := false }, kinds := [], alts := [], laidByText := true, laidKinds := [.listed, .data], laidTests := true, laidLooks := .later }
def DeltaProgsUptoCardSaid : Prop := Claim7.holds Tryz.pinned (.plain (OpenSpec.upto deltaProgsSpec)) deltaProgsUptoCard
end Rows
end Go.Proofs.YticdknfcoinbaaaGreatDoor
