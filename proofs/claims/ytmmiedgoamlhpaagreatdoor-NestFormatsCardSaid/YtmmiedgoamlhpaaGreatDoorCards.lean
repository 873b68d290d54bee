/-
  DERIVED. GIVEN WITH THE SEED: THE CARDS: each row of YtmmiedgoamlhpaaGreatDoorRows.lean that lists a variable, with what it lists TIED to the program's text (the seventh form; the later family's looks); each row that meets fmt, with fmt's text TOLD by the authors' own Lean function (tested against real Go, not proved from fmt's source: count such statements apart). THE CARD IS WHAT COUNTS. Prove the row's statement (the work); the ties are given (YtmmiedgoamlhpaaGreatDoorTie.lean); close each card by the builder's one call (the guide's Derived/Test/ToyasCard.lean, 'card_holds'). Laid BY PROGRAM, IN A SANDBOX (cutbox-door.mjs). By AI agents, Wed Nov 11 2026. No macro, syntax, notation, axiom, sorry.
-/
import Derived.Test.YtmmiedgoamlhpaaGreatDoorRows
import GoSem.ClaimSeven
namespace Go.Proofs.YtmmiedgoamlhpaaGreatDoor
namespace Rows

/-- THE TIED CARD OF 'brocadelaw49.VmPlays'. -/
def vmPlaysCard : Claim7 := { stood := { row := vmPlaysRow, standIns := [], harness := (true, "f09e54f4cad58c805cf8e96a9be9b4c0eff13fef6f25c8f0a66957b2feb8deba"), looks := false }, kinds := [], alts := [], laidByText := true, laidKinds := [.data], laidTests := true, laidLooks := .later }
def VmPlaysCardSaid : Prop := Claim7.holds Tryz.pinned (.plain (OpenSpec.ofChange vmPlaysSpec)) vmPlaysCard

/-- THE TIED CARD OF 'brocadelaw30.NestFormats'. -/
def nestFormatsCard : Claim7 := { stood := { row := nestFormatsRow, standIns := [], harness := (true, "f09e54f4cad58c805cf8e96a9be9b4c0eff13fef6f25c8f0a66957b2feb8deba"), looks := false }, kinds := [], alts := [], laidByText := true, laidKinds := [.data, .data, .data, .listed, .data], laidTests := true, laidLooks := .later }
def NestFormatsCardSaid : Prop := Claim7.holds Tryz.pinned (.plain (OpenSpec.ofChange nestFormatsSpec)) nestFormatsCard

/-- THE SECOND FORM's CARD OF 'brocadelaw49.VmPlays'. -/
def vmPlaysUptoCard : Claim7 := { stood := { row := vmPlaysUptoRow, standIns := [], harness := (true, "f09e54f4cad58c805cf8e96a9be9b4c0eff13fef6f25c8f0a66957b2feb8deba"), looks := false }, kinds := [], alts := [], laidByText := true, laidKinds := [.data], laidTests := true, laidLooks := .later }
def VmPlaysUptoCardSaid : Prop := Claim7.holds Tryz.pinned (.plain (OpenSpec.upto vmPlaysSpec)) vmPlaysUptoCard

/-- THE SECOND FORM's CARD OF 'brocadelaw30.NestFormats'. -/
def nestFormatsUptoCard : Claim7 := { stood := { row := nestFormatsUptoRow, standIns := [], harness := (true, "f09e54f4cad58c805cf8e96a9be9b4c0eff13fef6f25c8f0a66957b2feb8deba"), looks := false }, kinds := [], alts := [], laidByText := true, laidKinds := [.data, .data, .data, .listed, .data], laidTests := true, laidLooks := .later }
def NestFormatsUptoCardSaid : Prop := Claim7.holds Tryz.pinned (.plain (OpenSpec.upto nestFormatsSpec)) nestFormatsUptoCard
end Rows
end Go.Proofs.YtmmiedgoamlhpaaGreatDoor
