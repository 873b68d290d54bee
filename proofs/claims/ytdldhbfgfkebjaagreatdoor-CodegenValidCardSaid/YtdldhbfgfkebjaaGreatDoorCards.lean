/-
  DERIVED. GIVEN WITH THE SEED: THE CARDS: each row of YtdldhbfgfkebjaaGreatDoorRows.lean that lists a variable, with what it lists TIED to the program's text (the seventh form; the later family's looks); each row that meets fmt, with fmt's text TOLD by the authors' own Lean function (tested against real Go, not proved from fmt's source: count such statements apart). THE CARD IS WHAT COUNTS. Prove the row's statement (the work); the ties are given (YtdldhbfgfkebjaaGreatDoorTie.lean); close each card by the builder's one call (the guide's Derived/Test/ToyasCard.lean, 'card_holds'). Laid BY PROGRAM, IN A SANDBOX (cutbox-door.mjs). By AI agents, Wed Nov 11 2026. No macro, syntax, notation, axiom, sorry.
-/
import Derived.Test.YtdldhbfgfkebjaaGreatDoorRows
import GoSem.ClaimSeven
namespace Go.Proofs.YtdldhbfgfkebjaaGreatDoor
namespace Rows

/-- THE TIED CARD OF 'brocadelaw48.CodegenTypes'. -/
def codegenTypesCard : Claim7 := { stood := { row := codegenTypesRow, standIns := [], harness := (true, "c2ae8eb92ae23f3e91e13bad0f3b8243e96a64569034e3692de6809d138b5a2e"), looks := false }, kinds := [], alts := [], laidByText := true, laidKinds := [.listed, .data], laidTests := true, laidLooks := .later }
def CodegenTypesCardSaid : Prop := Claim7.holds Tryz.pinned (.plain (OpenSpec.ofChange codegenTypesSpec)) codegenTypesCard

/-- THE TIED CARD OF 'brocadelaw48.CodegenCompiles'. -/
def codegenCompilesCard : Claim7 := { stood := { row := codegenCompilesRow, standIns := [], harness := (true, "c2ae8eb92ae23f3e91e13bad0f3b8243e96a64569034e3692de6809d138b5a2e"), looks := false }, kinds := [], alts := [], laidByText := true, laidKinds := [.listed, .data], laidTests := true, laidLooks := .later }
def CodegenCompilesCardSaid : Prop := Claim7.holds Tryz.pinned (.plain (OpenSpec.ofChange codegenCompilesSpec)) codegenCompilesCard

/-- THE TIED CARD OF 'brocadelaw48.CodegenBounded'. -/
def codegenBoundedCard : Claim7 := { stood := { row := codegenBoundedRow, standIns := [], harness := (true, "c2ae8eb92ae23f3e91e13bad0f3b8243e96a64569034e3692de6809d138b5a2e"), looks := false }, kinds := [], alts := [], laidByText := true, laidKinds := [.listed, .data], laidTests := true, laidLooks := .later }
def CodegenBoundedCardSaid : Prop := Claim7.holds Tryz.pinned (.plain (OpenSpec.ofChange codegenBoundedSpec)) codegenBoundedCard

/-- THE TIED CARD OF 'brocadelaw48.CodegenUnrolls'. -/
def codegenUnrollsCard : Claim7 := { stood := { row := codegenUnrollsRow, standIns := [], harness := (true, "c2ae8eb92ae23f3e91e13bad0f3b8243e96a64569034e3692de6809d138b5a2e"), looks := false }, kinds := [], alts := [], laidByText := true, laidKinds := [.listed, .data], laidTests := true, laidLooks := .later }
def CodegenUnrollsCardSaid : Prop := Claim7.holds Tryz.pinned (.plain (OpenSpec.ofChange codegenUnrollsSpec)) codegenUnrollsCard

/-- THE TIED CARD OF 'brocadelaw48.CodegenValid'. -/
def codegenValidCard : Claim7 := { stood := { row := codegenValidRow, standIns := [], harness := (true, "c2ae8eb92ae23f3e91e13bad0f3b8243e96a64569034e3692de6809d138b5a2e"), looks := false }, kinds := [], alts := [], laidByText := true, laidKinds := [.listed, .data, .data], laidTests := true, laidLooks := .later }
def CodegenValidCardSaid : Prop := Claim7.holds Tryz.pinned (.plain (OpenSpec.ofChange codegenValidSpec)) codegenValidCard

/-- THE SECOND FORM's CARD OF 'brocadelaw48.CodegenTypes'. -/
def codegenTypesUptoCard : Claim7 := { stood := { row := codegenTypesUptoRow, standIns := [], harness := (true, "c2ae8eb92ae23f3e91e13bad0f3b8243e96a64569034e3692de6809d138b5a2e"), looks := false }, kinds := [], alts := [], laidByText := true, laidKinds := [.listed, .data], laidTests := true, laidLooks := .later }
def CodegenTypesUptoCardSaid : Prop := Claim7.holds Tryz.pinned (.plain (OpenSpec.upto codegenTypesSpec)) codegenTypesUptoCard

/-- THE SECOND FORM's CARD OF 'brocadelaw48.CodegenCompiles'. -/
def codegenCompilesUptoCard : Claim7 := { stood := { row := codegenCompilesUptoRow, standIns := [], harness := (true, "c2ae8eb92ae23f3e91e13bad0f3b8243e96a64569034e3692de6809d138b5a2e"), looks := false }, kinds := [], alts := [], laidByText := true, laidKinds := [.listed, .data], laidTests := true, laidLooks := .later }
def CodegenCompilesUptoCardSaid : Prop := Claim7.holds Tryz.pinned (.plain (OpenSpec.upto codegenCompilesSpec)) codegenCompilesUptoCard

/-- THE SECOND FORM's CARD OF 'brocadelaw48.CodegenBounded'. -/
def codegenBoundedUptoCard : Claim7 := { stood := { row := codegenBoundedUptoRow, standIns := [], harness := (true, "c2ae8eb92ae23f3e91e13bad0f3b8243e96a64569034e3692de6809d138b5a2e"), looks := false }, kinds := [], alts := [], laidByText := true, laidKinds := [.listed, .data], laidTests := true, laidLooks := .later }
def CodegenBoundedUptoCardSaid : Prop := Claim7.holds Tryz.pinned (.plain (OpenSpec.upto codegenBoundedSpec)) codegenBoundedUptoCard

/-- THE SECOND FORM's CARD OF 'brocadelaw48.CodegenUnrolls'. -/
def codegenUnrollsUptoCard : Claim7 := { stood := { row := codegenUnrollsUptoRow, standIns := [], harness := (true, "c2ae8eb92ae23f3e91e13bad0f3b8243e96a64569034e3692de6809d138b5a2e"), looks := false }, kinds := [], alts := [], laidByText := true, laidKinds := [.listed, .data], laidTests := true, laidLooks := .later }
def CodegenUnrollsUptoCardSaid : Prop := Claim7.holds Tryz.pinned (.plain (OpenSpec.upto codegenUnrollsSpec)) codegenUnrollsUptoCard

/-- THE SECOND FORM's CARD OF 'brocadelaw48.CodegenValid'. -/
def codegenValidUptoCard : Claim7 := { stood := { row := codegenValidUptoRow, standIns := [], harness := (true, "c2ae8eb92ae23f3e91e13bad0f3b8243e96a64569034e3692de6809d138b5a2e"), looks := false }, kinds := [], alts := [], laidByText := true, laidKinds := [.listed, .data, .data], laidTests := true, laidLooks := .later }
def CodegenValidUptoCardSaid : Prop := Claim7.holds Tryz.pinned (.plain (OpenSpec.upto codegenValidSpec)) codegenValidUptoCard
end Rows
end Go.Proofs.YtdldhbfgfkebjaaGreatDoor
