/-
  NARROWER THAN 'FOR EVERY INPUT', by the rows' own cells (each row's printed sentence says how): DeltaDefs: loops, laid · DeltaProgs: loops, laid · ExprSubstitutes: loops, laid · ExprWalks: loops, laid · ExprCopies: loops, laid · ExprTotalOrder: loops, laid · ExprEliminates: loops, laid · ExprReplaces: loops, laid · ProgramCopies: loops, laid.
  DERIVED. THE GIVEN ROWS OF THIS SEAT. 9 by the template 'for every input the law returns true; each argument reads behind the call as it read before'; 0 by the template 'total and deterministic' (their statements: YtnnkemdiknefaaaGreatDoorTotals.lean).
  GIVEN WITH THE SEED: the statements are not yours to turn. If you find one false, say at which input.
  Laid BY PROGRAM, IN A SANDBOX (cutbox-rows.mjs): the forced cells as the released guide's own fill.sh prints them over the translation a3fd9b7f0bf6b8d0… (all of the seat's roots in one cut). By AI agents, Wed Nov 11 2026. No macro, syntax, notation, axiom, sorry.
-/
import Derived.Test.YtnnkemdiknefaaaGreatDoorChecked
import GoSem.Claim
import GoSem.ClaimJoined
import GoSem.ClaimMapViews
import Derived.JoinedTies
import Derived.KernelRfl
namespace Go.Proofs.YtnnkemdiknefaaaGreatDoor
/- THE CELL 'sum', in the pinned program and in every row, IS THE sha256 OF THE DUMP (.gsa) THAT YtnnkemdiknefaaaGreatDoorProg.lean LOADS. Nothing in Lean hashes anything: it is a label: what it is worth is what the hold of that sum in a sandbox is worth. -/
noncomputable def Tryz.pinned : Pinned := { name := "ytnnkemdiknefaaagreatdoor", sum := "a3fd9b7f0bf6b8d0eb736dc21e6d2663d9499742a00673f4a3a0632e5383569e", checked := Tryz.checked }
namespace Rows
def none {H : Type} : Left H := { results := [], args := [] }

/- WHAT THE LISTED PACKAGE-LEVEL VARIABLES READ AS WHEN THE CALL BEGINS. Each datum BY PROGRAM (the guide's laid-datum.mjs) off the statement by which the dump's own 'gosem.cut.vars' lays the variable. In a bare row this is a premise. The card (YtnnkemdiknefaaaGreatDoorCards.lean) ties it to the program's text. -/
def laid_unicode_White_Space {H : Type} : DataW H := .ptr (.agg [.slice [.agg [.lit (.int .u16 9), .lit (.int .u16 13), .lit (.int .u16 1)], .agg [.lit (.int .u16 32), .lit (.int .u16 133), .lit (.int .u16 101)], .agg [.lit (.int .u16 160), .lit (.int .u16 5760), .lit (.int .u16 5600)], .agg [.lit (.int .u16 8192), .lit (.int .u16 8202), .lit (.int .u16 1)], .agg [.lit (.int .u16 8232), .lit (.int .u16 8233), .lit (.int .u16 1)], .agg [.lit (.int .u16 8239), .lit (.int .u16 8287), .lit (.int .u16 48)], .agg [.lit (.int .u16 12288), .lit (.int .u16 12288), .lit (.int .u16 1)]] [], .nil, .lit (.int .i64 2)])
def laid_strings_asciiSpace {H : Type} : DataW H := .agg [.lit (.int .u8 0), .lit (.int .u8 0), .lit (.int .u8 0), .lit (.int .u8 0), .lit (.int .u8 0), .lit (.int .u8 0), .lit (.int .u8 0), .lit (.int .u8 0), .lit (.int .u8 0), .lit (.int .u8 1), .lit (.int .u8 1), .lit (.int .u8 1), .lit (.int .u8 1), .lit (.int .u8 1), .lit (.int .u8 0), .lit (.int .u8 0), .lit (.int .u8 0), .lit (.int .u8 0), .lit (.int .u8 0), .lit (.int .u8 0), .lit (.int .u8 0), .lit (.int .u8 0), .lit (.int .u8 0), .lit (.int .u8 0), .lit (.int .u8 0), .lit (.int .u8 0), .lit (.int .u8 0), .lit (.int .u8 0), .lit (.int .u8 0), .lit (.int .u8 0), .lit (.int .u8 0), .lit (.int .u8 0), .lit (.int .u8 1), .lit (.int .u8 0), .lit (.int .u8 0), .lit (.int .u8 0), .lit (.int .u8 0), .lit (.int .u8 0), .lit (.int .u8 0), .lit (.int .u8 0), .lit (.int .u8 0), .lit (.int .u8 0), .lit (.int .u8 0), .lit (.int .u8 0), .lit (.int .u8 0), .lit (.int .u8 0), .lit (.int .u8 0), .lit (.int .u8 0), .lit (.int .u8 0), .lit (.int .u8 0), .lit (.int .u8 0), .lit (.int .u8 0), .lit (.int .u8 0), .lit (.int .u8 0), .lit (.int .u8 0), .lit (.int .u8 0), .lit (.int .u8 0), .lit (.int .u8 0), .lit (.int .u8 0), .lit (.int .u8 0), .lit (.int .u8 0), .lit (.int .u8 0), .lit (.int .u8 0), .lit (.int .u8 0), .lit (.int .u8 0), .lit (.int .u8 0), .lit (.int .u8 0), .lit (.int .u8 0), .lit (.int .u8 0), .lit (.int .u8 0), .lit (.int .u8 0), .lit (.int .u8 0), .lit (.int .u8 0), .lit (.int .u8 0), .lit (.int .u8 0), .lit (.int .u8 0), .lit (.int .u8 0), .lit (.int .u8 0), .lit (.int .u8 0), .lit (.int .u8 0), .lit (.int .u8 0), .lit (.int .u8 0), .lit (.int .u8 0), .lit (.int .u8 0), .lit (.int .u8 0), .lit (.int .u8 0), .lit (.int .u8 0), .lit (.int .u8 0), .lit (.int .u8 0), .lit (.int .u8 0), .lit (.int .u8 0), .lit (.int .u8 0), .lit (.int .u8 0), .lit (.int .u8 0), .lit (.int .u8 0), .lit (.int .u8 0), .lit (.int .u8 0), .lit (.int .u8 0), .lit (.int .u8 0), .lit (.int .u8 0), .lit (.int .u8 0), .lit (.int .u8 0), .lit (.int .u8 0), .lit (.int .u8 0), .lit (.int .u8 0), .lit (.int .u8 0), .lit (.int .u8 0), .lit (.int .u8 0), .lit (.int .u8 0), .lit (.int .u8 0), .lit (.int .u8 0), .lit (.int .u8 0), .lit (.int .u8 0), .lit (.int .u8 0), .lit (.int .u8 0), .lit (.int .u8 0), .lit (.int .u8 0), .lit (.int .u8 0), .lit (.int .u8 0), .lit (.int .u8 0), .lit (.int .u8 0), .lit (.int .u8 0), .lit (.int .u8 0), .lit (.int .u8 0), .lit (.int .u8 0), .lit (.int .u8 0), .lit (.int .u8 0), .lit (.int .u8 0), .lit (.int .u8 0), .lit (.int .u8 0), .lit (.int .u8 0), .lit (.int .u8 0), .lit (.int .u8 0), .lit (.int .u8 0), .lit (.int .u8 0), .lit (.int .u8 0), .lit (.int .u8 0), .lit (.int .u8 0), .lit (.int .u8 0), .lit (.int .u8 0), .lit (.int .u8 0), .lit (.int .u8 0), .lit (.int .u8 0), .lit (.int .u8 0), .lit (.int .u8 0), .lit (.int .u8 0), .lit (.int .u8 0), .lit (.int .u8 0), .lit (.int .u8 0), .lit (.int .u8 0), .lit (.int .u8 0), .lit (.int .u8 0), .lit (.int .u8 0), .lit (.int .u8 0), .lit (.int .u8 0), .lit (.int .u8 0), .lit (.int .u8 0), .lit (.int .u8 0), .lit (.int .u8 0), .lit (.int .u8 0), .lit (.int .u8 0), .lit (.int .u8 0), .lit (.int .u8 0), .lit (.int .u8 0), .lit (.int .u8 0), .lit (.int .u8 0), .lit (.int .u8 0), .lit (.int .u8 0), .lit (.int .u8 0), .lit (.int .u8 0), .lit (.int .u8 0), .lit (.int .u8 0), .lit (.int .u8 0), .lit (.int .u8 0), .lit (.int .u8 0), .lit (.int .u8 0), .lit (.int .u8 0), .lit (.int .u8 0), .lit (.int .u8 0), .lit (.int .u8 0), .lit (.int .u8 0), .lit (.int .u8 0), .lit (.int .u8 0), .lit (.int .u8 0), .lit (.int .u8 0), .lit (.int .u8 0), .lit (.int .u8 0), .lit (.int .u8 0), .lit (.int .u8 0), .lit (.int .u8 0), .lit (.int .u8 0), .lit (.int .u8 0), .lit (.int .u8 0), .lit (.int .u8 0), .lit (.int .u8 0), .lit (.int .u8 0), .lit (.int .u8 0), .lit (.int .u8 0), .lit (.int .u8 0), .lit (.int .u8 0), .lit (.int .u8 0), .lit (.int .u8 0), .lit (.int .u8 0), .lit (.int .u8 0), .lit (.int .u8 0), .lit (.int .u8 0), .lit (.int .u8 0), .lit (.int .u8 0), .lit (.int .u8 0), .lit (.int .u8 0), .lit (.int .u8 0), .lit (.int .u8 0), .lit (.int .u8 0), .lit (.int .u8 0), .lit (.int .u8 0), .lit (.int .u8 0), .lit (.int .u8 0), .lit (.int .u8 0), .lit (.int .u8 0), .lit (.int .u8 0), .lit (.int .u8 0), .lit (.int .u8 0), .lit (.int .u8 0), .lit (.int .u8 0), .lit (.int .u8 0), .lit (.int .u8 0), .lit (.int .u8 0), .lit (.int .u8 0), .lit (.int .u8 0), .lit (.int .u8 0), .lit (.int .u8 0), .lit (.int .u8 0), .lit (.int .u8 0), .lit (.int .u8 0), .lit (.int .u8 0), .lit (.int .u8 0), .lit (.int .u8 0), .lit (.int .u8 0), .lit (.int .u8 0), .lit (.int .u8 0), .lit (.int .u8 0), .lit (.int .u8 0), .lit (.int .u8 0), .lit (.int .u8 0), .lit (.int .u8 0), .lit (.int .u8 0), .lit (.int .u8 0), .lit (.int .u8 0), .lit (.int .u8 0), .lit (.int .u8 0), .lit (.int .u8 0), .lit (.int .u8 0), .lit (.int .u8 0), .lit (.int .u8 0), .lit (.int .u8 0), .lit (.int .u8 0)]

/-- 'brocadelaw22.DeltaDefs': WHATEVER THE INPUT: true; the input reads as it did. -/
def deltaDefsSpec : ChangeSpec := { name := "deltaDefs", fn := fun _ => fun
  | [d1, d2] => { results := [.lit (.bool true)], args := [d1, d2] }
  | _ => none }
def deltaDefsRow : OpenClaim := { program := "ytnnkemdiknefaaagreatdoor", sum := "a3fd9b7f0bf6b8d0eb736dc21e6d2663d9499742a00673f4a3a0632e5383569e", func := "brocade/brocadelaw22.DeltaDefs", spec := "deltaDefs", unfollowed := true, recurses := true, named := ["strings.asciiSpace", "unicode.White_Space"], loops := true, apart := false, laid := [("unicode.White_Space", laid_unicode_White_Space), ("strings.asciiSpace", laid_strings_asciiSpace)] }
def DeltaDefsSaid : Prop := deltaDefsRow.holds Tryz.pinned (OpenSpec.ofChange deltaDefsSpec)

/-- ITS FALSE NEIGHBOUR: 'it returns false'. Refute it at one input. -/
def deltaDefsWrong : ChangeSpec := { name := "deltaDefs", fn := fun _ => fun
  | [d1, d2] => { results := [.lit (.bool false)], args := [d1, d2] }
  | _ => none }
def DeltaDefsWrongFalsely : Prop := deltaDefsRow.holds Tryz.pinned (OpenSpec.ofChange deltaDefsWrong)

/-- 'brocadelaw22.DeltaProgs': WHATEVER THE INPUT: true; the input reads as it did. -/
def deltaProgsSpec : ChangeSpec := { name := "deltaProgs", fn := fun _ => fun
  | [d] => { results := [.lit (.bool true)], args := [d] }
  | _ => none }
def deltaProgsRow : OpenClaim := { program := "ytnnkemdiknefaaagreatdoor", sum := "a3fd9b7f0bf6b8d0eb736dc21e6d2663d9499742a00673f4a3a0632e5383569e", func := "brocade/brocadelaw22.DeltaProgs", spec := "deltaProgs", unfollowed := true, recurses := true, named := ["strings.asciiSpace", "unicode.White_Space"], loops := true, apart := false, laid := [("unicode.White_Space", laid_unicode_White_Space), ("strings.asciiSpace", laid_strings_asciiSpace)] }
def DeltaProgsSaid : Prop := deltaProgsRow.holds Tryz.pinned (OpenSpec.ofChange deltaProgsSpec)

/-- ITS FALSE NEIGHBOUR: 'it returns false'. Refute it at one input. -/
def deltaProgsWrong : ChangeSpec := { name := "deltaProgs", fn := fun _ => fun
  | [d] => { results := [.lit (.bool false)], args := [d] }
  | _ => none }
def DeltaProgsWrongFalsely : Prop := deltaProgsRow.holds Tryz.pinned (OpenSpec.ofChange deltaProgsWrong)

/-- 'brocadelaw14.ExprSubstitutes': WHATEVER THE INPUT: true; the input reads as it did. -/
def exprSubstitutesSpec : ChangeSpec := { name := "exprSubstitutes", fn := fun _ => fun
  | [d1, d2, d3] => { results := [.lit (.bool true)], args := [d1, d2, d3] }
  | _ => none }
def exprSubstitutesRow : OpenClaim := { program := "ytnnkemdiknefaaagreatdoor", sum := "a3fd9b7f0bf6b8d0eb736dc21e6d2663d9499742a00673f4a3a0632e5383569e", func := "brocade/brocadelaw14.ExprSubstitutes", spec := "exprSubstitutes", unfollowed := true, recurses := true, named := ["strings.asciiSpace", "unicode.White_Space"], loops := true, apart := false, laid := [("unicode.White_Space", laid_unicode_White_Space), ("strings.asciiSpace", laid_strings_asciiSpace)] }
def ExprSubstitutesSaid : Prop := exprSubstitutesRow.holds Tryz.pinned (OpenSpec.ofChange exprSubstitutesSpec)

/-- ITS FALSE NEIGHBOUR: 'it returns false'. Refute it at one input. -/
def exprSubstitutesWrong : ChangeSpec := { name := "exprSubstitutes", fn := fun _ => fun
  | [d1, d2, d3] => { results := [.lit (.bool false)], args := [d1, d2, d3] }
  | _ => none }
def ExprSubstitutesWrongFalsely : Prop := exprSubstitutesRow.holds Tryz.pinned (OpenSpec.ofChange exprSubstitutesWrong)

/-- 'brocadelaw14.ExprWalks': WHATEVER THE INPUT: true; the input reads as it did. -/
def exprWalksSpec : ChangeSpec := { name := "exprWalks", fn := fun _ => fun
  | [d1, d2] => { results := [.lit (.bool true)], args := [d1, d2] }
  | _ => none }
def exprWalksRow : OpenClaim := { program := "ytnnkemdiknefaaagreatdoor", sum := "a3fd9b7f0bf6b8d0eb736dc21e6d2663d9499742a00673f4a3a0632e5383569e", func := "brocade/brocadelaw14.ExprWalks", spec := "exprWalks", unfollowed := true, recurses := true, named := ["strings.asciiSpace", "unicode.White_Space"], loops := true, apart := false, laid := [("unicode.White_Space", laid_unicode_White_Space), ("strings.asciiSpace", laid_strings_asciiSpace)] }
def ExprWalksSaid : Prop := exprWalksRow.holds Tryz.pinned (OpenSpec.ofChange exprWalksSpec)

/-- ITS FALSE NEIGHBOUR: 'it returns false'. Refute it at one input. -/
def exprWalksWrong : ChangeSpec := { name := "exprWalks", fn := fun _ => fun
  | [d1, d2] => { results := [.lit (.bool false)], args := [d1, d2] }
  | _ => none }
def ExprWalksWrongFalsely : Prop := exprWalksRow.holds Tryz.pinned (OpenSpec.ofChange exprWalksWrong)

/-- 'brocadelaw14.ExprCopies': WHATEVER THE INPUT: true; the input reads as it did. -/
def exprCopiesSpec : ChangeSpec := { name := "exprCopies", fn := fun _ => fun
  | [d] => { results := [.lit (.bool true)], args := [d] }
  | _ => none }
def exprCopiesRow : OpenClaim := { program := "ytnnkemdiknefaaagreatdoor", sum := "a3fd9b7f0bf6b8d0eb736dc21e6d2663d9499742a00673f4a3a0632e5383569e", func := "brocade/brocadelaw14.ExprCopies", spec := "exprCopies", unfollowed := true, recurses := true, named := ["strings.asciiSpace", "unicode.White_Space"], loops := true, apart := false, laid := [("unicode.White_Space", laid_unicode_White_Space), ("strings.asciiSpace", laid_strings_asciiSpace)] }
def ExprCopiesSaid : Prop := exprCopiesRow.holds Tryz.pinned (OpenSpec.ofChange exprCopiesSpec)

/-- ITS FALSE NEIGHBOUR: 'it returns false'. Refute it at one input. -/
def exprCopiesWrong : ChangeSpec := { name := "exprCopies", fn := fun _ => fun
  | [d] => { results := [.lit (.bool false)], args := [d] }
  | _ => none }
def ExprCopiesWrongFalsely : Prop := exprCopiesRow.holds Tryz.pinned (OpenSpec.ofChange exprCopiesWrong)

/-- 'brocadelaw14.ExprTotalOrder': WHATEVER THE INPUT: true; the input reads as it did. -/
def exprTotalOrderSpec : ChangeSpec := { name := "exprTotalOrder", fn := fun _ => fun
  | [d1, d2, d3] => { results := [.lit (.bool true)], args := [d1, d2, d3] }
  | _ => none }
def exprTotalOrderRow : OpenClaim := { program := "ytnnkemdiknefaaagreatdoor", sum := "a3fd9b7f0bf6b8d0eb736dc21e6d2663d9499742a00673f4a3a0632e5383569e", func := "brocade/brocadelaw14.ExprTotalOrder", spec := "exprTotalOrder", inPlace := ["internal/bytealg.abigen_runtime_cmpstring"], unfollowed := true, recurses := true, named := ["strings.asciiSpace", "unicode.White_Space"], loops := true, apart := false, laid := [("unicode.White_Space", laid_unicode_White_Space), ("strings.asciiSpace", laid_strings_asciiSpace)] }
def ExprTotalOrderSaid : Prop := exprTotalOrderRow.holds Tryz.pinned (OpenSpec.ofChange exprTotalOrderSpec)

/-- ITS FALSE NEIGHBOUR: 'it returns false'. Refute it at one input. -/
def exprTotalOrderWrong : ChangeSpec := { name := "exprTotalOrder", fn := fun _ => fun
  | [d1, d2, d3] => { results := [.lit (.bool false)], args := [d1, d2, d3] }
  | _ => none }
def ExprTotalOrderWrongFalsely : Prop := exprTotalOrderRow.holds Tryz.pinned (OpenSpec.ofChange exprTotalOrderWrong)

/-- 'brocadelaw14.ExprEliminates': WHATEVER THE INPUT: true; the input reads as it did. -/
def exprEliminatesSpec : ChangeSpec := { name := "exprEliminates", fn := fun _ => fun
  | [d1, d2, d3] => { results := [.lit (.bool true)], args := [d1, d2, d3] }
  | _ => none }
def exprEliminatesRow : OpenClaim := { program := "ytnnkemdiknefaaagreatdoor", sum := "a3fd9b7f0bf6b8d0eb736dc21e6d2663d9499742a00673f4a3a0632e5383569e", func := "brocade/brocadelaw14.ExprEliminates", spec := "exprEliminates", inPlace := ["internal/bytealg.abigen_runtime_cmpstring"], unfollowed := true, recurses := true, named := ["strings.asciiSpace", "unicode.White_Space"], loops := true, apart := false, laid := [("unicode.White_Space", laid_unicode_White_Space), ("strings.asciiSpace", laid_strings_asciiSpace)] }
def ExprEliminatesSaid : Prop := exprEliminatesRow.holds Tryz.pinned (OpenSpec.ofChange exprEliminatesSpec)

/-- ITS FALSE NEIGHBOUR: 'it returns false'. Refute it at one input. -/
def exprEliminatesWrong : ChangeSpec := { name := "exprEliminates", fn := fun _ => fun
  | [d1, d2, d3] => { results := [.lit (.bool false)], args := [d1, d2, d3] }
  | _ => none }
def ExprEliminatesWrongFalsely : Prop := exprEliminatesRow.holds Tryz.pinned (OpenSpec.ofChange exprEliminatesWrong)

/-- 'brocadelaw14.ExprReplaces': WHATEVER THE INPUT: true; the input reads as it did. -/
def exprReplacesSpec : ChangeSpec := { name := "exprReplaces", fn := fun _ => fun
  | [d1, d2, d3] => { results := [.lit (.bool true)], args := [d1, d2, d3] }
  | _ => none }
def exprReplacesRow : OpenClaim := { program := "ytnnkemdiknefaaagreatdoor", sum := "a3fd9b7f0bf6b8d0eb736dc21e6d2663d9499742a00673f4a3a0632e5383569e", func := "brocade/brocadelaw14.ExprReplaces", spec := "exprReplaces", inPlace := ["internal/bytealg.abigen_runtime_cmpstring"], unfollowed := true, recurses := true, named := ["strings.asciiSpace", "unicode.White_Space"], loops := true, apart := false, laid := [("unicode.White_Space", laid_unicode_White_Space), ("strings.asciiSpace", laid_strings_asciiSpace)] }
def ExprReplacesSaid : Prop := exprReplacesRow.holds Tryz.pinned (OpenSpec.ofChange exprReplacesSpec)

/-- ITS FALSE NEIGHBOUR: 'it returns false'. Refute it at one input. -/
def exprReplacesWrong : ChangeSpec := { name := "exprReplaces", fn := fun _ => fun
  | [d1, d2, d3] => { results := [.lit (.bool false)], args := [d1, d2, d3] }
  | _ => none }
def ExprReplacesWrongFalsely : Prop := exprReplacesRow.holds Tryz.pinned (OpenSpec.ofChange exprReplacesWrong)

/-- 'brocadelaw17.ProgramCopies': WHATEVER THE INPUT: true; the input reads as it did. -/
def programCopiesSpec : ChangeSpec := { name := "programCopies", fn := fun _ => fun
  | [d] => { results := [.lit (.bool true)], args := [d] }
  | _ => none }
def programCopiesRow : OpenClaim := { program := "ytnnkemdiknefaaagreatdoor", sum := "a3fd9b7f0bf6b8d0eb736dc21e6d2663d9499742a00673f4a3a0632e5383569e", func := "brocade/brocadelaw17.ProgramCopies", spec := "programCopies", unfollowed := true, recurses := true, named := ["strings.asciiSpace", "unicode.White_Space"], loops := true, apart := false, laid := [("unicode.White_Space", laid_unicode_White_Space), ("strings.asciiSpace", laid_strings_asciiSpace)] }
def ProgramCopiesSaid : Prop := programCopiesRow.holds Tryz.pinned (OpenSpec.ofChange programCopiesSpec)

/-- ITS FALSE NEIGHBOUR: 'it returns false'. Refute it at one input. -/
def programCopiesWrong : ChangeSpec := { name := "programCopies", fn := fun _ => fun
  | [d] => { results := [.lit (.bool false)], args := [d] }
  | _ => none }
def ProgramCopiesWrongFalsely : Prop := programCopiesRow.holds Tryz.pinned (OpenSpec.ofChange programCopiesWrong)

/- THE SECOND FORM. 'bulk': how many values and letters a reading holds, each counted each time it is reached (what is shared counts as often as it is met; a slice's spare places count too). A statement '..UptoSaid' is the law's where the arguments, and the package variables that the reading takes, are together of bulk at most 1048576: NARROWER than '..Said'. Prove '..Said' where nothing that the law and all that it calls make is longer than what came in: it says more and counts as full. Else prove '..UptoSaid'. A law counts once. -/
mutual
def uptoBulk {H : Type} : DataW H → Nat
  | .lit (.string bytes) => bytes.length + 1
  | .lit _ => 1
  | .nil => 1
  | .ptr d => uptoBulk d + 1
  | .slice elems spare => uptoBulkAll elems + uptoBulkAll spare + 1
  | .agg parts => uptoBulkAll parts + 1
  | .iface _ d => uptoBulk d + 1
  | .map entries => uptoBulkEntries entries + 1
  | .held _ => 1
def uptoBulkAll {H : Type} : List (DataW H) → Nat
  | [] => 0
  | d :: r => uptoBulk d + uptoBulkAll r
def uptoBulkEntries {H : Type} : List (Lit × DataW H) → Nat
  | [] => 0
  | x :: r => uptoBulkEntry x + uptoBulkEntries r
def uptoBulkEntry {H : Type} : Lit × DataW H → Nat
  | (.string bytes, d) => bytes.length + uptoBulk d + 1
  | (_, d) => uptoBulk d + 1
 end
def uptoSmall : (H : Type) → List (DataW H) → Bool := fun _ ds => decide (uptoBulkAll ds ≤ 1048576)
def OpenSpec.upto (s : _root_.Go.ChangeSpec) : _root_.Go.OpenSpec := { _root_.Go.OpenSpec.ofChange s with cond := some uptoSmall }

/-- 'brocadelaw22.DeltaDefs', WHERE WHAT IT READS IS OF BULK AT MOST 1048576: true; the input reads as it did. -/
def deltaDefsUptoRow : OpenClaim := { program := "ytnnkemdiknefaaagreatdoor", sum := "a3fd9b7f0bf6b8d0eb736dc21e6d2663d9499742a00673f4a3a0632e5383569e", func := "brocade/brocadelaw22.DeltaDefs", spec := "deltaDefs", unfollowed := true, recurses := true, named := ["strings.asciiSpace", "unicode.White_Space"], loops := true, apart := false, laid := [("unicode.White_Space", laid_unicode_White_Space), ("strings.asciiSpace", laid_strings_asciiSpace)], narrowed := true }
def DeltaDefsUptoSaid : Prop := deltaDefsUptoRow.holds Tryz.pinned (OpenSpec.upto deltaDefsSpec)

/-- 'brocadelaw22.DeltaProgs', WHERE WHAT IT READS IS OF BULK AT MOST 1048576: true; the input reads as it did. -/
def deltaProgsUptoRow : OpenClaim := { program := "ytnnkemdiknefaaagreatdoor", sum := "a3fd9b7f0bf6b8d0eb736dc21e6d2663d9499742a00673f4a3a0632e5383569e", func := "brocade/brocadelaw22.DeltaProgs", spec := "deltaProgs", unfollowed := true, recurses := true, named := ["strings.asciiSpace", "unicode.White_Space"], loops := true, apart := false, laid := [("unicode.White_Space", laid_unicode_White_Space), ("strings.asciiSpace", laid_strings_asciiSpace)], narrowed := true }
def DeltaProgsUptoSaid : Prop := deltaProgsUptoRow.holds Tryz.pinned (OpenSpec.upto deltaProgsSpec)

/-- 'brocadelaw14.ExprSubstitutes', WHERE WHAT IT READS IS OF BULK AT MOST 1048576: true; the input reads as it did. -/
def exprSubstitutesUptoRow : OpenClaim := { program := "ytnnkemdiknefaaagreatdoor", sum := "a3fd9b7f0bf6b8d0eb736dc21e6d2663d9499742a00673f4a3a0632e5383569e", func := "brocade/brocadelaw14.ExprSubstitutes", spec := "exprSubstitutes", unfollowed := true, recurses := true, named := ["strings.asciiSpace", "unicode.White_Space"], loops := true, apart := false, laid := [("unicode.White_Space", laid_unicode_White_Space), ("strings.asciiSpace", laid_strings_asciiSpace)], narrowed := true }
def ExprSubstitutesUptoSaid : Prop := exprSubstitutesUptoRow.holds Tryz.pinned (OpenSpec.upto exprSubstitutesSpec)

/-- 'brocadelaw14.ExprWalks', WHERE WHAT IT READS IS OF BULK AT MOST 1048576: true; the input reads as it did. -/
def exprWalksUptoRow : OpenClaim := { program := "ytnnkemdiknefaaagreatdoor", sum := "a3fd9b7f0bf6b8d0eb736dc21e6d2663d9499742a00673f4a3a0632e5383569e", func := "brocade/brocadelaw14.ExprWalks", spec := "exprWalks", unfollowed := true, recurses := true, named := ["strings.asciiSpace", "unicode.White_Space"], loops := true, apart := false, laid := [("unicode.White_Space", laid_unicode_White_Space), ("strings.asciiSpace", laid_strings_asciiSpace)], narrowed := true }
def ExprWalksUptoSaid : Prop := exprWalksUptoRow.holds Tryz.pinned (OpenSpec.upto exprWalksSpec)

/-- 'brocadelaw14.ExprCopies', WHERE WHAT IT READS IS OF BULK AT MOST 1048576: true; the input reads as it did. -/
def exprCopiesUptoRow : OpenClaim := { program := "ytnnkemdiknefaaagreatdoor", sum := "a3fd9b7f0bf6b8d0eb736dc21e6d2663d9499742a00673f4a3a0632e5383569e", func := "brocade/brocadelaw14.ExprCopies", spec := "exprCopies", unfollowed := true, recurses := true, named := ["strings.asciiSpace", "unicode.White_Space"], loops := true, apart := false, laid := [("unicode.White_Space", laid_unicode_White_Space), ("strings.asciiSpace", laid_strings_asciiSpace)], narrowed := true }
def ExprCopiesUptoSaid : Prop := exprCopiesUptoRow.holds Tryz.pinned (OpenSpec.upto exprCopiesSpec)

/-- 'brocadelaw14.ExprTotalOrder', WHERE WHAT IT READS IS OF BULK AT MOST 1048576: true; the input reads as it did. -/
def exprTotalOrderUptoRow : OpenClaim := { program := "ytnnkemdiknefaaagreatdoor", sum := "a3fd9b7f0bf6b8d0eb736dc21e6d2663d9499742a00673f4a3a0632e5383569e", func := "brocade/brocadelaw14.ExprTotalOrder", spec := "exprTotalOrder", inPlace := ["internal/bytealg.abigen_runtime_cmpstring"], unfollowed := true, recurses := true, named := ["strings.asciiSpace", "unicode.White_Space"], loops := true, apart := false, laid := [("unicode.White_Space", laid_unicode_White_Space), ("strings.asciiSpace", laid_strings_asciiSpace)], narrowed := true }
def ExprTotalOrderUptoSaid : Prop := exprTotalOrderUptoRow.holds Tryz.pinned (OpenSpec.upto exprTotalOrderSpec)

/-- 'brocadelaw14.ExprEliminates', WHERE WHAT IT READS IS OF BULK AT MOST 1048576: true; the input reads as it did. -/
def exprEliminatesUptoRow : OpenClaim := { program := "ytnnkemdiknefaaagreatdoor", sum := "a3fd9b7f0bf6b8d0eb736dc21e6d2663d9499742a00673f4a3a0632e5383569e", func := "brocade/brocadelaw14.ExprEliminates", spec := "exprEliminates", inPlace := ["internal/bytealg.abigen_runtime_cmpstring"], unfollowed := true, recurses := true, named := ["strings.asciiSpace", "unicode.White_Space"], loops := true, apart := false, laid := [("unicode.White_Space", laid_unicode_White_Space), ("strings.asciiSpace", laid_strings_asciiSpace)], narrowed := true }
def ExprEliminatesUptoSaid : Prop := exprEliminatesUptoRow.holds Tryz.pinned (OpenSpec.upto exprEliminatesSpec)

/-- 'brocadelaw14.ExprReplaces', WHERE WHAT IT READS IS OF BULK AT MOST 1048576: true; the input reads as it did. -/
def exprReplacesUptoRow : OpenClaim := { program := "ytnnkemdiknefaaagreatdoor", sum := "a3fd9b7f0bf6b8d0eb736dc21e6d2663d9499742a00673f4a3a0632e5383569e", func := "brocade/brocadelaw14.ExprReplaces", spec := "exprReplaces", inPlace := ["internal/bytealg.abigen_runtime_cmpstring"], unfollowed := true, recurses := true, named := ["strings.asciiSpace", "unicode.White_Space"], loops := true, apart := false, laid := [("unicode.White_Space", laid_unicode_White_Space), ("strings.asciiSpace", laid_strings_asciiSpace)], narrowed := true }
def ExprReplacesUptoSaid : Prop := exprReplacesUptoRow.holds Tryz.pinned (OpenSpec.upto exprReplacesSpec)

/-- 'brocadelaw17.ProgramCopies', WHERE WHAT IT READS IS OF BULK AT MOST 1048576: true; the input reads as it did. -/
def programCopiesUptoRow : OpenClaim := { program := "ytnnkemdiknefaaagreatdoor", sum := "a3fd9b7f0bf6b8d0eb736dc21e6d2663d9499742a00673f4a3a0632e5383569e", func := "brocade/brocadelaw17.ProgramCopies", spec := "programCopies", unfollowed := true, recurses := true, named := ["strings.asciiSpace", "unicode.White_Space"], loops := true, apart := false, laid := [("unicode.White_Space", laid_unicode_White_Space), ("strings.asciiSpace", laid_strings_asciiSpace)], narrowed := true }
def ProgramCopiesUptoSaid : Prop := programCopiesUptoRow.holds Tryz.pinned (OpenSpec.upto programCopiesSpec)

end Rows
end Go.Proofs.YtnnkemdiknefaaaGreatDoor
