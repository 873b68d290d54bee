/-
  NARROWER THAN 'FOR EVERY INPUT', by the rows' own cells (each row's printed sentence says how): ProgramValidates: loops, laid · ProgramLimits: laid · ProgramTypes: loops, laid · ProgramCopies: loops, laid · ProgramQueries: loops, laid · ProgramPrefixes: loops, laid · DeltaDefs: loops, laid · DeltaProgs: loops, laid.
  DERIVED. THE GIVEN ROWS OF THIS SEAT. 8 by the template 'for every input the law returns true; each argument reads behind the call as it read before'; 0 by the template 'total and deterministic' (their statements: YticdknfcoinbaaaGreatDoorTotals.lean).
  GIVEN WITH THE SEED: the statements are not yours to turn. If you find one false, say at which input.
  Laid BY PROGRAM, IN A SANDBOX (cutbox-rows.mjs): the forced cells as the released guide's own fill.sh prints them over the translation a248c6daeb4ddaa8… (all of the seat's roots in one cut). By AI agents, Wed Nov 11 2026. No macro, syntax, notation, axiom, sorry.
-/
import Derived.Test.YticdknfcoinbaaaGreatDoorChecked
import GoSem.Claim
import GoSem.ClaimJoined
import GoSem.ClaimMapViews
import Derived.JoinedTies
import Derived.KernelRfl
namespace Go.Proofs.YticdknfcoinbaaaGreatDoor
/- THE CELL 'sum', in the pinned program and in every row, IS THE sha256 OF THE DUMP (.gsa) THAT YticdknfcoinbaaaGreatDoorProg.lean LOADS. Nothing in Lean hashes anything: it is a label: what it is worth is what the hold of that sum in a sandbox is worth. -/
noncomputable def Tryz.pinned : Pinned := { name := "yticdknfcoinbaaagreatdoor", sum := "a248c6daeb4ddaa886bf218a45e058af4f36b443fcfff3ff856b085162fb3f0b", checked := Tryz.checked }
namespace Rows
def none {H : Type} : Left H := { results := [], args := [] }

/- WHAT THE LISTED PACKAGE-LEVEL VARIABLES READ AS WHEN THE CALL BEGINS. Each datum BY PROGRAM (the guide's laid-datum.mjs) off the statement by which the dump's own 'gosem.cut.vars' lays the variable. In a bare row this is a premise. The card (YticdknfcoinbaaaGreatDoorCards.lean) ties it to the program's text. -/
def laid_unicode_White_Space {H : Type} : DataW H := .ptr (.agg [.slice [.agg [.lit (.int .u16 9), .lit (.int .u16 13), .lit (.int .u16 1)], .agg [.lit (.int .u16 32), .lit (.int .u16 133), .lit (.int .u16 101)], .agg [.lit (.int .u16 160), .lit (.int .u16 5760), .lit (.int .u16 5600)], .agg [.lit (.int .u16 8192), .lit (.int .u16 8202), .lit (.int .u16 1)], .agg [.lit (.int .u16 8232), .lit (.int .u16 8233), .lit (.int .u16 1)], .agg [.lit (.int .u16 8239), .lit (.int .u16 8287), .lit (.int .u16 48)], .agg [.lit (.int .u16 12288), .lit (.int .u16 12288), .lit (.int .u16 1)]] [], .nil, .lit (.int .i64 2)])
def laid_strings_asciiSpace {H : Type} : DataW H := .agg [.lit (.int .u8 0), .lit (.int .u8 0), .lit (.int .u8 0), .lit (.int .u8 0), .lit (.int .u8 0), .lit (.int .u8 0), .lit (.int .u8 0), .lit (.int .u8 0), .lit (.int .u8 0), .lit (.int .u8 1), .lit (.int .u8 1), .lit (.int .u8 1), .lit (.int .u8 1), .lit (.int .u8 1), .lit (.int .u8 0), .lit (.int .u8 0), .lit (.int .u8 0), .lit (.int .u8 0), .lit (.int .u8 0), .lit (.int .u8 0), .lit (.int .u8 0), .lit (.int .u8 0), .lit (.int .u8 0), .lit (.int .u8 0), .lit (.int .u8 0), .lit (.int .u8 0), .lit (.int .u8 0), .lit (.int .u8 0), .lit (.int .u8 0), .lit (.int .u8 0), .lit (.int .u8 0), .lit (.int .u8 0), .lit (.int .u8 1), .lit (.int .u8 0), .lit (.int .u8 0), .lit (.int .u8 0), .lit (.int .u8 0), .lit (.int .u8 0), .lit (.int .u8 0), .lit (.int .u8 0), .lit (.int .u8 0), .lit (.int .u8 0), .lit (.int .u8 0), .lit (.int .u8 0), .lit (.int .u8 0), .lit (.int .u8 0), .lit (.int .u8 0), .lit (.int .u8 0), .lit (.int .u8 0), .lit (.int .u8 0), .lit (.int .u8 0), .lit (.int .u8 0), .lit (.int .u8 0), .lit (.int .u8 0), .lit (.int .u8 0), .lit (.int .u8 0), .lit (.int .u8 0), .lit (.int .u8 0), .lit (.int .u8 0), .lit (.int .u8 0), .lit (.int .u8 0), .lit (.int .u8 0), .lit (.int .u8 0), .lit (.int .u8 0), .lit (.int .u8 0), .lit (.int .u8 0), .lit (.int .u8 0), .lit (.int .u8 0), .lit (.int .u8 0), .lit (.int .u8 0), .lit (.int .u8 0), .lit (.int .u8 0), .lit (.int .u8 0), .lit (.int .u8 0), .lit (.int .u8 0), .lit (.int .u8 0), .lit (.int .u8 0), .lit (.int .u8 0), .lit (.int .u8 0), .lit (.int .u8 0), .lit (.int .u8 0), .lit (.int .u8 0), .lit (.int .u8 0), .lit (.int .u8 0), .lit (.int .u8 0), .lit (.int .u8 0), .lit (.int .u8 0), .lit (.int .u8 0), .lit (.int .u8 0), .lit (.int .u8 0), .lit (.int .u8 0), .lit (.int .u8 0), .lit (.int .u8 0), .lit (.int .u8 0), .lit (.int .u8 0), .lit (.int .u8 0), .lit (.int .u8 0), .lit (.int .u8 0), .lit (.int .u8 0), .lit (.int .u8 0), .lit (.int .u8 0), .lit (.int .u8 0), .lit (.int .u8 0), .lit (.int .u8 0), .lit (.int .u8 0), .lit (.int .u8 0), .lit (.int .u8 0), .lit (.int .u8 0), .lit (.int .u8 0), .lit (.int .u8 0), .lit (.int .u8 0), .lit (.int .u8 0), .lit (.int .u8 0), .lit (.int .u8 0), .lit (.int .u8 0), .lit (.int .u8 0), .lit (.int .u8 0), .lit (.int .u8 0), .lit (.int .u8 0), .lit (.int .u8 0), .lit (.int .u8 0), .lit (.int .u8 0), .lit (.int .u8 0), .lit (.int .u8 0), .lit (.int .u8 0), .lit (.int .u8 0), .lit (.int .u8 0), .lit (.int .u8 0), .lit (.int .u8 0), .lit (.int .u8 0), .lit (.int .u8 0), .lit (.int .u8 0), .lit (.int .u8 0), .lit (.int .u8 0), .lit (.int .u8 0), .lit (.int .u8 0), .lit (.int .u8 0), .lit (.int .u8 0), .lit (.int .u8 0), .lit (.int .u8 0), .lit (.int .u8 0), .lit (.int .u8 0), .lit (.int .u8 0), .lit (.int .u8 0), .lit (.int .u8 0), .lit (.int .u8 0), .lit (.int .u8 0), .lit (.int .u8 0), .lit (.int .u8 0), .lit (.int .u8 0), .lit (.int .u8 0), .lit (.int .u8 0), .lit (.int .u8 0), .lit (.int .u8 0), .lit (.int .u8 0), .lit (.int .u8 0), .lit (.int .u8 0), .lit (.int .u8 0), .lit (.int .u8 0), .lit (.int .u8 0), .lit (.int .u8 0), .lit (.int .u8 0), .lit (.int .u8 0), .lit (.int .u8 0), .lit (.int .u8 0), .lit (.int .u8 0), .lit (.int .u8 0), .lit (.int .u8 0), .lit (.int .u8 0), .lit (.int .u8 0), .lit (.int .u8 0), .lit (.int .u8 0), .lit (.int .u8 0), .lit (.int .u8 0), .lit (.int .u8 0), .lit (.int .u8 0), .lit (.int .u8 0), .lit (.int .u8 0), .lit (.int .u8 0), .lit (.int .u8 0), .lit (.int .u8 0), .lit (.int .u8 0), .lit (.int .u8 0), .lit (.int .u8 0), .lit (.int .u8 0), .lit (.int .u8 0), .lit (.int .u8 0), .lit (.int .u8 0), .lit (.int .u8 0), .lit (.int .u8 0), .lit (.int .u8 0), .lit (.int .u8 0), .lit (.int .u8 0), .lit (.int .u8 0), .lit (.int .u8 0), .lit (.int .u8 0), .lit (.int .u8 0), .lit (.int .u8 0), .lit (.int .u8 0), .lit (.int .u8 0), .lit (.int .u8 0), .lit (.int .u8 0), .lit (.int .u8 0), .lit (.int .u8 0), .lit (.int .u8 0), .lit (.int .u8 0), .lit (.int .u8 0), .lit (.int .u8 0), .lit (.int .u8 0), .lit (.int .u8 0), .lit (.int .u8 0), .lit (.int .u8 0), .lit (.int .u8 0), .lit (.int .u8 0), .lit (.int .u8 0), .lit (.int .u8 0), .lit (.int .u8 0), .lit (.int .u8 0), .lit (.int .u8 0), .lit (.int .u8 0), .lit (.int .u8 0), .lit (.int .u8 0), .lit (.int .u8 0), .lit (.int .u8 0), .lit (.int .u8 0), .lit (.int .u8 0), .lit (.int .u8 0), .lit (.int .u8 0), .lit (.int .u8 0), .lit (.int .u8 0), .lit (.int .u8 0), .lit (.int .u8 0), .lit (.int .u8 0), .lit (.int .u8 0), .lit (.int .u8 0), .lit (.int .u8 0), .lit (.int .u8 0), .lit (.int .u8 0), .lit (.int .u8 0), .lit (.int .u8 0), .lit (.int .u8 0), .lit (.int .u8 0), .lit (.int .u8 0), .lit (.int .u8 0), .lit (.int .u8 0), .lit (.int .u8 0), .lit (.int .u8 0), .lit (.int .u8 0), .lit (.int .u8 0), .lit (.int .u8 0), .lit (.int .u8 0), .lit (.int .u8 0), .lit (.int .u8 0), .lit (.int .u8 0), .lit (.int .u8 0), .lit (.int .u8 0)]

/-- 'brocadelaw17.ProgramValidates': WHATEVER THE INPUT: true; the input reads as it did. -/
def programValidatesSpec : ChangeSpec := { name := "programValidates", fn := fun _ => fun
  | [d] => { results := [.lit (.bool true)], args := [d] }
  | _ => none }
def programValidatesRow : OpenClaim := { program := "yticdknfcoinbaaagreatdoor", sum := "a248c6daeb4ddaa886bf218a45e058af4f36b443fcfff3ff856b085162fb3f0b", func := "brocade/brocadelaw17.ProgramValidates", spec := "programValidates", unfollowed := true, recurses := true, named := ["strings.asciiSpace", "unicode.White_Space"], loops := true, apart := false, laid := [("unicode.White_Space", laid_unicode_White_Space), ("strings.asciiSpace", laid_strings_asciiSpace)] }
def ProgramValidatesSaid : Prop := programValidatesRow.holds Tryz.pinned (OpenSpec.ofChange programValidatesSpec)

/-- ITS FALSE NEIGHBOUR: 'it returns false'. Refute it at one input. -/
def programValidatesWrong : ChangeSpec := { name := "programValidates", fn := fun _ => fun
  | [d] => { results := [.lit (.bool false)], args := [d] }
  | _ => none }
def ProgramValidatesWrongFalsely : Prop := programValidatesRow.holds Tryz.pinned (OpenSpec.ofChange programValidatesWrong)

/-- 'brocadelaw17.ProgramLimits': WHATEVER THE INPUT: true; the input reads as it did. -/
def programLimitsSpec : ChangeSpec := { name := "programLimits", fn := fun _ => fun
  | [d1, d2] => { results := [.lit (.bool true)], args := [d1, d2] }
  | _ => none }
def programLimitsRow : OpenClaim := { program := "yticdknfcoinbaaagreatdoor", sum := "a248c6daeb4ddaa886bf218a45e058af4f36b443fcfff3ff856b085162fb3f0b", func := "brocade/brocadelaw17.ProgramLimits", spec := "programLimits", unfollowed := true, recurses := true, named := ["strings.asciiSpace", "unicode.White_Space"], apart := false, laid := [("unicode.White_Space", laid_unicode_White_Space), ("strings.asciiSpace", laid_strings_asciiSpace)] }
def ProgramLimitsSaid : Prop := programLimitsRow.holds Tryz.pinned (OpenSpec.ofChange programLimitsSpec)

/-- ITS FALSE NEIGHBOUR: 'it returns false'. Refute it at one input. -/
def programLimitsWrong : ChangeSpec := { name := "programLimits", fn := fun _ => fun
  | [d1, d2] => { results := [.lit (.bool false)], args := [d1, d2] }
  | _ => none }
def ProgramLimitsWrongFalsely : Prop := programLimitsRow.holds Tryz.pinned (OpenSpec.ofChange programLimitsWrong)

/-- 'brocadelaw17.ProgramTypes': WHATEVER THE INPUT: true; the input reads as it did. -/
def programTypesSpec : ChangeSpec := { name := "programTypes", fn := fun _ => fun
  | [d1, d2, d3] => { results := [.lit (.bool true)], args := [d1, d2, d3] }
  | _ => none }
def programTypesRow : OpenClaim := { program := "yticdknfcoinbaaagreatdoor", sum := "a248c6daeb4ddaa886bf218a45e058af4f36b443fcfff3ff856b085162fb3f0b", func := "brocade/brocadelaw17.ProgramTypes", spec := "programTypes", unfollowed := true, recurses := true, named := ["strings.asciiSpace", "unicode.White_Space"], loops := true, apart := false, laid := [("unicode.White_Space", laid_unicode_White_Space), ("strings.asciiSpace", laid_strings_asciiSpace)] }
def ProgramTypesSaid : Prop := programTypesRow.holds Tryz.pinned (OpenSpec.ofChange programTypesSpec)

/-- ITS FALSE NEIGHBOUR: 'it returns false'. Refute it at one input. -/
def programTypesWrong : ChangeSpec := { name := "programTypes", fn := fun _ => fun
  | [d1, d2, d3] => { results := [.lit (.bool false)], args := [d1, d2, d3] }
  | _ => none }
def ProgramTypesWrongFalsely : Prop := programTypesRow.holds Tryz.pinned (OpenSpec.ofChange programTypesWrong)

/-- 'brocadelaw17.ProgramCopies': WHATEVER THE INPUT: true; the input reads as it did. -/
def programCopiesSpec : ChangeSpec := { name := "programCopies", fn := fun _ => fun
  | [d] => { results := [.lit (.bool true)], args := [d] }
  | _ => none }
def programCopiesRow : OpenClaim := { program := "yticdknfcoinbaaagreatdoor", sum := "a248c6daeb4ddaa886bf218a45e058af4f36b443fcfff3ff856b085162fb3f0b", func := "brocade/brocadelaw17.ProgramCopies", spec := "programCopies", unfollowed := true, recurses := true, named := ["strings.asciiSpace", "unicode.White_Space"], loops := true, apart := false, laid := [("unicode.White_Space", laid_unicode_White_Space), ("strings.asciiSpace", laid_strings_asciiSpace)] }
def ProgramCopiesSaid : Prop := programCopiesRow.holds Tryz.pinned (OpenSpec.ofChange programCopiesSpec)

/-- ITS FALSE NEIGHBOUR: 'it returns false'. Refute it at one input. -/
def programCopiesWrong : ChangeSpec := { name := "programCopies", fn := fun _ => fun
  | [d] => { results := [.lit (.bool false)], args := [d] }
  | _ => none }
def ProgramCopiesWrongFalsely : Prop := programCopiesRow.holds Tryz.pinned (OpenSpec.ofChange programCopiesWrong)

/-- 'brocadelaw17.ProgramQueries': WHATEVER THE INPUT: true; the input reads as it did. -/
def programQueriesSpec : ChangeSpec := { name := "programQueries", fn := fun _ => fun
  | [d1, d2, d3] => { results := [.lit (.bool true)], args := [d1, d2, d3] }
  | _ => none }
def programQueriesRow : OpenClaim := { program := "yticdknfcoinbaaagreatdoor", sum := "a248c6daeb4ddaa886bf218a45e058af4f36b443fcfff3ff856b085162fb3f0b", func := "brocade/brocadelaw17.ProgramQueries", spec := "programQueries", inPlace := ["internal/bytealg.abigen_runtime_cmpstring"], unfollowed := true, recurses := true, named := ["strings.asciiSpace", "unicode.White_Space"], loops := true, apart := false, laid := [("unicode.White_Space", laid_unicode_White_Space), ("strings.asciiSpace", laid_strings_asciiSpace)] }
def ProgramQueriesSaid : Prop := programQueriesRow.holds Tryz.pinned (OpenSpec.ofChange programQueriesSpec)

/-- ITS FALSE NEIGHBOUR: 'it returns false'. Refute it at one input. -/
def programQueriesWrong : ChangeSpec := { name := "programQueries", fn := fun _ => fun
  | [d1, d2, d3] => { results := [.lit (.bool false)], args := [d1, d2, d3] }
  | _ => none }
def ProgramQueriesWrongFalsely : Prop := programQueriesRow.holds Tryz.pinned (OpenSpec.ofChange programQueriesWrong)

/-- 'brocadelaw17.ProgramPrefixes': WHATEVER THE INPUT: true; the input reads as it did. -/
def programPrefixesSpec : ChangeSpec := { name := "programPrefixes", fn := fun _ => fun
  | [d1, d2] => { results := [.lit (.bool true)], args := [d1, d2] }
  | _ => none }
def programPrefixesRow : OpenClaim := { program := "yticdknfcoinbaaagreatdoor", sum := "a248c6daeb4ddaa886bf218a45e058af4f36b443fcfff3ff856b085162fb3f0b", func := "brocade/brocadelaw17.ProgramPrefixes", spec := "programPrefixes", unfollowed := true, recurses := true, named := ["strings.asciiSpace", "unicode.White_Space"], loops := true, apart := false, laid := [("unicode.White_Space", laid_unicode_White_Space), ("strings.asciiSpace", laid_strings_asciiSpace)] }
def ProgramPrefixesSaid : Prop := programPrefixesRow.holds Tryz.pinned (OpenSpec.ofChange programPrefixesSpec)

/-- ITS FALSE NEIGHBOUR: 'it returns false'. Refute it at one input. -/
def programPrefixesWrong : ChangeSpec := { name := "programPrefixes", fn := fun _ => fun
  | [d1, d2] => { results := [.lit (.bool false)], args := [d1, d2] }
  | _ => none }
def ProgramPrefixesWrongFalsely : Prop := programPrefixesRow.holds Tryz.pinned (OpenSpec.ofChange programPrefixesWrong)

/-- 'brocadelaw22.DeltaDefs': WHATEVER THE INPUT: true; the input reads as it did. -/
def deltaDefsSpec : ChangeSpec := { name := "deltaDefs", fn := fun _ => fun
  | [d1, d2] => { results := [.lit (.bool true)], args := [d1, d2] }
  | _ => none }
def deltaDefsRow : OpenClaim := { program := "yticdknfcoinbaaagreatdoor", sum := "a248c6daeb4ddaa886bf218a45e058af4f36b443fcfff3ff856b085162fb3f0b", func := "brocade/brocadelaw22.DeltaDefs", spec := "deltaDefs", unfollowed := true, recurses := true, named := ["strings.asciiSpace", "unicode.White_Space"], loops := true, apart := false, laid := [("unicode.White_Space", laid_unicode_White_Space), ("strings.asciiSpace", laid_strings_asciiSpace)] }
def DeltaDefsSaid : Prop := deltaDefsRow.holds Tryz.pinned (OpenSpec.ofChange deltaDefsSpec)

/-- ITS FALSE NEIGHBOUR: 'it returns false'. Refute it at one input. -/
def deltaDefsWrong : ChangeSpec := { name := "deltaDefs", fn := fun _ => fun
  | [d1, d2] => { results := [.lit (.bool false)], args := [d1, d2] }
  | _ => none }
def DeltaDefsWrongFalsely : Prop := deltaDefsRow.holds Tryz.pinned (OpenSpec.ofChange deltaDefsWrong)

/-- 'brocadelaw22.DeltaProgs': WHATEVER THE INPUT: true; the input reads as it did. -/
def deltaProgsSpec : ChangeSpec := { name := "deltaProgs", fn := fun _ => fun
  | [d] => { results := [.lit (.bool true)], args := [d] }
  | _ => none }
def deltaProgsRow : OpenClaim := { program := "yticdknfcoinbaaagreatdoor", sum := "a248c6daeb4ddaa886bf218a45e058af4f36b443fcfff3ff856b085162fb3f0b", func := "brocade/brocadelaw22.DeltaProgs", spec := "deltaProgs", unfollowed := true, recurses := true, named := ["strings.asciiSpace", "unicode.White_Space"], loops := true, apart := false, laid := [("unicode.White_Space", laid_unicode_White_Space), ("strings.asciiSpace", laid_strings_asciiSpace)] }
def DeltaProgsSaid : Prop := deltaProgsRow.holds Tryz.pinned (OpenSpec.ofChange deltaProgsSpec)

/-- ITS FALSE NEIGHBOUR: 'it returns false'. Refute it at one input. -/
def deltaProgsWrong : ChangeSpec := { name := "deltaProgs", fn := fun _ => fun
  | [d] => { results := [.lit (.bool false)], args := [d] }
  | _ => none }
def DeltaProgsWrongFalsely : Prop := deltaProgsRow.holds Tryz.pinned (OpenSpec.ofChange deltaProgsWrong)

/- THE SECOND FORM. 'bulk': how many values and letters a reading holds, each counted each time it is reached (what is shared counts as often as it is met; a slice's spare places count too). A statement '..UptoSaid' is the law's where the arguments, and the package variables that the reading takes, are together of bulk at most 1048576: NARROWER than '..Said'. Prove '..Said' where nothing that the law and all that it calls make is longer than what came in: it says more and counts as full. Else prove '..UptoSaid'. A law counts once. -/
mutual
def uptoBulk {H : Type} : DataW H → Nat
  | .lit (.string bytes) => bytes.length + 1
  | .lit _ => 1
  | .nil => 1
  | .ptr d => uptoBulk d + 1
  | .slice elems spare => uptoBulkAll elems + uptoBulkAll spare + 1
  | .agg parts => uptoBulkAll parts + 1
  | .iface _ d => uptoBulk d + 1
  | .map entries => uptoBulkEntries entries + 1
  | .held _ => 1
def uptoBulkAll {H : Type} : List (DataW H) → Nat
  | [] => 0
  | d :: r => uptoBulk d + uptoBulkAll r
def uptoBulkEntries {H : Type} : List (Lit × DataW H) → Nat
  | [] => 0
  | x :: r => uptoBulkEntry x + uptoBulkEntries r
def uptoBulkEntry {H : Type} : Lit × DataW H → Nat
  | (.string bytes, d) => bytes.length + uptoBulk d + 1
  | (_, d) => uptoBulk d + 1
 end
def uptoSmall : (H : Type) → List (DataW H) → Bool := fun _ ds => decide (uptoBulkAll ds ≤ 1048576)
def OpenSpec.upto (s : _root_.Go.ChangeSpec) : _root_.Go.OpenSpec := { _root_.Go.OpenSpec.ofChange s with cond := some uptoSmall }

/-- 'brocadelaw17.ProgramValidates', WHERE WHAT IT READS IS OF BULK AT MOST 1048576: true; the input reads as it did. -/
def programValidatesUptoRow : OpenClaim := { program := "yticdknfcoinbaaagreatdoor", sum := "a248c6daeb4ddaa886bf218a45e058af4f36b443fcfff3ff856b085162fb3f0b", func := "brocade/brocadelaw17.ProgramValidates", spec := "programValidates", unfollowed := true, recurses := true, named := ["strings.asciiSpace", "unicode.White_Space"], loops := true, apart := false, laid := [("unicode.White_Space", laid_unicode_White_Space), ("strings.asciiSpace", laid_strings_asciiSpace)], narrowed := true }
def ProgramValidatesUptoSaid : Prop := programValidatesUptoRow.holds Tryz.pinned (OpenSpec.upto programValidatesSpec)

/-- 'brocadelaw17.ProgramLimits', WHERE WHAT IT READS IS OF BULK AT MOST 1048576: true; the input reads as it did. -/
def programLimitsUptoRow : OpenClaim := { program := "yticdknfcoinbaaagreatdoor", sum := "a248c6daeb4ddaa886bf218a45e058af4f36b443fcfff3ff856b085162fb3f0b", func := "brocade/brocadelaw17.ProgramLimits", spec := "programLimits", unfollowed := true, recurses := true, named := ["strings.asciiSpace", "unicode.White_Space"], apart := false, laid := [("unicode.White_Space", laid_unicode_White_Space), ("strings.asciiSpace", laid_strings_asciiSpace)], narrowed := true }
def ProgramLimitsUptoSaid : Prop := programLimitsUptoRow.holds Tryz.pinned (OpenSpec.upto programLimitsSpec)

/-- 'brocadelaw17.ProgramTypes', WHERE WHAT IT READS IS OF BULK AT MOST 1048576: true; the input reads as it did. -/
def programTypesUptoRow : OpenClaim := { program := "yticdknfcoinbaaagreatdoor", sum := "a248c6daeb4ddaa886bf218a45e058af4f36b443fcfff3ff856b085162fb3f0b", func := "brocade/brocadelaw17.ProgramTypes", spec := "programTypes", unfollowed := true, recurses := true, named := ["strings.asciiSpace", "unicode.White_Space"], loops := true, apart := false, laid := [("unicode.White_Space", laid_unicode_White_Space), ("strings.asciiSpace", laid_strings_asciiSpace)], narrowed := true }
def ProgramTypesUptoSaid : Prop := programTypesUptoRow.holds Tryz.pinned (OpenSpec.upto programTypesSpec)

/-- 'brocadelaw17.ProgramCopies', WHERE WHAT IT READS IS OF BULK AT MOST 1048576: true; the input reads as it did. -/
def programCopiesUptoRow : OpenClaim := { program := "yticdknfcoinbaaagreatdoor", sum := "a248c6daeb4ddaa886bf218a45e058af4f36b443fcfff3ff856b085162fb3f0b", func := "brocade/brocadelaw17.ProgramCopies", spec := "programCopies", unfollowed := true, recurses := true, named := ["strings.asciiSpace", "unicode.White_Space"], loops := true, apart := false, laid := [("unicode.White_Space", laid_unicode_White_Space), ("strings.asciiSpace", laid_strings_asciiSpace)], narrowed := true }
def ProgramCopiesUptoSaid : Prop := programCopiesUptoRow.holds Tryz.pinned (OpenSpec.upto programCopiesSpec)

/-- 'brocadelaw17.ProgramQueries', WHERE WHAT IT READS IS OF BULK AT MOST 1048576: true; the input reads as it did. -/
def programQueriesUptoRow : OpenClaim := { program := "yticdknfcoinbaaagreatdoor", sum := "a248c6daeb4ddaa886bf218a45e058af4f36b443fcfff3ff856b085162fb3f0b", func := "brocade/brocadelaw17.ProgramQueries", spec := "programQueries", inPlace := ["internal/bytealg.abigen_runtime_cmpstring"], unfollowed := true, recurses := true, named := ["strings.asciiSpace", "unicode.White_Space"], loops := true, apart := false, laid := [("unicode.White_Space", laid_unicode_White_Space), ("strings.asciiSpace", laid_strings_asciiSpace)], narrowed := true }
def ProgramQueriesUptoSaid : Prop := programQueriesUptoRow.holds Tryz.pinned (OpenSpec.upto programQueriesSpec)

/-- 'brocadelaw17.ProgramPrefixes', WHERE WHAT IT READS IS OF BULK AT MOST 1048576: true; the input reads as it did. -/
def programPrefixesUptoRow : OpenClaim := { program := "yticdknfcoinbaaagreatdoor", sum := "a248c6daeb4ddaa886bf218a45e058af4f36b443fcfff3ff856b085162fb3f0b", func := "brocade/brocadelaw17.ProgramPrefixes", spec := "programPrefixes", unfollowed := true, recurses := true, named := ["strings.asciiSpace", "unicode.White_Space"], loops := true, apart := false, laid := [("unicode.White_Space", laid_unicode_White_Space), ("strings.asciiSpace", laid_strings_asciiSpace)], narrowed := true }
def ProgramPrefixesUptoSaid : Prop := programPrefixesUptoRow.holds Tryz.pinned (OpenSpec.upto programPrefixesSpec)

/-- 'brocadelaw22.DeltaDefs', WHERE WHAT IT READS IS OF BULK AT MOST 1048576: true; the input reads as it did. -/
def deltaDefsUptoRow : OpenClaim := { program := "yticdknfcoinbaaagreatdoor", sum := "a248c6daeb4ddaa886bf218a45e058af4f36b443fcfff3ff856b085162fb3f0b", func := "brocade/brocadelaw22.DeltaDefs", spec := "deltaDefs", unfollowed := true, recurses := true, named := ["strings.asciiSpace", "unicode.White_Space"], loops := true, apart := false, laid := [("unicode.White_Space", laid_unicode_White_Space), ("strings.asciiSpace", laid_strings_asciiSpace)], narrowed := true }
def DeltaDefsUptoSaid : Prop := deltaDefsUptoRow.holds Tryz.pinned (OpenSpec.upto deltaDefsSpec)

/-- 'brocadelaw22.DeltaProgs', WHERE WHAT IT READS IS OF BULK AT MOST 1048576: true; the input reads as it did. -/
def deltaProgsUptoRow : OpenClaim := { program := "yticdknfcoinbaaagreatdoor", sum := "a248c6daeb4ddaa886bf218a45e058af4f36b443fcfff3ff856b085162fb3f0b", func := "brocade/brocadelaw22.DeltaProgs", spec := "deltaProgs", unfollowed := true, recurses := true, named := ["strings.asciiSpace", "unicode.White_Space"], loops := true, apart := false, laid := [("unicode.White_Space", laid_unicode_White_Space), ("strings.asciiSpace", laid_strings_asciiSpace)], narrowed := true }
def DeltaProgsUptoSaid : Prop := deltaProgsUptoRow.holds Tryz.pinned (OpenSpec.upto deltaProgsSpec)

end Rows
end Go.Proofs.YticdknfcoinbaaaGreatDoor
