/-
  Walks: what functions of the program compute. Printed by wip/gen/mk2.py.
  Conditions: none.
-/
import Derived.Test.YtlfjpejkoccibaaGreatDoorNB
import Derived.Test.YtlfjpejkoccibaaGreatDoorPlain2
import Derived.Test.YtlfjpejkoccibaaGreatDoorEngZ
set_option linter.unusedSimpArgs false
set_option linter.unusedVariables false
set_option maxRecDepth 10000
namespace Go.W
open Go Go.Eng Go.Proofs Go.L41 Go.Br
attribute [local irreducible] AWP RWP TD finQ

abbrev vBds (l : List Bd) : V := .c (.sl 2 (l.map Bd.cells))
theorem el73 : elemT Tryz.prog 73 = some (80, 2, 24) := by kernel_rfl
theorem pl80 : placesT Tryz.prog 80 = some [(0, 1), (1, 1)] := by kernel_rfl
theorem zr80 : zeroT Tryz.prog 80 = some [(Value.string (ByteArray.mk #[])), (Value.int IntKind.i64 0)] := by kernel_rfl
end Go.W
