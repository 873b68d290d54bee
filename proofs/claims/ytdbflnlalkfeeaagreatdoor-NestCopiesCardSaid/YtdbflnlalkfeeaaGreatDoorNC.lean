/-
  Walks: what functions of the program compute. Printed by wip/gen/mk2.py.
  Conditions: none.
-/
import Derived.Test.YtdbflnlalkfeeaaGreatDoorNB
import Derived.Test.YtdbflnlalkfeeaaGreatDoorPlain2
import Derived.Test.YtdbflnlalkfeeaaGreatDoorEngZ
set_option linter.unusedSimpArgs false
set_option linter.unusedVariables false
set_option maxRecDepth 10000
namespace Go.W
open Go Go.Eng Go.Proofs Go.L41 Go.Br
attribute [local irreducible] AWP RWP TD finQ

abbrev vBds (l : List Bd) : V := .c (.sl 2 (l.map Bd.cells))
theorem el67 : elemT Tryz.prog 67 = some (70, 2, 24) := by kernel_rfl
theorem pl70 : placesT Tryz.prog 70 = some [(0, 1), (1, 1)] := by kernel_rfl
theorem zr70 : zeroT Tryz.prog 70 = some [(Value.string (ByteArray.mk #[])), (Value.int IntKind.i64 0)] := by kernel_rfl
end Go.W
