/-
  Walks: what functions of the program compute. Printed by wip/gen/mk2.py.
  Conditions: none.
-/
import Derived.Test.YtnnkemdiknefaaaGreatDoorWK
import Derived.Test.YtnnkemdiknefaaaGreatDoorPlain
set_option linter.unusedSimpArgs false
set_option linter.unusedVariables false
namespace Go.W
open Go Go.Eng Go.Proofs Go.L41 Go.Br
attribute [local irreducible] AWP RWP TD
theorem agg47 : aggT Tryz.prog 47 = some 5 := by kernel_rfl
theorem agg106 : aggT Tryz.prog 106 = some 7 := by kernel_rfl
theorem agg111 : aggT Tryz.prog 111 = some 3 := by kernel_rfl
theorem fd35_1 : fieldT Tryz.prog 35 1 = some (1, 23) := by kernel_rfl
theorem fd88_1 : fieldT Tryz.prog 88 1 = some (1, 29) := by kernel_rfl
theorem fd106_2 : fieldT Tryz.prog 106 2 = some (6, 104) := by kernel_rfl
theorem ok118 : callOk Tryz.prog 118 = true := by kernel_rfl
theorem sz106 : (Tryz.prog.info? 106).map (·.size) = some 7 := by kernel_rfl
theorem zr106 : zeroT Tryz.prog 106 = some [(Value.string (ByteArray.mk #[])), (Value.int IntKind.i64 0), (Value.int IntKind.i64 0), (Value.int IntKind.i64 0), (Value.int IntKind.i64 0), (Value.int IntKind.i64 0), (Value.slice none 0 0)] := by kernel_rfl
end Go.W
