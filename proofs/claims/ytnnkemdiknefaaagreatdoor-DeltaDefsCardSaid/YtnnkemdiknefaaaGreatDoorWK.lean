/-
  Walks: what functions of the program compute. Printed by wip/gen/mk2.py.
  Conditions: none.
-/
import Derived.Test.YtnnkemdiknefaaaGreatDoorWJ
import Derived.Test.YtnnkemdiknefaaaGreatDoorPlain
set_option linter.unusedSimpArgs false
set_option linter.unusedVariables false
namespace Go.W
open Go Go.Eng Go.Proofs Go.L41 Go.Br
attribute [local irreducible] AWP RWP TD
theorem agg88 : aggT Tryz.prog 88 = some 3 := by kernel_rfl
theorem el24 : elemT Tryz.prog 24 = some (88, 3, 48) := by kernel_rfl
theorem el43 : elemT Tryz.prog 43 = some (111, 3, 40) := by kernel_rfl
theorem el44 : elemT Tryz.prog 44 = some (106, 7, 80) := by kernel_rfl
theorem fd35_2 : fieldT Tryz.prog 35 2 = some (6, 24) := by kernel_rfl
theorem fd35_3 : fieldT Tryz.prog 35 3 = some (7, 24) := by kernel_rfl
theorem fd35_4 : fieldT Tryz.prog 35 4 = some (8, 3) := by kernel_rfl
theorem fd47_0 : fieldT Tryz.prog 47 0 = some (0, 42) := by kernel_rfl
theorem fd47_1 : fieldT Tryz.prog 47 1 = some (1, 43) := by kernel_rfl
theorem fd47_2 : fieldT Tryz.prog 47 2 = some (2, 44) := by kernel_rfl
theorem fd47_4 : fieldT Tryz.prog 47 4 = some (4, 42) := by kernel_rfl
theorem fd88_0 : fieldT Tryz.prog 88 0 = some (0, 9) := by kernel_rfl
theorem fd111_0 : fieldT Tryz.prog 111 0 = some (0, 29) := by kernel_rfl
theorem one24 : oneT Tryz.prog 24 = true := by kernel_rfl
theorem one42 : oneT Tryz.prog 42 = true := by kernel_rfl
theorem one43 : oneT Tryz.prog 43 = true := by kernel_rfl
theorem one44 : oneT Tryz.prog 44 = true := by kernel_rfl
theorem sz88 : (Tryz.prog.info? 88).map (·.size) = some 3 := by kernel_rfl
theorem zr88 : zeroT Tryz.prog 88 = some [(Value.string (ByteArray.mk #[])), (Value.int IntKind.i64 0), (Value.slice none 0 0)] := by kernel_rfl
end Go.W
