/-
  Walks: what functions of the program compute. Printed by wip/gen/mk2.py.
  Conditions: none.
-/
import Derived.Test.YtnnkemdiknefaaaGreatDoorWE
set_option linter.unusedSimpArgs false
set_option linter.unusedVariables false
namespace Go.W
open Go Go.Eng Go.Proofs Go.L41 Go.Br
attribute [local irreducible] AWP RWP TD
theorem ok81 : callOk Tryz.prog 81 = true := by kernel_rfl
theorem ok91 : callOk Tryz.prog 91 = true := by kernel_rfl
theorem ok148 : callOk Tryz.prog 148 = true := by kernel_rfl
theorem ok149 : callOk Tryz.prog 149 = true := by kernel_rfl
theorem ok150 : callOk Tryz.prog 150 = true := by kernel_rfl
theorem pl33 : placesT Tryz.prog 33 = some [(0, 1), (1, 1), (2, 2), (4, 5), (9, 2), (11, 1), (12, 1)] := by kernel_rfl
theorem sz30 : (Tryz.prog.info? 30).map (·.size) = some 1 := by kernel_rfl
theorem sz31 : (Tryz.prog.info? 31).map (·.size) = some 1 := by kernel_rfl
theorem sz104 : (Tryz.prog.info? 104).map (·.size) = some 1 := by kernel_rfl
end Go.W
