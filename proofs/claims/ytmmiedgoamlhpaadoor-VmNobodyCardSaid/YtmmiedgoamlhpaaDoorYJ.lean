/-
  Walks: what functions of the program compute. Printed by wip/gen/mk2.py.
  Conditions: none.
-/
import Derived.Test.YtmmiedgoamlhpaaDoorYI
set_option linter.unusedSimpArgs false
set_option linter.unusedVariables false
set_option maxRecDepth 10000
namespace Go.W
open Go Go.Eng Go.Proofs Go.L41 Go.Br
attribute [local irreducible] AWP RWP TD finQ
theorem fd24_0 : fieldT Tryd.prog 24 0 = some (0, 3) := by kernel_rfl
theorem fd24_1 : fieldT Tryd.prog 24 1 = some (1, 3) := by kernel_rfl
theorem ok10 : callOk Tryd.prog 10 = true := by kernel_rfl
theorem ok12 : callOk Tryd.prog 12 = true := by kernel_rfl
theorem ok13 : callOk Tryd.prog 13 = true := by kernel_rfl
end Go.W
