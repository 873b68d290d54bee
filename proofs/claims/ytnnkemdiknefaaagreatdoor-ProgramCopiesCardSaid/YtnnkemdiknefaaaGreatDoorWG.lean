/-
  Walks: what functions of the program compute. Printed by wip/gen/mk2.py.
  Conditions: none.
-/
import Derived.Test.YtnnkemdiknefaaaGreatDoorWF
import Derived.Test.YtnnkemdiknefaaaGreatDoorPlain
set_option linter.unusedSimpArgs false
set_option linter.unusedVariables false
namespace Go.W
open Go Go.Eng Go.Proofs Go.L41 Go.Br
attribute [local irreducible] AWP RWP TD
theorem ok31 : callOk Tryz.prog 31 = true := by kernel_rfl
theorem ok40 : callOk Tryz.prog 40 = true := by kernel_rfl
end Go.W
