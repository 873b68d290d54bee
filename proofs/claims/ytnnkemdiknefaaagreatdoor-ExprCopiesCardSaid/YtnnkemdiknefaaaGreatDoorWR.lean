/-
  Walks: what functions of the program compute. Printed by wip/gen/mk2.py.
  Conditions: none.
-/
import Derived.Test.YtnnkemdiknefaaaGreatDoorWQ
import Derived.Test.YtnnkemdiknefaaaGreatDoorPlain
set_option linter.unusedSimpArgs false
set_option linter.unusedVariables false
namespace Go.W
open Go Go.Eng Go.Proofs Go.L41 Go.Br
attribute [local irreducible] AWP RWP TD
theorem pl117 : placesT Tryz.prog 117 = some [(0, 2), (2, 1), (3, 1)] := by kernel_rfl
end Go.W
