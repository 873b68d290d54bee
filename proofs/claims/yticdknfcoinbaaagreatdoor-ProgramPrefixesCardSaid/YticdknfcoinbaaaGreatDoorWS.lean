/-
  Walks: what functions of the program compute. Printed by wip/gen/mk2.py.
  Conditions: none.
-/
import Derived.Test.YticdknfcoinbaaaGreatDoorWR
import Derived.Test.YticdknfcoinbaaaGreatDoorProg17G
import Derived.Test.YticdknfcoinbaaaGreatDoorEngZ
set_option linter.unusedSimpArgs false
set_option linter.unusedVariables false
namespace Go.W
open Go Go.Eng Go.Proofs Go.L41 Go.Br
attribute [local irreducible] AWP RWP TD
theorem sz22 : (Tryz.prog.info? 22).map (·.size) = some 1 := by kernel_rfl
end Go.W
