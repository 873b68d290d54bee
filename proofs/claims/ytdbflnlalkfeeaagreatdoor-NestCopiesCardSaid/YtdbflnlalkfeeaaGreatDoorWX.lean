/-
  Walks: what functions of the program compute. Printed by wip/gen/mk2.py.
  Conditions: none.
-/
import Derived.Test.YtdbflnlalkfeeaaGreatDoorWV
import Derived.Test.YtdbflnlalkfeeaaGreatDoorPlain2
import Derived.Test.YtdbflnlalkfeeaaGreatDoorEngZ
set_option linter.unusedSimpArgs false
set_option linter.unusedVariables false
set_option maxRecDepth 10000
namespace Go.W
open Go Go.Eng Go.Proofs Go.L41 Go.Br
attribute [local irreducible] AWP RWP TD finQ
theorem pl49 : placesT Tryz.prog 49 = some [(0, 1), (1, 1)] := by kernel_rfl
theorem pl111 : placesT Tryz.prog 111 = some [(0, 1), (1, 1)] := by kernel_rfl
theorem sz47 : (Tryz.prog.info? 47).map (·.size) = some 1 := by kernel_rfl
end Go.W
