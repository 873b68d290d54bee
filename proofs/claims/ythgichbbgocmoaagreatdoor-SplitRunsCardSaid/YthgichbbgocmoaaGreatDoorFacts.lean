/-
  Facts on this seat's tables,each by computation. Printed by wip/gen/mk2.py.
  Conditions: none.
-/
import Derived.Test.YthgichbbgocmoaaGreatDoorPlain
import Derived.Test.YthgichbbgocmoaaGreatDoorCfg
set_option linter.unusedSimpArgs false
set_option linter.unusedVariables false
set_option linter.defProp false
namespace Go.W
open Go Go.Eng Go.Proofs
end Go.W
