/-
  Facts on this seat's tables, each by computation. Printed by wip/gen/mk2.py.
  Conditions: none.
-/
import Derived.Test.YtmmiedgoamlhpaaDoorTypes
import Derived.Test.YtmmiedgoamlhpaaDoorCfg
namespace Go.W
open Go Go.Eng Go.Proofs

end Go.W
