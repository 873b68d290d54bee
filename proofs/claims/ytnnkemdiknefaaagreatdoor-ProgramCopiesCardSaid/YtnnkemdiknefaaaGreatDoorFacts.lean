/-
  Facts on this seat's tables, each by computation. Printed by wip/gen/mk2.py.
  Conditions: none.
-/
import Derived.Test.YtnnkemdiknefaaaGreatDoorPlain
import Derived.Test.YtnnkemdiknefaaaGreatDoorCfg
namespace Go.W
open Go Go.Eng Go.Proofs

end Go.W
