/-
  Walks: what functions of the program compute. Printed by wip/gen/mk2.py.
  Conditions: none.
-/
import Derived.Test.YtnnkemdiknefaaaGreatDoorVD
import Derived.Test.YtnnkemdiknefaaaGreatDoorEngZ
set_option linter.unusedSimpArgs false
set_option linter.unusedVariables false
namespace Go.W
open Go Go.Eng Go.Proofs Go.L41 Go.Br
attribute [local irreducible] AWP RWP TD
def csW (e : Ex) (sv : Value) : List C := [cI e.Op, cS e.Name, cI e.Val.N, cI e.Val.D, cI e.Ty.Kind, cI e.Ty.Bits, cI e.Ty.Frac, cI e.Ty.Round, cI e.Ty.Over, cI e.Lin.K, .sl 2 (e.Lin.L.map Mono.cells), .sl 4 (e.Idx.map Ix.cells), .lit sv]
end Go.W
