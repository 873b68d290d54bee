/-
  What functions compute.
  Conditions: none.
-/
import Derived.Test.YtgfomfnjionbeaaGreatDoorNC
import Derived.Test.YtgfomfnjionbeaaGreatDoorPlain3
set_option linter.unusedSimpArgs false
set_option linter.unusedVariables false
set_option maxRecDepth 10000
namespace Go.W
open Go Go.Eng Go.Proofs Go.L41 Go.Br
attribute [local irreducible] AWP RWP TD fQ
end Go.W
