/-
  Arguments that are numbers: their range.
  Conditions: none.
-/
import Derived.Test.YtlfjpejkoccibaaGreatDoorOpenNR
set_option linter.unusedSimpArgs false
set_option linter.unusedVariables false
set_option maxRecDepth 100000
namespace Go.Br
open Go Go.Eng Go.L41 Go.Proofs
end Go.Br
