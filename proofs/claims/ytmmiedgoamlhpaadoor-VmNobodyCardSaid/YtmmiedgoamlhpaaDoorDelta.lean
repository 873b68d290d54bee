/-
  Layer 22 in plain Lean.
  Conditions: none.
-/
import Derived.Test.YtmmiedgoamlhpaaDoorMap
set_option linter.unusedSimpArgs false
set_option linter.unusedVariables false
namespace Go.Br
open Go Go.Eng Go.L41

end Go.Br
