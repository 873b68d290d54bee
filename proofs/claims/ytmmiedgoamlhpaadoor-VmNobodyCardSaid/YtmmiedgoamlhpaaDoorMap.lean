/-
  Copies with all forms mapped; weights; in plain Lean.
  Conditions: none.
-/
import Derived.Test.YtmmiedgoamlhpaaDoorSpec
set_option linter.unusedSimpArgs false
set_option linter.unusedVariables false
namespace Go.Br
open Go Go.Eng Go.L41

/-! ## Equality, part by part -/
end Go.Br
