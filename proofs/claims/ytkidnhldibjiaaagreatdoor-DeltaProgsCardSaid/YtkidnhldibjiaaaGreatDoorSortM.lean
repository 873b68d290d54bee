/-
  Sorting of monomials by their names: slices.SortFunc,by the shelf's contract.
  Conditions: none.
-/
import Derived.Test.YtkidnhldibjiaaaGreatDoorPlain2
import Derived.Test.YtkidnhldibjiaaaGreatDoorPlain3
import Derived.Test.YtkidnhldibjiaaaGreatDoorShelfX
set_option linter.unusedSimpArgs false
set_option linter.unusedVariables false
namespace Go.Br
open Go Go.Eng Go.RowKit Go.Proofs Go.L41 Go.Sort
/-! ## The order -/
instance:Inhabited Mono:=⟨⟨bs [],0⟩⟩
end Go.Br
