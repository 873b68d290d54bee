/-
  What functions compute.
  Conditions: none.
-/
import Derived.Test.YtlfjpejkoccibaaGreatDoorNK
import Derived.Test.YtlfjpejkoccibaaGreatDoorEngZ
import Derived.Test.YtlfjpejkoccibaaGreatDoorPlain2
set_option linter.unusedSimpArgs false
set_option linter.unusedVariables false
set_option maxRecDepth 10000
namespace Go.W
open Go Go.Eng Go.Proofs Go.L41 Go.Br
attribute [local irreducible] AWP RWP TD fH
/-! pQ trees: the cells of forms,indices,expressions,statements,buffers and nests all of whose slices are new. -/
end Go.W
