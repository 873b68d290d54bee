/-
  Walks: what functions of the program compute. Printed by wip/gen/mk2.py.
  Conditions: none.
-/
import Derived.Test.YtkijgodlhljgdaaGreatDoorWT
import Derived.Test.YtkijgodlhljgdaaGreatDoorWP
import Derived.Test.YtkijgodlhljgdaaGreatDoorPlain
set_option linter.unusedSimpArgs false
set_option linter.unusedVariables false
set_option maxRecDepth 10000
namespace Go.W
open Go Go.Eng Go.Proofs Go.L41 Go.Br
attribute [local irreducible] AWP RWP TD finQ
theorem fd93_1:fieldT Tryz.prog 93 1=some (2,4):=by kernel_rfl
theorem ok19:callOk Tryz.prog 19=true:=by kernel_rfl
theorem one4:oneT Tryz.prog 4=true:=by kernel_rfl
end Go.W
