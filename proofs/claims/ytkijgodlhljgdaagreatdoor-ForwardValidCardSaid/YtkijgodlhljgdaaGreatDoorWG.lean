/-
  Walks: what functions of the program compute. Printed by wip/gen/mk2.py.
  Conditions: none.
-/
import Derived.Test.YtkijgodlhljgdaaGreatDoorWF
import Derived.Test.YtkijgodlhljgdaaGreatDoorPlain
set_option linter.unusedSimpArgs false
set_option linter.unusedVariables false
set_option maxRecDepth 10000
namespace Go.W
open Go Go.Eng Go.Proofs Go.L41 Go.Br
attribute [local irreducible] AWP RWP TD finQ
theorem ok31:callOk Tryz.prog 31=true:=by kernel_rfl
theorem ok32:callOk Tryz.prog 32=true:=by kernel_rfl
theorem ok37:callOk Tryz.prog 37=true:=by kernel_rfl
theorem ok64:callOk Tryz.prog 64=true:=by kernel_rfl
end Go.W
