/-
  What functions compute.
  Conditions: none.
-/
import Derived.Test.YtdldhbfgfkebjaaGreatDoorHN
import Derived.Test.YtdldhbfgfkebjaaGreatDoorPlainG
set_option linter.unusedSimpArgs false
set_option linter.unusedVariables false
set_option maxRecDepth 10000
namespace Go.W
open Go Go.Eng Go.Proofs Go.L41 Go.Br
attribute [local irreducible] AWP RWP TD fY
def slB (sl:List Sl) (x:In):Bool:=sl.any fun s=>decide (x.Val.N=s.At)&&decide (x.C=s.At+s.Len)
theorem zDu:bD Tryz.prog 46 3=some (3,3):=by kernel_rfl
theorem zCc:bD Tryz.prog 46 4=some (4,44):=by kernel_rfl
theorem sz46:(Tryz.prog.info? 46).map (·.size)=some 11:=by kernel_rfl
end Go.W
