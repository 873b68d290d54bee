/-
  Layer 17: programs of many empty parts; small numbers as arguments.
  Conditions: none.
-/
import Derived.Test.YtnnkemdiknefaaaGreatDoorPlain
import Derived.Test.YtnnkemdiknefaaaGreatDoorWR
import Derived.Test.YtnnkemdiknefaaaGreatDoorOpenX
set_option maxRecDepth 100000
set_option linter.unusedSimpArgs false
set_option linter.unusedVariables false
namespace Go.Br
open Go Go.Eng Go.RowKit Go.Proofs Go.L41 Go.W

def zCn : Cn := ⟨⟨0, []⟩, false⟩
def zPm : Pm := ⟨bs [], zTy, []⟩
def zDf : Df := ⟨bs [], zTy, [], [], 0, zEx⟩
end Go.Br
