/-
  What functions compute.
  Conditions: none.
-/
import Derived.Test.YtlfjpejkoccibaaGreatDoorNQ
import Derived.Test.YtlfjpejkoccibaaGreatDoorEngZ
set_option linter.unusedSimpArgs false
set_option linter.unusedVariables false
set_option maxRecDepth 10000
namespace Go.W
open Go Go.Eng Go.Proofs Go.L41 Go.Br
attribute [local irreducible] AWP RWP TD fH
structure P2 where
  (a0 a1:Value)
def P2.vals (p:P2):List Value:=[p.a0,p.a1]
abbrev P2.v (p:P2):V:=.agg [.lit p.a0,.lit p.a1]
end Go.W
