/-
  What functions compute.
  Conditions: none.
-/
import Derived.Test.YtkidnhldibjiaaaGreatDoorKB
import Derived.Test.YtkidnhldibjiaaaGreatDoorPlain3
import Derived.Test.YtkidnhldibjiaaaGreatDoorOpenX
set_option linter.unusedSimpArgs false
set_option linter.unusedVariables false
set_option maxRecDepth 10000
namespace Go.W
open Go Go.Eng Go.Proofs Go.L41 Go.Br
attribute [local irreducible] AWP RWP TD fL
theorem pgOkC {p:Pg} (h:p.Ok):p.OkC:=
  ⟨h.sizes,h.wh,h.params,h.defs,h.outs,h.whs,h.ps,fun d hd=>⟨(h.ds d hd).1,(h.ds d hd).2.1,(h.ds d hd).2.2.1,(h.ds d hd).2.2.2.1,allF_wt (Nat.le_trans (h.ds d hd).2.2.2.2 (by decide)),Nat.le_trans (Ex.cnt_le d.Body) (h.ds d hd).2.2.2.2⟩⟩
end Go.W
