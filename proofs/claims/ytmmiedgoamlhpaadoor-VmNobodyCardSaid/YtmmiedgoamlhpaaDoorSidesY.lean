/-
  Facts of the whole program that every row of the seat asks for, each by computation.
  Conditions: none.
-/
import Derived.Test.YtmmiedgoamlhpaaDoorBase
import Derived.JoinedCond
namespace Go.Br
open Go Go.Proofs Go.Proofs.YtmmiedgoamlhpaaDoor
set_option maxRecDepth 100000
theorem side25 : Tryd.pinned.checked.prog.mayEnter = true := by kernel_rfl
theorem side26 : (Rows.vmNobodyRow.lifted == Tryd.pinned.checked.prog.liftsFinal) = true := by kernel_rfl
theorem side27 : (Tryd.pinned.checked.prog.make == some Rows.vmNobodyRow.make) = true := by kernel_rfl
end Go.Br
