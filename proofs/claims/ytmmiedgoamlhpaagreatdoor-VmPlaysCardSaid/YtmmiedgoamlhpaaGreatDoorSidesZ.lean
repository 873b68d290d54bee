/-
  Facts of the whole program that every row of the seat asks for, each by computation.
  Conditions: none.
-/
import Derived.Test.YtmmiedgoamlhpaaGreatDoorBase
import Derived.JoinedCond
namespace Go.Br
open Go Go.Proofs Go.Proofs.YtmmiedgoamlhpaaGreatDoor
set_option maxRecDepth 100000
theorem side25 : Tryz.pinned.checked.prog.mayEnter = true := by kernel_rfl
theorem side26 : (Rows.vmPlaysRow.lifted == Tryz.pinned.checked.prog.liftsFinal) = true := by kernel_rfl
theorem side27 : (Tryz.pinned.checked.prog.make == some Rows.vmPlaysRow.make) = true := by kernel_rfl
end Go.Br
