/-
  Facts of the whole program that every row of the seat asks for, each by computation.
  Conditions: none.
-/
import Derived.Test.YtnnkemdiknefaaaGreatDoorBase
import Derived.JoinedCond
namespace Go.Br
open Go Go.Proofs Go.Proofs.YtnnkemdiknefaaaGreatDoor
set_option maxRecDepth 100000
theorem side25 : Tryz.pinned.checked.prog.mayEnter = true := by kernel_rfl
theorem side26 : (Rows.exprWalksRow.lifted == Tryz.pinned.checked.prog.liftsFinal) = true := by kernel_rfl
theorem side27 : (Tryz.pinned.checked.prog.make == some Rows.exprWalksRow.make) = true := by kernel_rfl
end Go.Br
