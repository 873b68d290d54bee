/-
  Facts of the whole program that every row of the seat asks for,each by computation.
  Conditions: none.
-/
import Derived.Test.YtdldhbfgfkebjaaGreatDoorBase
import Derived.JoinedCond
set_option linter.unusedSimpArgs false
set_option linter.unusedVariables false
namespace Go.Br
open Go Go.Proofs Go.Proofs.YtdldhbfgfkebjaaGreatDoor
set_option maxRecDepth 100000
theorem side25:Tryz.pinned.checked.prog.mayEnter=true:=by kernel_rfl
theorem side26:(Rows.codegenTypesRow.lifted==Tryz.pinned.checked.prog.liftsFinal)=true:=by kernel_rfl
theorem side27:(Tryz.pinned.checked.prog.make==some Rows.codegenTypesRow.make)=true:=by kernel_rfl
end Go.Br
