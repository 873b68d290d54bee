/-
  What functions compute.
  Conditions: none.
-/
import Derived.Test.YtlfjpejkoccibaaGreatDoorNH
import Derived.Test.YtlfjpejkoccibaaGreatDoorPlain2
set_option linter.unusedSimpArgs false
set_option linter.unusedVariables false
set_option maxRecDepth 10000
namespace Go.W
open Go Go.Eng Go.Proofs Go.L41 Go.Br
attribute [local irreducible] AWP RWP TD fH
theorem ok32:bA Tryz.prog 32=true:=by kernel_rfl
theorem ok34:bA Tryz.prog 34=true:=by kernel_rfl
theorem ok36:bA Tryz.prog 36=true:=by kernel_rfl
theorem pl25:gG Tryz.prog 25=some [(0,1),(1,1)]:=by kernel_rfl
theorem sz22:(Tryz.prog.info? 22).map (·.size)=some 1:=by kernel_rfl
theorem i:(Tryz.prog.info? 25).map (·.size)=some 2:=by kernel_rfl
theorem W:fS Tryz.prog 25=some [(Value.slice none 0 0),(Value.slice none 0 0)]:=by kernel_rfl
end Go.W
