/-
  Walks: what functions of the program compute. Printed by wip/gen/mk2.py.
  Conditions: none.
-/
import Derived.Test.YtgfomfnjionbeaaGreatDoorNB
import Derived.Test.YtgfomfnjionbeaaGreatDoorPlain3
import Derived.Test.YtgfomfnjionbeaaGreatDoorEngZ
set_option linter.unusedSimpArgs false
set_option linter.unusedVariables false
set_option maxRecDepth 10000
namespace Go.W
open Go Go.Eng Go.Proofs Go.L41 Go.Br
attribute [local irreducible] AWP RWP TD finQ
abbrev vBds (l:List Bd):V:=.c (.sl 2 (l.map Bd.cells))
theorem el31:elemT Tryz.prog 31=some (50,2,24):=by kernel_rfl
theorem zPy:fieldT Tryz.prog 50 0=some (0,9):=by kernel_rfl
theorem pl50:placesT Tryz.prog 50=some [(0,1),(1,1)]:=by kernel_rfl
theorem zr50:zeroT Tryz.prog 50=some [(Value.string (ByteArray.mk #[])),(Value.int IntKind.i64 0)]:=by kernel_rfl
end Go.W
