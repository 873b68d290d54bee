/-
  What an argument of this seat is: programs.
  Conditions: none.
-/
import Derived.Test.YtnnkemdiknefaaaGreatDoorOpen
import Derived.Test.YtnnkemdiknefaaaGreatDoorPlain
set_option maxRecDepth 100000
namespace Go.Br
open Go Go.Eng Go.RowKit Go.Proofs Go.L41

abbrev types17 : List TypeId := [9, 3, 2, 75, 27, 29, 104, 117, 30, 33, 31, 26, 23, 4, 5, 269, 42, 111, 43, 88, 24, 106, 44, 35, 45, 47]
theorem okTypes17 : types17.all (okT Tryz.prog types17) = true := by kernel_rfl
end Go.Br
