/-
  What an argument of this seat is: programs.
  Conditions: none.
-/
import Derived.Test.YticdknfcoinbaaaGreatDoorOpen
import Derived.Test.YticdknfcoinbaaaGreatDoorPlain
set_option maxRecDepth 100000
namespace Go.Br
open Go Go.Eng Go.RowKit Go.Proofs Go.L41

abbrev types17 : List TypeId := [9, 3, 2, 111, 40, 42, 54, 83, 43, 46, 44, 37, 39, 4, 5, 34, 22, 75, 23, 80, 61, 77, 24, 63, 25, 27]
theorem okTypes17 : types17.all (okT Tryz.prog types17) = true := by kernel_rfl
end Go.Br
