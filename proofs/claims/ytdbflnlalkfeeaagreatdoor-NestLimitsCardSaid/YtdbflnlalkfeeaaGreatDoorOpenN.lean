/-
  What an argument of this seat is: nests.
  Conditions: none.
-/
import Derived.Test.YtdbflnlalkfeeaaGreatDoorOpen
import Derived.Test.YtdbflnlalkfeeaaGreatDoorPlain2
set_option maxRecDepth 100000
namespace Go.Br
open Go Go.Eng Go.RowKit Go.Proofs Go.L41

abbrev typesN : List TypeId := [9, 3, 2, 111, 47, 49, 112, 114, 44, 52, 50, 46, 40, 57, 33, 42, 22, 54, 23, 25]
theorem okTypesN : typesN.all (okT Tryz.prog typesN) = true := by kernel_rfl
end Go.Br
