/-
  What an argument of this seat is.
  Conditions: none.
-/
import Derived.Test.YtdbflnlalkfeeaaGreatDoorPlain
import Derived.Test.YtdbflnlalkfeeaaGreatDoorBase
set_option maxRecDepth 100000
namespace Go.Br
open Go Go.Eng Go.RowKit Go.Proofs Go.L41

abbrev types : List TypeId := [9, 3, 2, 111, 47, 49, 112, 114, 44, 52, 50, 46, 40]
end Go.Br
