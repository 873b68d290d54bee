/-
  What an argument of this seat is.
  Conditions: none.
-/
import Derived.Test.YticdknfcoinbaaaGreatDoorPlain
import Derived.Test.YticdknfcoinbaaaGreatDoorBase
set_option maxRecDepth 100000
namespace Go.Br
open Go Go.Eng Go.RowKit Go.Proofs Go.L41

abbrev types : List TypeId := [9, 3, 2, 111, 40, 42, 54, 83, 43, 46, 44, 37, 39]
end Go.Br
