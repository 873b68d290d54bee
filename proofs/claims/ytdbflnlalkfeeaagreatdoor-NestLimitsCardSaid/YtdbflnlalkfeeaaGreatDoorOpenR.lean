/-
  What an argument of this seat is: the numbers in its forms are in range.
  Conditions: none.
-/
import Derived.Test.YtdbflnlalkfeeaaGreatDoorOpen
import Derived.Test.YtdbflnlalkfeeaaGreatDoorPlain2
set_option maxRecDepth 100000
namespace Go.Br
open Go Go.Eng Go.RowKit Go.Proofs Go.L41

end Go.Br
