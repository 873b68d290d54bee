/-
  Names and keywords as plain data.
  Conditions: none.
-/
import Derived.Test.YtmmiedgoamlhpaaDoorEngX
namespace Go.L41
open Go Go.Eng

/-- A string of those bytes. -/
abbrev bs (l : List UInt8) : ByteArray := ⟨l.toArray⟩

def words : List ByteArray := [bs [115, 105, 122, 101], bs [119, 104, 101, 114, 101], bs [105, 110], bs [100, 101, 102], bs [111, 117, 116], bs [115, 117, 109], bs [112, 114, 111, 100], bs [109, 105, 110], bs [109, 97, 120], bs [115, 99, 97, 110], bs [111, 118, 101, 114], bs [105, 102], bs [99, 97, 115, 116], bs [102, 114, 97, 99], bs [105, 110, 116], bs [102, 105, 120], bs [99, 101, 105, 108], bs [102, 108, 111, 111, 114], bs [122, 101, 114, 111], bs [101, 118, 101, 110], bs [115, 97, 116], bs [119, 114, 97, 112]]

end Go.L41
