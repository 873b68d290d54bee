/-
  Arguments that are numbers: their range.
  Conditions: none.
-/
import Derived.Test.YtlfjpejkoccibaaGreatDoorOpenNR
set_option linter.unusedSimpArgs false
set_option linter.unusedVariables false
set_option maxRecDepth 100000
namespace Go.Br
open Go Go.Eng Go.L41 Go.Proofs
theorem sh_intR {f:Nat} {l:List C} (h:Sh Tryz.prog f 3 l):∃n:Int,l=[cI n]/\r64 n:=by
 cases f with
 |zero=>exact h.elim
 |succ f=>
  obtain ⟨m,e,hw⟩:=Sh.int Tryz.underlying3 h
  have hw:(decide (IntKind.i64.min<=m)&&decide (m<=IntKind.i64.max))=true:=hw
  rw [Bool.and_eq_true,decide_eq_true_eq,decide_eq_true_eq] at hw
  exact ⟨m,e,hw.1,hw.2⟩
end Go.Br
