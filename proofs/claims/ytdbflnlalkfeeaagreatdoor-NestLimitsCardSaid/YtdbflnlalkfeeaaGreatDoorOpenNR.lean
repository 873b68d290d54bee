/-
  What an argument of this seat is: the numbers in the forms of statements are in range.
  Conditions: none.
-/
import Derived.Test.YtdbflnlalkfeeaaGreatDoorOpenN
import Derived.Test.YtdbflnlalkfeeaaGreatDoorOpenR
import Derived.Test.YtdbflnlalkfeeaaGreatDoorPlain2
set_option maxRecDepth 100000
namespace Go.Br
open Go Go.Eng Go.RowKit Go.Proofs Go.L41

theorem sh_u16n {f : Nat} {l : List C} (h : Sh Tryz.prog f 57 l) : ∃ n : Int, l = [.lit (.int .u16 n)] ∧ 0 ≤ n ∧ n ≤ 65535 := by
  cases f with
  | zero => exact h.elim
  | succ f =>
    obtain ⟨m, e, hw⟩ := Sh.int Tryz.underlying57 h
    have hw : (decide (IntKind.u16.min ≤ m) && decide (m ≤ IntKind.u16.max)) = true := hw
    rw [Bool.and_eq_true, decide_eq_true_eq, decide_eq_true_eq] at hw
    exact ⟨m, e, hw.1, hw.2⟩
end Go.Br
