/-
  Layer 17: programs of many empty parts; small numbers as arguments.
  Conditions: none.
-/
import Derived.Test.YtnnkemdiknefaaaGreatDoorPlain
import Derived.Test.YtnnkemdiknefaaaGreatDoorWR
import Derived.Test.YtnnkemdiknefaaaGreatDoorOpen17
set_option maxRecDepth 100000
set_option linter.unusedSimpArgs false
set_option linter.unusedVariables false
namespace Go.Br
open Go Go.Eng Go.RowKit Go.Proofs Go.L41 Go.W

def zCn : Cn := ⟨⟨0, []⟩, false⟩
def zPm : Pm := ⟨bs [], zTy, []⟩
def zDf : Df := ⟨bs [], zTy, [], [], 0, zEx⟩
theorem sh_u8 {f : Nat} {l : List C} (h : Sh Tryz.prog f 5 l) : ∃ n : Nat, l = [.lit (.int .u8 n)] ∧ n < 256 := by
  cases f with
  | zero => exact h.elim
  | succ f =>
    obtain ⟨n, h1, h2⟩ := Sh.int Tryz.underlying5 h
    simp [Lit.wf, IntKind.min, IntKind.max, IntKind.signed, IntKind.bits] at h2
    exact ⟨n.toNat, by rw [h1, Int.toNat_of_nonneg h2.1], by omega⟩
end Go.Br
