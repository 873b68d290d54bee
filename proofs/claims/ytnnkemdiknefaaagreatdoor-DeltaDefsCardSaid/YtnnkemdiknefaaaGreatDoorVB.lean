/-
  Walks: what functions of the program compute. Printed by wip/gen/mk2.py.
  Conditions: none.
-/
import Derived.Test.YtnnkemdiknefaaaGreatDoorVA
import Derived.Test.YtnnkemdiknefaaaGreatDoorWV
import Derived.Test.YtnnkemdiknefaaaGreatDoorPlain2
import Derived.Test.YtnnkemdiknefaaaGreatDoorEngZ
set_option linter.unusedSimpArgs false
set_option linter.unusedVariables false
namespace Go.W
open Go Go.Eng Go.Proofs Go.L41 Go.Br
attribute [local irreducible] AWP RWP TD
theorem ok24 : callOk Tryz.prog 24 = true := by kernel_rfl
theorem expr_SubstR (e : Ex) (s : ByteArray) (u : Lf) (he : e.wt ≤ 4294967296) (hP : e.allF Lf.rng) (ht : u.L.length ≤ 4294967296) (hrt : u.rng) : Pur cfg 24 [vE e, vS s, vLin u] (.tup [vE (outE (mEx (fun l => substR l s u) e)), vI (errE (mEx (fun l => substR l s u) e))]) := by
  have h := expr_Substitute e s u he hP ht hrt
  rw [mEx_congr (g := fun l => substR l s u) (fun l hl => subst_eq hl) e hP] at h
  exact h
end Go.W
