/-
  Walks: what functions of the program compute. Printed by wip/gen/mk2.py.
  Conditions: none.
-/
import Derived.Test.YtlfjpejkoccibaaGreatDoorWT
import Derived.Test.YtlfjpejkoccibaaGreatDoorPlain2
import Derived.Test.YtlfjpejkoccibaaGreatDoorEngZ
set_option linter.unusedSimpArgs false
set_option linter.unusedVariables false
set_option maxRecDepth 10000
namespace Go.W
open Go Go.Eng Go.Proofs Go.L41 Go.Br
attribute [local irreducible] AWP RWP TD finQ
theorem ok170 : callOk Tryz.prog 170 = true := by kernel_rfl
theorem ok171 : callOk Tryz.prog 171 = true := by kernel_rfl

theorem expr_sorted (sv : Value) (l : List ByteArray) (hl : l.length ≤ 4294967296) :
    Con cfg 132 [.c (.lit sv)] [.vec sv 9 1 (strRows l)] fun r μ' => ∃ sv', r = .c (.lit sv') ∧ μ' = [.vec sv' 9 1 (strRows (thinB (sortB l)))] := by
 refine con_intro Tryz.func132 rfl Tryz.ntmps132 Tryz.results132 rfl ?_
 intro z hz
 refine sReg rfl <|
  rwp_det rfl rfl (det_assignN 1 rfl rfl) <|
  rwp_nil <|
  sReg rfl <|
  rMv rfl <|
  rwp_det rfl rfl (det_call_mem [0] rfl ok170 (sort_con sv l hl) ⟨VLe.refl _, rfl, trivial⟩ rfl) <|
  rwp_nil <|
  sReg rfl <|
  rMv rfl <|
  rwp_op rfl rfl (ope_call_vec 0 rfl rfl ok171 (thin_con sv (sortB l) (by rw [sortB_len]; exact hl)) ⟨VLe.refl _, rfl, trivial⟩) ?_
 rintro _ _ ⟨sv1, rfl, rfl⟩
 refine rMv rfl <|
  rwp_nil <|
  awp_ret <|
  fin1 (rs_c rfl) ?_
 exact ⟨_, rfl, rfl⟩

end Go.W
