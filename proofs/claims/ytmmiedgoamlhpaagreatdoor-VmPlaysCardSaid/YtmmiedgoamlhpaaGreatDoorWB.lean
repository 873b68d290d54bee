/-
  Walks: what functions of the program compute. Printed by wip/gen/mk2.py.
  Conditions: none.
-/
import Derived.Test.YtmmiedgoamlhpaaGreatDoorFacts
import Derived.Test.YtmmiedgoamlhpaaGreatDoorSpec
set_option linter.unusedSimpArgs false
set_option linter.unusedVariables false
set_option maxRecDepth 10000
namespace Go.W
open Go Go.Eng Go.Proofs Go.L41 Go.Br
attribute [local irreducible] AWP RWP TD finQ
theorem agg63 : aggT Tryz.prog 63 = some 2 := by kernel_rfl
theorem agg65 : aggT Tryz.prog 65 = some 5 := by kernel_rfl
theorem fd63_0 : fieldT Tryz.prog 63 0 = some (0, 2) := by kernel_rfl
theorem fd63_1 : fieldT Tryz.prog 63 1 = some (1, 2) := by kernel_rfl
theorem fd65_0 : fieldT Tryz.prog 65 0 = some (0, 3) := by kernel_rfl
theorem fd65_1 : fieldT Tryz.prog 65 1 = some (1, 3) := by kernel_rfl
theorem fd65_2 : fieldT Tryz.prog 65 2 = some (2, 3) := by kernel_rfl
theorem fd65_3 : fieldT Tryz.prog 65 3 = some (3, 3) := by kernel_rfl
theorem fd65_4 : fieldT Tryz.prog 65 4 = some (4, 3) := by kernel_rfl
theorem fl65 : flatK Tryz.prog 65 = some [.int, .int, .int, .int, .int] := by kernel_rfl
theorem ik145 : intT Tryz.prog 145 = some .u64 := by kernel_rfl
theorem ik188 : intT Tryz.prog 188 = some .u64 := by kernel_rfl
theorem mixed : Tryz.prog.follows .mixedOrders = true := by kernel_rfl
theorem ok60 : callOk Tryz.prog 60 = true := by kernel_rfl
theorem ok106 : callOk Tryz.prog 106 = true := by kernel_rfl
theorem ok107 : callOk Tryz.prog 107 = true := by kernel_rfl
theorem ok163 : callOk Tryz.prog 163 = true := by kernel_rfl
theorem ok164 : callOk Tryz.prog 164 = true := by kernel_rfl
theorem ok165 : callOk Tryz.prog 165 = true := by kernel_rfl
theorem ok227 : callOk Tryz.prog 227 = true := by kernel_rfl
theorem ok228 : callOk Tryz.prog 228 = true := by kernel_rfl
theorem ok229 : callOk Tryz.prog 229 = true := by kernel_rfl
theorem ok230 : callOk Tryz.prog 230 = true := by kernel_rfl
theorem ok231 : callOk Tryz.prog 231 = true := by kernel_rfl
theorem ok232 : callOk Tryz.prog 232 = true := by kernel_rfl
theorem ok296 : callOk Tryz.prog 296 = true := by kernel_rfl
theorem one2 : oneT Tryz.prog 2 = true := by kernel_rfl
theorem one3 : oneT Tryz.prog 3 = true := by kernel_rfl
theorem pl65 : placesT Tryz.prog 65 = some [(0, 1), (1, 1), (2, 1), (3, 1), (4, 1)] := by kernel_rfl
theorem us2 : (Tryz.prog.underlying 2).isSome = true := by kernel_rfl
theorem us3 : (Tryz.prog.underlying 3).isSome = true := by kernel_rfl
theorem zr65 : zeroT Tryz.prog 65 = some [(Value.int IntKind.i64 0), (Value.int IntKind.i64 0), (Value.int IntKind.i64 0), (Value.int IntKind.i64 0), (Value.int IntKind.i64 0)] := by kernel_rfl
theorem value_plain (t : Ty) :
    Pur cfg 106 [vTy t] (vB (plainT t)) := by
 refine con_intro Tryz.func106 rfl Tryz.ntmps106 Tryz.results106 rfl ?_
 intro z hz
 refine sReg rfl <|
  rwp_op rfl rfl (ope_box rfl rfl) ?_
 rintro _ _ ⟨b1, rfl, rfl⟩
 refine rMv rfl <|
  rwp_nil <|
  sReg rfl <|
  rwp_det rfl rfl (det_load_agg rfl agg65 rfl (ptr_row 0 rfl) rfl) <|
  rwp_det rfl rfl (det_field_lit rfl fd65_0 rfl) <|
  rwp_det rfl rfl (det_load_one rfl one3 rfl (ptr_row 0 rfl) rfl) <|
  rwp_det rfl rfl (det_build rfl zr65 pl65 rfl) <|
  rwp_det rfl rfl (det_aeql rfl fl65 rfl rfl rfl) <|
  rMv rfl <|
  rwp_nil <|
  awp_ret <|
  fin1 (rs_c rfl) ?_
 exact congrArg vB (plainT_eq t)

theorem fixed_ValidateType (t : Ty) :
    Pur cfg 107 [vTy t] (vI (bif fixOk t then 0 else 10)) := by
 refine con_intro Tryz.func107 rfl Tryz.ntmps107 Tryz.results107 rfl ?_
 intro z hz
 refine sReg rfl <|
  rwp_op rfl rfl (ope_box rfl rfl) ?_
 rintro _ _ ⟨b1, rfl, rfl⟩
 refine rMv rfl <|
  rwp_nil <|
  sReg rfl <|
  rwp_det rfl rfl (det_field_lit rfl fd65_3 rfl) <|
  rwp_det rfl rfl (det_load_one rfl one3 rfl (ptr_row 0 rfl) rfl) <|
  rwp_det rfl rfl (det_geq rfl rfl rfl) <|
  rMv rfl <|
  rLz [] rfl gv1 trivial (fun g1_3 => det_field_lit rfl fd65_3 rfl) rfl <|
  rLz [(8, _)] rfl gv1 ⟨rfl, rfl, trivial⟩ (fun g1_3 => det_load_one rfl one3 rfl (ptr_row 0 rfl) rfl) rfl <|
  rLz [(9, _)] rfl gv1 ⟨rfl, rfl, trivial⟩ (fun g1_3 => det_leq rfl rfl rfl) rfl <|
  rwp_det rfl rfl (det_and rfl rfl rfl (fun h => h) rfl) <|
  rMv rfl <|
  rLz [] rfl gv1 trivial (fun g1_8 => det_field_lit rfl fd65_4 rfl) rfl <|
  rLz [(13, _)] rfl gv1 ⟨rfl, rfl, trivial⟩ (fun g1_8 => det_load_one rfl one3 rfl (ptr_row 0 rfl) rfl) rfl <|
  rLz [(14, _)] rfl gv1 ⟨rfl, rfl, trivial⟩ (fun g1_8 => det_eql rfl rfl rfl) rfl <|
  rLz [(15, _)] rfl gv1 ⟨rfl, rfl, trivial⟩ (fun g1_8 => det_move rfl rfl) rfl <|
  rLz [] rfl gv2 trivial (fun g1_12 => det_field_lit rfl fd65_4 rfl) rfl <|
  rLz [(17, _)] rfl gv2 ⟨rfl, rfl, trivial⟩ (fun g1_12 => det_load_one rfl one3 rfl (ptr_row 0 rfl) rfl) rfl <|
  rLz [(18, _)] rfl gv2 ⟨rfl, rfl, trivial⟩ (fun g1_12 => det_eql rfl rfl rfl) rfl <|
  rLz [(16, _)] rfl gv1 ⟨rfl, rfl, trivial⟩ (fun g1_8 => det_or rfl rfl rfl rfl (fun h => and_mk (by assumption) (lzf h))) rfl <|
  rwp_det rfl rfl (det_and rfl rfl rfl (fun h => h) rfl) <|
  rMv rfl <|
  rwp_nil <|
  awp_seq <|
  sReg rfl <|
  rwp_det rfl rfl (det_field_lit rfl fd65_0 rfl) <|
  rwp_det rfl rfl (det_load_one rfl one3 rfl (ptr_row 0 rfl) rfl) <|
  rwp_det rfl rfl (det_neq rfl rfl rfl) <|
  rMv rfl <|
  rLz [] rfl gv1 trivial (fun g2_3 => det_field_lit rfl fd65_1 rfl) rfl <|
  rLz [(26, _)] rfl gv1 ⟨rfl, rfl, trivial⟩ (fun g2_3 => det_load_one rfl one3 rfl (ptr_row 0 rfl) rfl) rfl <|
  rLz [(27, _)] rfl gv1 ⟨rfl, rfl, trivial⟩ (fun g2_3 => det_lss rfl rfl rfl) rfl <|
  rwp_det rfl rfl (det_or rfl rfl rfl rfl (fun h => (lzf h))) <|
  rMv rfl <|
  rLz [] rfl gv1 trivial (fun g2_8 => det_field_lit rfl fd65_1 rfl) rfl <|
  rLz [(31, _)] rfl gv1 ⟨rfl, rfl, trivial⟩ (fun g2_8 => det_load_one rfl one3 rfl (ptr_row 0 rfl) rfl) rfl <|
  rLz [(32, _)] rfl gv1 ⟨rfl, rfl, trivial⟩ (fun g2_8 => det_gtr rfl rfl rfl) rfl <|
  rwp_det rfl rfl (det_or rfl rfl rfl rfl (fun h => (lzf h))) <|
  rMv rfl <|
  rLz [] rfl gv1 trivial (fun g2_13 => det_field_lit rfl fd65_2 rfl) rfl <|
  rLz [(36, _)] rfl gv1 ⟨rfl, rfl, trivial⟩ (fun g2_13 => det_load_one rfl one3 rfl (ptr_row 0 rfl) rfl) rfl <|
  rLz [(37, _)] rfl gv1 ⟨rfl, rfl, trivial⟩ (fun g2_13 => det_lss rfl rfl rfl) rfl <|
  rwp_det rfl rfl (det_or rfl rfl rfl rfl (fun h => (lzf h))) <|
  rMv rfl <|
  rLz [] rfl gv1 trivial (fun g2_18 => det_field_lit rfl fd65_2 rfl) rfl <|
  rLz [(41, _)] rfl gv1 ⟨rfl, rfl, trivial⟩ (fun g2_18 => det_load_one rfl one3 rfl (ptr_row 0 rfl) rfl) rfl <|
  rLz [(42, _)] rfl gv1 ⟨rfl, rfl, trivial⟩ (fun g2_18 => det_gtr rfl rfl rfl) rfl <|
  rwp_det rfl rfl (det_or rfl rfl rfl rfl (fun h => (lzf h))) <|
  rMv rfl <|
  rLz [] rfl gv1 trivial (fun g2_23 => det_move rfl rfl) rfl <|
  rLz [(46, _)] rfl gv1 ⟨rfl, rfl, trivial⟩ (fun g2_23 => det_not rfl rfl) rfl <|
  rwp_det rfl rfl (det_or rfl rfl rfl rfl (fun h => (lzf h))) <|
  rwp_nil <|
  awp_cond rfl (fun c1 => ?_) (fun c1 => ?_)
 ·refine sReg rfl <|
   rMv rfl <|
   rwp_nil <|
   awp_ret <|
   fin1 (rs_c rfl) ?_
  rw [show fixOk t = false from fix_no c1]; rfl
 ·refine awp_skip <|
   sReg rfl <|
   rMv rfl <|
   rwp_nil <|
   awp_ret <|
   fin1 (rs_c rfl) ?_
  rw [show fixOk t = true from fix_yes c1]; rfl

theorem value_ValidateType (t : Ty) :
    Pur cfg 60 [vTy t] (vI (tyErr t)) := by
 refine con_intro Tryz.func60 rfl Tryz.ntmps60 Tryz.results60 rfl ?_
 intro z hz
 refine sReg rfl <|
  rwp_op rfl rfl (ope_box rfl rfl) ?_
 rintro _ _ ⟨b1, rfl, rfl⟩
 refine rMv rfl <|
  rwp_nil <|
  awp_seq <|
  sReg rfl <|
  rwp_det rfl rfl (det_field_lit rfl fd65_0 rfl) <|
  rwp_det rfl rfl (det_load_one rfl one3 rfl (ptr_row 0 rfl) rfl) <|
  rwp_nil <|
  awp_block <|
  awp_seq <|
  sReg rfl <|
  rwp_det rfl rfl (det_eql rfl rfl rfl) <|
  rMv rfl <|
  rwp_nil <|
  awp_cond rfl (fun c1 => ?_) (fun c1 => ?_)
 ·try simp only [sx] at c1
  refine awp_skip <|
   awp_cond rfl (fun c2 => ?_) (fun c2 => ?_)
  ·try simp only [sx] at c2
   refine sReg rfl <|
    rwp_det rfl rfl (det_load_agg rfl agg65 rfl (ptr_row 0 rfl) rfl) <|
    rwp_det rfl rfl (det_call rfl ok106 (value_plain _) ⟨VLe.refl _, rfl, trivial⟩) <|
    rwp_nil <|
    awp_cond rfl (fun c3 => ?_) (fun c3 => ?_)
   ·try simp only [sx] at c3
    refine sReg rfl <|
     rMv rfl <|
     rwp_nil <|
     awp_ret <|
     fin1 (rs_c rfl) ?_
    exact congrArg vI (by first | (exfalso; omega) | (rw [tyErr, tyk1 (by omega), c3]; rfl) | (rw [tyErr, fix_ty (by omega), fxz c5]; rfl) | (rw [tyErr, fix_ty (by omega), fxn c5]; rfl) | (rw [tyErr, tyk0 (by omega) (by omega) (by omega)]; rfl))
   ·try simp only [sx] at c3
    refine awp_skip <|
     sReg rfl <|
     rMv rfl <|
     rwp_nil <|
     awp_ret <|
     fin1 (rs_c rfl) ?_
    exact congrArg vI (by first | (exfalso; omega) | (rw [tyErr, tyk1 (by omega), c3]; rfl) | (rw [tyErr, fix_ty (by omega), fxz c5]; rfl) | (rw [tyErr, fix_ty (by omega), fxn c5]; rfl) | (rw [tyErr, tyk0 (by omega) (by omega) (by omega)]; rfl))
  ·try simp only [sx] at c2
   refine sReg rfl <|
    rwp_det rfl rfl (det_eql rfl rfl rfl) <|
    rMv rfl <|
    rwp_nil <|
    awp_cond rfl (fun c4 => ?_) (fun c4 => ?_)
   ·try simp only [sx] at c4
    refine sReg rfl <|
     rwp_det rfl rfl (det_load_agg rfl agg65 rfl (ptr_row 0 rfl) rfl) <|
     rwp_det rfl rfl (det_call rfl ok107 (fixed_ValidateType _) ⟨VLe.refl _, rfl, trivial⟩) <|
     rwp_det rfl rfl (det_eql rfl rfl rfl) <|
     rwp_nil <|
     awp_cond rfl (fun c5 => ?_) (fun c5 => ?_)
    ·try simp only [sx] at c5
     refine sReg rfl <|
      rMv rfl <|
      rwp_nil <|
      awp_ret <|
      fin1 (rs_c rfl) ?_
     exact congrArg vI (by first | (exfalso; omega) | (rw [tyErr, tyk1 (by omega), c3]; rfl) | (rw [tyErr, fix_ty (by omega), fxz c5]; rfl) | (rw [tyErr, fix_ty (by omega), fxn c5]; rfl) | (rw [tyErr, tyk0 (by omega) (by omega) (by omega)]; rfl))
    ·try simp only [sx] at c5
     refine awp_skip <|
      sReg rfl <|
      rMv rfl <|
      rwp_nil <|
      awp_ret <|
      fin1 (rs_c rfl) ?_
     exact congrArg vI (by first | (exfalso; omega) | (rw [tyErr, tyk1 (by omega), c3]; rfl) | (rw [tyErr, fix_ty (by omega), fxz c5]; rfl) | (rw [tyErr, fix_ty (by omega), fxn c5]; rfl) | (rw [tyErr, tyk0 (by omega) (by omega) (by omega)]; rfl))
   ·try simp only [sx] at c4
    refine awp_skip <|
     sReg rfl <|
     rMv rfl <|
     rwp_nil <|
     awp_ret <|
     fin1 (rs_c rfl) ?_
    exact congrArg vI (by first | (exfalso; omega) | (rw [tyErr, tyk1 (by omega), c3]; rfl) | (rw [tyErr, fix_ty (by omega), fxz c5]; rfl) | (rw [tyErr, fix_ty (by omega), fxn c5]; rfl) | (rw [tyErr, tyk0 (by omega) (by omega) (by omega)]; rfl))
 ·try simp only [sx] at c1
  refine awp_region rfl <|
   rwp_det rfl rfl (det_eql rfl rfl rfl) <|
   rMv rfl <|
   rwp_nil <|
   awp_cond rfl (fun c2 => ?_) (fun c2 => ?_)
  ·try simp only [sx] at c2
   refine sReg rfl <|
    rwp_det rfl rfl (det_load_agg rfl agg65 rfl (ptr_row 0 rfl) rfl) <|
    rwp_det rfl rfl (det_call rfl ok106 (value_plain _) ⟨VLe.refl _, rfl, trivial⟩) <|
    rwp_nil <|
    awp_cond rfl (fun c3 => ?_) (fun c3 => ?_)
   ·try simp only [sx] at c3
    refine sReg rfl <|
     rMv rfl <|
     rwp_nil <|
     awp_ret <|
     fin1 (rs_c rfl) ?_
    exact congrArg vI (by first | (exfalso; omega) | (rw [tyErr, tyk1 (by omega), c3]; rfl) | (rw [tyErr, fix_ty (by omega), fxz c5]; rfl) | (rw [tyErr, fix_ty (by omega), fxn c5]; rfl) | (rw [tyErr, tyk0 (by omega) (by omega) (by omega)]; rfl))
   ·try simp only [sx] at c3
    refine awp_skip <|
     sReg rfl <|
     rMv rfl <|
     rwp_nil <|
     awp_ret <|
     fin1 (rs_c rfl) ?_
    exact congrArg vI (by first | (exfalso; omega) | (rw [tyErr, tyk1 (by omega), c3]; rfl) | (rw [tyErr, fix_ty (by omega), fxz c5]; rfl) | (rw [tyErr, fix_ty (by omega), fxn c5]; rfl) | (rw [tyErr, tyk0 (by omega) (by omega) (by omega)]; rfl))
  ·try simp only [sx] at c2
   refine sReg rfl <|
    rwp_det rfl rfl (det_eql rfl rfl rfl) <|
    rMv rfl <|
    rwp_nil <|
    awp_cond rfl (fun c4 => ?_) (fun c4 => ?_)
   ·try simp only [sx] at c4
    refine sReg rfl <|
     rwp_det rfl rfl (det_load_agg rfl agg65 rfl (ptr_row 0 rfl) rfl) <|
     rwp_det rfl rfl (det_call rfl ok107 (fixed_ValidateType _) ⟨VLe.refl _, rfl, trivial⟩) <|
     rwp_det rfl rfl (det_eql rfl rfl rfl) <|
     rwp_nil <|
     awp_cond rfl (fun c5 => ?_) (fun c5 => ?_)
    ·try simp only [sx] at c5
     refine sReg rfl <|
      rMv rfl <|
      rwp_nil <|
      awp_ret <|
      fin1 (rs_c rfl) ?_
     exact congrArg vI (by first | (exfalso; omega) | (rw [tyErr, tyk1 (by omega), c3]; rfl) | (rw [tyErr, fix_ty (by omega), fxz c5]; rfl) | (rw [tyErr, fix_ty (by omega), fxn c5]; rfl) | (rw [tyErr, tyk0 (by omega) (by omega) (by omega)]; rfl))
    ·try simp only [sx] at c5
     refine awp_skip <|
      sReg rfl <|
      rMv rfl <|
      rwp_nil <|
      awp_ret <|
      fin1 (rs_c rfl) ?_
     exact congrArg vI (by first | (exfalso; omega) | (rw [tyErr, tyk1 (by omega), c3]; rfl) | (rw [tyErr, fix_ty (by omega), fxz c5]; rfl) | (rw [tyErr, fix_ty (by omega), fxn c5]; rfl) | (rw [tyErr, tyk0 (by omega) (by omega) (by omega)]; rfl))
   ·try simp only [sx] at c4
    refine awp_skip <|
     sReg rfl <|
     rMv rfl <|
     rwp_nil <|
     awp_ret <|
     fin1 (rs_c rfl) ?_
    exact congrArg vI (by first | (exfalso; omega) | (rw [tyErr, tyk1 (by omega), c3]; rfl) | (rw [tyErr, fix_ty (by omega), fxz c5]; rfl) | (rw [tyErr, fix_ty (by omega), fxn c5]; rfl) | (rw [tyErr, tyk0 (by omega) (by omega) (by omega)]; rfl))

theorem base_Type (t : Ty) :
    Pur cfg 63 [vTy t] (vB (tyOk t)) := by
 refine con_intro Tryz.func63 rfl Tryz.ntmps63 Tryz.results63 rfl ?_
 intro z hz
 refine sReg rfl <|
  rwp_op rfl rfl (ope_box rfl rfl) ?_
 rintro _ _ ⟨b1, rfl, rfl⟩
 refine rMv rfl <|
  rwp_nil <|
  awp_seq <|
  sReg rfl <|
  rwp_det rfl rfl (det_field_lit rfl fd65_0 rfl) <|
  rwp_det rfl rfl (det_load_one rfl one3 rfl (ptr_row 0 rfl) rfl) <|
  rwp_det rfl rfl (det_eql rfl rfl rfl) <|
  rMv rfl <|
  rLz [] rfl gv1 trivial (fun g1_3 => det_field_lit rfl fd65_0 rfl) rfl <|
  rLz [(7, _)] rfl gv1 ⟨rfl, rfl, trivial⟩ (fun g1_3 => det_load_one rfl one3 rfl (ptr_row 0 rfl) rfl) rfl <|
  rLz [(8, _)] rfl gv1 ⟨rfl, rfl, trivial⟩ (fun g1_3 => det_eql rfl rfl rfl) rfl <|
  rwp_det rfl rfl (det_or rfl rfl rfl rfl (fun h => (lzf h))) <|
  rwp_nil <|
  awp_cond rfl (fun c1 => ?_) (fun c1 => ?_)
 ·refine sReg rfl <|
   rwp_det rfl rfl (det_field_lit rfl fd65_1 rfl) <|
   rwp_det rfl rfl (det_load_one rfl one3 rfl (ptr_row 0 rfl) rfl) <|
   rwp_det rfl rfl (det_eql rfl rfl rfl) <|
   rMv rfl <|
   rLz [] rfl gv1 trivial (fun g2_3 => det_field_lit rfl fd65_2 rfl) rfl <|
   rLz [(15, _)] rfl gv1 ⟨rfl, rfl, trivial⟩ (fun g2_3 => det_load_one rfl one3 rfl (ptr_row 0 rfl) rfl) rfl <|
   rLz [(16, _)] rfl gv1 ⟨rfl, rfl, trivial⟩ (fun g2_3 => det_eql rfl rfl rfl) rfl <|
   rwp_det rfl rfl (det_and rfl rfl rfl (fun h => h) rfl) <|
   rMv rfl <|
   rLz [] rfl gv1 trivial (fun g2_8 => det_field_lit rfl fd65_3 rfl) rfl <|
   rLz [(20, _)] rfl gv1 ⟨rfl, rfl, trivial⟩ (fun g2_8 => det_load_one rfl one3 rfl (ptr_row 0 rfl) rfl) rfl <|
   rLz [(21, _)] rfl gv1 ⟨rfl, rfl, trivial⟩ (fun g2_8 => det_eql rfl rfl rfl) rfl <|
   rwp_det rfl rfl (det_and rfl rfl rfl (fun h => h) rfl) <|
   rMv rfl <|
   rLz [] rfl gv1 trivial (fun g2_13 => det_field_lit rfl fd65_4 rfl) rfl <|
   rLz [(25, _)] rfl gv1 ⟨rfl, rfl, trivial⟩ (fun g2_13 => det_load_one rfl one3 rfl (ptr_row 0 rfl) rfl) rfl <|
   rLz [(26, _)] rfl gv1 ⟨rfl, rfl, trivial⟩ (fun g2_13 => det_eql rfl rfl rfl) rfl <|
   rwp_det rfl rfl (det_and rfl rfl rfl (fun h => h) rfl) <|
   rMv rfl <|
   rwp_nil <|
   awp_ret <|
   fin1 (rs_c rfl) ?_
  exact congrArg vB (type1 c1)
 ·refine awp_skip <|
   sReg rfl <|
   rwp_det rfl rfl (det_field_lit rfl fd65_0 rfl) <|
   rwp_det rfl rfl (det_load_one rfl one3 rfl (ptr_row 0 rfl) rfl) <|
   rwp_det rfl rfl (det_eql rfl rfl rfl) <|
   rMv rfl <|
   rLz [] rfl gv1 trivial (fun g3_3 => det_field_lit rfl fd65_1 rfl) rfl <|
   rLz [(33, _)] rfl gv1 ⟨rfl, rfl, trivial⟩ (fun g3_3 => det_load_one rfl one3 rfl (ptr_row 0 rfl) rfl) rfl <|
   rLz [(34, _)] rfl gv1 ⟨rfl, rfl, trivial⟩ (fun g3_3 => det_geq rfl rfl rfl) rfl <|
   rwp_det rfl rfl (det_and rfl rfl rfl (fun h => h) rfl) <|
   rMv rfl <|
   rLz [] rfl gv1 trivial (fun g3_8 => det_field_lit rfl fd65_1 rfl) rfl <|
   rLz [(38, _)] rfl gv1 ⟨rfl, rfl, trivial⟩ (fun g3_8 => det_load_one rfl one3 rfl (ptr_row 0 rfl) rfl) rfl <|
   rLz [(39, _)] rfl gv1 ⟨rfl, rfl, trivial⟩ (fun g3_8 => det_leq rfl rfl rfl) rfl <|
   rwp_det rfl rfl (det_and rfl rfl rfl (fun h => h) rfl) <|
   rMv rfl <|
   rLz [] rfl gv1 trivial (fun g3_13 => det_field_lit rfl fd65_2 rfl) rfl <|
   rLz [(43, _)] rfl gv1 ⟨rfl, rfl, trivial⟩ (fun g3_13 => det_load_one rfl one3 rfl (ptr_row 0 rfl) rfl) rfl <|
   rLz [(44, _)] rfl gv1 ⟨rfl, rfl, trivial⟩ (fun g3_13 => det_geq rfl rfl rfl) rfl <|
   rwp_det rfl rfl (det_and rfl rfl rfl (fun h => h) rfl) <|
   rMv rfl <|
   rLz [] rfl gv1 trivial (fun g3_18 => det_field_lit rfl fd65_2 rfl) rfl <|
   rLz [(48, _)] rfl gv1 ⟨rfl, rfl, trivial⟩ (fun g3_18 => det_load_one rfl one3 rfl (ptr_row 0 rfl) rfl) rfl <|
   rLz [(49, _)] rfl gv1 ⟨rfl, rfl, trivial⟩ (fun g3_18 => det_leq rfl rfl rfl) rfl <|
   rwp_det rfl rfl (det_and rfl rfl rfl (fun h => h) rfl) <|
   rMv rfl <|
   rLz [] rfl gv1 trivial (fun g3_23 => det_field_lit rfl fd65_3 rfl) rfl <|
   rLz [(53, _)] rfl gv1 ⟨rfl, rfl, trivial⟩ (fun g3_23 => det_load_one rfl one3 rfl (ptr_row 0 rfl) rfl) rfl <|
   rLz [(54, _)] rfl gv1 ⟨rfl, rfl, trivial⟩ (fun g3_23 => det_geq rfl rfl rfl) rfl <|
   rwp_det rfl rfl (det_and rfl rfl rfl (fun h => h) rfl) <|
   rMv rfl <|
   rLz [] rfl gv1 trivial (fun g3_28 => det_field_lit rfl fd65_3 rfl) rfl <|
   rLz [(58, _)] rfl gv1 ⟨rfl, rfl, trivial⟩ (fun g3_28 => det_load_one rfl one3 rfl (ptr_row 0 rfl) rfl) rfl <|
   rLz [(59, _)] rfl gv1 ⟨rfl, rfl, trivial⟩ (fun g3_28 => det_leq rfl rfl rfl) rfl <|
   rwp_det rfl rfl (det_and rfl rfl rfl (fun h => h) rfl) <|
   rMv rfl <|
   rLz [] rfl gv1 trivial (fun g3_33 => det_field_lit rfl fd65_4 rfl) rfl <|
   rLz [(63, _)] rfl gv1 ⟨rfl, rfl, trivial⟩ (fun g3_33 => det_load_one rfl one3 rfl (ptr_row 0 rfl) rfl) rfl <|
   rLz [(64, _)] rfl gv1 ⟨rfl, rfl, trivial⟩ (fun g3_33 => det_eql rfl rfl rfl) rfl <|
   rLz [(65, _)] rfl gv1 ⟨rfl, rfl, trivial⟩ (fun g3_33 => det_move rfl rfl) rfl <|
   rLz [] rfl gv2 trivial (fun g3_37 => det_field_lit rfl fd65_4 rfl) rfl <|
   rLz [(67, _)] rfl gv2 ⟨rfl, rfl, trivial⟩ (fun g3_37 => det_load_one rfl one3 rfl (ptr_row 0 rfl) rfl) rfl <|
   rLz [(68, _)] rfl gv2 ⟨rfl, rfl, trivial⟩ (fun g3_37 => det_eql rfl rfl rfl) rfl <|
   rLz [(66, _)] rfl gv1 ⟨rfl, rfl, trivial⟩ (fun g3_33 => det_or rfl rfl rfl rfl (fun h => and_mk (by assumption) (lzf h))) rfl <|
   rwp_det rfl rfl (det_and rfl rfl rfl (fun h => h) rfl) <|
   rMv rfl <|
   rwp_nil <|
   awp_ret <|
   fin1 (rs_c rfl) ?_
  exact congrArg vB (type2 c1)

theorem round_valid (b : Int) :
    Pur cfg 296 [vI b] (vB (decide (2 ≤ b) && decide (b ≤ 31))) := by
 refine con_intro Tryz.func296 rfl Tryz.ntmps296 Tryz.results296 rfl ?_
 intro z hz
 refine sReg rfl <|
  rMv rfl <|
  rwp_nil <|
  sReg rfl <|
  rMv rfl <|
  rwp_det rfl rfl (det_geq rfl rfl rfl) <|
  rMv rfl <|
  rLz [] rfl gv1 trivial (fun g1_2 => det_move rfl rfl) rfl <|
  rLz [(6, _)] rfl gv1 ⟨rfl, rfl, trivial⟩ (fun g1_2 => det_leq rfl rfl rfl) rfl <|
  rwp_det rfl rfl (det_and rfl rfl rfl (fun h => h) rfl) <|
  rMv rfl <|
  rwp_nil <|
  awp_ret <|
  fin1 (rs_c rfl) ?_
 exact rfl

theorem round_MinInt (b : Int) (h1 : 2 ≤ b) (h2 : b ≤ 31) :
    Pur cfg 228 [vI b] (vI (-half b)) := by
 refine con_intro Tryz.func228 rfl Tryz.ntmps228 Tryz.results228 rfl ?_
 intro z hz
 refine sReg rfl <|
  rMv rfl <|
  rwp_nil <|
  awp_seq <|
  sReg rfl <|
  rMv rfl <|
  rwp_det rfl rfl (det_call rfl ok296 (round_valid _) ⟨VLe.refl _, rfl, trivial⟩) <|
  rwp_det rfl rfl (det_not rfl rfl) <|
  rwp_nil <|
  awp_cond rfl (fun c1 => ?_) (fun c1 => ?_)
 ·try simp only [sx] at c1
  exact absurd c1 (by omega)
 ·try simp only [sx] at c1
  refine awp_skip <|
   sReg rfl <|
   rMv rfl <|
   rwp_det rfl rfl (det_sub_nw rfl rfl rfl ⟨by omega, by omega⟩) <|
   rwp_det rfl rfl (det_conv rfl us3 ik145 rfl) <|
   rwp_det rfl rfl (det_shl rfl rfl rfl (by rw [wrap_u64 (by omega)]; omega)) <|
   rwp_det rfl rfl (det_neg rfl rfl) <|
   rMv rfl <|
   rwp_nil <|
   awp_ret <|
   fin1 (rs_c rfl) ?_
  exact congrArg vI (min_eq h1 h2)

theorem round_MaxInt (b : Int) (h1 : 2 ≤ b) (h2 : b ≤ 31) :
    Pur cfg 229 [vI b] (vI (half b - 1)) := by
 refine con_intro Tryz.func229 rfl Tryz.ntmps229 Tryz.results229 rfl ?_
 intro z hz
 refine sReg rfl <|
  rMv rfl <|
  rwp_nil <|
  awp_seq <|
  sReg rfl <|
  rMv rfl <|
  rwp_det rfl rfl (det_call rfl ok296 (round_valid _) ⟨VLe.refl _, rfl, trivial⟩) <|
  rwp_det rfl rfl (det_not rfl rfl) <|
  rwp_nil <|
  awp_cond rfl (fun c1 => ?_) (fun c1 => ?_)
 ·try simp only [sx] at c1
  exact absurd c1 (by omega)
 ·try simp only [sx] at c1
  refine awp_skip <|
   sReg rfl <|
   rMv rfl <|
   rwp_det rfl rfl (det_sub_nw rfl rfl rfl ⟨by omega, by omega⟩) <|
   rwp_det rfl rfl (det_conv rfl us3 ik145 rfl) <|
   rwp_det rfl rfl (det_shl rfl rfl rfl (by rw [wrap_u64 (by omega)]; omega)) <|
   rwp_det rfl rfl (det_sub rfl rfl rfl) <|
   rMv rfl <|
   rwp_nil <|
   awp_ret <|
   fin1 (rs_c rfl) ?_
  exact congrArg vI (max_eq h1 h2)

theorem fixed_Valid (t : Ty) (v : Vl) :
    Pur cfg 163 [vTy t, vVal v] (vB (fixOk t && (decide (v.D = 1) && decide (-half t.Bits ≤ v.N) && decide (v.N < half t.Bits)))) := by
 refine con_intro Tryz.func163 rfl Tryz.ntmps163 Tryz.results163 rfl ?_
 intro z hz
 refine sReg rfl <|
  rwp_op rfl rfl (ope_box rfl rfl) ?_
 rintro _ _ ⟨b1, rfl, rfl⟩
 refine rwp_op rfl rfl (ope_box rfl rfl) ?_
 rintro _ _ ⟨b2, rfl, rfl⟩
 refine rMv rfl <|
  rwp_nil <|
  awp_seq <|
  awp_draw 25 mixed (by kernel_rfl) rfl rfl <|
  td_det rfl rfl (det_load_agg rfl agg65 rfl (ptr_row 1 rfl) rfl) <|
  td_det rfl rfl (det_call rfl ok107 (fixed_ValidateType _) ⟨VLe.refl _, rfl, trivial⟩) <|
  td_det rfl rfl (det_eql rfl rfl rfl) <|
  td_det rfl rfl (det_move rfl rfl) <|
  td_lazy [] rfl rfl rfl rfl gv1 trivial (fun g1_3 => det_field_lit rfl fd63_1 rfl) rfl <|
  td_lazy [(9, _)] rfl rfl rfl rfl gv1 ⟨rfl, rfl, trivial⟩ (fun g1_3 => det_load_one rfl one2 rfl (ptr_row 0 rfl) rfl) rfl <|
  td_lazy [(10, _)] rfl rfl rfl rfl gv1 ⟨rfl, rfl, trivial⟩ (fun g1_3 => det_eql rfl rfl rfl) rfl <|
  td_det rfl rfl (det_and rfl rfl rfl (fun h => h) rfl) <|
  td_det rfl rfl (det_move rfl rfl) <|
  td_lazy [] rfl rfl rfl rfl gv1 trivial (fun g1_8 => det_field_lit rfl fd63_0 rfl) rfl <|
  td_lazy [(14, _)] rfl rfl rfl rfl gv1 ⟨rfl, rfl, trivial⟩ (fun g1_8 => det_load_one rfl one2 rfl (ptr_row 0 rfl) rfl) rfl <|
  td_lazy [] rfl rfl rfl rfl gv1 trivial (fun g1_8 => det_field_lit rfl fd65_1 rfl) rfl <|
  td_lazy [(16, _)] rfl rfl rfl rfl gv1 ⟨rfl, rfl, trivial⟩ (fun g1_8 => det_load_one rfl one3 rfl (ptr_row 1 rfl) rfl) rfl <|
  td_lazy [(17, _)] rfl rfl rfl rfl gv1 ⟨rfl, rfl, trivial⟩ (fun g1_8 => det_call rfl ok228 (round_MinInt _ (fixB (fxa g1_8)).1 (fixB (fxa g1_8)).2) ⟨VLe.refl _, rfl, trivial⟩) rfl <|
  td_lazy [(15, _), (18, _)] rfl rfl rfl rfl gv1 ⟨rfl, rfl, rfl, rfl, trivial⟩ (fun g1_8 => det_geq rfl rfl rfl) rfl <|
  td_det rfl rfl (det_and rfl rfl rfl (fun h => h) rfl) <|
  td_det rfl rfl (det_move rfl rfl) <|
  td_lazy [] rfl rfl rfl rfl gv1 trivial (fun g1_16 => det_field_lit rfl fd63_0 rfl) rfl <|
  td_lazy [(22, _)] rfl rfl rfl rfl gv1 ⟨rfl, rfl, trivial⟩ (fun g1_16 => det_load_one rfl one2 rfl (ptr_row 0 rfl) rfl) rfl <|
  td_lazy [] rfl rfl rfl rfl gv1 trivial (fun g1_16 => det_field_lit rfl fd65_1 rfl) rfl <|
  td_lazy [(24, _)] rfl rfl rfl rfl gv1 ⟨rfl, rfl, trivial⟩ (fun g1_16 => det_load_one rfl one3 rfl (ptr_row 1 rfl) rfl) rfl <|
  td_lazy [(25, _)] rfl rfl rfl rfl gv1 ⟨rfl, rfl, trivial⟩ (fun g1_16 => det_call rfl ok229 (round_MaxInt _ (fixB (fxb g1_16)).1 (fixB (fxb g1_16)).2) ⟨VLe.refl _, rfl, trivial⟩) rfl <|
  td_lazy [(23, _), (26, _)] rfl rfl rfl rfl gv1 ⟨rfl, rfl, rfl, rfl, trivial⟩ (fun g1_16 => det_leq rfl rfl rfl) rfl <|
  td_det rfl rfl (det_and rfl rfl rfl (fun h => h) rfl) <|
  td_det rfl rfl (det_assign rfl rfl) <|
  td_nil <|
  rwp_nil <|
  awp_ret <|
  fin1 (rs_c rfl) ?_
 exact congrArg vB (fixV t v)

theorem value_whole (n : Int) :
    Pur cfg 164 [vI n] (vB (num31 n)) := by
 refine con_intro Tryz.func164 rfl Tryz.ntmps164 Tryz.results164 rfl ?_
 intro z hz
 refine sReg rfl <|
  rMv rfl <|
  rwp_nil <|
  sReg rfl <|
  rMv rfl <|
  rwp_det rfl rfl (det_geq rfl rfl rfl) <|
  rMv rfl <|
  rLz [] rfl gv1 trivial (fun g1_2 => det_move rfl rfl) rfl <|
  rLz [(6, _)] rfl gv1 ⟨rfl, rfl, trivial⟩ (fun g1_2 => det_leq rfl rfl rfl) rfl <|
  rwp_det rfl rfl (det_and rfl rfl rfl (fun h => h) rfl) <|
  rMv rfl <|
  rwp_nil <|
  awp_ret <|
  fin1 (rs_c rfl) ?_
 exact rfl

theorem frac_inRange (n : Int) :
    Pur cfg 230 [vI n] (vB (num31 n)) := by
 refine con_intro Tryz.func230 rfl Tryz.ntmps230 Tryz.results230 rfl ?_
 intro z hz
 refine sReg rfl <|
  rMv rfl <|
  rwp_nil <|
  sReg rfl <|
  rMv rfl <|
  rwp_det rfl rfl (det_geq rfl rfl rfl) <|
  rMv rfl <|
  rLz [] rfl gv1 trivial (fun g1_2 => det_move rfl rfl) rfl <|
  rLz [(6, _)] rfl gv1 ⟨rfl, rfl, trivial⟩ (fun g1_2 => det_leq rfl rfl rfl) rfl <|
  rwp_det rfl rfl (det_and rfl rfl rfl (fun h => h) rfl) <|
  rMv rfl <|
  rwp_nil <|
  awp_ret <|
  fin1 (rs_c rfl) ?_
 exact rfl

theorem frac_magnitude (n : Int) (hn : -9223372036854775808 ≤ n) (hm : n ≤ 9223372036854775807) :
    Pur cfg 232 [vI n] (vU64 n.natAbs) := by
 refine con_intro Tryz.func232 rfl Tryz.ntmps232 Tryz.results232 rfl ?_
 intro z hz
 refine sReg rfl <|
  rMv rfl <|
  rwp_nil <|
  awp_seq <|
  sReg rfl <|
  rMv rfl <|
  rwp_det rfl rfl (det_lss rfl rfl rfl) <|
  rwp_nil <|
  awp_cond rfl (fun c1 => ?_) (fun c1 => ?_)
 ·try simp only [sx] at c1
  refine sReg rfl <|
   rMv rfl <|
   rwp_det rfl rfl (det_conv rfl us2 ik188 rfl) <|
   rwp_det rfl rfl (det_neg rfl rfl) <|
   rMv rfl <|
   rwp_nil <|
   awp_ret <|
   fin1 (rs_c rfl) ?_
  exact congrArg vU64 (mag_neg c1 hn)
 ·try simp only [sx] at c1
  refine awp_skip <|
   sReg rfl <|
   rMv rfl <|
   rwp_det rfl rfl (det_conv rfl us2 ik188 rfl) <|
   rMv rfl <|
   rwp_nil <|
   awp_ret <|
   fin1 (rs_c rfl) ?_
  exact congrArg vU64 (mag_pos (by omega) hm)

theorem frac_gcd (a b : Nat) :
    Pur cfg 231 [vU64 a, vU64 b] (vU64 (Nat.gcd a b)) := by
 refine con_intro Tryz.func231 rfl Tryz.ntmps231 Tryz.results231 rfl ?_
 intro z hz
 refine sReg rfl <|
  rMv rfl <|
  rwp_nil <|
  awp_seq <|
  awp_block <|
  awp_weak ⟨[(0, .c _), (1, .c _)], []⟩ (Weak.mk [] ⟨VLe.of_eq rfl, VLe.of_eq rfl, trivial⟩ rfl) <|
  awp_loop_k 2 0 rfl rfl (Nat × Nat) (fun ⟨x, y⟩ => [(0, vU64 x), (1, vU64 y)]) (fun ⟨x, y⟩ => []) (fun ⟨x, y⟩ => Nat.gcd a b = Nat.gcd x y) (fun ⟨x, y⟩ => y) ⟨⟨a, b⟩, rfl, Weak.mk [] ⟨VLe.refl _, VLe.refl _, trivial⟩ rfl⟩ ?_
 rintro ⟨x, y⟩ hg
 refine awp_seq <|
  sReg rfl <|
  rMv rfl <|
  rwp_det rfl rfl (det_neq rfl rfl rfl) <|
  rwp_nil <|
  awp_cond rfl (fun c1 => ?_) (fun c1 => ?_)
 ·try simp only [sx] at c1
  refine awp_skip <|
   awp_block <|
   awp_draw 6 mixed (by kernel_rfl) rfl rfl <|
   td_det rfl rfl (det_move rfl rfl) <|
   td_det rfl rfl (det_move rfl rfl) <|
   td_det rfl rfl (det_move rfl rfl) <|
   td_det rfl rfl (det_rem rfl rfl rfl (by omega)) <|
   td_det rfl rfl (det_assign rfl rfl) <|
   td_det rfl rfl (det_assign rfl rfl) <|
   td_nil <|
   rwp_nil ?_
  refine ⟨⟨y, x % y⟩, (by rw [hg]; exact gcd_step (by omega)), (Nat.mod_lt _ (by omega)), Weak.mk [] ⟨VLe.refl _, VLe.of_eq (congrArg vU64 (Int.ofNat_tmod x y).symm), trivial⟩ rfl⟩
 ·try simp only [sx] at c1
  refine awp_exit <|
   sReg rfl <|
   rMv rfl <|
   rMv rfl <|
   rwp_nil <|
   awp_ret <|
   fin1 (rs_c rfl) ?_
  exact congrArg vU64 (by rw [hg, show y = 0 by omega, Nat.gcd_zero_right])

theorem base_gcd (a b : Nat) :
    Pur cfg 227 [vI a, vI b] (vI (Nat.gcd a b)) := by
 refine con_intro Tryz.func227 rfl Tryz.ntmps227 Tryz.results227 rfl ?_
 intro z hz
 refine sReg rfl <|
  rMv rfl <|
  rwp_nil <|
  awp_seq <|
  awp_block <|
  awp_weak ⟨[(0, .c _), (1, .c _)], []⟩ (Weak.mk [] ⟨VLe.of_eq rfl, VLe.of_eq rfl, trivial⟩ rfl) <|
  awp_loop_k 2 0 rfl rfl (Nat × Nat) (fun ⟨x, y⟩ => [(0, vI x), (1, vI y)]) (fun ⟨x, y⟩ => []) (fun ⟨x, y⟩ => Nat.gcd a b = Nat.gcd x y) (fun ⟨x, y⟩ => y) ⟨⟨a, b⟩, rfl, Weak.mk [] ⟨VLe.refl _, VLe.refl _, trivial⟩ rfl⟩ ?_
 rintro ⟨x, y⟩ hg
 refine awp_seq <|
  sReg rfl <|
  rMv rfl <|
  rwp_det rfl rfl (det_neq rfl rfl rfl) <|
  rwp_nil <|
  awp_cond rfl (fun c1 => ?_) (fun c1 => ?_)
 ·try simp only [sx] at c1
  refine awp_skip <|
   awp_block <|
   awp_draw 6 mixed (by kernel_rfl) rfl rfl <|
   td_det rfl rfl (det_move rfl rfl) <|
   td_det rfl rfl (det_move rfl rfl) <|
   td_det rfl rfl (det_move rfl rfl) <|
   td_det rfl rfl (det_rem rfl rfl rfl (by omega)) <|
   td_det rfl rfl (det_assign rfl rfl) <|
   td_det rfl rfl (det_assign rfl rfl) <|
   td_nil <|
   rwp_nil ?_
  refine ⟨⟨y, x % y⟩, (by rw [hg]; exact gcd_step (by omega)), (Nat.mod_lt _ (by omega)), Weak.mk [] ⟨VLe.refl _, VLe.of_eq (congrArg vI (Int.ofNat_tmod x y).symm), trivial⟩ rfl⟩
 ·try simp only [sx] at c1
  refine awp_exit <|
   sReg rfl <|
   rMv rfl <|
   rMv rfl <|
   rwp_nil <|
   awp_ret <|
   fin1 (rs_c rfl) ?_
  exact congrArg vI (by rw [hg, show y = 0 by omega, Nat.gcd_zero_right])

theorem frac_Valid (v : Vl) :
    Pur cfg 165 [vVal v] (vB (decide (1 ≤ v.D) && decide (v.D ≤ 2147483647) && num31 v.N && decide (Int.gcd v.N v.D = 1))) := by
 refine con_intro Tryz.func165 rfl Tryz.ntmps165 Tryz.results165 rfl ?_
 intro z hz
 refine sReg rfl <|
  rwp_op rfl rfl (ope_box rfl rfl) ?_
 rintro _ _ ⟨b1, rfl, rfl⟩
 refine rMv rfl <|
  rwp_nil <|
  awp_seq <|
  awp_draw 24 mixed (by kernel_rfl) rfl rfl <|
  td_det rfl rfl (det_field_lit rfl fd63_1 rfl) <|
  td_det rfl rfl (det_load_one rfl one2 rfl (ptr_row 0 rfl) rfl) <|
  td_det rfl rfl (det_geq rfl rfl rfl) <|
  td_det rfl rfl (det_move rfl rfl) <|
  td_lazy [] rfl rfl rfl rfl gv1 trivial (fun g1_3 => det_field_lit rfl fd63_1 rfl) rfl <|
  td_lazy [(7, _)] rfl rfl rfl rfl gv1 ⟨rfl, rfl, trivial⟩ (fun g1_3 => det_load_one rfl one2 rfl (ptr_row 0 rfl) rfl) rfl <|
  td_lazy [(8, _)] rfl rfl rfl rfl gv1 ⟨rfl, rfl, trivial⟩ (fun g1_3 => det_leq rfl rfl rfl) rfl <|
  td_det rfl rfl (det_and rfl rfl rfl (fun h => h) rfl) <|
  td_det rfl rfl (det_move rfl rfl) <|
  td_lazy [] rfl rfl rfl rfl gv1 trivial (fun g1_8 => det_field_lit rfl fd63_0 rfl) rfl <|
  td_lazy [(12, _)] rfl rfl rfl rfl gv1 ⟨rfl, rfl, trivial⟩ (fun g1_8 => det_load_one rfl one2 rfl (ptr_row 0 rfl) rfl) rfl <|
  td_lazy [(13, _)] rfl rfl rfl rfl gv1 ⟨rfl, rfl, trivial⟩ (fun g1_8 => det_call rfl ok230 (frac_inRange _) ⟨VLe.refl _, rfl, trivial⟩) rfl <|
  td_det rfl rfl (det_and rfl rfl rfl (fun h => h) rfl) <|
  td_det rfl rfl (det_move rfl rfl) <|
  td_lazy [] rfl rfl rfl rfl gv1 trivial (fun g1_13 => det_field_lit rfl fd63_0 rfl) rfl <|
  td_lazy [(17, _)] rfl rfl rfl rfl gv1 ⟨rfl, rfl, trivial⟩ (fun g1_13 => det_load_one rfl one2 rfl (ptr_row 0 rfl) rfl) rfl <|
  td_lazy [(18, _)] rfl rfl rfl rfl gv1 ⟨rfl, rfl, trivial⟩ (fun g1_13 => det_call rfl ok232 (frac_magnitude v.N (frV g1_13).2.2.1 (frV g1_13).2.2.2) ⟨VLe.refl _, rfl, trivial⟩) rfl <|
  td_lazy [] rfl rfl rfl rfl gv1 trivial (fun g1_13 => det_field_lit rfl fd63_1 rfl) rfl <|
  td_lazy [(20, _)] rfl rfl rfl rfl gv1 ⟨rfl, rfl, trivial⟩ (fun g1_13 => det_load_one rfl one2 rfl (ptr_row 0 rfl) rfl) rfl <|
  td_lazy [(21, _)] rfl rfl rfl rfl gv1 ⟨rfl, rfl, trivial⟩ (fun g1_13 => det_conv rfl us2 ik188 rfl) rfl <|
  td_lazy [(19, _), (22, _)] rfl rfl rfl rfl gv1 ⟨rfl, rfl, rfl, rfl, trivial⟩ (fun g1_13 => det_call rfl ok231 (show Pur cfg 231 [vU64 v.N.natAbs, vU64 (IntKind.u64.wrap v.D)] (vU64 (Nat.gcd v.N.natAbs v.D.natAbs)) from by rw [u64_D (frV g1_13).1 (frV g1_13).2.1]; exact frac_gcd _ _) ⟨VLe.refl _, rfl, VLe.refl _, rfl, trivial⟩) rfl <|
  td_lazy [(23, _)] rfl rfl rfl rfl gv1 ⟨rfl, rfl, trivial⟩ (fun g1_13 => det_eql rfl rfl rfl) rfl <|
  td_det rfl rfl (det_and rfl rfl rfl (fun h => h) rfl) <|
  td_det rfl rfl (det_assign rfl rfl) <|
  td_nil <|
  rwp_nil <|
  awp_ret <|
  fin1 (rs_c rfl) ?_
 exact congrArg vB (by rw [show (decide (((Nat.gcd v.N.natAbs v.D.natAbs : Nat) : Int) = 1)) = decide (Int.gcd v.N v.D = 1) from decide_eq_decide.2 (by unfold Int.gcd; omega)])

theorem value_Valid (t : Ty) (v : Vl) :
    Pur cfg 117 [vTy t, vVal v] (vB (tyOk t && valOk t v)) := by
 refine con_intro Tryz.func117 rfl Tryz.ntmps117 Tryz.results117 rfl ?_
 intro z hz
 refine sReg rfl <|
  rwp_op rfl rfl (ope_box rfl rfl) ?_
 rintro _ _ ⟨b1, rfl, rfl⟩
 refine rwp_op rfl rfl (ope_box rfl rfl) ?_
 rintro _ _ ⟨b2, rfl, rfl⟩
 refine rMv rfl <|
  rwp_nil <|
  awp_seq <|
  sReg rfl <|
  rwp_det rfl rfl (det_load_agg rfl agg65 rfl (ptr_row 1 rfl) rfl) <|
  rwp_det rfl rfl (det_call rfl ok60 (value_ValidateType _) ⟨VLe.refl _, rfl, trivial⟩) <|
  rwp_det rfl rfl (det_neq rfl rfl rfl) <|
  rwp_nil <|
  awp_cond rfl (fun c1 => ?_) (fun c1 => ?_)
 ·try simp only [sx] at c1
  have ht : tyOk t = false := tyErr_ne c1
  refine sReg rfl <|
   rMv rfl <|
   rwp_nil <|
   awp_ret <|
   fin1 (rs_c rfl) ?_
  rw [ht]; rfl
 ·try simp only [sx] at c1
  have ht : tyOk t = true := tyErr_eq c1
  refine awp_skip <|
   awp_seq <|
   sReg rfl <|
   rwp_det rfl rfl (det_field_lit rfl fd65_0 rfl) <|
   rwp_det rfl rfl (det_load_one rfl one3 rfl (ptr_row 1 rfl) rfl) <|
   rwp_nil <|
   awp_block <|
   sReg rfl <|
   rwp_det rfl rfl (det_eql rfl rfl rfl) <|
   rMv rfl <|
   rwp_nil <|
   awp_cond rfl (fun c2 => ?_) (fun c2 => ?_)
  ·try simp only [sx] at c2
   refine sReg rfl <|
    rwp_det rfl rfl (det_load_agg rfl agg65 rfl (ptr_row 1 rfl) rfl) <|
    rwp_det rfl rfl (det_load_agg rfl agg63 rfl (ptr_row 0 rfl) rfl) <|
    rwp_det rfl rfl (det_call rfl ok163 (fixed_Valid _ _) ⟨VLe.refl _, rfl, VLe.refl _, rfl, trivial⟩) <|
    rMv rfl <|
    rwp_nil <|
    awp_ret <|
    fin1 (rs_c rfl) ?_
   exact congrArg vB (by rw [ht, valOk, c2, ← fix_ty c2, ht]; rfl)
  ·try simp only [sx] at c2
   refine sReg rfl <|
    rwp_det rfl rfl (det_eql rfl rfl rfl) <|
    rMv rfl <|
    rwp_nil <|
    awp_cond rfl (fun c3 => ?_) (fun c3 => ?_)
   ·try simp only [sx] at c3
    refine sReg rfl <|
     rwp_det rfl rfl (det_field_lit rfl fd63_1 rfl) <|
     rwp_det rfl rfl (det_load_one rfl one2 rfl (ptr_row 0 rfl) rfl) <|
     rwp_det rfl rfl (det_eql rfl rfl rfl) <|
     rMv rfl <|
     rLz [] rfl gv1 trivial (fun g7_3 => det_field_lit rfl fd63_0 rfl) rfl <|
     rLz [(21, _)] rfl gv1 ⟨rfl, rfl, trivial⟩ (fun g7_3 => det_load_one rfl one2 rfl (ptr_row 0 rfl) rfl) rfl <|
     rLz [(22, _)] rfl gv1 ⟨rfl, rfl, trivial⟩ (fun g7_3 => det_call rfl ok164 (value_whole _) ⟨VLe.refl _, rfl, trivial⟩) rfl <|
     rwp_det rfl rfl (det_and rfl rfl rfl (fun h => h) rfl) <|
     rMv rfl <|
     rwp_nil <|
     awp_ret <|
     fin1 (rs_c rfl) ?_
    exact congrArg vB (by rw [ht, valOk, dec_false c2, c3]; rfl)
   ·try simp only [sx] at c3
    refine awp_skip <|
     sReg rfl <|
     rwp_det rfl rfl (det_load_agg rfl agg63 rfl (ptr_row 0 rfl) rfl) <|
     rwp_det rfl rfl (det_call rfl ok165 (frac_Valid _) ⟨VLe.refl _, rfl, trivial⟩) <|
     rMv rfl <|
     rwp_nil <|
     awp_ret <|
     fin1 (rs_c rfl) ?_
    exact congrArg vB (by rw [ht, valOk, dec_false c2, dec_false c3]; rfl)

theorem base_Val (t : Ty) (v : Vl) (ht : tyOk t = true) :
    Pur cfg 161 [vTy t, vVal v] (vB (valOk t v)) := by
 refine con_intro Tryz.func161 rfl Tryz.ntmps161 Tryz.results161 rfl ?_
 intro z hz
 refine sReg rfl <|
  rwp_op rfl rfl (ope_box rfl rfl) ?_
 rintro _ _ ⟨b1, rfl, rfl⟩
 refine rwp_op rfl rfl (ope_box rfl rfl) ?_
 rintro _ _ ⟨b2, rfl, rfl⟩
 refine rMv rfl <|
  rwp_nil <|
  awp_seq <|
  sReg rfl <|
  rwp_det rfl rfl (det_field_lit rfl fd65_0 rfl) <|
  rwp_det rfl rfl (det_load_one rfl one3 rfl (ptr_row 1 rfl) rfl) <|
  rwp_det rfl rfl (det_eql rfl rfl rfl) <|
  rwp_nil <|
  awp_cond rfl (fun c1 => ?_) (fun c1 => ?_)
 ·try simp only [sx] at c1
  obtain ⟨b1, b2⟩ := fixB (by rw [← fix_ty c1]; exact ht)
  refine sReg rfl <|
   rwp_det rfl rfl (det_field_lit rfl fd65_1 rfl) <|
   rwp_det rfl rfl (det_load_one rfl one3 rfl (ptr_row 1 rfl) rfl) <|
   rwp_det rfl rfl (det_sub_nw rfl rfl rfl ⟨by omega, by omega⟩) <|
   rwp_det rfl rfl (det_shl rfl rfl rfl (by omega)) <|
   rMv rfl <|
   rwp_nil <|
   sReg rfl <|
   rwp_det rfl rfl (det_field_lit rfl fd63_1 rfl) <|
   rwp_det rfl rfl (det_load_one rfl one2 rfl (ptr_row 0 rfl) rfl) <|
   rwp_det rfl rfl (det_eql rfl rfl rfl) <|
   rMv rfl <|
   rLz [] rfl gv1 trivial (fun g3_3 => det_field_lit rfl fd63_0 rfl) rfl <|
   rLz [(17, _)] rfl gv1 ⟨rfl, rfl, trivial⟩ (fun g3_3 => det_load_one rfl one2 rfl (ptr_row 0 rfl) rfl) rfl <|
   rLz [] rfl gv1 trivial (fun g3_3 => det_move rfl rfl) rfl <|
   rLz [(19, _)] rfl gv1 ⟨rfl, rfl, trivial⟩ (fun g3_3 => det_neg rfl rfl) rfl <|
   rLz [(18, _), (20, _)] rfl gv1 ⟨rfl, rfl, rfl, rfl, trivial⟩ (fun g3_3 => det_geq rfl rfl rfl) rfl <|
   rwp_det rfl rfl (det_and rfl rfl rfl (fun h => h) rfl) <|
   rMv rfl <|
   rLz [] rfl gv1 trivial (fun g3_10 => det_field_lit rfl fd63_0 rfl) rfl <|
   rLz [(24, _)] rfl gv1 ⟨rfl, rfl, trivial⟩ (fun g3_10 => det_load_one rfl one2 rfl (ptr_row 0 rfl) rfl) rfl <|
   rLz [] rfl gv1 trivial (fun g3_10 => det_move rfl rfl) rfl <|
   rLz [(25, _), (26, _)] rfl gv1 ⟨rfl, rfl, rfl, rfl, trivial⟩ (fun g3_10 => det_lss rfl rfl rfl) rfl <|
   rwp_det rfl rfl (det_and rfl rfl rfl (fun h => h) rfl) <|
   rMv rfl <|
   rwp_nil <|
   awp_ret <|
   fin1 (rs_c rfl) ?_
  exact congrArg vB (valfix c1 b1 b2)
 ·try simp only [sx] at c1
  refine awp_skip <|
   awp_seq <|
   sReg rfl <|
   rwp_det rfl rfl (det_field_lit rfl fd63_0 rfl) <|
   rwp_det rfl rfl (det_load_one rfl one2 rfl (ptr_row 0 rfl) rfl) <|
   rwp_det rfl rfl (det_gtr rfl rfl rfl) <|
   rMv rfl <|
   rLz [] rfl gv1 trivial (fun g4_3 => det_field_lit rfl fd63_0 rfl) rfl <|
   rLz [(33, _)] rfl gv1 ⟨rfl, rfl, trivial⟩ (fun g4_3 => det_load_one rfl one2 rfl (ptr_row 0 rfl) rfl) rfl <|
   rLz [(34, _)] rfl gv1 ⟨rfl, rfl, trivial⟩ (fun g4_3 => det_lss rfl rfl rfl) rfl <|
   rwp_det rfl rfl (det_or rfl rfl rfl rfl (fun h => (lzf h))) <|
   rMv rfl <|
   rLz [] rfl gv1 trivial (fun g4_8 => det_field_lit rfl fd63_1 rfl) rfl <|
   rLz [(38, _)] rfl gv1 ⟨rfl, rfl, trivial⟩ (fun g4_8 => det_load_one rfl one2 rfl (ptr_row 0 rfl) rfl) rfl <|
   rLz [(39, _)] rfl gv1 ⟨rfl, rfl, trivial⟩ (fun g4_8 => det_lss rfl rfl rfl) rfl <|
   rwp_det rfl rfl (det_or rfl rfl rfl rfl (fun h => (lzf h))) <|
   rMv rfl <|
   rLz [] rfl gv1 trivial (fun g4_13 => det_field_lit rfl fd63_1 rfl) rfl <|
   rLz [(43, _)] rfl gv1 ⟨rfl, rfl, trivial⟩ (fun g4_13 => det_load_one rfl one2 rfl (ptr_row 0 rfl) rfl) rfl <|
   rLz [(44, _)] rfl gv1 ⟨rfl, rfl, trivial⟩ (fun g4_13 => det_gtr rfl rfl rfl) rfl <|
   rwp_det rfl rfl (det_or rfl rfl rfl rfl (fun h => (lzf h))) <|
   rwp_nil <|
   awp_cond rfl (fun c2 => ?_) (fun c2 => ?_)
  ·refine sReg rfl <|
    rMv rfl <|
    rwp_nil <|
    awp_ret <|
    fin1 (rs_c rfl) ?_
   exact congrArg vB (val_out c1 c2).symm
  ·obtain ⟨hN1, hN2, hD1, hD2⟩ := val_in c2
   refine awp_skip <|
    awp_seq <|
    sReg rfl <|
    rwp_det rfl rfl (det_field_lit rfl fd65_0 rfl) <|
    rwp_det rfl rfl (det_load_one rfl one3 rfl (ptr_row 1 rfl) rfl) <|
    rwp_det rfl rfl (det_eql rfl rfl rfl) <|
    rwp_nil <|
    awp_cond rfl (fun c3 => ?_) (fun c3 => ?_)
   ·try simp only [sx] at c3
    refine sReg rfl <|
     rwp_det rfl rfl (det_field_lit rfl fd63_1 rfl) <|
     rwp_det rfl rfl (det_load_one rfl one2 rfl (ptr_row 0 rfl) rfl) <|
     rwp_det rfl rfl (det_eql rfl rfl rfl) <|
     rMv rfl <|
     rwp_nil <|
     awp_ret <|
     fin1 (rs_c rfl) ?_
    exact congrArg vB (by rw [valOk, dec_false c1, c3]; simp [num31, hN1, hN2])
   ·try simp only [sx] at c3
    refine awp_skip <|
     sReg rfl <|
     rwp_det rfl rfl (det_field_lit rfl fd63_0 rfl) <|
     rwp_det rfl rfl (det_load_one rfl one2 rfl (ptr_row 0 rfl) rfl) <|
     rwp_det rfl rfl (det_field_lit rfl fd63_0 rfl) <|
     rwp_det rfl rfl (det_load_one rfl one2 rfl (ptr_row 0 rfl) rfl) <|
     rwp_det rfl rfl (det_neg rfl rfl) <|
     rwp_det rfl rfl (det_max rfl rfl rfl) <|
     rwp_det rfl rfl (det_field_lit rfl fd63_1 rfl) <|
     rwp_det rfl rfl (det_load_one rfl one2 rfl (ptr_row 0 rfl) rfl) <|
     rwp_det rfl rfl (det_call rfl ok227 (show Pur cfg 227 [vI (max v.N (IntKind.i64.wrap (-v.N))), vI v.D] (vI (Int.gcd v.N v.D)) from by rw [max_abs hN1 hN2, show v.D = (v.D.natAbs : Int) by omega]; exact base_gcd _ _) ⟨VLe.refl _, rfl, VLe.refl _, rfl, trivial⟩) <|
     rwp_det rfl rfl (det_eql rfl rfl rfl) <|
     rMv rfl <|
     rwp_nil <|
     awp_ret <|
     fin1 (rs_c rfl) ?_
    exact congrArg vB (by rw [valOk, dec_false c1, dec_false c3]; simp [num31, hN1, hN2, hD1, hD2]; omega)

end Go.W
