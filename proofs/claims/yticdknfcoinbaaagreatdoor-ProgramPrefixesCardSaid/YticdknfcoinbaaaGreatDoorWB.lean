/-
  Walks: what functions of the program compute. Printed by wip/gen/mk2.py.
  Conditions: none.
-/
import Derived.Test.YticdknfcoinbaaaGreatDoorWA
set_option linter.unusedSimpArgs false
set_option linter.unusedVariables false
namespace Go.W
open Go Go.Eng Go.Proofs Go.L41 Go.Br
attribute [local irreducible] AWP RWP TD
theorem agg37 : aggT Tryz.prog 37 = some 2 := by kernel_rfl
theorem agg39 : aggT Tryz.prog 39 = some 5 := by kernel_rfl
theorem fd37_0 : fieldT Tryz.prog 37 0 = some (0, 2) := by kernel_rfl
theorem fd37_1 : fieldT Tryz.prog 37 1 = some (1, 2) := by kernel_rfl
theorem fd39_0 : fieldT Tryz.prog 39 0 = some (0, 3) := by kernel_rfl
theorem fd39_1 : fieldT Tryz.prog 39 1 = some (1, 3) := by kernel_rfl
theorem fd39_2 : fieldT Tryz.prog 39 2 = some (2, 3) := by kernel_rfl
theorem fd39_3 : fieldT Tryz.prog 39 3 = some (3, 3) := by kernel_rfl
theorem fd39_4 : fieldT Tryz.prog 39 4 = some (4, 3) := by kernel_rfl
theorem fl39 : flatK Tryz.prog 39 = some [.int, .int, .int, .int, .int] := by kernel_rfl
theorem ik194 : intT Tryz.prog 194 = some .u64 := by kernel_rfl
theorem ik232 : intT Tryz.prog 232 = some .u64 := by kernel_rfl
theorem ok163 : callOk Tryz.prog 163 = true := by kernel_rfl
theorem ok202 : callOk Tryz.prog 202 = true := by kernel_rfl
theorem ok203 : callOk Tryz.prog 203 = true := by kernel_rfl
theorem ok213 : callOk Tryz.prog 213 = true := by kernel_rfl
theorem ok214 : callOk Tryz.prog 214 = true := by kernel_rfl
theorem ok215 : callOk Tryz.prog 215 = true := by kernel_rfl
theorem ok250 : callOk Tryz.prog 250 = true := by kernel_rfl
theorem ok251 : callOk Tryz.prog 251 = true := by kernel_rfl
theorem ok252 : callOk Tryz.prog 252 = true := by kernel_rfl
theorem ok253 : callOk Tryz.prog 253 = true := by kernel_rfl
theorem ok254 : callOk Tryz.prog 254 = true := by kernel_rfl
theorem ok276 : callOk Tryz.prog 276 = true := by kernel_rfl
theorem one3 : oneT Tryz.prog 3 = true := by kernel_rfl
theorem pl37 : placesT Tryz.prog 37 = some [(0, 1), (1, 1)] := by kernel_rfl
theorem pl39 : placesT Tryz.prog 39 = some [(0, 1), (1, 1), (2, 1), (3, 1), (4, 1)] := by kernel_rfl
theorem us2 : (Tryz.prog.underlying 2).isSome = true := by kernel_rfl
theorem us3 : (Tryz.prog.underlying 3).isSome = true := by kernel_rfl
theorem zr37 : zeroT Tryz.prog 37 = some [(Value.int IntKind.i64 0), (Value.int IntKind.i64 0)] := by kernel_rfl
theorem zr39 : zeroT Tryz.prog 39 = some [(Value.int IntKind.i64 0), (Value.int IntKind.i64 0), (Value.int IntKind.i64 0), (Value.int IntKind.i64 0), (Value.int IntKind.i64 0)] := by kernel_rfl
theorem value_plain (t : Ty) :
    Pur cfg 202 [vTy t] (vB (plainT t)) := by
 refine con_intro Tryz.func202 rfl Tryz.ntmps202 Tryz.results202 rfl ?_
 intro z hz
 refine awp_seq ?_
 refine awp_region rfl ?_
 refine rwp_op rfl rfl (ope_box rfl rfl) ?_
 rintro _ _ ⟨b1, rfl, rfl⟩
 refine rwp_det rfl rfl (det_assign rfl rfl) ?_
 refine rwp_nil ?_
 refine awp_seq ?_
 refine awp_region rfl ?_
 refine rwp_det rfl rfl (det_load_agg rfl agg39 rfl (ptr_row 0 rfl) rfl) ?_
 refine rwp_det rfl rfl (det_field_lit rfl fd39_0 rfl) ?_
 refine rwp_det rfl rfl (det_load_one rfl one3 rfl (ptr_row 0 rfl) rfl) ?_
 refine rwp_det rfl rfl (det_build rfl zr39 pl39 rfl) ?_
 refine rwp_det rfl rfl (det_aeql rfl fl39 rfl rfl rfl) ?_
 refine rwp_det rfl rfl (det_assign rfl rfl) ?_
 refine rwp_nil ?_
 refine awp_ret ?_
 repeat (first | refine thenQ_ret ?_ | refine blockQ_ret ?_)
 refine fin1 (rs_c rfl) ?_
 exact congrArg vB (plainT_eq t)

theorem fixed_ValidateType (t : Ty) :
    Pur cfg 203 [vTy t] (vI (bif fixOk t then 0 else 10)) := by
 refine con_intro Tryz.func203 rfl Tryz.ntmps203 Tryz.results203 rfl ?_
 intro z hz
 refine awp_seq ?_
 refine awp_region rfl ?_
 refine rwp_op rfl rfl (ope_box rfl rfl) ?_
 rintro _ _ ⟨b1, rfl, rfl⟩
 refine rwp_det rfl rfl (det_assign rfl rfl) ?_
 refine rwp_nil ?_
 refine awp_seq ?_
 refine awp_region rfl ?_
 refine rwp_det rfl rfl (det_field_lit rfl fd39_3 rfl) ?_
 refine rwp_det rfl rfl (det_load_one rfl one3 rfl (ptr_row 0 rfl) rfl) ?_
 refine rwp_det rfl rfl (det_geq rfl rfl rfl) ?_
 refine rwp_det rfl rfl (det_move rfl rfl) ?_
 refine rwp_lazy [] rfl rfl rfl rfl gv1 trivial (fun g1_3 => det_field_lit rfl fd39_3 rfl) rfl ?_
 refine rwp_lazy [(8, _)] rfl rfl rfl rfl gv1 ⟨rfl, rfl, trivial⟩ (fun g1_3 => det_load_one rfl one3 rfl (ptr_row 0 rfl) rfl) rfl ?_
 refine rwp_lazy [(9, _)] rfl rfl rfl rfl gv1 ⟨rfl, rfl, trivial⟩ (fun g1_3 => det_leq rfl rfl rfl) rfl ?_
 refine rwp_det rfl rfl (det_and rfl rfl rfl (fun h => h) rfl) ?_
 refine rwp_det rfl rfl (det_move rfl rfl) ?_
 refine rwp_lazy [] rfl rfl rfl rfl gv1 trivial (fun g1_8 => det_field_lit rfl fd39_4 rfl) rfl ?_
 refine rwp_lazy [(13, _)] rfl rfl rfl rfl gv1 ⟨rfl, rfl, trivial⟩ (fun g1_8 => det_load_one rfl one3 rfl (ptr_row 0 rfl) rfl) rfl ?_
 refine rwp_lazy [(14, _)] rfl rfl rfl rfl gv1 ⟨rfl, rfl, trivial⟩ (fun g1_8 => det_eql rfl rfl rfl) rfl ?_
 refine rwp_lazy [(15, _)] rfl rfl rfl rfl gv1 ⟨rfl, rfl, trivial⟩ (fun g1_8 => det_move rfl rfl) rfl ?_
 refine rwp_lazy [] rfl rfl rfl rfl gv2 trivial (fun g1_12 => det_field_lit rfl fd39_4 rfl) rfl ?_
 refine rwp_lazy [(17, _)] rfl rfl rfl rfl gv2 ⟨rfl, rfl, trivial⟩ (fun g1_12 => det_load_one rfl one3 rfl (ptr_row 0 rfl) rfl) rfl ?_
 refine rwp_lazy [(18, _)] rfl rfl rfl rfl gv2 ⟨rfl, rfl, trivial⟩ (fun g1_12 => det_eql rfl rfl rfl) rfl ?_
 refine rwp_lazy [(16, _)] rfl rfl rfl rfl gv1 ⟨rfl, rfl, trivial⟩ (fun g1_8 => det_or rfl rfl rfl rfl (fun h => and_mk (by assumption) (lzf h))) rfl ?_
 refine rwp_det rfl rfl (det_and rfl rfl rfl (fun h => h) rfl) ?_
 refine rwp_det rfl rfl (det_assign rfl rfl) ?_
 refine rwp_nil ?_
 refine awp_seq ?_
 refine awp_seq ?_
 refine awp_region rfl ?_
 refine rwp_det rfl rfl (det_field_lit rfl fd39_0 rfl) ?_
 refine rwp_det rfl rfl (det_load_one rfl one3 rfl (ptr_row 0 rfl) rfl) ?_
 refine rwp_det rfl rfl (det_neq rfl rfl rfl) ?_
 refine rwp_det rfl rfl (det_move rfl rfl) ?_
 refine rwp_lazy [] rfl rfl rfl rfl gv1 trivial (fun g2_3 => det_field_lit rfl fd39_1 rfl) rfl ?_
 refine rwp_lazy [(26, _)] rfl rfl rfl rfl gv1 ⟨rfl, rfl, trivial⟩ (fun g2_3 => det_load_one rfl one3 rfl (ptr_row 0 rfl) rfl) rfl ?_
 refine rwp_lazy [(27, _)] rfl rfl rfl rfl gv1 ⟨rfl, rfl, trivial⟩ (fun g2_3 => det_lss rfl rfl rfl) rfl ?_
 refine rwp_det rfl rfl (det_or rfl rfl rfl rfl (fun h => (lzf h))) ?_
 refine rwp_det rfl rfl (det_move rfl rfl) ?_
 refine rwp_lazy [] rfl rfl rfl rfl gv1 trivial (fun g2_8 => det_field_lit rfl fd39_1 rfl) rfl ?_
 refine rwp_lazy [(31, _)] rfl rfl rfl rfl gv1 ⟨rfl, rfl, trivial⟩ (fun g2_8 => det_load_one rfl one3 rfl (ptr_row 0 rfl) rfl) rfl ?_
 refine rwp_lazy [(32, _)] rfl rfl rfl rfl gv1 ⟨rfl, rfl, trivial⟩ (fun g2_8 => det_gtr rfl rfl rfl) rfl ?_
 refine rwp_det rfl rfl (det_or rfl rfl rfl rfl (fun h => (lzf h))) ?_
 refine rwp_det rfl rfl (det_move rfl rfl) ?_
 refine rwp_lazy [] rfl rfl rfl rfl gv1 trivial (fun g2_13 => det_field_lit rfl fd39_2 rfl) rfl ?_
 refine rwp_lazy [(36, _)] rfl rfl rfl rfl gv1 ⟨rfl, rfl, trivial⟩ (fun g2_13 => det_load_one rfl one3 rfl (ptr_row 0 rfl) rfl) rfl ?_
 refine rwp_lazy [(37, _)] rfl rfl rfl rfl gv1 ⟨rfl, rfl, trivial⟩ (fun g2_13 => det_lss rfl rfl rfl) rfl ?_
 refine rwp_det rfl rfl (det_or rfl rfl rfl rfl (fun h => (lzf h))) ?_
 refine rwp_det rfl rfl (det_move rfl rfl) ?_
 refine rwp_lazy [] rfl rfl rfl rfl gv1 trivial (fun g2_18 => det_field_lit rfl fd39_2 rfl) rfl ?_
 refine rwp_lazy [(41, _)] rfl rfl rfl rfl gv1 ⟨rfl, rfl, trivial⟩ (fun g2_18 => det_load_one rfl one3 rfl (ptr_row 0 rfl) rfl) rfl ?_
 refine rwp_lazy [(42, _)] rfl rfl rfl rfl gv1 ⟨rfl, rfl, trivial⟩ (fun g2_18 => det_gtr rfl rfl rfl) rfl ?_
 refine rwp_det rfl rfl (det_or rfl rfl rfl rfl (fun h => (lzf h))) ?_
 refine rwp_det rfl rfl (det_move rfl rfl) ?_
 refine rwp_lazy [] rfl rfl rfl rfl gv1 trivial (fun g2_23 => det_move rfl rfl) rfl ?_
 refine rwp_lazy [(46, _)] rfl rfl rfl rfl gv1 ⟨rfl, rfl, trivial⟩ (fun g2_23 => det_not rfl rfl) rfl ?_
 refine rwp_det rfl rfl (det_or rfl rfl rfl rfl (fun h => (lzf h))) ?_
 refine rwp_nil ?_
 refine awp_cond rfl (fun c1 => ?_) (fun c1 => ?_)
 ·refine awp_seq ?_
  refine awp_region rfl ?_
  refine rwp_det rfl rfl (det_assign rfl rfl) ?_
  refine rwp_nil ?_
  refine awp_ret ?_
  repeat (first | refine thenQ_ret ?_ | refine blockQ_ret ?_)
  refine fin1 (rs_c rfl) ?_
  rw [show fixOk t = false from fix_no c1]; rfl
 ·refine awp_skip ?_
  refine awp_seq ?_
  refine awp_region rfl ?_
  refine rwp_det rfl rfl (det_assign rfl rfl) ?_
  refine rwp_nil ?_
  refine awp_ret ?_
  repeat (first | refine thenQ_ret ?_ | refine blockQ_ret ?_)
  refine fin1 (rs_c rfl) ?_
  rw [show fixOk t = true from fix_yes c1]; rfl

theorem value_ValidateType (t : Ty) :
    Pur cfg 163 [vTy t] (vI (tyErr t)) := by
 refine con_intro Tryz.func163 rfl Tryz.ntmps163 Tryz.results163 rfl ?_
 intro z hz
 refine awp_seq ?_
 refine awp_region rfl ?_
 refine rwp_op rfl rfl (ope_box rfl rfl) ?_
 rintro _ _ ⟨b1, rfl, rfl⟩
 refine rwp_det rfl rfl (det_assign rfl rfl) ?_
 refine rwp_nil ?_
 refine awp_seq ?_
 refine awp_seq ?_
 refine awp_region rfl ?_
 refine rwp_det rfl rfl (det_field_lit rfl fd39_0 rfl) ?_
 refine rwp_det rfl rfl (det_load_one rfl one3 rfl (ptr_row 0 rfl) rfl) ?_
 refine rwp_nil ?_
 refine awp_block ?_
 refine awp_seq ?_
 refine awp_seq ?_
 refine awp_region rfl ?_
 refine rwp_det rfl rfl (det_eql rfl rfl rfl) ?_
 refine rwp_det rfl rfl (det_assign rfl rfl) ?_
 refine rwp_nil ?_
 refine awp_cond rfl (fun c1 => ?_) (fun c1 => ?_)
 ·try simp only [sx, List.length_map] at c1
  refine awp_skip ?_
  refine awp_cond rfl (fun c2 => ?_) (fun c2 => ?_)
  ·try simp only [sx, List.length_map] at c2
   refine awp_seq ?_
   refine awp_region rfl ?_
   refine rwp_det rfl rfl (det_load_agg rfl agg39 rfl (ptr_row 0 rfl) rfl) ?_
   refine rwp_det rfl rfl (det_call rfl ok202 (value_plain _) ⟨VLe.refl _, rfl, trivial⟩) ?_
   refine rwp_nil ?_
   refine awp_cond rfl (fun c3 => ?_) (fun c3 => ?_)
   ·try simp only [sx, List.length_map] at c3
    refine awp_seq ?_
    refine awp_region rfl ?_
    refine rwp_det rfl rfl (det_assign rfl rfl) ?_
    refine rwp_nil ?_
    refine awp_ret ?_
    repeat (first | refine thenQ_ret ?_ | refine blockQ_ret ?_)
    refine fin1 (rs_c rfl) ?_
    exact congrArg vI (by first | (exfalso; omega) | (rw [tyErr, tyk1 (by omega), c3]; rfl) | (rw [tyErr, fix_ty (by omega), fxz c5]; rfl) | (rw [tyErr, fix_ty (by omega), fxn c5]; rfl) | (rw [tyErr, tyk0 (by omega) (by omega) (by omega)]; rfl))
   ·try simp only [sx, List.length_map] at c3
    refine awp_skip ?_
    refine awp_seq ?_
    refine awp_region rfl ?_
    refine rwp_det rfl rfl (det_assign rfl rfl) ?_
    refine rwp_nil ?_
    refine awp_ret ?_
    repeat (first | refine thenQ_ret ?_ | refine blockQ_ret ?_)
    refine fin1 (rs_c rfl) ?_
    exact congrArg vI (by first | (exfalso; omega) | (rw [tyErr, tyk1 (by omega), c3]; rfl) | (rw [tyErr, fix_ty (by omega), fxz c5]; rfl) | (rw [tyErr, fix_ty (by omega), fxn c5]; rfl) | (rw [tyErr, tyk0 (by omega) (by omega) (by omega)]; rfl))
  ·try simp only [sx, List.length_map] at c2
   refine awp_seq ?_
   refine awp_region rfl ?_
   refine rwp_det rfl rfl (det_eql rfl rfl rfl) ?_
   refine rwp_det rfl rfl (det_assign rfl rfl) ?_
   refine rwp_nil ?_
   refine awp_cond rfl (fun c4 => ?_) (fun c4 => ?_)
   ·try simp only [sx, List.length_map] at c4
    refine awp_seq ?_
    refine awp_region rfl ?_
    refine rwp_det rfl rfl (det_load_agg rfl agg39 rfl (ptr_row 0 rfl) rfl) ?_
    refine rwp_det rfl rfl (det_call rfl ok203 (fixed_ValidateType _) ⟨VLe.refl _, rfl, trivial⟩) ?_
    refine rwp_det rfl rfl (det_eql rfl rfl rfl) ?_
    refine rwp_nil ?_
    refine awp_cond rfl (fun c5 => ?_) (fun c5 => ?_)
    ·try simp only [sx, List.length_map] at c5
     refine awp_seq ?_
     refine awp_region rfl ?_
     refine rwp_det rfl rfl (det_assign rfl rfl) ?_
     refine rwp_nil ?_
     refine awp_ret ?_
     repeat (first | refine thenQ_ret ?_ | refine blockQ_ret ?_)
     refine fin1 (rs_c rfl) ?_
     exact congrArg vI (by first | (exfalso; omega) | (rw [tyErr, tyk1 (by omega), c3]; rfl) | (rw [tyErr, fix_ty (by omega), fxz c5]; rfl) | (rw [tyErr, fix_ty (by omega), fxn c5]; rfl) | (rw [tyErr, tyk0 (by omega) (by omega) (by omega)]; rfl))
    ·try simp only [sx, List.length_map] at c5
     refine awp_skip ?_
     refine awp_seq ?_
     refine awp_region rfl ?_
     refine rwp_det rfl rfl (det_assign rfl rfl) ?_
     refine rwp_nil ?_
     refine awp_ret ?_
     repeat (first | refine thenQ_ret ?_ | refine blockQ_ret ?_)
     refine fin1 (rs_c rfl) ?_
     exact congrArg vI (by first | (exfalso; omega) | (rw [tyErr, tyk1 (by omega), c3]; rfl) | (rw [tyErr, fix_ty (by omega), fxz c5]; rfl) | (rw [tyErr, fix_ty (by omega), fxn c5]; rfl) | (rw [tyErr, tyk0 (by omega) (by omega) (by omega)]; rfl))
   ·try simp only [sx, List.length_map] at c4
    refine awp_skip ?_
    refine awp_seq ?_
    refine awp_region rfl ?_
    refine rwp_det rfl rfl (det_assign rfl rfl) ?_
    refine rwp_nil ?_
    refine awp_ret ?_
    repeat (first | refine thenQ_ret ?_ | refine blockQ_ret ?_)
    refine fin1 (rs_c rfl) ?_
    exact congrArg vI (by first | (exfalso; omega) | (rw [tyErr, tyk1 (by omega), c3]; rfl) | (rw [tyErr, fix_ty (by omega), fxz c5]; rfl) | (rw [tyErr, fix_ty (by omega), fxn c5]; rfl) | (rw [tyErr, tyk0 (by omega) (by omega) (by omega)]; rfl))
 ·try simp only [sx, List.length_map] at c1
  refine awp_region rfl ?_
  refine rwp_det rfl rfl (det_eql rfl rfl rfl) ?_
  refine rwp_det rfl rfl (det_assign rfl rfl) ?_
  refine rwp_nil ?_
  refine awp_cond rfl (fun c2 => ?_) (fun c2 => ?_)
  ·try simp only [sx, List.length_map] at c2
   refine awp_seq ?_
   refine awp_region rfl ?_
   refine rwp_det rfl rfl (det_load_agg rfl agg39 rfl (ptr_row 0 rfl) rfl) ?_
   refine rwp_det rfl rfl (det_call rfl ok202 (value_plain _) ⟨VLe.refl _, rfl, trivial⟩) ?_
   refine rwp_nil ?_
   refine awp_cond rfl (fun c3 => ?_) (fun c3 => ?_)
   ·try simp only [sx, List.length_map] at c3
    refine awp_seq ?_
    refine awp_region rfl ?_
    refine rwp_det rfl rfl (det_assign rfl rfl) ?_
    refine rwp_nil ?_
    refine awp_ret ?_
    repeat (first | refine thenQ_ret ?_ | refine blockQ_ret ?_)
    refine fin1 (rs_c rfl) ?_
    exact congrArg vI (by first | (exfalso; omega) | (rw [tyErr, tyk1 (by omega), c3]; rfl) | (rw [tyErr, fix_ty (by omega), fxz c5]; rfl) | (rw [tyErr, fix_ty (by omega), fxn c5]; rfl) | (rw [tyErr, tyk0 (by omega) (by omega) (by omega)]; rfl))
   ·try simp only [sx, List.length_map] at c3
    refine awp_skip ?_
    refine awp_seq ?_
    refine awp_region rfl ?_
    refine rwp_det rfl rfl (det_assign rfl rfl) ?_
    refine rwp_nil ?_
    refine awp_ret ?_
    repeat (first | refine thenQ_ret ?_ | refine blockQ_ret ?_)
    refine fin1 (rs_c rfl) ?_
    exact congrArg vI (by first | (exfalso; omega) | (rw [tyErr, tyk1 (by omega), c3]; rfl) | (rw [tyErr, fix_ty (by omega), fxz c5]; rfl) | (rw [tyErr, fix_ty (by omega), fxn c5]; rfl) | (rw [tyErr, tyk0 (by omega) (by omega) (by omega)]; rfl))
  ·try simp only [sx, List.length_map] at c2
   refine awp_seq ?_
   refine awp_region rfl ?_
   refine rwp_det rfl rfl (det_eql rfl rfl rfl) ?_
   refine rwp_det rfl rfl (det_assign rfl rfl) ?_
   refine rwp_nil ?_
   refine awp_cond rfl (fun c4 => ?_) (fun c4 => ?_)
   ·try simp only [sx, List.length_map] at c4
    refine awp_seq ?_
    refine awp_region rfl ?_
    refine rwp_det rfl rfl (det_load_agg rfl agg39 rfl (ptr_row 0 rfl) rfl) ?_
    refine rwp_det rfl rfl (det_call rfl ok203 (fixed_ValidateType _) ⟨VLe.refl _, rfl, trivial⟩) ?_
    refine rwp_det rfl rfl (det_eql rfl rfl rfl) ?_
    refine rwp_nil ?_
    refine awp_cond rfl (fun c5 => ?_) (fun c5 => ?_)
    ·try simp only [sx, List.length_map] at c5
     refine awp_seq ?_
     refine awp_region rfl ?_
     refine rwp_det rfl rfl (det_assign rfl rfl) ?_
     refine rwp_nil ?_
     refine awp_ret ?_
     repeat (first | refine thenQ_ret ?_ | refine blockQ_ret ?_)
     refine fin1 (rs_c rfl) ?_
     exact congrArg vI (by first | (exfalso; omega) | (rw [tyErr, tyk1 (by omega), c3]; rfl) | (rw [tyErr, fix_ty (by omega), fxz c5]; rfl) | (rw [tyErr, fix_ty (by omega), fxn c5]; rfl) | (rw [tyErr, tyk0 (by omega) (by omega) (by omega)]; rfl))
    ·try simp only [sx, List.length_map] at c5
     refine awp_skip ?_
     refine awp_seq ?_
     refine awp_region rfl ?_
     refine rwp_det rfl rfl (det_assign rfl rfl) ?_
     refine rwp_nil ?_
     refine awp_ret ?_
     repeat (first | refine thenQ_ret ?_ | refine blockQ_ret ?_)
     refine fin1 (rs_c rfl) ?_
     exact congrArg vI (by first | (exfalso; omega) | (rw [tyErr, tyk1 (by omega), c3]; rfl) | (rw [tyErr, fix_ty (by omega), fxz c5]; rfl) | (rw [tyErr, fix_ty (by omega), fxn c5]; rfl) | (rw [tyErr, tyk0 (by omega) (by omega) (by omega)]; rfl))
   ·try simp only [sx, List.length_map] at c4
    refine awp_skip ?_
    refine awp_seq ?_
    refine awp_region rfl ?_
    refine rwp_det rfl rfl (det_assign rfl rfl) ?_
    refine rwp_nil ?_
    refine awp_ret ?_
    repeat (first | refine thenQ_ret ?_ | refine blockQ_ret ?_)
    refine fin1 (rs_c rfl) ?_
    exact congrArg vI (by first | (exfalso; omega) | (rw [tyErr, tyk1 (by omega), c3]; rfl) | (rw [tyErr, fix_ty (by omega), fxz c5]; rfl) | (rw [tyErr, fix_ty (by omega), fxn c5]; rfl) | (rw [tyErr, tyk0 (by omega) (by omega) (by omega)]; rfl))

theorem round_valid (b : Int) :
    Pur cfg 276 [vI b] (vB (decide (2 ≤ b) && decide (b ≤ 31))) := by
 refine con_intro Tryz.func276 rfl Tryz.ntmps276 Tryz.results276 rfl ?_
 intro z hz
 refine awp_seq ?_
 refine awp_region rfl ?_
 refine rwp_det rfl rfl (det_assign rfl rfl) ?_
 refine rwp_nil ?_
 refine awp_seq ?_
 refine awp_region rfl ?_
 refine rwp_det rfl rfl (det_move rfl rfl) ?_
 refine rwp_det rfl rfl (det_geq rfl rfl rfl) ?_
 refine rwp_det rfl rfl (det_move rfl rfl) ?_
 refine rwp_lazy [] rfl rfl rfl rfl gv1 trivial (fun g1_2 => det_move rfl rfl) rfl ?_
 refine rwp_lazy [(6, _)] rfl rfl rfl rfl gv1 ⟨rfl, rfl, trivial⟩ (fun g1_2 => det_leq rfl rfl rfl) rfl ?_
 refine rwp_det rfl rfl (det_and rfl rfl rfl (fun h => h) rfl) ?_
 refine rwp_det rfl rfl (det_assign rfl rfl) ?_
 refine rwp_nil ?_
 refine awp_ret ?_
 repeat (first | refine thenQ_ret ?_ | refine blockQ_ret ?_)
 refine fin1 (rs_c rfl) ?_
 exact rfl

theorem round_MinInt (b : Int) (h1 : 2 ≤ b) (h2 : b ≤ 31) :
    Pur cfg 250 [vI b] (vI (-half b)) := by
 refine con_intro Tryz.func250 rfl Tryz.ntmps250 Tryz.results250 rfl ?_
 intro z hz
 refine awp_seq ?_
 refine awp_region rfl ?_
 refine rwp_det rfl rfl (det_assign rfl rfl) ?_
 refine rwp_nil ?_
 refine awp_seq ?_
 refine awp_seq ?_
 refine awp_region rfl ?_
 refine rwp_det rfl rfl (det_move rfl rfl) ?_
 refine rwp_det rfl rfl (det_call rfl ok276 (round_valid _) ⟨VLe.refl _, rfl, trivial⟩) ?_
 refine rwp_det rfl rfl (det_not rfl rfl) ?_
 refine rwp_nil ?_
 refine awp_cond rfl (fun c1 => ?_) (fun c1 => ?_)
 ·try simp only [sx, List.length_map] at c1
  exact absurd c1 (by omega)
 ·try simp only [sx, List.length_map] at c1
  refine awp_skip ?_
  refine awp_seq ?_
  refine awp_region rfl ?_
  refine rwp_det rfl rfl (det_move rfl rfl) ?_
  refine rwp_det rfl rfl (det_sub_nw rfl rfl rfl ⟨by omega, by omega⟩) ?_
  refine rwp_det rfl rfl (det_conv rfl us3 ik194 rfl) ?_
  refine rwp_det rfl rfl (det_shl rfl rfl rfl (by rw [wrap_u64 (by omega)]; omega)) ?_
  refine rwp_det rfl rfl (det_neg rfl rfl) ?_
  refine rwp_det rfl rfl (det_assign rfl rfl) ?_
  refine rwp_nil ?_
  refine awp_ret ?_
  repeat (first | refine thenQ_ret ?_ | refine blockQ_ret ?_)
  refine fin1 (rs_c rfl) ?_
  exact congrArg vI (min_eq h1 h2)

theorem round_MaxInt (b : Int) (h1 : 2 ≤ b) (h2 : b ≤ 31) :
    Pur cfg 251 [vI b] (vI (half b - 1)) := by
 refine con_intro Tryz.func251 rfl Tryz.ntmps251 Tryz.results251 rfl ?_
 intro z hz
 refine awp_seq ?_
 refine awp_region rfl ?_
 refine rwp_det rfl rfl (det_assign rfl rfl) ?_
 refine rwp_nil ?_
 refine awp_seq ?_
 refine awp_seq ?_
 refine awp_region rfl ?_
 refine rwp_det rfl rfl (det_move rfl rfl) ?_
 refine rwp_det rfl rfl (det_call rfl ok276 (round_valid _) ⟨VLe.refl _, rfl, trivial⟩) ?_
 refine rwp_det rfl rfl (det_not rfl rfl) ?_
 refine rwp_nil ?_
 refine awp_cond rfl (fun c1 => ?_) (fun c1 => ?_)
 ·try simp only [sx, List.length_map] at c1
  exact absurd c1 (by omega)
 ·try simp only [sx, List.length_map] at c1
  refine awp_skip ?_
  refine awp_seq ?_
  refine awp_region rfl ?_
  refine rwp_det rfl rfl (det_move rfl rfl) ?_
  refine rwp_det rfl rfl (det_sub_nw rfl rfl rfl ⟨by omega, by omega⟩) ?_
  refine rwp_det rfl rfl (det_conv rfl us3 ik194 rfl) ?_
  refine rwp_det rfl rfl (det_shl rfl rfl rfl (by rw [wrap_u64 (by omega)]; omega)) ?_
  refine rwp_det rfl rfl (det_sub rfl rfl rfl) ?_
  refine rwp_det rfl rfl (det_assign rfl rfl) ?_
  refine rwp_nil ?_
  refine awp_ret ?_
  repeat (first | refine thenQ_ret ?_ | refine blockQ_ret ?_)
  refine fin1 (rs_c rfl) ?_
  exact congrArg vI (max_eq h1 h2)

theorem fixed_Valid (t : Ty) (v : Vl) :
    Pur cfg 213 [vTy t, vVal v] (vB (fixOk t && (decide (v.D = 1) && decide (-half t.Bits ≤ v.N) && decide (v.N < half t.Bits)))) := by
 refine con_intro Tryz.func213 rfl Tryz.ntmps213 Tryz.results213 rfl ?_
 intro z hz
 refine awp_seq ?_
 refine awp_region rfl ?_
 refine rwp_op rfl rfl (ope_box rfl rfl) ?_
 rintro _ _ ⟨b1, rfl, rfl⟩
 refine rwp_op rfl rfl (ope_box rfl rfl) ?_
 rintro _ _ ⟨b2, rfl, rfl⟩
 refine rwp_det rfl rfl (det_assign rfl rfl) ?_
 refine rwp_nil ?_
 refine awp_seq ?_
 refine awp_draw 25 mixed (by kernel_rfl) rfl rfl ?_
 refine td_det rfl rfl (det_load_agg rfl agg39 rfl (ptr_row 1 rfl) rfl) ?_
 refine td_det rfl rfl (det_call rfl ok203 (fixed_ValidateType _) ⟨VLe.refl _, rfl, trivial⟩) ?_
 refine td_det rfl rfl (det_eql rfl rfl rfl) ?_
 refine td_det rfl rfl (det_move rfl rfl) ?_
 refine td_lazy [] rfl rfl rfl rfl gv1 trivial (fun g1_3 => det_field_lit rfl fd37_1 rfl) rfl ?_
 refine td_lazy [(9, _)] rfl rfl rfl rfl gv1 ⟨rfl, rfl, trivial⟩ (fun g1_3 => det_load_one rfl one2 rfl (ptr_row 0 rfl) rfl) rfl ?_
 refine td_lazy [(10, _)] rfl rfl rfl rfl gv1 ⟨rfl, rfl, trivial⟩ (fun g1_3 => det_eql rfl rfl rfl) rfl ?_
 refine td_det rfl rfl (det_and rfl rfl rfl (fun h => h) rfl) ?_
 refine td_det rfl rfl (det_move rfl rfl) ?_
 refine td_lazy [] rfl rfl rfl rfl gv1 trivial (fun g1_8 => det_field_lit rfl fd37_0 rfl) rfl ?_
 refine td_lazy [(14, _)] rfl rfl rfl rfl gv1 ⟨rfl, rfl, trivial⟩ (fun g1_8 => det_load_one rfl one2 rfl (ptr_row 0 rfl) rfl) rfl ?_
 refine td_lazy [] rfl rfl rfl rfl gv1 trivial (fun g1_8 => det_field_lit rfl fd39_1 rfl) rfl ?_
 refine td_lazy [(16, _)] rfl rfl rfl rfl gv1 ⟨rfl, rfl, trivial⟩ (fun g1_8 => det_load_one rfl one3 rfl (ptr_row 1 rfl) rfl) rfl ?_
 refine td_lazy [(17, _)] rfl rfl rfl rfl gv1 ⟨rfl, rfl, trivial⟩ (fun g1_8 => det_call rfl ok250 (round_MinInt _ (fixB (fxa g1_8)).1 (fixB (fxa g1_8)).2) ⟨VLe.refl _, rfl, trivial⟩) rfl ?_
 refine td_lazy [(15, _), (18, _)] rfl rfl rfl rfl gv1 ⟨rfl, rfl, rfl, rfl, trivial⟩ (fun g1_8 => det_geq rfl rfl rfl) rfl ?_
 refine td_det rfl rfl (det_and rfl rfl rfl (fun h => h) rfl) ?_
 refine td_det rfl rfl (det_move rfl rfl) ?_
 refine td_lazy [] rfl rfl rfl rfl gv1 trivial (fun g1_16 => det_field_lit rfl fd37_0 rfl) rfl ?_
 refine td_lazy [(22, _)] rfl rfl rfl rfl gv1 ⟨rfl, rfl, trivial⟩ (fun g1_16 => det_load_one rfl one2 rfl (ptr_row 0 rfl) rfl) rfl ?_
 refine td_lazy [] rfl rfl rfl rfl gv1 trivial (fun g1_16 => det_field_lit rfl fd39_1 rfl) rfl ?_
 refine td_lazy [(24, _)] rfl rfl rfl rfl gv1 ⟨rfl, rfl, trivial⟩ (fun g1_16 => det_load_one rfl one3 rfl (ptr_row 1 rfl) rfl) rfl ?_
 refine td_lazy [(25, _)] rfl rfl rfl rfl gv1 ⟨rfl, rfl, trivial⟩ (fun g1_16 => det_call rfl ok251 (round_MaxInt _ (fixB (fxb g1_16)).1 (fixB (fxb g1_16)).2) ⟨VLe.refl _, rfl, trivial⟩) rfl ?_
 refine td_lazy [(23, _), (26, _)] rfl rfl rfl rfl gv1 ⟨rfl, rfl, rfl, rfl, trivial⟩ (fun g1_16 => det_leq rfl rfl rfl) rfl ?_
 refine td_det rfl rfl (det_and rfl rfl rfl (fun h => h) rfl) ?_
 refine td_det rfl rfl (det_assign rfl rfl) ?_
 refine td_nil ?_
 refine rwp_nil ?_
 refine awp_ret ?_
 repeat (first | refine thenQ_ret ?_ | refine blockQ_ret ?_)
 refine fin1 (rs_c rfl) ?_
 exact congrArg vB (fixV t v)

theorem value_whole (n : Int) :
    Pur cfg 214 [vI n] (vB (num31 n)) := by
 refine con_intro Tryz.func214 rfl Tryz.ntmps214 Tryz.results214 rfl ?_
 intro z hz
 refine awp_seq ?_
 refine awp_region rfl ?_
 refine rwp_det rfl rfl (det_assign rfl rfl) ?_
 refine rwp_nil ?_
 refine awp_seq ?_
 refine awp_region rfl ?_
 refine rwp_det rfl rfl (det_move rfl rfl) ?_
 refine rwp_det rfl rfl (det_geq rfl rfl rfl) ?_
 refine rwp_det rfl rfl (det_move rfl rfl) ?_
 refine rwp_lazy [] rfl rfl rfl rfl gv1 trivial (fun g1_2 => det_move rfl rfl) rfl ?_
 refine rwp_lazy [(6, _)] rfl rfl rfl rfl gv1 ⟨rfl, rfl, trivial⟩ (fun g1_2 => det_leq rfl rfl rfl) rfl ?_
 refine rwp_det rfl rfl (det_and rfl rfl rfl (fun h => h) rfl) ?_
 refine rwp_det rfl rfl (det_assign rfl rfl) ?_
 refine rwp_nil ?_
 refine awp_ret ?_
 repeat (first | refine thenQ_ret ?_ | refine blockQ_ret ?_)
 refine fin1 (rs_c rfl) ?_
 exact rfl

theorem frac_inRange (n : Int) :
    Pur cfg 252 [vI n] (vB (num31 n)) := by
 refine con_intro Tryz.func252 rfl Tryz.ntmps252 Tryz.results252 rfl ?_
 intro z hz
 refine awp_seq ?_
 refine awp_region rfl ?_
 refine rwp_det rfl rfl (det_assign rfl rfl) ?_
 refine rwp_nil ?_
 refine awp_seq ?_
 refine awp_region rfl ?_
 refine rwp_det rfl rfl (det_move rfl rfl) ?_
 refine rwp_det rfl rfl (det_geq rfl rfl rfl) ?_
 refine rwp_det rfl rfl (det_move rfl rfl) ?_
 refine rwp_lazy [] rfl rfl rfl rfl gv1 trivial (fun g1_2 => det_move rfl rfl) rfl ?_
 refine rwp_lazy [(6, _)] rfl rfl rfl rfl gv1 ⟨rfl, rfl, trivial⟩ (fun g1_2 => det_leq rfl rfl rfl) rfl ?_
 refine rwp_det rfl rfl (det_and rfl rfl rfl (fun h => h) rfl) ?_
 refine rwp_det rfl rfl (det_assign rfl rfl) ?_
 refine rwp_nil ?_
 refine awp_ret ?_
 repeat (first | refine thenQ_ret ?_ | refine blockQ_ret ?_)
 refine fin1 (rs_c rfl) ?_
 exact rfl

theorem frac_magnitude (n : Int) (hn : -9223372036854775808 ≤ n) (hm : n ≤ 9223372036854775807) :
    Pur cfg 254 [vI n] (vU64 n.natAbs) := by
 refine con_intro Tryz.func254 rfl Tryz.ntmps254 Tryz.results254 rfl ?_
 intro z hz
 refine awp_seq ?_
 refine awp_region rfl ?_
 refine rwp_det rfl rfl (det_assign rfl rfl) ?_
 refine rwp_nil ?_
 refine awp_seq ?_
 refine awp_seq ?_
 refine awp_region rfl ?_
 refine rwp_det rfl rfl (det_move rfl rfl) ?_
 refine rwp_det rfl rfl (det_lss rfl rfl rfl) ?_
 refine rwp_nil ?_
 refine awp_cond rfl (fun c1 => ?_) (fun c1 => ?_)
 ·try simp only [sx, List.length_map] at c1
  refine awp_seq ?_
  refine awp_region rfl ?_
  refine rwp_det rfl rfl (det_move rfl rfl) ?_
  refine rwp_det rfl rfl (det_conv rfl us2 ik232 rfl) ?_
  refine rwp_det rfl rfl (det_neg rfl rfl) ?_
  refine rwp_det rfl rfl (det_assign rfl rfl) ?_
  refine rwp_nil ?_
  refine awp_ret ?_
  repeat (first | refine thenQ_ret ?_ | refine blockQ_ret ?_)
  refine fin1 (rs_c rfl) ?_
  exact congrArg vU64 (mag_neg c1 hn)
 ·try simp only [sx, List.length_map] at c1
  refine awp_skip ?_
  refine awp_seq ?_
  refine awp_region rfl ?_
  refine rwp_det rfl rfl (det_move rfl rfl) ?_
  refine rwp_det rfl rfl (det_conv rfl us2 ik232 rfl) ?_
  refine rwp_det rfl rfl (det_assign rfl rfl) ?_
  refine rwp_nil ?_
  refine awp_ret ?_
  repeat (first | refine thenQ_ret ?_ | refine blockQ_ret ?_)
  refine fin1 (rs_c rfl) ?_
  exact congrArg vU64 (mag_pos (by omega) hm)

theorem frac_gcd (a b : Nat) :
    Pur cfg 253 [vU64 a, vU64 b] (vU64 (Nat.gcd a b)) := by
 refine con_intro Tryz.func253 rfl Tryz.ntmps253 Tryz.results253 rfl ?_
 intro z hz
 refine awp_seq ?_
 refine awp_region rfl ?_
 refine rwp_det rfl rfl (det_assign rfl rfl) ?_
 refine rwp_nil ?_
 refine awp_seq ?_
 refine awp_block ?_
 refine awp_weak ⟨[(0, .c _), (1, .c _)], []⟩ (Weak.mk [] ⟨VLe.of_eq rfl, VLe.of_eq rfl, trivial⟩ rfl) ?_
 refine awp_loop_k 2 0 rfl rfl (Nat × Nat) (fun ⟨x, y⟩ => [(0, vU64 x), (1, vU64 y)]) (fun ⟨x, y⟩ => []) (fun ⟨x, y⟩ => Nat.gcd a b = Nat.gcd x y) (fun ⟨x, y⟩ => y) ⟨⟨a, b⟩, rfl, Weak.mk [] ⟨VLe.refl _, VLe.refl _, trivial⟩ rfl⟩ ?_
 rintro ⟨x, y⟩ hg
 refine awp_seq ?_
 refine awp_seq ?_
 refine awp_region rfl ?_
 refine rwp_det rfl rfl (det_move rfl rfl) ?_
 refine rwp_det rfl rfl (det_neq rfl rfl rfl) ?_
 refine rwp_nil ?_
 refine awp_cond rfl (fun c1 => ?_) (fun c1 => ?_)
 ·try simp only [sx, List.length_map] at c1
  refine awp_skip ?_
  refine awp_block ?_
  refine awp_draw 6 mixed (by kernel_rfl) rfl rfl ?_
  refine td_det rfl rfl (det_move rfl rfl) ?_
  refine td_det rfl rfl (det_move rfl rfl) ?_
  refine td_det rfl rfl (det_move rfl rfl) ?_
  refine td_det rfl rfl (det_rem rfl rfl rfl (by omega)) ?_
  refine td_det rfl rfl (det_assign rfl rfl) ?_
  refine td_det rfl rfl (det_assign rfl rfl) ?_
  refine td_nil ?_
  refine rwp_nil ?_
  refine ⟨⟨y, x % y⟩, (by rw [hg]; exact gcd_step (by omega)), (Nat.mod_lt _ (by omega)), Weak.mk [] ⟨VLe.refl _, VLe.of_eq (congrArg vU64 (Int.ofNat_tmod x y).symm), trivial⟩ rfl⟩
 ·try simp only [sx, List.length_map] at c1
  refine awp_exit ?_
  refine awp_seq ?_
  refine awp_region rfl ?_
  refine rwp_det rfl rfl (det_move rfl rfl) ?_
  refine rwp_det rfl rfl (det_assign rfl rfl) ?_
  refine rwp_nil ?_
  refine awp_ret ?_
  repeat (first | refine thenQ_ret ?_ | refine blockQ_ret ?_)
  refine fin1 (rs_c rfl) ?_
  exact congrArg vU64 (by rw [hg, show y = 0 by omega, Nat.gcd_zero_right])

theorem frac_Valid (v : Vl) :
    Pur cfg 215 [vVal v] (vB (decide (1 ≤ v.D) && decide (v.D ≤ 2147483647) && num31 v.N && decide (Int.gcd v.N v.D = 1))) := by
 refine con_intro Tryz.func215 rfl Tryz.ntmps215 Tryz.results215 rfl ?_
 intro z hz
 refine awp_seq ?_
 refine awp_region rfl ?_
 refine rwp_op rfl rfl (ope_box rfl rfl) ?_
 rintro _ _ ⟨b1, rfl, rfl⟩
 refine rwp_det rfl rfl (det_assign rfl rfl) ?_
 refine rwp_nil ?_
 refine awp_seq ?_
 refine awp_draw 24 mixed (by kernel_rfl) rfl rfl ?_
 refine td_det rfl rfl (det_field_lit rfl fd37_1 rfl) ?_
 refine td_det rfl rfl (det_load_one rfl one2 rfl (ptr_row 0 rfl) rfl) ?_
 refine td_det rfl rfl (det_geq rfl rfl rfl) ?_
 refine td_det rfl rfl (det_move rfl rfl) ?_
 refine td_lazy [] rfl rfl rfl rfl gv1 trivial (fun g1_3 => det_field_lit rfl fd37_1 rfl) rfl ?_
 refine td_lazy [(7, _)] rfl rfl rfl rfl gv1 ⟨rfl, rfl, trivial⟩ (fun g1_3 => det_load_one rfl one2 rfl (ptr_row 0 rfl) rfl) rfl ?_
 refine td_lazy [(8, _)] rfl rfl rfl rfl gv1 ⟨rfl, rfl, trivial⟩ (fun g1_3 => det_leq rfl rfl rfl) rfl ?_
 refine td_det rfl rfl (det_and rfl rfl rfl (fun h => h) rfl) ?_
 refine td_det rfl rfl (det_move rfl rfl) ?_
 refine td_lazy [] rfl rfl rfl rfl gv1 trivial (fun g1_8 => det_field_lit rfl fd37_0 rfl) rfl ?_
 refine td_lazy [(12, _)] rfl rfl rfl rfl gv1 ⟨rfl, rfl, trivial⟩ (fun g1_8 => det_load_one rfl one2 rfl (ptr_row 0 rfl) rfl) rfl ?_
 refine td_lazy [(13, _)] rfl rfl rfl rfl gv1 ⟨rfl, rfl, trivial⟩ (fun g1_8 => det_call rfl ok252 (frac_inRange _) ⟨VLe.refl _, rfl, trivial⟩) rfl ?_
 refine td_det rfl rfl (det_and rfl rfl rfl (fun h => h) rfl) ?_
 refine td_det rfl rfl (det_move rfl rfl) ?_
 refine td_lazy [] rfl rfl rfl rfl gv1 trivial (fun g1_13 => det_field_lit rfl fd37_0 rfl) rfl ?_
 refine td_lazy [(17, _)] rfl rfl rfl rfl gv1 ⟨rfl, rfl, trivial⟩ (fun g1_13 => det_load_one rfl one2 rfl (ptr_row 0 rfl) rfl) rfl ?_
 refine td_lazy [(18, _)] rfl rfl rfl rfl gv1 ⟨rfl, rfl, trivial⟩ (fun g1_13 => det_call rfl ok254 (frac_magnitude v.N (frV g1_13).2.2.1 (frV g1_13).2.2.2) ⟨VLe.refl _, rfl, trivial⟩) rfl ?_
 refine td_lazy [] rfl rfl rfl rfl gv1 trivial (fun g1_13 => det_field_lit rfl fd37_1 rfl) rfl ?_
 refine td_lazy [(20, _)] rfl rfl rfl rfl gv1 ⟨rfl, rfl, trivial⟩ (fun g1_13 => det_load_one rfl one2 rfl (ptr_row 0 rfl) rfl) rfl ?_
 refine td_lazy [(21, _)] rfl rfl rfl rfl gv1 ⟨rfl, rfl, trivial⟩ (fun g1_13 => det_conv rfl us2 ik232 rfl) rfl ?_
 refine td_lazy [(19, _), (22, _)] rfl rfl rfl rfl gv1 ⟨rfl, rfl, rfl, rfl, trivial⟩ (fun g1_13 => det_call rfl ok253 (show Pur cfg 253 [vU64 v.N.natAbs, vU64 (IntKind.u64.wrap v.D)] (vU64 (Nat.gcd v.N.natAbs v.D.natAbs)) from by rw [u64_D (frV g1_13).1 (frV g1_13).2.1]; exact frac_gcd _ _) ⟨VLe.refl _, rfl, VLe.refl _, rfl, trivial⟩) rfl ?_
 refine td_lazy [(23, _)] rfl rfl rfl rfl gv1 ⟨rfl, rfl, trivial⟩ (fun g1_13 => det_eql rfl rfl rfl) rfl ?_
 refine td_det rfl rfl (det_and rfl rfl rfl (fun h => h) rfl) ?_
 refine td_det rfl rfl (det_assign rfl rfl) ?_
 refine td_nil ?_
 refine rwp_nil ?_
 refine awp_ret ?_
 repeat (first | refine thenQ_ret ?_ | refine blockQ_ret ?_)
 refine fin1 (rs_c rfl) ?_
 exact congrArg vB (by rw [show (decide (((Nat.gcd v.N.natAbs v.D.natAbs : Nat) : Int) = 1)) = decide (Int.gcd v.N v.D = 1) from decide_eq_decide.2 (by unfold Int.gcd; omega)])

theorem value_Valid (t : Ty) (v : Vl) :
    Pur cfg 171 [vTy t, vVal v] (vB (tyOk t && valOk t v)) := by
 refine con_intro Tryz.func171 rfl Tryz.ntmps171 Tryz.results171 rfl ?_
 intro z hz
 refine awp_seq ?_
 refine awp_region rfl ?_
 refine rwp_op rfl rfl (ope_box rfl rfl) ?_
 rintro _ _ ⟨b1, rfl, rfl⟩
 refine rwp_op rfl rfl (ope_box rfl rfl) ?_
 rintro _ _ ⟨b2, rfl, rfl⟩
 refine rwp_det rfl rfl (det_assign rfl rfl) ?_
 refine rwp_nil ?_
 refine awp_seq ?_
 refine awp_seq ?_
 refine awp_region rfl ?_
 refine rwp_det rfl rfl (det_load_agg rfl agg39 rfl (ptr_row 1 rfl) rfl) ?_
 refine rwp_det rfl rfl (det_call rfl ok163 (value_ValidateType _) ⟨VLe.refl _, rfl, trivial⟩) ?_
 refine rwp_det rfl rfl (det_neq rfl rfl rfl) ?_
 refine rwp_nil ?_
 refine awp_cond rfl (fun c1 => ?_) (fun c1 => ?_)
 ·try simp only [sx, List.length_map] at c1
  have ht : tyOk t = false := tyErr_ne c1
  refine awp_seq ?_
  refine awp_region rfl ?_
  refine rwp_det rfl rfl (det_assign rfl rfl) ?_
  refine rwp_nil ?_
  refine awp_ret ?_
  repeat (first | refine thenQ_ret ?_ | refine blockQ_ret ?_)
  refine fin1 (rs_c rfl) ?_
  rw [ht]; rfl
 ·try simp only [sx, List.length_map] at c1
  have ht : tyOk t = true := tyErr_eq c1
  refine awp_skip ?_
  refine awp_seq ?_
  refine awp_seq ?_
  refine awp_region rfl ?_
  refine rwp_det rfl rfl (det_field_lit rfl fd39_0 rfl) ?_
  refine rwp_det rfl rfl (det_load_one rfl one3 rfl (ptr_row 1 rfl) rfl) ?_
  refine rwp_nil ?_
  refine awp_block ?_
  refine awp_seq ?_
  refine awp_region rfl ?_
  refine rwp_det rfl rfl (det_eql rfl rfl rfl) ?_
  refine rwp_det rfl rfl (det_assign rfl rfl) ?_
  refine rwp_nil ?_
  refine awp_cond rfl (fun c2 => ?_) (fun c2 => ?_)
  ·try simp only [sx, List.length_map] at c2
   refine awp_seq ?_
   refine awp_region rfl ?_
   refine rwp_det rfl rfl (det_load_agg rfl agg39 rfl (ptr_row 1 rfl) rfl) ?_
   refine rwp_det rfl rfl (det_load_agg rfl agg37 rfl (ptr_row 0 rfl) rfl) ?_
   refine rwp_det rfl rfl (det_call rfl ok213 (fixed_Valid _ _) ⟨VLe.refl _, rfl, VLe.refl _, rfl, trivial⟩) ?_
   refine rwp_det rfl rfl (det_assign rfl rfl) ?_
   refine rwp_nil ?_
   refine awp_ret ?_
   repeat (first | refine thenQ_ret ?_ | refine blockQ_ret ?_)
   refine fin1 (rs_c rfl) ?_
   exact congrArg vB (by rw [ht, valOk, c2, ← fix_ty c2, ht]; rfl)
  ·try simp only [sx, List.length_map] at c2
   refine awp_seq ?_
   refine awp_region rfl ?_
   refine rwp_det rfl rfl (det_eql rfl rfl rfl) ?_
   refine rwp_det rfl rfl (det_assign rfl rfl) ?_
   refine rwp_nil ?_
   refine awp_cond rfl (fun c3 => ?_) (fun c3 => ?_)
   ·try simp only [sx, List.length_map] at c3
    refine awp_seq ?_
    refine awp_region rfl ?_
    refine rwp_det rfl rfl (det_field_lit rfl fd37_1 rfl) ?_
    refine rwp_det rfl rfl (det_load_one rfl one2 rfl (ptr_row 0 rfl) rfl) ?_
    refine rwp_det rfl rfl (det_eql rfl rfl rfl) ?_
    refine rwp_det rfl rfl (det_move rfl rfl) ?_
    refine rwp_lazy [] rfl rfl rfl rfl gv1 trivial (fun g7_3 => det_field_lit rfl fd37_0 rfl) rfl ?_
    refine rwp_lazy [(21, _)] rfl rfl rfl rfl gv1 ⟨rfl, rfl, trivial⟩ (fun g7_3 => det_load_one rfl one2 rfl (ptr_row 0 rfl) rfl) rfl ?_
    refine rwp_lazy [(22, _)] rfl rfl rfl rfl gv1 ⟨rfl, rfl, trivial⟩ (fun g7_3 => det_call rfl ok214 (value_whole _) ⟨VLe.refl _, rfl, trivial⟩) rfl ?_
    refine rwp_det rfl rfl (det_and rfl rfl rfl (fun h => h) rfl) ?_
    refine rwp_det rfl rfl (det_assign rfl rfl) ?_
    refine rwp_nil ?_
    refine awp_ret ?_
    repeat (first | refine thenQ_ret ?_ | refine blockQ_ret ?_)
    refine fin1 (rs_c rfl) ?_
    exact congrArg vB (by rw [ht, valOk, dec_false c2, c3]; rfl)
   ·try simp only [sx, List.length_map] at c3
    refine awp_skip ?_
    refine awp_seq ?_
    refine awp_region rfl ?_
    refine rwp_det rfl rfl (det_load_agg rfl agg37 rfl (ptr_row 0 rfl) rfl) ?_
    refine rwp_det rfl rfl (det_call rfl ok215 (frac_Valid _) ⟨VLe.refl _, rfl, trivial⟩) ?_
    refine rwp_det rfl rfl (det_assign rfl rfl) ?_
    refine rwp_nil ?_
    refine awp_ret ?_
    repeat (first | refine thenQ_ret ?_ | refine blockQ_ret ?_)
    refine fin1 (rs_c rfl) ?_
    exact congrArg vB (by rw [ht, valOk, dec_false c2, dec_false c3]; rfl)

end Go.W
