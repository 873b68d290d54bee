/-
  Walks: what functions of the program compute. Printed by wip/gen/mk2.py.
  Conditions: none.
-/
import Derived.Test.YtnnkemdiknefaaaGreatDoorWA
set_option linter.unusedSimpArgs false
set_option linter.unusedVariables false
namespace Go.W
open Go Go.Eng Go.Proofs Go.L41 Go.Br
attribute [local irreducible] AWP RWP TD
theorem agg23 : aggT Tryz.prog 23 = some 5 := by kernel_rfl
theorem agg26 : aggT Tryz.prog 26 = some 2 := by kernel_rfl
theorem fd23_0 : fieldT Tryz.prog 23 0 = some (0, 3) := by kernel_rfl
theorem fd23_1 : fieldT Tryz.prog 23 1 = some (1, 3) := by kernel_rfl
theorem fd23_2 : fieldT Tryz.prog 23 2 = some (2, 3) := by kernel_rfl
theorem fd23_3 : fieldT Tryz.prog 23 3 = some (3, 3) := by kernel_rfl
theorem fd23_4 : fieldT Tryz.prog 23 4 = some (4, 3) := by kernel_rfl
theorem fd26_0 : fieldT Tryz.prog 26 0 = some (0, 2) := by kernel_rfl
theorem fd26_1 : fieldT Tryz.prog 26 1 = some (1, 2) := by kernel_rfl
theorem fl23 : flatK Tryz.prog 23 = some [.int, .int, .int, .int, .int] := by kernel_rfl
theorem ik207 : intT Tryz.prog 207 = some .u64 := by kernel_rfl
theorem ik222 : intT Tryz.prog 222 = some .u64 := by kernel_rfl
theorem ok188 : callOk Tryz.prog 188 = true := by kernel_rfl
theorem ok224 : callOk Tryz.prog 224 = true := by kernel_rfl
theorem ok225 : callOk Tryz.prog 225 = true := by kernel_rfl
theorem ok226 : callOk Tryz.prog 226 = true := by kernel_rfl
theorem ok228 : callOk Tryz.prog 228 = true := by kernel_rfl
theorem ok229 : callOk Tryz.prog 229 = true := by kernel_rfl
theorem ok255 : callOk Tryz.prog 255 = true := by kernel_rfl
theorem ok256 : callOk Tryz.prog 256 = true := by kernel_rfl
theorem ok257 : callOk Tryz.prog 257 = true := by kernel_rfl
theorem ok258 : callOk Tryz.prog 258 = true := by kernel_rfl
theorem ok259 : callOk Tryz.prog 259 = true := by kernel_rfl
theorem ok272 : callOk Tryz.prog 272 = true := by kernel_rfl
theorem one3 : oneT Tryz.prog 3 = true := by kernel_rfl
theorem pl23 : placesT Tryz.prog 23 = some [(0, 1), (1, 1), (2, 1), (3, 1), (4, 1)] := by kernel_rfl
theorem pl26 : placesT Tryz.prog 26 = some [(0, 1), (1, 1)] := by kernel_rfl
theorem us2 : (Tryz.prog.underlying 2).isSome = true := by kernel_rfl
theorem us3 : (Tryz.prog.underlying 3).isSome = true := by kernel_rfl
theorem zr23 : zeroT Tryz.prog 23 = some [(Value.int IntKind.i64 0), (Value.int IntKind.i64 0), (Value.int IntKind.i64 0), (Value.int IntKind.i64 0), (Value.int IntKind.i64 0)] := by kernel_rfl
theorem zr26 : zeroT Tryz.prog 26 = some [(Value.int IntKind.i64 0), (Value.int IntKind.i64 0)] := by kernel_rfl
theorem value_plain (t : Ty) :
    Pur cfg 228 [vTy t] (vB (plainT t)) := by
 refine con_intro Tryz.func228 rfl Tryz.ntmps228 Tryz.results228 rfl ?_
 intro z hz
 refine awp_seq ?_
 refine awp_region rfl ?_
 refine rwp_op rfl rfl (ope_box rfl rfl) ?_
 rintro _ _ ⟨b1, rfl, rfl⟩
 refine rwp_det rfl rfl (det_assign rfl rfl) ?_
 refine rwp_nil ?_
 refine awp_seq ?_
 refine awp_region rfl ?_
 refine rwp_det rfl rfl (det_load_agg rfl agg23 rfl (ptr_row 0 rfl) rfl) ?_
 refine rwp_det rfl rfl (det_field_lit rfl fd23_0 rfl) ?_
 refine rwp_det rfl rfl (det_load_one rfl one3 rfl (ptr_row 0 rfl) rfl) ?_
 refine rwp_det rfl rfl (det_build rfl zr23 pl23 rfl) ?_
 refine rwp_det rfl rfl (det_aeql rfl fl23 rfl rfl rfl) ?_
 refine rwp_det rfl rfl (det_assign rfl rfl) ?_
 refine rwp_nil ?_
 refine awp_ret ?_
 repeat (first | refine thenQ_ret ?_ | refine blockQ_ret ?_)
 refine fin1 (rs_c rfl) ?_
 exact congrArg vB (plainT_eq t)

theorem fixed_ValidateType (t : Ty) :
    Pur cfg 229 [vTy t] (vI (bif fixOk t then 0 else 10)) := by
 refine con_intro Tryz.func229 rfl Tryz.ntmps229 Tryz.results229 rfl ?_
 intro z hz
 refine awp_seq ?_
 refine awp_region rfl ?_
 refine rwp_op rfl rfl (ope_box rfl rfl) ?_
 rintro _ _ ⟨b1, rfl, rfl⟩
 refine rwp_det rfl rfl (det_assign rfl rfl) ?_
 refine rwp_nil ?_
 refine awp_seq ?_
 refine awp_region rfl ?_
 refine rwp_det rfl rfl (det_field_lit rfl fd23_3 rfl) ?_
 refine rwp_det rfl rfl (det_load_one rfl one3 rfl (ptr_row 0 rfl) rfl) ?_
 refine rwp_det rfl rfl (det_geq rfl rfl rfl) ?_
 refine rwp_det rfl rfl (det_move rfl rfl) ?_
 refine rwp_lazy [] rfl rfl rfl rfl gv1 trivial (fun g1_3 => det_field_lit rfl fd23_3 rfl) rfl ?_
 refine rwp_lazy [(8, _)] rfl rfl rfl rfl gv1 ⟨rfl, rfl, trivial⟩ (fun g1_3 => det_load_one rfl one3 rfl (ptr_row 0 rfl) rfl) rfl ?_
 refine rwp_lazy [(9, _)] rfl rfl rfl rfl gv1 ⟨rfl, rfl, trivial⟩ (fun g1_3 => det_leq rfl rfl rfl) rfl ?_
 refine rwp_det rfl rfl (det_and rfl rfl rfl (fun h => h) rfl) ?_
 refine rwp_det rfl rfl (det_move rfl rfl) ?_
 refine rwp_lazy [] rfl rfl rfl rfl gv1 trivial (fun g1_8 => det_field_lit rfl fd23_4 rfl) rfl ?_
 refine rwp_lazy [(13, _)] rfl rfl rfl rfl gv1 ⟨rfl, rfl, trivial⟩ (fun g1_8 => det_load_one rfl one3 rfl (ptr_row 0 rfl) rfl) rfl ?_
 refine rwp_lazy [(14, _)] rfl rfl rfl rfl gv1 ⟨rfl, rfl, trivial⟩ (fun g1_8 => det_eql rfl rfl rfl) rfl ?_
 refine rwp_lazy [(15, _)] rfl rfl rfl rfl gv1 ⟨rfl, rfl, trivial⟩ (fun g1_8 => det_move rfl rfl) rfl ?_
 refine rwp_lazy [] rfl rfl rfl rfl gv2 trivial (fun g1_12 => det_field_lit rfl fd23_4 rfl) rfl ?_
 refine rwp_lazy [(17, _)] rfl rfl rfl rfl gv2 ⟨rfl, rfl, trivial⟩ (fun g1_12 => det_load_one rfl one3 rfl (ptr_row 0 rfl) rfl) rfl ?_
 refine rwp_lazy [(18, _)] rfl rfl rfl rfl gv2 ⟨rfl, rfl, trivial⟩ (fun g1_12 => det_eql rfl rfl rfl) rfl ?_
 refine rwp_lazy [(16, _)] rfl rfl rfl rfl gv1 ⟨rfl, rfl, trivial⟩ (fun g1_8 => det_or rfl rfl rfl rfl (fun h => and_mk (by assumption) (lzf h))) rfl ?_
 refine rwp_det rfl rfl (det_and rfl rfl rfl (fun h => h) rfl) ?_
 refine rwp_det rfl rfl (det_assign rfl rfl) ?_
 refine rwp_nil ?_
 refine awp_seq ?_
 refine awp_seq ?_
 refine awp_region rfl ?_
 refine rwp_det rfl rfl (det_field_lit rfl fd23_0 rfl) ?_
 refine rwp_det rfl rfl (det_load_one rfl one3 rfl (ptr_row 0 rfl) rfl) ?_
 refine rwp_det rfl rfl (det_neq rfl rfl rfl) ?_
 refine rwp_det rfl rfl (det_move rfl rfl) ?_
 refine rwp_lazy [] rfl rfl rfl rfl gv1 trivial (fun g2_3 => det_field_lit rfl fd23_1 rfl) rfl ?_
 refine rwp_lazy [(26, _)] rfl rfl rfl rfl gv1 ⟨rfl, rfl, trivial⟩ (fun g2_3 => det_load_one rfl one3 rfl (ptr_row 0 rfl) rfl) rfl ?_
 refine rwp_lazy [(27, _)] rfl rfl rfl rfl gv1 ⟨rfl, rfl, trivial⟩ (fun g2_3 => det_lss rfl rfl rfl) rfl ?_
 refine rwp_det rfl rfl (det_or rfl rfl rfl rfl (fun h => (lzf h))) ?_
 refine rwp_det rfl rfl (det_move rfl rfl) ?_
 refine rwp_lazy [] rfl rfl rfl rfl gv1 trivial (fun g2_8 => det_field_lit rfl fd23_1 rfl) rfl ?_
 refine rwp_lazy [(31, _)] rfl rfl rfl rfl gv1 ⟨rfl, rfl, trivial⟩ (fun g2_8 => det_load_one rfl one3 rfl (ptr_row 0 rfl) rfl) rfl ?_
 refine rwp_lazy [(32, _)] rfl rfl rfl rfl gv1 ⟨rfl, rfl, trivial⟩ (fun g2_8 => det_gtr rfl rfl rfl) rfl ?_
 refine rwp_det rfl rfl (det_or rfl rfl rfl rfl (fun h => (lzf h))) ?_
 refine rwp_det rfl rfl (det_move rfl rfl) ?_
 refine rwp_lazy [] rfl rfl rfl rfl gv1 trivial (fun g2_13 => det_field_lit rfl fd23_2 rfl) rfl ?_
 refine rwp_lazy [(36, _)] rfl rfl rfl rfl gv1 ⟨rfl, rfl, trivial⟩ (fun g2_13 => det_load_one rfl one3 rfl (ptr_row 0 rfl) rfl) rfl ?_
 refine rwp_lazy [(37, _)] rfl rfl rfl rfl gv1 ⟨rfl, rfl, trivial⟩ (fun g2_13 => det_lss rfl rfl rfl) rfl ?_
 refine rwp_det rfl rfl (det_or rfl rfl rfl rfl (fun h => (lzf h))) ?_
 refine rwp_det rfl rfl (det_move rfl rfl) ?_
 refine rwp_lazy [] rfl rfl rfl rfl gv1 trivial (fun g2_18 => det_field_lit rfl fd23_2 rfl) rfl ?_
 refine rwp_lazy [(41, _)] rfl rfl rfl rfl gv1 ⟨rfl, rfl, trivial⟩ (fun g2_18 => det_load_one rfl one3 rfl (ptr_row 0 rfl) rfl) rfl ?_
 refine rwp_lazy [(42, _)] rfl rfl rfl rfl gv1 ⟨rfl, rfl, trivial⟩ (fun g2_18 => det_gtr rfl rfl rfl) rfl ?_
 refine rwp_det rfl rfl (det_or rfl rfl rfl rfl (fun h => (lzf h))) ?_
 refine rwp_det rfl rfl (det_move rfl rfl) ?_
 refine rwp_lazy [] rfl rfl rfl rfl gv1 trivial (fun g2_23 => det_move rfl rfl) rfl ?_
 refine rwp_lazy [(46, _)] rfl rfl rfl rfl gv1 ⟨rfl, rfl, trivial⟩ (fun g2_23 => det_not rfl rfl) rfl ?_
 refine rwp_det rfl rfl (det_or rfl rfl rfl rfl (fun h => (lzf h))) ?_
 refine rwp_nil ?_
 refine awp_cond rfl (fun c1 => ?_) (fun c1 => ?_)
 ·refine awp_seq ?_
  refine awp_region rfl ?_
  refine rwp_det rfl rfl (det_assign rfl rfl) ?_
  refine rwp_nil ?_
  refine awp_ret ?_
  repeat (first | refine thenQ_ret ?_ | refine blockQ_ret ?_)
  refine fin1 (rs_c rfl) ?_
  rw [show fixOk t = false from fix_no c1]; rfl
 ·refine awp_skip ?_
  refine awp_seq ?_
  refine awp_region rfl ?_
  refine rwp_det rfl rfl (det_assign rfl rfl) ?_
  refine rwp_nil ?_
  refine awp_ret ?_
  repeat (first | refine thenQ_ret ?_ | refine blockQ_ret ?_)
  refine fin1 (rs_c rfl) ?_
  rw [show fixOk t = true from fix_yes c1]; rfl

theorem value_ValidateType (t : Ty) :
    Pur cfg 188 [vTy t] (vI (tyErr t)) := by
 refine con_intro Tryz.func188 rfl Tryz.ntmps188 Tryz.results188 rfl ?_
 intro z hz
 refine awp_seq ?_
 refine awp_region rfl ?_
 refine rwp_op rfl rfl (ope_box rfl rfl) ?_
 rintro _ _ ⟨b1, rfl, rfl⟩
 refine rwp_det rfl rfl (det_assign rfl rfl) ?_
 refine rwp_nil ?_
 refine awp_seq ?_
 refine awp_seq ?_
 refine awp_region rfl ?_
 refine rwp_det rfl rfl (det_field_lit rfl fd23_0 rfl) ?_
 refine rwp_det rfl rfl (det_load_one rfl one3 rfl (ptr_row 0 rfl) rfl) ?_
 refine rwp_nil ?_
 refine awp_block ?_
 refine awp_seq ?_
 refine awp_seq ?_
 refine awp_region rfl ?_
 refine rwp_det rfl rfl (det_eql rfl rfl rfl) ?_
 refine rwp_det rfl rfl (det_assign rfl rfl) ?_
 refine rwp_nil ?_
 refine awp_cond rfl (fun c1 => ?_) (fun c1 => ?_)
 ·try simp only [sx, List.length_map] at c1
  refine awp_skip ?_
  refine awp_cond rfl (fun c2 => ?_) (fun c2 => ?_)
  ·try simp only [sx, List.length_map] at c2
   refine awp_seq ?_
   refine awp_region rfl ?_
   refine rwp_det rfl rfl (det_load_agg rfl agg23 rfl (ptr_row 0 rfl) rfl) ?_
   refine rwp_det rfl rfl (det_call rfl ok228 (value_plain _) ⟨VLe.refl _, rfl, trivial⟩) ?_
   refine rwp_nil ?_
   refine awp_cond rfl (fun c3 => ?_) (fun c3 => ?_)
   ·try simp only [sx, List.length_map] at c3
    refine awp_seq ?_
    refine awp_region rfl ?_
    refine rwp_det rfl rfl (det_assign rfl rfl) ?_
    refine rwp_nil ?_
    refine awp_ret ?_
    repeat (first | refine thenQ_ret ?_ | refine blockQ_ret ?_)
    refine fin1 (rs_c rfl) ?_
    exact congrArg vI (by first | (exfalso; omega) | (rw [tyErr, tyk1 (by omega), c3]; rfl) | (rw [tyErr, fix_ty (by omega), fxz c5]; rfl) | (rw [tyErr, fix_ty (by omega), fxn c5]; rfl) | (rw [tyErr, tyk0 (by omega) (by omega) (by omega)]; rfl))
   ·try simp only [sx, List.length_map] at c3
    refine awp_skip ?_
    refine awp_seq ?_
    refine awp_region rfl ?_
    refine rwp_det rfl rfl (det_assign rfl rfl) ?_
    refine rwp_nil ?_
    refine awp_ret ?_
    repeat (first | refine thenQ_ret ?_ | refine blockQ_ret ?_)
    refine fin1 (rs_c rfl) ?_
    exact congrArg vI (by first | (exfalso; omega) | (rw [tyErr, tyk1 (by omega), c3]; rfl) | (rw [tyErr, fix_ty (by omega), fxz c5]; rfl) | (rw [tyErr, fix_ty (by omega), fxn c5]; rfl) | (rw [tyErr, tyk0 (by omega) (by omega) (by omega)]; rfl))
  ·try simp only [sx, List.length_map] at c2
   refine awp_seq ?_
   refine awp_region rfl ?_
   refine rwp_det rfl rfl (det_eql rfl rfl rfl) ?_
   refine rwp_det rfl rfl (det_assign rfl rfl) ?_
   refine rwp_nil ?_
   refine awp_cond rfl (fun c4 => ?_) (fun c4 => ?_)
   ·try simp only [sx, List.length_map] at c4
    refine awp_seq ?_
    refine awp_region rfl ?_
    refine rwp_det rfl rfl (det_load_agg rfl agg23 rfl (ptr_row 0 rfl) rfl) ?_
    refine rwp_det rfl rfl (det_call rfl ok229 (fixed_ValidateType _) ⟨VLe.refl _, rfl, trivial⟩) ?_
    refine rwp_det rfl rfl (det_eql rfl rfl rfl) ?_
    refine rwp_nil ?_
    refine awp_cond rfl (fun c5 => ?_) (fun c5 => ?_)
    ·try simp only [sx, List.length_map] at c5
     refine awp_seq ?_
     refine awp_region rfl ?_
     refine rwp_det rfl rfl (det_assign rfl rfl) ?_
     refine rwp_nil ?_
     refine awp_ret ?_
     repeat (first | refine thenQ_ret ?_ | refine blockQ_ret ?_)
     refine fin1 (rs_c rfl) ?_
     exact congrArg vI (by first | (exfalso; omega) | (rw [tyErr, tyk1 (by omega), c3]; rfl) | (rw [tyErr, fix_ty (by omega), fxz c5]; rfl) | (rw [tyErr, fix_ty (by omega), fxn c5]; rfl) | (rw [tyErr, tyk0 (by omega) (by omega) (by omega)]; rfl))
    ·try simp only [sx, List.length_map] at c5
     refine awp_skip ?_
     refine awp_seq ?_
     refine awp_region rfl ?_
     refine rwp_det rfl rfl (det_assign rfl rfl) ?_
     refine rwp_nil ?_
     refine awp_ret ?_
     repeat (first | refine thenQ_ret ?_ | refine blockQ_ret ?_)
     refine fin1 (rs_c rfl) ?_
     exact congrArg vI (by first | (exfalso; omega) | (rw [tyErr, tyk1 (by omega), c3]; rfl) | (rw [tyErr, fix_ty (by omega), fxz c5]; rfl) | (rw [tyErr, fix_ty (by omega), fxn c5]; rfl) | (rw [tyErr, tyk0 (by omega) (by omega) (by omega)]; rfl))
   ·try simp only [sx, List.length_map] at c4
    refine awp_skip ?_
    refine awp_seq ?_
    refine awp_region rfl ?_
    refine rwp_det rfl rfl (det_assign rfl rfl) ?_
    refine rwp_nil ?_
    refine awp_ret ?_
    repeat (first | refine thenQ_ret ?_ | refine blockQ_ret ?_)
    refine fin1 (rs_c rfl) ?_
    exact congrArg vI (by first | (exfalso; omega) | (rw [tyErr, tyk1 (by omega), c3]; rfl) | (rw [tyErr, fix_ty (by omega), fxz c5]; rfl) | (rw [tyErr, fix_ty (by omega), fxn c5]; rfl) | (rw [tyErr, tyk0 (by omega) (by omega) (by omega)]; rfl))
 ·try simp only [sx, List.length_map] at c1
  refine awp_region rfl ?_
  refine rwp_det rfl rfl (det_eql rfl rfl rfl) ?_
  refine rwp_det rfl rfl (det_assign rfl rfl) ?_
  refine rwp_nil ?_
  refine awp_cond rfl (fun c2 => ?_) (fun c2 => ?_)
  ·try simp only [sx, List.length_map] at c2
   refine awp_seq ?_
   refine awp_region rfl ?_
   refine rwp_det rfl rfl (det_load_agg rfl agg23 rfl (ptr_row 0 rfl) rfl) ?_
   refine rwp_det rfl rfl (det_call rfl ok228 (value_plain _) ⟨VLe.refl _, rfl, trivial⟩) ?_
   refine rwp_nil ?_
   refine awp_cond rfl (fun c3 => ?_) (fun c3 => ?_)
   ·try simp only [sx, List.length_map] at c3
    refine awp_seq ?_
    refine awp_region rfl ?_
    refine rwp_det rfl rfl (det_assign rfl rfl) ?_
    refine rwp_nil ?_
    refine awp_ret ?_
    repeat (first | refine thenQ_ret ?_ | refine blockQ_ret ?_)
    refine fin1 (rs_c rfl) ?_
    exact congrArg vI (by first | (exfalso; omega) | (rw [tyErr, tyk1 (by omega), c3]; rfl) | (rw [tyErr, fix_ty (by omega), fxz c5]; rfl) | (rw [tyErr, fix_ty (by omega), fxn c5]; rfl) | (rw [tyErr, tyk0 (by omega) (by omega) (by omega)]; rfl))
   ·try simp only [sx, List.length_map] at c3
    refine awp_skip ?_
    refine awp_seq ?_
    refine awp_region rfl ?_
    refine rwp_det rfl rfl (det_assign rfl rfl) ?_
    refine rwp_nil ?_
    refine awp_ret ?_
    repeat (first | refine thenQ_ret ?_ | refine blockQ_ret ?_)
    refine fin1 (rs_c rfl) ?_
    exact congrArg vI (by first | (exfalso; omega) | (rw [tyErr, tyk1 (by omega), c3]; rfl) | (rw [tyErr, fix_ty (by omega), fxz c5]; rfl) | (rw [tyErr, fix_ty (by omega), fxn c5]; rfl) | (rw [tyErr, tyk0 (by omega) (by omega) (by omega)]; rfl))
  ·try simp only [sx, List.length_map] at c2
   refine awp_seq ?_
   refine awp_region rfl ?_
   refine rwp_det rfl rfl (det_eql rfl rfl rfl) ?_
   refine rwp_det rfl rfl (det_assign rfl rfl) ?_
   refine rwp_nil ?_
   refine awp_cond rfl (fun c4 => ?_) (fun c4 => ?_)
   ·try simp only [sx, List.length_map] at c4
    refine awp_seq ?_
    refine awp_region rfl ?_
    refine rwp_det rfl rfl (det_load_agg rfl agg23 rfl (ptr_row 0 rfl) rfl) ?_
    refine rwp_det rfl rfl (det_call rfl ok229 (fixed_ValidateType _) ⟨VLe.refl _, rfl, trivial⟩) ?_
    refine rwp_det rfl rfl (det_eql rfl rfl rfl) ?_
    refine rwp_nil ?_
    refine awp_cond rfl (fun c5 => ?_) (fun c5 => ?_)
    ·try simp only [sx, List.length_map] at c5
     refine awp_seq ?_
     refine awp_region rfl ?_
     refine rwp_det rfl rfl (det_assign rfl rfl) ?_
     refine rwp_nil ?_
     refine awp_ret ?_
     repeat (first | refine thenQ_ret ?_ | refine blockQ_ret ?_)
     refine fin1 (rs_c rfl) ?_
     exact congrArg vI (by first | (exfalso; omega) | (rw [tyErr, tyk1 (by omega), c3]; rfl) | (rw [tyErr, fix_ty (by omega), fxz c5]; rfl) | (rw [tyErr, fix_ty (by omega), fxn c5]; rfl) | (rw [tyErr, tyk0 (by omega) (by omega) (by omega)]; rfl))
    ·try simp only [sx, List.length_map] at c5
     refine awp_skip ?_
     refine awp_seq ?_
     refine awp_region rfl ?_
     refine rwp_det rfl rfl (det_assign rfl rfl) ?_
     refine rwp_nil ?_
     refine awp_ret ?_
     repeat (first | refine thenQ_ret ?_ | refine blockQ_ret ?_)
     refine fin1 (rs_c rfl) ?_
     exact congrArg vI (by first | (exfalso; omega) | (rw [tyErr, tyk1 (by omega), c3]; rfl) | (rw [tyErr, fix_ty (by omega), fxz c5]; rfl) | (rw [tyErr, fix_ty (by omega), fxn c5]; rfl) | (rw [tyErr, tyk0 (by omega) (by omega) (by omega)]; rfl))
   ·try simp only [sx, List.length_map] at c4
    refine awp_skip ?_
    refine awp_seq ?_
    refine awp_region rfl ?_
    refine rwp_det rfl rfl (det_assign rfl rfl) ?_
    refine rwp_nil ?_
    refine awp_ret ?_
    repeat (first | refine thenQ_ret ?_ | refine blockQ_ret ?_)
    refine fin1 (rs_c rfl) ?_
    exact congrArg vI (by first | (exfalso; omega) | (rw [tyErr, tyk1 (by omega), c3]; rfl) | (rw [tyErr, fix_ty (by omega), fxz c5]; rfl) | (rw [tyErr, fix_ty (by omega), fxn c5]; rfl) | (rw [tyErr, tyk0 (by omega) (by omega) (by omega)]; rfl))

theorem round_valid (b : Int) :
    Pur cfg 272 [vI b] (vB (decide (2 ≤ b) && decide (b ≤ 31))) := by
 refine con_intro Tryz.func272 rfl Tryz.ntmps272 Tryz.results272 rfl ?_
 intro z hz
 refine awp_seq ?_
 refine awp_region rfl ?_
 refine rwp_det rfl rfl (det_assign rfl rfl) ?_
 refine rwp_nil ?_
 refine awp_seq ?_
 refine awp_region rfl ?_
 refine rwp_det rfl rfl (det_move rfl rfl) ?_
 refine rwp_det rfl rfl (det_geq rfl rfl rfl) ?_
 refine rwp_det rfl rfl (det_move rfl rfl) ?_
 refine rwp_lazy [] rfl rfl rfl rfl gv1 trivial (fun g1_2 => det_move rfl rfl) rfl ?_
 refine rwp_lazy [(6, _)] rfl rfl rfl rfl gv1 ⟨rfl, rfl, trivial⟩ (fun g1_2 => det_leq rfl rfl rfl) rfl ?_
 refine rwp_det rfl rfl (det_and rfl rfl rfl (fun h => h) rfl) ?_
 refine rwp_det rfl rfl (det_assign rfl rfl) ?_
 refine rwp_nil ?_
 refine awp_ret ?_
 repeat (first | refine thenQ_ret ?_ | refine blockQ_ret ?_)
 refine fin1 (rs_c rfl) ?_
 exact rfl

theorem round_MinInt (b : Int) (h1 : 2 ≤ b) (h2 : b ≤ 31) :
    Pur cfg 255 [vI b] (vI (-half b)) := by
 refine con_intro Tryz.func255 rfl Tryz.ntmps255 Tryz.results255 rfl ?_
 intro z hz
 refine awp_seq ?_
 refine awp_region rfl ?_
 refine rwp_det rfl rfl (det_assign rfl rfl) ?_
 refine rwp_nil ?_
 refine awp_seq ?_
 refine awp_seq ?_
 refine awp_region rfl ?_
 refine rwp_det rfl rfl (det_move rfl rfl) ?_
 refine rwp_det rfl rfl (det_call rfl ok272 (round_valid _) ⟨VLe.refl _, rfl, trivial⟩) ?_
 refine rwp_det rfl rfl (det_not rfl rfl) ?_
 refine rwp_nil ?_
 refine awp_cond rfl (fun c1 => ?_) (fun c1 => ?_)
 ·try simp only [sx, List.length_map] at c1
  exact absurd c1 (by omega)
 ·try simp only [sx, List.length_map] at c1
  refine awp_skip ?_
  refine awp_seq ?_
  refine awp_region rfl ?_
  refine rwp_det rfl rfl (det_move rfl rfl) ?_
  refine rwp_det rfl rfl (det_sub_nw rfl rfl rfl ⟨by omega, by omega⟩) ?_
  refine rwp_det rfl rfl (det_conv rfl us3 ik207 rfl) ?_
  refine rwp_det rfl rfl (det_shl rfl rfl rfl (by rw [wrap_u64 (by omega)]; omega)) ?_
  refine rwp_det rfl rfl (det_neg rfl rfl) ?_
  refine rwp_det rfl rfl (det_assign rfl rfl) ?_
  refine rwp_nil ?_
  refine awp_ret ?_
  repeat (first | refine thenQ_ret ?_ | refine blockQ_ret ?_)
  refine fin1 (rs_c rfl) ?_
  exact congrArg vI (min_eq h1 h2)

theorem round_MaxInt (b : Int) (h1 : 2 ≤ b) (h2 : b ≤ 31) :
    Pur cfg 256 [vI b] (vI (half b - 1)) := by
 refine con_intro Tryz.func256 rfl Tryz.ntmps256 Tryz.results256 rfl ?_
 intro z hz
 refine awp_seq ?_
 refine awp_region rfl ?_
 refine rwp_det rfl rfl (det_assign rfl rfl) ?_
 refine rwp_nil ?_
 refine awp_seq ?_
 refine awp_seq ?_
 refine awp_region rfl ?_
 refine rwp_det rfl rfl (det_move rfl rfl) ?_
 refine rwp_det rfl rfl (det_call rfl ok272 (round_valid _) ⟨VLe.refl _, rfl, trivial⟩) ?_
 refine rwp_det rfl rfl (det_not rfl rfl) ?_
 refine rwp_nil ?_
 refine awp_cond rfl (fun c1 => ?_) (fun c1 => ?_)
 ·try simp only [sx, List.length_map] at c1
  exact absurd c1 (by omega)
 ·try simp only [sx, List.length_map] at c1
  refine awp_skip ?_
  refine awp_seq ?_
  refine awp_region rfl ?_
  refine rwp_det rfl rfl (det_move rfl rfl) ?_
  refine rwp_det rfl rfl (det_sub_nw rfl rfl rfl ⟨by omega, by omega⟩) ?_
  refine rwp_det rfl rfl (det_conv rfl us3 ik207 rfl) ?_
  refine rwp_det rfl rfl (det_shl rfl rfl rfl (by rw [wrap_u64 (by omega)]; omega)) ?_
  refine rwp_det rfl rfl (det_sub rfl rfl rfl) ?_
  refine rwp_det rfl rfl (det_assign rfl rfl) ?_
  refine rwp_nil ?_
  refine awp_ret ?_
  repeat (first | refine thenQ_ret ?_ | refine blockQ_ret ?_)
  refine fin1 (rs_c rfl) ?_
  exact congrArg vI (max_eq h1 h2)

theorem fixed_Valid (t : Ty) (v : Vl) :
    Pur cfg 224 [vTy t, vVal v] (vB (fixOk t && (decide (v.D = 1) && decide (-half t.Bits ≤ v.N) && decide (v.N < half t.Bits)))) := by
 refine con_intro Tryz.func224 rfl Tryz.ntmps224 Tryz.results224 rfl ?_
 intro z hz
 refine awp_seq ?_
 refine awp_region rfl ?_
 refine rwp_op rfl rfl (ope_box rfl rfl) ?_
 rintro _ _ ⟨b1, rfl, rfl⟩
 refine rwp_op rfl rfl (ope_box rfl rfl) ?_
 rintro _ _ ⟨b2, rfl, rfl⟩
 refine rwp_det rfl rfl (det_assign rfl rfl) ?_
 refine rwp_nil ?_
 refine awp_seq ?_
 refine awp_draw 25 mixed (by kernel_rfl) rfl rfl ?_
 refine td_det rfl rfl (det_load_agg rfl agg23 rfl (ptr_row 1 rfl) rfl) ?_
 refine td_det rfl rfl (det_call rfl ok229 (fixed_ValidateType _) ⟨VLe.refl _, rfl, trivial⟩) ?_
 refine td_det rfl rfl (det_eql rfl rfl rfl) ?_
 refine td_det rfl rfl (det_move rfl rfl) ?_
 refine td_lazy [] rfl rfl rfl rfl gv1 trivial (fun g1_3 => det_field_lit rfl fd26_1 rfl) rfl ?_
 refine td_lazy [(9, _)] rfl rfl rfl rfl gv1 ⟨rfl, rfl, trivial⟩ (fun g1_3 => det_load_one rfl one2 rfl (ptr_row 0 rfl) rfl) rfl ?_
 refine td_lazy [(10, _)] rfl rfl rfl rfl gv1 ⟨rfl, rfl, trivial⟩ (fun g1_3 => det_eql rfl rfl rfl) rfl ?_
 refine td_det rfl rfl (det_and rfl rfl rfl (fun h => h) rfl) ?_
 refine td_det rfl rfl (det_move rfl rfl) ?_
 refine td_lazy [] rfl rfl rfl rfl gv1 trivial (fun g1_8 => det_field_lit rfl fd26_0 rfl) rfl ?_
 refine td_lazy [(14, _)] rfl rfl rfl rfl gv1 ⟨rfl, rfl, trivial⟩ (fun g1_8 => det_load_one rfl one2 rfl (ptr_row 0 rfl) rfl) rfl ?_
 refine td_lazy [] rfl rfl rfl rfl gv1 trivial (fun g1_8 => det_field_lit rfl fd23_1 rfl) rfl ?_
 refine td_lazy [(16, _)] rfl rfl rfl rfl gv1 ⟨rfl, rfl, trivial⟩ (fun g1_8 => det_load_one rfl one3 rfl (ptr_row 1 rfl) rfl) rfl ?_
 refine td_lazy [(17, _)] rfl rfl rfl rfl gv1 ⟨rfl, rfl, trivial⟩ (fun g1_8 => det_call rfl ok255 (round_MinInt _ (fixB (fxa g1_8)).1 (fixB (fxa g1_8)).2) ⟨VLe.refl _, rfl, trivial⟩) rfl ?_
 refine td_lazy [(15, _), (18, _)] rfl rfl rfl rfl gv1 ⟨rfl, rfl, rfl, rfl, trivial⟩ (fun g1_8 => det_geq rfl rfl rfl) rfl ?_
 refine td_det rfl rfl (det_and rfl rfl rfl (fun h => h) rfl) ?_
 refine td_det rfl rfl (det_move rfl rfl) ?_
 refine td_lazy [] rfl rfl rfl rfl gv1 trivial (fun g1_16 => det_field_lit rfl fd26_0 rfl) rfl ?_
 refine td_lazy [(22, _)] rfl rfl rfl rfl gv1 ⟨rfl, rfl, trivial⟩ (fun g1_16 => det_load_one rfl one2 rfl (ptr_row 0 rfl) rfl) rfl ?_
 refine td_lazy [] rfl rfl rfl rfl gv1 trivial (fun g1_16 => det_field_lit rfl fd23_1 rfl) rfl ?_
 refine td_lazy [(24, _)] rfl rfl rfl rfl gv1 ⟨rfl, rfl, trivial⟩ (fun g1_16 => det_load_one rfl one3 rfl (ptr_row 1 rfl) rfl) rfl ?_
 refine td_lazy [(25, _)] rfl rfl rfl rfl gv1 ⟨rfl, rfl, trivial⟩ (fun g1_16 => det_call rfl ok256 (round_MaxInt _ (fixB (fxb g1_16)).1 (fixB (fxb g1_16)).2) ⟨VLe.refl _, rfl, trivial⟩) rfl ?_
 refine td_lazy [(23, _), (26, _)] rfl rfl rfl rfl gv1 ⟨rfl, rfl, rfl, rfl, trivial⟩ (fun g1_16 => det_leq rfl rfl rfl) rfl ?_
 refine td_det rfl rfl (det_and rfl rfl rfl (fun h => h) rfl) ?_
 refine td_det rfl rfl (det_assign rfl rfl) ?_
 refine td_nil ?_
 refine rwp_nil ?_
 refine awp_ret ?_
 repeat (first | refine thenQ_ret ?_ | refine blockQ_ret ?_)
 refine fin1 (rs_c rfl) ?_
 exact congrArg vB (fixV t v)

theorem value_whole (n : Int) :
    Pur cfg 225 [vI n] (vB (num31 n)) := by
 refine con_intro Tryz.func225 rfl Tryz.ntmps225 Tryz.results225 rfl ?_
 intro z hz
 refine awp_seq ?_
 refine awp_region rfl ?_
 refine rwp_det rfl rfl (det_assign rfl rfl) ?_
 refine rwp_nil ?_
 refine awp_seq ?_
 refine awp_region rfl ?_
 refine rwp_det rfl rfl (det_move rfl rfl) ?_
 refine rwp_det rfl rfl (det_geq rfl rfl rfl) ?_
 refine rwp_det rfl rfl (det_move rfl rfl) ?_
 refine rwp_lazy [] rfl rfl rfl rfl gv1 trivial (fun g1_2 => det_move rfl rfl) rfl ?_
 refine rwp_lazy [(6, _)] rfl rfl rfl rfl gv1 ⟨rfl, rfl, trivial⟩ (fun g1_2 => det_leq rfl rfl rfl) rfl ?_
 refine rwp_det rfl rfl (det_and rfl rfl rfl (fun h => h) rfl) ?_
 refine rwp_det rfl rfl (det_assign rfl rfl) ?_
 refine rwp_nil ?_
 refine awp_ret ?_
 repeat (first | refine thenQ_ret ?_ | refine blockQ_ret ?_)
 refine fin1 (rs_c rfl) ?_
 exact rfl

theorem frac_inRange (n : Int) :
    Pur cfg 257 [vI n] (vB (num31 n)) := by
 refine con_intro Tryz.func257 rfl Tryz.ntmps257 Tryz.results257 rfl ?_
 intro z hz
 refine awp_seq ?_
 refine awp_region rfl ?_
 refine rwp_det rfl rfl (det_assign rfl rfl) ?_
 refine rwp_nil ?_
 refine awp_seq ?_
 refine awp_region rfl ?_
 refine rwp_det rfl rfl (det_move rfl rfl) ?_
 refine rwp_det rfl rfl (det_geq rfl rfl rfl) ?_
 refine rwp_det rfl rfl (det_move rfl rfl) ?_
 refine rwp_lazy [] rfl rfl rfl rfl gv1 trivial (fun g1_2 => det_move rfl rfl) rfl ?_
 refine rwp_lazy [(6, _)] rfl rfl rfl rfl gv1 ⟨rfl, rfl, trivial⟩ (fun g1_2 => det_leq rfl rfl rfl) rfl ?_
 refine rwp_det rfl rfl (det_and rfl rfl rfl (fun h => h) rfl) ?_
 refine rwp_det rfl rfl (det_assign rfl rfl) ?_
 refine rwp_nil ?_
 refine awp_ret ?_
 repeat (first | refine thenQ_ret ?_ | refine blockQ_ret ?_)
 refine fin1 (rs_c rfl) ?_
 exact rfl

theorem frac_magnitude (n : Int) (hn : -9223372036854775808 ≤ n) (hm : n ≤ 9223372036854775807) :
    Pur cfg 259 [vI n] (vU64 n.natAbs) := by
 refine con_intro Tryz.func259 rfl Tryz.ntmps259 Tryz.results259 rfl ?_
 intro z hz
 refine awp_seq ?_
 refine awp_region rfl ?_
 refine rwp_det rfl rfl (det_assign rfl rfl) ?_
 refine rwp_nil ?_
 refine awp_seq ?_
 refine awp_seq ?_
 refine awp_region rfl ?_
 refine rwp_det rfl rfl (det_move rfl rfl) ?_
 refine rwp_det rfl rfl (det_lss rfl rfl rfl) ?_
 refine rwp_nil ?_
 refine awp_cond rfl (fun c1 => ?_) (fun c1 => ?_)
 ·try simp only [sx, List.length_map] at c1
  refine awp_seq ?_
  refine awp_region rfl ?_
  refine rwp_det rfl rfl (det_move rfl rfl) ?_
  refine rwp_det rfl rfl (det_conv rfl us2 ik222 rfl) ?_
  refine rwp_det rfl rfl (det_neg rfl rfl) ?_
  refine rwp_det rfl rfl (det_assign rfl rfl) ?_
  refine rwp_nil ?_
  refine awp_ret ?_
  repeat (first | refine thenQ_ret ?_ | refine blockQ_ret ?_)
  refine fin1 (rs_c rfl) ?_
  exact congrArg vU64 (mag_neg c1 hn)
 ·try simp only [sx, List.length_map] at c1
  refine awp_skip ?_
  refine awp_seq ?_
  refine awp_region rfl ?_
  refine rwp_det rfl rfl (det_move rfl rfl) ?_
  refine rwp_det rfl rfl (det_conv rfl us2 ik222 rfl) ?_
  refine rwp_det rfl rfl (det_assign rfl rfl) ?_
  refine rwp_nil ?_
  refine awp_ret ?_
  repeat (first | refine thenQ_ret ?_ | refine blockQ_ret ?_)
  refine fin1 (rs_c rfl) ?_
  exact congrArg vU64 (mag_pos (by omega) hm)

theorem frac_gcd (a b : Nat) :
    Pur cfg 258 [vU64 a, vU64 b] (vU64 (Nat.gcd a b)) := by
 refine con_intro Tryz.func258 rfl Tryz.ntmps258 Tryz.results258 rfl ?_
 intro z hz
 refine awp_seq ?_
 refine awp_region rfl ?_
 refine rwp_det rfl rfl (det_assign rfl rfl) ?_
 refine rwp_nil ?_
 refine awp_seq ?_
 refine awp_block ?_
 refine awp_weak ⟨[(0, .c _), (1, .c _)], []⟩ (Weak.mk [] ⟨VLe.of_eq rfl, VLe.of_eq rfl, trivial⟩ rfl) ?_
 refine awp_loop_k 2 0 rfl rfl (Nat × Nat) (fun ⟨x, y⟩ => [(0, vU64 x), (1, vU64 y)]) (fun ⟨x, y⟩ => []) (fun ⟨x, y⟩ => Nat.gcd a b = Nat.gcd x y) (fun ⟨x, y⟩ => y) ⟨⟨a, b⟩, rfl, Weak.mk [] ⟨VLe.refl _, VLe.refl _, trivial⟩ rfl⟩ ?_
 rintro ⟨x, y⟩ hg
 refine awp_seq ?_
 refine awp_seq ?_
 refine awp_region rfl ?_
 refine rwp_det rfl rfl (det_move rfl rfl) ?_
 refine rwp_det rfl rfl (det_neq rfl rfl rfl) ?_
 refine rwp_nil ?_
 refine awp_cond rfl (fun c1 => ?_) (fun c1 => ?_)
 ·try simp only [sx, List.length_map] at c1
  refine awp_skip ?_
  refine awp_block ?_
  refine awp_draw 6 mixed (by kernel_rfl) rfl rfl ?_
  refine td_det rfl rfl (det_move rfl rfl) ?_
  refine td_det rfl rfl (det_move rfl rfl) ?_
  refine td_det rfl rfl (det_move rfl rfl) ?_
  refine td_det rfl rfl (det_rem rfl rfl rfl (by omega)) ?_
  refine td_det rfl rfl (det_assign rfl rfl) ?_
  refine td_det rfl rfl (det_assign rfl rfl) ?_
  refine td_nil ?_
  refine rwp_nil ?_
  refine ⟨⟨y, x % y⟩, (by rw [hg]; exact gcd_step (by omega)), (Nat.mod_lt _ (by omega)), Weak.mk [] ⟨VLe.refl _, VLe.of_eq (congrArg vU64 (Int.ofNat_tmod x y).symm), trivial⟩ rfl⟩
 ·try simp only [sx, List.length_map] at c1
  refine awp_exit ?_
  refine awp_seq ?_
  refine awp_region rfl ?_
  refine rwp_det rfl rfl (det_move rfl rfl) ?_
  refine rwp_det rfl rfl (det_assign rfl rfl) ?_
  refine rwp_nil ?_
  refine awp_ret ?_
  repeat (first | refine thenQ_ret ?_ | refine blockQ_ret ?_)
  refine fin1 (rs_c rfl) ?_
  exact congrArg vU64 (by rw [hg, show y = 0 by omega, Nat.gcd_zero_right])

theorem frac_Valid (v : Vl) :
    Pur cfg 226 [vVal v] (vB (decide (1 ≤ v.D) && decide (v.D ≤ 2147483647) && num31 v.N && decide (Int.gcd v.N v.D = 1))) := by
 refine con_intro Tryz.func226 rfl Tryz.ntmps226 Tryz.results226 rfl ?_
 intro z hz
 refine awp_seq ?_
 refine awp_region rfl ?_
 refine rwp_op rfl rfl (ope_box rfl rfl) ?_
 rintro _ _ ⟨b1, rfl, rfl⟩
 refine rwp_det rfl rfl (det_assign rfl rfl) ?_
 refine rwp_nil ?_
 refine awp_seq ?_
 refine awp_draw 24 mixed (by kernel_rfl) rfl rfl ?_
 refine td_det rfl rfl (det_field_lit rfl fd26_1 rfl) ?_
 refine td_det rfl rfl (det_load_one rfl one2 rfl (ptr_row 0 rfl) rfl) ?_
 refine td_det rfl rfl (det_geq rfl rfl rfl) ?_
 refine td_det rfl rfl (det_move rfl rfl) ?_
 refine td_lazy [] rfl rfl rfl rfl gv1 trivial (fun g1_3 => det_field_lit rfl fd26_1 rfl) rfl ?_
 refine td_lazy [(7, _)] rfl rfl rfl rfl gv1 ⟨rfl, rfl, trivial⟩ (fun g1_3 => det_load_one rfl one2 rfl (ptr_row 0 rfl) rfl) rfl ?_
 refine td_lazy [(8, _)] rfl rfl rfl rfl gv1 ⟨rfl, rfl, trivial⟩ (fun g1_3 => det_leq rfl rfl rfl) rfl ?_
 refine td_det rfl rfl (det_and rfl rfl rfl (fun h => h) rfl) ?_
 refine td_det rfl rfl (det_move rfl rfl) ?_
 refine td_lazy [] rfl rfl rfl rfl gv1 trivial (fun g1_8 => det_field_lit rfl fd26_0 rfl) rfl ?_
 refine td_lazy [(12, _)] rfl rfl rfl rfl gv1 ⟨rfl, rfl, trivial⟩ (fun g1_8 => det_load_one rfl one2 rfl (ptr_row 0 rfl) rfl) rfl ?_
 refine td_lazy [(13, _)] rfl rfl rfl rfl gv1 ⟨rfl, rfl, trivial⟩ (fun g1_8 => det_call rfl ok257 (frac_inRange _) ⟨VLe.refl _, rfl, trivial⟩) rfl ?_
 refine td_det rfl rfl (det_and rfl rfl rfl (fun h => h) rfl) ?_
 refine td_det rfl rfl (det_move rfl rfl) ?_
 refine td_lazy [] rfl rfl rfl rfl gv1 trivial (fun g1_13 => det_field_lit rfl fd26_0 rfl) rfl ?_
 refine td_lazy [(17, _)] rfl rfl rfl rfl gv1 ⟨rfl, rfl, trivial⟩ (fun g1_13 => det_load_one rfl one2 rfl (ptr_row 0 rfl) rfl) rfl ?_
 refine td_lazy [(18, _)] rfl rfl rfl rfl gv1 ⟨rfl, rfl, trivial⟩ (fun g1_13 => det_call rfl ok259 (frac_magnitude v.N (frV g1_13).2.2.1 (frV g1_13).2.2.2) ⟨VLe.refl _, rfl, trivial⟩) rfl ?_
 refine td_lazy [] rfl rfl rfl rfl gv1 trivial (fun g1_13 => det_field_lit rfl fd26_1 rfl) rfl ?_
 refine td_lazy [(20, _)] rfl rfl rfl rfl gv1 ⟨rfl, rfl, trivial⟩ (fun g1_13 => det_load_one rfl one2 rfl (ptr_row 0 rfl) rfl) rfl ?_
 refine td_lazy [(21, _)] rfl rfl rfl rfl gv1 ⟨rfl, rfl, trivial⟩ (fun g1_13 => det_conv rfl us2 ik222 rfl) rfl ?_
 refine td_lazy [(19, _), (22, _)] rfl rfl rfl rfl gv1 ⟨rfl, rfl, rfl, rfl, trivial⟩ (fun g1_13 => det_call rfl ok258 (show Pur cfg 258 [vU64 v.N.natAbs, vU64 (IntKind.u64.wrap v.D)] (vU64 (Nat.gcd v.N.natAbs v.D.natAbs)) from by rw [u64_D (frV g1_13).1 (frV g1_13).2.1]; exact frac_gcd _ _) ⟨VLe.refl _, rfl, VLe.refl _, rfl, trivial⟩) rfl ?_
 refine td_lazy [(23, _)] rfl rfl rfl rfl gv1 ⟨rfl, rfl, trivial⟩ (fun g1_13 => det_eql rfl rfl rfl) rfl ?_
 refine td_det rfl rfl (det_and rfl rfl rfl (fun h => h) rfl) ?_
 refine td_det rfl rfl (det_assign rfl rfl) ?_
 refine td_nil ?_
 refine rwp_nil ?_
 refine awp_ret ?_
 repeat (first | refine thenQ_ret ?_ | refine blockQ_ret ?_)
 refine fin1 (rs_c rfl) ?_
 exact congrArg vB (by rw [show (decide (((Nat.gcd v.N.natAbs v.D.natAbs : Nat) : Int) = 1)) = decide (Int.gcd v.N v.D = 1) from decide_eq_decide.2 (by unfold Int.gcd; omega)])

theorem value_Valid (t : Ty) (v : Vl) :
    Pur cfg 181 [vTy t, vVal v] (vB (tyOk t && valOk t v)) := by
 refine con_intro Tryz.func181 rfl Tryz.ntmps181 Tryz.results181 rfl ?_
 intro z hz
 refine awp_seq ?_
 refine awp_region rfl ?_
 refine rwp_op rfl rfl (ope_box rfl rfl) ?_
 rintro _ _ ⟨b1, rfl, rfl⟩
 refine rwp_op rfl rfl (ope_box rfl rfl) ?_
 rintro _ _ ⟨b2, rfl, rfl⟩
 refine rwp_det rfl rfl (det_assign rfl rfl) ?_
 refine rwp_nil ?_
 refine awp_seq ?_
 refine awp_seq ?_
 refine awp_region rfl ?_
 refine rwp_det rfl rfl (det_load_agg rfl agg23 rfl (ptr_row 1 rfl) rfl) ?_
 refine rwp_det rfl rfl (det_call rfl ok188 (value_ValidateType _) ⟨VLe.refl _, rfl, trivial⟩) ?_
 refine rwp_det rfl rfl (det_neq rfl rfl rfl) ?_
 refine rwp_nil ?_
 refine awp_cond rfl (fun c1 => ?_) (fun c1 => ?_)
 ·try simp only [sx, List.length_map] at c1
  have ht : tyOk t = false := tyErr_ne c1
  refine awp_seq ?_
  refine awp_region rfl ?_
  refine rwp_det rfl rfl (det_assign rfl rfl) ?_
  refine rwp_nil ?_
  refine awp_ret ?_
  repeat (first | refine thenQ_ret ?_ | refine blockQ_ret ?_)
  refine fin1 (rs_c rfl) ?_
  rw [ht]; rfl
 ·try simp only [sx, List.length_map] at c1
  have ht : tyOk t = true := tyErr_eq c1
  refine awp_skip ?_
  refine awp_seq ?_
  refine awp_seq ?_
  refine awp_region rfl ?_
  refine rwp_det rfl rfl (det_field_lit rfl fd23_0 rfl) ?_
  refine rwp_det rfl rfl (det_load_one rfl one3 rfl (ptr_row 1 rfl) rfl) ?_
  refine rwp_nil ?_
  refine awp_block ?_
  refine awp_seq ?_
  refine awp_region rfl ?_
  refine rwp_det rfl rfl (det_eql rfl rfl rfl) ?_
  refine rwp_det rfl rfl (det_assign rfl rfl) ?_
  refine rwp_nil ?_
  refine awp_cond rfl (fun c2 => ?_) (fun c2 => ?_)
  ·try simp only [sx, List.length_map] at c2
   refine awp_seq ?_
   refine awp_region rfl ?_
   refine rwp_det rfl rfl (det_load_agg rfl agg23 rfl (ptr_row 1 rfl) rfl) ?_
   refine rwp_det rfl rfl (det_load_agg rfl agg26 rfl (ptr_row 0 rfl) rfl) ?_
   refine rwp_det rfl rfl (det_call rfl ok224 (fixed_Valid _ _) ⟨VLe.refl _, rfl, VLe.refl _, rfl, trivial⟩) ?_
   refine rwp_det rfl rfl (det_assign rfl rfl) ?_
   refine rwp_nil ?_
   refine awp_ret ?_
   repeat (first | refine thenQ_ret ?_ | refine blockQ_ret ?_)
   refine fin1 (rs_c rfl) ?_
   exact congrArg vB (by rw [ht, valOk, c2, ← fix_ty c2, ht]; rfl)
  ·try simp only [sx, List.length_map] at c2
   refine awp_seq ?_
   refine awp_region rfl ?_
   refine rwp_det rfl rfl (det_eql rfl rfl rfl) ?_
   refine rwp_det rfl rfl (det_assign rfl rfl) ?_
   refine rwp_nil ?_
   refine awp_cond rfl (fun c3 => ?_) (fun c3 => ?_)
   ·try simp only [sx, List.length_map] at c3
    refine awp_seq ?_
    refine awp_region rfl ?_
    refine rwp_det rfl rfl (det_field_lit rfl fd26_1 rfl) ?_
    refine rwp_det rfl rfl (det_load_one rfl one2 rfl (ptr_row 0 rfl) rfl) ?_
    refine rwp_det rfl rfl (det_eql rfl rfl rfl) ?_
    refine rwp_det rfl rfl (det_move rfl rfl) ?_
    refine rwp_lazy [] rfl rfl rfl rfl gv1 trivial (fun g7_3 => det_field_lit rfl fd26_0 rfl) rfl ?_
    refine rwp_lazy [(21, _)] rfl rfl rfl rfl gv1 ⟨rfl, rfl, trivial⟩ (fun g7_3 => det_load_one rfl one2 rfl (ptr_row 0 rfl) rfl) rfl ?_
    refine rwp_lazy [(22, _)] rfl rfl rfl rfl gv1 ⟨rfl, rfl, trivial⟩ (fun g7_3 => det_call rfl ok225 (value_whole _) ⟨VLe.refl _, rfl, trivial⟩) rfl ?_
    refine rwp_det rfl rfl (det_and rfl rfl rfl (fun h => h) rfl) ?_
    refine rwp_det rfl rfl (det_assign rfl rfl) ?_
    refine rwp_nil ?_
    refine awp_ret ?_
    repeat (first | refine thenQ_ret ?_ | refine blockQ_ret ?_)
    refine fin1 (rs_c rfl) ?_
    exact congrArg vB (by rw [ht, valOk, dec_false c2, c3]; rfl)
   ·try simp only [sx, List.length_map] at c3
    refine awp_skip ?_
    refine awp_seq ?_
    refine awp_region rfl ?_
    refine rwp_det rfl rfl (det_load_agg rfl agg26 rfl (ptr_row 0 rfl) rfl) ?_
    refine rwp_det rfl rfl (det_call rfl ok226 (frac_Valid _) ⟨VLe.refl _, rfl, trivial⟩) ?_
    refine rwp_det rfl rfl (det_assign rfl rfl) ?_
    refine rwp_nil ?_
    refine awp_ret ?_
    repeat (first | refine thenQ_ret ?_ | refine blockQ_ret ?_)
    refine fin1 (rs_c rfl) ?_
    exact congrArg vB (by rw [ht, valOk, dec_false c2, dec_false c3]; rfl)

end Go.W
