/-
  Walks: what functions of the program compute. Printed by wip/gen/mk2.py.
  Conditions: none.
-/
import Derived.Test.YtlfjpejkoccibaaGreatDoorWA
set_option linter.unusedSimpArgs false
set_option linter.unusedVariables false
set_option maxRecDepth 10000
namespace Go.W
open Go Go.Eng Go.Proofs Go.L41 Go.Br
attribute [local irreducible] AWP RWP TD finQ
theorem agg36 : aggT Tryz.prog 36 = some 2 := by kernel_rfl
theorem agg38 : aggT Tryz.prog 38 = some 5 := by kernel_rfl
theorem fd36_0 : fieldT Tryz.prog 36 0 = some (0, 2) := by kernel_rfl
theorem fd36_1 : fieldT Tryz.prog 36 1 = some (1, 2) := by kernel_rfl
theorem fd38_0 : fieldT Tryz.prog 38 0 = some (0, 3) := by kernel_rfl
theorem fd38_1 : fieldT Tryz.prog 38 1 = some (1, 3) := by kernel_rfl
theorem fd38_2 : fieldT Tryz.prog 38 2 = some (2, 3) := by kernel_rfl
theorem fd38_3 : fieldT Tryz.prog 38 3 = some (3, 3) := by kernel_rfl
theorem fd38_4 : fieldT Tryz.prog 38 4 = some (4, 3) := by kernel_rfl
theorem fl38 : flatK Tryz.prog 38 = some [.int, .int, .int, .int, .int] := by kernel_rfl
theorem ik180 : intT Tryz.prog 180 = some .u64 := by kernel_rfl
theorem ik205 : intT Tryz.prog 205 = some .u64 := by kernel_rfl
theorem ok127 : callOk Tryz.prog 127 = true := by kernel_rfl
theorem ok161 : callOk Tryz.prog 161 = true := by kernel_rfl
theorem ok162 : callOk Tryz.prog 162 = true := by kernel_rfl
theorem ok278 : callOk Tryz.prog 278 = true := by kernel_rfl
theorem ok279 : callOk Tryz.prog 279 = true := by kernel_rfl
theorem ok280 : callOk Tryz.prog 280 = true := by kernel_rfl
theorem ok296 : callOk Tryz.prog 296 = true := by kernel_rfl
theorem ok297 : callOk Tryz.prog 297 = true := by kernel_rfl
theorem ok298 : callOk Tryz.prog 298 = true := by kernel_rfl
theorem ok299 : callOk Tryz.prog 299 = true := by kernel_rfl
theorem ok300 : callOk Tryz.prog 300 = true := by kernel_rfl
theorem ok304 : callOk Tryz.prog 304 = true := by kernel_rfl
theorem one3 : oneT Tryz.prog 3 = true := by kernel_rfl
theorem pl38 : placesT Tryz.prog 38 = some [(0, 1), (1, 1), (2, 1), (3, 1), (4, 1)] := by kernel_rfl
theorem us2 : (Tryz.prog.underlying 2).isSome = true := by kernel_rfl
theorem us3 : (Tryz.prog.underlying 3).isSome = true := by kernel_rfl
theorem zr38 : zeroT Tryz.prog 38 = some [(Value.int IntKind.i64 0), (Value.int IntKind.i64 0), (Value.int IntKind.i64 0), (Value.int IntKind.i64 0), (Value.int IntKind.i64 0)] := by kernel_rfl
theorem value_plain (t : Ty) :
    Pur cfg 161 [vTy t] (vB (plainT t)) := by
 refine con_intro Tryz.func161 rfl Tryz.ntmps161 Tryz.results161 rfl ?_
 intro z hz
 refine sReg rfl <|
  rwp_op rfl rfl (ope_box rfl rfl) ?_
 rintro _ _ ⟨b1, rfl, rfl⟩
 refine rMv rfl <|
  rwp_nil <|
  sReg rfl <|
  rwp_det rfl rfl (det_load_agg rfl agg38 rfl (ptr_row 0 rfl) rfl) <|
  rwp_det rfl rfl (det_field_lit rfl fd38_0 rfl) <|
  rwp_det rfl rfl (det_load_one rfl one3 rfl (ptr_row 0 rfl) rfl) <|
  rwp_det rfl rfl (det_build rfl zr38 pl38 rfl) <|
  rwp_det rfl rfl (det_aeql rfl fl38 rfl rfl rfl) <|
  rMv rfl <|
  rwp_nil <|
  awp_ret <|
  fin1 (rs_c rfl) ?_
 exact congrArg vB (plainT_eq t)

theorem fixed_ValidateType (t : Ty) :
    Pur cfg 162 [vTy t] (vI (bif fixOk t then 0 else 10)) := by
 refine con_intro Tryz.func162 rfl Tryz.ntmps162 Tryz.results162 rfl ?_
 intro z hz
 refine sReg rfl <|
  rwp_op rfl rfl (ope_box rfl rfl) ?_
 rintro _ _ ⟨b1, rfl, rfl⟩
 refine rMv rfl <|
  rwp_nil <|
  sReg rfl <|
  rwp_det rfl rfl (det_field_lit rfl fd38_3 rfl) <|
  rwp_det rfl rfl (det_load_one rfl one3 rfl (ptr_row 0 rfl) rfl) <|
  rwp_det rfl rfl (det_geq rfl rfl rfl) <|
  rMv rfl <|
  rLz [] rfl gv1 trivial (fun g1_3 => det_field_lit rfl fd38_3 rfl) rfl <|
  rLz [(8, _)] rfl gv1 ⟨rfl, rfl, trivial⟩ (fun g1_3 => det_load_one rfl one3 rfl (ptr_row 0 rfl) rfl) rfl <|
  rLz [(9, _)] rfl gv1 ⟨rfl, rfl, trivial⟩ (fun g1_3 => det_leq rfl rfl rfl) rfl <|
  rwp_det rfl rfl (det_and rfl rfl rfl (fun h => h) rfl) <|
  rMv rfl <|
  rLz [] rfl gv1 trivial (fun g1_8 => det_field_lit rfl fd38_4 rfl) rfl <|
  rLz [(13, _)] rfl gv1 ⟨rfl, rfl, trivial⟩ (fun g1_8 => det_load_one rfl one3 rfl (ptr_row 0 rfl) rfl) rfl <|
  rLz [(14, _)] rfl gv1 ⟨rfl, rfl, trivial⟩ (fun g1_8 => det_eql rfl rfl rfl) rfl <|
  rLz [(15, _)] rfl gv1 ⟨rfl, rfl, trivial⟩ (fun g1_8 => det_move rfl rfl) rfl <|
  rLz [] rfl gv2 trivial (fun g1_12 => det_field_lit rfl fd38_4 rfl) rfl <|
  rLz [(17, _)] rfl gv2 ⟨rfl, rfl, trivial⟩ (fun g1_12 => det_load_one rfl one3 rfl (ptr_row 0 rfl) rfl) rfl <|
  rLz [(18, _)] rfl gv2 ⟨rfl, rfl, trivial⟩ (fun g1_12 => det_eql rfl rfl rfl) rfl <|
  rLz [(16, _)] rfl gv1 ⟨rfl, rfl, trivial⟩ (fun g1_8 => det_or rfl rfl rfl rfl (fun h => and_mk (by assumption) (lzf h))) rfl <|
  rwp_det rfl rfl (det_and rfl rfl rfl (fun h => h) rfl) <|
  rMv rfl <|
  rwp_nil <|
  awp_seq <|
  sReg rfl <|
  rwp_det rfl rfl (det_field_lit rfl fd38_0 rfl) <|
  rwp_det rfl rfl (det_load_one rfl one3 rfl (ptr_row 0 rfl) rfl) <|
  rwp_det rfl rfl (det_neq rfl rfl rfl) <|
  rMv rfl <|
  rLz [] rfl gv1 trivial (fun g2_3 => det_field_lit rfl fd38_1 rfl) rfl <|
  rLz [(26, _)] rfl gv1 ⟨rfl, rfl, trivial⟩ (fun g2_3 => det_load_one rfl one3 rfl (ptr_row 0 rfl) rfl) rfl <|
  rLz [(27, _)] rfl gv1 ⟨rfl, rfl, trivial⟩ (fun g2_3 => det_lss rfl rfl rfl) rfl <|
  rwp_det rfl rfl (det_or rfl rfl rfl rfl (fun h => (lzf h))) <|
  rMv rfl <|
  rLz [] rfl gv1 trivial (fun g2_8 => det_field_lit rfl fd38_1 rfl) rfl <|
  rLz [(31, _)] rfl gv1 ⟨rfl, rfl, trivial⟩ (fun g2_8 => det_load_one rfl one3 rfl (ptr_row 0 rfl) rfl) rfl <|
  rLz [(32, _)] rfl gv1 ⟨rfl, rfl, trivial⟩ (fun g2_8 => det_gtr rfl rfl rfl) rfl <|
  rwp_det rfl rfl (det_or rfl rfl rfl rfl (fun h => (lzf h))) <|
  rMv rfl <|
  rLz [] rfl gv1 trivial (fun g2_13 => det_field_lit rfl fd38_2 rfl) rfl <|
  rLz [(36, _)] rfl gv1 ⟨rfl, rfl, trivial⟩ (fun g2_13 => det_load_one rfl one3 rfl (ptr_row 0 rfl) rfl) rfl <|
  rLz [(37, _)] rfl gv1 ⟨rfl, rfl, trivial⟩ (fun g2_13 => det_lss rfl rfl rfl) rfl <|
  rwp_det rfl rfl (det_or rfl rfl rfl rfl (fun h => (lzf h))) <|
  rMv rfl <|
  rLz [] rfl gv1 trivial (fun g2_18 => det_field_lit rfl fd38_2 rfl) rfl <|
  rLz [(41, _)] rfl gv1 ⟨rfl, rfl, trivial⟩ (fun g2_18 => det_load_one rfl one3 rfl (ptr_row 0 rfl) rfl) rfl <|
  rLz [(42, _)] rfl gv1 ⟨rfl, rfl, trivial⟩ (fun g2_18 => det_gtr rfl rfl rfl) rfl <|
  rwp_det rfl rfl (det_or rfl rfl rfl rfl (fun h => (lzf h))) <|
  rMv rfl <|
  rLz [] rfl gv1 trivial (fun g2_23 => det_move rfl rfl) rfl <|
  rLz [(46, _)] rfl gv1 ⟨rfl, rfl, trivial⟩ (fun g2_23 => det_not rfl rfl) rfl <|
  rwp_det rfl rfl (det_or rfl rfl rfl rfl (fun h => (lzf h))) <|
  rwp_nil <|
  awp_cond rfl (fun c1 => ?_) (fun c1 => ?_)
 ·refine sReg rfl <|
   rMv rfl <|
   rwp_nil <|
   awp_ret <|
   fin1 (rs_c rfl) ?_
  rw [show fixOk t = false from fix_no c1]; rfl
 ·refine awp_skip <|
   sReg rfl <|
   rMv rfl <|
   rwp_nil <|
   awp_ret <|
   fin1 (rs_c rfl) ?_
  rw [show fixOk t = true from fix_yes c1]; rfl

theorem value_ValidateType (t : Ty) :
    Pur cfg 127 [vTy t] (vI (tyErr t)) := by
 refine con_intro Tryz.func127 rfl Tryz.ntmps127 Tryz.results127 rfl ?_
 intro z hz
 refine sReg rfl <|
  rwp_op rfl rfl (ope_box rfl rfl) ?_
 rintro _ _ ⟨b1, rfl, rfl⟩
 refine rMv rfl <|
  rwp_nil <|
  awp_seq <|
  sReg rfl <|
  rwp_det rfl rfl (det_field_lit rfl fd38_0 rfl) <|
  rwp_det rfl rfl (det_load_one rfl one3 rfl (ptr_row 0 rfl) rfl) <|
  rwp_nil <|
  awp_block <|
  awp_seq <|
  sReg rfl <|
  rwp_det rfl rfl (det_eql rfl rfl rfl) <|
  rMv rfl <|
  rwp_nil <|
  awp_cond rfl (fun c1 => ?_) (fun c1 => ?_)
 ·try simp only [sx] at c1
  refine awp_skip <|
   awp_cond rfl (fun c2 => ?_) (fun c2 => ?_)
  ·try simp only [sx] at c2
   refine sReg rfl <|
    rwp_det rfl rfl (det_load_agg rfl agg38 rfl (ptr_row 0 rfl) rfl) <|
    rwp_det rfl rfl (det_call rfl ok161 (value_plain _) ⟨VLe.refl _, rfl, trivial⟩) <|
    rwp_nil <|
    awp_cond rfl (fun c3 => ?_) (fun c3 => ?_)
   ·try simp only [sx] at c3
    refine sReg rfl <|
     rMv rfl <|
     rwp_nil <|
     awp_ret <|
     fin1 (rs_c rfl) ?_
    exact congrArg vI (by first | (exfalso; omega) | (rw [tyErr, tyk1 (by omega), c3]; rfl) | (rw [tyErr, fix_ty (by omega), fxz c5]; rfl) | (rw [tyErr, fix_ty (by omega), fxn c5]; rfl) | (rw [tyErr, tyk0 (by omega) (by omega) (by omega)]; rfl))
   ·try simp only [sx] at c3
    refine awp_skip <|
     sReg rfl <|
     rMv rfl <|
     rwp_nil <|
     awp_ret <|
     fin1 (rs_c rfl) ?_
    exact congrArg vI (by first | (exfalso; omega) | (rw [tyErr, tyk1 (by omega), c3]; rfl) | (rw [tyErr, fix_ty (by omega), fxz c5]; rfl) | (rw [tyErr, fix_ty (by omega), fxn c5]; rfl) | (rw [tyErr, tyk0 (by omega) (by omega) (by omega)]; rfl))
  ·try simp only [sx] at c2
   refine sReg rfl <|
    rwp_det rfl rfl (det_eql rfl rfl rfl) <|
    rMv rfl <|
    rwp_nil <|
    awp_cond rfl (fun c4 => ?_) (fun c4 => ?_)
   ·try simp only [sx] at c4
    refine sReg rfl <|
     rwp_det rfl rfl (det_load_agg rfl agg38 rfl (ptr_row 0 rfl) rfl) <|
     rwp_det rfl rfl (det_call rfl ok162 (fixed_ValidateType _) ⟨VLe.refl _, rfl, trivial⟩) <|
     rwp_det rfl rfl (det_eql rfl rfl rfl) <|
     rwp_nil <|
     awp_cond rfl (fun c5 => ?_) (fun c5 => ?_)
    ·try simp only [sx] at c5
     refine sReg rfl <|
      rMv rfl <|
      rwp_nil <|
      awp_ret <|
      fin1 (rs_c rfl) ?_
     exact congrArg vI (by first | (exfalso; omega) | (rw [tyErr, tyk1 (by omega), c3]; rfl) | (rw [tyErr, fix_ty (by omega), fxz c5]; rfl) | (rw [tyErr, fix_ty (by omega), fxn c5]; rfl) | (rw [tyErr, tyk0 (by omega) (by omega) (by omega)]; rfl))
    ·try simp only [sx] at c5
     refine awp_skip <|
      sReg rfl <|
      rMv rfl <|
      rwp_nil <|
      awp_ret <|
      fin1 (rs_c rfl) ?_
     exact congrArg vI (by first | (exfalso; omega) | (rw [tyErr, tyk1 (by omega), c3]; rfl) | (rw [tyErr, fix_ty (by omega), fxz c5]; rfl) | (rw [tyErr, fix_ty (by omega), fxn c5]; rfl) | (rw [tyErr, tyk0 (by omega) (by omega) (by omega)]; rfl))
   ·try simp only [sx] at c4
    refine awp_skip <|
     sReg rfl <|
     rMv rfl <|
     rwp_nil <|
     awp_ret <|
     fin1 (rs_c rfl) ?_
    exact congrArg vI (by first | (exfalso; omega) | (rw [tyErr, tyk1 (by omega), c3]; rfl) | (rw [tyErr, fix_ty (by omega), fxz c5]; rfl) | (rw [tyErr, fix_ty (by omega), fxn c5]; rfl) | (rw [tyErr, tyk0 (by omega) (by omega) (by omega)]; rfl))
 ·try simp only [sx] at c1
  refine awp_region rfl <|
   rwp_det rfl rfl (det_eql rfl rfl rfl) <|
   rMv rfl <|
   rwp_nil <|
   awp_cond rfl (fun c2 => ?_) (fun c2 => ?_)
  ·try simp only [sx] at c2
   refine sReg rfl <|
    rwp_det rfl rfl (det_load_agg rfl agg38 rfl (ptr_row 0 rfl) rfl) <|
    rwp_det rfl rfl (det_call rfl ok161 (value_plain _) ⟨VLe.refl _, rfl, trivial⟩) <|
    rwp_nil <|
    awp_cond rfl (fun c3 => ?_) (fun c3 => ?_)
   ·try simp only [sx] at c3
    refine sReg rfl <|
     rMv rfl <|
     rwp_nil <|
     awp_ret <|
     fin1 (rs_c rfl) ?_
    exact congrArg vI (by first | (exfalso; omega) | (rw [tyErr, tyk1 (by omega), c3]; rfl) | (rw [tyErr, fix_ty (by omega), fxz c5]; rfl) | (rw [tyErr, fix_ty (by omega), fxn c5]; rfl) | (rw [tyErr, tyk0 (by omega) (by omega) (by omega)]; rfl))
   ·try simp only [sx] at c3
    refine awp_skip <|
     sReg rfl <|
     rMv rfl <|
     rwp_nil <|
     awp_ret <|
     fin1 (rs_c rfl) ?_
    exact congrArg vI (by first | (exfalso; omega) | (rw [tyErr, tyk1 (by omega), c3]; rfl) | (rw [tyErr, fix_ty (by omega), fxz c5]; rfl) | (rw [tyErr, fix_ty (by omega), fxn c5]; rfl) | (rw [tyErr, tyk0 (by omega) (by omega) (by omega)]; rfl))
  ·try simp only [sx] at c2
   refine sReg rfl <|
    rwp_det rfl rfl (det_eql rfl rfl rfl) <|
    rMv rfl <|
    rwp_nil <|
    awp_cond rfl (fun c4 => ?_) (fun c4 => ?_)
   ·try simp only [sx] at c4
    refine sReg rfl <|
     rwp_det rfl rfl (det_load_agg rfl agg38 rfl (ptr_row 0 rfl) rfl) <|
     rwp_det rfl rfl (det_call rfl ok162 (fixed_ValidateType _) ⟨VLe.refl _, rfl, trivial⟩) <|
     rwp_det rfl rfl (det_eql rfl rfl rfl) <|
     rwp_nil <|
     awp_cond rfl (fun c5 => ?_) (fun c5 => ?_)
    ·try simp only [sx] at c5
     refine sReg rfl <|
      rMv rfl <|
      rwp_nil <|
      awp_ret <|
      fin1 (rs_c rfl) ?_
     exact congrArg vI (by first | (exfalso; omega) | (rw [tyErr, tyk1 (by omega), c3]; rfl) | (rw [tyErr, fix_ty (by omega), fxz c5]; rfl) | (rw [tyErr, fix_ty (by omega), fxn c5]; rfl) | (rw [tyErr, tyk0 (by omega) (by omega) (by omega)]; rfl))
    ·try simp only [sx] at c5
     refine awp_skip <|
      sReg rfl <|
      rMv rfl <|
      rwp_nil <|
      awp_ret <|
      fin1 (rs_c rfl) ?_
     exact congrArg vI (by first | (exfalso; omega) | (rw [tyErr, tyk1 (by omega), c3]; rfl) | (rw [tyErr, fix_ty (by omega), fxz c5]; rfl) | (rw [tyErr, fix_ty (by omega), fxn c5]; rfl) | (rw [tyErr, tyk0 (by omega) (by omega) (by omega)]; rfl))
   ·try simp only [sx] at c4
    refine awp_skip <|
     sReg rfl <|
     rMv rfl <|
     rwp_nil <|
     awp_ret <|
     fin1 (rs_c rfl) ?_
    exact congrArg vI (by first | (exfalso; omega) | (rw [tyErr, tyk1 (by omega), c3]; rfl) | (rw [tyErr, fix_ty (by omega), fxz c5]; rfl) | (rw [tyErr, fix_ty (by omega), fxn c5]; rfl) | (rw [tyErr, tyk0 (by omega) (by omega) (by omega)]; rfl))

theorem round_valid (b : Int) :
    Pur cfg 304 [vI b] (vB (decide (2 ≤ b) && decide (b ≤ 31))) := by
 refine con_intro Tryz.func304 rfl Tryz.ntmps304 Tryz.results304 rfl ?_
 intro z hz
 refine sReg rfl <|
  rMv rfl <|
  rwp_nil <|
  sReg rfl <|
  rMv rfl <|
  rwp_det rfl rfl (det_geq rfl rfl rfl) <|
  rMv rfl <|
  rLz [] rfl gv1 trivial (fun g1_2 => det_move rfl rfl) rfl <|
  rLz [(6, _)] rfl gv1 ⟨rfl, rfl, trivial⟩ (fun g1_2 => det_leq rfl rfl rfl) rfl <|
  rwp_det rfl rfl (det_and rfl rfl rfl (fun h => h) rfl) <|
  rMv rfl <|
  rwp_nil <|
  awp_ret <|
  fin1 (rs_c rfl) ?_
 exact rfl

theorem round_MinInt (b : Int) (h1 : 2 ≤ b) (h2 : b ≤ 31) :
    Pur cfg 296 [vI b] (vI (-half b)) := by
 refine con_intro Tryz.func296 rfl Tryz.ntmps296 Tryz.results296 rfl ?_
 intro z hz
 refine sReg rfl <|
  rMv rfl <|
  rwp_nil <|
  awp_seq <|
  sReg rfl <|
  rMv rfl <|
  rwp_det rfl rfl (det_call rfl ok304 (round_valid _) ⟨VLe.refl _, rfl, trivial⟩) <|
  rwp_det rfl rfl (det_not rfl rfl) <|
  rwp_nil <|
  awp_cond rfl (fun c1 => ?_) (fun c1 => ?_)
 ·try simp only [sx] at c1
  exact absurd c1 (by omega)
 ·try simp only [sx] at c1
  refine awp_skip <|
   sReg rfl <|
   rMv rfl <|
   rwp_det rfl rfl (det_sub_nw rfl rfl rfl ⟨by omega, by omega⟩) <|
   rwp_det rfl rfl (det_conv rfl us3 ik205 rfl) <|
   rwp_det rfl rfl (det_shl rfl rfl rfl (by rw [wrap_u64 (by omega)]; omega)) <|
   rwp_det rfl rfl (det_neg rfl rfl) <|
   rMv rfl <|
   rwp_nil <|
   awp_ret <|
   fin1 (rs_c rfl) ?_
  exact congrArg vI (min_eq h1 h2)

theorem round_MaxInt (b : Int) (h1 : 2 ≤ b) (h2 : b ≤ 31) :
    Pur cfg 297 [vI b] (vI (half b - 1)) := by
 refine con_intro Tryz.func297 rfl Tryz.ntmps297 Tryz.results297 rfl ?_
 intro z hz
 refine sReg rfl <|
  rMv rfl <|
  rwp_nil <|
  awp_seq <|
  sReg rfl <|
  rMv rfl <|
  rwp_det rfl rfl (det_call rfl ok304 (round_valid _) ⟨VLe.refl _, rfl, trivial⟩) <|
  rwp_det rfl rfl (det_not rfl rfl) <|
  rwp_nil <|
  awp_cond rfl (fun c1 => ?_) (fun c1 => ?_)
 ·try simp only [sx] at c1
  exact absurd c1 (by omega)
 ·try simp only [sx] at c1
  refine awp_skip <|
   sReg rfl <|
   rMv rfl <|
   rwp_det rfl rfl (det_sub_nw rfl rfl rfl ⟨by omega, by omega⟩) <|
   rwp_det rfl rfl (det_conv rfl us3 ik205 rfl) <|
   rwp_det rfl rfl (det_shl rfl rfl rfl (by rw [wrap_u64 (by omega)]; omega)) <|
   rwp_det rfl rfl (det_sub rfl rfl rfl) <|
   rMv rfl <|
   rwp_nil <|
   awp_ret <|
   fin1 (rs_c rfl) ?_
  exact congrArg vI (max_eq h1 h2)

theorem fixed_Valid (t : Ty) (v : Vl) :
    Pur cfg 278 [vTy t, vVal v] (vB (fixOk t && (decide (v.D = 1) && decide (-half t.Bits ≤ v.N) && decide (v.N < half t.Bits)))) := by
 refine con_intro Tryz.func278 rfl Tryz.ntmps278 Tryz.results278 rfl ?_
 intro z hz
 refine sReg rfl <|
  rwp_op rfl rfl (ope_box rfl rfl) ?_
 rintro _ _ ⟨b1, rfl, rfl⟩
 refine rwp_op rfl rfl (ope_box rfl rfl) ?_
 rintro _ _ ⟨b2, rfl, rfl⟩
 refine rMv rfl <|
  rwp_nil <|
  awp_seq <|
  awp_draw 25 mixed (by kernel_rfl) rfl rfl <|
  td_det rfl rfl (det_load_agg rfl agg38 rfl (ptr_row 1 rfl) rfl) <|
  td_det rfl rfl (det_call rfl ok162 (fixed_ValidateType _) ⟨VLe.refl _, rfl, trivial⟩) <|
  td_det rfl rfl (det_eql rfl rfl rfl) <|
  td_det rfl rfl (det_move rfl rfl) <|
  td_lazy [] rfl rfl rfl rfl gv1 trivial (fun g1_3 => det_field_lit rfl fd36_1 rfl) rfl <|
  td_lazy [(9, _)] rfl rfl rfl rfl gv1 ⟨rfl, rfl, trivial⟩ (fun g1_3 => det_load_one rfl one2 rfl (ptr_row 0 rfl) rfl) rfl <|
  td_lazy [(10, _)] rfl rfl rfl rfl gv1 ⟨rfl, rfl, trivial⟩ (fun g1_3 => det_eql rfl rfl rfl) rfl <|
  td_det rfl rfl (det_and rfl rfl rfl (fun h => h) rfl) <|
  td_det rfl rfl (det_move rfl rfl) <|
  td_lazy [] rfl rfl rfl rfl gv1 trivial (fun g1_8 => det_field_lit rfl fd36_0 rfl) rfl <|
  td_lazy [(14, _)] rfl rfl rfl rfl gv1 ⟨rfl, rfl, trivial⟩ (fun g1_8 => det_load_one rfl one2 rfl (ptr_row 0 rfl) rfl) rfl <|
  td_lazy [] rfl rfl rfl rfl gv1 trivial (fun g1_8 => det_field_lit rfl fd38_1 rfl) rfl <|
  td_lazy [(16, _)] rfl rfl rfl rfl gv1 ⟨rfl, rfl, trivial⟩ (fun g1_8 => det_load_one rfl one3 rfl (ptr_row 1 rfl) rfl) rfl <|
  td_lazy [(17, _)] rfl rfl rfl rfl gv1 ⟨rfl, rfl, trivial⟩ (fun g1_8 => det_call rfl ok296 (round_MinInt _ (fixB (fxa g1_8)).1 (fixB (fxa g1_8)).2) ⟨VLe.refl _, rfl, trivial⟩) rfl <|
  td_lazy [(15, _), (18, _)] rfl rfl rfl rfl gv1 ⟨rfl, rfl, rfl, rfl, trivial⟩ (fun g1_8 => det_geq rfl rfl rfl) rfl <|
  td_det rfl rfl (det_and rfl rfl rfl (fun h => h) rfl) <|
  td_det rfl rfl (det_move rfl rfl) <|
  td_lazy [] rfl rfl rfl rfl gv1 trivial (fun g1_16 => det_field_lit rfl fd36_0 rfl) rfl <|
  td_lazy [(22, _)] rfl rfl rfl rfl gv1 ⟨rfl, rfl, trivial⟩ (fun g1_16 => det_load_one rfl one2 rfl (ptr_row 0 rfl) rfl) rfl <|
  td_lazy [] rfl rfl rfl rfl gv1 trivial (fun g1_16 => det_field_lit rfl fd38_1 rfl) rfl <|
  td_lazy [(24, _)] rfl rfl rfl rfl gv1 ⟨rfl, rfl, trivial⟩ (fun g1_16 => det_load_one rfl one3 rfl (ptr_row 1 rfl) rfl) rfl <|
  td_lazy [(25, _)] rfl rfl rfl rfl gv1 ⟨rfl, rfl, trivial⟩ (fun g1_16 => det_call rfl ok297 (round_MaxInt _ (fixB (fxb g1_16)).1 (fixB (fxb g1_16)).2) ⟨VLe.refl _, rfl, trivial⟩) rfl <|
  td_lazy [(23, _), (26, _)] rfl rfl rfl rfl gv1 ⟨rfl, rfl, rfl, rfl, trivial⟩ (fun g1_16 => det_leq rfl rfl rfl) rfl <|
  td_det rfl rfl (det_and rfl rfl rfl (fun h => h) rfl) <|
  td_det rfl rfl (det_assign rfl rfl) <|
  td_nil <|
  rwp_nil <|
  awp_ret <|
  fin1 (rs_c rfl) ?_
 exact congrArg vB (fixV t v)

theorem value_whole (n : Int) :
    Pur cfg 279 [vI n] (vB (num31 n)) := by
 refine con_intro Tryz.func279 rfl Tryz.ntmps279 Tryz.results279 rfl ?_
 intro z hz
 refine sReg rfl <|
  rMv rfl <|
  rwp_nil <|
  sReg rfl <|
  rMv rfl <|
  rwp_det rfl rfl (det_geq rfl rfl rfl) <|
  rMv rfl <|
  rLz [] rfl gv1 trivial (fun g1_2 => det_move rfl rfl) rfl <|
  rLz [(6, _)] rfl gv1 ⟨rfl, rfl, trivial⟩ (fun g1_2 => det_leq rfl rfl rfl) rfl <|
  rwp_det rfl rfl (det_and rfl rfl rfl (fun h => h) rfl) <|
  rMv rfl <|
  rwp_nil <|
  awp_ret <|
  fin1 (rs_c rfl) ?_
 exact rfl

theorem frac_inRange (n : Int) :
    Pur cfg 298 [vI n] (vB (num31 n)) := by
 refine con_intro Tryz.func298 rfl Tryz.ntmps298 Tryz.results298 rfl ?_
 intro z hz
 refine sReg rfl <|
  rMv rfl <|
  rwp_nil <|
  sReg rfl <|
  rMv rfl <|
  rwp_det rfl rfl (det_geq rfl rfl rfl) <|
  rMv rfl <|
  rLz [] rfl gv1 trivial (fun g1_2 => det_move rfl rfl) rfl <|
  rLz [(6, _)] rfl gv1 ⟨rfl, rfl, trivial⟩ (fun g1_2 => det_leq rfl rfl rfl) rfl <|
  rwp_det rfl rfl (det_and rfl rfl rfl (fun h => h) rfl) <|
  rMv rfl <|
  rwp_nil <|
  awp_ret <|
  fin1 (rs_c rfl) ?_
 exact rfl

theorem frac_magnitude (n : Int) (hn : -9223372036854775808 ≤ n) (hm : n ≤ 9223372036854775807) :
    Pur cfg 300 [vI n] (vU64 n.natAbs) := by
 refine con_intro Tryz.func300 rfl Tryz.ntmps300 Tryz.results300 rfl ?_
 intro z hz
 refine sReg rfl <|
  rMv rfl <|
  rwp_nil <|
  awp_seq <|
  sReg rfl <|
  rMv rfl <|
  rwp_det rfl rfl (det_lss rfl rfl rfl) <|
  rwp_nil <|
  awp_cond rfl (fun c1 => ?_) (fun c1 => ?_)
 ·try simp only [sx] at c1
  refine sReg rfl <|
   rMv rfl <|
   rwp_det rfl rfl (det_conv rfl us2 ik180 rfl) <|
   rwp_det rfl rfl (det_neg rfl rfl) <|
   rMv rfl <|
   rwp_nil <|
   awp_ret <|
   fin1 (rs_c rfl) ?_
  exact congrArg vU64 (mag_neg c1 hn)
 ·try simp only [sx] at c1
  refine awp_skip <|
   sReg rfl <|
   rMv rfl <|
   rwp_det rfl rfl (det_conv rfl us2 ik180 rfl) <|
   rMv rfl <|
   rwp_nil <|
   awp_ret <|
   fin1 (rs_c rfl) ?_
  exact congrArg vU64 (mag_pos (by omega) hm)

theorem frac_gcd (a b : Nat) :
    Pur cfg 299 [vU64 a, vU64 b] (vU64 (Nat.gcd a b)) := by
 refine con_intro Tryz.func299 rfl Tryz.ntmps299 Tryz.results299 rfl ?_
 intro z hz
 refine sReg rfl <|
  rMv rfl <|
  rwp_nil <|
  awp_seq <|
  awp_block <|
  awp_weak ⟨[(0, .c _), (1, .c _)], []⟩ (Weak.mk [] ⟨VLe.of_eq rfl, VLe.of_eq rfl, trivial⟩ rfl) <|
  awp_loop_k 2 0 rfl rfl (Nat × Nat) (fun ⟨x, y⟩ => [(0, vU64 x), (1, vU64 y)]) (fun ⟨x, y⟩ => []) (fun ⟨x, y⟩ => Nat.gcd a b = Nat.gcd x y) (fun ⟨x, y⟩ => y) ⟨⟨a, b⟩, rfl, Weak.mk [] ⟨VLe.refl _, VLe.refl _, trivial⟩ rfl⟩ ?_
 rintro ⟨x, y⟩ hg
 refine awp_seq <|
  sReg rfl <|
  rMv rfl <|
  rwp_det rfl rfl (det_neq rfl rfl rfl) <|
  rwp_nil <|
  awp_cond rfl (fun c1 => ?_) (fun c1 => ?_)
 ·try simp only [sx] at c1
  refine awp_skip <|
   awp_block <|
   awp_draw 6 mixed (by kernel_rfl) rfl rfl <|
   td_det rfl rfl (det_move rfl rfl) <|
   td_det rfl rfl (det_move rfl rfl) <|
   td_det rfl rfl (det_move rfl rfl) <|
   td_det rfl rfl (det_rem rfl rfl rfl (by omega)) <|
   td_det rfl rfl (det_assign rfl rfl) <|
   td_det rfl rfl (det_assign rfl rfl) <|
   td_nil <|
   rwp_nil ?_
  refine ⟨⟨y, x % y⟩, (by rw [hg]; exact gcd_step (by omega)), (Nat.mod_lt _ (by omega)), Weak.mk [] ⟨VLe.refl _, VLe.of_eq (congrArg vU64 (Int.ofNat_tmod x y).symm), trivial⟩ rfl⟩
 ·try simp only [sx] at c1
  refine awp_exit <|
   sReg rfl <|
   rMv rfl <|
   rMv rfl <|
   rwp_nil <|
   awp_ret <|
   fin1 (rs_c rfl) ?_
  exact congrArg vU64 (by rw [hg, show y = 0 by omega, Nat.gcd_zero_right])

theorem frac_Valid (v : Vl) :
    Pur cfg 280 [vVal v] (vB (decide (1 ≤ v.D) && decide (v.D ≤ 2147483647) && num31 v.N && decide (Int.gcd v.N v.D = 1))) := by
 refine con_intro Tryz.func280 rfl Tryz.ntmps280 Tryz.results280 rfl ?_
 intro z hz
 refine sReg rfl <|
  rwp_op rfl rfl (ope_box rfl rfl) ?_
 rintro _ _ ⟨b1, rfl, rfl⟩
 refine rMv rfl <|
  rwp_nil <|
  awp_seq <|
  awp_draw 24 mixed (by kernel_rfl) rfl rfl <|
  td_det rfl rfl (det_field_lit rfl fd36_1 rfl) <|
  td_det rfl rfl (det_load_one rfl one2 rfl (ptr_row 0 rfl) rfl) <|
  td_det rfl rfl (det_geq rfl rfl rfl) <|
  td_det rfl rfl (det_move rfl rfl) <|
  td_lazy [] rfl rfl rfl rfl gv1 trivial (fun g1_3 => det_field_lit rfl fd36_1 rfl) rfl <|
  td_lazy [(7, _)] rfl rfl rfl rfl gv1 ⟨rfl, rfl, trivial⟩ (fun g1_3 => det_load_one rfl one2 rfl (ptr_row 0 rfl) rfl) rfl <|
  td_lazy [(8, _)] rfl rfl rfl rfl gv1 ⟨rfl, rfl, trivial⟩ (fun g1_3 => det_leq rfl rfl rfl) rfl <|
  td_det rfl rfl (det_and rfl rfl rfl (fun h => h) rfl) <|
  td_det rfl rfl (det_move rfl rfl) <|
  td_lazy [] rfl rfl rfl rfl gv1 trivial (fun g1_8 => det_field_lit rfl fd36_0 rfl) rfl <|
  td_lazy [(12, _)] rfl rfl rfl rfl gv1 ⟨rfl, rfl, trivial⟩ (fun g1_8 => det_load_one rfl one2 rfl (ptr_row 0 rfl) rfl) rfl <|
  td_lazy [(13, _)] rfl rfl rfl rfl gv1 ⟨rfl, rfl, trivial⟩ (fun g1_8 => det_call rfl ok298 (frac_inRange _) ⟨VLe.refl _, rfl, trivial⟩) rfl <|
  td_det rfl rfl (det_and rfl rfl rfl (fun h => h) rfl) <|
  td_det rfl rfl (det_move rfl rfl) <|
  td_lazy [] rfl rfl rfl rfl gv1 trivial (fun g1_13 => det_field_lit rfl fd36_0 rfl) rfl <|
  td_lazy [(17, _)] rfl rfl rfl rfl gv1 ⟨rfl, rfl, trivial⟩ (fun g1_13 => det_load_one rfl one2 rfl (ptr_row 0 rfl) rfl) rfl <|
  td_lazy [(18, _)] rfl rfl rfl rfl gv1 ⟨rfl, rfl, trivial⟩ (fun g1_13 => det_call rfl ok300 (frac_magnitude v.N (frV g1_13).2.2.1 (frV g1_13).2.2.2) ⟨VLe.refl _, rfl, trivial⟩) rfl <|
  td_lazy [] rfl rfl rfl rfl gv1 trivial (fun g1_13 => det_field_lit rfl fd36_1 rfl) rfl <|
  td_lazy [(20, _)] rfl rfl rfl rfl gv1 ⟨rfl, rfl, trivial⟩ (fun g1_13 => det_load_one rfl one2 rfl (ptr_row 0 rfl) rfl) rfl <|
  td_lazy [(21, _)] rfl rfl rfl rfl gv1 ⟨rfl, rfl, trivial⟩ (fun g1_13 => det_conv rfl us2 ik180 rfl) rfl <|
  td_lazy [(19, _), (22, _)] rfl rfl rfl rfl gv1 ⟨rfl, rfl, rfl, rfl, trivial⟩ (fun g1_13 => det_call rfl ok299 (show Pur cfg 299 [vU64 v.N.natAbs, vU64 (IntKind.u64.wrap v.D)] (vU64 (Nat.gcd v.N.natAbs v.D.natAbs)) from by rw [u64_D (frV g1_13).1 (frV g1_13).2.1]; exact frac_gcd _ _) ⟨VLe.refl _, rfl, VLe.refl _, rfl, trivial⟩) rfl <|
  td_lazy [(23, _)] rfl rfl rfl rfl gv1 ⟨rfl, rfl, trivial⟩ (fun g1_13 => det_eql rfl rfl rfl) rfl <|
  td_det rfl rfl (det_and rfl rfl rfl (fun h => h) rfl) <|
  td_det rfl rfl (det_assign rfl rfl) <|
  td_nil <|
  rwp_nil <|
  awp_ret <|
  fin1 (rs_c rfl) ?_
 exact congrArg vB (by rw [show (decide (((Nat.gcd v.N.natAbs v.D.natAbs : Nat) : Int) = 1)) = decide (Int.gcd v.N v.D = 1) from decide_eq_decide.2 (by unfold Int.gcd; omega)])

theorem value_Valid (t : Ty) (v : Vl) :
    Pur cfg 240 [vTy t, vVal v] (vB (tyOk t && valOk t v)) := by
 refine con_intro Tryz.func240 rfl Tryz.ntmps240 Tryz.results240 rfl ?_
 intro z hz
 refine sReg rfl <|
  rwp_op rfl rfl (ope_box rfl rfl) ?_
 rintro _ _ ⟨b1, rfl, rfl⟩
 refine rwp_op rfl rfl (ope_box rfl rfl) ?_
 rintro _ _ ⟨b2, rfl, rfl⟩
 refine rMv rfl <|
  rwp_nil <|
  awp_seq <|
  sReg rfl <|
  rwp_det rfl rfl (det_load_agg rfl agg38 rfl (ptr_row 1 rfl) rfl) <|
  rwp_det rfl rfl (det_call rfl ok127 (value_ValidateType _) ⟨VLe.refl _, rfl, trivial⟩) <|
  rwp_det rfl rfl (det_neq rfl rfl rfl) <|
  rwp_nil <|
  awp_cond rfl (fun c1 => ?_) (fun c1 => ?_)
 ·try simp only [sx] at c1
  have ht : tyOk t = false := tyErr_ne c1
  refine sReg rfl <|
   rMv rfl <|
   rwp_nil <|
   awp_ret <|
   fin1 (rs_c rfl) ?_
  rw [ht]; rfl
 ·try simp only [sx] at c1
  have ht : tyOk t = true := tyErr_eq c1
  refine awp_skip <|
   awp_seq <|
   sReg rfl <|
   rwp_det rfl rfl (det_field_lit rfl fd38_0 rfl) <|
   rwp_det rfl rfl (det_load_one rfl one3 rfl (ptr_row 1 rfl) rfl) <|
   rwp_nil <|
   awp_block <|
   sReg rfl <|
   rwp_det rfl rfl (det_eql rfl rfl rfl) <|
   rMv rfl <|
   rwp_nil <|
   awp_cond rfl (fun c2 => ?_) (fun c2 => ?_)
  ·try simp only [sx] at c2
   refine sReg rfl <|
    rwp_det rfl rfl (det_load_agg rfl agg38 rfl (ptr_row 1 rfl) rfl) <|
    rwp_det rfl rfl (det_load_agg rfl agg36 rfl (ptr_row 0 rfl) rfl) <|
    rwp_det rfl rfl (det_call rfl ok278 (fixed_Valid _ _) ⟨VLe.refl _, rfl, VLe.refl _, rfl, trivial⟩) <|
    rMv rfl <|
    rwp_nil <|
    awp_ret <|
    fin1 (rs_c rfl) ?_
   exact congrArg vB (by rw [ht, valOk, c2, ← fix_ty c2, ht]; rfl)
  ·try simp only [sx] at c2
   refine sReg rfl <|
    rwp_det rfl rfl (det_eql rfl rfl rfl) <|
    rMv rfl <|
    rwp_nil <|
    awp_cond rfl (fun c3 => ?_) (fun c3 => ?_)
   ·try simp only [sx] at c3
    refine sReg rfl <|
     rwp_det rfl rfl (det_field_lit rfl fd36_1 rfl) <|
     rwp_det rfl rfl (det_load_one rfl one2 rfl (ptr_row 0 rfl) rfl) <|
     rwp_det rfl rfl (det_eql rfl rfl rfl) <|
     rMv rfl <|
     rLz [] rfl gv1 trivial (fun g7_3 => det_field_lit rfl fd36_0 rfl) rfl <|
     rLz [(21, _)] rfl gv1 ⟨rfl, rfl, trivial⟩ (fun g7_3 => det_load_one rfl one2 rfl (ptr_row 0 rfl) rfl) rfl <|
     rLz [(22, _)] rfl gv1 ⟨rfl, rfl, trivial⟩ (fun g7_3 => det_call rfl ok279 (value_whole _) ⟨VLe.refl _, rfl, trivial⟩) rfl <|
     rwp_det rfl rfl (det_and rfl rfl rfl (fun h => h) rfl) <|
     rMv rfl <|
     rwp_nil <|
     awp_ret <|
     fin1 (rs_c rfl) ?_
    exact congrArg vB (by rw [ht, valOk, dec_false c2, c3]; rfl)
   ·try simp only [sx] at c3
    refine awp_skip <|
     sReg rfl <|
     rwp_det rfl rfl (det_load_agg rfl agg36 rfl (ptr_row 0 rfl) rfl) <|
     rwp_det rfl rfl (det_call rfl ok280 (frac_Valid _) ⟨VLe.refl _, rfl, trivial⟩) <|
     rMv rfl <|
     rwp_nil <|
     awp_ret <|
     fin1 (rs_c rfl) ?_
    exact congrArg vB (by rw [ht, valOk, dec_false c2, dec_false c3]; rfl)

end Go.W
