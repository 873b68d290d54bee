/-
  Walks: what functions of the program compute. Printed by wip/gen/mk2.py.
  Conditions: none.
-/
import Derived.Test.YtdbflnlalkfeeaaGreatDoorWB
set_option linter.unusedSimpArgs false
set_option linter.unusedVariables false
set_option maxRecDepth 10000
namespace Go.W
open Go Go.Eng Go.Proofs Go.L41 Go.Br
attribute [local irreducible] AWP RWP TD finQ
theorem agg49 : aggT Tryz.prog 49 = some 2 := by kernel_rfl
theorem agg52 : aggT Tryz.prog 52 = some 13 := by kernel_rfl
theorem el50 : elemT Tryz.prog 50 = some (52, 13, 160) := by kernel_rfl
theorem el112 : elemT Tryz.prog 112 = some (49, 2, 32) := by kernel_rfl
theorem fd52_0 : fieldT Tryz.prog 52 0 = some (0, 3) := by kernel_rfl
theorem fd52_1 : fieldT Tryz.prog 52 1 = some (1, 9) := by kernel_rfl
theorem fd52_2 : fieldT Tryz.prog 52 2 = some (2, 46) := by kernel_rfl
theorem fd52_3 : fieldT Tryz.prog 52 3 = some (4, 40) := by kernel_rfl
theorem fd52_4 : fieldT Tryz.prog 52 4 = some (9, 49) := by kernel_rfl
theorem fd52_5 : fieldT Tryz.prog 52 5 = some (11, 44) := by kernel_rfl
theorem fd52_6 : fieldT Tryz.prog 52 6 = some (12, 50) := by kernel_rfl
theorem fd114_0 : fieldT Tryz.prog 114 0 = some (0, 49) := by kernel_rfl
theorem fd114_1 : fieldT Tryz.prog 114 1 = some (2, 9) := by kernel_rfl
theorem fd114_2 : fieldT Tryz.prog 114 2 = some (3, 112) := by kernel_rfl
theorem fl46 : flatK Tryz.prog 46 = some [.int, .int] := by kernel_rfl
theorem ok66 : callOk Tryz.prog 66 = true := by kernel_rfl
theorem ok164 : callOk Tryz.prog 164 = true := by kernel_rfl
theorem ok259 : callOk Tryz.prog 259 = true := by kernel_rfl
theorem ok283 : callOk Tryz.prog 283 = true := by kernel_rfl
theorem ok284 : callOk Tryz.prog 284 = true := by kernel_rfl
theorem ok285 : callOk Tryz.prog 285 = true := by kernel_rfl
theorem ok286 : callOk Tryz.prog 286 = true := by kernel_rfl
theorem ok287 : callOk Tryz.prog 287 = true := by kernel_rfl
theorem ok288 : callOk Tryz.prog 288 = true := by kernel_rfl
theorem ok289 : callOk Tryz.prog 289 = true := by kernel_rfl
theorem ok290 : callOk Tryz.prog 290 = true := by kernel_rfl
theorem one44 : oneT Tryz.prog 44 = true := by kernel_rfl
theorem one50 : oneT Tryz.prog 50 = true := by kernel_rfl
theorem one112 : oneT Tryz.prog 112 = true := by kernel_rfl
theorem pl46 : placesT Tryz.prog 46 = some [(0, 1), (1, 1)] := by kernel_rfl
theorem sz52 : (Tryz.prog.info? 52).map (·.size) = some 13 := by kernel_rfl
theorem sz114 : (Tryz.prog.info? 114).map (·.size) = some 4 := by kernel_rfl
theorem un4 : Tryz.prog.underlying 4 = some .bool := by kernel_rfl
theorem zr46 : zeroT Tryz.prog 46 = some [(Value.int IntKind.i64 0), (Value.int IntKind.i64 0)] := by kernel_rfl
theorem zr52 : zeroT Tryz.prog 52 = some [(Value.int IntKind.i64 0), (Value.string (ByteArray.mk #[])), (Value.int IntKind.i64 0), (Value.int IntKind.i64 0), (Value.int IntKind.i64 0), (Value.int IntKind.i64 0), (Value.int IntKind.i64 0), (Value.int IntKind.i64 0), (Value.int IntKind.i64 0), (Value.int IntKind.i64 0), (Value.slice none 0 0), (Value.slice none 0 0), (Value.slice none 0 0)] := by kernel_rfl
theorem zr114 : zeroT Tryz.prog 114 = some [(Value.int IntKind.i64 0), (Value.slice none 0 0), (Value.string (ByteArray.mk #[])), (Value.slice none 0 0)] := by kernel_rfl
theorem expr_operands (op : Int) :
    Pur cfg 288 [vI op] (vI (nArgs op)) := by
 refine con_intro Tryz.func288 rfl Tryz.ntmps288 Tryz.results288 rfl ?_
 intro z hz
 refine sReg rfl <|
  rMv rfl <|
  rwp_nil <|
  awp_seq <|
  sReg rfl <|
  rMv rfl <|
  rwp_nil <|
  awp_block <|
  awp_seq <|
  sReg rfl <|
  rwp_det rfl rfl (det_eql rfl rfl rfl) <|
  rMv rfl <|
  rwp_nil <|
  awp_cond rfl (fun c1 => ?_) (fun c1 => ?_)
 ·try simp only [sx] at c1
  refine awp_skip <|
   awp_cond rfl (fun c3 => ?_) (fun c3 => ?_)
  ·try simp only [sx] at c3
   refine sReg rfl <|
    rMv rfl <|
    rwp_nil <|
    awp_ret <|
    fin1 (rs_c rfl) ?_
   exact congrArg vI (by unfold nArgs; (repeat' split) <;> omega)
  ·try simp only [sx] at c3
   refine awp_seq <|
    sReg rfl <|
    rwp_det rfl rfl (det_eql rfl rfl rfl) <|
    rMv rfl <|
    rwp_nil <|
    awp_cond rfl (fun c4 => ?_) (fun c4 => ?_)
   ·try simp only [sx] at c4
    refine awp_skip <|
     awp_cond rfl (fun c6 => ?_) (fun c6 => ?_)
    ·try simp only [sx] at c6
     refine sReg rfl <|
      rMv rfl <|
      rwp_nil <|
      awp_ret <|
      fin1 (rs_c rfl) ?_
     exact congrArg vI (by unfold nArgs; (repeat' split) <;> omega)
    ·try simp only [sx] at c6
     refine sReg rfl <|
      rwp_det rfl rfl (det_eql rfl rfl rfl) <|
      rMv rfl <|
      rwp_nil <|
      awp_cond rfl (fun c7 => ?_) (fun c7 => ?_)
     ·try simp only [sx] at c7
      refine sReg rfl <|
       rMv rfl <|
       rwp_nil <|
       awp_ret <|
       fin1 (rs_c rfl) ?_
      exact congrArg vI (by unfold nArgs; (repeat' split) <;> omega)
     ·try simp only [sx] at c7
      refine awp_skip <|
       sReg rfl <|
       rMv rfl <|
       rwp_nil <|
       awp_ret <|
       fin1 (rs_c rfl) ?_
      exact congrArg vI (by unfold nArgs; (repeat' split) <;> omega)
   ·try simp only [sx] at c4
    refine sReg rfl <|
     rwp_det rfl rfl (det_eql rfl rfl rfl) <|
     rMv rfl <|
     rwp_nil <|
     awp_cond rfl (fun c5 => ?_) (fun c5 => ?_)
    ·try simp only [sx] at c5
     refine awp_skip <|
      awp_cond rfl (fun c6 => ?_) (fun c6 => ?_)
     ·try simp only [sx] at c6
      refine sReg rfl <|
       rMv rfl <|
       rwp_nil <|
       awp_ret <|
       fin1 (rs_c rfl) ?_
      exact congrArg vI (by unfold nArgs; (repeat' split) <;> omega)
     ·try simp only [sx] at c6
      refine sReg rfl <|
       rwp_det rfl rfl (det_eql rfl rfl rfl) <|
       rMv rfl <|
       rwp_nil <|
       awp_cond rfl (fun c7 => ?_) (fun c7 => ?_)
      ·try simp only [sx] at c7
       refine sReg rfl <|
        rMv rfl <|
        rwp_nil <|
        awp_ret <|
        fin1 (rs_c rfl) ?_
       exact congrArg vI (by unfold nArgs; (repeat' split) <;> omega)
      ·try simp only [sx] at c7
       refine awp_skip <|
        sReg rfl <|
        rMv rfl <|
        rwp_nil <|
        awp_ret <|
        fin1 (rs_c rfl) ?_
       exact congrArg vI (by unfold nArgs; (repeat' split) <;> omega)
    ·try simp only [sx] at c5
     refine awp_region rfl <|
      rwp_det rfl rfl (det_eql rfl rfl rfl) <|
      rMv rfl <|
      rwp_nil <|
      awp_cond rfl (fun c6 => ?_) (fun c6 => ?_)
     ·try simp only [sx] at c6
      refine sReg rfl <|
       rMv rfl <|
       rwp_nil <|
       awp_ret <|
       fin1 (rs_c rfl) ?_
      exact congrArg vI (by unfold nArgs; (repeat' split) <;> omega)
     ·try simp only [sx] at c6
      refine sReg rfl <|
       rwp_det rfl rfl (det_eql rfl rfl rfl) <|
       rMv rfl <|
       rwp_nil <|
       awp_cond rfl (fun c7 => ?_) (fun c7 => ?_)
      ·try simp only [sx] at c7
       refine sReg rfl <|
        rMv rfl <|
        rwp_nil <|
        awp_ret <|
        fin1 (rs_c rfl) ?_
       exact congrArg vI (by unfold nArgs; (repeat' split) <;> omega)
      ·try simp only [sx] at c7
       refine awp_skip <|
        sReg rfl <|
        rMv rfl <|
        rwp_nil <|
        awp_ret <|
        fin1 (rs_c rfl) ?_
       exact congrArg vI (by unfold nArgs; (repeat' split) <;> omega)
 ·try simp only [sx] at c1
  refine sReg rfl <|
   rwp_det rfl rfl (det_eql rfl rfl rfl) <|
   rMv rfl <|
   rwp_nil <|
   awp_cond rfl (fun c2 => ?_) (fun c2 => ?_)
  ·try simp only [sx] at c2
   refine awp_skip <|
    awp_cond rfl (fun c3 => ?_) (fun c3 => ?_)
   ·try simp only [sx] at c3
    refine sReg rfl <|
     rMv rfl <|
     rwp_nil <|
     awp_ret <|
     fin1 (rs_c rfl) ?_
    exact congrArg vI (by unfold nArgs; (repeat' split) <;> omega)
   ·try simp only [sx] at c3
    refine awp_seq <|
     sReg rfl <|
     rwp_det rfl rfl (det_eql rfl rfl rfl) <|
     rMv rfl <|
     rwp_nil <|
     awp_cond rfl (fun c4 => ?_) (fun c4 => ?_)
    ·try simp only [sx] at c4
     refine awp_skip <|
      awp_cond rfl (fun c6 => ?_) (fun c6 => ?_)
     ·try simp only [sx] at c6
      refine sReg rfl <|
       rMv rfl <|
       rwp_nil <|
       awp_ret <|
       fin1 (rs_c rfl) ?_
      exact congrArg vI (by unfold nArgs; (repeat' split) <;> omega)
     ·try simp only [sx] at c6
      refine sReg rfl <|
       rwp_det rfl rfl (det_eql rfl rfl rfl) <|
       rMv rfl <|
       rwp_nil <|
       awp_cond rfl (fun c7 => ?_) (fun c7 => ?_)
      ·try simp only [sx] at c7
       refine sReg rfl <|
        rMv rfl <|
        rwp_nil <|
        awp_ret <|
        fin1 (rs_c rfl) ?_
       exact congrArg vI (by unfold nArgs; (repeat' split) <;> omega)
      ·try simp only [sx] at c7
       refine awp_skip <|
        sReg rfl <|
        rMv rfl <|
        rwp_nil <|
        awp_ret <|
        fin1 (rs_c rfl) ?_
       exact congrArg vI (by unfold nArgs; (repeat' split) <;> omega)
    ·try simp only [sx] at c4
     refine sReg rfl <|
      rwp_det rfl rfl (det_eql rfl rfl rfl) <|
      rMv rfl <|
      rwp_nil <|
      awp_cond rfl (fun c5 => ?_) (fun c5 => ?_)
     ·try simp only [sx] at c5
      refine awp_skip <|
       awp_cond rfl (fun c6 => ?_) (fun c6 => ?_)
      ·try simp only [sx] at c6
       refine sReg rfl <|
        rMv rfl <|
        rwp_nil <|
        awp_ret <|
        fin1 (rs_c rfl) ?_
       exact congrArg vI (by unfold nArgs; (repeat' split) <;> omega)
      ·try simp only [sx] at c6
       refine sReg rfl <|
        rwp_det rfl rfl (det_eql rfl rfl rfl) <|
        rMv rfl <|
        rwp_nil <|
        awp_cond rfl (fun c7 => ?_) (fun c7 => ?_)
       ·try simp only [sx] at c7
        refine sReg rfl <|
         rMv rfl <|
         rwp_nil <|
         awp_ret <|
         fin1 (rs_c rfl) ?_
        exact congrArg vI (by unfold nArgs; (repeat' split) <;> omega)
       ·try simp only [sx] at c7
        refine awp_skip <|
         sReg rfl <|
         rMv rfl <|
         rwp_nil <|
         awp_ret <|
         fin1 (rs_c rfl) ?_
        exact congrArg vI (by unfold nArgs; (repeat' split) <;> omega)
     ·try simp only [sx] at c5
      refine awp_region rfl <|
       rwp_det rfl rfl (det_eql rfl rfl rfl) <|
       rMv rfl <|
       rwp_nil <|
       awp_cond rfl (fun c6 => ?_) (fun c6 => ?_)
      ·try simp only [sx] at c6
       refine sReg rfl <|
        rMv rfl <|
        rwp_nil <|
        awp_ret <|
        fin1 (rs_c rfl) ?_
       exact congrArg vI (by unfold nArgs; (repeat' split) <;> omega)
      ·try simp only [sx] at c6
       refine sReg rfl <|
        rwp_det rfl rfl (det_eql rfl rfl rfl) <|
        rMv rfl <|
        rwp_nil <|
        awp_cond rfl (fun c7 => ?_) (fun c7 => ?_)
       ·try simp only [sx] at c7
        refine sReg rfl <|
         rMv rfl <|
         rwp_nil <|
         awp_ret <|
         fin1 (rs_c rfl) ?_
        exact congrArg vI (by unfold nArgs; (repeat' split) <;> omega)
       ·try simp only [sx] at c7
        refine awp_skip <|
         sReg rfl <|
         rMv rfl <|
         rwp_nil <|
         awp_ret <|
         fin1 (rs_c rfl) ?_
        exact congrArg vI (by unfold nArgs; (repeat' split) <;> omega)
  ·try simp only [sx] at c2
   refine awp_region rfl <|
    rwp_det rfl rfl (det_eql rfl rfl rfl) <|
    rMv rfl <|
    rwp_nil <|
    awp_cond rfl (fun c3 => ?_) (fun c3 => ?_)
   ·try simp only [sx] at c3
    refine sReg rfl <|
     rMv rfl <|
     rwp_nil <|
     awp_ret <|
     fin1 (rs_c rfl) ?_
    exact congrArg vI (by unfold nArgs; (repeat' split) <;> omega)
   ·try simp only [sx] at c3
    refine awp_seq <|
     sReg rfl <|
     rwp_det rfl rfl (det_eql rfl rfl rfl) <|
     rMv rfl <|
     rwp_nil <|
     awp_cond rfl (fun c4 => ?_) (fun c4 => ?_)
    ·try simp only [sx] at c4
     refine awp_skip <|
      awp_cond rfl (fun c6 => ?_) (fun c6 => ?_)
     ·try simp only [sx] at c6
      refine sReg rfl <|
       rMv rfl <|
       rwp_nil <|
       awp_ret <|
       fin1 (rs_c rfl) ?_
      exact congrArg vI (by unfold nArgs; (repeat' split) <;> omega)
     ·try simp only [sx] at c6
      refine sReg rfl <|
       rwp_det rfl rfl (det_eql rfl rfl rfl) <|
       rMv rfl <|
       rwp_nil <|
       awp_cond rfl (fun c7 => ?_) (fun c7 => ?_)
      ·try simp only [sx] at c7
       refine sReg rfl <|
        rMv rfl <|
        rwp_nil <|
        awp_ret <|
        fin1 (rs_c rfl) ?_
       exact congrArg vI (by unfold nArgs; (repeat' split) <;> omega)
      ·try simp only [sx] at c7
       refine awp_skip <|
        sReg rfl <|
        rMv rfl <|
        rwp_nil <|
        awp_ret <|
        fin1 (rs_c rfl) ?_
       exact congrArg vI (by unfold nArgs; (repeat' split) <;> omega)
    ·try simp only [sx] at c4
     refine sReg rfl <|
      rwp_det rfl rfl (det_eql rfl rfl rfl) <|
      rMv rfl <|
      rwp_nil <|
      awp_cond rfl (fun c5 => ?_) (fun c5 => ?_)
     ·try simp only [sx] at c5
      refine awp_skip <|
       awp_cond rfl (fun c6 => ?_) (fun c6 => ?_)
      ·try simp only [sx] at c6
       refine sReg rfl <|
        rMv rfl <|
        rwp_nil <|
        awp_ret <|
        fin1 (rs_c rfl) ?_
       exact congrArg vI (by unfold nArgs; (repeat' split) <;> omega)
      ·try simp only [sx] at c6
       refine sReg rfl <|
        rwp_det rfl rfl (det_eql rfl rfl rfl) <|
        rMv rfl <|
        rwp_nil <|
        awp_cond rfl (fun c7 => ?_) (fun c7 => ?_)
       ·try simp only [sx] at c7
        refine sReg rfl <|
         rMv rfl <|
         rwp_nil <|
         awp_ret <|
         fin1 (rs_c rfl) ?_
        exact congrArg vI (by unfold nArgs; (repeat' split) <;> omega)
       ·try simp only [sx] at c7
        refine awp_skip <|
         sReg rfl <|
         rMv rfl <|
         rwp_nil <|
         awp_ret <|
         fin1 (rs_c rfl) ?_
        exact congrArg vI (by unfold nArgs; (repeat' split) <;> omega)
     ·try simp only [sx] at c5
      refine awp_region rfl <|
       rwp_det rfl rfl (det_eql rfl rfl rfl) <|
       rMv rfl <|
       rwp_nil <|
       awp_cond rfl (fun c6 => ?_) (fun c6 => ?_)
      ·try simp only [sx] at c6
       refine sReg rfl <|
        rMv rfl <|
        rwp_nil <|
        awp_ret <|
        fin1 (rs_c rfl) ?_
       exact congrArg vI (by unfold nArgs; (repeat' split) <;> omega)
      ·try simp only [sx] at c6
       refine sReg rfl <|
        rwp_det rfl rfl (det_eql rfl rfl rfl) <|
        rMv rfl <|
        rwp_nil <|
        awp_cond rfl (fun c7 => ?_) (fun c7 => ?_)
       ·try simp only [sx] at c7
        refine sReg rfl <|
         rMv rfl <|
         rwp_nil <|
         awp_ret <|
         fin1 (rs_c rfl) ?_
        exact congrArg vI (by unfold nArgs; (repeat' split) <;> omega)
       ·try simp only [sx] at c7
        refine awp_skip <|
         sReg rfl <|
         rMv rfl <|
         rwp_nil <|
         awp_ret <|
         fin1 (rs_c rfl) ?_
        exact congrArg vI (by unfold nArgs; (repeat' split) <;> omega)

theorem expr_IsCondition (e : Ex) :
    Pur cfg 164 [vE e] (vB (isCond e)) := by
 refine con_intro Tryz.func164 rfl Tryz.ntmps164 Tryz.results164 rfl ?_
 intro z hz
 refine sReg rfl <|
  rwp_op rfl rfl (ope_box rfl rfl) ?_
 rintro _ _ ⟨b1, rfl, rfl⟩
 refine rMv rfl <|
  rwp_nil <|
  sReg rfl <|
  rwp_det rfl rfl (det_field_lit rfl fd52_0 rfl) <|
  rwp_det rfl rfl (det_load_one rfl one3 rfl (ptr_row 0 rfl) rfl) <|
  rwp_det rfl rfl (det_leq rfl rfl rfl) <|
  rMv rfl <|
  rLz [] rfl gv1 trivial (fun g1_3 => det_field_lit rfl fd52_0 rfl) rfl <|
  rLz [(7, _)] rfl gv1 ⟨rfl, rfl, trivial⟩ (fun g1_3 => det_load_one rfl one3 rfl (ptr_row 0 rfl) rfl) rfl <|
  rLz [(8, _)] rfl gv1 ⟨rfl, rfl, trivial⟩ (fun g1_3 => det_leq rfl rfl rfl) rfl <|
  rwp_det rfl rfl (det_and rfl rfl rfl (fun h => h) rfl) <|
  rMv rfl <|
  rwp_nil <|
  awp_ret <|
  fin1 (rs_c rfl) ?_
 exact rfl

theorem expr_requiresCondition (op i : Int) :
    Pur cfg 290 [vI op, vI i] (vB (wantC op i)) := by
 refine con_intro Tryz.func290 rfl Tryz.ntmps290 Tryz.results290 rfl ?_
 intro z hz
 refine sReg rfl <|
  rMv rfl <|
  rwp_nil <|
  awp_seq <|
  sReg rfl <|
  rMv rfl <|
  rwp_nil <|
  awp_block <|
  awp_seq <|
  sReg rfl <|
  rwp_det rfl rfl (det_eql rfl rfl rfl) <|
  rMv rfl <|
  rwp_nil <|
  awp_cond rfl (fun c1 => ?_) (fun c1 => ?_)
 ·try simp only [sx] at c1
  refine awp_skip <|
   awp_cond rfl (fun c3 => ?_) (fun c3 => ?_)
  ·try simp only [sx] at c3
   refine sReg rfl <|
    rMv rfl <|
    rwp_nil <|
    awp_ret <|
    fin1 (rs_c rfl) ?_
   exact congrArg vB (by unfold wantC; first | (exfalso; omega) | (simp [*]; done) | (rw [Bool.eq_iff_iff]; simp only [Bool.or_eq_true, Bool.and_eq_true, decide_eq_true_eq]; omega))
  ·try simp only [sx] at c3
   refine awp_skip <|
    sReg rfl <|
    rMv rfl <|
    rwp_det rfl rfl (det_eql rfl rfl rfl) <|
    rMv rfl <|
    rLz [] rfl gv1 trivial (fun g6_2 => det_move rfl rfl) rfl <|
    rLz [(13, _)] rfl gv1 ⟨rfl, rfl, trivial⟩ (fun g6_2 => det_eql rfl rfl rfl) rfl <|
    rwp_det rfl rfl (det_and rfl rfl rfl (fun h => h) rfl) <|
    rMv rfl <|
    rwp_nil <|
    awp_ret <|
    fin1 (rs_c rfl) ?_
   exact congrArg vB (by unfold wantC; first | (exfalso; omega) | (simp [*]; done) | (rw [Bool.eq_iff_iff]; simp only [Bool.or_eq_true, Bool.and_eq_true, decide_eq_true_eq]; omega))
 ·try simp only [sx] at c1
  refine sReg rfl <|
   rwp_det rfl rfl (det_eql rfl rfl rfl) <|
   rMv rfl <|
   rwp_nil <|
   awp_cond rfl (fun c2 => ?_) (fun c2 => ?_)
  ·try simp only [sx] at c2
   refine awp_skip <|
    awp_cond rfl (fun c3 => ?_) (fun c3 => ?_)
   ·try simp only [sx] at c3
    refine sReg rfl <|
     rMv rfl <|
     rwp_nil <|
     awp_ret <|
     fin1 (rs_c rfl) ?_
    exact congrArg vB (by unfold wantC; first | (exfalso; omega) | (simp [*]; done) | (rw [Bool.eq_iff_iff]; simp only [Bool.or_eq_true, Bool.and_eq_true, decide_eq_true_eq]; omega))
   ·try simp only [sx] at c3
    refine awp_skip <|
     sReg rfl <|
     rMv rfl <|
     rwp_det rfl rfl (det_eql rfl rfl rfl) <|
     rMv rfl <|
     rLz [] rfl gv1 trivial (fun g6_2 => det_move rfl rfl) rfl <|
     rLz [(13, _)] rfl gv1 ⟨rfl, rfl, trivial⟩ (fun g6_2 => det_eql rfl rfl rfl) rfl <|
     rwp_det rfl rfl (det_and rfl rfl rfl (fun h => h) rfl) <|
     rMv rfl <|
     rwp_nil <|
     awp_ret <|
     fin1 (rs_c rfl) ?_
    exact congrArg vB (by unfold wantC; first | (exfalso; omega) | (simp [*]; done) | (rw [Bool.eq_iff_iff]; simp only [Bool.or_eq_true, Bool.and_eq_true, decide_eq_true_eq]; omega))
  ·try simp only [sx] at c2
   refine awp_region rfl <|
    rwp_det rfl rfl (det_eql rfl rfl rfl) <|
    rMv rfl <|
    rwp_nil <|
    awp_cond rfl (fun c3 => ?_) (fun c3 => ?_)
   ·try simp only [sx] at c3
    refine sReg rfl <|
     rMv rfl <|
     rwp_nil <|
     awp_ret <|
     fin1 (rs_c rfl) ?_
    exact congrArg vB (by unfold wantC; first | (exfalso; omega) | (simp [*]; done) | (rw [Bool.eq_iff_iff]; simp only [Bool.or_eq_true, Bool.and_eq_true, decide_eq_true_eq]; omega))
   ·try simp only [sx] at c3
    refine awp_skip <|
     sReg rfl <|
     rMv rfl <|
     rwp_det rfl rfl (det_eql rfl rfl rfl) <|
     rMv rfl <|
     rLz [] rfl gv1 trivial (fun g6_2 => det_move rfl rfl) rfl <|
     rLz [(13, _)] rfl gv1 ⟨rfl, rfl, trivial⟩ (fun g6_2 => det_eql rfl rfl rfl) rfl <|
     rwp_det rfl rfl (det_and rfl rfl rfl (fun h => h) rfl) <|
     rMv rfl <|
     rwp_nil <|
     awp_ret <|
     fin1 (rs_c rfl) ?_
    exact congrArg vB (by unfold wantC; first | (exfalso; omega) | (simp [*]; done) | (rw [Bool.eq_iff_iff]; simp only [Bool.or_eq_true, Bool.and_eq_true, decide_eq_true_eq]; omega))

theorem expr_isZero (l : Lf) :
    Pur cfg 283 [vLin l] (vB (zeroL l)) := by
 refine con_intro Tryz.func283 rfl Tryz.ntmps283 Tryz.results283 rfl ?_
 intro z hz
 refine sReg rfl <|
  rwp_op rfl rfl (ope_box rfl rfl) ?_
 rintro _ _ ⟨b1, rfl, rfl⟩
 refine rMv rfl <|
  rwp_nil <|
  sReg rfl <|
  rwp_det rfl rfl (det_field_lit rfl fd49_0 rfl) <|
  rwp_det rfl rfl (det_load_one rfl one2 rfl (ptr_row 0 rfl) rfl) <|
  rwp_det rfl rfl (det_eql rfl rfl rfl) <|
  rMv rfl <|
  rLz [] rfl gv1 trivial (fun g1_3 => det_field_lit rfl fd49_1 rfl) rfl <|
  rLz [(7, _)] rfl gv1 ⟨rfl, rfl, trivial⟩ (fun g1_3 => det_load_one rfl one47 rfl (ptr_row 0 rfl) rfl) rfl <|
  rLz [(8, _)] rfl gv1 ⟨rfl, rfl, trivial⟩ (fun g1_3 => det_len_slm rfl el47 rfl) rfl <|
  rLz [(9, _)] rfl gv1 ⟨rfl, rfl, trivial⟩ (fun g1_3 => det_eql rfl rfl rfl) rfl <|
  rwp_det rfl rfl (det_and rfl rfl rfl (fun h => h) rfl) <|
  rMv rfl <|
  rwp_nil <|
  awp_ret <|
  fin1 (rs_c rfl) ?_
 exact rfl

theorem expr_wellFormed (x : Ix) :
    Pur cfg 286 [vIndex x] (vB (wellIx x)) := by
 refine con_intro Tryz.func286 rfl Tryz.ntmps286 Tryz.results286 rfl ?_
 intro z hz
 refine sReg rfl <|
  rwp_op rfl rfl (ope_box rfl rfl) ?_
 rintro _ _ ⟨b1, rfl, rfl⟩
 refine rMv rfl <|
  rwp_nil <|
  awp_seq <|
  sReg rfl <|
  rwp_det rfl rfl (det_field_lit rfl fd114_1 rfl) <|
  rwp_det rfl rfl (det_load_one rfl one9 rfl (ptr_row 0 rfl) rfl) <|
  rwp_det rfl rfl (det_seql rfl rfl rfl) <|
  rwp_nil <|
  awp_cond rfl (fun c1 => ?_) (fun c1 => ?_)
 ·try simp only [sx] at c1
  refine sReg rfl <|
   rwp_det rfl rfl (det_field_lit rfl fd114_2 rfl) <|
   rwp_det rfl rfl (det_load_one rfl one112 rfl (ptr_row 0 rfl) rfl) <|
   rwp_det rfl rfl (det_len_slm rfl el112 rfl) <|
   rwp_det rfl rfl (det_eql rfl rfl rfl) <|
   rMv rfl <|
   rwp_nil <|
   awp_ret <|
   fin1 (rs_c rfl) ?_
  rw [wellIx, dec_true c1]; rfl
 ·try simp only [sx] at c1
  refine awp_skip <|
   sReg rfl <|
   rwp_det rfl rfl (det_field_lit rfl fd114_0 rfl) <|
   rwp_det rfl rfl (det_load_agg rfl agg49 rfl (ptr_row 0 rfl) rfl) <|
   rwp_det rfl rfl (det_call rfl ok283 (expr_isZero x.Lin) ⟨VLe.refl _, rfl, trivial⟩) <|
   rMv rfl <|
   rwp_nil <|
   awp_ret <|
   fin1 (rs_c rfl) ?_
  rw [wellIx, dec_false c1]; rfl

theorem expr_syntax_1 (x : Ix) :
    Pur cfg 285 [vIndex x] (vB (!wellIx x)) := by
 refine con_intro Tryz.func285 rfl Tryz.ntmps285 Tryz.results285 rfl ?_
 intro z hz
 refine sReg rfl <|
  rwp_op rfl rfl (ope_box rfl rfl) ?_
 rintro _ _ ⟨b1, rfl, rfl⟩
 refine rMv rfl <|
  rwp_nil <|
  sReg rfl <|
  rwp_det rfl rfl (det_load_agg rfl agg114 rfl (ptr_row 0 rfl) rfl) <|
  rwp_det rfl rfl (det_call rfl ok286 (expr_wellFormed x) ⟨VLe.refl _, rfl, trivial⟩) <|
  rwp_det rfl rfl (det_not rfl rfl) <|
  rMv rfl <|
  rwp_nil <|
  awp_ret <|
  fin1 (rs_c rfl) ?_
 exact rfl

theorem expr_names_1 (x : Ix) :
    Pur cfg 287 [vIndex x] (vB (!nmIx x)) := by
 refine con_intro Tryz.func287 rfl Tryz.ntmps287 Tryz.results287 rfl ?_
 intro z hz
 refine sReg rfl <|
  rwp_op rfl rfl (ope_box rfl rfl) ?_
 rintro _ _ ⟨b1, rfl, rfl⟩
 refine rMv rfl <|
  rwp_nil <|
  sReg rfl <|
  rwp_det rfl rfl (det_field_lit rfl fd114_1 rfl) <|
  rwp_det rfl rfl (det_load_one rfl one9 rfl (ptr_row 0 rfl) rfl) <|
  rwp_det rfl rfl (det_sneq rfl rfl rfl) <|
  rMv rfl <|
  rLz [] rfl gv1 trivial (fun g1_3 => det_field_lit rfl fd114_1 rfl) rfl <|
  rLz [(7, _)] rfl gv1 ⟨rfl, rfl, trivial⟩ (fun g1_3 => det_load_one rfl one9 rfl (ptr_row 0 rfl) rfl) rfl <|
  rLz [(8, _)] rfl gv1 ⟨rfl, rfl, trivial⟩ (fun g1_3 => det_call rfl ok66 (lexer_IsName _) ⟨VLe.refl _, rfl, trivial⟩) rfl <|
  rLz [(9, _)] rfl gv1 ⟨rfl, rfl, trivial⟩ (fun g1_3 => det_not rfl rfl) rfl <|
  rwp_det rfl rfl (det_and rfl rfl rfl (fun h => h) rfl) <|
  rMv rfl <|
  rwp_nil <|
  awp_ret <|
  fin1 (rs_c rfl) ?_
 exact congrArg vB (by unfold nmIx; simp)

theorem expr_rank_1 (x : Ix) :
    Pur cfg 289 [vIndex x] (vB (!rkIx x)) := by
 refine con_intro Tryz.func289 rfl Tryz.ntmps289 Tryz.results289 rfl ?_
 intro z hz
 refine sReg rfl <|
  rwp_op rfl rfl (ope_box rfl rfl) ?_
 rintro _ _ ⟨b1, rfl, rfl⟩
 refine rMv rfl <|
  rwp_nil <|
  sReg rfl <|
  rwp_det rfl rfl (det_field_lit rfl fd114_2 rfl) <|
  rwp_det rfl rfl (det_load_one rfl one112 rfl (ptr_row 0 rfl) rfl) <|
  rwp_det rfl rfl (det_len_slm rfl el112 rfl) <|
  rwp_det rfl rfl (det_gtr rfl rfl rfl) <|
  rMv rfl <|
  rwp_nil <|
  awp_ret <|
  fin1 (rs_c rfl) ?_
 exact congrArg vB (by unfold rkIx; simp)

theorem expr_syntax (e : Ex) (he : e.wt ≤ 6000000000000) :
    Pur cfg 260 [vE e] (vB (synOk e)) := by
 refine con_intro Tryz.func260 rfl Tryz.ntmps260 Tryz.results260 rfl ?_
 intro z hz
 obtain ⟨hL, hI, hA⟩ := e.parts he
 refine sReg rfl <|
  rwp_op rfl rfl (ope_box rfl rfl) ?_
 rintro _ _ ⟨b1, rfl, rfl⟩
 refine rMv rfl <|
  rwp_nil <|
  awp_seq <|
  awp_draw 13 mixed (by kernel_rfl) rfl rfl <|
  td_det rfl rfl (det_field_lit rfl fd52_0 rfl) <|
  td_det rfl rfl (det_load_one rfl one3 rfl (ptr_row 0 rfl) rfl) <|
  td_det rfl rfl (det_eql rfl rfl rfl) <|
  td_det rfl rfl (det_field_lit rfl fd52_0 rfl) <|
  td_det rfl rfl (det_load_one rfl one3 rfl (ptr_row 0 rfl) rfl) <|
  td_det rfl rfl (det_eql rfl rfl rfl) <|
  td_det rfl rfl (det_move rfl rfl) <|
  td_lazy [] rfl rfl rfl rfl gv1 trivial (fun g1_6 => det_field_lit rfl fd52_0 rfl) rfl <|
  td_lazy [(14, _)] rfl rfl rfl rfl gv1 ⟨rfl, rfl, trivial⟩ (fun g1_6 => det_load_one rfl one3 rfl (ptr_row 0 rfl) rfl) rfl <|
  td_lazy [(15, _)] rfl rfl rfl rfl gv1 ⟨rfl, rfl, trivial⟩ (fun g1_6 => det_eql rfl rfl rfl) rfl <|
  td_det rfl rfl (det_or rfl rfl rfl rfl (fun h => (lzf h))) <|
  td_det rfl rfl (det_assign rfl rfl) <|
  td_det rfl rfl (det_assign rfl rfl) <|
  td_nil <|
  rwp_nil <|
  awp_seq <|
  awp_draw 8 mixed (by kernel_rfl) rfl rfl <|
  td_det rfl rfl (det_field_lit rfl fd52_0 rfl) <|
  td_det rfl rfl (det_load_one rfl one3 rfl (ptr_row 0 rfl) rfl) <|
  td_det rfl rfl (det_eql rfl rfl rfl) <|
  td_det rfl rfl (det_field_lit rfl fd52_0 rfl) <|
  td_det rfl rfl (det_load_one rfl one3 rfl (ptr_row 0 rfl) rfl) <|
  td_det rfl rfl (det_eql rfl rfl rfl) <|
  td_det rfl rfl (det_assign rfl rfl) <|
  td_det rfl rfl (det_assign rfl rfl) <|
  td_nil <|
  rwp_nil <|
  awp_seq <|
  awp_block <|
  sReg rfl <|
  rwp_det rfl rfl (det_field_lit rfl fd52_0 rfl) <|
  rwp_det rfl rfl (det_load_one rfl one3 rfl (ptr_row 0 rfl) rfl) <|
  rwp_det rfl rfl (det_lss rfl rfl rfl) <|
  rMv rfl <|
  rLz [] rfl gv1 trivial (fun g3_3 => det_field_lit rfl fd52_0 rfl) rfl <|
  rLz [(29, _)] rfl gv1 ⟨rfl, rfl, trivial⟩ (fun g3_3 => det_load_one rfl one3 rfl (ptr_row 0 rfl) rfl) rfl <|
  rLz [(30, _)] rfl gv1 ⟨rfl, rfl, trivial⟩ (fun g3_3 => det_gtr rfl rfl rfl) rfl <|
  rwp_det rfl rfl (det_or rfl rfl rfl rfl (fun h => (lzf h))) <|
  rMv rfl <|
  rwp_nil <|
  awp_cond rfl (fun c1 => ?_) (fun c1 => ?_)
 ·refine sReg rfl <|
   rMv rfl <|
   rwp_nil <|
   awp_ret <|
   fin1 (rs_c rfl) ?_
  exact congrArg vB (by simp only [synOk, c1, Bool.not_true, Bool.not_false, Bool.true_and, Bool.and_true, Bool.false_and, Bool.and_false])
 ·refine sReg rfl <|
   rMv rfl <|
   rwp_det rfl rfl (det_not rfl rfl) <|
   rMv rfl <|
   rLz [] rfl gv1 trivial (fun g5_2 => det_field_lit rfl fd52_2 rfl) rfl <|
   rLz [(37, _)] rfl gv1 ⟨rfl, rfl, trivial⟩ (fun g5_2 => det_load_agg rfl agg46 rfl (ptr_row 0 rfl) rfl) rfl <|
   rLz [] rfl gv1 trivial (fun g5_2 => det_build rfl zr46 pl46 rfl) rfl <|
   rLz [(38, _), (39, _)] rfl gv1 ⟨rfl, rfl, rfl, rfl, trivial⟩ (fun g5_2 => det_aneq rfl fl46 rfl rfl rfl) rfl <|
   rwp_det rfl rfl (det_and rfl rfl rfl (fun h => h) rfl) <|
   rMv rfl <|
   rwp_nil <|
   awp_cond rfl (fun c2 => ?_) (fun c2 => ?_)
  ·have c2 : (!decide (e.Op = 1) && !val0 e.Val) = true := c2
   refine sReg rfl <|
    rMv rfl <|
    rwp_nil <|
    awp_ret <|
    fin1 (rs_c rfl) ?_
   exact congrArg vB (by simp only [synOk, c2, Bool.not_true, Bool.not_false, Bool.true_and, Bool.and_true, Bool.false_and, Bool.and_false])
  ·have c2 : (!decide (e.Op = 1) && !val0 e.Val) = false := c2
   refine sReg rfl <|
    rMv rfl <|
    rwp_det rfl rfl (det_not rfl rfl) <|
    rMv rfl <|
    rLz [] rfl gv1 trivial (fun g7_2 => det_field_lit rfl fd52_3 rfl) rfl <|
    rLz [(46, _)] rfl gv1 ⟨rfl, rfl, trivial⟩ (fun g7_2 => det_load_agg rfl agg40 rfl (ptr_row 0 rfl) rfl) rfl <|
    rLz [] rfl gv1 trivial (fun g7_2 => det_build rfl zr40 pl40 rfl) rfl <|
    rLz [(47, _), (48, _)] rfl gv1 ⟨rfl, rfl, rfl, rfl, trivial⟩ (fun g7_2 => det_aneq rfl fl40 rfl rfl rfl) rfl <|
    rwp_det rfl rfl (det_and rfl rfl rfl (fun h => h) rfl) <|
    rMv rfl <|
    rwp_nil <|
    awp_cond rfl (fun c3 => ?_) (fun c3 => ?_)
   ·have c3 : (!(decide (e.Op = 1) || decide (e.Op = 12)) && !ty0 e.Ty) = true := c3
    refine sReg rfl <|
     rMv rfl <|
     rwp_nil <|
     awp_ret <|
     fin1 (rs_c rfl) ?_
    exact congrArg vB (by simp only [synOk, c3, Bool.not_true, Bool.not_false, Bool.true_and, Bool.and_true, Bool.false_and, Bool.and_false])
   ·have c3 : (!(decide (e.Op = 1) || decide (e.Op = 12)) && !ty0 e.Ty) = false := c3
    refine sReg rfl <|
     rMv rfl <|
     rwp_det rfl rfl (det_not rfl rfl) <|
     rMv rfl <|
     rLz [] rfl gv1 trivial (fun g9_2 => det_field_lit rfl fd52_4 rfl) rfl <|
     rLz [(55, _)] rfl gv1 ⟨rfl, rfl, trivial⟩ (fun g9_2 => det_load_agg rfl agg49 rfl (ptr_row 0 rfl) rfl) rfl <|
     rLz [(56, _)] rfl gv1 ⟨rfl, rfl, trivial⟩ (fun g9_2 => det_call rfl ok283 (expr_isZero e.Lin) ⟨VLe.refl _, rfl, trivial⟩) rfl <|
     rLz [(57, _)] rfl gv1 ⟨rfl, rfl, trivial⟩ (fun g9_2 => det_not rfl rfl) rfl <|
     rwp_det rfl rfl (det_and rfl rfl rfl (fun h => h) rfl) <|
     rMv rfl <|
     rwp_nil <|
     awp_cond rfl (fun c4 => ?_) (fun c4 => ?_)
    ·refine sReg rfl <|
      rMv rfl <|
      rwp_nil <|
      awp_ret <|
      fin1 (rs_c rfl) ?_
     exact congrArg vB (by simp only [synOk, c4, Bool.not_true, Bool.not_false, Bool.true_and, Bool.and_true, Bool.false_and, Bool.and_false])
    ·refine sReg rfl <|
      rMv rfl <|
      rwp_det rfl rfl (det_not rfl rfl) <|
      rMv rfl <|
      rLz [] rfl gv1 trivial (fun g11_2 => det_field_lit rfl fd52_1 rfl) rfl <|
      rLz [(64, _)] rfl gv1 ⟨rfl, rfl, trivial⟩ (fun g11_2 => det_load_one rfl one9 rfl (ptr_row 0 rfl) rfl) rfl <|
      rLz [(65, _)] rfl gv1 ⟨rfl, rfl, trivial⟩ (fun g11_2 => det_sneq rfl rfl rfl) rfl <|
      rLz [(66, _)] rfl gv1 ⟨rfl, rfl, trivial⟩ (fun g11_2 => det_move rfl rfl) rfl <|
      rLz [] rfl gv2 trivial (fun g11_6 => det_field_lit rfl fd52_5 rfl) rfl <|
      rLz [(68, _)] rfl gv2 ⟨rfl, rfl, trivial⟩ (fun g11_6 => det_load_one rfl one44 rfl (ptr_row 0 rfl) rfl) rfl <|
      rLz [(69, _)] rfl gv2 ⟨rfl, rfl, trivial⟩ (fun g11_6 => det_len_slm rfl el44 rfl) rfl <|
      rLz [(70, _)] rfl gv2 ⟨rfl, rfl, trivial⟩ (fun g11_6 => det_gtr rfl rfl rfl) rfl <|
      rLz [(67, _)] rfl gv1 ⟨rfl, rfl, trivial⟩ (fun g11_2 => det_or rfl rfl rfl rfl (fun h => and_mk (by assumption) (lzf h))) rfl <|
      rwp_det rfl rfl (det_and rfl rfl rfl (fun h => h) rfl) <|
      rMv rfl <|
      rwp_nil <|
      awp_cond rfl (fun c5 => ?_) (fun c5 => ?_)
     ·refine sReg rfl <|
       rMv rfl <|
       rwp_nil <|
       awp_ret <|
       fin1 (rs_c rfl) ?_
      exact congrArg vB (by simp only [synOk, c5, Bool.not_true, Bool.not_false, Bool.true_and, Bool.and_true, Bool.false_and, Bool.and_false])
     ·refine awp_skip <|
       sReg rfl <|
       rwp_det rfl rfl (det_field_lit rfl fd52_5 rfl) <|
       rwp_det rfl rfl (det_load_one rfl one44 rfl (ptr_row 0 rfl) rfl) <|
       rwp_det rfl rfl (det_call rfl ok284 (slices_ContainsFunc_ix e.Idx _ (fun x => !wellIx x) hI (fun x _ => FnPur.of_pur (first := []) (cap := []) ok285 (expr_syntax_1 x))) ⟨VLe.refl _, rfl, VLe.refl _, rfl, trivial⟩) <|
       rwp_det rfl rfl (det_not rfl rfl) <|
       rMv rfl <|
       rwp_nil <|
       awp_ret <|
       fin1 (rs_c rfl) ?_
      exact congrArg vB (by rw [notanynot]; simp only [synOk, c1, c2, c3, c4, c5, Bool.not_true, Bool.not_false, Bool.true_and, Bool.and_true, Bool.false_and, Bool.and_false])

theorem expr_names (e : Ex) (he : e.wt ≤ 6000000000000) :
    Pur cfg 261 [vE e] (vB (namesE e)) := by
 refine con_intro Tryz.func261 rfl Tryz.ntmps261 Tryz.results261 rfl ?_
 intro z hz
 obtain ⟨hL, hI, hA⟩ := e.parts he
 refine sReg rfl <|
  rwp_op rfl rfl (ope_box rfl rfl) ?_
 rintro _ _ ⟨b1, rfl, rfl⟩
 refine rMv rfl <|
  rwp_nil <|
  awp_seq <|
  sReg rfl <|
  rwp_det rfl rfl (det_field_lit rfl fd52_0 rfl) <|
  rwp_det rfl rfl (det_load_one rfl one3 rfl (ptr_row 0 rfl) rfl) <|
  rwp_det rfl rfl (det_eql rfl rfl rfl) <|
  rMv rfl <|
  rLz [] rfl gv1 trivial (fun g1_3 => det_field_lit rfl fd52_1 rfl) rfl <|
  rLz [(7, _)] rfl gv1 ⟨rfl, rfl, trivial⟩ (fun g1_3 => det_load_one rfl one9 rfl (ptr_row 0 rfl) rfl) rfl <|
  rLz [(8, _)] rfl gv1 ⟨rfl, rfl, trivial⟩ (fun g1_3 => det_call rfl ok66 (lexer_IsName _) ⟨VLe.refl _, rfl, trivial⟩) rfl <|
  rLz [(9, _)] rfl gv1 ⟨rfl, rfl, trivial⟩ (fun g1_3 => det_not rfl rfl) rfl <|
  rwp_det rfl rfl (det_and rfl rfl rfl (fun h => h) rfl) <|
  rwp_nil <|
  awp_cond rfl (fun c1 => ?_) (fun c1 => ?_)
 ·refine sReg rfl <|
   rMv rfl <|
   rwp_nil <|
   awp_ret <|
   fin1 (rs_c rfl) ?_
  exact congrArg vB (by simp only [namesE, c1, Bool.not_true, Bool.false_and])
 ·refine awp_skip <|
   sReg rfl <|
   rwp_det rfl rfl (det_field_lit rfl fd52_5 rfl) <|
   rwp_det rfl rfl (det_load_one rfl one44 rfl (ptr_row 0 rfl) rfl) <|
   rwp_det rfl rfl (det_call rfl ok284 (slices_ContainsFunc_ix e.Idx _ (fun x => !nmIx x) hI (fun x _ => FnPur.of_pur (first := []) (cap := []) ok287 (expr_names_1 x))) ⟨VLe.refl _, rfl, VLe.refl _, rfl, trivial⟩) <|
   rwp_det rfl rfl (det_not rfl rfl) <|
   rMv rfl <|
   rwp_nil <|
   awp_ret <|
   fin1 (rs_c rfl) ?_
  exact congrArg vB (by rw [notanynot]; simp only [namesE, c1, Bool.not_false, Bool.true_and])

theorem expr_rank (e : Ex) (he : e.wt ≤ 6000000000000) :
    Pur cfg 262 [vE e] (vB (rankE e)) := by
 refine con_intro Tryz.func262 rfl Tryz.ntmps262 Tryz.results262 rfl ?_
 intro z hz
 obtain ⟨hL, hI, hA⟩ := e.parts he
 refine sReg rfl <|
  rwp_op rfl rfl (ope_box rfl rfl) ?_
 rintro _ _ ⟨b1, rfl, rfl⟩
 refine rMv rfl <|
  rwp_nil <|
  awp_seq <|
  awp_seq <|
  awp_draw 13 mixed (by kernel_rfl) rfl rfl <|
  td_det rfl rfl (det_field_lit rfl fd52_6 rfl) <|
  td_det rfl rfl (det_load_one rfl one50 rfl (ptr_row 0 rfl) rfl) <|
  td_det rfl rfl (det_len_slm rfl el50 rfl) <|
  td_det rfl rfl (det_field_lit rfl fd52_0 rfl) <|
  td_det rfl rfl (det_load_one rfl one3 rfl (ptr_row 0 rfl) rfl) <|
  td_det rfl rfl (det_call rfl ok288 (expr_operands _) ⟨VLe.refl _, rfl, trivial⟩) <|
  td_det rfl rfl (det_neq rfl rfl rfl) <|
  td_det rfl rfl (det_move rfl rfl) <|
  td_lazy [] rfl rfl rfl rfl gv1 trivial (fun g1_7 => det_field_lit rfl fd52_5 rfl) rfl <|
  td_lazy [(11, _)] rfl rfl rfl rfl gv1 ⟨rfl, rfl, trivial⟩ (fun g1_7 => det_load_one rfl one44 rfl (ptr_row 0 rfl) rfl) rfl <|
  td_lazy [(12, _)] rfl rfl rfl rfl gv1 ⟨rfl, rfl, trivial⟩ (fun g1_7 => det_len_slm rfl el44 rfl) rfl <|
  td_lazy [(13, _)] rfl rfl rfl rfl gv1 ⟨rfl, rfl, trivial⟩ (fun g1_7 => det_gtr rfl rfl rfl) rfl <|
  td_det rfl rfl (det_or rfl rfl rfl rfl (fun h => (lzf h))) <|
  td_nil <|
  rwp_nil <|
  awp_cond rfl (fun c1 => ?_) (fun c1 => ?_)
 ·refine sReg rfl <|
   rMv rfl <|
   rwp_nil <|
   awp_ret <|
   fin1 (rs_c rfl) ?_
  exact congrArg vB (by simp only [rankE, c1, Bool.not_true, Bool.false_and])
 ·refine awp_skip <|
   sReg rfl <|
   rwp_det rfl rfl (det_field_lit rfl fd52_5 rfl) <|
   rwp_det rfl rfl (det_load_one rfl one44 rfl (ptr_row 0 rfl) rfl) <|
   rwp_det rfl rfl (det_call rfl ok284 (slices_ContainsFunc_ix e.Idx _ (fun x => !rkIx x) hI (fun x _ => FnPur.of_pur (first := []) (cap := []) ok289 (expr_rank_1 x))) ⟨VLe.refl _, rfl, VLe.refl _, rfl, trivial⟩) <|
   rwp_det rfl rfl (det_not rfl rfl) <|
   rMv rfl <|
   rwp_nil <|
   awp_ret <|
   fin1 (rs_c rfl) ?_
  exact congrArg vB (by rw [notanynot]; simp only [rankE, c1, Bool.not_false, Bool.true_and])

theorem expr_types (e : Ex) (he : e.wt ≤ 6000000000000) :
    Pur cfg 263 [vE e] (vB (typesE e)) := by
 refine con_intro Tryz.func263 rfl Tryz.ntmps263 Tryz.results263 rfl ?_
 intro z hz
 obtain ⟨hL, hI, hA⟩ := e.parts he
 refine sReg rfl <|
  rwp_op rfl rfl (ope_box rfl rfl) ?_
 rintro _ _ ⟨b1, rfl, rfl⟩
 refine rMv rfl <|
  rwp_nil <|
  awp_seq <|
  sReg rfl <|
  rwp_det rfl rfl (det_field_lit rfl fd52_0 rfl) <|
  rwp_det rfl rfl (det_load_one rfl one3 rfl (ptr_row 0 rfl) rfl) <|
  rwp_det rfl rfl (det_eql rfl rfl rfl) <|
  rMv rfl <|
  rLz [] rfl gv1 trivial (fun g1_3 => det_field_lit rfl fd52_0 rfl) rfl <|
  rLz [(9, _)] rfl gv1 ⟨rfl, rfl, trivial⟩ (fun g1_3 => det_load_one rfl one3 rfl (ptr_row 0 rfl) rfl) rfl <|
  rLz [(10, _)] rfl gv1 ⟨rfl, rfl, trivial⟩ (fun g1_3 => det_eql rfl rfl rfl) rfl <|
  rwp_det rfl rfl (det_or rfl rfl rfl rfl (fun h => (lzf h))) <|
  rMv rfl <|
  rLz [] rfl gv1 trivial (fun g1_8 => det_field_lit rfl fd52_3 rfl) rfl <|
  rLz [(14, _)] rfl gv1 ⟨rfl, rfl, trivial⟩ (fun g1_8 => det_load_agg rfl agg40 rfl (ptr_row 0 rfl) rfl) rfl <|
  rLz [(15, _)] rfl gv1 ⟨rfl, rfl, trivial⟩ (fun g1_8 => det_call rfl ok123 (value_ValidateType _) ⟨VLe.refl _, rfl, trivial⟩) rfl <|
  rLz [(16, _)] rfl gv1 ⟨rfl, rfl, trivial⟩ (fun g1_8 => det_neq rfl rfl rfl) rfl <|
  rwp_det rfl rfl (det_and rfl rfl rfl (fun h => h) rfl) <|
  rwp_nil <|
  awp_cond rfl (fun c1 => ?_) (fun c1 => ?_)
 ·rw [tyErr_dec] at c1
  refine sReg rfl <|
   rMv rfl <|
   rwp_nil <|
   awp_ret <|
   fin1 (rs_c rfl) ?_
  exact congrArg vB (by simp only [typesE, c1, Bool.not_true, Bool.false_and])
 ·rw [tyErr_dec] at c1
  refine awp_skip <|
   awp_seq <|
   sReg rfl <|
   rwp_det rfl rfl (det_field_lit rfl fd52_6 rfl) <|
   rwp_det rfl rfl (det_load_one rfl one50 rfl (ptr_row 0 rfl) rfl) <|
   rwp_det rfl rfl (det_len_slm rfl el50 rfl) <|
   rMv rfl <|
   rwp_nil <|
   awp_block <|
   awp_weak ⟨[(22, .c _), (1, .c _), (20, .c _), (21, .c _)], [_]⟩ (Weak.mk [true] ⟨VLe.of_eq rfl, VLe.of_eq rfl, VLe.of_eq rfl, VLe.of_eq rfl, trivial⟩ rfl) <|
   awp_loop_k 1 0 rfl rfl (Nat) (fun k => [(22, vI k)]) (fun k => []) (fun k => k ≤ e.Args.length ∧ (condsOk e.Op 0 e.Args = condsOk e.Op k (e.Args.drop k))) (fun k => e.Args.length - k) ⟨0, ⟨by omega, rfl⟩, Weak.mk [true] ⟨VLe.refl _, VLe.refl _, VLe.refl _, VLe.refl _, trivial⟩ rfl⟩ ?_
  rintro k ⟨hk, hp⟩
  refine sReg rfl <|
   rwp_det rfl rfl (det_lss rfl rfl rfl) <|
   rwp_nil <|
   awp_seq <|
   awp_cond rfl (fun c2 => ?_) (fun c2 => ?_)
  ·try simp only [sx] at c2
   obtain ⟨a, ha⟩ := ex_get e.Args k (by omega)
   refine awp_skip <|
    awp_seq <|
    awp_block <|
    sReg rfl <|
    rMv rfl <|
    rwp_det rfl rfl (det_index_sl rfl el50 rfl rfl (by omega) (getmE (by assumption))) <|
    rwp_det rfl rfl (det_load_agg rfl agg52 rfl ptr_imm rfl) <|
    rwp_op rfl rfl (ope_allocN [none, none, none, none, none, none, none, none, none, none, some 2, some 4, some 13] rfl zr52 rfl) ?_
   rintro _ _ ⟨b2, rfl, rfl⟩
   refine rMv rfl <|
    rwp_det0 rfl rfl (det_store rfl sz52 rfl rfl rfl (st_row 0 rfl rfl)) <|
    rwp_nil <|
    awp_seq <|
    awp_draw 7 mixed (by kernel_rfl) rfl rfl <|
    td_det rfl rfl (det_load_agg rfl agg52 rfl (ptr_row 0 rfl) rfl) <|
    td_det rfl rfl (det_call rfl ok164 (expr_IsCondition a) ⟨VLe.refl _, rfl, trivial⟩) <|
    td_det rfl rfl (det_field_lit rfl fd52_0 rfl) <|
    td_det rfl rfl (det_load_one rfl one3 rfl (ptr_row 1 rfl) rfl) <|
    td_det rfl rfl (det_move rfl rfl) <|
    td_det rfl rfl (det_call rfl ok290 (expr_requiresCondition _ _) ⟨VLe.refl _, rfl, VLe.refl _, rfl, trivial⟩) <|
    td_det rfl rfl (det_bneq rfl un4 rfl rfl) <|
    td_nil <|
    rwp_nil <|
    awp_cond rfl (fun c3 => ?_) (fun c3 => ?_)
   ·refine sReg rfl <|
     rMv rfl <|
     rwp_nil <|
     awp_ret <|
     fin1 (rs_c rfl) ?_
    exact congrArg vB (by simp only [typesE, c1, Bool.not_false, Bool.true_and]; rw [hp, drop_cons ha, condsOk, show (isCond a == wantC e.Op k) = false by simpa using c3, Bool.false_and])
   ·refine awp_skip <|
     awp_region rfl <|
     rwp_det rfl rfl (det_add_nw rfl rfl rfl ⟨by omega, by omega⟩) <|
     rMv rfl <|
     rwp_nil ?_
    refine ⟨k + 1, ⟨by omega, (by rw [hp, drop_cons ha, condsOk, show (isCond a == wantC e.Op k) = true by simpa using c3, Bool.true_and]; rfl)⟩, (by omega), Weak.mk [false, true] ⟨VLe.refl _, VLe.refl _, VLe.refl _, VLe.refl _, trivial⟩ rfl⟩
  ·try simp only [sx] at c2
   refine awp_exit <|
    sReg rfl <|
    rMv rfl <|
    rwp_nil <|
    awp_ret <|
    fin1 (rs_c rfl) ?_
   exact congrArg vB (by simp only [typesE, c1, Bool.not_false, Bool.true_and]; rw [hp, drop_end (by omega)]; rfl)

theorem expr_depth_step (n : Nat) (ih : n ≠ 0 → ∀ (a : Ex) (l : Int), a.wt ≤ 6000000000000 → l = n → Pur cfg 259 [vE a, vI l] (vI (depT (n - 1) a))) (hn : n ≤ 100) (e : Ex) (l : Int) (he : e.wt ≤ 6000000000000) (hl : l = n + 1) :
    Pur cfg 259 [vE e, vI l] (vI (depT n e)) := by
 refine con_intro Tryz.func259 rfl Tryz.ntmps259 Tryz.results259 rfl ?_
 intro z hz
 obtain ⟨hL, hI, hA⟩ := e.parts he
 refine sReg rfl <|
  rwp_op rfl rfl (ope_box rfl rfl) ?_
 rintro _ _ ⟨b1, rfl, rfl⟩
 refine rMv rfl <|
  rwp_nil <|
  awp_seq <|
  sReg rfl <|
  rMv rfl <|
  rwp_det rfl rfl (det_leq rfl rfl rfl) <|
  rwp_nil <|
  awp_cond rfl (fun c1 => ?_) (fun c1 => ?_)
 ·try simp only [sx] at c1
  obtain rfl : n = 0 := by omega
  refine sReg rfl <|
   rMv rfl <|
   rMv rfl <|
   rwp_nil <|
   awp_ret <|
   fin1 (rs_c rfl) ?_
  exact congrArg vI (by rw [hl]; rfl)
 ·try simp only [sx] at c1
  obtain ⟨m, rfl⟩ : ∃ m, n = m + 1 := ⟨n - 1, by omega⟩
  refine awp_skip <|
   sReg rfl <|
   rMv rfl <|
   rwp_nil <|
   awp_seq <|
   sReg rfl <|
   rwp_det rfl rfl (det_field_lit rfl fd52_6 rfl) <|
   rwp_det rfl rfl (det_load_one rfl one50 rfl (ptr_row 0 rfl) rfl) <|
   rwp_det rfl rfl (det_len_slm rfl el50 rfl) <|
   rMv rfl <|
   rwp_nil <|
   awp_block <|
   awp_weak ⟨[(14, .c _), (5, .c _), (1, .c _), (12, .c _), (13, .c _)], []⟩ (Weak.mk [false] ⟨VLe.of_eq rfl, VLe.of_eq rfl, VLe.of_eq rfl, VLe.of_eq rfl, VLe.of_eq rfl, trivial⟩ rfl) <|
   awp_loop_k 2 0 rfl rfl (Nat × Int) (fun ⟨k, d⟩ => [(14, vI k), (5, vI d)]) (fun ⟨k, d⟩ => []) (fun ⟨k, d⟩ => k ≤ e.Args.length ∧ (1 ≤ d) ∧ (d ≤ m + 2) ∧ (depT (m + 1) e = depF (depT m) d (e.Args.drop k))) (fun ⟨k, d⟩ => e.Args.length - k) ⟨⟨0, 1⟩, ⟨by omega, by omega, by omega, rfl⟩, Weak.mk [] ⟨VLe.refl _, VLe.of_eq (rfl), VLe.refl _, VLe.refl _, VLe.refl _, trivial⟩ rfl⟩ ?_
  rintro ⟨k, d⟩ ⟨hk, hd1, hd2, hd3⟩
  show AWP _ _ _ _ _ ⟨[(14, vI k), (5, vI d)] ++ _, [] ++ _⟩
  refine sReg rfl <|
   rwp_det rfl rfl (det_lss rfl rfl rfl) <|
   rwp_nil <|
   awp_seq <|
   awp_cond rfl (fun c2 => ?_) (fun c2 => ?_)
  ·try simp only [sx] at c2
   obtain ⟨a, ha⟩ := ex_get e.Args k (by omega)
   have hda := depT_le m a
   refine awp_skip <|
    awp_seq <|
    awp_block <|
    sReg rfl <|
    rwp_det rfl rfl (det_index_sl rfl el50 rfl rfl (by omega) (getmE (by assumption))) <|
    rwp_det rfl rfl (det_load_agg rfl agg52 rfl ptr_imm rfl) <|
    rwp_op rfl rfl (ope_allocN [none, none, none, none, none, none, none, none, none, none, some 2, some 4, some 13] rfl zr52 rfl) ?_
   rintro _ _ ⟨b2, rfl, rfl⟩
   refine rwp_det0 rfl rfl (det_store rfl sz52 rfl rfl rfl (st_row 0 rfl rfl)) <|
    rwp_nil <|
    awp_region rfl <|
    rMv rfl <|
    rwp_det rfl rfl (det_load_agg rfl agg52 rfl (ptr_row 0 rfl) rfl) <|
    rMv rfl <|
    rwp_det rfl rfl (det_sub_nw rfl rfl rfl ⟨by omega, by omega⟩) <|
    rwp_det rfl rfl (det_call rfl ok259 (show Pur cfg 259 [vE a, vI (l - 1)] (vI (depT m a)) from ih (by omega) a _ (by have := Ex.arg_wt (mem_of_get ha); omega) (by omega)) ⟨VLe.refl _, rfl, VLe.refl _, rfl, trivial⟩) <|
    rwp_det rfl rfl (det_add_nw rfl rfl rfl ⟨by omega, by omega⟩) <|
    rwp_det rfl rfl (det_max rfl rfl rfl) <|
    rMv rfl <|
    rwp_nil <|
    awp_region rfl <|
    rwp_det rfl rfl (det_add_nw rfl rfl rfl ⟨by omega, by omega⟩) <|
    rMv rfl <|
    rwp_nil ?_
   refine ⟨⟨k + 1, max d (1 + depT m a)⟩, ⟨by omega, by omega, by omega, by rw [hd3, drop_cons ha, depF]⟩, (by show e.Args.length - (k + 1) < e.Args.length - k; omega), Weak.mk [false] ⟨VLe.refl _, VLe.refl _, VLe.refl _, VLe.refl _, VLe.refl _, trivial⟩ rfl⟩
  ·try simp only [sx] at c2
   refine awp_exit <|
    sReg rfl <|
    rMv rfl <|
    rMv rfl <|
    rwp_nil <|
    awp_ret <|
    fin1 (rs_c rfl) ?_
   exact congrArg vI (by rw [hd3, drop_end (by omega)]; rfl)

theorem expr_depth (n : Nat) (e : Ex) (l : Int) (hn : n ≤ 100) (he : e.wt ≤ 6000000000000) (hl : l = n + 1) : Pur cfg 259 [vE e, vI l] (vI (depT n e)) := by
  induction n generalizing e l with
  | zero => exact expr_depth_step 0 (fun h => absurd rfl h) hn e l he hl
  | succ n ih => exact expr_depth_step (n + 1) (fun _ a l h1 h2 => ih a l (by omega) h1 (by omega)) hn e l he hl

theorem expr_Depth (e : Ex) (he : e.wt ≤ 6000000000000) :
    Pur cfg 220 [vE e] (vI (depT 40 e)) := by
 refine con_intro Tryz.func220 rfl Tryz.ntmps220 Tryz.results220 rfl ?_
 intro z hz
 refine sReg rfl <|
  rwp_op rfl rfl (ope_box rfl rfl) ?_
 rintro _ _ ⟨b1, rfl, rfl⟩
 refine rMv rfl <|
  rwp_nil <|
  sReg rfl <|
  rwp_det rfl rfl (det_load_agg rfl agg52 rfl (ptr_row 0 rfl) rfl) <|
  rwp_det rfl rfl (det_call rfl ok259 (expr_depth 40 e 41 (by omega) he (by omega)) ⟨VLe.refl _, rfl, VLe.refl _, rfl, trivial⟩) <|
  rMv rfl <|
  rwp_nil <|
  awp_ret <|
  fin1 (rs_c rfl) ?_
 exact rfl

end Go.W
