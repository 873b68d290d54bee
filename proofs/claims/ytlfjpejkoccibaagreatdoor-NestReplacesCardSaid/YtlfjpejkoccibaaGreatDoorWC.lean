/-
  Walks: what functions of the program compute. Printed by wip/gen/mk2.py.
  Conditions: none.
-/
import Derived.Test.YtlfjpejkoccibaaGreatDoorWB
set_option linter.unusedSimpArgs false
set_option linter.unusedVariables false
set_option maxRecDepth 10000
namespace Go.W
open Go Go.Eng Go.Proofs Go.L41 Go.Br
attribute [local irreducible] AWP RWP TD finQ
theorem agg44 : aggT Tryz.prog 44 = some 13 := by kernel_rfl
theorem el42 : elemT Tryz.prog 42 = some (44, 13, 160) := by kernel_rfl
theorem el70 : elemT Tryz.prog 70 = some (41, 2, 32) := by kernel_rfl
theorem fd44_0 : fieldT Tryz.prog 44 0 = some (0, 3) := by kernel_rfl
theorem fd44_1 : fieldT Tryz.prog 44 1 = some (1, 9) := by kernel_rfl
theorem fd44_2 : fieldT Tryz.prog 44 2 = some (2, 36) := by kernel_rfl
theorem fd44_3 : fieldT Tryz.prog 44 3 = some (4, 38) := by kernel_rfl
theorem fd44_4 : fieldT Tryz.prog 44 4 = some (9, 41) := by kernel_rfl
theorem fd44_5 : fieldT Tryz.prog 44 5 = some (11, 34) := by kernel_rfl
theorem fd44_6 : fieldT Tryz.prog 44 6 = some (12, 42) := by kernel_rfl
theorem fd72_0 : fieldT Tryz.prog 72 0 = some (0, 41) := by kernel_rfl
theorem fd72_1 : fieldT Tryz.prog 72 1 = some (2, 9) := by kernel_rfl
theorem fd72_2 : fieldT Tryz.prog 72 2 = some (3, 70) := by kernel_rfl
theorem fl36 : flatK Tryz.prog 36 = some [.int, .int] := by kernel_rfl
theorem ok49 : callOk Tryz.prog 49 = true := by kernel_rfl
theorem ok166 : callOk Tryz.prog 166 = true := by kernel_rfl
theorem ok235 : callOk Tryz.prog 235 = true := by kernel_rfl
theorem ok270 : callOk Tryz.prog 270 = true := by kernel_rfl
theorem ok271 : callOk Tryz.prog 271 = true := by kernel_rfl
theorem ok272 : callOk Tryz.prog 272 = true := by kernel_rfl
theorem ok273 : callOk Tryz.prog 273 = true := by kernel_rfl
theorem ok274 : callOk Tryz.prog 274 = true := by kernel_rfl
theorem ok275 : callOk Tryz.prog 275 = true := by kernel_rfl
theorem ok276 : callOk Tryz.prog 276 = true := by kernel_rfl
theorem ok277 : callOk Tryz.prog 277 = true := by kernel_rfl
theorem one34 : oneT Tryz.prog 34 = true := by kernel_rfl
theorem one42 : oneT Tryz.prog 42 = true := by kernel_rfl
theorem one70 : oneT Tryz.prog 70 = true := by kernel_rfl
theorem pl36 : placesT Tryz.prog 36 = some [(0, 1), (1, 1)] := by kernel_rfl
theorem sz44 : (Tryz.prog.info? 44).map (·.size) = some 13 := by kernel_rfl
theorem sz72 : (Tryz.prog.info? 72).map (·.size) = some 4 := by kernel_rfl
theorem un4 : Tryz.prog.underlying 4 = some .bool := by kernel_rfl
theorem zr36 : zeroT Tryz.prog 36 = some [(Value.int IntKind.i64 0), (Value.int IntKind.i64 0)] := by kernel_rfl
theorem zr44 : zeroT Tryz.prog 44 = some [(Value.int IntKind.i64 0), (Value.string (ByteArray.mk #[])), (Value.int IntKind.i64 0), (Value.int IntKind.i64 0), (Value.int IntKind.i64 0), (Value.int IntKind.i64 0), (Value.int IntKind.i64 0), (Value.int IntKind.i64 0), (Value.int IntKind.i64 0), (Value.int IntKind.i64 0), (Value.slice none 0 0), (Value.slice none 0 0), (Value.slice none 0 0)] := by kernel_rfl
theorem zr72 : zeroT Tryz.prog 72 = some [(Value.int IntKind.i64 0), (Value.slice none 0 0), (Value.string (ByteArray.mk #[])), (Value.slice none 0 0)] := by kernel_rfl
theorem expr_operands (op : Int) :
    Pur cfg 275 [vI op] (vI (nArgs op)) := by
 refine con_intro Tryz.func275 rfl Tryz.ntmps275 Tryz.results275 rfl ?_
 intro z hz
 refine sReg rfl <|
  rMv rfl <|
  rwp_nil <|
  awp_seq <|
  sReg rfl <|
  rMv rfl <|
  rwp_nil <|
  awp_block <|
  awp_seq <|
  sReg rfl <|
  rwp_det rfl rfl (det_eql rfl rfl rfl) <|
  rMv rfl <|
  rwp_nil <|
  awp_cond rfl (fun c1 => ?_) (fun c1 => ?_)
 ·try simp only [sx] at c1
  refine awp_skip <|
   awp_cond rfl (fun c3 => ?_) (fun c3 => ?_)
  ·try simp only [sx] at c3
   refine sReg rfl <|
    rMv rfl <|
    rwp_nil <|
    awp_ret <|
    fin1 (rs_c rfl) ?_
   exact congrArg vI (by unfold nArgs; (repeat' split) <;> omega)
  ·try simp only [sx] at c3
   refine awp_seq <|
    sReg rfl <|
    rwp_det rfl rfl (det_eql rfl rfl rfl) <|
    rMv rfl <|
    rwp_nil <|
    awp_cond rfl (fun c4 => ?_) (fun c4 => ?_)
   ·try simp only [sx] at c4
    refine awp_skip <|
     awp_cond rfl (fun c6 => ?_) (fun c6 => ?_)
    ·try simp only [sx] at c6
     refine sReg rfl <|
      rMv rfl <|
      rwp_nil <|
      awp_ret <|
      fin1 (rs_c rfl) ?_
     exact congrArg vI (by unfold nArgs; (repeat' split) <;> omega)
    ·try simp only [sx] at c6
     refine sReg rfl <|
      rwp_det rfl rfl (det_eql rfl rfl rfl) <|
      rMv rfl <|
      rwp_nil <|
      awp_cond rfl (fun c7 => ?_) (fun c7 => ?_)
     ·try simp only [sx] at c7
      refine sReg rfl <|
       rMv rfl <|
       rwp_nil <|
       awp_ret <|
       fin1 (rs_c rfl) ?_
      exact congrArg vI (by unfold nArgs; (repeat' split) <;> omega)
     ·try simp only [sx] at c7
      refine awp_skip <|
       sReg rfl <|
       rMv rfl <|
       rwp_nil <|
       awp_ret <|
       fin1 (rs_c rfl) ?_
      exact congrArg vI (by unfold nArgs; (repeat' split) <;> omega)
   ·try simp only [sx] at c4
    refine sReg rfl <|
     rwp_det rfl rfl (det_eql rfl rfl rfl) <|
     rMv rfl <|
     rwp_nil <|
     awp_cond rfl (fun c5 => ?_) (fun c5 => ?_)
    ·try simp only [sx] at c5
     refine awp_skip <|
      awp_cond rfl (fun c6 => ?_) (fun c6 => ?_)
     ·try simp only [sx] at c6
      refine sReg rfl <|
       rMv rfl <|
       rwp_nil <|
       awp_ret <|
       fin1 (rs_c rfl) ?_
      exact congrArg vI (by unfold nArgs; (repeat' split) <;> omega)
     ·try simp only [sx] at c6
      refine sReg rfl <|
       rwp_det rfl rfl (det_eql rfl rfl rfl) <|
       rMv rfl <|
       rwp_nil <|
       awp_cond rfl (fun c7 => ?_) (fun c7 => ?_)
      ·try simp only [sx] at c7
       refine sReg rfl <|
        rMv rfl <|
        rwp_nil <|
        awp_ret <|
        fin1 (rs_c rfl) ?_
       exact congrArg vI (by unfold nArgs; (repeat' split) <;> omega)
      ·try simp only [sx] at c7
       refine awp_skip <|
        sReg rfl <|
        rMv rfl <|
        rwp_nil <|
        awp_ret <|
        fin1 (rs_c rfl) ?_
       exact congrArg vI (by unfold nArgs; (repeat' split) <;> omega)
    ·try simp only [sx] at c5
     refine awp_region rfl <|
      rwp_det rfl rfl (det_eql rfl rfl rfl) <|
      rMv rfl <|
      rwp_nil <|
      awp_cond rfl (fun c6 => ?_) (fun c6 => ?_)
     ·try simp only [sx] at c6
      refine sReg rfl <|
       rMv rfl <|
       rwp_nil <|
       awp_ret <|
       fin1 (rs_c rfl) ?_
      exact congrArg vI (by unfold nArgs; (repeat' split) <;> omega)
     ·try simp only [sx] at c6
      refine sReg rfl <|
       rwp_det rfl rfl (det_eql rfl rfl rfl) <|
       rMv rfl <|
       rwp_nil <|
       awp_cond rfl (fun c7 => ?_) (fun c7 => ?_)
      ·try simp only [sx] at c7
       refine sReg rfl <|
        rMv rfl <|
        rwp_nil <|
        awp_ret <|
        fin1 (rs_c rfl) ?_
       exact congrArg vI (by unfold nArgs; (repeat' split) <;> omega)
      ·try simp only [sx] at c7
       refine awp_skip <|
        sReg rfl <|
        rMv rfl <|
        rwp_nil <|
        awp_ret <|
        fin1 (rs_c rfl) ?_
       exact congrArg vI (by unfold nArgs; (repeat' split) <;> omega)
 ·try simp only [sx] at c1
  refine sReg rfl <|
   rwp_det rfl rfl (det_eql rfl rfl rfl) <|
   rMv rfl <|
   rwp_nil <|
   awp_cond rfl (fun c2 => ?_) (fun c2 => ?_)
  ·try simp only [sx] at c2
   refine awp_skip <|
    awp_cond rfl (fun c3 => ?_) (fun c3 => ?_)
   ·try simp only [sx] at c3
    refine sReg rfl <|
     rMv rfl <|
     rwp_nil <|
     awp_ret <|
     fin1 (rs_c rfl) ?_
    exact congrArg vI (by unfold nArgs; (repeat' split) <;> omega)
   ·try simp only [sx] at c3
    refine awp_seq <|
     sReg rfl <|
     rwp_det rfl rfl (det_eql rfl rfl rfl) <|
     rMv rfl <|
     rwp_nil <|
     awp_cond rfl (fun c4 => ?_) (fun c4 => ?_)
    ·try simp only [sx] at c4
     refine awp_skip <|
      awp_cond rfl (fun c6 => ?_) (fun c6 => ?_)
     ·try simp only [sx] at c6
      refine sReg rfl <|
       rMv rfl <|
       rwp_nil <|
       awp_ret <|
       fin1 (rs_c rfl) ?_
      exact congrArg vI (by unfold nArgs; (repeat' split) <;> omega)
     ·try simp only [sx] at c6
      refine sReg rfl <|
       rwp_det rfl rfl (det_eql rfl rfl rfl) <|
       rMv rfl <|
       rwp_nil <|
       awp_cond rfl (fun c7 => ?_) (fun c7 => ?_)
      ·try simp only [sx] at c7
       refine sReg rfl <|
        rMv rfl <|
        rwp_nil <|
        awp_ret <|
        fin1 (rs_c rfl) ?_
       exact congrArg vI (by unfold nArgs; (repeat' split) <;> omega)
      ·try simp only [sx] at c7
       refine awp_skip <|
        sReg rfl <|
        rMv rfl <|
        rwp_nil <|
        awp_ret <|
        fin1 (rs_c rfl) ?_
       exact congrArg vI (by unfold nArgs; (repeat' split) <;> omega)
    ·try simp only [sx] at c4
     refine sReg rfl <|
      rwp_det rfl rfl (det_eql rfl rfl rfl) <|
      rMv rfl <|
      rwp_nil <|
      awp_cond rfl (fun c5 => ?_) (fun c5 => ?_)
     ·try simp only [sx] at c5
      refine awp_skip <|
       awp_cond rfl (fun c6 => ?_) (fun c6 => ?_)
      ·try simp only [sx] at c6
       refine sReg rfl <|
        rMv rfl <|
        rwp_nil <|
        awp_ret <|
        fin1 (rs_c rfl) ?_
       exact congrArg vI (by unfold nArgs; (repeat' split) <;> omega)
      ·try simp only [sx] at c6
       refine sReg rfl <|
        rwp_det rfl rfl (det_eql rfl rfl rfl) <|
        rMv rfl <|
        rwp_nil <|
        awp_cond rfl (fun c7 => ?_) (fun c7 => ?_)
       ·try simp only [sx] at c7
        refine sReg rfl <|
         rMv rfl <|
         rwp_nil <|
         awp_ret <|
         fin1 (rs_c rfl) ?_
        exact congrArg vI (by unfold nArgs; (repeat' split) <;> omega)
       ·try simp only [sx] at c7
        refine awp_skip <|
         sReg rfl <|
         rMv rfl <|
         rwp_nil <|
         awp_ret <|
         fin1 (rs_c rfl) ?_
        exact congrArg vI (by unfold nArgs; (repeat' split) <;> omega)
     ·try simp only [sx] at c5
      refine awp_region rfl <|
       rwp_det rfl rfl (det_eql rfl rfl rfl) <|
       rMv rfl <|
       rwp_nil <|
       awp_cond rfl (fun c6 => ?_) (fun c6 => ?_)
      ·try simp only [sx] at c6
       refine sReg rfl <|
        rMv rfl <|
        rwp_nil <|
        awp_ret <|
        fin1 (rs_c rfl) ?_
       exact congrArg vI (by unfold nArgs; (repeat' split) <;> omega)
      ·try simp only [sx] at c6
       refine sReg rfl <|
        rwp_det rfl rfl (det_eql rfl rfl rfl) <|
        rMv rfl <|
        rwp_nil <|
        awp_cond rfl (fun c7 => ?_) (fun c7 => ?_)
       ·try simp only [sx] at c7
        refine sReg rfl <|
         rMv rfl <|
         rwp_nil <|
         awp_ret <|
         fin1 (rs_c rfl) ?_
        exact congrArg vI (by unfold nArgs; (repeat' split) <;> omega)
       ·try simp only [sx] at c7
        refine awp_skip <|
         sReg rfl <|
         rMv rfl <|
         rwp_nil <|
         awp_ret <|
         fin1 (rs_c rfl) ?_
        exact congrArg vI (by unfold nArgs; (repeat' split) <;> omega)
  ·try simp only [sx] at c2
   refine awp_region rfl <|
    rwp_det rfl rfl (det_eql rfl rfl rfl) <|
    rMv rfl <|
    rwp_nil <|
    awp_cond rfl (fun c3 => ?_) (fun c3 => ?_)
   ·try simp only [sx] at c3
    refine sReg rfl <|
     rMv rfl <|
     rwp_nil <|
     awp_ret <|
     fin1 (rs_c rfl) ?_
    exact congrArg vI (by unfold nArgs; (repeat' split) <;> omega)
   ·try simp only [sx] at c3
    refine awp_seq <|
     sReg rfl <|
     rwp_det rfl rfl (det_eql rfl rfl rfl) <|
     rMv rfl <|
     rwp_nil <|
     awp_cond rfl (fun c4 => ?_) (fun c4 => ?_)
    ·try simp only [sx] at c4
     refine awp_skip <|
      awp_cond rfl (fun c6 => ?_) (fun c6 => ?_)
     ·try simp only [sx] at c6
      refine sReg rfl <|
       rMv rfl <|
       rwp_nil <|
       awp_ret <|
       fin1 (rs_c rfl) ?_
      exact congrArg vI (by unfold nArgs; (repeat' split) <;> omega)
     ·try simp only [sx] at c6
      refine sReg rfl <|
       rwp_det rfl rfl (det_eql rfl rfl rfl) <|
       rMv rfl <|
       rwp_nil <|
       awp_cond rfl (fun c7 => ?_) (fun c7 => ?_)
      ·try simp only [sx] at c7
       refine sReg rfl <|
        rMv rfl <|
        rwp_nil <|
        awp_ret <|
        fin1 (rs_c rfl) ?_
       exact congrArg vI (by unfold nArgs; (repeat' split) <;> omega)
      ·try simp only [sx] at c7
       refine awp_skip <|
        sReg rfl <|
        rMv rfl <|
        rwp_nil <|
        awp_ret <|
        fin1 (rs_c rfl) ?_
       exact congrArg vI (by unfold nArgs; (repeat' split) <;> omega)
    ·try simp only [sx] at c4
     refine sReg rfl <|
      rwp_det rfl rfl (det_eql rfl rfl rfl) <|
      rMv rfl <|
      rwp_nil <|
      awp_cond rfl (fun c5 => ?_) (fun c5 => ?_)
     ·try simp only [sx] at c5
      refine awp_skip <|
       awp_cond rfl (fun c6 => ?_) (fun c6 => ?_)
      ·try simp only [sx] at c6
       refine sReg rfl <|
        rMv rfl <|
        rwp_nil <|
        awp_ret <|
        fin1 (rs_c rfl) ?_
       exact congrArg vI (by unfold nArgs; (repeat' split) <;> omega)
      ·try simp only [sx] at c6
       refine sReg rfl <|
        rwp_det rfl rfl (det_eql rfl rfl rfl) <|
        rMv rfl <|
        rwp_nil <|
        awp_cond rfl (fun c7 => ?_) (fun c7 => ?_)
       ·try simp only [sx] at c7
        refine sReg rfl <|
         rMv rfl <|
         rwp_nil <|
         awp_ret <|
         fin1 (rs_c rfl) ?_
        exact congrArg vI (by unfold nArgs; (repeat' split) <;> omega)
       ·try simp only [sx] at c7
        refine awp_skip <|
         sReg rfl <|
         rMv rfl <|
         rwp_nil <|
         awp_ret <|
         fin1 (rs_c rfl) ?_
        exact congrArg vI (by unfold nArgs; (repeat' split) <;> omega)
     ·try simp only [sx] at c5
      refine awp_region rfl <|
       rwp_det rfl rfl (det_eql rfl rfl rfl) <|
       rMv rfl <|
       rwp_nil <|
       awp_cond rfl (fun c6 => ?_) (fun c6 => ?_)
      ·try simp only [sx] at c6
       refine sReg rfl <|
        rMv rfl <|
        rwp_nil <|
        awp_ret <|
        fin1 (rs_c rfl) ?_
       exact congrArg vI (by unfold nArgs; (repeat' split) <;> omega)
      ·try simp only [sx] at c6
       refine sReg rfl <|
        rwp_det rfl rfl (det_eql rfl rfl rfl) <|
        rMv rfl <|
        rwp_nil <|
        awp_cond rfl (fun c7 => ?_) (fun c7 => ?_)
       ·try simp only [sx] at c7
        refine sReg rfl <|
         rMv rfl <|
         rwp_nil <|
         awp_ret <|
         fin1 (rs_c rfl) ?_
        exact congrArg vI (by unfold nArgs; (repeat' split) <;> omega)
       ·try simp only [sx] at c7
        refine awp_skip <|
         sReg rfl <|
         rMv rfl <|
         rwp_nil <|
         awp_ret <|
         fin1 (rs_c rfl) ?_
        exact congrArg vI (by unfold nArgs; (repeat' split) <;> omega)

theorem expr_IsCondition (e : Ex) :
    Pur cfg 166 [vE e] (vB (isCond e)) := by
 refine con_intro Tryz.func166 rfl Tryz.ntmps166 Tryz.results166 rfl ?_
 intro z hz
 refine sReg rfl <|
  rwp_op rfl rfl (ope_box rfl rfl) ?_
 rintro _ _ ⟨b1, rfl, rfl⟩
 refine rMv rfl <|
  rwp_nil <|
  sReg rfl <|
  rwp_det rfl rfl (det_field_lit rfl fd44_0 rfl) <|
  rwp_det rfl rfl (det_load_one rfl one3 rfl (ptr_row 0 rfl) rfl) <|
  rwp_det rfl rfl (det_leq rfl rfl rfl) <|
  rMv rfl <|
  rLz [] rfl gv1 trivial (fun g1_3 => det_field_lit rfl fd44_0 rfl) rfl <|
  rLz [(7, _)] rfl gv1 ⟨rfl, rfl, trivial⟩ (fun g1_3 => det_load_one rfl one3 rfl (ptr_row 0 rfl) rfl) rfl <|
  rLz [(8, _)] rfl gv1 ⟨rfl, rfl, trivial⟩ (fun g1_3 => det_leq rfl rfl rfl) rfl <|
  rwp_det rfl rfl (det_and rfl rfl rfl (fun h => h) rfl) <|
  rMv rfl <|
  rwp_nil <|
  awp_ret <|
  fin1 (rs_c rfl) ?_
 exact rfl

theorem expr_requiresCondition (op i : Int) :
    Pur cfg 277 [vI op, vI i] (vB (wantC op i)) := by
 refine con_intro Tryz.func277 rfl Tryz.ntmps277 Tryz.results277 rfl ?_
 intro z hz
 refine sReg rfl <|
  rMv rfl <|
  rwp_nil <|
  awp_seq <|
  sReg rfl <|
  rMv rfl <|
  rwp_nil <|
  awp_block <|
  awp_seq <|
  sReg rfl <|
  rwp_det rfl rfl (det_eql rfl rfl rfl) <|
  rMv rfl <|
  rwp_nil <|
  awp_cond rfl (fun c1 => ?_) (fun c1 => ?_)
 ·try simp only [sx] at c1
  refine awp_skip <|
   awp_cond rfl (fun c3 => ?_) (fun c3 => ?_)
  ·try simp only [sx] at c3
   refine sReg rfl <|
    rMv rfl <|
    rwp_nil <|
    awp_ret <|
    fin1 (rs_c rfl) ?_
   exact congrArg vB (by unfold wantC; first | (exfalso; omega) | (simp [*]; done) | (rw [Bool.eq_iff_iff]; simp only [Bool.or_eq_true, Bool.and_eq_true, decide_eq_true_eq]; omega))
  ·try simp only [sx] at c3
   refine awp_skip <|
    sReg rfl <|
    rMv rfl <|
    rwp_det rfl rfl (det_eql rfl rfl rfl) <|
    rMv rfl <|
    rLz [] rfl gv1 trivial (fun g6_2 => det_move rfl rfl) rfl <|
    rLz [(13, _)] rfl gv1 ⟨rfl, rfl, trivial⟩ (fun g6_2 => det_eql rfl rfl rfl) rfl <|
    rwp_det rfl rfl (det_and rfl rfl rfl (fun h => h) rfl) <|
    rMv rfl <|
    rwp_nil <|
    awp_ret <|
    fin1 (rs_c rfl) ?_
   exact congrArg vB (by unfold wantC; first | (exfalso; omega) | (simp [*]; done) | (rw [Bool.eq_iff_iff]; simp only [Bool.or_eq_true, Bool.and_eq_true, decide_eq_true_eq]; omega))
 ·try simp only [sx] at c1
  refine sReg rfl <|
   rwp_det rfl rfl (det_eql rfl rfl rfl) <|
   rMv rfl <|
   rwp_nil <|
   awp_cond rfl (fun c2 => ?_) (fun c2 => ?_)
  ·try simp only [sx] at c2
   refine awp_skip <|
    awp_cond rfl (fun c3 => ?_) (fun c3 => ?_)
   ·try simp only [sx] at c3
    refine sReg rfl <|
     rMv rfl <|
     rwp_nil <|
     awp_ret <|
     fin1 (rs_c rfl) ?_
    exact congrArg vB (by unfold wantC; first | (exfalso; omega) | (simp [*]; done) | (rw [Bool.eq_iff_iff]; simp only [Bool.or_eq_true, Bool.and_eq_true, decide_eq_true_eq]; omega))
   ·try simp only [sx] at c3
    refine awp_skip <|
     sReg rfl <|
     rMv rfl <|
     rwp_det rfl rfl (det_eql rfl rfl rfl) <|
     rMv rfl <|
     rLz [] rfl gv1 trivial (fun g6_2 => det_move rfl rfl) rfl <|
     rLz [(13, _)] rfl gv1 ⟨rfl, rfl, trivial⟩ (fun g6_2 => det_eql rfl rfl rfl) rfl <|
     rwp_det rfl rfl (det_and rfl rfl rfl (fun h => h) rfl) <|
     rMv rfl <|
     rwp_nil <|
     awp_ret <|
     fin1 (rs_c rfl) ?_
    exact congrArg vB (by unfold wantC; first | (exfalso; omega) | (simp [*]; done) | (rw [Bool.eq_iff_iff]; simp only [Bool.or_eq_true, Bool.and_eq_true, decide_eq_true_eq]; omega))
  ·try simp only [sx] at c2
   refine awp_region rfl <|
    rwp_det rfl rfl (det_eql rfl rfl rfl) <|
    rMv rfl <|
    rwp_nil <|
    awp_cond rfl (fun c3 => ?_) (fun c3 => ?_)
   ·try simp only [sx] at c3
    refine sReg rfl <|
     rMv rfl <|
     rwp_nil <|
     awp_ret <|
     fin1 (rs_c rfl) ?_
    exact congrArg vB (by unfold wantC; first | (exfalso; omega) | (simp [*]; done) | (rw [Bool.eq_iff_iff]; simp only [Bool.or_eq_true, Bool.and_eq_true, decide_eq_true_eq]; omega))
   ·try simp only [sx] at c3
    refine awp_skip <|
     sReg rfl <|
     rMv rfl <|
     rwp_det rfl rfl (det_eql rfl rfl rfl) <|
     rMv rfl <|
     rLz [] rfl gv1 trivial (fun g6_2 => det_move rfl rfl) rfl <|
     rLz [(13, _)] rfl gv1 ⟨rfl, rfl, trivial⟩ (fun g6_2 => det_eql rfl rfl rfl) rfl <|
     rwp_det rfl rfl (det_and rfl rfl rfl (fun h => h) rfl) <|
     rMv rfl <|
     rwp_nil <|
     awp_ret <|
     fin1 (rs_c rfl) ?_
    exact congrArg vB (by unfold wantC; first | (exfalso; omega) | (simp [*]; done) | (rw [Bool.eq_iff_iff]; simp only [Bool.or_eq_true, Bool.and_eq_true, decide_eq_true_eq]; omega))

theorem expr_isZero (l : Lf) :
    Pur cfg 270 [vLin l] (vB (zeroL l)) := by
 refine con_intro Tryz.func270 rfl Tryz.ntmps270 Tryz.results270 rfl ?_
 intro z hz
 refine sReg rfl <|
  rwp_op rfl rfl (ope_box rfl rfl) ?_
 rintro _ _ ⟨b1, rfl, rfl⟩
 refine rMv rfl <|
  rwp_nil <|
  sReg rfl <|
  rwp_det rfl rfl (det_field_lit rfl fd41_0 rfl) <|
  rwp_det rfl rfl (det_load_one rfl one2 rfl (ptr_row 0 rfl) rfl) <|
  rwp_det rfl rfl (det_eql rfl rfl rfl) <|
  rMv rfl <|
  rLz [] rfl gv1 trivial (fun g1_3 => det_field_lit rfl fd41_1 rfl) rfl <|
  rLz [(7, _)] rfl gv1 ⟨rfl, rfl, trivial⟩ (fun g1_3 => det_load_one rfl one39 rfl (ptr_row 0 rfl) rfl) rfl <|
  rLz [(8, _)] rfl gv1 ⟨rfl, rfl, trivial⟩ (fun g1_3 => det_len_slm rfl el39 rfl) rfl <|
  rLz [(9, _)] rfl gv1 ⟨rfl, rfl, trivial⟩ (fun g1_3 => det_eql rfl rfl rfl) rfl <|
  rwp_det rfl rfl (det_and rfl rfl rfl (fun h => h) rfl) <|
  rMv rfl <|
  rwp_nil <|
  awp_ret <|
  fin1 (rs_c rfl) ?_
 exact rfl

theorem expr_wellFormed (x : Ix) :
    Pur cfg 273 [vIndex x] (vB (wellIx x)) := by
 refine con_intro Tryz.func273 rfl Tryz.ntmps273 Tryz.results273 rfl ?_
 intro z hz
 refine sReg rfl <|
  rwp_op rfl rfl (ope_box rfl rfl) ?_
 rintro _ _ ⟨b1, rfl, rfl⟩
 refine rMv rfl <|
  rwp_nil <|
  awp_seq <|
  sReg rfl <|
  rwp_det rfl rfl (det_field_lit rfl fd72_1 rfl) <|
  rwp_det rfl rfl (det_load_one rfl one9 rfl (ptr_row 0 rfl) rfl) <|
  rwp_det rfl rfl (det_seql rfl rfl rfl) <|
  rwp_nil <|
  awp_cond rfl (fun c1 => ?_) (fun c1 => ?_)
 ·try simp only [sx] at c1
  refine sReg rfl <|
   rwp_det rfl rfl (det_field_lit rfl fd72_2 rfl) <|
   rwp_det rfl rfl (det_load_one rfl one70 rfl (ptr_row 0 rfl) rfl) <|
   rwp_det rfl rfl (det_len_slm rfl el70 rfl) <|
   rwp_det rfl rfl (det_eql rfl rfl rfl) <|
   rMv rfl <|
   rwp_nil <|
   awp_ret <|
   fin1 (rs_c rfl) ?_
  rw [wellIx, dec_true c1]; rfl
 ·try simp only [sx] at c1
  refine awp_skip <|
   sReg rfl <|
   rwp_det rfl rfl (det_field_lit rfl fd72_0 rfl) <|
   rwp_det rfl rfl (det_load_agg rfl agg41 rfl (ptr_row 0 rfl) rfl) <|
   rwp_det rfl rfl (det_call rfl ok270 (expr_isZero x.Lin) ⟨VLe.refl _, rfl, trivial⟩) <|
   rMv rfl <|
   rwp_nil <|
   awp_ret <|
   fin1 (rs_c rfl) ?_
  rw [wellIx, dec_false c1]; rfl

theorem expr_syntax_1 (x : Ix) :
    Pur cfg 272 [vIndex x] (vB (!wellIx x)) := by
 refine con_intro Tryz.func272 rfl Tryz.ntmps272 Tryz.results272 rfl ?_
 intro z hz
 refine sReg rfl <|
  rwp_op rfl rfl (ope_box rfl rfl) ?_
 rintro _ _ ⟨b1, rfl, rfl⟩
 refine rMv rfl <|
  rwp_nil <|
  sReg rfl <|
  rwp_det rfl rfl (det_load_agg rfl agg72 rfl (ptr_row 0 rfl) rfl) <|
  rwp_det rfl rfl (det_call rfl ok273 (expr_wellFormed x) ⟨VLe.refl _, rfl, trivial⟩) <|
  rwp_det rfl rfl (det_not rfl rfl) <|
  rMv rfl <|
  rwp_nil <|
  awp_ret <|
  fin1 (rs_c rfl) ?_
 exact rfl

theorem expr_names_1 (x : Ix) :
    Pur cfg 274 [vIndex x] (vB (!nmIx x)) := by
 refine con_intro Tryz.func274 rfl Tryz.ntmps274 Tryz.results274 rfl ?_
 intro z hz
 refine sReg rfl <|
  rwp_op rfl rfl (ope_box rfl rfl) ?_
 rintro _ _ ⟨b1, rfl, rfl⟩
 refine rMv rfl <|
  rwp_nil <|
  sReg rfl <|
  rwp_det rfl rfl (det_field_lit rfl fd72_1 rfl) <|
  rwp_det rfl rfl (det_load_one rfl one9 rfl (ptr_row 0 rfl) rfl) <|
  rwp_det rfl rfl (det_sneq rfl rfl rfl) <|
  rMv rfl <|
  rLz [] rfl gv1 trivial (fun g1_3 => det_field_lit rfl fd72_1 rfl) rfl <|
  rLz [(7, _)] rfl gv1 ⟨rfl, rfl, trivial⟩ (fun g1_3 => det_load_one rfl one9 rfl (ptr_row 0 rfl) rfl) rfl <|
  rLz [(8, _)] rfl gv1 ⟨rfl, rfl, trivial⟩ (fun g1_3 => det_call rfl ok49 (lexer_IsName _) ⟨VLe.refl _, rfl, trivial⟩) rfl <|
  rLz [(9, _)] rfl gv1 ⟨rfl, rfl, trivial⟩ (fun g1_3 => det_not rfl rfl) rfl <|
  rwp_det rfl rfl (det_and rfl rfl rfl (fun h => h) rfl) <|
  rMv rfl <|
  rwp_nil <|
  awp_ret <|
  fin1 (rs_c rfl) ?_
 exact congrArg vB (by unfold nmIx; simp)

theorem expr_rank_1 (x : Ix) :
    Pur cfg 276 [vIndex x] (vB (!rkIx x)) := by
 refine con_intro Tryz.func276 rfl Tryz.ntmps276 Tryz.results276 rfl ?_
 intro z hz
 refine sReg rfl <|
  rwp_op rfl rfl (ope_box rfl rfl) ?_
 rintro _ _ ⟨b1, rfl, rfl⟩
 refine rMv rfl <|
  rwp_nil <|
  sReg rfl <|
  rwp_det rfl rfl (det_field_lit rfl fd72_2 rfl) <|
  rwp_det rfl rfl (det_load_one rfl one70 rfl (ptr_row 0 rfl) rfl) <|
  rwp_det rfl rfl (det_len_slm rfl el70 rfl) <|
  rwp_det rfl rfl (det_gtr rfl rfl rfl) <|
  rMv rfl <|
  rwp_nil <|
  awp_ret <|
  fin1 (rs_c rfl) ?_
 exact congrArg vB (by unfold rkIx; simp)

theorem expr_syntax (e : Ex) (he : e.wt ≤ 6000000000000) :
    Pur cfg 236 [vE e] (vB (synOk e)) := by
 refine con_intro Tryz.func236 rfl Tryz.ntmps236 Tryz.results236 rfl ?_
 intro z hz
 obtain ⟨hL, hI, hA⟩ := e.parts he
 refine sReg rfl <|
  rwp_op rfl rfl (ope_box rfl rfl) ?_
 rintro _ _ ⟨b1, rfl, rfl⟩
 refine rMv rfl <|
  rwp_nil <|
  awp_seq <|
  awp_draw 13 mixed (by kernel_rfl) rfl rfl <|
  td_det rfl rfl (det_field_lit rfl fd44_0 rfl) <|
  td_det rfl rfl (det_load_one rfl one3 rfl (ptr_row 0 rfl) rfl) <|
  td_det rfl rfl (det_eql rfl rfl rfl) <|
  td_det rfl rfl (det_field_lit rfl fd44_0 rfl) <|
  td_det rfl rfl (det_load_one rfl one3 rfl (ptr_row 0 rfl) rfl) <|
  td_det rfl rfl (det_eql rfl rfl rfl) <|
  td_det rfl rfl (det_move rfl rfl) <|
  td_lazy [] rfl rfl rfl rfl gv1 trivial (fun g1_6 => det_field_lit rfl fd44_0 rfl) rfl <|
  td_lazy [(14, _)] rfl rfl rfl rfl gv1 ⟨rfl, rfl, trivial⟩ (fun g1_6 => det_load_one rfl one3 rfl (ptr_row 0 rfl) rfl) rfl <|
  td_lazy [(15, _)] rfl rfl rfl rfl gv1 ⟨rfl, rfl, trivial⟩ (fun g1_6 => det_eql rfl rfl rfl) rfl <|
  td_det rfl rfl (det_or rfl rfl rfl rfl (fun h => (lzf h))) <|
  td_det rfl rfl (det_assign rfl rfl) <|
  td_det rfl rfl (det_assign rfl rfl) <|
  td_nil <|
  rwp_nil <|
  awp_seq <|
  awp_draw 8 mixed (by kernel_rfl) rfl rfl <|
  td_det rfl rfl (det_field_lit rfl fd44_0 rfl) <|
  td_det rfl rfl (det_load_one rfl one3 rfl (ptr_row 0 rfl) rfl) <|
  td_det rfl rfl (det_eql rfl rfl rfl) <|
  td_det rfl rfl (det_field_lit rfl fd44_0 rfl) <|
  td_det rfl rfl (det_load_one rfl one3 rfl (ptr_row 0 rfl) rfl) <|
  td_det rfl rfl (det_eql rfl rfl rfl) <|
  td_det rfl rfl (det_assign rfl rfl) <|
  td_det rfl rfl (det_assign rfl rfl) <|
  td_nil <|
  rwp_nil <|
  awp_seq <|
  awp_block <|
  sReg rfl <|
  rwp_det rfl rfl (det_field_lit rfl fd44_0 rfl) <|
  rwp_det rfl rfl (det_load_one rfl one3 rfl (ptr_row 0 rfl) rfl) <|
  rwp_det rfl rfl (det_lss rfl rfl rfl) <|
  rMv rfl <|
  rLz [] rfl gv1 trivial (fun g3_3 => det_field_lit rfl fd44_0 rfl) rfl <|
  rLz [(29, _)] rfl gv1 ⟨rfl, rfl, trivial⟩ (fun g3_3 => det_load_one rfl one3 rfl (ptr_row 0 rfl) rfl) rfl <|
  rLz [(30, _)] rfl gv1 ⟨rfl, rfl, trivial⟩ (fun g3_3 => det_gtr rfl rfl rfl) rfl <|
  rwp_det rfl rfl (det_or rfl rfl rfl rfl (fun h => (lzf h))) <|
  rMv rfl <|
  rwp_nil <|
  awp_cond rfl (fun c1 => ?_) (fun c1 => ?_)
 ·refine sReg rfl <|
   rMv rfl <|
   rwp_nil <|
   awp_ret <|
   fin1 (rs_c rfl) ?_
  exact congrArg vB (by simp only [synOk, c1, Bool.not_true, Bool.not_false, Bool.true_and, Bool.and_true, Bool.false_and, Bool.and_false])
 ·refine sReg rfl <|
   rMv rfl <|
   rwp_det rfl rfl (det_not rfl rfl) <|
   rMv rfl <|
   rLz [] rfl gv1 trivial (fun g5_2 => det_field_lit rfl fd44_2 rfl) rfl <|
   rLz [(37, _)] rfl gv1 ⟨rfl, rfl, trivial⟩ (fun g5_2 => det_load_agg rfl agg36 rfl (ptr_row 0 rfl) rfl) rfl <|
   rLz [] rfl gv1 trivial (fun g5_2 => det_build rfl zr36 pl36 rfl) rfl <|
   rLz [(38, _), (39, _)] rfl gv1 ⟨rfl, rfl, rfl, rfl, trivial⟩ (fun g5_2 => det_aneq rfl fl36 rfl rfl rfl) rfl <|
   rwp_det rfl rfl (det_and rfl rfl rfl (fun h => h) rfl) <|
   rMv rfl <|
   rwp_nil <|
   awp_cond rfl (fun c2 => ?_) (fun c2 => ?_)
  ·have c2 : (!decide (e.Op = 1) && !val0 e.Val) = true := c2
   refine sReg rfl <|
    rMv rfl <|
    rwp_nil <|
    awp_ret <|
    fin1 (rs_c rfl) ?_
   exact congrArg vB (by simp only [synOk, c2, Bool.not_true, Bool.not_false, Bool.true_and, Bool.and_true, Bool.false_and, Bool.and_false])
  ·have c2 : (!decide (e.Op = 1) && !val0 e.Val) = false := c2
   refine sReg rfl <|
    rMv rfl <|
    rwp_det rfl rfl (det_not rfl rfl) <|
    rMv rfl <|
    rLz [] rfl gv1 trivial (fun g7_2 => det_field_lit rfl fd44_3 rfl) rfl <|
    rLz [(46, _)] rfl gv1 ⟨rfl, rfl, trivial⟩ (fun g7_2 => det_load_agg rfl agg38 rfl (ptr_row 0 rfl) rfl) rfl <|
    rLz [] rfl gv1 trivial (fun g7_2 => det_build rfl zr38 pl38 rfl) rfl <|
    rLz [(47, _), (48, _)] rfl gv1 ⟨rfl, rfl, rfl, rfl, trivial⟩ (fun g7_2 => det_aneq rfl fl38 rfl rfl rfl) rfl <|
    rwp_det rfl rfl (det_and rfl rfl rfl (fun h => h) rfl) <|
    rMv rfl <|
    rwp_nil <|
    awp_cond rfl (fun c3 => ?_) (fun c3 => ?_)
   ·have c3 : (!(decide (e.Op = 1) || decide (e.Op = 12)) && !ty0 e.Ty) = true := c3
    refine sReg rfl <|
     rMv rfl <|
     rwp_nil <|
     awp_ret <|
     fin1 (rs_c rfl) ?_
    exact congrArg vB (by simp only [synOk, c3, Bool.not_true, Bool.not_false, Bool.true_and, Bool.and_true, Bool.false_and, Bool.and_false])
   ·have c3 : (!(decide (e.Op = 1) || decide (e.Op = 12)) && !ty0 e.Ty) = false := c3
    refine sReg rfl <|
     rMv rfl <|
     rwp_det rfl rfl (det_not rfl rfl) <|
     rMv rfl <|
     rLz [] rfl gv1 trivial (fun g9_2 => det_field_lit rfl fd44_4 rfl) rfl <|
     rLz [(55, _)] rfl gv1 ⟨rfl, rfl, trivial⟩ (fun g9_2 => det_load_agg rfl agg41 rfl (ptr_row 0 rfl) rfl) rfl <|
     rLz [(56, _)] rfl gv1 ⟨rfl, rfl, trivial⟩ (fun g9_2 => det_call rfl ok270 (expr_isZero e.Lin) ⟨VLe.refl _, rfl, trivial⟩) rfl <|
     rLz [(57, _)] rfl gv1 ⟨rfl, rfl, trivial⟩ (fun g9_2 => det_not rfl rfl) rfl <|
     rwp_det rfl rfl (det_and rfl rfl rfl (fun h => h) rfl) <|
     rMv rfl <|
     rwp_nil <|
     awp_cond rfl (fun c4 => ?_) (fun c4 => ?_)
    ·refine sReg rfl <|
      rMv rfl <|
      rwp_nil <|
      awp_ret <|
      fin1 (rs_c rfl) ?_
     exact congrArg vB (by simp only [synOk, c4, Bool.not_true, Bool.not_false, Bool.true_and, Bool.and_true, Bool.false_and, Bool.and_false])
    ·refine sReg rfl <|
      rMv rfl <|
      rwp_det rfl rfl (det_not rfl rfl) <|
      rMv rfl <|
      rLz [] rfl gv1 trivial (fun g11_2 => det_field_lit rfl fd44_1 rfl) rfl <|
      rLz [(64, _)] rfl gv1 ⟨rfl, rfl, trivial⟩ (fun g11_2 => det_load_one rfl one9 rfl (ptr_row 0 rfl) rfl) rfl <|
      rLz [(65, _)] rfl gv1 ⟨rfl, rfl, trivial⟩ (fun g11_2 => det_sneq rfl rfl rfl) rfl <|
      rLz [(66, _)] rfl gv1 ⟨rfl, rfl, trivial⟩ (fun g11_2 => det_move rfl rfl) rfl <|
      rLz [] rfl gv2 trivial (fun g11_6 => det_field_lit rfl fd44_5 rfl) rfl <|
      rLz [(68, _)] rfl gv2 ⟨rfl, rfl, trivial⟩ (fun g11_6 => det_load_one rfl one34 rfl (ptr_row 0 rfl) rfl) rfl <|
      rLz [(69, _)] rfl gv2 ⟨rfl, rfl, trivial⟩ (fun g11_6 => det_len_slm rfl el34 rfl) rfl <|
      rLz [(70, _)] rfl gv2 ⟨rfl, rfl, trivial⟩ (fun g11_6 => det_gtr rfl rfl rfl) rfl <|
      rLz [(67, _)] rfl gv1 ⟨rfl, rfl, trivial⟩ (fun g11_2 => det_or rfl rfl rfl rfl (fun h => and_mk (by assumption) (lzf h))) rfl <|
      rwp_det rfl rfl (det_and rfl rfl rfl (fun h => h) rfl) <|
      rMv rfl <|
      rwp_nil <|
      awp_cond rfl (fun c5 => ?_) (fun c5 => ?_)
     ·refine sReg rfl <|
       rMv rfl <|
       rwp_nil <|
       awp_ret <|
       fin1 (rs_c rfl) ?_
      exact congrArg vB (by simp only [synOk, c5, Bool.not_true, Bool.not_false, Bool.true_and, Bool.and_true, Bool.false_and, Bool.and_false])
     ·refine awp_skip <|
       sReg rfl <|
       rwp_det rfl rfl (det_field_lit rfl fd44_5 rfl) <|
       rwp_det rfl rfl (det_load_one rfl one34 rfl (ptr_row 0 rfl) rfl) <|
       rwp_det rfl rfl (det_call rfl ok271 (slices_ContainsFunc_ix e.Idx _ (fun x => !wellIx x) hI (fun x _ => FnPur.of_pur (first := []) (cap := []) ok272 (expr_syntax_1 x))) ⟨VLe.refl _, rfl, VLe.refl _, rfl, trivial⟩) <|
       rwp_det rfl rfl (det_not rfl rfl) <|
       rMv rfl <|
       rwp_nil <|
       awp_ret <|
       fin1 (rs_c rfl) ?_
      exact congrArg vB (by rw [notanynot]; simp only [synOk, c1, c2, c3, c4, c5, Bool.not_true, Bool.not_false, Bool.true_and, Bool.and_true, Bool.false_and, Bool.and_false])

theorem expr_names (e : Ex) (he : e.wt ≤ 6000000000000) :
    Pur cfg 237 [vE e] (vB (namesE e)) := by
 refine con_intro Tryz.func237 rfl Tryz.ntmps237 Tryz.results237 rfl ?_
 intro z hz
 obtain ⟨hL, hI, hA⟩ := e.parts he
 refine sReg rfl <|
  rwp_op rfl rfl (ope_box rfl rfl) ?_
 rintro _ _ ⟨b1, rfl, rfl⟩
 refine rMv rfl <|
  rwp_nil <|
  awp_seq <|
  sReg rfl <|
  rwp_det rfl rfl (det_field_lit rfl fd44_0 rfl) <|
  rwp_det rfl rfl (det_load_one rfl one3 rfl (ptr_row 0 rfl) rfl) <|
  rwp_det rfl rfl (det_eql rfl rfl rfl) <|
  rMv rfl <|
  rLz [] rfl gv1 trivial (fun g1_3 => det_field_lit rfl fd44_1 rfl) rfl <|
  rLz [(7, _)] rfl gv1 ⟨rfl, rfl, trivial⟩ (fun g1_3 => det_load_one rfl one9 rfl (ptr_row 0 rfl) rfl) rfl <|
  rLz [(8, _)] rfl gv1 ⟨rfl, rfl, trivial⟩ (fun g1_3 => det_call rfl ok49 (lexer_IsName _) ⟨VLe.refl _, rfl, trivial⟩) rfl <|
  rLz [(9, _)] rfl gv1 ⟨rfl, rfl, trivial⟩ (fun g1_3 => det_not rfl rfl) rfl <|
  rwp_det rfl rfl (det_and rfl rfl rfl (fun h => h) rfl) <|
  rwp_nil <|
  awp_cond rfl (fun c1 => ?_) (fun c1 => ?_)
 ·refine sReg rfl <|
   rMv rfl <|
   rwp_nil <|
   awp_ret <|
   fin1 (rs_c rfl) ?_
  exact congrArg vB (by simp only [namesE, c1, Bool.not_true, Bool.false_and])
 ·refine awp_skip <|
   sReg rfl <|
   rwp_det rfl rfl (det_field_lit rfl fd44_5 rfl) <|
   rwp_det rfl rfl (det_load_one rfl one34 rfl (ptr_row 0 rfl) rfl) <|
   rwp_det rfl rfl (det_call rfl ok271 (slices_ContainsFunc_ix e.Idx _ (fun x => !nmIx x) hI (fun x _ => FnPur.of_pur (first := []) (cap := []) ok274 (expr_names_1 x))) ⟨VLe.refl _, rfl, VLe.refl _, rfl, trivial⟩) <|
   rwp_det rfl rfl (det_not rfl rfl) <|
   rMv rfl <|
   rwp_nil <|
   awp_ret <|
   fin1 (rs_c rfl) ?_
  exact congrArg vB (by rw [notanynot]; simp only [namesE, c1, Bool.not_false, Bool.true_and])

theorem expr_rank (e : Ex) (he : e.wt ≤ 6000000000000) :
    Pur cfg 238 [vE e] (vB (rankE e)) := by
 refine con_intro Tryz.func238 rfl Tryz.ntmps238 Tryz.results238 rfl ?_
 intro z hz
 obtain ⟨hL, hI, hA⟩ := e.parts he
 refine sReg rfl <|
  rwp_op rfl rfl (ope_box rfl rfl) ?_
 rintro _ _ ⟨b1, rfl, rfl⟩
 refine rMv rfl <|
  rwp_nil <|
  awp_seq <|
  awp_seq <|
  awp_draw 13 mixed (by kernel_rfl) rfl rfl <|
  td_det rfl rfl (det_field_lit rfl fd44_6 rfl) <|
  td_det rfl rfl (det_load_one rfl one42 rfl (ptr_row 0 rfl) rfl) <|
  td_det rfl rfl (det_len_slm rfl el42 rfl) <|
  td_det rfl rfl (det_field_lit rfl fd44_0 rfl) <|
  td_det rfl rfl (det_load_one rfl one3 rfl (ptr_row 0 rfl) rfl) <|
  td_det rfl rfl (det_call rfl ok275 (expr_operands _) ⟨VLe.refl _, rfl, trivial⟩) <|
  td_det rfl rfl (det_neq rfl rfl rfl) <|
  td_det rfl rfl (det_move rfl rfl) <|
  td_lazy [] rfl rfl rfl rfl gv1 trivial (fun g1_7 => det_field_lit rfl fd44_5 rfl) rfl <|
  td_lazy [(11, _)] rfl rfl rfl rfl gv1 ⟨rfl, rfl, trivial⟩ (fun g1_7 => det_load_one rfl one34 rfl (ptr_row 0 rfl) rfl) rfl <|
  td_lazy [(12, _)] rfl rfl rfl rfl gv1 ⟨rfl, rfl, trivial⟩ (fun g1_7 => det_len_slm rfl el34 rfl) rfl <|
  td_lazy [(13, _)] rfl rfl rfl rfl gv1 ⟨rfl, rfl, trivial⟩ (fun g1_7 => det_gtr rfl rfl rfl) rfl <|
  td_det rfl rfl (det_or rfl rfl rfl rfl (fun h => (lzf h))) <|
  td_nil <|
  rwp_nil <|
  awp_cond rfl (fun c1 => ?_) (fun c1 => ?_)
 ·refine sReg rfl <|
   rMv rfl <|
   rwp_nil <|
   awp_ret <|
   fin1 (rs_c rfl) ?_
  exact congrArg vB (by simp only [rankE, c1, Bool.not_true, Bool.false_and])
 ·refine awp_skip <|
   sReg rfl <|
   rwp_det rfl rfl (det_field_lit rfl fd44_5 rfl) <|
   rwp_det rfl rfl (det_load_one rfl one34 rfl (ptr_row 0 rfl) rfl) <|
   rwp_det rfl rfl (det_call rfl ok271 (slices_ContainsFunc_ix e.Idx _ (fun x => !rkIx x) hI (fun x _ => FnPur.of_pur (first := []) (cap := []) ok276 (expr_rank_1 x))) ⟨VLe.refl _, rfl, VLe.refl _, rfl, trivial⟩) <|
   rwp_det rfl rfl (det_not rfl rfl) <|
   rMv rfl <|
   rwp_nil <|
   awp_ret <|
   fin1 (rs_c rfl) ?_
  exact congrArg vB (by rw [notanynot]; simp only [rankE, c1, Bool.not_false, Bool.true_and])

theorem expr_types (e : Ex) (he : e.wt ≤ 6000000000000) :
    Pur cfg 239 [vE e] (vB (typesE e)) := by
 refine con_intro Tryz.func239 rfl Tryz.ntmps239 Tryz.results239 rfl ?_
 intro z hz
 obtain ⟨hL, hI, hA⟩ := e.parts he
 refine sReg rfl <|
  rwp_op rfl rfl (ope_box rfl rfl) ?_
 rintro _ _ ⟨b1, rfl, rfl⟩
 refine rMv rfl <|
  rwp_nil <|
  awp_seq <|
  sReg rfl <|
  rwp_det rfl rfl (det_field_lit rfl fd44_0 rfl) <|
  rwp_det rfl rfl (det_load_one rfl one3 rfl (ptr_row 0 rfl) rfl) <|
  rwp_det rfl rfl (det_eql rfl rfl rfl) <|
  rMv rfl <|
  rLz [] rfl gv1 trivial (fun g1_3 => det_field_lit rfl fd44_0 rfl) rfl <|
  rLz [(9, _)] rfl gv1 ⟨rfl, rfl, trivial⟩ (fun g1_3 => det_load_one rfl one3 rfl (ptr_row 0 rfl) rfl) rfl <|
  rLz [(10, _)] rfl gv1 ⟨rfl, rfl, trivial⟩ (fun g1_3 => det_eql rfl rfl rfl) rfl <|
  rwp_det rfl rfl (det_or rfl rfl rfl rfl (fun h => (lzf h))) <|
  rMv rfl <|
  rLz [] rfl gv1 trivial (fun g1_8 => det_field_lit rfl fd44_3 rfl) rfl <|
  rLz [(14, _)] rfl gv1 ⟨rfl, rfl, trivial⟩ (fun g1_8 => det_load_agg rfl agg38 rfl (ptr_row 0 rfl) rfl) rfl <|
  rLz [(15, _)] rfl gv1 ⟨rfl, rfl, trivial⟩ (fun g1_8 => det_call rfl ok127 (value_ValidateType _) ⟨VLe.refl _, rfl, trivial⟩) rfl <|
  rLz [(16, _)] rfl gv1 ⟨rfl, rfl, trivial⟩ (fun g1_8 => det_neq rfl rfl rfl) rfl <|
  rwp_det rfl rfl (det_and rfl rfl rfl (fun h => h) rfl) <|
  rwp_nil <|
  awp_cond rfl (fun c1 => ?_) (fun c1 => ?_)
 ·rw [tyErr_dec] at c1
  refine sReg rfl <|
   rMv rfl <|
   rwp_nil <|
   awp_ret <|
   fin1 (rs_c rfl) ?_
  exact congrArg vB (by simp only [typesE, c1, Bool.not_true, Bool.false_and])
 ·rw [tyErr_dec] at c1
  refine awp_skip <|
   awp_seq <|
   sReg rfl <|
   rwp_det rfl rfl (det_field_lit rfl fd44_6 rfl) <|
   rwp_det rfl rfl (det_load_one rfl one42 rfl (ptr_row 0 rfl) rfl) <|
   rwp_det rfl rfl (det_len_slm rfl el42 rfl) <|
   rMv rfl <|
   rwp_nil <|
   awp_block <|
   awp_weak ⟨[(22, .c _), (1, .c _), (20, .c _), (21, .c _)], [_]⟩ (Weak.mk [true] ⟨VLe.of_eq rfl, VLe.of_eq rfl, VLe.of_eq rfl, VLe.of_eq rfl, trivial⟩ rfl) <|
   awp_loop_k 1 0 rfl rfl (Nat) (fun k => [(22, vI k)]) (fun k => []) (fun k => k ≤ e.Args.length ∧ (condsOk e.Op 0 e.Args = condsOk e.Op k (e.Args.drop k))) (fun k => e.Args.length - k) ⟨0, ⟨by omega, rfl⟩, Weak.mk [true] ⟨VLe.refl _, VLe.refl _, VLe.refl _, VLe.refl _, trivial⟩ rfl⟩ ?_
  rintro k ⟨hk, hp⟩
  refine sReg rfl <|
   rwp_det rfl rfl (det_lss rfl rfl rfl) <|
   rwp_nil <|
   awp_seq <|
   awp_cond rfl (fun c2 => ?_) (fun c2 => ?_)
  ·try simp only [sx] at c2
   obtain ⟨a, ha⟩ := ex_get e.Args k (by omega)
   refine awp_skip <|
    awp_seq <|
    awp_block <|
    sReg rfl <|
    rMv rfl <|
    rwp_det rfl rfl (det_index_sl rfl el42 rfl rfl (by omega) (getmE (by assumption))) <|
    rwp_det rfl rfl (det_load_agg rfl agg44 rfl ptr_imm rfl) <|
    rwp_op rfl rfl (ope_allocN [none, none, none, none, none, none, none, none, none, none, some 2, some 4, some 13] rfl zr44 rfl) ?_
   rintro _ _ ⟨b2, rfl, rfl⟩
   refine rMv rfl <|
    rwp_det0 rfl rfl (det_store rfl sz44 rfl rfl rfl (st_row 0 rfl rfl)) <|
    rwp_nil <|
    awp_seq <|
    awp_draw 7 mixed (by kernel_rfl) rfl rfl <|
    td_det rfl rfl (det_load_agg rfl agg44 rfl (ptr_row 0 rfl) rfl) <|
    td_det rfl rfl (det_call rfl ok166 (expr_IsCondition a) ⟨VLe.refl _, rfl, trivial⟩) <|
    td_det rfl rfl (det_field_lit rfl fd44_0 rfl) <|
    td_det rfl rfl (det_load_one rfl one3 rfl (ptr_row 1 rfl) rfl) <|
    td_det rfl rfl (det_move rfl rfl) <|
    td_det rfl rfl (det_call rfl ok277 (expr_requiresCondition _ _) ⟨VLe.refl _, rfl, VLe.refl _, rfl, trivial⟩) <|
    td_det rfl rfl (det_bneq rfl un4 rfl rfl) <|
    td_nil <|
    rwp_nil <|
    awp_cond rfl (fun c3 => ?_) (fun c3 => ?_)
   ·refine sReg rfl <|
     rMv rfl <|
     rwp_nil <|
     awp_ret <|
     fin1 (rs_c rfl) ?_
    exact congrArg vB (by simp only [typesE, c1, Bool.not_false, Bool.true_and]; rw [hp, drop_cons ha, condsOk, show (isCond a == wantC e.Op k) = false by simpa using c3, Bool.false_and])
   ·refine awp_skip <|
     awp_region rfl <|
     rwp_det rfl rfl (det_add_nw rfl rfl rfl ⟨by omega, by omega⟩) <|
     rMv rfl <|
     rwp_nil ?_
    refine ⟨k + 1, ⟨by omega, (by rw [hp, drop_cons ha, condsOk, show (isCond a == wantC e.Op k) = true by simpa using c3, Bool.true_and]; rfl)⟩, (by omega), Weak.mk [false, true] ⟨VLe.refl _, VLe.refl _, VLe.refl _, VLe.refl _, trivial⟩ rfl⟩
  ·try simp only [sx] at c2
   refine awp_exit <|
    sReg rfl <|
    rMv rfl <|
    rwp_nil <|
    awp_ret <|
    fin1 (rs_c rfl) ?_
   exact congrArg vB (by simp only [typesE, c1, Bool.not_false, Bool.true_and]; rw [hp, drop_end (by omega)]; rfl)

theorem expr_depth_step (n : Nat) (ih : n ≠ 0 → ∀ (a : Ex) (l : Int), a.wt ≤ 6000000000000 → l = n → Pur cfg 235 [vE a, vI l] (vI (depT (n - 1) a))) (hn : n ≤ 100) (e : Ex) (l : Int) (he : e.wt ≤ 6000000000000) (hl : l = n + 1) :
    Pur cfg 235 [vE e, vI l] (vI (depT n e)) := by
 refine con_intro Tryz.func235 rfl Tryz.ntmps235 Tryz.results235 rfl ?_
 intro z hz
 obtain ⟨hL, hI, hA⟩ := e.parts he
 refine sReg rfl <|
  rwp_op rfl rfl (ope_box rfl rfl) ?_
 rintro _ _ ⟨b1, rfl, rfl⟩
 refine rMv rfl <|
  rwp_nil <|
  awp_seq <|
  sReg rfl <|
  rMv rfl <|
  rwp_det rfl rfl (det_leq rfl rfl rfl) <|
  rwp_nil <|
  awp_cond rfl (fun c1 => ?_) (fun c1 => ?_)
 ·try simp only [sx] at c1
  obtain rfl : n = 0 := by omega
  refine sReg rfl <|
   rMv rfl <|
   rMv rfl <|
   rwp_nil <|
   awp_ret <|
   fin1 (rs_c rfl) ?_
  exact congrArg vI (by rw [hl]; rfl)
 ·try simp only [sx] at c1
  obtain ⟨m, rfl⟩ : ∃ m, n = m + 1 := ⟨n - 1, by omega⟩
  refine awp_skip <|
   sReg rfl <|
   rMv rfl <|
   rwp_nil <|
   awp_seq <|
   sReg rfl <|
   rwp_det rfl rfl (det_field_lit rfl fd44_6 rfl) <|
   rwp_det rfl rfl (det_load_one rfl one42 rfl (ptr_row 0 rfl) rfl) <|
   rwp_det rfl rfl (det_len_slm rfl el42 rfl) <|
   rMv rfl <|
   rwp_nil <|
   awp_block <|
   awp_weak ⟨[(14, .c _), (5, .c _), (1, .c _), (12, .c _), (13, .c _)], []⟩ (Weak.mk [false] ⟨VLe.of_eq rfl, VLe.of_eq rfl, VLe.of_eq rfl, VLe.of_eq rfl, VLe.of_eq rfl, trivial⟩ rfl) <|
   awp_loop_k 2 0 rfl rfl (Nat × Int) (fun ⟨k, d⟩ => [(14, vI k), (5, vI d)]) (fun ⟨k, d⟩ => []) (fun ⟨k, d⟩ => k ≤ e.Args.length ∧ (1 ≤ d) ∧ (d ≤ m + 2) ∧ (depT (m + 1) e = depF (depT m) d (e.Args.drop k))) (fun ⟨k, d⟩ => e.Args.length - k) ⟨⟨0, 1⟩, ⟨by omega, by omega, by omega, rfl⟩, Weak.mk [] ⟨VLe.refl _, VLe.of_eq (rfl), VLe.refl _, VLe.refl _, VLe.refl _, trivial⟩ rfl⟩ ?_
  rintro ⟨k, d⟩ ⟨hk, hd1, hd2, hd3⟩
  show AWP _ _ _ _ _ ⟨[(14, vI k), (5, vI d)] ++ _, [] ++ _⟩
  refine sReg rfl <|
   rwp_det rfl rfl (det_lss rfl rfl rfl) <|
   rwp_nil <|
   awp_seq <|
   awp_cond rfl (fun c2 => ?_) (fun c2 => ?_)
  ·try simp only [sx] at c2
   obtain ⟨a, ha⟩ := ex_get e.Args k (by omega)
   have hda := depT_le m a
   refine awp_skip <|
    awp_seq <|
    awp_block <|
    sReg rfl <|
    rwp_det rfl rfl (det_index_sl rfl el42 rfl rfl (by omega) (getmE (by assumption))) <|
    rwp_det rfl rfl (det_load_agg rfl agg44 rfl ptr_imm rfl) <|
    rwp_op rfl rfl (ope_allocN [none, none, none, none, none, none, none, none, none, none, some 2, some 4, some 13] rfl zr44 rfl) ?_
   rintro _ _ ⟨b2, rfl, rfl⟩
   refine rwp_det0 rfl rfl (det_store rfl sz44 rfl rfl rfl (st_row 0 rfl rfl)) <|
    rwp_nil <|
    awp_region rfl <|
    rMv rfl <|
    rwp_det rfl rfl (det_load_agg rfl agg44 rfl (ptr_row 0 rfl) rfl) <|
    rMv rfl <|
    rwp_det rfl rfl (det_sub_nw rfl rfl rfl ⟨by omega, by omega⟩) <|
    rwp_det rfl rfl (det_call rfl ok235 (show Pur cfg 235 [vE a, vI (l - 1)] (vI (depT m a)) from ih (by omega) a _ (by have := Ex.arg_wt (mem_of_get ha); omega) (by omega)) ⟨VLe.refl _, rfl, VLe.refl _, rfl, trivial⟩) <|
    rwp_det rfl rfl (det_add_nw rfl rfl rfl ⟨by omega, by omega⟩) <|
    rwp_det rfl rfl (det_max rfl rfl rfl) <|
    rMv rfl <|
    rwp_nil <|
    awp_region rfl <|
    rwp_det rfl rfl (det_add_nw rfl rfl rfl ⟨by omega, by omega⟩) <|
    rMv rfl <|
    rwp_nil ?_
   refine ⟨⟨k + 1, max d (1 + depT m a)⟩, ⟨by omega, by omega, by omega, by rw [hd3, drop_cons ha, depF]⟩, (by show e.Args.length - (k + 1) < e.Args.length - k; omega), Weak.mk [false] ⟨VLe.refl _, VLe.refl _, VLe.refl _, VLe.refl _, VLe.refl _, trivial⟩ rfl⟩
  ·try simp only [sx] at c2
   refine awp_exit <|
    sReg rfl <|
    rMv rfl <|
    rMv rfl <|
    rwp_nil <|
    awp_ret <|
    fin1 (rs_c rfl) ?_
   exact congrArg vI (by rw [hd3, drop_end (by omega)]; rfl)

theorem expr_depth (n : Nat) (e : Ex) (l : Int) (hn : n ≤ 100) (he : e.wt ≤ 6000000000000) (hl : l = n + 1) : Pur cfg 235 [vE e, vI l] (vI (depT n e)) := by
  induction n generalizing e l with
  | zero => exact expr_depth_step 0 (fun h => absurd rfl h) hn e l he hl
  | succ n ih => exact expr_depth_step (n + 1) (fun _ a l h1 h2 => ih a l (by omega) h1 (by omega)) hn e l he hl

theorem expr_Depth (e : Ex) (he : e.wt ≤ 6000000000000) :
    Pur cfg 206 [vE e] (vI (depT 40 e)) := by
 refine con_intro Tryz.func206 rfl Tryz.ntmps206 Tryz.results206 rfl ?_
 intro z hz
 refine sReg rfl <|
  rwp_op rfl rfl (ope_box rfl rfl) ?_
 rintro _ _ ⟨b1, rfl, rfl⟩
 refine rMv rfl <|
  rwp_nil <|
  sReg rfl <|
  rwp_det rfl rfl (det_load_agg rfl agg44 rfl (ptr_row 0 rfl) rfl) <|
  rwp_det rfl rfl (det_call rfl ok235 (expr_depth 40 e 41 (by omega) he (by omega)) ⟨VLe.refl _, rfl, VLe.refl _, rfl, trivial⟩) <|
  rMv rfl <|
  rwp_nil <|
  awp_ret <|
  fin1 (rs_c rfl) ?_
 exact rfl

end Go.W
