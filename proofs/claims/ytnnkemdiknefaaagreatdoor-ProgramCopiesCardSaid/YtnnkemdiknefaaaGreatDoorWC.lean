/-
  Walks: what functions of the program compute. Printed by wip/gen/mk2.py.
  Conditions: none.
-/
import Derived.Test.YtnnkemdiknefaaaGreatDoorWB
set_option linter.unusedSimpArgs false
set_option linter.unusedVariables false
namespace Go.W
open Go Go.Eng Go.Proofs Go.L41 Go.Br
attribute [local irreducible] AWP RWP TD
theorem agg33 : aggT Tryz.prog 33 = some 13 := by kernel_rfl
theorem el31 : elemT Tryz.prog 31 = some (33, 13, 160) := by kernel_rfl
theorem el104 : elemT Tryz.prog 104 = some (29, 2, 32) := by kernel_rfl
theorem fd33_0 : fieldT Tryz.prog 33 0 = some (0, 3) := by kernel_rfl
theorem fd33_1 : fieldT Tryz.prog 33 1 = some (1, 9) := by kernel_rfl
theorem fd33_2 : fieldT Tryz.prog 33 2 = some (2, 26) := by kernel_rfl
theorem fd33_3 : fieldT Tryz.prog 33 3 = some (4, 23) := by kernel_rfl
theorem fd33_4 : fieldT Tryz.prog 33 4 = some (9, 29) := by kernel_rfl
theorem fd33_5 : fieldT Tryz.prog 33 5 = some (11, 30) := by kernel_rfl
theorem fd33_6 : fieldT Tryz.prog 33 6 = some (12, 31) := by kernel_rfl
theorem fd117_0 : fieldT Tryz.prog 117 0 = some (0, 29) := by kernel_rfl
theorem fd117_1 : fieldT Tryz.prog 117 1 = some (2, 9) := by kernel_rfl
theorem fd117_2 : fieldT Tryz.prog 117 2 = some (3, 104) := by kernel_rfl
theorem fl26 : flatK Tryz.prog 26 = some [.int, .int] := by kernel_rfl
theorem ok80 : callOk Tryz.prog 80 = true := by kernel_rfl
theorem ok147 : callOk Tryz.prog 147 = true := by kernel_rfl
theorem ok192 : callOk Tryz.prog 192 = true := by kernel_rfl
theorem ok216 : callOk Tryz.prog 216 = true := by kernel_rfl
theorem ok217 : callOk Tryz.prog 217 = true := by kernel_rfl
theorem ok218 : callOk Tryz.prog 218 = true := by kernel_rfl
theorem ok219 : callOk Tryz.prog 219 = true := by kernel_rfl
theorem ok220 : callOk Tryz.prog 220 = true := by kernel_rfl
theorem ok221 : callOk Tryz.prog 221 = true := by kernel_rfl
theorem ok222 : callOk Tryz.prog 222 = true := by kernel_rfl
theorem ok223 : callOk Tryz.prog 223 = true := by kernel_rfl
theorem one30 : oneT Tryz.prog 30 = true := by kernel_rfl
theorem one31 : oneT Tryz.prog 31 = true := by kernel_rfl
theorem one104 : oneT Tryz.prog 104 = true := by kernel_rfl
theorem sz33 : (Tryz.prog.info? 33).map (·.size) = some 13 := by kernel_rfl
theorem sz117 : (Tryz.prog.info? 117).map (·.size) = some 4 := by kernel_rfl
theorem un4 : Tryz.prog.underlying 4 = some .bool := by kernel_rfl
theorem zr33 : zeroT Tryz.prog 33 = some [(Value.int IntKind.i64 0), (Value.string (ByteArray.mk #[])), (Value.int IntKind.i64 0), (Value.int IntKind.i64 0), (Value.int IntKind.i64 0), (Value.int IntKind.i64 0), (Value.int IntKind.i64 0), (Value.int IntKind.i64 0), (Value.int IntKind.i64 0), (Value.int IntKind.i64 0), (Value.slice none 0 0), (Value.slice none 0 0), (Value.slice none 0 0)] := by kernel_rfl
theorem zr117 : zeroT Tryz.prog 117 = some [(Value.int IntKind.i64 0), (Value.slice none 0 0), (Value.string (ByteArray.mk #[])), (Value.slice none 0 0)] := by kernel_rfl
theorem expr_operands (op : Int) :
    Pur cfg 221 [vI op] (vI (nArgs op)) := by
 refine con_intro Tryz.func221 rfl Tryz.ntmps221 Tryz.results221 rfl ?_
 intro z hz
 refine awp_seq ?_
 refine awp_region rfl ?_
 refine rwp_det rfl rfl (det_assign rfl rfl) ?_
 refine rwp_nil ?_
 refine awp_seq ?_
 refine awp_seq ?_
 refine awp_region rfl ?_
 refine rwp_det rfl rfl (det_move rfl rfl) ?_
 refine rwp_nil ?_
 refine awp_block ?_
 refine awp_seq ?_
 refine awp_seq ?_
 refine awp_region rfl ?_
 refine rwp_det rfl rfl (det_eql rfl rfl rfl) ?_
 refine rwp_det rfl rfl (det_assign rfl rfl) ?_
 refine rwp_nil ?_
 refine awp_cond rfl (fun c1 => ?_) (fun c1 => ?_)
 ·try simp only [sx, List.length_map] at c1
  refine awp_skip ?_
  refine awp_cond rfl (fun c3 => ?_) (fun c3 => ?_)
  ·try simp only [sx, List.length_map] at c3
   refine awp_seq ?_
   refine awp_region rfl ?_
   refine rwp_det rfl rfl (det_assign rfl rfl) ?_
   refine rwp_nil ?_
   refine awp_ret ?_
   repeat (first | refine thenQ_ret ?_ | refine blockQ_ret ?_)
   refine fin1 (rs_c rfl) ?_
   exact congrArg vI (by unfold nArgs; (repeat' split) <;> omega)
  ·try simp only [sx, List.length_map] at c3
   refine awp_seq ?_
   refine awp_seq ?_
   refine awp_region rfl ?_
   refine rwp_det rfl rfl (det_eql rfl rfl rfl) ?_
   refine rwp_det rfl rfl (det_assign rfl rfl) ?_
   refine rwp_nil ?_
   refine awp_cond rfl (fun c4 => ?_) (fun c4 => ?_)
   ·try simp only [sx, List.length_map] at c4
    refine awp_skip ?_
    refine awp_cond rfl (fun c6 => ?_) (fun c6 => ?_)
    ·try simp only [sx, List.length_map] at c6
     refine awp_seq ?_
     refine awp_region rfl ?_
     refine rwp_det rfl rfl (det_assign rfl rfl) ?_
     refine rwp_nil ?_
     refine awp_ret ?_
     repeat (first | refine thenQ_ret ?_ | refine blockQ_ret ?_)
     refine fin1 (rs_c rfl) ?_
     exact congrArg vI (by unfold nArgs; (repeat' split) <;> omega)
    ·try simp only [sx, List.length_map] at c6
     refine awp_seq ?_
     refine awp_region rfl ?_
     refine rwp_det rfl rfl (det_eql rfl rfl rfl) ?_
     refine rwp_det rfl rfl (det_assign rfl rfl) ?_
     refine rwp_nil ?_
     refine awp_cond rfl (fun c7 => ?_) (fun c7 => ?_)
     ·try simp only [sx, List.length_map] at c7
      refine awp_seq ?_
      refine awp_region rfl ?_
      refine rwp_det rfl rfl (det_assign rfl rfl) ?_
      refine rwp_nil ?_
      refine awp_ret ?_
      repeat (first | refine thenQ_ret ?_ | refine blockQ_ret ?_)
      refine fin1 (rs_c rfl) ?_
      exact congrArg vI (by unfold nArgs; (repeat' split) <;> omega)
     ·try simp only [sx, List.length_map] at c7
      refine awp_skip ?_
      refine awp_seq ?_
      refine awp_region rfl ?_
      refine rwp_det rfl rfl (det_assign rfl rfl) ?_
      refine rwp_nil ?_
      refine awp_ret ?_
      repeat (first | refine thenQ_ret ?_ | refine blockQ_ret ?_)
      refine fin1 (rs_c rfl) ?_
      exact congrArg vI (by unfold nArgs; (repeat' split) <;> omega)
   ·try simp only [sx, List.length_map] at c4
    refine awp_seq ?_
    refine awp_region rfl ?_
    refine rwp_det rfl rfl (det_eql rfl rfl rfl) ?_
    refine rwp_det rfl rfl (det_assign rfl rfl) ?_
    refine rwp_nil ?_
    refine awp_cond rfl (fun c5 => ?_) (fun c5 => ?_)
    ·try simp only [sx, List.length_map] at c5
     refine awp_skip ?_
     refine awp_cond rfl (fun c6 => ?_) (fun c6 => ?_)
     ·try simp only [sx, List.length_map] at c6
      refine awp_seq ?_
      refine awp_region rfl ?_
      refine rwp_det rfl rfl (det_assign rfl rfl) ?_
      refine rwp_nil ?_
      refine awp_ret ?_
      repeat (first | refine thenQ_ret ?_ | refine blockQ_ret ?_)
      refine fin1 (rs_c rfl) ?_
      exact congrArg vI (by unfold nArgs; (repeat' split) <;> omega)
     ·try simp only [sx, List.length_map] at c6
      refine awp_seq ?_
      refine awp_region rfl ?_
      refine rwp_det rfl rfl (det_eql rfl rfl rfl) ?_
      refine rwp_det rfl rfl (det_assign rfl rfl) ?_
      refine rwp_nil ?_
      refine awp_cond rfl (fun c7 => ?_) (fun c7 => ?_)
      ·try simp only [sx, List.length_map] at c7
       refine awp_seq ?_
       refine awp_region rfl ?_
       refine rwp_det rfl rfl (det_assign rfl rfl) ?_
       refine rwp_nil ?_
       refine awp_ret ?_
       repeat (first | refine thenQ_ret ?_ | refine blockQ_ret ?_)
       refine fin1 (rs_c rfl) ?_
       exact congrArg vI (by unfold nArgs; (repeat' split) <;> omega)
      ·try simp only [sx, List.length_map] at c7
       refine awp_skip ?_
       refine awp_seq ?_
       refine awp_region rfl ?_
       refine rwp_det rfl rfl (det_assign rfl rfl) ?_
       refine rwp_nil ?_
       refine awp_ret ?_
       repeat (first | refine thenQ_ret ?_ | refine blockQ_ret ?_)
       refine fin1 (rs_c rfl) ?_
       exact congrArg vI (by unfold nArgs; (repeat' split) <;> omega)
    ·try simp only [sx, List.length_map] at c5
     refine awp_region rfl ?_
     refine rwp_det rfl rfl (det_eql rfl rfl rfl) ?_
     refine rwp_det rfl rfl (det_assign rfl rfl) ?_
     refine rwp_nil ?_
     refine awp_cond rfl (fun c6 => ?_) (fun c6 => ?_)
     ·try simp only [sx, List.length_map] at c6
      refine awp_seq ?_
      refine awp_region rfl ?_
      refine rwp_det rfl rfl (det_assign rfl rfl) ?_
      refine rwp_nil ?_
      refine awp_ret ?_
      repeat (first | refine thenQ_ret ?_ | refine blockQ_ret ?_)
      refine fin1 (rs_c rfl) ?_
      exact congrArg vI (by unfold nArgs; (repeat' split) <;> omega)
     ·try simp only [sx, List.length_map] at c6
      refine awp_seq ?_
      refine awp_region rfl ?_
      refine rwp_det rfl rfl (det_eql rfl rfl rfl) ?_
      refine rwp_det rfl rfl (det_assign rfl rfl) ?_
      refine rwp_nil ?_
      refine awp_cond rfl (fun c7 => ?_) (fun c7 => ?_)
      ·try simp only [sx, List.length_map] at c7
       refine awp_seq ?_
       refine awp_region rfl ?_
       refine rwp_det rfl rfl (det_assign rfl rfl) ?_
       refine rwp_nil ?_
       refine awp_ret ?_
       repeat (first | refine thenQ_ret ?_ | refine blockQ_ret ?_)
       refine fin1 (rs_c rfl) ?_
       exact congrArg vI (by unfold nArgs; (repeat' split) <;> omega)
      ·try simp only [sx, List.length_map] at c7
       refine awp_skip ?_
       refine awp_seq ?_
       refine awp_region rfl ?_
       refine rwp_det rfl rfl (det_assign rfl rfl) ?_
       refine rwp_nil ?_
       refine awp_ret ?_
       repeat (first | refine thenQ_ret ?_ | refine blockQ_ret ?_)
       refine fin1 (rs_c rfl) ?_
       exact congrArg vI (by unfold nArgs; (repeat' split) <;> omega)
 ·try simp only [sx, List.length_map] at c1
  refine awp_seq ?_
  refine awp_region rfl ?_
  refine rwp_det rfl rfl (det_eql rfl rfl rfl) ?_
  refine rwp_det rfl rfl (det_assign rfl rfl) ?_
  refine rwp_nil ?_
  refine awp_cond rfl (fun c2 => ?_) (fun c2 => ?_)
  ·try simp only [sx, List.length_map] at c2
   refine awp_skip ?_
   refine awp_cond rfl (fun c3 => ?_) (fun c3 => ?_)
   ·try simp only [sx, List.length_map] at c3
    refine awp_seq ?_
    refine awp_region rfl ?_
    refine rwp_det rfl rfl (det_assign rfl rfl) ?_
    refine rwp_nil ?_
    refine awp_ret ?_
    repeat (first | refine thenQ_ret ?_ | refine blockQ_ret ?_)
    refine fin1 (rs_c rfl) ?_
    exact congrArg vI (by unfold nArgs; (repeat' split) <;> omega)
   ·try simp only [sx, List.length_map] at c3
    refine awp_seq ?_
    refine awp_seq ?_
    refine awp_region rfl ?_
    refine rwp_det rfl rfl (det_eql rfl rfl rfl) ?_
    refine rwp_det rfl rfl (det_assign rfl rfl) ?_
    refine rwp_nil ?_
    refine awp_cond rfl (fun c4 => ?_) (fun c4 => ?_)
    ·try simp only [sx, List.length_map] at c4
     refine awp_skip ?_
     refine awp_cond rfl (fun c6 => ?_) (fun c6 => ?_)
     ·try simp only [sx, List.length_map] at c6
      refine awp_seq ?_
      refine awp_region rfl ?_
      refine rwp_det rfl rfl (det_assign rfl rfl) ?_
      refine rwp_nil ?_
      refine awp_ret ?_
      repeat (first | refine thenQ_ret ?_ | refine blockQ_ret ?_)
      refine fin1 (rs_c rfl) ?_
      exact congrArg vI (by unfold nArgs; (repeat' split) <;> omega)
     ·try simp only [sx, List.length_map] at c6
      refine awp_seq ?_
      refine awp_region rfl ?_
      refine rwp_det rfl rfl (det_eql rfl rfl rfl) ?_
      refine rwp_det rfl rfl (det_assign rfl rfl) ?_
      refine rwp_nil ?_
      refine awp_cond rfl (fun c7 => ?_) (fun c7 => ?_)
      ·try simp only [sx, List.length_map] at c7
       refine awp_seq ?_
       refine awp_region rfl ?_
       refine rwp_det rfl rfl (det_assign rfl rfl) ?_
       refine rwp_nil ?_
       refine awp_ret ?_
       repeat (first | refine thenQ_ret ?_ | refine blockQ_ret ?_)
       refine fin1 (rs_c rfl) ?_
       exact congrArg vI (by unfold nArgs; (repeat' split) <;> omega)
      ·try simp only [sx, List.length_map] at c7
       refine awp_skip ?_
       refine awp_seq ?_
       refine awp_region rfl ?_
       refine rwp_det rfl rfl (det_assign rfl rfl) ?_
       refine rwp_nil ?_
       refine awp_ret ?_
       repeat (first | refine thenQ_ret ?_ | refine blockQ_ret ?_)
       refine fin1 (rs_c rfl) ?_
       exact congrArg vI (by unfold nArgs; (repeat' split) <;> omega)
    ·try simp only [sx, List.length_map] at c4
     refine awp_seq ?_
     refine awp_region rfl ?_
     refine rwp_det rfl rfl (det_eql rfl rfl rfl) ?_
     refine rwp_det rfl rfl (det_assign rfl rfl) ?_
     refine rwp_nil ?_
     refine awp_cond rfl (fun c5 => ?_) (fun c5 => ?_)
     ·try simp only [sx, List.length_map] at c5
      refine awp_skip ?_
      refine awp_cond rfl (fun c6 => ?_) (fun c6 => ?_)
      ·try simp only [sx, List.length_map] at c6
       refine awp_seq ?_
       refine awp_region rfl ?_
       refine rwp_det rfl rfl (det_assign rfl rfl) ?_
       refine rwp_nil ?_
       refine awp_ret ?_
       repeat (first | refine thenQ_ret ?_ | refine blockQ_ret ?_)
       refine fin1 (rs_c rfl) ?_
       exact congrArg vI (by unfold nArgs; (repeat' split) <;> omega)
      ·try simp only [sx, List.length_map] at c6
       refine awp_seq ?_
       refine awp_region rfl ?_
       refine rwp_det rfl rfl (det_eql rfl rfl rfl) ?_
       refine rwp_det rfl rfl (det_assign rfl rfl) ?_
       refine rwp_nil ?_
       refine awp_cond rfl (fun c7 => ?_) (fun c7 => ?_)
       ·try simp only [sx, List.length_map] at c7
        refine awp_seq ?_
        refine awp_region rfl ?_
        refine rwp_det rfl rfl (det_assign rfl rfl) ?_
        refine rwp_nil ?_
        refine awp_ret ?_
        repeat (first | refine thenQ_ret ?_ | refine blockQ_ret ?_)
        refine fin1 (rs_c rfl) ?_
        exact congrArg vI (by unfold nArgs; (repeat' split) <;> omega)
       ·try simp only [sx, List.length_map] at c7
        refine awp_skip ?_
        refine awp_seq ?_
        refine awp_region rfl ?_
        refine rwp_det rfl rfl (det_assign rfl rfl) ?_
        refine rwp_nil ?_
        refine awp_ret ?_
        repeat (first | refine thenQ_ret ?_ | refine blockQ_ret ?_)
        refine fin1 (rs_c rfl) ?_
        exact congrArg vI (by unfold nArgs; (repeat' split) <;> omega)
     ·try simp only [sx, List.length_map] at c5
      refine awp_region rfl ?_
      refine rwp_det rfl rfl (det_eql rfl rfl rfl) ?_
      refine rwp_det rfl rfl (det_assign rfl rfl) ?_
      refine rwp_nil ?_
      refine awp_cond rfl (fun c6 => ?_) (fun c6 => ?_)
      ·try simp only [sx, List.length_map] at c6
       refine awp_seq ?_
       refine awp_region rfl ?_
       refine rwp_det rfl rfl (det_assign rfl rfl) ?_
       refine rwp_nil ?_
       refine awp_ret ?_
       repeat (first | refine thenQ_ret ?_ | refine blockQ_ret ?_)
       refine fin1 (rs_c rfl) ?_
       exact congrArg vI (by unfold nArgs; (repeat' split) <;> omega)
      ·try simp only [sx, List.length_map] at c6
       refine awp_seq ?_
       refine awp_region rfl ?_
       refine rwp_det rfl rfl (det_eql rfl rfl rfl) ?_
       refine rwp_det rfl rfl (det_assign rfl rfl) ?_
       refine rwp_nil ?_
       refine awp_cond rfl (fun c7 => ?_) (fun c7 => ?_)
       ·try simp only [sx, List.length_map] at c7
        refine awp_seq ?_
        refine awp_region rfl ?_
        refine rwp_det rfl rfl (det_assign rfl rfl) ?_
        refine rwp_nil ?_
        refine awp_ret ?_
        repeat (first | refine thenQ_ret ?_ | refine blockQ_ret ?_)
        refine fin1 (rs_c rfl) ?_
        exact congrArg vI (by unfold nArgs; (repeat' split) <;> omega)
       ·try simp only [sx, List.length_map] at c7
        refine awp_skip ?_
        refine awp_seq ?_
        refine awp_region rfl ?_
        refine rwp_det rfl rfl (det_assign rfl rfl) ?_
        refine rwp_nil ?_
        refine awp_ret ?_
        repeat (first | refine thenQ_ret ?_ | refine blockQ_ret ?_)
        refine fin1 (rs_c rfl) ?_
        exact congrArg vI (by unfold nArgs; (repeat' split) <;> omega)
  ·try simp only [sx, List.length_map] at c2
   refine awp_region rfl ?_
   refine rwp_det rfl rfl (det_eql rfl rfl rfl) ?_
   refine rwp_det rfl rfl (det_assign rfl rfl) ?_
   refine rwp_nil ?_
   refine awp_cond rfl (fun c3 => ?_) (fun c3 => ?_)
   ·try simp only [sx, List.length_map] at c3
    refine awp_seq ?_
    refine awp_region rfl ?_
    refine rwp_det rfl rfl (det_assign rfl rfl) ?_
    refine rwp_nil ?_
    refine awp_ret ?_
    repeat (first | refine thenQ_ret ?_ | refine blockQ_ret ?_)
    refine fin1 (rs_c rfl) ?_
    exact congrArg vI (by unfold nArgs; (repeat' split) <;> omega)
   ·try simp only [sx, List.length_map] at c3
    refine awp_seq ?_
    refine awp_seq ?_
    refine awp_region rfl ?_
    refine rwp_det rfl rfl (det_eql rfl rfl rfl) ?_
    refine rwp_det rfl rfl (det_assign rfl rfl) ?_
    refine rwp_nil ?_
    refine awp_cond rfl (fun c4 => ?_) (fun c4 => ?_)
    ·try simp only [sx, List.length_map] at c4
     refine awp_skip ?_
     refine awp_cond rfl (fun c6 => ?_) (fun c6 => ?_)
     ·try simp only [sx, List.length_map] at c6
      refine awp_seq ?_
      refine awp_region rfl ?_
      refine rwp_det rfl rfl (det_assign rfl rfl) ?_
      refine rwp_nil ?_
      refine awp_ret ?_
      repeat (first | refine thenQ_ret ?_ | refine blockQ_ret ?_)
      refine fin1 (rs_c rfl) ?_
      exact congrArg vI (by unfold nArgs; (repeat' split) <;> omega)
     ·try simp only [sx, List.length_map] at c6
      refine awp_seq ?_
      refine awp_region rfl ?_
      refine rwp_det rfl rfl (det_eql rfl rfl rfl) ?_
      refine rwp_det rfl rfl (det_assign rfl rfl) ?_
      refine rwp_nil ?_
      refine awp_cond rfl (fun c7 => ?_) (fun c7 => ?_)
      ·try simp only [sx, List.length_map] at c7
       refine awp_seq ?_
       refine awp_region rfl ?_
       refine rwp_det rfl rfl (det_assign rfl rfl) ?_
       refine rwp_nil ?_
       refine awp_ret ?_
       repeat (first | refine thenQ_ret ?_ | refine blockQ_ret ?_)
       refine fin1 (rs_c rfl) ?_
       exact congrArg vI (by unfold nArgs; (repeat' split) <;> omega)
      ·try simp only [sx, List.length_map] at c7
       refine awp_skip ?_
       refine awp_seq ?_
       refine awp_region rfl ?_
       refine rwp_det rfl rfl (det_assign rfl rfl) ?_
       refine rwp_nil ?_
       refine awp_ret ?_
       repeat (first | refine thenQ_ret ?_ | refine blockQ_ret ?_)
       refine fin1 (rs_c rfl) ?_
       exact congrArg vI (by unfold nArgs; (repeat' split) <;> omega)
    ·try simp only [sx, List.length_map] at c4
     refine awp_seq ?_
     refine awp_region rfl ?_
     refine rwp_det rfl rfl (det_eql rfl rfl rfl) ?_
     refine rwp_det rfl rfl (det_assign rfl rfl) ?_
     refine rwp_nil ?_
     refine awp_cond rfl (fun c5 => ?_) (fun c5 => ?_)
     ·try simp only [sx, List.length_map] at c5
      refine awp_skip ?_
      refine awp_cond rfl (fun c6 => ?_) (fun c6 => ?_)
      ·try simp only [sx, List.length_map] at c6
       refine awp_seq ?_
       refine awp_region rfl ?_
       refine rwp_det rfl rfl (det_assign rfl rfl) ?_
       refine rwp_nil ?_
       refine awp_ret ?_
       repeat (first | refine thenQ_ret ?_ | refine blockQ_ret ?_)
       refine fin1 (rs_c rfl) ?_
       exact congrArg vI (by unfold nArgs; (repeat' split) <;> omega)
      ·try simp only [sx, List.length_map] at c6
       refine awp_seq ?_
       refine awp_region rfl ?_
       refine rwp_det rfl rfl (det_eql rfl rfl rfl) ?_
       refine rwp_det rfl rfl (det_assign rfl rfl) ?_
       refine rwp_nil ?_
       refine awp_cond rfl (fun c7 => ?_) (fun c7 => ?_)
       ·try simp only [sx, List.length_map] at c7
        refine awp_seq ?_
        refine awp_region rfl ?_
        refine rwp_det rfl rfl (det_assign rfl rfl) ?_
        refine rwp_nil ?_
        refine awp_ret ?_
        repeat (first | refine thenQ_ret ?_ | refine blockQ_ret ?_)
        refine fin1 (rs_c rfl) ?_
        exact congrArg vI (by unfold nArgs; (repeat' split) <;> omega)
       ·try simp only [sx, List.length_map] at c7
        refine awp_skip ?_
        refine awp_seq ?_
        refine awp_region rfl ?_
        refine rwp_det rfl rfl (det_assign rfl rfl) ?_
        refine rwp_nil ?_
        refine awp_ret ?_
        repeat (first | refine thenQ_ret ?_ | refine blockQ_ret ?_)
        refine fin1 (rs_c rfl) ?_
        exact congrArg vI (by unfold nArgs; (repeat' split) <;> omega)
     ·try simp only [sx, List.length_map] at c5
      refine awp_region rfl ?_
      refine rwp_det rfl rfl (det_eql rfl rfl rfl) ?_
      refine rwp_det rfl rfl (det_assign rfl rfl) ?_
      refine rwp_nil ?_
      refine awp_cond rfl (fun c6 => ?_) (fun c6 => ?_)
      ·try simp only [sx, List.length_map] at c6
       refine awp_seq ?_
       refine awp_region rfl ?_
       refine rwp_det rfl rfl (det_assign rfl rfl) ?_
       refine rwp_nil ?_
       refine awp_ret ?_
       repeat (first | refine thenQ_ret ?_ | refine blockQ_ret ?_)
       refine fin1 (rs_c rfl) ?_
       exact congrArg vI (by unfold nArgs; (repeat' split) <;> omega)
      ·try simp only [sx, List.length_map] at c6
       refine awp_seq ?_
       refine awp_region rfl ?_
       refine rwp_det rfl rfl (det_eql rfl rfl rfl) ?_
       refine rwp_det rfl rfl (det_assign rfl rfl) ?_
       refine rwp_nil ?_
       refine awp_cond rfl (fun c7 => ?_) (fun c7 => ?_)
       ·try simp only [sx, List.length_map] at c7
        refine awp_seq ?_
        refine awp_region rfl ?_
        refine rwp_det rfl rfl (det_assign rfl rfl) ?_
        refine rwp_nil ?_
        refine awp_ret ?_
        repeat (first | refine thenQ_ret ?_ | refine blockQ_ret ?_)
        refine fin1 (rs_c rfl) ?_
        exact congrArg vI (by unfold nArgs; (repeat' split) <;> omega)
       ·try simp only [sx, List.length_map] at c7
        refine awp_skip ?_
        refine awp_seq ?_
        refine awp_region rfl ?_
        refine rwp_det rfl rfl (det_assign rfl rfl) ?_
        refine rwp_nil ?_
        refine awp_ret ?_
        repeat (first | refine thenQ_ret ?_ | refine blockQ_ret ?_)
        refine fin1 (rs_c rfl) ?_
        exact congrArg vI (by unfold nArgs; (repeat' split) <;> omega)

theorem expr_IsCondition (e : Ex) :
    Pur cfg 80 [vE e] (vB (isCond e)) := by
 refine con_intro Tryz.func80 rfl Tryz.ntmps80 Tryz.results80 rfl ?_
 intro z hz
 refine awp_seq ?_
 refine awp_region rfl ?_
 refine rwp_op rfl rfl (ope_box rfl rfl) ?_
 rintro _ _ ⟨b1, rfl, rfl⟩
 refine rwp_det rfl rfl (det_assign rfl rfl) ?_
 refine rwp_nil ?_
 refine awp_seq ?_
 refine awp_region rfl ?_
 refine rwp_det rfl rfl (det_field_lit rfl fd33_0 rfl) ?_
 refine rwp_det rfl rfl (det_load_one rfl one3 rfl (ptr_row 0 rfl) rfl) ?_
 refine rwp_det rfl rfl (det_leq rfl rfl rfl) ?_
 refine rwp_det rfl rfl (det_move rfl rfl) ?_
 refine rwp_lazy [] rfl rfl rfl rfl gv1 trivial (fun g1_3 => det_field_lit rfl fd33_0 rfl) rfl ?_
 refine rwp_lazy [(7, _)] rfl rfl rfl rfl gv1 ⟨rfl, rfl, trivial⟩ (fun g1_3 => det_load_one rfl one3 rfl (ptr_row 0 rfl) rfl) rfl ?_
 refine rwp_lazy [(8, _)] rfl rfl rfl rfl gv1 ⟨rfl, rfl, trivial⟩ (fun g1_3 => det_leq rfl rfl rfl) rfl ?_
 refine rwp_det rfl rfl (det_and rfl rfl rfl (fun h => h) rfl) ?_
 refine rwp_det rfl rfl (det_assign rfl rfl) ?_
 refine rwp_nil ?_
 refine awp_ret ?_
 repeat (first | refine thenQ_ret ?_ | refine blockQ_ret ?_)
 refine fin1 (rs_c rfl) ?_
 exact rfl

theorem expr_requiresCondition (op i : Int) :
    Pur cfg 223 [vI op, vI i] (vB (wantC op i)) := by
 refine con_intro Tryz.func223 rfl Tryz.ntmps223 Tryz.results223 rfl ?_
 intro z hz
 refine awp_seq ?_
 refine awp_region rfl ?_
 refine rwp_det rfl rfl (det_assign rfl rfl) ?_
 refine rwp_nil ?_
 refine awp_seq ?_
 refine awp_seq ?_
 refine awp_region rfl ?_
 refine rwp_det rfl rfl (det_move rfl rfl) ?_
 refine rwp_nil ?_
 refine awp_block ?_
 refine awp_seq ?_
 refine awp_seq ?_
 refine awp_region rfl ?_
 refine rwp_det rfl rfl (det_eql rfl rfl rfl) ?_
 refine rwp_det rfl rfl (det_assign rfl rfl) ?_
 refine rwp_nil ?_
 refine awp_cond rfl (fun c1 => ?_) (fun c1 => ?_)
 ·try simp only [sx, List.length_map] at c1
  refine awp_skip ?_
  refine awp_cond rfl (fun c3 => ?_) (fun c3 => ?_)
  ·try simp only [sx, List.length_map] at c3
   refine awp_seq ?_
   refine awp_region rfl ?_
   refine rwp_det rfl rfl (det_assign rfl rfl) ?_
   refine rwp_nil ?_
   refine awp_ret ?_
   repeat (first | refine thenQ_ret ?_ | refine blockQ_ret ?_)
   refine fin1 (rs_c rfl) ?_
   exact congrArg vB (by unfold wantC; first | (exfalso; omega) | (simp [*]; done) | (rw [Bool.eq_iff_iff]; simp only [Bool.or_eq_true, Bool.and_eq_true, decide_eq_true_eq]; omega))
  ·try simp only [sx, List.length_map] at c3
   refine awp_skip ?_
   refine awp_seq ?_
   refine awp_region rfl ?_
   refine rwp_det rfl rfl (det_move rfl rfl) ?_
   refine rwp_det rfl rfl (det_eql rfl rfl rfl) ?_
   refine rwp_det rfl rfl (det_move rfl rfl) ?_
   refine rwp_lazy [] rfl rfl rfl rfl gv1 trivial (fun g6_2 => det_move rfl rfl) rfl ?_
   refine rwp_lazy [(13, _)] rfl rfl rfl rfl gv1 ⟨rfl, rfl, trivial⟩ (fun g6_2 => det_eql rfl rfl rfl) rfl ?_
   refine rwp_det rfl rfl (det_and rfl rfl rfl (fun h => h) rfl) ?_
   refine rwp_det rfl rfl (det_assign rfl rfl) ?_
   refine rwp_nil ?_
   refine awp_ret ?_
   repeat (first | refine thenQ_ret ?_ | refine blockQ_ret ?_)
   refine fin1 (rs_c rfl) ?_
   exact congrArg vB (by unfold wantC; first | (exfalso; omega) | (simp [*]; done) | (rw [Bool.eq_iff_iff]; simp only [Bool.or_eq_true, Bool.and_eq_true, decide_eq_true_eq]; omega))
 ·try simp only [sx, List.length_map] at c1
  refine awp_seq ?_
  refine awp_region rfl ?_
  refine rwp_det rfl rfl (det_eql rfl rfl rfl) ?_
  refine rwp_det rfl rfl (det_assign rfl rfl) ?_
  refine rwp_nil ?_
  refine awp_cond rfl (fun c2 => ?_) (fun c2 => ?_)
  ·try simp only [sx, List.length_map] at c2
   refine awp_skip ?_
   refine awp_cond rfl (fun c3 => ?_) (fun c3 => ?_)
   ·try simp only [sx, List.length_map] at c3
    refine awp_seq ?_
    refine awp_region rfl ?_
    refine rwp_det rfl rfl (det_assign rfl rfl) ?_
    refine rwp_nil ?_
    refine awp_ret ?_
    repeat (first | refine thenQ_ret ?_ | refine blockQ_ret ?_)
    refine fin1 (rs_c rfl) ?_
    exact congrArg vB (by unfold wantC; first | (exfalso; omega) | (simp [*]; done) | (rw [Bool.eq_iff_iff]; simp only [Bool.or_eq_true, Bool.and_eq_true, decide_eq_true_eq]; omega))
   ·try simp only [sx, List.length_map] at c3
    refine awp_skip ?_
    refine awp_seq ?_
    refine awp_region rfl ?_
    refine rwp_det rfl rfl (det_move rfl rfl) ?_
    refine rwp_det rfl rfl (det_eql rfl rfl rfl) ?_
    refine rwp_det rfl rfl (det_move rfl rfl) ?_
    refine rwp_lazy [] rfl rfl rfl rfl gv1 trivial (fun g6_2 => det_move rfl rfl) rfl ?_
    refine rwp_lazy [(13, _)] rfl rfl rfl rfl gv1 ⟨rfl, rfl, trivial⟩ (fun g6_2 => det_eql rfl rfl rfl) rfl ?_
    refine rwp_det rfl rfl (det_and rfl rfl rfl (fun h => h) rfl) ?_
    refine rwp_det rfl rfl (det_assign rfl rfl) ?_
    refine rwp_nil ?_
    refine awp_ret ?_
    repeat (first | refine thenQ_ret ?_ | refine blockQ_ret ?_)
    refine fin1 (rs_c rfl) ?_
    exact congrArg vB (by unfold wantC; first | (exfalso; omega) | (simp [*]; done) | (rw [Bool.eq_iff_iff]; simp only [Bool.or_eq_true, Bool.and_eq_true, decide_eq_true_eq]; omega))
  ·try simp only [sx, List.length_map] at c2
   refine awp_region rfl ?_
   refine rwp_det rfl rfl (det_eql rfl rfl rfl) ?_
   refine rwp_det rfl rfl (det_assign rfl rfl) ?_
   refine rwp_nil ?_
   refine awp_cond rfl (fun c3 => ?_) (fun c3 => ?_)
   ·try simp only [sx, List.length_map] at c3
    refine awp_seq ?_
    refine awp_region rfl ?_
    refine rwp_det rfl rfl (det_assign rfl rfl) ?_
    refine rwp_nil ?_
    refine awp_ret ?_
    repeat (first | refine thenQ_ret ?_ | refine blockQ_ret ?_)
    refine fin1 (rs_c rfl) ?_
    exact congrArg vB (by unfold wantC; first | (exfalso; omega) | (simp [*]; done) | (rw [Bool.eq_iff_iff]; simp only [Bool.or_eq_true, Bool.and_eq_true, decide_eq_true_eq]; omega))
   ·try simp only [sx, List.length_map] at c3
    refine awp_skip ?_
    refine awp_seq ?_
    refine awp_region rfl ?_
    refine rwp_det rfl rfl (det_move rfl rfl) ?_
    refine rwp_det rfl rfl (det_eql rfl rfl rfl) ?_
    refine rwp_det rfl rfl (det_move rfl rfl) ?_
    refine rwp_lazy [] rfl rfl rfl rfl gv1 trivial (fun g6_2 => det_move rfl rfl) rfl ?_
    refine rwp_lazy [(13, _)] rfl rfl rfl rfl gv1 ⟨rfl, rfl, trivial⟩ (fun g6_2 => det_eql rfl rfl rfl) rfl ?_
    refine rwp_det rfl rfl (det_and rfl rfl rfl (fun h => h) rfl) ?_
    refine rwp_det rfl rfl (det_assign rfl rfl) ?_
    refine rwp_nil ?_
    refine awp_ret ?_
    repeat (first | refine thenQ_ret ?_ | refine blockQ_ret ?_)
    refine fin1 (rs_c rfl) ?_
    exact congrArg vB (by unfold wantC; first | (exfalso; omega) | (simp [*]; done) | (rw [Bool.eq_iff_iff]; simp only [Bool.or_eq_true, Bool.and_eq_true, decide_eq_true_eq]; omega))

theorem expr_isZero (l : Lf) :
    Pur cfg 216 [vLin l] (vB (zeroL l)) := by
 refine con_intro Tryz.func216 rfl Tryz.ntmps216 Tryz.results216 rfl ?_
 intro z hz
 refine awp_seq ?_
 refine awp_region rfl ?_
 refine rwp_op rfl rfl (ope_box rfl rfl) ?_
 rintro _ _ ⟨b1, rfl, rfl⟩
 refine rwp_det rfl rfl (det_assign rfl rfl) ?_
 refine rwp_nil ?_
 refine awp_seq ?_
 refine awp_region rfl ?_
 refine rwp_det rfl rfl (det_field_lit rfl fd29_0 rfl) ?_
 refine rwp_det rfl rfl (det_load_one rfl one2 rfl (ptr_row 0 rfl) rfl) ?_
 refine rwp_det rfl rfl (det_eql rfl rfl rfl) ?_
 refine rwp_det rfl rfl (det_move rfl rfl) ?_
 refine rwp_lazy [] rfl rfl rfl rfl gv1 trivial (fun g1_3 => det_field_lit rfl fd29_1 rfl) rfl ?_
 refine rwp_lazy [(7, _)] rfl rfl rfl rfl gv1 ⟨rfl, rfl, trivial⟩ (fun g1_3 => det_load_one rfl one27 rfl (ptr_row 0 rfl) rfl) rfl ?_
 refine rwp_lazy [(8, _)] rfl rfl rfl rfl gv1 ⟨rfl, rfl, trivial⟩ (fun g1_3 => det_len_slm rfl el27 rfl) rfl ?_
 refine rwp_lazy [(9, _)] rfl rfl rfl rfl gv1 ⟨rfl, rfl, trivial⟩ (fun g1_3 => det_eql rfl rfl rfl) rfl ?_
 refine rwp_det rfl rfl (det_and rfl rfl rfl (fun h => h) rfl) ?_
 refine rwp_det rfl rfl (det_assign rfl rfl) ?_
 refine rwp_nil ?_
 refine awp_ret ?_
 repeat (first | refine thenQ_ret ?_ | refine blockQ_ret ?_)
 refine fin1 (rs_c rfl) ?_
 exact rfl

theorem expr_wellFormed (x : Ix) :
    Pur cfg 219 [vIndex x] (vB (wellIx x)) := by
 refine con_intro Tryz.func219 rfl Tryz.ntmps219 Tryz.results219 rfl ?_
 intro z hz
 refine awp_seq ?_
 refine awp_region rfl ?_
 refine rwp_op rfl rfl (ope_box rfl rfl) ?_
 rintro _ _ ⟨b1, rfl, rfl⟩
 refine rwp_det rfl rfl (det_assign rfl rfl) ?_
 refine rwp_nil ?_
 refine awp_seq ?_
 refine awp_seq ?_
 refine awp_region rfl ?_
 refine rwp_det rfl rfl (det_field_lit rfl fd117_1 rfl) ?_
 refine rwp_det rfl rfl (det_load_one rfl one9 rfl (ptr_row 0 rfl) rfl) ?_
 refine rwp_det rfl rfl (det_seql rfl rfl rfl) ?_
 refine rwp_nil ?_
 refine awp_cond rfl (fun c1 => ?_) (fun c1 => ?_)
 ·try simp only [sx, List.length_map] at c1
  refine awp_seq ?_
  refine awp_region rfl ?_
  refine rwp_det rfl rfl (det_field_lit rfl fd117_2 rfl) ?_
  refine rwp_det rfl rfl (det_load_one rfl one104 rfl (ptr_row 0 rfl) rfl) ?_
  refine rwp_det rfl rfl (det_len_slm rfl el104 rfl) ?_
  refine rwp_det rfl rfl (det_eql rfl rfl rfl) ?_
  refine rwp_det rfl rfl (det_assign rfl rfl) ?_
  refine rwp_nil ?_
  refine awp_ret ?_
  repeat (first | refine thenQ_ret ?_ | refine blockQ_ret ?_)
  refine fin1 (rs_c rfl) ?_
  rw [wellIx, dec_true c1]; rfl
 ·try simp only [sx, List.length_map] at c1
  refine awp_skip ?_
  refine awp_seq ?_
  refine awp_region rfl ?_
  refine rwp_det rfl rfl (det_field_lit rfl fd117_0 rfl) ?_
  refine rwp_det rfl rfl (det_load_agg rfl agg29 rfl (ptr_row 0 rfl) rfl) ?_
  refine rwp_det rfl rfl (det_call rfl ok216 (expr_isZero x.Lin) ⟨VLe.refl _, rfl, trivial⟩) ?_
  refine rwp_det rfl rfl (det_assign rfl rfl) ?_
  refine rwp_nil ?_
  refine awp_ret ?_
  repeat (first | refine thenQ_ret ?_ | refine blockQ_ret ?_)
  refine fin1 (rs_c rfl) ?_
  rw [wellIx, dec_false c1]; rfl

theorem expr_syntax_1 (x : Ix) :
    Pur cfg 218 [vIndex x] (vB (!wellIx x)) := by
 refine con_intro Tryz.func218 rfl Tryz.ntmps218 Tryz.results218 rfl ?_
 intro z hz
 refine awp_seq ?_
 refine awp_region rfl ?_
 refine rwp_op rfl rfl (ope_box rfl rfl) ?_
 rintro _ _ ⟨b1, rfl, rfl⟩
 refine rwp_det rfl rfl (det_assign rfl rfl) ?_
 refine rwp_nil ?_
 refine awp_seq ?_
 refine awp_region rfl ?_
 refine rwp_det rfl rfl (det_load_agg rfl agg117 rfl (ptr_row 0 rfl) rfl) ?_
 refine rwp_det rfl rfl (det_call rfl ok219 (expr_wellFormed x) ⟨VLe.refl _, rfl, trivial⟩) ?_
 refine rwp_det rfl rfl (det_not rfl rfl) ?_
 refine rwp_det rfl rfl (det_assign rfl rfl) ?_
 refine rwp_nil ?_
 refine awp_ret ?_
 repeat (first | refine thenQ_ret ?_ | refine blockQ_ret ?_)
 refine fin1 (rs_c rfl) ?_
 exact rfl

theorem expr_names_1 (x : Ix) :
    Pur cfg 220 [vIndex x] (vB (!nmIx x)) := by
 refine con_intro Tryz.func220 rfl Tryz.ntmps220 Tryz.results220 rfl ?_
 intro z hz
 refine awp_seq ?_
 refine awp_region rfl ?_
 refine rwp_op rfl rfl (ope_box rfl rfl) ?_
 rintro _ _ ⟨b1, rfl, rfl⟩
 refine rwp_det rfl rfl (det_assign rfl rfl) ?_
 refine rwp_nil ?_
 refine awp_seq ?_
 refine awp_region rfl ?_
 refine rwp_det rfl rfl (det_field_lit rfl fd117_1 rfl) ?_
 refine rwp_det rfl rfl (det_load_one rfl one9 rfl (ptr_row 0 rfl) rfl) ?_
 refine rwp_det rfl rfl (det_sneq rfl rfl rfl) ?_
 refine rwp_det rfl rfl (det_move rfl rfl) ?_
 refine rwp_lazy [] rfl rfl rfl rfl gv1 trivial (fun g1_3 => det_field_lit rfl fd117_1 rfl) rfl ?_
 refine rwp_lazy [(7, _)] rfl rfl rfl rfl gv1 ⟨rfl, rfl, trivial⟩ (fun g1_3 => det_load_one rfl one9 rfl (ptr_row 0 rfl) rfl) rfl ?_
 refine rwp_lazy [(8, _)] rfl rfl rfl rfl gv1 ⟨rfl, rfl, trivial⟩ (fun g1_3 => det_call rfl ok192 (lexer_IsName _) ⟨VLe.refl _, rfl, trivial⟩) rfl ?_
 refine rwp_lazy [(9, _)] rfl rfl rfl rfl gv1 ⟨rfl, rfl, trivial⟩ (fun g1_3 => det_not rfl rfl) rfl ?_
 refine rwp_det rfl rfl (det_and rfl rfl rfl (fun h => h) rfl) ?_
 refine rwp_det rfl rfl (det_assign rfl rfl) ?_
 refine rwp_nil ?_
 refine awp_ret ?_
 repeat (first | refine thenQ_ret ?_ | refine blockQ_ret ?_)
 refine fin1 (rs_c rfl) ?_
 exact congrArg vB (by unfold nmIx; simp)

theorem expr_rank_1 (x : Ix) :
    Pur cfg 222 [vIndex x] (vB (!rkIx x)) := by
 refine con_intro Tryz.func222 rfl Tryz.ntmps222 Tryz.results222 rfl ?_
 intro z hz
 refine awp_seq ?_
 refine awp_region rfl ?_
 refine rwp_op rfl rfl (ope_box rfl rfl) ?_
 rintro _ _ ⟨b1, rfl, rfl⟩
 refine rwp_det rfl rfl (det_assign rfl rfl) ?_
 refine rwp_nil ?_
 refine awp_seq ?_
 refine awp_region rfl ?_
 refine rwp_det rfl rfl (det_field_lit rfl fd117_2 rfl) ?_
 refine rwp_det rfl rfl (det_load_one rfl one104 rfl (ptr_row 0 rfl) rfl) ?_
 refine rwp_det rfl rfl (det_len_slm rfl el104 rfl) ?_
 refine rwp_det rfl rfl (det_gtr rfl rfl rfl) ?_
 refine rwp_det rfl rfl (det_assign rfl rfl) ?_
 refine rwp_nil ?_
 refine awp_ret ?_
 repeat (first | refine thenQ_ret ?_ | refine blockQ_ret ?_)
 refine fin1 (rs_c rfl) ?_
 exact congrArg vB (by unfold rkIx; simp)

theorem expr_syntax (e : Ex) (he : e.wt ≤ 6000000000000) :
    Pur cfg 177 [vE e] (vB (synOk e)) := by
 refine con_intro Tryz.func177 rfl Tryz.ntmps177 Tryz.results177 rfl ?_
 intro z hz
 obtain ⟨hL, hI, hA⟩ := e.parts he
 refine awp_seq ?_
 refine awp_region rfl ?_
 refine rwp_op rfl rfl (ope_box rfl rfl) ?_
 rintro _ _ ⟨b1, rfl, rfl⟩
 refine rwp_det rfl rfl (det_assign rfl rfl) ?_
 refine rwp_nil ?_
 refine awp_seq ?_
 refine awp_draw 13 mixed (by kernel_rfl) rfl rfl ?_
 refine td_det rfl rfl (det_field_lit rfl fd33_0 rfl) ?_
 refine td_det rfl rfl (det_load_one rfl one3 rfl (ptr_row 0 rfl) rfl) ?_
 refine td_det rfl rfl (det_eql rfl rfl rfl) ?_
 refine td_det rfl rfl (det_field_lit rfl fd33_0 rfl) ?_
 refine td_det rfl rfl (det_load_one rfl one3 rfl (ptr_row 0 rfl) rfl) ?_
 refine td_det rfl rfl (det_eql rfl rfl rfl) ?_
 refine td_det rfl rfl (det_move rfl rfl) ?_
 refine td_lazy [] rfl rfl rfl rfl gv1 trivial (fun g1_6 => det_field_lit rfl fd33_0 rfl) rfl ?_
 refine td_lazy [(14, _)] rfl rfl rfl rfl gv1 ⟨rfl, rfl, trivial⟩ (fun g1_6 => det_load_one rfl one3 rfl (ptr_row 0 rfl) rfl) rfl ?_
 refine td_lazy [(15, _)] rfl rfl rfl rfl gv1 ⟨rfl, rfl, trivial⟩ (fun g1_6 => det_eql rfl rfl rfl) rfl ?_
 refine td_det rfl rfl (det_or rfl rfl rfl rfl (fun h => (lzf h))) ?_
 refine td_det rfl rfl (det_assign rfl rfl) ?_
 refine td_det rfl rfl (det_assign rfl rfl) ?_
 refine td_nil ?_
 refine rwp_nil ?_
 refine awp_seq ?_
 refine awp_draw 8 mixed (by kernel_rfl) rfl rfl ?_
 refine td_det rfl rfl (det_field_lit rfl fd33_0 rfl) ?_
 refine td_det rfl rfl (det_load_one rfl one3 rfl (ptr_row 0 rfl) rfl) ?_
 refine td_det rfl rfl (det_eql rfl rfl rfl) ?_
 refine td_det rfl rfl (det_field_lit rfl fd33_0 rfl) ?_
 refine td_det rfl rfl (det_load_one rfl one3 rfl (ptr_row 0 rfl) rfl) ?_
 refine td_det rfl rfl (det_eql rfl rfl rfl) ?_
 refine td_det rfl rfl (det_assign rfl rfl) ?_
 refine td_det rfl rfl (det_assign rfl rfl) ?_
 refine td_nil ?_
 refine rwp_nil ?_
 refine awp_seq ?_
 refine awp_block ?_
 refine awp_seq ?_
 refine awp_region rfl ?_
 refine rwp_det rfl rfl (det_field_lit rfl fd33_0 rfl) ?_
 refine rwp_det rfl rfl (det_load_one rfl one3 rfl (ptr_row 0 rfl) rfl) ?_
 refine rwp_det rfl rfl (det_lss rfl rfl rfl) ?_
 refine rwp_det rfl rfl (det_move rfl rfl) ?_
 refine rwp_lazy [] rfl rfl rfl rfl gv1 trivial (fun g3_3 => det_field_lit rfl fd33_0 rfl) rfl ?_
 refine rwp_lazy [(29, _)] rfl rfl rfl rfl gv1 ⟨rfl, rfl, trivial⟩ (fun g3_3 => det_load_one rfl one3 rfl (ptr_row 0 rfl) rfl) rfl ?_
 refine rwp_lazy [(30, _)] rfl rfl rfl rfl gv1 ⟨rfl, rfl, trivial⟩ (fun g3_3 => det_gtr rfl rfl rfl) rfl ?_
 refine rwp_det rfl rfl (det_or rfl rfl rfl rfl (fun h => (lzf h))) ?_
 refine rwp_det rfl rfl (det_assign rfl rfl) ?_
 refine rwp_nil ?_
 refine awp_cond rfl (fun c1 => ?_) (fun c1 => ?_)
 ·refine awp_seq ?_
  refine awp_region rfl ?_
  refine rwp_det rfl rfl (det_assign rfl rfl) ?_
  refine rwp_nil ?_
  refine awp_ret ?_
  repeat (first | refine thenQ_ret ?_ | refine blockQ_ret ?_)
  refine fin1 (rs_c rfl) ?_
  exact congrArg vB (by simp only [synOk, c1, Bool.not_true, Bool.not_false, Bool.true_and, Bool.and_true, Bool.false_and, Bool.and_false])
 ·refine awp_seq ?_
  refine awp_region rfl ?_
  refine rwp_det rfl rfl (det_move rfl rfl) ?_
  refine rwp_det rfl rfl (det_not rfl rfl) ?_
  refine rwp_det rfl rfl (det_move rfl rfl) ?_
  refine rwp_lazy [] rfl rfl rfl rfl gv1 trivial (fun g5_2 => det_field_lit rfl fd33_2 rfl) rfl ?_
  refine rwp_lazy [(37, _)] rfl rfl rfl rfl gv1 ⟨rfl, rfl, trivial⟩ (fun g5_2 => det_load_agg rfl agg26 rfl (ptr_row 0 rfl) rfl) rfl ?_
  refine rwp_lazy [] rfl rfl rfl rfl gv1 trivial (fun g5_2 => det_build rfl zr26 pl26 rfl) rfl ?_
  refine rwp_lazy [(38, _), (39, _)] rfl rfl rfl rfl gv1 ⟨rfl, rfl, rfl, rfl, trivial⟩ (fun g5_2 => det_aneq rfl fl26 rfl rfl rfl) rfl ?_
  refine rwp_det rfl rfl (det_and rfl rfl rfl (fun h => h) rfl) ?_
  refine rwp_det rfl rfl (det_assign rfl rfl) ?_
  refine rwp_nil ?_
  refine awp_cond rfl (fun c2 => ?_) (fun c2 => ?_)
  ·have c2 : (!decide (e.Op = 1) && !val0 e.Val) = true := c2
   refine awp_seq ?_
   refine awp_region rfl ?_
   refine rwp_det rfl rfl (det_assign rfl rfl) ?_
   refine rwp_nil ?_
   refine awp_ret ?_
   repeat (first | refine thenQ_ret ?_ | refine blockQ_ret ?_)
   refine fin1 (rs_c rfl) ?_
   exact congrArg vB (by simp only [synOk, c2, Bool.not_true, Bool.not_false, Bool.true_and, Bool.and_true, Bool.false_and, Bool.and_false])
  ·have c2 : (!decide (e.Op = 1) && !val0 e.Val) = false := c2
   refine awp_seq ?_
   refine awp_region rfl ?_
   refine rwp_det rfl rfl (det_move rfl rfl) ?_
   refine rwp_det rfl rfl (det_not rfl rfl) ?_
   refine rwp_det rfl rfl (det_move rfl rfl) ?_
   refine rwp_lazy [] rfl rfl rfl rfl gv1 trivial (fun g7_2 => det_field_lit rfl fd33_3 rfl) rfl ?_
   refine rwp_lazy [(46, _)] rfl rfl rfl rfl gv1 ⟨rfl, rfl, trivial⟩ (fun g7_2 => det_load_agg rfl agg23 rfl (ptr_row 0 rfl) rfl) rfl ?_
   refine rwp_lazy [] rfl rfl rfl rfl gv1 trivial (fun g7_2 => det_build rfl zr23 pl23 rfl) rfl ?_
   refine rwp_lazy [(47, _), (48, _)] rfl rfl rfl rfl gv1 ⟨rfl, rfl, rfl, rfl, trivial⟩ (fun g7_2 => det_aneq rfl fl23 rfl rfl rfl) rfl ?_
   refine rwp_det rfl rfl (det_and rfl rfl rfl (fun h => h) rfl) ?_
   refine rwp_det rfl rfl (det_assign rfl rfl) ?_
   refine rwp_nil ?_
   refine awp_cond rfl (fun c3 => ?_) (fun c3 => ?_)
   ·have c3 : (!(decide (e.Op = 1) || decide (e.Op = 12)) && !ty0 e.Ty) = true := c3
    refine awp_seq ?_
    refine awp_region rfl ?_
    refine rwp_det rfl rfl (det_assign rfl rfl) ?_
    refine rwp_nil ?_
    refine awp_ret ?_
    repeat (first | refine thenQ_ret ?_ | refine blockQ_ret ?_)
    refine fin1 (rs_c rfl) ?_
    exact congrArg vB (by simp only [synOk, c3, Bool.not_true, Bool.not_false, Bool.true_and, Bool.and_true, Bool.false_and, Bool.and_false])
   ·have c3 : (!(decide (e.Op = 1) || decide (e.Op = 12)) && !ty0 e.Ty) = false := c3
    refine awp_seq ?_
    refine awp_region rfl ?_
    refine rwp_det rfl rfl (det_move rfl rfl) ?_
    refine rwp_det rfl rfl (det_not rfl rfl) ?_
    refine rwp_det rfl rfl (det_move rfl rfl) ?_
    refine rwp_lazy [] rfl rfl rfl rfl gv1 trivial (fun g9_2 => det_field_lit rfl fd33_4 rfl) rfl ?_
    refine rwp_lazy [(55, _)] rfl rfl rfl rfl gv1 ⟨rfl, rfl, trivial⟩ (fun g9_2 => det_load_agg rfl agg29 rfl (ptr_row 0 rfl) rfl) rfl ?_
    refine rwp_lazy [(56, _)] rfl rfl rfl rfl gv1 ⟨rfl, rfl, trivial⟩ (fun g9_2 => det_call rfl ok216 (expr_isZero e.Lin) ⟨VLe.refl _, rfl, trivial⟩) rfl ?_
    refine rwp_lazy [(57, _)] rfl rfl rfl rfl gv1 ⟨rfl, rfl, trivial⟩ (fun g9_2 => det_not rfl rfl) rfl ?_
    refine rwp_det rfl rfl (det_and rfl rfl rfl (fun h => h) rfl) ?_
    refine rwp_det rfl rfl (det_assign rfl rfl) ?_
    refine rwp_nil ?_
    refine awp_cond rfl (fun c4 => ?_) (fun c4 => ?_)
    ·refine awp_seq ?_
     refine awp_region rfl ?_
     refine rwp_det rfl rfl (det_assign rfl rfl) ?_
     refine rwp_nil ?_
     refine awp_ret ?_
     repeat (first | refine thenQ_ret ?_ | refine blockQ_ret ?_)
     refine fin1 (rs_c rfl) ?_
     exact congrArg vB (by simp only [synOk, c4, Bool.not_true, Bool.not_false, Bool.true_and, Bool.and_true, Bool.false_and, Bool.and_false])
    ·refine awp_seq ?_
     refine awp_region rfl ?_
     refine rwp_det rfl rfl (det_move rfl rfl) ?_
     refine rwp_det rfl rfl (det_not rfl rfl) ?_
     refine rwp_det rfl rfl (det_move rfl rfl) ?_
     refine rwp_lazy [] rfl rfl rfl rfl gv1 trivial (fun g11_2 => det_field_lit rfl fd33_1 rfl) rfl ?_
     refine rwp_lazy [(64, _)] rfl rfl rfl rfl gv1 ⟨rfl, rfl, trivial⟩ (fun g11_2 => det_load_one rfl one9 rfl (ptr_row 0 rfl) rfl) rfl ?_
     refine rwp_lazy [(65, _)] rfl rfl rfl rfl gv1 ⟨rfl, rfl, trivial⟩ (fun g11_2 => det_sneq rfl rfl rfl) rfl ?_
     refine rwp_lazy [(66, _)] rfl rfl rfl rfl gv1 ⟨rfl, rfl, trivial⟩ (fun g11_2 => det_move rfl rfl) rfl ?_
     refine rwp_lazy [] rfl rfl rfl rfl gv2 trivial (fun g11_6 => det_field_lit rfl fd33_5 rfl) rfl ?_
     refine rwp_lazy [(68, _)] rfl rfl rfl rfl gv2 ⟨rfl, rfl, trivial⟩ (fun g11_6 => det_load_one rfl one30 rfl (ptr_row 0 rfl) rfl) rfl ?_
     refine rwp_lazy [(69, _)] rfl rfl rfl rfl gv2 ⟨rfl, rfl, trivial⟩ (fun g11_6 => det_len_slm rfl el30 rfl) rfl ?_
     refine rwp_lazy [(70, _)] rfl rfl rfl rfl gv2 ⟨rfl, rfl, trivial⟩ (fun g11_6 => det_gtr rfl rfl rfl) rfl ?_
     refine rwp_lazy [(67, _)] rfl rfl rfl rfl gv1 ⟨rfl, rfl, trivial⟩ (fun g11_2 => det_or rfl rfl rfl rfl (fun h => and_mk (by assumption) (lzf h))) rfl ?_
     refine rwp_det rfl rfl (det_and rfl rfl rfl (fun h => h) rfl) ?_
     refine rwp_det rfl rfl (det_assign rfl rfl) ?_
     refine rwp_nil ?_
     refine awp_cond rfl (fun c5 => ?_) (fun c5 => ?_)
     ·refine awp_seq ?_
      refine awp_region rfl ?_
      refine rwp_det rfl rfl (det_assign rfl rfl) ?_
      refine rwp_nil ?_
      refine awp_ret ?_
      repeat (first | refine thenQ_ret ?_ | refine blockQ_ret ?_)
      refine fin1 (rs_c rfl) ?_
      exact congrArg vB (by simp only [synOk, c5, Bool.not_true, Bool.not_false, Bool.true_and, Bool.and_true, Bool.false_and, Bool.and_false])
     ·refine awp_skip ?_
      refine awp_seq ?_
      refine awp_region rfl ?_
      refine rwp_det rfl rfl (det_field_lit rfl fd33_5 rfl) ?_
      refine rwp_det rfl rfl (det_load_one rfl one30 rfl (ptr_row 0 rfl) rfl) ?_
      refine rwp_det rfl rfl (det_call rfl ok217 (slices_ContainsFunc_ix e.Idx _ (fun x => !wellIx x) hI (fun x _ => FnPur.of_pur (first := []) (cap := []) ok218 (expr_syntax_1 x))) ⟨VLe.refl _, rfl, VLe.refl _, rfl, trivial⟩) ?_
      refine rwp_det rfl rfl (det_not rfl rfl) ?_
      refine rwp_det rfl rfl (det_assign rfl rfl) ?_
      refine rwp_nil ?_
      refine awp_ret ?_
      repeat (first | refine thenQ_ret ?_ | refine blockQ_ret ?_)
      refine fin1 (rs_c rfl) ?_
      exact congrArg vB (by rw [notanynot]; simp only [synOk, c1, c2, c3, c4, c5, Bool.not_true, Bool.not_false, Bool.true_and, Bool.and_true, Bool.false_and, Bool.and_false])

theorem expr_names (e : Ex) (he : e.wt ≤ 6000000000000) :
    Pur cfg 178 [vE e] (vB (namesE e)) := by
 refine con_intro Tryz.func178 rfl Tryz.ntmps178 Tryz.results178 rfl ?_
 intro z hz
 obtain ⟨hL, hI, hA⟩ := e.parts he
 refine awp_seq ?_
 refine awp_region rfl ?_
 refine rwp_op rfl rfl (ope_box rfl rfl) ?_
 rintro _ _ ⟨b1, rfl, rfl⟩
 refine rwp_det rfl rfl (det_assign rfl rfl) ?_
 refine rwp_nil ?_
 refine awp_seq ?_
 refine awp_seq ?_
 refine awp_region rfl ?_
 refine rwp_det rfl rfl (det_field_lit rfl fd33_0 rfl) ?_
 refine rwp_det rfl rfl (det_load_one rfl one3 rfl (ptr_row 0 rfl) rfl) ?_
 refine rwp_det rfl rfl (det_eql rfl rfl rfl) ?_
 refine rwp_det rfl rfl (det_move rfl rfl) ?_
 refine rwp_lazy [] rfl rfl rfl rfl gv1 trivial (fun g1_3 => det_field_lit rfl fd33_1 rfl) rfl ?_
 refine rwp_lazy [(7, _)] rfl rfl rfl rfl gv1 ⟨rfl, rfl, trivial⟩ (fun g1_3 => det_load_one rfl one9 rfl (ptr_row 0 rfl) rfl) rfl ?_
 refine rwp_lazy [(8, _)] rfl rfl rfl rfl gv1 ⟨rfl, rfl, trivial⟩ (fun g1_3 => det_call rfl ok192 (lexer_IsName _) ⟨VLe.refl _, rfl, trivial⟩) rfl ?_
 refine rwp_lazy [(9, _)] rfl rfl rfl rfl gv1 ⟨rfl, rfl, trivial⟩ (fun g1_3 => det_not rfl rfl) rfl ?_
 refine rwp_det rfl rfl (det_and rfl rfl rfl (fun h => h) rfl) ?_
 refine rwp_nil ?_
 refine awp_cond rfl (fun c1 => ?_) (fun c1 => ?_)
 ·refine awp_seq ?_
  refine awp_region rfl ?_
  refine rwp_det rfl rfl (det_assign rfl rfl) ?_
  refine rwp_nil ?_
  refine awp_ret ?_
  repeat (first | refine thenQ_ret ?_ | refine blockQ_ret ?_)
  refine fin1 (rs_c rfl) ?_
  exact congrArg vB (by simp only [namesE, c1, Bool.not_true, Bool.false_and])
 ·refine awp_skip ?_
  refine awp_seq ?_
  refine awp_region rfl ?_
  refine rwp_det rfl rfl (det_field_lit rfl fd33_5 rfl) ?_
  refine rwp_det rfl rfl (det_load_one rfl one30 rfl (ptr_row 0 rfl) rfl) ?_
  refine rwp_det rfl rfl (det_call rfl ok217 (slices_ContainsFunc_ix e.Idx _ (fun x => !nmIx x) hI (fun x _ => FnPur.of_pur (first := []) (cap := []) ok220 (expr_names_1 x))) ⟨VLe.refl _, rfl, VLe.refl _, rfl, trivial⟩) ?_
  refine rwp_det rfl rfl (det_not rfl rfl) ?_
  refine rwp_det rfl rfl (det_assign rfl rfl) ?_
  refine rwp_nil ?_
  refine awp_ret ?_
  repeat (first | refine thenQ_ret ?_ | refine blockQ_ret ?_)
  refine fin1 (rs_c rfl) ?_
  exact congrArg vB (by rw [notanynot]; simp only [namesE, c1, Bool.not_false, Bool.true_and])

theorem expr_rank (e : Ex) (he : e.wt ≤ 6000000000000) :
    Pur cfg 179 [vE e] (vB (rankE e)) := by
 refine con_intro Tryz.func179 rfl Tryz.ntmps179 Tryz.results179 rfl ?_
 intro z hz
 obtain ⟨hL, hI, hA⟩ := e.parts he
 refine awp_seq ?_
 refine awp_region rfl ?_
 refine rwp_op rfl rfl (ope_box rfl rfl) ?_
 rintro _ _ ⟨b1, rfl, rfl⟩
 refine rwp_det rfl rfl (det_assign rfl rfl) ?_
 refine rwp_nil ?_
 refine awp_seq ?_
 refine awp_seq ?_
 refine awp_draw 13 mixed (by kernel_rfl) rfl rfl ?_
 refine td_det rfl rfl (det_field_lit rfl fd33_6 rfl) ?_
 refine td_det rfl rfl (det_load_one rfl one31 rfl (ptr_row 0 rfl) rfl) ?_
 refine td_det rfl rfl (det_len_slm rfl el31 rfl) ?_
 refine td_det rfl rfl (det_field_lit rfl fd33_0 rfl) ?_
 refine td_det rfl rfl (det_load_one rfl one3 rfl (ptr_row 0 rfl) rfl) ?_
 refine td_det rfl rfl (det_call rfl ok221 (expr_operands _) ⟨VLe.refl _, rfl, trivial⟩) ?_
 refine td_det rfl rfl (det_neq rfl rfl rfl) ?_
 refine td_det rfl rfl (det_move rfl rfl) ?_
 refine td_lazy [] rfl rfl rfl rfl gv1 trivial (fun g1_7 => det_field_lit rfl fd33_5 rfl) rfl ?_
 refine td_lazy [(11, _)] rfl rfl rfl rfl gv1 ⟨rfl, rfl, trivial⟩ (fun g1_7 => det_load_one rfl one30 rfl (ptr_row 0 rfl) rfl) rfl ?_
 refine td_lazy [(12, _)] rfl rfl rfl rfl gv1 ⟨rfl, rfl, trivial⟩ (fun g1_7 => det_len_slm rfl el30 rfl) rfl ?_
 refine td_lazy [(13, _)] rfl rfl rfl rfl gv1 ⟨rfl, rfl, trivial⟩ (fun g1_7 => det_gtr rfl rfl rfl) rfl ?_
 refine td_det rfl rfl (det_or rfl rfl rfl rfl (fun h => (lzf h))) ?_
 refine td_nil ?_
 refine rwp_nil ?_
 refine awp_cond rfl (fun c1 => ?_) (fun c1 => ?_)
 ·refine awp_seq ?_
  refine awp_region rfl ?_
  refine rwp_det rfl rfl (det_assign rfl rfl) ?_
  refine rwp_nil ?_
  refine awp_ret ?_
  repeat (first | refine thenQ_ret ?_ | refine blockQ_ret ?_)
  refine fin1 (rs_c rfl) ?_
  exact congrArg vB (by simp only [rankE, c1, Bool.not_true, Bool.false_and])
 ·refine awp_skip ?_
  refine awp_seq ?_
  refine awp_region rfl ?_
  refine rwp_det rfl rfl (det_field_lit rfl fd33_5 rfl) ?_
  refine rwp_det rfl rfl (det_load_one rfl one30 rfl (ptr_row 0 rfl) rfl) ?_
  refine rwp_det rfl rfl (det_call rfl ok217 (slices_ContainsFunc_ix e.Idx _ (fun x => !rkIx x) hI (fun x _ => FnPur.of_pur (first := []) (cap := []) ok222 (expr_rank_1 x))) ⟨VLe.refl _, rfl, VLe.refl _, rfl, trivial⟩) ?_
  refine rwp_det rfl rfl (det_not rfl rfl) ?_
  refine rwp_det rfl rfl (det_assign rfl rfl) ?_
  refine rwp_nil ?_
  refine awp_ret ?_
  repeat (first | refine thenQ_ret ?_ | refine blockQ_ret ?_)
  refine fin1 (rs_c rfl) ?_
  exact congrArg vB (by rw [notanynot]; simp only [rankE, c1, Bool.not_false, Bool.true_and])

theorem expr_types (e : Ex) (he : e.wt ≤ 6000000000000) :
    Pur cfg 180 [vE e] (vB (typesE e)) := by
 refine con_intro Tryz.func180 rfl Tryz.ntmps180 Tryz.results180 rfl ?_
 intro z hz
 obtain ⟨hL, hI, hA⟩ := e.parts he
 refine awp_seq ?_
 refine awp_region rfl ?_
 refine rwp_op rfl rfl (ope_box rfl rfl) ?_
 rintro _ _ ⟨b1, rfl, rfl⟩
 refine rwp_det rfl rfl (det_assign rfl rfl) ?_
 refine rwp_nil ?_
 refine awp_seq ?_
 refine awp_seq ?_
 refine awp_region rfl ?_
 refine rwp_det rfl rfl (det_field_lit rfl fd33_0 rfl) ?_
 refine rwp_det rfl rfl (det_load_one rfl one3 rfl (ptr_row 0 rfl) rfl) ?_
 refine rwp_det rfl rfl (det_eql rfl rfl rfl) ?_
 refine rwp_det rfl rfl (det_move rfl rfl) ?_
 refine rwp_lazy [] rfl rfl rfl rfl gv1 trivial (fun g1_3 => det_field_lit rfl fd33_0 rfl) rfl ?_
 refine rwp_lazy [(9, _)] rfl rfl rfl rfl gv1 ⟨rfl, rfl, trivial⟩ (fun g1_3 => det_load_one rfl one3 rfl (ptr_row 0 rfl) rfl) rfl ?_
 refine rwp_lazy [(10, _)] rfl rfl rfl rfl gv1 ⟨rfl, rfl, trivial⟩ (fun g1_3 => det_eql rfl rfl rfl) rfl ?_
 refine rwp_det rfl rfl (det_or rfl rfl rfl rfl (fun h => (lzf h))) ?_
 refine rwp_det rfl rfl (det_move rfl rfl) ?_
 refine rwp_lazy [] rfl rfl rfl rfl gv1 trivial (fun g1_8 => det_field_lit rfl fd33_3 rfl) rfl ?_
 refine rwp_lazy [(14, _)] rfl rfl rfl rfl gv1 ⟨rfl, rfl, trivial⟩ (fun g1_8 => det_load_agg rfl agg23 rfl (ptr_row 0 rfl) rfl) rfl ?_
 refine rwp_lazy [(15, _)] rfl rfl rfl rfl gv1 ⟨rfl, rfl, trivial⟩ (fun g1_8 => det_call rfl ok188 (value_ValidateType _) ⟨VLe.refl _, rfl, trivial⟩) rfl ?_
 refine rwp_lazy [(16, _)] rfl rfl rfl rfl gv1 ⟨rfl, rfl, trivial⟩ (fun g1_8 => det_neq rfl rfl rfl) rfl ?_
 refine rwp_det rfl rfl (det_and rfl rfl rfl (fun h => h) rfl) ?_
 refine rwp_nil ?_
 refine awp_cond rfl (fun c1 => ?_) (fun c1 => ?_)
 ·rw [tyErr_dec] at c1
  refine awp_seq ?_
  refine awp_region rfl ?_
  refine rwp_det rfl rfl (det_assign rfl rfl) ?_
  refine rwp_nil ?_
  refine awp_ret ?_
  repeat (first | refine thenQ_ret ?_ | refine blockQ_ret ?_)
  refine fin1 (rs_c rfl) ?_
  exact congrArg vB (by simp only [typesE, c1, Bool.not_true, Bool.false_and])
 ·rw [tyErr_dec] at c1
  refine awp_skip ?_
  refine awp_seq ?_
  refine awp_seq ?_
  refine awp_region rfl ?_
  refine rwp_det rfl rfl (det_field_lit rfl fd33_6 rfl) ?_
  refine rwp_det rfl rfl (det_load_one rfl one31 rfl (ptr_row 0 rfl) rfl) ?_
  refine rwp_det rfl rfl (det_len_slm rfl el31 rfl) ?_
  refine rwp_det rfl rfl (det_move rfl rfl) ?_
  refine rwp_nil ?_
  refine awp_block ?_
  refine awp_weak ⟨[(22, .c _), (1, .c _), (20, .c _), (21, .c _)], [_]⟩ (Weak.mk [true] ⟨VLe.of_eq rfl, VLe.of_eq rfl, VLe.of_eq rfl, VLe.of_eq rfl, trivial⟩ rfl) ?_
  refine awp_loop_k 1 0 rfl rfl (Nat) (fun k => [(22, vI k)]) (fun k => []) (fun k => k ≤ e.Args.length ∧ (condsOk e.Op 0 e.Args = condsOk e.Op k (e.Args.drop k))) (fun k => e.Args.length - k) ⟨0, ⟨by omega, rfl⟩, Weak.mk [true] ⟨VLe.refl _, VLe.refl _, VLe.refl _, VLe.refl _, trivial⟩ rfl⟩ ?_
  rintro k ⟨hk, hp⟩
  refine awp_seq ?_
  refine awp_region rfl ?_
  refine rwp_det rfl rfl (det_lss rfl rfl rfl) ?_
  refine rwp_nil ?_
  refine awp_seq ?_
  refine awp_cond rfl (fun c2 => ?_) (fun c2 => ?_)
  ·try simp only [sx, List.length_map] at c2
   obtain ⟨a, ha⟩ := ex_get e.Args k (by omega)
   refine awp_skip ?_
   refine awp_seq ?_
   refine awp_block ?_
   refine awp_seq ?_
   refine awp_region rfl ?_
   refine rwp_det rfl rfl (det_move rfl rfl) ?_
   refine rwp_det rfl rfl (det_index_sl rfl el31 rfl rfl (by omega) (getmE (by assumption))) ?_
   refine rwp_det rfl rfl (det_load_agg rfl agg33 rfl ptr_imm rfl) ?_
   refine rwp_op rfl rfl (ope_allocN [none, none, none, none, none, none, none, none, none, none, some 2, some 4, some 13] rfl zr33 rfl) ?_
   rintro _ _ ⟨b2, rfl, rfl⟩
   refine rwp_det rfl rfl (det_assign rfl rfl) ?_
   refine rwp_det0 rfl rfl (det_store rfl sz33 rfl rfl rfl (st_row 0 rfl rfl)) ?_
   refine rwp_nil ?_
   refine awp_seq ?_
   refine awp_draw 7 mixed (by kernel_rfl) rfl rfl ?_
   refine td_det rfl rfl (det_load_agg rfl agg33 rfl (ptr_row 0 rfl) rfl) ?_
   refine td_det rfl rfl (det_call rfl ok80 (expr_IsCondition a) ⟨VLe.refl _, rfl, trivial⟩) ?_
   refine td_det rfl rfl (det_field_lit rfl fd33_0 rfl) ?_
   refine td_det rfl rfl (det_load_one rfl one3 rfl (ptr_row 1 rfl) rfl) ?_
   refine td_det rfl rfl (det_move rfl rfl) ?_
   refine td_det rfl rfl (det_call rfl ok223 (expr_requiresCondition _ _) ⟨VLe.refl _, rfl, VLe.refl _, rfl, trivial⟩) ?_
   refine td_det rfl rfl (det_bneq rfl un4 rfl rfl) ?_
   refine td_nil ?_
   refine rwp_nil ?_
   refine awp_cond rfl (fun c3 => ?_) (fun c3 => ?_)
   ·refine awp_seq ?_
    refine awp_region rfl ?_
    refine rwp_det rfl rfl (det_assign rfl rfl) ?_
    refine rwp_nil ?_
    refine awp_ret ?_
    repeat (first | refine thenQ_ret ?_ | refine blockQ_ret ?_)
    refine fin1 (rs_c rfl) ?_
    exact congrArg vB (by simp only [typesE, c1, Bool.not_false, Bool.true_and]; rw [hp, drop_cons ha, condsOk, show (isCond a == wantC e.Op k) = false by simpa using c3, Bool.false_and])
   ·refine awp_skip ?_
    refine awp_region rfl ?_
    refine rwp_det rfl rfl (det_add_nw rfl rfl rfl ⟨by omega, by omega⟩) ?_
    refine rwp_det rfl rfl (det_move rfl rfl) ?_
    refine rwp_nil ?_
    refine ⟨k + 1, ⟨by omega, (by rw [hp, drop_cons ha, condsOk, show (isCond a == wantC e.Op k) = true by simpa using c3, Bool.true_and]; rfl)⟩, (by omega), Weak.mk [false, true] ⟨VLe.refl _, VLe.refl _, VLe.refl _, VLe.refl _, trivial⟩ rfl⟩
  ·try simp only [sx, List.length_map] at c2
   refine awp_exit ?_
   refine awp_seq ?_
   refine awp_region rfl ?_
   refine rwp_det rfl rfl (det_assign rfl rfl) ?_
   refine rwp_nil ?_
   refine awp_ret ?_
   repeat (first | refine thenQ_ret ?_ | refine blockQ_ret ?_)
   refine fin1 (rs_c rfl) ?_
   exact congrArg vB (by simp only [typesE, c1, Bool.not_false, Bool.true_and]; rw [hp, drop_end (by omega)]; rfl)

theorem expr_depth_step (n : Nat) (ih : n ≠ 0 → ∀ (a : Ex) (l : Int), a.wt ≤ 6000000000000 → l = n → Pur cfg 147 [vE a, vI l] (vI (depT (n - 1) a))) (hn : n ≤ 100) (e : Ex) (l : Int) (he : e.wt ≤ 6000000000000) (hl : l = n + 1) :
    Pur cfg 147 [vE e, vI l] (vI (depT n e)) := by
 refine con_intro Tryz.func147 rfl Tryz.ntmps147 Tryz.results147 rfl ?_
 intro z hz
 obtain ⟨hL, hI, hA⟩ := e.parts he
 refine awp_seq ?_
 refine awp_region rfl ?_
 refine rwp_op rfl rfl (ope_box rfl rfl) ?_
 rintro _ _ ⟨b1, rfl, rfl⟩
 refine rwp_det rfl rfl (det_assign rfl rfl) ?_
 refine rwp_nil ?_
 refine awp_seq ?_
 refine awp_seq ?_
 refine awp_region rfl ?_
 refine rwp_det rfl rfl (det_move rfl rfl) ?_
 refine rwp_det rfl rfl (det_leq rfl rfl rfl) ?_
 refine rwp_nil ?_
 refine awp_cond rfl (fun c1 => ?_) (fun c1 => ?_)
 ·try simp only [sx, List.length_map] at c1
  obtain rfl : n = 0 := by omega
  refine awp_seq ?_
  refine awp_region rfl ?_
  refine rwp_det rfl rfl (det_move rfl rfl) ?_
  refine rwp_det rfl rfl (det_assign rfl rfl) ?_
  refine rwp_nil ?_
  refine awp_ret ?_
  repeat (first | refine thenQ_ret ?_ | refine blockQ_ret ?_)
  refine fin1 (rs_c rfl) ?_
  exact congrArg vI (by rw [hl]; rfl)
 ·try simp only [sx, List.length_map] at c1
  obtain ⟨m, rfl⟩ : ∃ m, n = m + 1 := ⟨n - 1, by omega⟩
  refine awp_skip ?_
  refine awp_seq ?_
  refine awp_region rfl ?_
  refine rwp_det rfl rfl (det_assign rfl rfl) ?_
  refine rwp_nil ?_
  refine awp_seq ?_
  refine awp_seq ?_
  refine awp_region rfl ?_
  refine rwp_det rfl rfl (det_field_lit rfl fd33_6 rfl) ?_
  refine rwp_det rfl rfl (det_load_one rfl one31 rfl (ptr_row 0 rfl) rfl) ?_
  refine rwp_det rfl rfl (det_len_slm rfl el31 rfl) ?_
  refine rwp_det rfl rfl (det_move rfl rfl) ?_
  refine rwp_nil ?_
  refine awp_block ?_
  refine awp_weak ⟨[(14, .c _), (5, .c _), (1, .c _), (12, .c _), (13, .c _)], []⟩ (Weak.mk [false] ⟨VLe.of_eq rfl, VLe.of_eq rfl, VLe.of_eq rfl, VLe.of_eq rfl, VLe.of_eq rfl, trivial⟩ rfl) ?_
  refine awp_loop_k 2 0 rfl rfl (Nat × Int) (fun ⟨k, d⟩ => [(14, vI k), (5, vI d)]) (fun ⟨k, d⟩ => []) (fun ⟨k, d⟩ => k ≤ e.Args.length ∧ (1 ≤ d) ∧ (d ≤ m + 2) ∧ (depT (m + 1) e = depF (depT m) d (e.Args.drop k))) (fun ⟨k, d⟩ => e.Args.length - k) ⟨⟨0, 1⟩, ⟨by omega, by omega, by omega, rfl⟩, Weak.mk [] ⟨VLe.refl _, VLe.of_eq (rfl), VLe.refl _, VLe.refl _, VLe.refl _, trivial⟩ rfl⟩ ?_
  rintro ⟨k, d⟩ ⟨hk, hd1, hd2, hd3⟩
  show AWP _ _ _ _ _ ⟨[(14, vI k), (5, vI d)] ++ _, [] ++ _⟩
  refine awp_seq ?_
  refine awp_region rfl ?_
  refine rwp_det rfl rfl (det_lss rfl rfl rfl) ?_
  refine rwp_nil ?_
  refine awp_seq ?_
  refine awp_cond rfl (fun c2 => ?_) (fun c2 => ?_)
  ·try simp only [sx, List.length_map] at c2
   obtain ⟨a, ha⟩ := ex_get e.Args k (by omega)
   have hda := depT_le m a
   refine awp_skip ?_
   refine awp_seq ?_
   refine awp_block ?_
   refine awp_seq ?_
   refine awp_region rfl ?_
   refine rwp_det rfl rfl (det_index_sl rfl el31 rfl rfl (by omega) (getmE (by assumption))) ?_
   refine rwp_det rfl rfl (det_load_agg rfl agg33 rfl ptr_imm rfl) ?_
   refine rwp_op rfl rfl (ope_allocN [none, none, none, none, none, none, none, none, none, none, some 2, some 4, some 13] rfl zr33 rfl) ?_
   rintro _ _ ⟨b2, rfl, rfl⟩
   refine rwp_det0 rfl rfl (det_store rfl sz33 rfl rfl rfl (st_row 0 rfl rfl)) ?_
   refine rwp_nil ?_
   refine awp_region rfl ?_
   refine rwp_det rfl rfl (det_move rfl rfl) ?_
   refine rwp_det rfl rfl (det_load_agg rfl agg33 rfl (ptr_row 0 rfl) rfl) ?_
   refine rwp_det rfl rfl (det_move rfl rfl) ?_
   refine rwp_det rfl rfl (det_sub_nw rfl rfl rfl ⟨by omega, by omega⟩) ?_
   refine rwp_det rfl rfl (det_call rfl ok147 (show Pur cfg 147 [vE a, vI (l - 1)] (vI (depT m a)) from ih (by omega) a _ (by have := Ex.arg_wt (mem_of_get ha); omega) (by omega)) ⟨VLe.refl _, rfl, VLe.refl _, rfl, trivial⟩) ?_
   refine rwp_det rfl rfl (det_add_nw rfl rfl rfl ⟨by omega, by omega⟩) ?_
   refine rwp_det rfl rfl (det_max rfl rfl rfl) ?_
   refine rwp_det rfl rfl (det_assign rfl rfl) ?_
   refine rwp_nil ?_
   refine awp_region rfl ?_
   refine rwp_det rfl rfl (det_add_nw rfl rfl rfl ⟨by omega, by omega⟩) ?_
   refine rwp_det rfl rfl (det_move rfl rfl) ?_
   refine rwp_nil ?_
   refine ⟨⟨k + 1, max d (1 + depT m a)⟩, ⟨by omega, by omega, by omega, by rw [hd3, drop_cons ha, depF]⟩, (by show e.Args.length - (k + 1) < e.Args.length - k; omega), Weak.mk [false] ⟨VLe.refl _, VLe.refl _, VLe.refl _, VLe.refl _, VLe.refl _, trivial⟩ rfl⟩
  ·try simp only [sx, List.length_map] at c2
   refine awp_exit ?_
   refine awp_seq ?_
   refine awp_region rfl ?_
   refine rwp_det rfl rfl (det_move rfl rfl) ?_
   refine rwp_det rfl rfl (det_assign rfl rfl) ?_
   refine rwp_nil ?_
   refine awp_ret ?_
   repeat (first | refine thenQ_ret ?_ | refine blockQ_ret ?_)
   refine fin1 (rs_c rfl) ?_
   exact congrArg vI (by rw [hd3, drop_end (by omega)]; rfl)

theorem expr_depth (n : Nat) (e : Ex) (l : Int) (hn : n ≤ 100) (he : e.wt ≤ 6000000000000) (hl : l = n + 1) : Pur cfg 147 [vE e, vI l] (vI (depT n e)) := by
  induction n generalizing e l with
  | zero => exact expr_depth_step 0 (fun h => absurd rfl h) hn e l he hl
  | succ n ih => exact expr_depth_step (n + 1) (fun _ a l h1 h2 => ih a l (by omega) h1 (by omega)) hn e l he hl

theorem expr_Depth (e : Ex) (he : e.wt ≤ 6000000000000) :
    Pur cfg 79 [vE e] (vI (depT 40 e)) := by
 refine con_intro Tryz.func79 rfl Tryz.ntmps79 Tryz.results79 rfl ?_
 intro z hz
 refine awp_seq ?_
 refine awp_region rfl ?_
 refine rwp_op rfl rfl (ope_box rfl rfl) ?_
 rintro _ _ ⟨b1, rfl, rfl⟩
 refine rwp_det rfl rfl (det_assign rfl rfl) ?_
 refine rwp_nil ?_
 refine awp_seq ?_
 refine awp_region rfl ?_
 refine rwp_det rfl rfl (det_load_agg rfl agg33 rfl (ptr_row 0 rfl) rfl) ?_
 refine rwp_det rfl rfl (det_call rfl ok147 (expr_depth 40 e 41 (by omega) he (by omega)) ⟨VLe.refl _, rfl, VLe.refl _, rfl, trivial⟩) ?_
 refine rwp_det rfl rfl (det_assign rfl rfl) ?_
 refine rwp_nil ?_
 refine awp_ret ?_
 repeat (first | refine thenQ_ret ?_ | refine blockQ_ret ?_)
 refine fin1 (rs_c rfl) ?_
 exact rfl

end Go.W
