/-
  Walks: what functions of the program compute. Printed by wip/gen/mk2.py.
  Conditions: none.
-/
import Derived.Test.YtnnkemdiknefaaaGreatDoorWB
set_option linter.unusedSimpArgs false
set_option linter.unusedVariables false
namespace Go.W
open Go Go.Eng Go.Proofs Go.L41 Go.Br
attribute [local irreducible] AWP RWP TD
theorem yA : aggT Tryz.prog 33 = some 13 := by kernel_rfl
theorem el31 : elemT Tryz.prog 31 = some (33, 13, 160) := by kernel_rfl
theorem el104 : elemT Tryz.prog 104 = some (29, 2, 32) := by kernel_rfl
theorem yW : fieldT Tryz.prog 33 0 = some (0, 3) := by kernel_rfl
theorem fd33_1 : fieldT Tryz.prog 33 1 = some (1, 9) := by kernel_rfl
theorem fd33_2 : fieldT Tryz.prog 33 2 = some (2, 26) := by kernel_rfl
theorem fd33_3 : fieldT Tryz.prog 33 3 = some (4, 23) := by kernel_rfl
theorem fd33_4 : fieldT Tryz.prog 33 4 = some (9, 29) := by kernel_rfl
theorem kN : fieldT Tryz.prog 33 5 = some (11, 30) := by kernel_rfl
theorem kE : fieldT Tryz.prog 33 6 = some (12, 31) := by kernel_rfl
theorem fd117_0 : fieldT Tryz.prog 117 0 = some (0, 29) := by kernel_rfl
theorem fd117_1 : fieldT Tryz.prog 117 1 = some (2, 9) := by kernel_rfl
theorem kZ : fieldT Tryz.prog 117 2 = some (3, 104) := by kernel_rfl
theorem fl26 : flatK Tryz.prog 26 = some [.int, .int] := by kernel_rfl
theorem ok35 : callOk Tryz.prog 35 = true := by kernel_rfl
theorem ok80 : callOk Tryz.prog 80 = true := by kernel_rfl
theorem ok103 : callOk Tryz.prog 103 = true := by kernel_rfl
theorem ok104 : callOk Tryz.prog 104 = true := by kernel_rfl
theorem ok105 : callOk Tryz.prog 105 = true := by kernel_rfl
theorem ok147 : callOk Tryz.prog 147 = true := by kernel_rfl
theorem ok167 : callOk Tryz.prog 167 = true := by kernel_rfl
theorem ok168 : callOk Tryz.prog 168 = true := by kernel_rfl
theorem ok169 : callOk Tryz.prog 169 = true := by kernel_rfl
theorem ok170 : callOk Tryz.prog 170 = true := by kernel_rfl
theorem ok171 : callOk Tryz.prog 171 = true := by kernel_rfl
theorem ok172 : callOk Tryz.prog 172 = true := by kernel_rfl
theorem ok173 : callOk Tryz.prog 173 = true := by kernel_rfl
theorem ok192 : callOk Tryz.prog 192 = true := by kernel_rfl
theorem ok201 : callOk Tryz.prog 201 = true := by kernel_rfl
theorem ok211 : callOk Tryz.prog 211 = true := by kernel_rfl
theorem ok212 : callOk Tryz.prog 212 = true := by kernel_rfl
theorem ok213 : callOk Tryz.prog 213 = true := by kernel_rfl
theorem ok216 : callOk Tryz.prog 216 = true := by kernel_rfl
theorem ok217 : callOk Tryz.prog 217 = true := by kernel_rfl
theorem ok218 : callOk Tryz.prog 218 = true := by kernel_rfl
theorem ok219 : callOk Tryz.prog 219 = true := by kernel_rfl
theorem ok220 : callOk Tryz.prog 220 = true := by kernel_rfl
theorem ok221 : callOk Tryz.prog 221 = true := by kernel_rfl
theorem ok222 : callOk Tryz.prog 222 = true := by kernel_rfl
theorem ok223 : callOk Tryz.prog 223 = true := by kernel_rfl
theorem one30 : oneT Tryz.prog 30 = true := by kernel_rfl
theorem wC : oneT Tryz.prog 31 = true := by kernel_rfl
theorem one104 : oneT Tryz.prog 104 = true := by kernel_rfl
theorem sz33 : (Tryz.prog.info? 33).map (·.size) = some 13 := by kernel_rfl
theorem sz117 : (Tryz.prog.info? 117).map (·.size) = some 4 := by kernel_rfl
theorem un4 : Tryz.prog.underlying 4 = some .bool := by kernel_rfl
theorem zr33 : zeroT Tryz.prog 33 = some [(Value.int IntKind.i64 0), (Value.string (ByteArray.mk #[])), (Value.int IntKind.i64 0), (Value.int IntKind.i64 0), (Value.int IntKind.i64 0), (Value.int IntKind.i64 0), (Value.int IntKind.i64 0), (Value.int IntKind.i64 0), (Value.int IntKind.i64 0), (Value.int IntKind.i64 0), (Value.slice none 0 0), (Value.slice none 0 0), (Value.slice none 0 0)] := by kernel_rfl
theorem zr117 : zeroT Tryz.prog 117 = some [(Value.int IntKind.i64 0), (Value.slice none 0 0), (Value.string (ByteArray.mk #[])), (Value.slice none 0 0)] := by kernel_rfl
theorem expr_operands (op : Int) :
    Pur cfg 221 [vI op] (vI (nArgs op)) := by
 refine zZ Tryz.func221 rfl Tryz.ntmps221 Tryz.results221 rfl ?_
 intro z hz
 refine zE ?_
 refine zB rfl ?_
 refine zA rfl rfl (zC rfl rfl) ?_
 refine zH ?_
 refine zE ?_
 refine zE ?_
 refine zB rfl ?_
 refine zA rfl rfl (zF rfl rfl) ?_
 refine zH ?_
 refine qA ?_
 refine zE ?_
 refine zE ?_
 refine zB rfl ?_
 refine zA rfl rfl (qJ rfl rfl rfl) ?_
 refine zA rfl rfl (zC rfl rfl) ?_
 refine zH ?_
 refine zR rfl (fun c1 => ?_) (fun c1 => ?_)
 ·try simp only [sx, List.length_map] at c1
  refine zT ?_
  refine zR rfl (fun c3 => ?_) (fun c3 => ?_)
  ·try simp only [sx, List.length_map] at c3
   refine zE ?_
   refine zB rfl ?_
   refine zA rfl rfl (zC rfl rfl) ?_
   refine zH ?_
   refine zS ?_
   repeat (first | refine zO ?_ | refine zM ?_)
   refine fin1 (rs_c rfl) ?_
   exact congrArg vI (by unfold nArgs; (repeat' split) <;> omega)
  ·try simp only [sx, List.length_map] at c3
   refine zE ?_
   refine zE ?_
   refine zB rfl ?_
   refine zA rfl rfl (qJ rfl rfl rfl) ?_
   refine zA rfl rfl (zC rfl rfl) ?_
   refine zH ?_
   refine zR rfl (fun c4 => ?_) (fun c4 => ?_)
   ·try simp only [sx, List.length_map] at c4
    refine zT ?_
    refine zR rfl (fun c6 => ?_) (fun c6 => ?_)
    ·try simp only [sx, List.length_map] at c6
     refine zE ?_
     refine zB rfl ?_
     refine zA rfl rfl (zC rfl rfl) ?_
     refine zH ?_
     refine zS ?_
     repeat (first | refine zO ?_ | refine zM ?_)
     refine fin1 (rs_c rfl) ?_
     exact congrArg vI (by unfold nArgs; (repeat' split) <;> omega)
    ·try simp only [sx, List.length_map] at c6
     refine zE ?_
     refine zB rfl ?_
     refine zA rfl rfl (qJ rfl rfl rfl) ?_
     refine zA rfl rfl (zC rfl rfl) ?_
     refine zH ?_
     refine zR rfl (fun c7 => ?_) (fun c7 => ?_)
     ·try simp only [sx, List.length_map] at c7
      refine zE ?_
      refine zB rfl ?_
      refine zA rfl rfl (zC rfl rfl) ?_
      refine zH ?_
      refine zS ?_
      repeat (first | refine zO ?_ | refine zM ?_)
      refine fin1 (rs_c rfl) ?_
      exact congrArg vI (by unfold nArgs; (repeat' split) <;> omega)
     ·try simp only [sx, List.length_map] at c7
      refine zT ?_
      refine zE ?_
      refine zB rfl ?_
      refine zA rfl rfl (zC rfl rfl) ?_
      refine zH ?_
      refine zS ?_
      repeat (first | refine zO ?_ | refine zM ?_)
      refine fin1 (rs_c rfl) ?_
      exact congrArg vI (by unfold nArgs; (repeat' split) <;> omega)
   ·try simp only [sx, List.length_map] at c4
    refine zE ?_
    refine zB rfl ?_
    refine zA rfl rfl (qJ rfl rfl rfl) ?_
    refine zA rfl rfl (zC rfl rfl) ?_
    refine zH ?_
    refine zR rfl (fun c5 => ?_) (fun c5 => ?_)
    ·try simp only [sx, List.length_map] at c5
     refine zT ?_
     refine zR rfl (fun c6 => ?_) (fun c6 => ?_)
     ·try simp only [sx, List.length_map] at c6
      refine zE ?_
      refine zB rfl ?_
      refine zA rfl rfl (zC rfl rfl) ?_
      refine zH ?_
      refine zS ?_
      repeat (first | refine zO ?_ | refine zM ?_)
      refine fin1 (rs_c rfl) ?_
      exact congrArg vI (by unfold nArgs; (repeat' split) <;> omega)
     ·try simp only [sx, List.length_map] at c6
      refine zE ?_
      refine zB rfl ?_
      refine zA rfl rfl (qJ rfl rfl rfl) ?_
      refine zA rfl rfl (zC rfl rfl) ?_
      refine zH ?_
      refine zR rfl (fun c7 => ?_) (fun c7 => ?_)
      ·try simp only [sx, List.length_map] at c7
       refine zE ?_
       refine zB rfl ?_
       refine zA rfl rfl (zC rfl rfl) ?_
       refine zH ?_
       refine zS ?_
       repeat (first | refine zO ?_ | refine zM ?_)
       refine fin1 (rs_c rfl) ?_
       exact congrArg vI (by unfold nArgs; (repeat' split) <;> omega)
      ·try simp only [sx, List.length_map] at c7
       refine zT ?_
       refine zE ?_
       refine zB rfl ?_
       refine zA rfl rfl (zC rfl rfl) ?_
       refine zH ?_
       refine zS ?_
       repeat (first | refine zO ?_ | refine zM ?_)
       refine fin1 (rs_c rfl) ?_
       exact congrArg vI (by unfold nArgs; (repeat' split) <;> omega)
    ·try simp only [sx, List.length_map] at c5
     refine zB rfl ?_
     refine zA rfl rfl (qJ rfl rfl rfl) ?_
     refine zA rfl rfl (zC rfl rfl) ?_
     refine zH ?_
     refine zR rfl (fun c6 => ?_) (fun c6 => ?_)
     ·try simp only [sx, List.length_map] at c6
      refine zE ?_
      refine zB rfl ?_
      refine zA rfl rfl (zC rfl rfl) ?_
      refine zH ?_
      refine zS ?_
      repeat (first | refine zO ?_ | refine zM ?_)
      refine fin1 (rs_c rfl) ?_
      exact congrArg vI (by unfold nArgs; (repeat' split) <;> omega)
     ·try simp only [sx, List.length_map] at c6
      refine zE ?_
      refine zB rfl ?_
      refine zA rfl rfl (qJ rfl rfl rfl) ?_
      refine zA rfl rfl (zC rfl rfl) ?_
      refine zH ?_
      refine zR rfl (fun c7 => ?_) (fun c7 => ?_)
      ·try simp only [sx, List.length_map] at c7
       refine zE ?_
       refine zB rfl ?_
       refine zA rfl rfl (zC rfl rfl) ?_
       refine zH ?_
       refine zS ?_
       repeat (first | refine zO ?_ | refine zM ?_)
       refine fin1 (rs_c rfl) ?_
       exact congrArg vI (by unfold nArgs; (repeat' split) <;> omega)
      ·try simp only [sx, List.length_map] at c7
       refine zT ?_
       refine zE ?_
       refine zB rfl ?_
       refine zA rfl rfl (zC rfl rfl) ?_
       refine zH ?_
       refine zS ?_
       repeat (first | refine zO ?_ | refine zM ?_)
       refine fin1 (rs_c rfl) ?_
       exact congrArg vI (by unfold nArgs; (repeat' split) <;> omega)
 ·try simp only [sx, List.length_map] at c1
  refine zE ?_
  refine zB rfl ?_
  refine zA rfl rfl (qJ rfl rfl rfl) ?_
  refine zA rfl rfl (zC rfl rfl) ?_
  refine zH ?_
  refine zR rfl (fun c2 => ?_) (fun c2 => ?_)
  ·try simp only [sx, List.length_map] at c2
   refine zT ?_
   refine zR rfl (fun c3 => ?_) (fun c3 => ?_)
   ·try simp only [sx, List.length_map] at c3
    refine zE ?_
    refine zB rfl ?_
    refine zA rfl rfl (zC rfl rfl) ?_
    refine zH ?_
    refine zS ?_
    repeat (first | refine zO ?_ | refine zM ?_)
    refine fin1 (rs_c rfl) ?_
    exact congrArg vI (by unfold nArgs; (repeat' split) <;> omega)
   ·try simp only [sx, List.length_map] at c3
    refine zE ?_
    refine zE ?_
    refine zB rfl ?_
    refine zA rfl rfl (qJ rfl rfl rfl) ?_
    refine zA rfl rfl (zC rfl rfl) ?_
    refine zH ?_
    refine zR rfl (fun c4 => ?_) (fun c4 => ?_)
    ·try simp only [sx, List.length_map] at c4
     refine zT ?_
     refine zR rfl (fun c6 => ?_) (fun c6 => ?_)
     ·try simp only [sx, List.length_map] at c6
      refine zE ?_
      refine zB rfl ?_
      refine zA rfl rfl (zC rfl rfl) ?_
      refine zH ?_
      refine zS ?_
      repeat (first | refine zO ?_ | refine zM ?_)
      refine fin1 (rs_c rfl) ?_
      exact congrArg vI (by unfold nArgs; (repeat' split) <;> omega)
     ·try simp only [sx, List.length_map] at c6
      refine zE ?_
      refine zB rfl ?_
      refine zA rfl rfl (qJ rfl rfl rfl) ?_
      refine zA rfl rfl (zC rfl rfl) ?_
      refine zH ?_
      refine zR rfl (fun c7 => ?_) (fun c7 => ?_)
      ·try simp only [sx, List.length_map] at c7
       refine zE ?_
       refine zB rfl ?_
       refine zA rfl rfl (zC rfl rfl) ?_
       refine zH ?_
       refine zS ?_
       repeat (first | refine zO ?_ | refine zM ?_)
       refine fin1 (rs_c rfl) ?_
       exact congrArg vI (by unfold nArgs; (repeat' split) <;> omega)
      ·try simp only [sx, List.length_map] at c7
       refine zT ?_
       refine zE ?_
       refine zB rfl ?_
       refine zA rfl rfl (zC rfl rfl) ?_
       refine zH ?_
       refine zS ?_
       repeat (first | refine zO ?_ | refine zM ?_)
       refine fin1 (rs_c rfl) ?_
       exact congrArg vI (by unfold nArgs; (repeat' split) <;> omega)
    ·try simp only [sx, List.length_map] at c4
     refine zE ?_
     refine zB rfl ?_
     refine zA rfl rfl (qJ rfl rfl rfl) ?_
     refine zA rfl rfl (zC rfl rfl) ?_
     refine zH ?_
     refine zR rfl (fun c5 => ?_) (fun c5 => ?_)
     ·try simp only [sx, List.length_map] at c5
      refine zT ?_
      refine zR rfl (fun c6 => ?_) (fun c6 => ?_)
      ·try simp only [sx, List.length_map] at c6
       refine zE ?_
       refine zB rfl ?_
       refine zA rfl rfl (zC rfl rfl) ?_
       refine zH ?_
       refine zS ?_
       repeat (first | refine zO ?_ | refine zM ?_)
       refine fin1 (rs_c rfl) ?_
       exact congrArg vI (by unfold nArgs; (repeat' split) <;> omega)
      ·try simp only [sx, List.length_map] at c6
       refine zE ?_
       refine zB rfl ?_
       refine zA rfl rfl (qJ rfl rfl rfl) ?_
       refine zA rfl rfl (zC rfl rfl) ?_
       refine zH ?_
       refine zR rfl (fun c7 => ?_) (fun c7 => ?_)
       ·try simp only [sx, List.length_map] at c7
        refine zE ?_
        refine zB rfl ?_
        refine zA rfl rfl (zC rfl rfl) ?_
        refine zH ?_
        refine zS ?_
        repeat (first | refine zO ?_ | refine zM ?_)
        refine fin1 (rs_c rfl) ?_
        exact congrArg vI (by unfold nArgs; (repeat' split) <;> omega)
       ·try simp only [sx, List.length_map] at c7
        refine zT ?_
        refine zE ?_
        refine zB rfl ?_
        refine zA rfl rfl (zC rfl rfl) ?_
        refine zH ?_
        refine zS ?_
        repeat (first | refine zO ?_ | refine zM ?_)
        refine fin1 (rs_c rfl) ?_
        exact congrArg vI (by unfold nArgs; (repeat' split) <;> omega)
     ·try simp only [sx, List.length_map] at c5
      refine zB rfl ?_
      refine zA rfl rfl (qJ rfl rfl rfl) ?_
      refine zA rfl rfl (zC rfl rfl) ?_
      refine zH ?_
      refine zR rfl (fun c6 => ?_) (fun c6 => ?_)
      ·try simp only [sx, List.length_map] at c6
       refine zE ?_
       refine zB rfl ?_
       refine zA rfl rfl (zC rfl rfl) ?_
       refine zH ?_
       refine zS ?_
       repeat (first | refine zO ?_ | refine zM ?_)
       refine fin1 (rs_c rfl) ?_
       exact congrArg vI (by unfold nArgs; (repeat' split) <;> omega)
      ·try simp only [sx, List.length_map] at c6
       refine zE ?_
       refine zB rfl ?_
       refine zA rfl rfl (qJ rfl rfl rfl) ?_
       refine zA rfl rfl (zC rfl rfl) ?_
       refine zH ?_
       refine zR rfl (fun c7 => ?_) (fun c7 => ?_)
       ·try simp only [sx, List.length_map] at c7
        refine zE ?_
        refine zB rfl ?_
        refine zA rfl rfl (zC rfl rfl) ?_
        refine zH ?_
        refine zS ?_
        repeat (first | refine zO ?_ | refine zM ?_)
        refine fin1 (rs_c rfl) ?_
        exact congrArg vI (by unfold nArgs; (repeat' split) <;> omega)
       ·try simp only [sx, List.length_map] at c7
        refine zT ?_
        refine zE ?_
        refine zB rfl ?_
        refine zA rfl rfl (zC rfl rfl) ?_
        refine zH ?_
        refine zS ?_
        repeat (first | refine zO ?_ | refine zM ?_)
        refine fin1 (rs_c rfl) ?_
        exact congrArg vI (by unfold nArgs; (repeat' split) <;> omega)
  ·try simp only [sx, List.length_map] at c2
   refine zB rfl ?_
   refine zA rfl rfl (qJ rfl rfl rfl) ?_
   refine zA rfl rfl (zC rfl rfl) ?_
   refine zH ?_
   refine zR rfl (fun c3 => ?_) (fun c3 => ?_)
   ·try simp only [sx, List.length_map] at c3
    refine zE ?_
    refine zB rfl ?_
    refine zA rfl rfl (zC rfl rfl) ?_
    refine zH ?_
    refine zS ?_
    repeat (first | refine zO ?_ | refine zM ?_)
    refine fin1 (rs_c rfl) ?_
    exact congrArg vI (by unfold nArgs; (repeat' split) <;> omega)
   ·try simp only [sx, List.length_map] at c3
    refine zE ?_
    refine zE ?_
    refine zB rfl ?_
    refine zA rfl rfl (qJ rfl rfl rfl) ?_
    refine zA rfl rfl (zC rfl rfl) ?_
    refine zH ?_
    refine zR rfl (fun c4 => ?_) (fun c4 => ?_)
    ·try simp only [sx, List.length_map] at c4
     refine zT ?_
     refine zR rfl (fun c6 => ?_) (fun c6 => ?_)
     ·try simp only [sx, List.length_map] at c6
      refine zE ?_
      refine zB rfl ?_
      refine zA rfl rfl (zC rfl rfl) ?_
      refine zH ?_
      refine zS ?_
      repeat (first | refine zO ?_ | refine zM ?_)
      refine fin1 (rs_c rfl) ?_
      exact congrArg vI (by unfold nArgs; (repeat' split) <;> omega)
     ·try simp only [sx, List.length_map] at c6
      refine zE ?_
      refine zB rfl ?_
      refine zA rfl rfl (qJ rfl rfl rfl) ?_
      refine zA rfl rfl (zC rfl rfl) ?_
      refine zH ?_
      refine zR rfl (fun c7 => ?_) (fun c7 => ?_)
      ·try simp only [sx, List.length_map] at c7
       refine zE ?_
       refine zB rfl ?_
       refine zA rfl rfl (zC rfl rfl) ?_
       refine zH ?_
       refine zS ?_
       repeat (first | refine zO ?_ | refine zM ?_)
       refine fin1 (rs_c rfl) ?_
       exact congrArg vI (by unfold nArgs; (repeat' split) <;> omega)
      ·try simp only [sx, List.length_map] at c7
       refine zT ?_
       refine zE ?_
       refine zB rfl ?_
       refine zA rfl rfl (zC rfl rfl) ?_
       refine zH ?_
       refine zS ?_
       repeat (first | refine zO ?_ | refine zM ?_)
       refine fin1 (rs_c rfl) ?_
       exact congrArg vI (by unfold nArgs; (repeat' split) <;> omega)
    ·try simp only [sx, List.length_map] at c4
     refine zE ?_
     refine zB rfl ?_
     refine zA rfl rfl (qJ rfl rfl rfl) ?_
     refine zA rfl rfl (zC rfl rfl) ?_
     refine zH ?_
     refine zR rfl (fun c5 => ?_) (fun c5 => ?_)
     ·try simp only [sx, List.length_map] at c5
      refine zT ?_
      refine zR rfl (fun c6 => ?_) (fun c6 => ?_)
      ·try simp only [sx, List.length_map] at c6
       refine zE ?_
       refine zB rfl ?_
       refine zA rfl rfl (zC rfl rfl) ?_
       refine zH ?_
       refine zS ?_
       repeat (first | refine zO ?_ | refine zM ?_)
       refine fin1 (rs_c rfl) ?_
       exact congrArg vI (by unfold nArgs; (repeat' split) <;> omega)
      ·try simp only [sx, List.length_map] at c6
       refine zE ?_
       refine zB rfl ?_
       refine zA rfl rfl (qJ rfl rfl rfl) ?_
       refine zA rfl rfl (zC rfl rfl) ?_
       refine zH ?_
       refine zR rfl (fun c7 => ?_) (fun c7 => ?_)
       ·try simp only [sx, List.length_map] at c7
        refine zE ?_
        refine zB rfl ?_
        refine zA rfl rfl (zC rfl rfl) ?_
        refine zH ?_
        refine zS ?_
        repeat (first | refine zO ?_ | refine zM ?_)
        refine fin1 (rs_c rfl) ?_
        exact congrArg vI (by unfold nArgs; (repeat' split) <;> omega)
       ·try simp only [sx, List.length_map] at c7
        refine zT ?_
        refine zE ?_
        refine zB rfl ?_
        refine zA rfl rfl (zC rfl rfl) ?_
        refine zH ?_
        refine zS ?_
        repeat (first | refine zO ?_ | refine zM ?_)
        refine fin1 (rs_c rfl) ?_
        exact congrArg vI (by unfold nArgs; (repeat' split) <;> omega)
     ·try simp only [sx, List.length_map] at c5
      refine zB rfl ?_
      refine zA rfl rfl (qJ rfl rfl rfl) ?_
      refine zA rfl rfl (zC rfl rfl) ?_
      refine zH ?_
      refine zR rfl (fun c6 => ?_) (fun c6 => ?_)
      ·try simp only [sx, List.length_map] at c6
       refine zE ?_
       refine zB rfl ?_
       refine zA rfl rfl (zC rfl rfl) ?_
       refine zH ?_
       refine zS ?_
       repeat (first | refine zO ?_ | refine zM ?_)
       refine fin1 (rs_c rfl) ?_
       exact congrArg vI (by unfold nArgs; (repeat' split) <;> omega)
      ·try simp only [sx, List.length_map] at c6
       refine zE ?_
       refine zB rfl ?_
       refine zA rfl rfl (qJ rfl rfl rfl) ?_
       refine zA rfl rfl (zC rfl rfl) ?_
       refine zH ?_
       refine zR rfl (fun c7 => ?_) (fun c7 => ?_)
       ·try simp only [sx, List.length_map] at c7
        refine zE ?_
        refine zB rfl ?_
        refine zA rfl rfl (zC rfl rfl) ?_
        refine zH ?_
        refine zS ?_
        repeat (first | refine zO ?_ | refine zM ?_)
        refine fin1 (rs_c rfl) ?_
        exact congrArg vI (by unfold nArgs; (repeat' split) <;> omega)
       ·try simp only [sx, List.length_map] at c7
        refine zT ?_
        refine zE ?_
        refine zB rfl ?_
        refine zA rfl rfl (zC rfl rfl) ?_
        refine zH ?_
        refine zS ?_
        repeat (first | refine zO ?_ | refine zM ?_)
        refine fin1 (rs_c rfl) ?_
        exact congrArg vI (by unfold nArgs; (repeat' split) <;> omega)

theorem expr_IsCondition (e : Ex) :
    Pur cfg 80 [vE e] (vB (isCond e)) := by
 refine zZ Tryz.func80 rfl Tryz.ntmps80 Tryz.results80 rfl ?_
 intro z hz
 refine zE ?_
 refine zB rfl ?_
 refine qC rfl rfl (qN rfl rfl) ?_
 rintro _ _ ⟨b1, rfl, rfl⟩
 refine zA rfl rfl (zC rfl rfl) ?_
 refine zH ?_
 refine zE ?_
 refine zB rfl ?_
 refine zA rfl rfl (zJ rfl yW rfl) ?_
 refine zA rfl rfl (zK rfl one3 rfl (zP 0 rfl) rfl) ?_
 refine zA rfl rfl (kQ rfl rfl rfl) ?_
 refine zA rfl rfl (zF rfl rfl) ?_
 refine zN [] rfl rfl rfl rfl gv1 trivial (fun g1_3 => zJ rfl yW rfl) rfl ?_
 refine zN [(7, _)] rfl rfl rfl rfl gv1 ⟨rfl, rfl, trivial⟩ (fun g1_3 => zK rfl one3 rfl (zP 0 rfl) rfl) rfl ?_
 refine zN [(8, _)] rfl rfl rfl rfl gv1 ⟨rfl, rfl, trivial⟩ (fun g1_3 => kQ rfl rfl rfl) rfl ?_
 refine zA rfl rfl (qM rfl rfl rfl (fun h => h) rfl) ?_
 refine zA rfl rfl (zC rfl rfl) ?_
 refine zH ?_
 refine zS ?_
 repeat (first | refine zO ?_ | refine zM ?_)
 refine fin1 (rs_c rfl) ?_
 exact rfl

theorem brocaderef14_args (op : Int) :
    Pur cfg 211 [vI op] (vI (nArgs op)) := by
 refine zZ Tryz.func211 rfl Tryz.ntmps211 Tryz.results211 rfl ?_
 intro z hz
 refine zE ?_
 refine zB rfl ?_
 refine zA rfl rfl (zC rfl rfl) ?_
 refine zH ?_
 refine zE ?_
 refine zE ?_
 refine zB rfl ?_
 refine zA rfl rfl (zF rfl rfl) ?_
 refine zH ?_
 refine qA ?_
 refine zE ?_
 refine zE ?_
 refine zB rfl ?_
 refine zA rfl rfl (qJ rfl rfl rfl) ?_
 refine zA rfl rfl (zC rfl rfl) ?_
 refine zH ?_
 refine zR rfl (fun c1 => ?_) (fun c1 => ?_)
 ·try simp only [sx, List.length_map] at c1
  refine zT ?_
  refine zR rfl (fun c3 => ?_) (fun c3 => ?_)
  ·try simp only [sx, List.length_map] at c3
   refine zE ?_
   refine zB rfl ?_
   refine zA rfl rfl (zC rfl rfl) ?_
   refine zH ?_
   refine zS ?_
   repeat (first | refine zO ?_ | refine zM ?_)
   refine fin1 (rs_c rfl) ?_
   exact congrArg vI (by unfold nArgs; (repeat' split) <;> omega)
  ·try simp only [sx, List.length_map] at c3
   refine zE ?_
   refine zE ?_
   refine zB rfl ?_
   refine zA rfl rfl (qJ rfl rfl rfl) ?_
   refine zA rfl rfl (zC rfl rfl) ?_
   refine zH ?_
   refine zR rfl (fun c4 => ?_) (fun c4 => ?_)
   ·try simp only [sx, List.length_map] at c4
    refine zT ?_
    refine zR rfl (fun c6 => ?_) (fun c6 => ?_)
    ·try simp only [sx, List.length_map] at c6
     refine zE ?_
     refine zB rfl ?_
     refine zA rfl rfl (zC rfl rfl) ?_
     refine zH ?_
     refine zS ?_
     repeat (first | refine zO ?_ | refine zM ?_)
     refine fin1 (rs_c rfl) ?_
     exact congrArg vI (by unfold nArgs; (repeat' split) <;> omega)
    ·try simp only [sx, List.length_map] at c6
     refine zE ?_
     refine zB rfl ?_
     refine zA rfl rfl (qJ rfl rfl rfl) ?_
     refine zA rfl rfl (zC rfl rfl) ?_
     refine zH ?_
     refine zR rfl (fun c7 => ?_) (fun c7 => ?_)
     ·try simp only [sx, List.length_map] at c7
      refine zE ?_
      refine zB rfl ?_
      refine zA rfl rfl (zC rfl rfl) ?_
      refine zH ?_
      refine zS ?_
      repeat (first | refine zO ?_ | refine zM ?_)
      refine fin1 (rs_c rfl) ?_
      exact congrArg vI (by unfold nArgs; (repeat' split) <;> omega)
     ·try simp only [sx, List.length_map] at c7
      refine zT ?_
      refine zE ?_
      refine zB rfl ?_
      refine zA rfl rfl (zC rfl rfl) ?_
      refine zH ?_
      refine zS ?_
      repeat (first | refine zO ?_ | refine zM ?_)
      refine fin1 (rs_c rfl) ?_
      exact congrArg vI (by unfold nArgs; (repeat' split) <;> omega)
   ·try simp only [sx, List.length_map] at c4
    refine zE ?_
    refine zB rfl ?_
    refine zA rfl rfl (qJ rfl rfl rfl) ?_
    refine zA rfl rfl (zC rfl rfl) ?_
    refine zH ?_
    refine zR rfl (fun c5 => ?_) (fun c5 => ?_)
    ·try simp only [sx, List.length_map] at c5
     refine zT ?_
     refine zR rfl (fun c6 => ?_) (fun c6 => ?_)
     ·try simp only [sx, List.length_map] at c6
      refine zE ?_
      refine zB rfl ?_
      refine zA rfl rfl (zC rfl rfl) ?_
      refine zH ?_
      refine zS ?_
      repeat (first | refine zO ?_ | refine zM ?_)
      refine fin1 (rs_c rfl) ?_
      exact congrArg vI (by unfold nArgs; (repeat' split) <;> omega)
     ·try simp only [sx, List.length_map] at c6
      refine zE ?_
      refine zB rfl ?_
      refine zA rfl rfl (qJ rfl rfl rfl) ?_
      refine zA rfl rfl (zC rfl rfl) ?_
      refine zH ?_
      refine zR rfl (fun c7 => ?_) (fun c7 => ?_)
      ·try simp only [sx, List.length_map] at c7
       refine zE ?_
       refine zB rfl ?_
       refine zA rfl rfl (zC rfl rfl) ?_
       refine zH ?_
       refine zS ?_
       repeat (first | refine zO ?_ | refine zM ?_)
       refine fin1 (rs_c rfl) ?_
       exact congrArg vI (by unfold nArgs; (repeat' split) <;> omega)
      ·try simp only [sx, List.length_map] at c7
       refine zT ?_
       refine zE ?_
       refine zB rfl ?_
       refine zA rfl rfl (zC rfl rfl) ?_
       refine zH ?_
       refine zS ?_
       repeat (first | refine zO ?_ | refine zM ?_)
       refine fin1 (rs_c rfl) ?_
       exact congrArg vI (by unfold nArgs; (repeat' split) <;> omega)
    ·try simp only [sx, List.length_map] at c5
     refine zB rfl ?_
     refine zA rfl rfl (qJ rfl rfl rfl) ?_
     refine zA rfl rfl (zC rfl rfl) ?_
     refine zH ?_
     refine zR rfl (fun c6 => ?_) (fun c6 => ?_)
     ·try simp only [sx, List.length_map] at c6
      refine zE ?_
      refine zB rfl ?_
      refine zA rfl rfl (zC rfl rfl) ?_
      refine zH ?_
      refine zS ?_
      repeat (first | refine zO ?_ | refine zM ?_)
      refine fin1 (rs_c rfl) ?_
      exact congrArg vI (by unfold nArgs; (repeat' split) <;> omega)
     ·try simp only [sx, List.length_map] at c6
      refine zE ?_
      refine zB rfl ?_
      refine zA rfl rfl (qJ rfl rfl rfl) ?_
      refine zA rfl rfl (zC rfl rfl) ?_
      refine zH ?_
      refine zR rfl (fun c7 => ?_) (fun c7 => ?_)
      ·try simp only [sx, List.length_map] at c7
       refine zE ?_
       refine zB rfl ?_
       refine zA rfl rfl (zC rfl rfl) ?_
       refine zH ?_
       refine zS ?_
       repeat (first | refine zO ?_ | refine zM ?_)
       refine fin1 (rs_c rfl) ?_
       exact congrArg vI (by unfold nArgs; (repeat' split) <;> omega)
      ·try simp only [sx, List.length_map] at c7
       refine zT ?_
       refine zE ?_
       refine zB rfl ?_
       refine zA rfl rfl (zC rfl rfl) ?_
       refine zH ?_
       refine zS ?_
       repeat (first | refine zO ?_ | refine zM ?_)
       refine fin1 (rs_c rfl) ?_
       exact congrArg vI (by unfold nArgs; (repeat' split) <;> omega)
 ·try simp only [sx, List.length_map] at c1
  refine zE ?_
  refine zB rfl ?_
  refine zA rfl rfl (qJ rfl rfl rfl) ?_
  refine zA rfl rfl (zC rfl rfl) ?_
  refine zH ?_
  refine zR rfl (fun c2 => ?_) (fun c2 => ?_)
  ·try simp only [sx, List.length_map] at c2
   refine zT ?_
   refine zR rfl (fun c3 => ?_) (fun c3 => ?_)
   ·try simp only [sx, List.length_map] at c3
    refine zE ?_
    refine zB rfl ?_
    refine zA rfl rfl (zC rfl rfl) ?_
    refine zH ?_
    refine zS ?_
    repeat (first | refine zO ?_ | refine zM ?_)
    refine fin1 (rs_c rfl) ?_
    exact congrArg vI (by unfold nArgs; (repeat' split) <;> omega)
   ·try simp only [sx, List.length_map] at c3
    refine zE ?_
    refine zE ?_
    refine zB rfl ?_
    refine zA rfl rfl (qJ rfl rfl rfl) ?_
    refine zA rfl rfl (zC rfl rfl) ?_
    refine zH ?_
    refine zR rfl (fun c4 => ?_) (fun c4 => ?_)
    ·try simp only [sx, List.length_map] at c4
     refine zT ?_
     refine zR rfl (fun c6 => ?_) (fun c6 => ?_)
     ·try simp only [sx, List.length_map] at c6
      refine zE ?_
      refine zB rfl ?_
      refine zA rfl rfl (zC rfl rfl) ?_
      refine zH ?_
      refine zS ?_
      repeat (first | refine zO ?_ | refine zM ?_)
      refine fin1 (rs_c rfl) ?_
      exact congrArg vI (by unfold nArgs; (repeat' split) <;> omega)
     ·try simp only [sx, List.length_map] at c6
      refine zE ?_
      refine zB rfl ?_
      refine zA rfl rfl (qJ rfl rfl rfl) ?_
      refine zA rfl rfl (zC rfl rfl) ?_
      refine zH ?_
      refine zR rfl (fun c7 => ?_) (fun c7 => ?_)
      ·try simp only [sx, List.length_map] at c7
       refine zE ?_
       refine zB rfl ?_
       refine zA rfl rfl (zC rfl rfl) ?_
       refine zH ?_
       refine zS ?_
       repeat (first | refine zO ?_ | refine zM ?_)
       refine fin1 (rs_c rfl) ?_
       exact congrArg vI (by unfold nArgs; (repeat' split) <;> omega)
      ·try simp only [sx, List.length_map] at c7
       refine zT ?_
       refine zE ?_
       refine zB rfl ?_
       refine zA rfl rfl (zC rfl rfl) ?_
       refine zH ?_
       refine zS ?_
       repeat (first | refine zO ?_ | refine zM ?_)
       refine fin1 (rs_c rfl) ?_
       exact congrArg vI (by unfold nArgs; (repeat' split) <;> omega)
    ·try simp only [sx, List.length_map] at c4
     refine zE ?_
     refine zB rfl ?_
     refine zA rfl rfl (qJ rfl rfl rfl) ?_
     refine zA rfl rfl (zC rfl rfl) ?_
     refine zH ?_
     refine zR rfl (fun c5 => ?_) (fun c5 => ?_)
     ·try simp only [sx, List.length_map] at c5
      refine zT ?_
      refine zR rfl (fun c6 => ?_) (fun c6 => ?_)
      ·try simp only [sx, List.length_map] at c6
       refine zE ?_
       refine zB rfl ?_
       refine zA rfl rfl (zC rfl rfl) ?_
       refine zH ?_
       refine zS ?_
       repeat (first | refine zO ?_ | refine zM ?_)
       refine fin1 (rs_c rfl) ?_
       exact congrArg vI (by unfold nArgs; (repeat' split) <;> omega)
      ·try simp only [sx, List.length_map] at c6
       refine zE ?_
       refine zB rfl ?_
       refine zA rfl rfl (qJ rfl rfl rfl) ?_
       refine zA rfl rfl (zC rfl rfl) ?_
       refine zH ?_
       refine zR rfl (fun c7 => ?_) (fun c7 => ?_)
       ·try simp only [sx, List.length_map] at c7
        refine zE ?_
        refine zB rfl ?_
        refine zA rfl rfl (zC rfl rfl) ?_
        refine zH ?_
        refine zS ?_
        repeat (first | refine zO ?_ | refine zM ?_)
        refine fin1 (rs_c rfl) ?_
        exact congrArg vI (by unfold nArgs; (repeat' split) <;> omega)
       ·try simp only [sx, List.length_map] at c7
        refine zT ?_
        refine zE ?_
        refine zB rfl ?_
        refine zA rfl rfl (zC rfl rfl) ?_
        refine zH ?_
        refine zS ?_
        repeat (first | refine zO ?_ | refine zM ?_)
        refine fin1 (rs_c rfl) ?_
        exact congrArg vI (by unfold nArgs; (repeat' split) <;> omega)
     ·try simp only [sx, List.length_map] at c5
      refine zB rfl ?_
      refine zA rfl rfl (qJ rfl rfl rfl) ?_
      refine zA rfl rfl (zC rfl rfl) ?_
      refine zH ?_
      refine zR rfl (fun c6 => ?_) (fun c6 => ?_)
      ·try simp only [sx, List.length_map] at c6
       refine zE ?_
       refine zB rfl ?_
       refine zA rfl rfl (zC rfl rfl) ?_
       refine zH ?_
       refine zS ?_
       repeat (first | refine zO ?_ | refine zM ?_)
       refine fin1 (rs_c rfl) ?_
       exact congrArg vI (by unfold nArgs; (repeat' split) <;> omega)
      ·try simp only [sx, List.length_map] at c6
       refine zE ?_
       refine zB rfl ?_
       refine zA rfl rfl (qJ rfl rfl rfl) ?_
       refine zA rfl rfl (zC rfl rfl) ?_
       refine zH ?_
       refine zR rfl (fun c7 => ?_) (fun c7 => ?_)
       ·try simp only [sx, List.length_map] at c7
        refine zE ?_
        refine zB rfl ?_
        refine zA rfl rfl (zC rfl rfl) ?_
        refine zH ?_
        refine zS ?_
        repeat (first | refine zO ?_ | refine zM ?_)
        refine fin1 (rs_c rfl) ?_
        exact congrArg vI (by unfold nArgs; (repeat' split) <;> omega)
       ·try simp only [sx, List.length_map] at c7
        refine zT ?_
        refine zE ?_
        refine zB rfl ?_
        refine zA rfl rfl (zC rfl rfl) ?_
        refine zH ?_
        refine zS ?_
        repeat (first | refine zO ?_ | refine zM ?_)
        refine fin1 (rs_c rfl) ?_
        exact congrArg vI (by unfold nArgs; (repeat' split) <;> omega)
  ·try simp only [sx, List.length_map] at c2
   refine zB rfl ?_
   refine zA rfl rfl (qJ rfl rfl rfl) ?_
   refine zA rfl rfl (zC rfl rfl) ?_
   refine zH ?_
   refine zR rfl (fun c3 => ?_) (fun c3 => ?_)
   ·try simp only [sx, List.length_map] at c3
    refine zE ?_
    refine zB rfl ?_
    refine zA rfl rfl (zC rfl rfl) ?_
    refine zH ?_
    refine zS ?_
    repeat (first | refine zO ?_ | refine zM ?_)
    refine fin1 (rs_c rfl) ?_
    exact congrArg vI (by unfold nArgs; (repeat' split) <;> omega)
   ·try simp only [sx, List.length_map] at c3
    refine zE ?_
    refine zE ?_
    refine zB rfl ?_
    refine zA rfl rfl (qJ rfl rfl rfl) ?_
    refine zA rfl rfl (zC rfl rfl) ?_
    refine zH ?_
    refine zR rfl (fun c4 => ?_) (fun c4 => ?_)
    ·try simp only [sx, List.length_map] at c4
     refine zT ?_
     refine zR rfl (fun c6 => ?_) (fun c6 => ?_)
     ·try simp only [sx, List.length_map] at c6
      refine zE ?_
      refine zB rfl ?_
      refine zA rfl rfl (zC rfl rfl) ?_
      refine zH ?_
      refine zS ?_
      repeat (first | refine zO ?_ | refine zM ?_)
      refine fin1 (rs_c rfl) ?_
      exact congrArg vI (by unfold nArgs; (repeat' split) <;> omega)
     ·try simp only [sx, List.length_map] at c6
      refine zE ?_
      refine zB rfl ?_
      refine zA rfl rfl (qJ rfl rfl rfl) ?_
      refine zA rfl rfl (zC rfl rfl) ?_
      refine zH ?_
      refine zR rfl (fun c7 => ?_) (fun c7 => ?_)
      ·try simp only [sx, List.length_map] at c7
       refine zE ?_
       refine zB rfl ?_
       refine zA rfl rfl (zC rfl rfl) ?_
       refine zH ?_
       refine zS ?_
       repeat (first | refine zO ?_ | refine zM ?_)
       refine fin1 (rs_c rfl) ?_
       exact congrArg vI (by unfold nArgs; (repeat' split) <;> omega)
      ·try simp only [sx, List.length_map] at c7
       refine zT ?_
       refine zE ?_
       refine zB rfl ?_
       refine zA rfl rfl (zC rfl rfl) ?_
       refine zH ?_
       refine zS ?_
       repeat (first | refine zO ?_ | refine zM ?_)
       refine fin1 (rs_c rfl) ?_
       exact congrArg vI (by unfold nArgs; (repeat' split) <;> omega)
    ·try simp only [sx, List.length_map] at c4
     refine zE ?_
     refine zB rfl ?_
     refine zA rfl rfl (qJ rfl rfl rfl) ?_
     refine zA rfl rfl (zC rfl rfl) ?_
     refine zH ?_
     refine zR rfl (fun c5 => ?_) (fun c5 => ?_)
     ·try simp only [sx, List.length_map] at c5
      refine zT ?_
      refine zR rfl (fun c6 => ?_) (fun c6 => ?_)
      ·try simp only [sx, List.length_map] at c6
       refine zE ?_
       refine zB rfl ?_
       refine zA rfl rfl (zC rfl rfl) ?_
       refine zH ?_
       refine zS ?_
       repeat (first | refine zO ?_ | refine zM ?_)
       refine fin1 (rs_c rfl) ?_
       exact congrArg vI (by unfold nArgs; (repeat' split) <;> omega)
      ·try simp only [sx, List.length_map] at c6
       refine zE ?_
       refine zB rfl ?_
       refine zA rfl rfl (qJ rfl rfl rfl) ?_
       refine zA rfl rfl (zC rfl rfl) ?_
       refine zH ?_
       refine zR rfl (fun c7 => ?_) (fun c7 => ?_)
       ·try simp only [sx, List.length_map] at c7
        refine zE ?_
        refine zB rfl ?_
        refine zA rfl rfl (zC rfl rfl) ?_
        refine zH ?_
        refine zS ?_
        repeat (first | refine zO ?_ | refine zM ?_)
        refine fin1 (rs_c rfl) ?_
        exact congrArg vI (by unfold nArgs; (repeat' split) <;> omega)
       ·try simp only [sx, List.length_map] at c7
        refine zT ?_
        refine zE ?_
        refine zB rfl ?_
        refine zA rfl rfl (zC rfl rfl) ?_
        refine zH ?_
        refine zS ?_
        repeat (first | refine zO ?_ | refine zM ?_)
        refine fin1 (rs_c rfl) ?_
        exact congrArg vI (by unfold nArgs; (repeat' split) <;> omega)
     ·try simp only [sx, List.length_map] at c5
      refine zB rfl ?_
      refine zA rfl rfl (qJ rfl rfl rfl) ?_
      refine zA rfl rfl (zC rfl rfl) ?_
      refine zH ?_
      refine zR rfl (fun c6 => ?_) (fun c6 => ?_)
      ·try simp only [sx, List.length_map] at c6
       refine zE ?_
       refine zB rfl ?_
       refine zA rfl rfl (zC rfl rfl) ?_
       refine zH ?_
       refine zS ?_
       repeat (first | refine zO ?_ | refine zM ?_)
       refine fin1 (rs_c rfl) ?_
       exact congrArg vI (by unfold nArgs; (repeat' split) <;> omega)
      ·try simp only [sx, List.length_map] at c6
       refine zE ?_
       refine zB rfl ?_
       refine zA rfl rfl (qJ rfl rfl rfl) ?_
       refine zA rfl rfl (zC rfl rfl) ?_
       refine zH ?_
       refine zR rfl (fun c7 => ?_) (fun c7 => ?_)
       ·try simp only [sx, List.length_map] at c7
        refine zE ?_
        refine zB rfl ?_
        refine zA rfl rfl (zC rfl rfl) ?_
        refine zH ?_
        refine zS ?_
        repeat (first | refine zO ?_ | refine zM ?_)
        refine fin1 (rs_c rfl) ?_
        exact congrArg vI (by unfold nArgs; (repeat' split) <;> omega)
       ·try simp only [sx, List.length_map] at c7
        refine zT ?_
        refine zE ?_
        refine zB rfl ?_
        refine zA rfl rfl (zC rfl rfl) ?_
        refine zH ?_
        refine zS ?_
        repeat (first | refine zO ?_ | refine zM ?_)
        refine fin1 (rs_c rfl) ?_
        exact congrArg vI (by unfold nArgs; (repeat' split) <;> omega)

theorem brocaderef14_IsCondition (e : Ex) :
    Pur cfg 201 [vE e] (vB (isCond e)) := by
 refine zZ Tryz.func201 rfl Tryz.ntmps201 Tryz.results201 rfl ?_
 intro z hz
 refine zE ?_
 refine zB rfl ?_
 refine qC rfl rfl (qN rfl rfl) ?_
 rintro _ _ ⟨b1, rfl, rfl⟩
 refine zA rfl rfl (zC rfl rfl) ?_
 refine zH ?_
 refine zE ?_
 refine zB rfl ?_
 refine zA rfl rfl (zJ rfl yW rfl) ?_
 refine zA rfl rfl (zK rfl one3 rfl (zP 0 rfl) rfl) ?_
 refine zA rfl rfl (kR rfl rfl rfl) ?_
 refine zA rfl rfl (zF rfl rfl) ?_
 refine zN [] rfl rfl rfl rfl gv1 trivial (fun g1_3 => zJ rfl yW rfl) rfl ?_
 refine zN [(7, _)] rfl rfl rfl rfl gv1 ⟨rfl, rfl, trivial⟩ (fun g1_3 => zK rfl one3 rfl (zP 0 rfl) rfl) rfl ?_
 refine zN [(8, _)] rfl rfl rfl rfl gv1 ⟨rfl, rfl, trivial⟩ (fun g1_3 => kQ rfl rfl rfl) rfl ?_
 refine zA rfl rfl (qM rfl rfl rfl (fun h => h) rfl) ?_
 refine zA rfl rfl (zC rfl rfl) ?_
 refine zH ?_
 refine zS ?_
 repeat (first | refine zO ?_ | refine zM ?_)
 refine fin1 (rs_c rfl) ?_
 exact rfl

theorem expr_requiresCondition (op i : Int) :
    Pur cfg 223 [vI op, vI i] (vB (wantC op i)) := by
 refine zZ Tryz.func223 rfl Tryz.ntmps223 Tryz.results223 rfl ?_
 intro z hz
 refine zE ?_
 refine zB rfl ?_
 refine zA rfl rfl (zC rfl rfl) ?_
 refine zH ?_
 refine zE ?_
 refine zE ?_
 refine zB rfl ?_
 refine zA rfl rfl (zF rfl rfl) ?_
 refine zH ?_
 refine qA ?_
 refine zE ?_
 refine zE ?_
 refine zB rfl ?_
 refine zA rfl rfl (qJ rfl rfl rfl) ?_
 refine zA rfl rfl (zC rfl rfl) ?_
 refine zH ?_
 refine zR rfl (fun c1 => ?_) (fun c1 => ?_)
 ·try simp only [sx, List.length_map] at c1
  refine zT ?_
  refine zR rfl (fun c3 => ?_) (fun c3 => ?_)
  ·try simp only [sx, List.length_map] at c3
   refine zE ?_
   refine zB rfl ?_
   refine zA rfl rfl (zC rfl rfl) ?_
   refine zH ?_
   refine zS ?_
   repeat (first | refine zO ?_ | refine zM ?_)
   refine fin1 (rs_c rfl) ?_
   exact congrArg vB (by unfold wantC; first | (exfalso; omega) | (simp [*]; done) | (rw [Bool.eq_iff_iff]; simp only [Bool.or_eq_true, Bool.and_eq_true, decide_eq_true_eq]; omega))
  ·try simp only [sx, List.length_map] at c3
   refine zT ?_
   refine zE ?_
   refine zB rfl ?_
   refine zA rfl rfl (zF rfl rfl) ?_
   refine zA rfl rfl (qJ rfl rfl rfl) ?_
   refine zA rfl rfl (zF rfl rfl) ?_
   refine zN [] rfl rfl rfl rfl gv1 trivial (fun g6_2 => zF rfl rfl) rfl ?_
   refine zN [(13, _)] rfl rfl rfl rfl gv1 ⟨rfl, rfl, trivial⟩ (fun g6_2 => qJ rfl rfl rfl) rfl ?_
   refine zA rfl rfl (qM rfl rfl rfl (fun h => h) rfl) ?_
   refine zA rfl rfl (zC rfl rfl) ?_
   refine zH ?_
   refine zS ?_
   repeat (first | refine zO ?_ | refine zM ?_)
   refine fin1 (rs_c rfl) ?_
   exact congrArg vB (by unfold wantC; first | (exfalso; omega) | (simp [*]; done) | (rw [Bool.eq_iff_iff]; simp only [Bool.or_eq_true, Bool.and_eq_true, decide_eq_true_eq]; omega))
 ·try simp only [sx, List.length_map] at c1
  refine zE ?_
  refine zB rfl ?_
  refine zA rfl rfl (qJ rfl rfl rfl) ?_
  refine zA rfl rfl (zC rfl rfl) ?_
  refine zH ?_
  refine zR rfl (fun c2 => ?_) (fun c2 => ?_)
  ·try simp only [sx, List.length_map] at c2
   refine zT ?_
   refine zR rfl (fun c3 => ?_) (fun c3 => ?_)
   ·try simp only [sx, List.length_map] at c3
    refine zE ?_
    refine zB rfl ?_
    refine zA rfl rfl (zC rfl rfl) ?_
    refine zH ?_
    refine zS ?_
    repeat (first | refine zO ?_ | refine zM ?_)
    refine fin1 (rs_c rfl) ?_
    exact congrArg vB (by unfold wantC; first | (exfalso; omega) | (simp [*]; done) | (rw [Bool.eq_iff_iff]; simp only [Bool.or_eq_true, Bool.and_eq_true, decide_eq_true_eq]; omega))
   ·try simp only [sx, List.length_map] at c3
    refine zT ?_
    refine zE ?_
    refine zB rfl ?_
    refine zA rfl rfl (zF rfl rfl) ?_
    refine zA rfl rfl (qJ rfl rfl rfl) ?_
    refine zA rfl rfl (zF rfl rfl) ?_
    refine zN [] rfl rfl rfl rfl gv1 trivial (fun g6_2 => zF rfl rfl) rfl ?_
    refine zN [(13, _)] rfl rfl rfl rfl gv1 ⟨rfl, rfl, trivial⟩ (fun g6_2 => qJ rfl rfl rfl) rfl ?_
    refine zA rfl rfl (qM rfl rfl rfl (fun h => h) rfl) ?_
    refine zA rfl rfl (zC rfl rfl) ?_
    refine zH ?_
    refine zS ?_
    repeat (first | refine zO ?_ | refine zM ?_)
    refine fin1 (rs_c rfl) ?_
    exact congrArg vB (by unfold wantC; first | (exfalso; omega) | (simp [*]; done) | (rw [Bool.eq_iff_iff]; simp only [Bool.or_eq_true, Bool.and_eq_true, decide_eq_true_eq]; omega))
  ·try simp only [sx, List.length_map] at c2
   refine zB rfl ?_
   refine zA rfl rfl (qJ rfl rfl rfl) ?_
   refine zA rfl rfl (zC rfl rfl) ?_
   refine zH ?_
   refine zR rfl (fun c3 => ?_) (fun c3 => ?_)
   ·try simp only [sx, List.length_map] at c3
    refine zE ?_
    refine zB rfl ?_
    refine zA rfl rfl (zC rfl rfl) ?_
    refine zH ?_
    refine zS ?_
    repeat (first | refine zO ?_ | refine zM ?_)
    refine fin1 (rs_c rfl) ?_
    exact congrArg vB (by unfold wantC; first | (exfalso; omega) | (simp [*]; done) | (rw [Bool.eq_iff_iff]; simp only [Bool.or_eq_true, Bool.and_eq_true, decide_eq_true_eq]; omega))
   ·try simp only [sx, List.length_map] at c3
    refine zT ?_
    refine zE ?_
    refine zB rfl ?_
    refine zA rfl rfl (zF rfl rfl) ?_
    refine zA rfl rfl (qJ rfl rfl rfl) ?_
    refine zA rfl rfl (zF rfl rfl) ?_
    refine zN [] rfl rfl rfl rfl gv1 trivial (fun g6_2 => zF rfl rfl) rfl ?_
    refine zN [(13, _)] rfl rfl rfl rfl gv1 ⟨rfl, rfl, trivial⟩ (fun g6_2 => qJ rfl rfl rfl) rfl ?_
    refine zA rfl rfl (qM rfl rfl rfl (fun h => h) rfl) ?_
    refine zA rfl rfl (zC rfl rfl) ?_
    refine zH ?_
    refine zS ?_
    repeat (first | refine zO ?_ | refine zM ?_)
    refine fin1 (rs_c rfl) ?_
    exact congrArg vB (by unfold wantC; first | (exfalso; omega) | (simp [*]; done) | (rw [Bool.eq_iff_iff]; simp only [Bool.or_eq_true, Bool.and_eq_true, decide_eq_true_eq]; omega))

theorem ref14_wants (op i : Int) :
    Pur cfg 212 [vI op, vI i] (vB (wantC op i)) := by
 refine zZ Tryz.func212 rfl Tryz.ntmps212 Tryz.results212 rfl ?_
 intro z hz
 refine zE ?_
 refine zB rfl ?_
 refine zA rfl rfl (zC rfl rfl) ?_
 refine zH ?_
 refine zE ?_
 refine zB rfl ?_
 refine zA rfl rfl (zF rfl rfl) ?_
 refine zA rfl rfl (qJ rfl rfl rfl) ?_
 refine zA rfl rfl (zF rfl rfl) ?_
 refine zN [] rfl rfl rfl rfl gv1 trivial (fun g1_2 => zF rfl rfl) rfl ?_
 refine zN [(8, _)] rfl rfl rfl rfl gv1 ⟨rfl, rfl, trivial⟩ (fun g1_2 => qJ rfl rfl rfl) rfl ?_
 refine zA rfl rfl (qM rfl rfl rfl (fun h => h) rfl) ?_
 refine zA rfl rfl (zF rfl rfl) ?_
 refine zN [] rfl rfl rfl rfl gv1 trivial (fun g1_6 => zF rfl rfl) rfl ?_
 refine zN [(12, _)] rfl rfl rfl rfl gv1 ⟨rfl, rfl, trivial⟩ (fun g1_6 => qJ rfl rfl rfl) rfl ?_
 refine zA rfl rfl (yD rfl rfl rfl rfl (fun h => (lzf h))) ?_
 refine zA rfl rfl (zF rfl rfl) ?_
 refine zN [] rfl rfl rfl rfl gv1 trivial (fun g1_10 => zF rfl rfl) rfl ?_
 refine zN [(16, _)] rfl rfl rfl rfl gv1 ⟨rfl, rfl, trivial⟩ (fun g1_10 => qJ rfl rfl rfl) rfl ?_
 refine zA rfl rfl (yD rfl rfl rfl rfl (fun h => (lzf h))) ?_
 refine zA rfl rfl (zF rfl rfl) ?_
 refine zN [] rfl rfl rfl rfl gv1 trivial (fun g1_14 => zF rfl rfl) rfl ?_
 refine zN [(20, _)] rfl rfl rfl rfl gv1 ⟨rfl, rfl, trivial⟩ (fun g1_14 => qJ rfl rfl rfl) rfl ?_
 refine zA rfl rfl (yD rfl rfl rfl rfl (fun h => (lzf h))) ?_
 refine zA rfl rfl (zC rfl rfl) ?_
 refine zH ?_
 refine zS ?_
 repeat (first | refine zO ?_ | refine zM ?_)
 refine fin1 (rs_c rfl) ?_
 exact rfl

theorem expr_isZero (l : Lf) :
    Pur cfg 216 [vLin l] (vB (zeroL l)) := by
 refine zZ Tryz.func216 rfl Tryz.ntmps216 Tryz.results216 rfl ?_
 intro z hz
 refine zE ?_
 refine zB rfl ?_
 refine qC rfl rfl (qN rfl rfl) ?_
 rintro _ _ ⟨b1, rfl, rfl⟩
 refine zA rfl rfl (zC rfl rfl) ?_
 refine zH ?_
 refine zE ?_
 refine zB rfl ?_
 refine zA rfl rfl (zJ rfl fd29_0 rfl) ?_
 refine zA rfl rfl (zK rfl one2 rfl (zP 0 rfl) rfl) ?_
 refine zA rfl rfl (qJ rfl rfl rfl) ?_
 refine zA rfl rfl (zF rfl rfl) ?_
 refine zN [] rfl rfl rfl rfl gv1 trivial (fun g1_3 => zJ rfl yI rfl) rfl ?_
 refine zN [(7, _)] rfl rfl rfl rfl gv1 ⟨rfl, rfl, trivial⟩ (fun g1_3 => zK rfl kH rfl (zP 0 rfl) rfl) rfl ?_
 refine zN [(8, _)] rfl rfl rfl rfl gv1 ⟨rfl, rfl, trivial⟩ (fun g1_3 => qB rfl el27 rfl) rfl ?_
 refine zN [(9, _)] rfl rfl rfl rfl gv1 ⟨rfl, rfl, trivial⟩ (fun g1_3 => qJ rfl rfl rfl) rfl ?_
 refine zA rfl rfl (qM rfl rfl rfl (fun h => h) rfl) ?_
 refine zA rfl rfl (zC rfl rfl) ?_
 refine zH ?_
 refine zS ?_
 repeat (first | refine zO ?_ | refine zM ?_)
 refine fin1 (rs_c rfl) ?_
 exact rfl

theorem expr_wellFormed (x : Ix) :
    Pur cfg 219 [vIndex x] (vB (wellIx x)) := by
 refine zZ Tryz.func219 rfl Tryz.ntmps219 Tryz.results219 rfl ?_
 intro z hz
 refine zE ?_
 refine zB rfl ?_
 refine qC rfl rfl (qN rfl rfl) ?_
 rintro _ _ ⟨b1, rfl, rfl⟩
 refine zA rfl rfl (zC rfl rfl) ?_
 refine zH ?_
 refine zE ?_
 refine zE ?_
 refine zB rfl ?_
 refine zA rfl rfl (zJ rfl fd117_1 rfl) ?_
 refine zA rfl rfl (zK rfl one9 rfl (zP 0 rfl) rfl) ?_
 refine zA rfl rfl (yJ rfl rfl rfl) ?_
 refine zH ?_
 refine zR rfl (fun c1 => ?_) (fun c1 => ?_)
 ·try simp only [sx, List.length_map] at c1
  refine zE ?_
  refine zB rfl ?_
  refine zA rfl rfl (zJ rfl kZ rfl) ?_
  refine zA rfl rfl (zK rfl one104 rfl (zP 0 rfl) rfl) ?_
  refine zA rfl rfl (qB rfl el104 rfl) ?_
  refine zA rfl rfl (qJ rfl rfl rfl) ?_
  refine zA rfl rfl (zC rfl rfl) ?_
  refine zH ?_
  refine zS ?_
  repeat (first | refine zO ?_ | refine zM ?_)
  refine fin1 (rs_c rfl) ?_
  rw [wellIx, kG c1]; rfl
 ·try simp only [sx, List.length_map] at c1
  refine zT ?_
  refine zE ?_
  refine zB rfl ?_
  refine zA rfl rfl (zJ rfl fd117_0 rfl) ?_
  refine zA rfl rfl (zQ rfl yB rfl (zP 0 rfl) rfl) ?_
  refine zA rfl rfl (zW rfl ok216 (expr_isZero x.Lin) ⟨VLe.refl _, rfl, trivial⟩) ?_
  refine zA rfl rfl (zC rfl rfl) ?_
  refine zH ?_
  refine zS ?_
  repeat (first | refine zO ?_ | refine zM ?_)
  refine fin1 (rs_c rfl) ?_
  rw [wellIx, qZ c1]; rfl

theorem expr_syntax_1 (x : Ix) :
    Pur cfg 218 [vIndex x] (vB (!wellIx x)) := by
 refine zZ Tryz.func218 rfl Tryz.ntmps218 Tryz.results218 rfl ?_
 intro z hz
 refine zE ?_
 refine zB rfl ?_
 refine qC rfl rfl (qN rfl rfl) ?_
 rintro _ _ ⟨b1, rfl, rfl⟩
 refine zA rfl rfl (zC rfl rfl) ?_
 refine zH ?_
 refine zE ?_
 refine zB rfl ?_
 refine zA rfl rfl (zQ rfl agg117 rfl (zP 0 rfl) rfl) ?_
 refine zA rfl rfl (zW rfl ok219 (expr_wellFormed x) ⟨VLe.refl _, rfl, trivial⟩) ?_
 refine zA rfl rfl (qY rfl rfl) ?_
 refine zA rfl rfl (zC rfl rfl) ?_
 refine zH ?_
 refine zS ?_
 repeat (first | refine zO ?_ | refine zM ?_)
 refine fin1 (rs_c rfl) ?_
 exact rfl

theorem expr_names_1 (x : Ix) :
    Pur cfg 220 [vIndex x] (vB (!nmIx x)) := by
 refine zZ Tryz.func220 rfl Tryz.ntmps220 Tryz.results220 rfl ?_
 intro z hz
 refine zE ?_
 refine zB rfl ?_
 refine qC rfl rfl (qN rfl rfl) ?_
 rintro _ _ ⟨b1, rfl, rfl⟩
 refine zA rfl rfl (zC rfl rfl) ?_
 refine zH ?_
 refine zE ?_
 refine zB rfl ?_
 refine zA rfl rfl (zJ rfl fd117_1 rfl) ?_
 refine zA rfl rfl (zK rfl one9 rfl (zP 0 rfl) rfl) ?_
 refine zA rfl rfl (det_sneq rfl rfl rfl) ?_
 refine zA rfl rfl (zF rfl rfl) ?_
 refine zN [] rfl rfl rfl rfl gv1 trivial (fun g1_3 => zJ rfl fd117_1 rfl) rfl ?_
 refine zN [(7, _)] rfl rfl rfl rfl gv1 ⟨rfl, rfl, trivial⟩ (fun g1_3 => zK rfl one9 rfl (zP 0 rfl) rfl) rfl ?_
 refine zN [(8, _)] rfl rfl rfl rfl gv1 ⟨rfl, rfl, trivial⟩ (fun g1_3 => zW rfl ok192 (lexer_IsName _) ⟨VLe.refl _, rfl, trivial⟩) rfl ?_
 refine zN [(9, _)] rfl rfl rfl rfl gv1 ⟨rfl, rfl, trivial⟩ (fun g1_3 => qY rfl rfl) rfl ?_
 refine zA rfl rfl (qM rfl rfl rfl (fun h => h) rfl) ?_
 refine zA rfl rfl (zC rfl rfl) ?_
 refine zH ?_
 refine zS ?_
 repeat (first | refine zO ?_ | refine zM ?_)
 refine fin1 (rs_c rfl) ?_
 exact congrArg vB (by unfold nmIx; simp)

theorem expr_rank_1 (x : Ix) :
    Pur cfg 222 [vIndex x] (vB (!rkIx x)) := by
 refine zZ Tryz.func222 rfl Tryz.ntmps222 Tryz.results222 rfl ?_
 intro z hz
 refine zE ?_
 refine zB rfl ?_
 refine qC rfl rfl (qN rfl rfl) ?_
 rintro _ _ ⟨b1, rfl, rfl⟩
 refine zA rfl rfl (zC rfl rfl) ?_
 refine zH ?_
 refine zE ?_
 refine zB rfl ?_
 refine zA rfl rfl (zJ rfl kZ rfl) ?_
 refine zA rfl rfl (zK rfl one104 rfl (zP 0 rfl) rfl) ?_
 refine zA rfl rfl (qB rfl el104 rfl) ?_
 refine zA rfl rfl (yX rfl rfl rfl) ?_
 refine zA rfl rfl (zC rfl rfl) ?_
 refine zH ?_
 refine zS ?_
 repeat (first | refine zO ?_ | refine zM ?_)
 refine fin1 (rs_c rfl) ?_
 exact congrArg vB (by unfold rkIx; simp)

theorem expr_syntax (e : Ex) (he : e.wt ≤ 6000000000000) :
    Pur cfg 177 [vE e] (vB (synOk e)) := by
 refine zZ Tryz.func177 rfl Tryz.ntmps177 Tryz.results177 rfl ?_
 intro z hz
 obtain ⟨hL, hI, hA⟩ := e.parts he
 refine zE ?_
 refine zB rfl ?_
 refine qC rfl rfl (qN rfl rfl) ?_
 rintro _ _ ⟨b1, rfl, rfl⟩
 refine zA rfl rfl (zC rfl rfl) ?_
 refine zH ?_
 refine zE ?_
 refine yG 13 mixed (by kernel_rfl) rfl rfl ?_
 refine zV rfl rfl (zJ rfl yW rfl) ?_
 refine zV rfl rfl (zK rfl one3 rfl (zP 0 rfl) rfl) ?_
 refine zV rfl rfl (qJ rfl rfl rfl) ?_
 refine zV rfl rfl (zJ rfl yW rfl) ?_
 refine zV rfl rfl (zK rfl one3 rfl (zP 0 rfl) rfl) ?_
 refine zV rfl rfl (qJ rfl rfl rfl) ?_
 refine zV rfl rfl (zF rfl rfl) ?_
 refine qE [] rfl rfl rfl rfl gv1 trivial (fun g1_6 => zJ rfl yW rfl) rfl ?_
 refine qE [(14, _)] rfl rfl rfl rfl gv1 ⟨rfl, rfl, trivial⟩ (fun g1_6 => zK rfl one3 rfl (zP 0 rfl) rfl) rfl ?_
 refine qE [(15, _)] rfl rfl rfl rfl gv1 ⟨rfl, rfl, trivial⟩ (fun g1_6 => qJ rfl rfl rfl) rfl ?_
 refine zV rfl rfl (yD rfl rfl rfl rfl (fun h => (lzf h))) ?_
 refine zV rfl rfl (zC rfl rfl) ?_
 refine zV rfl rfl (zC rfl rfl) ?_
 refine kB ?_
 refine zH ?_
 refine zE ?_
 refine yG 8 mixed (by kernel_rfl) rfl rfl ?_
 refine zV rfl rfl (zJ rfl yW rfl) ?_
 refine zV rfl rfl (zK rfl one3 rfl (zP 0 rfl) rfl) ?_
 refine zV rfl rfl (qJ rfl rfl rfl) ?_
 refine zV rfl rfl (zJ rfl yW rfl) ?_
 refine zV rfl rfl (zK rfl one3 rfl (zP 0 rfl) rfl) ?_
 refine zV rfl rfl (qJ rfl rfl rfl) ?_
 refine zV rfl rfl (zC rfl rfl) ?_
 refine zV rfl rfl (zC rfl rfl) ?_
 refine kB ?_
 refine zH ?_
 refine zE ?_
 refine qA ?_
 refine zE ?_
 refine zB rfl ?_
 refine zA rfl rfl (zJ rfl yW rfl) ?_
 refine zA rfl rfl (zK rfl one3 rfl (zP 0 rfl) rfl) ?_
 refine zA rfl rfl (qS rfl rfl rfl) ?_
 refine zA rfl rfl (zF rfl rfl) ?_
 refine zN [] rfl rfl rfl rfl gv1 trivial (fun g3_3 => zJ rfl yW rfl) rfl ?_
 refine zN [(29, _)] rfl rfl rfl rfl gv1 ⟨rfl, rfl, trivial⟩ (fun g3_3 => zK rfl one3 rfl (zP 0 rfl) rfl) rfl ?_
 refine zN [(30, _)] rfl rfl rfl rfl gv1 ⟨rfl, rfl, trivial⟩ (fun g3_3 => yX rfl rfl rfl) rfl ?_
 refine zA rfl rfl (yD rfl rfl rfl rfl (fun h => (lzf h))) ?_
 refine zA rfl rfl (zC rfl rfl) ?_
 refine zH ?_
 refine zR rfl (fun c1 => ?_) (fun c1 => ?_)
 ·refine zE ?_
  refine zB rfl ?_
  refine zA rfl rfl (zC rfl rfl) ?_
  refine zH ?_
  refine zS ?_
  repeat (first | refine zO ?_ | refine zM ?_)
  refine fin1 (rs_c rfl) ?_
  exact congrArg vB (by simp only [synOk, c1, Bool.not_true, Bool.not_false, Bool.true_and, Bool.and_true, Bool.false_and, Bool.and_false])
 ·refine zE ?_
  refine zB rfl ?_
  refine zA rfl rfl (zF rfl rfl) ?_
  refine zA rfl rfl (qY rfl rfl) ?_
  refine zA rfl rfl (zF rfl rfl) ?_
  refine zN [] rfl rfl rfl rfl gv1 trivial (fun g5_2 => zJ rfl fd33_2 rfl) rfl ?_
  refine zN [(37, _)] rfl rfl rfl rfl gv1 ⟨rfl, rfl, trivial⟩ (fun g5_2 => zQ rfl agg26 rfl (zP 0 rfl) rfl) rfl ?_
  refine zN [] rfl rfl rfl rfl gv1 trivial (fun g5_2 => yE rfl zr26 pl26 rfl) rfl ?_
  refine zN [(38, _), (39, _)] rfl rfl rfl rfl gv1 ⟨rfl, rfl, rfl, rfl, trivial⟩ (fun g5_2 => det_aneq rfl fl26 rfl rfl rfl) rfl ?_
  refine zA rfl rfl (qM rfl rfl rfl (fun h => h) rfl) ?_
  refine zA rfl rfl (zC rfl rfl) ?_
  refine zH ?_
  refine zR rfl (fun c2 => ?_) (fun c2 => ?_)
  ·have c2 : (!decide (e.Op = 1) && !val0 e.Val) = true := c2
   refine zE ?_
   refine zB rfl ?_
   refine zA rfl rfl (zC rfl rfl) ?_
   refine zH ?_
   refine zS ?_
   repeat (first | refine zO ?_ | refine zM ?_)
   refine fin1 (rs_c rfl) ?_
   exact congrArg vB (by simp only [synOk, c2, Bool.not_true, Bool.not_false, Bool.true_and, Bool.and_true, Bool.false_and, Bool.and_false])
  ·have c2 : (!decide (e.Op = 1) && !val0 e.Val) = false := c2
   refine zE ?_
   refine zB rfl ?_
   refine zA rfl rfl (zF rfl rfl) ?_
   refine zA rfl rfl (qY rfl rfl) ?_
   refine zA rfl rfl (zF rfl rfl) ?_
   refine zN [] rfl rfl rfl rfl gv1 trivial (fun g7_2 => zJ rfl fd33_3 rfl) rfl ?_
   refine zN [(46, _)] rfl rfl rfl rfl gv1 ⟨rfl, rfl, trivial⟩ (fun g7_2 => zQ rfl agg23 rfl (zP 0 rfl) rfl) rfl ?_
   refine zN [] rfl rfl rfl rfl gv1 trivial (fun g7_2 => yE rfl zr23 pl23 rfl) rfl ?_
   refine zN [(47, _), (48, _)] rfl rfl rfl rfl gv1 ⟨rfl, rfl, rfl, rfl, trivial⟩ (fun g7_2 => det_aneq rfl fl23 rfl rfl rfl) rfl ?_
   refine zA rfl rfl (qM rfl rfl rfl (fun h => h) rfl) ?_
   refine zA rfl rfl (zC rfl rfl) ?_
   refine zH ?_
   refine zR rfl (fun c3 => ?_) (fun c3 => ?_)
   ·have c3 : (!(decide (e.Op = 1) || decide (e.Op = 12)) && !ty0 e.Ty) = true := c3
    refine zE ?_
    refine zB rfl ?_
    refine zA rfl rfl (zC rfl rfl) ?_
    refine zH ?_
    refine zS ?_
    repeat (first | refine zO ?_ | refine zM ?_)
    refine fin1 (rs_c rfl) ?_
    exact congrArg vB (by simp only [synOk, c3, Bool.not_true, Bool.not_false, Bool.true_and, Bool.and_true, Bool.false_and, Bool.and_false])
   ·have c3 : (!(decide (e.Op = 1) || decide (e.Op = 12)) && !ty0 e.Ty) = false := c3
    refine zE ?_
    refine zB rfl ?_
    refine zA rfl rfl (zF rfl rfl) ?_
    refine zA rfl rfl (qY rfl rfl) ?_
    refine zA rfl rfl (zF rfl rfl) ?_
    refine zN [] rfl rfl rfl rfl gv1 trivial (fun g9_2 => zJ rfl fd33_4 rfl) rfl ?_
    refine zN [(55, _)] rfl rfl rfl rfl gv1 ⟨rfl, rfl, trivial⟩ (fun g9_2 => zQ rfl yB rfl (zP 0 rfl) rfl) rfl ?_
    refine zN [(56, _)] rfl rfl rfl rfl gv1 ⟨rfl, rfl, trivial⟩ (fun g9_2 => zW rfl ok216 (expr_isZero e.Lin) ⟨VLe.refl _, rfl, trivial⟩) rfl ?_
    refine zN [(57, _)] rfl rfl rfl rfl gv1 ⟨rfl, rfl, trivial⟩ (fun g9_2 => qY rfl rfl) rfl ?_
    refine zA rfl rfl (qM rfl rfl rfl (fun h => h) rfl) ?_
    refine zA rfl rfl (zC rfl rfl) ?_
    refine zH ?_
    refine zR rfl (fun c4 => ?_) (fun c4 => ?_)
    ·refine zE ?_
     refine zB rfl ?_
     refine zA rfl rfl (zC rfl rfl) ?_
     refine zH ?_
     refine zS ?_
     repeat (first | refine zO ?_ | refine zM ?_)
     refine fin1 (rs_c rfl) ?_
     exact congrArg vB (by simp only [synOk, c4, Bool.not_true, Bool.not_false, Bool.true_and, Bool.and_true, Bool.false_and, Bool.and_false])
    ·refine zE ?_
     refine zB rfl ?_
     refine zA rfl rfl (zF rfl rfl) ?_
     refine zA rfl rfl (qY rfl rfl) ?_
     refine zA rfl rfl (zF rfl rfl) ?_
     refine zN [] rfl rfl rfl rfl gv1 trivial (fun g11_2 => zJ rfl fd33_1 rfl) rfl ?_
     refine zN [(64, _)] rfl rfl rfl rfl gv1 ⟨rfl, rfl, trivial⟩ (fun g11_2 => zK rfl one9 rfl (zP 0 rfl) rfl) rfl ?_
     refine zN [(65, _)] rfl rfl rfl rfl gv1 ⟨rfl, rfl, trivial⟩ (fun g11_2 => det_sneq rfl rfl rfl) rfl ?_
     refine zN [(66, _)] rfl rfl rfl rfl gv1 ⟨rfl, rfl, trivial⟩ (fun g11_2 => zF rfl rfl) rfl ?_
     refine zN [] rfl rfl rfl rfl gv2 trivial (fun g11_6 => zJ rfl kN rfl) rfl ?_
     refine zN [(68, _)] rfl rfl rfl rfl gv2 ⟨rfl, rfl, trivial⟩ (fun g11_6 => zK rfl one30 rfl (zP 0 rfl) rfl) rfl ?_
     refine zN [(69, _)] rfl rfl rfl rfl gv2 ⟨rfl, rfl, trivial⟩ (fun g11_6 => qB rfl el30 rfl) rfl ?_
     refine zN [(70, _)] rfl rfl rfl rfl gv2 ⟨rfl, rfl, trivial⟩ (fun g11_6 => yX rfl rfl rfl) rfl ?_
     refine zN [(67, _)] rfl rfl rfl rfl gv1 ⟨rfl, rfl, trivial⟩ (fun g11_2 => yD rfl rfl rfl rfl (fun h => yQ (by assumption) (lzf h))) rfl ?_
     refine zA rfl rfl (qM rfl rfl rfl (fun h => h) rfl) ?_
     refine zA rfl rfl (zC rfl rfl) ?_
     refine zH ?_
     refine zR rfl (fun c5 => ?_) (fun c5 => ?_)
     ·refine zE ?_
      refine zB rfl ?_
      refine zA rfl rfl (zC rfl rfl) ?_
      refine zH ?_
      refine zS ?_
      repeat (first | refine zO ?_ | refine zM ?_)
      refine fin1 (rs_c rfl) ?_
      exact congrArg vB (by simp only [synOk, c5, Bool.not_true, Bool.not_false, Bool.true_and, Bool.and_true, Bool.false_and, Bool.and_false])
     ·refine zT ?_
      refine zE ?_
      refine zB rfl ?_
      refine zA rfl rfl (zJ rfl kN rfl) ?_
      refine zA rfl rfl (zK rfl one30 rfl (zP 0 rfl) rfl) ?_
      refine zA rfl rfl (zW rfl ok217 (slices_ContainsFunc_ix e.Idx _ (fun x => !wellIx x) hI (fun x _ => FnPur.of_pur (first := []) (cap := []) ok218 (expr_syntax_1 x))) ⟨VLe.refl _, rfl, VLe.refl _, rfl, trivial⟩) ?_
      refine zA rfl rfl (qY rfl rfl) ?_
      refine zA rfl rfl (zC rfl rfl) ?_
      refine zH ?_
      refine zS ?_
      repeat (first | refine zO ?_ | refine zM ?_)
      refine fin1 (rs_c rfl) ?_
      exact congrArg vB (by rw [notanynot]; simp only [synOk, c1, c2, c3, c4, c5, Bool.not_true, Bool.not_false, Bool.true_and, Bool.and_true, Bool.false_and, Bool.and_false])

theorem expr_names (e : Ex) (he : e.wt ≤ 6000000000000) :
    Pur cfg 178 [vE e] (vB (namesE e)) := by
 refine zZ Tryz.func178 rfl Tryz.ntmps178 Tryz.results178 rfl ?_
 intro z hz
 obtain ⟨hL, hI, hA⟩ := e.parts he
 refine zE ?_
 refine zB rfl ?_
 refine qC rfl rfl (qN rfl rfl) ?_
 rintro _ _ ⟨b1, rfl, rfl⟩
 refine zA rfl rfl (zC rfl rfl) ?_
 refine zH ?_
 refine zE ?_
 refine zE ?_
 refine zB rfl ?_
 refine zA rfl rfl (zJ rfl yW rfl) ?_
 refine zA rfl rfl (zK rfl one3 rfl (zP 0 rfl) rfl) ?_
 refine zA rfl rfl (qJ rfl rfl rfl) ?_
 refine zA rfl rfl (zF rfl rfl) ?_
 refine zN [] rfl rfl rfl rfl gv1 trivial (fun g1_3 => zJ rfl fd33_1 rfl) rfl ?_
 refine zN [(7, _)] rfl rfl rfl rfl gv1 ⟨rfl, rfl, trivial⟩ (fun g1_3 => zK rfl one9 rfl (zP 0 rfl) rfl) rfl ?_
 refine zN [(8, _)] rfl rfl rfl rfl gv1 ⟨rfl, rfl, trivial⟩ (fun g1_3 => zW rfl ok192 (lexer_IsName _) ⟨VLe.refl _, rfl, trivial⟩) rfl ?_
 refine zN [(9, _)] rfl rfl rfl rfl gv1 ⟨rfl, rfl, trivial⟩ (fun g1_3 => qY rfl rfl) rfl ?_
 refine zA rfl rfl (qM rfl rfl rfl (fun h => h) rfl) ?_
 refine zH ?_
 refine zR rfl (fun c1 => ?_) (fun c1 => ?_)
 ·refine zE ?_
  refine zB rfl ?_
  refine zA rfl rfl (zC rfl rfl) ?_
  refine zH ?_
  refine zS ?_
  repeat (first | refine zO ?_ | refine zM ?_)
  refine fin1 (rs_c rfl) ?_
  exact congrArg vB (by simp only [namesE, c1, Bool.not_true, Bool.false_and])
 ·refine zT ?_
  refine zE ?_
  refine zB rfl ?_
  refine zA rfl rfl (zJ rfl kN rfl) ?_
  refine zA rfl rfl (zK rfl one30 rfl (zP 0 rfl) rfl) ?_
  refine zA rfl rfl (zW rfl ok217 (slices_ContainsFunc_ix e.Idx _ (fun x => !nmIx x) hI (fun x _ => FnPur.of_pur (first := []) (cap := []) ok220 (expr_names_1 x))) ⟨VLe.refl _, rfl, VLe.refl _, rfl, trivial⟩) ?_
  refine zA rfl rfl (qY rfl rfl) ?_
  refine zA rfl rfl (zC rfl rfl) ?_
  refine zH ?_
  refine zS ?_
  repeat (first | refine zO ?_ | refine zM ?_)
  refine fin1 (rs_c rfl) ?_
  exact congrArg vB (by rw [notanynot]; simp only [namesE, c1, Bool.not_false, Bool.true_and])

theorem expr_rank (e : Ex) (he : e.wt ≤ 6000000000000) :
    Pur cfg 179 [vE e] (vB (rankE e)) := by
 refine zZ Tryz.func179 rfl Tryz.ntmps179 Tryz.results179 rfl ?_
 intro z hz
 obtain ⟨hL, hI, hA⟩ := e.parts he
 refine zE ?_
 refine zB rfl ?_
 refine qC rfl rfl (qN rfl rfl) ?_
 rintro _ _ ⟨b1, rfl, rfl⟩
 refine zA rfl rfl (zC rfl rfl) ?_
 refine zH ?_
 refine zE ?_
 refine zE ?_
 refine yG 13 mixed (by kernel_rfl) rfl rfl ?_
 refine zV rfl rfl (zJ rfl kE rfl) ?_
 refine zV rfl rfl (zK rfl wC rfl (zP 0 rfl) rfl) ?_
 refine zV rfl rfl (qB rfl el31 rfl) ?_
 refine zV rfl rfl (zJ rfl yW rfl) ?_
 refine zV rfl rfl (zK rfl one3 rfl (zP 0 rfl) rfl) ?_
 refine zV rfl rfl (zW rfl ok221 (expr_operands _) ⟨VLe.refl _, rfl, trivial⟩) ?_
 refine zV rfl rfl (qV rfl rfl rfl) ?_
 refine zV rfl rfl (zF rfl rfl) ?_
 refine qE [] rfl rfl rfl rfl gv1 trivial (fun g1_7 => zJ rfl kN rfl) rfl ?_
 refine qE [(11, _)] rfl rfl rfl rfl gv1 ⟨rfl, rfl, trivial⟩ (fun g1_7 => zK rfl one30 rfl (zP 0 rfl) rfl) rfl ?_
 refine qE [(12, _)] rfl rfl rfl rfl gv1 ⟨rfl, rfl, trivial⟩ (fun g1_7 => qB rfl el30 rfl) rfl ?_
 refine qE [(13, _)] rfl rfl rfl rfl gv1 ⟨rfl, rfl, trivial⟩ (fun g1_7 => yX rfl rfl rfl) rfl ?_
 refine zV rfl rfl (yD rfl rfl rfl rfl (fun h => (lzf h))) ?_
 refine kB ?_
 refine zH ?_
 refine zR rfl (fun c1 => ?_) (fun c1 => ?_)
 ·refine zE ?_
  refine zB rfl ?_
  refine zA rfl rfl (zC rfl rfl) ?_
  refine zH ?_
  refine zS ?_
  repeat (first | refine zO ?_ | refine zM ?_)
  refine fin1 (rs_c rfl) ?_
  exact congrArg vB (by simp only [rankE, c1, Bool.not_true, Bool.false_and])
 ·refine zT ?_
  refine zE ?_
  refine zB rfl ?_
  refine zA rfl rfl (zJ rfl kN rfl) ?_
  refine zA rfl rfl (zK rfl one30 rfl (zP 0 rfl) rfl) ?_
  refine zA rfl rfl (zW rfl ok217 (slices_ContainsFunc_ix e.Idx _ (fun x => !rkIx x) hI (fun x _ => FnPur.of_pur (first := []) (cap := []) ok222 (expr_rank_1 x))) ⟨VLe.refl _, rfl, VLe.refl _, rfl, trivial⟩) ?_
  refine zA rfl rfl (qY rfl rfl) ?_
  refine zA rfl rfl (zC rfl rfl) ?_
  refine zH ?_
  refine zS ?_
  repeat (first | refine zO ?_ | refine zM ?_)
  refine fin1 (rs_c rfl) ?_
  exact congrArg vB (by rw [notanynot]; simp only [rankE, c1, Bool.not_false, Bool.true_and])

theorem expr_types (e : Ex) (he : e.wt ≤ 6000000000000) :
    Pur cfg 180 [vE e] (vB (typesE e)) := by
 refine zZ Tryz.func180 rfl Tryz.ntmps180 Tryz.results180 rfl ?_
 intro z hz
 obtain ⟨hL, hI, hA⟩ := e.parts he
 refine zE ?_
 refine zB rfl ?_
 refine qC rfl rfl (qN rfl rfl) ?_
 rintro _ _ ⟨b1, rfl, rfl⟩
 refine zA rfl rfl (zC rfl rfl) ?_
 refine zH ?_
 refine zE ?_
 refine zE ?_
 refine zB rfl ?_
 refine zA rfl rfl (zJ rfl yW rfl) ?_
 refine zA rfl rfl (zK rfl one3 rfl (zP 0 rfl) rfl) ?_
 refine zA rfl rfl (qJ rfl rfl rfl) ?_
 refine zA rfl rfl (zF rfl rfl) ?_
 refine zN [] rfl rfl rfl rfl gv1 trivial (fun g1_3 => zJ rfl yW rfl) rfl ?_
 refine zN [(9, _)] rfl rfl rfl rfl gv1 ⟨rfl, rfl, trivial⟩ (fun g1_3 => zK rfl one3 rfl (zP 0 rfl) rfl) rfl ?_
 refine zN [(10, _)] rfl rfl rfl rfl gv1 ⟨rfl, rfl, trivial⟩ (fun g1_3 => qJ rfl rfl rfl) rfl ?_
 refine zA rfl rfl (yD rfl rfl rfl rfl (fun h => (lzf h))) ?_
 refine zA rfl rfl (zF rfl rfl) ?_
 refine zN [] rfl rfl rfl rfl gv1 trivial (fun g1_8 => zJ rfl fd33_3 rfl) rfl ?_
 refine zN [(14, _)] rfl rfl rfl rfl gv1 ⟨rfl, rfl, trivial⟩ (fun g1_8 => zQ rfl agg23 rfl (zP 0 rfl) rfl) rfl ?_
 refine zN [(15, _)] rfl rfl rfl rfl gv1 ⟨rfl, rfl, trivial⟩ (fun g1_8 => zW rfl ok188 (value_ValidateType _) ⟨VLe.refl _, rfl, trivial⟩) rfl ?_
 refine zN [(16, _)] rfl rfl rfl rfl gv1 ⟨rfl, rfl, trivial⟩ (fun g1_8 => qV rfl rfl rfl) rfl ?_
 refine zA rfl rfl (qM rfl rfl rfl (fun h => h) rfl) ?_
 refine zH ?_
 refine zR rfl (fun c1 => ?_) (fun c1 => ?_)
 ·rw [tyErr_dec] at c1
  refine zE ?_
  refine zB rfl ?_
  refine zA rfl rfl (zC rfl rfl) ?_
  refine zH ?_
  refine zS ?_
  repeat (first | refine zO ?_ | refine zM ?_)
  refine fin1 (rs_c rfl) ?_
  exact congrArg vB (by simp only [typesE, c1, Bool.not_true, Bool.false_and])
 ·rw [tyErr_dec] at c1
  refine zT ?_
  refine zE ?_
  refine zE ?_
  refine zB rfl ?_
  refine zA rfl rfl (zJ rfl kE rfl) ?_
  refine zA rfl rfl (zK rfl wC rfl (zP 0 rfl) rfl) ?_
  refine zA rfl rfl (qB rfl el31 rfl) ?_
  refine zA rfl rfl (zF rfl rfl) ?_
  refine zH ?_
  refine qA ?_
  refine qQ ⟨[(22, .c _), (1, .c _), (20, .c _), (21, .c _)], [_]⟩ (Weak.mk [true] ⟨VLe.of_eq rfl, VLe.of_eq rfl, VLe.of_eq rfl, VLe.of_eq rfl, trivial⟩ rfl) ?_
  refine qR 1 0 rfl rfl (Nat) (fun k => [(22, vI k)]) (fun k => []) (fun k => k ≤ e.Args.length ∧ (condsOk e.Op 0 e.Args = condsOk e.Op k (e.Args.drop k))) (fun k => e.Args.length - k) ⟨0, ⟨by omega, rfl⟩, Weak.mk [true] ⟨VLe.refl _, VLe.refl _, VLe.refl _, VLe.refl _, trivial⟩ rfl⟩ ?_
  rintro k ⟨hk, hp⟩
  refine zE ?_
  refine zB rfl ?_
  refine zA rfl rfl (qS rfl rfl rfl) ?_
  refine zH ?_
  refine zE ?_
  refine zR rfl (fun c2 => ?_) (fun c2 => ?_)
  ·try simp only [sx, List.length_map] at c2
   obtain ⟨a, ha⟩ := yL e.Args k (by omega)
   refine zT ?_
   refine zE ?_
   refine qA ?_
   refine zE ?_
   refine zB rfl ?_
   refine zA rfl rfl (zF rfl rfl) ?_
   refine zA rfl rfl (zX rfl el31 rfl rfl (by omega) (getmE (by assumption))) ?_
   refine zA rfl rfl (zQ rfl yA rfl qK rfl) ?_
   refine qC rfl rfl (qH [none, none, none, none, none, none, none, none, none, none, some 2, some 4, some 13] rfl zr33 rfl) ?_
   rintro _ _ ⟨b2, rfl, rfl⟩
   refine zA rfl rfl (zC rfl rfl) ?_
   refine zY rfl rfl (zU rfl sz33 rfl rfl rfl (qI 0 rfl rfl)) ?_
   refine zH ?_
   refine zE ?_
   refine yG 7 mixed (by kernel_rfl) rfl rfl ?_
   refine zV rfl rfl (zQ rfl yA rfl (zP 0 rfl) rfl) ?_
   refine zV rfl rfl (zW rfl ok80 (expr_IsCondition a) ⟨VLe.refl _, rfl, trivial⟩) ?_
   refine zV rfl rfl (zJ rfl yW rfl) ?_
   refine zV rfl rfl (zK rfl one3 rfl (zP 1 rfl) rfl) ?_
   refine zV rfl rfl (zF rfl rfl) ?_
   refine zV rfl rfl (zW rfl ok223 (expr_requiresCondition _ _) ⟨VLe.refl _, rfl, VLe.refl _, rfl, trivial⟩) ?_
   refine zV rfl rfl (det_bneq rfl un4 rfl rfl) ?_
   refine kB ?_
   refine zH ?_
   refine zR rfl (fun c3 => ?_) (fun c3 => ?_)
   ·refine zE ?_
    refine zB rfl ?_
    refine zA rfl rfl (zC rfl rfl) ?_
    refine zH ?_
    refine zS ?_
    repeat (first | refine zO ?_ | refine zM ?_)
    refine fin1 (rs_c rfl) ?_
    exact congrArg vB (by simp only [typesE, c1, Bool.not_false, Bool.true_and]; rw [hp, yC ha, condsOk, show (isCond a == wantC e.Op k) = false by simpa using c3, Bool.false_and])
   ·refine zT ?_
    refine zB rfl ?_
    refine zA rfl rfl (qL rfl rfl rfl ⟨by omega, by omega⟩) ?_
    refine zA rfl rfl (zF rfl rfl) ?_
    refine zH ?_
    refine ⟨k + 1, ⟨by omega, (by rw [hp, yC ha, condsOk, show (isCond a == wantC e.Op k) = true by simpa using c3, Bool.true_and]; rfl)⟩, (by omega), Weak.mk [false, true] ⟨VLe.refl _, VLe.refl _, VLe.refl _, VLe.refl _, trivial⟩ rfl⟩
  ·try simp only [sx, List.length_map] at c2
   refine qU ?_
   refine zE ?_
   refine zB rfl ?_
   refine zA rfl rfl (zC rfl rfl) ?_
   refine zH ?_
   refine zS ?_
   repeat (first | refine zO ?_ | refine zM ?_)
   refine fin1 (rs_c rfl) ?_
   exact congrArg vB (by simp only [typesE, c1, Bool.not_false, Bool.true_and]; rw [hp, kL (by omega)]; rfl)

theorem ref14_typed (e : Ex) (he : e.wt ≤ 6000000000000) :
    Pur cfg 172 [vE e] (vB (typesE e)) := by
 refine zZ Tryz.func172 rfl Tryz.ntmps172 Tryz.results172 rfl ?_
 intro z hz
 obtain ⟨hL, hI, hA⟩ := e.parts he
 refine zE ?_
 refine zB rfl ?_
 refine qC rfl rfl (qN rfl rfl) ?_
 rintro _ _ ⟨b1, rfl, rfl⟩
 refine zA rfl rfl (zC rfl rfl) ?_
 refine zH ?_
 refine zE ?_
 refine zE ?_
 refine zB rfl ?_
 refine zA rfl rfl (zJ rfl yW rfl) ?_
 refine zA rfl rfl (zK rfl one3 rfl (zP 0 rfl) rfl) ?_
 refine zA rfl rfl (qJ rfl rfl rfl) ?_
 refine zA rfl rfl (zF rfl rfl) ?_
 refine zN [] rfl rfl rfl rfl gv1 trivial (fun g1_3 => zJ rfl yW rfl) rfl ?_
 refine zN [(8, _)] rfl rfl rfl rfl gv1 ⟨rfl, rfl, trivial⟩ (fun g1_3 => zK rfl one3 rfl (zP 0 rfl) rfl) rfl ?_
 refine zN [(9, _)] rfl rfl rfl rfl gv1 ⟨rfl, rfl, trivial⟩ (fun g1_3 => qJ rfl rfl rfl) rfl ?_
 refine zA rfl rfl (yD rfl rfl rfl rfl (fun h => (lzf h))) ?_
 refine zA rfl rfl (zF rfl rfl) ?_
 refine zN [] rfl rfl rfl rfl gv1 trivial (fun g1_8 => zJ rfl fd33_3 rfl) rfl ?_
 refine zN [(13, _)] rfl rfl rfl rfl gv1 ⟨rfl, rfl, trivial⟩ (fun g1_8 => zQ rfl agg23 rfl (zP 0 rfl) rfl) rfl ?_
 refine zN [(14, _)] rfl rfl rfl rfl gv1 ⟨rfl, rfl, trivial⟩ (fun g1_8 => zW rfl ok142 (base_Type _) ⟨VLe.refl _, rfl, trivial⟩) rfl ?_
 refine zN [(15, _)] rfl rfl rfl rfl gv1 ⟨rfl, rfl, trivial⟩ (fun g1_8 => qY rfl rfl) rfl ?_
 refine zA rfl rfl (qM rfl rfl rfl (fun h => h) rfl) ?_
 refine zH ?_
 refine zR rfl (fun c1 => ?_) (fun c1 => ?_)
 ·refine zE ?_
  refine zB rfl ?_
  refine zA rfl rfl (zC rfl rfl) ?_
  refine zH ?_
  refine zS ?_
  repeat (first | refine zO ?_ | refine zM ?_)
  refine fin1 (rs_c rfl) ?_
  exact congrArg vB (by simp only [typesE, c1, Bool.not_true, Bool.false_and])
 ·refine zT ?_
  refine zE ?_
  refine zE ?_
  refine zB rfl ?_
  refine zA rfl rfl (zC rfl rfl) ?_
  refine zH ?_
  refine qA ?_
  refine qQ ⟨[(3, .c _), (1, .c _)], [_]⟩ (Weak.mk [true] ⟨VLe.of_eq rfl, VLe.of_eq rfl, trivial⟩ rfl) ?_
  refine qR 1 0 rfl rfl (Nat) (fun k => [(3, vI k)]) (fun k => []) (fun k => k ≤ e.Args.length ∧ (condsOk e.Op 0 e.Args = condsOk e.Op k (e.Args.drop k))) (fun k => e.Args.length - k) ⟨0, ⟨by omega, rfl⟩, Weak.mk [true] ⟨VLe.refl _, VLe.refl _, trivial⟩ rfl⟩ ?_
  rintro k ⟨hk, hp⟩
  refine zE ?_
  refine zE ?_
  refine zB rfl ?_
  refine zA rfl rfl (zF rfl rfl) ?_
  refine zA rfl rfl (zJ rfl kE rfl) ?_
  refine zA rfl rfl (zK rfl wC rfl (zP 0 rfl) rfl) ?_
  refine zA rfl rfl (qB rfl el31 rfl) ?_
  refine zA rfl rfl (qS rfl rfl rfl) ?_
  refine zH ?_
  refine zR rfl (fun c2 => ?_) (fun c2 => ?_)
  ·try simp only [sx, List.length_map] at c2
   obtain ⟨a, ha⟩ := yL e.Args k (by omega)
   refine zT ?_
   refine zE ?_
   refine qA ?_
   refine zE ?_
   refine yG 11 mixed (by kernel_rfl) rfl rfl ?_
   refine zV rfl rfl (zJ rfl kE rfl) ?_
   refine zV rfl rfl (zK rfl wC rfl (zP 0 rfl) rfl) ?_
   refine zV rfl rfl (zF rfl rfl) ?_
   refine zV rfl rfl (zX rfl el31 rfl rfl (by omega) (getmE (by assumption))) ?_
   refine zV rfl rfl (zQ rfl yA rfl qK rfl) ?_
   refine zV rfl rfl (zW rfl ok201 (brocaderef14_IsCondition a) ⟨VLe.refl _, rfl, trivial⟩) ?_
   refine zV rfl rfl (zJ rfl yW rfl) ?_
   refine zV rfl rfl (zK rfl one3 rfl (zP 0 rfl) rfl) ?_
   refine zV rfl rfl (zF rfl rfl) ?_
   refine zV rfl rfl (zW rfl ok212 (ref14_wants _ _) ⟨VLe.refl _, rfl, VLe.refl _, rfl, trivial⟩) ?_
   refine zV rfl rfl (det_bneq rfl un4 rfl rfl) ?_
   refine kB ?_
   refine zH ?_
   refine zR rfl (fun c3 => ?_) (fun c3 => ?_)
   ·refine zE ?_
    refine zB rfl ?_
    refine zA rfl rfl (zC rfl rfl) ?_
    refine zH ?_
    refine zS ?_
    repeat (first | refine zO ?_ | refine zM ?_)
    refine fin1 (rs_c rfl) ?_
    exact congrArg vB (by simp only [typesE, c1, Bool.not_false, Bool.true_and]; rw [hp, yC ha, condsOk, show (isCond a == wantC e.Op k) = false by simpa using c3, Bool.false_and])
   ·refine zT ?_
    refine zB rfl ?_
    refine zA rfl rfl (zF rfl rfl) ?_
    refine zA rfl rfl (qL rfl rfl rfl ⟨by omega, by omega⟩) ?_
    refine zA rfl rfl (zC rfl rfl) ?_
    refine zH ?_
    refine ⟨k + 1, ⟨by omega, (by rw [hp, yC ha, condsOk, show (isCond a == wantC e.Op k) = true by simpa using c3, Bool.true_and]; rfl)⟩, (by omega), Weak.mk [true] ⟨VLe.refl _, VLe.refl _, trivial⟩ rfl⟩
  ·try simp only [sx, List.length_map] at c2
   refine qU ?_
   refine zE ?_
   refine zB rfl ?_
   refine zA rfl rfl (zC rfl rfl) ?_
   refine zH ?_
   refine zS ?_
   repeat (first | refine zO ?_ | refine zM ?_)
   refine fin1 (rs_c rfl) ?_
   exact congrArg vB (by simp only [typesE, c1, Bool.not_false, Bool.true_and]; rw [hp, kL (by omega)]; rfl)

theorem ref14_plain (e : Ex) (he : e.wt ≤ 6000000000000) :
    Pur cfg 169 [vE e] (vB (synOk e)) := by
 refine zZ Tryz.func169 rfl Tryz.ntmps169 Tryz.results169 rfl ?_
 intro z hz
 obtain ⟨hL, hI, hA⟩ := e.parts he
 refine zE ?_
 refine zB rfl ?_
 refine qC rfl rfl (qN rfl rfl) ?_
 rintro _ _ ⟨b1, rfl, rfl⟩
 refine zA rfl rfl (zC rfl rfl) ?_
 refine zH ?_
 refine zE ?_
 refine zE ?_
 refine zB rfl ?_
 refine zA rfl rfl (zJ rfl yW rfl) ?_
 refine zA rfl rfl (zK rfl one3 rfl (zP 0 rfl) rfl) ?_
 refine zA rfl rfl (qS rfl rfl rfl) ?_
 refine zA rfl rfl (zF rfl rfl) ?_
 refine zN [] rfl rfl rfl rfl gv1 trivial (fun g1_3 => zJ rfl yW rfl) rfl ?_
 refine zN [(9, _)] rfl rfl rfl rfl gv1 ⟨rfl, rfl, trivial⟩ (fun g1_3 => zK rfl one3 rfl (zP 0 rfl) rfl) rfl ?_
 refine zN [(10, _)] rfl rfl rfl rfl gv1 ⟨rfl, rfl, trivial⟩ (fun g1_3 => yX rfl rfl rfl) rfl ?_
 refine zA rfl rfl (yD rfl rfl rfl rfl (fun h => (lzf h))) ?_
 refine zH ?_
 refine zR rfl (fun c1 => ?_) (fun c1 => ?_)
 ·refine zE ?_
  refine zB rfl ?_
  refine zA rfl rfl (zC rfl rfl) ?_
  refine zH ?_
  refine zS ?_
  repeat (first | refine zO ?_ | refine zM ?_)
  refine fin1 (rs_c rfl) ?_
  exact congrArg vB (by simp only [synOk, c1, Bool.not_true, Bool.false_and])
 ·refine zT ?_
  refine zE ?_
  refine zE ?_
  refine zB rfl ?_
  refine zA rfl rfl (zJ rfl yW rfl) ?_
  refine zA rfl rfl (zK rfl one3 rfl (zP 0 rfl) rfl) ?_
  refine zA rfl rfl (qV rfl rfl rfl) ?_
  refine zA rfl rfl (zF rfl rfl) ?_
  refine zN [] rfl rfl rfl rfl gv1 trivial (fun g3_3 => zJ rfl fd33_2 rfl) rfl ?_
  refine zN [(17, _)] rfl rfl rfl rfl gv1 ⟨rfl, rfl, trivial⟩ (fun g3_3 => zQ rfl agg26 rfl (zP 0 rfl) rfl) rfl ?_
  refine zN [] rfl rfl rfl rfl gv1 trivial (fun g3_3 => yE rfl zr26 pl26 rfl) rfl ?_
  refine zN [(18, _), (19, _)] rfl rfl rfl rfl gv1 ⟨rfl, rfl, rfl, rfl, trivial⟩ (fun g3_3 => det_aneq rfl fl26 rfl rfl rfl) rfl ?_
  refine zA rfl rfl (qM rfl rfl rfl (fun h => h) rfl) ?_
  refine zA rfl rfl (zF rfl rfl) ?_
  refine zN [] rfl rfl rfl rfl gv1 trivial (fun g3_9 => zJ rfl yW rfl) rfl ?_
  refine zN [(23, _)] rfl rfl rfl rfl gv1 ⟨rfl, rfl, trivial⟩ (fun g3_9 => zK rfl one3 rfl (zP 0 rfl) rfl) rfl ?_
  refine zN [(24, _)] rfl rfl rfl rfl gv1 ⟨rfl, rfl, trivial⟩ (fun g3_9 => qV rfl rfl rfl) rfl ?_
  refine zN [(25, _)] rfl rfl rfl rfl gv1 ⟨rfl, rfl, trivial⟩ (fun g3_9 => zF rfl rfl) rfl ?_
  refine zN [] rfl rfl rfl rfl gv2 trivial (fun g3_13 => zJ rfl yW rfl) rfl ?_
  refine zN [(27, _)] rfl rfl rfl rfl gv2 ⟨rfl, rfl, trivial⟩ (fun g3_13 => zK rfl one3 rfl (zP 0 rfl) rfl) rfl ?_
  refine zN [(28, _)] rfl rfl rfl rfl gv2 ⟨rfl, rfl, trivial⟩ (fun g3_13 => qV rfl rfl rfl) rfl ?_
  refine zN [(26, _)] rfl rfl rfl rfl gv1 ⟨rfl, rfl, trivial⟩ (fun g3_9 => qM rfl rfl rfl (fun h => yQ (by assumption) h) rfl) rfl ?_
  refine zN [(30, _)] rfl rfl rfl rfl gv1 ⟨rfl, rfl, trivial⟩ (fun g3_9 => zF rfl rfl) rfl ?_
  refine zN [] rfl rfl rfl rfl gv2 trivial (fun g3_18 => zJ rfl fd33_3 rfl) rfl ?_
  refine zN [(32, _)] rfl rfl rfl rfl gv2 ⟨rfl, rfl, trivial⟩ (fun g3_18 => zQ rfl agg23 rfl (zP 0 rfl) rfl) rfl ?_
  refine zN [] rfl rfl rfl rfl gv2 trivial (fun g3_18 => yE rfl zr23 pl23 rfl) rfl ?_
  refine zN [(33, _), (34, _)] rfl rfl rfl rfl gv2 ⟨rfl, rfl, rfl, rfl, trivial⟩ (fun g3_18 => det_aneq rfl fl23 rfl rfl rfl) rfl ?_
  refine zN [(31, _)] rfl rfl rfl rfl gv1 ⟨rfl, rfl, trivial⟩ (fun g3_9 => qM rfl rfl rfl (fun h => yQ (by assumption) h) rfl) rfl ?_
  refine zA rfl rfl (yD rfl rfl rfl rfl (fun h => (lzf h))) ?_
  refine zH ?_
  refine zR rfl (fun c2 => ?_) (fun c2 => ?_)
  ·have h2 := plain2 (e := e) c2
   refine zE ?_
   refine zB rfl ?_
   refine zA rfl rfl (zC rfl rfl) ?_
   refine zH ?_
   refine zS ?_
   repeat (first | refine zO ?_ | refine zM ?_)
   refine fin1 (rs_c rfl) ?_
   exact congrArg vB (syn2 h2)
  ·have h2 := plain2 (e := e) c2
   refine zT ?_
   refine zE ?_
   refine zE ?_
   refine zB rfl ?_
   refine zA rfl rfl (zJ rfl yW rfl) ?_
   refine zA rfl rfl (zK rfl one3 rfl (zP 0 rfl) rfl) ?_
   refine zA rfl rfl (qV rfl rfl rfl) ?_
   refine zA rfl rfl (zF rfl rfl) ?_
   refine zN [] rfl rfl rfl rfl gv1 trivial (fun g5_3 => zJ rfl fd33_4 rfl) rfl ?_
   refine zN [(42, _)] rfl rfl rfl rfl gv1 ⟨rfl, rfl, trivial⟩ (fun g5_3 => zJ rfl fd29_0 rfl) rfl ?_
   refine zN [(43, _)] rfl rfl rfl rfl gv1 ⟨rfl, rfl, trivial⟩ (fun g5_3 => zK rfl one2 rfl (zP 0 rfl) rfl) rfl ?_
   refine zN [(44, _)] rfl rfl rfl rfl gv1 ⟨rfl, rfl, trivial⟩ (fun g5_3 => qV rfl rfl rfl) rfl ?_
   refine zN [(45, _)] rfl rfl rfl rfl gv1 ⟨rfl, rfl, trivial⟩ (fun g5_3 => zF rfl rfl) rfl ?_
   refine zN [] rfl rfl rfl rfl gv2 trivial (fun g5_8 => zJ rfl fd33_4 rfl) rfl ?_
   refine zN [(47, _)] rfl rfl rfl rfl gv2 ⟨rfl, rfl, trivial⟩ (fun g5_8 => zJ rfl yI rfl) rfl ?_
   refine zN [(48, _)] rfl rfl rfl rfl gv2 ⟨rfl, rfl, trivial⟩ (fun g5_8 => zK rfl kH rfl (zP 0 rfl) rfl) rfl ?_
   refine zN [(49, _)] rfl rfl rfl rfl gv2 ⟨rfl, rfl, trivial⟩ (fun g5_8 => qB rfl el27 rfl) rfl ?_
   refine zN [(50, _)] rfl rfl rfl rfl gv2 ⟨rfl, rfl, trivial⟩ (fun g5_8 => yX rfl rfl rfl) rfl ?_
   refine zN [(46, _)] rfl rfl rfl rfl gv1 ⟨rfl, rfl, trivial⟩ (fun g5_3 => yD rfl rfl rfl rfl (fun h => yQ (by assumption) (lzf h))) rfl ?_
   refine zA rfl rfl (qM rfl rfl rfl (fun h => h) rfl) ?_
   refine zA rfl rfl (zF rfl rfl) ?_
   refine zN [] rfl rfl rfl rfl gv1 trivial (fun g5_16 => zJ rfl yW rfl) rfl ?_
   refine zN [(55, _)] rfl rfl rfl rfl gv1 ⟨rfl, rfl, trivial⟩ (fun g5_16 => zK rfl one3 rfl (zP 0 rfl) rfl) rfl ?_
   refine zN [(56, _)] rfl rfl rfl rfl gv1 ⟨rfl, rfl, trivial⟩ (fun g5_16 => qV rfl rfl rfl) rfl ?_
   refine zN [(57, _)] rfl rfl rfl rfl gv1 ⟨rfl, rfl, trivial⟩ (fun g5_16 => zF rfl rfl) rfl ?_
   refine zN [] rfl rfl rfl rfl gv2 trivial (fun g5_20 => zJ rfl fd33_1 rfl) rfl ?_
   refine zN [(59, _)] rfl rfl rfl rfl gv2 ⟨rfl, rfl, trivial⟩ (fun g5_20 => zK rfl one9 rfl (zP 0 rfl) rfl) rfl ?_
   refine zN [(60, _)] rfl rfl rfl rfl gv2 ⟨rfl, rfl, trivial⟩ (fun g5_20 => det_sneq rfl rfl rfl) rfl ?_
   refine zN [(61, _)] rfl rfl rfl rfl gv2 ⟨rfl, rfl, trivial⟩ (fun g5_20 => zF rfl rfl) rfl ?_
   refine zN [] rfl rfl rfl rfl gv2 trivial (fun g5_24 => zJ rfl kN rfl) rfl ?_
   refine zN [(63, _)] rfl rfl rfl rfl gv2 ⟨rfl, rfl, trivial⟩ (fun g5_24 => zK rfl one30 rfl (zP 0 rfl) rfl) rfl ?_
   refine zN [(64, _)] rfl rfl rfl rfl gv2 ⟨rfl, rfl, trivial⟩ (fun g5_24 => qB rfl el30 rfl) rfl ?_
   refine zN [(65, _)] rfl rfl rfl rfl gv2 ⟨rfl, rfl, trivial⟩ (fun g5_24 => yX rfl rfl rfl) rfl ?_
   refine zN [(62, _)] rfl rfl rfl rfl gv2 ⟨rfl, rfl, trivial⟩ (fun g5_20 => yD rfl rfl rfl rfl (fun h => yQ (by assumption) (lzf h))) rfl ?_
   refine zN [(58, _)] rfl rfl rfl rfl gv1 ⟨rfl, rfl, trivial⟩ (fun g5_16 => qM rfl rfl rfl (fun h => yQ (by assumption) h) rfl) rfl ?_
   refine zA rfl rfl (yD rfl rfl rfl rfl (fun h => (lzf h))) ?_
   refine zH ?_
   refine zR rfl (fun c3 => ?_) (fun c3 => ?_)
   ·have h3 := plain3 (e := e) c3
    refine zE ?_
    refine zB rfl ?_
    refine zA rfl rfl (zC rfl rfl) ?_
    refine zH ?_
    refine zS ?_
    repeat (first | refine zO ?_ | refine zM ?_)
    refine fin1 (rs_c rfl) ?_
    exact congrArg vB (syn3 h3)
   ·have h3 := plain3 (e := e) c3
    refine zT ?_
    refine zE ?_
    refine zE ?_
    refine zB rfl ?_
    refine zA rfl rfl (zC rfl rfl) ?_
    refine zH ?_
    refine qA ?_
    refine qQ ⟨[(3, .c _), (1, .c _)], [_]⟩ (Weak.mk [true] ⟨VLe.of_eq rfl, VLe.of_eq rfl, trivial⟩ rfl) ?_
    refine qR 1 0 rfl rfl (Nat) (fun k => [(3, vI k)]) (fun k => []) (fun k => k ≤ e.Idx.length ∧ (e.Idx.all wellIx = (e.Idx.drop k).all wellIx)) (fun k => e.Idx.length - k) ⟨0, ⟨by omega, rfl⟩, Weak.mk [true] ⟨VLe.refl _, VLe.refl _, trivial⟩ rfl⟩ ?_
    rintro k ⟨hk, hp⟩
    refine zE ?_
    refine zE ?_
    refine zB rfl ?_
    refine zA rfl rfl (zF rfl rfl) ?_
    refine zA rfl rfl (zJ rfl kN rfl) ?_
    refine zA rfl rfl (zK rfl one30 rfl (zP 0 rfl) rfl) ?_
    refine zA rfl rfl (qB rfl el30 rfl) ?_
    refine zA rfl rfl (qS rfl rfl rfl) ?_
    refine zH ?_
    refine zR rfl (fun c4 => ?_) (fun c4 => ?_)
    ·try simp only [sx, List.length_map] at c4
     obtain ⟨x, hx⟩ := yL e.Idx k (by omega)
     refine zT ?_
     refine zE ?_
     refine qA ?_
     refine zE ?_
     refine zB rfl ?_
     refine zA rfl rfl (zJ rfl kN rfl) ?_
     refine zA rfl rfl (zK rfl one30 rfl (zP 0 rfl) rfl) ?_
     refine zA rfl rfl (zF rfl rfl) ?_
     refine zA rfl rfl (zX rfl el30 rfl rfl (by omega) (getm (by assumption))) ?_
     refine zA rfl rfl (zQ rfl agg117 rfl qK rfl) ?_
     refine qC rfl rfl (qH [none, some 2, none, some 2] rfl zr117 rfl) ?_
     rintro _ _ ⟨b2, rfl, rfl⟩
     refine zY rfl rfl (zU rfl sz117 rfl rfl rfl (qI 0 rfl rfl)) ?_
     refine zH ?_
     refine zE ?_
     refine zB rfl ?_
     refine zA rfl rfl (zJ rfl fd117_1 rfl) ?_
     refine zA rfl rfl (zK rfl one9 rfl (zP 0 rfl) rfl) ?_
     refine zA rfl rfl (yJ rfl rfl rfl) ?_
     refine zA rfl rfl (zF rfl rfl) ?_
     refine zN [] rfl rfl rfl rfl gv1 trivial (fun g11_3 => zJ rfl kZ rfl) rfl ?_
     refine zN [(86, _)] rfl rfl rfl rfl gv1 ⟨rfl, rfl, trivial⟩ (fun g11_3 => zK rfl one104 rfl (zP 0 rfl) rfl) rfl ?_
     refine zN [(87, _)] rfl rfl rfl rfl gv1 ⟨rfl, rfl, trivial⟩ (fun g11_3 => qB rfl el104 rfl) rfl ?_
     refine zN [(88, _)] rfl rfl rfl rfl gv1 ⟨rfl, rfl, trivial⟩ (fun g11_3 => yX rfl rfl rfl) rfl ?_
     refine zA rfl rfl (qM rfl rfl rfl (fun h => h) rfl) ?_
     refine zA rfl rfl (zF rfl rfl) ?_
     refine zN [] rfl rfl rfl rfl gv1 trivial (fun g11_9 => zJ rfl fd117_1 rfl) rfl ?_
     refine zN [(92, _)] rfl rfl rfl rfl gv1 ⟨rfl, rfl, trivial⟩ (fun g11_9 => zK rfl one9 rfl (zP 0 rfl) rfl) rfl ?_
     refine zN [(93, _)] rfl rfl rfl rfl gv1 ⟨rfl, rfl, trivial⟩ (fun g11_9 => det_sneq rfl rfl rfl) rfl ?_
     refine zN [(94, _)] rfl rfl rfl rfl gv1 ⟨rfl, rfl, trivial⟩ (fun g11_9 => zF rfl rfl) rfl ?_
     refine zN [] rfl rfl rfl rfl gv2 trivial (fun g11_13 => zJ rfl fd117_0 rfl) rfl ?_
     refine zN [(96, _)] rfl rfl rfl rfl gv2 ⟨rfl, rfl, trivial⟩ (fun g11_13 => zJ rfl fd29_0 rfl) rfl ?_
     refine zN [(97, _)] rfl rfl rfl rfl gv2 ⟨rfl, rfl, trivial⟩ (fun g11_13 => zK rfl one2 rfl (zP 0 rfl) rfl) rfl ?_
     refine zN [(98, _)] rfl rfl rfl rfl gv2 ⟨rfl, rfl, trivial⟩ (fun g11_13 => qV rfl rfl rfl) rfl ?_
     refine zN [(99, _)] rfl rfl rfl rfl gv2 ⟨rfl, rfl, trivial⟩ (fun g11_13 => zF rfl rfl) rfl ?_
     refine zN [] rfl rfl rfl rfl gv2 trivial (fun g11_18 => zJ rfl fd117_0 rfl) rfl ?_
     refine zN [(101, _)] rfl rfl rfl rfl gv2 ⟨rfl, rfl, trivial⟩ (fun g11_18 => zJ rfl yI rfl) rfl ?_
     refine zN [(102, _)] rfl rfl rfl rfl gv2 ⟨rfl, rfl, trivial⟩ (fun g11_18 => zK rfl kH rfl (zP 0 rfl) rfl) rfl ?_
     refine zN [(103, _)] rfl rfl rfl rfl gv2 ⟨rfl, rfl, trivial⟩ (fun g11_18 => qB rfl el27 rfl) rfl ?_
     refine zN [(104, _)] rfl rfl rfl rfl gv2 ⟨rfl, rfl, trivial⟩ (fun g11_18 => yX rfl rfl rfl) rfl ?_
     refine zN [(100, _)] rfl rfl rfl rfl gv2 ⟨rfl, rfl, trivial⟩ (fun g11_13 => yD rfl rfl rfl rfl (fun h => yQ (by assumption) (lzf h))) rfl ?_
     refine zN [(95, _)] rfl rfl rfl rfl gv1 ⟨rfl, rfl, trivial⟩ (fun g11_9 => qM rfl rfl rfl (fun h => yQ (by assumption) h) rfl) rfl ?_
     refine zA rfl rfl (yD rfl rfl rfl rfl (fun h => (lzf h))) ?_
     refine zH ?_
     refine zR rfl (fun c5 => ?_) (fun c5 => ?_)
     ·have h5 := well_dec (x := x) c5
      refine zE ?_
      refine zB rfl ?_
      refine zA rfl rfl (zC rfl rfl) ?_
      refine zH ?_
      refine zS ?_
      repeat (first | refine zO ?_ | refine zM ?_)
      refine fin1 (rs_c rfl) ?_
      exact congrArg vB (by rw [synOk, all_no hx (p := wellIx) (by simpa using h5)]; simp)
     ·have h5 := well_dec (x := x) c5
      refine zT ?_
      refine zB rfl ?_
      refine zA rfl rfl (zF rfl rfl) ?_
      refine zA rfl rfl (qL rfl rfl rfl ⟨by omega, by omega⟩) ?_
      refine zA rfl rfl (zC rfl rfl) ?_
      refine zH ?_
      refine ⟨k + 1, ⟨by omega, all_take hx hp (by simpa using h5)⟩, (by omega), Weak.mk [false, true] ⟨VLe.refl _, VLe.refl _, trivial⟩ rfl⟩
    ·try simp only [sx, List.length_map] at c4
     refine qU ?_
     refine zE ?_
     refine zB rfl ?_
     refine zA rfl rfl (zC rfl rfl) ?_
     refine zH ?_
     refine zS ?_
     repeat (first | refine zO ?_ | refine zM ?_)
     refine fin1 (rs_c rfl) ?_
     exact congrArg vB (syn5 c1 h2 h3 (all_end hp (by omega)))

theorem ref14_named (e : Ex) (he : e.wt ≤ 6000000000000) :
    Pur cfg 170 [vE e] (vB (namesE e)) := by
 refine zZ Tryz.func170 rfl Tryz.ntmps170 Tryz.results170 rfl ?_
 intro z hz
 obtain ⟨hL, hI, hA⟩ := e.parts he
 refine zE ?_
 refine zB rfl ?_
 refine qC rfl rfl (qN rfl rfl) ?_
 rintro _ _ ⟨b1, rfl, rfl⟩
 refine zA rfl rfl (zC rfl rfl) ?_
 refine zH ?_
 refine zE ?_
 refine zE ?_
 refine zB rfl ?_
 refine zA rfl rfl (zJ rfl yW rfl) ?_
 refine zA rfl rfl (zK rfl one3 rfl (zP 0 rfl) rfl) ?_
 refine zA rfl rfl (qJ rfl rfl rfl) ?_
 refine zA rfl rfl (zF rfl rfl) ?_
 refine zN [] rfl rfl rfl rfl gv1 trivial (fun g1_3 => zJ rfl fd33_1 rfl) rfl ?_
 refine zN [(8, _)] rfl rfl rfl rfl gv1 ⟨rfl, rfl, trivial⟩ (fun g1_3 => zK rfl one9 rfl (zP 0 rfl) rfl) rfl ?_
 refine zN [(9, _)] rfl rfl rfl rfl gv1 ⟨rfl, rfl, trivial⟩ (fun g1_3 => zW rfl ok36 (base_Name _) ⟨VLe.refl _, rfl, trivial⟩) rfl ?_
 refine zN [(10, _)] rfl rfl rfl rfl gv1 ⟨rfl, rfl, trivial⟩ (fun g1_3 => qY rfl rfl) rfl ?_
 refine zA rfl rfl (qM rfl rfl rfl (fun h => h) rfl) ?_
 refine zH ?_
 refine zR rfl (fun c1 => ?_) (fun c1 => ?_)
 ·refine zE ?_
  refine zB rfl ?_
  refine zA rfl rfl (zC rfl rfl) ?_
  refine zH ?_
  refine zS ?_
  repeat (first | refine zO ?_ | refine zM ?_)
  refine fin1 (rs_c rfl) ?_
  exact congrArg vB (by simp only [namesE, c1, Bool.not_true, Bool.false_and])
 ·refine zT ?_
  refine zE ?_
  refine zE ?_
  refine zB rfl ?_
  refine zA rfl rfl (zC rfl rfl) ?_
  refine zH ?_
  refine qA ?_
  refine qQ ⟨[(3, .c _), (1, .c _)], [_]⟩ (Weak.mk [true] ⟨VLe.of_eq rfl, VLe.of_eq rfl, trivial⟩ rfl) ?_
  refine qR 1 0 rfl rfl (Nat) (fun k => [(3, vI k)]) (fun k => []) (fun k => k ≤ e.Idx.length ∧ (e.Idx.all nmIx = (e.Idx.drop k).all nmIx)) (fun k => e.Idx.length - k) ⟨0, ⟨by omega, rfl⟩, Weak.mk [true] ⟨VLe.refl _, VLe.refl _, trivial⟩ rfl⟩ ?_
  rintro k ⟨hk, hp⟩
  refine zE ?_
  refine zE ?_
  refine zB rfl ?_
  refine zA rfl rfl (zF rfl rfl) ?_
  refine zA rfl rfl (zJ rfl kN rfl) ?_
  refine zA rfl rfl (zK rfl one30 rfl (zP 0 rfl) rfl) ?_
  refine zA rfl rfl (qB rfl el30 rfl) ?_
  refine zA rfl rfl (qS rfl rfl rfl) ?_
  refine zH ?_
  refine zR rfl (fun c2 => ?_) (fun c2 => ?_)
  ·try simp only [sx, List.length_map] at c2
   obtain ⟨x, hx⟩ := yL e.Idx k (by omega)
   refine zT ?_
   refine zE ?_
   refine qA ?_
   refine zE ?_
   refine zB rfl ?_
   refine zA rfl rfl (zJ rfl kN rfl) ?_
   refine zA rfl rfl (zK rfl one30 rfl (zP 0 rfl) rfl) ?_
   refine zA rfl rfl (zF rfl rfl) ?_
   refine zA rfl rfl (zX rfl el30 rfl rfl (by omega) (getm (by assumption))) ?_
   refine zA rfl rfl (qG rfl fd117_1 rfl) ?_
   refine zA rfl rfl (zK rfl one9 rfl qK rfl) ?_
   refine zA rfl rfl (det_sneq rfl rfl rfl) ?_
   refine zA rfl rfl (zF rfl rfl) ?_
   refine zN [] rfl rfl rfl rfl gv1 trivial (fun g6_7 => zJ rfl kN rfl) rfl ?_
   refine zN [(28, _)] rfl rfl rfl rfl gv1 ⟨rfl, rfl, trivial⟩ (fun g6_7 => zK rfl one30 rfl (zP 0 rfl) rfl) rfl ?_
   refine zN [] rfl rfl rfl rfl gv1 trivial (fun g6_7 => zF rfl rfl) rfl ?_
   refine zN [(29, _), (30, _)] rfl rfl rfl rfl gv1 ⟨rfl, rfl, rfl, rfl, trivial⟩ (fun g6_7 => zX rfl el30 rfl rfl (by omega) (getm (by assumption))) rfl ?_
   refine zN [(31, _)] rfl rfl rfl rfl gv1 ⟨rfl, rfl, trivial⟩ (fun g6_7 => qG rfl fd117_1 rfl) rfl ?_
   refine zN [(32, _)] rfl rfl rfl rfl gv1 ⟨rfl, rfl, trivial⟩ (fun g6_7 => zK rfl one9 rfl qK rfl) rfl ?_
   refine zN [(33, _)] rfl rfl rfl rfl gv1 ⟨rfl, rfl, trivial⟩ (fun g6_7 => zW rfl ok36 (base_Name _) ⟨VLe.refl _, rfl, trivial⟩) rfl ?_
   refine zN [(34, _)] rfl rfl rfl rfl gv1 ⟨rfl, rfl, trivial⟩ (fun g6_7 => qY rfl rfl) rfl ?_
   refine zA rfl rfl (qM rfl rfl rfl (fun h => h) rfl) ?_
   refine zH ?_
   refine zR rfl (fun c3 => ?_) (fun c3 => ?_)
   ·refine zE ?_
    refine zB rfl ?_
    refine zA rfl rfl (zC rfl rfl) ?_
    refine zH ?_
    refine zS ?_
    repeat (first | refine zO ?_ | refine zM ?_)
    refine fin1 (rs_c rfl) ?_
    exact congrArg vB (by rw [namesE, all_no hx (p := nmIx) (by unfold nmIx; rw [c3]; rfl)]; simp)
   ·refine zT ?_
    refine zB rfl ?_
    refine zA rfl rfl (zF rfl rfl) ?_
    refine zA rfl rfl (qL rfl rfl rfl ⟨by omega, by omega⟩) ?_
    refine zA rfl rfl (zC rfl rfl) ?_
    refine zH ?_
    refine ⟨k + 1, ⟨by omega, all_take hx hp (by unfold nmIx; rw [c3]; rfl)⟩, (by omega), Weak.mk [true] ⟨VLe.refl _, VLe.refl _, trivial⟩ rfl⟩
  ·try simp only [sx, List.length_map] at c2
   refine qU ?_
   refine zE ?_
   refine zB rfl ?_
   refine zA rfl rfl (zC rfl rfl) ?_
   refine zH ?_
   refine zS ?_
   repeat (first | refine zO ?_ | refine zM ?_)
   refine fin1 (rs_c rfl) ?_
   exact congrArg vB (by rw [namesE, c1, all_end hp (by omega)]; rfl)

theorem ref14_ranked (e : Ex) (he : e.wt ≤ 6000000000000) :
    Pur cfg 171 [vE e] (vB (rankE e)) := by
 refine zZ Tryz.func171 rfl Tryz.ntmps171 Tryz.results171 rfl ?_
 intro z hz
 obtain ⟨hL, hI, hA⟩ := e.parts he
 refine zE ?_
 refine zB rfl ?_
 refine qC rfl rfl (qN rfl rfl) ?_
 rintro _ _ ⟨b1, rfl, rfl⟩
 refine zA rfl rfl (zC rfl rfl) ?_
 refine zH ?_
 refine zE ?_
 refine zE ?_
 refine yG 13 mixed (by kernel_rfl) rfl rfl ?_
 refine zV rfl rfl (zJ rfl kE rfl) ?_
 refine zV rfl rfl (zK rfl wC rfl (zP 0 rfl) rfl) ?_
 refine zV rfl rfl (qB rfl el31 rfl) ?_
 refine zV rfl rfl (zJ rfl yW rfl) ?_
 refine zV rfl rfl (zK rfl one3 rfl (zP 0 rfl) rfl) ?_
 refine zV rfl rfl (zW rfl ok211 (brocaderef14_args _) ⟨VLe.refl _, rfl, trivial⟩) ?_
 refine zV rfl rfl (qV rfl rfl rfl) ?_
 refine zV rfl rfl (zF rfl rfl) ?_
 refine qE [] rfl rfl rfl rfl gv1 trivial (fun g1_7 => zJ rfl kN rfl) rfl ?_
 refine qE [(12, _)] rfl rfl rfl rfl gv1 ⟨rfl, rfl, trivial⟩ (fun g1_7 => zK rfl one30 rfl (zP 0 rfl) rfl) rfl ?_
 refine qE [(13, _)] rfl rfl rfl rfl gv1 ⟨rfl, rfl, trivial⟩ (fun g1_7 => qB rfl el30 rfl) rfl ?_
 refine qE [(14, _)] rfl rfl rfl rfl gv1 ⟨rfl, rfl, trivial⟩ (fun g1_7 => yX rfl rfl rfl) rfl ?_
 refine zV rfl rfl (yD rfl rfl rfl rfl (fun h => (lzf h))) ?_
 refine kB ?_
 refine zH ?_
 refine zR rfl (fun c1 => ?_) (fun c1 => ?_)
 ·refine zE ?_
  refine zB rfl ?_
  refine zA rfl rfl (zC rfl rfl) ?_
  refine zH ?_
  refine zS ?_
  repeat (first | refine zO ?_ | refine zM ?_)
  refine fin1 (rs_c rfl) ?_
  exact congrArg vB (by simp only [rankE, c1, Bool.not_true, Bool.false_and])
 ·refine zT ?_
  refine zE ?_
  refine zE ?_
  refine zB rfl ?_
  refine zA rfl rfl (zC rfl rfl) ?_
  refine zH ?_
  refine qA ?_
  refine qQ ⟨[(3, .c _), (1, .c _)], [_]⟩ (Weak.mk [true] ⟨VLe.of_eq rfl, VLe.of_eq rfl, trivial⟩ rfl) ?_
  refine qR 1 0 rfl rfl (Nat) (fun k => [(3, vI k)]) (fun k => []) (fun k => k ≤ e.Idx.length ∧ (e.Idx.all rkIx = (e.Idx.drop k).all rkIx)) (fun k => e.Idx.length - k) ⟨0, ⟨by omega, rfl⟩, Weak.mk [true] ⟨VLe.refl _, VLe.refl _, trivial⟩ rfl⟩ ?_
  rintro k ⟨hk, hp⟩
  refine zE ?_
  refine zE ?_
  refine zB rfl ?_
  refine zA rfl rfl (zF rfl rfl) ?_
  refine zA rfl rfl (zJ rfl kN rfl) ?_
  refine zA rfl rfl (zK rfl one30 rfl (zP 0 rfl) rfl) ?_
  refine zA rfl rfl (qB rfl el30 rfl) ?_
  refine zA rfl rfl (qS rfl rfl rfl) ?_
  refine zH ?_
  refine zR rfl (fun c2 => ?_) (fun c2 => ?_)
  ·try simp only [sx, List.length_map] at c2
   obtain ⟨x, hx⟩ := yL e.Idx k (by omega)
   refine zT ?_
   refine zE ?_
   refine qA ?_
   refine zE ?_
   refine zB rfl ?_
   refine zA rfl rfl (zJ rfl kN rfl) ?_
   refine zA rfl rfl (zK rfl one30 rfl (zP 0 rfl) rfl) ?_
   refine zA rfl rfl (zF rfl rfl) ?_
   refine zA rfl rfl (zX rfl el30 rfl rfl (by omega) (getm (by assumption))) ?_
   refine zA rfl rfl (qG rfl kZ rfl) ?_
   refine zA rfl rfl (zK rfl one104 rfl qK rfl) ?_
   refine zA rfl rfl (qB rfl el104 rfl) ?_
   refine zA rfl rfl (yX rfl rfl rfl) ?_
   refine zH ?_
   refine zR rfl (fun c3 => ?_) (fun c3 => ?_)
   ·refine zE ?_
    refine zB rfl ?_
    refine zA rfl rfl (zC rfl rfl) ?_
    refine zH ?_
    refine zS ?_
    repeat (first | refine zO ?_ | refine zM ?_)
    refine fin1 (rs_c rfl) ?_
    exact congrArg vB (by rw [rankE, all_no hx (p := rkIx) (by unfold rkIx; rw [c3]; rfl)]; simp)
   ·refine zT ?_
    refine zB rfl ?_
    refine zA rfl rfl (zF rfl rfl) ?_
    refine zA rfl rfl (qL rfl rfl rfl ⟨by omega, by omega⟩) ?_
    refine zA rfl rfl (zC rfl rfl) ?_
    refine zH ?_
    refine ⟨k + 1, ⟨by omega, all_take hx hp (by unfold rkIx; rw [c3]; rfl)⟩, (by omega), Weak.mk [true] ⟨VLe.refl _, VLe.refl _, trivial⟩ rfl⟩
  ·try simp only [sx, List.length_map] at c2
   refine qU ?_
   refine zE ?_
   refine zB rfl ?_
   refine zA rfl rfl (zC rfl rfl) ?_
   refine zH ?_
   refine zS ?_
   repeat (first | refine zO ?_ | refine zM ?_)
   refine fin1 (rs_c rfl) ?_
   exact congrArg vB (by rw [rankE, c1, all_end hp (by omega)]; rfl)

theorem ref14_formed (e : Ex) (he : e.wt ≤ 6000000000000) (hty : e.Op = 1 → tyOk e.Ty = true) :
    Pur cfg 173 [vE e] (vB (formOk e)) := by
 refine zZ Tryz.func173 rfl Tryz.ntmps173 Tryz.results173 rfl ?_
 intro z hz
 obtain ⟨hL, hI, hA⟩ := e.parts he
 refine zE ?_
 refine zB rfl ?_
 refine qC rfl rfl (qN rfl rfl) ?_
 rintro _ _ ⟨b1, rfl, rfl⟩
 refine zA rfl rfl (zC rfl rfl) ?_
 refine zH ?_
 refine zE ?_
 refine zE ?_
 refine zB rfl ?_
 refine zA rfl rfl (zJ rfl yW rfl) ?_
 refine zA rfl rfl (zK rfl one3 rfl (zP 0 rfl) rfl) ?_
 refine zA rfl rfl (qJ rfl rfl rfl) ?_
 refine zA rfl rfl (zF rfl rfl) ?_
 refine zN [] rfl rfl rfl rfl gv1 trivial (fun g1_3 => zJ rfl fd33_3 rfl) rfl ?_
 refine zN [(9, _)] rfl rfl rfl rfl gv1 ⟨rfl, rfl, trivial⟩ (fun g1_3 => zQ rfl agg23 rfl (zP 0 rfl) rfl) rfl ?_
 refine zN [] rfl rfl rfl rfl gv1 trivial (fun g1_3 => zJ rfl fd33_2 rfl) rfl ?_
 refine zN [(11, _)] rfl rfl rfl rfl gv1 ⟨rfl, rfl, trivial⟩ (fun g1_3 => zQ rfl agg26 rfl (zP 0 rfl) rfl) rfl ?_
 refine zN [(10, _), (12, _)] rfl rfl rfl rfl gv1 ⟨rfl, rfl, rfl, rfl, trivial⟩ (fun g1_3 => zW rfl ok213 (base_Val e.Ty e.Val (hty (by simp only [Lz, cond_true, cond_false, Bool.and_eq_true, Bool.or_eq_true, Bool.not_eq_true', Bool.not_eq_false', Bool.or_eq_false_iff, Bool.and_eq_false_iff, decide_eq_true_eq, decide_eq_false_iff_not, Bool.not_eq_true, Bool.not_eq_false] at g1_3; exact g1_3))) ⟨VLe.refl _, rfl, VLe.refl _, rfl, trivial⟩) rfl ?_
 refine zN [(13, _)] rfl rfl rfl rfl gv1 ⟨rfl, rfl, trivial⟩ (fun g1_3 => qY rfl rfl) rfl ?_
 refine zA rfl rfl (qM rfl rfl rfl (fun h => h) rfl) ?_
 refine zA rfl rfl (zF rfl rfl) ?_
 refine zN [] rfl rfl rfl rfl gv1 trivial (fun g1_11 => zJ rfl fd33_4 rfl) rfl ?_
 refine zN [(17, _)] rfl rfl rfl rfl gv1 ⟨rfl, rfl, trivial⟩ (fun g1_11 => zQ rfl yB rfl (zP 0 rfl) rfl) rfl ?_
 refine zN [(18, _)] rfl rfl rfl rfl gv1 ⟨rfl, rfl, trivial⟩ (fun g1_11 => zW rfl ok35 (base_LinRight e.Lin hL) ⟨VLe.refl _, rfl, trivial⟩) rfl ?_
 refine zN [(19, _)] rfl rfl rfl rfl gv1 ⟨rfl, rfl, trivial⟩ (fun g1_11 => qY rfl rfl) rfl ?_
 refine zA rfl rfl (yD rfl rfl rfl rfl (fun h => (lzf h))) ?_
 refine zH ?_
 refine zR rfl (fun c1 => ?_) (fun c1 => ?_)
 ·refine zE ?_
  refine zB rfl ?_
  refine zA rfl rfl (zC rfl rfl) ?_
  refine zH ?_
  refine zS ?_
  repeat (first | refine zO ?_ | refine zM ?_)
  refine fin1 (rs_c rfl) ?_
  exact congrArg vB (form_no c1)
 ·refine zT ?_
  refine zE ?_
  refine zE ?_
  refine zB rfl ?_
  refine zA rfl rfl (zC rfl rfl) ?_
  refine zH ?_
  refine qA ?_
  refine qQ ⟨[(3, .c _), (1, .c _)], [_]⟩ (Weak.mk [true] ⟨VLe.of_eq rfl, VLe.of_eq rfl, trivial⟩ rfl) ?_
  refine qR 1 0 rfl rfl (Nat) (fun k => [(3, vI k)]) (fun k => []) (fun k => k ≤ e.Idx.length ∧ ((formsL e).all linOk = ((e.Idx.drop k).flatMap fun x => x.Lin :: x.At).all linOk)) (fun k => e.Idx.length - k) ⟨0, ⟨by omega, form_start c1⟩, Weak.mk [true] ⟨VLe.refl _, VLe.refl _, trivial⟩ rfl⟩ ?_
  rintro k ⟨hk, hp⟩
  refine zE ?_
  refine zE ?_
  refine zB rfl ?_
  refine zA rfl rfl (zF rfl rfl) ?_
  refine zA rfl rfl (zJ rfl kN rfl) ?_
  refine zA rfl rfl (zK rfl one30 rfl (zP 0 rfl) rfl) ?_
  refine zA rfl rfl (qB rfl el30 rfl) ?_
  refine zA rfl rfl (qS rfl rfl rfl) ?_
  refine zH ?_
  refine zR rfl (fun c2 => ?_) (fun c2 => ?_)
  ·try simp only [sx, List.length_map] at c2
   obtain ⟨x, hx⟩ := yL e.Idx k (by omega)
   have hxw := Ex.idx_wt (qF hx)
   refine zT ?_
   refine zE ?_
   refine qA ?_
   refine zE ?_
   refine zE ?_
   refine zB rfl ?_
   refine zA rfl rfl (zJ rfl kN rfl) ?_
   refine zA rfl rfl (zK rfl one30 rfl (zP 0 rfl) rfl) ?_
   refine zA rfl rfl (zF rfl rfl) ?_
   refine zA rfl rfl (zX rfl el30 rfl rfl (by omega) (getm (by assumption))) ?_
   refine zA rfl rfl (qG rfl fd117_0 rfl) ?_
   refine zA rfl rfl (zQ rfl yB rfl qK rfl) ?_
   refine zA rfl rfl (zW rfl ok35 (base_LinRight x.Lin (by omega)) ⟨VLe.refl _, rfl, trivial⟩) ?_
   refine zA rfl rfl (qY rfl rfl) ?_
   refine zH ?_
   refine zR rfl (fun c3 => ?_) (fun c3 => ?_)
   ·try simp only [sx, List.length_map] at c3
    refine zE ?_
    refine zB rfl ?_
    refine zA rfl rfl (zC rfl rfl) ?_
    refine zH ?_
    refine zS ?_
    repeat (first | refine zO ?_ | refine zM ?_)
    refine fin1 (rs_c rfl) ?_
    exact congrArg vB (form_no2 hp (by rw [yC hx, List.flatMap_cons, List.all_append, List.all_cons, c3]; rfl))
   ·try simp only [sx, List.length_map] at c3
    refine zT ?_
    refine zE ?_
    refine zB rfl ?_
    refine zA rfl rfl (zC rfl rfl) ?_
    refine zH ?_
    refine qA ?_
    refine qQ ⟨[(4, .c _), (1, .c _), (3, .c _)], [_]⟩ (Weak.mk [true] ⟨VLe.of_eq rfl, VLe.of_eq rfl, VLe.of_eq rfl, trivial⟩ rfl) ?_
    refine qR 1 0 rfl rfl (Nat) (fun j => [(4, vI j)]) (fun j => []) (fun j => j ≤ x.At.length ∧ (x.At.all linOk = (x.At.drop j).all linOk)) (fun j => x.At.length - j) ⟨0, ⟨by omega, rfl⟩, Weak.mk [true] ⟨VLe.refl _, VLe.refl _, VLe.refl _, trivial⟩ rfl⟩ ?_
    rintro j ⟨hj, hq⟩
    refine zE ?_
    refine zE ?_
    refine zB rfl ?_
    refine zA rfl rfl (zF rfl rfl) ?_
    refine zA rfl rfl (zJ rfl kN rfl) ?_
    refine zA rfl rfl (zK rfl one30 rfl (zP 0 rfl) rfl) ?_
    refine zA rfl rfl (zF rfl rfl) ?_
    refine zA rfl rfl (zX rfl el30 rfl rfl (by omega) (getm (by assumption))) ?_
    refine zA rfl rfl (qG rfl kZ rfl) ?_
    refine zA rfl rfl (zK rfl one104 rfl qK rfl) ?_
    refine zA rfl rfl (qB rfl el104 rfl) ?_
    refine zA rfl rfl (qS rfl rfl rfl) ?_
    refine zH ?_
    refine zR rfl (fun c4 => ?_) (fun c4 => ?_)
    ·try simp only [sx, List.length_map] at c4
     obtain ⟨l, hl⟩ := yL x.At j (by omega)
     have hlw := linsWt_mem (qF hl)
     refine zT ?_
     refine zE ?_
     refine qA ?_
     refine zE ?_
     refine zB rfl ?_
     refine zA rfl rfl (zJ rfl kN rfl) ?_
     refine zA rfl rfl (zK rfl one30 rfl (zP 0 rfl) rfl) ?_
     refine zA rfl rfl (zF rfl rfl) ?_
     refine zA rfl rfl (zX rfl el30 rfl rfl (by omega) (getm (by assumption))) ?_
     refine zA rfl rfl (qG rfl kZ rfl) ?_
     refine zA rfl rfl (zK rfl one104 rfl qK rfl) ?_
     refine zA rfl rfl (zF rfl rfl) ?_
     refine zA rfl rfl (zX rfl el104 rfl rfl (by omega) (getm (by assumption))) ?_
     refine zA rfl rfl (zQ rfl yB rfl qK rfl) ?_
     refine zA rfl rfl (zW rfl ok35 (base_LinRight l (by omega)) ⟨VLe.refl _, rfl, trivial⟩) ?_
     refine zA rfl rfl (qY rfl rfl) ?_
     refine zH ?_
     refine zR rfl (fun c5 => ?_) (fun c5 => ?_)
     ·try simp only [sx, List.length_map] at c5
      refine zE ?_
      refine zB rfl ?_
      refine zA rfl rfl (zC rfl rfl) ?_
      refine zH ?_
      refine zS ?_
      repeat (first | refine zO ?_ | refine zM ?_)
      refine fin1 (rs_c rfl) ?_
      exact congrArg vB (form_no2 hp (by rw [yC hx, List.flatMap_cons, List.all_append, List.all_cons, all_no hl (p := linOk) c5]; simp))
     ·try simp only [sx, List.length_map] at c5
      refine zT ?_
      refine zB rfl ?_
      refine zA rfl rfl (zF rfl rfl) ?_
      refine zA rfl rfl (qL rfl rfl rfl ⟨by omega, by omega⟩) ?_
      refine zA rfl rfl (zC rfl rfl) ?_
      refine zH ?_
      refine ⟨j + 1, ⟨by omega, all_take hl hq c5⟩, (by omega), Weak.mk [true] ⟨VLe.refl _, VLe.refl _, VLe.refl _, trivial⟩ rfl⟩
    ·try simp only [sx, List.length_map] at c4
     refine qU ?_
     refine zB rfl ?_
     refine zA rfl rfl (zF rfl rfl) ?_
     refine zA rfl rfl (qL rfl rfl rfl ⟨by omega, by omega⟩) ?_
     refine zA rfl rfl (zC rfl rfl) ?_
     refine zH ?_
     refine ⟨k + 1, ⟨by omega, (by rw [hp, yC hx, List.flatMap_cons, List.all_append, List.all_cons, c3, all_end hq (by omega)]; rfl)⟩, (by omega), Weak.mk [true] ⟨VLe.refl _, VLe.refl _, trivial⟩ rfl⟩
  ·try simp only [sx, List.length_map] at c2
   refine qU ?_
   refine zE ?_
   refine zB rfl ?_
   refine zA rfl rfl (zC rfl rfl) ?_
   refine zH ?_
   refine zS ?_
   repeat (first | refine zO ?_ | refine zM ?_)
   refine fin1 (rs_c rfl) ?_
   exact congrArg vB (form_yes c1 (by rw [hp, kL (by omega)]; rfl))

theorem ref14_part_step (e : Ex) (ih : ∀ a, a ∈ e.Args → a.wt ≤ 6000000000000 → Pur cfg 105 [vE a] (vI (partE a))) (he : e.wt ≤ 6000000000000) :
    Pur cfg 105 [vE e] (vI (partE e)) := by
 refine zZ Tryz.func105 rfl Tryz.ntmps105 Tryz.results105 rfl ?_
 intro z hz
 obtain ⟨hL, hI, hA⟩ := e.parts he
 refine zE ?_
 refine zB rfl ?_
 refine qC rfl rfl (qN rfl rfl) ?_
 rintro _ _ ⟨b1, rfl, rfl⟩
 refine zA rfl rfl (zC rfl rfl) ?_
 refine zH ?_
 refine zE ?_
 refine qA ?_
 refine zE ?_
 refine zB rfl ?_
 refine zA rfl rfl (zQ rfl yA rfl (zP 0 rfl) rfl) ?_
 refine zA rfl rfl (zW rfl ok169 (ref14_plain e he) ⟨VLe.refl _, rfl, trivial⟩) ?_
 refine zA rfl rfl (qY rfl rfl) ?_
 refine zA rfl rfl (zC rfl rfl) ?_
 refine zH ?_
 refine zR rfl (fun c1 => ?_) (fun c1 => ?_)
 ·try simp only [sx, List.length_map] at c1
  refine zE ?_
  refine zB rfl ?_
  refine zA rfl rfl (zC rfl rfl) ?_
  refine zH ?_
  refine zS ?_
  repeat (first | refine zO ?_ | refine zM ?_)
  refine fin1 (rs_c rfl) ?_
  exact congrArg vI (by rw [partE_eq, show nodeErr e = 5 by simp only [nodeErr, c1]; rfl]; rfl)
 ·try simp only [sx, List.length_map] at c1
  refine zE ?_
  refine zB rfl ?_
  refine zA rfl rfl (zQ rfl yA rfl (zP 0 rfl) rfl) ?_
  refine zA rfl rfl (zW rfl ok170 (ref14_named e he) ⟨VLe.refl _, rfl, trivial⟩) ?_
  refine zA rfl rfl (qY rfl rfl) ?_
  refine zA rfl rfl (zC rfl rfl) ?_
  refine zH ?_
  refine zR rfl (fun c2 => ?_) (fun c2 => ?_)
  ·try simp only [sx, List.length_map] at c2
   refine zE ?_
   refine zB rfl ?_
   refine zA rfl rfl (zC rfl rfl) ?_
   refine zH ?_
   refine zS ?_
   repeat (first | refine zO ?_ | refine zM ?_)
   refine fin1 (rs_c rfl) ?_
   exact congrArg vI (by rw [partE_eq, show nodeErr e = 7 by simp only [nodeErr, c1, c2]; rfl]; rfl)
  ·try simp only [sx, List.length_map] at c2
   refine zE ?_
   refine zB rfl ?_
   refine zA rfl rfl (zQ rfl yA rfl (zP 0 rfl) rfl) ?_
   refine zA rfl rfl (zW rfl ok171 (ref14_ranked e he) ⟨VLe.refl _, rfl, trivial⟩) ?_
   refine zA rfl rfl (qY rfl rfl) ?_
   refine zA rfl rfl (zC rfl rfl) ?_
   refine zH ?_
   refine zR rfl (fun c3 => ?_) (fun c3 => ?_)
   ·try simp only [sx, List.length_map] at c3
    refine zE ?_
    refine zB rfl ?_
    refine zA rfl rfl (zC rfl rfl) ?_
    refine zH ?_
    refine zS ?_
    repeat (first | refine zO ?_ | refine zM ?_)
    refine fin1 (rs_c rfl) ?_
    exact congrArg vI (by rw [partE_eq, show nodeErr e = 11 by simp only [nodeErr, c1, c2, c3]; rfl]; rfl)
   ·try simp only [sx, List.length_map] at c3
    refine zE ?_
    refine zB rfl ?_
    refine zA rfl rfl (zQ rfl yA rfl (zP 0 rfl) rfl) ?_
    refine zA rfl rfl (zW rfl ok172 (ref14_typed e he) ⟨VLe.refl _, rfl, trivial⟩) ?_
    refine zA rfl rfl (qY rfl rfl) ?_
    refine zA rfl rfl (zC rfl rfl) ?_
    refine zH ?_
    refine zR rfl (fun c4 => ?_) (fun c4 => ?_)
    ·try simp only [sx, List.length_map] at c4
     refine zE ?_
     refine zB rfl ?_
     refine zA rfl rfl (zC rfl rfl) ?_
     refine zH ?_
     refine zS ?_
     repeat (first | refine zO ?_ | refine zM ?_)
     refine fin1 (rs_c rfl) ?_
     exact congrArg vI (by rw [partE_eq, show nodeErr e = 10 by simp only [nodeErr, c1, c2, c3, c4]; rfl]; rfl)
    ·try simp only [sx, List.length_map] at c4
     refine zE ?_
     refine zB rfl ?_
     refine zA rfl rfl (zQ rfl yA rfl (zP 0 rfl) rfl) ?_
     refine zA rfl rfl (zW rfl ok173 (ref14_formed e he (types_ty c4)) ⟨VLe.refl _, rfl, trivial⟩) ?_
     refine zA rfl rfl (qY rfl rfl) ?_
     refine zA rfl rfl (zC rfl rfl) ?_
     refine zH ?_
     refine zR rfl (fun c5 => ?_) (fun c5 => ?_)
     ·try simp only [sx, List.length_map] at c5
      refine zE ?_
      refine zB rfl ?_
      refine zA rfl rfl (zC rfl rfl) ?_
      refine zH ?_
      refine zS ?_
      repeat (first | refine zO ?_ | refine zM ?_)
      refine fin1 (rs_c rfl) ?_
      exact congrArg vI (by rw [partE_eq, show nodeErr e = 1 by simp only [nodeErr, c1, c2, c3, c4, c5]; rfl]; rfl)
     ·try simp only [sx, List.length_map] at c5
      have hn : nodeErr e = 0 := by simp only [nodeErr, c1, c2, c3, c4, c5]; rfl
      refine zT ?_
      refine zE ?_
      refine zE ?_
      refine zB rfl ?_
      refine zA rfl rfl (zC rfl rfl) ?_
      refine zH ?_
      refine qA ?_
      refine qQ ⟨[(3, .c _), (1, .c _)], [_]⟩ (Weak.mk [true] ⟨VLe.of_eq rfl, VLe.of_eq rfl, trivial⟩ rfl) ?_
      refine qR 1 0 rfl rfl (Nat) (fun k => [(3, vI k)]) (fun k => []) (fun k => k ≤ e.Args.length ∧ (partL e.Args = partL (e.Args.drop k))) (fun k => e.Args.length - k) ⟨0, ⟨by omega, rfl⟩, Weak.mk [true] ⟨VLe.refl _, VLe.refl _, trivial⟩ rfl⟩ ?_
      rintro k ⟨hk, hp⟩
      refine zE ?_
      refine zE ?_
      refine zB rfl ?_
      refine zA rfl rfl (zF rfl rfl) ?_
      refine zA rfl rfl (zJ rfl kE rfl) ?_
      refine zA rfl rfl (zK rfl wC rfl (zP 0 rfl) rfl) ?_
      refine zA rfl rfl (qB rfl el31 rfl) ?_
      refine zA rfl rfl (qS rfl rfl rfl) ?_
      refine zH ?_
      refine zR rfl (fun c6 => ?_) (fun c6 => ?_)
      ·try simp only [sx, List.length_map] at c6
       obtain ⟨a, ha⟩ := yL e.Args k (by omega)
       refine zT ?_
       refine zE ?_
       refine qA ?_
       refine zE ?_
       refine zB rfl ?_
       refine zA rfl rfl (zJ rfl kE rfl) ?_
       refine zA rfl rfl (zK rfl wC rfl (zP 0 rfl) rfl) ?_
       refine zA rfl rfl (zF rfl rfl) ?_
       refine zA rfl rfl (zX rfl el31 rfl rfl (by omega) (getmE (by assumption))) ?_
       refine zA rfl rfl (zQ rfl yA rfl qK rfl) ?_
       refine zA rfl rfl (zW rfl ok105 (ih a (qF ha) (by have := Ex.arg_wt (qF ha); omega)) ⟨VLe.refl _, rfl, trivial⟩) ?_
       refine zA rfl rfl (zC rfl rfl) ?_
       refine zH ?_
       refine zE ?_
       refine zB rfl ?_
       refine zA rfl rfl (zF rfl rfl) ?_
       refine zA rfl rfl (qV rfl rfl rfl) ?_
       refine zH ?_
       refine zR rfl (fun c7 => ?_) (fun c7 => ?_)
       ·try simp only [sx, List.length_map] at c7
        refine zE ?_
        refine zB rfl ?_
        refine zA rfl rfl (zF rfl rfl) ?_
        refine zA rfl rfl (zC rfl rfl) ?_
        refine zH ?_
        refine zS ?_
        repeat (first | refine zO ?_ | refine zM ?_)
        refine fin1 (rs_c rfl) ?_
        exact congrArg vI (by rw [partE_eq e, hn, kG rfl, cond_true, hp, yC ha, partL_cons, qZ c7]; rfl)
       ·try simp only [sx, List.length_map] at c7
        refine zT ?_
        refine zB rfl ?_
        refine zA rfl rfl (zF rfl rfl) ?_
        refine zA rfl rfl (qL rfl rfl rfl ⟨by omega, by omega⟩) ?_
        refine zA rfl rfl (zC rfl rfl) ?_
        refine zH ?_
        refine ⟨k + 1, ⟨by omega, (by rw [hp, yC ha, partL_cons, kG c7]; rfl)⟩, (by omega), Weak.mk [true] ⟨VLe.refl _, VLe.refl _, trivial⟩ rfl⟩
      ·try simp only [sx, List.length_map] at c6
       refine qU ?_
       refine zE ?_
       refine zB rfl ?_
       refine zA rfl rfl (zC rfl rfl) ?_
       refine zH ?_
       refine zS ?_
       repeat (first | refine zO ?_ | refine zM ?_)
       refine fin1 (rs_c rfl) ?_
       exact congrArg vI (by rw [partE_eq, hn, kG rfl, cond_true, hp, kL (by omega)]; rfl)

theorem ref14_part (e : Ex) (he : e.wt ≤ 6000000000000) : Pur cfg 105 [vE e] (vI (partE e)) := by
  induction e using Ex.ind with
  | _ e ih => exact ref14_part_step e ih he

theorem expr_depth_step (n : Nat) (ih : n ≠ 0 → ∀ (a : Ex) (l : Int), a.wt ≤ 6000000000000 → l = n → Pur cfg 147 [vE a, vI l] (vI (depT (n - 1) a))) (hn : n ≤ 100) (e : Ex) (l : Int) (he : e.wt ≤ 6000000000000) (hl : l = n + 1) :
    Pur cfg 147 [vE e, vI l] (vI (depT n e)) := by
 refine zZ Tryz.func147 rfl Tryz.ntmps147 Tryz.results147 rfl ?_
 intro z hz
 obtain ⟨hL, hI, hA⟩ := e.parts he
 refine zE ?_
 refine zB rfl ?_
 refine qC rfl rfl (qN rfl rfl) ?_
 rintro _ _ ⟨b1, rfl, rfl⟩
 refine zA rfl rfl (zC rfl rfl) ?_
 refine zH ?_
 refine zE ?_
 refine zE ?_
 refine zB rfl ?_
 refine zA rfl rfl (zF rfl rfl) ?_
 refine zA rfl rfl (kQ rfl rfl rfl) ?_
 refine zH ?_
 refine zR rfl (fun c1 => ?_) (fun c1 => ?_)
 ·try simp only [sx, List.length_map] at c1
  obtain rfl : n = 0 := by omega
  refine zE ?_
  refine zB rfl ?_
  refine zA rfl rfl (zF rfl rfl) ?_
  refine zA rfl rfl (zC rfl rfl) ?_
  refine zH ?_
  refine zS ?_
  repeat (first | refine zO ?_ | refine zM ?_)
  refine fin1 (rs_c rfl) ?_
  exact congrArg vI (by rw [hl]; rfl)
 ·try simp only [sx, List.length_map] at c1
  obtain ⟨m, rfl⟩ : ∃ m, n = m + 1 := ⟨n - 1, by omega⟩
  refine zT ?_
  refine zE ?_
  refine zB rfl ?_
  refine zA rfl rfl (zC rfl rfl) ?_
  refine zH ?_
  refine zE ?_
  refine zE ?_
  refine zB rfl ?_
  refine zA rfl rfl (zJ rfl kE rfl) ?_
  refine zA rfl rfl (zK rfl wC rfl (zP 0 rfl) rfl) ?_
  refine zA rfl rfl (qB rfl el31 rfl) ?_
  refine zA rfl rfl (zF rfl rfl) ?_
  refine zH ?_
  refine qA ?_
  refine qQ ⟨[(14, .c _), (5, .c _), (1, .c _), (12, .c _), (13, .c _)], []⟩ (Weak.mk [false] ⟨VLe.of_eq rfl, VLe.of_eq rfl, VLe.of_eq rfl, VLe.of_eq rfl, VLe.of_eq rfl, trivial⟩ rfl) ?_
  refine qR 2 0 rfl rfl (Nat × Int) (fun ⟨k, d⟩ => [(14, vI k), (5, vI d)]) (fun ⟨k, d⟩ => []) (fun ⟨k, d⟩ => k ≤ e.Args.length ∧ (1 ≤ d) ∧ (d ≤ m + 2) ∧ (depT (m + 1) e = depF (depT m) d (e.Args.drop k))) (fun ⟨k, d⟩ => e.Args.length - k) ⟨⟨0, 1⟩, ⟨by omega, by omega, by omega, rfl⟩, Weak.mk [] ⟨VLe.refl _, VLe.of_eq (rfl), VLe.refl _, VLe.refl _, VLe.refl _, trivial⟩ rfl⟩ ?_
  rintro ⟨k, d⟩ ⟨hk, hd1, hd2, hd3⟩
  show AWP _ _ _ _ _ ⟨[(14, vI k), (5, vI d)] ++ _, [] ++ _⟩
  refine zE ?_
  refine zB rfl ?_
  refine zA rfl rfl (qS rfl rfl rfl) ?_
  refine zH ?_
  refine zE ?_
  refine zR rfl (fun c2 => ?_) (fun c2 => ?_)
  ·try simp only [sx, List.length_map] at c2
   obtain ⟨a, ha⟩ := yL e.Args k (by omega)
   have hda := depT_le m a
   refine zT ?_
   refine zE ?_
   refine qA ?_
   refine zE ?_
   refine zB rfl ?_
   refine zA rfl rfl (zX rfl el31 rfl rfl (by omega) (getmE (by assumption))) ?_
   refine zA rfl rfl (zQ rfl yA rfl qK rfl) ?_
   refine qC rfl rfl (qH [none, none, none, none, none, none, none, none, none, none, some 2, some 4, some 13] rfl zr33 rfl) ?_
   rintro _ _ ⟨b2, rfl, rfl⟩
   refine zY rfl rfl (zU rfl sz33 rfl rfl rfl (qI 0 rfl rfl)) ?_
   refine zH ?_
   refine zB rfl ?_
   refine zA rfl rfl (zF rfl rfl) ?_
   refine zA rfl rfl (zQ rfl yA rfl (zP 0 rfl) rfl) ?_
   refine zA rfl rfl (zF rfl rfl) ?_
   refine zA rfl rfl (kA rfl rfl rfl ⟨by omega, by omega⟩) ?_
   refine zA rfl rfl (zW rfl ok147 (show Pur cfg 147 [vE a, vI (l - 1)] (vI (depT m a)) from ih (by omega) a _ (by have := Ex.arg_wt (qF ha); omega) (by omega)) ⟨VLe.refl _, rfl, VLe.refl _, rfl, trivial⟩) ?_
   refine zA rfl rfl (qL rfl rfl rfl ⟨by omega, by omega⟩) ?_
   refine zA rfl rfl (det_max rfl rfl rfl) ?_
   refine zA rfl rfl (zC rfl rfl) ?_
   refine zH ?_
   refine zB rfl ?_
   refine zA rfl rfl (qL rfl rfl rfl ⟨by omega, by omega⟩) ?_
   refine zA rfl rfl (zF rfl rfl) ?_
   refine zH ?_
   refine ⟨⟨k + 1, max d (1 + depT m a)⟩, ⟨by omega, by omega, by omega, by rw [hd3, yC ha, depF]⟩, (by show e.Args.length - (k + 1) < e.Args.length - k; omega), Weak.mk [false] ⟨VLe.refl _, VLe.refl _, VLe.refl _, VLe.refl _, VLe.refl _, trivial⟩ rfl⟩
  ·try simp only [sx, List.length_map] at c2
   refine qU ?_
   refine zE ?_
   refine zB rfl ?_
   refine zA rfl rfl (zF rfl rfl) ?_
   refine zA rfl rfl (zC rfl rfl) ?_
   refine zH ?_
   refine zS ?_
   repeat (first | refine zO ?_ | refine zM ?_)
   refine fin1 (rs_c rfl) ?_
   exact congrArg vI (by rw [hd3, kL (by omega)]; rfl)

theorem expr_depth (n : Nat) (e : Ex) (l : Int) (hn : n ≤ 100) (he : e.wt ≤ 6000000000000) (hl : l = n + 1) : Pur cfg 147 [vE e, vI l] (vI (depT n e)) := by
  induction n generalizing e l with
  | zero => exact expr_depth_step 0 (fun h => absurd rfl h) hn e l he hl
  | succ n ih => exact expr_depth_step (n + 1) (fun _ a l h1 h2 => ih a l (by omega) h1 (by omega)) hn e l he hl

theorem ref14_depth_step (n : Nat) (ih : n ≠ 0 → ∀ (a : Ex) (l : Int), a.wt ≤ 6000000000000 → l = n → Pur cfg 167 [vE a, vI l] (vI (depT (n - 1) a))) (hn : n ≤ 100) (e : Ex) (l : Int) (he : e.wt ≤ 6000000000000) (hl : l = n + 1) :
    Pur cfg 167 [vE e, vI l] (vI (depT n e)) := by
 refine zZ Tryz.func167 rfl Tryz.ntmps167 Tryz.results167 rfl ?_
 intro z hz
 obtain ⟨hL, hI, hA⟩ := e.parts he
 refine zE ?_
 refine zB rfl ?_
 refine qC rfl rfl (qN rfl rfl) ?_
 rintro _ _ ⟨b1, rfl, rfl⟩
 refine zA rfl rfl (zC rfl rfl) ?_
 refine zH ?_
 refine zE ?_
 refine zB rfl ?_
 refine zA rfl rfl (zC rfl rfl) ?_
 refine zH ?_
 refine zE ?_
 refine zE ?_
 refine zB rfl ?_
 refine zA rfl rfl (zC rfl rfl) ?_
 refine zH ?_
 refine qA ?_
 refine qQ ⟨[(6, .c _), (5, .c _), (1, .c _), (2, .c _)], [_]⟩ (Weak.mk [true] ⟨VLe.of_eq rfl, VLe.of_eq rfl, VLe.of_eq rfl, VLe.of_eq rfl, trivial⟩ rfl) ?_
 refine qR 2 0 rfl rfl (Nat × Int) (fun ⟨k, d⟩ => [(6, vI k), (5, vI d)]) (fun ⟨k, d⟩ => []) (fun ⟨k, d⟩ => k ≤ e.Args.length ∧ (1 ≤ d) ∧ (d ≤ n + 1) ∧ (n ≠ 0 → depT n e = depF (depT (n - 1)) d (e.Args.drop k)) ∧ (n = 0 → d = 1)) (fun ⟨k, d⟩ => e.Args.length - k) ⟨⟨0, 1⟩, ⟨by omega, by omega, by omega, fun h0 => dep_start h0, fun _ => rfl⟩, Weak.mk [true] ⟨VLe.refl _, VLe.of_eq (rfl), VLe.refl _, VLe.refl _, trivial⟩ rfl⟩ ?_
 rintro ⟨k, d⟩ ⟨hk, hd1, hd2, hd3, hd4⟩
 show AWP _ _ _ _ _ ⟨[(6, vI k), (5, vI d)] ++ _, [] ++ _⟩
 refine zE ?_
 refine zE ?_
 refine zB rfl ?_
 refine zA rfl rfl (zF rfl rfl) ?_
 refine zA rfl rfl (zJ rfl kE rfl) ?_
 refine zA rfl rfl (zK rfl wC rfl (zP 0 rfl) rfl) ?_
 refine zA rfl rfl (qB rfl el31 rfl) ?_
 refine zA rfl rfl (qS rfl rfl rfl) ?_
 refine zA rfl rfl (zF rfl rfl) ?_
 refine zN [] rfl rfl rfl rfl gv1 trivial (fun g3_5 => zF rfl rfl) rfl ?_
 refine zN [(13, _)] rfl rfl rfl rfl gv1 ⟨rfl, rfl, trivial⟩ (fun g3_5 => yX rfl rfl rfl) rfl ?_
 refine zA rfl rfl (qM rfl rfl rfl (fun h => h) rfl) ?_
 refine zH ?_
 refine zR rfl (fun c1 => ?_) (fun c1 => ?_)
 ·try simp only [sx, List.length_map] at c1
  obtain ⟨a, ha⟩ := yL e.Args k (by omega)
  have hda := depT_le (n - 1) a
  refine zT ?_
  refine zE ?_
  refine qA ?_
  refine zB rfl ?_
  refine zA rfl rfl (zF rfl rfl) ?_
  refine zA rfl rfl (zJ rfl kE rfl) ?_
  refine zA rfl rfl (zK rfl wC rfl (zP 0 rfl) rfl) ?_
  refine zA rfl rfl (zF rfl rfl) ?_
  refine zA rfl rfl (zX rfl el31 rfl rfl (by omega) (getmE (by assumption))) ?_
  refine zA rfl rfl (zQ rfl yA rfl qK rfl) ?_
  refine zA rfl rfl (zF rfl rfl) ?_
  refine zA rfl rfl (kA rfl rfl rfl ⟨by omega, by omega⟩) ?_
  refine zA rfl rfl (zW rfl ok167 (ih (by omega) a _ (by have := Ex.arg_wt (qF ha); omega) (by omega)) ⟨VLe.refl _, rfl, VLe.refl _, rfl, trivial⟩) ?_
  refine zA rfl rfl (qL rfl rfl rfl ⟨by omega, by omega⟩) ?_
  refine zA rfl rfl (det_max rfl rfl rfl) ?_
  refine zA rfl rfl (zC rfl rfl) ?_
  refine zH ?_
  refine zB rfl ?_
  refine zA rfl rfl (zF rfl rfl) ?_
  refine zA rfl rfl (qL rfl rfl rfl ⟨by omega, by omega⟩) ?_
  refine zA rfl rfl (zC rfl rfl) ?_
  refine zH ?_
  refine ⟨⟨k + 1, max d (1 + depT (n - 1) a)⟩, ⟨by omega, by omega, by omega, fun h0 => by rw [hd3 h0, yC ha, depF], fun h0 => by omega⟩, (by show e.Args.length - (k + 1) < e.Args.length - k; omega), Weak.mk [true] ⟨VLe.refl _, VLe.refl _, VLe.refl _, VLe.refl _, trivial⟩ rfl⟩
 ·try simp only [sx, List.length_map] at c1
  refine qU ?_
  refine zE ?_
  refine zB rfl ?_
  refine zA rfl rfl (zF rfl rfl) ?_
  refine zA rfl rfl (zC rfl rfl) ?_
  refine zH ?_
  refine zS ?_
  repeat (first | refine zO ?_ | refine zM ?_)
  refine fin1 (rs_c rfl) ?_
  exact congrArg vI (dep_end hl (by omega) hd3 hd4)

theorem ref14_depth (n : Nat) (e : Ex) (l : Int) (hn : n ≤ 100) (he : e.wt ≤ 6000000000000) (hl : l = n + 1) : Pur cfg 167 [vE e, vI l] (vI (depT n e)) := by
  induction n generalizing e l with
  | zero => exact ref14_depth_step 0 (fun h => absurd rfl h) hn e l he hl
  | succ n ih => exact ref14_depth_step (n + 1) (fun _ a l h1 h2 => ih a l (by omega) h1 (by omega)) hn e l he hl

theorem expr_Depth (e : Ex) (he : e.wt ≤ 6000000000000) :
    Pur cfg 79 [vE e] (vI (depT 40 e)) := by
 refine zZ Tryz.func79 rfl Tryz.ntmps79 Tryz.results79 rfl ?_
 intro z hz
 refine zE ?_
 refine zB rfl ?_
 refine qC rfl rfl (qN rfl rfl) ?_
 rintro _ _ ⟨b1, rfl, rfl⟩
 refine zA rfl rfl (zC rfl rfl) ?_
 refine zH ?_
 refine zE ?_
 refine zB rfl ?_
 refine zA rfl rfl (zQ rfl yA rfl (zP 0 rfl) rfl) ?_
 refine zA rfl rfl (zW rfl ok147 (expr_depth 40 e 41 (by omega) he (by omega)) ⟨VLe.refl _, rfl, VLe.refl _, rfl, trivial⟩) ?_
 refine zA rfl rfl (zC rfl rfl) ?_
 refine zH ?_
 refine zS ?_
 repeat (first | refine zO ?_ | refine zM ?_)
 refine fin1 (rs_c rfl) ?_
 exact rfl

theorem ref14_Depth (e : Ex) (he : e.wt ≤ 6000000000000) :
    Pur cfg 103 [vE e] (vI (depT 40 e)) := by
 refine zZ Tryz.func103 rfl Tryz.ntmps103 Tryz.results103 rfl ?_
 intro z hz
 refine zE ?_
 refine zB rfl ?_
 refine qC rfl rfl (qN rfl rfl) ?_
 rintro _ _ ⟨b1, rfl, rfl⟩
 refine zA rfl rfl (zC rfl rfl) ?_
 refine zH ?_
 refine zE ?_
 refine zB rfl ?_
 refine zA rfl rfl (zQ rfl yA rfl (zP 0 rfl) rfl) ?_
 refine zA rfl rfl (zW rfl ok167 (ref14_depth 40 e 41 (by omega) he (by omega)) ⟨VLe.refl _, rfl, VLe.refl _, rfl, trivial⟩) ?_
 refine zA rfl rfl (zC rfl rfl) ?_
 refine zH ?_
 refine zS ?_
 repeat (first | refine zO ?_ | refine zM ?_)
 refine fin1 (rs_c rfl) ?_
 exact rfl

theorem ref14_size_step (e : Ex) (ih : ∀ a, a ∈ e.Args → ∀ (m : Nat) (l : Int), a.wt ≤ 6000000000000 → m ≤ 1000000 → l = m → Pur cfg 168 [vE a, vI l] (vI (sizE a m))) (m : Nat) (l : Int) (he : e.wt ≤ 6000000000000) (hm : m ≤ 1000000) (hl : l = m) :
    Pur cfg 168 [vE e, vI l] (vI (sizE e m)) := by
 refine zZ Tryz.func168 rfl Tryz.ntmps168 Tryz.results168 rfl ?_
 intro z hz
 obtain ⟨hL, hI, hA⟩ := e.parts he
 refine zE ?_
 refine zB rfl ?_
 refine qC rfl rfl (qN rfl rfl) ?_
 rintro _ _ ⟨b1, rfl, rfl⟩
 refine zA rfl rfl (zC rfl rfl) ?_
 refine zH ?_
 refine zE ?_
 refine zB rfl ?_
 refine zA rfl rfl (zC rfl rfl) ?_
 refine zH ?_
 refine zE ?_
 refine zE ?_
 refine zB rfl ?_
 refine zA rfl rfl (zC rfl rfl) ?_
 refine zH ?_
 refine qA ?_
 refine qQ ⟨[(6, .c _), (5, .c _), (1, .c _), (2, .c _)], [_]⟩ (Weak.mk [true] ⟨VLe.of_eq rfl, VLe.of_eq rfl, VLe.of_eq rfl, VLe.of_eq rfl, trivial⟩ rfl) ?_
 refine qR 2 0 rfl rfl (Nat × Nat) (fun ⟨k, n⟩ => [(6, vI k), (5, vI n)]) (fun ⟨k, n⟩ => []) (fun ⟨k, n⟩ => k ≤ e.Args.length ∧ (n ≤ m + 1) ∧ (sizE e m = sizL (e.Args.drop k) m n)) (fun ⟨k, n⟩ => e.Args.length - k) ⟨⟨0, 1⟩, ⟨by omega, by omega, sizE_eq e m⟩, Weak.mk [true] ⟨VLe.refl _, VLe.of_eq (rfl), VLe.refl _, VLe.refl _, trivial⟩ rfl⟩ ?_
 rintro ⟨k, n⟩ ⟨hk, hn1, hn2⟩
 show AWP _ _ _ _ _ ⟨[(6, vI k), (5, vI n)] ++ _, [] ++ _⟩
 refine zE ?_
 refine zE ?_
 refine zB rfl ?_
 refine zA rfl rfl (zF rfl rfl) ?_
 refine zA rfl rfl (zJ rfl kE rfl) ?_
 refine zA rfl rfl (zK rfl wC rfl (zP 0 rfl) rfl) ?_
 refine zA rfl rfl (qB rfl el31 rfl) ?_
 refine zA rfl rfl (qS rfl rfl rfl) ?_
 refine zA rfl rfl (zF rfl rfl) ?_
 refine zN [] rfl rfl rfl rfl gv1 trivial (fun g3_5 => zF rfl rfl) rfl ?_
 refine zN [] rfl rfl rfl rfl gv1 trivial (fun g3_5 => zF rfl rfl) rfl ?_
 refine zN [(13, _), (14, _)] rfl rfl rfl rfl gv1 ⟨rfl, rfl, rfl, rfl, trivial⟩ (fun g3_5 => kQ rfl rfl rfl) rfl ?_
 refine zA rfl rfl (qM rfl rfl rfl (fun h => h) rfl) ?_
 refine zH ?_
 refine zR rfl (fun c1 => ?_) (fun c1 => ?_)
 ·try simp only [sx, List.length_map] at c1
  obtain ⟨a, ha⟩ := yL e.Args k (by omega)
  have hsa := sizE_min a (m - n)
  refine zT ?_
  refine zE ?_
  refine qA ?_
  refine zB rfl ?_
  refine zA rfl rfl (zF rfl rfl) ?_
  refine zA rfl rfl (zJ rfl kE rfl) ?_
  refine zA rfl rfl (zK rfl wC rfl (zP 0 rfl) rfl) ?_
  refine zA rfl rfl (zF rfl rfl) ?_
  refine zA rfl rfl (zX rfl el31 rfl rfl (by omega) (getmE (by assumption))) ?_
  refine zA rfl rfl (zQ rfl yA rfl qK rfl) ?_
  refine zA rfl rfl (zF rfl rfl) ?_
  refine zA rfl rfl (zF rfl rfl) ?_
  refine zA rfl rfl (kA rfl rfl rfl ⟨by omega, by omega⟩) ?_
  refine zA rfl rfl (zW rfl ok168 (ih a (qF ha) (m - n) _ (by have := Ex.arg_wt (qF ha); omega) (by omega) (by omega)) ⟨VLe.refl _, rfl, VLe.refl _, rfl, trivial⟩) ?_
  refine zA rfl rfl (qL rfl rfl rfl ⟨by omega, by omega⟩) ?_
  refine zA rfl rfl (zC rfl rfl) ?_
  refine zH ?_
  refine zB rfl ?_
  refine zA rfl rfl (zF rfl rfl) ?_
  refine zA rfl rfl (qL rfl rfl rfl ⟨by omega, by omega⟩) ?_
  refine zA rfl rfl (zC rfl rfl) ?_
  refine zH ?_
  refine ⟨⟨k + 1, n + sizE a (m - n)⟩, ⟨by omega, by omega, by rw [hn2, yC ha, sizL, if_pos (by omega)]⟩, (by show e.Args.length - (k + 1) < e.Args.length - k; omega), Weak.mk [true] ⟨VLe.refl _, VLe.of_eq (congrArg vI (by omega)), VLe.refl _, VLe.refl _, trivial⟩ rfl⟩
 ·try simp only [sx, List.length_map] at c1
  refine qU ?_
  refine zE ?_
  refine zB rfl ?_
  refine zA rfl rfl (zF rfl rfl) ?_
  refine zA rfl rfl (zC rfl rfl) ?_
  refine zH ?_
  refine zS ?_
  repeat (first | refine zO ?_ | refine zM ?_)
  refine fin1 (rs_c rfl) ?_
  exact congrArg vI (by rw [hn2]; exact congrArg Nat.cast (siz_end hl (by omega)))

theorem ref14_size (e : Ex) (m : Nat) (l : Int) (he : e.wt ≤ 6000000000000) (hm : m ≤ 1000000) (hl : l = m) : Pur cfg 168 [vE e, vI l] (vI (sizE e m)) := by
  induction e using Ex.ind generalizing m l with
  | _ e ih => exact ref14_size_step e (fun a ha m l h1 h2 h3 => ih a ha m l h1 h2 h3) m l he hm hl

theorem ref14_Size (e : Ex) (he : e.wt ≤ 6000000000000) :
    Pur cfg 104 [vE e] (vI (szT e)) := by
 refine zZ Tryz.func104 rfl Tryz.ntmps104 Tryz.results104 rfl ?_
 intro z hz
 refine zE ?_
 refine zB rfl ?_
 refine qC rfl rfl (qN rfl rfl) ?_
 rintro _ _ ⟨b1, rfl, rfl⟩
 refine zA rfl rfl (zC rfl rfl) ?_
 refine zH ?_
 refine zE ?_
 refine zB rfl ?_
 refine zA rfl rfl (zQ rfl yA rfl (zP 0 rfl) rfl) ?_
 refine zA rfl rfl (zW rfl ok168 (ref14_size e 2000 2000 he (by omega) rfl) ⟨VLe.refl _, rfl, VLe.refl _, rfl, trivial⟩) ?_
 refine zA rfl rfl (det_min rfl rfl rfl) ?_
 refine zA rfl rfl (zC rfl rfl) ?_
 refine zH ?_
 refine zS ?_
 repeat (first | refine zO ?_ | refine zM ?_)
 refine fin1 (rs_c rfl) ?_
 exact congrArg vI (by rw [sizE_min, szT]; omega)

theorem ref14_Validate (e : Ex) (he : e.wt ≤ 6000000000000) :
    Pur cfg 37 [vE e] (vI (validE e)) := by
 refine zZ Tryz.func37 rfl Tryz.ntmps37 Tryz.results37 rfl ?_
 intro z hz
 refine zE ?_
 refine zB rfl ?_
 refine qC rfl rfl (qN rfl rfl) ?_
 rintro _ _ ⟨b1, rfl, rfl⟩
 refine zA rfl rfl (zC rfl rfl) ?_
 refine zH ?_
 refine zE ?_
 refine zE ?_
 refine zB rfl ?_
 refine zA rfl rfl (zQ rfl yA rfl (zP 0 rfl) rfl) ?_
 refine zA rfl rfl (zW rfl ok103 (ref14_Depth e he) ⟨VLe.refl _, rfl, trivial⟩) ?_
 refine zA rfl rfl (yX rfl rfl rfl) ?_
 refine zH ?_
 refine zR rfl (fun c1 => ?_) (fun c1 => ?_)
 ·try simp only [sx, List.length_map] at c1
  refine zE ?_
  refine zB rfl ?_
  refine zA rfl rfl (zC rfl rfl) ?_
  refine zH ?_
  refine zS ?_
  repeat (first | refine zO ?_ | refine zM ?_)
  refine fin1 (rs_c rfl) ?_
  rw [validE, kG c1]; rfl
 ·try simp only [sx, List.length_map] at c1
  refine zT ?_
  refine zE ?_
  refine zE ?_
  refine zB rfl ?_
  refine zA rfl rfl (zQ rfl yA rfl (zP 0 rfl) rfl) ?_
  refine zA rfl rfl (zW rfl ok104 (ref14_Size e he) ⟨VLe.refl _, rfl, trivial⟩) ?_
  refine zA rfl rfl (yX rfl rfl rfl) ?_
  refine zH ?_
  refine zR rfl (fun c2 => ?_) (fun c2 => ?_)
  ·try simp only [sx, List.length_map] at c2
   refine zE ?_
   refine zB rfl ?_
   refine zA rfl rfl (zC rfl rfl) ?_
   refine zH ?_
   refine zS ?_
   repeat (first | refine zO ?_ | refine zM ?_)
   refine fin1 (rs_c rfl) ?_
   rw [validE, qZ (by omega), kG c2]; rfl
  ·try simp only [sx, List.length_map] at c2
   refine zT ?_
   refine zE ?_
   refine zB rfl ?_
   refine zA rfl rfl (zQ rfl yA rfl (zP 0 rfl) rfl) ?_
   refine zA rfl rfl (zW rfl ok105 (ref14_part e he) ⟨VLe.refl _, rfl, trivial⟩) ?_
   refine zA rfl rfl (zC rfl rfl) ?_
   refine zH ?_
   refine zS ?_
   repeat (first | refine zO ?_ | refine zM ?_)
   refine fin1 (rs_c rfl) ?_
   rw [validE, qZ (by omega), qZ (by omega)]; rfl

end Go.W
