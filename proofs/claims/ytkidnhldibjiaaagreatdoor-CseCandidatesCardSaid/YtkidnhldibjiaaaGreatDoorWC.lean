/-
  Walks: what functions of the program compute. Printed by wip/gen/mk2.py.
  Conditions: none.
-/
import Derived.Test.YtkidnhldibjiaaaGreatDoorWB
set_option linter.unusedSimpArgs false
set_option linter.unusedVariables false
set_option maxRecDepth 10000
namespace Go.W
open Go Go.Eng Go.Proofs Go.L41 Go.Br
attribute [local irreducible] AWP RWP TD finQ
theorem qZ:aggT Tryz.prog 44=some 13:=by kernel_rfl
theorem el42:elemT Tryz.prog 42=some (44,13,160):=by kernel_rfl
theorem el65:elemT Tryz.prog 65=some (40,2,32):=by kernel_rfl
theorem yY:fieldT Tryz.prog 44 0=some (0,3):=by kernel_rfl
theorem zFm:fieldT Tryz.prog 44 1=some (1,9):=by kernel_rfl
theorem zHq:fieldT Tryz.prog 44 2=some (2,35):=by kernel_rfl
theorem zEm:fieldT Tryz.prog 44 3=some (4,37):=by kernel_rfl
theorem zCo:fieldT Tryz.prog 44 4=some (9,40):=by kernel_rfl
theorem kC:fieldT Tryz.prog 44 5=some (11,41):=by kernel_rfl
theorem kG:fieldT Tryz.prog 44 6=some (12,42):=by kernel_rfl
theorem zAz:fieldT Tryz.prog 115 0=some (0,40):=by kernel_rfl
theorem wX:fieldT Tryz.prog 115 1=some (2,9):=by kernel_rfl
theorem kW:fieldT Tryz.prog 115 2=some (3,65):=by kernel_rfl
theorem fl35:flatK Tryz.prog 35=some [.int,.int]:=by kernel_rfl
theorem ok40:callOk Tryz.prog 40=true:=by kernel_rfl
theorem ok93:callOk Tryz.prog 93=true:=by kernel_rfl
theorem ok107:callOk Tryz.prog 107=true:=by kernel_rfl
theorem ok138:callOk Tryz.prog 138=true:=by kernel_rfl
theorem ok155:callOk Tryz.prog 155=true:=by kernel_rfl
theorem ok161:callOk Tryz.prog 161=true:=by kernel_rfl
theorem ok213:callOk Tryz.prog 213=true:=by kernel_rfl
theorem ok214:callOk Tryz.prog 214=true:=by kernel_rfl
theorem ok220:callOk Tryz.prog 220=true:=by kernel_rfl
theorem ok257:callOk Tryz.prog 257=true:=by kernel_rfl
theorem ok258:callOk Tryz.prog 258=true:=by kernel_rfl
theorem ok259:callOk Tryz.prog 259=true:=by kernel_rfl
theorem ok260:callOk Tryz.prog 260=true:=by kernel_rfl
theorem ok261:callOk Tryz.prog 261=true:=by kernel_rfl
theorem ok262:callOk Tryz.prog 262=true:=by kernel_rfl
theorem ok265:callOk Tryz.prog 265=true:=by kernel_rfl
theorem ok266:callOk Tryz.prog 266=true:=by kernel_rfl
theorem ok267:callOk Tryz.prog 267=true:=by kernel_rfl
theorem ok268:callOk Tryz.prog 268=true:=by kernel_rfl
theorem ok269:callOk Tryz.prog 269=true:=by kernel_rfl
theorem ok270:callOk Tryz.prog 270=true:=by kernel_rfl
theorem ok271:callOk Tryz.prog 271=true:=by kernel_rfl
theorem ok272:callOk Tryz.prog 272=true:=by kernel_rfl
theorem ok293:callOk Tryz.prog 293=true:=by kernel_rfl
theorem ok294:callOk Tryz.prog 294=true:=by kernel_rfl
theorem ok295:callOk Tryz.prog 295=true:=by kernel_rfl
theorem wK:oneT Tryz.prog 41=true:=by kernel_rfl
theorem wS:oneT Tryz.prog 42=true:=by kernel_rfl
theorem zAr:oneT Tryz.prog 65=true:=by kernel_rfl
theorem sz44:(Tryz.prog.info? 44).map (·.size)=some 13:=by kernel_rfl
theorem zNp:(Tryz.prog.info? 115).map (·.size)=some 4:=by kernel_rfl
theorem un4:Tryz.prog.underlying 4=some .bool:=by kernel_rfl
theorem zr44:zeroT Tryz.prog 44=some [(Value.int IntKind.i64 0),(Value.string (ByteArray.mk #[])),(Value.int IntKind.i64 0),(Value.int IntKind.i64 0),(Value.int IntKind.i64 0),(Value.int IntKind.i64 0),(Value.int IntKind.i64 0),(Value.int IntKind.i64 0),(Value.int IntKind.i64 0),(Value.int IntKind.i64 0),(Value.slice none 0 0),(Value.slice none 0 0),(Value.slice none 0 0)]:=by kernel_rfl
theorem zDp:zeroT Tryz.prog 115=some [(Value.int IntKind.i64 0),(Value.slice none 0 0),(Value.string (ByteArray.mk #[])),(Value.slice none 0 0)]:=by kernel_rfl
theorem expr_operands (op:Int):
    Pur cfg 270 [vI op] (vI (nArgs op)):=by
 refine zR Tryz.func270 O Tryz.ntmps270 Tryz.results270 O ?_
 intro z hz
 refine G O<|Y O<|W<|zG<|G O<|Y O<|W<|zN<|zG<|G O<|yG O<|Y O<|W<|zE O (fun c1=>?_) (fun c1=>?_)
 ·try simp only [sx] at c1
  refine zI<|zE O (fun c3=>?_) (fun c3=>?_)
  ·try simp only [sx] at c3
   refine G O<|Y O<|W<|zJ<|zP O ?_
   exact congrArg vI (by unfold nArgs;(repeat' split)<;>omega)
  ·try simp only [sx] at c3
   refine zG<|G O<|yG O<|Y O<|W<|zE O (fun c4=>?_) (fun c4=>?_)
   ·try simp only [sx] at c4
    refine zI<|zE O (fun c6=>?_) (fun c6=>?_)
    ·try simp only [sx] at c6
     refine G O<|Y O<|W<|zJ<|zP O ?_
     exact congrArg vI (by unfold nArgs;(repeat' split)<;>omega)
    ·try simp only [sx] at c6
     refine G O<|yG O<|Y O<|W<|zE O (fun c7=>?_) (fun c7=>?_)
     ·try simp only [sx] at c7
      refine G O<|Y O<|W<|zJ<|zP O ?_
      exact congrArg vI (by unfold nArgs;(repeat' split)<;>omega)
     ·try simp only [sx] at c7
      refine zI<|G O<|Y O<|W<|zJ<|zP O ?_
      exact congrArg vI (by unfold nArgs;(repeat' split)<;>omega)
   ·try simp only [sx] at c4
    refine G O<|yG O<|Y O<|W<|zE O (fun c5=>?_) (fun c5=>?_)
    ·try simp only [sx] at c5
     refine zI<|zE O (fun c6=>?_) (fun c6=>?_)
     ·try simp only [sx] at c6
      refine G O<|Y O<|W<|zJ<|zP O ?_
      exact congrArg vI (by unfold nArgs;(repeat' split)<;>omega)
     ·try simp only [sx] at c6
      refine G O<|yG O<|Y O<|W<|zE O (fun c7=>?_) (fun c7=>?_)
      ·try simp only [sx] at c7
       refine G O<|Y O<|W<|zJ<|zP O ?_
       exact congrArg vI (by unfold nArgs;(repeat' split)<;>omega)
      ·try simp only [sx] at c7
       refine zI<|G O<|Y O<|W<|zJ<|zP O ?_
       exact congrArg vI (by unfold nArgs;(repeat' split)<;>omega)
    ·try simp only [sx] at c5
     refine zO O<|yG O<|Y O<|W<|zE O (fun c6=>?_) (fun c6=>?_)
     ·try simp only [sx] at c6
      refine G O<|Y O<|W<|zJ<|zP O ?_
      exact congrArg vI (by unfold nArgs;(repeat' split)<;>omega)
     ·try simp only [sx] at c6
      refine G O<|yG O<|Y O<|W<|zE O (fun c7=>?_) (fun c7=>?_)
      ·try simp only [sx] at c7
       refine G O<|Y O<|W<|zJ<|zP O ?_
       exact congrArg vI (by unfold nArgs;(repeat' split)<;>omega)
      ·try simp only [sx] at c7
       refine zI<|G O<|Y O<|W<|zJ<|zP O ?_
       exact congrArg vI (by unfold nArgs;(repeat' split)<;>omega)
 ·try simp only [sx] at c1
  refine G O<|yG O<|Y O<|W<|zE O (fun c2=>?_) (fun c2=>?_)
  ·try simp only [sx] at c2
   refine zI<|zE O (fun c3=>?_) (fun c3=>?_)
   ·try simp only [sx] at c3
    refine G O<|Y O<|W<|zJ<|zP O ?_
    exact congrArg vI (by unfold nArgs;(repeat' split)<;>omega)
   ·try simp only [sx] at c3
    refine zG<|G O<|yG O<|Y O<|W<|zE O (fun c4=>?_) (fun c4=>?_)
    ·try simp only [sx] at c4
     refine zI<|zE O (fun c6=>?_) (fun c6=>?_)
     ·try simp only [sx] at c6
      refine G O<|Y O<|W<|zJ<|zP O ?_
      exact congrArg vI (by unfold nArgs;(repeat' split)<;>omega)
     ·try simp only [sx] at c6
      refine G O<|yG O<|Y O<|W<|zE O (fun c7=>?_) (fun c7=>?_)
      ·try simp only [sx] at c7
       refine G O<|Y O<|W<|zJ<|zP O ?_
       exact congrArg vI (by unfold nArgs;(repeat' split)<;>omega)
      ·try simp only [sx] at c7
       refine zI<|G O<|Y O<|W<|zJ<|zP O ?_
       exact congrArg vI (by unfold nArgs;(repeat' split)<;>omega)
    ·try simp only [sx] at c4
     refine G O<|yG O<|Y O<|W<|zE O (fun c5=>?_) (fun c5=>?_)
     ·try simp only [sx] at c5
      refine zI<|zE O (fun c6=>?_) (fun c6=>?_)
      ·try simp only [sx] at c6
       refine G O<|Y O<|W<|zJ<|zP O ?_
       exact congrArg vI (by unfold nArgs;(repeat' split)<;>omega)
      ·try simp only [sx] at c6
       refine G O<|yG O<|Y O<|W<|zE O (fun c7=>?_) (fun c7=>?_)
       ·try simp only [sx] at c7
        refine G O<|Y O<|W<|zJ<|zP O ?_
        exact congrArg vI (by unfold nArgs;(repeat' split)<;>omega)
       ·try simp only [sx] at c7
        refine zI<|G O<|Y O<|W<|zJ<|zP O ?_
        exact congrArg vI (by unfold nArgs;(repeat' split)<;>omega)
     ·try simp only [sx] at c5
      refine zO O<|yG O<|Y O<|W<|zE O (fun c6=>?_) (fun c6=>?_)
      ·try simp only [sx] at c6
       refine G O<|Y O<|W<|zJ<|zP O ?_
       exact congrArg vI (by unfold nArgs;(repeat' split)<;>omega)
      ·try simp only [sx] at c6
       refine G O<|yG O<|Y O<|W<|zE O (fun c7=>?_) (fun c7=>?_)
       ·try simp only [sx] at c7
        refine G O<|Y O<|W<|zJ<|zP O ?_
        exact congrArg vI (by unfold nArgs;(repeat' split)<;>omega)
       ·try simp only [sx] at c7
        refine zI<|G O<|Y O<|W<|zJ<|zP O ?_
        exact congrArg vI (by unfold nArgs;(repeat' split)<;>omega)
  ·try simp only [sx] at c2
   refine zO O<|yG O<|Y O<|W<|zE O (fun c3=>?_) (fun c3=>?_)
   ·try simp only [sx] at c3
    refine G O<|Y O<|W<|zJ<|zP O ?_
    exact congrArg vI (by unfold nArgs;(repeat' split)<;>omega)
   ·try simp only [sx] at c3
    refine zG<|G O<|yG O<|Y O<|W<|zE O (fun c4=>?_) (fun c4=>?_)
    ·try simp only [sx] at c4
     refine zI<|zE O (fun c6=>?_) (fun c6=>?_)
     ·try simp only [sx] at c6
      refine G O<|Y O<|W<|zJ<|zP O ?_
      exact congrArg vI (by unfold nArgs;(repeat' split)<;>omega)
     ·try simp only [sx] at c6
      refine G O<|yG O<|Y O<|W<|zE O (fun c7=>?_) (fun c7=>?_)
      ·try simp only [sx] at c7
       refine G O<|Y O<|W<|zJ<|zP O ?_
       exact congrArg vI (by unfold nArgs;(repeat' split)<;>omega)
      ·try simp only [sx] at c7
       refine zI<|G O<|Y O<|W<|zJ<|zP O ?_
       exact congrArg vI (by unfold nArgs;(repeat' split)<;>omega)
    ·try simp only [sx] at c4
     refine G O<|yG O<|Y O<|W<|zE O (fun c5=>?_) (fun c5=>?_)
     ·try simp only [sx] at c5
      refine zI<|zE O (fun c6=>?_) (fun c6=>?_)
      ·try simp only [sx] at c6
       refine G O<|Y O<|W<|zJ<|zP O ?_
       exact congrArg vI (by unfold nArgs;(repeat' split)<;>omega)
      ·try simp only [sx] at c6
       refine G O<|yG O<|Y O<|W<|zE O (fun c7=>?_) (fun c7=>?_)
       ·try simp only [sx] at c7
        refine G O<|Y O<|W<|zJ<|zP O ?_
        exact congrArg vI (by unfold nArgs;(repeat' split)<;>omega)
       ·try simp only [sx] at c7
        refine zI<|G O<|Y O<|W<|zJ<|zP O ?_
        exact congrArg vI (by unfold nArgs;(repeat' split)<;>omega)
     ·try simp only [sx] at c5
      refine zO O<|yG O<|Y O<|W<|zE O (fun c6=>?_) (fun c6=>?_)
      ·try simp only [sx] at c6
       refine G O<|Y O<|W<|zJ<|zP O ?_
       exact congrArg vI (by unfold nArgs;(repeat' split)<;>omega)
      ·try simp only [sx] at c6
       refine G O<|yG O<|Y O<|W<|zE O (fun c7=>?_) (fun c7=>?_)
       ·try simp only [sx] at c7
        refine G O<|Y O<|W<|zJ<|zP O ?_
        exact congrArg vI (by unfold nArgs;(repeat' split)<;>omega)
       ·try simp only [sx] at c7
        refine zI<|G O<|Y O<|W<|zJ<|zP O ?_
        exact congrArg vI (by unfold nArgs;(repeat' split)<;>omega)
theorem zCt (e:Ex):
    Pur cfg 155 [vE e] (vB (isCond e)):=by
 refine zR Tryz.func155 O Tryz.ntmps155 Tryz.results155 O ?_
 intro z hz
 refine G O<|zS O O (qG O O) ?_
 rintro _ _ ⟨b1,rfl,rfl⟩
 refine Y O<|W<|G O<|zD O yY<|zH one3 (J 0 O) O<|zX O (kO O O O)<|Y O<|rL0 O (fun g1_3=>zF O yY O) O<|rL1 7 O (fun g1_3=>zK O one3 O (J 0 O) O) O<|rL1 8 O (fun g1_3=>kO O O O) O<|kD O (fun h=>h)<|Y O<|W<|zJ<|zP O ?_
 exact O
theorem zLl (op:Int):
    Pur cfg 293 [vI op] (vI (nArgs op)):=by
 refine zR Tryz.func293 O Tryz.ntmps293 Tryz.results293 O ?_
 intro z hz
 refine G O<|Y O<|W<|zG<|G O<|Y O<|W<|zN<|zG<|G O<|yG O<|Y O<|W<|zE O (fun c1=>?_) (fun c1=>?_)
 ·try simp only [sx] at c1
  refine zI<|zE O (fun c3=>?_) (fun c3=>?_)
  ·try simp only [sx] at c3
   refine G O<|Y O<|W<|zJ<|zP O ?_
   exact congrArg vI (by unfold nArgs;(repeat' split)<;>omega)
  ·try simp only [sx] at c3
   refine zG<|G O<|yG O<|Y O<|W<|zE O (fun c4=>?_) (fun c4=>?_)
   ·try simp only [sx] at c4
    refine zI<|zE O (fun c6=>?_) (fun c6=>?_)
    ·try simp only [sx] at c6
     refine G O<|Y O<|W<|zJ<|zP O ?_
     exact congrArg vI (by unfold nArgs;(repeat' split)<;>omega)
    ·try simp only [sx] at c6
     refine G O<|yG O<|Y O<|W<|zE O (fun c7=>?_) (fun c7=>?_)
     ·try simp only [sx] at c7
      refine G O<|Y O<|W<|zJ<|zP O ?_
      exact congrArg vI (by unfold nArgs;(repeat' split)<;>omega)
     ·try simp only [sx] at c7
      refine zI<|G O<|Y O<|W<|zJ<|zP O ?_
      exact congrArg vI (by unfold nArgs;(repeat' split)<;>omega)
   ·try simp only [sx] at c4
    refine G O<|yG O<|Y O<|W<|zE O (fun c5=>?_) (fun c5=>?_)
    ·try simp only [sx] at c5
     refine zI<|zE O (fun c6=>?_) (fun c6=>?_)
     ·try simp only [sx] at c6
      refine G O<|Y O<|W<|zJ<|zP O ?_
      exact congrArg vI (by unfold nArgs;(repeat' split)<;>omega)
     ·try simp only [sx] at c6
      refine G O<|yG O<|Y O<|W<|zE O (fun c7=>?_) (fun c7=>?_)
      ·try simp only [sx] at c7
       refine G O<|Y O<|W<|zJ<|zP O ?_
       exact congrArg vI (by unfold nArgs;(repeat' split)<;>omega)
      ·try simp only [sx] at c7
       refine zI<|G O<|Y O<|W<|zJ<|zP O ?_
       exact congrArg vI (by unfold nArgs;(repeat' split)<;>omega)
    ·try simp only [sx] at c5
     refine zO O<|yG O<|Y O<|W<|zE O (fun c6=>?_) (fun c6=>?_)
     ·try simp only [sx] at c6
      refine G O<|Y O<|W<|zJ<|zP O ?_
      exact congrArg vI (by unfold nArgs;(repeat' split)<;>omega)
     ·try simp only [sx] at c6
      refine G O<|yG O<|Y O<|W<|zE O (fun c7=>?_) (fun c7=>?_)
      ·try simp only [sx] at c7
       refine G O<|Y O<|W<|zJ<|zP O ?_
       exact congrArg vI (by unfold nArgs;(repeat' split)<;>omega)
      ·try simp only [sx] at c7
       refine zI<|G O<|Y O<|W<|zJ<|zP O ?_
       exact congrArg vI (by unfold nArgs;(repeat' split)<;>omega)
 ·try simp only [sx] at c1
  refine G O<|yG O<|Y O<|W<|zE O (fun c2=>?_) (fun c2=>?_)
  ·try simp only [sx] at c2
   refine zI<|zE O (fun c3=>?_) (fun c3=>?_)
   ·try simp only [sx] at c3
    refine G O<|Y O<|W<|zJ<|zP O ?_
    exact congrArg vI (by unfold nArgs;(repeat' split)<;>omega)
   ·try simp only [sx] at c3
    refine zG<|G O<|yG O<|Y O<|W<|zE O (fun c4=>?_) (fun c4=>?_)
    ·try simp only [sx] at c4
     refine zI<|zE O (fun c6=>?_) (fun c6=>?_)
     ·try simp only [sx] at c6
      refine G O<|Y O<|W<|zJ<|zP O ?_
      exact congrArg vI (by unfold nArgs;(repeat' split)<;>omega)
     ·try simp only [sx] at c6
      refine G O<|yG O<|Y O<|W<|zE O (fun c7=>?_) (fun c7=>?_)
      ·try simp only [sx] at c7
       refine G O<|Y O<|W<|zJ<|zP O ?_
       exact congrArg vI (by unfold nArgs;(repeat' split)<;>omega)
      ·try simp only [sx] at c7
       refine zI<|G O<|Y O<|W<|zJ<|zP O ?_
       exact congrArg vI (by unfold nArgs;(repeat' split)<;>omega)
    ·try simp only [sx] at c4
     refine G O<|yG O<|Y O<|W<|zE O (fun c5=>?_) (fun c5=>?_)
     ·try simp only [sx] at c5
      refine zI<|zE O (fun c6=>?_) (fun c6=>?_)
      ·try simp only [sx] at c6
       refine G O<|Y O<|W<|zJ<|zP O ?_
       exact congrArg vI (by unfold nArgs;(repeat' split)<;>omega)
      ·try simp only [sx] at c6
       refine G O<|yG O<|Y O<|W<|zE O (fun c7=>?_) (fun c7=>?_)
       ·try simp only [sx] at c7
        refine G O<|Y O<|W<|zJ<|zP O ?_
        exact congrArg vI (by unfold nArgs;(repeat' split)<;>omega)
       ·try simp only [sx] at c7
        refine zI<|G O<|Y O<|W<|zJ<|zP O ?_
        exact congrArg vI (by unfold nArgs;(repeat' split)<;>omega)
     ·try simp only [sx] at c5
      refine zO O<|yG O<|Y O<|W<|zE O (fun c6=>?_) (fun c6=>?_)
      ·try simp only [sx] at c6
       refine G O<|Y O<|W<|zJ<|zP O ?_
       exact congrArg vI (by unfold nArgs;(repeat' split)<;>omega)
      ·try simp only [sx] at c6
       refine G O<|yG O<|Y O<|W<|zE O (fun c7=>?_) (fun c7=>?_)
       ·try simp only [sx] at c7
        refine G O<|Y O<|W<|zJ<|zP O ?_
        exact congrArg vI (by unfold nArgs;(repeat' split)<;>omega)
       ·try simp only [sx] at c7
        refine zI<|G O<|Y O<|W<|zJ<|zP O ?_
        exact congrArg vI (by unfold nArgs;(repeat' split)<;>omega)
  ·try simp only [sx] at c2
   refine zO O<|yG O<|Y O<|W<|zE O (fun c3=>?_) (fun c3=>?_)
   ·try simp only [sx] at c3
    refine G O<|Y O<|W<|zJ<|zP O ?_
    exact congrArg vI (by unfold nArgs;(repeat' split)<;>omega)
   ·try simp only [sx] at c3
    refine zG<|G O<|yG O<|Y O<|W<|zE O (fun c4=>?_) (fun c4=>?_)
    ·try simp only [sx] at c4
     refine zI<|zE O (fun c6=>?_) (fun c6=>?_)
     ·try simp only [sx] at c6
      refine G O<|Y O<|W<|zJ<|zP O ?_
      exact congrArg vI (by unfold nArgs;(repeat' split)<;>omega)
     ·try simp only [sx] at c6
      refine G O<|yG O<|Y O<|W<|zE O (fun c7=>?_) (fun c7=>?_)
      ·try simp only [sx] at c7
       refine G O<|Y O<|W<|zJ<|zP O ?_
       exact congrArg vI (by unfold nArgs;(repeat' split)<;>omega)
      ·try simp only [sx] at c7
       refine zI<|G O<|Y O<|W<|zJ<|zP O ?_
       exact congrArg vI (by unfold nArgs;(repeat' split)<;>omega)
    ·try simp only [sx] at c4
     refine G O<|yG O<|Y O<|W<|zE O (fun c5=>?_) (fun c5=>?_)
     ·try simp only [sx] at c5
      refine zI<|zE O (fun c6=>?_) (fun c6=>?_)
      ·try simp only [sx] at c6
       refine G O<|Y O<|W<|zJ<|zP O ?_
       exact congrArg vI (by unfold nArgs;(repeat' split)<;>omega)
      ·try simp only [sx] at c6
       refine G O<|yG O<|Y O<|W<|zE O (fun c7=>?_) (fun c7=>?_)
       ·try simp only [sx] at c7
        refine G O<|Y O<|W<|zJ<|zP O ?_
        exact congrArg vI (by unfold nArgs;(repeat' split)<;>omega)
       ·try simp only [sx] at c7
        refine zI<|G O<|Y O<|W<|zJ<|zP O ?_
        exact congrArg vI (by unfold nArgs;(repeat' split)<;>omega)
     ·try simp only [sx] at c5
      refine zO O<|yG O<|Y O<|W<|zE O (fun c6=>?_) (fun c6=>?_)
      ·try simp only [sx] at c6
       refine G O<|Y O<|W<|zJ<|zP O ?_
       exact congrArg vI (by unfold nArgs;(repeat' split)<;>omega)
      ·try simp only [sx] at c6
       refine G O<|yG O<|Y O<|W<|zE O (fun c7=>?_) (fun c7=>?_)
       ·try simp only [sx] at c7
        refine G O<|Y O<|W<|zJ<|zP O ?_
        exact congrArg vI (by unfold nArgs;(repeat' split)<;>omega)
       ·try simp only [sx] at c7
        refine zI<|G O<|Y O<|W<|zJ<|zP O ?_
        exact congrArg vI (by unfold nArgs;(repeat' split)<;>omega)
theorem zAa (e:Ex):
    Pur cfg 161 [vE e] (vB (isCond e)):=by
 refine zR Tryz.func161 O Tryz.ntmps161 Tryz.results161 O ?_
 intro z hz
 refine G O<|zS O O (qG O O) ?_
 rintro _ _ ⟨b1,rfl,rfl⟩
 refine Y O<|W<|G O<|zD O yY<|zH one3 (J 0 O) O<|zX O (kX O O O)<|Y O<|rL0 O (fun g1_3=>zF O yY O) O<|rL1 7 O (fun g1_3=>zK O one3 O (J 0 O) O) O<|rL1 8 O (fun g1_3=>kO O O O) O<|kD O (fun h=>h)<|Y O<|W<|zJ<|zP O ?_
 exact O
theorem zFq (op i:Int):
    Pur cfg 272 [vI op,vI i] (vB (wantC op i)):=by
 refine zR Tryz.func272 O Tryz.ntmps272 Tryz.results272 O ?_
 intro z hz
 refine G O<|Y O<|W<|zG<|G O<|Y O<|W<|zN<|zG<|G O<|yG O<|Y O<|W<|zE O (fun c1=>?_) (fun c1=>?_)
 ·try simp only [sx] at c1
  refine zI<|zE O (fun c3=>?_) (fun c3=>?_)
  ·try simp only [sx] at c3
   refine G O<|Y O<|W<|zJ<|zP O ?_
   exact congrArg vB (by unfold wantC;first|(exfalso;omega)|(simp [*];done)|(rw [Bool.eq_iff_iff];simp only [Bool.or_eq_true,Bool.and_eq_true,decide_eq_true_eq];omega))
  ·try simp only [sx] at c3
   refine zI<|G O<|Y O<|yG O<|Y O<|rL0 O (fun g6_2=>zQ O O) O<|rL1 13 O (fun g6_2=>yL O O O) O<|kD O (fun h=>h)<|Y O<|W<|zJ<|zP O ?_
   exact congrArg vB (by unfold wantC;first|(exfalso;omega)|(simp [*];done)|(rw [Bool.eq_iff_iff];simp only [Bool.or_eq_true,Bool.and_eq_true,decide_eq_true_eq];omega))
 ·try simp only [sx] at c1
  refine G O<|yG O<|Y O<|W<|zE O (fun c2=>?_) (fun c2=>?_)
  ·try simp only [sx] at c2
   refine zI<|zE O (fun c3=>?_) (fun c3=>?_)
   ·try simp only [sx] at c3
    refine G O<|Y O<|W<|zJ<|zP O ?_
    exact congrArg vB (by unfold wantC;first|(exfalso;omega)|(simp [*];done)|(rw [Bool.eq_iff_iff];simp only [Bool.or_eq_true,Bool.and_eq_true,decide_eq_true_eq];omega))
   ·try simp only [sx] at c3
    refine zI<|G O<|Y O<|yG O<|Y O<|rL0 O (fun g6_2=>zQ O O) O<|rL1 13 O (fun g6_2=>yL O O O) O<|kD O (fun h=>h)<|Y O<|W<|zJ<|zP O ?_
    exact congrArg vB (by unfold wantC;first|(exfalso;omega)|(simp [*];done)|(rw [Bool.eq_iff_iff];simp only [Bool.or_eq_true,Bool.and_eq_true,decide_eq_true_eq];omega))
  ·try simp only [sx] at c2
   refine zO O<|yG O<|Y O<|W<|zE O (fun c3=>?_) (fun c3=>?_)
   ·try simp only [sx] at c3
    refine G O<|Y O<|W<|zJ<|zP O ?_
    exact congrArg vB (by unfold wantC;first|(exfalso;omega)|(simp [*];done)|(rw [Bool.eq_iff_iff];simp only [Bool.or_eq_true,Bool.and_eq_true,decide_eq_true_eq];omega))
   ·try simp only [sx] at c3
    refine zI<|G O<|Y O<|yG O<|Y O<|rL0 O (fun g6_2=>zQ O O) O<|rL1 13 O (fun g6_2=>yL O O O) O<|kD O (fun h=>h)<|Y O<|W<|zJ<|zP O ?_
    exact congrArg vB (by unfold wantC;first|(exfalso;omega)|(simp [*];done)|(rw [Bool.eq_iff_iff];simp only [Bool.or_eq_true,Bool.and_eq_true,decide_eq_true_eq];omega))
theorem ref14_wants (op i:Int):
    Pur cfg 294 [vI op,vI i] (vB (wantC op i)):=by
 refine zR Tryz.func294 O Tryz.ntmps294 Tryz.results294 O ?_
 intro z hz
 refine G O<|Y O<|W<|G O<|Y O<|yG O<|Y O<|rL0 O (fun g1_2=>zQ O O) O<|rL1 8 O (fun g1_2=>yL O O O) O<|kD O (fun h=>h)<|Y O<|rL0 O (fun g1_6=>zQ O O) O<|rL1 12 O (fun g1_6=>yL O O O) O<|r_or O (fun h=>(lzf h))<|Y O<|rL0 O (fun g1_10=>zQ O O) O<|rL1 16 O (fun g1_10=>yL O O O) O<|r_or O (fun h=>(lzf h))<|Y O<|rL0 O (fun g1_14=>zQ O O) O<|rL1 20 O (fun g1_14=>yL O O O) O<|r_or O (fun h=>(lzf h))<|Y O<|W<|zJ<|zP O ?_
 exact O
theorem zPp (l:Lf):
    Pur cfg 265 [vLin l] (vB (zeroL l)):=by
 refine zR Tryz.func265 O Tryz.ntmps265 Tryz.results265 O ?_
 intro z hz
 refine G O<|zS O O (qG O O) ?_
 rintro _ _ ⟨b1,rfl,rfl⟩
 refine Y O<|W<|G O<|zD O zFn<|zH one2 (J 0 O) O<|yG O<|Y O<|rL0 O (fun g1_3=>zF O kR O) O<|rL1 7 O (fun g1_3=>zK O zAm O (J 0 O) O) O<|rL1 8 O (fun g1_3=>qU O el38 O) O<|rL1 9 O (fun g1_3=>yL O O O) O<|kD O (fun h=>h)<|Y O<|W<|zJ<|zP O ?_
 exact O
theorem zPo (x:Ix):
    Pur cfg 268 [vIndex x] (vB (wellIx x)):=by
 refine zR Tryz.func268 O Tryz.ntmps268 Tryz.results268 O ?_
 intro z hz
 refine G O<|zS O O (qG O O) ?_
 rintro _ _ ⟨b1,rfl,rfl⟩
 refine Y O<|W<|zG<|G O<|zD O wX<|zH one9 (J 0 O) O<|zX O (yM O O O)<|W<|zE O (fun c1=>?_) (fun c1=>?_)
 ·try simp only [sx] at c1
  refine G O<|zD O kW<|zH zAr (J 0 O) O<|zV O el65<|yG O<|Y O<|W<|zJ<|zP O ?_
  rw [wellIx,wA c1];rfl
 ·try simp only [sx] at c1
  refine zI<|G O<|zD O zAz<|zL kF (J 0 O) O<|qK O ok265 (zPp x.Lin) ⟨U,O,T⟩<|Y O<|W<|zJ<|zP O ?_
  rw [wellIx,yI c1];rfl
theorem expr_syntax_1 (x:Ix):
    Pur cfg 267 [vIndex x] (vB (!wellIx x)):=by
 refine zR Tryz.func267 O Tryz.ntmps267 Tryz.results267 O ?_
 intro z hz
 refine G O<|zS O O (qG O O) ?_
 rintro _ _ ⟨b1,rfl,rfl⟩
 refine Y O<|W<|G O<|zL zAx (J 0 O) O<|qK O ok268 (zPo x) ⟨U,O,T⟩<|wD O<|Y O<|W<|zJ<|zP O ?_
 exact O
theorem expr_names_1 (x:Ix):
    Pur cfg 269 [vIndex x] (vB (!nmIx x)):=by
 refine zR Tryz.func269 O Tryz.ntmps269 Tryz.results269 O ?_
 intro z hz
 refine G O<|zS O O (qG O O) ?_
 rintro _ _ ⟨b1,rfl,rfl⟩
 refine Y O<|W<|G O<|zD O wX<|zH one9 (J 0 O) O<|zX O (zCz O O O)<|Y O<|rL0 O (fun g1_3=>zF O wX O) O<|rL1 7 O (fun g1_3=>zK O one9 O (J 0 O) O) O<|rL1 8 O (fun g1_3=>qH O ok138 (zDs _) ⟨U,O,T⟩) O<|rL1 9 O (fun g1_3=>wB O O) O<|kD O (fun h=>h)<|Y O<|W<|zJ<|zP O ?_
 exact congrArg vB (by unfold nmIx;simp)
theorem expr_rank_1 (x:Ix):
    Pur cfg 271 [vIndex x] (vB (!rkIx x)):=by
 refine zR Tryz.func271 O Tryz.ntmps271 Tryz.results271 O ?_
 intro z hz
 refine G O<|zS O O (qG O O) ?_
 rintro _ _ ⟨b1,rfl,rfl⟩
 refine Y O<|W<|G O<|zD O kW<|zH zAr (J 0 O) O<|zV O el65<|zX O (yF O O O)<|Y O<|W<|zJ<|zP O ?_
 exact congrArg vB (by unfold rkIx;simp)
theorem expr_syntax (e:Ex) (he:e.wt<=6000000000000):
    Pur cfg 221 [vE e] (vB (synOk e)):=by
 refine zR Tryz.func221 O Tryz.ntmps221 Tryz.results221 O ?_
 intro z hz
 obtain ⟨hL,hI,hA⟩:=e.parts he
 refine G O<|zS O O (qG O O) ?_
 rintro _ _ ⟨b1,rfl,rfl⟩
 refine Y O<|W<|zG<|qY 13 mixed (by kernel_rfl) O O<|zM O O (zF O yY O)<|zM O O (zK O one3 O (J 0 O) O)<|zM O O (yL O O O)<|zM O O (zF O yY O)<|zM O O (zK O one3 O (J 0 O) O)<|zM O O (yL O O O)<|zM O O (zQ O O)<|qC [] O O O O gv1 T (fun g1_6=>zF O yY O) O<|qC [(14,_)] O O O O gv1 ⟨O,O,T⟩ (fun g1_6=>zK O one3 O (J 0 O) O) O<|qC [(15,_)] O O O O gv1 ⟨O,O,T⟩ (fun g1_6=>yL O O O) O<|zM O O (zBw O O O O (fun h=>(lzf h)))<|zM O O (yV O O)<|zM O O (yV O O)<|yT<|W<|zG<|qY 8 mixed (by kernel_rfl) O O<|zM O O (zF O yY O)<|zM O O (zK O one3 O (J 0 O) O)<|zM O O (yL O O O)<|zM O O (zF O yY O)<|zM O O (zK O one3 O (J 0 O) O)<|zM O O (yL O O O)<|zM O O (yV O O)<|zM O O (yV O O)<|yT<|W<|zG<|zN<|G O<|zD O yY<|zH one3 (J 0 O) O<|qW O<|Y O<|rL0 O (fun g3_3=>zF O yY O) O<|rL1 29 O (fun g3_3=>zK O one3 O (J 0 O) O) O<|rL1 30 O (fun g3_3=>yF O O O) O<|r_or O (fun h=>(lzf h))<|Y O<|W<|zE O (fun c1=>?_) (fun c1=>?_)
 ·refine G O<|Y O<|W<|zJ<|zP O ?_
  exact congrArg vB (by simp only [synOk,c1,Bool.not_true,Bool.not_false,Bool.true_and,Bool.and_true,Bool.false_and,Bool.and_false])
 ·refine G O<|Y O<|wD O<|Y O<|rL0 O (fun g5_2=>zF O zHq O) O<|rL1 37 O (fun g5_2=>zT O agg35 O (J 0 O) O) O<|rL0 O (fun g5_2=>kV O zr35 pl35 O) O<|rLz [(38,_),(39,_)] O gv1 ⟨O,O,O,O,T⟩ (fun g5_2=>zBf O fl35 O O O) O<|kD O (fun h=>h)<|Y O<|W<|zE O (fun c2=>?_) (fun c2=>?_)
  ·have c2:(!decide (e.Op=1)&& !val0 e.Val)=true:=c2
   refine G O<|Y O<|W<|zJ<|zP O ?_
   exact congrArg vB (by simp only [synOk,c2,Bool.not_true,Bool.not_false,Bool.true_and,Bool.and_true,Bool.false_and,Bool.and_false])
  ·have c2:(!decide (e.Op=1)&& !val0 e.Val)=false:=c2
   refine G O<|Y O<|wD O<|Y O<|rL0 O (fun g7_2=>zF O zEm O) O<|rL1 46 O (fun g7_2=>zT O yD O (J 0 O) O) O<|rL0 O (fun g7_2=>kV O zr37 pl37 O) O<|rLz [(47,_),(48,_)] O gv1 ⟨O,O,O,O,T⟩ (fun g7_2=>zBf O fl37 O O O) O<|kD O (fun h=>h)<|Y O<|W<|zE O (fun c3=>?_) (fun c3=>?_)
   ·have c3:(!(decide (e.Op=1)||decide (e.Op=12))&& !ty0 e.Ty)=true:=c3
    refine G O<|Y O<|W<|zJ<|zP O ?_
    exact congrArg vB (by simp only [synOk,c3,Bool.not_true,Bool.not_false,Bool.true_and,Bool.and_true,Bool.false_and,Bool.and_false])
   ·have c3:(!(decide (e.Op=1)||decide (e.Op=12))&& !ty0 e.Ty)=false:=c3
    refine G O<|Y O<|wD O<|Y O<|rL0 O (fun g9_2=>zF O zCo O) O<|rL1 55 O (fun g9_2=>zT O kF O (J 0 O) O) O<|rL1 56 O (fun g9_2=>qH O ok265 (zPp e.Lin) ⟨U,O,T⟩) O<|rL1 57 O (fun g9_2=>wB O O) O<|kD O (fun h=>h)<|Y O<|W<|zE O (fun c4=>?_) (fun c4=>?_)
    ·refine G O<|Y O<|W<|zJ<|zP O ?_
     exact congrArg vB (by simp only [synOk,c4,Bool.not_true,Bool.not_false,Bool.true_and,Bool.and_true,Bool.false_and,Bool.and_false])
    ·refine G O<|Y O<|wD O<|Y O<|rL0 O (fun g11_2=>zF O zFm O) O<|rL1 64 O (fun g11_2=>zK O one9 O (J 0 O) O) O<|rL1 65 O (fun g11_2=>zCz O O O) O<|rL1 66 O (fun g11_2=>zQ O O) O<|rLz [] O q T (fun g11_6=>zF O kC O) O<|rLz [(68,_)] O q ⟨O,O,T⟩ (fun g11_6=>zK O wK O (J 0 O) O) O<|rLz [(69,_)] O q ⟨O,O,T⟩ (fun g11_6=>qU O el41 O) O<|rLz [(70,_)] O q ⟨O,O,T⟩ (fun g11_6=>yF O O O) O<|rL1 67 O (fun g11_2=>zBw O O O O (fun h=>kE (by assumption) (lzf h))) O<|kD O (fun h=>h)<|Y O<|W<|zE O (fun c5=>?_) (fun c5=>?_)
     ·refine G O<|Y O<|W<|zJ<|zP O ?_
      exact congrArg vB (by simp only [synOk,c5,Bool.not_true,Bool.not_false,Bool.true_and,Bool.and_true,Bool.false_and,Bool.and_false])
     ·refine zI<|G O<|zD O kC<|zH wK (J 0 O) O<|qK O ok266 (zAh e.Idx _ (fun x=> !wellIx x) hI (fun x _=>FnPur.of_pur (first:=[]) (cap:=[]) ok267 (expr_syntax_1 x))) ⟨U,O,U,O,T⟩<|wD O<|Y O<|W<|zJ<|zP O ?_
      exact congrArg vB (by rw [zOo];simp only [synOk,c1,c2,c3,c4,c5,Bool.not_true,Bool.not_false,Bool.true_and,Bool.and_true,Bool.false_and,Bool.and_false])
theorem expr_names (e:Ex) (he:e.wt<=6000000000000):
    Pur cfg 222 [vE e] (vB (namesE e)):=by
 refine zR Tryz.func222 O Tryz.ntmps222 Tryz.results222 O ?_
 intro z hz
 obtain ⟨hL,hI,hA⟩:=e.parts he
 refine G O<|zS O O (qG O O) ?_
 rintro _ _ ⟨b1,rfl,rfl⟩
 refine Y O<|W<|zG<|G O<|zD O yY<|zH one3 (J 0 O) O<|yG O<|Y O<|rL0 O (fun g1_3=>zF O zFm O) O<|rL1 7 O (fun g1_3=>zK O one9 O (J 0 O) O) O<|rL1 8 O (fun g1_3=>qH O ok138 (zDs _) ⟨U,O,T⟩) O<|rL1 9 O (fun g1_3=>wB O O) O<|kD O (fun h=>h)<|W<|zE O (fun c1=>?_) (fun c1=>?_)
 ·refine G O<|Y O<|W<|zJ<|zP O ?_
  exact congrArg vB (by simp only [namesE,c1,Bool.not_true,Bool.false_and])
 ·refine zI<|G O<|zD O kC<|zH wK (J 0 O) O<|qK O ok266 (zAh e.Idx _ (fun x=> !nmIx x) hI (fun x _=>FnPur.of_pur (first:=[]) (cap:=[]) ok269 (expr_names_1 x))) ⟨U,O,U,O,T⟩<|wD O<|Y O<|W<|zJ<|zP O ?_
  exact congrArg vB (by rw [zOo];simp only [namesE,c1,Bool.not_false,Bool.true_and])
theorem expr_rank (e:Ex) (he:e.wt<=6000000000000):
    Pur cfg 223 [vE e] (vB (rankE e)):=by
 refine zR Tryz.func223 O Tryz.ntmps223 Tryz.results223 O ?_
 intro z hz
 obtain ⟨hL,hI,hA⟩:=e.parts he
 refine G O<|zS O O (qG O O) ?_
 rintro _ _ ⟨b1,rfl,rfl⟩
 refine Y O<|W<|zG<|zG<|qY 13 mixed (by kernel_rfl) O O<|zM O O (zF O kG O)<|zM O O (zK O wS O (J 0 O) O)<|zM O O (qU O el42 O)<|zM O O (zF O yY O)<|zM O O (zK O one3 O (J 0 O) O)<|zM O O (qH O ok270 (expr_operands _) ⟨U,O,T⟩)<|zM O O (wZ O O O)<|zM O O (zQ O O)<|qC [] O O O O gv1 T (fun g1_7=>zF O kC O) O<|qC [(11,_)] O O O O gv1 ⟨O,O,T⟩ (fun g1_7=>zK O wK O (J 0 O) O) O<|qC [(12,_)] O O O O gv1 ⟨O,O,T⟩ (fun g1_7=>qU O el41 O) O<|qC [(13,_)] O O O O gv1 ⟨O,O,T⟩ (fun g1_7=>yF O O O) O<|zM O O (zBw O O O O (fun h=>(lzf h)))<|yT<|W<|zE O (fun c1=>?_) (fun c1=>?_)
 ·refine G O<|Y O<|W<|zJ<|zP O ?_
  exact congrArg vB (by simp only [rankE,c1,Bool.not_true,Bool.false_and])
 ·refine zI<|G O<|zD O kC<|zH wK (J 0 O) O<|qK O ok266 (zAh e.Idx _ (fun x=> !rkIx x) hI (fun x _=>FnPur.of_pur (first:=[]) (cap:=[]) ok271 (expr_rank_1 x))) ⟨U,O,U,O,T⟩<|wD O<|Y O<|W<|zJ<|zP O ?_
  exact congrArg vB (by rw [zOo];simp only [rankE,c1,Bool.not_false,Bool.true_and])
theorem expr_types (e:Ex) (he:e.wt<=6000000000000):
    Pur cfg 224 [vE e] (vB (typesE e)):=by
 refine zR Tryz.func224 O Tryz.ntmps224 Tryz.results224 O ?_
 intro z hz
 obtain ⟨hL,hI,hA⟩:=e.parts he
 refine G O<|zS O O (qG O O) ?_
 rintro _ _ ⟨b1,rfl,rfl⟩
 refine Y O<|W<|zG<|G O<|zD O yY<|zH one3 (J 0 O) O<|yG O<|Y O<|rL0 O (fun g1_3=>zF O yY O) O<|rL1 9 O (fun g1_3=>zK O one3 O (J 0 O) O) O<|rL1 10 O (fun g1_3=>yL O O O) O<|r_or O (fun h=>(lzf h))<|Y O<|rL0 O (fun g1_8=>zF O zEm O) O<|rL1 14 O (fun g1_8=>zT O yD O (J 0 O) O) O<|rL1 15 O (fun g1_8=>qH O ok191 (zBs _) ⟨U,O,T⟩) O<|rL1 16 O (fun g1_8=>wZ O O O) O<|kD O (fun h=>h)<|W<|zE O (fun c1=>?_) (fun c1=>?_)
 ·rw [tyErr_dec] at c1
  refine G O<|Y O<|W<|zJ<|zP O ?_
  exact congrArg vB (by simp only [typesE,c1,Bool.not_true,Bool.false_and])
 ·rw [tyErr_dec] at c1
  refine zI<|zG<|G O<|zD O kG<|zH wS (J 0 O) O<|zV O el42<|Y O<|W<|zN<|zU ⟨[(22,.c _),(1,.c _),(20,.c _),(21,.c _)],[_]⟩ (Weak.mk [true] ⟨U,U,U,U,T⟩ O)<|qA 1 0 O O (Nat) (fun k=>[(22,vI k)]) (fun k=>[]) (fun k=>k<=e.Args.length/\(condsOk e.Op 0 e.Args=condsOk e.Op k (e.Args.drop k))) (fun k=>e.Args.length-k) ⟨0,⟨by omega,O⟩,Weak.mk [true] ⟨U,U,U,U,T⟩ O⟩ ?_
  rintro k ⟨hk,hp⟩
  refine G O<|qW O<|W<|zG<|zE O (fun c2=>?_) (fun c2=>?_)
  ·try simp only [sx] at c2
   obtain ⟨a,ha⟩:=qP e.Args k (by omega)
   refine zI<|zG<|zN<|G O<|Y O<|zZ O el42 (by omega) (zBr (by assumption))<|zL qZ zY O<|zS O O (qD [none,none,none,none,none,none,none,none,none,none,some 2,some 4,some 13] O zr44 O) ?_
   rintro _ _ ⟨b2,rfl,rfl⟩
   refine Y O<|N 0 sz44 O<|W<|zG<|qY 7 mixed (by kernel_rfl) O O<|zM O O (zT O qZ O (J 0 O) O)<|zM O O (qH O ok155 (zCt a) ⟨U,O,T⟩)<|zM O O (zF O yY O)<|zM O O (zK O one3 O (J 1 O) O)<|zM O O (zQ O O)<|zM O O (qH O ok272 (zFq _ _) ⟨U,O,U,O,T⟩)<|zM O O (det_bneq O un4 O O)<|yT<|W<|zE O (fun c3=>?_) (fun c3=>?_)
   ·refine G O<|Y O<|W<|zJ<|zP O ?_
    exact congrArg vB (by simp only [typesE,c1,Bool.not_false,Bool.true_and];rw [hp,qI ha,condsOk,show (isCond a==wantC e.Op k)=false by simpa using c3,Bool.false_and])
   ·refine zI<|zO O<|qB O ⟨by omega,by omega⟩<|Y O<|W ?_
    refine ⟨k+1,⟨by omega,(by rw [hp,qI ha,condsOk,show (isCond a==wantC e.Op k)=true by simpa using c3,Bool.true_and];rfl)⟩,(by omega),Weak.mk [false,true] ⟨U,U,U,U,T⟩ O⟩
  ·try simp only [sx] at c2
   refine qE<|G O<|Y O<|W<|zJ<|zP O ?_
   exact congrArg vB (by simp only [typesE,c1,Bool.not_false,Bool.true_and];rw [hp,kB (by omega)];rfl)
theorem ref14_typed (e:Ex) (he:e.wt<=6000000000000):
    Pur cfg 261 [vE e] (vB (typesE e)):=by
 refine zR Tryz.func261 O Tryz.ntmps261 Tryz.results261 O ?_
 intro z hz
 obtain ⟨hL,hI,hA⟩:=e.parts he
 refine G O<|zS O O (qG O O) ?_
 rintro _ _ ⟨b1,rfl,rfl⟩
 refine Y O<|W<|zG<|G O<|zD O yY<|zH one3 (J 0 O) O<|yG O<|Y O<|rL0 O (fun g1_3=>zF O yY O) O<|rL1 8 O (fun g1_3=>zK O one3 O (J 0 O) O) O<|rL1 9 O (fun g1_3=>yL O O O) O<|r_or O (fun h=>(lzf h))<|Y O<|rL0 O (fun g1_8=>zF O zEm O) O<|rL1 13 O (fun g1_8=>zT O yD O (J 0 O) O) O<|rL1 14 O (fun g1_8=>qH O ok109 (zQg _) ⟨U,O,T⟩) O<|rL1 15 O (fun g1_8=>wB O O) O<|kD O (fun h=>h)<|W<|zE O (fun c1=>?_) (fun c1=>?_)
 ·refine G O<|Y O<|W<|zJ<|zP O ?_
  exact congrArg vB (by simp only [typesE,c1,Bool.not_true,Bool.false_and])
 ·refine zI<|zG<|G O<|Y O<|W<|zN<|zU ⟨[(3,.c _),(1,.c _)],[_]⟩ (Weak.mk [true] ⟨U,U,T⟩ O)<|qA 1 0 O O (Nat) (fun k=>[(3,vI k)]) (fun k=>[]) (fun k=>k<=e.Args.length/\(condsOk e.Op 0 e.Args=condsOk e.Op k (e.Args.drop k))) (fun k=>e.Args.length-k) ⟨0,⟨by omega,O⟩,Weak.mk [true] ⟨U,U,T⟩ O⟩ ?_
  rintro k ⟨hk,hp⟩
  refine zG<|G O<|Y O<|zD O kG<|zH wS (J 0 O) O<|zV O el42<|qW O<|W<|zE O (fun c2=>?_) (fun c2=>?_)
  ·try simp only [sx] at c2
   obtain ⟨a,ha⟩:=qP e.Args k (by omega)
   refine zI<|zG<|zN<|zG<|qY 11 mixed (by kernel_rfl) O O<|zM O O (zF O kG O)<|zM O O (zK O wS O (J 0 O) O)<|zM O O (zQ O O)<|zM O O (qJ O el42 O O (by omega) (zBr (by assumption)))<|zM O O (zT O qZ O zY O)<|zM O O (qH O ok161 (zAa a) ⟨U,O,T⟩)<|zM O O (zF O yY O)<|zM O O (zK O one3 O (J 0 O) O)<|zM O O (zQ O O)<|zM O O (qH O ok294 (ref14_wants _ _) ⟨U,O,U,O,T⟩)<|zM O O (det_bneq O un4 O O)<|yT<|W<|zE O (fun c3=>?_) (fun c3=>?_)
   ·refine G O<|Y O<|W<|zJ<|zP O ?_
    exact congrArg vB (by simp only [typesE,c1,Bool.not_false,Bool.true_and];rw [hp,qI ha,condsOk,show (isCond a==wantC e.Op k)=false by simpa using c3,Bool.false_and])
   ·refine zI<|zO O<|Y O<|qB O ⟨by omega,by omega⟩<|Y O<|W ?_
    refine ⟨k+1,⟨by omega,(by rw [hp,qI ha,condsOk,show (isCond a==wantC e.Op k)=true by simpa using c3,Bool.true_and];rfl)⟩,(by omega),Weak.mk [true] ⟨U,U,T⟩ O⟩
  ·try simp only [sx] at c2
   refine qE<|G O<|Y O<|W<|zJ<|zP O ?_
   exact congrArg vB (by simp only [typesE,c1,Bool.not_false,Bool.true_and];rw [hp,kB (by omega)];rfl)
theorem ref14_plain (e:Ex) (he:e.wt<=6000000000000):
    Pur cfg 258 [vE e] (vB (synOk e)):=by
 refine zR Tryz.func258 O Tryz.ntmps258 Tryz.results258 O ?_
 intro z hz
 obtain ⟨hL,hI,hA⟩:=e.parts he
 refine G O<|zS O O (qG O O) ?_
 rintro _ _ ⟨b1,rfl,rfl⟩
 refine Y O<|W<|zG<|G O<|zD O yY<|zH one3 (J 0 O) O<|qW O<|Y O<|rL0 O (fun g1_3=>zF O yY O) O<|rL1 9 O (fun g1_3=>zK O one3 O (J 0 O) O) O<|rL1 10 O (fun g1_3=>yF O O O) O<|r_or O (fun h=>(lzf h))<|W<|zE O (fun c1=>?_) (fun c1=>?_)
 ·refine G O<|Y O<|W<|zJ<|zP O ?_
  exact congrArg vB (by simp only [synOk,c1,Bool.not_true,Bool.false_and])
 ·refine zI<|zG<|G O<|zD O yY<|zH one3 (J 0 O) O<|yR O<|Y O<|rL0 O (fun g3_3=>zF O zHq O) O<|rL1 17 O (fun g3_3=>zT O agg35 O (J 0 O) O) O<|rL0 O (fun g3_3=>kV O zr35 pl35 O) O<|rLz [(18,_),(19,_)] O gv1 ⟨O,O,O,O,T⟩ (fun g3_3=>zBf O fl35 O O O) O<|kD O (fun h=>h)<|Y O<|rL0 O (fun g3_9=>zF O yY O) O<|rL1 23 O (fun g3_9=>zK O one3 O (J 0 O) O) O<|rL1 24 O (fun g3_9=>wZ O O O) O<|rL1 25 O (fun g3_9=>zQ O O) O<|rLz [] O q T (fun g3_13=>zF O yY O) O<|rLz [(27,_)] O q ⟨O,O,T⟩ (fun g3_13=>zK O one3 O (J 0 O) O) O<|rLz [(28,_)] O q ⟨O,O,T⟩ (fun g3_13=>wZ O O O) O<|rL1 26 O (fun g3_9=>wF O O O (fun h=>kE (by assumption) h) O) O<|rL1 30 O (fun g3_9=>zQ O O) O<|rLz [] O q T (fun g3_18=>zF O zEm O) O<|rLz [(32,_)] O q ⟨O,O,T⟩ (fun g3_18=>zT O yD O (J 0 O) O) O<|rLz [] O q T (fun g3_18=>kV O zr37 pl37 O) O<|rLz [(33,_),(34,_)] O q ⟨O,O,O,O,T⟩ (fun g3_18=>zBf O fl37 O O O) O<|rL1 31 O (fun g3_9=>wF O O O (fun h=>kE (by assumption) h) O) O<|r_or O (fun h=>(lzf h))<|W<|zE O (fun c2=>?_) (fun c2=>?_)
  ·have h2:=plain2 (e:=e) c2
   refine G O<|Y O<|W<|zJ<|zP O ?_
   exact congrArg vB (syn2 h2)
  ·have h2:=plain2 (e:=e) c2
   refine zI<|zG<|G O<|zD O yY<|zH one3 (J 0 O) O<|yR O<|Y O<|rL0 O (fun g5_3=>zF O zCo O) O<|rL1 42 O (fun g5_3=>zF O zFn O) O<|rL1 43 O (fun g5_3=>zK O one2 O (J 0 O) O) O<|rL1 44 O (fun g5_3=>wZ O O O) O<|rL1 45 O (fun g5_3=>zQ O O) O<|rLz [] O q T (fun g5_8=>zF O zCo O) O<|rLz [(47,_)] O q ⟨O,O,T⟩ (fun g5_8=>zF O kR O) O<|rLz [(48,_)] O q ⟨O,O,T⟩ (fun g5_8=>zK O zAm O (J 0 O) O) O<|rLz [(49,_)] O q ⟨O,O,T⟩ (fun g5_8=>qU O el38 O) O<|rLz [(50,_)] O q ⟨O,O,T⟩ (fun g5_8=>yF O O O) O<|rL1 46 O (fun g5_3=>zBw O O O O (fun h=>kE (by assumption) (lzf h))) O<|kD O (fun h=>h)<|Y O<|rL0 O (fun g5_16=>zF O yY O) O<|rL1 55 O (fun g5_16=>zK O one3 O (J 0 O) O) O<|rL1 56 O (fun g5_16=>wZ O O O) O<|rL1 57 O (fun g5_16=>zQ O O) O<|rLz [] O q T (fun g5_20=>zF O zFm O) O<|rLz [(59,_)] O q ⟨O,O,T⟩ (fun g5_20=>zK O one9 O (J 0 O) O) O<|rLz [(60,_)] O q ⟨O,O,T⟩ (fun g5_20=>zCz O O O) O<|rLz [(61,_)] O q ⟨O,O,T⟩ (fun g5_20=>zQ O O) O<|rLz [] O q T (fun g5_24=>zF O kC O) O<|rLz [(63,_)] O q ⟨O,O,T⟩ (fun g5_24=>zK O wK O (J 0 O) O) O<|rLz [(64,_)] O q ⟨O,O,T⟩ (fun g5_24=>qU O el41 O) O<|rLz [(65,_)] O q ⟨O,O,T⟩ (fun g5_24=>yF O O O) O<|rLz [(62,_)] O q ⟨O,O,T⟩ (fun g5_20=>zBw O O O O (fun h=>kE (by assumption) (lzf h))) O<|rL1 58 O (fun g5_16=>wF O O O (fun h=>kE (by assumption) h) O) O<|r_or O (fun h=>(lzf h))<|W<|zE O (fun c3=>?_) (fun c3=>?_)
   ·have h3:=plain3 (e:=e) c3
    refine G O<|Y O<|W<|zJ<|zP O ?_
    exact congrArg vB (syn3 h3)
   ·have h3:=plain3 (e:=e) c3
    refine zI<|zG<|G O<|Y O<|W<|zN<|zU ⟨[(3,.c _),(1,.c _)],[_]⟩ (Weak.mk [true] ⟨U,U,T⟩ O)<|qA 1 0 O O (Nat) (fun k=>[(3,vI k)]) (fun k=>[]) (fun k=>k<=e.Idx.length/\(e.Idx.all wellIx=(e.Idx.drop k).all wellIx)) (fun k=>e.Idx.length-k) ⟨0,⟨by omega,O⟩,Weak.mk [true] ⟨U,U,T⟩ O⟩ ?_
    rintro k ⟨hk,hp⟩
    refine zG<|G O<|Y O<|zD O kC<|zH wK (J 0 O) O<|zV O el41<|qW O<|W<|zE O (fun c4=>?_) (fun c4=>?_)
    ·try simp only [sx] at c4
     obtain ⟨x,hx⟩:=qP e.Idx k (by omega)
     refine zI<|zG<|zN<|G O<|zD O kC<|zH wK (J 0 O) O<|Y O<|zZ O el41 (by omega) (getm (by assumption))<|zL zAx zY O<|zS O O (qD [none,some 2,none,some 2] O zDp O) ?_
     rintro _ _ ⟨b2,rfl,rfl⟩
     refine N 0 zNp O<|W<|G O<|zD O wX<|zH one9 (J 0 O) O<|zX O (yM O O O)<|Y O<|rL0 O (fun g11_3=>zF O kW O) O<|rL1 86 O (fun g11_3=>zK O zAr O (J 0 O) O) O<|rL1 87 O (fun g11_3=>qU O el65 O) O<|rL1 88 O (fun g11_3=>yF O O O) O<|kD O (fun h=>h)<|Y O<|rL0 O (fun g11_9=>zF O wX O) O<|rL1 92 O (fun g11_9=>zK O one9 O (J 0 O) O) O<|rL1 93 O (fun g11_9=>zCz O O O) O<|rL1 94 O (fun g11_9=>zQ O O) O<|rLz [] O q T (fun g11_13=>zF O zAz O) O<|rLz [(96,_)] O q ⟨O,O,T⟩ (fun g11_13=>zF O zFn O) O<|rLz [(97,_)] O q ⟨O,O,T⟩ (fun g11_13=>zK O one2 O (J 0 O) O) O<|rLz [(98,_)] O q ⟨O,O,T⟩ (fun g11_13=>wZ O O O) O<|rLz [(99,_)] O q ⟨O,O,T⟩ (fun g11_13=>zQ O O) O<|rLz [] O q T (fun g11_18=>zF O zAz O) O<|rLz [(101,_)] O q ⟨O,O,T⟩ (fun g11_18=>zF O kR O) O<|rLz [(102,_)] O q ⟨O,O,T⟩ (fun g11_18=>zK O zAm O (J 0 O) O) O<|rLz [(103,_)] O q ⟨O,O,T⟩ (fun g11_18=>qU O el38 O) O<|rLz [(104,_)] O q ⟨O,O,T⟩ (fun g11_18=>yF O O O) O<|rLz [(100,_)] O q ⟨O,O,T⟩ (fun g11_13=>zBw O O O O (fun h=>kE (by assumption) (lzf h))) O<|rL1 95 O (fun g11_9=>wF O O O (fun h=>kE (by assumption) h) O) O<|r_or O (fun h=>(lzf h))<|W<|zE O (fun c5=>?_) (fun c5=>?_)
     ·have h5:=well_dec (x:=x) c5
      refine G O<|Y O<|W<|zJ<|zP O ?_
      exact congrArg vB (by rw [synOk,all_no hx (p:=wellIx) (by simpa using h5)];simp)
     ·have h5:=well_dec (x:=x) c5
      refine zI<|zO O<|Y O<|qB O ⟨by omega,by omega⟩<|Y O<|W ?_
      refine ⟨k+1,⟨by omega,zNe hx hp (by simpa using h5)⟩,(by omega),Weak.mk [false,true] ⟨U,U,T⟩ O⟩
    ·try simp only [sx] at c4
     refine qE<|G O<|Y O<|W<|zJ<|zP O ?_
     exact congrArg vB (syn5 c1 h2 h3 (all_end hp (by omega)))
theorem ref14_named (e:Ex) (he:e.wt<=6000000000000):
    Pur cfg 259 [vE e] (vB (namesE e)):=by
 refine zR Tryz.func259 O Tryz.ntmps259 Tryz.results259 O ?_
 intro z hz
 obtain ⟨hL,hI,hA⟩:=e.parts he
 refine G O<|zS O O (qG O O) ?_
 rintro _ _ ⟨b1,rfl,rfl⟩
 refine Y O<|W<|zG<|G O<|zD O yY<|zH one3 (J 0 O) O<|yG O<|Y O<|rL0 O (fun g1_3=>zF O zFm O) O<|rL1 8 O (fun g1_3=>zK O one9 O (J 0 O) O) O<|rL1 9 O (fun g1_3=>qH O ok137 (zGm _) ⟨U,O,T⟩) O<|rL1 10 O (fun g1_3=>wB O O) O<|kD O (fun h=>h)<|W<|zE O (fun c1=>?_) (fun c1=>?_)
 ·refine G O<|Y O<|W<|zJ<|zP O ?_
  exact congrArg vB (by simp only [namesE,c1,Bool.not_true,Bool.false_and])
 ·refine zI<|zG<|G O<|Y O<|W<|zN<|zU ⟨[(3,.c _),(1,.c _)],[_]⟩ (Weak.mk [true] ⟨U,U,T⟩ O)<|qA 1 0 O O (Nat) (fun k=>[(3,vI k)]) (fun k=>[]) (fun k=>k<=e.Idx.length/\(e.Idx.all nmIx=(e.Idx.drop k).all nmIx)) (fun k=>e.Idx.length-k) ⟨0,⟨by omega,O⟩,Weak.mk [true] ⟨U,U,T⟩ O⟩ ?_
  rintro k ⟨hk,hp⟩
  refine zG<|G O<|Y O<|zD O kC<|zH wK (J 0 O) O<|zV O el41<|qW O<|W<|zE O (fun c2=>?_) (fun c2=>?_)
  ·try simp only [sx] at c2
   obtain ⟨x,hx⟩:=qP e.Idx k (by omega)
   refine zI<|zG<|zN<|G O<|zD O kC<|zH wK (J 0 O) O<|Y O<|zZ O el41 (by omega) (getm (by assumption))<|qN O wX<|zH one9 zY O<|zX O (zCz O O O)<|Y O<|rL0 O (fun g6_7=>zF O kC O) O<|rL1 28 O (fun g6_7=>zK O wK O (J 0 O) O) O<|rL0 O (fun g6_7=>zQ O O) O<|rLz [(29,_),(30,_)] O gv1 ⟨O,O,O,O,T⟩ (fun g6_7=>qJ O el41 O O (by omega) (getm (by assumption))) O<|rL1 31 O (fun g6_7=>qQ O wX O) O<|rL1 32 O (fun g6_7=>zK O one9 O zY O) O<|rL1 33 O (fun g6_7=>qH O ok137 (zGm _) ⟨U,O,T⟩) O<|rL1 34 O (fun g6_7=>wB O O) O<|kD O (fun h=>h)<|W<|zE O (fun c3=>?_) (fun c3=>?_)
   ·refine G O<|Y O<|W<|zJ<|zP O ?_
    exact congrArg vB (by rw [namesE,all_no hx (p:=nmIx) (by unfold nmIx;rw [c3];rfl)];simp)
   ·refine zI<|zO O<|Y O<|qB O ⟨by omega,by omega⟩<|Y O<|W ?_
    refine ⟨k+1,⟨by omega,zNe hx hp (by unfold nmIx;rw [c3];rfl)⟩,(by omega),Weak.mk [true] ⟨U,U,T⟩ O⟩
  ·try simp only [sx] at c2
   refine qE<|G O<|Y O<|W<|zJ<|zP O ?_
   exact congrArg vB (by rw [namesE,c1,all_end hp (by omega)];rfl)
theorem ref14_ranked (e:Ex) (he:e.wt<=6000000000000):
    Pur cfg 260 [vE e] (vB (rankE e)):=by
 refine zR Tryz.func260 O Tryz.ntmps260 Tryz.results260 O ?_
 intro z hz
 obtain ⟨hL,hI,hA⟩:=e.parts he
 refine G O<|zS O O (qG O O) ?_
 rintro _ _ ⟨b1,rfl,rfl⟩
 refine Y O<|W<|zG<|zG<|qY 13 mixed (by kernel_rfl) O O<|zM O O (zF O kG O)<|zM O O (zK O wS O (J 0 O) O)<|zM O O (qU O el42 O)<|zM O O (zF O yY O)<|zM O O (zK O one3 O (J 0 O) O)<|zM O O (qH O ok293 (zLl _) ⟨U,O,T⟩)<|zM O O (wZ O O O)<|zM O O (zQ O O)<|qC [] O O O O gv1 T (fun g1_7=>zF O kC O) O<|qC [(12,_)] O O O O gv1 ⟨O,O,T⟩ (fun g1_7=>zK O wK O (J 0 O) O) O<|qC [(13,_)] O O O O gv1 ⟨O,O,T⟩ (fun g1_7=>qU O el41 O) O<|qC [(14,_)] O O O O gv1 ⟨O,O,T⟩ (fun g1_7=>yF O O O) O<|zM O O (zBw O O O O (fun h=>(lzf h)))<|yT<|W<|zE O (fun c1=>?_) (fun c1=>?_)
 ·refine G O<|Y O<|W<|zJ<|zP O ?_
  exact congrArg vB (by simp only [rankE,c1,Bool.not_true,Bool.false_and])
 ·refine zI<|zG<|G O<|Y O<|W<|zN<|zU ⟨[(3,.c _),(1,.c _)],[_]⟩ (Weak.mk [true] ⟨U,U,T⟩ O)<|qA 1 0 O O (Nat) (fun k=>[(3,vI k)]) (fun k=>[]) (fun k=>k<=e.Idx.length/\(e.Idx.all rkIx=(e.Idx.drop k).all rkIx)) (fun k=>e.Idx.length-k) ⟨0,⟨by omega,O⟩,Weak.mk [true] ⟨U,U,T⟩ O⟩ ?_
  rintro k ⟨hk,hp⟩
  refine zG<|G O<|Y O<|zD O kC<|zH wK (J 0 O) O<|zV O el41<|qW O<|W<|zE O (fun c2=>?_) (fun c2=>?_)
  ·try simp only [sx] at c2
   obtain ⟨x,hx⟩:=qP e.Idx k (by omega)
   refine zI<|zG<|zN<|G O<|zD O kC<|zH wK (J 0 O) O<|Y O<|zZ O el41 (by omega) (getm (by assumption))<|qN O kW<|zH zAr zY O<|zV O el65<|zX O (yF O O O)<|W<|zE O (fun c3=>?_) (fun c3=>?_)
   ·refine G O<|Y O<|W<|zJ<|zP O ?_
    exact congrArg vB (by rw [rankE,all_no hx (p:=rkIx) (by unfold rkIx;rw [c3];rfl)];simp)
   ·refine zI<|zO O<|Y O<|qB O ⟨by omega,by omega⟩<|Y O<|W ?_
    refine ⟨k+1,⟨by omega,zNe hx hp (by unfold rkIx;rw [c3];rfl)⟩,(by omega),Weak.mk [true] ⟨U,U,T⟩ O⟩
  ·try simp only [sx] at c2
   refine qE<|G O<|Y O<|W<|zJ<|zP O ?_
   exact congrArg vB (by rw [rankE,c1,all_end hp (by omega)];rfl)
theorem ref14_formed (e:Ex) (he:e.wt<=6000000000000) (hty:e.Op=1->tyOk e.Ty=true):
    Pur cfg 262 [vE e] (vB (formOk e)):=by
 refine zR Tryz.func262 O Tryz.ntmps262 Tryz.results262 O ?_
 intro z hz
 obtain ⟨hL,hI,hA⟩:=e.parts he
 refine G O<|zS O O (qG O O) ?_
 rintro _ _ ⟨b1,rfl,rfl⟩
 refine Y O<|W<|zG<|G O<|zD O yY<|zH one3 (J 0 O) O<|yG O<|Y O<|rL0 O (fun g1_3=>zF O zEm O) O<|rL1 9 O (fun g1_3=>zT O yD O (J 0 O) O) O<|rL0 O (fun g1_3=>zF O zHq O) O<|rL1 11 O (fun g1_3=>zT O agg35 O (J 0 O) O) O<|rLz [(10,_),(12,_)] O gv1 ⟨O,O,O,O,T⟩ (fun g1_3=>qH O ok295 (base_Val e.Ty e.Val (hty (by simp only [Lz,cond_true,cond_false,Bool.and_eq_true,Bool.or_eq_true,Bool.not_eq_true',Bool.not_eq_false',Bool.or_eq_false_iff,Bool.and_eq_false_iff,decide_eq_true_eq,decide_eq_false_iff_not,Bool.not_eq_true,Bool.not_eq_false] at g1_3;exact g1_3))) ⟨U,O,U,O,T⟩) O<|rL1 13 O (fun g1_3=>wB O O) O<|kD O (fun h=>h)<|Y O<|rL0 O (fun g1_11=>zF O zCo O) O<|rL1 17 O (fun g1_11=>zT O kF O (J 0 O) O) O<|rL1 18 O (fun g1_11=>qH O ok107 (zDa e.Lin hL) ⟨U,O,T⟩) O<|rL1 19 O (fun g1_11=>wB O O) O<|r_or O (fun h=>(lzf h))<|W<|zE O (fun c1=>?_) (fun c1=>?_)
 ·refine G O<|Y O<|W<|zJ<|zP O ?_
  exact congrArg vB (form_no c1)
 ·refine zI<|zG<|G O<|Y O<|W<|zN<|zU ⟨[(3,.c _),(1,.c _)],[_]⟩ (Weak.mk [true] ⟨U,U,T⟩ O)<|qA 1 0 O O (Nat) (fun k=>[(3,vI k)]) (fun k=>[]) (fun k=>k<=e.Idx.length/\((formsL e).all linOk=((e.Idx.drop k).flatMap fun x=>x.Lin::x.At).all linOk)) (fun k=>e.Idx.length-k) ⟨0,⟨by omega,form_start c1⟩,Weak.mk [true] ⟨U,U,T⟩ O⟩ ?_
  rintro k ⟨hk,hp⟩
  refine zG<|G O<|Y O<|zD O kC<|zH wK (J 0 O) O<|zV O el41<|qW O<|W<|zE O (fun c2=>?_) (fun c2=>?_)
  ·try simp only [sx] at c2
   obtain ⟨x,hx⟩:=qP e.Idx k (by omega)
   have hxw:=Ex.idx_wt (zW hx)
   refine zI<|zG<|zN<|zG<|G O<|zD O kC<|zH wK (J 0 O) O<|Y O<|zZ O el41 (by omega) (getm (by assumption))<|qN O zAz<|zL kF zY O<|qK O ok107 (zDa x.Lin (by omega)) ⟨U,O,T⟩<|wD O<|W<|zE O (fun c3=>?_) (fun c3=>?_)
   ·try simp only [sx] at c3
    refine G O<|Y O<|W<|zJ<|zP O ?_
    exact congrArg vB (form_no2 hp (by rw [qI hx,List.flatMap_cons,List.all_append,List.all_cons,c3];rfl))
   ·try simp only [sx] at c3
    refine zI<|G O<|Y O<|W<|zN<|zU ⟨[(4,.c _),(1,.c _),(3,.c _)],[_]⟩ (Weak.mk [true] ⟨U,U,U,T⟩ O)<|qA 1 0 O O (Nat) (fun j=>[(4,vI j)]) (fun j=>[]) (fun j=>j<=x.At.length/\(x.At.all linOk=(x.At.drop j).all linOk)) (fun j=>x.At.length-j) ⟨0,⟨by omega,O⟩,Weak.mk [true] ⟨U,U,U,T⟩ O⟩ ?_
    rintro j ⟨hj,hq⟩
    refine zG<|G O<|Y O<|zD O kC<|zH wK (J 0 O) O<|Y O<|zZ O el41 (by omega) (getm (by assumption))<|qN O kW<|zH zAr zY O<|zV O el65<|qW O<|W<|zE O (fun c4=>?_) (fun c4=>?_)
    ·try simp only [sx] at c4
     obtain ⟨l,hl⟩:=qP x.At j (by omega)
     have hlw:=zAt (zW hl)
     refine zI<|zG<|zN<|G O<|zD O kC<|zH wK (J 0 O) O<|Y O<|zZ O el41 (by omega) (getm (by assumption))<|qN O kW<|zH zAr zY O<|Y O<|zZ O el65 (by omega) (getm (by assumption))<|zL kF zY O<|qK O ok107 (zDa l (by omega)) ⟨U,O,T⟩<|wD O<|W<|zE O (fun c5=>?_) (fun c5=>?_)
     ·try simp only [sx] at c5
      refine G O<|Y O<|W<|zJ<|zP O ?_
      exact congrArg vB (form_no2 hp (by rw [qI hx,List.flatMap_cons,List.all_append,List.all_cons,all_no hl (p:=linOk) c5];simp))
     ·try simp only [sx] at c5
      refine zI<|zO O<|Y O<|qB O ⟨by omega,by omega⟩<|Y O<|W ?_
      refine ⟨j+1,⟨by omega,zNe hl hq c5⟩,(by omega),Weak.mk [true] ⟨U,U,U,T⟩ O⟩
    ·try simp only [sx] at c4
     refine qE<|zO O<|Y O<|qB O ⟨by omega,by omega⟩<|Y O<|W ?_
     refine ⟨k+1,⟨by omega,(by rw [hp,qI hx,List.flatMap_cons,List.all_append,List.all_cons,c3,all_end hq (by omega)];rfl)⟩,(by omega),Weak.mk [true] ⟨U,U,T⟩ O⟩
  ·try simp only [sx] at c2
   refine qE<|G O<|Y O<|W<|zJ<|zP O ?_
   exact congrArg vB (form_yes c1 (by rw [hp,kB (by omega)];rfl))
theorem zOe (e:Ex) (ih:∀a,a∈e.Args->a.wt<=6000000000000->Pur cfg 214 [vE a] (vI (partE a))) (he:e.wt<=6000000000000):
    Pur cfg 214 [vE e] (vI (partE e)):=by
 refine zR Tryz.func214 O Tryz.ntmps214 Tryz.results214 O ?_
 intro z hz
 obtain ⟨hL,hI,hA⟩:=e.parts he
 refine G O<|zS O O (qG O O) ?_
 rintro _ _ ⟨b1,rfl,rfl⟩
 refine Y O<|W<|zG<|zN<|G O<|zL qZ (J 0 O) O<|qK O ok258 (ref14_plain e he) ⟨U,O,T⟩<|wD O<|Y O<|W<|zE O (fun c1=>?_) (fun c1=>?_)
 ·try simp only [sx] at c1
  refine G O<|Y O<|W<|zJ<|zP O ?_
  exact congrArg vI (by rw [zDq,show nodeErr e=5 by simp only [nodeErr,c1];rfl];rfl)
 ·try simp only [sx] at c1
  refine G O<|zL qZ (J 0 O) O<|qK O ok259 (ref14_named e he) ⟨U,O,T⟩<|wD O<|Y O<|W<|zE O (fun c2=>?_) (fun c2=>?_)
  ·try simp only [sx] at c2
   refine G O<|Y O<|W<|zJ<|zP O ?_
   exact congrArg vI (by rw [zDq,show nodeErr e=7 by simp only [nodeErr,c1,c2];rfl];rfl)
  ·try simp only [sx] at c2
   refine G O<|zL qZ (J 0 O) O<|qK O ok260 (ref14_ranked e he) ⟨U,O,T⟩<|wD O<|Y O<|W<|zE O (fun c3=>?_) (fun c3=>?_)
   ·try simp only [sx] at c3
    refine G O<|Y O<|W<|zJ<|zP O ?_
    exact congrArg vI (by rw [zDq,show nodeErr e=11 by simp only [nodeErr,c1,c2,c3];rfl];rfl)
   ·try simp only [sx] at c3
    refine G O<|zL qZ (J 0 O) O<|qK O ok261 (ref14_typed e he) ⟨U,O,T⟩<|wD O<|Y O<|W<|zE O (fun c4=>?_) (fun c4=>?_)
    ·try simp only [sx] at c4
     refine G O<|Y O<|W<|zJ<|zP O ?_
     exact congrArg vI (by rw [zDq,show nodeErr e=10 by simp only [nodeErr,c1,c2,c3,c4];rfl];rfl)
    ·try simp only [sx] at c4
     refine G O<|zL qZ (J 0 O) O<|qK O ok262 (ref14_formed e he (types_ty c4)) ⟨U,O,T⟩<|wD O<|Y O<|W<|zE O (fun c5=>?_) (fun c5=>?_)
     ·try simp only [sx] at c5
      refine G O<|Y O<|W<|zJ<|zP O ?_
      exact congrArg vI (by rw [zDq,show nodeErr e=1 by simp only [nodeErr,c1,c2,c3,c4,c5];rfl];rfl)
     ·try simp only [sx] at c5
      have hn:nodeErr e=0:=by simp only [nodeErr,c1,c2,c3,c4,c5];rfl
      refine zI<|zG<|G O<|Y O<|W<|zN<|zU ⟨[(3,.c _),(1,.c _)],[_]⟩ (Weak.mk [true] ⟨U,U,T⟩ O)<|qA 1 0 O O (Nat) (fun k=>[(3,vI k)]) (fun k=>[]) (fun k=>k<=e.Args.length/\(partL e.Args=partL (e.Args.drop k))) (fun k=>e.Args.length-k) ⟨0,⟨by omega,O⟩,Weak.mk [true] ⟨U,U,T⟩ O⟩ ?_
      rintro k ⟨hk,hp⟩
      refine zG<|G O<|Y O<|zD O kG<|zH wS (J 0 O) O<|zV O el42<|qW O<|W<|zE O (fun c6=>?_) (fun c6=>?_)
      ·try simp only [sx] at c6
       obtain ⟨a,ha⟩:=qP e.Args k (by omega)
       refine zI<|zG<|zN<|G O<|zD O kG<|zH wS (J 0 O) O<|Y O<|zZ O el42 (by omega) (zBr (by assumption))<|zL qZ zY O<|qK O ok214 (ih a (zW ha) (by have:=Ex.arg_wt (zW ha);omega)) ⟨U,O,T⟩<|Y O<|W<|G O<|Y O<|yR O<|W<|zE O (fun c7=>?_) (fun c7=>?_)
       ·try simp only [sx] at c7
        refine G O<|Y O<|Y O<|W<|zJ<|zP O ?_
        exact congrArg vI (by rw [zDq e,hn,wA rfl,cond_true,hp,qI ha,zKp,yI c7];rfl)
       ·try simp only [sx] at c7
        refine zI<|zO O<|Y O<|qB O ⟨by omega,by omega⟩<|Y O<|W ?_
        refine ⟨k+1,⟨by omega,(by rw [hp,qI ha,zKp,wA c7];rfl)⟩,(by omega),Weak.mk [true] ⟨U,U,T⟩ O⟩
      ·try simp only [sx] at c6
       refine qE<|G O<|Y O<|W<|zJ<|zP O ?_
       exact congrArg vI (by rw [zDq,hn,wA rfl,cond_true,hp,kB (by omega)];rfl)
theorem ref14_part (e:Ex) (he:e.wt<=6000000000000):Pur cfg 214 [vE e] (vI (partE e)):=by
  induction e using Ex.ind with
  |_ e ih=>exact zOe e ih he
theorem zGh (n:Nat) (ih:n≠0->∀(a:Ex) (l:Int),a.wt<=6000000000000->l=n->Pur cfg 220 [vE a,vI l] (vI (depT (n-1) a))) (hn:n<=100) (e:Ex) (l:Int) (he:e.wt<=6000000000000) (hl:l=n+1):
    Pur cfg 220 [vE e,vI l] (vI (depT n e)):=by
 refine zR Tryz.func220 O Tryz.ntmps220 Tryz.results220 O ?_
 intro z hz
 obtain ⟨hL,hI,hA⟩:=e.parts he
 refine G O<|zS O O (qG O O) ?_
 rintro _ _ ⟨b1,rfl,rfl⟩
 refine Y O<|W<|zG<|G O<|Y O<|zX O (kO O O O)<|W<|zE O (fun c1=>?_) (fun c1=>?_)
 ·try simp only [sx] at c1
  obtain rfl:n=0:=by omega
  refine G O<|Y O<|Y O<|W<|zJ<|zP O ?_
  exact congrArg vI (by rw [hl];rfl)
 ·try simp only [sx] at c1
  obtain ⟨m,rfl⟩:∃m,n=m+1:=⟨n-1,by omega⟩
  refine zI<|G O<|Y O<|W<|zG<|G O<|zD O kG<|zH wS (J 0 O) O<|zV O el42<|Y O<|W<|zN<|zU ⟨[(14,.c _),(5,.c _),(1,.c _),(12,.c _),(13,.c _)],[]⟩ (Weak.mk [false] ⟨U,U,U,U,U,T⟩ O)<|qA 2 0 O O (Nat×Int) (fun ⟨k,d⟩=>[(14,vI k),(5,vI d)]) (fun ⟨k,d⟩=>[]) (fun ⟨k,d⟩=>k<=e.Args.length/\(1<=d)/\(d<=m+2)/\(depT (m+1) e=depF (depT m) d (e.Args.drop k))) (fun ⟨k,d⟩=>e.Args.length-k) ⟨⟨0,1⟩,⟨by omega,by omega,by omega,O⟩,Weak.mk [] ⟨U,VLe.of_eq (O),U,U,U,T⟩ O⟩ ?_
  rintro ⟨k,d⟩ ⟨hk,hd1,hd2,hd3⟩
  show AWP _ _ _ _ _ ⟨[(14,vI k),(5,vI d)]++_,[]++_⟩
  refine G O<|qW O<|W<|zG<|zE O (fun c2=>?_) (fun c2=>?_)
  ·try simp only [sx] at c2
   obtain ⟨a,ha⟩:=qP e.Args k (by omega)
   have hda:=depT_le m a
   refine zI<|zG<|zN<|G O<|zZ O el42 (by omega) (zBr (by assumption))<|zL qZ zY O<|zS O O (qD [none,none,none,none,none,none,none,none,none,none,some 2,some 4,some 13] O zr44 O) ?_
   rintro _ _ ⟨b2,rfl,rfl⟩
   refine N 0 sz44 O<|W<|zO O<|Y O<|zL qZ (J 0 O) O<|Y O<|zX O (wY O O O ⟨by omega,by omega⟩)<|qK O ok220 (show Pur cfg 220 [vE a,vI (l-1)] (vI (depT m a)) from ih (by omega) a _ (by have:=Ex.arg_wt (zW ha);omega) (by omega)) ⟨U,O,U,O,T⟩<|qB O ⟨by omega,by omega⟩<|zX O (det_max O O O)<|Y O<|W<|zO O<|qB O ⟨by omega,by omega⟩<|Y O<|W ?_
   refine ⟨⟨k+1,max d (1+depT m a)⟩,⟨by omega,by omega,by omega,by rw [hd3,qI ha,depF]⟩,(by show e.Args.length-(k+1)<e.Args.length-k;omega),Weak.mk [false] ⟨U,U,U,U,U,T⟩ O⟩
  ·try simp only [sx] at c2
   refine qE<|G O<|Y O<|Y O<|W<|zJ<|zP O ?_
   exact congrArg vI (by rw [hd3,kB (by omega)];rfl)
theorem expr_depth (n:Nat) (e:Ex) (l:Int) (hn:n<=100) (he:e.wt<=6000000000000) (hl:l=n+1):Pur cfg 220 [vE e,vI l] (vI (depT n e)):=by
  induction n generalizing e l with
  |zero=>exact zGh 0 (fun h=>absurd rfl h) hn e l he hl
  |succ n ih=>exact zGh (n+1) (fun _ a l h1 h2=>ih a l (by omega) h1 (by omega)) hn e l he hl
theorem zFi (n:Nat) (ih:n≠0->∀(a:Ex) (l:Int),a.wt<=6000000000000->l=n->Pur cfg 257 [vE a,vI l] (vI (depT (n-1) a))) (hn:n<=100) (e:Ex) (l:Int) (he:e.wt<=6000000000000) (hl:l=n+1):
    Pur cfg 257 [vE e,vI l] (vI (depT n e)):=by
 refine zR Tryz.func257 O Tryz.ntmps257 Tryz.results257 O ?_
 intro z hz
 obtain ⟨hL,hI,hA⟩:=e.parts he
 refine G O<|zS O O (qG O O) ?_
 rintro _ _ ⟨b1,rfl,rfl⟩
 refine Y O<|W<|G O<|Y O<|W<|zG<|G O<|Y O<|W<|zN<|zU ⟨[(6,.c _),(5,.c _),(1,.c _),(2,.c _)],[_]⟩ (Weak.mk [true] ⟨U,U,U,U,T⟩ O)<|qA 2 0 O O (Nat×Int) (fun ⟨k,d⟩=>[(6,vI k),(5,vI d)]) (fun ⟨k,d⟩=>[]) (fun ⟨k,d⟩=>k<=e.Args.length/\(1<=d)/\(d<=n+1)/\(n≠0->depT n e=depF (depT (n-1)) d (e.Args.drop k))/\(n=0->d=1)) (fun ⟨k,d⟩=>e.Args.length-k) ⟨⟨0,1⟩,⟨by omega,by omega,by omega,fun h0=>dep_start h0,fun _=>O⟩,Weak.mk [true] ⟨U,VLe.of_eq (O),U,U,T⟩ O⟩ ?_
 rintro ⟨k,d⟩ ⟨hk,hd1,hd2,hd3,hd4⟩
 show AWP _ _ _ _ _ ⟨[(6,vI k),(5,vI d)]++_,[]++_⟩
 refine zG<|G O<|Y O<|zD O kG<|zH wS (J 0 O) O<|zV O el42<|qW O<|Y O<|rL0 O (fun g3_5=>zQ O O) O<|rL1 13 O (fun g3_5=>yF O O O) O<|kD O (fun h=>h)<|W<|zE O (fun c1=>?_) (fun c1=>?_)
 ·try simp only [sx] at c1
  obtain ⟨a,ha⟩:=qP e.Args k (by omega)
  have hda:=depT_le (n-1) a
  refine zI<|zG<|zN<|zO O<|Y O<|zD O kG<|zH wS (J 0 O) O<|Y O<|zZ O el42 (by omega) (zBr (by assumption))<|zL qZ zY O<|Y O<|zX O (wY O O O ⟨by omega,by omega⟩)<|qK O ok257 (ih (by omega) a _ (by have:=Ex.arg_wt (zW ha);omega) (by omega)) ⟨U,O,U,O,T⟩<|qB O ⟨by omega,by omega⟩<|zX O (det_max O O O)<|Y O<|W<|zO O<|Y O<|qB O ⟨by omega,by omega⟩<|Y O<|W ?_
  refine ⟨⟨k+1,max d (1+depT (n-1) a)⟩,⟨by omega,by omega,by omega,fun h0=>by rw [hd3 h0,qI ha,depF],fun h0=>by omega⟩,(by show e.Args.length-(k+1)<e.Args.length-k;omega),Weak.mk [true] ⟨U,U,U,U,T⟩ O⟩
 ·try simp only [sx] at c1
  refine qE<|G O<|Y O<|Y O<|W<|zJ<|zP O ?_
  exact congrArg vI (dep_end hl (by omega) hd3 hd4)
theorem ref14_depth (n:Nat) (e:Ex) (l:Int) (hn:n<=100) (he:e.wt<=6000000000000) (hl:l=n+1):Pur cfg 257 [vE e,vI l] (vI (depT n e)):=by
  induction n generalizing e l with
  |zero=>exact zFi 0 (fun h=>absurd rfl h) hn e l he hl
  |succ n ih=>exact zFi (n+1) (fun _ a l h1 h2=>ih a l (by omega) h1 (by omega)) hn e l he hl
theorem expr_Depth (e:Ex) (he:e.wt<=6000000000000):
    Pur cfg 166 [vE e] (vI (depT 40 e)):=by
 refine zR Tryz.func166 O Tryz.ntmps166 Tryz.results166 O ?_
 intro z hz
 refine G O<|zS O O (qG O O) ?_
 rintro _ _ ⟨b1,rfl,rfl⟩
 refine Y O<|W<|G O<|zL qZ (J 0 O) O<|qK O ok220 (expr_depth 40 e 41 (by omega) he (by omega)) ⟨U,O,U,O,T⟩<|Y O<|W<|zJ<|zP O ?_
 exact O
theorem ref14_Depth (e:Ex) (he:e.wt<=6000000000000):
    Pur cfg 213 [vE e] (vI (depT 40 e)):=by
 refine zR Tryz.func213 O Tryz.ntmps213 Tryz.results213 O ?_
 intro z hz
 refine G O<|zS O O (qG O O) ?_
 rintro _ _ ⟨b1,rfl,rfl⟩
 refine Y O<|W<|G O<|zL qZ (J 0 O) O<|qK O ok257 (ref14_depth 40 e 41 (by omega) he (by omega)) ⟨U,O,U,O,T⟩<|Y O<|W<|zJ<|zP O ?_
 exact O
theorem zOd (e:Ex) (ih:∀a,a∈e.Args->∀(m:Nat) (l:Int),a.wt<=6000000000000->m<=1000000->l=m->Pur cfg 93 [vE a,vI l] (vI (sizE a m))) (m:Nat) (l:Int) (he:e.wt<=6000000000000) (hm:m<=1000000) (hl:l=m):
    Pur cfg 93 [vE e,vI l] (vI (sizE e m)):=by
 refine zR Tryz.func93 O Tryz.ntmps93 Tryz.results93 O ?_
 intro z hz
 obtain ⟨hL,hI,hA⟩:=e.parts he
 refine G O<|zS O O (qG O O) ?_
 rintro _ _ ⟨b1,rfl,rfl⟩
 refine Y O<|W<|G O<|Y O<|W<|zG<|G O<|Y O<|W<|zN<|zU ⟨[(6,.c _),(5,.c _),(1,.c _),(2,.c _)],[_]⟩ (Weak.mk [true] ⟨U,U,U,U,T⟩ O)<|qA 2 0 O O (Nat×Nat) (fun ⟨k,n⟩=>[(6,vI k),(5,vI n)]) (fun ⟨k,n⟩=>[]) (fun ⟨k,n⟩=>k<=e.Args.length/\(n<=m+1)/\(sizE e m=sizL (e.Args.drop k) m n)) (fun ⟨k,n⟩=>e.Args.length-k) ⟨⟨0,1⟩,⟨by omega,by omega,sizE_eq e m⟩,Weak.mk [true] ⟨U,VLe.of_eq (O),U,U,T⟩ O⟩ ?_
 rintro ⟨k,n⟩ ⟨hk,hn1,hn2⟩
 show AWP _ _ _ _ _ ⟨[(6,vI k),(5,vI n)]++_,[]++_⟩
 refine zG<|G O<|Y O<|zD O kG<|zH wS (J 0 O) O<|zV O el42<|qW O<|Y O<|rL0 O (fun g3_5=>zQ O O) O<|rL0 O (fun g3_5=>zQ O O) O<|rLz [(13,_),(14,_)] O gv1 ⟨O,O,O,O,T⟩ (fun g3_5=>kO O O O) O<|kD O (fun h=>h)<|W<|zE O (fun c1=>?_) (fun c1=>?_)
 ·try simp only [sx] at c1
  obtain ⟨a,ha⟩:=qP e.Args k (by omega)
  have hsa:=sizE_min a (m-n)
  refine zI<|zG<|zN<|zO O<|Y O<|zD O kG<|zH wS (J 0 O) O<|Y O<|zZ O el42 (by omega) (zBr (by assumption))<|zL qZ zY O<|Y O<|Y O<|zX O (wY O O O ⟨by omega,by omega⟩)<|qK O ok93 (ih a (zW ha) (m-n) _ (by have:=Ex.arg_wt (zW ha);omega) (by omega) (by omega)) ⟨U,O,U,O,T⟩<|qB O ⟨by omega,by omega⟩<|Y O<|W<|zO O<|Y O<|qB O ⟨by omega,by omega⟩<|Y O<|W ?_
  refine ⟨⟨k+1,n+sizE a (m-n)⟩,⟨by omega,by omega,by rw [hn2,qI ha,sizL,if_pos (by omega)]⟩,(by show e.Args.length-(k+1)<e.Args.length-k;omega),Weak.mk [true] ⟨U,VLe.of_eq (congrArg vI (by omega)),U,U,T⟩ O⟩
 ·try simp only [sx] at c1
  refine qE<|G O<|Y O<|Y O<|W<|zJ<|zP O ?_
  exact congrArg vI (by rw [hn2];exact congrArg Nat.cast (siz_end hl (by omega)))
theorem ref14_size (e:Ex) (m:Nat) (l:Int) (he:e.wt<=6000000000000) (hm:m<=1000000) (hl:l=m):Pur cfg 93 [vE e,vI l] (vI (sizE e m)):=by
  induction e using Ex.ind generalizing m l with
  |_ e ih=>exact zOd e (fun a ha m l h1 h2 h3=>ih a ha m l h1 h2 h3) m l he hm hl
theorem ref14_Size (e:Ex) (he:e.wt<=6000000000000):
    Pur cfg 40 [vE e] (vI (szT e)):=by
 refine zR Tryz.func40 O Tryz.ntmps40 Tryz.results40 O ?_
 intro z hz
 refine G O<|zS O O (qG O O) ?_
 rintro _ _ ⟨b1,rfl,rfl⟩
 refine Y O<|W<|G O<|zL qZ (J 0 O) O<|qK O ok93 (ref14_size e 2000 2000 he (by omega) O) ⟨U,O,U,O,T⟩<|zX O (det_min O O O)<|Y O<|W<|zJ<|zP O ?_
 exact congrArg vI (by rw [sizE_min,szT];omega)
theorem ref14_Validate (e:Ex) (he:e.wt<=6000000000000):
    Pur cfg 160 [vE e] (vI (validE e)):=by
 refine zR Tryz.func160 O Tryz.ntmps160 Tryz.results160 O ?_
 intro z hz
 refine G O<|zS O O (qG O O) ?_
 rintro _ _ ⟨b1,rfl,rfl⟩
 refine Y O<|W<|zG<|G O<|zL qZ (J 0 O) O<|qK O ok213 (ref14_Depth e he) ⟨U,O,T⟩<|zX O (yF O O O)<|W<|zE O (fun c1=>?_) (fun c1=>?_)
 ·try simp only [sx] at c1
  refine G O<|Y O<|W<|zJ<|zP O ?_
  rw [validE,wA c1];rfl
 ·try simp only [sx] at c1
  refine zI<|zG<|G O<|zL qZ (J 0 O) O<|qK O ok40 (ref14_Size e he) ⟨U,O,T⟩<|zX O (yF O O O)<|W<|zE O (fun c2=>?_) (fun c2=>?_)
  ·try simp only [sx] at c2
   refine G O<|Y O<|W<|zJ<|zP O ?_
   rw [validE,yI (by omega),wA c2];rfl
  ·try simp only [sx] at c2
   refine zI<|G O<|zL qZ (J 0 O) O<|qK O ok214 (ref14_part e he) ⟨U,O,T⟩<|Y O<|W<|zJ<|zP O ?_
   rw [validE,yI (by omega),yI (by omega)];rfl
end Go.W
