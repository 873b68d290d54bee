/-
  Walks: what functions of the program compute. Printed by wip/gen/mk2.py.
  Conditions: none.
-/
import Derived.Test.YtkidnhldibjiaaaGreatDoorWB
set_option linter.unusedSimpArgs false
set_option linter.unusedVariables false
set_option maxRecDepth 10000
namespace Go.W
open Go Go.Eng Go.Proofs Go.L41 Go.Br
attribute [local irreducible] AWP RWP TD finQ
theorem qX:aggT Tryz.prog 44=some 13:=by kernel_rfl
theorem el42:elemT Tryz.prog 42=some (44,13,160):=by kernel_rfl
theorem el65:elemT Tryz.prog 65=some (40,2,32):=by kernel_rfl
theorem yZ:fieldT Tryz.prog 44 0=some (0,3):=by kernel_rfl
theorem zFv:fieldT Tryz.prog 44 1=some (1,9):=by kernel_rfl
theorem zHz:fieldT Tryz.prog 44 2=some (2,35):=by kernel_rfl
theorem zEy:fieldT Tryz.prog 44 3=some (4,37):=by kernel_rfl
theorem zCv:fieldT Tryz.prog 44 4=some (9,40):=by kernel_rfl
theorem kC:fieldT Tryz.prog 44 5=some (11,41):=by kernel_rfl
theorem kE:fieldT Tryz.prog 44 6=some (12,42):=by kernel_rfl
theorem zBh:fieldT Tryz.prog 115 0=some (0,40):=by kernel_rfl
theorem zAd:fieldT Tryz.prog 115 1=some (2,9):=by kernel_rfl
theorem wD:fieldT Tryz.prog 115 2=some (3,65):=by kernel_rfl
theorem fl35:flatK Tryz.prog 35=some [.int,.int]:=by kernel_rfl
theorem ok40:callOk Tryz.prog 40=true:=by kernel_rfl
theorem ok93:callOk Tryz.prog 93=true:=by kernel_rfl
theorem ok107:callOk Tryz.prog 107=true:=by kernel_rfl
theorem ok138:callOk Tryz.prog 138=true:=by kernel_rfl
theorem ok155:callOk Tryz.prog 155=true:=by kernel_rfl
theorem ok161:callOk Tryz.prog 161=true:=by kernel_rfl
theorem ok213:callOk Tryz.prog 213=true:=by kernel_rfl
theorem ok214:callOk Tryz.prog 214=true:=by kernel_rfl
theorem ok220:callOk Tryz.prog 220=true:=by kernel_rfl
theorem ok257:callOk Tryz.prog 257=true:=by kernel_rfl
theorem ok258:callOk Tryz.prog 258=true:=by kernel_rfl
theorem ok259:callOk Tryz.prog 259=true:=by kernel_rfl
theorem ok260:callOk Tryz.prog 260=true:=by kernel_rfl
theorem ok261:callOk Tryz.prog 261=true:=by kernel_rfl
theorem ok262:callOk Tryz.prog 262=true:=by kernel_rfl
theorem ok265:callOk Tryz.prog 265=true:=by kernel_rfl
theorem ok266:callOk Tryz.prog 266=true:=by kernel_rfl
theorem ok267:callOk Tryz.prog 267=true:=by kernel_rfl
theorem ok268:callOk Tryz.prog 268=true:=by kernel_rfl
theorem ok269:callOk Tryz.prog 269=true:=by kernel_rfl
theorem ok270:callOk Tryz.prog 270=true:=by kernel_rfl
theorem ok271:callOk Tryz.prog 271=true:=by kernel_rfl
theorem ok272:callOk Tryz.prog 272=true:=by kernel_rfl
theorem ok293:callOk Tryz.prog 293=true:=by kernel_rfl
theorem ok294:callOk Tryz.prog 294=true:=by kernel_rfl
theorem ok295:callOk Tryz.prog 295=true:=by kernel_rfl
theorem wN:oneT Tryz.prog 41=true:=by kernel_rfl
theorem wR:oneT Tryz.prog 42=true:=by kernel_rfl
theorem zAr:oneT Tryz.prog 65=true:=by kernel_rfl
theorem sz44:(Tryz.prog.info? 44).map (·.size)=some 13:=by kernel_rfl
theorem zOj:(Tryz.prog.info? 115).map (·.size)=some 4:=by kernel_rfl
theorem un4:Tryz.prog.underlying 4=some .bool:=by kernel_rfl
theorem zr44:zeroT Tryz.prog 44=some [(Value.int IntKind.i64 0),(Value.string (ByteArray.mk #[])),(Value.int IntKind.i64 0),(Value.int IntKind.i64 0),(Value.int IntKind.i64 0),(Value.int IntKind.i64 0),(Value.int IntKind.i64 0),(Value.int IntKind.i64 0),(Value.int IntKind.i64 0),(Value.int IntKind.i64 0),(Value.slice none 0 0),(Value.slice none 0 0),(Value.slice none 0 0)]:=by kernel_rfl
theorem zDc:zeroT Tryz.prog 115=some [(Value.int IntKind.i64 0),(Value.slice none 0 0),(Value.string (ByteArray.mk #[])),(Value.slice none 0 0)]:=by kernel_rfl
theorem expr_operands (op:Int):
    Pur cfg 270 [vI op] (vI (nArgs op)):=by
 refine zS Tryz.func270 O Tryz.ntmps270 Tryz.results270 O ?_
 intro z hz
 refine G O<|Y O<|W<|zG<|G O<|Y O<|W<|zN<|zG<|G O<|yJ O<|Y O<|W<|zF O (fun c1=>?_) (fun c1=>?_)
 ·try simp only [sx] at c1
  refine zJ<|zF O (fun c3=>?_) (fun c3=>?_)
  ·try simp only [sx] at c3
   refine G O<|Y O<|W<|zL<|zP O ?_
   exact congrArg vI (by unfold nArgs;(repeat' split)<;>omega)
  ·try simp only [sx] at c3
   refine zG<|G O<|yJ O<|Y O<|W<|zF O (fun c4=>?_) (fun c4=>?_)
   ·try simp only [sx] at c4
    refine zJ<|zF O (fun c6=>?_) (fun c6=>?_)
    ·try simp only [sx] at c6
     refine G O<|Y O<|W<|zL<|zP O ?_
     exact congrArg vI (by unfold nArgs;(repeat' split)<;>omega)
    ·try simp only [sx] at c6
     refine G O<|yJ O<|Y O<|W<|zF O (fun c7=>?_) (fun c7=>?_)
     ·try simp only [sx] at c7
      refine G O<|Y O<|W<|zL<|zP O ?_
      exact congrArg vI (by unfold nArgs;(repeat' split)<;>omega)
     ·try simp only [sx] at c7
      refine zJ<|G O<|Y O<|W<|zL<|zP O ?_
      exact congrArg vI (by unfold nArgs;(repeat' split)<;>omega)
   ·try simp only [sx] at c4
    refine G O<|yJ O<|Y O<|W<|zF O (fun c5=>?_) (fun c5=>?_)
    ·try simp only [sx] at c5
     refine zJ<|zF O (fun c6=>?_) (fun c6=>?_)
     ·try simp only [sx] at c6
      refine G O<|Y O<|W<|zL<|zP O ?_
      exact congrArg vI (by unfold nArgs;(repeat' split)<;>omega)
     ·try simp only [sx] at c6
      refine G O<|yJ O<|Y O<|W<|zF O (fun c7=>?_) (fun c7=>?_)
      ·try simp only [sx] at c7
       refine G O<|Y O<|W<|zL<|zP O ?_
       exact congrArg vI (by unfold nArgs;(repeat' split)<;>omega)
      ·try simp only [sx] at c7
       refine zJ<|G O<|Y O<|W<|zL<|zP O ?_
       exact congrArg vI (by unfold nArgs;(repeat' split)<;>omega)
    ·try simp only [sx] at c5
     refine zO O<|yJ O<|Y O<|W<|zF O (fun c6=>?_) (fun c6=>?_)
     ·try simp only [sx] at c6
      refine G O<|Y O<|W<|zL<|zP O ?_
      exact congrArg vI (by unfold nArgs;(repeat' split)<;>omega)
     ·try simp only [sx] at c6
      refine G O<|yJ O<|Y O<|W<|zF O (fun c7=>?_) (fun c7=>?_)
      ·try simp only [sx] at c7
       refine G O<|Y O<|W<|zL<|zP O ?_
       exact congrArg vI (by unfold nArgs;(repeat' split)<;>omega)
      ·try simp only [sx] at c7
       refine zJ<|G O<|Y O<|W<|zL<|zP O ?_
       exact congrArg vI (by unfold nArgs;(repeat' split)<;>omega)
 ·try simp only [sx] at c1
  refine G O<|yJ O<|Y O<|W<|zF O (fun c2=>?_) (fun c2=>?_)
  ·try simp only [sx] at c2
   refine zJ<|zF O (fun c3=>?_) (fun c3=>?_)
   ·try simp only [sx] at c3
    refine G O<|Y O<|W<|zL<|zP O ?_
    exact congrArg vI (by unfold nArgs;(repeat' split)<;>omega)
   ·try simp only [sx] at c3
    refine zG<|G O<|yJ O<|Y O<|W<|zF O (fun c4=>?_) (fun c4=>?_)
    ·try simp only [sx] at c4
     refine zJ<|zF O (fun c6=>?_) (fun c6=>?_)
     ·try simp only [sx] at c6
      refine G O<|Y O<|W<|zL<|zP O ?_
      exact congrArg vI (by unfold nArgs;(repeat' split)<;>omega)
     ·try simp only [sx] at c6
      refine G O<|yJ O<|Y O<|W<|zF O (fun c7=>?_) (fun c7=>?_)
      ·try simp only [sx] at c7
       refine G O<|Y O<|W<|zL<|zP O ?_
       exact congrArg vI (by unfold nArgs;(repeat' split)<;>omega)
      ·try simp only [sx] at c7
       refine zJ<|G O<|Y O<|W<|zL<|zP O ?_
       exact congrArg vI (by unfold nArgs;(repeat' split)<;>omega)
    ·try simp only [sx] at c4
     refine G O<|yJ O<|Y O<|W<|zF O (fun c5=>?_) (fun c5=>?_)
     ·try simp only [sx] at c5
      refine zJ<|zF O (fun c6=>?_) (fun c6=>?_)
      ·try simp only [sx] at c6
       refine G O<|Y O<|W<|zL<|zP O ?_
       exact congrArg vI (by unfold nArgs;(repeat' split)<;>omega)
      ·try simp only [sx] at c6
       refine G O<|yJ O<|Y O<|W<|zF O (fun c7=>?_) (fun c7=>?_)
       ·try simp only [sx] at c7
        refine G O<|Y O<|W<|zL<|zP O ?_
        exact congrArg vI (by unfold nArgs;(repeat' split)<;>omega)
       ·try simp only [sx] at c7
        refine zJ<|G O<|Y O<|W<|zL<|zP O ?_
        exact congrArg vI (by unfold nArgs;(repeat' split)<;>omega)
     ·try simp only [sx] at c5
      refine zO O<|yJ O<|Y O<|W<|zF O (fun c6=>?_) (fun c6=>?_)
      ·try simp only [sx] at c6
       refine G O<|Y O<|W<|zL<|zP O ?_
       exact congrArg vI (by unfold nArgs;(repeat' split)<;>omega)
      ·try simp only [sx] at c6
       refine G O<|yJ O<|Y O<|W<|zF O (fun c7=>?_) (fun c7=>?_)
       ·try simp only [sx] at c7
        refine G O<|Y O<|W<|zL<|zP O ?_
        exact congrArg vI (by unfold nArgs;(repeat' split)<;>omega)
       ·try simp only [sx] at c7
        refine zJ<|G O<|Y O<|W<|zL<|zP O ?_
        exact congrArg vI (by unfold nArgs;(repeat' split)<;>omega)
  ·try simp only [sx] at c2
   refine zO O<|yJ O<|Y O<|W<|zF O (fun c3=>?_) (fun c3=>?_)
   ·try simp only [sx] at c3
    refine G O<|Y O<|W<|zL<|zP O ?_
    exact congrArg vI (by unfold nArgs;(repeat' split)<;>omega)
   ·try simp only [sx] at c3
    refine zG<|G O<|yJ O<|Y O<|W<|zF O (fun c4=>?_) (fun c4=>?_)
    ·try simp only [sx] at c4
     refine zJ<|zF O (fun c6=>?_) (fun c6=>?_)
     ·try simp only [sx] at c6
      refine G O<|Y O<|W<|zL<|zP O ?_
      exact congrArg vI (by unfold nArgs;(repeat' split)<;>omega)
     ·try simp only [sx] at c6
      refine G O<|yJ O<|Y O<|W<|zF O (fun c7=>?_) (fun c7=>?_)
      ·try simp only [sx] at c7
       refine G O<|Y O<|W<|zL<|zP O ?_
       exact congrArg vI (by unfold nArgs;(repeat' split)<;>omega)
      ·try simp only [sx] at c7
       refine zJ<|G O<|Y O<|W<|zL<|zP O ?_
       exact congrArg vI (by unfold nArgs;(repeat' split)<;>omega)
    ·try simp only [sx] at c4
     refine G O<|yJ O<|Y O<|W<|zF O (fun c5=>?_) (fun c5=>?_)
     ·try simp only [sx] at c5
      refine zJ<|zF O (fun c6=>?_) (fun c6=>?_)
      ·try simp only [sx] at c6
       refine G O<|Y O<|W<|zL<|zP O ?_
       exact congrArg vI (by unfold nArgs;(repeat' split)<;>omega)
      ·try simp only [sx] at c6
       refine G O<|yJ O<|Y O<|W<|zF O (fun c7=>?_) (fun c7=>?_)
       ·try simp only [sx] at c7
        refine G O<|Y O<|W<|zL<|zP O ?_
        exact congrArg vI (by unfold nArgs;(repeat' split)<;>omega)
       ·try simp only [sx] at c7
        refine zJ<|G O<|Y O<|W<|zL<|zP O ?_
        exact congrArg vI (by unfold nArgs;(repeat' split)<;>omega)
     ·try simp only [sx] at c5
      refine zO O<|yJ O<|Y O<|W<|zF O (fun c6=>?_) (fun c6=>?_)
      ·try simp only [sx] at c6
       refine G O<|Y O<|W<|zL<|zP O ?_
       exact congrArg vI (by unfold nArgs;(repeat' split)<;>omega)
      ·try simp only [sx] at c6
       refine G O<|yJ O<|Y O<|W<|zF O (fun c7=>?_) (fun c7=>?_)
       ·try simp only [sx] at c7
        refine G O<|Y O<|W<|zL<|zP O ?_
        exact congrArg vI (by unfold nArgs;(repeat' split)<;>omega)
       ·try simp only [sx] at c7
        refine zJ<|G O<|Y O<|W<|zL<|zP O ?_
        exact congrArg vI (by unfold nArgs;(repeat' split)<;>omega)
theorem zDb (e:Ex):
    Pur cfg 155 [vE e] (vB (isCond e)):=by
 refine zS Tryz.func155 O Tryz.ntmps155 Tryz.results155 O ?_
 intro z hz
 refine G O<|zT O O (qI O O) ?_
 rintro _ _ ⟨b1,rfl,rfl⟩
 refine Y O<|W<|G O<|zE O yZ<|zH one3 (J 0 O) O<|qA O (kT O O O)<|Y O<|rL0 O (fun g1_3=>zD O yZ O) O<|rL1 7 O (fun g1_3=>zI O one3 O (J 0 O) O) O<|rL1 8 O (fun g1_3=>kT O O O) O<|yY O (fun h=>h)<|Y O<|W<|zL<|zP O ?_
 exact O
theorem zMb (op:Int):
    Pur cfg 293 [vI op] (vI (nArgs op)):=by
 refine zS Tryz.func293 O Tryz.ntmps293 Tryz.results293 O ?_
 intro z hz
 refine G O<|Y O<|W<|zG<|G O<|Y O<|W<|zN<|zG<|G O<|yJ O<|Y O<|W<|zF O (fun c1=>?_) (fun c1=>?_)
 ·try simp only [sx] at c1
  refine zJ<|zF O (fun c3=>?_) (fun c3=>?_)
  ·try simp only [sx] at c3
   refine G O<|Y O<|W<|zL<|zP O ?_
   exact congrArg vI (by unfold nArgs;(repeat' split)<;>omega)
  ·try simp only [sx] at c3
   refine zG<|G O<|yJ O<|Y O<|W<|zF O (fun c4=>?_) (fun c4=>?_)
   ·try simp only [sx] at c4
    refine zJ<|zF O (fun c6=>?_) (fun c6=>?_)
    ·try simp only [sx] at c6
     refine G O<|Y O<|W<|zL<|zP O ?_
     exact congrArg vI (by unfold nArgs;(repeat' split)<;>omega)
    ·try simp only [sx] at c6
     refine G O<|yJ O<|Y O<|W<|zF O (fun c7=>?_) (fun c7=>?_)
     ·try simp only [sx] at c7
      refine G O<|Y O<|W<|zL<|zP O ?_
      exact congrArg vI (by unfold nArgs;(repeat' split)<;>omega)
     ·try simp only [sx] at c7
      refine zJ<|G O<|Y O<|W<|zL<|zP O ?_
      exact congrArg vI (by unfold nArgs;(repeat' split)<;>omega)
   ·try simp only [sx] at c4
    refine G O<|yJ O<|Y O<|W<|zF O (fun c5=>?_) (fun c5=>?_)
    ·try simp only [sx] at c5
     refine zJ<|zF O (fun c6=>?_) (fun c6=>?_)
     ·try simp only [sx] at c6
      refine G O<|Y O<|W<|zL<|zP O ?_
      exact congrArg vI (by unfold nArgs;(repeat' split)<;>omega)
     ·try simp only [sx] at c6
      refine G O<|yJ O<|Y O<|W<|zF O (fun c7=>?_) (fun c7=>?_)
      ·try simp only [sx] at c7
       refine G O<|Y O<|W<|zL<|zP O ?_
       exact congrArg vI (by unfold nArgs;(repeat' split)<;>omega)
      ·try simp only [sx] at c7
       refine zJ<|G O<|Y O<|W<|zL<|zP O ?_
       exact congrArg vI (by unfold nArgs;(repeat' split)<;>omega)
    ·try simp only [sx] at c5
     refine zO O<|yJ O<|Y O<|W<|zF O (fun c6=>?_) (fun c6=>?_)
     ·try simp only [sx] at c6
      refine G O<|Y O<|W<|zL<|zP O ?_
      exact congrArg vI (by unfold nArgs;(repeat' split)<;>omega)
     ·try simp only [sx] at c6
      refine G O<|yJ O<|Y O<|W<|zF O (fun c7=>?_) (fun c7=>?_)
      ·try simp only [sx] at c7
       refine G O<|Y O<|W<|zL<|zP O ?_
       exact congrArg vI (by unfold nArgs;(repeat' split)<;>omega)
      ·try simp only [sx] at c7
       refine zJ<|G O<|Y O<|W<|zL<|zP O ?_
       exact congrArg vI (by unfold nArgs;(repeat' split)<;>omega)
 ·try simp only [sx] at c1
  refine G O<|yJ O<|Y O<|W<|zF O (fun c2=>?_) (fun c2=>?_)
  ·try simp only [sx] at c2
   refine zJ<|zF O (fun c3=>?_) (fun c3=>?_)
   ·try simp only [sx] at c3
    refine G O<|Y O<|W<|zL<|zP O ?_
    exact congrArg vI (by unfold nArgs;(repeat' split)<;>omega)
   ·try simp only [sx] at c3
    refine zG<|G O<|yJ O<|Y O<|W<|zF O (fun c4=>?_) (fun c4=>?_)
    ·try simp only [sx] at c4
     refine zJ<|zF O (fun c6=>?_) (fun c6=>?_)
     ·try simp only [sx] at c6
      refine G O<|Y O<|W<|zL<|zP O ?_
      exact congrArg vI (by unfold nArgs;(repeat' split)<;>omega)
     ·try simp only [sx] at c6
      refine G O<|yJ O<|Y O<|W<|zF O (fun c7=>?_) (fun c7=>?_)
      ·try simp only [sx] at c7
       refine G O<|Y O<|W<|zL<|zP O ?_
       exact congrArg vI (by unfold nArgs;(repeat' split)<;>omega)
      ·try simp only [sx] at c7
       refine zJ<|G O<|Y O<|W<|zL<|zP O ?_
       exact congrArg vI (by unfold nArgs;(repeat' split)<;>omega)
    ·try simp only [sx] at c4
     refine G O<|yJ O<|Y O<|W<|zF O (fun c5=>?_) (fun c5=>?_)
     ·try simp only [sx] at c5
      refine zJ<|zF O (fun c6=>?_) (fun c6=>?_)
      ·try simp only [sx] at c6
       refine G O<|Y O<|W<|zL<|zP O ?_
       exact congrArg vI (by unfold nArgs;(repeat' split)<;>omega)
      ·try simp only [sx] at c6
       refine G O<|yJ O<|Y O<|W<|zF O (fun c7=>?_) (fun c7=>?_)
       ·try simp only [sx] at c7
        refine G O<|Y O<|W<|zL<|zP O ?_
        exact congrArg vI (by unfold nArgs;(repeat' split)<;>omega)
       ·try simp only [sx] at c7
        refine zJ<|G O<|Y O<|W<|zL<|zP O ?_
        exact congrArg vI (by unfold nArgs;(repeat' split)<;>omega)
     ·try simp only [sx] at c5
      refine zO O<|yJ O<|Y O<|W<|zF O (fun c6=>?_) (fun c6=>?_)
      ·try simp only [sx] at c6
       refine G O<|Y O<|W<|zL<|zP O ?_
       exact congrArg vI (by unfold nArgs;(repeat' split)<;>omega)
      ·try simp only [sx] at c6
       refine G O<|yJ O<|Y O<|W<|zF O (fun c7=>?_) (fun c7=>?_)
       ·try simp only [sx] at c7
        refine G O<|Y O<|W<|zL<|zP O ?_
        exact congrArg vI (by unfold nArgs;(repeat' split)<;>omega)
       ·try simp only [sx] at c7
        refine zJ<|G O<|Y O<|W<|zL<|zP O ?_
        exact congrArg vI (by unfold nArgs;(repeat' split)<;>omega)
  ·try simp only [sx] at c2
   refine zO O<|yJ O<|Y O<|W<|zF O (fun c3=>?_) (fun c3=>?_)
   ·try simp only [sx] at c3
    refine G O<|Y O<|W<|zL<|zP O ?_
    exact congrArg vI (by unfold nArgs;(repeat' split)<;>omega)
   ·try simp only [sx] at c3
    refine zG<|G O<|yJ O<|Y O<|W<|zF O (fun c4=>?_) (fun c4=>?_)
    ·try simp only [sx] at c4
     refine zJ<|zF O (fun c6=>?_) (fun c6=>?_)
     ·try simp only [sx] at c6
      refine G O<|Y O<|W<|zL<|zP O ?_
      exact congrArg vI (by unfold nArgs;(repeat' split)<;>omega)
     ·try simp only [sx] at c6
      refine G O<|yJ O<|Y O<|W<|zF O (fun c7=>?_) (fun c7=>?_)
      ·try simp only [sx] at c7
       refine G O<|Y O<|W<|zL<|zP O ?_
       exact congrArg vI (by unfold nArgs;(repeat' split)<;>omega)
      ·try simp only [sx] at c7
       refine zJ<|G O<|Y O<|W<|zL<|zP O ?_
       exact congrArg vI (by unfold nArgs;(repeat' split)<;>omega)
    ·try simp only [sx] at c4
     refine G O<|yJ O<|Y O<|W<|zF O (fun c5=>?_) (fun c5=>?_)
     ·try simp only [sx] at c5
      refine zJ<|zF O (fun c6=>?_) (fun c6=>?_)
      ·try simp only [sx] at c6
       refine G O<|Y O<|W<|zL<|zP O ?_
       exact congrArg vI (by unfold nArgs;(repeat' split)<;>omega)
      ·try simp only [sx] at c6
       refine G O<|yJ O<|Y O<|W<|zF O (fun c7=>?_) (fun c7=>?_)
       ·try simp only [sx] at c7
        refine G O<|Y O<|W<|zL<|zP O ?_
        exact congrArg vI (by unfold nArgs;(repeat' split)<;>omega)
       ·try simp only [sx] at c7
        refine zJ<|G O<|Y O<|W<|zL<|zP O ?_
        exact congrArg vI (by unfold nArgs;(repeat' split)<;>omega)
     ·try simp only [sx] at c5
      refine zO O<|yJ O<|Y O<|W<|zF O (fun c6=>?_) (fun c6=>?_)
      ·try simp only [sx] at c6
       refine G O<|Y O<|W<|zL<|zP O ?_
       exact congrArg vI (by unfold nArgs;(repeat' split)<;>omega)
      ·try simp only [sx] at c6
       refine G O<|yJ O<|Y O<|W<|zF O (fun c7=>?_) (fun c7=>?_)
       ·try simp only [sx] at c7
        refine G O<|Y O<|W<|zL<|zP O ?_
        exact congrArg vI (by unfold nArgs;(repeat' split)<;>omega)
       ·try simp only [sx] at c7
        refine zJ<|G O<|Y O<|W<|zL<|zP O ?_
        exact congrArg vI (by unfold nArgs;(repeat' split)<;>omega)
theorem zAf (e:Ex):
    Pur cfg 161 [vE e] (vB (isCond e)):=by
 refine zS Tryz.func161 O Tryz.ntmps161 Tryz.results161 O ?_
 intro z hz
 refine G O<|zT O O (qI O O) ?_
 rintro _ _ ⟨b1,rfl,rfl⟩
 refine Y O<|W<|G O<|zE O yZ<|zH one3 (J 0 O) O<|qA O (wE O O O)<|Y O<|rL0 O (fun g1_3=>zD O yZ O) O<|rL1 7 O (fun g1_3=>zI O one3 O (J 0 O) O) O<|rL1 8 O (fun g1_3=>kT O O O) O<|yY O (fun h=>h)<|Y O<|W<|zL<|zP O ?_
 exact O
theorem zFy (op i:Int):
    Pur cfg 272 [vI op,vI i] (vB (wantC op i)):=by
 refine zS Tryz.func272 O Tryz.ntmps272 Tryz.results272 O ?_
 intro z hz
 refine G O<|Y O<|W<|zG<|G O<|Y O<|W<|zN<|zG<|G O<|yJ O<|Y O<|W<|zF O (fun c1=>?_) (fun c1=>?_)
 ·try simp only [sx] at c1
  refine zJ<|zF O (fun c3=>?_) (fun c3=>?_)
  ·try simp only [sx] at c3
   refine G O<|Y O<|W<|zL<|zP O ?_
   exact congrArg vB (by unfold wantC;first|(exfalso;omega)|(simp [*];done)|(rw [Bool.eq_iff_iff];simp only [Bool.or_eq_true,Bool.and_eq_true,decide_eq_true_eq];omega))
  ·try simp only [sx] at c3
   refine zJ<|G O<|Y O<|yJ O<|Y O<|rL0 O (fun g6_2=>zQ O O) O<|rL1 13 O (fun g6_2=>yL O O O) O<|yY O (fun h=>h)<|Y O<|W<|zL<|zP O ?_
   exact congrArg vB (by unfold wantC;first|(exfalso;omega)|(simp [*];done)|(rw [Bool.eq_iff_iff];simp only [Bool.or_eq_true,Bool.and_eq_true,decide_eq_true_eq];omega))
 ·try simp only [sx] at c1
  refine G O<|yJ O<|Y O<|W<|zF O (fun c2=>?_) (fun c2=>?_)
  ·try simp only [sx] at c2
   refine zJ<|zF O (fun c3=>?_) (fun c3=>?_)
   ·try simp only [sx] at c3
    refine G O<|Y O<|W<|zL<|zP O ?_
    exact congrArg vB (by unfold wantC;first|(exfalso;omega)|(simp [*];done)|(rw [Bool.eq_iff_iff];simp only [Bool.or_eq_true,Bool.and_eq_true,decide_eq_true_eq];omega))
   ·try simp only [sx] at c3
    refine zJ<|G O<|Y O<|yJ O<|Y O<|rL0 O (fun g6_2=>zQ O O) O<|rL1 13 O (fun g6_2=>yL O O O) O<|yY O (fun h=>h)<|Y O<|W<|zL<|zP O ?_
    exact congrArg vB (by unfold wantC;first|(exfalso;omega)|(simp [*];done)|(rw [Bool.eq_iff_iff];simp only [Bool.or_eq_true,Bool.and_eq_true,decide_eq_true_eq];omega))
  ·try simp only [sx] at c2
   refine zO O<|yJ O<|Y O<|W<|zF O (fun c3=>?_) (fun c3=>?_)
   ·try simp only [sx] at c3
    refine G O<|Y O<|W<|zL<|zP O ?_
    exact congrArg vB (by unfold wantC;first|(exfalso;omega)|(simp [*];done)|(rw [Bool.eq_iff_iff];simp only [Bool.or_eq_true,Bool.and_eq_true,decide_eq_true_eq];omega))
   ·try simp only [sx] at c3
    refine zJ<|G O<|Y O<|yJ O<|Y O<|rL0 O (fun g6_2=>zQ O O) O<|rL1 13 O (fun g6_2=>yL O O O) O<|yY O (fun h=>h)<|Y O<|W<|zL<|zP O ?_
    exact congrArg vB (by unfold wantC;first|(exfalso;omega)|(simp [*];done)|(rw [Bool.eq_iff_iff];simp only [Bool.or_eq_true,Bool.and_eq_true,decide_eq_true_eq];omega))
theorem ref14_wants (op i:Int):
    Pur cfg 294 [vI op,vI i] (vB (wantC op i)):=by
 refine zS Tryz.func294 O Tryz.ntmps294 Tryz.results294 O ?_
 intro z hz
 refine G O<|Y O<|W<|G O<|Y O<|yJ O<|Y O<|rL0 O (fun g1_2=>zQ O O) O<|rL1 8 O (fun g1_2=>yL O O O) O<|yY O (fun h=>h)<|Y O<|rL0 O (fun g1_6=>zQ O O) O<|rL1 12 O (fun g1_6=>yL O O O) O<|r_or O (fun h=>(lzf h))<|Y O<|rL0 O (fun g1_10=>zQ O O) O<|rL1 16 O (fun g1_10=>yL O O O) O<|r_or O (fun h=>(lzf h))<|Y O<|rL0 O (fun g1_14=>zQ O O) O<|rL1 20 O (fun g1_14=>yL O O O) O<|r_or O (fun h=>(lzf h))<|Y O<|W<|zL<|zP O ?_
 exact O
theorem zQk (l:Lf):
    Pur cfg 265 [vLin l] (vB (zeroL l)):=by
 refine zS Tryz.func265 O Tryz.ntmps265 Tryz.results265 O ?_
 intro z hz
 refine G O<|zT O O (qI O O) ?_
 rintro _ _ ⟨b1,rfl,rfl⟩
 refine Y O<|W<|G O<|zE O zFw<|zH one2 (J 0 O) O<|yJ O<|Y O<|rL0 O (fun g1_3=>zD O kY O) O<|rL1 7 O (fun g1_3=>zI O zAs O (J 0 O) O) O<|rL1 8 O (fun g1_3=>qU O el38 O) O<|rL1 9 O (fun g1_3=>yL O O O) O<|yY O (fun h=>h)<|Y O<|W<|zL<|zP O ?_
 exact O
theorem zQj (x:Ix):
    Pur cfg 268 [vIndex x] (vB (wellIx x)):=by
 refine zS Tryz.func268 O Tryz.ntmps268 Tryz.results268 O ?_
 intro z hz
 refine G O<|zT O O (qI O O) ?_
 rintro _ _ ⟨b1,rfl,rfl⟩
 refine Y O<|W<|zG<|G O<|zE O zAd<|zH one9 (J 0 O) O<|kP O<|W<|zF O (fun c1=>?_) (fun c1=>?_)
 ·try simp only [sx] at c1
  refine G O<|zE O wD<|zH zAr (J 0 O) O<|zV O el65<|yJ O<|Y O<|W<|zL<|zP O ?_
  rw [wellIx,kU c1];rfl
 ·try simp only [sx] at c1
  refine zJ<|G O<|zE O zBh<|zK kG (J 0 O) O<|qK O ok265 (zQk x.Lin) ⟨U,O,T⟩<|Y O<|W<|zL<|zP O ?_
  rw [wellIx,yA c1];rfl
theorem expr_syntax_1 (x:Ix):
    Pur cfg 267 [vIndex x] (vB (!wellIx x)):=by
 refine zS Tryz.func267 O Tryz.ntmps267 Tryz.results267 O ?_
 intro z hz
 refine G O<|zT O O (qI O O) ?_
 rintro _ _ ⟨b1,rfl,rfl⟩
 refine Y O<|W<|G O<|zK zBf (J 0 O) O<|qK O ok268 (zQj x) ⟨U,O,T⟩<|wK O<|Y O<|W<|zL<|zP O ?_
 exact O
theorem expr_names_1 (x:Ix):
    Pur cfg 269 [vIndex x] (vB (!nmIx x)):=by
 refine zS Tryz.func269 O Tryz.ntmps269 Tryz.results269 O ?_
 intro z hz
 refine G O<|zT O O (qI O O) ?_
 rintro _ _ ⟨b1,rfl,rfl⟩
 refine Y O<|W<|G O<|zE O zAd<|zH one9 (J 0 O) O<|qA O (zCd O O O)<|Y O<|rL0 O (fun g1_3=>zD O zAd O) O<|rL1 7 O (fun g1_3=>zI O one9 O (J 0 O) O) O<|rL1 8 O (fun g1_3=>qG O ok138 (zEc _) ⟨U,O,T⟩) O<|rL1 9 O (fun g1_3=>kS O O) O<|yY O (fun h=>h)<|Y O<|W<|zL<|zP O ?_
 exact congrArg vB (by unfold nmIx;simp)
theorem expr_rank_1 (x:Ix):
    Pur cfg 271 [vIndex x] (vB (!rkIx x)):=by
 refine zS Tryz.func271 O Tryz.ntmps271 Tryz.results271 O ?_
 intro z hz
 refine G O<|zT O O (qI O O) ?_
 rintro _ _ ⟨b1,rfl,rfl⟩
 refine Y O<|W<|G O<|zE O wD<|zH zAr (J 0 O) O<|zV O el65<|qA O (yI O O O)<|Y O<|W<|zL<|zP O ?_
 exact congrArg vB (by unfold rkIx;simp)
theorem expr_syntax (e:Ex) (he:e.wt<=6000000000000):
    Pur cfg 221 [vE e] (vB (synOk e)):=by
 refine zS Tryz.func221 O Tryz.ntmps221 Tryz.results221 O ?_
 intro z hz
 obtain ⟨hL,hI,hA⟩:=e.parts he
 refine G O<|zT O O (qI O O) ?_
 rintro _ _ ⟨b1,rfl,rfl⟩
 refine Y O<|W<|zG<|qW 13 mixed (by kernel_rfl) O O<|zM O O (zD O yZ O)<|zM O O (zI O one3 O (J 0 O) O)<|zM O O (yL O O O)<|zM O O (zD O yZ O)<|zM O O (zI O one3 O (J 0 O) O)<|zM O O (yL O O O)<|zM O O (zQ O O)<|qC [] O O O O gv1 T (fun g1_6=>zD O yZ O) O<|qC [(14,_)] O O O O gv1 ⟨O,O,T⟩ (fun g1_6=>zI O one3 O (J 0 O) O) O<|qC [(15,_)] O O O O gv1 ⟨O,O,T⟩ (fun g1_6=>yL O O O) O<|zM O O (zBx O O O O (fun h=>(lzf h)))<|zM O O (kA O O)<|zM O O (kA O O)<|yN<|W<|zG<|qW 8 mixed (by kernel_rfl) O O<|zM O O (zD O yZ O)<|zM O O (zI O one3 O (J 0 O) O)<|zM O O (yL O O O)<|zM O O (zD O yZ O)<|zM O O (zI O one3 O (J 0 O) O)<|zM O O (yL O O O)<|zM O O (kA O O)<|zM O O (kA O O)<|yN<|W<|zG<|zN<|G O<|zE O yZ<|zH one3 (J 0 O) O<|qY O<|Y O<|rL0 O (fun g3_3=>zD O yZ O) O<|rL1 29 O (fun g3_3=>zI O one3 O (J 0 O) O) O<|rL1 30 O (fun g3_3=>yI O O O) O<|r_or O (fun h=>(lzf h))<|Y O<|W<|zF O (fun c1=>?_) (fun c1=>?_)
 ·refine G O<|Y O<|W<|zL<|zP O ?_
  exact congrArg vB (by simp only [synOk,c1,Bool.not_true,Bool.not_false,Bool.true_and,Bool.and_true,Bool.false_and,Bool.and_false])
 ·refine G O<|Y O<|wK O<|Y O<|rL0 O (fun g5_2=>zD O zHz O) O<|rL1 37 O (fun g5_2=>zR O agg35 O (J 0 O) O) O<|rL0 O (fun g5_2=>wB O zr35 pl35 O) O<|rLz [(38,_),(39,_)] O gv1 ⟨O,O,O,O,T⟩ (fun g5_2=>zBd O fl35 O O O) O<|yY O (fun h=>h)<|Y O<|W<|zF O (fun c2=>?_) (fun c2=>?_)
  ·have c2:(!decide (e.Op=1)&& !val0 e.Val)=true:=c2
   refine G O<|Y O<|W<|zL<|zP O ?_
   exact congrArg vB (by simp only [synOk,c2,Bool.not_true,Bool.not_false,Bool.true_and,Bool.and_true,Bool.false_and,Bool.and_false])
  ·have c2:(!decide (e.Op=1)&& !val0 e.Val)=false:=c2
   refine G O<|Y O<|wK O<|Y O<|rL0 O (fun g7_2=>zD O zEy O) O<|rL1 46 O (fun g7_2=>zR O yF O (J 0 O) O) O<|rL0 O (fun g7_2=>wB O zr37 pl37 O) O<|rLz [(47,_),(48,_)] O gv1 ⟨O,O,O,O,T⟩ (fun g7_2=>zBd O fl37 O O O) O<|yY O (fun h=>h)<|Y O<|W<|zF O (fun c3=>?_) (fun c3=>?_)
   ·have c3:(!(decide (e.Op=1)||decide (e.Op=12))&& !ty0 e.Ty)=true:=c3
    refine G O<|Y O<|W<|zL<|zP O ?_
    exact congrArg vB (by simp only [synOk,c3,Bool.not_true,Bool.not_false,Bool.true_and,Bool.and_true,Bool.false_and,Bool.and_false])
   ·have c3:(!(decide (e.Op=1)||decide (e.Op=12))&& !ty0 e.Ty)=false:=c3
    refine G O<|Y O<|wK O<|Y O<|rL0 O (fun g9_2=>zD O zCv O) O<|rL1 55 O (fun g9_2=>zR O kG O (J 0 O) O) O<|rL1 56 O (fun g9_2=>qG O ok265 (zQk e.Lin) ⟨U,O,T⟩) O<|rL1 57 O (fun g9_2=>kS O O) O<|yY O (fun h=>h)<|Y O<|W<|zF O (fun c4=>?_) (fun c4=>?_)
    ·refine G O<|Y O<|W<|zL<|zP O ?_
     exact congrArg vB (by simp only [synOk,c4,Bool.not_true,Bool.not_false,Bool.true_and,Bool.and_true,Bool.false_and,Bool.and_false])
    ·refine G O<|Y O<|wK O<|Y O<|rL0 O (fun g11_2=>zD O zFv O) O<|rL1 64 O (fun g11_2=>zI O one9 O (J 0 O) O) O<|rL1 65 O (fun g11_2=>zCd O O O) O<|rL1 66 O (fun g11_2=>zQ O O) O<|rLz [] O q T (fun g11_6=>zD O kC O) O<|rLz [(68,_)] O q ⟨O,O,T⟩ (fun g11_6=>zI O wN O (J 0 O) O) O<|rLz [(69,_)] O q ⟨O,O,T⟩ (fun g11_6=>qU O el41 O) O<|rLz [(70,_)] O q ⟨O,O,T⟩ (fun g11_6=>yI O O O) O<|rL1 67 O (fun g11_2=>zBx O O O O (fun h=>kH (by assumption) (lzf h))) O<|yY O (fun h=>h)<|Y O<|W<|zF O (fun c5=>?_) (fun c5=>?_)
     ·refine G O<|Y O<|W<|zL<|zP O ?_
      exact congrArg vB (by simp only [synOk,c5,Bool.not_true,Bool.not_false,Bool.true_and,Bool.and_true,Bool.false_and,Bool.and_false])
     ·refine zJ<|G O<|zE O kC<|zH wN (J 0 O) O<|qK O ok266 (zAn e.Idx _ (fun x=> !wellIx x) hI (fun x _=>FnPur.of_pur (first:=[]) (cap:=[]) ok267 (expr_syntax_1 x))) ⟨U,O,U,O,T⟩<|wK O<|Y O<|W<|zL<|zP O ?_
      exact congrArg vB (by rw [zPk];simp only [synOk,c1,c2,c3,c4,c5,Bool.not_true,Bool.not_false,Bool.true_and,Bool.and_true,Bool.false_and,Bool.and_false])
theorem expr_names (e:Ex) (he:e.wt<=6000000000000):
    Pur cfg 222 [vE e] (vB (namesE e)):=by
 refine zS Tryz.func222 O Tryz.ntmps222 Tryz.results222 O ?_
 intro z hz
 obtain ⟨hL,hI,hA⟩:=e.parts he
 refine G O<|zT O O (qI O O) ?_
 rintro _ _ ⟨b1,rfl,rfl⟩
 refine Y O<|W<|zG<|G O<|zE O yZ<|zH one3 (J 0 O) O<|yJ O<|Y O<|rL0 O (fun g1_3=>zD O zFv O) O<|rL1 7 O (fun g1_3=>zI O one9 O (J 0 O) O) O<|rL1 8 O (fun g1_3=>qG O ok138 (zEc _) ⟨U,O,T⟩) O<|rL1 9 O (fun g1_3=>kS O O) O<|yY O (fun h=>h)<|W<|zF O (fun c1=>?_) (fun c1=>?_)
 ·refine G O<|Y O<|W<|zL<|zP O ?_
  exact congrArg vB (by simp only [namesE,c1,Bool.not_true,Bool.false_and])
 ·refine zJ<|G O<|zE O kC<|zH wN (J 0 O) O<|qK O ok266 (zAn e.Idx _ (fun x=> !nmIx x) hI (fun x _=>FnPur.of_pur (first:=[]) (cap:=[]) ok269 (expr_names_1 x))) ⟨U,O,U,O,T⟩<|wK O<|Y O<|W<|zL<|zP O ?_
  exact congrArg vB (by rw [zPk];simp only [namesE,c1,Bool.not_false,Bool.true_and])
theorem expr_rank (e:Ex) (he:e.wt<=6000000000000):
    Pur cfg 223 [vE e] (vB (rankE e)):=by
 refine zS Tryz.func223 O Tryz.ntmps223 Tryz.results223 O ?_
 intro z hz
 obtain ⟨hL,hI,hA⟩:=e.parts he
 refine G O<|zT O O (qI O O) ?_
 rintro _ _ ⟨b1,rfl,rfl⟩
 refine Y O<|W<|zG<|zG<|qW 13 mixed (by kernel_rfl) O O<|zM O O (zD O kE O)<|zM O O (zI O wR O (J 0 O) O)<|zM O O (qU O el42 O)<|zM O O (zD O yZ O)<|zM O O (zI O one3 O (J 0 O) O)<|zM O O (qG O ok270 (expr_operands _) ⟨U,O,T⟩)<|zM O O (wX O O O)<|zM O O (zQ O O)<|qC [] O O O O gv1 T (fun g1_7=>zD O kC O) O<|qC [(11,_)] O O O O gv1 ⟨O,O,T⟩ (fun g1_7=>zI O wN O (J 0 O) O) O<|qC [(12,_)] O O O O gv1 ⟨O,O,T⟩ (fun g1_7=>qU O el41 O) O<|qC [(13,_)] O O O O gv1 ⟨O,O,T⟩ (fun g1_7=>yI O O O) O<|zM O O (zBx O O O O (fun h=>(lzf h)))<|yN<|W<|zF O (fun c1=>?_) (fun c1=>?_)
 ·refine G O<|Y O<|W<|zL<|zP O ?_
  exact congrArg vB (by simp only [rankE,c1,Bool.not_true,Bool.false_and])
 ·refine zJ<|G O<|zE O kC<|zH wN (J 0 O) O<|qK O ok266 (zAn e.Idx _ (fun x=> !rkIx x) hI (fun x _=>FnPur.of_pur (first:=[]) (cap:=[]) ok271 (expr_rank_1 x))) ⟨U,O,U,O,T⟩<|wK O<|Y O<|W<|zL<|zP O ?_
  exact congrArg vB (by rw [zPk];simp only [rankE,c1,Bool.not_false,Bool.true_and])
theorem expr_types (e:Ex) (he:e.wt<=6000000000000):
    Pur cfg 224 [vE e] (vB (typesE e)):=by
 refine zS Tryz.func224 O Tryz.ntmps224 Tryz.results224 O ?_
 intro z hz
 obtain ⟨hL,hI,hA⟩:=e.parts he
 refine G O<|zT O O (qI O O) ?_
 rintro _ _ ⟨b1,rfl,rfl⟩
 refine Y O<|W<|zG<|G O<|zE O yZ<|zH one3 (J 0 O) O<|yJ O<|Y O<|rL0 O (fun g1_3=>zD O yZ O) O<|rL1 9 O (fun g1_3=>zI O one3 O (J 0 O) O) O<|rL1 10 O (fun g1_3=>yL O O O) O<|r_or O (fun h=>(lzf h))<|Y O<|rL0 O (fun g1_8=>zD O zEy O) O<|rL1 14 O (fun g1_8=>zR O yF O (J 0 O) O) O<|rL1 15 O (fun g1_8=>qG O ok191 (zBz _) ⟨U,O,T⟩) O<|rL1 16 O (fun g1_8=>wX O O O) O<|yY O (fun h=>h)<|W<|zF O (fun c1=>?_) (fun c1=>?_)
 ·rw [tyErr_dec] at c1
  refine G O<|Y O<|W<|zL<|zP O ?_
  exact congrArg vB (by simp only [typesE,c1,Bool.not_true,Bool.false_and])
 ·rw [tyErr_dec] at c1
  refine zJ<|zG<|G O<|zE O kE<|zH wR (J 0 O) O<|zV O el42<|Y O<|W<|zN<|zU ⟨[(22,.c _),(1,.c _),(20,.c _),(21,.c _)],[_]⟩ (Weak.mk [true] ⟨U,U,U,U,T⟩ O)<|zY 1 0 O O (Nat) (fun k=>[(22,vI k)]) (fun k=>[]) (fun k=>k<=e.Args.length/\(condsOk e.Op 0 e.Args=condsOk e.Op k (e.Args.drop k))) (fun k=>e.Args.length-k) ⟨0,⟨by omega,O⟩,Weak.mk [true] ⟨U,U,U,U,T⟩ O⟩ ?_
  rintro k ⟨hk,hp⟩
  refine G O<|qY O<|W<|zG<|zF O (fun c2=>?_) (fun c2=>?_)
  ·try simp only [sx] at c2
   obtain ⟨a,ha⟩:=qP e.Args k (by omega)
   refine zJ<|zG<|zN<|G O<|Y O<|zZ O el42 (by omega) (zBj (by assumption))<|zK qX zX O<|zT O O (qD [none,none,none,none,none,none,none,none,none,none,some 2,some 4,some 13] O zr44 O) ?_
   rintro _ _ ⟨b2,rfl,rfl⟩
   refine Y O<|N 0 sz44 O<|W<|zG<|qW 7 mixed (by kernel_rfl) O O<|zM O O (zR O qX O (J 0 O) O)<|zM O O (qG O ok155 (zDb a) ⟨U,O,T⟩)<|zM O O (zD O yZ O)<|zM O O (zI O one3 O (J 1 O) O)<|zM O O (zQ O O)<|zM O O (qG O ok272 (zFy _ _) ⟨U,O,U,O,T⟩)<|zM O O (det_bneq O un4 O O)<|yN<|W<|zF O (fun c3=>?_) (fun c3=>?_)
   ·refine G O<|Y O<|W<|zL<|zP O ?_
    exact congrArg vB (by simp only [typesE,c1,Bool.not_false,Bool.true_and];rw [hp,qL ha,condsOk,show (isCond a==wantC e.Op k)=false by simpa using c3,Bool.false_and])
   ·refine zJ<|zO O<|qB O ⟨by omega,by omega⟩<|Y O<|W ?_
    refine ⟨k+1,⟨by omega,(by rw [hp,qL ha,condsOk,show (isCond a==wantC e.Op k)=true by simpa using c3,Bool.true_and];rfl)⟩,(by omega),Weak.mk [false,true] ⟨U,U,U,U,T⟩ O⟩
  ·try simp only [sx] at c2
   refine qE<|G O<|Y O<|W<|zL<|zP O ?_
   exact congrArg vB (by simp only [typesE,c1,Bool.not_false,Bool.true_and];rw [hp,kD (by omega)];rfl)
theorem ref14_typed (e:Ex) (he:e.wt<=6000000000000):
    Pur cfg 261 [vE e] (vB (typesE e)):=by
 refine zS Tryz.func261 O Tryz.ntmps261 Tryz.results261 O ?_
 intro z hz
 obtain ⟨hL,hI,hA⟩:=e.parts he
 refine G O<|zT O O (qI O O) ?_
 rintro _ _ ⟨b1,rfl,rfl⟩
 refine Y O<|W<|zG<|G O<|zE O yZ<|zH one3 (J 0 O) O<|yJ O<|Y O<|rL0 O (fun g1_3=>zD O yZ O) O<|rL1 8 O (fun g1_3=>zI O one3 O (J 0 O) O) O<|rL1 9 O (fun g1_3=>yL O O O) O<|r_or O (fun h=>(lzf h))<|Y O<|rL0 O (fun g1_8=>zD O zEy O) O<|rL1 13 O (fun g1_8=>zR O yF O (J 0 O) O) O<|rL1 14 O (fun g1_8=>qG O ok109 (zRd _) ⟨U,O,T⟩) O<|rL1 15 O (fun g1_8=>kS O O) O<|yY O (fun h=>h)<|W<|zF O (fun c1=>?_) (fun c1=>?_)
 ·refine G O<|Y O<|W<|zL<|zP O ?_
  exact congrArg vB (by simp only [typesE,c1,Bool.not_true,Bool.false_and])
 ·refine zJ<|zG<|G O<|Y O<|W<|zN<|zU ⟨[(3,.c _),(1,.c _)],[_]⟩ (Weak.mk [true] ⟨U,U,T⟩ O)<|zY 1 0 O O (Nat) (fun k=>[(3,vI k)]) (fun k=>[]) (fun k=>k<=e.Args.length/\(condsOk e.Op 0 e.Args=condsOk e.Op k (e.Args.drop k))) (fun k=>e.Args.length-k) ⟨0,⟨by omega,O⟩,Weak.mk [true] ⟨U,U,T⟩ O⟩ ?_
  rintro k ⟨hk,hp⟩
  refine zG<|G O<|Y O<|zE O kE<|zH wR (J 0 O) O<|zV O el42<|qY O<|W<|zF O (fun c2=>?_) (fun c2=>?_)
  ·try simp only [sx] at c2
   obtain ⟨a,ha⟩:=qP e.Args k (by omega)
   refine zJ<|zG<|zN<|zG<|qW 11 mixed (by kernel_rfl) O O<|zM O O (zD O kE O)<|zM O O (zI O wR O (J 0 O) O)<|zM O O (zQ O O)<|zM O O (qH O el42 O O (by omega) (zBj (by assumption)))<|zM O O (zR O qX O zX O)<|zM O O (qG O ok161 (zAf a) ⟨U,O,T⟩)<|zM O O (zD O yZ O)<|zM O O (zI O one3 O (J 0 O) O)<|zM O O (zQ O O)<|zM O O (qG O ok294 (ref14_wants _ _) ⟨U,O,U,O,T⟩)<|zM O O (det_bneq O un4 O O)<|yN<|W<|zF O (fun c3=>?_) (fun c3=>?_)
   ·refine G O<|Y O<|W<|zL<|zP O ?_
    exact congrArg vB (by simp only [typesE,c1,Bool.not_false,Bool.true_and];rw [hp,qL ha,condsOk,show (isCond a==wantC e.Op k)=false by simpa using c3,Bool.false_and])
   ·refine zJ<|zO O<|Y O<|qB O ⟨by omega,by omega⟩<|Y O<|W ?_
    refine ⟨k+1,⟨by omega,(by rw [hp,qL ha,condsOk,show (isCond a==wantC e.Op k)=true by simpa using c3,Bool.true_and];rfl)⟩,(by omega),Weak.mk [true] ⟨U,U,T⟩ O⟩
  ·try simp only [sx] at c2
   refine qE<|G O<|Y O<|W<|zL<|zP O ?_
   exact congrArg vB (by simp only [typesE,c1,Bool.not_false,Bool.true_and];rw [hp,kD (by omega)];rfl)
theorem ref14_plain (e:Ex) (he:e.wt<=6000000000000):
    Pur cfg 258 [vE e] (vB (synOk e)):=by
 refine zS Tryz.func258 O Tryz.ntmps258 Tryz.results258 O ?_
 intro z hz
 obtain ⟨hL,hI,hA⟩:=e.parts he
 refine G O<|zT O O (qI O O) ?_
 rintro _ _ ⟨b1,rfl,rfl⟩
 refine Y O<|W<|zG<|G O<|zE O yZ<|zH one3 (J 0 O) O<|qY O<|Y O<|rL0 O (fun g1_3=>zD O yZ O) O<|rL1 9 O (fun g1_3=>zI O one3 O (J 0 O) O) O<|rL1 10 O (fun g1_3=>yI O O O) O<|r_or O (fun h=>(lzf h))<|W<|zF O (fun c1=>?_) (fun c1=>?_)
 ·refine G O<|Y O<|W<|zL<|zP O ?_
  exact congrArg vB (by simp only [synOk,c1,Bool.not_true,Bool.false_and])
 ·refine zJ<|zG<|G O<|zE O yZ<|zH one3 (J 0 O) O<|yP O<|Y O<|rL0 O (fun g3_3=>zD O zHz O) O<|rL1 17 O (fun g3_3=>zR O agg35 O (J 0 O) O) O<|rL0 O (fun g3_3=>wB O zr35 pl35 O) O<|rLz [(18,_),(19,_)] O gv1 ⟨O,O,O,O,T⟩ (fun g3_3=>zBd O fl35 O O O) O<|yY O (fun h=>h)<|Y O<|rL0 O (fun g3_9=>zD O yZ O) O<|rL1 23 O (fun g3_9=>zI O one3 O (J 0 O) O) O<|rL1 24 O (fun g3_9=>wX O O O) O<|rL1 25 O (fun g3_9=>zQ O O) O<|rLz [] O q T (fun g3_13=>zD O yZ O) O<|rLz [(27,_)] O q ⟨O,O,T⟩ (fun g3_13=>zI O one3 O (J 0 O) O) O<|rLz [(28,_)] O q ⟨O,O,T⟩ (fun g3_13=>wX O O O) O<|rL1 26 O (fun g3_9=>wJ O O O (fun h=>kH (by assumption) h) O) O<|rL1 30 O (fun g3_9=>zQ O O) O<|rLz [] O q T (fun g3_18=>zD O zEy O) O<|rLz [(32,_)] O q ⟨O,O,T⟩ (fun g3_18=>zR O yF O (J 0 O) O) O<|rLz [] O q T (fun g3_18=>wB O zr37 pl37 O) O<|rLz [(33,_),(34,_)] O q ⟨O,O,O,O,T⟩ (fun g3_18=>zBd O fl37 O O O) O<|rL1 31 O (fun g3_9=>wJ O O O (fun h=>kH (by assumption) h) O) O<|r_or O (fun h=>(lzf h))<|W<|zF O (fun c2=>?_) (fun c2=>?_)
  ·have h2:=plain2 (e:=e) c2
   refine G O<|Y O<|W<|zL<|zP O ?_
   exact congrArg vB (syn2 h2)
  ·have h2:=plain2 (e:=e) c2
   refine zJ<|zG<|G O<|zE O yZ<|zH one3 (J 0 O) O<|yP O<|Y O<|rL0 O (fun g5_3=>zD O zCv O) O<|rL1 42 O (fun g5_3=>zD O zFw O) O<|rL1 43 O (fun g5_3=>zI O one2 O (J 0 O) O) O<|rL1 44 O (fun g5_3=>wX O O O) O<|rL1 45 O (fun g5_3=>zQ O O) O<|rLz [] O q T (fun g5_8=>zD O zCv O) O<|rLz [(47,_)] O q ⟨O,O,T⟩ (fun g5_8=>zD O kY O) O<|rLz [(48,_)] O q ⟨O,O,T⟩ (fun g5_8=>zI O zAs O (J 0 O) O) O<|rLz [(49,_)] O q ⟨O,O,T⟩ (fun g5_8=>qU O el38 O) O<|rLz [(50,_)] O q ⟨O,O,T⟩ (fun g5_8=>yI O O O) O<|rL1 46 O (fun g5_3=>zBx O O O O (fun h=>kH (by assumption) (lzf h))) O<|yY O (fun h=>h)<|Y O<|rL0 O (fun g5_16=>zD O yZ O) O<|rL1 55 O (fun g5_16=>zI O one3 O (J 0 O) O) O<|rL1 56 O (fun g5_16=>wX O O O) O<|rL1 57 O (fun g5_16=>zQ O O) O<|rLz [] O q T (fun g5_20=>zD O zFv O) O<|rLz [(59,_)] O q ⟨O,O,T⟩ (fun g5_20=>zI O one9 O (J 0 O) O) O<|rLz [(60,_)] O q ⟨O,O,T⟩ (fun g5_20=>zCd O O O) O<|rLz [(61,_)] O q ⟨O,O,T⟩ (fun g5_20=>zQ O O) O<|rLz [] O q T (fun g5_24=>zD O kC O) O<|rLz [(63,_)] O q ⟨O,O,T⟩ (fun g5_24=>zI O wN O (J 0 O) O) O<|rLz [(64,_)] O q ⟨O,O,T⟩ (fun g5_24=>qU O el41 O) O<|rLz [(65,_)] O q ⟨O,O,T⟩ (fun g5_24=>yI O O O) O<|rLz [(62,_)] O q ⟨O,O,T⟩ (fun g5_20=>zBx O O O O (fun h=>kH (by assumption) (lzf h))) O<|rL1 58 O (fun g5_16=>wJ O O O (fun h=>kH (by assumption) h) O) O<|r_or O (fun h=>(lzf h))<|W<|zF O (fun c3=>?_) (fun c3=>?_)
   ·have h3:=plain3 (e:=e) c3
    refine G O<|Y O<|W<|zL<|zP O ?_
    exact congrArg vB (syn3 h3)
   ·have h3:=plain3 (e:=e) c3
    refine zJ<|zG<|G O<|Y O<|W<|zN<|zU ⟨[(3,.c _),(1,.c _)],[_]⟩ (Weak.mk [true] ⟨U,U,T⟩ O)<|zY 1 0 O O (Nat) (fun k=>[(3,vI k)]) (fun k=>[]) (fun k=>k<=e.Idx.length/\(e.Idx.all wellIx=(e.Idx.drop k).all wellIx)) (fun k=>e.Idx.length-k) ⟨0,⟨by omega,O⟩,Weak.mk [true] ⟨U,U,T⟩ O⟩ ?_
    rintro k ⟨hk,hp⟩
    refine zG<|G O<|Y O<|zE O kC<|zH wN (J 0 O) O<|zV O el41<|qY O<|W<|zF O (fun c4=>?_) (fun c4=>?_)
    ·try simp only [sx] at c4
     obtain ⟨x,hx⟩:=qP e.Idx k (by omega)
     refine zJ<|zG<|zN<|G O<|zE O kC<|zH wN (J 0 O) O<|Y O<|zZ O el41 (by omega) (getm (by assumption))<|zK zBf zX O<|zT O O (qD [none,some 2,none,some 2] O zDc O) ?_
     rintro _ _ ⟨b2,rfl,rfl⟩
     refine N 0 zOj O<|W<|G O<|zE O zAd<|zH one9 (J 0 O) O<|kP O<|Y O<|rL0 O (fun g11_3=>zD O wD O) O<|rL1 86 O (fun g11_3=>zI O zAr O (J 0 O) O) O<|rL1 87 O (fun g11_3=>qU O el65 O) O<|rL1 88 O (fun g11_3=>yI O O O) O<|yY O (fun h=>h)<|Y O<|rL0 O (fun g11_9=>zD O zAd O) O<|rL1 92 O (fun g11_9=>zI O one9 O (J 0 O) O) O<|rL1 93 O (fun g11_9=>zCd O O O) O<|rL1 94 O (fun g11_9=>zQ O O) O<|rLz [] O q T (fun g11_13=>zD O zBh O) O<|rLz [(96,_)] O q ⟨O,O,T⟩ (fun g11_13=>zD O zFw O) O<|rLz [(97,_)] O q ⟨O,O,T⟩ (fun g11_13=>zI O one2 O (J 0 O) O) O<|rLz [(98,_)] O q ⟨O,O,T⟩ (fun g11_13=>wX O O O) O<|rLz [(99,_)] O q ⟨O,O,T⟩ (fun g11_13=>zQ O O) O<|rLz [] O q T (fun g11_18=>zD O zBh O) O<|rLz [(101,_)] O q ⟨O,O,T⟩ (fun g11_18=>zD O kY O) O<|rLz [(102,_)] O q ⟨O,O,T⟩ (fun g11_18=>zI O zAs O (J 0 O) O) O<|rLz [(103,_)] O q ⟨O,O,T⟩ (fun g11_18=>qU O el38 O) O<|rLz [(104,_)] O q ⟨O,O,T⟩ (fun g11_18=>yI O O O) O<|rLz [(100,_)] O q ⟨O,O,T⟩ (fun g11_13=>zBx O O O O (fun h=>kH (by assumption) (lzf h))) O<|rL1 95 O (fun g11_9=>wJ O O O (fun h=>kH (by assumption) h) O) O<|r_or O (fun h=>(lzf h))<|W<|zF O (fun c5=>?_) (fun c5=>?_)
     ·have h5:=well_dec (x:=x) c5
      refine G O<|Y O<|W<|zL<|zP O ?_
      exact congrArg vB (by rw [synOk,all_no hx (p:=wellIx) (by simpa using h5)];simp)
     ·have h5:=well_dec (x:=x) c5
      refine zJ<|zO O<|Y O<|qB O ⟨by omega,by omega⟩<|Y O<|W ?_
      refine ⟨k+1,⟨by omega,zNy hx hp (by simpa using h5)⟩,(by omega),Weak.mk [false,true] ⟨U,U,T⟩ O⟩
    ·try simp only [sx] at c4
     refine qE<|G O<|Y O<|W<|zL<|zP O ?_
     exact congrArg vB (syn5 c1 h2 h3 (all_end hp (by omega)))
theorem ref14_named (e:Ex) (he:e.wt<=6000000000000):
    Pur cfg 259 [vE e] (vB (namesE e)):=by
 refine zS Tryz.func259 O Tryz.ntmps259 Tryz.results259 O ?_
 intro z hz
 obtain ⟨hL,hI,hA⟩:=e.parts he
 refine G O<|zT O O (qI O O) ?_
 rintro _ _ ⟨b1,rfl,rfl⟩
 refine Y O<|W<|zG<|G O<|zE O yZ<|zH one3 (J 0 O) O<|yJ O<|Y O<|rL0 O (fun g1_3=>zD O zFv O) O<|rL1 8 O (fun g1_3=>zI O one9 O (J 0 O) O) O<|rL1 9 O (fun g1_3=>qG O ok137 (zGv _) ⟨U,O,T⟩) O<|rL1 10 O (fun g1_3=>kS O O) O<|yY O (fun h=>h)<|W<|zF O (fun c1=>?_) (fun c1=>?_)
 ·refine G O<|Y O<|W<|zL<|zP O ?_
  exact congrArg vB (by simp only [namesE,c1,Bool.not_true,Bool.false_and])
 ·refine zJ<|zG<|G O<|Y O<|W<|zN<|zU ⟨[(3,.c _),(1,.c _)],[_]⟩ (Weak.mk [true] ⟨U,U,T⟩ O)<|zY 1 0 O O (Nat) (fun k=>[(3,vI k)]) (fun k=>[]) (fun k=>k<=e.Idx.length/\(e.Idx.all nmIx=(e.Idx.drop k).all nmIx)) (fun k=>e.Idx.length-k) ⟨0,⟨by omega,O⟩,Weak.mk [true] ⟨U,U,T⟩ O⟩ ?_
  rintro k ⟨hk,hp⟩
  refine zG<|G O<|Y O<|zE O kC<|zH wN (J 0 O) O<|zV O el41<|qY O<|W<|zF O (fun c2=>?_) (fun c2=>?_)
  ·try simp only [sx] at c2
   obtain ⟨x,hx⟩:=qP e.Idx k (by omega)
   refine zJ<|zG<|zN<|G O<|zE O kC<|zH wN (J 0 O) O<|Y O<|zZ O el41 (by omega) (getm (by assumption))<|qQ O zAd<|zH one9 zX O<|qA O (zCd O O O)<|Y O<|rL0 O (fun g6_7=>zD O kC O) O<|rL1 28 O (fun g6_7=>zI O wN O (J 0 O) O) O<|rL0 O (fun g6_7=>zQ O O) O<|rLz [(29,_),(30,_)] O gv1 ⟨O,O,O,O,T⟩ (fun g6_7=>qH O el41 O O (by omega) (getm (by assumption))) O<|rL1 31 O (fun g6_7=>qN O zAd O) O<|rL1 32 O (fun g6_7=>zI O one9 O zX O) O<|rL1 33 O (fun g6_7=>qG O ok137 (zGv _) ⟨U,O,T⟩) O<|rL1 34 O (fun g6_7=>kS O O) O<|yY O (fun h=>h)<|W<|zF O (fun c3=>?_) (fun c3=>?_)
   ·refine G O<|Y O<|W<|zL<|zP O ?_
    exact congrArg vB (by rw [namesE,all_no hx (p:=nmIx) (by unfold nmIx;rw [c3];rfl)];simp)
   ·refine zJ<|zO O<|Y O<|qB O ⟨by omega,by omega⟩<|Y O<|W ?_
    refine ⟨k+1,⟨by omega,zNy hx hp (by unfold nmIx;rw [c3];rfl)⟩,(by omega),Weak.mk [true] ⟨U,U,T⟩ O⟩
  ·try simp only [sx] at c2
   refine qE<|G O<|Y O<|W<|zL<|zP O ?_
   exact congrArg vB (by rw [namesE,c1,all_end hp (by omega)];rfl)
theorem ref14_ranked (e:Ex) (he:e.wt<=6000000000000):
    Pur cfg 260 [vE e] (vB (rankE e)):=by
 refine zS Tryz.func260 O Tryz.ntmps260 Tryz.results260 O ?_
 intro z hz
 obtain ⟨hL,hI,hA⟩:=e.parts he
 refine G O<|zT O O (qI O O) ?_
 rintro _ _ ⟨b1,rfl,rfl⟩
 refine Y O<|W<|zG<|zG<|qW 13 mixed (by kernel_rfl) O O<|zM O O (zD O kE O)<|zM O O (zI O wR O (J 0 O) O)<|zM O O (qU O el42 O)<|zM O O (zD O yZ O)<|zM O O (zI O one3 O (J 0 O) O)<|zM O O (qG O ok293 (zMb _) ⟨U,O,T⟩)<|zM O O (wX O O O)<|zM O O (zQ O O)<|qC [] O O O O gv1 T (fun g1_7=>zD O kC O) O<|qC [(12,_)] O O O O gv1 ⟨O,O,T⟩ (fun g1_7=>zI O wN O (J 0 O) O) O<|qC [(13,_)] O O O O gv1 ⟨O,O,T⟩ (fun g1_7=>qU O el41 O) O<|qC [(14,_)] O O O O gv1 ⟨O,O,T⟩ (fun g1_7=>yI O O O) O<|zM O O (zBx O O O O (fun h=>(lzf h)))<|yN<|W<|zF O (fun c1=>?_) (fun c1=>?_)
 ·refine G O<|Y O<|W<|zL<|zP O ?_
  exact congrArg vB (by simp only [rankE,c1,Bool.not_true,Bool.false_and])
 ·refine zJ<|zG<|G O<|Y O<|W<|zN<|zU ⟨[(3,.c _),(1,.c _)],[_]⟩ (Weak.mk [true] ⟨U,U,T⟩ O)<|zY 1 0 O O (Nat) (fun k=>[(3,vI k)]) (fun k=>[]) (fun k=>k<=e.Idx.length/\(e.Idx.all rkIx=(e.Idx.drop k).all rkIx)) (fun k=>e.Idx.length-k) ⟨0,⟨by omega,O⟩,Weak.mk [true] ⟨U,U,T⟩ O⟩ ?_
  rintro k ⟨hk,hp⟩
  refine zG<|G O<|Y O<|zE O kC<|zH wN (J 0 O) O<|zV O el41<|qY O<|W<|zF O (fun c2=>?_) (fun c2=>?_)
  ·try simp only [sx] at c2
   obtain ⟨x,hx⟩:=qP e.Idx k (by omega)
   refine zJ<|zG<|zN<|G O<|zE O kC<|zH wN (J 0 O) O<|Y O<|zZ O el41 (by omega) (getm (by assumption))<|qQ O wD<|zH zAr zX O<|zV O el65<|qA O (yI O O O)<|W<|zF O (fun c3=>?_) (fun c3=>?_)
   ·refine G O<|Y O<|W<|zL<|zP O ?_
    exact congrArg vB (by rw [rankE,all_no hx (p:=rkIx) (by unfold rkIx;rw [c3];rfl)];simp)
   ·refine zJ<|zO O<|Y O<|qB O ⟨by omega,by omega⟩<|Y O<|W ?_
    refine ⟨k+1,⟨by omega,zNy hx hp (by unfold rkIx;rw [c3];rfl)⟩,(by omega),Weak.mk [true] ⟨U,U,T⟩ O⟩
  ·try simp only [sx] at c2
   refine qE<|G O<|Y O<|W<|zL<|zP O ?_
   exact congrArg vB (by rw [rankE,c1,all_end hp (by omega)];rfl)
theorem ref14_formed (e:Ex) (he:e.wt<=6000000000000) (hty:e.Op=1->tyOk e.Ty=true):
    Pur cfg 262 [vE e] (vB (formOk e)):=by
 refine zS Tryz.func262 O Tryz.ntmps262 Tryz.results262 O ?_
 intro z hz
 obtain ⟨hL,hI,hA⟩:=e.parts he
 refine G O<|zT O O (qI O O) ?_
 rintro _ _ ⟨b1,rfl,rfl⟩
 refine Y O<|W<|zG<|G O<|zE O yZ<|zH one3 (J 0 O) O<|yJ O<|Y O<|rL0 O (fun g1_3=>zD O zEy O) O<|rL1 9 O (fun g1_3=>zR O yF O (J 0 O) O) O<|rL0 O (fun g1_3=>zD O zHz O) O<|rL1 11 O (fun g1_3=>zR O agg35 O (J 0 O) O) O<|rLz [(10,_),(12,_)] O gv1 ⟨O,O,O,O,T⟩ (fun g1_3=>qG O ok295 (base_Val e.Ty e.Val (hty (by simp only [Lz,cond_true,cond_false,Bool.and_eq_true,Bool.or_eq_true,Bool.not_eq_true',Bool.not_eq_false',Bool.or_eq_false_iff,Bool.and_eq_false_iff,decide_eq_true_eq,decide_eq_false_iff_not,Bool.not_eq_true,Bool.not_eq_false] at g1_3;exact g1_3))) ⟨U,O,U,O,T⟩) O<|rL1 13 O (fun g1_3=>kS O O) O<|yY O (fun h=>h)<|Y O<|rL0 O (fun g1_11=>zD O zCv O) O<|rL1 17 O (fun g1_11=>zR O kG O (J 0 O) O) O<|rL1 18 O (fun g1_11=>qG O ok107 (zDh e.Lin hL) ⟨U,O,T⟩) O<|rL1 19 O (fun g1_11=>kS O O) O<|r_or O (fun h=>(lzf h))<|W<|zF O (fun c1=>?_) (fun c1=>?_)
 ·refine G O<|Y O<|W<|zL<|zP O ?_
  exact congrArg vB (form_no c1)
 ·refine zJ<|zG<|G O<|Y O<|W<|zN<|zU ⟨[(3,.c _),(1,.c _)],[_]⟩ (Weak.mk [true] ⟨U,U,T⟩ O)<|zY 1 0 O O (Nat) (fun k=>[(3,vI k)]) (fun k=>[]) (fun k=>k<=e.Idx.length/\((formsL e).all linOk=((e.Idx.drop k).flatMap fun x=>x.Lin::x.At).all linOk)) (fun k=>e.Idx.length-k) ⟨0,⟨by omega,form_start c1⟩,Weak.mk [true] ⟨U,U,T⟩ O⟩ ?_
  rintro k ⟨hk,hp⟩
  refine zG<|G O<|Y O<|zE O kC<|zH wN (J 0 O) O<|zV O el41<|qY O<|W<|zF O (fun c2=>?_) (fun c2=>?_)
  ·try simp only [sx] at c2
   obtain ⟨x,hx⟩:=qP e.Idx k (by omega)
   have hxw:=Ex.idx_wt (zW hx)
   refine zJ<|zG<|zN<|zG<|G O<|zE O kC<|zH wN (J 0 O) O<|Y O<|zZ O el41 (by omega) (getm (by assumption))<|qQ O zBh<|zK kG zX O<|qK O ok107 (zDh x.Lin (by omega)) ⟨U,O,T⟩<|wK O<|W<|zF O (fun c3=>?_) (fun c3=>?_)
   ·try simp only [sx] at c3
    refine G O<|Y O<|W<|zL<|zP O ?_
    exact congrArg vB (form_no2 hp (by rw [qL hx,List.flatMap_cons,List.all_append,List.all_cons,c3];rfl))
   ·try simp only [sx] at c3
    refine zJ<|G O<|Y O<|W<|zN<|zU ⟨[(4,.c _),(1,.c _),(3,.c _)],[_]⟩ (Weak.mk [true] ⟨U,U,U,T⟩ O)<|zY 1 0 O O (Nat) (fun j=>[(4,vI j)]) (fun j=>[]) (fun j=>j<=x.At.length/\(x.At.all linOk=(x.At.drop j).all linOk)) (fun j=>x.At.length-j) ⟨0,⟨by omega,O⟩,Weak.mk [true] ⟨U,U,U,T⟩ O⟩ ?_
    rintro j ⟨hj,hq⟩
    refine zG<|G O<|Y O<|zE O kC<|zH wN (J 0 O) O<|Y O<|zZ O el41 (by omega) (getm (by assumption))<|qQ O wD<|zH zAr zX O<|zV O el65<|qY O<|W<|zF O (fun c4=>?_) (fun c4=>?_)
    ·try simp only [sx] at c4
     obtain ⟨l,hl⟩:=qP x.At j (by omega)
     have hlw:=zBa (zW hl)
     refine zJ<|zG<|zN<|G O<|zE O kC<|zH wN (J 0 O) O<|Y O<|zZ O el41 (by omega) (getm (by assumption))<|qQ O wD<|zH zAr zX O<|Y O<|zZ O el65 (by omega) (getm (by assumption))<|zK kG zX O<|qK O ok107 (zDh l (by omega)) ⟨U,O,T⟩<|wK O<|W<|zF O (fun c5=>?_) (fun c5=>?_)
     ·try simp only [sx] at c5
      refine G O<|Y O<|W<|zL<|zP O ?_
      exact congrArg vB (form_no2 hp (by rw [qL hx,List.flatMap_cons,List.all_append,List.all_cons,all_no hl (p:=linOk) c5];simp))
     ·try simp only [sx] at c5
      refine zJ<|zO O<|Y O<|qB O ⟨by omega,by omega⟩<|Y O<|W ?_
      refine ⟨j+1,⟨by omega,zNy hl hq c5⟩,(by omega),Weak.mk [true] ⟨U,U,U,T⟩ O⟩
    ·try simp only [sx] at c4
     refine qE<|zO O<|Y O<|qB O ⟨by omega,by omega⟩<|Y O<|W ?_
     refine ⟨k+1,⟨by omega,(by rw [hp,qL hx,List.flatMap_cons,List.all_append,List.all_cons,c3,all_end hq (by omega)];rfl)⟩,(by omega),Weak.mk [true] ⟨U,U,T⟩ O⟩
  ·try simp only [sx] at c2
   refine qE<|G O<|Y O<|W<|zL<|zP O ?_
   exact congrArg vB (form_yes c1 (by rw [hp,kD (by omega)];rfl))
theorem zOz (e:Ex) (ih:∀a,a∈e.Args->a.wt<=6000000000000->Pur cfg 214 [vE a] (vI (partE a))) (he:e.wt<=6000000000000):
    Pur cfg 214 [vE e] (vI (partE e)):=by
 refine zS Tryz.func214 O Tryz.ntmps214 Tryz.results214 O ?_
 intro z hz
 obtain ⟨hL,hI,hA⟩:=e.parts he
 refine G O<|zT O O (qI O O) ?_
 rintro _ _ ⟨b1,rfl,rfl⟩
 refine Y O<|W<|zG<|zN<|G O<|zK qX (J 0 O) O<|qK O ok258 (ref14_plain e he) ⟨U,O,T⟩<|wK O<|Y O<|W<|zF O (fun c1=>?_) (fun c1=>?_)
 ·try simp only [sx] at c1
  refine G O<|Y O<|W<|zL<|zP O ?_
  exact congrArg vI (by rw [zEa,show nodeErr e=5 by simp only [nodeErr,c1];rfl];rfl)
 ·try simp only [sx] at c1
  refine G O<|zK qX (J 0 O) O<|qK O ok259 (ref14_named e he) ⟨U,O,T⟩<|wK O<|Y O<|W<|zF O (fun c2=>?_) (fun c2=>?_)
  ·try simp only [sx] at c2
   refine G O<|Y O<|W<|zL<|zP O ?_
   exact congrArg vI (by rw [zEa,show nodeErr e=7 by simp only [nodeErr,c1,c2];rfl];rfl)
  ·try simp only [sx] at c2
   refine G O<|zK qX (J 0 O) O<|qK O ok260 (ref14_ranked e he) ⟨U,O,T⟩<|wK O<|Y O<|W<|zF O (fun c3=>?_) (fun c3=>?_)
   ·try simp only [sx] at c3
    refine G O<|Y O<|W<|zL<|zP O ?_
    exact congrArg vI (by rw [zEa,show nodeErr e=11 by simp only [nodeErr,c1,c2,c3];rfl];rfl)
   ·try simp only [sx] at c3
    refine G O<|zK qX (J 0 O) O<|qK O ok261 (ref14_typed e he) ⟨U,O,T⟩<|wK O<|Y O<|W<|zF O (fun c4=>?_) (fun c4=>?_)
    ·try simp only [sx] at c4
     refine G O<|Y O<|W<|zL<|zP O ?_
     exact congrArg vI (by rw [zEa,show nodeErr e=10 by simp only [nodeErr,c1,c2,c3,c4];rfl];rfl)
    ·try simp only [sx] at c4
     refine G O<|zK qX (J 0 O) O<|qK O ok262 (ref14_formed e he (types_ty c4)) ⟨U,O,T⟩<|wK O<|Y O<|W<|zF O (fun c5=>?_) (fun c5=>?_)
     ·try simp only [sx] at c5
      refine G O<|Y O<|W<|zL<|zP O ?_
      exact congrArg vI (by rw [zEa,show nodeErr e=1 by simp only [nodeErr,c1,c2,c3,c4,c5];rfl];rfl)
     ·try simp only [sx] at c5
      have hn:nodeErr e=0:=by simp only [nodeErr,c1,c2,c3,c4,c5];rfl
      refine zJ<|zG<|G O<|Y O<|W<|zN<|zU ⟨[(3,.c _),(1,.c _)],[_]⟩ (Weak.mk [true] ⟨U,U,T⟩ O)<|zY 1 0 O O (Nat) (fun k=>[(3,vI k)]) (fun k=>[]) (fun k=>k<=e.Args.length/\(partL e.Args=partL (e.Args.drop k))) (fun k=>e.Args.length-k) ⟨0,⟨by omega,O⟩,Weak.mk [true] ⟨U,U,T⟩ O⟩ ?_
      rintro k ⟨hk,hp⟩
      refine zG<|G O<|Y O<|zE O kE<|zH wR (J 0 O) O<|zV O el42<|qY O<|W<|zF O (fun c6=>?_) (fun c6=>?_)
      ·try simp only [sx] at c6
       obtain ⟨a,ha⟩:=qP e.Args k (by omega)
       refine zJ<|zG<|zN<|G O<|zE O kE<|zH wR (J 0 O) O<|Y O<|zZ O el42 (by omega) (zBj (by assumption))<|zK qX zX O<|qK O ok214 (ih a (zW ha) (by have:=Ex.arg_wt (zW ha);omega)) ⟨U,O,T⟩<|Y O<|W<|G O<|Y O<|yP O<|W<|zF O (fun c7=>?_) (fun c7=>?_)
       ·try simp only [sx] at c7
        refine G O<|Y O<|Y O<|W<|zL<|zP O ?_
        exact congrArg vI (by rw [zEa e,hn,kU rfl,cond_true,hp,qL ha,zLe,yA c7];rfl)
       ·try simp only [sx] at c7
        refine zJ<|zO O<|Y O<|qB O ⟨by omega,by omega⟩<|Y O<|W ?_
        refine ⟨k+1,⟨by omega,(by rw [hp,qL ha,zLe,kU c7];rfl)⟩,(by omega),Weak.mk [true] ⟨U,U,T⟩ O⟩
      ·try simp only [sx] at c6
       refine qE<|G O<|Y O<|W<|zL<|zP O ?_
       exact congrArg vI (by rw [zEa,hn,kU rfl,cond_true,hp,kD (by omega)];rfl)
theorem ref14_part (e:Ex) (he:e.wt<=6000000000000):Pur cfg 214 [vE e] (vI (partE e)):=by
  induction e using Ex.ind with
  |_ e ih=>exact zOz e ih he
theorem zGp (n:Nat) (ih:n≠0->∀(a:Ex) (l:Int),a.wt<=6000000000000->l=n->Pur cfg 220 [vE a,vI l] (vI (depT (n-1) a))) (hn:n<=100) (e:Ex) (l:Int) (he:e.wt<=6000000000000) (hl:l=n+1):
    Pur cfg 220 [vE e,vI l] (vI (depT n e)):=by
 refine zS Tryz.func220 O Tryz.ntmps220 Tryz.results220 O ?_
 intro z hz
 obtain ⟨hL,hI,hA⟩:=e.parts he
 refine G O<|zT O O (qI O O) ?_
 rintro _ _ ⟨b1,rfl,rfl⟩
 refine Y O<|W<|zG<|G O<|Y O<|qA O (kT O O O)<|W<|zF O (fun c1=>?_) (fun c1=>?_)
 ·try simp only [sx] at c1
  obtain rfl:n=0:=by omega
  refine G O<|Y O<|Y O<|W<|zL<|zP O ?_
  exact congrArg vI (by rw [hl];rfl)
 ·try simp only [sx] at c1
  obtain ⟨m,rfl⟩:∃m,n=m+1:=⟨n-1,by omega⟩
  refine zJ<|G O<|Y O<|W<|zG<|G O<|zE O kE<|zH wR (J 0 O) O<|zV O el42<|Y O<|W<|zN<|zU ⟨[(14,.c _),(5,.c _),(1,.c _),(12,.c _),(13,.c _)],[]⟩ (Weak.mk [false] ⟨U,U,U,U,U,T⟩ O)<|zY 2 0 O O (Nat×Int) (fun ⟨k,d⟩=>[(14,vI k),(5,vI d)]) (fun ⟨k,d⟩=>[]) (fun ⟨k,d⟩=>k<=e.Args.length/\(1<=d)/\(d<=m+2)/\(depT (m+1) e=depF (depT m) d (e.Args.drop k))) (fun ⟨k,d⟩=>e.Args.length-k) ⟨⟨0,1⟩,⟨by omega,by omega,by omega,O⟩,Weak.mk [] ⟨U,VLe.of_eq (O),U,U,U,T⟩ O⟩ ?_
  rintro ⟨k,d⟩ ⟨hk,hd1,hd2,hd3⟩
  show AWP _ _ _ _ _ ⟨[(14,vI k),(5,vI d)]++_,[]++_⟩
  refine G O<|qY O<|W<|zG<|zF O (fun c2=>?_) (fun c2=>?_)
  ·try simp only [sx] at c2
   obtain ⟨a,ha⟩:=qP e.Args k (by omega)
   have hda:=depT_le m a
   refine zJ<|zG<|zN<|G O<|zZ O el42 (by omega) (zBj (by assumption))<|zK qX zX O<|zT O O (qD [none,none,none,none,none,none,none,none,none,none,some 2,some 4,some 13] O zr44 O) ?_
   rintro _ _ ⟨b2,rfl,rfl⟩
   refine N 0 sz44 O<|W<|zO O<|Y O<|zK qX (J 0 O) O<|Y O<|qA O (zAe O O O ⟨by omega,by omega⟩)<|qK O ok220 (show Pur cfg 220 [vE a,vI (l-1)] (vI (depT m a)) from ih (by omega) a _ (by have:=Ex.arg_wt (zW ha);omega) (by omega)) ⟨U,O,U,O,T⟩<|qB O ⟨by omega,by omega⟩<|qA O (det_max O O O)<|Y O<|W<|zO O<|qB O ⟨by omega,by omega⟩<|Y O<|W ?_
   refine ⟨⟨k+1,max d (1+depT m a)⟩,⟨by omega,by omega,by omega,by rw [hd3,qL ha,depF]⟩,(by show e.Args.length-(k+1)<e.Args.length-k;omega),Weak.mk [false] ⟨U,U,U,U,U,T⟩ O⟩
  ·try simp only [sx] at c2
   refine qE<|G O<|Y O<|Y O<|W<|zL<|zP O ?_
   exact congrArg vI (by rw [hd3,kD (by omega)];rfl)
theorem expr_depth (n:Nat) (e:Ex) (l:Int) (hn:n<=100) (he:e.wt<=6000000000000) (hl:l=n+1):Pur cfg 220 [vE e,vI l] (vI (depT n e)):=by
  induction n generalizing e l with
  |zero=>exact zGp 0 (fun h=>absurd rfl h) hn e l he hl
  |succ n ih=>exact zGp (n+1) (fun _ a l h1 h2=>ih a l (by omega) h1 (by omega)) hn e l he hl
theorem zFr (n:Nat) (ih:n≠0->∀(a:Ex) (l:Int),a.wt<=6000000000000->l=n->Pur cfg 257 [vE a,vI l] (vI (depT (n-1) a))) (hn:n<=100) (e:Ex) (l:Int) (he:e.wt<=6000000000000) (hl:l=n+1):
    Pur cfg 257 [vE e,vI l] (vI (depT n e)):=by
 refine zS Tryz.func257 O Tryz.ntmps257 Tryz.results257 O ?_
 intro z hz
 obtain ⟨hL,hI,hA⟩:=e.parts he
 refine G O<|zT O O (qI O O) ?_
 rintro _ _ ⟨b1,rfl,rfl⟩
 refine Y O<|W<|G O<|Y O<|W<|zG<|G O<|Y O<|W<|zN<|zU ⟨[(6,.c _),(5,.c _),(1,.c _),(2,.c _)],[_]⟩ (Weak.mk [true] ⟨U,U,U,U,T⟩ O)<|zY 2 0 O O (Nat×Int) (fun ⟨k,d⟩=>[(6,vI k),(5,vI d)]) (fun ⟨k,d⟩=>[]) (fun ⟨k,d⟩=>k<=e.Args.length/\(1<=d)/\(d<=n+1)/\(n≠0->depT n e=depF (depT (n-1)) d (e.Args.drop k))/\(n=0->d=1)) (fun ⟨k,d⟩=>e.Args.length-k) ⟨⟨0,1⟩,⟨by omega,by omega,by omega,fun h0=>dep_start h0,fun _=>O⟩,Weak.mk [true] ⟨U,VLe.of_eq (O),U,U,T⟩ O⟩ ?_
 rintro ⟨k,d⟩ ⟨hk,hd1,hd2,hd3,hd4⟩
 show AWP _ _ _ _ _ ⟨[(6,vI k),(5,vI d)]++_,[]++_⟩
 refine zG<|G O<|Y O<|zE O kE<|zH wR (J 0 O) O<|zV O el42<|qY O<|Y O<|rL0 O (fun g3_5=>zQ O O) O<|rL1 13 O (fun g3_5=>yI O O O) O<|yY O (fun h=>h)<|W<|zF O (fun c1=>?_) (fun c1=>?_)
 ·try simp only [sx] at c1
  obtain ⟨a,ha⟩:=qP e.Args k (by omega)
  have hda:=depT_le (n-1) a
  refine zJ<|zG<|zN<|zO O<|Y O<|zE O kE<|zH wR (J 0 O) O<|Y O<|zZ O el42 (by omega) (zBj (by assumption))<|zK qX zX O<|Y O<|qA O (zAe O O O ⟨by omega,by omega⟩)<|qK O ok257 (ih (by omega) a _ (by have:=Ex.arg_wt (zW ha);omega) (by omega)) ⟨U,O,U,O,T⟩<|qB O ⟨by omega,by omega⟩<|qA O (det_max O O O)<|Y O<|W<|zO O<|Y O<|qB O ⟨by omega,by omega⟩<|Y O<|W ?_
  refine ⟨⟨k+1,max d (1+depT (n-1) a)⟩,⟨by omega,by omega,by omega,fun h0=>by rw [hd3 h0,qL ha,depF],fun h0=>by omega⟩,(by show e.Args.length-(k+1)<e.Args.length-k;omega),Weak.mk [true] ⟨U,U,U,U,T⟩ O⟩
 ·try simp only [sx] at c1
  refine qE<|G O<|Y O<|Y O<|W<|zL<|zP O ?_
  exact congrArg vI (dep_end hl (by omega) hd3 hd4)
theorem ref14_depth (n:Nat) (e:Ex) (l:Int) (hn:n<=100) (he:e.wt<=6000000000000) (hl:l=n+1):Pur cfg 257 [vE e,vI l] (vI (depT n e)):=by
  induction n generalizing e l with
  |zero=>exact zFr 0 (fun h=>absurd rfl h) hn e l he hl
  |succ n ih=>exact zFr (n+1) (fun _ a l h1 h2=>ih a l (by omega) h1 (by omega)) hn e l he hl
theorem expr_Depth (e:Ex) (he:e.wt<=6000000000000):
    Pur cfg 166 [vE e] (vI (depT 40 e)):=by
 refine zS Tryz.func166 O Tryz.ntmps166 Tryz.results166 O ?_
 intro z hz
 refine G O<|zT O O (qI O O) ?_
 rintro _ _ ⟨b1,rfl,rfl⟩
 refine Y O<|W<|G O<|zK qX (J 0 O) O<|qK O ok220 (expr_depth 40 e 41 (by omega) he (by omega)) ⟨U,O,U,O,T⟩<|Y O<|W<|zL<|zP O ?_
 exact O
theorem ref14_Depth (e:Ex) (he:e.wt<=6000000000000):
    Pur cfg 213 [vE e] (vI (depT 40 e)):=by
 refine zS Tryz.func213 O Tryz.ntmps213 Tryz.results213 O ?_
 intro z hz
 refine G O<|zT O O (qI O O) ?_
 rintro _ _ ⟨b1,rfl,rfl⟩
 refine Y O<|W<|G O<|zK qX (J 0 O) O<|qK O ok257 (ref14_depth 40 e 41 (by omega) he (by omega)) ⟨U,O,U,O,T⟩<|Y O<|W<|zL<|zP O ?_
 exact O
theorem zOy (e:Ex) (ih:∀a,a∈e.Args->∀(m:Nat) (l:Int),a.wt<=6000000000000->m<=1000000->l=m->Pur cfg 93 [vE a,vI l] (vI (sizE a m))) (m:Nat) (l:Int) (he:e.wt<=6000000000000) (hm:m<=1000000) (hl:l=m):
    Pur cfg 93 [vE e,vI l] (vI (sizE e m)):=by
 refine zS Tryz.func93 O Tryz.ntmps93 Tryz.results93 O ?_
 intro z hz
 obtain ⟨hL,hI,hA⟩:=e.parts he
 refine G O<|zT O O (qI O O) ?_
 rintro _ _ ⟨b1,rfl,rfl⟩
 refine Y O<|W<|G O<|Y O<|W<|zG<|G O<|Y O<|W<|zN<|zU ⟨[(6,.c _),(5,.c _),(1,.c _),(2,.c _)],[_]⟩ (Weak.mk [true] ⟨U,U,U,U,T⟩ O)<|zY 2 0 O O (Nat×Nat) (fun ⟨k,n⟩=>[(6,vI k),(5,vI n)]) (fun ⟨k,n⟩=>[]) (fun ⟨k,n⟩=>k<=e.Args.length/\(n<=m+1)/\(sizE e m=sizL (e.Args.drop k) m n)) (fun ⟨k,n⟩=>e.Args.length-k) ⟨⟨0,1⟩,⟨by omega,by omega,sizE_eq e m⟩,Weak.mk [true] ⟨U,VLe.of_eq (O),U,U,T⟩ O⟩ ?_
 rintro ⟨k,n⟩ ⟨hk,hn1,hn2⟩
 show AWP _ _ _ _ _ ⟨[(6,vI k),(5,vI n)]++_,[]++_⟩
 refine zG<|G O<|Y O<|zE O kE<|zH wR (J 0 O) O<|zV O el42<|qY O<|Y O<|rL0 O (fun g3_5=>zQ O O) O<|rL0 O (fun g3_5=>zQ O O) O<|rLz [(13,_),(14,_)] O gv1 ⟨O,O,O,O,T⟩ (fun g3_5=>kT O O O) O<|yY O (fun h=>h)<|W<|zF O (fun c1=>?_) (fun c1=>?_)
 ·try simp only [sx] at c1
  obtain ⟨a,ha⟩:=qP e.Args k (by omega)
  have hsa:=sizE_min a (m-n)
  refine zJ<|zG<|zN<|zO O<|Y O<|zE O kE<|zH wR (J 0 O) O<|Y O<|zZ O el42 (by omega) (zBj (by assumption))<|zK qX zX O<|Y O<|Y O<|qA O (zAe O O O ⟨by omega,by omega⟩)<|qK O ok93 (ih a (zW ha) (m-n) _ (by have:=Ex.arg_wt (zW ha);omega) (by omega) (by omega)) ⟨U,O,U,O,T⟩<|qB O ⟨by omega,by omega⟩<|Y O<|W<|zO O<|Y O<|qB O ⟨by omega,by omega⟩<|Y O<|W ?_
  refine ⟨⟨k+1,n+sizE a (m-n)⟩,⟨by omega,by omega,by rw [hn2,qL ha,sizL,if_pos (by omega)]⟩,(by show e.Args.length-(k+1)<e.Args.length-k;omega),Weak.mk [true] ⟨U,VLe.of_eq (congrArg vI (by omega)),U,U,T⟩ O⟩
 ·try simp only [sx] at c1
  refine qE<|G O<|Y O<|Y O<|W<|zL<|zP O ?_
  exact congrArg vI (by rw [hn2];exact congrArg Nat.cast (siz_end hl (by omega)))
theorem ref14_size (e:Ex) (m:Nat) (l:Int) (he:e.wt<=6000000000000) (hm:m<=1000000) (hl:l=m):Pur cfg 93 [vE e,vI l] (vI (sizE e m)):=by
  induction e using Ex.ind generalizing m l with
  |_ e ih=>exact zOy e (fun a ha m l h1 h2 h3=>ih a ha m l h1 h2 h3) m l he hm hl
theorem zLb (e:Ex) (he:e.wt<=6000000000000):
    Pur cfg 40 [vE e] (vI (szT e)):=by
 refine zS Tryz.func40 O Tryz.ntmps40 Tryz.results40 O ?_
 intro z hz
 refine G O<|zT O O (qI O O) ?_
 rintro _ _ ⟨b1,rfl,rfl⟩
 refine Y O<|W<|G O<|zK qX (J 0 O) O<|qK O ok93 (ref14_size e 2000 2000 he (by omega) O) ⟨U,O,U,O,T⟩<|qA O (det_min O O O)<|Y O<|W<|zL<|zP O ?_
 exact congrArg vI (by rw [sizE_min,szT];omega)
theorem ref14_Validate (e:Ex) (he:e.wt<=6000000000000):
    Pur cfg 160 [vE e] (vI (validE e)):=by
 refine zS Tryz.func160 O Tryz.ntmps160 Tryz.results160 O ?_
 intro z hz
 refine G O<|zT O O (qI O O) ?_
 rintro _ _ ⟨b1,rfl,rfl⟩
 refine Y O<|W<|zG<|G O<|zK qX (J 0 O) O<|qK O ok213 (ref14_Depth e he) ⟨U,O,T⟩<|qA O (yI O O O)<|W<|zF O (fun c1=>?_) (fun c1=>?_)
 ·try simp only [sx] at c1
  refine G O<|Y O<|W<|zL<|zP O ?_
  rw [validE,kU c1];rfl
 ·try simp only [sx] at c1
  refine zJ<|zG<|G O<|zK qX (J 0 O) O<|qK O ok40 (zLb e he) ⟨U,O,T⟩<|qA O (yI O O O)<|W<|zF O (fun c2=>?_) (fun c2=>?_)
  ·try simp only [sx] at c2
   refine G O<|Y O<|W<|zL<|zP O ?_
   rw [validE,yA (by omega),kU c2];rfl
  ·try simp only [sx] at c2
   refine zJ<|G O<|zK qX (J 0 O) O<|qK O ok214 (ref14_part e he) ⟨U,O,T⟩<|Y O<|W<|zL<|zP O ?_
   rw [validE,yA (by omega),yA (by omega)];rfl
end Go.W
