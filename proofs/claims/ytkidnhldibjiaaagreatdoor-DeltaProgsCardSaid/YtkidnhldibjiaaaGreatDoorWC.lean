/-
  What functions compute.
  Conditions: none.
-/
import Derived.Test.YtkidnhldibjiaaaGreatDoorWB
set_option linter.unusedSimpArgs false
set_option linter.unusedVariables false
set_option maxRecDepth 10000
namespace Go.W
open Go Go.Eng Go.Proofs Go.L41 Go.Br
attribute [local irreducible] AWP RWP TD fL
theorem yG:mY Tryz.prog 44=some 13:=by kernel_rfl
theorem el42:dM Tryz.prog 42=some (44,13,160):=by kernel_rfl
theorem el65:dM Tryz.prog 65=some (40,2,32):=by kernel_rfl
theorem kE:bM Tryz.prog 44 0=some (0,3):=by kernel_rfl
theorem zJi:bM Tryz.prog 44 1=some (1,9):=by kernel_rfl
theorem zHe:bM Tryz.prog 44 2=some (2,35):=by kernel_rfl
theorem zCw:bM Tryz.prog 44 3=some (4,37):=by kernel_rfl
theorem zBk:bM Tryz.prog 44 4=some (9,40):=by kernel_rfl
theorem kM:bM Tryz.prog 44 5=some (11,41):=by kernel_rfl
theorem kO:bM Tryz.prog 44 6=some (12,42):=by kernel_rfl
theorem zCp:bM Tryz.prog 115 0=some (0,40):=by kernel_rfl
theorem zCe:bM Tryz.prog 115 1=some (2,9):=by kernel_rfl
theorem wI:bM Tryz.prog 115 2=some (3,65):=by kernel_rfl
theorem fl35:rF Tryz.prog 35=some [.int,.int]:=by kernel_rfl
theorem ok40:bA Tryz.prog 40=true:=by kernel_rfl
theorem ok93:bA Tryz.prog 93=true:=by kernel_rfl
theorem ok107:bA Tryz.prog 107=true:=by kernel_rfl
theorem ok138:bA Tryz.prog 138=true:=by kernel_rfl
theorem ok155:bA Tryz.prog 155=true:=by kernel_rfl
theorem ok161:bA Tryz.prog 161=true:=by kernel_rfl
theorem ok213:bA Tryz.prog 213=true:=by kernel_rfl
theorem ok214:bA Tryz.prog 214=true:=by kernel_rfl
theorem ok220:bA Tryz.prog 220=true:=by kernel_rfl
theorem ok257:bA Tryz.prog 257=true:=by kernel_rfl
theorem ok258:bA Tryz.prog 258=true:=by kernel_rfl
theorem ok259:bA Tryz.prog 259=true:=by kernel_rfl
theorem ok260:bA Tryz.prog 260=true:=by kernel_rfl
theorem ok261:bA Tryz.prog 261=true:=by kernel_rfl
theorem ok262:bA Tryz.prog 262=true:=by kernel_rfl
theorem ok265:bA Tryz.prog 265=true:=by kernel_rfl
theorem ok266:bA Tryz.prog 266=true:=by kernel_rfl
theorem ok267:bA Tryz.prog 267=true:=by kernel_rfl
theorem ok268:bA Tryz.prog 268=true:=by kernel_rfl
theorem ok269:bA Tryz.prog 269=true:=by kernel_rfl
theorem ok270:bA Tryz.prog 270=true:=by kernel_rfl
theorem ok271:bA Tryz.prog 271=true:=by kernel_rfl
theorem ok272:bA Tryz.prog 272=true:=by kernel_rfl
theorem ok293:bA Tryz.prog 293=true:=by kernel_rfl
theorem ok294:bA Tryz.prog 294=true:=by kernel_rfl
theorem ok295:bA Tryz.prog 295=true:=by kernel_rfl
theorem zAh:lS Tryz.prog 41=true:=by kernel_rfl
theorem zAj:lS Tryz.prog 42=true:=by kernel_rfl
theorem zAp:lS Tryz.prog 65=true:=by kernel_rfl
theorem sz44:(Tryz.prog.info? 44).map (·.size)=some 13:=by kernel_rfl
theorem zQb:(Tryz.prog.info? 115).map (·.size)=some 4:=by kernel_rfl
theorem un4:Tryz.prog.underlying 4=some .bool:=by kernel_rfl
theorem zr44:fD Tryz.prog 44=some [(Value.int IntKind.i64 0),(Value.string (ByteArray.mk #[])),(Value.int IntKind.i64 0),(Value.int IntKind.i64 0),(Value.int IntKind.i64 0),(Value.int IntKind.i64 0),(Value.int IntKind.i64 0),(Value.int IntKind.i64 0),(Value.int IntKind.i64 0),(Value.int IntKind.i64 0),(Value.slice none 0 0),(Value.slice none 0 0),(Value.slice none 0 0)]:=by kernel_rfl
theorem zJa:fD Tryz.prog 115=some [(Value.int IntKind.i64 0),(Value.slice none 0 0),(Value.string (ByteArray.mk #[])),(Value.slice none 0 0)]:=by kernel_rfl
theorem expr_operands (op:Int):
    Pur cfg 270 [vI op] (vI (bN op)):=by
 refine zW Tryz.func270 O Tryz.ntmps270 Tryz.results270 O ?_
 intro z hz
 refine Y O<|G O<|W<|zM<|Y O<|G O<|W<|zR<|zM<|Y O<|yK O<|G O<|W<|zH O (fun c1=>?_) (fun c1=>?_)
 ·try simp only [sx] at c1
  refine zN<|zH O (fun c3=>?_) (fun c3=>?_)
  ·try simp only [sx] at c3
   refine Y O<|G O<|W<|zO<|zV O ?_
   exact congrArg vI (by unfold bN;(repeat' split)<;>omega)
  ·try simp only [sx] at c3
   refine zM<|Y O<|yK O<|G O<|W<|zH O (fun c4=>?_) (fun c4=>?_)
   ·try simp only [sx] at c4
    refine zN<|zH O (fun c6=>?_) (fun c6=>?_)
    ·try simp only [sx] at c6
     refine Y O<|G O<|W<|zO<|zV O ?_
     exact congrArg vI (by unfold bN;(repeat' split)<;>omega)
    ·try simp only [sx] at c6
     refine Y O<|yK O<|G O<|W<|zH O (fun c7=>?_) (fun c7=>?_)
     ·try simp only [sx] at c7
      refine Y O<|G O<|W<|zO<|zV O ?_
      exact congrArg vI (by unfold bN;(repeat' split)<;>omega)
     ·try simp only [sx] at c7
      refine zN<|Y O<|G O<|W<|zO<|zV O ?_
      exact congrArg vI (by unfold bN;(repeat' split)<;>omega)
   ·try simp only [sx] at c4
    refine Y O<|yK O<|G O<|W<|zH O (fun c5=>?_) (fun c5=>?_)
    ·try simp only [sx] at c5
     refine zN<|zH O (fun c6=>?_) (fun c6=>?_)
     ·try simp only [sx] at c6
      refine Y O<|G O<|W<|zO<|zV O ?_
      exact congrArg vI (by unfold bN;(repeat' split)<;>omega)
     ·try simp only [sx] at c6
      refine Y O<|yK O<|G O<|W<|zH O (fun c7=>?_) (fun c7=>?_)
      ·try simp only [sx] at c7
       refine Y O<|G O<|W<|zO<|zV O ?_
       exact congrArg vI (by unfold bN;(repeat' split)<;>omega)
      ·try simp only [sx] at c7
       refine zN<|Y O<|G O<|W<|zO<|zV O ?_
       exact congrArg vI (by unfold bN;(repeat' split)<;>omega)
    ·try simp only [sx] at c5
     refine zT O<|yK O<|G O<|W<|zH O (fun c6=>?_) (fun c6=>?_)
     ·try simp only [sx] at c6
      refine Y O<|G O<|W<|zO<|zV O ?_
      exact congrArg vI (by unfold bN;(repeat' split)<;>omega)
     ·try simp only [sx] at c6
      refine Y O<|yK O<|G O<|W<|zH O (fun c7=>?_) (fun c7=>?_)
      ·try simp only [sx] at c7
       refine Y O<|G O<|W<|zO<|zV O ?_
       exact congrArg vI (by unfold bN;(repeat' split)<;>omega)
      ·try simp only [sx] at c7
       refine zN<|Y O<|G O<|W<|zO<|zV O ?_
       exact congrArg vI (by unfold bN;(repeat' split)<;>omega)
 ·try simp only [sx] at c1
  refine Y O<|yK O<|G O<|W<|zH O (fun c2=>?_) (fun c2=>?_)
  ·try simp only [sx] at c2
   refine zN<|zH O (fun c3=>?_) (fun c3=>?_)
   ·try simp only [sx] at c3
    refine Y O<|G O<|W<|zO<|zV O ?_
    exact congrArg vI (by unfold bN;(repeat' split)<;>omega)
   ·try simp only [sx] at c3
    refine zM<|Y O<|yK O<|G O<|W<|zH O (fun c4=>?_) (fun c4=>?_)
    ·try simp only [sx] at c4
     refine zN<|zH O (fun c6=>?_) (fun c6=>?_)
     ·try simp only [sx] at c6
      refine Y O<|G O<|W<|zO<|zV O ?_
      exact congrArg vI (by unfold bN;(repeat' split)<;>omega)
     ·try simp only [sx] at c6
      refine Y O<|yK O<|G O<|W<|zH O (fun c7=>?_) (fun c7=>?_)
      ·try simp only [sx] at c7
       refine Y O<|G O<|W<|zO<|zV O ?_
       exact congrArg vI (by unfold bN;(repeat' split)<;>omega)
      ·try simp only [sx] at c7
       refine zN<|Y O<|G O<|W<|zO<|zV O ?_
       exact congrArg vI (by unfold bN;(repeat' split)<;>omega)
    ·try simp only [sx] at c4
     refine Y O<|yK O<|G O<|W<|zH O (fun c5=>?_) (fun c5=>?_)
     ·try simp only [sx] at c5
      refine zN<|zH O (fun c6=>?_) (fun c6=>?_)
      ·try simp only [sx] at c6
       refine Y O<|G O<|W<|zO<|zV O ?_
       exact congrArg vI (by unfold bN;(repeat' split)<;>omega)
      ·try simp only [sx] at c6
       refine Y O<|yK O<|G O<|W<|zH O (fun c7=>?_) (fun c7=>?_)
       ·try simp only [sx] at c7
        refine Y O<|G O<|W<|zO<|zV O ?_
        exact congrArg vI (by unfold bN;(repeat' split)<;>omega)
       ·try simp only [sx] at c7
        refine zN<|Y O<|G O<|W<|zO<|zV O ?_
        exact congrArg vI (by unfold bN;(repeat' split)<;>omega)
     ·try simp only [sx] at c5
      refine zT O<|yK O<|G O<|W<|zH O (fun c6=>?_) (fun c6=>?_)
      ·try simp only [sx] at c6
       refine Y O<|G O<|W<|zO<|zV O ?_
       exact congrArg vI (by unfold bN;(repeat' split)<;>omega)
      ·try simp only [sx] at c6
       refine Y O<|yK O<|G O<|W<|zH O (fun c7=>?_) (fun c7=>?_)
       ·try simp only [sx] at c7
        refine Y O<|G O<|W<|zO<|zV O ?_
        exact congrArg vI (by unfold bN;(repeat' split)<;>omega)
       ·try simp only [sx] at c7
        refine zN<|Y O<|G O<|W<|zO<|zV O ?_
        exact congrArg vI (by unfold bN;(repeat' split)<;>omega)
  ·try simp only [sx] at c2
   refine zT O<|yK O<|G O<|W<|zH O (fun c3=>?_) (fun c3=>?_)
   ·try simp only [sx] at c3
    refine Y O<|G O<|W<|zO<|zV O ?_
    exact congrArg vI (by unfold bN;(repeat' split)<;>omega)
   ·try simp only [sx] at c3
    refine zM<|Y O<|yK O<|G O<|W<|zH O (fun c4=>?_) (fun c4=>?_)
    ·try simp only [sx] at c4
     refine zN<|zH O (fun c6=>?_) (fun c6=>?_)
     ·try simp only [sx] at c6
      refine Y O<|G O<|W<|zO<|zV O ?_
      exact congrArg vI (by unfold bN;(repeat' split)<;>omega)
     ·try simp only [sx] at c6
      refine Y O<|yK O<|G O<|W<|zH O (fun c7=>?_) (fun c7=>?_)
      ·try simp only [sx] at c7
       refine Y O<|G O<|W<|zO<|zV O ?_
       exact congrArg vI (by unfold bN;(repeat' split)<;>omega)
      ·try simp only [sx] at c7
       refine zN<|Y O<|G O<|W<|zO<|zV O ?_
       exact congrArg vI (by unfold bN;(repeat' split)<;>omega)
    ·try simp only [sx] at c4
     refine Y O<|yK O<|G O<|W<|zH O (fun c5=>?_) (fun c5=>?_)
     ·try simp only [sx] at c5
      refine zN<|zH O (fun c6=>?_) (fun c6=>?_)
      ·try simp only [sx] at c6
       refine Y O<|G O<|W<|zO<|zV O ?_
       exact congrArg vI (by unfold bN;(repeat' split)<;>omega)
      ·try simp only [sx] at c6
       refine Y O<|yK O<|G O<|W<|zH O (fun c7=>?_) (fun c7=>?_)
       ·try simp only [sx] at c7
        refine Y O<|G O<|W<|zO<|zV O ?_
        exact congrArg vI (by unfold bN;(repeat' split)<;>omega)
       ·try simp only [sx] at c7
        refine zN<|Y O<|G O<|W<|zO<|zV O ?_
        exact congrArg vI (by unfold bN;(repeat' split)<;>omega)
     ·try simp only [sx] at c5
      refine zT O<|yK O<|G O<|W<|zH O (fun c6=>?_) (fun c6=>?_)
      ·try simp only [sx] at c6
       refine Y O<|G O<|W<|zO<|zV O ?_
       exact congrArg vI (by unfold bN;(repeat' split)<;>omega)
      ·try simp only [sx] at c6
       refine Y O<|yK O<|G O<|W<|zH O (fun c7=>?_) (fun c7=>?_)
       ·try simp only [sx] at c7
        refine Y O<|G O<|W<|zO<|zV O ?_
        exact congrArg vI (by unfold bN;(repeat' split)<;>omega)
       ·try simp only [sx] at c7
        refine zN<|Y O<|G O<|W<|zO<|zV O ?_
        exact congrArg vI (by unfold bN;(repeat' split)<;>omega)
theorem zHf (e:Ex):
    Pur cfg 155 [vE e] (vB (gE e)):=by
 refine zW Tryz.func155 O Tryz.ntmps155 Tryz.results155 O ?_
 intro z hz
 refine Y O<|zY O O (qN O O) ?_
 rintro _ _ ⟨b1,rfl,rfl⟩
 refine G O<|W<|Y O<|zF O kE<|zK one3 (J 0 O) O<|qA O (wU O O O)<|G O<|rL0 O (fun g1_3=>zE O kE O) O<|rL1 7 O (fun g1_3=>zJ O one3 O (J 0 O) O) O<|rL1 8 O (fun g1_3=>wU O O O) O<|yZ O (fun h=>h)<|G O<|W<|zO<|zV O ?_
 exact O
theorem zNr (op:Int):
    Pur cfg 293 [vI op] (vI (bN op)):=by
 refine zW Tryz.func293 O Tryz.ntmps293 Tryz.results293 O ?_
 intro z hz
 refine Y O<|G O<|W<|zM<|Y O<|G O<|W<|zR<|zM<|Y O<|yK O<|G O<|W<|zH O (fun c1=>?_) (fun c1=>?_)
 ·try simp only [sx] at c1
  refine zN<|zH O (fun c3=>?_) (fun c3=>?_)
  ·try simp only [sx] at c3
   refine Y O<|G O<|W<|zO<|zV O ?_
   exact congrArg vI (by unfold bN;(repeat' split)<;>omega)
  ·try simp only [sx] at c3
   refine zM<|Y O<|yK O<|G O<|W<|zH O (fun c4=>?_) (fun c4=>?_)
   ·try simp only [sx] at c4
    refine zN<|zH O (fun c6=>?_) (fun c6=>?_)
    ·try simp only [sx] at c6
     refine Y O<|G O<|W<|zO<|zV O ?_
     exact congrArg vI (by unfold bN;(repeat' split)<;>omega)
    ·try simp only [sx] at c6
     refine Y O<|yK O<|G O<|W<|zH O (fun c7=>?_) (fun c7=>?_)
     ·try simp only [sx] at c7
      refine Y O<|G O<|W<|zO<|zV O ?_
      exact congrArg vI (by unfold bN;(repeat' split)<;>omega)
     ·try simp only [sx] at c7
      refine zN<|Y O<|G O<|W<|zO<|zV O ?_
      exact congrArg vI (by unfold bN;(repeat' split)<;>omega)
   ·try simp only [sx] at c4
    refine Y O<|yK O<|G O<|W<|zH O (fun c5=>?_) (fun c5=>?_)
    ·try simp only [sx] at c5
     refine zN<|zH O (fun c6=>?_) (fun c6=>?_)
     ·try simp only [sx] at c6
      refine Y O<|G O<|W<|zO<|zV O ?_
      exact congrArg vI (by unfold bN;(repeat' split)<;>omega)
     ·try simp only [sx] at c6
      refine Y O<|yK O<|G O<|W<|zH O (fun c7=>?_) (fun c7=>?_)
      ·try simp only [sx] at c7
       refine Y O<|G O<|W<|zO<|zV O ?_
       exact congrArg vI (by unfold bN;(repeat' split)<;>omega)
      ·try simp only [sx] at c7
       refine zN<|Y O<|G O<|W<|zO<|zV O ?_
       exact congrArg vI (by unfold bN;(repeat' split)<;>omega)
    ·try simp only [sx] at c5
     refine zT O<|yK O<|G O<|W<|zH O (fun c6=>?_) (fun c6=>?_)
     ·try simp only [sx] at c6
      refine Y O<|G O<|W<|zO<|zV O ?_
      exact congrArg vI (by unfold bN;(repeat' split)<;>omega)
     ·try simp only [sx] at c6
      refine Y O<|yK O<|G O<|W<|zH O (fun c7=>?_) (fun c7=>?_)
      ·try simp only [sx] at c7
       refine Y O<|G O<|W<|zO<|zV O ?_
       exact congrArg vI (by unfold bN;(repeat' split)<;>omega)
      ·try simp only [sx] at c7
       refine zN<|Y O<|G O<|W<|zO<|zV O ?_
       exact congrArg vI (by unfold bN;(repeat' split)<;>omega)
 ·try simp only [sx] at c1
  refine Y O<|yK O<|G O<|W<|zH O (fun c2=>?_) (fun c2=>?_)
  ·try simp only [sx] at c2
   refine zN<|zH O (fun c3=>?_) (fun c3=>?_)
   ·try simp only [sx] at c3
    refine Y O<|G O<|W<|zO<|zV O ?_
    exact congrArg vI (by unfold bN;(repeat' split)<;>omega)
   ·try simp only [sx] at c3
    refine zM<|Y O<|yK O<|G O<|W<|zH O (fun c4=>?_) (fun c4=>?_)
    ·try simp only [sx] at c4
     refine zN<|zH O (fun c6=>?_) (fun c6=>?_)
     ·try simp only [sx] at c6
      refine Y O<|G O<|W<|zO<|zV O ?_
      exact congrArg vI (by unfold bN;(repeat' split)<;>omega)
     ·try simp only [sx] at c6
      refine Y O<|yK O<|G O<|W<|zH O (fun c7=>?_) (fun c7=>?_)
      ·try simp only [sx] at c7
       refine Y O<|G O<|W<|zO<|zV O ?_
       exact congrArg vI (by unfold bN;(repeat' split)<;>omega)
      ·try simp only [sx] at c7
       refine zN<|Y O<|G O<|W<|zO<|zV O ?_
       exact congrArg vI (by unfold bN;(repeat' split)<;>omega)
    ·try simp only [sx] at c4
     refine Y O<|yK O<|G O<|W<|zH O (fun c5=>?_) (fun c5=>?_)
     ·try simp only [sx] at c5
      refine zN<|zH O (fun c6=>?_) (fun c6=>?_)
      ·try simp only [sx] at c6
       refine Y O<|G O<|W<|zO<|zV O ?_
       exact congrArg vI (by unfold bN;(repeat' split)<;>omega)
      ·try simp only [sx] at c6
       refine Y O<|yK O<|G O<|W<|zH O (fun c7=>?_) (fun c7=>?_)
       ·try simp only [sx] at c7
        refine Y O<|G O<|W<|zO<|zV O ?_
        exact congrArg vI (by unfold bN;(repeat' split)<;>omega)
       ·try simp only [sx] at c7
        refine zN<|Y O<|G O<|W<|zO<|zV O ?_
        exact congrArg vI (by unfold bN;(repeat' split)<;>omega)
     ·try simp only [sx] at c5
      refine zT O<|yK O<|G O<|W<|zH O (fun c6=>?_) (fun c6=>?_)
      ·try simp only [sx] at c6
       refine Y O<|G O<|W<|zO<|zV O ?_
       exact congrArg vI (by unfold bN;(repeat' split)<;>omega)
      ·try simp only [sx] at c6
       refine Y O<|yK O<|G O<|W<|zH O (fun c7=>?_) (fun c7=>?_)
       ·try simp only [sx] at c7
        refine Y O<|G O<|W<|zO<|zV O ?_
        exact congrArg vI (by unfold bN;(repeat' split)<;>omega)
       ·try simp only [sx] at c7
        refine zN<|Y O<|G O<|W<|zO<|zV O ?_
        exact congrArg vI (by unfold bN;(repeat' split)<;>omega)
  ·try simp only [sx] at c2
   refine zT O<|yK O<|G O<|W<|zH O (fun c3=>?_) (fun c3=>?_)
   ·try simp only [sx] at c3
    refine Y O<|G O<|W<|zO<|zV O ?_
    exact congrArg vI (by unfold bN;(repeat' split)<;>omega)
   ·try simp only [sx] at c3
    refine zM<|Y O<|yK O<|G O<|W<|zH O (fun c4=>?_) (fun c4=>?_)
    ·try simp only [sx] at c4
     refine zN<|zH O (fun c6=>?_) (fun c6=>?_)
     ·try simp only [sx] at c6
      refine Y O<|G O<|W<|zO<|zV O ?_
      exact congrArg vI (by unfold bN;(repeat' split)<;>omega)
     ·try simp only [sx] at c6
      refine Y O<|yK O<|G O<|W<|zH O (fun c7=>?_) (fun c7=>?_)
      ·try simp only [sx] at c7
       refine Y O<|G O<|W<|zO<|zV O ?_
       exact congrArg vI (by unfold bN;(repeat' split)<;>omega)
      ·try simp only [sx] at c7
       refine zN<|Y O<|G O<|W<|zO<|zV O ?_
       exact congrArg vI (by unfold bN;(repeat' split)<;>omega)
    ·try simp only [sx] at c4
     refine Y O<|yK O<|G O<|W<|zH O (fun c5=>?_) (fun c5=>?_)
     ·try simp only [sx] at c5
      refine zN<|zH O (fun c6=>?_) (fun c6=>?_)
      ·try simp only [sx] at c6
       refine Y O<|G O<|W<|zO<|zV O ?_
       exact congrArg vI (by unfold bN;(repeat' split)<;>omega)
      ·try simp only [sx] at c6
       refine Y O<|yK O<|G O<|W<|zH O (fun c7=>?_) (fun c7=>?_)
       ·try simp only [sx] at c7
        refine Y O<|G O<|W<|zO<|zV O ?_
        exact congrArg vI (by unfold bN;(repeat' split)<;>omega)
       ·try simp only [sx] at c7
        refine zN<|Y O<|G O<|W<|zO<|zV O ?_
        exact congrArg vI (by unfold bN;(repeat' split)<;>omega)
     ·try simp only [sx] at c5
      refine zT O<|yK O<|G O<|W<|zH O (fun c6=>?_) (fun c6=>?_)
      ·try simp only [sx] at c6
       refine Y O<|G O<|W<|zO<|zV O ?_
       exact congrArg vI (by unfold bN;(repeat' split)<;>omega)
      ·try simp only [sx] at c6
       refine Y O<|yK O<|G O<|W<|zH O (fun c7=>?_) (fun c7=>?_)
       ·try simp only [sx] at c7
        refine Y O<|G O<|W<|zO<|zV O ?_
        exact congrArg vI (by unfold bN;(repeat' split)<;>omega)
       ·try simp only [sx] at c7
        refine zN<|Y O<|G O<|W<|zO<|zV O ?_
        exact congrArg vI (by unfold bN;(repeat' split)<;>omega)
theorem zCn (e:Ex):
    Pur cfg 161 [vE e] (vB (gE e)):=by
 refine zW Tryz.func161 O Tryz.ntmps161 Tryz.results161 O ?_
 intro z hz
 refine Y O<|zY O O (qN O O) ?_
 rintro _ _ ⟨b1,rfl,rfl⟩
 refine G O<|W<|Y O<|zF O kE<|zK one3 (J 0 O) O<|qA O (wJ O O O)<|G O<|rL0 O (fun g1_3=>zE O kE O) O<|rL1 7 O (fun g1_3=>zJ O one3 O (J 0 O) O) O<|rL1 8 O (fun g1_3=>wU O O O) O<|yZ O (fun h=>h)<|G O<|W<|zO<|zV O ?_
 exact O
theorem zHk (op i:Int):
    Pur cfg 272 [vI op,vI i] (vB (mF op i)):=by
 refine zW Tryz.func272 O Tryz.ntmps272 Tryz.results272 O ?_
 intro z hz
 refine Y O<|G O<|W<|zM<|Y O<|G O<|W<|zR<|zM<|Y O<|yK O<|G O<|W<|zH O (fun c1=>?_) (fun c1=>?_)
 ·try simp only [sx] at c1
  refine zN<|zH O (fun c3=>?_) (fun c3=>?_)
  ·try simp only [sx] at c3
   refine Y O<|G O<|W<|zO<|zV O ?_
   exact congrArg vB (by unfold mF;first|(exfalso;omega)|(simp [*];done)|(rw [Bool.eq_iff_iff];simp only [Bool.or_eq_true,Bool.and_eq_true,decide_eq_true_eq];omega))
  ·try simp only [sx] at c3
   refine zN<|Y O<|G O<|yK O<|G O<|rL0 O (fun g6_2=>zS O O) O<|rL1 13 O (fun g6_2=>yM O O O) O<|yZ O (fun h=>h)<|G O<|W<|zO<|zV O ?_
   exact congrArg vB (by unfold mF;first|(exfalso;omega)|(simp [*];done)|(rw [Bool.eq_iff_iff];simp only [Bool.or_eq_true,Bool.and_eq_true,decide_eq_true_eq];omega))
 ·try simp only [sx] at c1
  refine Y O<|yK O<|G O<|W<|zH O (fun c2=>?_) (fun c2=>?_)
  ·try simp only [sx] at c2
   refine zN<|zH O (fun c3=>?_) (fun c3=>?_)
   ·try simp only [sx] at c3
    refine Y O<|G O<|W<|zO<|zV O ?_
    exact congrArg vB (by unfold mF;first|(exfalso;omega)|(simp [*];done)|(rw [Bool.eq_iff_iff];simp only [Bool.or_eq_true,Bool.and_eq_true,decide_eq_true_eq];omega))
   ·try simp only [sx] at c3
    refine zN<|Y O<|G O<|yK O<|G O<|rL0 O (fun g6_2=>zS O O) O<|rL1 13 O (fun g6_2=>yM O O O) O<|yZ O (fun h=>h)<|G O<|W<|zO<|zV O ?_
    exact congrArg vB (by unfold mF;first|(exfalso;omega)|(simp [*];done)|(rw [Bool.eq_iff_iff];simp only [Bool.or_eq_true,Bool.and_eq_true,decide_eq_true_eq];omega))
  ·try simp only [sx] at c2
   refine zT O<|yK O<|G O<|W<|zH O (fun c3=>?_) (fun c3=>?_)
   ·try simp only [sx] at c3
    refine Y O<|G O<|W<|zO<|zV O ?_
    exact congrArg vB (by unfold mF;first|(exfalso;omega)|(simp [*];done)|(rw [Bool.eq_iff_iff];simp only [Bool.or_eq_true,Bool.and_eq_true,decide_eq_true_eq];omega))
   ·try simp only [sx] at c3
    refine zN<|Y O<|G O<|yK O<|G O<|rL0 O (fun g6_2=>zS O O) O<|rL1 13 O (fun g6_2=>yM O O O) O<|yZ O (fun h=>h)<|G O<|W<|zO<|zV O ?_
    exact congrArg vB (by unfold mF;first|(exfalso;omega)|(simp [*];done)|(rw [Bool.eq_iff_iff];simp only [Bool.or_eq_true,Bool.and_eq_true,decide_eq_true_eq];omega))
theorem ref14_wants (op i:Int):
    Pur cfg 294 [vI op,vI i] (vB (mF op i)):=by
 refine zW Tryz.func294 O Tryz.ntmps294 Tryz.results294 O ?_
 intro z hz
 refine Y O<|G O<|W<|Y O<|G O<|yK O<|G O<|rL0 O (fun g1_2=>zS O O) O<|rL1 8 O (fun g1_2=>yM O O O) O<|yZ O (fun h=>h)<|G O<|rL0 O (fun g1_6=>zS O O) O<|rL1 12 O (fun g1_6=>yM O O O) O<|r_or O (fun h=>(lzf h))<|G O<|rL0 O (fun g1_10=>zS O O) O<|rL1 16 O (fun g1_10=>yM O O O) O<|r_or O (fun h=>(lzf h))<|G O<|rL0 O (fun g1_14=>zS O O) O<|rL1 20 O (fun g1_14=>yM O O O) O<|r_or O (fun h=>(lzf h))<|G O<|W<|zO<|zV O ?_
 exact O
theorem zSd (l:Lf):
    Pur cfg 265 [dK l] (vB (nA l)):=by
 refine zW Tryz.func265 O Tryz.ntmps265 Tryz.results265 O ?_
 intro z hz
 refine Y O<|zY O O (qN O O) ?_
 rintro _ _ ⟨b1,rfl,rfl⟩
 refine G O<|W<|Y O<|zF O zCk<|zK one2 (J 0 O) O<|yK O<|G O<|rL0 O (fun g1_3=>zE O yP O) O<|rL1 7 O (fun g1_3=>zJ O kQ O (J 0 O) O) O<|rL1 8 O (fun g1_3=>qX O D O) O<|rL1 9 O (fun g1_3=>yM O O O) O<|yZ O (fun h=>h)<|G O<|W<|zO<|zV O ?_
 exact O
theorem zSc (x:Ix):
    Pur cfg 268 [lK x] (vB (jK x)):=by
 refine zW Tryz.func268 O Tryz.ntmps268 Tryz.results268 O ?_
 intro z hz
 refine Y O<|zY O O (qN O O) ?_
 rintro _ _ ⟨b1,rfl,rfl⟩
 refine G O<|W<|zM<|Y O<|zF O zCe<|zK one9 (J 0 O) O<|wD O<|W<|zH O (fun c1=>?_) (fun c1=>?_)
 ·try simp only [sx] at c1
  refine Y O<|zF O wI<|zK zAp (J 0 O) O<|qB O el65<|yK O<|G O<|W<|zO<|zV O ?_
  rw [jK,kR c1];rfl
 ·try simp only [sx] at c1
  refine zN<|Y O<|zF O zCp<|zP yB (J 0 O) O<|qQ O ok265 (zSd x.Lin) ⟨U,O,T⟩<|G O<|W<|zO<|zV O ?_
  rw [jK,yD c1];rfl
theorem expr_syntax_1 (x:Ix):
    Pur cfg 267 [lK x] (vB (!jK x)):=by
 refine zW Tryz.func267 O Tryz.ntmps267 Tryz.results267 O ?_
 intro z hz
 refine Y O<|zY O O (qN O O) ?_
 rintro _ _ ⟨b1,rfl,rfl⟩
 refine G O<|W<|Y O<|zP zDv (J 0 O) O<|qQ O ok268 (zSc x) ⟨U,O,T⟩<|wE O<|G O<|W<|zO<|zV O ?_
 exact O
theorem expr_names_1 (x:Ix):
    Pur cfg 269 [lK x] (vB (!rU x)):=by
 refine zW Tryz.func269 O Tryz.ntmps269 Tryz.results269 O ?_
 intro z hz
 refine Y O<|zY O O (qN O O) ?_
 rintro _ _ ⟨b1,rfl,rfl⟩
 refine G O<|W<|Y O<|zF O zCe<|zK one9 (J 0 O) O<|qA O (zEe O O O)<|G O<|rL0 O (fun g1_3=>zE O zCe O) O<|rL1 7 O (fun g1_3=>zJ O one9 O (J 0 O) O) O<|rL1 8 O (fun g1_3=>qL O ok138 (zFe _) ⟨U,O,T⟩) O<|rL1 9 O (fun g1_3=>kT O O) O<|yZ O (fun h=>h)<|G O<|W<|zO<|zV O ?_
 exact congrArg vB (by unfold rU;simp)
theorem expr_rank_1 (x:Ix):
    Pur cfg 271 [lK x] (vB (!rQ x)):=by
 refine zW Tryz.func271 O Tryz.ntmps271 Tryz.results271 O ?_
 intro z hz
 refine Y O<|zY O O (qN O O) ?_
 rintro _ _ ⟨b1,rfl,rfl⟩
 refine G O<|W<|Y O<|zF O wI<|zK zAp (J 0 O) O<|qB O el65<|qA O (yL O O O)<|G O<|W<|zO<|zV O ?_
 exact congrArg vB (by unfold rQ;simp)
theorem expr_syntax (e:Ex) (he:e.wt<=6000000000000):
    Pur cfg 221 [vE e] (vB (gT e)):=by
 refine zW Tryz.func221 O Tryz.ntmps221 Tryz.results221 O ?_
 intro z hz
 obtain ⟨hL,hI,hA⟩:=e.parts he
 refine Y O<|zY O O (qN O O) ?_
 rintro _ _ ⟨b1,rfl,rfl⟩
 refine G O<|W<|zM<|qW 13 mixed (by kernel_rfl) O O<|zQ O O (zE O kE O)<|zQ O O (zJ O one3 O (J 0 O) O)<|zQ O O (yM O O O)<|zQ O O (zE O kE O)<|zQ O O (zJ O one3 O (J 0 O) O)<|zQ O O (yM O O O)<|zQ O O (zS O O)<|qI [] O O O O gv1 T (fun g1_6=>zE O kE O) O<|qI [(14,_)] O O O O gv1 ⟨O,O,T⟩ (fun g1_6=>zJ O one3 O (J 0 O) O) O<|qI [(15,_)] O O O O gv1 ⟨O,O,T⟩ (fun g1_6=>yM O O O) O<|zQ O O (zBc O O O O (fun h=>(lzf h)))<|zQ O O (yY O O)<|zQ O O (yY O O)<|yR<|W<|zM<|qW 8 mixed (by kernel_rfl) O O<|zQ O O (zE O kE O)<|zQ O O (zJ O one3 O (J 0 O) O)<|zQ O O (yM O O O)<|zQ O O (zE O kE O)<|zQ O O (zJ O one3 O (J 0 O) O)<|zQ O O (yM O O O)<|zQ O O (yY O O)<|zQ O O (yY O O)<|yR<|W<|zM<|zR<|Y O<|zF O kE<|zK one3 (J 0 O) O<|yI O<|G O<|rL0 O (fun g3_3=>zE O kE O) O<|rL1 29 O (fun g3_3=>zJ O one3 O (J 0 O) O) O<|rL1 30 O (fun g3_3=>yL O O O) O<|r_or O (fun h=>(lzf h))<|G O<|W<|zH O (fun c1=>?_) (fun c1=>?_)
 ·refine Y O<|G O<|W<|zO<|zV O ?_
  exact congrArg vB (by simp only [gT,c1,Bool.not_true,Bool.not_false,Bool.true_and,Bool.and_true,Bool.false_and,Bool.and_false])
 ·refine Y O<|G O<|wE O<|G O<|rL0 O (fun g5_2=>zE O zHe O) O<|rL1 37 O (fun g5_2=>zU O zJe O (J 0 O) O) O<|rL0 O (fun g5_2=>kW O zr35 pl35 O) O<|rLz [(38,_),(39,_)] O gv1 ⟨O,O,O,O,T⟩ (fun g5_2=>zBg O fl35 O O O) O<|yZ O (fun h=>h)<|G O<|W<|zH O (fun c2=>?_) (fun c2=>?_)
  ·have c2:(!decide (e.Op=1)&& !sQ e.Val)=true:=c2
   refine Y O<|G O<|W<|zO<|zV O ?_
   exact congrArg vB (by simp only [gT,c2,Bool.not_true,Bool.not_false,Bool.true_and,Bool.and_true,Bool.false_and,Bool.and_false])
  ·have c2:(!decide (e.Op=1)&& !sQ e.Val)=false:=c2
   refine Y O<|G O<|wE O<|G O<|rL0 O (fun g7_2=>zE O zCw O) O<|rL1 46 O (fun g7_2=>zU O yO O (J 0 O) O) O<|rL0 O (fun g7_2=>kW O zr37 pl37 O) O<|rLz [(47,_),(48,_)] O gv1 ⟨O,O,O,O,T⟩ (fun g7_2=>zBg O fl37 O O O) O<|yZ O (fun h=>h)<|G O<|W<|zH O (fun c3=>?_) (fun c3=>?_)
   ·have c3:(!(decide (e.Op=1)||decide (e.Op=12))&& !ty0 e.Ty)=true:=c3
    refine Y O<|G O<|W<|zO<|zV O ?_
    exact congrArg vB (by simp only [gT,c3,Bool.not_true,Bool.not_false,Bool.true_and,Bool.and_true,Bool.false_and,Bool.and_false])
   ·have c3:(!(decide (e.Op=1)||decide (e.Op=12))&& !ty0 e.Ty)=false:=c3
    refine Y O<|G O<|wE O<|G O<|rL0 O (fun g9_2=>zE O zBk O) O<|rL1 55 O (fun g9_2=>zU O yB O (J 0 O) O) O<|rL1 56 O (fun g9_2=>qL O ok265 (zSd e.Lin) ⟨U,O,T⟩) O<|rL1 57 O (fun g9_2=>kT O O) O<|yZ O (fun h=>h)<|G O<|W<|zH O (fun c4=>?_) (fun c4=>?_)
    ·refine Y O<|G O<|W<|zO<|zV O ?_
     exact congrArg vB (by simp only [gT,c4,Bool.not_true,Bool.not_false,Bool.true_and,Bool.and_true,Bool.false_and,Bool.and_false])
    ·refine Y O<|G O<|wE O<|G O<|rL0 O (fun g11_2=>zE O zJi O) O<|rL1 64 O (fun g11_2=>zJ O one9 O (J 0 O) O) O<|rL1 65 O (fun g11_2=>zEe O O O) O<|rL1 66 O (fun g11_2=>zS O O) O<|rLz [] O q T (fun g11_6=>zE O kM O) O<|rLz [(68,_)] O q ⟨O,O,T⟩ (fun g11_6=>zJ O zAh O (J 0 O) O) O<|rLz [(69,_)] O q ⟨O,O,T⟩ (fun g11_6=>qX O el41 O) O<|rLz [(70,_)] O q ⟨O,O,T⟩ (fun g11_6=>yL O O O) O<|rL1 67 O (fun g11_2=>zBc O O O O (fun h=>kH (by assumption) (lzf h))) O<|yZ O (fun h=>h)<|G O<|W<|zH O (fun c5=>?_) (fun c5=>?_)
     ·refine Y O<|G O<|W<|zO<|zV O ?_
      exact congrArg vB (by simp only [gT,c5,Bool.not_true,Bool.not_false,Bool.true_and,Bool.and_true,Bool.false_and,Bool.and_false])
     ·refine zN<|Y O<|zF O kM<|zK zAh (J 0 O) O<|qQ O ok266 (zBe e.Idx _ (fun x=> !jK x) hI (fun x _=>FnPur.of_pur (first:=[]) (cap:=[]) ok267 (expr_syntax_1 x))) ⟨U,O,U,O,T⟩<|wE O<|G O<|W<|zO<|zV O ?_
      exact congrArg vB (by rw [zRd];simp only [gT,c1,c2,c3,c4,c5,Bool.not_true,Bool.not_false,Bool.true_and,Bool.and_true,Bool.false_and,Bool.and_false])
theorem expr_names (e:Ex) (he:e.wt<=6000000000000):
    Pur cfg 222 [vE e] (vB (mD e)):=by
 refine zW Tryz.func222 O Tryz.ntmps222 Tryz.results222 O ?_
 intro z hz
 obtain ⟨hL,hI,hA⟩:=e.parts he
 refine Y O<|zY O O (qN O O) ?_
 rintro _ _ ⟨b1,rfl,rfl⟩
 refine G O<|W<|zM<|Y O<|zF O kE<|zK one3 (J 0 O) O<|yK O<|G O<|rL0 O (fun g1_3=>zE O zJi O) O<|rL1 7 O (fun g1_3=>zJ O one9 O (J 0 O) O) O<|rL1 8 O (fun g1_3=>qL O ok138 (zFe _) ⟨U,O,T⟩) O<|rL1 9 O (fun g1_3=>kT O O) O<|yZ O (fun h=>h)<|W<|zH O (fun c1=>?_) (fun c1=>?_)
 ·refine Y O<|G O<|W<|zO<|zV O ?_
  exact congrArg vB (by simp only [mD,c1,Bool.not_true,Bool.false_and])
 ·refine zN<|Y O<|zF O kM<|zK zAh (J 0 O) O<|qQ O ok266 (zBe e.Idx _ (fun x=> !rU x) hI (fun x _=>FnPur.of_pur (first:=[]) (cap:=[]) ok269 (expr_names_1 x))) ⟨U,O,U,O,T⟩<|wE O<|G O<|W<|zO<|zV O ?_
  exact congrArg vB (by rw [zRd];simp only [mD,c1,Bool.not_false,Bool.true_and])
theorem expr_rank (e:Ex) (he:e.wt<=6000000000000):
    Pur cfg 223 [vE e] (vB (lW e)):=by
 refine zW Tryz.func223 O Tryz.ntmps223 Tryz.results223 O ?_
 intro z hz
 obtain ⟨hL,hI,hA⟩:=e.parts he
 refine Y O<|zY O O (qN O O) ?_
 rintro _ _ ⟨b1,rfl,rfl⟩
 refine G O<|W<|zM<|zM<|qW 13 mixed (by kernel_rfl) O O<|zQ O O (zE O kO O)<|zQ O O (zJ O zAj O (J 0 O) O)<|zQ O O (qX O el42 O)<|zQ O O (zE O kE O)<|zQ O O (zJ O one3 O (J 0 O) O)<|zQ O O (qL O ok270 (expr_operands _) ⟨U,O,T⟩)<|zQ O O (zAg O O O)<|zQ O O (zS O O)<|qI [] O O O O gv1 T (fun g1_7=>zE O kM O) O<|qI [(11,_)] O O O O gv1 ⟨O,O,T⟩ (fun g1_7=>zJ O zAh O (J 0 O) O) O<|qI [(12,_)] O O O O gv1 ⟨O,O,T⟩ (fun g1_7=>qX O el41 O) O<|qI [(13,_)] O O O O gv1 ⟨O,O,T⟩ (fun g1_7=>yL O O O) O<|zQ O O (zBc O O O O (fun h=>(lzf h)))<|yR<|W<|zH O (fun c1=>?_) (fun c1=>?_)
 ·refine Y O<|G O<|W<|zO<|zV O ?_
  exact congrArg vB (by simp only [lW,c1,Bool.not_true,Bool.false_and])
 ·refine zN<|Y O<|zF O kM<|zK zAh (J 0 O) O<|qQ O ok266 (zBe e.Idx _ (fun x=> !rQ x) hI (fun x _=>FnPur.of_pur (first:=[]) (cap:=[]) ok271 (expr_rank_1 x))) ⟨U,O,U,O,T⟩<|wE O<|G O<|W<|zO<|zV O ?_
  exact congrArg vB (by rw [zRd];simp only [lW,c1,Bool.not_false,Bool.true_and])
theorem expr_types (e:Ex) (he:e.wt<=6000000000000):
    Pur cfg 224 [vE e] (vB (jL e)):=by
 refine zW Tryz.func224 O Tryz.ntmps224 Tryz.results224 O ?_
 intro z hz
 obtain ⟨hL,hI,hA⟩:=e.parts he
 refine Y O<|zY O O (qN O O) ?_
 rintro _ _ ⟨b1,rfl,rfl⟩
 refine G O<|W<|zM<|Y O<|zF O kE<|zK one3 (J 0 O) O<|yK O<|G O<|rL0 O (fun g1_3=>zE O kE O) O<|rL1 9 O (fun g1_3=>zJ O one3 O (J 0 O) O) O<|rL1 10 O (fun g1_3=>yM O O O) O<|r_or O (fun h=>(lzf h))<|G O<|rL0 O (fun g1_8=>zE O zCw O) O<|rL1 14 O (fun g1_8=>zU O yO O (J 0 O) O) O<|rL1 15 O (fun g1_8=>qL O ok191 (zBf _) ⟨U,O,T⟩) O<|rL1 16 O (fun g1_8=>zAg O O O) O<|yZ O (fun h=>h)<|W<|zH O (fun c1=>?_) (fun c1=>?_)
 ·rw [tyErr_dec] at c1
  refine Y O<|G O<|W<|zO<|zV O ?_
  exact congrArg vB (by simp only [jL,c1,Bool.not_true,Bool.false_and])
 ·rw [tyErr_dec] at c1
  refine zN<|zM<|Y O<|zF O kO<|zK zAj (J 0 O) O<|qB O el42<|G O<|W<|zR<|qC ⟨[(22,.c _),(1,.c _),(20,.c _),(21,.c _)],[_]⟩ (Weak.mk [true] ⟨U,U,U,U,T⟩ O)<|qG 1 0 O O (Nat) (fun k=>[(22,vI k)]) (fun k=>[]) (fun k=>k<=e.Args.length/\(lB e.Op 0 e.Args=lB e.Op k (e.Args.drop k))) (fun k=>e.Args.length-k) ⟨0,⟨by omega,O⟩,Weak.mk [true] ⟨U,U,U,U,T⟩ O⟩ ?_
  rintro k ⟨hk,hp⟩
  refine Y O<|yI O<|W<|zM<|zH O (fun c2=>?_) (fun c2=>?_)
  ·try simp only [sx] at c2
   obtain ⟨a,ha⟩:=qU e.Args k (by omega)
   refine zN<|zM<|zR<|Y O<|G O<|qJ O el42 (by omega) (zBj (by assumption))<|zP yG qE O<|zY O O (qF [none,none,none,none,none,none,none,none,none,none,some 2,some 4,some 13] O zr44 O) ?_
   rintro _ _ ⟨b2,rfl,rfl⟩
   refine G O<|rStR 0 sz44 O<|W<|zM<|qW 7 mixed (by kernel_rfl) O O<|zQ O O (zU O yG O (J 0 O) O)<|zQ O O (qL O ok155 (zHf a) ⟨U,O,T⟩)<|zQ O O (zE O kE O)<|zQ O O (zJ O one3 O (J 1 O) O)<|zQ O O (zS O O)<|zQ O O (qL O ok272 (zHk _ _) ⟨U,O,U,O,T⟩)<|zQ O O (zLu O un4 O O)<|yR<|W<|zH O (fun c3=>?_) (fun c3=>?_)
   ·refine Y O<|G O<|W<|zO<|zV O ?_
    exact congrArg vB (by simp only [jL,c1,Bool.not_false,Bool.true_and];rw [hp,qR ha,lB,show (gE a==mF e.Op k)=false by simpa using c3,Bool.false_and])
   ·refine zN<|zT O<|qK O ⟨by omega,by omega⟩<|G O<|W ?_
    refine ⟨k+1,⟨by omega,(by rw [hp,qR ha,lB,show (gE a==mF e.Op k)=true by simpa using c3,Bool.true_and];rfl)⟩,(by omega),Weak.mk [false,true] ⟨U,U,U,U,T⟩ O⟩
  ·try simp only [sx] at c2
   refine qO<|Y O<|G O<|W<|zO<|zV O ?_
   exact congrArg vB (by simp only [jL,c1,Bool.not_false,Bool.true_and];rw [hp,wB (by omega)];rfl)
theorem ref14_typed (e:Ex) (he:e.wt<=6000000000000):
    Pur cfg 261 [vE e] (vB (jL e)):=by
 refine zW Tryz.func261 O Tryz.ntmps261 Tryz.results261 O ?_
 intro z hz
 obtain ⟨hL,hI,hA⟩:=e.parts he
 refine Y O<|zY O O (qN O O) ?_
 rintro _ _ ⟨b1,rfl,rfl⟩
 refine G O<|W<|zM<|Y O<|zF O kE<|zK one3 (J 0 O) O<|yK O<|G O<|rL0 O (fun g1_3=>zE O kE O) O<|rL1 8 O (fun g1_3=>zJ O one3 O (J 0 O) O) O<|rL1 9 O (fun g1_3=>yM O O O) O<|r_or O (fun h=>(lzf h))<|G O<|rL0 O (fun g1_8=>zE O zCw O) O<|rL1 13 O (fun g1_8=>zU O yO O (J 0 O) O) O<|rL1 14 O (fun g1_8=>qL O ok109 (zMb _) ⟨U,O,T⟩) O<|rL1 15 O (fun g1_8=>kT O O) O<|yZ O (fun h=>h)<|W<|zH O (fun c1=>?_) (fun c1=>?_)
 ·refine Y O<|G O<|W<|zO<|zV O ?_
  exact congrArg vB (by simp only [jL,c1,Bool.not_true,Bool.false_and])
 ·refine zN<|zM<|Y O<|G O<|W<|zR<|qC ⟨[(3,.c _),(1,.c _)],[_]⟩ (Weak.mk [true] ⟨U,U,T⟩ O)<|qG 1 0 O O (Nat) (fun k=>[(3,vI k)]) (fun k=>[]) (fun k=>k<=e.Args.length/\(lB e.Op 0 e.Args=lB e.Op k (e.Args.drop k))) (fun k=>e.Args.length-k) ⟨0,⟨by omega,O⟩,Weak.mk [true] ⟨U,U,T⟩ O⟩ ?_
  rintro k ⟨hk,hp⟩
  refine zM<|Y O<|G O<|zF O kO<|zK zAj (J 0 O) O<|qB O el42<|yI O<|W<|zH O (fun c2=>?_) (fun c2=>?_)
  ·try simp only [sx] at c2
   obtain ⟨a,ha⟩:=qU e.Args k (by omega)
   refine zN<|zM<|zR<|zM<|qW 11 mixed (by kernel_rfl) O O<|zQ O O (zE O kO O)<|zQ O O (zJ O zAj O (J 0 O) O)<|zQ O O (zS O O)<|zQ O O (qH O el42 O O (by omega) (zBj (by assumption)))<|zQ O O (zU O yG O qE O)<|zQ O O (qL O ok161 (zCn a) ⟨U,O,T⟩)<|zQ O O (zE O kE O)<|zQ O O (zJ O one3 O (J 0 O) O)<|zQ O O (zS O O)<|zQ O O (qL O ok294 (ref14_wants _ _) ⟨U,O,U,O,T⟩)<|zQ O O (zLu O un4 O O)<|yR<|W<|zH O (fun c3=>?_) (fun c3=>?_)
   ·refine Y O<|G O<|W<|zO<|zV O ?_
    exact congrArg vB (by simp only [jL,c1,Bool.not_false,Bool.true_and];rw [hp,qR ha,lB,show (gE a==mF e.Op k)=false by simpa using c3,Bool.false_and])
   ·refine zN<|zT O<|G O<|qK O ⟨by omega,by omega⟩<|G O<|W ?_
    refine ⟨k+1,⟨by omega,(by rw [hp,qR ha,lB,show (gE a==mF e.Op k)=true by simpa using c3,Bool.true_and];rfl)⟩,(by omega),Weak.mk [true] ⟨U,U,T⟩ O⟩
  ·try simp only [sx] at c2
   refine qO<|Y O<|G O<|W<|zO<|zV O ?_
   exact congrArg vB (by simp only [jL,c1,Bool.not_false,Bool.true_and];rw [hp,wB (by omega)];rfl)
theorem ref14_plain (e:Ex) (he:e.wt<=6000000000000):
    Pur cfg 258 [vE e] (vB (gT e)):=by
 refine zW Tryz.func258 O Tryz.ntmps258 Tryz.results258 O ?_
 intro z hz
 obtain ⟨hL,hI,hA⟩:=e.parts he
 refine Y O<|zY O O (qN O O) ?_
 rintro _ _ ⟨b1,rfl,rfl⟩
 refine G O<|W<|zM<|Y O<|zF O kE<|zK one3 (J 0 O) O<|yI O<|G O<|rL0 O (fun g1_3=>zE O kE O) O<|rL1 9 O (fun g1_3=>zJ O one3 O (J 0 O) O) O<|rL1 10 O (fun g1_3=>yL O O O) O<|r_or O (fun h=>(lzf h))<|W<|zH O (fun c1=>?_) (fun c1=>?_)
 ·refine Y O<|G O<|W<|zO<|zV O ?_
  exact congrArg vB (by simp only [gT,c1,Bool.not_true,Bool.false_and])
 ·refine zN<|zM<|Y O<|zF O kE<|zK one3 (J 0 O) O<|yW O<|G O<|rL0 O (fun g3_3=>zE O zHe O) O<|rL1 17 O (fun g3_3=>zU O zJe O (J 0 O) O) O<|rL0 O (fun g3_3=>kW O zr35 pl35 O) O<|rLz [(18,_),(19,_)] O gv1 ⟨O,O,O,O,T⟩ (fun g3_3=>zBg O fl35 O O O) O<|yZ O (fun h=>h)<|G O<|rL0 O (fun g3_9=>zE O kE O) O<|rL1 23 O (fun g3_9=>zJ O one3 O (J 0 O) O) O<|rL1 24 O (fun g3_9=>zAg O O O) O<|rL1 25 O (fun g3_9=>zS O O) O<|rLz [] O q T (fun g3_13=>zE O kE O) O<|rLz [(27,_)] O q ⟨O,O,T⟩ (fun g3_13=>zJ O one3 O (J 0 O) O) O<|rLz [(28,_)] O q ⟨O,O,T⟩ (fun g3_13=>zAg O O O) O<|rL1 26 O (fun g3_9=>wK O O O (fun h=>kH (by assumption) h) O) O<|rL1 30 O (fun g3_9=>zS O O) O<|rLz [] O q T (fun g3_18=>zE O zCw O) O<|rLz [(32,_)] O q ⟨O,O,T⟩ (fun g3_18=>zU O yO O (J 0 O) O) O<|rLz [] O q T (fun g3_18=>kW O zr37 pl37 O) O<|rLz [(33,_),(34,_)] O q ⟨O,O,O,O,T⟩ (fun g3_18=>zBg O fl37 O O O) O<|rL1 31 O (fun g3_9=>wK O O O (fun h=>kH (by assumption) h) O) O<|r_or O (fun h=>(lzf h))<|W<|zH O (fun c2=>?_) (fun c2=>?_)
  ·have h2:=plain2 (e:=e) c2
   refine Y O<|G O<|W<|zO<|zV O ?_
   exact congrArg vB (syn2 h2)
  ·have h2:=plain2 (e:=e) c2
   refine zN<|zM<|Y O<|zF O kE<|zK one3 (J 0 O) O<|yW O<|G O<|rL0 O (fun g5_3=>zE O zBk O) O<|rL1 42 O (fun g5_3=>zE O zCk O) O<|rL1 43 O (fun g5_3=>zJ O one2 O (J 0 O) O) O<|rL1 44 O (fun g5_3=>zAg O O O) O<|rL1 45 O (fun g5_3=>zS O O) O<|rLz [] O q T (fun g5_8=>zE O zBk O) O<|rLz [(47,_)] O q ⟨O,O,T⟩ (fun g5_8=>zE O yP O) O<|rLz [(48,_)] O q ⟨O,O,T⟩ (fun g5_8=>zJ O kQ O (J 0 O) O) O<|rLz [(49,_)] O q ⟨O,O,T⟩ (fun g5_8=>qX O D O) O<|rLz [(50,_)] O q ⟨O,O,T⟩ (fun g5_8=>yL O O O) O<|rL1 46 O (fun g5_3=>zBc O O O O (fun h=>kH (by assumption) (lzf h))) O<|yZ O (fun h=>h)<|G O<|rL0 O (fun g5_16=>zE O kE O) O<|rL1 55 O (fun g5_16=>zJ O one3 O (J 0 O) O) O<|rL1 56 O (fun g5_16=>zAg O O O) O<|rL1 57 O (fun g5_16=>zS O O) O<|rLz [] O q T (fun g5_20=>zE O zJi O) O<|rLz [(59,_)] O q ⟨O,O,T⟩ (fun g5_20=>zJ O one9 O (J 0 O) O) O<|rLz [(60,_)] O q ⟨O,O,T⟩ (fun g5_20=>zEe O O O) O<|rLz [(61,_)] O q ⟨O,O,T⟩ (fun g5_20=>zS O O) O<|rLz [] O q T (fun g5_24=>zE O kM O) O<|rLz [(63,_)] O q ⟨O,O,T⟩ (fun g5_24=>zJ O zAh O (J 0 O) O) O<|rLz [(64,_)] O q ⟨O,O,T⟩ (fun g5_24=>qX O el41 O) O<|rLz [(65,_)] O q ⟨O,O,T⟩ (fun g5_24=>yL O O O) O<|rLz [(62,_)] O q ⟨O,O,T⟩ (fun g5_20=>zBc O O O O (fun h=>kH (by assumption) (lzf h))) O<|rL1 58 O (fun g5_16=>wK O O O (fun h=>kH (by assumption) h) O) O<|r_or O (fun h=>(lzf h))<|W<|zH O (fun c3=>?_) (fun c3=>?_)
   ·have h3:=plain3 (e:=e) c3
    refine Y O<|G O<|W<|zO<|zV O ?_
    exact congrArg vB (syn3 h3)
   ·have h3:=plain3 (e:=e) c3
    refine zN<|zM<|Y O<|G O<|W<|zR<|qC ⟨[(3,.c _),(1,.c _)],[_]⟩ (Weak.mk [true] ⟨U,U,T⟩ O)<|qG 1 0 O O (Nat) (fun k=>[(3,vI k)]) (fun k=>[]) (fun k=>k<=e.Idx.length/\(e.Idx.all jK=(e.Idx.drop k).all jK)) (fun k=>e.Idx.length-k) ⟨0,⟨by omega,O⟩,Weak.mk [true] ⟨U,U,T⟩ O⟩ ?_
    rintro k ⟨hk,hp⟩
    refine zM<|Y O<|G O<|zF O kM<|zK zAh (J 0 O) O<|qB O el41<|yI O<|W<|zH O (fun c4=>?_) (fun c4=>?_)
    ·try simp only [sx] at c4
     obtain ⟨x,hx⟩:=qU e.Idx k (by omega)
     refine zN<|zM<|zR<|Y O<|zF O kM<|zK zAh (J 0 O) O<|G O<|qJ O el41 (by omega) (getm (by assumption))<|zP zDv qE O<|zY O O (qF [none,some 2,none,some 2] O zJa O) ?_
     rintro _ _ ⟨b2,rfl,rfl⟩
     refine rStR 0 zQb O<|W<|Y O<|zF O zCe<|zK one9 (J 0 O) O<|wD O<|G O<|rL0 O (fun g11_3=>zE O wI O) O<|rL1 86 O (fun g11_3=>zJ O zAp O (J 0 O) O) O<|rL1 87 O (fun g11_3=>qX O el65 O) O<|rL1 88 O (fun g11_3=>yL O O O) O<|yZ O (fun h=>h)<|G O<|rL0 O (fun g11_9=>zE O zCe O) O<|rL1 92 O (fun g11_9=>zJ O one9 O (J 0 O) O) O<|rL1 93 O (fun g11_9=>zEe O O O) O<|rL1 94 O (fun g11_9=>zS O O) O<|rLz [] O q T (fun g11_13=>zE O zCp O) O<|rLz [(96,_)] O q ⟨O,O,T⟩ (fun g11_13=>zE O zCk O) O<|rLz [(97,_)] O q ⟨O,O,T⟩ (fun g11_13=>zJ O one2 O (J 0 O) O) O<|rLz [(98,_)] O q ⟨O,O,T⟩ (fun g11_13=>zAg O O O) O<|rLz [(99,_)] O q ⟨O,O,T⟩ (fun g11_13=>zS O O) O<|rLz [] O q T (fun g11_18=>zE O zCp O) O<|rLz [(101,_)] O q ⟨O,O,T⟩ (fun g11_18=>zE O yP O) O<|rLz [(102,_)] O q ⟨O,O,T⟩ (fun g11_18=>zJ O kQ O (J 0 O) O) O<|rLz [(103,_)] O q ⟨O,O,T⟩ (fun g11_18=>qX O D O) O<|rLz [(104,_)] O q ⟨O,O,T⟩ (fun g11_18=>yL O O O) O<|rLz [(100,_)] O q ⟨O,O,T⟩ (fun g11_13=>zBc O O O O (fun h=>kH (by assumption) (lzf h))) O<|rL1 95 O (fun g11_9=>wK O O O (fun h=>kH (by assumption) h) O) O<|r_or O (fun h=>(lzf h))<|W<|zH O (fun c5=>?_) (fun c5=>?_)
     ·have h5:=well_dec (x:=x) c5
      refine Y O<|G O<|W<|zO<|zV O ?_
      exact congrArg vB (by rw [gT,all_no hx (p:=jK) (by simpa using h5)];simp)
     ·have h5:=well_dec (x:=x) c5
      refine zN<|zT O<|G O<|qK O ⟨by omega,by omega⟩<|G O<|W ?_
      refine ⟨k+1,⟨by omega,zPr hx hp (by simpa using h5)⟩,(by omega),Weak.mk [false,true] ⟨U,U,T⟩ O⟩
    ·try simp only [sx] at c4
     refine qO<|Y O<|G O<|W<|zO<|zV O ?_
     exact congrArg vB (syn5 c1 h2 h3 (all_end hp (by omega)))
theorem ref14_named (e:Ex) (he:e.wt<=6000000000000):
    Pur cfg 259 [vE e] (vB (mD e)):=by
 refine zW Tryz.func259 O Tryz.ntmps259 Tryz.results259 O ?_
 intro z hz
 obtain ⟨hL,hI,hA⟩:=e.parts he
 refine Y O<|zY O O (qN O O) ?_
 rintro _ _ ⟨b1,rfl,rfl⟩
 refine G O<|W<|zM<|Y O<|zF O kE<|zK one3 (J 0 O) O<|yK O<|G O<|rL0 O (fun g1_3=>zE O zJi O) O<|rL1 8 O (fun g1_3=>zJ O one9 O (J 0 O) O) O<|rL1 9 O (fun g1_3=>qL O ok137 (zEw _) ⟨U,O,T⟩) O<|rL1 10 O (fun g1_3=>kT O O) O<|yZ O (fun h=>h)<|W<|zH O (fun c1=>?_) (fun c1=>?_)
 ·refine Y O<|G O<|W<|zO<|zV O ?_
  exact congrArg vB (by simp only [mD,c1,Bool.not_true,Bool.false_and])
 ·refine zN<|zM<|Y O<|G O<|W<|zR<|qC ⟨[(3,.c _),(1,.c _)],[_]⟩ (Weak.mk [true] ⟨U,U,T⟩ O)<|qG 1 0 O O (Nat) (fun k=>[(3,vI k)]) (fun k=>[]) (fun k=>k<=e.Idx.length/\(e.Idx.all rU=(e.Idx.drop k).all rU)) (fun k=>e.Idx.length-k) ⟨0,⟨by omega,O⟩,Weak.mk [true] ⟨U,U,T⟩ O⟩ ?_
  rintro k ⟨hk,hp⟩
  refine zM<|Y O<|G O<|zF O kM<|zK zAh (J 0 O) O<|qB O el41<|yI O<|W<|zH O (fun c2=>?_) (fun c2=>?_)
  ·try simp only [sx] at c2
   obtain ⟨x,hx⟩:=qU e.Idx k (by omega)
   refine zN<|zM<|zR<|Y O<|zF O kM<|zK zAh (J 0 O) O<|G O<|qJ O el41 (by omega) (getm (by assumption))<|qS O zCe<|zK one9 qE O<|qA O (zEe O O O)<|G O<|rL0 O (fun g6_7=>zE O kM O) O<|rL1 28 O (fun g6_7=>zJ O zAh O (J 0 O) O) O<|rL0 O (fun g6_7=>zS O O) O<|rLz [(29,_),(30,_)] O gv1 ⟨O,O,O,O,T⟩ (fun g6_7=>qH O el41 O O (by omega) (getm (by assumption))) O<|rL1 31 O (fun g6_7=>qP O zCe O) O<|rL1 32 O (fun g6_7=>zJ O one9 O qE O) O<|rL1 33 O (fun g6_7=>qL O ok137 (zEw _) ⟨U,O,T⟩) O<|rL1 34 O (fun g6_7=>kT O O) O<|yZ O (fun h=>h)<|W<|zH O (fun c3=>?_) (fun c3=>?_)
   ·refine Y O<|G O<|W<|zO<|zV O ?_
    exact congrArg vB (by rw [mD,all_no hx (p:=rU) (by unfold rU;rw [c3];rfl)];simp)
   ·refine zN<|zT O<|G O<|qK O ⟨by omega,by omega⟩<|G O<|W ?_
    refine ⟨k+1,⟨by omega,zPr hx hp (by unfold rU;rw [c3];rfl)⟩,(by omega),Weak.mk [true] ⟨U,U,T⟩ O⟩
  ·try simp only [sx] at c2
   refine qO<|Y O<|G O<|W<|zO<|zV O ?_
   exact congrArg vB (by rw [mD,c1,all_end hp (by omega)];rfl)
theorem ref14_ranked (e:Ex) (he:e.wt<=6000000000000):
    Pur cfg 260 [vE e] (vB (lW e)):=by
 refine zW Tryz.func260 O Tryz.ntmps260 Tryz.results260 O ?_
 intro z hz
 obtain ⟨hL,hI,hA⟩:=e.parts he
 refine Y O<|zY O O (qN O O) ?_
 rintro _ _ ⟨b1,rfl,rfl⟩
 refine G O<|W<|zM<|zM<|qW 13 mixed (by kernel_rfl) O O<|zQ O O (zE O kO O)<|zQ O O (zJ O zAj O (J 0 O) O)<|zQ O O (qX O el42 O)<|zQ O O (zE O kE O)<|zQ O O (zJ O one3 O (J 0 O) O)<|zQ O O (qL O ok293 (zNr _) ⟨U,O,T⟩)<|zQ O O (zAg O O O)<|zQ O O (zS O O)<|qI [] O O O O gv1 T (fun g1_7=>zE O kM O) O<|qI [(12,_)] O O O O gv1 ⟨O,O,T⟩ (fun g1_7=>zJ O zAh O (J 0 O) O) O<|qI [(13,_)] O O O O gv1 ⟨O,O,T⟩ (fun g1_7=>qX O el41 O) O<|qI [(14,_)] O O O O gv1 ⟨O,O,T⟩ (fun g1_7=>yL O O O) O<|zQ O O (zBc O O O O (fun h=>(lzf h)))<|yR<|W<|zH O (fun c1=>?_) (fun c1=>?_)
 ·refine Y O<|G O<|W<|zO<|zV O ?_
  exact congrArg vB (by simp only [lW,c1,Bool.not_true,Bool.false_and])
 ·refine zN<|zM<|Y O<|G O<|W<|zR<|qC ⟨[(3,.c _),(1,.c _)],[_]⟩ (Weak.mk [true] ⟨U,U,T⟩ O)<|qG 1 0 O O (Nat) (fun k=>[(3,vI k)]) (fun k=>[]) (fun k=>k<=e.Idx.length/\(e.Idx.all rQ=(e.Idx.drop k).all rQ)) (fun k=>e.Idx.length-k) ⟨0,⟨by omega,O⟩,Weak.mk [true] ⟨U,U,T⟩ O⟩ ?_
  rintro k ⟨hk,hp⟩
  refine zM<|Y O<|G O<|zF O kM<|zK zAh (J 0 O) O<|qB O el41<|yI O<|W<|zH O (fun c2=>?_) (fun c2=>?_)
  ·try simp only [sx] at c2
   obtain ⟨x,hx⟩:=qU e.Idx k (by omega)
   refine zN<|zM<|zR<|Y O<|zF O kM<|zK zAh (J 0 O) O<|G O<|qJ O el41 (by omega) (getm (by assumption))<|qS O wI<|zK zAp qE O<|qB O el65<|qA O (yL O O O)<|W<|zH O (fun c3=>?_) (fun c3=>?_)
   ·refine Y O<|G O<|W<|zO<|zV O ?_
    exact congrArg vB (by rw [lW,all_no hx (p:=rQ) (by unfold rQ;rw [c3];rfl)];simp)
   ·refine zN<|zT O<|G O<|qK O ⟨by omega,by omega⟩<|G O<|W ?_
    refine ⟨k+1,⟨by omega,zPr hx hp (by unfold rQ;rw [c3];rfl)⟩,(by omega),Weak.mk [true] ⟨U,U,T⟩ O⟩
  ·try simp only [sx] at c2
   refine qO<|Y O<|G O<|W<|zO<|zV O ?_
   exact congrArg vB (by rw [lW,c1,all_end hp (by omega)];rfl)
theorem ref14_formed (e:Ex) (he:e.wt<=6000000000000) (hty:e.Op=1->dW e.Ty=true):
    Pur cfg 262 [vE e] (vB (jF e)):=by
 refine zW Tryz.func262 O Tryz.ntmps262 Tryz.results262 O ?_
 intro z hz
 obtain ⟨hL,hI,hA⟩:=e.parts he
 refine Y O<|zY O O (qN O O) ?_
 rintro _ _ ⟨b1,rfl,rfl⟩
 refine G O<|W<|zM<|Y O<|zF O kE<|zK one3 (J 0 O) O<|yK O<|G O<|rL0 O (fun g1_3=>zE O zCw O) O<|rL1 9 O (fun g1_3=>zU O yO O (J 0 O) O) O<|rL0 O (fun g1_3=>zE O zHe O) O<|rL1 11 O (fun g1_3=>zU O zJe O (J 0 O) O) O<|rLz [(10,_),(12,_)] O gv1 ⟨O,O,O,O,T⟩ (fun g1_3=>qL O ok295 (base_Val e.Ty e.Val (hty (by simp only [Lz,cond_true,cond_false,Bool.and_eq_true,Bool.or_eq_true,Bool.not_eq_true',Bool.not_eq_false',Bool.or_eq_false_iff,Bool.and_eq_false_iff,decide_eq_true_eq,decide_eq_false_iff_not,Bool.not_eq_true,Bool.not_eq_false] at g1_3;exact g1_3))) ⟨U,O,U,O,T⟩) O<|rL1 13 O (fun g1_3=>kT O O) O<|yZ O (fun h=>h)<|G O<|rL0 O (fun g1_11=>zE O zBk O) O<|rL1 17 O (fun g1_11=>zU O yB O (J 0 O) O) O<|rL1 18 O (fun g1_11=>qL O ok107 (zBo e.Lin hL) ⟨U,O,T⟩) O<|rL1 19 O (fun g1_11=>kT O O) O<|r_or O (fun h=>(lzf h))<|W<|zH O (fun c1=>?_) (fun c1=>?_)
 ·refine Y O<|G O<|W<|zO<|zV O ?_
  exact congrArg vB (form_no c1)
 ·refine zN<|zM<|Y O<|G O<|W<|zR<|qC ⟨[(3,.c _),(1,.c _)],[_]⟩ (Weak.mk [true] ⟨U,U,T⟩ O)<|qG 1 0 O O (Nat) (fun k=>[(3,vI k)]) (fun k=>[]) (fun k=>k<=e.Idx.length/\((dL e).all bJ=((e.Idx.drop k).flatMap fun x=>x.Lin::x.At).all bJ)) (fun k=>e.Idx.length-k) ⟨0,⟨by omega,form_start c1⟩,Weak.mk [true] ⟨U,U,T⟩ O⟩ ?_
  rintro k ⟨hk,hp⟩
  refine zM<|Y O<|G O<|zF O kM<|zK zAh (J 0 O) O<|qB O el41<|yI O<|W<|zH O (fun c2=>?_) (fun c2=>?_)
  ·try simp only [sx] at c2
   obtain ⟨x,hx⟩:=qU e.Idx k (by omega)
   have hxw:=Ex.idx_wt (zX hx)
   refine zN<|zM<|zR<|zM<|Y O<|zF O kM<|zK zAh (J 0 O) O<|G O<|qJ O el41 (by omega) (getm (by assumption))<|qS O zCp<|zP yB qE O<|qQ O ok107 (zBo x.Lin (by omega)) ⟨U,O,T⟩<|wE O<|W<|zH O (fun c3=>?_) (fun c3=>?_)
   ·try simp only [sx] at c3
    refine Y O<|G O<|W<|zO<|zV O ?_
    exact congrArg vB (form_no2 hp (by rw [qR hx,List.flatMap_cons,List.all_append,List.all_cons,c3];rfl))
   ·try simp only [sx] at c3
    refine zN<|Y O<|G O<|W<|zR<|qC ⟨[(4,.c _),(1,.c _),(3,.c _)],[_]⟩ (Weak.mk [true] ⟨U,U,U,T⟩ O)<|qG 1 0 O O (Nat) (fun j=>[(4,vI j)]) (fun j=>[]) (fun j=>j<=x.At.length/\(x.At.all bJ=(x.At.drop j).all bJ)) (fun j=>x.At.length-j) ⟨0,⟨by omega,O⟩,Weak.mk [true] ⟨U,U,U,T⟩ O⟩ ?_
    rintro j ⟨hj,hq⟩
    refine zM<|Y O<|G O<|zF O kM<|zK zAh (J 0 O) O<|G O<|qJ O el41 (by omega) (getm (by assumption))<|qS O wI<|zK zAp qE O<|qB O el65<|yI O<|W<|zH O (fun c4=>?_) (fun c4=>?_)
    ·try simp only [sx] at c4
     obtain ⟨l,hl⟩:=qU x.At j (by omega)
     have hlw:=zDe (zX hl)
     refine zN<|zM<|zR<|Y O<|zF O kM<|zK zAh (J 0 O) O<|G O<|qJ O el41 (by omega) (getm (by assumption))<|qS O wI<|zK zAp qE O<|G O<|qJ O el65 (by omega) (getm (by assumption))<|zP yB qE O<|qQ O ok107 (zBo l (by omega)) ⟨U,O,T⟩<|wE O<|W<|zH O (fun c5=>?_) (fun c5=>?_)
     ·try simp only [sx] at c5
      refine Y O<|G O<|W<|zO<|zV O ?_
      exact congrArg vB (form_no2 hp (by rw [qR hx,List.flatMap_cons,List.all_append,List.all_cons,all_no hl (p:=bJ) c5];simp))
     ·try simp only [sx] at c5
      refine zN<|zT O<|G O<|qK O ⟨by omega,by omega⟩<|G O<|W ?_
      refine ⟨j+1,⟨by omega,zPr hl hq c5⟩,(by omega),Weak.mk [true] ⟨U,U,U,T⟩ O⟩
    ·try simp only [sx] at c4
     refine qO<|zT O<|G O<|qK O ⟨by omega,by omega⟩<|G O<|W ?_
     refine ⟨k+1,⟨by omega,(by rw [hp,qR hx,List.flatMap_cons,List.all_append,List.all_cons,c3,all_end hq (by omega)];rfl)⟩,(by omega),Weak.mk [true] ⟨U,U,T⟩ O⟩
  ·try simp only [sx] at c2
   refine qO<|Y O<|G O<|W<|zO<|zV O ?_
   exact congrArg vB (form_yes c1 (by rw [hp,wB (by omega)];rfl))
theorem zQt (e:Ex) (ih:∀a,a∈e.Args->a.wt<=6000000000000->Pur cfg 214 [vE a] (vI (dQ a))) (he:e.wt<=6000000000000):
    Pur cfg 214 [vE e] (vI (dQ e)):=by
 refine zW Tryz.func214 O Tryz.ntmps214 Tryz.results214 O ?_
 intro z hz
 obtain ⟨hL,hI,hA⟩:=e.parts he
 refine Y O<|zY O O (qN O O) ?_
 rintro _ _ ⟨b1,rfl,rfl⟩
 refine G O<|W<|zM<|zR<|Y O<|zP yG (J 0 O) O<|qQ O ok258 (ref14_plain e he) ⟨U,O,T⟩<|wE O<|G O<|W<|zH O (fun c1=>?_) (fun c1=>?_)
 ·try simp only [sx] at c1
  refine Y O<|G O<|W<|zO<|zV O ?_
  exact congrArg vI (by rw [zFb,show bS e=5 by simp only [bS,c1];rfl];rfl)
 ·try simp only [sx] at c1
  refine Y O<|zP yG (J 0 O) O<|qQ O ok259 (ref14_named e he) ⟨U,O,T⟩<|wE O<|G O<|W<|zH O (fun c2=>?_) (fun c2=>?_)
  ·try simp only [sx] at c2
   refine Y O<|G O<|W<|zO<|zV O ?_
   exact congrArg vI (by rw [zFb,show bS e=7 by simp only [bS,c1,c2];rfl];rfl)
  ·try simp only [sx] at c2
   refine Y O<|zP yG (J 0 O) O<|qQ O ok260 (ref14_ranked e he) ⟨U,O,T⟩<|wE O<|G O<|W<|zH O (fun c3=>?_) (fun c3=>?_)
   ·try simp only [sx] at c3
    refine Y O<|G O<|W<|zO<|zV O ?_
    exact congrArg vI (by rw [zFb,show bS e=11 by simp only [bS,c1,c2,c3];rfl];rfl)
   ·try simp only [sx] at c3
    refine Y O<|zP yG (J 0 O) O<|qQ O ok261 (ref14_typed e he) ⟨U,O,T⟩<|wE O<|G O<|W<|zH O (fun c4=>?_) (fun c4=>?_)
    ·try simp only [sx] at c4
     refine Y O<|G O<|W<|zO<|zV O ?_
     exact congrArg vI (by rw [zFb,show bS e=10 by simp only [bS,c1,c2,c3,c4];rfl];rfl)
    ·try simp only [sx] at c4
     refine Y O<|zP yG (J 0 O) O<|qQ O ok262 (ref14_formed e he (types_ty c4)) ⟨U,O,T⟩<|wE O<|G O<|W<|zH O (fun c5=>?_) (fun c5=>?_)
     ·try simp only [sx] at c5
      refine Y O<|G O<|W<|zO<|zV O ?_
      exact congrArg vI (by rw [zFb,show bS e=1 by simp only [bS,c1,c2,c3,c4,c5];rfl];rfl)
     ·try simp only [sx] at c5
      have hn:bS e=0:=by simp only [bS,c1,c2,c3,c4,c5];rfl
      refine zN<|zM<|Y O<|G O<|W<|zR<|qC ⟨[(3,.c _),(1,.c _)],[_]⟩ (Weak.mk [true] ⟨U,U,T⟩ O)<|qG 1 0 O O (Nat) (fun k=>[(3,vI k)]) (fun k=>[]) (fun k=>k<=e.Args.length/\(rB e.Args=rB (e.Args.drop k))) (fun k=>e.Args.length-k) ⟨0,⟨by omega,O⟩,Weak.mk [true] ⟨U,U,T⟩ O⟩ ?_
      rintro k ⟨hk,hp⟩
      refine zM<|Y O<|G O<|zF O kO<|zK zAj (J 0 O) O<|qB O el42<|yI O<|W<|zH O (fun c6=>?_) (fun c6=>?_)
      ·try simp only [sx] at c6
       obtain ⟨a,ha⟩:=qU e.Args k (by omega)
       refine zN<|zM<|zR<|Y O<|zF O kO<|zK zAj (J 0 O) O<|G O<|qJ O el42 (by omega) (zBj (by assumption))<|zP yG qE O<|qQ O ok214 (ih a (zX ha) (by have:=Ex.arg_wt (zX ha);omega)) ⟨U,O,T⟩<|G O<|W<|Y O<|G O<|yW O<|W<|zH O (fun c7=>?_) (fun c7=>?_)
       ·try simp only [sx] at c7
        refine Y O<|G O<|G O<|W<|zO<|zV O ?_
        exact congrArg vI (by rw [zFb e,hn,kR rfl,cond_true,hp,qR ha,zMz,yD c7];rfl)
       ·try simp only [sx] at c7
        refine zN<|zT O<|G O<|qK O ⟨by omega,by omega⟩<|G O<|W ?_
        refine ⟨k+1,⟨by omega,(by rw [hp,qR ha,zMz,kR c7];rfl)⟩,(by omega),Weak.mk [true] ⟨U,U,T⟩ O⟩
      ·try simp only [sx] at c6
       refine qO<|Y O<|G O<|W<|zO<|zV O ?_
       exact congrArg vI (by rw [zFb,hn,kR rfl,cond_true,hp,wB (by omega)];rfl)
theorem ref14_part (e:Ex) (he:e.wt<=6000000000000):Pur cfg 214 [vE e] (vI (dQ e)):=by
  induction e using Ex.ind with
  |_ e ih=>exact zQt e ih he
theorem zIc (n:Nat) (ih:n≠0->∀(a:Ex) (l:Int),a.wt<=6000000000000->l=n->Pur cfg 220 [vE a,vI l] (vI (lA (n-1) a))) (hn:n<=100) (e:Ex) (l:Int) (he:e.wt<=6000000000000) (hl:l=n+1):
    Pur cfg 220 [vE e,vI l] (vI (lA n e)):=by
 refine zW Tryz.func220 O Tryz.ntmps220 Tryz.results220 O ?_
 intro z hz
 obtain ⟨hL,hI,hA⟩:=e.parts he
 refine Y O<|zY O O (qN O O) ?_
 rintro _ _ ⟨b1,rfl,rfl⟩
 refine G O<|W<|zM<|Y O<|G O<|qA O (wU O O O)<|W<|zH O (fun c1=>?_) (fun c1=>?_)
 ·try simp only [sx] at c1
  obtain rfl:n=0:=by omega
  refine Y O<|G O<|G O<|W<|zO<|zV O ?_
  exact congrArg vI (by rw [hl];rfl)
 ·try simp only [sx] at c1
  obtain ⟨m,rfl⟩:∃m,n=m+1:=⟨n-1,by omega⟩
  refine zN<|Y O<|G O<|W<|zM<|Y O<|zF O kO<|zK zAj (J 0 O) O<|qB O el42<|G O<|W<|zR<|qC ⟨[(14,.c _),(5,.c _),(1,.c _),(12,.c _),(13,.c _)],[]⟩ (Weak.mk [false] ⟨U,U,U,U,U,T⟩ O)<|qG 2 0 O O (Nat×Int) (fun ⟨k,d⟩=>[(14,vI k),(5,vI d)]) (fun ⟨k,d⟩=>[]) (fun ⟨k,d⟩=>k<=e.Args.length/\(1<=d)/\(d<=m+2)/\(lA (m+1) e=rL (lA m) d (e.Args.drop k))) (fun ⟨k,d⟩=>e.Args.length-k) ⟨⟨0,1⟩,⟨by omega,by omega,by omega,O⟩,Weak.mk [] ⟨U,VLe.of_eq (O),U,U,U,T⟩ O⟩ ?_
  rintro ⟨k,d⟩ ⟨hk,hd1,hd2,hd3⟩
  show AWP _ _ _ _ _ ⟨[(14,vI k),(5,vI d)]++_,[]++_⟩
  refine Y O<|yI O<|W<|zM<|zH O (fun c2=>?_) (fun c2=>?_)
  ·try simp only [sx] at c2
   obtain ⟨a,ha⟩:=qU e.Args k (by omega)
   have hda:=depT_le m a
   refine zN<|zM<|zR<|Y O<|qJ O el42 (by omega) (zBj (by assumption))<|zP yG qE O<|zY O O (qF [none,none,none,none,none,none,none,none,none,none,some 2,some 4,some 13] O zr44 O) ?_
   rintro _ _ ⟨b2,rfl,rfl⟩
   refine rStR 0 sz44 O<|W<|zT O<|G O<|zP yG (J 0 O) O<|G O<|qA O (kP O O O ⟨by omega,by omega⟩)<|qQ O ok220 (show Pur cfg 220 [vE a,vI (l-1)] (vI (lA m a)) from ih (by omega) a _ (by have:=Ex.arg_wt (zX ha);omega) (by omega)) ⟨U,O,U,O,T⟩<|qK O ⟨by omega,by omega⟩<|qA O (det_max O O O)<|G O<|W<|zT O<|qK O ⟨by omega,by omega⟩<|G O<|W ?_
   refine ⟨⟨k+1,max d (1+lA m a)⟩,⟨by omega,by omega,by omega,by rw [hd3,qR ha,rL]⟩,(by show e.Args.length-(k+1)<e.Args.length-k;omega),Weak.mk [false] ⟨U,U,U,U,U,T⟩ O⟩
  ·try simp only [sx] at c2
   refine qO<|Y O<|G O<|G O<|W<|zO<|zV O ?_
   exact congrArg vI (by rw [hd3,wB (by omega)];rfl)
theorem expr_depth (n:Nat) (e:Ex) (l:Int) (hn:n<=100) (he:e.wt<=6000000000000) (hl:l=n+1):Pur cfg 220 [vE e,vI l] (vI (lA n e)):=by
  induction n generalizing e l with
  |zero=>exact zIc 0 (fun h=>absurd rfl h) hn e l he hl
  |succ n ih=>exact zIc (n+1) (fun _ a l h1 h2=>ih a l (by omega) h1 (by omega)) hn e l he hl
theorem zHb (n:Nat) (ih:n≠0->∀(a:Ex) (l:Int),a.wt<=6000000000000->l=n->Pur cfg 257 [vE a,vI l] (vI (lA (n-1) a))) (hn:n<=100) (e:Ex) (l:Int) (he:e.wt<=6000000000000) (hl:l=n+1):
    Pur cfg 257 [vE e,vI l] (vI (lA n e)):=by
 refine zW Tryz.func257 O Tryz.ntmps257 Tryz.results257 O ?_
 intro z hz
 obtain ⟨hL,hI,hA⟩:=e.parts he
 refine Y O<|zY O O (qN O O) ?_
 rintro _ _ ⟨b1,rfl,rfl⟩
 refine G O<|W<|Y O<|G O<|W<|zM<|Y O<|G O<|W<|zR<|qC ⟨[(6,.c _),(5,.c _),(1,.c _),(2,.c _)],[_]⟩ (Weak.mk [true] ⟨U,U,U,U,T⟩ O)<|qG 2 0 O O (Nat×Int) (fun ⟨k,d⟩=>[(6,vI k),(5,vI d)]) (fun ⟨k,d⟩=>[]) (fun ⟨k,d⟩=>k<=e.Args.length/\(1<=d)/\(d<=n+1)/\(n≠0->lA n e=rL (lA (n-1)) d (e.Args.drop k))/\(n=0->d=1)) (fun ⟨k,d⟩=>e.Args.length-k) ⟨⟨0,1⟩,⟨by omega,by omega,by omega,fun h0=>dep_start h0,fun _=>O⟩,Weak.mk [true] ⟨U,VLe.of_eq (O),U,U,T⟩ O⟩ ?_
 rintro ⟨k,d⟩ ⟨hk,hd1,hd2,hd3,hd4⟩
 show AWP _ _ _ _ _ ⟨[(6,vI k),(5,vI d)]++_,[]++_⟩
 refine zM<|Y O<|G O<|zF O kO<|zK zAj (J 0 O) O<|qB O el42<|yI O<|G O<|rL0 O (fun g3_5=>zS O O) O<|rL1 13 O (fun g3_5=>yL O O O) O<|yZ O (fun h=>h)<|W<|zH O (fun c1=>?_) (fun c1=>?_)
 ·try simp only [sx] at c1
  obtain ⟨a,ha⟩:=qU e.Args k (by omega)
  have hda:=depT_le (n-1) a
  refine zN<|zM<|zR<|zT O<|G O<|zF O kO<|zK zAj (J 0 O) O<|G O<|qJ O el42 (by omega) (zBj (by assumption))<|zP yG qE O<|G O<|qA O (kP O O O ⟨by omega,by omega⟩)<|qQ O ok257 (ih (by omega) a _ (by have:=Ex.arg_wt (zX ha);omega) (by omega)) ⟨U,O,U,O,T⟩<|qK O ⟨by omega,by omega⟩<|qA O (det_max O O O)<|G O<|W<|zT O<|G O<|qK O ⟨by omega,by omega⟩<|G O<|W ?_
  refine ⟨⟨k+1,max d (1+lA (n-1) a)⟩,⟨by omega,by omega,by omega,fun h0=>by rw [hd3 h0,qR ha,rL],fun h0=>by omega⟩,(by show e.Args.length-(k+1)<e.Args.length-k;omega),Weak.mk [true] ⟨U,U,U,U,T⟩ O⟩
 ·try simp only [sx] at c1
  refine qO<|Y O<|G O<|G O<|W<|zO<|zV O ?_
  exact congrArg vI (dep_end hl (by omega) hd3 hd4)
theorem ref14_depth (n:Nat) (e:Ex) (l:Int) (hn:n<=100) (he:e.wt<=6000000000000) (hl:l=n+1):Pur cfg 257 [vE e,vI l] (vI (lA n e)):=by
  induction n generalizing e l with
  |zero=>exact zHb 0 (fun h=>absurd rfl h) hn e l he hl
  |succ n ih=>exact zHb (n+1) (fun _ a l h1 h2=>ih a l (by omega) h1 (by omega)) hn e l he hl
theorem expr_Depth (e:Ex) (he:e.wt<=6000000000000):
    Pur cfg 166 [vE e] (vI (lA 40 e)):=by
 refine zW Tryz.func166 O Tryz.ntmps166 Tryz.results166 O ?_
 intro z hz
 refine Y O<|zY O O (qN O O) ?_
 rintro _ _ ⟨b1,rfl,rfl⟩
 refine G O<|W<|Y O<|zP yG (J 0 O) O<|qQ O ok220 (expr_depth 40 e 41 (by omega) he (by omega)) ⟨U,O,U,O,T⟩<|G O<|W<|zO<|zV O ?_
 exact O
theorem ref14_Depth (e:Ex) (he:e.wt<=6000000000000):
    Pur cfg 213 [vE e] (vI (lA 40 e)):=by
 refine zW Tryz.func213 O Tryz.ntmps213 Tryz.results213 O ?_
 intro z hz
 refine Y O<|zY O O (qN O O) ?_
 rintro _ _ ⟨b1,rfl,rfl⟩
 refine G O<|W<|Y O<|zP yG (J 0 O) O<|qQ O ok257 (ref14_depth 40 e 41 (by omega) he (by omega)) ⟨U,O,U,O,T⟩<|G O<|W<|zO<|zV O ?_
 exact O
theorem zQs (e:Ex) (ih:∀a,a∈e.Args->∀(m:Nat) (l:Int),a.wt<=6000000000000->m<=1000000->l=m->Pur cfg 93 [vE a,vI l] (vI (rJ a m))) (m:Nat) (l:Int) (he:e.wt<=6000000000000) (hm:m<=1000000) (hl:l=m):
    Pur cfg 93 [vE e,vI l] (vI (rJ e m)):=by
 refine zW Tryz.func93 O Tryz.ntmps93 Tryz.results93 O ?_
 intro z hz
 obtain ⟨hL,hI,hA⟩:=e.parts he
 refine Y O<|zY O O (qN O O) ?_
 rintro _ _ ⟨b1,rfl,rfl⟩
 refine G O<|W<|Y O<|G O<|W<|zM<|Y O<|G O<|W<|zR<|qC ⟨[(6,.c _),(5,.c _),(1,.c _),(2,.c _)],[_]⟩ (Weak.mk [true] ⟨U,U,U,U,T⟩ O)<|qG 2 0 O O (Nat×Nat) (fun ⟨k,n⟩=>[(6,vI k),(5,vI n)]) (fun ⟨k,n⟩=>[]) (fun ⟨k,n⟩=>k<=e.Args.length/\(n<=m+1)/\(rJ e m=pX (e.Args.drop k) m n)) (fun ⟨k,n⟩=>e.Args.length-k) ⟨⟨0,1⟩,⟨by omega,by omega,sizE_eq e m⟩,Weak.mk [true] ⟨U,VLe.of_eq (O),U,U,T⟩ O⟩ ?_
 rintro ⟨k,n⟩ ⟨hk,hn1,hn2⟩
 show AWP _ _ _ _ _ ⟨[(6,vI k),(5,vI n)]++_,[]++_⟩
 refine zM<|Y O<|G O<|zF O kO<|zK zAj (J 0 O) O<|qB O el42<|yI O<|G O<|rL0 O (fun g3_5=>zS O O) O<|rL0 O (fun g3_5=>zS O O) O<|rLz [(13,_),(14,_)] O gv1 ⟨O,O,O,O,T⟩ (fun g3_5=>wU O O O) O<|yZ O (fun h=>h)<|W<|zH O (fun c1=>?_) (fun c1=>?_)
 ·try simp only [sx] at c1
  obtain ⟨a,ha⟩:=qU e.Args k (by omega)
  have hsa:=sizE_min a (m-n)
  refine zN<|zM<|zR<|zT O<|G O<|zF O kO<|zK zAj (J 0 O) O<|G O<|qJ O el42 (by omega) (zBj (by assumption))<|zP yG qE O<|G O<|G O<|qA O (kP O O O ⟨by omega,by omega⟩)<|qQ O ok93 (ih a (zX ha) (m-n) _ (by have:=Ex.arg_wt (zX ha);omega) (by omega) (by omega)) ⟨U,O,U,O,T⟩<|qK O ⟨by omega,by omega⟩<|G O<|W<|zT O<|G O<|qK O ⟨by omega,by omega⟩<|G O<|W ?_
  refine ⟨⟨k+1,n+rJ a (m-n)⟩,⟨by omega,by omega,by rw [hn2,qR ha,pX,if_pos (by omega)]⟩,(by show e.Args.length-(k+1)<e.Args.length-k;omega),Weak.mk [true] ⟨U,VLe.of_eq (congrArg vI (by omega)),U,U,T⟩ O⟩
 ·try simp only [sx] at c1
  refine qO<|Y O<|G O<|G O<|W<|zO<|zV O ?_
  exact congrArg vI (by rw [hn2];exact congrArg Nat.cast (siz_end hl (by omega)))
theorem ref14_size (e:Ex) (m:Nat) (l:Int) (he:e.wt<=6000000000000) (hm:m<=1000000) (hl:l=m):Pur cfg 93 [vE e,vI l] (vI (rJ e m)):=by
  induction e using Ex.ind generalizing m l with
  |_ e ih=>exact zQs e (fun a ha m l h1 h2 h3=>ih a ha m l h1 h2 h3) m l he hm hl
theorem ref14_Size (e:Ex) (he:e.wt<=6000000000000):
    Pur cfg 40 [vE e] (vI (szT e)):=by
 refine zW Tryz.func40 O Tryz.ntmps40 Tryz.results40 O ?_
 intro z hz
 refine Y O<|zY O O (qN O O) ?_
 rintro _ _ ⟨b1,rfl,rfl⟩
 refine G O<|W<|Y O<|zP yG (J 0 O) O<|qQ O ok93 (ref14_size e 2000 2000 he (by omega) O) ⟨U,O,U,O,T⟩<|qA O (det_min O O O)<|G O<|W<|zO<|zV O ?_
 exact congrArg vI (by rw [sizE_min,szT];omega)
theorem zDi (e:Ex) (he:e.wt<=6000000000000):
    Pur cfg 160 [vE e] (vI (bP e)):=by
 refine zW Tryz.func160 O Tryz.ntmps160 Tryz.results160 O ?_
 intro z hz
 refine Y O<|zY O O (qN O O) ?_
 rintro _ _ ⟨b1,rfl,rfl⟩
 refine G O<|W<|zM<|Y O<|zP yG (J 0 O) O<|qQ O ok213 (ref14_Depth e he) ⟨U,O,T⟩<|qA O (yL O O O)<|W<|zH O (fun c1=>?_) (fun c1=>?_)
 ·try simp only [sx] at c1
  refine Y O<|G O<|W<|zO<|zV O ?_
  rw [bP,kR c1];rfl
 ·try simp only [sx] at c1
  refine zN<|zM<|Y O<|zP yG (J 0 O) O<|qQ O ok40 (ref14_Size e he) ⟨U,O,T⟩<|qA O (yL O O O)<|W<|zH O (fun c2=>?_) (fun c2=>?_)
  ·try simp only [sx] at c2
   refine Y O<|G O<|W<|zO<|zV O ?_
   rw [bP,yD (by omega),kR c2];rfl
  ·try simp only [sx] at c2
   refine zN<|Y O<|zP yG (J 0 O) O<|qQ O ok214 (ref14_part e he) ⟨U,O,T⟩<|G O<|W<|zO<|zV O ?_
   rw [bP,yD (by omega),yD (by omega)];rfl
end Go.W
