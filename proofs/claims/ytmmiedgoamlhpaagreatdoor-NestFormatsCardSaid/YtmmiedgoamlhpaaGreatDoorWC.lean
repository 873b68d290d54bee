/-
  Walks: what functions of the program compute. Printed by wip/gen/mk2.py.
  Conditions: none.
-/
import Derived.Test.YtmmiedgoamlhpaaGreatDoorWB
set_option linter.unusedSimpArgs false
set_option linter.unusedVariables false
set_option maxRecDepth 10000
namespace Go.W
open Go Go.Eng Go.Proofs Go.L41 Go.Br
attribute [local irreducible] AWP RWP TD finQ
theorem kL:aggT Tryz.prog 101=some 2:=by kernel_rfl
theorem qX:aggT Tryz.prog 108=some 13:=by kernel_rfl
theorem wV:elemT Tryz.prog 102=some (101,2,32):=by kernel_rfl
theorem wE:elemT Tryz.prog 106=some (108,13,160):=by kernel_rfl
theorem zAh:fieldT Tryz.prog 104 0=some (0,101):=by kernel_rfl
theorem zAg:fieldT Tryz.prog 104 1=some (2,9):=by kernel_rfl
theorem wC:fieldT Tryz.prog 104 2=some (3,102):=by kernel_rfl
theorem kA:fieldT Tryz.prog 108 0=some (0,3):=by kernel_rfl
theorem zBs:fieldT Tryz.prog 108 1=some (1,9):=by kernel_rfl
theorem zDm:fieldT Tryz.prog 108 2=some (2,63):=by kernel_rfl
theorem zAo:fieldT Tryz.prog 108 3=some (4,65):=by kernel_rfl
theorem zCs:fieldT Tryz.prog 108 4=some (9,101):=by kernel_rfl
theorem yV:fieldT Tryz.prog 108 5=some (11,105):=by kernel_rfl
theorem yY:fieldT Tryz.prog 108 6=some (12,106):=by kernel_rfl
theorem fl63:flatK Tryz.prog 63=some [.int,.int]:=by kernel_rfl
theorem ok63:callOk Tryz.prog 63=true:=by kernel_rfl
theorem ok129:callOk Tryz.prog 129=true:=by kernel_rfl
theorem ok146:callOk Tryz.prog 146=true:=by kernel_rfl
theorem ok161:callOk Tryz.prog 161=true:=by kernel_rfl
theorem ok193:callOk Tryz.prog 193=true:=by kernel_rfl
theorem ok218:callOk Tryz.prog 218=true:=by kernel_rfl
theorem ok219:callOk Tryz.prog 219=true:=by kernel_rfl
theorem ok220:callOk Tryz.prog 220=true:=by kernel_rfl
theorem ok269:callOk Tryz.prog 269=true:=by kernel_rfl
theorem ok281:callOk Tryz.prog 281=true:=by kernel_rfl
theorem ok282:callOk Tryz.prog 282=true:=by kernel_rfl
theorem ok283:callOk Tryz.prog 283=true:=by kernel_rfl
theorem ok284:callOk Tryz.prog 284=true:=by kernel_rfl
theorem ok285:callOk Tryz.prog 285=true:=by kernel_rfl
theorem ok286:callOk Tryz.prog 286=true:=by kernel_rfl
theorem ok287:callOk Tryz.prog 287=true:=by kernel_rfl
theorem ok293:callOk Tryz.prog 293=true:=by kernel_rfl
theorem ok332:callOk Tryz.prog 332=true:=by kernel_rfl
theorem ok333:callOk Tryz.prog 333=true:=by kernel_rfl
theorem ok334:callOk Tryz.prog 334=true:=by kernel_rfl
theorem ok335:callOk Tryz.prog 335=true:=by kernel_rfl
theorem ok336:callOk Tryz.prog 336=true:=by kernel_rfl
theorem ok337:callOk Tryz.prog 337=true:=by kernel_rfl
theorem ok338:callOk Tryz.prog 338=true:=by kernel_rfl
theorem ok339:callOk Tryz.prog 339=true:=by kernel_rfl
theorem ok345:callOk Tryz.prog 345=true:=by kernel_rfl
theorem ok346:callOk Tryz.prog 346=true:=by kernel_rfl
theorem zAk:oneT Tryz.prog 102=true:=by kernel_rfl
theorem kF:oneT Tryz.prog 105=true:=by kernel_rfl
theorem kU:oneT Tryz.prog 106=true:=by kernel_rfl
theorem pl63:placesT Tryz.prog 63=some [(0,1),(1,1)]:=by kernel_rfl
theorem sz104:(Tryz.prog.info? 104).map (·.size)=some 4:=by kernel_rfl
theorem zNb:(Tryz.prog.info? 108).map (·.size)=some 13:=by kernel_rfl
theorem un4:Tryz.prog.underlying 4=some .bool:=by kernel_rfl
theorem zr63:zeroT Tryz.prog 63=some [(Value.int IntKind.i64 0),(Value.int IntKind.i64 0)]:=by kernel_rfl
theorem zLf:zeroT Tryz.prog 104=some [(Value.int IntKind.i64 0),(Value.slice none 0 0),(Value.string (ByteArray.mk #[])),(Value.slice none 0 0)]:=by kernel_rfl
theorem zDx:zeroT Tryz.prog 108=some [(Value.int IntKind.i64 0),(Value.string (ByteArray.mk #[])),(Value.int IntKind.i64 0),(Value.int IntKind.i64 0),(Value.int IntKind.i64 0),(Value.int IntKind.i64 0),(Value.int IntKind.i64 0),(Value.int IntKind.i64 0),(Value.int IntKind.i64 0),(Value.int IntKind.i64 0),(Value.slice none 0 0),(Value.slice none 0 0),(Value.slice none 0 0)]:=by kernel_rfl
theorem expr_operands (op:Int):
    Pur cfg 337 [vI op] (vI (nArgs op)):=by
 refine zS Tryz.func337 O Tryz.ntmps337 Tryz.results337 O ?_
 intro z hz
 refine A O<|G O<|R<|zK<|A O<|G O<|R<|zR<|zK<|A O<|L O<|G O<|R<|zC O (fun c1=>?_) (fun c1=>?_)
 ·try simp only [sx] at c1
  refine zI<|zC O (fun c3=>?_) (fun c3=>?_)
  ·try simp only [sx] at c3
   refine A O<|G O<|R<|zF<|zQ O ?_
   exact congrArg vI (by unfold nArgs;(repeat' split)<;>omega)
  ·try simp only [sx] at c3
   refine zK<|A O<|L O<|G O<|R<|zC O (fun c4=>?_) (fun c4=>?_)
   ·try simp only [sx] at c4
    refine zI<|zC O (fun c6=>?_) (fun c6=>?_)
    ·try simp only [sx] at c6
     refine A O<|G O<|R<|zF<|zQ O ?_
     exact congrArg vI (by unfold nArgs;(repeat' split)<;>omega)
    ·try simp only [sx] at c6
     refine A O<|L O<|G O<|R<|zC O (fun c7=>?_) (fun c7=>?_)
     ·try simp only [sx] at c7
      refine A O<|G O<|R<|zF<|zQ O ?_
      exact congrArg vI (by unfold nArgs;(repeat' split)<;>omega)
     ·try simp only [sx] at c7
      refine zI<|A O<|G O<|R<|zF<|zQ O ?_
      exact congrArg vI (by unfold nArgs;(repeat' split)<;>omega)
   ·try simp only [sx] at c4
    refine A O<|L O<|G O<|R<|zC O (fun c5=>?_) (fun c5=>?_)
    ·try simp only [sx] at c5
     refine zI<|zC O (fun c6=>?_) (fun c6=>?_)
     ·try simp only [sx] at c6
      refine A O<|G O<|R<|zF<|zQ O ?_
      exact congrArg vI (by unfold nArgs;(repeat' split)<;>omega)
     ·try simp only [sx] at c6
      refine A O<|L O<|G O<|R<|zC O (fun c7=>?_) (fun c7=>?_)
      ·try simp only [sx] at c7
       refine A O<|G O<|R<|zF<|zQ O ?_
       exact congrArg vI (by unfold nArgs;(repeat' split)<;>omega)
      ·try simp only [sx] at c7
       refine zI<|A O<|G O<|R<|zF<|zQ O ?_
       exact congrArg vI (by unfold nArgs;(repeat' split)<;>omega)
    ·try simp only [sx] at c5
     refine zN O<|L O<|G O<|R<|zC O (fun c6=>?_) (fun c6=>?_)
     ·try simp only [sx] at c6
      refine A O<|G O<|R<|zF<|zQ O ?_
      exact congrArg vI (by unfold nArgs;(repeat' split)<;>omega)
     ·try simp only [sx] at c6
      refine A O<|L O<|G O<|R<|zC O (fun c7=>?_) (fun c7=>?_)
      ·try simp only [sx] at c7
       refine A O<|G O<|R<|zF<|zQ O ?_
       exact congrArg vI (by unfold nArgs;(repeat' split)<;>omega)
      ·try simp only [sx] at c7
       refine zI<|A O<|G O<|R<|zF<|zQ O ?_
       exact congrArg vI (by unfold nArgs;(repeat' split)<;>omega)
 ·try simp only [sx] at c1
  refine A O<|L O<|G O<|R<|zC O (fun c2=>?_) (fun c2=>?_)
  ·try simp only [sx] at c2
   refine zI<|zC O (fun c3=>?_) (fun c3=>?_)
   ·try simp only [sx] at c3
    refine A O<|G O<|R<|zF<|zQ O ?_
    exact congrArg vI (by unfold nArgs;(repeat' split)<;>omega)
   ·try simp only [sx] at c3
    refine zK<|A O<|L O<|G O<|R<|zC O (fun c4=>?_) (fun c4=>?_)
    ·try simp only [sx] at c4
     refine zI<|zC O (fun c6=>?_) (fun c6=>?_)
     ·try simp only [sx] at c6
      refine A O<|G O<|R<|zF<|zQ O ?_
      exact congrArg vI (by unfold nArgs;(repeat' split)<;>omega)
     ·try simp only [sx] at c6
      refine A O<|L O<|G O<|R<|zC O (fun c7=>?_) (fun c7=>?_)
      ·try simp only [sx] at c7
       refine A O<|G O<|R<|zF<|zQ O ?_
       exact congrArg vI (by unfold nArgs;(repeat' split)<;>omega)
      ·try simp only [sx] at c7
       refine zI<|A O<|G O<|R<|zF<|zQ O ?_
       exact congrArg vI (by unfold nArgs;(repeat' split)<;>omega)
    ·try simp only [sx] at c4
     refine A O<|L O<|G O<|R<|zC O (fun c5=>?_) (fun c5=>?_)
     ·try simp only [sx] at c5
      refine zI<|zC O (fun c6=>?_) (fun c6=>?_)
      ·try simp only [sx] at c6
       refine A O<|G O<|R<|zF<|zQ O ?_
       exact congrArg vI (by unfold nArgs;(repeat' split)<;>omega)
      ·try simp only [sx] at c6
       refine A O<|L O<|G O<|R<|zC O (fun c7=>?_) (fun c7=>?_)
       ·try simp only [sx] at c7
        refine A O<|G O<|R<|zF<|zQ O ?_
        exact congrArg vI (by unfold nArgs;(repeat' split)<;>omega)
       ·try simp only [sx] at c7
        refine zI<|A O<|G O<|R<|zF<|zQ O ?_
        exact congrArg vI (by unfold nArgs;(repeat' split)<;>omega)
     ·try simp only [sx] at c5
      refine zN O<|L O<|G O<|R<|zC O (fun c6=>?_) (fun c6=>?_)
      ·try simp only [sx] at c6
       refine A O<|G O<|R<|zF<|zQ O ?_
       exact congrArg vI (by unfold nArgs;(repeat' split)<;>omega)
      ·try simp only [sx] at c6
       refine A O<|L O<|G O<|R<|zC O (fun c7=>?_) (fun c7=>?_)
       ·try simp only [sx] at c7
        refine A O<|G O<|R<|zF<|zQ O ?_
        exact congrArg vI (by unfold nArgs;(repeat' split)<;>omega)
       ·try simp only [sx] at c7
        refine zI<|A O<|G O<|R<|zF<|zQ O ?_
        exact congrArg vI (by unfold nArgs;(repeat' split)<;>omega)
  ·try simp only [sx] at c2
   refine zN O<|L O<|G O<|R<|zC O (fun c3=>?_) (fun c3=>?_)
   ·try simp only [sx] at c3
    refine A O<|G O<|R<|zF<|zQ O ?_
    exact congrArg vI (by unfold nArgs;(repeat' split)<;>omega)
   ·try simp only [sx] at c3
    refine zK<|A O<|L O<|G O<|R<|zC O (fun c4=>?_) (fun c4=>?_)
    ·try simp only [sx] at c4
     refine zI<|zC O (fun c6=>?_) (fun c6=>?_)
     ·try simp only [sx] at c6
      refine A O<|G O<|R<|zF<|zQ O ?_
      exact congrArg vI (by unfold nArgs;(repeat' split)<;>omega)
     ·try simp only [sx] at c6
      refine A O<|L O<|G O<|R<|zC O (fun c7=>?_) (fun c7=>?_)
      ·try simp only [sx] at c7
       refine A O<|G O<|R<|zF<|zQ O ?_
       exact congrArg vI (by unfold nArgs;(repeat' split)<;>omega)
      ·try simp only [sx] at c7
       refine zI<|A O<|G O<|R<|zF<|zQ O ?_
       exact congrArg vI (by unfold nArgs;(repeat' split)<;>omega)
    ·try simp only [sx] at c4
     refine A O<|L O<|G O<|R<|zC O (fun c5=>?_) (fun c5=>?_)
     ·try simp only [sx] at c5
      refine zI<|zC O (fun c6=>?_) (fun c6=>?_)
      ·try simp only [sx] at c6
       refine A O<|G O<|R<|zF<|zQ O ?_
       exact congrArg vI (by unfold nArgs;(repeat' split)<;>omega)
      ·try simp only [sx] at c6
       refine A O<|L O<|G O<|R<|zC O (fun c7=>?_) (fun c7=>?_)
       ·try simp only [sx] at c7
        refine A O<|G O<|R<|zF<|zQ O ?_
        exact congrArg vI (by unfold nArgs;(repeat' split)<;>omega)
       ·try simp only [sx] at c7
        refine zI<|A O<|G O<|R<|zF<|zQ O ?_
        exact congrArg vI (by unfold nArgs;(repeat' split)<;>omega)
     ·try simp only [sx] at c5
      refine zN O<|L O<|G O<|R<|zC O (fun c6=>?_) (fun c6=>?_)
      ·try simp only [sx] at c6
       refine A O<|G O<|R<|zF<|zQ O ?_
       exact congrArg vI (by unfold nArgs;(repeat' split)<;>omega)
      ·try simp only [sx] at c6
       refine A O<|L O<|G O<|R<|zC O (fun c7=>?_) (fun c7=>?_)
       ·try simp only [sx] at c7
        refine A O<|G O<|R<|zF<|zQ O ?_
        exact congrArg vI (by unfold nArgs;(repeat' split)<;>omega)
       ·try simp only [sx] at c7
        refine zI<|A O<|G O<|R<|zF<|zQ O ?_
        exact congrArg vI (by unfold nArgs;(repeat' split)<;>omega)
theorem wD (e:Ex):
    Pur cfg 193 [vE e] (vB (isCond e)):=by
 refine zS Tryz.func193 O Tryz.ntmps193 Tryz.results193 O ?_
 intro z hz
 refine A O<|zU O O (qN O O) ?_
 rintro _ _ ⟨b1,rfl,rfl⟩
 refine G O<|R<|A O<|zH O kA<|zM one3 (zD 0 O) O<|zT O (zAa O O O)<|G O<|rL0 O (fun g1_3=>zE O kA O) O<|rL1 7 O (fun g1_3=>zJ O one3 O (zD 0 O) O) O<|rL1 8 O (fun g1_3=>zAa O O O) O<|yZ O (fun h=>h)<|G O<|R<|zF<|zQ O ?_
 exact O
theorem zNy (op:Int):
    Pur cfg 345 [vI op] (vI (nArgs op)):=by
 refine zS Tryz.func345 O Tryz.ntmps345 Tryz.results345 O ?_
 intro z hz
 refine A O<|G O<|R<|zK<|A O<|G O<|R<|zR<|zK<|A O<|L O<|G O<|R<|zC O (fun c1=>?_) (fun c1=>?_)
 ·try simp only [sx] at c1
  refine zI<|zC O (fun c3=>?_) (fun c3=>?_)
  ·try simp only [sx] at c3
   refine A O<|G O<|R<|zF<|zQ O ?_
   exact congrArg vI (by unfold nArgs;(repeat' split)<;>omega)
  ·try simp only [sx] at c3
   refine zK<|A O<|L O<|G O<|R<|zC O (fun c4=>?_) (fun c4=>?_)
   ·try simp only [sx] at c4
    refine zI<|zC O (fun c6=>?_) (fun c6=>?_)
    ·try simp only [sx] at c6
     refine A O<|G O<|R<|zF<|zQ O ?_
     exact congrArg vI (by unfold nArgs;(repeat' split)<;>omega)
    ·try simp only [sx] at c6
     refine A O<|L O<|G O<|R<|zC O (fun c7=>?_) (fun c7=>?_)
     ·try simp only [sx] at c7
      refine A O<|G O<|R<|zF<|zQ O ?_
      exact congrArg vI (by unfold nArgs;(repeat' split)<;>omega)
     ·try simp only [sx] at c7
      refine zI<|A O<|G O<|R<|zF<|zQ O ?_
      exact congrArg vI (by unfold nArgs;(repeat' split)<;>omega)
   ·try simp only [sx] at c4
    refine A O<|L O<|G O<|R<|zC O (fun c5=>?_) (fun c5=>?_)
    ·try simp only [sx] at c5
     refine zI<|zC O (fun c6=>?_) (fun c6=>?_)
     ·try simp only [sx] at c6
      refine A O<|G O<|R<|zF<|zQ O ?_
      exact congrArg vI (by unfold nArgs;(repeat' split)<;>omega)
     ·try simp only [sx] at c6
      refine A O<|L O<|G O<|R<|zC O (fun c7=>?_) (fun c7=>?_)
      ·try simp only [sx] at c7
       refine A O<|G O<|R<|zF<|zQ O ?_
       exact congrArg vI (by unfold nArgs;(repeat' split)<;>omega)
      ·try simp only [sx] at c7
       refine zI<|A O<|G O<|R<|zF<|zQ O ?_
       exact congrArg vI (by unfold nArgs;(repeat' split)<;>omega)
    ·try simp only [sx] at c5
     refine zN O<|L O<|G O<|R<|zC O (fun c6=>?_) (fun c6=>?_)
     ·try simp only [sx] at c6
      refine A O<|G O<|R<|zF<|zQ O ?_
      exact congrArg vI (by unfold nArgs;(repeat' split)<;>omega)
     ·try simp only [sx] at c6
      refine A O<|L O<|G O<|R<|zC O (fun c7=>?_) (fun c7=>?_)
      ·try simp only [sx] at c7
       refine A O<|G O<|R<|zF<|zQ O ?_
       exact congrArg vI (by unfold nArgs;(repeat' split)<;>omega)
      ·try simp only [sx] at c7
       refine zI<|A O<|G O<|R<|zF<|zQ O ?_
       exact congrArg vI (by unfold nArgs;(repeat' split)<;>omega)
 ·try simp only [sx] at c1
  refine A O<|L O<|G O<|R<|zC O (fun c2=>?_) (fun c2=>?_)
  ·try simp only [sx] at c2
   refine zI<|zC O (fun c3=>?_) (fun c3=>?_)
   ·try simp only [sx] at c3
    refine A O<|G O<|R<|zF<|zQ O ?_
    exact congrArg vI (by unfold nArgs;(repeat' split)<;>omega)
   ·try simp only [sx] at c3
    refine zK<|A O<|L O<|G O<|R<|zC O (fun c4=>?_) (fun c4=>?_)
    ·try simp only [sx] at c4
     refine zI<|zC O (fun c6=>?_) (fun c6=>?_)
     ·try simp only [sx] at c6
      refine A O<|G O<|R<|zF<|zQ O ?_
      exact congrArg vI (by unfold nArgs;(repeat' split)<;>omega)
     ·try simp only [sx] at c6
      refine A O<|L O<|G O<|R<|zC O (fun c7=>?_) (fun c7=>?_)
      ·try simp only [sx] at c7
       refine A O<|G O<|R<|zF<|zQ O ?_
       exact congrArg vI (by unfold nArgs;(repeat' split)<;>omega)
      ·try simp only [sx] at c7
       refine zI<|A O<|G O<|R<|zF<|zQ O ?_
       exact congrArg vI (by unfold nArgs;(repeat' split)<;>omega)
    ·try simp only [sx] at c4
     refine A O<|L O<|G O<|R<|zC O (fun c5=>?_) (fun c5=>?_)
     ·try simp only [sx] at c5
      refine zI<|zC O (fun c6=>?_) (fun c6=>?_)
      ·try simp only [sx] at c6
       refine A O<|G O<|R<|zF<|zQ O ?_
       exact congrArg vI (by unfold nArgs;(repeat' split)<;>omega)
      ·try simp only [sx] at c6
       refine A O<|L O<|G O<|R<|zC O (fun c7=>?_) (fun c7=>?_)
       ·try simp only [sx] at c7
        refine A O<|G O<|R<|zF<|zQ O ?_
        exact congrArg vI (by unfold nArgs;(repeat' split)<;>omega)
       ·try simp only [sx] at c7
        refine zI<|A O<|G O<|R<|zF<|zQ O ?_
        exact congrArg vI (by unfold nArgs;(repeat' split)<;>omega)
     ·try simp only [sx] at c5
      refine zN O<|L O<|G O<|R<|zC O (fun c6=>?_) (fun c6=>?_)
      ·try simp only [sx] at c6
       refine A O<|G O<|R<|zF<|zQ O ?_
       exact congrArg vI (by unfold nArgs;(repeat' split)<;>omega)
      ·try simp only [sx] at c6
       refine A O<|L O<|G O<|R<|zC O (fun c7=>?_) (fun c7=>?_)
       ·try simp only [sx] at c7
        refine A O<|G O<|R<|zF<|zQ O ?_
        exact congrArg vI (by unfold nArgs;(repeat' split)<;>omega)
       ·try simp only [sx] at c7
        refine zI<|A O<|G O<|R<|zF<|zQ O ?_
        exact congrArg vI (by unfold nArgs;(repeat' split)<;>omega)
  ·try simp only [sx] at c2
   refine zN O<|L O<|G O<|R<|zC O (fun c3=>?_) (fun c3=>?_)
   ·try simp only [sx] at c3
    refine A O<|G O<|R<|zF<|zQ O ?_
    exact congrArg vI (by unfold nArgs;(repeat' split)<;>omega)
   ·try simp only [sx] at c3
    refine zK<|A O<|L O<|G O<|R<|zC O (fun c4=>?_) (fun c4=>?_)
    ·try simp only [sx] at c4
     refine zI<|zC O (fun c6=>?_) (fun c6=>?_)
     ·try simp only [sx] at c6
      refine A O<|G O<|R<|zF<|zQ O ?_
      exact congrArg vI (by unfold nArgs;(repeat' split)<;>omega)
     ·try simp only [sx] at c6
      refine A O<|L O<|G O<|R<|zC O (fun c7=>?_) (fun c7=>?_)
      ·try simp only [sx] at c7
       refine A O<|G O<|R<|zF<|zQ O ?_
       exact congrArg vI (by unfold nArgs;(repeat' split)<;>omega)
      ·try simp only [sx] at c7
       refine zI<|A O<|G O<|R<|zF<|zQ O ?_
       exact congrArg vI (by unfold nArgs;(repeat' split)<;>omega)
    ·try simp only [sx] at c4
     refine A O<|L O<|G O<|R<|zC O (fun c5=>?_) (fun c5=>?_)
     ·try simp only [sx] at c5
      refine zI<|zC O (fun c6=>?_) (fun c6=>?_)
      ·try simp only [sx] at c6
       refine A O<|G O<|R<|zF<|zQ O ?_
       exact congrArg vI (by unfold nArgs;(repeat' split)<;>omega)
      ·try simp only [sx] at c6
       refine A O<|L O<|G O<|R<|zC O (fun c7=>?_) (fun c7=>?_)
       ·try simp only [sx] at c7
        refine A O<|G O<|R<|zF<|zQ O ?_
        exact congrArg vI (by unfold nArgs;(repeat' split)<;>omega)
       ·try simp only [sx] at c7
        refine zI<|A O<|G O<|R<|zF<|zQ O ?_
        exact congrArg vI (by unfold nArgs;(repeat' split)<;>omega)
     ·try simp only [sx] at c5
      refine zN O<|L O<|G O<|R<|zC O (fun c6=>?_) (fun c6=>?_)
      ·try simp only [sx] at c6
       refine A O<|G O<|R<|zF<|zQ O ?_
       exact congrArg vI (by unfold nArgs;(repeat' split)<;>omega)
      ·try simp only [sx] at c6
       refine A O<|L O<|G O<|R<|zC O (fun c7=>?_) (fun c7=>?_)
       ·try simp only [sx] at c7
        refine A O<|G O<|R<|zF<|zQ O ?_
        exact congrArg vI (by unfold nArgs;(repeat' split)<;>omega)
       ·try simp only [sx] at c7
        refine zI<|A O<|G O<|R<|zF<|zQ O ?_
        exact congrArg vI (by unfold nArgs;(repeat' split)<;>omega)
theorem kV (e:Ex):
    Pur cfg 146 [vE e] (vB (isCond e)):=by
 refine zS Tryz.func146 O Tryz.ntmps146 Tryz.results146 O ?_
 intro z hz
 refine A O<|zU O O (qN O O) ?_
 rintro _ _ ⟨b1,rfl,rfl⟩
 refine G O<|R<|A O<|zH O kA<|zM one3 (zD 0 O) O<|zT O (wO O O O)<|G O<|rL0 O (fun g1_3=>zE O kA O) O<|rL1 7 O (fun g1_3=>zJ O one3 O (zD 0 O) O) O<|rL1 8 O (fun g1_3=>zAa O O O) O<|yZ O (fun h=>h)<|G O<|R<|zF<|zQ O ?_
 exact O
theorem zHp (op i:Int):
    Pur cfg 339 [vI op,vI i] (vB (wantC op i)):=by
 refine zS Tryz.func339 O Tryz.ntmps339 Tryz.results339 O ?_
 intro z hz
 refine A O<|G O<|R<|zK<|A O<|G O<|R<|zR<|zK<|A O<|L O<|G O<|R<|zC O (fun c1=>?_) (fun c1=>?_)
 ·try simp only [sx] at c1
  refine zI<|zC O (fun c3=>?_) (fun c3=>?_)
  ·try simp only [sx] at c3
   refine A O<|G O<|R<|zF<|zQ O ?_
   exact congrArg vB (by unfold wantC;first|(exfalso;omega)|(simp [*];done)|(rw [Bool.eq_iff_iff];simp only [Bool.or_eq_true,Bool.and_eq_true,decide_eq_true_eq];omega))
  ·try simp only [sx] at c3
   refine zI<|A O<|G O<|L O<|G O<|rL0 O (fun g6_2=>zP O O) O<|rL1 13 O (fun g6_2=>kB O O O) O<|yZ O (fun h=>h)<|G O<|R<|zF<|zQ O ?_
   exact congrArg vB (by unfold wantC;first|(exfalso;omega)|(simp [*];done)|(rw [Bool.eq_iff_iff];simp only [Bool.or_eq_true,Bool.and_eq_true,decide_eq_true_eq];omega))
 ·try simp only [sx] at c1
  refine A O<|L O<|G O<|R<|zC O (fun c2=>?_) (fun c2=>?_)
  ·try simp only [sx] at c2
   refine zI<|zC O (fun c3=>?_) (fun c3=>?_)
   ·try simp only [sx] at c3
    refine A O<|G O<|R<|zF<|zQ O ?_
    exact congrArg vB (by unfold wantC;first|(exfalso;omega)|(simp [*];done)|(rw [Bool.eq_iff_iff];simp only [Bool.or_eq_true,Bool.and_eq_true,decide_eq_true_eq];omega))
   ·try simp only [sx] at c3
    refine zI<|A O<|G O<|L O<|G O<|rL0 O (fun g6_2=>zP O O) O<|rL1 13 O (fun g6_2=>kB O O O) O<|yZ O (fun h=>h)<|G O<|R<|zF<|zQ O ?_
    exact congrArg vB (by unfold wantC;first|(exfalso;omega)|(simp [*];done)|(rw [Bool.eq_iff_iff];simp only [Bool.or_eq_true,Bool.and_eq_true,decide_eq_true_eq];omega))
  ·try simp only [sx] at c2
   refine zN O<|L O<|G O<|R<|zC O (fun c3=>?_) (fun c3=>?_)
   ·try simp only [sx] at c3
    refine A O<|G O<|R<|zF<|zQ O ?_
    exact congrArg vB (by unfold wantC;first|(exfalso;omega)|(simp [*];done)|(rw [Bool.eq_iff_iff];simp only [Bool.or_eq_true,Bool.and_eq_true,decide_eq_true_eq];omega))
   ·try simp only [sx] at c3
    refine zI<|A O<|G O<|L O<|G O<|rL0 O (fun g6_2=>zP O O) O<|rL1 13 O (fun g6_2=>kB O O O) O<|yZ O (fun h=>h)<|G O<|R<|zF<|zQ O ?_
    exact congrArg vB (by unfold wantC;first|(exfalso;omega)|(simp [*];done)|(rw [Bool.eq_iff_iff];simp only [Bool.or_eq_true,Bool.and_eq_true,decide_eq_true_eq];omega))
theorem ref14_wants (op i:Int):
    Pur cfg 346 [vI op,vI i] (vB (wantC op i)):=by
 refine zS Tryz.func346 O Tryz.ntmps346 Tryz.results346 O ?_
 intro z hz
 refine A O<|G O<|R<|A O<|G O<|L O<|G O<|rL0 O (fun g1_2=>zP O O) O<|rL1 8 O (fun g1_2=>kB O O O) O<|yZ O (fun h=>h)<|G O<|rL0 O (fun g1_6=>zP O O) O<|rL1 12 O (fun g1_6=>kB O O O) O<|r_or O (fun h=>(lzf h))<|G O<|rL0 O (fun g1_10=>zP O O) O<|rL1 16 O (fun g1_10=>kB O O O) O<|r_or O (fun h=>(lzf h))<|G O<|rL0 O (fun g1_14=>zP O O) O<|rL1 20 O (fun g1_14=>kB O O O) O<|r_or O (fun h=>(lzf h))<|G O<|R<|zF<|zQ O ?_
 exact O
theorem zSu (l:Lf):
    Pur cfg 332 [vLin l] (vB (zeroL l)):=by
 refine zS Tryz.func332 O Tryz.ntmps332 Tryz.results332 O ?_
 intro z hz
 refine A O<|zU O O (qN O O) ?_
 rintro _ _ ⟨b1,rfl,rfl⟩
 refine G O<|R<|A O<|zH O zCt<|zM r (zD 0 O) O<|L O<|G O<|rL0 O (fun g1_3=>zE O kT O) O<|rL1 7 O (fun g1_3=>zJ O zBp O (zD 0 O) O) O<|rL1 8 O (fun g1_3=>yG O el99 O) O<|rL1 9 O (fun g1_3=>kB O O O) O<|yZ O (fun h=>h)<|G O<|R<|zF<|zQ O ?_
 exact O
theorem zSs (x:Ix):
    Pur cfg 335 [vIndex x] (vB (wellIx x)):=by
 refine zS Tryz.func335 O Tryz.ntmps335 Tryz.results335 O ?_
 intro z hz
 refine A O<|zU O O (qN O O) ?_
 rintro _ _ ⟨b1,rfl,rfl⟩
 refine G O<|R<|zK<|A O<|zH O zAg<|zM one9 (zD 0 O) O<|wF O<|R<|zC O (fun c1=>?_) (fun c1=>?_)
 ·try simp only [sx] at c1
  refine A O<|zH O wC<|zM zAk (zD 0 O) O<|zZ O wV<|L O<|G O<|R<|zF<|zQ O ?_
  rw [wellIx,zAi c1];rfl
 ·try simp only [sx] at c1
  refine zI<|A O<|zH O zAh<|zO kL (zD 0 O) O<|qK O ok332 (zSu x.Lin) ⟨Y,O,T⟩<|G O<|R<|zF<|zQ O ?_
  rw [wellIx,yF c1];rfl
theorem expr_syntax_1 (x:Ix):
    Pur cfg 334 [vIndex x] (vB (!wellIx x)):=by
 refine zS Tryz.func334 O Tryz.ntmps334 Tryz.results334 O ?_
 intro z hz
 refine A O<|zU O O (qN O O) ?_
 rintro _ _ ⟨b1,rfl,rfl⟩
 refine G O<|R<|A O<|zO zDf (zD 0 O) O<|qK O ok335 (zSs x) ⟨Y,O,T⟩<|wA O<|G O<|R<|zF<|zQ O ?_
 exact O
theorem expr_names_1 (x:Ix):
    Pur cfg 336 [vIndex x] (vB (!nmIx x)):=by
 refine zS Tryz.func336 O Tryz.ntmps336 Tryz.results336 O ?_
 intro z hz
 refine A O<|zU O O (qN O O) ?_
 rintro _ _ ⟨b1,rfl,rfl⟩
 refine G O<|R<|A O<|zH O zAg<|zM one9 (zD 0 O) O<|zT O (zAz O O O)<|G O<|rL0 O (fun g1_3=>zE O zAg O) O<|rL1 7 O (fun g1_3=>zJ O one9 O (zD 0 O) O) O<|rL1 8 O (fun g1_3=>qC O ok129 (zDw _) ⟨Y,O,T⟩) O<|rL1 9 O (fun g1_3=>wL O O) O<|yZ O (fun h=>h)<|G O<|R<|zF<|zQ O ?_
 exact congrArg vB (by unfold nmIx;simp)
theorem expr_rank_1 (x:Ix):
    Pur cfg 338 [vIndex x] (vB (!rkIx x)):=by
 refine zS Tryz.func338 O Tryz.ntmps338 Tryz.results338 O ?_
 intro z hz
 refine A O<|zU O O (qN O O) ?_
 rintro _ _ ⟨b1,rfl,rfl⟩
 refine G O<|R<|A O<|zH O wC<|zM zAk (zD 0 O) O<|zZ O wV<|zT O (yA O O O)<|G O<|R<|zF<|zQ O ?_
 exact congrArg vB (by unfold rkIx;simp)
theorem expr_syntax (e:Ex) (he:e.wt<=6000000000000):
    Pur cfg 270 [vE e] (vB (synOk e)):=by
 refine zS Tryz.func270 O Tryz.ntmps270 Tryz.results270 O ?_
 intro z hz
 obtain ⟨hL,hI,hA⟩:=e.parts he
 refine A O<|zU O O (qN O O) ?_
 rintro _ _ ⟨b1,rfl,rfl⟩
 refine G O<|R<|zK<|qU 13 mixed (by kernel_rfl) O O<|J O O (zE O kA O)<|J O O (zJ O one3 O (zD 0 O) O)<|J O O (kB O O O)<|J O O (zE O kA O)<|J O O (zJ O one3 O (zD 0 O) O)<|J O O (kB O O O)<|J O O (zP O O)<|qR [] O O O O gv1 T (fun g1_6=>zE O kA O) O<|qR [(14,_)] O O O O gv1 ⟨O,O,T⟩ (fun g1_6=>zJ O one3 O (zD 0 O) O) O<|qR [(15,_)] O O O O gv1 ⟨O,O,T⟩ (fun g1_6=>kB O O O) O<|J O O (zBk O O O O (fun h=>(lzf h)))<|J O O (qV O O)<|J O O (qV O O)<|yO<|R<|zK<|qU 8 mixed (by kernel_rfl) O O<|J O O (zE O kA O)<|J O O (zJ O one3 O (zD 0 O) O)<|J O O (kB O O O)<|J O O (zE O kA O)<|J O O (zJ O one3 O (zD 0 O) O)<|J O O (kB O O O)<|J O O (qV O O)<|J O O (qV O O)<|yO<|R<|zK<|zR<|A O<|zH O kA<|zM one3 (zD 0 O) O<|yJ O<|G O<|rL0 O (fun g3_3=>zE O kA O) O<|rL1 29 O (fun g3_3=>zJ O one3 O (zD 0 O) O) O<|rL1 30 O (fun g3_3=>yA O O O) O<|r_or O (fun h=>(lzf h))<|G O<|R<|zC O (fun c1=>?_) (fun c1=>?_)
 ·refine A O<|G O<|R<|zF<|zQ O ?_
  exact congrArg vB (by simp only [synOk,c1,Bool.not_true,Bool.not_false,Bool.true_and,Bool.and_true,Bool.false_and,Bool.and_false])
 ·refine A O<|G O<|wA O<|G O<|rL0 O (fun g5_2=>zE O zDm O) O<|rL1 37 O (fun g5_2=>zV O zAw O (zD 0 O) O) O<|rL0 O (fun g5_2=>zBt O zr63 pl63 O) O<|rLz [(38,_),(39,_)] O gv1 ⟨O,O,O,O,T⟩ (fun g5_2=>zBl O fl63 O O O) O<|yZ O (fun h=>h)<|G O<|R<|zC O (fun c2=>?_) (fun c2=>?_)
  ·have c2:(!decide (e.Op=1)&& !val0 e.Val)=true:=c2
   refine A O<|G O<|R<|zF<|zQ O ?_
   exact congrArg vB (by simp only [synOk,c2,Bool.not_true,Bool.not_false,Bool.true_and,Bool.and_true,Bool.false_and,Bool.and_false])
  ·have c2:(!decide (e.Op=1)&& !val0 e.Val)=false:=c2
   refine A O<|G O<|wA O<|G O<|rL0 O (fun g7_2=>zE O zAo O) O<|rL1 46 O (fun g7_2=>zV O yI O (zD 0 O) O) O<|rL0 O (fun g7_2=>zBt O zr65 pl65 O) O<|rLz [(47,_),(48,_)] O gv1 ⟨O,O,O,O,T⟩ (fun g7_2=>zBl O fl65 O O O) O<|yZ O (fun h=>h)<|G O<|R<|zC O (fun c3=>?_) (fun c3=>?_)
   ·have c3:(!(decide (e.Op=1)||decide (e.Op=12))&& !ty0 e.Ty)=true:=c3
    refine A O<|G O<|R<|zF<|zQ O ?_
    exact congrArg vB (by simp only [synOk,c3,Bool.not_true,Bool.not_false,Bool.true_and,Bool.and_true,Bool.false_and,Bool.and_false])
   ·have c3:(!(decide (e.Op=1)||decide (e.Op=12))&& !ty0 e.Ty)=false:=c3
    refine A O<|G O<|wA O<|G O<|rL0 O (fun g9_2=>zE O zCs O) O<|rL1 55 O (fun g9_2=>zV O kL O (zD 0 O) O) O<|rL1 56 O (fun g9_2=>qC O ok332 (zSu e.Lin) ⟨Y,O,T⟩) O<|rL1 57 O (fun g9_2=>wL O O) O<|yZ O (fun h=>h)<|G O<|R<|zC O (fun c4=>?_) (fun c4=>?_)
    ·refine A O<|G O<|R<|zF<|zQ O ?_
     exact congrArg vB (by simp only [synOk,c4,Bool.not_true,Bool.not_false,Bool.true_and,Bool.and_true,Bool.false_and,Bool.and_false])
    ·refine A O<|G O<|wA O<|G O<|rL0 O (fun g11_2=>zE O zBs O) O<|rL1 64 O (fun g11_2=>zJ O one9 O (zD 0 O) O) O<|rL1 65 O (fun g11_2=>zAz O O O) O<|rL1 66 O (fun g11_2=>zP O O) O<|rLz [] O N T (fun g11_6=>zE O yV O) O<|rLz [(68,_)] O N ⟨O,O,T⟩ (fun g11_6=>zJ O kF O (zD 0 O) O) O<|rLz [(69,_)] O N ⟨O,O,T⟩ (fun g11_6=>yG O kO O) O<|rLz [(70,_)] O N ⟨O,O,T⟩ (fun g11_6=>yA O O O) O<|rL1 67 O (fun g11_2=>zBk O O O O (fun h=>kI (by assumption) (lzf h))) O<|yZ O (fun h=>h)<|G O<|R<|zC O (fun c5=>?_) (fun c5=>?_)
     ·refine A O<|G O<|R<|zF<|zQ O ?_
      exact congrArg vB (by simp only [synOk,c5,Bool.not_true,Bool.not_false,Bool.true_and,Bool.and_true,Bool.false_and,Bool.and_false])
     ·refine zI<|A O<|zH O yV<|zM kF (zD 0 O) O<|qK O ok333 (zBh e.Idx _ (fun x=> !wellIx x) hI (fun x _=>FnPur.of_pur (first:=[]) (cap:=[]) ok334 (expr_syntax_1 x))) ⟨Y,O,Y,O,T⟩<|wA O<|G O<|R<|zF<|zQ O ?_
      exact congrArg vB (by rw [zIe];simp only [synOk,c1,c2,c3,c4,c5,Bool.not_true,Bool.not_false,Bool.true_and,Bool.and_true,Bool.false_and,Bool.and_false])
theorem expr_names (e:Ex) (he:e.wt<=6000000000000):
    Pur cfg 271 [vE e] (vB (namesE e)):=by
 refine zS Tryz.func271 O Tryz.ntmps271 Tryz.results271 O ?_
 intro z hz
 obtain ⟨hL,hI,hA⟩:=e.parts he
 refine A O<|zU O O (qN O O) ?_
 rintro _ _ ⟨b1,rfl,rfl⟩
 refine G O<|R<|zK<|A O<|zH O kA<|zM one3 (zD 0 O) O<|L O<|G O<|rL0 O (fun g1_3=>zE O zBs O) O<|rL1 7 O (fun g1_3=>zJ O one9 O (zD 0 O) O) O<|rL1 8 O (fun g1_3=>qC O ok129 (zDw _) ⟨Y,O,T⟩) O<|rL1 9 O (fun g1_3=>wL O O) O<|yZ O (fun h=>h)<|R<|zC O (fun c1=>?_) (fun c1=>?_)
 ·refine A O<|G O<|R<|zF<|zQ O ?_
  exact congrArg vB (by simp only [namesE,c1,Bool.not_true,Bool.false_and])
 ·refine zI<|A O<|zH O yV<|zM kF (zD 0 O) O<|qK O ok333 (zBh e.Idx _ (fun x=> !nmIx x) hI (fun x _=>FnPur.of_pur (first:=[]) (cap:=[]) ok336 (expr_names_1 x))) ⟨Y,O,Y,O,T⟩<|wA O<|G O<|R<|zF<|zQ O ?_
  exact congrArg vB (by rw [zIe];simp only [namesE,c1,Bool.not_false,Bool.true_and])
theorem expr_rank (e:Ex) (he:e.wt<=6000000000000):
    Pur cfg 272 [vE e] (vB (rankE e)):=by
 refine zS Tryz.func272 O Tryz.ntmps272 Tryz.results272 O ?_
 intro z hz
 obtain ⟨hL,hI,hA⟩:=e.parts he
 refine A O<|zU O O (qN O O) ?_
 rintro _ _ ⟨b1,rfl,rfl⟩
 refine G O<|R<|zK<|zK<|qU 13 mixed (by kernel_rfl) O O<|J O O (zE O yY O)<|J O O (zJ O kU O (zD 0 O) O)<|J O O (yG O wE O)<|J O O (zE O kA O)<|J O O (zJ O one3 O (zD 0 O) O)<|J O O (qC O ok337 (expr_operands _) ⟨Y,O,T⟩)<|J O O (wU O O O)<|J O O (zP O O)<|qR [] O O O O gv1 T (fun g1_7=>zE O yV O) O<|qR [(11,_)] O O O O gv1 ⟨O,O,T⟩ (fun g1_7=>zJ O kF O (zD 0 O) O) O<|qR [(12,_)] O O O O gv1 ⟨O,O,T⟩ (fun g1_7=>yG O kO O) O<|qR [(13,_)] O O O O gv1 ⟨O,O,T⟩ (fun g1_7=>yA O O O) O<|J O O (zBk O O O O (fun h=>(lzf h)))<|yO<|R<|zC O (fun c1=>?_) (fun c1=>?_)
 ·refine A O<|G O<|R<|zF<|zQ O ?_
  exact congrArg vB (by simp only [rankE,c1,Bool.not_true,Bool.false_and])
 ·refine zI<|A O<|zH O yV<|zM kF (zD 0 O) O<|qK O ok333 (zBh e.Idx _ (fun x=> !rkIx x) hI (fun x _=>FnPur.of_pur (first:=[]) (cap:=[]) ok338 (expr_rank_1 x))) ⟨Y,O,Y,O,T⟩<|wA O<|G O<|R<|zF<|zQ O ?_
  exact congrArg vB (by rw [zIe];simp only [rankE,c1,Bool.not_false,Bool.true_and])
theorem expr_types (e:Ex) (he:e.wt<=6000000000000):
    Pur cfg 273 [vE e] (vB (typesE e)):=by
 refine zS Tryz.func273 O Tryz.ntmps273 Tryz.results273 O ?_
 intro z hz
 obtain ⟨hL,hI,hA⟩:=e.parts he
 refine A O<|zU O O (qN O O) ?_
 rintro _ _ ⟨b1,rfl,rfl⟩
 refine G O<|R<|zK<|A O<|zH O kA<|zM one3 (zD 0 O) O<|L O<|G O<|rL0 O (fun g1_3=>zE O kA O) O<|rL1 9 O (fun g1_3=>zJ O one3 O (zD 0 O) O) O<|rL1 10 O (fun g1_3=>kB O O O) O<|r_or O (fun h=>(lzf h))<|G O<|rL0 O (fun g1_8=>zE O zAo O) O<|rL1 14 O (fun g1_8=>zV O yI O (zD 0 O) O) O<|rL1 15 O (fun g1_8=>qC O ok60 (zBi _) ⟨Y,O,T⟩) O<|rL1 16 O (fun g1_8=>wU O O O) O<|yZ O (fun h=>h)<|R<|zC O (fun c1=>?_) (fun c1=>?_)
 ·rw [tyErr_dec] at c1
  refine A O<|G O<|R<|zF<|zQ O ?_
  exact congrArg vB (by simp only [typesE,c1,Bool.not_true,Bool.false_and])
 ·rw [tyErr_dec] at c1
  refine zI<|zK<|A O<|zH O yY<|zM kU (zD 0 O) O<|zZ O wE<|G O<|R<|zR<|zX ⟨[(22,.c _),(1,.c _),(20,.c _),(21,.c _)],[_]⟩ (Weak.mk [true] ⟨Y,Y,Y,Y,T⟩ O)<|qG 1 0 O O (Nat) (fun k=>[(22,vI k)]) (fun k=>[]) (fun k=>k<=e.Args.length/\(condsOk e.Op 0 e.Args=condsOk e.Op k (e.Args.drop k))) (fun k=>e.Args.length-k) ⟨0,⟨by omega,O⟩,Weak.mk [true] ⟨Y,Y,Y,Y,T⟩ O⟩ ?_
  rintro k ⟨hk,hp⟩
  refine A O<|yJ O<|R<|zK<|zC O (fun c2=>?_) (fun c2=>?_)
  ·try simp only [sx] at c2
   obtain ⟨a,ha⟩:=qY e.Args k (by omega)
   refine zI<|zK<|zR<|A O<|G O<|qE O wE (by omega) (zBr (by assumption))<|zO qX qA O<|zU O O (qT [none,none,none,none,none,none,none,none,none,none,some 2,some 4,some 13] O zDx O) ?_
   rintro _ _ ⟨b2,rfl,rfl⟩
   refine G O<|rStR 0 zNb O<|R<|zK<|qU 7 mixed (by kernel_rfl) O O<|J O O (zV O qX O (zD 0 O) O)<|J O O (qC O ok193 (wD a) ⟨Y,O,T⟩)<|J O O (zE O kA O)<|J O O (zJ O one3 O (zD 1 O) O)<|J O O (zP O O)<|J O O (qC O ok339 (zHp _ _) ⟨Y,O,Y,O,T⟩)<|J O O (zPr O un4 O O)<|yO<|R<|zC O (fun c3=>?_) (fun c3=>?_)
   ·refine A O<|G O<|R<|zF<|zQ O ?_
    exact congrArg vB (by simp only [typesE,c1,Bool.not_false,Bool.true_and];rw [hp,qZ ha,condsOk,show (isCond a==wantC e.Op k)=false by simpa using c3,Bool.false_and])
   ·refine zI<|zN O<|qI O ⟨by omega,by omega⟩<|G O<|R ?_
    refine ⟨k+1,⟨by omega,(by rw [hp,qZ ha,condsOk,show (isCond a==wantC e.Op k)=true by simpa using c3,Bool.true_and];rfl)⟩,(by omega),Weak.mk [false,true] ⟨Y,Y,Y,Y,T⟩ O⟩
  ·try simp only [sx] at c2
   refine qP<|A O<|G O<|R<|zF<|zQ O ?_
   exact congrArg vB (by simp only [typesE,c1,Bool.not_false,Bool.true_and];rw [hp,kW (by omega)];rfl)
theorem ref14_typed (e:Ex) (he:e.wt<=6000000000000):
    Pur cfg 286 [vE e] (vB (typesE e)):=by
 refine zS Tryz.func286 O Tryz.ntmps286 Tryz.results286 O ?_
 intro z hz
 obtain ⟨hL,hI,hA⟩:=e.parts he
 refine A O<|zU O O (qN O O) ?_
 rintro _ _ ⟨b1,rfl,rfl⟩
 refine G O<|R<|zK<|A O<|zH O kA<|zM one3 (zD 0 O) O<|L O<|G O<|rL0 O (fun g1_3=>zE O kA O) O<|rL1 8 O (fun g1_3=>zJ O one3 O (zD 0 O) O) O<|rL1 9 O (fun g1_3=>kB O O O) O<|r_or O (fun h=>(lzf h))<|G O<|rL0 O (fun g1_8=>zE O zAo O) O<|rL1 13 O (fun g1_8=>zV O yI O (zD 0 O) O) O<|rL1 14 O (fun g1_8=>qC O ok63 (zMu _) ⟨Y,O,T⟩) O<|rL1 15 O (fun g1_8=>wL O O) O<|yZ O (fun h=>h)<|R<|zC O (fun c1=>?_) (fun c1=>?_)
 ·refine A O<|G O<|R<|zF<|zQ O ?_
  exact congrArg vB (by simp only [typesE,c1,Bool.not_true,Bool.false_and])
 ·refine zI<|zK<|A O<|G O<|R<|zR<|zX ⟨[(3,.c _),(1,.c _)],[_]⟩ (Weak.mk [true] ⟨Y,Y,T⟩ O)<|qG 1 0 O O (Nat) (fun k=>[(3,vI k)]) (fun k=>[]) (fun k=>k<=e.Args.length/\(condsOk e.Op 0 e.Args=condsOk e.Op k (e.Args.drop k))) (fun k=>e.Args.length-k) ⟨0,⟨by omega,O⟩,Weak.mk [true] ⟨Y,Y,T⟩ O⟩ ?_
  rintro k ⟨hk,hp⟩
  refine zK<|A O<|G O<|zH O yY<|zM kU (zD 0 O) O<|zZ O wE<|yJ O<|R<|zC O (fun c2=>?_) (fun c2=>?_)
  ·try simp only [sx] at c2
   obtain ⟨a,ha⟩:=qY e.Args k (by omega)
   refine zI<|zK<|zR<|zK<|qU 11 mixed (by kernel_rfl) O O<|J O O (zE O yY O)<|J O O (zJ O kU O (zD 0 O) O)<|J O O (zP O O)<|J O O (qO O wE O O (by omega) (zBr (by assumption)))<|J O O (zV O qX O qA O)<|J O O (qC O ok146 (kV a) ⟨Y,O,T⟩)<|J O O (zE O kA O)<|J O O (zJ O one3 O (zD 0 O) O)<|J O O (zP O O)<|J O O (qC O ok346 (ref14_wants _ _) ⟨Y,O,Y,O,T⟩)<|J O O (zPr O un4 O O)<|yO<|R<|zC O (fun c3=>?_) (fun c3=>?_)
   ·refine A O<|G O<|R<|zF<|zQ O ?_
    exact congrArg vB (by simp only [typesE,c1,Bool.not_false,Bool.true_and];rw [hp,qZ ha,condsOk,show (isCond a==wantC e.Op k)=false by simpa using c3,Bool.false_and])
   ·refine zI<|zN O<|G O<|qI O ⟨by omega,by omega⟩<|G O<|R ?_
    refine ⟨k+1,⟨by omega,(by rw [hp,qZ ha,condsOk,show (isCond a==wantC e.Op k)=true by simpa using c3,Bool.true_and];rfl)⟩,(by omega),Weak.mk [true] ⟨Y,Y,T⟩ O⟩
  ·try simp only [sx] at c2
   refine qP<|A O<|G O<|R<|zF<|zQ O ?_
   exact congrArg vB (by simp only [typesE,c1,Bool.not_false,Bool.true_and];rw [hp,kW (by omega)];rfl)
theorem ref14_plain (e:Ex) (he:e.wt<=6000000000000):
    Pur cfg 283 [vE e] (vB (synOk e)):=by
 refine zS Tryz.func283 O Tryz.ntmps283 Tryz.results283 O ?_
 intro z hz
 obtain ⟨hL,hI,hA⟩:=e.parts he
 refine A O<|zU O O (qN O O) ?_
 rintro _ _ ⟨b1,rfl,rfl⟩
 refine G O<|R<|zK<|A O<|zH O kA<|zM one3 (zD 0 O) O<|yJ O<|G O<|rL0 O (fun g1_3=>zE O kA O) O<|rL1 9 O (fun g1_3=>zJ O one3 O (zD 0 O) O) O<|rL1 10 O (fun g1_3=>yA O O O) O<|r_or O (fun h=>(lzf h))<|R<|zC O (fun c1=>?_) (fun c1=>?_)
 ·refine A O<|G O<|R<|zF<|zQ O ?_
  exact congrArg vB (by simp only [synOk,c1,Bool.not_true,Bool.false_and])
 ·refine zI<|zK<|A O<|zH O kA<|zM one3 (zD 0 O) O<|kP O<|G O<|rL0 O (fun g3_3=>zE O zDm O) O<|rL1 17 O (fun g3_3=>zV O zAw O (zD 0 O) O) O<|rL0 O (fun g3_3=>zBt O zr63 pl63 O) O<|rLz [(18,_),(19,_)] O gv1 ⟨O,O,O,O,T⟩ (fun g3_3=>zBl O fl63 O O O) O<|yZ O (fun h=>h)<|G O<|rL0 O (fun g3_9=>zE O kA O) O<|rL1 23 O (fun g3_9=>zJ O one3 O (zD 0 O) O) O<|rL1 24 O (fun g3_9=>wU O O O) O<|rL1 25 O (fun g3_9=>zP O O) O<|rLz [] O N T (fun g3_13=>zE O kA O) O<|rLz [(27,_)] O N ⟨O,O,T⟩ (fun g3_13=>zJ O one3 O (zD 0 O) O) O<|rLz [(28,_)] O N ⟨O,O,T⟩ (fun g3_13=>wU O O O) O<|rL1 26 O (fun g3_9=>zAp O O O (fun h=>kI (by assumption) h) O) O<|rL1 30 O (fun g3_9=>zP O O) O<|rLz [] O N T (fun g3_18=>zE O zAo O) O<|rLz [(32,_)] O N ⟨O,O,T⟩ (fun g3_18=>zV O yI O (zD 0 O) O) O<|rLz [] O N T (fun g3_18=>zBt O zr65 pl65 O) O<|rLz [(33,_),(34,_)] O N ⟨O,O,O,O,T⟩ (fun g3_18=>zBl O fl65 O O O) O<|rL1 31 O (fun g3_9=>zAp O O O (fun h=>kI (by assumption) h) O) O<|r_or O (fun h=>(lzf h))<|R<|zC O (fun c2=>?_) (fun c2=>?_)
  ·have h2:=plain2 (e:=e) c2
   refine A O<|G O<|R<|zF<|zQ O ?_
   exact congrArg vB (syn2 h2)
  ·have h2:=plain2 (e:=e) c2
   refine zI<|zK<|A O<|zH O kA<|zM one3 (zD 0 O) O<|kP O<|G O<|rL0 O (fun g5_3=>zE O zCs O) O<|rL1 42 O (fun g5_3=>zE O zCt O) O<|rL1 43 O (fun g5_3=>zJ O r O (zD 0 O) O) O<|rL1 44 O (fun g5_3=>wU O O O) O<|rL1 45 O (fun g5_3=>zP O O) O<|rLz [] O N T (fun g5_8=>zE O zCs O) O<|rLz [(47,_)] O N ⟨O,O,T⟩ (fun g5_8=>zE O kT O) O<|rLz [(48,_)] O N ⟨O,O,T⟩ (fun g5_8=>zJ O zBp O (zD 0 O) O) O<|rLz [(49,_)] O N ⟨O,O,T⟩ (fun g5_8=>yG O el99 O) O<|rLz [(50,_)] O N ⟨O,O,T⟩ (fun g5_8=>yA O O O) O<|rL1 46 O (fun g5_3=>zBk O O O O (fun h=>kI (by assumption) (lzf h))) O<|yZ O (fun h=>h)<|G O<|rL0 O (fun g5_16=>zE O kA O) O<|rL1 55 O (fun g5_16=>zJ O one3 O (zD 0 O) O) O<|rL1 56 O (fun g5_16=>wU O O O) O<|rL1 57 O (fun g5_16=>zP O O) O<|rLz [] O N T (fun g5_20=>zE O zBs O) O<|rLz [(59,_)] O N ⟨O,O,T⟩ (fun g5_20=>zJ O one9 O (zD 0 O) O) O<|rLz [(60,_)] O N ⟨O,O,T⟩ (fun g5_20=>zAz O O O) O<|rLz [(61,_)] O N ⟨O,O,T⟩ (fun g5_20=>zP O O) O<|rLz [] O N T (fun g5_24=>zE O yV O) O<|rLz [(63,_)] O N ⟨O,O,T⟩ (fun g5_24=>zJ O kF O (zD 0 O) O) O<|rLz [(64,_)] O N ⟨O,O,T⟩ (fun g5_24=>yG O kO O) O<|rLz [(65,_)] O N ⟨O,O,T⟩ (fun g5_24=>yA O O O) O<|rLz [(62,_)] O N ⟨O,O,T⟩ (fun g5_20=>zBk O O O O (fun h=>kI (by assumption) (lzf h))) O<|rL1 58 O (fun g5_16=>zAp O O O (fun h=>kI (by assumption) h) O) O<|r_or O (fun h=>(lzf h))<|R<|zC O (fun c3=>?_) (fun c3=>?_)
   ·have h3:=plain3 (e:=e) c3
    refine A O<|G O<|R<|zF<|zQ O ?_
    exact congrArg vB (syn3 h3)
   ·have h3:=plain3 (e:=e) c3
    refine zI<|zK<|A O<|G O<|R<|zR<|zX ⟨[(3,.c _),(1,.c _)],[_]⟩ (Weak.mk [true] ⟨Y,Y,T⟩ O)<|qG 1 0 O O (Nat) (fun k=>[(3,vI k)]) (fun k=>[]) (fun k=>k<=e.Idx.length/\(e.Idx.all wellIx=(e.Idx.drop k).all wellIx)) (fun k=>e.Idx.length-k) ⟨0,⟨by omega,O⟩,Weak.mk [true] ⟨Y,Y,T⟩ O⟩ ?_
    rintro k ⟨hk,hp⟩
    refine zK<|A O<|G O<|zH O yV<|zM kF (zD 0 O) O<|zZ O kO<|yJ O<|R<|zC O (fun c4=>?_) (fun c4=>?_)
    ·try simp only [sx] at c4
     obtain ⟨x,hx⟩:=qY e.Idx k (by omega)
     refine zI<|zK<|zR<|A O<|zH O yV<|zM kF (zD 0 O) O<|G O<|qE O kO (by omega) (getm (by assumption))<|zO zDf qA O<|zU O O (qT [none,some 2,none,some 2] O zLf O) ?_
     rintro _ _ ⟨b2,rfl,rfl⟩
     refine rStR 0 sz104 O<|R<|A O<|zH O zAg<|zM one9 (zD 0 O) O<|wF O<|G O<|rL0 O (fun g11_3=>zE O wC O) O<|rL1 86 O (fun g11_3=>zJ O zAk O (zD 0 O) O) O<|rL1 87 O (fun g11_3=>yG O wV O) O<|rL1 88 O (fun g11_3=>yA O O O) O<|yZ O (fun h=>h)<|G O<|rL0 O (fun g11_9=>zE O zAg O) O<|rL1 92 O (fun g11_9=>zJ O one9 O (zD 0 O) O) O<|rL1 93 O (fun g11_9=>zAz O O O) O<|rL1 94 O (fun g11_9=>zP O O) O<|rLz [] O N T (fun g11_13=>zE O zAh O) O<|rLz [(96,_)] O N ⟨O,O,T⟩ (fun g11_13=>zE O zCt O) O<|rLz [(97,_)] O N ⟨O,O,T⟩ (fun g11_13=>zJ O r O (zD 0 O) O) O<|rLz [(98,_)] O N ⟨O,O,T⟩ (fun g11_13=>wU O O O) O<|rLz [(99,_)] O N ⟨O,O,T⟩ (fun g11_13=>zP O O) O<|rLz [] O N T (fun g11_18=>zE O zAh O) O<|rLz [(101,_)] O N ⟨O,O,T⟩ (fun g11_18=>zE O kT O) O<|rLz [(102,_)] O N ⟨O,O,T⟩ (fun g11_18=>zJ O zBp O (zD 0 O) O) O<|rLz [(103,_)] O N ⟨O,O,T⟩ (fun g11_18=>yG O el99 O) O<|rLz [(104,_)] O N ⟨O,O,T⟩ (fun g11_18=>yA O O O) O<|rLz [(100,_)] O N ⟨O,O,T⟩ (fun g11_13=>zBk O O O O (fun h=>kI (by assumption) (lzf h))) O<|rL1 95 O (fun g11_9=>zAp O O O (fun h=>kI (by assumption) h) O) O<|r_or O (fun h=>(lzf h))<|R<|zC O (fun c5=>?_) (fun c5=>?_)
     ·have h5:=well_dec (x:=x) c5
      refine A O<|G O<|R<|zF<|zQ O ?_
      exact congrArg vB (by rw [synOk,zKl hx (p:=wellIx) (by simpa using h5)];simp)
     ·have h5:=well_dec (x:=x) c5
      refine zI<|zN O<|G O<|qI O ⟨by omega,by omega⟩<|G O<|R ?_
      refine ⟨k+1,⟨by omega,zQa hx hp (by simpa using h5)⟩,(by omega),Weak.mk [false,true] ⟨Y,Y,T⟩ O⟩
    ·try simp only [sx] at c4
     refine qP<|A O<|G O<|R<|zF<|zQ O ?_
     exact congrArg vB (syn5 c1 h2 h3 (all_end hp (by omega)))
theorem ref14_named (e:Ex) (he:e.wt<=6000000000000):
    Pur cfg 284 [vE e] (vB (namesE e)):=by
 refine zS Tryz.func284 O Tryz.ntmps284 Tryz.results284 O ?_
 intro z hz
 obtain ⟨hL,hI,hA⟩:=e.parts he
 refine A O<|zU O O (qN O O) ?_
 rintro _ _ ⟨b1,rfl,rfl⟩
 refine G O<|R<|zK<|A O<|zH O kA<|zM one3 (zD 0 O) O<|L O<|G O<|rL0 O (fun g1_3=>zE O zBs O) O<|rL1 8 O (fun g1_3=>zJ O one9 O (zD 0 O) O) O<|rL1 9 O (fun g1_3=>qC O ok93 (zGa _) ⟨Y,O,T⟩) O<|rL1 10 O (fun g1_3=>wL O O) O<|yZ O (fun h=>h)<|R<|zC O (fun c1=>?_) (fun c1=>?_)
 ·refine A O<|G O<|R<|zF<|zQ O ?_
  exact congrArg vB (by simp only [namesE,c1,Bool.not_true,Bool.false_and])
 ·refine zI<|zK<|A O<|G O<|R<|zR<|zX ⟨[(3,.c _),(1,.c _)],[_]⟩ (Weak.mk [true] ⟨Y,Y,T⟩ O)<|qG 1 0 O O (Nat) (fun k=>[(3,vI k)]) (fun k=>[]) (fun k=>k<=e.Idx.length/\(e.Idx.all nmIx=(e.Idx.drop k).all nmIx)) (fun k=>e.Idx.length-k) ⟨0,⟨by omega,O⟩,Weak.mk [true] ⟨Y,Y,T⟩ O⟩ ?_
  rintro k ⟨hk,hp⟩
  refine zK<|A O<|G O<|zH O yV<|zM kF (zD 0 O) O<|zZ O kO<|yJ O<|R<|zC O (fun c2=>?_) (fun c2=>?_)
  ·try simp only [sx] at c2
   obtain ⟨x,hx⟩:=qY e.Idx k (by omega)
   refine zI<|zK<|zR<|A O<|zH O yV<|zM kF (zD 0 O) O<|G O<|qE O kO (by omega) (getm (by assumption))<|yB O zAg<|zM one9 qA O<|zT O (zAz O O O)<|G O<|rL0 O (fun g6_7=>zE O yV O) O<|rL1 28 O (fun g6_7=>zJ O kF O (zD 0 O) O) O<|rL0 O (fun g6_7=>zP O O) O<|rLz [(29,_),(30,_)] O gv1 ⟨O,O,O,O,T⟩ (fun g6_7=>qO O kO O O (by omega) (getm (by assumption))) O<|rL1 31 O (fun g6_7=>qW O zAg O) O<|rL1 32 O (fun g6_7=>zJ O one9 O qA O) O<|rL1 33 O (fun g6_7=>qC O ok93 (zGa _) ⟨Y,O,T⟩) O<|rL1 34 O (fun g6_7=>wL O O) O<|yZ O (fun h=>h)<|R<|zC O (fun c3=>?_) (fun c3=>?_)
   ·refine A O<|G O<|R<|zF<|zQ O ?_
    exact congrArg vB (by rw [namesE,zKl hx (p:=nmIx) (by unfold nmIx;rw [c3];rfl)];simp)
   ·refine zI<|zN O<|G O<|qI O ⟨by omega,by omega⟩<|G O<|R ?_
    refine ⟨k+1,⟨by omega,zQa hx hp (by unfold nmIx;rw [c3];rfl)⟩,(by omega),Weak.mk [true] ⟨Y,Y,T⟩ O⟩
  ·try simp only [sx] at c2
   refine qP<|A O<|G O<|R<|zF<|zQ O ?_
   exact congrArg vB (by rw [namesE,c1,all_end hp (by omega)];rfl)
theorem ref14_ranked (e:Ex) (he:e.wt<=6000000000000):
    Pur cfg 285 [vE e] (vB (rankE e)):=by
 refine zS Tryz.func285 O Tryz.ntmps285 Tryz.results285 O ?_
 intro z hz
 obtain ⟨hL,hI,hA⟩:=e.parts he
 refine A O<|zU O O (qN O O) ?_
 rintro _ _ ⟨b1,rfl,rfl⟩
 refine G O<|R<|zK<|zK<|qU 13 mixed (by kernel_rfl) O O<|J O O (zE O yY O)<|J O O (zJ O kU O (zD 0 O) O)<|J O O (yG O wE O)<|J O O (zE O kA O)<|J O O (zJ O one3 O (zD 0 O) O)<|J O O (qC O ok345 (zNy _) ⟨Y,O,T⟩)<|J O O (wU O O O)<|J O O (zP O O)<|qR [] O O O O gv1 T (fun g1_7=>zE O yV O) O<|qR [(12,_)] O O O O gv1 ⟨O,O,T⟩ (fun g1_7=>zJ O kF O (zD 0 O) O) O<|qR [(13,_)] O O O O gv1 ⟨O,O,T⟩ (fun g1_7=>yG O kO O) O<|qR [(14,_)] O O O O gv1 ⟨O,O,T⟩ (fun g1_7=>yA O O O) O<|J O O (zBk O O O O (fun h=>(lzf h)))<|yO<|R<|zC O (fun c1=>?_) (fun c1=>?_)
 ·refine A O<|G O<|R<|zF<|zQ O ?_
  exact congrArg vB (by simp only [rankE,c1,Bool.not_true,Bool.false_and])
 ·refine zI<|zK<|A O<|G O<|R<|zR<|zX ⟨[(3,.c _),(1,.c _)],[_]⟩ (Weak.mk [true] ⟨Y,Y,T⟩ O)<|qG 1 0 O O (Nat) (fun k=>[(3,vI k)]) (fun k=>[]) (fun k=>k<=e.Idx.length/\(e.Idx.all rkIx=(e.Idx.drop k).all rkIx)) (fun k=>e.Idx.length-k) ⟨0,⟨by omega,O⟩,Weak.mk [true] ⟨Y,Y,T⟩ O⟩ ?_
  rintro k ⟨hk,hp⟩
  refine zK<|A O<|G O<|zH O yV<|zM kF (zD 0 O) O<|zZ O kO<|yJ O<|R<|zC O (fun c2=>?_) (fun c2=>?_)
  ·try simp only [sx] at c2
   obtain ⟨x,hx⟩:=qY e.Idx k (by omega)
   refine zI<|zK<|zR<|A O<|zH O yV<|zM kF (zD 0 O) O<|G O<|qE O kO (by omega) (getm (by assumption))<|yB O wC<|zM zAk qA O<|zZ O wV<|zT O (yA O O O)<|R<|zC O (fun c3=>?_) (fun c3=>?_)
   ·refine A O<|G O<|R<|zF<|zQ O ?_
    exact congrArg vB (by rw [rankE,zKl hx (p:=rkIx) (by unfold rkIx;rw [c3];rfl)];simp)
   ·refine zI<|zN O<|G O<|qI O ⟨by omega,by omega⟩<|G O<|R ?_
    refine ⟨k+1,⟨by omega,zQa hx hp (by unfold rkIx;rw [c3];rfl)⟩,(by omega),Weak.mk [true] ⟨Y,Y,T⟩ O⟩
  ·try simp only [sx] at c2
   refine qP<|A O<|G O<|R<|zF<|zQ O ?_
   exact congrArg vB (by rw [rankE,c1,all_end hp (by omega)];rfl)
theorem ref14_formed (e:Ex) (he:e.wt<=6000000000000) (hty:e.Op=1->tyOk e.Ty=true):
    Pur cfg 287 [vE e] (vB (formOk e)):=by
 refine zS Tryz.func287 O Tryz.ntmps287 Tryz.results287 O ?_
 intro z hz
 obtain ⟨hL,hI,hA⟩:=e.parts he
 refine A O<|zU O O (qN O O) ?_
 rintro _ _ ⟨b1,rfl,rfl⟩
 refine G O<|R<|zK<|A O<|zH O kA<|zM one3 (zD 0 O) O<|L O<|G O<|rL0 O (fun g1_3=>zE O zAo O) O<|rL1 9 O (fun g1_3=>zV O yI O (zD 0 O) O) O<|rL0 O (fun g1_3=>zE O zDm O) O<|rL1 11 O (fun g1_3=>zV O zAw O (zD 0 O) O) O<|rLz [(10,_),(12,_)] O gv1 ⟨O,O,O,O,T⟩ (fun g1_3=>qC O ok161 (base_Val e.Ty e.Val (hty (by simp only [Lz,cond_true,cond_false,Bool.and_eq_true,Bool.or_eq_true,Bool.not_eq_true',Bool.not_eq_false',Bool.or_eq_false_iff,Bool.and_eq_false_iff,decide_eq_true_eq,decide_eq_false_iff_not,Bool.not_eq_true,Bool.not_eq_false] at g1_3;exact g1_3))) ⟨Y,O,Y,O,T⟩) O<|rL1 13 O (fun g1_3=>wL O O) O<|yZ O (fun h=>h)<|G O<|rL0 O (fun g1_11=>zE O zCs O) O<|rL1 17 O (fun g1_11=>zV O kL O (zD 0 O) O) O<|rL1 18 O (fun g1_11=>qC O ok293 (zCa e.Lin hL) ⟨Y,O,T⟩) O<|rL1 19 O (fun g1_11=>wL O O) O<|r_or O (fun h=>(lzf h))<|R<|zC O (fun c1=>?_) (fun c1=>?_)
 ·refine A O<|G O<|R<|zF<|zQ O ?_
  exact congrArg vB (form_no c1)
 ·refine zI<|zK<|A O<|G O<|R<|zR<|zX ⟨[(3,.c _),(1,.c _)],[_]⟩ (Weak.mk [true] ⟨Y,Y,T⟩ O)<|qG 1 0 O O (Nat) (fun k=>[(3,vI k)]) (fun k=>[]) (fun k=>k<=e.Idx.length/\((formsL e).all linOk=((e.Idx.drop k).flatMap fun x=>x.Lin::x.At).all linOk)) (fun k=>e.Idx.length-k) ⟨0,⟨by omega,form_start c1⟩,Weak.mk [true] ⟨Y,Y,T⟩ O⟩ ?_
  rintro k ⟨hk,hp⟩
  refine zK<|A O<|G O<|zH O yV<|zM kF (zD 0 O) O<|zZ O kO<|yJ O<|R<|zC O (fun c2=>?_) (fun c2=>?_)
  ·try simp only [sx] at c2
   obtain ⟨x,hx⟩:=qY e.Idx k (by omega)
   have hxw:=Ex.idx_wt (zY hx)
   refine zI<|zK<|zR<|zK<|A O<|zH O yV<|zM kF (zD 0 O) O<|G O<|qE O kO (by omega) (getm (by assumption))<|yB O zAh<|zO kL qA O<|qK O ok293 (zCa x.Lin (by omega)) ⟨Y,O,T⟩<|wA O<|R<|zC O (fun c3=>?_) (fun c3=>?_)
   ·try simp only [sx] at c3
    refine A O<|G O<|R<|zF<|zQ O ?_
    exact congrArg vB (form_no2 hp (by rw [qZ hx,List.flatMap_cons,List.all_append,List.all_cons,c3];rfl))
   ·try simp only [sx] at c3
    refine zI<|A O<|G O<|R<|zR<|zX ⟨[(4,.c _),(1,.c _),(3,.c _)],[_]⟩ (Weak.mk [true] ⟨Y,Y,Y,T⟩ O)<|qG 1 0 O O (Nat) (fun j=>[(4,vI j)]) (fun j=>[]) (fun j=>j<=x.At.length/\(x.At.all linOk=(x.At.drop j).all linOk)) (fun j=>x.At.length-j) ⟨0,⟨by omega,O⟩,Weak.mk [true] ⟨Y,Y,Y,T⟩ O⟩ ?_
    rintro j ⟨hj,hq⟩
    refine zK<|A O<|G O<|zH O yV<|zM kF (zD 0 O) O<|G O<|qE O kO (by omega) (getm (by assumption))<|yB O wC<|zM zAk qA O<|zZ O wV<|yJ O<|R<|zC O (fun c4=>?_) (fun c4=>?_)
    ·try simp only [sx] at c4
     obtain ⟨l,hl⟩:=qY x.At j (by omega)
     have hlw:=zAd (zY hl)
     refine zI<|zK<|zR<|A O<|zH O yV<|zM kF (zD 0 O) O<|G O<|qE O kO (by omega) (getm (by assumption))<|yB O wC<|zM zAk qA O<|G O<|qE O wV (by omega) (getm (by assumption))<|zO kL qA O<|qK O ok293 (zCa l (by omega)) ⟨Y,O,T⟩<|wA O<|R<|zC O (fun c5=>?_) (fun c5=>?_)
     ·try simp only [sx] at c5
      refine A O<|G O<|R<|zF<|zQ O ?_
      exact congrArg vB (form_no2 hp (by rw [qZ hx,List.flatMap_cons,List.all_append,List.all_cons,zKl hl (p:=linOk) c5];simp))
     ·try simp only [sx] at c5
      refine zI<|zN O<|G O<|qI O ⟨by omega,by omega⟩<|G O<|R ?_
      refine ⟨j+1,⟨by omega,zQa hl hq c5⟩,(by omega),Weak.mk [true] ⟨Y,Y,Y,T⟩ O⟩
    ·try simp only [sx] at c4
     refine qP<|zN O<|G O<|qI O ⟨by omega,by omega⟩<|G O<|R ?_
     refine ⟨k+1,⟨by omega,(by rw [hp,qZ hx,List.flatMap_cons,List.all_append,List.all_cons,c3,all_end hq (by omega)];rfl)⟩,(by omega),Weak.mk [true] ⟨Y,Y,T⟩ O⟩
  ·try simp only [sx] at c2
   refine qP<|A O<|G O<|R<|zF<|zQ O ?_
   exact congrArg vB (form_yes c1 (by rw [hp,kW (by omega)];rfl))
theorem zRj (e:Ex) (ih:∀a,a∈e.Args->a.wt<=6000000000000->Pur cfg 220 [vE a] (vI (partE a))) (he:e.wt<=6000000000000):
    Pur cfg 220 [vE e] (vI (partE e)):=by
 refine zS Tryz.func220 O Tryz.ntmps220 Tryz.results220 O ?_
 intro z hz
 obtain ⟨hL,hI,hA⟩:=e.parts he
 refine A O<|zU O O (qN O O) ?_
 rintro _ _ ⟨b1,rfl,rfl⟩
 refine G O<|R<|zK<|zR<|A O<|zO qX (zD 0 O) O<|qK O ok283 (ref14_plain e he) ⟨Y,O,T⟩<|wA O<|G O<|R<|zC O (fun c1=>?_) (fun c1=>?_)
 ·try simp only [sx] at c1
  refine A O<|G O<|R<|zF<|zQ O ?_
  exact congrArg vI (by rw [zEz,show nodeErr e=5 by simp only [nodeErr,c1];rfl];rfl)
 ·try simp only [sx] at c1
  refine A O<|zO qX (zD 0 O) O<|qK O ok284 (ref14_named e he) ⟨Y,O,T⟩<|wA O<|G O<|R<|zC O (fun c2=>?_) (fun c2=>?_)
  ·try simp only [sx] at c2
   refine A O<|G O<|R<|zF<|zQ O ?_
   exact congrArg vI (by rw [zEz,show nodeErr e=7 by simp only [nodeErr,c1,c2];rfl];rfl)
  ·try simp only [sx] at c2
   refine A O<|zO qX (zD 0 O) O<|qK O ok285 (ref14_ranked e he) ⟨Y,O,T⟩<|wA O<|G O<|R<|zC O (fun c3=>?_) (fun c3=>?_)
   ·try simp only [sx] at c3
    refine A O<|G O<|R<|zF<|zQ O ?_
    exact congrArg vI (by rw [zEz,show nodeErr e=11 by simp only [nodeErr,c1,c2,c3];rfl];rfl)
   ·try simp only [sx] at c3
    refine A O<|zO qX (zD 0 O) O<|qK O ok286 (ref14_typed e he) ⟨Y,O,T⟩<|wA O<|G O<|R<|zC O (fun c4=>?_) (fun c4=>?_)
    ·try simp only [sx] at c4
     refine A O<|G O<|R<|zF<|zQ O ?_
     exact congrArg vI (by rw [zEz,show nodeErr e=10 by simp only [nodeErr,c1,c2,c3,c4];rfl];rfl)
    ·try simp only [sx] at c4
     refine A O<|zO qX (zD 0 O) O<|qK O ok287 (ref14_formed e he (types_ty c4)) ⟨Y,O,T⟩<|wA O<|G O<|R<|zC O (fun c5=>?_) (fun c5=>?_)
     ·try simp only [sx] at c5
      refine A O<|G O<|R<|zF<|zQ O ?_
      exact congrArg vI (by rw [zEz,show nodeErr e=1 by simp only [nodeErr,c1,c2,c3,c4,c5];rfl];rfl)
     ·try simp only [sx] at c5
      have hn:nodeErr e=0:=by simp only [nodeErr,c1,c2,c3,c4,c5];rfl
      refine zI<|zK<|A O<|G O<|R<|zR<|zX ⟨[(3,.c _),(1,.c _)],[_]⟩ (Weak.mk [true] ⟨Y,Y,T⟩ O)<|qG 1 0 O O (Nat) (fun k=>[(3,vI k)]) (fun k=>[]) (fun k=>k<=e.Args.length/\(partL e.Args=partL (e.Args.drop k))) (fun k=>e.Args.length-k) ⟨0,⟨by omega,O⟩,Weak.mk [true] ⟨Y,Y,T⟩ O⟩ ?_
      rintro k ⟨hk,hp⟩
      refine zK<|A O<|G O<|zH O yY<|zM kU (zD 0 O) O<|zZ O wE<|yJ O<|R<|zC O (fun c6=>?_) (fun c6=>?_)
      ·try simp only [sx] at c6
       obtain ⟨a,ha⟩:=qY e.Args k (by omega)
       refine zI<|zK<|zR<|A O<|zH O yY<|zM kU (zD 0 O) O<|G O<|qE O wE (by omega) (zBr (by assumption))<|zO qX qA O<|qK O ok220 (ih a (zY ha) (by have:=Ex.arg_wt (zY ha);omega)) ⟨Y,O,T⟩<|G O<|R<|A O<|G O<|kP O<|R<|zC O (fun c7=>?_) (fun c7=>?_)
       ·try simp only [sx] at c7
        refine A O<|G O<|G O<|R<|zF<|zQ O ?_
        exact congrArg vI (by rw [zEz e,hn,zAi rfl,cond_true,hp,qZ ha,zNh,yF c7];rfl)
       ·try simp only [sx] at c7
        refine zI<|zN O<|G O<|qI O ⟨by omega,by omega⟩<|G O<|R ?_
        refine ⟨k+1,⟨by omega,(by rw [hp,qZ ha,zNh,zAi c7];rfl)⟩,(by omega),Weak.mk [true] ⟨Y,Y,T⟩ O⟩
      ·try simp only [sx] at c6
       refine qP<|A O<|G O<|R<|zF<|zQ O ?_
       exact congrArg vI (by rw [zEz,hn,zAi rfl,cond_true,hp,kW (by omega)];rfl)
theorem ref14_part (e:Ex) (he:e.wt<=6000000000000):Pur cfg 220 [vE e] (vI (partE e)):=by
  induction e using Ex.ind with
  |_ e ih=>exact zRj e ih he
theorem zIt (n:Nat) (ih:n≠0->∀(a:Ex) (l:Int),a.wt<=6000000000000->l=n->Pur cfg 269 [vE a,vI l] (vI (depT (n-1) a))) (hn:n<=100) (e:Ex) (l:Int) (he:e.wt<=6000000000000) (hl:l=n+1):
    Pur cfg 269 [vE e,vI l] (vI (depT n e)):=by
 refine zS Tryz.func269 O Tryz.ntmps269 Tryz.results269 O ?_
 intro z hz
 obtain ⟨hL,hI,hA⟩:=e.parts he
 refine A O<|zU O O (qN O O) ?_
 rintro _ _ ⟨b1,rfl,rfl⟩
 refine G O<|R<|zK<|A O<|G O<|zT O (zAa O O O)<|R<|zC O (fun c1=>?_) (fun c1=>?_)
 ·try simp only [sx] at c1
  obtain rfl:n=0:=by omega
  refine A O<|G O<|G O<|R<|zF<|zQ O ?_
  exact congrArg vI (by rw [hl];rfl)
 ·try simp only [sx] at c1
  obtain ⟨m,rfl⟩:∃m,n=m+1:=⟨n-1,by omega⟩
  refine zI<|A O<|G O<|R<|zK<|A O<|zH O yY<|zM kU (zD 0 O) O<|zZ O wE<|G O<|R<|zR<|zX ⟨[(14,.c _),(5,.c _),(1,.c _),(12,.c _),(13,.c _)],[]⟩ (Weak.mk [false] ⟨Y,Y,Y,Y,Y,T⟩ O)<|qG 2 0 O O (Nat×Int) (fun ⟨k,d⟩=>[(14,vI k),(5,vI d)]) (fun ⟨k,d⟩=>[]) (fun ⟨k,d⟩=>k<=e.Args.length/\(1<=d)/\(d<=m+2)/\(depT (m+1) e=depF (depT m) d (e.Args.drop k))) (fun ⟨k,d⟩=>e.Args.length-k) ⟨⟨0,1⟩,⟨by omega,by omega,by omega,O⟩,Weak.mk [] ⟨Y,VLe.of_eq (O),Y,Y,Y,T⟩ O⟩ ?_
  rintro ⟨k,d⟩ ⟨hk,hd1,hd2,hd3⟩
  show AWP _ _ _ _ _ ⟨[(14,vI k),(5,vI d)]++_,[]++_⟩
  refine A O<|yJ O<|R<|zK<|zC O (fun c2=>?_) (fun c2=>?_)
  ·try simp only [sx] at c2
   obtain ⟨a,ha⟩:=qY e.Args k (by omega)
   have hda:=depT_le m a
   refine zI<|zK<|zR<|A O<|qE O wE (by omega) (zBr (by assumption))<|zO qX qA O<|zU O O (qT [none,none,none,none,none,none,none,none,none,none,some 2,some 4,some 13] O zDx O) ?_
   rintro _ _ ⟨b2,rfl,rfl⟩
   refine rStR 0 zNb O<|R<|zN O<|G O<|zO qX (zD 0 O) O<|G O<|zT O (yD O O O ⟨by omega,by omega⟩)<|qK O ok269 (show Pur cfg 269 [vE a,vI (l-1)] (vI (depT m a)) from ih (by omega) a _ (by have:=Ex.arg_wt (zY ha);omega) (by omega)) ⟨Y,O,Y,O,T⟩<|qI O ⟨by omega,by omega⟩<|zT O (zLb O O O)<|G O<|R<|zN O<|qI O ⟨by omega,by omega⟩<|G O<|R ?_
   refine ⟨⟨k+1,max d (1+depT m a)⟩,⟨by omega,by omega,by omega,by rw [hd3,qZ ha,depF]⟩,(by show e.Args.length-(k+1)<e.Args.length-k;omega),Weak.mk [false] ⟨Y,Y,Y,Y,Y,T⟩ O⟩
  ·try simp only [sx] at c2
   refine qP<|A O<|G O<|G O<|R<|zF<|zQ O ?_
   exact congrArg vI (by rw [hd3,kW (by omega)];rfl)
theorem expr_depth (n:Nat) (e:Ex) (l:Int) (hn:n<=100) (he:e.wt<=6000000000000) (hl:l=n+1):Pur cfg 269 [vE e,vI l] (vI (depT n e)):=by
  induction n generalizing e l with
  |zero=>exact zIt 0 (fun h=>absurd rfl h) hn e l he hl
  |succ n ih=>exact zIt (n+1) (fun _ a l h1 h2=>ih a l (by omega) h1 (by omega)) hn e l he hl
theorem zHj (n:Nat) (ih:n≠0->∀(a:Ex) (l:Int),a.wt<=6000000000000->l=n->Pur cfg 281 [vE a,vI l] (vI (depT (n-1) a))) (hn:n<=100) (e:Ex) (l:Int) (he:e.wt<=6000000000000) (hl:l=n+1):
    Pur cfg 281 [vE e,vI l] (vI (depT n e)):=by
 refine zS Tryz.func281 O Tryz.ntmps281 Tryz.results281 O ?_
 intro z hz
 obtain ⟨hL,hI,hA⟩:=e.parts he
 refine A O<|zU O O (qN O O) ?_
 rintro _ _ ⟨b1,rfl,rfl⟩
 refine G O<|R<|A O<|G O<|R<|zK<|A O<|G O<|R<|zR<|zX ⟨[(6,.c _),(5,.c _),(1,.c _),(2,.c _)],[_]⟩ (Weak.mk [true] ⟨Y,Y,Y,Y,T⟩ O)<|qG 2 0 O O (Nat×Int) (fun ⟨k,d⟩=>[(6,vI k),(5,vI d)]) (fun ⟨k,d⟩=>[]) (fun ⟨k,d⟩=>k<=e.Args.length/\(1<=d)/\(d<=n+1)/\(n≠0->depT n e=depF (depT (n-1)) d (e.Args.drop k))/\(n=0->d=1)) (fun ⟨k,d⟩=>e.Args.length-k) ⟨⟨0,1⟩,⟨by omega,by omega,by omega,fun h0=>dep_start h0,fun _=>O⟩,Weak.mk [true] ⟨Y,VLe.of_eq (O),Y,Y,T⟩ O⟩ ?_
 rintro ⟨k,d⟩ ⟨hk,hd1,hd2,hd3,hd4⟩
 show AWP _ _ _ _ _ ⟨[(6,vI k),(5,vI d)]++_,[]++_⟩
 refine zK<|A O<|G O<|zH O yY<|zM kU (zD 0 O) O<|zZ O wE<|yJ O<|G O<|rL0 O (fun g3_5=>zP O O) O<|rL1 13 O (fun g3_5=>yA O O O) O<|yZ O (fun h=>h)<|R<|zC O (fun c1=>?_) (fun c1=>?_)
 ·try simp only [sx] at c1
  obtain ⟨a,ha⟩:=qY e.Args k (by omega)
  have hda:=depT_le (n-1) a
  refine zI<|zK<|zR<|zN O<|G O<|zH O yY<|zM kU (zD 0 O) O<|G O<|qE O wE (by omega) (zBr (by assumption))<|zO qX qA O<|G O<|zT O (yD O O O ⟨by omega,by omega⟩)<|qK O ok281 (ih (by omega) a _ (by have:=Ex.arg_wt (zY ha);omega) (by omega)) ⟨Y,O,Y,O,T⟩<|qI O ⟨by omega,by omega⟩<|zT O (zLb O O O)<|G O<|R<|zN O<|G O<|qI O ⟨by omega,by omega⟩<|G O<|R ?_
  refine ⟨⟨k+1,max d (1+depT (n-1) a)⟩,⟨by omega,by omega,by omega,fun h0=>by rw [hd3 h0,qZ ha,depF],fun h0=>by omega⟩,(by show e.Args.length-(k+1)<e.Args.length-k;omega),Weak.mk [true] ⟨Y,Y,Y,Y,T⟩ O⟩
 ·try simp only [sx] at c1
  refine qP<|A O<|G O<|G O<|R<|zF<|zQ O ?_
  exact congrArg vI (dep_end hl (by omega) hd3 hd4)
theorem ref14_depth (n:Nat) (e:Ex) (l:Int) (hn:n<=100) (he:e.wt<=6000000000000) (hl:l=n+1):Pur cfg 281 [vE e,vI l] (vI (depT n e)):=by
  induction n generalizing e l with
  |zero=>exact zHj 0 (fun h=>absurd rfl h) hn e l he hl
  |succ n ih=>exact zHj (n+1) (fun _ a l h1 h2=>ih a l (by omega) h1 (by omega)) hn e l he hl
theorem expr_Depth (e:Ex) (he:e.wt<=6000000000000):
    Pur cfg 207 [vE e] (vI (depT 40 e)):=by
 refine zS Tryz.func207 O Tryz.ntmps207 Tryz.results207 O ?_
 intro z hz
 refine A O<|zU O O (qN O O) ?_
 rintro _ _ ⟨b1,rfl,rfl⟩
 refine G O<|R<|A O<|zO qX (zD 0 O) O<|qK O ok269 (expr_depth 40 e 41 (by omega) he (by omega)) ⟨Y,O,Y,O,T⟩<|G O<|R<|zF<|zQ O ?_
 exact O
theorem ref14_Depth (e:Ex) (he:e.wt<=6000000000000):
    Pur cfg 218 [vE e] (vI (depT 40 e)):=by
 refine zS Tryz.func218 O Tryz.ntmps218 Tryz.results218 O ?_
 intro z hz
 refine A O<|zU O O (qN O O) ?_
 rintro _ _ ⟨b1,rfl,rfl⟩
 refine G O<|R<|A O<|zO qX (zD 0 O) O<|qK O ok281 (ref14_depth 40 e 41 (by omega) he (by omega)) ⟨Y,O,Y,O,T⟩<|G O<|R<|zF<|zQ O ?_
 exact O
theorem zRi (e:Ex) (ih:∀a,a∈e.Args->∀(m:Nat) (l:Int),a.wt<=6000000000000->m<=1000000->l=m->Pur cfg 282 [vE a,vI l] (vI (sizE a m))) (m:Nat) (l:Int) (he:e.wt<=6000000000000) (hm:m<=1000000) (hl:l=m):
    Pur cfg 282 [vE e,vI l] (vI (sizE e m)):=by
 refine zS Tryz.func282 O Tryz.ntmps282 Tryz.results282 O ?_
 intro z hz
 obtain ⟨hL,hI,hA⟩:=e.parts he
 refine A O<|zU O O (qN O O) ?_
 rintro _ _ ⟨b1,rfl,rfl⟩
 refine G O<|R<|A O<|G O<|R<|zK<|A O<|G O<|R<|zR<|zX ⟨[(6,.c _),(5,.c _),(1,.c _),(2,.c _)],[_]⟩ (Weak.mk [true] ⟨Y,Y,Y,Y,T⟩ O)<|qG 2 0 O O (Nat×Nat) (fun ⟨k,n⟩=>[(6,vI k),(5,vI n)]) (fun ⟨k,n⟩=>[]) (fun ⟨k,n⟩=>k<=e.Args.length/\(n<=m+1)/\(sizE e m=sizL (e.Args.drop k) m n)) (fun ⟨k,n⟩=>e.Args.length-k) ⟨⟨0,1⟩,⟨by omega,by omega,sizE_eq e m⟩,Weak.mk [true] ⟨Y,VLe.of_eq (O),Y,Y,T⟩ O⟩ ?_
 rintro ⟨k,n⟩ ⟨hk,hn1,hn2⟩
 show AWP _ _ _ _ _ ⟨[(6,vI k),(5,vI n)]++_,[]++_⟩
 refine zK<|A O<|G O<|zH O yY<|zM kU (zD 0 O) O<|zZ O wE<|yJ O<|G O<|rL0 O (fun g3_5=>zP O O) O<|rL0 O (fun g3_5=>zP O O) O<|rLz [(13,_),(14,_)] O gv1 ⟨O,O,O,O,T⟩ (fun g3_5=>zAa O O O) O<|yZ O (fun h=>h)<|R<|zC O (fun c1=>?_) (fun c1=>?_)
 ·try simp only [sx] at c1
  obtain ⟨a,ha⟩:=qY e.Args k (by omega)
  have hsa:=sizE_min a (m-n)
  refine zI<|zK<|zR<|zN O<|G O<|zH O yY<|zM kU (zD 0 O) O<|G O<|qE O wE (by omega) (zBr (by assumption))<|zO qX qA O<|G O<|G O<|zT O (yD O O O ⟨by omega,by omega⟩)<|qK O ok282 (ih a (zY ha) (m-n) _ (by have:=Ex.arg_wt (zY ha);omega) (by omega) (by omega)) ⟨Y,O,Y,O,T⟩<|qI O ⟨by omega,by omega⟩<|G O<|R<|zN O<|G O<|qI O ⟨by omega,by omega⟩<|G O<|R ?_
  refine ⟨⟨k+1,n+sizE a (m-n)⟩,⟨by omega,by omega,by rw [hn2,qZ ha,sizL,if_pos (by omega)]⟩,(by show e.Args.length-(k+1)<e.Args.length-k;omega),Weak.mk [true] ⟨Y,VLe.of_eq (congrArg vI (by omega)),Y,Y,T⟩ O⟩
 ·try simp only [sx] at c1
  refine qP<|A O<|G O<|G O<|R<|zF<|zQ O ?_
  exact congrArg vI (by rw [hn2];exact congrArg Nat.cast (siz_end hl (by omega)))
theorem ref14_size (e:Ex) (m:Nat) (l:Int) (he:e.wt<=6000000000000) (hm:m<=1000000) (hl:l=m):Pur cfg 282 [vE e,vI l] (vI (sizE e m)):=by
  induction e using Ex.ind generalizing m l with
  |_ e ih=>exact zRi e (fun a ha m l h1 h2 h3=>ih a ha m l h1 h2 h3) m l he hm hl
theorem ref14_Size (e:Ex) (he:e.wt<=6000000000000):
    Pur cfg 219 [vE e] (vI (szT e)):=by
 refine zS Tryz.func219 O Tryz.ntmps219 Tryz.results219 O ?_
 intro z hz
 refine A O<|zU O O (qN O O) ?_
 rintro _ _ ⟨b1,rfl,rfl⟩
 refine G O<|R<|A O<|zO qX (zD 0 O) O<|qK O ok282 (ref14_size e 2000 2000 he (by omega) O) ⟨Y,O,Y,O,T⟩<|zT O (det_min O O O)<|G O<|R<|zF<|zQ O ?_
 exact congrArg vI (by rw [sizE_min,szT];omega)
theorem zKf (e:Ex) (he:e.wt<=6000000000000):
    Pur cfg 155 [vE e] (vI (validE e)):=by
 refine zS Tryz.func155 O Tryz.ntmps155 Tryz.results155 O ?_
 intro z hz
 refine A O<|zU O O (qN O O) ?_
 rintro _ _ ⟨b1,rfl,rfl⟩
 refine G O<|R<|zK<|A O<|zO qX (zD 0 O) O<|qK O ok218 (ref14_Depth e he) ⟨Y,O,T⟩<|zT O (yA O O O)<|R<|zC O (fun c1=>?_) (fun c1=>?_)
 ·try simp only [sx] at c1
  refine A O<|G O<|R<|zF<|zQ O ?_
  rw [validE,zAi c1];rfl
 ·try simp only [sx] at c1
  refine zI<|zK<|A O<|zO qX (zD 0 O) O<|qK O ok219 (ref14_Size e he) ⟨Y,O,T⟩<|zT O (yA O O O)<|R<|zC O (fun c2=>?_) (fun c2=>?_)
  ·try simp only [sx] at c2
   refine A O<|G O<|R<|zF<|zQ O ?_
   rw [validE,yF (by omega),zAi c2];rfl
  ·try simp only [sx] at c2
   refine zI<|A O<|zO qX (zD 0 O) O<|qK O ok220 (ref14_part e he) ⟨Y,O,T⟩<|G O<|R<|zF<|zQ O ?_
   rw [validE,yF (by omega),yF (by omega)];rfl
end Go.W
