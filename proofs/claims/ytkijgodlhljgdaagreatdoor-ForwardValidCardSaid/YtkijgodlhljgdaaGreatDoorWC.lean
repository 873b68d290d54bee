/-
  Walks: what functions of the program compute. Printed by wip/gen/mk2.py.
  Conditions: none.
-/
import Derived.Test.YtkijgodlhljgdaaGreatDoorWB
set_option linter.unusedSimpArgs false
set_option linter.unusedVariables false
set_option maxRecDepth 10000
namespace Go.W
open Go Go.Eng Go.Proofs Go.L41 Go.Br
attribute [local irreducible] AWP RWP TD finQ
theorem qN:aggT Tryz.prog 38=some 13:=by kernel_rfl
theorem D:elemT Tryz.prog 36=some (38,13,160):=by kernel_rfl
theorem el63:elemT Tryz.prog 63=some (34,2,32):=by kernel_rfl
theorem yS:fieldT Tryz.prog 38 0=some (0,3):=by kernel_rfl
theorem zBw:fieldT Tryz.prog 38 1=some (1,9):=by kernel_rfl
theorem zGx:fieldT Tryz.prog 38 2=some (2,29):=by kernel_rfl
theorem zDm:fieldT Tryz.prog 38 3=some (4,31):=by kernel_rfl
theorem zDw:fieldT Tryz.prog 38 4=some (9,34):=by kernel_rfl
theorem kL:fieldT Tryz.prog 38 5=some (11,35):=by kernel_rfl
theorem kZ:fieldT Tryz.prog 38 6=some (12,36):=by kernel_rfl
theorem zDv:fieldT Tryz.prog 67 0=some (0,34):=by kernel_rfl
theorem zDk:fieldT Tryz.prog 67 1=some (2,9):=by kernel_rfl
theorem zAu:fieldT Tryz.prog 67 2=some (3,63):=by kernel_rfl
theorem fl29:flatK Tryz.prog 29=some [.int,.int]:=by kernel_rfl
theorem ok65:callOk Tryz.prog 65=true:=by kernel_rfl
theorem ok87:callOk Tryz.prog 87=true:=by kernel_rfl
theorem ok98:callOk Tryz.prog 98=true:=by kernel_rfl
theorem ok99:callOk Tryz.prog 99=true:=by kernel_rfl
theorem ok100:callOk Tryz.prog 100=true:=by kernel_rfl
theorem ok115:callOk Tryz.prog 115=true:=by kernel_rfl
theorem ok156:callOk Tryz.prog 156=true:=by kernel_rfl
theorem ok169:callOk Tryz.prog 169=true:=by kernel_rfl
theorem ok170:callOk Tryz.prog 170=true:=by kernel_rfl
theorem ok171:callOk Tryz.prog 171=true:=by kernel_rfl
theorem ok172:callOk Tryz.prog 172=true:=by kernel_rfl
theorem ok173:callOk Tryz.prog 173=true:=by kernel_rfl
theorem ok174:callOk Tryz.prog 174=true:=by kernel_rfl
theorem ok175:callOk Tryz.prog 175=true:=by kernel_rfl
theorem ok176:callOk Tryz.prog 176=true:=by kernel_rfl
theorem ok207:callOk Tryz.prog 207=true:=by kernel_rfl
theorem ok208:callOk Tryz.prog 208=true:=by kernel_rfl
theorem ok209:callOk Tryz.prog 209=true:=by kernel_rfl
theorem ok210:callOk Tryz.prog 210=true:=by kernel_rfl
theorem ok211:callOk Tryz.prog 211=true:=by kernel_rfl
theorem ok212:callOk Tryz.prog 212=true:=by kernel_rfl
theorem ok213:callOk Tryz.prog 213=true:=by kernel_rfl
theorem ok215:callOk Tryz.prog 215=true:=by kernel_rfl
theorem ok219:callOk Tryz.prog 219=true:=by kernel_rfl
theorem ok220:callOk Tryz.prog 220=true:=by kernel_rfl
theorem ok221:callOk Tryz.prog 221=true:=by kernel_rfl
theorem zAd:oneT Tryz.prog 35=true:=by kernel_rfl
theorem zAy:oneT Tryz.prog 36=true:=by kernel_rfl
theorem zBa:oneT Tryz.prog 63=true:=by kernel_rfl
theorem sz38:(Tryz.prog.info? 38).map (·.size)=some 13:=by kernel_rfl
theorem sz67:(Tryz.prog.info? 67).map (·.size)=some 4:=by kernel_rfl
theorem un4:Tryz.prog.underlying 4=some .bool:=by kernel_rfl
theorem zr38:zeroT Tryz.prog 38=some [(Value.int IntKind.i64 0),(Value.string (ByteArray.mk #[])),(Value.int IntKind.i64 0),(Value.int IntKind.i64 0),(Value.int IntKind.i64 0),(Value.int IntKind.i64 0),(Value.int IntKind.i64 0),(Value.int IntKind.i64 0),(Value.int IntKind.i64 0),(Value.int IntKind.i64 0),(Value.slice none 0 0),(Value.slice none 0 0),(Value.slice none 0 0)]:=by kernel_rfl
theorem zr67:zeroT Tryz.prog 67=some [(Value.int IntKind.i64 0),(Value.slice none 0 0),(Value.string (ByteArray.mk #[])),(Value.slice none 0 0)]:=by kernel_rfl
theorem expr_operands (op:Int):
    Pur cfg 212 [vI op] (vI (nArgs op)):=by
 refine zT Tryz.func212 O Tryz.ntmps212 Tryz.results212 O ?_
 intro z hz
 refine B O<|G O<|U<|zI<|B O<|G O<|U<|zP<|zI<|B O<|L O<|G O<|U<|zE O (fun c1=>?_) (fun c1=>?_)
 ·try simp only [W] at c1
  refine zJ<|zE O (fun c3=>?_) (fun c3=>?_)
  ·try simp only [W] at c3
   refine B O<|G O<|U<|zH<|zQ O ?_
   exact congrArg vI (by unfold nArgs;(repeat' split)<;>omega)
  ·try simp only [W] at c3
   refine zI<|B O<|L O<|G O<|U<|zE O (fun c4=>?_) (fun c4=>?_)
   ·try simp only [W] at c4
    refine zJ<|zE O (fun c6=>?_) (fun c6=>?_)
    ·try simp only [W] at c6
     refine B O<|G O<|U<|zH<|zQ O ?_
     exact congrArg vI (by unfold nArgs;(repeat' split)<;>omega)
    ·try simp only [W] at c6
     refine B O<|L O<|G O<|U<|zE O (fun c7=>?_) (fun c7=>?_)
     ·try simp only [W] at c7
      refine B O<|G O<|U<|zH<|zQ O ?_
      exact congrArg vI (by unfold nArgs;(repeat' split)<;>omega)
     ·try simp only [W] at c7
      refine zJ<|B O<|G O<|U<|zH<|zQ O ?_
      exact congrArg vI (by unfold nArgs;(repeat' split)<;>omega)
   ·try simp only [W] at c4
    refine B O<|L O<|G O<|U<|zE O (fun c5=>?_) (fun c5=>?_)
    ·try simp only [W] at c5
     refine zJ<|zE O (fun c6=>?_) (fun c6=>?_)
     ·try simp only [W] at c6
      refine B O<|G O<|U<|zH<|zQ O ?_
      exact congrArg vI (by unfold nArgs;(repeat' split)<;>omega)
     ·try simp only [W] at c6
      refine B O<|L O<|G O<|U<|zE O (fun c7=>?_) (fun c7=>?_)
      ·try simp only [W] at c7
       refine B O<|G O<|U<|zH<|zQ O ?_
       exact congrArg vI (by unfold nArgs;(repeat' split)<;>omega)
      ·try simp only [W] at c7
       refine zJ<|B O<|G O<|U<|zH<|zQ O ?_
       exact congrArg vI (by unfold nArgs;(repeat' split)<;>omega)
    ·try simp only [W] at c5
     refine zS O<|L O<|G O<|U<|zE O (fun c6=>?_) (fun c6=>?_)
     ·try simp only [W] at c6
      refine B O<|G O<|U<|zH<|zQ O ?_
      exact congrArg vI (by unfold nArgs;(repeat' split)<;>omega)
     ·try simp only [W] at c6
      refine B O<|L O<|G O<|U<|zE O (fun c7=>?_) (fun c7=>?_)
      ·try simp only [W] at c7
       refine B O<|G O<|U<|zH<|zQ O ?_
       exact congrArg vI (by unfold nArgs;(repeat' split)<;>omega)
      ·try simp only [W] at c7
       refine zJ<|B O<|G O<|U<|zH<|zQ O ?_
       exact congrArg vI (by unfold nArgs;(repeat' split)<;>omega)
 ·try simp only [W] at c1
  refine B O<|L O<|G O<|U<|zE O (fun c2=>?_) (fun c2=>?_)
  ·try simp only [W] at c2
   refine zJ<|zE O (fun c3=>?_) (fun c3=>?_)
   ·try simp only [W] at c3
    refine B O<|G O<|U<|zH<|zQ O ?_
    exact congrArg vI (by unfold nArgs;(repeat' split)<;>omega)
   ·try simp only [W] at c3
    refine zI<|B O<|L O<|G O<|U<|zE O (fun c4=>?_) (fun c4=>?_)
    ·try simp only [W] at c4
     refine zJ<|zE O (fun c6=>?_) (fun c6=>?_)
     ·try simp only [W] at c6
      refine B O<|G O<|U<|zH<|zQ O ?_
      exact congrArg vI (by unfold nArgs;(repeat' split)<;>omega)
     ·try simp only [W] at c6
      refine B O<|L O<|G O<|U<|zE O (fun c7=>?_) (fun c7=>?_)
      ·try simp only [W] at c7
       refine B O<|G O<|U<|zH<|zQ O ?_
       exact congrArg vI (by unfold nArgs;(repeat' split)<;>omega)
      ·try simp only [W] at c7
       refine zJ<|B O<|G O<|U<|zH<|zQ O ?_
       exact congrArg vI (by unfold nArgs;(repeat' split)<;>omega)
    ·try simp only [W] at c4
     refine B O<|L O<|G O<|U<|zE O (fun c5=>?_) (fun c5=>?_)
     ·try simp only [W] at c5
      refine zJ<|zE O (fun c6=>?_) (fun c6=>?_)
      ·try simp only [W] at c6
       refine B O<|G O<|U<|zH<|zQ O ?_
       exact congrArg vI (by unfold nArgs;(repeat' split)<;>omega)
      ·try simp only [W] at c6
       refine B O<|L O<|G O<|U<|zE O (fun c7=>?_) (fun c7=>?_)
       ·try simp only [W] at c7
        refine B O<|G O<|U<|zH<|zQ O ?_
        exact congrArg vI (by unfold nArgs;(repeat' split)<;>omega)
       ·try simp only [W] at c7
        refine zJ<|B O<|G O<|U<|zH<|zQ O ?_
        exact congrArg vI (by unfold nArgs;(repeat' split)<;>omega)
     ·try simp only [W] at c5
      refine zS O<|L O<|G O<|U<|zE O (fun c6=>?_) (fun c6=>?_)
      ·try simp only [W] at c6
       refine B O<|G O<|U<|zH<|zQ O ?_
       exact congrArg vI (by unfold nArgs;(repeat' split)<;>omega)
      ·try simp only [W] at c6
       refine B O<|L O<|G O<|U<|zE O (fun c7=>?_) (fun c7=>?_)
       ·try simp only [W] at c7
        refine B O<|G O<|U<|zH<|zQ O ?_
        exact congrArg vI (by unfold nArgs;(repeat' split)<;>omega)
       ·try simp only [W] at c7
        refine zJ<|B O<|G O<|U<|zH<|zQ O ?_
        exact congrArg vI (by unfold nArgs;(repeat' split)<;>omega)
  ·try simp only [W] at c2
   refine zS O<|L O<|G O<|U<|zE O (fun c3=>?_) (fun c3=>?_)
   ·try simp only [W] at c3
    refine B O<|G O<|U<|zH<|zQ O ?_
    exact congrArg vI (by unfold nArgs;(repeat' split)<;>omega)
   ·try simp only [W] at c3
    refine zI<|B O<|L O<|G O<|U<|zE O (fun c4=>?_) (fun c4=>?_)
    ·try simp only [W] at c4
     refine zJ<|zE O (fun c6=>?_) (fun c6=>?_)
     ·try simp only [W] at c6
      refine B O<|G O<|U<|zH<|zQ O ?_
      exact congrArg vI (by unfold nArgs;(repeat' split)<;>omega)
     ·try simp only [W] at c6
      refine B O<|L O<|G O<|U<|zE O (fun c7=>?_) (fun c7=>?_)
      ·try simp only [W] at c7
       refine B O<|G O<|U<|zH<|zQ O ?_
       exact congrArg vI (by unfold nArgs;(repeat' split)<;>omega)
      ·try simp only [W] at c7
       refine zJ<|B O<|G O<|U<|zH<|zQ O ?_
       exact congrArg vI (by unfold nArgs;(repeat' split)<;>omega)
    ·try simp only [W] at c4
     refine B O<|L O<|G O<|U<|zE O (fun c5=>?_) (fun c5=>?_)
     ·try simp only [W] at c5
      refine zJ<|zE O (fun c6=>?_) (fun c6=>?_)
      ·try simp only [W] at c6
       refine B O<|G O<|U<|zH<|zQ O ?_
       exact congrArg vI (by unfold nArgs;(repeat' split)<;>omega)
      ·try simp only [W] at c6
       refine B O<|L O<|G O<|U<|zE O (fun c7=>?_) (fun c7=>?_)
       ·try simp only [W] at c7
        refine B O<|G O<|U<|zH<|zQ O ?_
        exact congrArg vI (by unfold nArgs;(repeat' split)<;>omega)
       ·try simp only [W] at c7
        refine zJ<|B O<|G O<|U<|zH<|zQ O ?_
        exact congrArg vI (by unfold nArgs;(repeat' split)<;>omega)
     ·try simp only [W] at c5
      refine zS O<|L O<|G O<|U<|zE O (fun c6=>?_) (fun c6=>?_)
      ·try simp only [W] at c6
       refine B O<|G O<|U<|zH<|zQ O ?_
       exact congrArg vI (by unfold nArgs;(repeat' split)<;>omega)
      ·try simp only [W] at c6
       refine B O<|L O<|G O<|U<|zE O (fun c7=>?_) (fun c7=>?_)
       ·try simp only [W] at c7
        refine B O<|G O<|U<|zH<|zQ O ?_
        exact congrArg vI (by unfold nArgs;(repeat' split)<;>omega)
       ·try simp only [W] at c7
        refine zJ<|B O<|G O<|U<|zH<|zQ O ?_
        exact congrArg vI (by unfold nArgs;(repeat' split)<;>omega)
theorem zFh (e:Ex):
    Pur cfg 65 [vE e] (vB (isCond e)):=by
 refine zT Tryz.func65 O Tryz.ntmps65 Tryz.results65 O ?_
 intro z hz
 refine B O<|zZ O O (qI O O) ?_
 rintro _ _ ⟨b1,rfl,rfl⟩
 refine G O<|U<|B O<|zG O yS<|zK one3 (J 0 O) O<|zX O (kQ O O O)<|G O<|rL0 O (fun g1_3=>zD O yS O) O<|rL1 7 O (fun g1_3=>zF O one3 O (J 0 O) O) O<|rL1 8 O (fun g1_3=>kQ O O O) O<|yW O (fun h=>h)<|G O<|U<|zH<|zQ O ?_
 exact O
theorem zKj (op:Int):
    Pur cfg 219 [vI op] (vI (nArgs op)):=by
 refine zT Tryz.func219 O Tryz.ntmps219 Tryz.results219 O ?_
 intro z hz
 refine B O<|G O<|U<|zI<|B O<|G O<|U<|zP<|zI<|B O<|L O<|G O<|U<|zE O (fun c1=>?_) (fun c1=>?_)
 ·try simp only [W] at c1
  refine zJ<|zE O (fun c3=>?_) (fun c3=>?_)
  ·try simp only [W] at c3
   refine B O<|G O<|U<|zH<|zQ O ?_
   exact congrArg vI (by unfold nArgs;(repeat' split)<;>omega)
  ·try simp only [W] at c3
   refine zI<|B O<|L O<|G O<|U<|zE O (fun c4=>?_) (fun c4=>?_)
   ·try simp only [W] at c4
    refine zJ<|zE O (fun c6=>?_) (fun c6=>?_)
    ·try simp only [W] at c6
     refine B O<|G O<|U<|zH<|zQ O ?_
     exact congrArg vI (by unfold nArgs;(repeat' split)<;>omega)
    ·try simp only [W] at c6
     refine B O<|L O<|G O<|U<|zE O (fun c7=>?_) (fun c7=>?_)
     ·try simp only [W] at c7
      refine B O<|G O<|U<|zH<|zQ O ?_
      exact congrArg vI (by unfold nArgs;(repeat' split)<;>omega)
     ·try simp only [W] at c7
      refine zJ<|B O<|G O<|U<|zH<|zQ O ?_
      exact congrArg vI (by unfold nArgs;(repeat' split)<;>omega)
   ·try simp only [W] at c4
    refine B O<|L O<|G O<|U<|zE O (fun c5=>?_) (fun c5=>?_)
    ·try simp only [W] at c5
     refine zJ<|zE O (fun c6=>?_) (fun c6=>?_)
     ·try simp only [W] at c6
      refine B O<|G O<|U<|zH<|zQ O ?_
      exact congrArg vI (by unfold nArgs;(repeat' split)<;>omega)
     ·try simp only [W] at c6
      refine B O<|L O<|G O<|U<|zE O (fun c7=>?_) (fun c7=>?_)
      ·try simp only [W] at c7
       refine B O<|G O<|U<|zH<|zQ O ?_
       exact congrArg vI (by unfold nArgs;(repeat' split)<;>omega)
      ·try simp only [W] at c7
       refine zJ<|B O<|G O<|U<|zH<|zQ O ?_
       exact congrArg vI (by unfold nArgs;(repeat' split)<;>omega)
    ·try simp only [W] at c5
     refine zS O<|L O<|G O<|U<|zE O (fun c6=>?_) (fun c6=>?_)
     ·try simp only [W] at c6
      refine B O<|G O<|U<|zH<|zQ O ?_
      exact congrArg vI (by unfold nArgs;(repeat' split)<;>omega)
     ·try simp only [W] at c6
      refine B O<|L O<|G O<|U<|zE O (fun c7=>?_) (fun c7=>?_)
      ·try simp only [W] at c7
       refine B O<|G O<|U<|zH<|zQ O ?_
       exact congrArg vI (by unfold nArgs;(repeat' split)<;>omega)
      ·try simp only [W] at c7
       refine zJ<|B O<|G O<|U<|zH<|zQ O ?_
       exact congrArg vI (by unfold nArgs;(repeat' split)<;>omega)
 ·try simp only [W] at c1
  refine B O<|L O<|G O<|U<|zE O (fun c2=>?_) (fun c2=>?_)
  ·try simp only [W] at c2
   refine zJ<|zE O (fun c3=>?_) (fun c3=>?_)
   ·try simp only [W] at c3
    refine B O<|G O<|U<|zH<|zQ O ?_
    exact congrArg vI (by unfold nArgs;(repeat' split)<;>omega)
   ·try simp only [W] at c3
    refine zI<|B O<|L O<|G O<|U<|zE O (fun c4=>?_) (fun c4=>?_)
    ·try simp only [W] at c4
     refine zJ<|zE O (fun c6=>?_) (fun c6=>?_)
     ·try simp only [W] at c6
      refine B O<|G O<|U<|zH<|zQ O ?_
      exact congrArg vI (by unfold nArgs;(repeat' split)<;>omega)
     ·try simp only [W] at c6
      refine B O<|L O<|G O<|U<|zE O (fun c7=>?_) (fun c7=>?_)
      ·try simp only [W] at c7
       refine B O<|G O<|U<|zH<|zQ O ?_
       exact congrArg vI (by unfold nArgs;(repeat' split)<;>omega)
      ·try simp only [W] at c7
       refine zJ<|B O<|G O<|U<|zH<|zQ O ?_
       exact congrArg vI (by unfold nArgs;(repeat' split)<;>omega)
    ·try simp only [W] at c4
     refine B O<|L O<|G O<|U<|zE O (fun c5=>?_) (fun c5=>?_)
     ·try simp only [W] at c5
      refine zJ<|zE O (fun c6=>?_) (fun c6=>?_)
      ·try simp only [W] at c6
       refine B O<|G O<|U<|zH<|zQ O ?_
       exact congrArg vI (by unfold nArgs;(repeat' split)<;>omega)
      ·try simp only [W] at c6
       refine B O<|L O<|G O<|U<|zE O (fun c7=>?_) (fun c7=>?_)
       ·try simp only [W] at c7
        refine B O<|G O<|U<|zH<|zQ O ?_
        exact congrArg vI (by unfold nArgs;(repeat' split)<;>omega)
       ·try simp only [W] at c7
        refine zJ<|B O<|G O<|U<|zH<|zQ O ?_
        exact congrArg vI (by unfold nArgs;(repeat' split)<;>omega)
     ·try simp only [W] at c5
      refine zS O<|L O<|G O<|U<|zE O (fun c6=>?_) (fun c6=>?_)
      ·try simp only [W] at c6
       refine B O<|G O<|U<|zH<|zQ O ?_
       exact congrArg vI (by unfold nArgs;(repeat' split)<;>omega)
      ·try simp only [W] at c6
       refine B O<|L O<|G O<|U<|zE O (fun c7=>?_) (fun c7=>?_)
       ·try simp only [W] at c7
        refine B O<|G O<|U<|zH<|zQ O ?_
        exact congrArg vI (by unfold nArgs;(repeat' split)<;>omega)
       ·try simp only [W] at c7
        refine zJ<|B O<|G O<|U<|zH<|zQ O ?_
        exact congrArg vI (by unfold nArgs;(repeat' split)<;>omega)
  ·try simp only [W] at c2
   refine zS O<|L O<|G O<|U<|zE O (fun c3=>?_) (fun c3=>?_)
   ·try simp only [W] at c3
    refine B O<|G O<|U<|zH<|zQ O ?_
    exact congrArg vI (by unfold nArgs;(repeat' split)<;>omega)
   ·try simp only [W] at c3
    refine zI<|B O<|L O<|G O<|U<|zE O (fun c4=>?_) (fun c4=>?_)
    ·try simp only [W] at c4
     refine zJ<|zE O (fun c6=>?_) (fun c6=>?_)
     ·try simp only [W] at c6
      refine B O<|G O<|U<|zH<|zQ O ?_
      exact congrArg vI (by unfold nArgs;(repeat' split)<;>omega)
     ·try simp only [W] at c6
      refine B O<|L O<|G O<|U<|zE O (fun c7=>?_) (fun c7=>?_)
      ·try simp only [W] at c7
       refine B O<|G O<|U<|zH<|zQ O ?_
       exact congrArg vI (by unfold nArgs;(repeat' split)<;>omega)
      ·try simp only [W] at c7
       refine zJ<|B O<|G O<|U<|zH<|zQ O ?_
       exact congrArg vI (by unfold nArgs;(repeat' split)<;>omega)
    ·try simp only [W] at c4
     refine B O<|L O<|G O<|U<|zE O (fun c5=>?_) (fun c5=>?_)
     ·try simp only [W] at c5
      refine zJ<|zE O (fun c6=>?_) (fun c6=>?_)
      ·try simp only [W] at c6
       refine B O<|G O<|U<|zH<|zQ O ?_
       exact congrArg vI (by unfold nArgs;(repeat' split)<;>omega)
      ·try simp only [W] at c6
       refine B O<|L O<|G O<|U<|zE O (fun c7=>?_) (fun c7=>?_)
       ·try simp only [W] at c7
        refine B O<|G O<|U<|zH<|zQ O ?_
        exact congrArg vI (by unfold nArgs;(repeat' split)<;>omega)
       ·try simp only [W] at c7
        refine zJ<|B O<|G O<|U<|zH<|zQ O ?_
        exact congrArg vI (by unfold nArgs;(repeat' split)<;>omega)
     ·try simp only [W] at c5
      refine zS O<|L O<|G O<|U<|zE O (fun c6=>?_) (fun c6=>?_)
      ·try simp only [W] at c6
       refine B O<|G O<|U<|zH<|zQ O ?_
       exact congrArg vI (by unfold nArgs;(repeat' split)<;>omega)
      ·try simp only [W] at c6
       refine B O<|L O<|G O<|U<|zE O (fun c7=>?_) (fun c7=>?_)
       ·try simp only [W] at c7
        refine B O<|G O<|U<|zH<|zQ O ?_
        exact congrArg vI (by unfold nArgs;(repeat' split)<;>omega)
       ·try simp only [W] at c7
        refine zJ<|B O<|G O<|U<|zH<|zQ O ?_
        exact congrArg vI (by unfold nArgs;(repeat' split)<;>omega)
theorem zBr (e:Ex):
    Pur cfg 87 [vE e] (vB (isCond e)):=by
 refine zT Tryz.func87 O Tryz.ntmps87 Tryz.results87 O ?_
 intro z hz
 refine B O<|zZ O O (qI O O) ?_
 rintro _ _ ⟨b1,rfl,rfl⟩
 refine G O<|U<|B O<|zG O yS<|zK one3 (J 0 O) O<|zX O (wD O O O)<|G O<|rL0 O (fun g1_3=>zD O yS O) O<|rL1 7 O (fun g1_3=>zF O one3 O (J 0 O) O) O<|rL1 8 O (fun g1_3=>kQ O O O) O<|yW O (fun h=>h)<|G O<|U<|zH<|zQ O ?_
 exact O
theorem zFj (op i:Int):
    Pur cfg 215 [vI op,vI i] (vB (wantC op i)):=by
 refine zT Tryz.func215 O Tryz.ntmps215 Tryz.results215 O ?_
 intro z hz
 refine B O<|G O<|U<|zI<|B O<|G O<|U<|zP<|zI<|B O<|L O<|G O<|U<|zE O (fun c1=>?_) (fun c1=>?_)
 ·try simp only [W] at c1
  refine zJ<|zE O (fun c3=>?_) (fun c3=>?_)
  ·try simp only [W] at c3
   refine B O<|G O<|U<|zH<|zQ O ?_
   exact congrArg vB (by unfold wantC;first|(exfalso;omega)|(simp [*];done)|(rw [Bool.eq_iff_iff];simp only [Bool.or_eq_true,Bool.and_eq_true,decide_eq_true_eq];omega))
  ·try simp only [W] at c3
   refine zJ<|B O<|G O<|L O<|G O<|rL0 O (fun g6_2=>zR O O) O<|rL1 13 O (fun g6_2=>yF O O O) O<|yW O (fun h=>h)<|G O<|U<|zH<|zQ O ?_
   exact congrArg vB (by unfold wantC;first|(exfalso;omega)|(simp [*];done)|(rw [Bool.eq_iff_iff];simp only [Bool.or_eq_true,Bool.and_eq_true,decide_eq_true_eq];omega))
 ·try simp only [W] at c1
  refine B O<|L O<|G O<|U<|zE O (fun c2=>?_) (fun c2=>?_)
  ·try simp only [W] at c2
   refine zJ<|zE O (fun c3=>?_) (fun c3=>?_)
   ·try simp only [W] at c3
    refine B O<|G O<|U<|zH<|zQ O ?_
    exact congrArg vB (by unfold wantC;first|(exfalso;omega)|(simp [*];done)|(rw [Bool.eq_iff_iff];simp only [Bool.or_eq_true,Bool.and_eq_true,decide_eq_true_eq];omega))
   ·try simp only [W] at c3
    refine zJ<|B O<|G O<|L O<|G O<|rL0 O (fun g6_2=>zR O O) O<|rL1 13 O (fun g6_2=>yF O O O) O<|yW O (fun h=>h)<|G O<|U<|zH<|zQ O ?_
    exact congrArg vB (by unfold wantC;first|(exfalso;omega)|(simp [*];done)|(rw [Bool.eq_iff_iff];simp only [Bool.or_eq_true,Bool.and_eq_true,decide_eq_true_eq];omega))
  ·try simp only [W] at c2
   refine zS O<|L O<|G O<|U<|zE O (fun c3=>?_) (fun c3=>?_)
   ·try simp only [W] at c3
    refine B O<|G O<|U<|zH<|zQ O ?_
    exact congrArg vB (by unfold wantC;first|(exfalso;omega)|(simp [*];done)|(rw [Bool.eq_iff_iff];simp only [Bool.or_eq_true,Bool.and_eq_true,decide_eq_true_eq];omega))
   ·try simp only [W] at c3
    refine zJ<|B O<|G O<|L O<|G O<|rL0 O (fun g6_2=>zR O O) O<|rL1 13 O (fun g6_2=>yF O O O) O<|yW O (fun h=>h)<|G O<|U<|zH<|zQ O ?_
    exact congrArg vB (by unfold wantC;first|(exfalso;omega)|(simp [*];done)|(rw [Bool.eq_iff_iff];simp only [Bool.or_eq_true,Bool.and_eq_true,decide_eq_true_eq];omega))
theorem ref14_wants (op i:Int):
    Pur cfg 220 [vI op,vI i] (vB (wantC op i)):=by
 refine zT Tryz.func220 O Tryz.ntmps220 Tryz.results220 O ?_
 intro z hz
 refine B O<|G O<|U<|B O<|G O<|L O<|G O<|rL0 O (fun g1_2=>zR O O) O<|rL1 8 O (fun g1_2=>yF O O O) O<|yW O (fun h=>h)<|G O<|rL0 O (fun g1_6=>zR O O) O<|rL1 12 O (fun g1_6=>yF O O O) O<|r_or O (fun h=>(lzf h))<|G O<|rL0 O (fun g1_10=>zR O O) O<|rL1 16 O (fun g1_10=>yF O O O) O<|r_or O (fun h=>(lzf h))<|G O<|rL0 O (fun g1_14=>zR O O) O<|rL1 20 O (fun g1_14=>yF O O O) O<|r_or O (fun h=>(lzf h))<|G O<|U<|zH<|zQ O ?_
 exact O
theorem zNv (l:Lf):
    Pur cfg 207 [vLin l] (vB (zeroL l)):=by
 refine zT Tryz.func207 O Tryz.ntmps207 Tryz.results207 O ?_
 intro z hz
 refine B O<|zZ O O (qI O O) ?_
 rintro _ _ ⟨b1,rfl,rfl⟩
 refine G O<|U<|B O<|zG O zIp<|zK one2 (J 0 O) O<|L O<|G O<|rL0 O (fun g1_3=>zD O wU O) O<|rL1 7 O (fun g1_3=>zF O zBv O (J 0 O) O) O<|rL1 8 O (fun g1_3=>qP O el32 O) O<|rL1 9 O (fun g1_3=>yF O O O) O<|yW O (fun h=>h)<|G O<|U<|zH<|zQ O ?_
 exact O
theorem zNu (x:Ix):
    Pur cfg 210 [vIndex x] (vB (wellIx x)):=by
 refine zT Tryz.func210 O Tryz.ntmps210 Tryz.results210 O ?_
 intro z hz
 refine B O<|zZ O O (qI O O) ?_
 rintro _ _ ⟨b1,rfl,rfl⟩
 refine G O<|U<|zI<|B O<|zG O zDk<|zK one9 (J 0 O) O<|zX O (yL O O O)<|U<|zE O (fun c1=>?_) (fun c1=>?_)
 ·try simp only [W] at c1
  refine B O<|zG O zAu<|zK zBa (J 0 O) O<|zY O el63<|L O<|G O<|U<|zH<|zQ O ?_
  rw [wellIx,kT c1];rfl
 ·try simp only [W] at c1
  refine zJ<|B O<|zG O zDv<|zL kK (J 0 O) O<|qK O ok207 (zNv x.Lin) ⟨Y,O,T⟩<|G O<|U<|zH<|zQ O ?_
  rw [wellIx,yC c1];rfl
theorem expr_syntax_1 (x:Ix):
    Pur cfg 209 [vIndex x] (vB (!wellIx x)):=by
 refine zT Tryz.func209 O Tryz.ntmps209 Tryz.results209 O ?_
 intro z hz
 refine B O<|zZ O O (qI O O) ?_
 rintro _ _ ⟨b1,rfl,rfl⟩
 refine G O<|U<|B O<|zL zJe (J 0 O) O<|qK O ok210 (zNu x) ⟨Y,O,T⟩<|wB O<|G O<|U<|zH<|zQ O ?_
 exact O
theorem expr_names_1 (x:Ix):
    Pur cfg 211 [vIndex x] (vB (!nmIx x)):=by
 refine zT Tryz.func211 O Tryz.ntmps211 Tryz.results211 O ?_
 intro z hz
 refine B O<|zZ O O (qI O O) ?_
 rintro _ _ ⟨b1,rfl,rfl⟩
 refine G O<|U<|B O<|zG O zDk<|zK one9 (J 0 O) O<|zX O (zCt O O O)<|G O<|rL0 O (fun g1_3=>zD O zDk O) O<|rL1 7 O (fun g1_3=>zF O one9 O (J 0 O) O) O<|rL1 8 O (fun g1_3=>qG O ok176 (zDu _) ⟨Y,O,T⟩) O<|rL1 9 O (fun g1_3=>wA O O) O<|yW O (fun h=>h)<|G O<|U<|zH<|zQ O ?_
 exact congrArg vB (by unfold nmIx;simp)
theorem expr_rank_1 (x:Ix):
    Pur cfg 213 [vIndex x] (vB (!rkIx x)):=by
 refine zT Tryz.func213 O Tryz.ntmps213 Tryz.results213 O ?_
 intro z hz
 refine B O<|zZ O O (qI O O) ?_
 rintro _ _ ⟨b1,rfl,rfl⟩
 refine G O<|U<|B O<|zG O zAu<|zK zBa (J 0 O) O<|zY O el63<|zX O (yD O O O)<|G O<|U<|zH<|zQ O ?_
 exact congrArg vB (by unfold rkIx;simp)
theorem expr_syntax (e:Ex) (he:e.wt<=6000000000000):
    Pur cfg 157 [vE e] (vB (synOk e)):=by
 refine zT Tryz.func157 O Tryz.ntmps157 Tryz.results157 O ?_
 intro z hz
 obtain ⟨hL,hI,hA⟩:=e.parts he
 refine B O<|zZ O O (qI O O) ?_
 rintro _ _ ⟨b1,rfl,rfl⟩
 refine G O<|U<|zI<|qT 13 mixed (by kernel_rfl) O O<|zM O O (zD O yS O)<|zM O O (zF O one3 O (J 0 O) O)<|zM O O (yF O O O)<|zM O O (zD O yS O)<|zM O O (zF O one3 O (J 0 O) O)<|zM O O (yF O O O)<|zM O O (zR O O)<|qC [] O O O O gv1 T (fun g1_6=>zD O yS O) O<|qC [(14,_)] O O O O gv1 ⟨O,O,T⟩ (fun g1_6=>zF O one3 O (J 0 O) O) O<|qC [(15,_)] O O O O gv1 ⟨O,O,T⟩ (fun g1_6=>yF O O O) O<|zM O O (zAw O O O O (fun h=>(lzf h)))<|zM O O (yQ O O)<|zM O O (yQ O O)<|yM<|U<|zI<|qT 8 mixed (by kernel_rfl) O O<|zM O O (zD O yS O)<|zM O O (zF O one3 O (J 0 O) O)<|zM O O (yF O O O)<|zM O O (zD O yS O)<|zM O O (zF O one3 O (J 0 O) O)<|zM O O (yF O O O)<|zM O O (yQ O O)<|zM O O (yQ O O)<|yM<|U<|zI<|zP<|B O<|zG O yS<|zK one3 (J 0 O) O<|yA O<|G O<|rL0 O (fun g3_3=>zD O yS O) O<|rL1 29 O (fun g3_3=>zF O one3 O (J 0 O) O) O<|rL1 30 O (fun g3_3=>yD O O O) O<|r_or O (fun h=>(lzf h))<|G O<|U<|zE O (fun c1=>?_) (fun c1=>?_)
 ·refine B O<|G O<|U<|zH<|zQ O ?_
  exact congrArg vB (by simp only [synOk,c1,Bool.not_true,Bool.not_false,Bool.true_and,Bool.and_true,Bool.false_and,Bool.and_false])
 ·refine B O<|G O<|wB O<|G O<|rL0 O (fun g5_2=>zD O zGx O) O<|rL1 37 O (fun g5_2=>zN O agg29 O (J 0 O) O) O<|rL0 O (fun g5_2=>kX O zr29 pl29 O) O<|rLz [(38,_),(39,_)] O gv1 ⟨O,O,O,O,T⟩ (fun g5_2=>zCf O fl29 O O O) O<|yW O (fun h=>h)<|G O<|U<|zE O (fun c2=>?_) (fun c2=>?_)
  ·have c2:(!decide (e.Op=1)&& !val0 e.Val)=true:=c2
   refine B O<|G O<|U<|zH<|zQ O ?_
   exact congrArg vB (by simp only [synOk,c2,Bool.not_true,Bool.not_false,Bool.true_and,Bool.and_true,Bool.false_and,Bool.and_false])
  ·have c2:(!decide (e.Op=1)&& !val0 e.Val)=false:=c2
   refine B O<|G O<|wB O<|G O<|rL0 O (fun g7_2=>zD O zDm O) O<|rL1 46 O (fun g7_2=>zN O qZ O (J 0 O) O) O<|rL0 O (fun g7_2=>kX O zr31 pl31 O) O<|rLz [(47,_),(48,_)] O gv1 ⟨O,O,O,O,T⟩ (fun g7_2=>zCf O fl31 O O O) O<|yW O (fun h=>h)<|G O<|U<|zE O (fun c3=>?_) (fun c3=>?_)
   ·have c3:(!(decide (e.Op=1)||decide (e.Op=12))&& !ty0 e.Ty)=true:=c3
    refine B O<|G O<|U<|zH<|zQ O ?_
    exact congrArg vB (by simp only [synOk,c3,Bool.not_true,Bool.not_false,Bool.true_and,Bool.and_true,Bool.false_and,Bool.and_false])
   ·have c3:(!(decide (e.Op=1)||decide (e.Op=12))&& !ty0 e.Ty)=false:=c3
    refine B O<|G O<|wB O<|G O<|rL0 O (fun g9_2=>zD O zDw O) O<|rL1 55 O (fun g9_2=>zN O kK O (J 0 O) O) O<|rL1 56 O (fun g9_2=>qG O ok207 (zNv e.Lin) ⟨Y,O,T⟩) O<|rL1 57 O (fun g9_2=>wA O O) O<|yW O (fun h=>h)<|G O<|U<|zE O (fun c4=>?_) (fun c4=>?_)
    ·refine B O<|G O<|U<|zH<|zQ O ?_
     exact congrArg vB (by simp only [synOk,c4,Bool.not_true,Bool.not_false,Bool.true_and,Bool.and_true,Bool.false_and,Bool.and_false])
    ·refine B O<|G O<|wB O<|G O<|rL0 O (fun g11_2=>zD O zBw O) O<|rL1 64 O (fun g11_2=>zF O one9 O (J 0 O) O) O<|rL1 65 O (fun g11_2=>zCt O O O) O<|rL1 66 O (fun g11_2=>zR O O) O<|rLz [] O q T (fun g11_6=>zD O kL O) O<|rLz [(68,_)] O q ⟨O,O,T⟩ (fun g11_6=>zF O zAd O (J 0 O) O) O<|rLz [(69,_)] O q ⟨O,O,T⟩ (fun g11_6=>qP O el35 O) O<|rLz [(70,_)] O q ⟨O,O,T⟩ (fun g11_6=>yD O O O) O<|rL1 67 O (fun g11_2=>zAw O O O O (fun h=>kA (by assumption) (lzf h))) O<|yW O (fun h=>h)<|G O<|U<|zE O (fun c5=>?_) (fun c5=>?_)
     ·refine B O<|G O<|U<|zH<|zQ O ?_
      exact congrArg vB (by simp only [synOk,c5,Bool.not_true,Bool.not_false,Bool.true_and,Bool.and_true,Bool.false_and,Bool.and_false])
     ·refine zJ<|B O<|zG O kL<|zK zAd (J 0 O) O<|qK O ok208 (zAh e.Idx _ (fun x=> !wellIx x) hI (fun x _=>FnPur.of_pur (first:=[]) (cap:=[]) ok209 (expr_syntax_1 x))) ⟨Y,O,Y,O,T⟩<|wB O<|G O<|U<|zH<|zQ O ?_
      exact congrArg vB (by rw [zNd];simp only [synOk,c1,c2,c3,c4,c5,Bool.not_true,Bool.not_false,Bool.true_and,Bool.and_true,Bool.false_and,Bool.and_false])
theorem expr_names (e:Ex) (he:e.wt<=6000000000000):
    Pur cfg 158 [vE e] (vB (namesE e)):=by
 refine zT Tryz.func158 O Tryz.ntmps158 Tryz.results158 O ?_
 intro z hz
 obtain ⟨hL,hI,hA⟩:=e.parts he
 refine B O<|zZ O O (qI O O) ?_
 rintro _ _ ⟨b1,rfl,rfl⟩
 refine G O<|U<|zI<|B O<|zG O yS<|zK one3 (J 0 O) O<|L O<|G O<|rL0 O (fun g1_3=>zD O zBw O) O<|rL1 7 O (fun g1_3=>zF O one9 O (J 0 O) O) O<|rL1 8 O (fun g1_3=>qG O ok176 (zDu _) ⟨Y,O,T⟩) O<|rL1 9 O (fun g1_3=>wA O O) O<|yW O (fun h=>h)<|U<|zE O (fun c1=>?_) (fun c1=>?_)
 ·refine B O<|G O<|U<|zH<|zQ O ?_
  exact congrArg vB (by simp only [namesE,c1,Bool.not_true,Bool.false_and])
 ·refine zJ<|B O<|zG O kL<|zK zAd (J 0 O) O<|qK O ok208 (zAh e.Idx _ (fun x=> !nmIx x) hI (fun x _=>FnPur.of_pur (first:=[]) (cap:=[]) ok211 (expr_names_1 x))) ⟨Y,O,Y,O,T⟩<|wB O<|G O<|U<|zH<|zQ O ?_
  exact congrArg vB (by rw [zNd];simp only [namesE,c1,Bool.not_false,Bool.true_and])
theorem expr_rank (e:Ex) (he:e.wt<=6000000000000):
    Pur cfg 159 [vE e] (vB (rankE e)):=by
 refine zT Tryz.func159 O Tryz.ntmps159 Tryz.results159 O ?_
 intro z hz
 obtain ⟨hL,hI,hA⟩:=e.parts he
 refine B O<|zZ O O (qI O O) ?_
 rintro _ _ ⟨b1,rfl,rfl⟩
 refine G O<|U<|zI<|zI<|qT 13 mixed (by kernel_rfl) O O<|zM O O (zD O kZ O)<|zM O O (zF O zAy O (J 0 O) O)<|zM O O (qP O D O)<|zM O O (zD O yS O)<|zM O O (zF O one3 O (J 0 O) O)<|zM O O (qG O ok212 (expr_operands _) ⟨Y,O,T⟩)<|zM O O (zAk O O O)<|zM O O (zR O O)<|qC [] O O O O gv1 T (fun g1_7=>zD O kL O) O<|qC [(11,_)] O O O O gv1 ⟨O,O,T⟩ (fun g1_7=>zF O zAd O (J 0 O) O) O<|qC [(12,_)] O O O O gv1 ⟨O,O,T⟩ (fun g1_7=>qP O el35 O) O<|qC [(13,_)] O O O O gv1 ⟨O,O,T⟩ (fun g1_7=>yD O O O) O<|zM O O (zAw O O O O (fun h=>(lzf h)))<|yM<|U<|zE O (fun c1=>?_) (fun c1=>?_)
 ·refine B O<|G O<|U<|zH<|zQ O ?_
  exact congrArg vB (by simp only [rankE,c1,Bool.not_true,Bool.false_and])
 ·refine zJ<|B O<|zG O kL<|zK zAd (J 0 O) O<|qK O ok208 (zAh e.Idx _ (fun x=> !rkIx x) hI (fun x _=>FnPur.of_pur (first:=[]) (cap:=[]) ok213 (expr_rank_1 x))) ⟨Y,O,Y,O,T⟩<|wB O<|G O<|U<|zH<|zQ O ?_
  exact congrArg vB (by rw [zNd];simp only [rankE,c1,Bool.not_false,Bool.true_and])
theorem expr_types (e:Ex) (he:e.wt<=6000000000000):
    Pur cfg 160 [vE e] (vB (typesE e)):=by
 refine zT Tryz.func160 O Tryz.ntmps160 Tryz.results160 O ?_
 intro z hz
 obtain ⟨hL,hI,hA⟩:=e.parts he
 refine B O<|zZ O O (qI O O) ?_
 rintro _ _ ⟨b1,rfl,rfl⟩
 refine G O<|U<|zI<|B O<|zG O yS<|zK one3 (J 0 O) O<|L O<|G O<|rL0 O (fun g1_3=>zD O yS O) O<|rL1 9 O (fun g1_3=>zF O one3 O (J 0 O) O) O<|rL1 10 O (fun g1_3=>yF O O O) O<|r_or O (fun h=>(lzf h))<|G O<|rL0 O (fun g1_8=>zD O zDm O) O<|rL1 14 O (fun g1_8=>zN O qZ O (J 0 O) O) O<|rL1 15 O (fun g1_8=>qG O ok214 (zBs _) ⟨Y,O,T⟩) O<|rL1 16 O (fun g1_8=>zAk O O O) O<|yW O (fun h=>h)<|U<|zE O (fun c1=>?_) (fun c1=>?_)
 ·rw [tyErr_dec] at c1
  refine B O<|G O<|U<|zH<|zQ O ?_
  exact congrArg vB (by simp only [typesE,c1,Bool.not_true,Bool.false_and])
 ·rw [tyErr_dec] at c1
  refine zJ<|zI<|B O<|zG O kZ<|zK zAy (J 0 O) O<|zY O D<|G O<|U<|zP<|zU ⟨[(22,.c _),(1,.c _),(20,.c _),(21,.c _)],[_]⟩ (Weak.mk [true] ⟨Y,Y,Y,Y,T⟩ O)<|qF 1 0 O O (Nat) (fun k=>[(22,vI k)]) (fun k=>[]) (fun k=>k<=e.Args.length/\(condsOk e.Op 0 e.Args=condsOk e.Op k (e.Args.drop k))) (fun k=>e.Args.length-k) ⟨0,⟨by omega,O⟩,Weak.mk [true] ⟨Y,Y,Y,Y,T⟩ O⟩ ?_
  rintro k ⟨hk,hp⟩
  refine B O<|yA O<|U<|zI<|zE O (fun c2=>?_) (fun c2=>?_)
  ·try simp only [W] at c2
   obtain ⟨a,ha⟩:=qQ e.Args k (by omega)
   refine zJ<|zI<|zP<|B O<|G O<|qE O D (by omega) (yZ (by assumption))<|zL qN qB O<|zZ O O (qH [none,none,none,none,none,none,none,none,none,none,some 2,some 4,some 13] O zr38 O) ?_
   rintro _ _ ⟨b2,rfl,rfl⟩
   refine G O<|N 0 sz38 O<|U<|zI<|qT 7 mixed (by kernel_rfl) O O<|zM O O (zN O qN O (J 0 O) O)<|zM O O (qG O ok65 (zFh a) ⟨Y,O,T⟩)<|zM O O (zD O yS O)<|zM O O (zF O one3 O (J 1 O) O)<|zM O O (zR O O)<|zM O O (qG O ok215 (zFj _ _) ⟨Y,O,Y,O,T⟩)<|zM O O (det_bneq O un4 O O)<|yM<|U<|zE O (fun c3=>?_) (fun c3=>?_)
   ·refine B O<|G O<|U<|zH<|zQ O ?_
    exact congrArg vB (by simp only [typesE,c1,Bool.not_false,Bool.true_and];rw [hp,qM ha,condsOk,show (isCond a==wantC e.Op k)=false by simpa using c3,Bool.false_and])
   ·refine zJ<|zS O<|qJ O ⟨by omega,by omega⟩<|G O<|U ?_
    refine ⟨k+1,⟨by omega,(by rw [hp,qM ha,condsOk,show (isCond a==wantC e.Op k)=true by simpa using c3,Bool.true_and];rfl)⟩,(by omega),Weak.mk [false,true] ⟨Y,Y,Y,Y,T⟩ O⟩
  ·try simp only [W] at c2
   refine qO<|B O<|G O<|U<|zH<|zQ O ?_
   exact congrArg vB (by simp only [typesE,c1,Bool.not_false,Bool.true_and];rw [hp,kB (by omega)];rfl)
theorem ref14_typed (e:Ex) (he:e.wt<=6000000000000):
    Pur cfg 174 [vE e] (vB (typesE e)):=by
 refine zT Tryz.func174 O Tryz.ntmps174 Tryz.results174 O ?_
 intro z hz
 obtain ⟨hL,hI,hA⟩:=e.parts he
 refine B O<|zZ O O (qI O O) ?_
 rintro _ _ ⟨b1,rfl,rfl⟩
 refine G O<|U<|zI<|B O<|zG O yS<|zK one3 (J 0 O) O<|L O<|G O<|rL0 O (fun g1_3=>zD O yS O) O<|rL1 8 O (fun g1_3=>zF O one3 O (J 0 O) O) O<|rL1 9 O (fun g1_3=>yF O O O) O<|r_or O (fun h=>(lzf h))<|G O<|rL0 O (fun g1_8=>zD O zDm O) O<|rL1 13 O (fun g1_8=>zN O qZ O (J 0 O) O) O<|rL1 14 O (fun g1_8=>qG O ok117 (zOi _) ⟨Y,O,T⟩) O<|rL1 15 O (fun g1_8=>wA O O) O<|yW O (fun h=>h)<|U<|zE O (fun c1=>?_) (fun c1=>?_)
 ·refine B O<|G O<|U<|zH<|zQ O ?_
  exact congrArg vB (by simp only [typesE,c1,Bool.not_true,Bool.false_and])
 ·refine zJ<|zI<|B O<|G O<|U<|zP<|zU ⟨[(3,.c _),(1,.c _)],[_]⟩ (Weak.mk [true] ⟨Y,Y,T⟩ O)<|qF 1 0 O O (Nat) (fun k=>[(3,vI k)]) (fun k=>[]) (fun k=>k<=e.Args.length/\(condsOk e.Op 0 e.Args=condsOk e.Op k (e.Args.drop k))) (fun k=>e.Args.length-k) ⟨0,⟨by omega,O⟩,Weak.mk [true] ⟨Y,Y,T⟩ O⟩ ?_
  rintro k ⟨hk,hp⟩
  refine zI<|B O<|G O<|zG O kZ<|zK zAy (J 0 O) O<|zY O D<|yA O<|U<|zE O (fun c2=>?_) (fun c2=>?_)
  ·try simp only [W] at c2
   obtain ⟨a,ha⟩:=qQ e.Args k (by omega)
   refine zJ<|zI<|zP<|zI<|qT 11 mixed (by kernel_rfl) O O<|zM O O (zD O kZ O)<|zM O O (zF O zAy O (J 0 O) O)<|zM O O (zR O O)<|zM O O (qA O D O O (by omega) (yZ (by assumption)))<|zM O O (zN O qN O qB O)<|zM O O (qG O ok87 (zBr a) ⟨Y,O,T⟩)<|zM O O (zD O yS O)<|zM O O (zF O one3 O (J 0 O) O)<|zM O O (zR O O)<|zM O O (qG O ok220 (ref14_wants _ _) ⟨Y,O,Y,O,T⟩)<|zM O O (det_bneq O un4 O O)<|yM<|U<|zE O (fun c3=>?_) (fun c3=>?_)
   ·refine B O<|G O<|U<|zH<|zQ O ?_
    exact congrArg vB (by simp only [typesE,c1,Bool.not_false,Bool.true_and];rw [hp,qM ha,condsOk,show (isCond a==wantC e.Op k)=false by simpa using c3,Bool.false_and])
   ·refine zJ<|zS O<|G O<|qJ O ⟨by omega,by omega⟩<|G O<|U ?_
    refine ⟨k+1,⟨by omega,(by rw [hp,qM ha,condsOk,show (isCond a==wantC e.Op k)=true by simpa using c3,Bool.true_and];rfl)⟩,(by omega),Weak.mk [true] ⟨Y,Y,T⟩ O⟩
  ·try simp only [W] at c2
   refine qO<|B O<|G O<|U<|zH<|zQ O ?_
   exact congrArg vB (by simp only [typesE,c1,Bool.not_false,Bool.true_and];rw [hp,kB (by omega)];rfl)
theorem ref14_plain (e:Ex) (he:e.wt<=6000000000000):
    Pur cfg 171 [vE e] (vB (synOk e)):=by
 refine zT Tryz.func171 O Tryz.ntmps171 Tryz.results171 O ?_
 intro z hz
 obtain ⟨hL,hI,hA⟩:=e.parts he
 refine B O<|zZ O O (qI O O) ?_
 rintro _ _ ⟨b1,rfl,rfl⟩
 refine G O<|U<|zI<|B O<|zG O yS<|zK one3 (J 0 O) O<|yA O<|G O<|rL0 O (fun g1_3=>zD O yS O) O<|rL1 9 O (fun g1_3=>zF O one3 O (J 0 O) O) O<|rL1 10 O (fun g1_3=>yD O O O) O<|r_or O (fun h=>(lzf h))<|U<|zE O (fun c1=>?_) (fun c1=>?_)
 ·refine B O<|G O<|U<|zH<|zQ O ?_
  exact congrArg vB (by simp only [synOk,c1,Bool.not_true,Bool.false_and])
 ·refine zJ<|zI<|B O<|zG O yS<|zK one3 (J 0 O) O<|yN O<|G O<|rL0 O (fun g3_3=>zD O zGx O) O<|rL1 17 O (fun g3_3=>zN O agg29 O (J 0 O) O) O<|rL0 O (fun g3_3=>kX O zr29 pl29 O) O<|rLz [(18,_),(19,_)] O gv1 ⟨O,O,O,O,T⟩ (fun g3_3=>zCf O fl29 O O O) O<|yW O (fun h=>h)<|G O<|rL0 O (fun g3_9=>zD O yS O) O<|rL1 23 O (fun g3_9=>zF O one3 O (J 0 O) O) O<|rL1 24 O (fun g3_9=>zAk O O O) O<|rL1 25 O (fun g3_9=>zR O O) O<|rLz [] O q T (fun g3_13=>zD O yS O) O<|rLz [(27,_)] O q ⟨O,O,T⟩ (fun g3_13=>zF O one3 O (J 0 O) O) O<|rLz [(28,_)] O q ⟨O,O,T⟩ (fun g3_13=>zAk O O O) O<|rL1 26 O (fun g3_9=>kR O O O (fun h=>kA (by assumption) h) O) O<|rL1 30 O (fun g3_9=>zR O O) O<|rLz [] O q T (fun g3_18=>zD O zDm O) O<|rLz [(32,_)] O q ⟨O,O,T⟩ (fun g3_18=>zN O qZ O (J 0 O) O) O<|rLz [] O q T (fun g3_18=>kX O zr31 pl31 O) O<|rLz [(33,_),(34,_)] O q ⟨O,O,O,O,T⟩ (fun g3_18=>zCf O fl31 O O O) O<|rL1 31 O (fun g3_9=>kR O O O (fun h=>kA (by assumption) h) O) O<|r_or O (fun h=>(lzf h))<|U<|zE O (fun c2=>?_) (fun c2=>?_)
  ·have h2:=plain2 (e:=e) c2
   refine B O<|G O<|U<|zH<|zQ O ?_
   exact congrArg vB (syn2 h2)
  ·have h2:=plain2 (e:=e) c2
   refine zJ<|zI<|B O<|zG O yS<|zK one3 (J 0 O) O<|yN O<|G O<|rL0 O (fun g5_3=>zD O zDw O) O<|rL1 42 O (fun g5_3=>zD O zIp O) O<|rL1 43 O (fun g5_3=>zF O one2 O (J 0 O) O) O<|rL1 44 O (fun g5_3=>zAk O O O) O<|rL1 45 O (fun g5_3=>zR O O) O<|rLz [] O q T (fun g5_8=>zD O zDw O) O<|rLz [(47,_)] O q ⟨O,O,T⟩ (fun g5_8=>zD O wU O) O<|rLz [(48,_)] O q ⟨O,O,T⟩ (fun g5_8=>zF O zBv O (J 0 O) O) O<|rLz [(49,_)] O q ⟨O,O,T⟩ (fun g5_8=>qP O el32 O) O<|rLz [(50,_)] O q ⟨O,O,T⟩ (fun g5_8=>yD O O O) O<|rL1 46 O (fun g5_3=>zAw O O O O (fun h=>kA (by assumption) (lzf h))) O<|yW O (fun h=>h)<|G O<|rL0 O (fun g5_16=>zD O yS O) O<|rL1 55 O (fun g5_16=>zF O one3 O (J 0 O) O) O<|rL1 56 O (fun g5_16=>zAk O O O) O<|rL1 57 O (fun g5_16=>zR O O) O<|rLz [] O q T (fun g5_20=>zD O zBw O) O<|rLz [(59,_)] O q ⟨O,O,T⟩ (fun g5_20=>zF O one9 O (J 0 O) O) O<|rLz [(60,_)] O q ⟨O,O,T⟩ (fun g5_20=>zCt O O O) O<|rLz [(61,_)] O q ⟨O,O,T⟩ (fun g5_20=>zR O O) O<|rLz [] O q T (fun g5_24=>zD O kL O) O<|rLz [(63,_)] O q ⟨O,O,T⟩ (fun g5_24=>zF O zAd O (J 0 O) O) O<|rLz [(64,_)] O q ⟨O,O,T⟩ (fun g5_24=>qP O el35 O) O<|rLz [(65,_)] O q ⟨O,O,T⟩ (fun g5_24=>yD O O O) O<|rLz [(62,_)] O q ⟨O,O,T⟩ (fun g5_20=>zAw O O O O (fun h=>kA (by assumption) (lzf h))) O<|rL1 58 O (fun g5_16=>kR O O O (fun h=>kA (by assumption) h) O) O<|r_or O (fun h=>(lzf h))<|U<|zE O (fun c3=>?_) (fun c3=>?_)
   ·have h3:=plain3 (e:=e) c3
    refine B O<|G O<|U<|zH<|zQ O ?_
    exact congrArg vB (syn3 h3)
   ·have h3:=plain3 (e:=e) c3
    refine zJ<|zI<|B O<|G O<|U<|zP<|zU ⟨[(3,.c _),(1,.c _)],[_]⟩ (Weak.mk [true] ⟨Y,Y,T⟩ O)<|qF 1 0 O O (Nat) (fun k=>[(3,vI k)]) (fun k=>[]) (fun k=>k<=e.Idx.length/\(e.Idx.all wellIx=(e.Idx.drop k).all wellIx)) (fun k=>e.Idx.length-k) ⟨0,⟨by omega,O⟩,Weak.mk [true] ⟨Y,Y,T⟩ O⟩ ?_
    rintro k ⟨hk,hp⟩
    refine zI<|B O<|G O<|zG O kL<|zK zAd (J 0 O) O<|zY O el35<|yA O<|U<|zE O (fun c4=>?_) (fun c4=>?_)
    ·try simp only [W] at c4
     obtain ⟨x,hx⟩:=qQ e.Idx k (by omega)
     refine zJ<|zI<|zP<|B O<|zG O kL<|zK zAd (J 0 O) O<|G O<|qE O el35 (by omega) (getm (by assumption))<|zL zJe qB O<|zZ O O (qH [none,some 2,none,some 2] O zr67 O) ?_
     rintro _ _ ⟨b2,rfl,rfl⟩
     refine N 0 sz67 O<|U<|B O<|zG O zDk<|zK one9 (J 0 O) O<|zX O (yL O O O)<|G O<|rL0 O (fun g11_3=>zD O zAu O) O<|rL1 86 O (fun g11_3=>zF O zBa O (J 0 O) O) O<|rL1 87 O (fun g11_3=>qP O el63 O) O<|rL1 88 O (fun g11_3=>yD O O O) O<|yW O (fun h=>h)<|G O<|rL0 O (fun g11_9=>zD O zDk O) O<|rL1 92 O (fun g11_9=>zF O one9 O (J 0 O) O) O<|rL1 93 O (fun g11_9=>zCt O O O) O<|rL1 94 O (fun g11_9=>zR O O) O<|rLz [] O q T (fun g11_13=>zD O zDv O) O<|rLz [(96,_)] O q ⟨O,O,T⟩ (fun g11_13=>zD O zIp O) O<|rLz [(97,_)] O q ⟨O,O,T⟩ (fun g11_13=>zF O one2 O (J 0 O) O) O<|rLz [(98,_)] O q ⟨O,O,T⟩ (fun g11_13=>zAk O O O) O<|rLz [(99,_)] O q ⟨O,O,T⟩ (fun g11_13=>zR O O) O<|rLz [] O q T (fun g11_18=>zD O zDv O) O<|rLz [(101,_)] O q ⟨O,O,T⟩ (fun g11_18=>zD O wU O) O<|rLz [(102,_)] O q ⟨O,O,T⟩ (fun g11_18=>zF O zBv O (J 0 O) O) O<|rLz [(103,_)] O q ⟨O,O,T⟩ (fun g11_18=>qP O el32 O) O<|rLz [(104,_)] O q ⟨O,O,T⟩ (fun g11_18=>yD O O O) O<|rLz [(100,_)] O q ⟨O,O,T⟩ (fun g11_13=>zAw O O O O (fun h=>kA (by assumption) (lzf h))) O<|rL1 95 O (fun g11_9=>kR O O O (fun h=>kA (by assumption) h) O) O<|r_or O (fun h=>(lzf h))<|U<|zE O (fun c5=>?_) (fun c5=>?_)
     ·have h5:=well_dec (x:=x) c5
      refine B O<|G O<|U<|zH<|zQ O ?_
      exact congrArg vB (by rw [synOk,all_no hx (p:=wellIx) (by simpa using h5)];simp)
     ·have h5:=well_dec (x:=x) c5
      refine zJ<|zS O<|G O<|qJ O ⟨by omega,by omega⟩<|G O<|U ?_
      refine ⟨k+1,⟨by omega,zLu hx hp (by simpa using h5)⟩,(by omega),Weak.mk [false,true] ⟨Y,Y,T⟩ O⟩
    ·try simp only [W] at c4
     refine qO<|B O<|G O<|U<|zH<|zQ O ?_
     exact congrArg vB (syn5 c1 h2 h3 (all_end hp (by omega)))
theorem ref14_named (e:Ex) (he:e.wt<=6000000000000):
    Pur cfg 172 [vE e] (vB (namesE e)):=by
 refine zT Tryz.func172 O Tryz.ntmps172 Tryz.results172 O ?_
 intro z hz
 obtain ⟨hL,hI,hA⟩:=e.parts he
 refine B O<|zZ O O (qI O O) ?_
 rintro _ _ ⟨b1,rfl,rfl⟩
 refine G O<|U<|zI<|B O<|zG O yS<|zK one3 (J 0 O) O<|L O<|G O<|rL0 O (fun g1_3=>zD O zBw O) O<|rL1 8 O (fun g1_3=>zF O one9 O (J 0 O) O) O<|rL1 9 O (fun g1_3=>qG O ok146 (zGb _) ⟨Y,O,T⟩) O<|rL1 10 O (fun g1_3=>wA O O) O<|yW O (fun h=>h)<|U<|zE O (fun c1=>?_) (fun c1=>?_)
 ·refine B O<|G O<|U<|zH<|zQ O ?_
  exact congrArg vB (by simp only [namesE,c1,Bool.not_true,Bool.false_and])
 ·refine zJ<|zI<|B O<|G O<|U<|zP<|zU ⟨[(3,.c _),(1,.c _)],[_]⟩ (Weak.mk [true] ⟨Y,Y,T⟩ O)<|qF 1 0 O O (Nat) (fun k=>[(3,vI k)]) (fun k=>[]) (fun k=>k<=e.Idx.length/\(e.Idx.all nmIx=(e.Idx.drop k).all nmIx)) (fun k=>e.Idx.length-k) ⟨0,⟨by omega,O⟩,Weak.mk [true] ⟨Y,Y,T⟩ O⟩ ?_
  rintro k ⟨hk,hp⟩
  refine zI<|B O<|G O<|zG O kL<|zK zAd (J 0 O) O<|zY O el35<|yA O<|U<|zE O (fun c2=>?_) (fun c2=>?_)
  ·try simp only [W] at c2
   obtain ⟨x,hx⟩:=qQ e.Idx k (by omega)
   refine zJ<|zI<|zP<|B O<|zG O kL<|zK zAd (J 0 O) O<|G O<|qE O el35 (by omega) (getm (by assumption))<|zX O (qL O zDk O)<|zK one9 qB O<|zX O (zCt O O O)<|G O<|rL0 O (fun g6_7=>zD O kL O) O<|rL1 28 O (fun g6_7=>zF O zAd O (J 0 O) O) O<|rL0 O (fun g6_7=>zR O O) O<|rLz [(29,_),(30,_)] O gv1 ⟨O,O,O,O,T⟩ (fun g6_7=>qA O el35 O O (by omega) (getm (by assumption))) O<|rL1 31 O (fun g6_7=>qL O zDk O) O<|rL1 32 O (fun g6_7=>zF O one9 O qB O) O<|rL1 33 O (fun g6_7=>qG O ok146 (zGb _) ⟨Y,O,T⟩) O<|rL1 34 O (fun g6_7=>wA O O) O<|yW O (fun h=>h)<|U<|zE O (fun c3=>?_) (fun c3=>?_)
   ·refine B O<|G O<|U<|zH<|zQ O ?_
    exact congrArg vB (by rw [namesE,all_no hx (p:=nmIx) (by unfold nmIx;rw [c3];rfl)];simp)
   ·refine zJ<|zS O<|G O<|qJ O ⟨by omega,by omega⟩<|G O<|U ?_
    refine ⟨k+1,⟨by omega,zLu hx hp (by unfold nmIx;rw [c3];rfl)⟩,(by omega),Weak.mk [true] ⟨Y,Y,T⟩ O⟩
  ·try simp only [W] at c2
   refine qO<|B O<|G O<|U<|zH<|zQ O ?_
   exact congrArg vB (by rw [namesE,c1,all_end hp (by omega)];rfl)
theorem ref14_ranked (e:Ex) (he:e.wt<=6000000000000):
    Pur cfg 173 [vE e] (vB (rankE e)):=by
 refine zT Tryz.func173 O Tryz.ntmps173 Tryz.results173 O ?_
 intro z hz
 obtain ⟨hL,hI,hA⟩:=e.parts he
 refine B O<|zZ O O (qI O O) ?_
 rintro _ _ ⟨b1,rfl,rfl⟩
 refine G O<|U<|zI<|zI<|qT 13 mixed (by kernel_rfl) O O<|zM O O (zD O kZ O)<|zM O O (zF O zAy O (J 0 O) O)<|zM O O (qP O D O)<|zM O O (zD O yS O)<|zM O O (zF O one3 O (J 0 O) O)<|zM O O (qG O ok219 (zKj _) ⟨Y,O,T⟩)<|zM O O (zAk O O O)<|zM O O (zR O O)<|qC [] O O O O gv1 T (fun g1_7=>zD O kL O) O<|qC [(12,_)] O O O O gv1 ⟨O,O,T⟩ (fun g1_7=>zF O zAd O (J 0 O) O) O<|qC [(13,_)] O O O O gv1 ⟨O,O,T⟩ (fun g1_7=>qP O el35 O) O<|qC [(14,_)] O O O O gv1 ⟨O,O,T⟩ (fun g1_7=>yD O O O) O<|zM O O (zAw O O O O (fun h=>(lzf h)))<|yM<|U<|zE O (fun c1=>?_) (fun c1=>?_)
 ·refine B O<|G O<|U<|zH<|zQ O ?_
  exact congrArg vB (by simp only [rankE,c1,Bool.not_true,Bool.false_and])
 ·refine zJ<|zI<|B O<|G O<|U<|zP<|zU ⟨[(3,.c _),(1,.c _)],[_]⟩ (Weak.mk [true] ⟨Y,Y,T⟩ O)<|qF 1 0 O O (Nat) (fun k=>[(3,vI k)]) (fun k=>[]) (fun k=>k<=e.Idx.length/\(e.Idx.all rkIx=(e.Idx.drop k).all rkIx)) (fun k=>e.Idx.length-k) ⟨0,⟨by omega,O⟩,Weak.mk [true] ⟨Y,Y,T⟩ O⟩ ?_
  rintro k ⟨hk,hp⟩
  refine zI<|B O<|G O<|zG O kL<|zK zAd (J 0 O) O<|zY O el35<|yA O<|U<|zE O (fun c2=>?_) (fun c2=>?_)
  ·try simp only [W] at c2
   obtain ⟨x,hx⟩:=qQ e.Idx k (by omega)
   refine zJ<|zI<|zP<|B O<|zG O kL<|zK zAd (J 0 O) O<|G O<|qE O el35 (by omega) (getm (by assumption))<|zX O (qL O zAu O)<|zK zBa qB O<|zY O el63<|zX O (yD O O O)<|U<|zE O (fun c3=>?_) (fun c3=>?_)
   ·refine B O<|G O<|U<|zH<|zQ O ?_
    exact congrArg vB (by rw [rankE,all_no hx (p:=rkIx) (by unfold rkIx;rw [c3];rfl)];simp)
   ·refine zJ<|zS O<|G O<|qJ O ⟨by omega,by omega⟩<|G O<|U ?_
    refine ⟨k+1,⟨by omega,zLu hx hp (by unfold rkIx;rw [c3];rfl)⟩,(by omega),Weak.mk [true] ⟨Y,Y,T⟩ O⟩
  ·try simp only [W] at c2
   refine qO<|B O<|G O<|U<|zH<|zQ O ?_
   exact congrArg vB (by rw [rankE,c1,all_end hp (by omega)];rfl)
theorem ref14_formed (e:Ex) (he:e.wt<=6000000000000) (hty:e.Op=1->tyOk e.Ty=true):
    Pur cfg 175 [vE e] (vB (formOk e)):=by
 refine zT Tryz.func175 O Tryz.ntmps175 Tryz.results175 O ?_
 intro z hz
 obtain ⟨hL,hI,hA⟩:=e.parts he
 refine B O<|zZ O O (qI O O) ?_
 rintro _ _ ⟨b1,rfl,rfl⟩
 refine G O<|U<|zI<|B O<|zG O yS<|zK one3 (J 0 O) O<|L O<|G O<|rL0 O (fun g1_3=>zD O zDm O) O<|rL1 9 O (fun g1_3=>zN O qZ O (J 0 O) O) O<|rL0 O (fun g1_3=>zD O zGx O) O<|rL1 11 O (fun g1_3=>zN O agg29 O (J 0 O) O) O<|rLz [(10,_),(12,_)] O gv1 ⟨O,O,O,O,T⟩ (fun g1_3=>qG O ok221 (base_Val e.Ty e.Val (hty (by simp only [Lz,cond_true,cond_false,Bool.and_eq_true,Bool.or_eq_true,Bool.not_eq_true',Bool.not_eq_false',Bool.or_eq_false_iff,Bool.and_eq_false_iff,decide_eq_true_eq,decide_eq_false_iff_not,Bool.not_eq_true,Bool.not_eq_false] at g1_3;exact g1_3))) ⟨Y,O,Y,O,T⟩) O<|rL1 13 O (fun g1_3=>wA O O) O<|yW O (fun h=>h)<|G O<|rL0 O (fun g1_11=>zD O zDw O) O<|rL1 17 O (fun g1_11=>zN O kK O (J 0 O) O) O<|rL1 18 O (fun g1_11=>qG O ok115 (zCu e.Lin hL) ⟨Y,O,T⟩) O<|rL1 19 O (fun g1_11=>wA O O) O<|r_or O (fun h=>(lzf h))<|U<|zE O (fun c1=>?_) (fun c1=>?_)
 ·refine B O<|G O<|U<|zH<|zQ O ?_
  exact congrArg vB (form_no c1)
 ·refine zJ<|zI<|B O<|G O<|U<|zP<|zU ⟨[(3,.c _),(1,.c _)],[_]⟩ (Weak.mk [true] ⟨Y,Y,T⟩ O)<|qF 1 0 O O (Nat) (fun k=>[(3,vI k)]) (fun k=>[]) (fun k=>k<=e.Idx.length/\((formsL e).all linOk=((e.Idx.drop k).flatMap fun x=>x.Lin::x.At).all linOk)) (fun k=>e.Idx.length-k) ⟨0,⟨by omega,form_start c1⟩,Weak.mk [true] ⟨Y,Y,T⟩ O⟩ ?_
  rintro k ⟨hk,hp⟩
  refine zI<|B O<|G O<|zG O kL<|zK zAd (J 0 O) O<|zY O el35<|yA O<|U<|zE O (fun c2=>?_) (fun c2=>?_)
  ·try simp only [W] at c2
   obtain ⟨x,hx⟩:=qQ e.Idx k (by omega)
   have hxw:=Ex.idx_wt (qD hx)
   refine zJ<|zI<|zP<|zI<|B O<|zG O kL<|zK zAd (J 0 O) O<|G O<|qE O el35 (by omega) (getm (by assumption))<|zX O (qL O zDv O)<|zL kK qB O<|qK O ok115 (zCu x.Lin (by omega)) ⟨Y,O,T⟩<|wB O<|U<|zE O (fun c3=>?_) (fun c3=>?_)
   ·try simp only [W] at c3
    refine B O<|G O<|U<|zH<|zQ O ?_
    exact congrArg vB (form_no2 hp (by rw [qM hx,List.flatMap_cons,List.all_append,List.all_cons,c3];rfl))
   ·try simp only [W] at c3
    refine zJ<|B O<|G O<|U<|zP<|zU ⟨[(4,.c _),(1,.c _),(3,.c _)],[_]⟩ (Weak.mk [true] ⟨Y,Y,Y,T⟩ O)<|qF 1 0 O O (Nat) (fun j=>[(4,vI j)]) (fun j=>[]) (fun j=>j<=x.At.length/\(x.At.all linOk=(x.At.drop j).all linOk)) (fun j=>x.At.length-j) ⟨0,⟨by omega,O⟩,Weak.mk [true] ⟨Y,Y,Y,T⟩ O⟩ ?_
    rintro j ⟨hj,hq⟩
    refine zI<|B O<|G O<|zG O kL<|zK zAd (J 0 O) O<|G O<|qE O el35 (by omega) (getm (by assumption))<|zX O (qL O zAu O)<|zK zBa qB O<|zY O el63<|yA O<|U<|zE O (fun c4=>?_) (fun c4=>?_)
    ·try simp only [W] at c4
     obtain ⟨l,hl⟩:=qQ x.At j (by omega)
     have hlw:=zBz (qD hl)
     refine zJ<|zI<|zP<|B O<|zG O kL<|zK zAd (J 0 O) O<|G O<|qE O el35 (by omega) (getm (by assumption))<|zX O (qL O zAu O)<|zK zBa qB O<|G O<|qE O el63 (by omega) (getm (by assumption))<|zL kK qB O<|qK O ok115 (zCu l (by omega)) ⟨Y,O,T⟩<|wB O<|U<|zE O (fun c5=>?_) (fun c5=>?_)
     ·try simp only [W] at c5
      refine B O<|G O<|U<|zH<|zQ O ?_
      exact congrArg vB (form_no2 hp (by rw [qM hx,List.flatMap_cons,List.all_append,List.all_cons,all_no hl (p:=linOk) c5];simp))
     ·try simp only [W] at c5
      refine zJ<|zS O<|G O<|qJ O ⟨by omega,by omega⟩<|G O<|U ?_
      refine ⟨j+1,⟨by omega,zLu hl hq c5⟩,(by omega),Weak.mk [true] ⟨Y,Y,Y,T⟩ O⟩
    ·try simp only [W] at c4
     refine qO<|zS O<|G O<|qJ O ⟨by omega,by omega⟩<|G O<|U ?_
     refine ⟨k+1,⟨by omega,(by rw [hp,qM hx,List.flatMap_cons,List.all_append,List.all_cons,c3,all_end hq (by omega)];rfl)⟩,(by omega),Weak.mk [true] ⟨Y,Y,T⟩ O⟩
  ·try simp only [W] at c2
   refine qO<|B O<|G O<|U<|zH<|zQ O ?_
   exact congrArg vB (form_yes c1 (by rw [hp,kB (by omega)];rfl))
theorem zMv (e:Ex) (ih:∀a,a∈e.Args->a.wt<=6000000000000->Pur cfg 100 [vE a] (vI (partE a))) (he:e.wt<=6000000000000):
    Pur cfg 100 [vE e] (vI (partE e)):=by
 refine zT Tryz.func100 O Tryz.ntmps100 Tryz.results100 O ?_
 intro z hz
 obtain ⟨hL,hI,hA⟩:=e.parts he
 refine B O<|zZ O O (qI O O) ?_
 rintro _ _ ⟨b1,rfl,rfl⟩
 refine G O<|U<|zI<|zP<|B O<|zL qN (J 0 O) O<|qK O ok171 (ref14_plain e he) ⟨Y,O,T⟩<|wB O<|G O<|U<|zE O (fun c1=>?_) (fun c1=>?_)
 ·try simp only [W] at c1
  refine B O<|G O<|U<|zH<|zQ O ?_
  exact congrArg vI (by rw [zDq,show nodeErr e=5 by simp only [nodeErr,c1];rfl];rfl)
 ·try simp only [W] at c1
  refine B O<|zL qN (J 0 O) O<|qK O ok172 (ref14_named e he) ⟨Y,O,T⟩<|wB O<|G O<|U<|zE O (fun c2=>?_) (fun c2=>?_)
  ·try simp only [W] at c2
   refine B O<|G O<|U<|zH<|zQ O ?_
   exact congrArg vI (by rw [zDq,show nodeErr e=7 by simp only [nodeErr,c1,c2];rfl];rfl)
  ·try simp only [W] at c2
   refine B O<|zL qN (J 0 O) O<|qK O ok173 (ref14_ranked e he) ⟨Y,O,T⟩<|wB O<|G O<|U<|zE O (fun c3=>?_) (fun c3=>?_)
   ·try simp only [W] at c3
    refine B O<|G O<|U<|zH<|zQ O ?_
    exact congrArg vI (by rw [zDq,show nodeErr e=11 by simp only [nodeErr,c1,c2,c3];rfl];rfl)
   ·try simp only [W] at c3
    refine B O<|zL qN (J 0 O) O<|qK O ok174 (ref14_typed e he) ⟨Y,O,T⟩<|wB O<|G O<|U<|zE O (fun c4=>?_) (fun c4=>?_)
    ·try simp only [W] at c4
     refine B O<|G O<|U<|zH<|zQ O ?_
     exact congrArg vI (by rw [zDq,show nodeErr e=10 by simp only [nodeErr,c1,c2,c3,c4];rfl];rfl)
    ·try simp only [W] at c4
     refine B O<|zL qN (J 0 O) O<|qK O ok175 (ref14_formed e he (types_ty c4)) ⟨Y,O,T⟩<|wB O<|G O<|U<|zE O (fun c5=>?_) (fun c5=>?_)
     ·try simp only [W] at c5
      refine B O<|G O<|U<|zH<|zQ O ?_
      exact congrArg vI (by rw [zDq,show nodeErr e=1 by simp only [nodeErr,c1,c2,c3,c4,c5];rfl];rfl)
     ·try simp only [W] at c5
      have hn:nodeErr e=0:=by simp only [nodeErr,c1,c2,c3,c4,c5];rfl
      refine zJ<|zI<|B O<|G O<|U<|zP<|zU ⟨[(3,.c _),(1,.c _)],[_]⟩ (Weak.mk [true] ⟨Y,Y,T⟩ O)<|qF 1 0 O O (Nat) (fun k=>[(3,vI k)]) (fun k=>[]) (fun k=>k<=e.Args.length/\(partL e.Args=partL (e.Args.drop k))) (fun k=>e.Args.length-k) ⟨0,⟨by omega,O⟩,Weak.mk [true] ⟨Y,Y,T⟩ O⟩ ?_
      rintro k ⟨hk,hp⟩
      refine zI<|B O<|G O<|zG O kZ<|zK zAy (J 0 O) O<|zY O D<|yA O<|U<|zE O (fun c6=>?_) (fun c6=>?_)
      ·try simp only [W] at c6
       obtain ⟨a,ha⟩:=qQ e.Args k (by omega)
       refine zJ<|zI<|zP<|B O<|zG O kZ<|zK zAy (J 0 O) O<|G O<|qE O D (by omega) (yZ (by assumption))<|zL qN qB O<|qK O ok100 (ih a (qD ha) (by have:=Ex.arg_wt (qD ha);omega)) ⟨Y,O,T⟩<|G O<|U<|B O<|G O<|yN O<|U<|zE O (fun c7=>?_) (fun c7=>?_)
       ·try simp only [W] at c7
        refine B O<|G O<|G O<|U<|zH<|zQ O ?_
        exact congrArg vI (by rw [zDq e,hn,kT rfl,cond_true,hp,qM ha,zJs,yC c7];rfl)
       ·try simp only [W] at c7
        refine zJ<|zS O<|G O<|qJ O ⟨by omega,by omega⟩<|G O<|U ?_
        refine ⟨k+1,⟨by omega,(by rw [hp,qM ha,zJs,kT c7];rfl)⟩,(by omega),Weak.mk [true] ⟨Y,Y,T⟩ O⟩
      ·try simp only [W] at c6
       refine qO<|B O<|G O<|U<|zH<|zQ O ?_
       exact congrArg vI (by rw [zDq,hn,kT rfl,cond_true,hp,kB (by omega)];rfl)
theorem ref14_part (e:Ex) (he:e.wt<=6000000000000):Pur cfg 100 [vE e] (vI (partE e)):=by
  induction e using Ex.ind with
  |_ e ih=>exact zMv e ih he
theorem zFx (n:Nat) (ih:n≠0->∀(a:Ex) (l:Int),a.wt<=6000000000000->l=n->Pur cfg 156 [vE a,vI l] (vI (depT (n-1) a))) (hn:n<=100) (e:Ex) (l:Int) (he:e.wt<=6000000000000) (hl:l=n+1):
    Pur cfg 156 [vE e,vI l] (vI (depT n e)):=by
 refine zT Tryz.func156 O Tryz.ntmps156 Tryz.results156 O ?_
 intro z hz
 obtain ⟨hL,hI,hA⟩:=e.parts he
 refine B O<|zZ O O (qI O O) ?_
 rintro _ _ ⟨b1,rfl,rfl⟩
 refine G O<|U<|zI<|B O<|G O<|zX O (kQ O O O)<|U<|zE O (fun c1=>?_) (fun c1=>?_)
 ·try simp only [W] at c1
  obtain rfl:n=0:=by omega
  refine B O<|G O<|G O<|U<|zH<|zQ O ?_
  exact congrArg vI (by rw [hl];rfl)
 ·try simp only [W] at c1
  obtain ⟨m,rfl⟩:∃m,n=m+1:=⟨n-1,by omega⟩
  refine zJ<|B O<|G O<|U<|zI<|B O<|zG O kZ<|zK zAy (J 0 O) O<|zY O D<|G O<|U<|zP<|zU ⟨[(14,.c _),(5,.c _),(1,.c _),(12,.c _),(13,.c _)],[]⟩ (Weak.mk [false] ⟨Y,Y,Y,Y,Y,T⟩ O)<|qF 2 0 O O (Nat×Int) (fun ⟨k,d⟩=>[(14,vI k),(5,vI d)]) (fun ⟨k,d⟩=>[]) (fun ⟨k,d⟩=>k<=e.Args.length/\(1<=d)/\(d<=m+2)/\(depT (m+1) e=depF (depT m) d (e.Args.drop k))) (fun ⟨k,d⟩=>e.Args.length-k) ⟨⟨0,1⟩,⟨by omega,by omega,by omega,O⟩,Weak.mk [] ⟨Y,VLe.of_eq (O),Y,Y,Y,T⟩ O⟩ ?_
  rintro ⟨k,d⟩ ⟨hk,hd1,hd2,hd3⟩
  show AWP _ _ _ _ _ ⟨[(14,vI k),(5,vI d)]++_,[]++_⟩
  refine B O<|yA O<|U<|zI<|zE O (fun c2=>?_) (fun c2=>?_)
  ·try simp only [W] at c2
   obtain ⟨a,ha⟩:=qQ e.Args k (by omega)
   have hda:=depT_le m a
   refine zJ<|zI<|zP<|B O<|qE O D (by omega) (yZ (by assumption))<|zL qN qB O<|zZ O O (qH [none,none,none,none,none,none,none,none,none,none,some 2,some 4,some 13] O zr38 O) ?_
   rintro _ _ ⟨b2,rfl,rfl⟩
   refine N 0 sz38 O<|U<|zS O<|G O<|zL qN (J 0 O) O<|G O<|zX O (zAa O O O ⟨by omega,by omega⟩)<|qK O ok156 (show Pur cfg 156 [vE a,vI (l-1)] (vI (depT m a)) from ih (by omega) a _ (by have:=Ex.arg_wt (qD ha);omega) (by omega)) ⟨Y,O,Y,O,T⟩<|qJ O ⟨by omega,by omega⟩<|zX O (det_max O O O)<|G O<|U<|zS O<|qJ O ⟨by omega,by omega⟩<|G O<|U ?_
   refine ⟨⟨k+1,max d (1+depT m a)⟩,⟨by omega,by omega,by omega,by rw [hd3,qM ha,depF]⟩,(by show e.Args.length-(k+1)<e.Args.length-k;omega),Weak.mk [false] ⟨Y,Y,Y,Y,Y,T⟩ O⟩
  ·try simp only [W] at c2
   refine qO<|B O<|G O<|G O<|U<|zH<|zQ O ?_
   exact congrArg vI (by rw [hd3,kB (by omega)];rfl)
theorem expr_depth (n:Nat) (e:Ex) (l:Int) (hn:n<=100) (he:e.wt<=6000000000000) (hl:l=n+1):Pur cfg 156 [vE e,vI l] (vI (depT n e)):=by
  induction n generalizing e l with
  |zero=>exact zFx 0 (fun h=>absurd rfl h) hn e l he hl
  |succ n ih=>exact zFx (n+1) (fun _ a l h1 h2=>ih a l (by omega) h1 (by omega)) hn e l he hl
theorem zFb (n:Nat) (ih:n≠0->∀(a:Ex) (l:Int),a.wt<=6000000000000->l=n->Pur cfg 169 [vE a,vI l] (vI (depT (n-1) a))) (hn:n<=100) (e:Ex) (l:Int) (he:e.wt<=6000000000000) (hl:l=n+1):
    Pur cfg 169 [vE e,vI l] (vI (depT n e)):=by
 refine zT Tryz.func169 O Tryz.ntmps169 Tryz.results169 O ?_
 intro z hz
 obtain ⟨hL,hI,hA⟩:=e.parts he
 refine B O<|zZ O O (qI O O) ?_
 rintro _ _ ⟨b1,rfl,rfl⟩
 refine G O<|U<|B O<|G O<|U<|zI<|B O<|G O<|U<|zP<|zU ⟨[(6,.c _),(5,.c _),(1,.c _),(2,.c _)],[_]⟩ (Weak.mk [true] ⟨Y,Y,Y,Y,T⟩ O)<|qF 2 0 O O (Nat×Int) (fun ⟨k,d⟩=>[(6,vI k),(5,vI d)]) (fun ⟨k,d⟩=>[]) (fun ⟨k,d⟩=>k<=e.Args.length/\(1<=d)/\(d<=n+1)/\(n≠0->depT n e=depF (depT (n-1)) d (e.Args.drop k))/\(n=0->d=1)) (fun ⟨k,d⟩=>e.Args.length-k) ⟨⟨0,1⟩,⟨by omega,by omega,by omega,fun h0=>dep_start h0,fun _=>O⟩,Weak.mk [true] ⟨Y,VLe.of_eq (O),Y,Y,T⟩ O⟩ ?_
 rintro ⟨k,d⟩ ⟨hk,hd1,hd2,hd3,hd4⟩
 show AWP _ _ _ _ _ ⟨[(6,vI k),(5,vI d)]++_,[]++_⟩
 refine zI<|B O<|G O<|zG O kZ<|zK zAy (J 0 O) O<|zY O D<|yA O<|G O<|rL0 O (fun g3_5=>zR O O) O<|rL1 13 O (fun g3_5=>yD O O O) O<|yW O (fun h=>h)<|U<|zE O (fun c1=>?_) (fun c1=>?_)
 ·try simp only [W] at c1
  obtain ⟨a,ha⟩:=qQ e.Args k (by omega)
  have hda:=depT_le (n-1) a
  refine zJ<|zI<|zP<|zS O<|G O<|zG O kZ<|zK zAy (J 0 O) O<|G O<|qE O D (by omega) (yZ (by assumption))<|zL qN qB O<|G O<|zX O (zAa O O O ⟨by omega,by omega⟩)<|qK O ok169 (ih (by omega) a _ (by have:=Ex.arg_wt (qD ha);omega) (by omega)) ⟨Y,O,Y,O,T⟩<|qJ O ⟨by omega,by omega⟩<|zX O (det_max O O O)<|G O<|U<|zS O<|G O<|qJ O ⟨by omega,by omega⟩<|G O<|U ?_
  refine ⟨⟨k+1,max d (1+depT (n-1) a)⟩,⟨by omega,by omega,by omega,fun h0=>by rw [hd3 h0,qM ha,depF],fun h0=>by omega⟩,(by show e.Args.length-(k+1)<e.Args.length-k;omega),Weak.mk [true] ⟨Y,Y,Y,Y,T⟩ O⟩
 ·try simp only [W] at c1
  refine qO<|B O<|G O<|G O<|U<|zH<|zQ O ?_
  exact congrArg vI (dep_end hl (by omega) hd3 hd4)
theorem ref14_depth (n:Nat) (e:Ex) (l:Int) (hn:n<=100) (he:e.wt<=6000000000000) (hl:l=n+1):Pur cfg 169 [vE e,vI l] (vI (depT n e)):=by
  induction n generalizing e l with
  |zero=>exact zFb 0 (fun h=>absurd rfl h) hn e l he hl
  |succ n ih=>exact zFb (n+1) (fun _ a l h1 h2=>ih a l (by omega) h1 (by omega)) hn e l he hl
theorem expr_Depth (e:Ex) (he:e.wt<=6000000000000):
    Pur cfg 81 [vE e] (vI (depT 40 e)):=by
 refine zT Tryz.func81 O Tryz.ntmps81 Tryz.results81 O ?_
 intro z hz
 refine B O<|zZ O O (qI O O) ?_
 rintro _ _ ⟨b1,rfl,rfl⟩
 refine G O<|U<|B O<|zL qN (J 0 O) O<|qK O ok156 (expr_depth 40 e 41 (by omega) he (by omega)) ⟨Y,O,Y,O,T⟩<|G O<|U<|zH<|zQ O ?_
 exact O
theorem ref14_Depth (e:Ex) (he:e.wt<=6000000000000):
    Pur cfg 98 [vE e] (vI (depT 40 e)):=by
 refine zT Tryz.func98 O Tryz.ntmps98 Tryz.results98 O ?_
 intro z hz
 refine B O<|zZ O O (qI O O) ?_
 rintro _ _ ⟨b1,rfl,rfl⟩
 refine G O<|U<|B O<|zL qN (J 0 O) O<|qK O ok169 (ref14_depth 40 e 41 (by omega) he (by omega)) ⟨Y,O,Y,O,T⟩<|G O<|U<|zH<|zQ O ?_
 exact O
theorem zMu (e:Ex) (ih:∀a,a∈e.Args->∀(m:Nat) (l:Int),a.wt<=6000000000000->m<=1000000->l=m->Pur cfg 170 [vE a,vI l] (vI (sizE a m))) (m:Nat) (l:Int) (he:e.wt<=6000000000000) (hm:m<=1000000) (hl:l=m):
    Pur cfg 170 [vE e,vI l] (vI (sizE e m)):=by
 refine zT Tryz.func170 O Tryz.ntmps170 Tryz.results170 O ?_
 intro z hz
 obtain ⟨hL,hI,hA⟩:=e.parts he
 refine B O<|zZ O O (qI O O) ?_
 rintro _ _ ⟨b1,rfl,rfl⟩
 refine G O<|U<|B O<|G O<|U<|zI<|B O<|G O<|U<|zP<|zU ⟨[(6,.c _),(5,.c _),(1,.c _),(2,.c _)],[_]⟩ (Weak.mk [true] ⟨Y,Y,Y,Y,T⟩ O)<|qF 2 0 O O (Nat×Nat) (fun ⟨k,n⟩=>[(6,vI k),(5,vI n)]) (fun ⟨k,n⟩=>[]) (fun ⟨k,n⟩=>k<=e.Args.length/\(n<=m+1)/\(sizE e m=sizL (e.Args.drop k) m n)) (fun ⟨k,n⟩=>e.Args.length-k) ⟨⟨0,1⟩,⟨by omega,by omega,sizE_eq e m⟩,Weak.mk [true] ⟨Y,VLe.of_eq (O),Y,Y,T⟩ O⟩ ?_
 rintro ⟨k,n⟩ ⟨hk,hn1,hn2⟩
 show AWP _ _ _ _ _ ⟨[(6,vI k),(5,vI n)]++_,[]++_⟩
 refine zI<|B O<|G O<|zG O kZ<|zK zAy (J 0 O) O<|zY O D<|yA O<|G O<|rL0 O (fun g3_5=>zR O O) O<|rL0 O (fun g3_5=>zR O O) O<|rLz [(13,_),(14,_)] O gv1 ⟨O,O,O,O,T⟩ (fun g3_5=>kQ O O O) O<|yW O (fun h=>h)<|U<|zE O (fun c1=>?_) (fun c1=>?_)
 ·try simp only [W] at c1
  obtain ⟨a,ha⟩:=qQ e.Args k (by omega)
  have hsa:=sizE_min a (m-n)
  refine zJ<|zI<|zP<|zS O<|G O<|zG O kZ<|zK zAy (J 0 O) O<|G O<|qE O D (by omega) (yZ (by assumption))<|zL qN qB O<|G O<|G O<|zX O (zAa O O O ⟨by omega,by omega⟩)<|qK O ok170 (ih a (qD ha) (m-n) _ (by have:=Ex.arg_wt (qD ha);omega) (by omega) (by omega)) ⟨Y,O,Y,O,T⟩<|qJ O ⟨by omega,by omega⟩<|G O<|U<|zS O<|G O<|qJ O ⟨by omega,by omega⟩<|G O<|U ?_
  refine ⟨⟨k+1,n+sizE a (m-n)⟩,⟨by omega,by omega,by rw [hn2,qM ha,sizL,if_pos (by omega)]⟩,(by show e.Args.length-(k+1)<e.Args.length-k;omega),Weak.mk [true] ⟨Y,VLe.of_eq (congrArg vI (by omega)),Y,Y,T⟩ O⟩
 ·try simp only [W] at c1
  refine qO<|B O<|G O<|G O<|U<|zH<|zQ O ?_
  exact congrArg vI (by rw [hn2];exact congrArg Nat.cast (siz_end hl (by omega)))
theorem ref14_size (e:Ex) (m:Nat) (l:Int) (he:e.wt<=6000000000000) (hm:m<=1000000) (hl:l=m):Pur cfg 170 [vE e,vI l] (vI (sizE e m)):=by
  induction e using Ex.ind generalizing m l with
  |_ e ih=>exact zMu e (fun a ha m l h1 h2 h3=>ih a ha m l h1 h2 h3) m l he hm hl
theorem ref14_Size (e:Ex) (he:e.wt<=6000000000000):
    Pur cfg 99 [vE e] (vI (szT e)):=by
 refine zT Tryz.func99 O Tryz.ntmps99 Tryz.results99 O ?_
 intro z hz
 refine B O<|zZ O O (qI O O) ?_
 rintro _ _ ⟨b1,rfl,rfl⟩
 refine G O<|U<|B O<|zL qN (J 0 O) O<|qK O ok170 (ref14_size e 2000 2000 he (by omega) O) ⟨Y,O,Y,O,T⟩<|zX O (det_min O O O)<|G O<|U<|zH<|zQ O ?_
 exact congrArg vI (by rw [sizE_min,szT];omega)
theorem ref14_Validate (e:Ex) (he:e.wt<=6000000000000):
    Pur cfg 37 [vE e] (vI (validE e)):=by
 refine zT Tryz.func37 O Tryz.ntmps37 Tryz.results37 O ?_
 intro z hz
 refine B O<|zZ O O (qI O O) ?_
 rintro _ _ ⟨b1,rfl,rfl⟩
 refine G O<|U<|zI<|B O<|zL qN (J 0 O) O<|qK O ok98 (ref14_Depth e he) ⟨Y,O,T⟩<|zX O (yD O O O)<|U<|zE O (fun c1=>?_) (fun c1=>?_)
 ·try simp only [W] at c1
  refine B O<|G O<|U<|zH<|zQ O ?_
  rw [validE,kT c1];rfl
 ·try simp only [W] at c1
  refine zJ<|zI<|B O<|zL qN (J 0 O) O<|qK O ok99 (ref14_Size e he) ⟨Y,O,T⟩<|zX O (yD O O O)<|U<|zE O (fun c2=>?_) (fun c2=>?_)
  ·try simp only [W] at c2
   refine B O<|G O<|U<|zH<|zQ O ?_
   rw [validE,yC (by omega),kT c2];rfl
  ·try simp only [W] at c2
   refine zJ<|B O<|zL qN (J 0 O) O<|qK O ok100 (ref14_part e he) ⟨Y,O,T⟩<|G O<|U<|zH<|zQ O ?_
   rw [validE,yC (by omega),yC (by omega)];rfl
end Go.W
