/-
  Walks: what functions of the program compute. Printed by wip/gen/mk2.py.
  Conditions: none.
-/
import Derived.Test.YtkijgodlhljgdaaGreatDoorWB
set_option linter.unusedSimpArgs false
set_option linter.unusedVariables false
set_option maxRecDepth 10000
namespace Go.W
open Go Go.Eng Go.Proofs Go.L41 Go.Br
attribute [local irreducible] AWP RWP TD finQ
theorem Q:aggT Tryz.prog 38=some 13:=by kernel_rfl
theorem A:elemT Tryz.prog 36=some (38,13,160):=by kernel_rfl
theorem t:elemT Tryz.prog 63=some (34,2,32):=by kernel_rfl
theorem yQ:fieldT Tryz.prog 38 0=some (0,3):=by kernel_rfl
theorem zAw:fieldT Tryz.prog 38 1=some (1,9):=by kernel_rfl
theorem zHg:fieldT Tryz.prog 38 2=some (2,29):=by kernel_rfl
theorem zCh:fieldT Tryz.prog 38 3=some (4,31):=by kernel_rfl
theorem zDf:fieldT Tryz.prog 38 4=some (9,34):=by kernel_rfl
theorem kF:fieldT Tryz.prog 38 5=some (11,35):=by kernel_rfl
theorem kA:fieldT Tryz.prog 38 6=some (12,36):=by kernel_rfl
theorem zDd:fieldT Tryz.prog 67 0=some (0,34):=by kernel_rfl
theorem zDc:fieldT Tryz.prog 67 1=some (2,9):=by kernel_rfl
theorem zAk:fieldT Tryz.prog 67 2=some (3,63):=by kernel_rfl
theorem fl29:flatK Tryz.prog 29=some [.int,.int]:=by kernel_rfl
theorem ok65:callOk Tryz.prog 65=true:=by kernel_rfl
theorem ok87:callOk Tryz.prog 87=true:=by kernel_rfl
theorem ok98:callOk Tryz.prog 98=true:=by kernel_rfl
theorem ok99:callOk Tryz.prog 99=true:=by kernel_rfl
theorem ok100:callOk Tryz.prog 100=true:=by kernel_rfl
theorem ok115:callOk Tryz.prog 115=true:=by kernel_rfl
theorem ok156:callOk Tryz.prog 156=true:=by kernel_rfl
theorem ok169:callOk Tryz.prog 169=true:=by kernel_rfl
theorem ok170:callOk Tryz.prog 170=true:=by kernel_rfl
theorem ok171:callOk Tryz.prog 171=true:=by kernel_rfl
theorem ok172:callOk Tryz.prog 172=true:=by kernel_rfl
theorem ok173:callOk Tryz.prog 173=true:=by kernel_rfl
theorem ok174:callOk Tryz.prog 174=true:=by kernel_rfl
theorem ok175:callOk Tryz.prog 175=true:=by kernel_rfl
theorem ok176:callOk Tryz.prog 176=true:=by kernel_rfl
theorem ok207:callOk Tryz.prog 207=true:=by kernel_rfl
theorem ok208:callOk Tryz.prog 208=true:=by kernel_rfl
theorem ok209:callOk Tryz.prog 209=true:=by kernel_rfl
theorem ok210:callOk Tryz.prog 210=true:=by kernel_rfl
theorem ok211:callOk Tryz.prog 211=true:=by kernel_rfl
theorem ok212:callOk Tryz.prog 212=true:=by kernel_rfl
theorem ok213:callOk Tryz.prog 213=true:=by kernel_rfl
theorem ok215:callOk Tryz.prog 215=true:=by kernel_rfl
theorem ok219:callOk Tryz.prog 219=true:=by kernel_rfl
theorem ok220:callOk Tryz.prog 220=true:=by kernel_rfl
theorem ok221:callOk Tryz.prog 221=true:=by kernel_rfl
theorem wQ:oneT Tryz.prog 35=true:=by kernel_rfl
theorem wA:oneT Tryz.prog 36=true:=by kernel_rfl
theorem zBf:oneT Tryz.prog 63=true:=by kernel_rfl
theorem D:(Tryz.prog.info? 38).map (·.size)=some 13:=by kernel_rfl
theorem sz67:(Tryz.prog.info? 67).map (·.size)=some 4:=by kernel_rfl
theorem un4:Tryz.prog.underlying 4=some .bool:=by kernel_rfl
theorem u:zeroT Tryz.prog 38=some [(Value.int IntKind.i64 0),(Value.string (ByteArray.mk #[])),(Value.int IntKind.i64 0),(Value.int IntKind.i64 0),(Value.int IntKind.i64 0),(Value.int IntKind.i64 0),(Value.int IntKind.i64 0),(Value.int IntKind.i64 0),(Value.int IntKind.i64 0),(Value.int IntKind.i64 0),(Value.slice none 0 0),(Value.slice none 0 0),(Value.slice none 0 0)]:=by kernel_rfl
theorem zr67:zeroT Tryz.prog 67=some [(Value.int IntKind.i64 0),(Value.slice none 0 0),(Value.string (ByteArray.mk #[])),(Value.slice none 0 0)]:=by kernel_rfl
theorem expr_operands (op:Int):
    Pur cfg 212 [vI op] (vI (nArgs op)):=by
 refine zT Tryz.func212 O Tryz.ntmps212 Tryz.results212 O ?_
 intro z hz
 refine B O<|F O<|H<|W<|B O<|F O<|H<|zP<|W<|B O<|n O<|F O<|H<|g O (fun c1=>?_) (fun c1=>?_)
 ·try simp only [I] at c1
  refine zJ<|g O (fun c3=>?_) (fun c3=>?_)
  ·try simp only [I] at c3
   refine B O<|F O<|H<|U<|M O ?_
   exact congrArg vI (by unfold nArgs;(repeat' split)<;>omega)
  ·try simp only [I] at c3
   refine W<|B O<|n O<|F O<|H<|g O (fun c4=>?_) (fun c4=>?_)
   ·try simp only [I] at c4
    refine zJ<|g O (fun c6=>?_) (fun c6=>?_)
    ·try simp only [I] at c6
     refine B O<|F O<|H<|U<|M O ?_
     exact congrArg vI (by unfold nArgs;(repeat' split)<;>omega)
    ·try simp only [I] at c6
     refine B O<|n O<|F O<|H<|g O (fun c7=>?_) (fun c7=>?_)
     ·try simp only [I] at c7
      refine B O<|F O<|H<|U<|M O ?_
      exact congrArg vI (by unfold nArgs;(repeat' split)<;>omega)
     ·try simp only [I] at c7
      refine zJ<|B O<|F O<|H<|U<|M O ?_
      exact congrArg vI (by unfold nArgs;(repeat' split)<;>omega)
   ·try simp only [I] at c4
    refine B O<|n O<|F O<|H<|g O (fun c5=>?_) (fun c5=>?_)
    ·try simp only [I] at c5
     refine zJ<|g O (fun c6=>?_) (fun c6=>?_)
     ·try simp only [I] at c6
      refine B O<|F O<|H<|U<|M O ?_
      exact congrArg vI (by unfold nArgs;(repeat' split)<;>omega)
     ·try simp only [I] at c6
      refine B O<|n O<|F O<|H<|g O (fun c7=>?_) (fun c7=>?_)
      ·try simp only [I] at c7
       refine B O<|F O<|H<|U<|M O ?_
       exact congrArg vI (by unfold nArgs;(repeat' split)<;>omega)
      ·try simp only [I] at c7
       refine zJ<|B O<|F O<|H<|U<|M O ?_
       exact congrArg vI (by unfold nArgs;(repeat' split)<;>omega)
    ·try simp only [I] at c5
     refine zU O<|n O<|F O<|H<|g O (fun c6=>?_) (fun c6=>?_)
     ·try simp only [I] at c6
      refine B O<|F O<|H<|U<|M O ?_
      exact congrArg vI (by unfold nArgs;(repeat' split)<;>omega)
     ·try simp only [I] at c6
      refine B O<|n O<|F O<|H<|g O (fun c7=>?_) (fun c7=>?_)
      ·try simp only [I] at c7
       refine B O<|F O<|H<|U<|M O ?_
       exact congrArg vI (by unfold nArgs;(repeat' split)<;>omega)
      ·try simp only [I] at c7
       refine zJ<|B O<|F O<|H<|U<|M O ?_
       exact congrArg vI (by unfold nArgs;(repeat' split)<;>omega)
 ·try simp only [I] at c1
  refine B O<|n O<|F O<|H<|g O (fun c2=>?_) (fun c2=>?_)
  ·try simp only [I] at c2
   refine zJ<|g O (fun c3=>?_) (fun c3=>?_)
   ·try simp only [I] at c3
    refine B O<|F O<|H<|U<|M O ?_
    exact congrArg vI (by unfold nArgs;(repeat' split)<;>omega)
   ·try simp only [I] at c3
    refine W<|B O<|n O<|F O<|H<|g O (fun c4=>?_) (fun c4=>?_)
    ·try simp only [I] at c4
     refine zJ<|g O (fun c6=>?_) (fun c6=>?_)
     ·try simp only [I] at c6
      refine B O<|F O<|H<|U<|M O ?_
      exact congrArg vI (by unfold nArgs;(repeat' split)<;>omega)
     ·try simp only [I] at c6
      refine B O<|n O<|F O<|H<|g O (fun c7=>?_) (fun c7=>?_)
      ·try simp only [I] at c7
       refine B O<|F O<|H<|U<|M O ?_
       exact congrArg vI (by unfold nArgs;(repeat' split)<;>omega)
      ·try simp only [I] at c7
       refine zJ<|B O<|F O<|H<|U<|M O ?_
       exact congrArg vI (by unfold nArgs;(repeat' split)<;>omega)
    ·try simp only [I] at c4
     refine B O<|n O<|F O<|H<|g O (fun c5=>?_) (fun c5=>?_)
     ·try simp only [I] at c5
      refine zJ<|g O (fun c6=>?_) (fun c6=>?_)
      ·try simp only [I] at c6
       refine B O<|F O<|H<|U<|M O ?_
       exact congrArg vI (by unfold nArgs;(repeat' split)<;>omega)
      ·try simp only [I] at c6
       refine B O<|n O<|F O<|H<|g O (fun c7=>?_) (fun c7=>?_)
       ·try simp only [I] at c7
        refine B O<|F O<|H<|U<|M O ?_
        exact congrArg vI (by unfold nArgs;(repeat' split)<;>omega)
       ·try simp only [I] at c7
        refine zJ<|B O<|F O<|H<|U<|M O ?_
        exact congrArg vI (by unfold nArgs;(repeat' split)<;>omega)
     ·try simp only [I] at c5
      refine zU O<|n O<|F O<|H<|g O (fun c6=>?_) (fun c6=>?_)
      ·try simp only [I] at c6
       refine B O<|F O<|H<|U<|M O ?_
       exact congrArg vI (by unfold nArgs;(repeat' split)<;>omega)
      ·try simp only [I] at c6
       refine B O<|n O<|F O<|H<|g O (fun c7=>?_) (fun c7=>?_)
       ·try simp only [I] at c7
        refine B O<|F O<|H<|U<|M O ?_
        exact congrArg vI (by unfold nArgs;(repeat' split)<;>omega)
       ·try simp only [I] at c7
        refine zJ<|B O<|F O<|H<|U<|M O ?_
        exact congrArg vI (by unfold nArgs;(repeat' split)<;>omega)
  ·try simp only [I] at c2
   refine zU O<|n O<|F O<|H<|g O (fun c3=>?_) (fun c3=>?_)
   ·try simp only [I] at c3
    refine B O<|F O<|H<|U<|M O ?_
    exact congrArg vI (by unfold nArgs;(repeat' split)<;>omega)
   ·try simp only [I] at c3
    refine W<|B O<|n O<|F O<|H<|g O (fun c4=>?_) (fun c4=>?_)
    ·try simp only [I] at c4
     refine zJ<|g O (fun c6=>?_) (fun c6=>?_)
     ·try simp only [I] at c6
      refine B O<|F O<|H<|U<|M O ?_
      exact congrArg vI (by unfold nArgs;(repeat' split)<;>omega)
     ·try simp only [I] at c6
      refine B O<|n O<|F O<|H<|g O (fun c7=>?_) (fun c7=>?_)
      ·try simp only [I] at c7
       refine B O<|F O<|H<|U<|M O ?_
       exact congrArg vI (by unfold nArgs;(repeat' split)<;>omega)
      ·try simp only [I] at c7
       refine zJ<|B O<|F O<|H<|U<|M O ?_
       exact congrArg vI (by unfold nArgs;(repeat' split)<;>omega)
    ·try simp only [I] at c4
     refine B O<|n O<|F O<|H<|g O (fun c5=>?_) (fun c5=>?_)
     ·try simp only [I] at c5
      refine zJ<|g O (fun c6=>?_) (fun c6=>?_)
      ·try simp only [I] at c6
       refine B O<|F O<|H<|U<|M O ?_
       exact congrArg vI (by unfold nArgs;(repeat' split)<;>omega)
      ·try simp only [I] at c6
       refine B O<|n O<|F O<|H<|g O (fun c7=>?_) (fun c7=>?_)
       ·try simp only [I] at c7
        refine B O<|F O<|H<|U<|M O ?_
        exact congrArg vI (by unfold nArgs;(repeat' split)<;>omega)
       ·try simp only [I] at c7
        refine zJ<|B O<|F O<|H<|U<|M O ?_
        exact congrArg vI (by unfold nArgs;(repeat' split)<;>omega)
     ·try simp only [I] at c5
      refine zU O<|n O<|F O<|H<|g O (fun c6=>?_) (fun c6=>?_)
      ·try simp only [I] at c6
       refine B O<|F O<|H<|U<|M O ?_
       exact congrArg vI (by unfold nArgs;(repeat' split)<;>omega)
      ·try simp only [I] at c6
       refine B O<|n O<|F O<|H<|g O (fun c7=>?_) (fun c7=>?_)
       ·try simp only [I] at c7
        refine B O<|F O<|H<|U<|M O ?_
        exact congrArg vI (by unfold nArgs;(repeat' split)<;>omega)
       ·try simp only [I] at c7
        refine zJ<|B O<|F O<|H<|U<|M O ?_
        exact congrArg vI (by unfold nArgs;(repeat' split)<;>omega)
theorem zFi (e:Ex):
    Pur cfg 65 [vE e] (vB (isCond e)):=by
 refine zT Tryz.func65 O Tryz.ntmps65 Tryz.results65 O ?_
 intro z hz
 refine B O<|zV O O (qI O O) ?_
 rintro _ _ ⟨b1,rfl,rfl⟩
 refine F O<|H<|B O<|zH O yQ<|zL P (K 0 O) O<|zX O (kS O O O)<|F O<|w O (fun g1_3=>zE O yQ O) O<|R 7 O (fun g1_3=>zG O P O (K 0 O) O) O<|R 8 O (fun g1_3=>kS O O O) O<|yY O (fun h=>h)<|F O<|H<|U<|M O ?_
 exact O
theorem zKs (op:Int):
    Pur cfg 219 [vI op] (vI (nArgs op)):=by
 refine zT Tryz.func219 O Tryz.ntmps219 Tryz.results219 O ?_
 intro z hz
 refine B O<|F O<|H<|W<|B O<|F O<|H<|zP<|W<|B O<|n O<|F O<|H<|g O (fun c1=>?_) (fun c1=>?_)
 ·try simp only [I] at c1
  refine zJ<|g O (fun c3=>?_) (fun c3=>?_)
  ·try simp only [I] at c3
   refine B O<|F O<|H<|U<|M O ?_
   exact congrArg vI (by unfold nArgs;(repeat' split)<;>omega)
  ·try simp only [I] at c3
   refine W<|B O<|n O<|F O<|H<|g O (fun c4=>?_) (fun c4=>?_)
   ·try simp only [I] at c4
    refine zJ<|g O (fun c6=>?_) (fun c6=>?_)
    ·try simp only [I] at c6
     refine B O<|F O<|H<|U<|M O ?_
     exact congrArg vI (by unfold nArgs;(repeat' split)<;>omega)
    ·try simp only [I] at c6
     refine B O<|n O<|F O<|H<|g O (fun c7=>?_) (fun c7=>?_)
     ·try simp only [I] at c7
      refine B O<|F O<|H<|U<|M O ?_
      exact congrArg vI (by unfold nArgs;(repeat' split)<;>omega)
     ·try simp only [I] at c7
      refine zJ<|B O<|F O<|H<|U<|M O ?_
      exact congrArg vI (by unfold nArgs;(repeat' split)<;>omega)
   ·try simp only [I] at c4
    refine B O<|n O<|F O<|H<|g O (fun c5=>?_) (fun c5=>?_)
    ·try simp only [I] at c5
     refine zJ<|g O (fun c6=>?_) (fun c6=>?_)
     ·try simp only [I] at c6
      refine B O<|F O<|H<|U<|M O ?_
      exact congrArg vI (by unfold nArgs;(repeat' split)<;>omega)
     ·try simp only [I] at c6
      refine B O<|n O<|F O<|H<|g O (fun c7=>?_) (fun c7=>?_)
      ·try simp only [I] at c7
       refine B O<|F O<|H<|U<|M O ?_
       exact congrArg vI (by unfold nArgs;(repeat' split)<;>omega)
      ·try simp only [I] at c7
       refine zJ<|B O<|F O<|H<|U<|M O ?_
       exact congrArg vI (by unfold nArgs;(repeat' split)<;>omega)
    ·try simp only [I] at c5
     refine zU O<|n O<|F O<|H<|g O (fun c6=>?_) (fun c6=>?_)
     ·try simp only [I] at c6
      refine B O<|F O<|H<|U<|M O ?_
      exact congrArg vI (by unfold nArgs;(repeat' split)<;>omega)
     ·try simp only [I] at c6
      refine B O<|n O<|F O<|H<|g O (fun c7=>?_) (fun c7=>?_)
      ·try simp only [I] at c7
       refine B O<|F O<|H<|U<|M O ?_
       exact congrArg vI (by unfold nArgs;(repeat' split)<;>omega)
      ·try simp only [I] at c7
       refine zJ<|B O<|F O<|H<|U<|M O ?_
       exact congrArg vI (by unfold nArgs;(repeat' split)<;>omega)
 ·try simp only [I] at c1
  refine B O<|n O<|F O<|H<|g O (fun c2=>?_) (fun c2=>?_)
  ·try simp only [I] at c2
   refine zJ<|g O (fun c3=>?_) (fun c3=>?_)
   ·try simp only [I] at c3
    refine B O<|F O<|H<|U<|M O ?_
    exact congrArg vI (by unfold nArgs;(repeat' split)<;>omega)
   ·try simp only [I] at c3
    refine W<|B O<|n O<|F O<|H<|g O (fun c4=>?_) (fun c4=>?_)
    ·try simp only [I] at c4
     refine zJ<|g O (fun c6=>?_) (fun c6=>?_)
     ·try simp only [I] at c6
      refine B O<|F O<|H<|U<|M O ?_
      exact congrArg vI (by unfold nArgs;(repeat' split)<;>omega)
     ·try simp only [I] at c6
      refine B O<|n O<|F O<|H<|g O (fun c7=>?_) (fun c7=>?_)
      ·try simp only [I] at c7
       refine B O<|F O<|H<|U<|M O ?_
       exact congrArg vI (by unfold nArgs;(repeat' split)<;>omega)
      ·try simp only [I] at c7
       refine zJ<|B O<|F O<|H<|U<|M O ?_
       exact congrArg vI (by unfold nArgs;(repeat' split)<;>omega)
    ·try simp only [I] at c4
     refine B O<|n O<|F O<|H<|g O (fun c5=>?_) (fun c5=>?_)
     ·try simp only [I] at c5
      refine zJ<|g O (fun c6=>?_) (fun c6=>?_)
      ·try simp only [I] at c6
       refine B O<|F O<|H<|U<|M O ?_
       exact congrArg vI (by unfold nArgs;(repeat' split)<;>omega)
      ·try simp only [I] at c6
       refine B O<|n O<|F O<|H<|g O (fun c7=>?_) (fun c7=>?_)
       ·try simp only [I] at c7
        refine B O<|F O<|H<|U<|M O ?_
        exact congrArg vI (by unfold nArgs;(repeat' split)<;>omega)
       ·try simp only [I] at c7
        refine zJ<|B O<|F O<|H<|U<|M O ?_
        exact congrArg vI (by unfold nArgs;(repeat' split)<;>omega)
     ·try simp only [I] at c5
      refine zU O<|n O<|F O<|H<|g O (fun c6=>?_) (fun c6=>?_)
      ·try simp only [I] at c6
       refine B O<|F O<|H<|U<|M O ?_
       exact congrArg vI (by unfold nArgs;(repeat' split)<;>omega)
      ·try simp only [I] at c6
       refine B O<|n O<|F O<|H<|g O (fun c7=>?_) (fun c7=>?_)
       ·try simp only [I] at c7
        refine B O<|F O<|H<|U<|M O ?_
        exact congrArg vI (by unfold nArgs;(repeat' split)<;>omega)
       ·try simp only [I] at c7
        refine zJ<|B O<|F O<|H<|U<|M O ?_
        exact congrArg vI (by unfold nArgs;(repeat' split)<;>omega)
  ·try simp only [I] at c2
   refine zU O<|n O<|F O<|H<|g O (fun c3=>?_) (fun c3=>?_)
   ·try simp only [I] at c3
    refine B O<|F O<|H<|U<|M O ?_
    exact congrArg vI (by unfold nArgs;(repeat' split)<;>omega)
   ·try simp only [I] at c3
    refine W<|B O<|n O<|F O<|H<|g O (fun c4=>?_) (fun c4=>?_)
    ·try simp only [I] at c4
     refine zJ<|g O (fun c6=>?_) (fun c6=>?_)
     ·try simp only [I] at c6
      refine B O<|F O<|H<|U<|M O ?_
      exact congrArg vI (by unfold nArgs;(repeat' split)<;>omega)
     ·try simp only [I] at c6
      refine B O<|n O<|F O<|H<|g O (fun c7=>?_) (fun c7=>?_)
      ·try simp only [I] at c7
       refine B O<|F O<|H<|U<|M O ?_
       exact congrArg vI (by unfold nArgs;(repeat' split)<;>omega)
      ·try simp only [I] at c7
       refine zJ<|B O<|F O<|H<|U<|M O ?_
       exact congrArg vI (by unfold nArgs;(repeat' split)<;>omega)
    ·try simp only [I] at c4
     refine B O<|n O<|F O<|H<|g O (fun c5=>?_) (fun c5=>?_)
     ·try simp only [I] at c5
      refine zJ<|g O (fun c6=>?_) (fun c6=>?_)
      ·try simp only [I] at c6
       refine B O<|F O<|H<|U<|M O ?_
       exact congrArg vI (by unfold nArgs;(repeat' split)<;>omega)
      ·try simp only [I] at c6
       refine B O<|n O<|F O<|H<|g O (fun c7=>?_) (fun c7=>?_)
       ·try simp only [I] at c7
        refine B O<|F O<|H<|U<|M O ?_
        exact congrArg vI (by unfold nArgs;(repeat' split)<;>omega)
       ·try simp only [I] at c7
        refine zJ<|B O<|F O<|H<|U<|M O ?_
        exact congrArg vI (by unfold nArgs;(repeat' split)<;>omega)
     ·try simp only [I] at c5
      refine zU O<|n O<|F O<|H<|g O (fun c6=>?_) (fun c6=>?_)
      ·try simp only [I] at c6
       refine B O<|F O<|H<|U<|M O ?_
       exact congrArg vI (by unfold nArgs;(repeat' split)<;>omega)
      ·try simp only [I] at c6
       refine B O<|n O<|F O<|H<|g O (fun c7=>?_) (fun c7=>?_)
       ·try simp only [I] at c7
        refine B O<|F O<|H<|U<|M O ?_
        exact congrArg vI (by unfold nArgs;(repeat' split)<;>omega)
       ·try simp only [I] at c7
        refine zJ<|B O<|F O<|H<|U<|M O ?_
        exact congrArg vI (by unfold nArgs;(repeat' split)<;>omega)
theorem zBl (e:Ex):
    Pur cfg 87 [vE e] (vB (isCond e)):=by
 refine zT Tryz.func87 O Tryz.ntmps87 Tryz.results87 O ?_
 intro z hz
 refine B O<|zV O O (qI O O) ?_
 rintro _ _ ⟨b1,rfl,rfl⟩
 refine F O<|H<|B O<|zH O yQ<|zL P (K 0 O) O<|zX O (wB O O O)<|F O<|w O (fun g1_3=>zE O yQ O) O<|R 7 O (fun g1_3=>zG O P O (K 0 O) O) O<|R 8 O (fun g1_3=>kS O O O) O<|yY O (fun h=>h)<|F O<|H<|U<|M O ?_
 exact O
theorem zFm (op i:Int):
    Pur cfg 215 [vI op,vI i] (vB (wantC op i)):=by
 refine zT Tryz.func215 O Tryz.ntmps215 Tryz.results215 O ?_
 intro z hz
 refine B O<|F O<|H<|W<|B O<|F O<|H<|zP<|W<|B O<|n O<|F O<|H<|g O (fun c1=>?_) (fun c1=>?_)
 ·try simp only [I] at c1
  refine zJ<|g O (fun c3=>?_) (fun c3=>?_)
  ·try simp only [I] at c3
   refine B O<|F O<|H<|U<|M O ?_
   exact congrArg vB (by unfold wantC;first|(exfalso;omega)|(simp [*];done)|(rw [Bool.eq_iff_iff];simp only [Bool.or_eq_true,Bool.and_eq_true,decide_eq_true_eq];omega))
  ·try simp only [I] at c3
   refine zJ<|B O<|F O<|n O<|F O<|w O (fun g6_2=>zQ O O) O<|R 13 O (fun g6_2=>yG O O O) O<|yY O (fun h=>h)<|F O<|H<|U<|M O ?_
   exact congrArg vB (by unfold wantC;first|(exfalso;omega)|(simp [*];done)|(rw [Bool.eq_iff_iff];simp only [Bool.or_eq_true,Bool.and_eq_true,decide_eq_true_eq];omega))
 ·try simp only [I] at c1
  refine B O<|n O<|F O<|H<|g O (fun c2=>?_) (fun c2=>?_)
  ·try simp only [I] at c2
   refine zJ<|g O (fun c3=>?_) (fun c3=>?_)
   ·try simp only [I] at c3
    refine B O<|F O<|H<|U<|M O ?_
    exact congrArg vB (by unfold wantC;first|(exfalso;omega)|(simp [*];done)|(rw [Bool.eq_iff_iff];simp only [Bool.or_eq_true,Bool.and_eq_true,decide_eq_true_eq];omega))
   ·try simp only [I] at c3
    refine zJ<|B O<|F O<|n O<|F O<|w O (fun g6_2=>zQ O O) O<|R 13 O (fun g6_2=>yG O O O) O<|yY O (fun h=>h)<|F O<|H<|U<|M O ?_
    exact congrArg vB (by unfold wantC;first|(exfalso;omega)|(simp [*];done)|(rw [Bool.eq_iff_iff];simp only [Bool.or_eq_true,Bool.and_eq_true,decide_eq_true_eq];omega))
  ·try simp only [I] at c2
   refine zU O<|n O<|F O<|H<|g O (fun c3=>?_) (fun c3=>?_)
   ·try simp only [I] at c3
    refine B O<|F O<|H<|U<|M O ?_
    exact congrArg vB (by unfold wantC;first|(exfalso;omega)|(simp [*];done)|(rw [Bool.eq_iff_iff];simp only [Bool.or_eq_true,Bool.and_eq_true,decide_eq_true_eq];omega))
   ·try simp only [I] at c3
    refine zJ<|B O<|F O<|n O<|F O<|w O (fun g6_2=>zQ O O) O<|R 13 O (fun g6_2=>yG O O O) O<|yY O (fun h=>h)<|F O<|H<|U<|M O ?_
    exact congrArg vB (by unfold wantC;first|(exfalso;omega)|(simp [*];done)|(rw [Bool.eq_iff_iff];simp only [Bool.or_eq_true,Bool.and_eq_true,decide_eq_true_eq];omega))
theorem ref14_wants (op i:Int):
    Pur cfg 220 [vI op,vI i] (vB (wantC op i)):=by
 refine zT Tryz.func220 O Tryz.ntmps220 Tryz.results220 O ?_
 intro z hz
 refine B O<|F O<|H<|B O<|F O<|n O<|F O<|w O (fun g1_2=>zQ O O) O<|R 8 O (fun g1_2=>yG O O O) O<|yY O (fun h=>h)<|F O<|w O (fun g1_6=>zQ O O) O<|R 12 O (fun g1_6=>yG O O O) O<|r_or O (fun h=>(lzf h))<|F O<|w O (fun g1_10=>zQ O O) O<|R 16 O (fun g1_10=>yG O O O) O<|r_or O (fun h=>(lzf h))<|F O<|w O (fun g1_14=>zQ O O) O<|R 20 O (fun g1_14=>yG O O O) O<|r_or O (fun h=>(lzf h))<|F O<|H<|U<|M O ?_
 exact O
theorem zOi (l:Lf):
    Pur cfg 207 [vLin l] (vB (zeroL l)):=by
 refine zT Tryz.func207 O Tryz.ntmps207 Tryz.results207 O ?_
 intro z hz
 refine B O<|zV O O (qI O O) ?_
 rintro _ _ ⟨b1,rfl,rfl⟩
 refine F O<|H<|B O<|zH O zIx<|zL one2 (K 0 O) O<|n O<|F O<|w O (fun g1_3=>zE O wN O) O<|R 7 O (fun g1_3=>zG O zBn O (K 0 O) O) O<|R 8 O (fun g1_3=>qZ O q O) O<|R 9 O (fun g1_3=>yG O O O) O<|yY O (fun h=>h)<|F O<|H<|U<|M O ?_
 exact O
theorem zOh (x:Ix):
    Pur cfg 210 [vIndex x] (vB (wellIx x)):=by
 refine zT Tryz.func210 O Tryz.ntmps210 Tryz.results210 O ?_
 intro z hz
 refine B O<|zV O O (qI O O) ?_
 rintro _ _ ⟨b1,rfl,rfl⟩
 refine F O<|H<|W<|B O<|zH O zDc<|zL i (K 0 O) O<|zX O (yL O O O)<|H<|g O (fun c1=>?_) (fun c1=>?_)
 ·try simp only [I] at c1
  refine B O<|zH O zAk<|zL zBf (K 0 O) O<|zZ O t<|n O<|F O<|H<|U<|M O ?_
  rw [wellIx,wD c1];rfl
 ·try simp only [I] at c1
  refine zJ<|B O<|zH O zDd<|zK kQ (K 0 O) O<|qK O ok207 (zOi x.Lin) ⟨G,O,T⟩<|F O<|H<|U<|M O ?_
  rw [wellIx,yJ c1];rfl
theorem expr_syntax_1 (x:Ix):
    Pur cfg 209 [vIndex x] (vB (!wellIx x)):=by
 refine zT Tryz.func209 O Tryz.ntmps209 Tryz.results209 O ?_
 intro z hz
 refine B O<|zV O O (qI O O) ?_
 rintro _ _ ⟨b1,rfl,rfl⟩
 refine F O<|H<|B O<|zK zJn (K 0 O) O<|qK O ok210 (zOh x) ⟨G,O,T⟩<|wP O<|F O<|H<|U<|M O ?_
 exact O
theorem expr_names_1 (x:Ix):
    Pur cfg 211 [vIndex x] (vB (!nmIx x)):=by
 refine zT Tryz.func211 O Tryz.ntmps211 Tryz.results211 O ?_
 intro z hz
 refine B O<|zV O O (qI O O) ?_
 rintro _ _ ⟨b1,rfl,rfl⟩
 refine F O<|H<|B O<|zH O zDc<|zL i (K 0 O) O<|zX O (zDr O O O)<|F O<|w O (fun g1_3=>zE O zDc O) O<|R 7 O (fun g1_3=>zG O i O (K 0 O) O) O<|R 8 O (fun g1_3=>qF O ok176 (zDn _) ⟨G,O,T⟩) O<|R 9 O (fun g1_3=>wO O O) O<|yY O (fun h=>h)<|F O<|H<|U<|M O ?_
 exact congrArg vB (by unfold nmIx;simp)
theorem expr_rank_1 (x:Ix):
    Pur cfg 213 [vIndex x] (vB (!rkIx x)):=by
 refine zT Tryz.func213 O Tryz.ntmps213 Tryz.results213 O ?_
 intro z hz
 refine B O<|zV O O (qI O O) ?_
 rintro _ _ ⟨b1,rfl,rfl⟩
 refine F O<|H<|B O<|zH O zAk<|zL zBf (K 0 O) O<|zZ O t<|zX O (yM O O O)<|F O<|H<|U<|M O ?_
 exact congrArg vB (by unfold rkIx;simp)
theorem expr_syntax (e:Ex) (he:e.wt<=6000000000000):
    Pur cfg 157 [vE e] (vB (synOk e)):=by
 refine zT Tryz.func157 O Tryz.ntmps157 Tryz.results157 O ?_
 intro z hz
 obtain ⟨hL,hI,hA⟩:=e.parts he
 refine B O<|zV O O (qI O O) ?_
 rintro _ _ ⟨b1,rfl,rfl⟩
 refine F O<|H<|W<|qP 13 mixed (by kernel_rfl) O O<|Y O O (zE O yQ O)<|Y O O (zG O P O (K 0 O) O)<|Y O O (yG O O O)<|Y O O (zE O yQ O)<|Y O O (zG O P O (K 0 O) O)<|Y O O (yG O O O)<|Y O O (zQ O O)<|f [] O O O O J T (fun g1_6=>zE O yQ O) O<|f [(14,_)] O O O O J ⟨O,O,T⟩ (fun g1_6=>zG O P O (K 0 O) O) O<|f [(15,_)] O O O O J ⟨O,O,T⟩ (fun g1_6=>yG O O O) O<|Y O O (zBs O O O O (fun h=>(lzf h)))<|Y O O (yW O O)<|Y O O (yW O O)<|yK<|H<|W<|qP 8 mixed (by kernel_rfl) O O<|Y O O (zE O yQ O)<|Y O O (zG O P O (K 0 O) O)<|Y O O (yG O O O)<|Y O O (zE O yQ O)<|Y O O (zG O P O (K 0 O) O)<|Y O O (yG O O O)<|Y O O (yW O O)<|Y O O (yW O O)<|yK<|H<|W<|zP<|B O<|zH O yQ<|zL P (K 0 O) O<|yD O<|F O<|w O (fun g3_3=>zE O yQ O) O<|R 29 O (fun g3_3=>zG O P O (K 0 O) O) O<|R 30 O (fun g3_3=>yM O O O) O<|r_or O (fun h=>(lzf h))<|F O<|H<|g O (fun c1=>?_) (fun c1=>?_)
 ·refine B O<|F O<|H<|U<|M O ?_
  exact congrArg vB (by simp only [synOk,c1,Bool.not_true,Bool.not_false,Bool.true_and,Bool.and_true,Bool.false_and,Bool.and_false])
 ·refine B O<|F O<|wP O<|F O<|w O (fun g5_2=>zE O zHg O) O<|R 37 O (fun g5_2=>zM O agg29 O (K 0 O) O) O<|w O (fun g5_2=>kY O zr29 pl29 O) O<|rLz [(38,_),(39,_)] O J ⟨O,O,O,O,T⟩ (fun g5_2=>zCm O fl29 O O O) O<|yY O (fun h=>h)<|F O<|H<|g O (fun c2=>?_) (fun c2=>?_)
  ·have c2:(!decide (e.Op=1)&& !val0 e.Val)=true:=c2
   refine B O<|F O<|H<|U<|M O ?_
   exact congrArg vB (by simp only [synOk,c2,Bool.not_true,Bool.not_false,Bool.true_and,Bool.and_true,Bool.false_and,Bool.and_false])
  ·have c2:(!decide (e.Op=1)&& !val0 e.Val)=false:=c2
   refine B O<|F O<|wP O<|F O<|w O (fun g7_2=>zE O zCh O) O<|R 46 O (fun g7_2=>zM O yC O (K 0 O) O) O<|w O (fun g7_2=>kY O zr31 pl31 O) O<|rLz [(47,_),(48,_)] O J ⟨O,O,O,O,T⟩ (fun g7_2=>zCm O fl31 O O O) O<|yY O (fun h=>h)<|F O<|H<|g O (fun c3=>?_) (fun c3=>?_)
   ·have c3:(!(decide (e.Op=1)||decide (e.Op=12))&& !ty0 e.Ty)=true:=c3
    refine B O<|F O<|H<|U<|M O ?_
    exact congrArg vB (by simp only [synOk,c3,Bool.not_true,Bool.not_false,Bool.true_and,Bool.and_true,Bool.false_and,Bool.and_false])
   ·have c3:(!(decide (e.Op=1)||decide (e.Op=12))&& !ty0 e.Ty)=false:=c3
    refine B O<|F O<|wP O<|F O<|w O (fun g9_2=>zE O zDf O) O<|R 55 O (fun g9_2=>zM O kQ O (K 0 O) O) O<|R 56 O (fun g9_2=>qF O ok207 (zOi e.Lin) ⟨G,O,T⟩) O<|R 57 O (fun g9_2=>wO O O) O<|yY O (fun h=>h)<|F O<|H<|g O (fun c4=>?_) (fun c4=>?_)
    ·refine B O<|F O<|H<|U<|M O ?_
     exact congrArg vB (by simp only [synOk,c4,Bool.not_true,Bool.not_false,Bool.true_and,Bool.and_true,Bool.false_and,Bool.and_false])
    ·refine B O<|F O<|wP O<|F O<|w O (fun g11_2=>zE O zAw O) O<|R 64 O (fun g11_2=>zG O i O (K 0 O) O) O<|R 65 O (fun g11_2=>zDr O O O) O<|R 66 O (fun g11_2=>zQ O O) O<|rLz [] O d T (fun g11_6=>zE O kF O) O<|rLz [(68,_)] O d ⟨O,O,T⟩ (fun g11_6=>zG O wQ O (K 0 O) O) O<|rLz [(69,_)] O d ⟨O,O,T⟩ (fun g11_6=>qZ O s O) O<|rLz [(70,_)] O d ⟨O,O,T⟩ (fun g11_6=>yM O O O) O<|R 67 O (fun g11_2=>zBs O O O O (fun h=>kB (by assumption) (lzf h))) O<|yY O (fun h=>h)<|F O<|H<|g O (fun c5=>?_) (fun c5=>?_)
     ·refine B O<|F O<|H<|U<|M O ?_
      exact congrArg vB (by simp only [synOk,c5,Bool.not_true,Bool.not_false,Bool.true_and,Bool.and_true,Bool.false_and,Bool.and_false])
     ·refine zJ<|B O<|zH O kF<|zL wQ (K 0 O) O<|qK O ok208 (zAi e.Idx _ (fun x=> !wellIx x) hI (fun x _=>FnPur.of_pur (first:=[]) (cap:=[]) ok209 (expr_syntax_1 x))) ⟨G,O,G,O,T⟩<|wP O<|F O<|H<|U<|M O ?_
      exact congrArg vB (by rw [zNl];simp only [synOk,c1,c2,c3,c4,c5,Bool.not_true,Bool.not_false,Bool.true_and,Bool.and_true,Bool.false_and,Bool.and_false])
theorem expr_names (e:Ex) (he:e.wt<=6000000000000):
    Pur cfg 158 [vE e] (vB (namesE e)):=by
 refine zT Tryz.func158 O Tryz.ntmps158 Tryz.results158 O ?_
 intro z hz
 obtain ⟨hL,hI,hA⟩:=e.parts he
 refine B O<|zV O O (qI O O) ?_
 rintro _ _ ⟨b1,rfl,rfl⟩
 refine F O<|H<|W<|B O<|zH O yQ<|zL P (K 0 O) O<|n O<|F O<|w O (fun g1_3=>zE O zAw O) O<|R 7 O (fun g1_3=>zG O i O (K 0 O) O) O<|R 8 O (fun g1_3=>qF O ok176 (zDn _) ⟨G,O,T⟩) O<|R 9 O (fun g1_3=>wO O O) O<|yY O (fun h=>h)<|H<|g O (fun c1=>?_) (fun c1=>?_)
 ·refine B O<|F O<|H<|U<|M O ?_
  exact congrArg vB (by simp only [namesE,c1,Bool.not_true,Bool.false_and])
 ·refine zJ<|B O<|zH O kF<|zL wQ (K 0 O) O<|qK O ok208 (zAi e.Idx _ (fun x=> !nmIx x) hI (fun x _=>FnPur.of_pur (first:=[]) (cap:=[]) ok211 (expr_names_1 x))) ⟨G,O,G,O,T⟩<|wP O<|F O<|H<|U<|M O ?_
  exact congrArg vB (by rw [zNl];simp only [namesE,c1,Bool.not_false,Bool.true_and])
theorem expr_rank (e:Ex) (he:e.wt<=6000000000000):
    Pur cfg 159 [vE e] (vB (rankE e)):=by
 refine zT Tryz.func159 O Tryz.ntmps159 Tryz.results159 O ?_
 intro z hz
 obtain ⟨hL,hI,hA⟩:=e.parts he
 refine B O<|zV O O (qI O O) ?_
 rintro _ _ ⟨b1,rfl,rfl⟩
 refine F O<|H<|W<|W<|qP 13 mixed (by kernel_rfl) O O<|Y O O (zE O kA O)<|Y O O (zG O wA O (K 0 O) O)<|Y O O (qZ O A O)<|Y O O (zE O yQ O)<|Y O O (zG O P O (K 0 O) O)<|Y O O (qF O ok212 (expr_operands _) ⟨G,O,T⟩)<|Y O O (zAf O O O)<|Y O O (zQ O O)<|f [] O O O O J T (fun g1_7=>zE O kF O) O<|f [(11,_)] O O O O J ⟨O,O,T⟩ (fun g1_7=>zG O wQ O (K 0 O) O) O<|f [(12,_)] O O O O J ⟨O,O,T⟩ (fun g1_7=>qZ O s O) O<|f [(13,_)] O O O O J ⟨O,O,T⟩ (fun g1_7=>yM O O O) O<|Y O O (zBs O O O O (fun h=>(lzf h)))<|yK<|H<|g O (fun c1=>?_) (fun c1=>?_)
 ·refine B O<|F O<|H<|U<|M O ?_
  exact congrArg vB (by simp only [rankE,c1,Bool.not_true,Bool.false_and])
 ·refine zJ<|B O<|zH O kF<|zL wQ (K 0 O) O<|qK O ok208 (zAi e.Idx _ (fun x=> !rkIx x) hI (fun x _=>FnPur.of_pur (first:=[]) (cap:=[]) ok213 (expr_rank_1 x))) ⟨G,O,G,O,T⟩<|wP O<|F O<|H<|U<|M O ?_
  exact congrArg vB (by rw [zNl];simp only [rankE,c1,Bool.not_false,Bool.true_and])
theorem expr_types (e:Ex) (he:e.wt<=6000000000000):
    Pur cfg 160 [vE e] (vB (typesE e)):=by
 refine zT Tryz.func160 O Tryz.ntmps160 Tryz.results160 O ?_
 intro z hz
 obtain ⟨hL,hI,hA⟩:=e.parts he
 refine B O<|zV O O (qI O O) ?_
 rintro _ _ ⟨b1,rfl,rfl⟩
 refine F O<|H<|W<|B O<|zH O yQ<|zL P (K 0 O) O<|n O<|F O<|w O (fun g1_3=>zE O yQ O) O<|R 9 O (fun g1_3=>zG O P O (K 0 O) O) O<|R 10 O (fun g1_3=>yG O O O) O<|r_or O (fun h=>(lzf h))<|F O<|w O (fun g1_8=>zE O zCh O) O<|R 14 O (fun g1_8=>zM O yC O (K 0 O) O) O<|R 15 O (fun g1_8=>qF O ok214 (zBo _) ⟨G,O,T⟩) O<|R 16 O (fun g1_8=>zAf O O O) O<|yY O (fun h=>h)<|H<|g O (fun c1=>?_) (fun c1=>?_)
 ·rw [tyErr_dec] at c1
  refine B O<|F O<|H<|U<|M O ?_
  exact congrArg vB (by simp only [typesE,c1,Bool.not_true,Bool.false_and])
 ·rw [tyErr_dec] at c1
  refine zJ<|W<|B O<|zH O kA<|zL wA (K 0 O) O<|zZ O A<|F O<|H<|zP<|zW ⟨[(22,.c _),(1,.c _),(20,.c _),(21,.c _)],[_]⟩ (Weak.mk [true] ⟨G,G,G,G,T⟩ O)<|qJ 1 0 O O (Nat) (fun k=>[(22,vI k)]) (fun k=>[]) (fun k=>k<=e.Args.length/\(condsOk e.Op 0 e.Args=condsOk e.Op k (e.Args.drop k))) (fun k=>e.Args.length-k) ⟨0,⟨by omega,O⟩,Weak.mk [true] ⟨G,G,G,G,T⟩ O⟩ ?_
  rintro k ⟨hk,hp⟩
  refine B O<|yD O<|H<|W<|g O (fun c2=>?_) (fun c2=>?_)
  ·try simp only [I] at c2
   obtain ⟨a,ha⟩:=qQ e.Args k (by omega)
   refine zJ<|W<|zP<|B O<|F O<|qH O A (by omega) (yR (by assumption))<|zK Q qB O<|zV O O (qG [none,none,none,none,none,none,none,none,none,none,some 2,some 4,some 13] O u O) ?_
   rintro _ _ ⟨b2,rfl,rfl⟩
   refine F O<|N 0 D O<|H<|W<|qP 7 mixed (by kernel_rfl) O O<|Y O O (zM O Q O (K 0 O) O)<|Y O O (qF O ok65 (zFi a) ⟨G,O,T⟩)<|Y O O (zE O yQ O)<|Y O O (zG O P O (K 1 O) O)<|Y O O (zQ O O)<|Y O O (qF O ok215 (zFm _ _) ⟨G,O,G,O,T⟩)<|Y O O (det_bneq O un4 O O)<|yK<|H<|g O (fun c3=>?_) (fun c3=>?_)
   ·refine B O<|F O<|H<|U<|M O ?_
    exact congrArg vB (by simp only [typesE,c1,Bool.not_false,Bool.true_and];rw [hp,qO ha,condsOk,show (isCond a==wantC e.Op k)=false by simpa using c3,Bool.false_and])
   ·refine zJ<|zU O<|qL O ⟨by omega,by omega⟩<|F O<|H ?_
    refine ⟨k+1,⟨by omega,(by rw [hp,qO ha,condsOk,show (isCond a==wantC e.Op k)=true by simpa using c3,Bool.true_and];rfl)⟩,(by omega),Weak.mk [false,true] ⟨G,G,G,G,T⟩ O⟩
  ·try simp only [I] at c2
   refine qN<|B O<|F O<|H<|U<|M O ?_
   exact congrArg vB (by simp only [typesE,c1,Bool.not_false,Bool.true_and];rw [hp,kC (by omega)];rfl)
theorem ref14_typed (e:Ex) (he:e.wt<=6000000000000):
    Pur cfg 174 [vE e] (vB (typesE e)):=by
 refine zT Tryz.func174 O Tryz.ntmps174 Tryz.results174 O ?_
 intro z hz
 obtain ⟨hL,hI,hA⟩:=e.parts he
 refine B O<|zV O O (qI O O) ?_
 rintro _ _ ⟨b1,rfl,rfl⟩
 refine F O<|H<|W<|B O<|zH O yQ<|zL P (K 0 O) O<|n O<|F O<|w O (fun g1_3=>zE O yQ O) O<|R 8 O (fun g1_3=>zG O P O (K 0 O) O) O<|R 9 O (fun g1_3=>yG O O O) O<|r_or O (fun h=>(lzf h))<|F O<|w O (fun g1_8=>zE O zCh O) O<|R 13 O (fun g1_8=>zM O yC O (K 0 O) O) O<|R 14 O (fun g1_8=>qF O ok117 (base_Type _) ⟨G,O,T⟩) O<|R 15 O (fun g1_8=>wO O O) O<|yY O (fun h=>h)<|H<|g O (fun c1=>?_) (fun c1=>?_)
 ·refine B O<|F O<|H<|U<|M O ?_
  exact congrArg vB (by simp only [typesE,c1,Bool.not_true,Bool.false_and])
 ·refine zJ<|W<|B O<|F O<|H<|zP<|zW ⟨[(3,.c _),(1,.c _)],[_]⟩ (Weak.mk [true] ⟨G,G,T⟩ O)<|qJ 1 0 O O (Nat) (fun k=>[(3,vI k)]) (fun k=>[]) (fun k=>k<=e.Args.length/\(condsOk e.Op 0 e.Args=condsOk e.Op k (e.Args.drop k))) (fun k=>e.Args.length-k) ⟨0,⟨by omega,O⟩,Weak.mk [true] ⟨G,G,T⟩ O⟩ ?_
  rintro k ⟨hk,hp⟩
  refine W<|B O<|F O<|zH O kA<|zL wA (K 0 O) O<|zZ O A<|yD O<|H<|g O (fun c2=>?_) (fun c2=>?_)
  ·try simp only [I] at c2
   obtain ⟨a,ha⟩:=qQ e.Args k (by omega)
   refine zJ<|W<|zP<|W<|qP 11 mixed (by kernel_rfl) O O<|Y O O (zE O kA O)<|Y O O (zG O wA O (K 0 O) O)<|Y O O (zQ O O)<|Y O O (qA O A O O (by omega) (yR (by assumption)))<|Y O O (zM O Q O qB O)<|Y O O (qF O ok87 (zBl a) ⟨G,O,T⟩)<|Y O O (zE O yQ O)<|Y O O (zG O P O (K 0 O) O)<|Y O O (zQ O O)<|Y O O (qF O ok220 (ref14_wants _ _) ⟨G,O,G,O,T⟩)<|Y O O (det_bneq O un4 O O)<|yK<|H<|g O (fun c3=>?_) (fun c3=>?_)
   ·refine B O<|F O<|H<|U<|M O ?_
    exact congrArg vB (by simp only [typesE,c1,Bool.not_false,Bool.true_and];rw [hp,qO ha,condsOk,show (isCond a==wantC e.Op k)=false by simpa using c3,Bool.false_and])
   ·refine zJ<|zU O<|F O<|qL O ⟨by omega,by omega⟩<|F O<|H ?_
    refine ⟨k+1,⟨by omega,(by rw [hp,qO ha,condsOk,show (isCond a==wantC e.Op k)=true by simpa using c3,Bool.true_and];rfl)⟩,(by omega),Weak.mk [true] ⟨G,G,T⟩ O⟩
  ·try simp only [I] at c2
   refine qN<|B O<|F O<|H<|U<|M O ?_
   exact congrArg vB (by simp only [typesE,c1,Bool.not_false,Bool.true_and];rw [hp,kC (by omega)];rfl)
theorem ref14_plain (e:Ex) (he:e.wt<=6000000000000):
    Pur cfg 171 [vE e] (vB (synOk e)):=by
 refine zT Tryz.func171 O Tryz.ntmps171 Tryz.results171 O ?_
 intro z hz
 obtain ⟨hL,hI,hA⟩:=e.parts he
 refine B O<|zV O O (qI O O) ?_
 rintro _ _ ⟨b1,rfl,rfl⟩
 refine F O<|H<|W<|B O<|zH O yQ<|zL P (K 0 O) O<|yD O<|F O<|w O (fun g1_3=>zE O yQ O) O<|R 9 O (fun g1_3=>zG O P O (K 0 O) O) O<|R 10 O (fun g1_3=>yM O O O) O<|r_or O (fun h=>(lzf h))<|H<|g O (fun c1=>?_) (fun c1=>?_)
 ·refine B O<|F O<|H<|U<|M O ?_
  exact congrArg vB (by simp only [synOk,c1,Bool.not_true,Bool.false_and])
 ·refine zJ<|W<|B O<|zH O yQ<|zL P (K 0 O) O<|yU O<|F O<|w O (fun g3_3=>zE O zHg O) O<|R 17 O (fun g3_3=>zM O agg29 O (K 0 O) O) O<|w O (fun g3_3=>kY O zr29 pl29 O) O<|rLz [(18,_),(19,_)] O J ⟨O,O,O,O,T⟩ (fun g3_3=>zCm O fl29 O O O) O<|yY O (fun h=>h)<|F O<|w O (fun g3_9=>zE O yQ O) O<|R 23 O (fun g3_9=>zG O P O (K 0 O) O) O<|R 24 O (fun g3_9=>zAf O O O) O<|R 25 O (fun g3_9=>zQ O O) O<|rLz [] O d T (fun g3_13=>zE O yQ O) O<|rLz [(27,_)] O d ⟨O,O,T⟩ (fun g3_13=>zG O P O (K 0 O) O) O<|rLz [(28,_)] O d ⟨O,O,T⟩ (fun g3_13=>zAf O O O) O<|R 26 O (fun g3_9=>kI O O O (fun h=>kB (by assumption) h) O) O<|R 30 O (fun g3_9=>zQ O O) O<|rLz [] O d T (fun g3_18=>zE O zCh O) O<|rLz [(32,_)] O d ⟨O,O,T⟩ (fun g3_18=>zM O yC O (K 0 O) O) O<|rLz [] O d T (fun g3_18=>kY O zr31 pl31 O) O<|rLz [(33,_),(34,_)] O d ⟨O,O,O,O,T⟩ (fun g3_18=>zCm O fl31 O O O) O<|R 31 O (fun g3_9=>kI O O O (fun h=>kB (by assumption) h) O) O<|r_or O (fun h=>(lzf h))<|H<|g O (fun c2=>?_) (fun c2=>?_)
  ·have h2:=plain2 (e:=e) c2
   refine B O<|F O<|H<|U<|M O ?_
   exact congrArg vB (syn2 h2)
  ·have h2:=plain2 (e:=e) c2
   refine zJ<|W<|B O<|zH O yQ<|zL P (K 0 O) O<|yU O<|F O<|w O (fun g5_3=>zE O zDf O) O<|R 42 O (fun g5_3=>zE O zIx O) O<|R 43 O (fun g5_3=>zG O one2 O (K 0 O) O) O<|R 44 O (fun g5_3=>zAf O O O) O<|R 45 O (fun g5_3=>zQ O O) O<|rLz [] O d T (fun g5_8=>zE O zDf O) O<|rLz [(47,_)] O d ⟨O,O,T⟩ (fun g5_8=>zE O wN O) O<|rLz [(48,_)] O d ⟨O,O,T⟩ (fun g5_8=>zG O zBn O (K 0 O) O) O<|rLz [(49,_)] O d ⟨O,O,T⟩ (fun g5_8=>qZ O q O) O<|rLz [(50,_)] O d ⟨O,O,T⟩ (fun g5_8=>yM O O O) O<|R 46 O (fun g5_3=>zBs O O O O (fun h=>kB (by assumption) (lzf h))) O<|yY O (fun h=>h)<|F O<|w O (fun g5_16=>zE O yQ O) O<|R 55 O (fun g5_16=>zG O P O (K 0 O) O) O<|R 56 O (fun g5_16=>zAf O O O) O<|R 57 O (fun g5_16=>zQ O O) O<|rLz [] O d T (fun g5_20=>zE O zAw O) O<|rLz [(59,_)] O d ⟨O,O,T⟩ (fun g5_20=>zG O i O (K 0 O) O) O<|rLz [(60,_)] O d ⟨O,O,T⟩ (fun g5_20=>zDr O O O) O<|rLz [(61,_)] O d ⟨O,O,T⟩ (fun g5_20=>zQ O O) O<|rLz [] O d T (fun g5_24=>zE O kF O) O<|rLz [(63,_)] O d ⟨O,O,T⟩ (fun g5_24=>zG O wQ O (K 0 O) O) O<|rLz [(64,_)] O d ⟨O,O,T⟩ (fun g5_24=>qZ O s O) O<|rLz [(65,_)] O d ⟨O,O,T⟩ (fun g5_24=>yM O O O) O<|rLz [(62,_)] O d ⟨O,O,T⟩ (fun g5_20=>zBs O O O O (fun h=>kB (by assumption) (lzf h))) O<|R 58 O (fun g5_16=>kI O O O (fun h=>kB (by assumption) h) O) O<|r_or O (fun h=>(lzf h))<|H<|g O (fun c3=>?_) (fun c3=>?_)
   ·have h3:=plain3 (e:=e) c3
    refine B O<|F O<|H<|U<|M O ?_
    exact congrArg vB (syn3 h3)
   ·have h3:=plain3 (e:=e) c3
    refine zJ<|W<|B O<|F O<|H<|zP<|zW ⟨[(3,.c _),(1,.c _)],[_]⟩ (Weak.mk [true] ⟨G,G,T⟩ O)<|qJ 1 0 O O (Nat) (fun k=>[(3,vI k)]) (fun k=>[]) (fun k=>k<=e.Idx.length/\(e.Idx.all wellIx=(e.Idx.drop k).all wellIx)) (fun k=>e.Idx.length-k) ⟨0,⟨by omega,O⟩,Weak.mk [true] ⟨G,G,T⟩ O⟩ ?_
    rintro k ⟨hk,hp⟩
    refine W<|B O<|F O<|zH O kF<|zL wQ (K 0 O) O<|zZ O s<|yD O<|H<|g O (fun c4=>?_) (fun c4=>?_)
    ·try simp only [I] at c4
     obtain ⟨x,hx⟩:=qQ e.Idx k (by omega)
     refine zJ<|W<|zP<|B O<|zH O kF<|zL wQ (K 0 O) O<|F O<|qH O s (by omega) (X (by assumption))<|zK zJn qB O<|zV O O (qG [none,some 2,none,some 2] O zr67 O) ?_
     rintro _ _ ⟨b2,rfl,rfl⟩
     refine N 0 sz67 O<|H<|B O<|zH O zDc<|zL i (K 0 O) O<|zX O (yL O O O)<|F O<|w O (fun g11_3=>zE O zAk O) O<|R 86 O (fun g11_3=>zG O zBf O (K 0 O) O) O<|R 87 O (fun g11_3=>qZ O t O) O<|R 88 O (fun g11_3=>yM O O O) O<|yY O (fun h=>h)<|F O<|w O (fun g11_9=>zE O zDc O) O<|R 92 O (fun g11_9=>zG O i O (K 0 O) O) O<|R 93 O (fun g11_9=>zDr O O O) O<|R 94 O (fun g11_9=>zQ O O) O<|rLz [] O d T (fun g11_13=>zE O zDd O) O<|rLz [(96,_)] O d ⟨O,O,T⟩ (fun g11_13=>zE O zIx O) O<|rLz [(97,_)] O d ⟨O,O,T⟩ (fun g11_13=>zG O one2 O (K 0 O) O) O<|rLz [(98,_)] O d ⟨O,O,T⟩ (fun g11_13=>zAf O O O) O<|rLz [(99,_)] O d ⟨O,O,T⟩ (fun g11_13=>zQ O O) O<|rLz [] O d T (fun g11_18=>zE O zDd O) O<|rLz [(101,_)] O d ⟨O,O,T⟩ (fun g11_18=>zE O wN O) O<|rLz [(102,_)] O d ⟨O,O,T⟩ (fun g11_18=>zG O zBn O (K 0 O) O) O<|rLz [(103,_)] O d ⟨O,O,T⟩ (fun g11_18=>qZ O q O) O<|rLz [(104,_)] O d ⟨O,O,T⟩ (fun g11_18=>yM O O O) O<|rLz [(100,_)] O d ⟨O,O,T⟩ (fun g11_13=>zBs O O O O (fun h=>kB (by assumption) (lzf h))) O<|R 95 O (fun g11_9=>kI O O O (fun h=>kB (by assumption) h) O) O<|r_or O (fun h=>(lzf h))<|H<|g O (fun c5=>?_) (fun c5=>?_)
     ·have h5:=well_dec (x:=x) c5
      refine B O<|F O<|H<|U<|M O ?_
      exact congrArg vB (by rw [synOk,all_no hx (p:=wellIx) (by simpa using h5)];simp)
     ·have h5:=well_dec (x:=x) c5
      refine zJ<|zU O<|F O<|qL O ⟨by omega,by omega⟩<|F O<|H ?_
      refine ⟨k+1,⟨by omega,zMc hx hp (by simpa using h5)⟩,(by omega),Weak.mk [false,true] ⟨G,G,T⟩ O⟩
    ·try simp only [I] at c4
     refine qN<|B O<|F O<|H<|U<|M O ?_
     exact congrArg vB (syn5 c1 h2 h3 (all_end hp (by omega)))
theorem ref14_named (e:Ex) (he:e.wt<=6000000000000):
    Pur cfg 172 [vE e] (vB (namesE e)):=by
 refine zT Tryz.func172 O Tryz.ntmps172 Tryz.results172 O ?_
 intro z hz
 obtain ⟨hL,hI,hA⟩:=e.parts he
 refine B O<|zV O O (qI O O) ?_
 rintro _ _ ⟨b1,rfl,rfl⟩
 refine F O<|H<|W<|B O<|zH O yQ<|zL P (K 0 O) O<|n O<|F O<|w O (fun g1_3=>zE O zAw O) O<|R 8 O (fun g1_3=>zG O i O (K 0 O) O) O<|R 9 O (fun g1_3=>qF O ok146 (zJi _) ⟨G,O,T⟩) O<|R 10 O (fun g1_3=>wO O O) O<|yY O (fun h=>h)<|H<|g O (fun c1=>?_) (fun c1=>?_)
 ·refine B O<|F O<|H<|U<|M O ?_
  exact congrArg vB (by simp only [namesE,c1,Bool.not_true,Bool.false_and])
 ·refine zJ<|W<|B O<|F O<|H<|zP<|zW ⟨[(3,.c _),(1,.c _)],[_]⟩ (Weak.mk [true] ⟨G,G,T⟩ O)<|qJ 1 0 O O (Nat) (fun k=>[(3,vI k)]) (fun k=>[]) (fun k=>k<=e.Idx.length/\(e.Idx.all nmIx=(e.Idx.drop k).all nmIx)) (fun k=>e.Idx.length-k) ⟨0,⟨by omega,O⟩,Weak.mk [true] ⟨G,G,T⟩ O⟩ ?_
  rintro k ⟨hk,hp⟩
  refine W<|B O<|F O<|zH O kF<|zL wQ (K 0 O) O<|zZ O s<|yD O<|H<|g O (fun c2=>?_) (fun c2=>?_)
  ·try simp only [I] at c2
   obtain ⟨x,hx⟩:=qQ e.Idx k (by omega)
   refine zJ<|W<|zP<|B O<|zH O kF<|zL wQ (K 0 O) O<|F O<|qH O s (by omega) (X (by assumption))<|zX O (qM O zDc O)<|zL i qB O<|zX O (zDr O O O)<|F O<|w O (fun g6_7=>zE O kF O) O<|R 28 O (fun g6_7=>zG O wQ O (K 0 O) O) O<|w O (fun g6_7=>zQ O O) O<|rLz [(29,_),(30,_)] O J ⟨O,O,O,O,T⟩ (fun g6_7=>qA O s O O (by omega) (X (by assumption))) O<|R 31 O (fun g6_7=>qM O zDc O) O<|R 32 O (fun g6_7=>zG O i O qB O) O<|R 33 O (fun g6_7=>qF O ok146 (zJi _) ⟨G,O,T⟩) O<|R 34 O (fun g6_7=>wO O O) O<|yY O (fun h=>h)<|H<|g O (fun c3=>?_) (fun c3=>?_)
   ·refine B O<|F O<|H<|U<|M O ?_
    exact congrArg vB (by rw [namesE,all_no hx (p:=nmIx) (by unfold nmIx;rw [c3];rfl)];simp)
   ·refine zJ<|zU O<|F O<|qL O ⟨by omega,by omega⟩<|F O<|H ?_
    refine ⟨k+1,⟨by omega,zMc hx hp (by unfold nmIx;rw [c3];rfl)⟩,(by omega),Weak.mk [true] ⟨G,G,T⟩ O⟩
  ·try simp only [I] at c2
   refine qN<|B O<|F O<|H<|U<|M O ?_
   exact congrArg vB (by rw [namesE,c1,all_end hp (by omega)];rfl)
theorem ref14_ranked (e:Ex) (he:e.wt<=6000000000000):
    Pur cfg 173 [vE e] (vB (rankE e)):=by
 refine zT Tryz.func173 O Tryz.ntmps173 Tryz.results173 O ?_
 intro z hz
 obtain ⟨hL,hI,hA⟩:=e.parts he
 refine B O<|zV O O (qI O O) ?_
 rintro _ _ ⟨b1,rfl,rfl⟩
 refine F O<|H<|W<|W<|qP 13 mixed (by kernel_rfl) O O<|Y O O (zE O kA O)<|Y O O (zG O wA O (K 0 O) O)<|Y O O (qZ O A O)<|Y O O (zE O yQ O)<|Y O O (zG O P O (K 0 O) O)<|Y O O (qF O ok219 (zKs _) ⟨G,O,T⟩)<|Y O O (zAf O O O)<|Y O O (zQ O O)<|f [] O O O O J T (fun g1_7=>zE O kF O) O<|f [(12,_)] O O O O J ⟨O,O,T⟩ (fun g1_7=>zG O wQ O (K 0 O) O) O<|f [(13,_)] O O O O J ⟨O,O,T⟩ (fun g1_7=>qZ O s O) O<|f [(14,_)] O O O O J ⟨O,O,T⟩ (fun g1_7=>yM O O O) O<|Y O O (zBs O O O O (fun h=>(lzf h)))<|yK<|H<|g O (fun c1=>?_) (fun c1=>?_)
 ·refine B O<|F O<|H<|U<|M O ?_
  exact congrArg vB (by simp only [rankE,c1,Bool.not_true,Bool.false_and])
 ·refine zJ<|W<|B O<|F O<|H<|zP<|zW ⟨[(3,.c _),(1,.c _)],[_]⟩ (Weak.mk [true] ⟨G,G,T⟩ O)<|qJ 1 0 O O (Nat) (fun k=>[(3,vI k)]) (fun k=>[]) (fun k=>k<=e.Idx.length/\(e.Idx.all rkIx=(e.Idx.drop k).all rkIx)) (fun k=>e.Idx.length-k) ⟨0,⟨by omega,O⟩,Weak.mk [true] ⟨G,G,T⟩ O⟩ ?_
  rintro k ⟨hk,hp⟩
  refine W<|B O<|F O<|zH O kF<|zL wQ (K 0 O) O<|zZ O s<|yD O<|H<|g O (fun c2=>?_) (fun c2=>?_)
  ·try simp only [I] at c2
   obtain ⟨x,hx⟩:=qQ e.Idx k (by omega)
   refine zJ<|W<|zP<|B O<|zH O kF<|zL wQ (K 0 O) O<|F O<|qH O s (by omega) (X (by assumption))<|zX O (qM O zAk O)<|zL zBf qB O<|zZ O t<|zX O (yM O O O)<|H<|g O (fun c3=>?_) (fun c3=>?_)
   ·refine B O<|F O<|H<|U<|M O ?_
    exact congrArg vB (by rw [rankE,all_no hx (p:=rkIx) (by unfold rkIx;rw [c3];rfl)];simp)
   ·refine zJ<|zU O<|F O<|qL O ⟨by omega,by omega⟩<|F O<|H ?_
    refine ⟨k+1,⟨by omega,zMc hx hp (by unfold rkIx;rw [c3];rfl)⟩,(by omega),Weak.mk [true] ⟨G,G,T⟩ O⟩
  ·try simp only [I] at c2
   refine qN<|B O<|F O<|H<|U<|M O ?_
   exact congrArg vB (by rw [rankE,c1,all_end hp (by omega)];rfl)
theorem ref14_formed (e:Ex) (he:e.wt<=6000000000000) (hty:e.Op=1->tyOk e.Ty=true):
    Pur cfg 175 [vE e] (vB (formOk e)):=by
 refine zT Tryz.func175 O Tryz.ntmps175 Tryz.results175 O ?_
 intro z hz
 obtain ⟨hL,hI,hA⟩:=e.parts he
 refine B O<|zV O O (qI O O) ?_
 rintro _ _ ⟨b1,rfl,rfl⟩
 refine F O<|H<|W<|B O<|zH O yQ<|zL P (K 0 O) O<|n O<|F O<|w O (fun g1_3=>zE O zCh O) O<|R 9 O (fun g1_3=>zM O yC O (K 0 O) O) O<|w O (fun g1_3=>zE O zHg O) O<|R 11 O (fun g1_3=>zM O agg29 O (K 0 O) O) O<|rLz [(10,_),(12,_)] O J ⟨O,O,O,O,T⟩ (fun g1_3=>qF O ok221 (base_Val e.Ty e.Val (hty (by simp only [Lz,cond_true,cond_false,Bool.and_eq_true,Bool.or_eq_true,Bool.not_eq_true',Bool.not_eq_false',Bool.or_eq_false_iff,Bool.and_eq_false_iff,decide_eq_true_eq,decide_eq_false_iff_not,Bool.not_eq_true,Bool.not_eq_false] at g1_3;exact g1_3))) ⟨G,O,G,O,T⟩) O<|R 13 O (fun g1_3=>wO O O) O<|yY O (fun h=>h)<|F O<|w O (fun g1_11=>zE O zDf O) O<|R 17 O (fun g1_11=>zM O kQ O (K 0 O) O) O<|R 18 O (fun g1_11=>qF O ok115 (zFa e.Lin hL) ⟨G,O,T⟩) O<|R 19 O (fun g1_11=>wO O O) O<|r_or O (fun h=>(lzf h))<|H<|g O (fun c1=>?_) (fun c1=>?_)
 ·refine B O<|F O<|H<|U<|M O ?_
  exact congrArg vB (form_no c1)
 ·refine zJ<|W<|B O<|F O<|H<|zP<|zW ⟨[(3,.c _),(1,.c _)],[_]⟩ (Weak.mk [true] ⟨G,G,T⟩ O)<|qJ 1 0 O O (Nat) (fun k=>[(3,vI k)]) (fun k=>[]) (fun k=>k<=e.Idx.length/\((formsL e).all linOk=((e.Idx.drop k).flatMap fun x=>x.Lin::x.At).all linOk)) (fun k=>e.Idx.length-k) ⟨0,⟨by omega,form_start c1⟩,Weak.mk [true] ⟨G,G,T⟩ O⟩ ?_
  rintro k ⟨hk,hp⟩
  refine W<|B O<|F O<|zH O kF<|zL wQ (K 0 O) O<|zZ O s<|yD O<|H<|g O (fun c2=>?_) (fun c2=>?_)
  ·try simp only [I] at c2
   obtain ⟨x,hx⟩:=qQ e.Idx k (by omega)
   have hxw:=Ex.idx_wt (qD hx)
   refine zJ<|W<|zP<|W<|B O<|zH O kF<|zL wQ (K 0 O) O<|F O<|qH O s (by omega) (X (by assumption))<|zX O (qM O zDd O)<|zK kQ qB O<|qK O ok115 (zFa x.Lin (by omega)) ⟨G,O,T⟩<|wP O<|H<|g O (fun c3=>?_) (fun c3=>?_)
   ·try simp only [I] at c3
    refine B O<|F O<|H<|U<|M O ?_
    exact congrArg vB (form_no2 hp (by rw [qO hx,List.flatMap_cons,List.all_append,List.all_cons,c3];rfl))
   ·try simp only [I] at c3
    refine zJ<|B O<|F O<|H<|zP<|zW ⟨[(4,.c _),(1,.c _),(3,.c _)],[_]⟩ (Weak.mk [true] ⟨G,G,G,T⟩ O)<|qJ 1 0 O O (Nat) (fun j=>[(4,vI j)]) (fun j=>[]) (fun j=>j<=x.At.length/\(x.At.all linOk=(x.At.drop j).all linOk)) (fun j=>x.At.length-j) ⟨0,⟨by omega,O⟩,Weak.mk [true] ⟨G,G,G,T⟩ O⟩ ?_
    rintro j ⟨hj,hq⟩
    refine W<|B O<|F O<|zH O kF<|zL wQ (K 0 O) O<|F O<|qH O s (by omega) (X (by assumption))<|zX O (qM O zAk O)<|zL zBf qB O<|zZ O t<|yD O<|H<|g O (fun c4=>?_) (fun c4=>?_)
    ·try simp only [I] at c4
     obtain ⟨l,hl⟩:=qQ x.At j (by omega)
     have hlw:=zBi (qD hl)
     refine zJ<|W<|zP<|B O<|zH O kF<|zL wQ (K 0 O) O<|F O<|qH O s (by omega) (X (by assumption))<|zX O (qM O zAk O)<|zL zBf qB O<|F O<|qH O t (by omega) (X (by assumption))<|zK kQ qB O<|qK O ok115 (zFa l (by omega)) ⟨G,O,T⟩<|wP O<|H<|g O (fun c5=>?_) (fun c5=>?_)
     ·try simp only [I] at c5
      refine B O<|F O<|H<|U<|M O ?_
      exact congrArg vB (form_no2 hp (by rw [qO hx,List.flatMap_cons,List.all_append,List.all_cons,all_no hl (p:=linOk) c5];simp))
     ·try simp only [I] at c5
      refine zJ<|zU O<|F O<|qL O ⟨by omega,by omega⟩<|F O<|H ?_
      refine ⟨j+1,⟨by omega,zMc hl hq c5⟩,(by omega),Weak.mk [true] ⟨G,G,G,T⟩ O⟩
    ·try simp only [I] at c4
     refine qN<|zU O<|F O<|qL O ⟨by omega,by omega⟩<|F O<|H ?_
     refine ⟨k+1,⟨by omega,(by rw [hp,qO hx,List.flatMap_cons,List.all_append,List.all_cons,c3,all_end hq (by omega)];rfl)⟩,(by omega),Weak.mk [true] ⟨G,G,T⟩ O⟩
  ·try simp only [I] at c2
   refine qN<|B O<|F O<|H<|U<|M O ?_
   exact congrArg vB (form_yes c1 (by rw [hp,kC (by omega)];rfl))
theorem zNb (e:Ex) (ih:∀a,a∈e.Args->a.wt<=6000000000000->Pur cfg 100 [vE a] (vI (partE a))) (he:e.wt<=6000000000000):
    Pur cfg 100 [vE e] (vI (partE e)):=by
 refine zT Tryz.func100 O Tryz.ntmps100 Tryz.results100 O ?_
 intro z hz
 obtain ⟨hL,hI,hA⟩:=e.parts he
 refine B O<|zV O O (qI O O) ?_
 rintro _ _ ⟨b1,rfl,rfl⟩
 refine F O<|H<|W<|zP<|B O<|zK Q (K 0 O) O<|qK O ok171 (ref14_plain e he) ⟨G,O,T⟩<|wP O<|F O<|H<|g O (fun c1=>?_) (fun c1=>?_)
 ·try simp only [I] at c1
  refine B O<|F O<|H<|U<|M O ?_
  exact congrArg vI (by rw [zDj,show nodeErr e=5 by simp only [nodeErr,c1];rfl];rfl)
 ·try simp only [I] at c1
  refine B O<|zK Q (K 0 O) O<|qK O ok172 (ref14_named e he) ⟨G,O,T⟩<|wP O<|F O<|H<|g O (fun c2=>?_) (fun c2=>?_)
  ·try simp only [I] at c2
   refine B O<|F O<|H<|U<|M O ?_
   exact congrArg vI (by rw [zDj,show nodeErr e=7 by simp only [nodeErr,c1,c2];rfl];rfl)
  ·try simp only [I] at c2
   refine B O<|zK Q (K 0 O) O<|qK O ok173 (ref14_ranked e he) ⟨G,O,T⟩<|wP O<|F O<|H<|g O (fun c3=>?_) (fun c3=>?_)
   ·try simp only [I] at c3
    refine B O<|F O<|H<|U<|M O ?_
    exact congrArg vI (by rw [zDj,show nodeErr e=11 by simp only [nodeErr,c1,c2,c3];rfl];rfl)
   ·try simp only [I] at c3
    refine B O<|zK Q (K 0 O) O<|qK O ok174 (ref14_typed e he) ⟨G,O,T⟩<|wP O<|F O<|H<|g O (fun c4=>?_) (fun c4=>?_)
    ·try simp only [I] at c4
     refine B O<|F O<|H<|U<|M O ?_
     exact congrArg vI (by rw [zDj,show nodeErr e=10 by simp only [nodeErr,c1,c2,c3,c4];rfl];rfl)
    ·try simp only [I] at c4
     refine B O<|zK Q (K 0 O) O<|qK O ok175 (ref14_formed e he (types_ty c4)) ⟨G,O,T⟩<|wP O<|F O<|H<|g O (fun c5=>?_) (fun c5=>?_)
     ·try simp only [I] at c5
      refine B O<|F O<|H<|U<|M O ?_
      exact congrArg vI (by rw [zDj,show nodeErr e=1 by simp only [nodeErr,c1,c2,c3,c4,c5];rfl];rfl)
     ·try simp only [I] at c5
      have hn:nodeErr e=0:=by simp only [nodeErr,c1,c2,c3,c4,c5];rfl
      refine zJ<|W<|B O<|F O<|H<|zP<|zW ⟨[(3,.c _),(1,.c _)],[_]⟩ (Weak.mk [true] ⟨G,G,T⟩ O)<|qJ 1 0 O O (Nat) (fun k=>[(3,vI k)]) (fun k=>[]) (fun k=>k<=e.Args.length/\(partL e.Args=partL (e.Args.drop k))) (fun k=>e.Args.length-k) ⟨0,⟨by omega,O⟩,Weak.mk [true] ⟨G,G,T⟩ O⟩ ?_
      rintro k ⟨hk,hp⟩
      refine W<|B O<|F O<|zH O kA<|zL wA (K 0 O) O<|zZ O A<|yD O<|H<|g O (fun c6=>?_) (fun c6=>?_)
      ·try simp only [I] at c6
       obtain ⟨a,ha⟩:=qQ e.Args k (by omega)
       refine zJ<|W<|zP<|B O<|zH O kA<|zL wA (K 0 O) O<|F O<|qH O A (by omega) (yR (by assumption))<|zK Q qB O<|qK O ok100 (ih a (qD ha) (by have:=Ex.arg_wt (qD ha);omega)) ⟨G,O,T⟩<|F O<|H<|B O<|F O<|yU O<|H<|g O (fun c7=>?_) (fun c7=>?_)
       ·try simp only [I] at c7
        refine B O<|F O<|F O<|H<|U<|M O ?_
        exact congrArg vI (by rw [zDj e,hn,wD rfl,cond_true,hp,qO ha,zJw,yJ c7];rfl)
       ·try simp only [I] at c7
        refine zJ<|zU O<|F O<|qL O ⟨by omega,by omega⟩<|F O<|H ?_
        refine ⟨k+1,⟨by omega,(by rw [hp,qO ha,zJw,wD c7];rfl)⟩,(by omega),Weak.mk [true] ⟨G,G,T⟩ O⟩
      ·try simp only [I] at c6
       refine qN<|B O<|F O<|H<|U<|M O ?_
       exact congrArg vI (by rw [zDj,hn,wD rfl,cond_true,hp,kC (by omega)];rfl)
theorem ref14_part (e:Ex) (he:e.wt<=6000000000000):Pur cfg 100 [vE e] (vI (partE e)):=by
  induction e using Ex.ind with
  |_ e ih=>exact zNb e ih he
theorem zGb (n:Nat) (ih:n≠0->∀(a:Ex) (l:Int),a.wt<=6000000000000->l=n->Pur cfg 156 [vE a,vI l] (vI (depT (n-1) a))) (hn:n<=100) (e:Ex) (l:Int) (he:e.wt<=6000000000000) (hl:l=n+1):
    Pur cfg 156 [vE e,vI l] (vI (depT n e)):=by
 refine zT Tryz.func156 O Tryz.ntmps156 Tryz.results156 O ?_
 intro z hz
 obtain ⟨hL,hI,hA⟩:=e.parts he
 refine B O<|zV O O (qI O O) ?_
 rintro _ _ ⟨b1,rfl,rfl⟩
 refine F O<|H<|W<|B O<|F O<|zX O (kS O O O)<|H<|g O (fun c1=>?_) (fun c1=>?_)
 ·try simp only [I] at c1
  obtain rfl:n=0:=by omega
  refine B O<|F O<|F O<|H<|U<|M O ?_
  exact congrArg vI (by rw [hl];rfl)
 ·try simp only [I] at c1
  obtain ⟨m,rfl⟩:∃m,n=m+1:=⟨n-1,by omega⟩
  refine zJ<|B O<|F O<|H<|W<|B O<|zH O kA<|zL wA (K 0 O) O<|zZ O A<|F O<|H<|zP<|zW ⟨[(14,.c _),(5,.c _),(1,.c _),(12,.c _),(13,.c _)],[]⟩ (Weak.mk [false] ⟨G,G,G,G,G,T⟩ O)<|qJ 2 0 O O (Nat×Int) (fun ⟨k,d⟩=>[(14,vI k),(5,vI d)]) (fun ⟨k,d⟩=>[]) (fun ⟨k,d⟩=>k<=e.Args.length/\(1<=d)/\(d<=m+2)/\(depT (m+1) e=depF (depT m) d (e.Args.drop k))) (fun ⟨k,d⟩=>e.Args.length-k) ⟨⟨0,1⟩,⟨by omega,by omega,by omega,O⟩,Weak.mk [] ⟨G,VLe.of_eq (O),G,G,G,T⟩ O⟩ ?_
  rintro ⟨k,d⟩ ⟨hk,hd1,hd2,hd3⟩
  show AWP _ _ _ _ _ ⟨[(14,vI k),(5,vI d)]++_,[]++_⟩
  refine B O<|yD O<|H<|W<|g O (fun c2=>?_) (fun c2=>?_)
  ·try simp only [I] at c2
   obtain ⟨a,ha⟩:=qQ e.Args k (by omega)
   have hda:=depT_le m a
   refine zJ<|W<|zP<|B O<|qH O A (by omega) (yR (by assumption))<|zK Q qB O<|zV O O (qG [none,none,none,none,none,none,none,none,none,none,some 2,some 4,some 13] O u O) ?_
   rintro _ _ ⟨b2,rfl,rfl⟩
   refine N 0 D O<|H<|zU O<|F O<|zK Q (K 0 O) O<|F O<|zX O (zAb O O O ⟨by omega,by omega⟩)<|qK O ok156 (show Pur cfg 156 [vE a,vI (l-1)] (vI (depT m a)) from ih (by omega) a _ (by have:=Ex.arg_wt (qD ha);omega) (by omega)) ⟨G,O,G,O,T⟩<|qL O ⟨by omega,by omega⟩<|zX O (det_max O O O)<|F O<|H<|zU O<|qL O ⟨by omega,by omega⟩<|F O<|H ?_
   refine ⟨⟨k+1,max d (1+depT m a)⟩,⟨by omega,by omega,by omega,by rw [hd3,qO ha,depF]⟩,(by show e.Args.length-(k+1)<e.Args.length-k;omega),Weak.mk [false] ⟨G,G,G,G,G,T⟩ O⟩
  ·try simp only [I] at c2
   refine qN<|B O<|F O<|F O<|H<|U<|M O ?_
   exact congrArg vI (by rw [hd3,kC (by omega)];rfl)
theorem expr_depth (n:Nat) (e:Ex) (l:Int) (hn:n<=100) (he:e.wt<=6000000000000) (hl:l=n+1):Pur cfg 156 [vE e,vI l] (vI (depT n e)):=by
  induction n generalizing e l with
  |zero=>exact zGb 0 (fun h=>absurd rfl h) hn e l he hl
  |succ n ih=>exact zGb (n+1) (fun _ a l h1 h2=>ih a l (by omega) h1 (by omega)) hn e l he hl
theorem zFc (n:Nat) (ih:n≠0->∀(a:Ex) (l:Int),a.wt<=6000000000000->l=n->Pur cfg 169 [vE a,vI l] (vI (depT (n-1) a))) (hn:n<=100) (e:Ex) (l:Int) (he:e.wt<=6000000000000) (hl:l=n+1):
    Pur cfg 169 [vE e,vI l] (vI (depT n e)):=by
 refine zT Tryz.func169 O Tryz.ntmps169 Tryz.results169 O ?_
 intro z hz
 obtain ⟨hL,hI,hA⟩:=e.parts he
 refine B O<|zV O O (qI O O) ?_
 rintro _ _ ⟨b1,rfl,rfl⟩
 refine F O<|H<|B O<|F O<|H<|W<|B O<|F O<|H<|zP<|zW ⟨[(6,.c _),(5,.c _),(1,.c _),(2,.c _)],[_]⟩ (Weak.mk [true] ⟨G,G,G,G,T⟩ O)<|qJ 2 0 O O (Nat×Int) (fun ⟨k,d⟩=>[(6,vI k),(5,vI d)]) (fun ⟨k,d⟩=>[]) (fun ⟨k,d⟩=>k<=e.Args.length/\(1<=d)/\(d<=n+1)/\(n≠0->depT n e=depF (depT (n-1)) d (e.Args.drop k))/\(n=0->d=1)) (fun ⟨k,d⟩=>e.Args.length-k) ⟨⟨0,1⟩,⟨by omega,by omega,by omega,fun h0=>dep_start h0,fun _=>O⟩,Weak.mk [true] ⟨G,VLe.of_eq (O),G,G,T⟩ O⟩ ?_
 rintro ⟨k,d⟩ ⟨hk,hd1,hd2,hd3,hd4⟩
 show AWP _ _ _ _ _ ⟨[(6,vI k),(5,vI d)]++_,[]++_⟩
 refine W<|B O<|F O<|zH O kA<|zL wA (K 0 O) O<|zZ O A<|yD O<|F O<|w O (fun g3_5=>zQ O O) O<|R 13 O (fun g3_5=>yM O O O) O<|yY O (fun h=>h)<|H<|g O (fun c1=>?_) (fun c1=>?_)
 ·try simp only [I] at c1
  obtain ⟨a,ha⟩:=qQ e.Args k (by omega)
  have hda:=depT_le (n-1) a
  refine zJ<|W<|zP<|zU O<|F O<|zH O kA<|zL wA (K 0 O) O<|F O<|qH O A (by omega) (yR (by assumption))<|zK Q qB O<|F O<|zX O (zAb O O O ⟨by omega,by omega⟩)<|qK O ok169 (ih (by omega) a _ (by have:=Ex.arg_wt (qD ha);omega) (by omega)) ⟨G,O,G,O,T⟩<|qL O ⟨by omega,by omega⟩<|zX O (det_max O O O)<|F O<|H<|zU O<|F O<|qL O ⟨by omega,by omega⟩<|F O<|H ?_
  refine ⟨⟨k+1,max d (1+depT (n-1) a)⟩,⟨by omega,by omega,by omega,fun h0=>by rw [hd3 h0,qO ha,depF],fun h0=>by omega⟩,(by show e.Args.length-(k+1)<e.Args.length-k;omega),Weak.mk [true] ⟨G,G,G,G,T⟩ O⟩
 ·try simp only [I] at c1
  refine qN<|B O<|F O<|F O<|H<|U<|M O ?_
  exact congrArg vI (dep_end hl (by omega) hd3 hd4)
theorem ref14_depth (n:Nat) (e:Ex) (l:Int) (hn:n<=100) (he:e.wt<=6000000000000) (hl:l=n+1):Pur cfg 169 [vE e,vI l] (vI (depT n e)):=by
  induction n generalizing e l with
  |zero=>exact zFc 0 (fun h=>absurd rfl h) hn e l he hl
  |succ n ih=>exact zFc (n+1) (fun _ a l h1 h2=>ih a l (by omega) h1 (by omega)) hn e l he hl
theorem expr_Depth (e:Ex) (he:e.wt<=6000000000000):
    Pur cfg 81 [vE e] (vI (depT 40 e)):=by
 refine zT Tryz.func81 O Tryz.ntmps81 Tryz.results81 O ?_
 intro z hz
 refine B O<|zV O O (qI O O) ?_
 rintro _ _ ⟨b1,rfl,rfl⟩
 refine F O<|H<|B O<|zK Q (K 0 O) O<|qK O ok156 (expr_depth 40 e 41 (by omega) he (by omega)) ⟨G,O,G,O,T⟩<|F O<|H<|U<|M O ?_
 exact O
theorem ref14_Depth (e:Ex) (he:e.wt<=6000000000000):
    Pur cfg 98 [vE e] (vI (depT 40 e)):=by
 refine zT Tryz.func98 O Tryz.ntmps98 Tryz.results98 O ?_
 intro z hz
 refine B O<|zV O O (qI O O) ?_
 rintro _ _ ⟨b1,rfl,rfl⟩
 refine F O<|H<|B O<|zK Q (K 0 O) O<|qK O ok169 (ref14_depth 40 e 41 (by omega) he (by omega)) ⟨G,O,G,O,T⟩<|F O<|H<|U<|M O ?_
 exact O
theorem zNa (e:Ex) (ih:∀a,a∈e.Args->∀(m:Nat) (l:Int),a.wt<=6000000000000->m<=1000000->l=m->Pur cfg 170 [vE a,vI l] (vI (sizE a m))) (m:Nat) (l:Int) (he:e.wt<=6000000000000) (hm:m<=1000000) (hl:l=m):
    Pur cfg 170 [vE e,vI l] (vI (sizE e m)):=by
 refine zT Tryz.func170 O Tryz.ntmps170 Tryz.results170 O ?_
 intro z hz
 obtain ⟨hL,hI,hA⟩:=e.parts he
 refine B O<|zV O O (qI O O) ?_
 rintro _ _ ⟨b1,rfl,rfl⟩
 refine F O<|H<|B O<|F O<|H<|W<|B O<|F O<|H<|zP<|zW ⟨[(6,.c _),(5,.c _),(1,.c _),(2,.c _)],[_]⟩ (Weak.mk [true] ⟨G,G,G,G,T⟩ O)<|qJ 2 0 O O (Nat×Nat) (fun ⟨k,n⟩=>[(6,vI k),(5,vI n)]) (fun ⟨k,n⟩=>[]) (fun ⟨k,n⟩=>k<=e.Args.length/\(n<=m+1)/\(sizE e m=sizL (e.Args.drop k) m n)) (fun ⟨k,n⟩=>e.Args.length-k) ⟨⟨0,1⟩,⟨by omega,by omega,sizE_eq e m⟩,Weak.mk [true] ⟨G,VLe.of_eq (O),G,G,T⟩ O⟩ ?_
 rintro ⟨k,n⟩ ⟨hk,hn1,hn2⟩
 show AWP _ _ _ _ _ ⟨[(6,vI k),(5,vI n)]++_,[]++_⟩
 refine W<|B O<|F O<|zH O kA<|zL wA (K 0 O) O<|zZ O A<|yD O<|F O<|w O (fun g3_5=>zQ O O) O<|w O (fun g3_5=>zQ O O) O<|rLz [(13,_),(14,_)] O J ⟨O,O,O,O,T⟩ (fun g3_5=>kS O O O) O<|yY O (fun h=>h)<|H<|g O (fun c1=>?_) (fun c1=>?_)
 ·try simp only [I] at c1
  obtain ⟨a,ha⟩:=qQ e.Args k (by omega)
  have hsa:=sizE_min a (m-n)
  refine zJ<|W<|zP<|zU O<|F O<|zH O kA<|zL wA (K 0 O) O<|F O<|qH O A (by omega) (yR (by assumption))<|zK Q qB O<|F O<|F O<|zX O (zAb O O O ⟨by omega,by omega⟩)<|qK O ok170 (ih a (qD ha) (m-n) _ (by have:=Ex.arg_wt (qD ha);omega) (by omega) (by omega)) ⟨G,O,G,O,T⟩<|qL O ⟨by omega,by omega⟩<|F O<|H<|zU O<|F O<|qL O ⟨by omega,by omega⟩<|F O<|H ?_
  refine ⟨⟨k+1,n+sizE a (m-n)⟩,⟨by omega,by omega,by rw [hn2,qO ha,sizL,if_pos (by omega)]⟩,(by show e.Args.length-(k+1)<e.Args.length-k;omega),Weak.mk [true] ⟨G,VLe.of_eq (congrArg vI (by omega)),G,G,T⟩ O⟩
 ·try simp only [I] at c1
  refine qN<|B O<|F O<|F O<|H<|U<|M O ?_
  exact congrArg vI (by rw [hn2];exact congrArg Nat.cast (siz_end hl (by omega)))
theorem ref14_size (e:Ex) (m:Nat) (l:Int) (he:e.wt<=6000000000000) (hm:m<=1000000) (hl:l=m):Pur cfg 170 [vE e,vI l] (vI (sizE e m)):=by
  induction e using Ex.ind generalizing m l with
  |_ e ih=>exact zNa e (fun a ha m l h1 h2 h3=>ih a ha m l h1 h2 h3) m l he hm hl
theorem ref14_Size (e:Ex) (he:e.wt<=6000000000000):
    Pur cfg 99 [vE e] (vI (szT e)):=by
 refine zT Tryz.func99 O Tryz.ntmps99 Tryz.results99 O ?_
 intro z hz
 refine B O<|zV O O (qI O O) ?_
 rintro _ _ ⟨b1,rfl,rfl⟩
 refine F O<|H<|B O<|zK Q (K 0 O) O<|qK O ok170 (ref14_size e 2000 2000 he (by omega) O) ⟨G,O,G,O,T⟩<|zX O (det_min O O O)<|F O<|H<|U<|M O ?_
 exact congrArg vI (by rw [sizE_min,szT];omega)
theorem zHc (e:Ex) (he:e.wt<=6000000000000):
    Pur cfg 37 [vE e] (vI (validE e)):=by
 refine zT Tryz.func37 O Tryz.ntmps37 Tryz.results37 O ?_
 intro z hz
 refine B O<|zV O O (qI O O) ?_
 rintro _ _ ⟨b1,rfl,rfl⟩
 refine F O<|H<|W<|B O<|zK Q (K 0 O) O<|qK O ok98 (ref14_Depth e he) ⟨G,O,T⟩<|zX O (yM O O O)<|H<|g O (fun c1=>?_) (fun c1=>?_)
 ·try simp only [I] at c1
  refine B O<|F O<|H<|U<|M O ?_
  rw [validE,wD c1];rfl
 ·try simp only [I] at c1
  refine zJ<|W<|B O<|zK Q (K 0 O) O<|qK O ok99 (ref14_Size e he) ⟨G,O,T⟩<|zX O (yM O O O)<|H<|g O (fun c2=>?_) (fun c2=>?_)
  ·try simp only [I] at c2
   refine B O<|F O<|H<|U<|M O ?_
   rw [validE,yJ (by omega),wD c2];rfl
  ·try simp only [I] at c2
   refine zJ<|B O<|zK Q (K 0 O) O<|qK O ok100 (ref14_part e he) ⟨G,O,T⟩<|F O<|H<|U<|M O ?_
   rw [validE,yJ (by omega),yJ (by omega)];rfl
end Go.W
