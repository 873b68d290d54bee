/-
  Walks: what functions of the program compute. Printed by wip/gen/mk2.py.
  Conditions: none.
-/
import Derived.Test.YtkijgodlhljgdaaGreatDoorWB
set_option linter.unusedSimpArgs false
set_option linter.unusedVariables false
set_option maxRecDepth 10000
namespace Go.W
open Go Go.Eng Go.Proofs Go.L41 Go.Br
attribute [local irreducible] AWP RWP TD finQ
theorem qH:aggT Tryz.prog 38=some 13:=by kernel_rfl
theorem A:elemT Tryz.prog 36=some (38,13,160):=by kernel_rfl
theorem el63:elemT Tryz.prog 63=some (34,2,32):=by kernel_rfl
theorem yT:fieldT Tryz.prog 38 0=some (0,3):=by kernel_rfl
theorem zBm:fieldT Tryz.prog 38 1=some (1,9):=by kernel_rfl
theorem zIa:fieldT Tryz.prog 38 2=some (2,29):=by kernel_rfl
theorem zCz:fieldT Tryz.prog 38 3=some (4,31):=by kernel_rfl
theorem zDy:fieldT Tryz.prog 38 4=some (9,34):=by kernel_rfl
theorem kL:fieldT Tryz.prog 38 5=some (11,35):=by kernel_rfl
theorem kF:fieldT Tryz.prog 38 6=some (12,36):=by kernel_rfl
theorem zDw:fieldT Tryz.prog 67 0=some (0,34):=by kernel_rfl
theorem zDv:fieldT Tryz.prog 67 1=some (2,9):=by kernel_rfl
theorem zAw:fieldT Tryz.prog 67 2=some (3,63):=by kernel_rfl
theorem fl29:flatK Tryz.prog 29=some [.int,.int]:=by kernel_rfl
theorem ok65:callOk Tryz.prog 65=true:=by kernel_rfl
theorem ok87:callOk Tryz.prog 87=true:=by kernel_rfl
theorem ok98:callOk Tryz.prog 98=true:=by kernel_rfl
theorem ok99:callOk Tryz.prog 99=true:=by kernel_rfl
theorem ok100:callOk Tryz.prog 100=true:=by kernel_rfl
theorem ok115:callOk Tryz.prog 115=true:=by kernel_rfl
theorem ok156:callOk Tryz.prog 156=true:=by kernel_rfl
theorem ok169:callOk Tryz.prog 169=true:=by kernel_rfl
theorem ok170:callOk Tryz.prog 170=true:=by kernel_rfl
theorem ok171:callOk Tryz.prog 171=true:=by kernel_rfl
theorem ok172:callOk Tryz.prog 172=true:=by kernel_rfl
theorem ok173:callOk Tryz.prog 173=true:=by kernel_rfl
theorem ok174:callOk Tryz.prog 174=true:=by kernel_rfl
theorem ok175:callOk Tryz.prog 175=true:=by kernel_rfl
theorem ok176:callOk Tryz.prog 176=true:=by kernel_rfl
theorem ok207:callOk Tryz.prog 207=true:=by kernel_rfl
theorem ok208:callOk Tryz.prog 208=true:=by kernel_rfl
theorem ok209:callOk Tryz.prog 209=true:=by kernel_rfl
theorem ok210:callOk Tryz.prog 210=true:=by kernel_rfl
theorem ok211:callOk Tryz.prog 211=true:=by kernel_rfl
theorem ok212:callOk Tryz.prog 212=true:=by kernel_rfl
theorem ok213:callOk Tryz.prog 213=true:=by kernel_rfl
theorem ok215:callOk Tryz.prog 215=true:=by kernel_rfl
theorem ok219:callOk Tryz.prog 219=true:=by kernel_rfl
theorem ok220:callOk Tryz.prog 220=true:=by kernel_rfl
theorem ok221:callOk Tryz.prog 221=true:=by kernel_rfl
theorem wX:oneT Tryz.prog 35=true:=by kernel_rfl
theorem wJ:oneT Tryz.prog 36=true:=by kernel_rfl
theorem zAv:oneT Tryz.prog 63=true:=by kernel_rfl
theorem v:(Tryz.prog.info? 38).map (·.size)=some 13:=by kernel_rfl
theorem sz67:(Tryz.prog.info? 67).map (·.size)=some 4:=by kernel_rfl
theorem un4:Tryz.prog.underlying 4=some .bool:=by kernel_rfl
theorem zr38:zeroT Tryz.prog 38=some [(Value.int IntKind.i64 0),(Value.string (ByteArray.mk #[])),(Value.int IntKind.i64 0),(Value.int IntKind.i64 0),(Value.int IntKind.i64 0),(Value.int IntKind.i64 0),(Value.int IntKind.i64 0),(Value.int IntKind.i64 0),(Value.int IntKind.i64 0),(Value.int IntKind.i64 0),(Value.slice none 0 0),(Value.slice none 0 0),(Value.slice none 0 0)]:=by kernel_rfl
theorem zr67:zeroT Tryz.prog 67=some [(Value.int IntKind.i64 0),(Value.slice none 0 0),(Value.string (ByteArray.mk #[])),(Value.slice none 0 0)]:=by kernel_rfl
theorem expr_operands (op:Int):
    Pur cfg 212 [vI op] (vI (nArgs op)):=by
 refine zV Tryz.func212 O Tryz.ntmps212 Tryz.results212 O ?_
 intro z hz
 refine B O<|F O<|H<|U<|B O<|F O<|H<|zP<|U<|B O<|qX O<|F O<|H<|g O (fun c1=>?_) (fun c1=>?_)
 ·try simp only [I] at c1
  refine zJ<|g O (fun c3=>?_) (fun c3=>?_)
  ·try simp only [I] at c3
   refine B O<|F O<|H<|W<|R O ?_
   exact congrArg vI (by unfold nArgs;(repeat' split)<;>omega)
  ·try simp only [I] at c3
   refine U<|B O<|qX O<|F O<|H<|g O (fun c4=>?_) (fun c4=>?_)
   ·try simp only [I] at c4
    refine zJ<|g O (fun c6=>?_) (fun c6=>?_)
    ·try simp only [I] at c6
     refine B O<|F O<|H<|W<|R O ?_
     exact congrArg vI (by unfold nArgs;(repeat' split)<;>omega)
    ·try simp only [I] at c6
     refine B O<|qX O<|F O<|H<|g O (fun c7=>?_) (fun c7=>?_)
     ·try simp only [I] at c7
      refine B O<|F O<|H<|W<|R O ?_
      exact congrArg vI (by unfold nArgs;(repeat' split)<;>omega)
     ·try simp only [I] at c7
      refine zJ<|B O<|F O<|H<|W<|R O ?_
      exact congrArg vI (by unfold nArgs;(repeat' split)<;>omega)
   ·try simp only [I] at c4
    refine B O<|qX O<|F O<|H<|g O (fun c5=>?_) (fun c5=>?_)
    ·try simp only [I] at c5
     refine zJ<|g O (fun c6=>?_) (fun c6=>?_)
     ·try simp only [I] at c6
      refine B O<|F O<|H<|W<|R O ?_
      exact congrArg vI (by unfold nArgs;(repeat' split)<;>omega)
     ·try simp only [I] at c6
      refine B O<|qX O<|F O<|H<|g O (fun c7=>?_) (fun c7=>?_)
      ·try simp only [I] at c7
       refine B O<|F O<|H<|W<|R O ?_
       exact congrArg vI (by unfold nArgs;(repeat' split)<;>omega)
      ·try simp only [I] at c7
       refine zJ<|B O<|F O<|H<|W<|R O ?_
       exact congrArg vI (by unfold nArgs;(repeat' split)<;>omega)
    ·try simp only [I] at c5
     refine zU O<|qX O<|F O<|H<|g O (fun c6=>?_) (fun c6=>?_)
     ·try simp only [I] at c6
      refine B O<|F O<|H<|W<|R O ?_
      exact congrArg vI (by unfold nArgs;(repeat' split)<;>omega)
     ·try simp only [I] at c6
      refine B O<|qX O<|F O<|H<|g O (fun c7=>?_) (fun c7=>?_)
      ·try simp only [I] at c7
       refine B O<|F O<|H<|W<|R O ?_
       exact congrArg vI (by unfold nArgs;(repeat' split)<;>omega)
      ·try simp only [I] at c7
       refine zJ<|B O<|F O<|H<|W<|R O ?_
       exact congrArg vI (by unfold nArgs;(repeat' split)<;>omega)
 ·try simp only [I] at c1
  refine B O<|qX O<|F O<|H<|g O (fun c2=>?_) (fun c2=>?_)
  ·try simp only [I] at c2
   refine zJ<|g O (fun c3=>?_) (fun c3=>?_)
   ·try simp only [I] at c3
    refine B O<|F O<|H<|W<|R O ?_
    exact congrArg vI (by unfold nArgs;(repeat' split)<;>omega)
   ·try simp only [I] at c3
    refine U<|B O<|qX O<|F O<|H<|g O (fun c4=>?_) (fun c4=>?_)
    ·try simp only [I] at c4
     refine zJ<|g O (fun c6=>?_) (fun c6=>?_)
     ·try simp only [I] at c6
      refine B O<|F O<|H<|W<|R O ?_
      exact congrArg vI (by unfold nArgs;(repeat' split)<;>omega)
     ·try simp only [I] at c6
      refine B O<|qX O<|F O<|H<|g O (fun c7=>?_) (fun c7=>?_)
      ·try simp only [I] at c7
       refine B O<|F O<|H<|W<|R O ?_
       exact congrArg vI (by unfold nArgs;(repeat' split)<;>omega)
      ·try simp only [I] at c7
       refine zJ<|B O<|F O<|H<|W<|R O ?_
       exact congrArg vI (by unfold nArgs;(repeat' split)<;>omega)
    ·try simp only [I] at c4
     refine B O<|qX O<|F O<|H<|g O (fun c5=>?_) (fun c5=>?_)
     ·try simp only [I] at c5
      refine zJ<|g O (fun c6=>?_) (fun c6=>?_)
      ·try simp only [I] at c6
       refine B O<|F O<|H<|W<|R O ?_
       exact congrArg vI (by unfold nArgs;(repeat' split)<;>omega)
      ·try simp only [I] at c6
       refine B O<|qX O<|F O<|H<|g O (fun c7=>?_) (fun c7=>?_)
       ·try simp only [I] at c7
        refine B O<|F O<|H<|W<|R O ?_
        exact congrArg vI (by unfold nArgs;(repeat' split)<;>omega)
       ·try simp only [I] at c7
        refine zJ<|B O<|F O<|H<|W<|R O ?_
        exact congrArg vI (by unfold nArgs;(repeat' split)<;>omega)
     ·try simp only [I] at c5
      refine zU O<|qX O<|F O<|H<|g O (fun c6=>?_) (fun c6=>?_)
      ·try simp only [I] at c6
       refine B O<|F O<|H<|W<|R O ?_
       exact congrArg vI (by unfold nArgs;(repeat' split)<;>omega)
      ·try simp only [I] at c6
       refine B O<|qX O<|F O<|H<|g O (fun c7=>?_) (fun c7=>?_)
       ·try simp only [I] at c7
        refine B O<|F O<|H<|W<|R O ?_
        exact congrArg vI (by unfold nArgs;(repeat' split)<;>omega)
       ·try simp only [I] at c7
        refine zJ<|B O<|F O<|H<|W<|R O ?_
        exact congrArg vI (by unfold nArgs;(repeat' split)<;>omega)
  ·try simp only [I] at c2
   refine zU O<|qX O<|F O<|H<|g O (fun c3=>?_) (fun c3=>?_)
   ·try simp only [I] at c3
    refine B O<|F O<|H<|W<|R O ?_
    exact congrArg vI (by unfold nArgs;(repeat' split)<;>omega)
   ·try simp only [I] at c3
    refine U<|B O<|qX O<|F O<|H<|g O (fun c4=>?_) (fun c4=>?_)
    ·try simp only [I] at c4
     refine zJ<|g O (fun c6=>?_) (fun c6=>?_)
     ·try simp only [I] at c6
      refine B O<|F O<|H<|W<|R O ?_
      exact congrArg vI (by unfold nArgs;(repeat' split)<;>omega)
     ·try simp only [I] at c6
      refine B O<|qX O<|F O<|H<|g O (fun c7=>?_) (fun c7=>?_)
      ·try simp only [I] at c7
       refine B O<|F O<|H<|W<|R O ?_
       exact congrArg vI (by unfold nArgs;(repeat' split)<;>omega)
      ·try simp only [I] at c7
       refine zJ<|B O<|F O<|H<|W<|R O ?_
       exact congrArg vI (by unfold nArgs;(repeat' split)<;>omega)
    ·try simp only [I] at c4
     refine B O<|qX O<|F O<|H<|g O (fun c5=>?_) (fun c5=>?_)
     ·try simp only [I] at c5
      refine zJ<|g O (fun c6=>?_) (fun c6=>?_)
      ·try simp only [I] at c6
       refine B O<|F O<|H<|W<|R O ?_
       exact congrArg vI (by unfold nArgs;(repeat' split)<;>omega)
      ·try simp only [I] at c6
       refine B O<|qX O<|F O<|H<|g O (fun c7=>?_) (fun c7=>?_)
       ·try simp only [I] at c7
        refine B O<|F O<|H<|W<|R O ?_
        exact congrArg vI (by unfold nArgs;(repeat' split)<;>omega)
       ·try simp only [I] at c7
        refine zJ<|B O<|F O<|H<|W<|R O ?_
        exact congrArg vI (by unfold nArgs;(repeat' split)<;>omega)
     ·try simp only [I] at c5
      refine zU O<|qX O<|F O<|H<|g O (fun c6=>?_) (fun c6=>?_)
      ·try simp only [I] at c6
       refine B O<|F O<|H<|W<|R O ?_
       exact congrArg vI (by unfold nArgs;(repeat' split)<;>omega)
      ·try simp only [I] at c6
       refine B O<|qX O<|F O<|H<|g O (fun c7=>?_) (fun c7=>?_)
       ·try simp only [I] at c7
        refine B O<|F O<|H<|W<|R O ?_
        exact congrArg vI (by unfold nArgs;(repeat' split)<;>omega)
       ·try simp only [I] at c7
        refine zJ<|B O<|F O<|H<|W<|R O ?_
        exact congrArg vI (by unfold nArgs;(repeat' split)<;>omega)
theorem zFx (e:Ex):
    Pur cfg 65 [vE e] (vB (isCond e)):=by
 refine zV Tryz.func65 O Tryz.ntmps65 Tryz.results65 O ?_
 intro z hz
 refine B O<|zW O O (qJ O O) ?_
 rintro _ _ ⟨b1,rfl,rfl⟩
 refine F O<|H<|B O<|zG O yT<|zK w (K 0 O) O<|qB O (wA O O O)<|F O<|u O (fun g1_3=>zD O yT O) O<|J 7 O (fun g1_3=>zF O w O (K 0 O) O) O<|J 8 O (fun g1_3=>wA O O O) O<|yZ O (fun h=>h)<|F O<|H<|W<|R O ?_
 exact O
theorem zLr (op:Int):
    Pur cfg 219 [vI op] (vI (nArgs op)):=by
 refine zV Tryz.func219 O Tryz.ntmps219 Tryz.results219 O ?_
 intro z hz
 refine B O<|F O<|H<|U<|B O<|F O<|H<|zP<|U<|B O<|qX O<|F O<|H<|g O (fun c1=>?_) (fun c1=>?_)
 ·try simp only [I] at c1
  refine zJ<|g O (fun c3=>?_) (fun c3=>?_)
  ·try simp only [I] at c3
   refine B O<|F O<|H<|W<|R O ?_
   exact congrArg vI (by unfold nArgs;(repeat' split)<;>omega)
  ·try simp only [I] at c3
   refine U<|B O<|qX O<|F O<|H<|g O (fun c4=>?_) (fun c4=>?_)
   ·try simp only [I] at c4
    refine zJ<|g O (fun c6=>?_) (fun c6=>?_)
    ·try simp only [I] at c6
     refine B O<|F O<|H<|W<|R O ?_
     exact congrArg vI (by unfold nArgs;(repeat' split)<;>omega)
    ·try simp only [I] at c6
     refine B O<|qX O<|F O<|H<|g O (fun c7=>?_) (fun c7=>?_)
     ·try simp only [I] at c7
      refine B O<|F O<|H<|W<|R O ?_
      exact congrArg vI (by unfold nArgs;(repeat' split)<;>omega)
     ·try simp only [I] at c7
      refine zJ<|B O<|F O<|H<|W<|R O ?_
      exact congrArg vI (by unfold nArgs;(repeat' split)<;>omega)
   ·try simp only [I] at c4
    refine B O<|qX O<|F O<|H<|g O (fun c5=>?_) (fun c5=>?_)
    ·try simp only [I] at c5
     refine zJ<|g O (fun c6=>?_) (fun c6=>?_)
     ·try simp only [I] at c6
      refine B O<|F O<|H<|W<|R O ?_
      exact congrArg vI (by unfold nArgs;(repeat' split)<;>omega)
     ·try simp only [I] at c6
      refine B O<|qX O<|F O<|H<|g O (fun c7=>?_) (fun c7=>?_)
      ·try simp only [I] at c7
       refine B O<|F O<|H<|W<|R O ?_
       exact congrArg vI (by unfold nArgs;(repeat' split)<;>omega)
      ·try simp only [I] at c7
       refine zJ<|B O<|F O<|H<|W<|R O ?_
       exact congrArg vI (by unfold nArgs;(repeat' split)<;>omega)
    ·try simp only [I] at c5
     refine zU O<|qX O<|F O<|H<|g O (fun c6=>?_) (fun c6=>?_)
     ·try simp only [I] at c6
      refine B O<|F O<|H<|W<|R O ?_
      exact congrArg vI (by unfold nArgs;(repeat' split)<;>omega)
     ·try simp only [I] at c6
      refine B O<|qX O<|F O<|H<|g O (fun c7=>?_) (fun c7=>?_)
      ·try simp only [I] at c7
       refine B O<|F O<|H<|W<|R O ?_
       exact congrArg vI (by unfold nArgs;(repeat' split)<;>omega)
      ·try simp only [I] at c7
       refine zJ<|B O<|F O<|H<|W<|R O ?_
       exact congrArg vI (by unfold nArgs;(repeat' split)<;>omega)
 ·try simp only [I] at c1
  refine B O<|qX O<|F O<|H<|g O (fun c2=>?_) (fun c2=>?_)
  ·try simp only [I] at c2
   refine zJ<|g O (fun c3=>?_) (fun c3=>?_)
   ·try simp only [I] at c3
    refine B O<|F O<|H<|W<|R O ?_
    exact congrArg vI (by unfold nArgs;(repeat' split)<;>omega)
   ·try simp only [I] at c3
    refine U<|B O<|qX O<|F O<|H<|g O (fun c4=>?_) (fun c4=>?_)
    ·try simp only [I] at c4
     refine zJ<|g O (fun c6=>?_) (fun c6=>?_)
     ·try simp only [I] at c6
      refine B O<|F O<|H<|W<|R O ?_
      exact congrArg vI (by unfold nArgs;(repeat' split)<;>omega)
     ·try simp only [I] at c6
      refine B O<|qX O<|F O<|H<|g O (fun c7=>?_) (fun c7=>?_)
      ·try simp only [I] at c7
       refine B O<|F O<|H<|W<|R O ?_
       exact congrArg vI (by unfold nArgs;(repeat' split)<;>omega)
      ·try simp only [I] at c7
       refine zJ<|B O<|F O<|H<|W<|R O ?_
       exact congrArg vI (by unfold nArgs;(repeat' split)<;>omega)
    ·try simp only [I] at c4
     refine B O<|qX O<|F O<|H<|g O (fun c5=>?_) (fun c5=>?_)
     ·try simp only [I] at c5
      refine zJ<|g O (fun c6=>?_) (fun c6=>?_)
      ·try simp only [I] at c6
       refine B O<|F O<|H<|W<|R O ?_
       exact congrArg vI (by unfold nArgs;(repeat' split)<;>omega)
      ·try simp only [I] at c6
       refine B O<|qX O<|F O<|H<|g O (fun c7=>?_) (fun c7=>?_)
       ·try simp only [I] at c7
        refine B O<|F O<|H<|W<|R O ?_
        exact congrArg vI (by unfold nArgs;(repeat' split)<;>omega)
       ·try simp only [I] at c7
        refine zJ<|B O<|F O<|H<|W<|R O ?_
        exact congrArg vI (by unfold nArgs;(repeat' split)<;>omega)
     ·try simp only [I] at c5
      refine zU O<|qX O<|F O<|H<|g O (fun c6=>?_) (fun c6=>?_)
      ·try simp only [I] at c6
       refine B O<|F O<|H<|W<|R O ?_
       exact congrArg vI (by unfold nArgs;(repeat' split)<;>omega)
      ·try simp only [I] at c6
       refine B O<|qX O<|F O<|H<|g O (fun c7=>?_) (fun c7=>?_)
       ·try simp only [I] at c7
        refine B O<|F O<|H<|W<|R O ?_
        exact congrArg vI (by unfold nArgs;(repeat' split)<;>omega)
       ·try simp only [I] at c7
        refine zJ<|B O<|F O<|H<|W<|R O ?_
        exact congrArg vI (by unfold nArgs;(repeat' split)<;>omega)
  ·try simp only [I] at c2
   refine zU O<|qX O<|F O<|H<|g O (fun c3=>?_) (fun c3=>?_)
   ·try simp only [I] at c3
    refine B O<|F O<|H<|W<|R O ?_
    exact congrArg vI (by unfold nArgs;(repeat' split)<;>omega)
   ·try simp only [I] at c3
    refine U<|B O<|qX O<|F O<|H<|g O (fun c4=>?_) (fun c4=>?_)
    ·try simp only [I] at c4
     refine zJ<|g O (fun c6=>?_) (fun c6=>?_)
     ·try simp only [I] at c6
      refine B O<|F O<|H<|W<|R O ?_
      exact congrArg vI (by unfold nArgs;(repeat' split)<;>omega)
     ·try simp only [I] at c6
      refine B O<|qX O<|F O<|H<|g O (fun c7=>?_) (fun c7=>?_)
      ·try simp only [I] at c7
       refine B O<|F O<|H<|W<|R O ?_
       exact congrArg vI (by unfold nArgs;(repeat' split)<;>omega)
      ·try simp only [I] at c7
       refine zJ<|B O<|F O<|H<|W<|R O ?_
       exact congrArg vI (by unfold nArgs;(repeat' split)<;>omega)
    ·try simp only [I] at c4
     refine B O<|qX O<|F O<|H<|g O (fun c5=>?_) (fun c5=>?_)
     ·try simp only [I] at c5
      refine zJ<|g O (fun c6=>?_) (fun c6=>?_)
      ·try simp only [I] at c6
       refine B O<|F O<|H<|W<|R O ?_
       exact congrArg vI (by unfold nArgs;(repeat' split)<;>omega)
      ·try simp only [I] at c6
       refine B O<|qX O<|F O<|H<|g O (fun c7=>?_) (fun c7=>?_)
       ·try simp only [I] at c7
        refine B O<|F O<|H<|W<|R O ?_
        exact congrArg vI (by unfold nArgs;(repeat' split)<;>omega)
       ·try simp only [I] at c7
        refine zJ<|B O<|F O<|H<|W<|R O ?_
        exact congrArg vI (by unfold nArgs;(repeat' split)<;>omega)
     ·try simp only [I] at c5
      refine zU O<|qX O<|F O<|H<|g O (fun c6=>?_) (fun c6=>?_)
      ·try simp only [I] at c6
       refine B O<|F O<|H<|W<|R O ?_
       exact congrArg vI (by unfold nArgs;(repeat' split)<;>omega)
      ·try simp only [I] at c6
       refine B O<|qX O<|F O<|H<|g O (fun c7=>?_) (fun c7=>?_)
       ·try simp only [I] at c7
        refine B O<|F O<|H<|W<|R O ?_
        exact congrArg vI (by unfold nArgs;(repeat' split)<;>omega)
       ·try simp only [I] at c7
        refine zJ<|B O<|F O<|H<|W<|R O ?_
        exact congrArg vI (by unfold nArgs;(repeat' split)<;>omega)
theorem zCa (e:Ex):
    Pur cfg 87 [vE e] (vB (isCond e)):=by
 refine zV Tryz.func87 O Tryz.ntmps87 Tryz.results87 O ?_
 intro z hz
 refine B O<|zW O O (qJ O O) ?_
 rintro _ _ ⟨b1,rfl,rfl⟩
 refine F O<|H<|B O<|zG O yT<|zK w (K 0 O) O<|qB O (wL O O O)<|F O<|u O (fun g1_3=>zD O yT O) O<|J 7 O (fun g1_3=>zF O w O (K 0 O) O) O<|J 8 O (fun g1_3=>wA O O O) O<|yZ O (fun h=>h)<|F O<|H<|W<|R O ?_
 exact O
theorem zGa (op i:Int):
    Pur cfg 215 [vI op,vI i] (vB (wantC op i)):=by
 refine zV Tryz.func215 O Tryz.ntmps215 Tryz.results215 O ?_
 intro z hz
 refine B O<|F O<|H<|U<|B O<|F O<|H<|zP<|U<|B O<|qX O<|F O<|H<|g O (fun c1=>?_) (fun c1=>?_)
 ·try simp only [I] at c1
  refine zJ<|g O (fun c3=>?_) (fun c3=>?_)
  ·try simp only [I] at c3
   refine B O<|F O<|H<|W<|R O ?_
   exact congrArg vB (by unfold wantC;first|(exfalso;omega)|(simp [*];done)|(rw [Bool.eq_iff_iff];simp only [Bool.or_eq_true,Bool.and_eq_true,decide_eq_true_eq];omega))
  ·try simp only [I] at c3
   refine zJ<|B O<|F O<|qX O<|F O<|u O (fun g6_2=>zQ O O) O<|J 13 O (fun g6_2=>yL O O O) O<|yZ O (fun h=>h)<|F O<|H<|W<|R O ?_
   exact congrArg vB (by unfold wantC;first|(exfalso;omega)|(simp [*];done)|(rw [Bool.eq_iff_iff];simp only [Bool.or_eq_true,Bool.and_eq_true,decide_eq_true_eq];omega))
 ·try simp only [I] at c1
  refine B O<|qX O<|F O<|H<|g O (fun c2=>?_) (fun c2=>?_)
  ·try simp only [I] at c2
   refine zJ<|g O (fun c3=>?_) (fun c3=>?_)
   ·try simp only [I] at c3
    refine B O<|F O<|H<|W<|R O ?_
    exact congrArg vB (by unfold wantC;first|(exfalso;omega)|(simp [*];done)|(rw [Bool.eq_iff_iff];simp only [Bool.or_eq_true,Bool.and_eq_true,decide_eq_true_eq];omega))
   ·try simp only [I] at c3
    refine zJ<|B O<|F O<|qX O<|F O<|u O (fun g6_2=>zQ O O) O<|J 13 O (fun g6_2=>yL O O O) O<|yZ O (fun h=>h)<|F O<|H<|W<|R O ?_
    exact congrArg vB (by unfold wantC;first|(exfalso;omega)|(simp [*];done)|(rw [Bool.eq_iff_iff];simp only [Bool.or_eq_true,Bool.and_eq_true,decide_eq_true_eq];omega))
  ·try simp only [I] at c2
   refine zU O<|qX O<|F O<|H<|g O (fun c3=>?_) (fun c3=>?_)
   ·try simp only [I] at c3
    refine B O<|F O<|H<|W<|R O ?_
    exact congrArg vB (by unfold wantC;first|(exfalso;omega)|(simp [*];done)|(rw [Bool.eq_iff_iff];simp only [Bool.or_eq_true,Bool.and_eq_true,decide_eq_true_eq];omega))
   ·try simp only [I] at c3
    refine zJ<|B O<|F O<|qX O<|F O<|u O (fun g6_2=>zQ O O) O<|J 13 O (fun g6_2=>yL O O O) O<|yZ O (fun h=>h)<|F O<|H<|W<|R O ?_
    exact congrArg vB (by unfold wantC;first|(exfalso;omega)|(simp [*];done)|(rw [Bool.eq_iff_iff];simp only [Bool.or_eq_true,Bool.and_eq_true,decide_eq_true_eq];omega))
theorem ref14_wants (op i:Int):
    Pur cfg 220 [vI op,vI i] (vB (wantC op i)):=by
 refine zV Tryz.func220 O Tryz.ntmps220 Tryz.results220 O ?_
 intro z hz
 refine B O<|F O<|H<|B O<|F O<|qX O<|F O<|u O (fun g1_2=>zQ O O) O<|J 8 O (fun g1_2=>yL O O O) O<|yZ O (fun h=>h)<|F O<|u O (fun g1_6=>zQ O O) O<|J 12 O (fun g1_6=>yL O O O) O<|r_or O (fun h=>(lzf h))<|F O<|u O (fun g1_10=>zQ O O) O<|J 16 O (fun g1_10=>yL O O O) O<|r_or O (fun h=>(lzf h))<|F O<|u O (fun g1_14=>zQ O O) O<|J 20 O (fun g1_14=>yL O O O) O<|r_or O (fun h=>(lzf h))<|F O<|H<|W<|R O ?_
 exact O
theorem zPh (l:Lf):
    Pur cfg 207 [vLin l] (vB (zeroL l)):=by
 refine zV Tryz.func207 O Tryz.ntmps207 Tryz.results207 O ?_
 intro z hz
 refine B O<|zW O O (qJ O O) ?_
 rintro _ _ ⟨b1,rfl,rfl⟩
 refine F O<|H<|B O<|zG O zJs<|zK one2 (K 0 O) O<|qX O<|F O<|u O (fun g1_3=>zD O wU O) O<|J 7 O (fun g1_3=>zF O zCb O (K 0 O) O) O<|J 8 O (fun g1_3=>qV O el32 O) O<|J 9 O (fun g1_3=>yL O O O) O<|yZ O (fun h=>h)<|F O<|H<|W<|R O ?_
 exact O
theorem zPg (x:Ix):
    Pur cfg 210 [vIndex x] (vB (wellIx x)):=by
 refine zV Tryz.func210 O Tryz.ntmps210 Tryz.results210 O ?_
 intro z hz
 refine B O<|zW O O (qJ O O) ?_
 rintro _ _ ⟨b1,rfl,rfl⟩
 refine F O<|H<|U<|B O<|zG O zDv<|zK i (K 0 O) O<|qB O (yQ O O O)<|H<|g O (fun c1=>?_) (fun c1=>?_)
 ·try simp only [I] at c1
  refine B O<|zG O zAw<|zK zAv (K 0 O) O<|zZ O el63<|qX O<|F O<|H<|W<|R O ?_
  rw [wellIx,kX c1];rfl
 ·try simp only [I] at c1
  refine zJ<|B O<|zG O zDw<|zL kP (K 0 O) O<|qK O ok207 (zPh x.Lin) ⟨G,O,T⟩<|F O<|H<|W<|R O ?_
  rw [wellIx,yE c1];rfl
theorem expr_syntax_1 (x:Ix):
    Pur cfg 209 [vIndex x] (vB (!wellIx x)):=by
 refine zV Tryz.func209 O Tryz.ntmps209 Tryz.results209 O ?_
 intro z hz
 refine B O<|zW O O (qJ O O) ?_
 rintro _ _ ⟨b1,rfl,rfl⟩
 refine F O<|H<|B O<|zL zKg (K 0 O) O<|qK O ok210 (zPg x) ⟨G,O,T⟩<|wI O<|F O<|H<|W<|R O ?_
 exact O
theorem expr_names_1 (x:Ix):
    Pur cfg 211 [vIndex x] (vB (!nmIx x)):=by
 refine zV Tryz.func211 O Tryz.ntmps211 Tryz.results211 O ?_
 intro z hz
 refine B O<|zW O O (qJ O O) ?_
 rintro _ _ ⟨b1,rfl,rfl⟩
 refine F O<|H<|B O<|zG O zDv<|zK i (K 0 O) O<|qB O (zCi O O O)<|F O<|u O (fun g1_3=>zD O zDv O) O<|J 7 O (fun g1_3=>zF O i O (K 0 O) O) O<|J 8 O (fun g1_3=>qF O ok176 (zEi _) ⟨G,O,T⟩) O<|J 9 O (fun g1_3=>kU O O) O<|yZ O (fun h=>h)<|F O<|H<|W<|R O ?_
 exact congrArg vB (by unfold nmIx;simp)
theorem expr_rank_1 (x:Ix):
    Pur cfg 213 [vIndex x] (vB (!rkIx x)):=by
 refine zV Tryz.func213 O Tryz.ntmps213 Tryz.results213 O ?_
 intro z hz
 refine B O<|zW O O (qJ O O) ?_
 rintro _ _ ⟨b1,rfl,rfl⟩
 refine F O<|H<|B O<|zG O zAw<|zK zAv (K 0 O) O<|zZ O el63<|qB O (yM O O O)<|F O<|H<|W<|R O ?_
 exact congrArg vB (by unfold rkIx;simp)
theorem expr_syntax (e:Ex) (he:e.wt<=6000000000000):
    Pur cfg 157 [vE e] (vB (synOk e)):=by
 refine zV Tryz.func157 O Tryz.ntmps157 Tryz.results157 O ?_
 intro z hz
 obtain ⟨hL,hI,hA⟩:=e.parts he
 refine B O<|zW O O (qJ O O) ?_
 rintro _ _ ⟨b1,rfl,rfl⟩
 refine F O<|H<|U<|qO 13 mixed (by kernel_rfl) O O<|Y O O (zD O yT O)<|Y O O (zF O w O (K 0 O) O)<|Y O O (yL O O O)<|Y O O (zD O yT O)<|Y O O (zF O w O (K 0 O) O)<|Y O O (yL O O O)<|Y O O (zQ O O)<|f [] O O O O P T (fun g1_6=>zD O yT O) O<|f [(14,_)] O O O O P ⟨O,O,T⟩ (fun g1_6=>zF O w O (K 0 O) O) O<|f [(15,_)] O O O O P ⟨O,O,T⟩ (fun g1_6=>yL O O O) O<|Y O O (zBo O O O O (fun h=>(lzf h)))<|Y O O (yX O O)<|Y O O (yX O O)<|yK<|H<|U<|qO 8 mixed (by kernel_rfl) O O<|Y O O (zD O yT O)<|Y O O (zF O w O (K 0 O) O)<|Y O O (yL O O O)<|Y O O (zD O yT O)<|Y O O (zF O w O (K 0 O) O)<|Y O O (yL O O O)<|Y O O (yX O O)<|Y O O (yX O O)<|yK<|H<|U<|zP<|B O<|zG O yT<|zK w (K 0 O) O<|yB O<|F O<|u O (fun g3_3=>zD O yT O) O<|J 29 O (fun g3_3=>zF O w O (K 0 O) O) O<|J 30 O (fun g3_3=>yM O O O) O<|r_or O (fun h=>(lzf h))<|F O<|H<|g O (fun c1=>?_) (fun c1=>?_)
 ·refine B O<|F O<|H<|W<|R O ?_
  exact congrArg vB (by simp only [synOk,c1,Bool.not_true,Bool.not_false,Bool.true_and,Bool.and_true,Bool.false_and,Bool.and_false])
 ·refine B O<|F O<|wI O<|F O<|u O (fun g5_2=>zD O zIa O) O<|J 37 O (fun g5_2=>zN O agg29 O (K 0 O) O) O<|u O (fun g5_2=>kZ O zr29 pl29 O) O<|rLz [(38,_),(39,_)] O P ⟨O,O,O,O,T⟩ (fun g5_2=>zCj O fl29 O O O) O<|yZ O (fun h=>h)<|F O<|H<|g O (fun c2=>?_) (fun c2=>?_)
  ·have c2:(!decide (e.Op=1)&& !val0 e.Val)=true:=c2
   refine B O<|F O<|H<|W<|R O ?_
   exact congrArg vB (by simp only [synOk,c2,Bool.not_true,Bool.not_false,Bool.true_and,Bool.and_true,Bool.false_and,Bool.and_false])
  ·have c2:(!decide (e.Op=1)&& !val0 e.Val)=false:=c2
   refine B O<|F O<|wI O<|F O<|u O (fun g7_2=>zD O zCz O) O<|J 46 O (fun g7_2=>zN O yF O (K 0 O) O) O<|u O (fun g7_2=>kZ O zr31 pl31 O) O<|rLz [(47,_),(48,_)] O P ⟨O,O,O,O,T⟩ (fun g7_2=>zCj O fl31 O O O) O<|yZ O (fun h=>h)<|F O<|H<|g O (fun c3=>?_) (fun c3=>?_)
   ·have c3:(!(decide (e.Op=1)||decide (e.Op=12))&& !ty0 e.Ty)=true:=c3
    refine B O<|F O<|H<|W<|R O ?_
    exact congrArg vB (by simp only [synOk,c3,Bool.not_true,Bool.not_false,Bool.true_and,Bool.and_true,Bool.false_and,Bool.and_false])
   ·have c3:(!(decide (e.Op=1)||decide (e.Op=12))&& !ty0 e.Ty)=false:=c3
    refine B O<|F O<|wI O<|F O<|u O (fun g9_2=>zD O zDy O) O<|J 55 O (fun g9_2=>zN O kP O (K 0 O) O) O<|J 56 O (fun g9_2=>qF O ok207 (zPh e.Lin) ⟨G,O,T⟩) O<|J 57 O (fun g9_2=>kU O O) O<|yZ O (fun h=>h)<|F O<|H<|g O (fun c4=>?_) (fun c4=>?_)
    ·refine B O<|F O<|H<|W<|R O ?_
     exact congrArg vB (by simp only [synOk,c4,Bool.not_true,Bool.not_false,Bool.true_and,Bool.and_true,Bool.false_and,Bool.and_false])
    ·refine B O<|F O<|wI O<|F O<|u O (fun g11_2=>zD O zBm O) O<|J 64 O (fun g11_2=>zF O i O (K 0 O) O) O<|J 65 O (fun g11_2=>zCi O O O) O<|J 66 O (fun g11_2=>zQ O O) O<|rLz [] O j T (fun g11_6=>zD O kL O) O<|rLz [(68,_)] O j ⟨O,O,T⟩ (fun g11_6=>zF O wX O (K 0 O) O) O<|rLz [(69,_)] O j ⟨O,O,T⟩ (fun g11_6=>qV O d O) O<|rLz [(70,_)] O j ⟨O,O,T⟩ (fun g11_6=>yM O O O) O<|J 67 O (fun g11_2=>zBo O O O O (fun h=>kH (by assumption) (lzf h))) O<|yZ O (fun h=>h)<|F O<|H<|g O (fun c5=>?_) (fun c5=>?_)
     ·refine B O<|F O<|H<|W<|R O ?_
      exact congrArg vB (by simp only [synOk,c5,Bool.not_true,Bool.not_false,Bool.true_and,Bool.and_true,Bool.false_and,Bool.and_false])
     ·refine zJ<|B O<|zG O kL<|zK wX (K 0 O) O<|qK O ok208 (zAu e.Idx _ (fun x=> !wellIx x) hI (fun x _=>FnPur.of_pur (first:=[]) (cap:=[]) ok209 (expr_syntax_1 x))) ⟨G,O,G,O,T⟩<|wI O<|F O<|H<|W<|R O ?_
      exact congrArg vB (by rw [zOk];simp only [synOk,c1,c2,c3,c4,c5,Bool.not_true,Bool.not_false,Bool.true_and,Bool.and_true,Bool.false_and,Bool.and_false])
theorem expr_names (e:Ex) (he:e.wt<=6000000000000):
    Pur cfg 158 [vE e] (vB (namesE e)):=by
 refine zV Tryz.func158 O Tryz.ntmps158 Tryz.results158 O ?_
 intro z hz
 obtain ⟨hL,hI,hA⟩:=e.parts he
 refine B O<|zW O O (qJ O O) ?_
 rintro _ _ ⟨b1,rfl,rfl⟩
 refine F O<|H<|U<|B O<|zG O yT<|zK w (K 0 O) O<|qX O<|F O<|u O (fun g1_3=>zD O zBm O) O<|J 7 O (fun g1_3=>zF O i O (K 0 O) O) O<|J 8 O (fun g1_3=>qF O ok176 (zEi _) ⟨G,O,T⟩) O<|J 9 O (fun g1_3=>kU O O) O<|yZ O (fun h=>h)<|H<|g O (fun c1=>?_) (fun c1=>?_)
 ·refine B O<|F O<|H<|W<|R O ?_
  exact congrArg vB (by simp only [namesE,c1,Bool.not_true,Bool.false_and])
 ·refine zJ<|B O<|zG O kL<|zK wX (K 0 O) O<|qK O ok208 (zAu e.Idx _ (fun x=> !nmIx x) hI (fun x _=>FnPur.of_pur (first:=[]) (cap:=[]) ok211 (expr_names_1 x))) ⟨G,O,G,O,T⟩<|wI O<|F O<|H<|W<|R O ?_
  exact congrArg vB (by rw [zOk];simp only [namesE,c1,Bool.not_false,Bool.true_and])
theorem expr_rank (e:Ex) (he:e.wt<=6000000000000):
    Pur cfg 159 [vE e] (vB (rankE e)):=by
 refine zV Tryz.func159 O Tryz.ntmps159 Tryz.results159 O ?_
 intro z hz
 obtain ⟨hL,hI,hA⟩:=e.parts he
 refine B O<|zW O O (qJ O O) ?_
 rintro _ _ ⟨b1,rfl,rfl⟩
 refine F O<|H<|U<|U<|qO 13 mixed (by kernel_rfl) O O<|Y O O (zD O kF O)<|Y O O (zF O wJ O (K 0 O) O)<|Y O O (qV O A O)<|Y O O (zD O yT O)<|Y O O (zF O w O (K 0 O) O)<|Y O O (qF O ok212 (expr_operands _) ⟨G,O,T⟩)<|Y O O (zAf O O O)<|Y O O (zQ O O)<|f [] O O O O P T (fun g1_7=>zD O kL O) O<|f [(11,_)] O O O O P ⟨O,O,T⟩ (fun g1_7=>zF O wX O (K 0 O) O) O<|f [(12,_)] O O O O P ⟨O,O,T⟩ (fun g1_7=>qV O d O) O<|f [(13,_)] O O O O P ⟨O,O,T⟩ (fun g1_7=>yM O O O) O<|Y O O (zBo O O O O (fun h=>(lzf h)))<|yK<|H<|g O (fun c1=>?_) (fun c1=>?_)
 ·refine B O<|F O<|H<|W<|R O ?_
  exact congrArg vB (by simp only [rankE,c1,Bool.not_true,Bool.false_and])
 ·refine zJ<|B O<|zG O kL<|zK wX (K 0 O) O<|qK O ok208 (zAu e.Idx _ (fun x=> !rkIx x) hI (fun x _=>FnPur.of_pur (first:=[]) (cap:=[]) ok213 (expr_rank_1 x))) ⟨G,O,G,O,T⟩<|wI O<|F O<|H<|W<|R O ?_
  exact congrArg vB (by rw [zOk];simp only [rankE,c1,Bool.not_false,Bool.true_and])
theorem expr_types (e:Ex) (he:e.wt<=6000000000000):
    Pur cfg 160 [vE e] (vB (typesE e)):=by
 refine zV Tryz.func160 O Tryz.ntmps160 Tryz.results160 O ?_
 intro z hz
 obtain ⟨hL,hI,hA⟩:=e.parts he
 refine B O<|zW O O (qJ O O) ?_
 rintro _ _ ⟨b1,rfl,rfl⟩
 refine F O<|H<|U<|B O<|zG O yT<|zK w (K 0 O) O<|qX O<|F O<|u O (fun g1_3=>zD O yT O) O<|J 9 O (fun g1_3=>zF O w O (K 0 O) O) O<|J 10 O (fun g1_3=>yL O O O) O<|r_or O (fun h=>(lzf h))<|F O<|u O (fun g1_8=>zD O zCz O) O<|J 14 O (fun g1_8=>zN O yF O (K 0 O) O) O<|J 15 O (fun g1_8=>qF O ok214 (zCc _) ⟨G,O,T⟩) O<|J 16 O (fun g1_8=>zAf O O O) O<|yZ O (fun h=>h)<|H<|g O (fun c1=>?_) (fun c1=>?_)
 ·rw [tyErr_dec] at c1
  refine B O<|F O<|H<|W<|R O ?_
  exact congrArg vB (by simp only [typesE,c1,Bool.not_true,Bool.false_and])
 ·rw [tyErr_dec] at c1
  refine zJ<|U<|B O<|zG O kF<|zK wJ (K 0 O) O<|zZ O A<|F O<|H<|zP<|zT ⟨[(22,.c _),(1,.c _),(20,.c _),(21,.c _)],[_]⟩ (Weak.mk [true] ⟨G,G,G,G,T⟩ O)<|qG 1 0 O O (Nat) (fun k=>[(22,vI k)]) (fun k=>[]) (fun k=>k<=e.Args.length/\(condsOk e.Op 0 e.Args=condsOk e.Op k (e.Args.drop k))) (fun k=>e.Args.length-k) ⟨0,⟨by omega,O⟩,Weak.mk [true] ⟨G,G,G,G,T⟩ O⟩ ?_
  rintro k ⟨hk,hp⟩
  refine B O<|yB O<|H<|U<|g O (fun c2=>?_) (fun c2=>?_)
  ·try simp only [I] at c2
   obtain ⟨a,ha⟩:=qP e.Args k (by omega)
   refine zJ<|U<|zP<|B O<|F O<|qE O A (by omega) (yU (by assumption))<|zL qH qA O<|zW O O (qI [none,none,none,none,none,none,none,none,none,none,some 2,some 4,some 13] O zr38 O) ?_
   rintro _ _ ⟨b2,rfl,rfl⟩
   refine F O<|N 0 v O<|H<|U<|qO 7 mixed (by kernel_rfl) O O<|Y O O (zN O qH O (K 0 O) O)<|Y O O (qF O ok65 (zFx a) ⟨G,O,T⟩)<|Y O O (zD O yT O)<|Y O O (zF O w O (K 1 O) O)<|Y O O (zQ O O)<|Y O O (qF O ok215 (zGa _ _) ⟨G,O,G,O,T⟩)<|Y O O (det_bneq O un4 O O)<|yK<|H<|g O (fun c3=>?_) (fun c3=>?_)
   ·refine B O<|F O<|H<|W<|R O ?_
    exact congrArg vB (by simp only [typesE,c1,Bool.not_false,Bool.true_and];rw [hp,qN ha,condsOk,show (isCond a==wantC e.Op k)=false by simpa using c3,Bool.false_and])
   ·refine zJ<|zU O<|qL O ⟨by omega,by omega⟩<|F O<|H ?_
    refine ⟨k+1,⟨by omega,(by rw [hp,qN ha,condsOk,show (isCond a==wantC e.Op k)=true by simpa using c3,Bool.true_and];rfl)⟩,(by omega),Weak.mk [false,true] ⟨G,G,G,G,T⟩ O⟩
  ·try simp only [I] at c2
   refine qM<|B O<|F O<|H<|W<|R O ?_
   exact congrArg vB (by simp only [typesE,c1,Bool.not_false,Bool.true_and];rw [hp,kI (by omega)];rfl)
theorem ref14_typed (e:Ex) (he:e.wt<=6000000000000):
    Pur cfg 174 [vE e] (vB (typesE e)):=by
 refine zV Tryz.func174 O Tryz.ntmps174 Tryz.results174 O ?_
 intro z hz
 obtain ⟨hL,hI,hA⟩:=e.parts he
 refine B O<|zW O O (qJ O O) ?_
 rintro _ _ ⟨b1,rfl,rfl⟩
 refine F O<|H<|U<|B O<|zG O yT<|zK w (K 0 O) O<|qX O<|F O<|u O (fun g1_3=>zD O yT O) O<|J 8 O (fun g1_3=>zF O w O (K 0 O) O) O<|J 9 O (fun g1_3=>yL O O O) O<|r_or O (fun h=>(lzf h))<|F O<|u O (fun g1_8=>zD O zCz O) O<|J 13 O (fun g1_8=>zN O yF O (K 0 O) O) O<|J 14 O (fun g1_8=>qF O ok117 (zPv _) ⟨G,O,T⟩) O<|J 15 O (fun g1_8=>kU O O) O<|yZ O (fun h=>h)<|H<|g O (fun c1=>?_) (fun c1=>?_)
 ·refine B O<|F O<|H<|W<|R O ?_
  exact congrArg vB (by simp only [typesE,c1,Bool.not_true,Bool.false_and])
 ·refine zJ<|U<|B O<|F O<|H<|zP<|zT ⟨[(3,.c _),(1,.c _)],[_]⟩ (Weak.mk [true] ⟨G,G,T⟩ O)<|qG 1 0 O O (Nat) (fun k=>[(3,vI k)]) (fun k=>[]) (fun k=>k<=e.Args.length/\(condsOk e.Op 0 e.Args=condsOk e.Op k (e.Args.drop k))) (fun k=>e.Args.length-k) ⟨0,⟨by omega,O⟩,Weak.mk [true] ⟨G,G,T⟩ O⟩ ?_
  rintro k ⟨hk,hp⟩
  refine U<|B O<|F O<|zG O kF<|zK wJ (K 0 O) O<|zZ O A<|yB O<|H<|g O (fun c2=>?_) (fun c2=>?_)
  ·try simp only [I] at c2
   obtain ⟨a,ha⟩:=qP e.Args k (by omega)
   refine zJ<|U<|zP<|U<|qO 11 mixed (by kernel_rfl) O O<|Y O O (zD O kF O)<|Y O O (zF O wJ O (K 0 O) O)<|Y O O (zQ O O)<|Y O O (zY O A O O (by omega) (yU (by assumption)))<|Y O O (zN O qH O qA O)<|Y O O (qF O ok87 (zCa a) ⟨G,O,T⟩)<|Y O O (zD O yT O)<|Y O O (zF O w O (K 0 O) O)<|Y O O (zQ O O)<|Y O O (qF O ok220 (ref14_wants _ _) ⟨G,O,G,O,T⟩)<|Y O O (det_bneq O un4 O O)<|yK<|H<|g O (fun c3=>?_) (fun c3=>?_)
   ·refine B O<|F O<|H<|W<|R O ?_
    exact congrArg vB (by simp only [typesE,c1,Bool.not_false,Bool.true_and];rw [hp,qN ha,condsOk,show (isCond a==wantC e.Op k)=false by simpa using c3,Bool.false_and])
   ·refine zJ<|zU O<|F O<|qL O ⟨by omega,by omega⟩<|F O<|H ?_
    refine ⟨k+1,⟨by omega,(by rw [hp,qN ha,condsOk,show (isCond a==wantC e.Op k)=true by simpa using c3,Bool.true_and];rfl)⟩,(by omega),Weak.mk [true] ⟨G,G,T⟩ O⟩
  ·try simp only [I] at c2
   refine qM<|B O<|F O<|H<|W<|R O ?_
   exact congrArg vB (by simp only [typesE,c1,Bool.not_false,Bool.true_and];rw [hp,kI (by omega)];rfl)
theorem ref14_plain (e:Ex) (he:e.wt<=6000000000000):
    Pur cfg 171 [vE e] (vB (synOk e)):=by
 refine zV Tryz.func171 O Tryz.ntmps171 Tryz.results171 O ?_
 intro z hz
 obtain ⟨hL,hI,hA⟩:=e.parts he
 refine B O<|zW O O (qJ O O) ?_
 rintro _ _ ⟨b1,rfl,rfl⟩
 refine F O<|H<|U<|B O<|zG O yT<|zK w (K 0 O) O<|yB O<|F O<|u O (fun g1_3=>zD O yT O) O<|J 9 O (fun g1_3=>zF O w O (K 0 O) O) O<|J 10 O (fun g1_3=>yM O O O) O<|r_or O (fun h=>(lzf h))<|H<|g O (fun c1=>?_) (fun c1=>?_)
 ·refine B O<|F O<|H<|W<|R O ?_
  exact congrArg vB (by simp only [synOk,c1,Bool.not_true,Bool.false_and])
 ·refine zJ<|U<|B O<|zG O yT<|zK w (K 0 O) O<|yP O<|F O<|u O (fun g3_3=>zD O zIa O) O<|J 17 O (fun g3_3=>zN O agg29 O (K 0 O) O) O<|u O (fun g3_3=>kZ O zr29 pl29 O) O<|rLz [(18,_),(19,_)] O P ⟨O,O,O,O,T⟩ (fun g3_3=>zCj O fl29 O O O) O<|yZ O (fun h=>h)<|F O<|u O (fun g3_9=>zD O yT O) O<|J 23 O (fun g3_9=>zF O w O (K 0 O) O) O<|J 24 O (fun g3_9=>zAf O O O) O<|J 25 O (fun g3_9=>zQ O O) O<|rLz [] O j T (fun g3_13=>zD O yT O) O<|rLz [(27,_)] O j ⟨O,O,T⟩ (fun g3_13=>zF O w O (K 0 O) O) O<|rLz [(28,_)] O j ⟨O,O,T⟩ (fun g3_13=>zAf O O O) O<|J 26 O (fun g3_9=>kR O O O (fun h=>kH (by assumption) h) O) O<|J 30 O (fun g3_9=>zQ O O) O<|rLz [] O j T (fun g3_18=>zD O zCz O) O<|rLz [(32,_)] O j ⟨O,O,T⟩ (fun g3_18=>zN O yF O (K 0 O) O) O<|rLz [] O j T (fun g3_18=>kZ O zr31 pl31 O) O<|rLz [(33,_),(34,_)] O j ⟨O,O,O,O,T⟩ (fun g3_18=>zCj O fl31 O O O) O<|J 31 O (fun g3_9=>kR O O O (fun h=>kH (by assumption) h) O) O<|r_or O (fun h=>(lzf h))<|H<|g O (fun c2=>?_) (fun c2=>?_)
  ·have h2:=plain2 (e:=e) c2
   refine B O<|F O<|H<|W<|R O ?_
   exact congrArg vB (syn2 h2)
  ·have h2:=plain2 (e:=e) c2
   refine zJ<|U<|B O<|zG O yT<|zK w (K 0 O) O<|yP O<|F O<|u O (fun g5_3=>zD O zDy O) O<|J 42 O (fun g5_3=>zD O zJs O) O<|J 43 O (fun g5_3=>zF O one2 O (K 0 O) O) O<|J 44 O (fun g5_3=>zAf O O O) O<|J 45 O (fun g5_3=>zQ O O) O<|rLz [] O j T (fun g5_8=>zD O zDy O) O<|rLz [(47,_)] O j ⟨O,O,T⟩ (fun g5_8=>zD O wU O) O<|rLz [(48,_)] O j ⟨O,O,T⟩ (fun g5_8=>zF O zCb O (K 0 O) O) O<|rLz [(49,_)] O j ⟨O,O,T⟩ (fun g5_8=>qV O el32 O) O<|rLz [(50,_)] O j ⟨O,O,T⟩ (fun g5_8=>yM O O O) O<|J 46 O (fun g5_3=>zBo O O O O (fun h=>kH (by assumption) (lzf h))) O<|yZ O (fun h=>h)<|F O<|u O (fun g5_16=>zD O yT O) O<|J 55 O (fun g5_16=>zF O w O (K 0 O) O) O<|J 56 O (fun g5_16=>zAf O O O) O<|J 57 O (fun g5_16=>zQ O O) O<|rLz [] O j T (fun g5_20=>zD O zBm O) O<|rLz [(59,_)] O j ⟨O,O,T⟩ (fun g5_20=>zF O i O (K 0 O) O) O<|rLz [(60,_)] O j ⟨O,O,T⟩ (fun g5_20=>zCi O O O) O<|rLz [(61,_)] O j ⟨O,O,T⟩ (fun g5_20=>zQ O O) O<|rLz [] O j T (fun g5_24=>zD O kL O) O<|rLz [(63,_)] O j ⟨O,O,T⟩ (fun g5_24=>zF O wX O (K 0 O) O) O<|rLz [(64,_)] O j ⟨O,O,T⟩ (fun g5_24=>qV O d O) O<|rLz [(65,_)] O j ⟨O,O,T⟩ (fun g5_24=>yM O O O) O<|rLz [(62,_)] O j ⟨O,O,T⟩ (fun g5_20=>zBo O O O O (fun h=>kH (by assumption) (lzf h))) O<|J 58 O (fun g5_16=>kR O O O (fun h=>kH (by assumption) h) O) O<|r_or O (fun h=>(lzf h))<|H<|g O (fun c3=>?_) (fun c3=>?_)
   ·have h3:=plain3 (e:=e) c3
    refine B O<|F O<|H<|W<|R O ?_
    exact congrArg vB (syn3 h3)
   ·have h3:=plain3 (e:=e) c3
    refine zJ<|U<|B O<|F O<|H<|zP<|zT ⟨[(3,.c _),(1,.c _)],[_]⟩ (Weak.mk [true] ⟨G,G,T⟩ O)<|qG 1 0 O O (Nat) (fun k=>[(3,vI k)]) (fun k=>[]) (fun k=>k<=e.Idx.length/\(e.Idx.all wellIx=(e.Idx.drop k).all wellIx)) (fun k=>e.Idx.length-k) ⟨0,⟨by omega,O⟩,Weak.mk [true] ⟨G,G,T⟩ O⟩ ?_
    rintro k ⟨hk,hp⟩
    refine U<|B O<|F O<|zG O kL<|zK wX (K 0 O) O<|zZ O d<|yB O<|H<|g O (fun c4=>?_) (fun c4=>?_)
    ·try simp only [I] at c4
     obtain ⟨x,hx⟩:=qP e.Idx k (by omega)
     refine zJ<|U<|zP<|B O<|zG O kL<|zK wX (K 0 O) O<|F O<|qE O d (by omega) (Q (by assumption))<|zL zKg qA O<|zW O O (qI [none,some 2,none,some 2] O zr67 O) ?_
     rintro _ _ ⟨b2,rfl,rfl⟩
     refine N 0 sz67 O<|H<|B O<|zG O zDv<|zK i (K 0 O) O<|qB O (yQ O O O)<|F O<|u O (fun g11_3=>zD O zAw O) O<|J 86 O (fun g11_3=>zF O zAv O (K 0 O) O) O<|J 87 O (fun g11_3=>qV O el63 O) O<|J 88 O (fun g11_3=>yM O O O) O<|yZ O (fun h=>h)<|F O<|u O (fun g11_9=>zD O zDv O) O<|J 92 O (fun g11_9=>zF O i O (K 0 O) O) O<|J 93 O (fun g11_9=>zCi O O O) O<|J 94 O (fun g11_9=>zQ O O) O<|rLz [] O j T (fun g11_13=>zD O zDw O) O<|rLz [(96,_)] O j ⟨O,O,T⟩ (fun g11_13=>zD O zJs O) O<|rLz [(97,_)] O j ⟨O,O,T⟩ (fun g11_13=>zF O one2 O (K 0 O) O) O<|rLz [(98,_)] O j ⟨O,O,T⟩ (fun g11_13=>zAf O O O) O<|rLz [(99,_)] O j ⟨O,O,T⟩ (fun g11_13=>zQ O O) O<|rLz [] O j T (fun g11_18=>zD O zDw O) O<|rLz [(101,_)] O j ⟨O,O,T⟩ (fun g11_18=>zD O wU O) O<|rLz [(102,_)] O j ⟨O,O,T⟩ (fun g11_18=>zF O zCb O (K 0 O) O) O<|rLz [(103,_)] O j ⟨O,O,T⟩ (fun g11_18=>qV O el32 O) O<|rLz [(104,_)] O j ⟨O,O,T⟩ (fun g11_18=>yM O O O) O<|rLz [(100,_)] O j ⟨O,O,T⟩ (fun g11_13=>zBo O O O O (fun h=>kH (by assumption) (lzf h))) O<|J 95 O (fun g11_9=>kR O O O (fun h=>kH (by assumption) h) O) O<|r_or O (fun h=>(lzf h))<|H<|g O (fun c5=>?_) (fun c5=>?_)
     ·have h5:=well_dec (x:=x) c5
      refine B O<|F O<|H<|W<|R O ?_
      exact congrArg vB (by rw [synOk,all_no hx (p:=wellIx) (by simpa using h5)];simp)
     ·have h5:=well_dec (x:=x) c5
      refine zJ<|zU O<|F O<|qL O ⟨by omega,by omega⟩<|F O<|H ?_
      refine ⟨k+1,⟨by omega,zNd hx hp (by simpa using h5)⟩,(by omega),Weak.mk [false,true] ⟨G,G,T⟩ O⟩
    ·try simp only [I] at c4
     refine qM<|B O<|F O<|H<|W<|R O ?_
     exact congrArg vB (syn5 c1 h2 h3 (all_end hp (by omega)))
theorem ref14_named (e:Ex) (he:e.wt<=6000000000000):
    Pur cfg 172 [vE e] (vB (namesE e)):=by
 refine zV Tryz.func172 O Tryz.ntmps172 Tryz.results172 O ?_
 intro z hz
 obtain ⟨hL,hI,hA⟩:=e.parts he
 refine B O<|zW O O (qJ O O) ?_
 rintro _ _ ⟨b1,rfl,rfl⟩
 refine F O<|H<|U<|B O<|zG O yT<|zK w (K 0 O) O<|qX O<|F O<|u O (fun g1_3=>zD O zBm O) O<|J 8 O (fun g1_3=>zF O i O (K 0 O) O) O<|J 9 O (fun g1_3=>qF O ok146 (zGu _) ⟨G,O,T⟩) O<|J 10 O (fun g1_3=>kU O O) O<|yZ O (fun h=>h)<|H<|g O (fun c1=>?_) (fun c1=>?_)
 ·refine B O<|F O<|H<|W<|R O ?_
  exact congrArg vB (by simp only [namesE,c1,Bool.not_true,Bool.false_and])
 ·refine zJ<|U<|B O<|F O<|H<|zP<|zT ⟨[(3,.c _),(1,.c _)],[_]⟩ (Weak.mk [true] ⟨G,G,T⟩ O)<|qG 1 0 O O (Nat) (fun k=>[(3,vI k)]) (fun k=>[]) (fun k=>k<=e.Idx.length/\(e.Idx.all nmIx=(e.Idx.drop k).all nmIx)) (fun k=>e.Idx.length-k) ⟨0,⟨by omega,O⟩,Weak.mk [true] ⟨G,G,T⟩ O⟩ ?_
  rintro k ⟨hk,hp⟩
  refine U<|B O<|F O<|zG O kL<|zK wX (K 0 O) O<|zZ O d<|yB O<|H<|g O (fun c2=>?_) (fun c2=>?_)
  ·try simp only [I] at c2
   obtain ⟨x,hx⟩:=qP e.Idx k (by omega)
   refine zJ<|U<|zP<|B O<|zG O kL<|zK wX (K 0 O) O<|F O<|qE O d (by omega) (Q (by assumption))<|qR O zDv<|zK i qA O<|qB O (zCi O O O)<|F O<|u O (fun g6_7=>zD O kL O) O<|J 28 O (fun g6_7=>zF O wX O (K 0 O) O) O<|u O (fun g6_7=>zQ O O) O<|rLz [(29,_),(30,_)] O P ⟨O,O,O,O,T⟩ (fun g6_7=>zY O d O O (by omega) (Q (by assumption))) O<|J 31 O (fun g6_7=>qT O zDv O) O<|J 32 O (fun g6_7=>zF O i O qA O) O<|J 33 O (fun g6_7=>qF O ok146 (zGu _) ⟨G,O,T⟩) O<|J 34 O (fun g6_7=>kU O O) O<|yZ O (fun h=>h)<|H<|g O (fun c3=>?_) (fun c3=>?_)
   ·refine B O<|F O<|H<|W<|R O ?_
    exact congrArg vB (by rw [namesE,all_no hx (p:=nmIx) (by unfold nmIx;rw [c3];rfl)];simp)
   ·refine zJ<|zU O<|F O<|qL O ⟨by omega,by omega⟩<|F O<|H ?_
    refine ⟨k+1,⟨by omega,zNd hx hp (by unfold nmIx;rw [c3];rfl)⟩,(by omega),Weak.mk [true] ⟨G,G,T⟩ O⟩
  ·try simp only [I] at c2
   refine qM<|B O<|F O<|H<|W<|R O ?_
   exact congrArg vB (by rw [namesE,c1,all_end hp (by omega)];rfl)
theorem ref14_ranked (e:Ex) (he:e.wt<=6000000000000):
    Pur cfg 173 [vE e] (vB (rankE e)):=by
 refine zV Tryz.func173 O Tryz.ntmps173 Tryz.results173 O ?_
 intro z hz
 obtain ⟨hL,hI,hA⟩:=e.parts he
 refine B O<|zW O O (qJ O O) ?_
 rintro _ _ ⟨b1,rfl,rfl⟩
 refine F O<|H<|U<|U<|qO 13 mixed (by kernel_rfl) O O<|Y O O (zD O kF O)<|Y O O (zF O wJ O (K 0 O) O)<|Y O O (qV O A O)<|Y O O (zD O yT O)<|Y O O (zF O w O (K 0 O) O)<|Y O O (qF O ok219 (zLr _) ⟨G,O,T⟩)<|Y O O (zAf O O O)<|Y O O (zQ O O)<|f [] O O O O P T (fun g1_7=>zD O kL O) O<|f [(12,_)] O O O O P ⟨O,O,T⟩ (fun g1_7=>zF O wX O (K 0 O) O) O<|f [(13,_)] O O O O P ⟨O,O,T⟩ (fun g1_7=>qV O d O) O<|f [(14,_)] O O O O P ⟨O,O,T⟩ (fun g1_7=>yM O O O) O<|Y O O (zBo O O O O (fun h=>(lzf h)))<|yK<|H<|g O (fun c1=>?_) (fun c1=>?_)
 ·refine B O<|F O<|H<|W<|R O ?_
  exact congrArg vB (by simp only [rankE,c1,Bool.not_true,Bool.false_and])
 ·refine zJ<|U<|B O<|F O<|H<|zP<|zT ⟨[(3,.c _),(1,.c _)],[_]⟩ (Weak.mk [true] ⟨G,G,T⟩ O)<|qG 1 0 O O (Nat) (fun k=>[(3,vI k)]) (fun k=>[]) (fun k=>k<=e.Idx.length/\(e.Idx.all rkIx=(e.Idx.drop k).all rkIx)) (fun k=>e.Idx.length-k) ⟨0,⟨by omega,O⟩,Weak.mk [true] ⟨G,G,T⟩ O⟩ ?_
  rintro k ⟨hk,hp⟩
  refine U<|B O<|F O<|zG O kL<|zK wX (K 0 O) O<|zZ O d<|yB O<|H<|g O (fun c2=>?_) (fun c2=>?_)
  ·try simp only [I] at c2
   obtain ⟨x,hx⟩:=qP e.Idx k (by omega)
   refine zJ<|U<|zP<|B O<|zG O kL<|zK wX (K 0 O) O<|F O<|qE O d (by omega) (Q (by assumption))<|qR O zAw<|zK zAv qA O<|zZ O el63<|qB O (yM O O O)<|H<|g O (fun c3=>?_) (fun c3=>?_)
   ·refine B O<|F O<|H<|W<|R O ?_
    exact congrArg vB (by rw [rankE,all_no hx (p:=rkIx) (by unfold rkIx;rw [c3];rfl)];simp)
   ·refine zJ<|zU O<|F O<|qL O ⟨by omega,by omega⟩<|F O<|H ?_
    refine ⟨k+1,⟨by omega,zNd hx hp (by unfold rkIx;rw [c3];rfl)⟩,(by omega),Weak.mk [true] ⟨G,G,T⟩ O⟩
  ·try simp only [I] at c2
   refine qM<|B O<|F O<|H<|W<|R O ?_
   exact congrArg vB (by rw [rankE,c1,all_end hp (by omega)];rfl)
theorem ref14_formed (e:Ex) (he:e.wt<=6000000000000) (hty:e.Op=1->tyOk e.Ty=true):
    Pur cfg 175 [vE e] (vB (formOk e)):=by
 refine zV Tryz.func175 O Tryz.ntmps175 Tryz.results175 O ?_
 intro z hz
 obtain ⟨hL,hI,hA⟩:=e.parts he
 refine B O<|zW O O (qJ O O) ?_
 rintro _ _ ⟨b1,rfl,rfl⟩
 refine F O<|H<|U<|B O<|zG O yT<|zK w (K 0 O) O<|qX O<|F O<|u O (fun g1_3=>zD O zCz O) O<|J 9 O (fun g1_3=>zN O yF O (K 0 O) O) O<|u O (fun g1_3=>zD O zIa O) O<|J 11 O (fun g1_3=>zN O agg29 O (K 0 O) O) O<|rLz [(10,_),(12,_)] O P ⟨O,O,O,O,T⟩ (fun g1_3=>qF O ok221 (base_Val e.Ty e.Val (hty (by simp only [Lz,cond_true,cond_false,Bool.and_eq_true,Bool.or_eq_true,Bool.not_eq_true',Bool.not_eq_false',Bool.or_eq_false_iff,Bool.and_eq_false_iff,decide_eq_true_eq,decide_eq_false_iff_not,Bool.not_eq_true,Bool.not_eq_false] at g1_3;exact g1_3))) ⟨G,O,G,O,T⟩) O<|J 13 O (fun g1_3=>kU O O) O<|yZ O (fun h=>h)<|F O<|u O (fun g1_11=>zD O zDy O) O<|J 17 O (fun g1_11=>zN O kP O (K 0 O) O) O<|J 18 O (fun g1_11=>qF O ok115 (zDe e.Lin hL) ⟨G,O,T⟩) O<|J 19 O (fun g1_11=>kU O O) O<|r_or O (fun h=>(lzf h))<|H<|g O (fun c1=>?_) (fun c1=>?_)
 ·refine B O<|F O<|H<|W<|R O ?_
  exact congrArg vB (form_no c1)
 ·refine zJ<|U<|B O<|F O<|H<|zP<|zT ⟨[(3,.c _),(1,.c _)],[_]⟩ (Weak.mk [true] ⟨G,G,T⟩ O)<|qG 1 0 O O (Nat) (fun k=>[(3,vI k)]) (fun k=>[]) (fun k=>k<=e.Idx.length/\((formsL e).all linOk=((e.Idx.drop k).flatMap fun x=>x.Lin::x.At).all linOk)) (fun k=>e.Idx.length-k) ⟨0,⟨by omega,form_start c1⟩,Weak.mk [true] ⟨G,G,T⟩ O⟩ ?_
  rintro k ⟨hk,hp⟩
  refine U<|B O<|F O<|zG O kL<|zK wX (K 0 O) O<|zZ O d<|yB O<|H<|g O (fun c2=>?_) (fun c2=>?_)
  ·try simp only [I] at c2
   obtain ⟨x,hx⟩:=qP e.Idx k (by omega)
   have hxw:=Ex.idx_wt (qD hx)
   refine zJ<|U<|zP<|U<|B O<|zG O kL<|zK wX (K 0 O) O<|F O<|qE O d (by omega) (Q (by assumption))<|qR O zDw<|zL kP qA O<|qK O ok115 (zDe x.Lin (by omega)) ⟨G,O,T⟩<|wI O<|H<|g O (fun c3=>?_) (fun c3=>?_)
   ·try simp only [I] at c3
    refine B O<|F O<|H<|W<|R O ?_
    exact congrArg vB (form_no2 hp (by rw [qN hx,List.flatMap_cons,List.all_append,List.all_cons,c3];rfl))
   ·try simp only [I] at c3
    refine zJ<|B O<|F O<|H<|zP<|zT ⟨[(4,.c _),(1,.c _),(3,.c _)],[_]⟩ (Weak.mk [true] ⟨G,G,G,T⟩ O)<|qG 1 0 O O (Nat) (fun j=>[(4,vI j)]) (fun j=>[]) (fun j=>j<=x.At.length/\(x.At.all linOk=(x.At.drop j).all linOk)) (fun j=>x.At.length-j) ⟨0,⟨by omega,O⟩,Weak.mk [true] ⟨G,G,G,T⟩ O⟩ ?_
    rintro j ⟨hj,hq⟩
    refine U<|B O<|F O<|zG O kL<|zK wX (K 0 O) O<|F O<|qE O d (by omega) (Q (by assumption))<|qR O zAw<|zK zAv qA O<|zZ O el63<|yB O<|H<|g O (fun c4=>?_) (fun c4=>?_)
    ·try simp only [I] at c4
     obtain ⟨l,hl⟩:=qP x.At j (by omega)
     have hlw:=zBw (qD hl)
     refine zJ<|U<|zP<|B O<|zG O kL<|zK wX (K 0 O) O<|F O<|qE O d (by omega) (Q (by assumption))<|qR O zAw<|zK zAv qA O<|F O<|qE O el63 (by omega) (Q (by assumption))<|zL kP qA O<|qK O ok115 (zDe l (by omega)) ⟨G,O,T⟩<|wI O<|H<|g O (fun c5=>?_) (fun c5=>?_)
     ·try simp only [I] at c5
      refine B O<|F O<|H<|W<|R O ?_
      exact congrArg vB (form_no2 hp (by rw [qN hx,List.flatMap_cons,List.all_append,List.all_cons,all_no hl (p:=linOk) c5];simp))
     ·try simp only [I] at c5
      refine zJ<|zU O<|F O<|qL O ⟨by omega,by omega⟩<|F O<|H ?_
      refine ⟨j+1,⟨by omega,zNd hl hq c5⟩,(by omega),Weak.mk [true] ⟨G,G,G,T⟩ O⟩
    ·try simp only [I] at c4
     refine qM<|zU O<|F O<|qL O ⟨by omega,by omega⟩<|F O<|H ?_
     refine ⟨k+1,⟨by omega,(by rw [hp,qN hx,List.flatMap_cons,List.all_append,List.all_cons,c3,all_end hq (by omega)];rfl)⟩,(by omega),Weak.mk [true] ⟨G,G,T⟩ O⟩
  ·try simp only [I] at c2
   refine qM<|B O<|F O<|H<|W<|R O ?_
   exact congrArg vB (form_yes c1 (by rw [hp,kI (by omega)];rfl))
theorem zOc (e:Ex) (ih:∀a,a∈e.Args->a.wt<=6000000000000->Pur cfg 100 [vE a] (vI (partE a))) (he:e.wt<=6000000000000):
    Pur cfg 100 [vE e] (vI (partE e)):=by
 refine zV Tryz.func100 O Tryz.ntmps100 Tryz.results100 O ?_
 intro z hz
 obtain ⟨hL,hI,hA⟩:=e.parts he
 refine B O<|zW O O (qJ O O) ?_
 rintro _ _ ⟨b1,rfl,rfl⟩
 refine F O<|H<|U<|zP<|B O<|zL qH (K 0 O) O<|qK O ok171 (ref14_plain e he) ⟨G,O,T⟩<|wI O<|F O<|H<|g O (fun c1=>?_) (fun c1=>?_)
 ·try simp only [I] at c1
  refine B O<|F O<|H<|W<|R O ?_
  exact congrArg vI (by rw [zEe,show nodeErr e=5 by simp only [nodeErr,c1];rfl];rfl)
 ·try simp only [I] at c1
  refine B O<|zL qH (K 0 O) O<|qK O ok172 (ref14_named e he) ⟨G,O,T⟩<|wI O<|F O<|H<|g O (fun c2=>?_) (fun c2=>?_)
  ·try simp only [I] at c2
   refine B O<|F O<|H<|W<|R O ?_
   exact congrArg vI (by rw [zEe,show nodeErr e=7 by simp only [nodeErr,c1,c2];rfl];rfl)
  ·try simp only [I] at c2
   refine B O<|zL qH (K 0 O) O<|qK O ok173 (ref14_ranked e he) ⟨G,O,T⟩<|wI O<|F O<|H<|g O (fun c3=>?_) (fun c3=>?_)
   ·try simp only [I] at c3
    refine B O<|F O<|H<|W<|R O ?_
    exact congrArg vI (by rw [zEe,show nodeErr e=11 by simp only [nodeErr,c1,c2,c3];rfl];rfl)
   ·try simp only [I] at c3
    refine B O<|zL qH (K 0 O) O<|qK O ok174 (ref14_typed e he) ⟨G,O,T⟩<|wI O<|F O<|H<|g O (fun c4=>?_) (fun c4=>?_)
    ·try simp only [I] at c4
     refine B O<|F O<|H<|W<|R O ?_
     exact congrArg vI (by rw [zEe,show nodeErr e=10 by simp only [nodeErr,c1,c2,c3,c4];rfl];rfl)
    ·try simp only [I] at c4
     refine B O<|zL qH (K 0 O) O<|qK O ok175 (ref14_formed e he (types_ty c4)) ⟨G,O,T⟩<|wI O<|F O<|H<|g O (fun c5=>?_) (fun c5=>?_)
     ·try simp only [I] at c5
      refine B O<|F O<|H<|W<|R O ?_
      exact congrArg vI (by rw [zEe,show nodeErr e=1 by simp only [nodeErr,c1,c2,c3,c4,c5];rfl];rfl)
     ·try simp only [I] at c5
      have hn:nodeErr e=0:=by simp only [nodeErr,c1,c2,c3,c4,c5];rfl
      refine zJ<|U<|B O<|F O<|H<|zP<|zT ⟨[(3,.c _),(1,.c _)],[_]⟩ (Weak.mk [true] ⟨G,G,T⟩ O)<|qG 1 0 O O (Nat) (fun k=>[(3,vI k)]) (fun k=>[]) (fun k=>k<=e.Args.length/\(partL e.Args=partL (e.Args.drop k))) (fun k=>e.Args.length-k) ⟨0,⟨by omega,O⟩,Weak.mk [true] ⟨G,G,T⟩ O⟩ ?_
      rintro k ⟨hk,hp⟩
      refine U<|B O<|F O<|zG O kF<|zK wJ (K 0 O) O<|zZ O A<|yB O<|H<|g O (fun c6=>?_) (fun c6=>?_)
      ·try simp only [I] at c6
       obtain ⟨a,ha⟩:=qP e.Args k (by omega)
       refine zJ<|U<|zP<|B O<|zG O kF<|zK wJ (K 0 O) O<|F O<|qE O A (by omega) (yU (by assumption))<|zL qH qA O<|qK O ok100 (ih a (qD ha) (by have:=Ex.arg_wt (qD ha);omega)) ⟨G,O,T⟩<|F O<|H<|B O<|F O<|yP O<|H<|g O (fun c7=>?_) (fun c7=>?_)
       ·try simp only [I] at c7
        refine B O<|F O<|F O<|H<|W<|R O ?_
        exact congrArg vI (by rw [zEe e,hn,kX rfl,cond_true,hp,qN ha,zKt,yE c7];rfl)
       ·try simp only [I] at c7
        refine zJ<|zU O<|F O<|qL O ⟨by omega,by omega⟩<|F O<|H ?_
        refine ⟨k+1,⟨by omega,(by rw [hp,qN ha,zKt,kX c7];rfl)⟩,(by omega),Weak.mk [true] ⟨G,G,T⟩ O⟩
      ·try simp only [I] at c6
       refine qM<|B O<|F O<|H<|W<|R O ?_
       exact congrArg vI (by rw [zEe,hn,kX rfl,cond_true,hp,kI (by omega)];rfl)
theorem ref14_part (e:Ex) (he:e.wt<=6000000000000):Pur cfg 100 [vE e] (vI (partE e)):=by
  induction e using Ex.ind with
  |_ e ih=>exact zOc e ih he
theorem zGp (n:Nat) (ih:n≠0->∀(a:Ex) (l:Int),a.wt<=6000000000000->l=n->Pur cfg 156 [vE a,vI l] (vI (depT (n-1) a))) (hn:n<=100) (e:Ex) (l:Int) (he:e.wt<=6000000000000) (hl:l=n+1):
    Pur cfg 156 [vE e,vI l] (vI (depT n e)):=by
 refine zV Tryz.func156 O Tryz.ntmps156 Tryz.results156 O ?_
 intro z hz
 obtain ⟨hL,hI,hA⟩:=e.parts he
 refine B O<|zW O O (qJ O O) ?_
 rintro _ _ ⟨b1,rfl,rfl⟩
 refine F O<|H<|U<|B O<|F O<|qB O (wA O O O)<|H<|g O (fun c1=>?_) (fun c1=>?_)
 ·try simp only [I] at c1
  obtain rfl:n=0:=by omega
  refine B O<|F O<|F O<|H<|W<|R O ?_
  exact congrArg vI (by rw [hl];rfl)
 ·try simp only [I] at c1
  obtain ⟨m,rfl⟩:∃m,n=m+1:=⟨n-1,by omega⟩
  refine zJ<|B O<|F O<|H<|U<|B O<|zG O kF<|zK wJ (K 0 O) O<|zZ O A<|F O<|H<|zP<|zT ⟨[(14,.c _),(5,.c _),(1,.c _),(12,.c _),(13,.c _)],[]⟩ (Weak.mk [false] ⟨G,G,G,G,G,T⟩ O)<|qG 2 0 O O (Nat×Int) (fun ⟨k,d⟩=>[(14,vI k),(5,vI d)]) (fun ⟨k,d⟩=>[]) (fun ⟨k,d⟩=>k<=e.Args.length/\(1<=d)/\(d<=m+2)/\(depT (m+1) e=depF (depT m) d (e.Args.drop k))) (fun ⟨k,d⟩=>e.Args.length-k) ⟨⟨0,1⟩,⟨by omega,by omega,by omega,O⟩,Weak.mk [] ⟨G,VLe.of_eq (O),G,G,G,T⟩ O⟩ ?_
  rintro ⟨k,d⟩ ⟨hk,hd1,hd2,hd3⟩
  show AWP _ _ _ _ _ ⟨[(14,vI k),(5,vI d)]++_,[]++_⟩
  refine B O<|yB O<|H<|U<|g O (fun c2=>?_) (fun c2=>?_)
  ·try simp only [I] at c2
   obtain ⟨a,ha⟩:=qP e.Args k (by omega)
   have hda:=depT_le m a
   refine zJ<|U<|zP<|B O<|qE O A (by omega) (yU (by assumption))<|zL qH qA O<|zW O O (qI [none,none,none,none,none,none,none,none,none,none,some 2,some 4,some 13] O zr38 O) ?_
   rintro _ _ ⟨b2,rfl,rfl⟩
   refine N 0 v O<|H<|zU O<|F O<|zL qH (K 0 O) O<|F O<|qB O (zAk O O O ⟨by omega,by omega⟩)<|qK O ok156 (show Pur cfg 156 [vE a,vI (l-1)] (vI (depT m a)) from ih (by omega) a _ (by have:=Ex.arg_wt (qD ha);omega) (by omega)) ⟨G,O,G,O,T⟩<|qL O ⟨by omega,by omega⟩<|qB O (det_max O O O)<|F O<|H<|zU O<|qL O ⟨by omega,by omega⟩<|F O<|H ?_
   refine ⟨⟨k+1,max d (1+depT m a)⟩,⟨by omega,by omega,by omega,by rw [hd3,qN ha,depF]⟩,(by show e.Args.length-(k+1)<e.Args.length-k;omega),Weak.mk [false] ⟨G,G,G,G,G,T⟩ O⟩
  ·try simp only [I] at c2
   refine qM<|B O<|F O<|F O<|H<|W<|R O ?_
   exact congrArg vI (by rw [hd3,kI (by omega)];rfl)
theorem expr_depth (n:Nat) (e:Ex) (l:Int) (hn:n<=100) (he:e.wt<=6000000000000) (hl:l=n+1):Pur cfg 156 [vE e,vI l] (vI (depT n e)):=by
  induction n generalizing e l with
  |zero=>exact zGp 0 (fun h=>absurd rfl h) hn e l he hl
  |succ n ih=>exact zGp (n+1) (fun _ a l h1 h2=>ih a l (by omega) h1 (by omega)) hn e l he hl
theorem zFs (n:Nat) (ih:n≠0->∀(a:Ex) (l:Int),a.wt<=6000000000000->l=n->Pur cfg 169 [vE a,vI l] (vI (depT (n-1) a))) (hn:n<=100) (e:Ex) (l:Int) (he:e.wt<=6000000000000) (hl:l=n+1):
    Pur cfg 169 [vE e,vI l] (vI (depT n e)):=by
 refine zV Tryz.func169 O Tryz.ntmps169 Tryz.results169 O ?_
 intro z hz
 obtain ⟨hL,hI,hA⟩:=e.parts he
 refine B O<|zW O O (qJ O O) ?_
 rintro _ _ ⟨b1,rfl,rfl⟩
 refine F O<|H<|B O<|F O<|H<|U<|B O<|F O<|H<|zP<|zT ⟨[(6,.c _),(5,.c _),(1,.c _),(2,.c _)],[_]⟩ (Weak.mk [true] ⟨G,G,G,G,T⟩ O)<|qG 2 0 O O (Nat×Int) (fun ⟨k,d⟩=>[(6,vI k),(5,vI d)]) (fun ⟨k,d⟩=>[]) (fun ⟨k,d⟩=>k<=e.Args.length/\(1<=d)/\(d<=n+1)/\(n≠0->depT n e=depF (depT (n-1)) d (e.Args.drop k))/\(n=0->d=1)) (fun ⟨k,d⟩=>e.Args.length-k) ⟨⟨0,1⟩,⟨by omega,by omega,by omega,fun h0=>dep_start h0,fun _=>O⟩,Weak.mk [true] ⟨G,VLe.of_eq (O),G,G,T⟩ O⟩ ?_
 rintro ⟨k,d⟩ ⟨hk,hd1,hd2,hd3,hd4⟩
 show AWP _ _ _ _ _ ⟨[(6,vI k),(5,vI d)]++_,[]++_⟩
 refine U<|B O<|F O<|zG O kF<|zK wJ (K 0 O) O<|zZ O A<|yB O<|F O<|u O (fun g3_5=>zQ O O) O<|J 13 O (fun g3_5=>yM O O O) O<|yZ O (fun h=>h)<|H<|g O (fun c1=>?_) (fun c1=>?_)
 ·try simp only [I] at c1
  obtain ⟨a,ha⟩:=qP e.Args k (by omega)
  have hda:=depT_le (n-1) a
  refine zJ<|U<|zP<|zU O<|F O<|zG O kF<|zK wJ (K 0 O) O<|F O<|qE O A (by omega) (yU (by assumption))<|zL qH qA O<|F O<|qB O (zAk O O O ⟨by omega,by omega⟩)<|qK O ok169 (ih (by omega) a _ (by have:=Ex.arg_wt (qD ha);omega) (by omega)) ⟨G,O,G,O,T⟩<|qL O ⟨by omega,by omega⟩<|qB O (det_max O O O)<|F O<|H<|zU O<|F O<|qL O ⟨by omega,by omega⟩<|F O<|H ?_
  refine ⟨⟨k+1,max d (1+depT (n-1) a)⟩,⟨by omega,by omega,by omega,fun h0=>by rw [hd3 h0,qN ha,depF],fun h0=>by omega⟩,(by show e.Args.length-(k+1)<e.Args.length-k;omega),Weak.mk [true] ⟨G,G,G,G,T⟩ O⟩
 ·try simp only [I] at c1
  refine qM<|B O<|F O<|F O<|H<|W<|R O ?_
  exact congrArg vI (dep_end hl (by omega) hd3 hd4)
theorem ref14_depth (n:Nat) (e:Ex) (l:Int) (hn:n<=100) (he:e.wt<=6000000000000) (hl:l=n+1):Pur cfg 169 [vE e,vI l] (vI (depT n e)):=by
  induction n generalizing e l with
  |zero=>exact zFs 0 (fun h=>absurd rfl h) hn e l he hl
  |succ n ih=>exact zFs (n+1) (fun _ a l h1 h2=>ih a l (by omega) h1 (by omega)) hn e l he hl
theorem expr_Depth (e:Ex) (he:e.wt<=6000000000000):
    Pur cfg 81 [vE e] (vI (depT 40 e)):=by
 refine zV Tryz.func81 O Tryz.ntmps81 Tryz.results81 O ?_
 intro z hz
 refine B O<|zW O O (qJ O O) ?_
 rintro _ _ ⟨b1,rfl,rfl⟩
 refine F O<|H<|B O<|zL qH (K 0 O) O<|qK O ok156 (expr_depth 40 e 41 (by omega) he (by omega)) ⟨G,O,G,O,T⟩<|F O<|H<|W<|R O ?_
 exact O
theorem ref14_Depth (e:Ex) (he:e.wt<=6000000000000):
    Pur cfg 98 [vE e] (vI (depT 40 e)):=by
 refine zV Tryz.func98 O Tryz.ntmps98 Tryz.results98 O ?_
 intro z hz
 refine B O<|zW O O (qJ O O) ?_
 rintro _ _ ⟨b1,rfl,rfl⟩
 refine F O<|H<|B O<|zL qH (K 0 O) O<|qK O ok169 (ref14_depth 40 e 41 (by omega) he (by omega)) ⟨G,O,G,O,T⟩<|F O<|H<|W<|R O ?_
 exact O
theorem zOb (e:Ex) (ih:∀a,a∈e.Args->∀(m:Nat) (l:Int),a.wt<=6000000000000->m<=1000000->l=m->Pur cfg 170 [vE a,vI l] (vI (sizE a m))) (m:Nat) (l:Int) (he:e.wt<=6000000000000) (hm:m<=1000000) (hl:l=m):
    Pur cfg 170 [vE e,vI l] (vI (sizE e m)):=by
 refine zV Tryz.func170 O Tryz.ntmps170 Tryz.results170 O ?_
 intro z hz
 obtain ⟨hL,hI,hA⟩:=e.parts he
 refine B O<|zW O O (qJ O O) ?_
 rintro _ _ ⟨b1,rfl,rfl⟩
 refine F O<|H<|B O<|F O<|H<|U<|B O<|F O<|H<|zP<|zT ⟨[(6,.c _),(5,.c _),(1,.c _),(2,.c _)],[_]⟩ (Weak.mk [true] ⟨G,G,G,G,T⟩ O)<|qG 2 0 O O (Nat×Nat) (fun ⟨k,n⟩=>[(6,vI k),(5,vI n)]) (fun ⟨k,n⟩=>[]) (fun ⟨k,n⟩=>k<=e.Args.length/\(n<=m+1)/\(sizE e m=sizL (e.Args.drop k) m n)) (fun ⟨k,n⟩=>e.Args.length-k) ⟨⟨0,1⟩,⟨by omega,by omega,sizE_eq e m⟩,Weak.mk [true] ⟨G,VLe.of_eq (O),G,G,T⟩ O⟩ ?_
 rintro ⟨k,n⟩ ⟨hk,hn1,hn2⟩
 show AWP _ _ _ _ _ ⟨[(6,vI k),(5,vI n)]++_,[]++_⟩
 refine U<|B O<|F O<|zG O kF<|zK wJ (K 0 O) O<|zZ O A<|yB O<|F O<|u O (fun g3_5=>zQ O O) O<|u O (fun g3_5=>zQ O O) O<|rLz [(13,_),(14,_)] O P ⟨O,O,O,O,T⟩ (fun g3_5=>wA O O O) O<|yZ O (fun h=>h)<|H<|g O (fun c1=>?_) (fun c1=>?_)
 ·try simp only [I] at c1
  obtain ⟨a,ha⟩:=qP e.Args k (by omega)
  have hsa:=sizE_min a (m-n)
  refine zJ<|U<|zP<|zU O<|F O<|zG O kF<|zK wJ (K 0 O) O<|F O<|qE O A (by omega) (yU (by assumption))<|zL qH qA O<|F O<|F O<|qB O (zAk O O O ⟨by omega,by omega⟩)<|qK O ok170 (ih a (qD ha) (m-n) _ (by have:=Ex.arg_wt (qD ha);omega) (by omega) (by omega)) ⟨G,O,G,O,T⟩<|qL O ⟨by omega,by omega⟩<|F O<|H<|zU O<|F O<|qL O ⟨by omega,by omega⟩<|F O<|H ?_
  refine ⟨⟨k+1,n+sizE a (m-n)⟩,⟨by omega,by omega,by rw [hn2,qN ha,sizL,if_pos (by omega)]⟩,(by show e.Args.length-(k+1)<e.Args.length-k;omega),Weak.mk [true] ⟨G,VLe.of_eq (congrArg vI (by omega)),G,G,T⟩ O⟩
 ·try simp only [I] at c1
  refine qM<|B O<|F O<|F O<|H<|W<|R O ?_
  exact congrArg vI (by rw [hn2];exact congrArg Nat.cast (siz_end hl (by omega)))
theorem ref14_size (e:Ex) (m:Nat) (l:Int) (he:e.wt<=6000000000000) (hm:m<=1000000) (hl:l=m):Pur cfg 170 [vE e,vI l] (vI (sizE e m)):=by
  induction e using Ex.ind generalizing m l with
  |_ e ih=>exact zOb e (fun a ha m l h1 h2 h3=>ih a ha m l h1 h2 h3) m l he hm hl
theorem ref14_Size (e:Ex) (he:e.wt<=6000000000000):
    Pur cfg 99 [vE e] (vI (szT e)):=by
 refine zV Tryz.func99 O Tryz.ntmps99 Tryz.results99 O ?_
 intro z hz
 refine B O<|zW O O (qJ O O) ?_
 rintro _ _ ⟨b1,rfl,rfl⟩
 refine F O<|H<|B O<|zL qH (K 0 O) O<|qK O ok170 (ref14_size e 2000 2000 he (by omega) O) ⟨G,O,G,O,T⟩<|qB O (det_min O O O)<|F O<|H<|W<|R O ?_
 exact congrArg vI (by rw [sizE_min,szT];omega)
theorem zHv (e:Ex) (he:e.wt<=6000000000000):
    Pur cfg 37 [vE e] (vI (validE e)):=by
 refine zV Tryz.func37 O Tryz.ntmps37 Tryz.results37 O ?_
 intro z hz
 refine B O<|zW O O (qJ O O) ?_
 rintro _ _ ⟨b1,rfl,rfl⟩
 refine F O<|H<|U<|B O<|zL qH (K 0 O) O<|qK O ok98 (ref14_Depth e he) ⟨G,O,T⟩<|qB O (yM O O O)<|H<|g O (fun c1=>?_) (fun c1=>?_)
 ·try simp only [I] at c1
  refine B O<|F O<|H<|W<|R O ?_
  rw [validE,kX c1];rfl
 ·try simp only [I] at c1
  refine zJ<|U<|B O<|zL qH (K 0 O) O<|qK O ok99 (ref14_Size e he) ⟨G,O,T⟩<|qB O (yM O O O)<|H<|g O (fun c2=>?_) (fun c2=>?_)
  ·try simp only [I] at c2
   refine B O<|F O<|H<|W<|R O ?_
   rw [validE,yE (by omega),kX c2];rfl
  ·try simp only [I] at c2
   refine zJ<|B O<|zL qH (K 0 O) O<|qK O ok100 (ref14_part e he) ⟨G,O,T⟩<|F O<|H<|W<|R O ?_
   rw [validE,yE (by omega),yE (by omega)];rfl
end Go.W
