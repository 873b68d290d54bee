/-
  Walks: what functions of the program compute. Printed by wip/gen/mk2.py.
  Conditions: none.
-/
import Derived.Test.YtlfjpejkoccibaaGreatDoorWB
set_option linter.unusedSimpArgs false
set_option linter.unusedVariables false
set_option maxRecDepth 10000
namespace Go.W
open Go Go.Eng Go.Proofs Go.L41 Go.Br
attribute [local irreducible] AWP RWP TD finQ
theorem yX:aggT Tryz.prog 44=some 13:=by kernel_rfl
theorem g:elemT Tryz.prog 42=some (44,13,160):=by kernel_rfl
theorem s:elemT Tryz.prog 70=some (41,2,32):=by kernel_rfl
theorem kQ:fieldT Tryz.prog 44 0=some (0,3):=by kernel_rfl
theorem zEt:fieldT Tryz.prog 44 1=some (1,9):=by kernel_rfl
theorem zKb:fieldT Tryz.prog 44 2=some (2,36):=by kernel_rfl
theorem zEs:fieldT Tryz.prog 44 3=some (4,38):=by kernel_rfl
theorem zCq:fieldT Tryz.prog 44 4=some (9,41):=by kernel_rfl
theorem wA:fieldT Tryz.prog 44 5=some (11,34):=by kernel_rfl
theorem kZ:fieldT Tryz.prog 44 6=some (12,42):=by kernel_rfl
theorem zEm:fieldT Tryz.prog 72 0=some (0,41):=by kernel_rfl
theorem zEl:fieldT Tryz.prog 72 1=some (2,9):=by kernel_rfl
theorem zBa:fieldT Tryz.prog 72 2=some (3,70):=by kernel_rfl
theorem fl36:flatK Tryz.prog 36=some [.int,.int]:=by kernel_rfl
theorem ok49:callOk Tryz.prog 49=true:=by kernel_rfl
theorem ok148:callOk Tryz.prog 148=true:=by kernel_rfl
theorem ok166:callOk Tryz.prog 166=true:=by kernel_rfl
theorem ok181:callOk Tryz.prog 181=true:=by kernel_rfl
theorem ok183:callOk Tryz.prog 183=true:=by kernel_rfl
theorem ok228:callOk Tryz.prog 228=true:=by kernel_rfl
theorem ok229:callOk Tryz.prog 229=true:=by kernel_rfl
theorem ok230:callOk Tryz.prog 230=true:=by kernel_rfl
theorem ok235:callOk Tryz.prog 235=true:=by kernel_rfl
theorem ok254:callOk Tryz.prog 254=true:=by kernel_rfl
theorem ok255:callOk Tryz.prog 255=true:=by kernel_rfl
theorem ok256:callOk Tryz.prog 256=true:=by kernel_rfl
theorem ok257:callOk Tryz.prog 257=true:=by kernel_rfl
theorem ok258:callOk Tryz.prog 258=true:=by kernel_rfl
theorem ok259:callOk Tryz.prog 259=true:=by kernel_rfl
theorem ok260:callOk Tryz.prog 260=true:=by kernel_rfl
theorem ok270:callOk Tryz.prog 270=true:=by kernel_rfl
theorem ok271:callOk Tryz.prog 271=true:=by kernel_rfl
theorem ok272:callOk Tryz.prog 272=true:=by kernel_rfl
theorem ok273:callOk Tryz.prog 273=true:=by kernel_rfl
theorem ok274:callOk Tryz.prog 274=true:=by kernel_rfl
theorem ok275:callOk Tryz.prog 275=true:=by kernel_rfl
theorem ok276:callOk Tryz.prog 276=true:=by kernel_rfl
theorem ok277:callOk Tryz.prog 277=true:=by kernel_rfl
theorem ok283:callOk Tryz.prog 283=true:=by kernel_rfl
theorem ok284:callOk Tryz.prog 284=true:=by kernel_rfl
theorem ok285:callOk Tryz.prog 285=true:=by kernel_rfl
theorem wR:oneT Tryz.prog 34=true:=by kernel_rfl
theorem zAj:oneT Tryz.prog 42=true:=by kernel_rfl
theorem zEe:oneT Tryz.prog 70=true:=by kernel_rfl
theorem pl36:placesT Tryz.prog 36=some [(0,1),(1,1)]:=by kernel_rfl
theorem sz44:(Tryz.prog.info? 44).map (·.size)=some 13:=by kernel_rfl
theorem sz72:(Tryz.prog.info? 72).map (·.size)=some 4:=by kernel_rfl
theorem un4:Tryz.prog.underlying 4=some .bool:=by kernel_rfl
theorem zr36:zeroT Tryz.prog 36=some [(Value.int IntKind.i64 0),(Value.int IntKind.i64 0)]:=by kernel_rfl
theorem zr44:zeroT Tryz.prog 44=some [(Value.int IntKind.i64 0),(Value.string (ByteArray.mk #[])),(Value.int IntKind.i64 0),(Value.int IntKind.i64 0),(Value.int IntKind.i64 0),(Value.int IntKind.i64 0),(Value.int IntKind.i64 0),(Value.int IntKind.i64 0),(Value.int IntKind.i64 0),(Value.int IntKind.i64 0),(Value.slice none 0 0),(Value.slice none 0 0),(Value.slice none 0 0)]:=by kernel_rfl
theorem zr72:zeroT Tryz.prog 72=some [(Value.int IntKind.i64 0),(Value.slice none 0 0),(Value.string (ByteArray.mk #[])),(Value.slice none 0 0)]:=by kernel_rfl
theorem expr_operands (op:Int):
    Pur cfg 275 [vI op] (vI (nArgs op)):=by
 refine zR Tryz.func275 O Tryz.ntmps275 Tryz.results275 O ?_
 intro z hz
 refine G O<|F O<|I<|zJ<|G O<|F O<|I<|zQ<|zJ<|G O<|yE O<|F O<|I<|zF O (fun c1=>?_) (fun c1=>?_)
 ·try simp only [R] at c1
  refine zI<|zF O (fun c3=>?_) (fun c3=>?_)
  ·try simp only [R] at c3
   refine G O<|F O<|I<|o<|X O ?_
   exact congrArg vI (by unfold nArgs;(repeat' split)<;>omega)
  ·try simp only [R] at c3
   refine zJ<|G O<|yE O<|F O<|I<|zF O (fun c4=>?_) (fun c4=>?_)
   ·try simp only [R] at c4
    refine zI<|zF O (fun c6=>?_) (fun c6=>?_)
    ·try simp only [R] at c6
     refine G O<|F O<|I<|o<|X O ?_
     exact congrArg vI (by unfold nArgs;(repeat' split)<;>omega)
    ·try simp only [R] at c6
     refine G O<|yE O<|F O<|I<|zF O (fun c7=>?_) (fun c7=>?_)
     ·try simp only [R] at c7
      refine G O<|F O<|I<|o<|X O ?_
      exact congrArg vI (by unfold nArgs;(repeat' split)<;>omega)
     ·try simp only [R] at c7
      refine zI<|G O<|F O<|I<|o<|X O ?_
      exact congrArg vI (by unfold nArgs;(repeat' split)<;>omega)
   ·try simp only [R] at c4
    refine G O<|yE O<|F O<|I<|zF O (fun c5=>?_) (fun c5=>?_)
    ·try simp only [R] at c5
     refine zI<|zF O (fun c6=>?_) (fun c6=>?_)
     ·try simp only [R] at c6
      refine G O<|F O<|I<|o<|X O ?_
      exact congrArg vI (by unfold nArgs;(repeat' split)<;>omega)
     ·try simp only [R] at c6
      refine G O<|yE O<|F O<|I<|zF O (fun c7=>?_) (fun c7=>?_)
      ·try simp only [R] at c7
       refine G O<|F O<|I<|o<|X O ?_
       exact congrArg vI (by unfold nArgs;(repeat' split)<;>omega)
      ·try simp only [R] at c7
       refine zI<|G O<|F O<|I<|o<|X O ?_
       exact congrArg vI (by unfold nArgs;(repeat' split)<;>omega)
    ·try simp only [R] at c5
     refine zS O<|yE O<|F O<|I<|zF O (fun c6=>?_) (fun c6=>?_)
     ·try simp only [R] at c6
      refine G O<|F O<|I<|o<|X O ?_
      exact congrArg vI (by unfold nArgs;(repeat' split)<;>omega)
     ·try simp only [R] at c6
      refine G O<|yE O<|F O<|I<|zF O (fun c7=>?_) (fun c7=>?_)
      ·try simp only [R] at c7
       refine G O<|F O<|I<|o<|X O ?_
       exact congrArg vI (by unfold nArgs;(repeat' split)<;>omega)
      ·try simp only [R] at c7
       refine zI<|G O<|F O<|I<|o<|X O ?_
       exact congrArg vI (by unfold nArgs;(repeat' split)<;>omega)
 ·try simp only [R] at c1
  refine G O<|yE O<|F O<|I<|zF O (fun c2=>?_) (fun c2=>?_)
  ·try simp only [R] at c2
   refine zI<|zF O (fun c3=>?_) (fun c3=>?_)
   ·try simp only [R] at c3
    refine G O<|F O<|I<|o<|X O ?_
    exact congrArg vI (by unfold nArgs;(repeat' split)<;>omega)
   ·try simp only [R] at c3
    refine zJ<|G O<|yE O<|F O<|I<|zF O (fun c4=>?_) (fun c4=>?_)
    ·try simp only [R] at c4
     refine zI<|zF O (fun c6=>?_) (fun c6=>?_)
     ·try simp only [R] at c6
      refine G O<|F O<|I<|o<|X O ?_
      exact congrArg vI (by unfold nArgs;(repeat' split)<;>omega)
     ·try simp only [R] at c6
      refine G O<|yE O<|F O<|I<|zF O (fun c7=>?_) (fun c7=>?_)
      ·try simp only [R] at c7
       refine G O<|F O<|I<|o<|X O ?_
       exact congrArg vI (by unfold nArgs;(repeat' split)<;>omega)
      ·try simp only [R] at c7
       refine zI<|G O<|F O<|I<|o<|X O ?_
       exact congrArg vI (by unfold nArgs;(repeat' split)<;>omega)
    ·try simp only [R] at c4
     refine G O<|yE O<|F O<|I<|zF O (fun c5=>?_) (fun c5=>?_)
     ·try simp only [R] at c5
      refine zI<|zF O (fun c6=>?_) (fun c6=>?_)
      ·try simp only [R] at c6
       refine G O<|F O<|I<|o<|X O ?_
       exact congrArg vI (by unfold nArgs;(repeat' split)<;>omega)
      ·try simp only [R] at c6
       refine G O<|yE O<|F O<|I<|zF O (fun c7=>?_) (fun c7=>?_)
       ·try simp only [R] at c7
        refine G O<|F O<|I<|o<|X O ?_
        exact congrArg vI (by unfold nArgs;(repeat' split)<;>omega)
       ·try simp only [R] at c7
        refine zI<|G O<|F O<|I<|o<|X O ?_
        exact congrArg vI (by unfold nArgs;(repeat' split)<;>omega)
     ·try simp only [R] at c5
      refine zS O<|yE O<|F O<|I<|zF O (fun c6=>?_) (fun c6=>?_)
      ·try simp only [R] at c6
       refine G O<|F O<|I<|o<|X O ?_
       exact congrArg vI (by unfold nArgs;(repeat' split)<;>omega)
      ·try simp only [R] at c6
       refine G O<|yE O<|F O<|I<|zF O (fun c7=>?_) (fun c7=>?_)
       ·try simp only [R] at c7
        refine G O<|F O<|I<|o<|X O ?_
        exact congrArg vI (by unfold nArgs;(repeat' split)<;>omega)
       ·try simp only [R] at c7
        refine zI<|G O<|F O<|I<|o<|X O ?_
        exact congrArg vI (by unfold nArgs;(repeat' split)<;>omega)
  ·try simp only [R] at c2
   refine zS O<|yE O<|F O<|I<|zF O (fun c3=>?_) (fun c3=>?_)
   ·try simp only [R] at c3
    refine G O<|F O<|I<|o<|X O ?_
    exact congrArg vI (by unfold nArgs;(repeat' split)<;>omega)
   ·try simp only [R] at c3
    refine zJ<|G O<|yE O<|F O<|I<|zF O (fun c4=>?_) (fun c4=>?_)
    ·try simp only [R] at c4
     refine zI<|zF O (fun c6=>?_) (fun c6=>?_)
     ·try simp only [R] at c6
      refine G O<|F O<|I<|o<|X O ?_
      exact congrArg vI (by unfold nArgs;(repeat' split)<;>omega)
     ·try simp only [R] at c6
      refine G O<|yE O<|F O<|I<|zF O (fun c7=>?_) (fun c7=>?_)
      ·try simp only [R] at c7
       refine G O<|F O<|I<|o<|X O ?_
       exact congrArg vI (by unfold nArgs;(repeat' split)<;>omega)
      ·try simp only [R] at c7
       refine zI<|G O<|F O<|I<|o<|X O ?_
       exact congrArg vI (by unfold nArgs;(repeat' split)<;>omega)
    ·try simp only [R] at c4
     refine G O<|yE O<|F O<|I<|zF O (fun c5=>?_) (fun c5=>?_)
     ·try simp only [R] at c5
      refine zI<|zF O (fun c6=>?_) (fun c6=>?_)
      ·try simp only [R] at c6
       refine G O<|F O<|I<|o<|X O ?_
       exact congrArg vI (by unfold nArgs;(repeat' split)<;>omega)
      ·try simp only [R] at c6
       refine G O<|yE O<|F O<|I<|zF O (fun c7=>?_) (fun c7=>?_)
       ·try simp only [R] at c7
        refine G O<|F O<|I<|o<|X O ?_
        exact congrArg vI (by unfold nArgs;(repeat' split)<;>omega)
       ·try simp only [R] at c7
        refine zI<|G O<|F O<|I<|o<|X O ?_
        exact congrArg vI (by unfold nArgs;(repeat' split)<;>omega)
     ·try simp only [R] at c5
      refine zS O<|yE O<|F O<|I<|zF O (fun c6=>?_) (fun c6=>?_)
      ·try simp only [R] at c6
       refine G O<|F O<|I<|o<|X O ?_
       exact congrArg vI (by unfold nArgs;(repeat' split)<;>omega)
      ·try simp only [R] at c6
       refine G O<|yE O<|F O<|I<|zF O (fun c7=>?_) (fun c7=>?_)
       ·try simp only [R] at c7
        refine G O<|F O<|I<|o<|X O ?_
        exact congrArg vI (by unfold nArgs;(repeat' split)<;>omega)
       ·try simp only [R] at c7
        refine zI<|G O<|F O<|I<|o<|X O ?_
        exact congrArg vI (by unfold nArgs;(repeat' split)<;>omega)
theorem kY (e:Ex):
    Pur cfg 166 [vE e] (vB (isCond e)):=by
 refine zR Tryz.func166 O Tryz.ntmps166 Tryz.results166 O ?_
 intro z hz
 refine G O<|zU O O (qM O O) ?_
 rintro _ _ ⟨b1,rfl,rfl⟩
 refine F O<|I<|G O<|zH O kQ<|zK J (Y 0 O) O<|zX O (wQ O O O)<|F O<|rL0 O (fun g1_3=>zD O kQ O) O<|B 7 O (fun g1_3=>Q O J O (Y 0 O) O) O<|B 8 O (fun g1_3=>wQ O O O) O<|yQ O (fun h=>h)<|F O<|I<|o<|X O ?_
 exact O
theorem zNy (op:Int):
    Pur cfg 283 [vI op] (vI (nArgs op)):=by
 refine zR Tryz.func283 O Tryz.ntmps283 Tryz.results283 O ?_
 intro z hz
 refine G O<|F O<|I<|zJ<|G O<|F O<|I<|zQ<|zJ<|G O<|yE O<|F O<|I<|zF O (fun c1=>?_) (fun c1=>?_)
 ·try simp only [R] at c1
  refine zI<|zF O (fun c3=>?_) (fun c3=>?_)
  ·try simp only [R] at c3
   refine G O<|F O<|I<|o<|X O ?_
   exact congrArg vI (by unfold nArgs;(repeat' split)<;>omega)
  ·try simp only [R] at c3
   refine zJ<|G O<|yE O<|F O<|I<|zF O (fun c4=>?_) (fun c4=>?_)
   ·try simp only [R] at c4
    refine zI<|zF O (fun c6=>?_) (fun c6=>?_)
    ·try simp only [R] at c6
     refine G O<|F O<|I<|o<|X O ?_
     exact congrArg vI (by unfold nArgs;(repeat' split)<;>omega)
    ·try simp only [R] at c6
     refine G O<|yE O<|F O<|I<|zF O (fun c7=>?_) (fun c7=>?_)
     ·try simp only [R] at c7
      refine G O<|F O<|I<|o<|X O ?_
      exact congrArg vI (by unfold nArgs;(repeat' split)<;>omega)
     ·try simp only [R] at c7
      refine zI<|G O<|F O<|I<|o<|X O ?_
      exact congrArg vI (by unfold nArgs;(repeat' split)<;>omega)
   ·try simp only [R] at c4
    refine G O<|yE O<|F O<|I<|zF O (fun c5=>?_) (fun c5=>?_)
    ·try simp only [R] at c5
     refine zI<|zF O (fun c6=>?_) (fun c6=>?_)
     ·try simp only [R] at c6
      refine G O<|F O<|I<|o<|X O ?_
      exact congrArg vI (by unfold nArgs;(repeat' split)<;>omega)
     ·try simp only [R] at c6
      refine G O<|yE O<|F O<|I<|zF O (fun c7=>?_) (fun c7=>?_)
      ·try simp only [R] at c7
       refine G O<|F O<|I<|o<|X O ?_
       exact congrArg vI (by unfold nArgs;(repeat' split)<;>omega)
      ·try simp only [R] at c7
       refine zI<|G O<|F O<|I<|o<|X O ?_
       exact congrArg vI (by unfold nArgs;(repeat' split)<;>omega)
    ·try simp only [R] at c5
     refine zS O<|yE O<|F O<|I<|zF O (fun c6=>?_) (fun c6=>?_)
     ·try simp only [R] at c6
      refine G O<|F O<|I<|o<|X O ?_
      exact congrArg vI (by unfold nArgs;(repeat' split)<;>omega)
     ·try simp only [R] at c6
      refine G O<|yE O<|F O<|I<|zF O (fun c7=>?_) (fun c7=>?_)
      ·try simp only [R] at c7
       refine G O<|F O<|I<|o<|X O ?_
       exact congrArg vI (by unfold nArgs;(repeat' split)<;>omega)
      ·try simp only [R] at c7
       refine zI<|G O<|F O<|I<|o<|X O ?_
       exact congrArg vI (by unfold nArgs;(repeat' split)<;>omega)
 ·try simp only [R] at c1
  refine G O<|yE O<|F O<|I<|zF O (fun c2=>?_) (fun c2=>?_)
  ·try simp only [R] at c2
   refine zI<|zF O (fun c3=>?_) (fun c3=>?_)
   ·try simp only [R] at c3
    refine G O<|F O<|I<|o<|X O ?_
    exact congrArg vI (by unfold nArgs;(repeat' split)<;>omega)
   ·try simp only [R] at c3
    refine zJ<|G O<|yE O<|F O<|I<|zF O (fun c4=>?_) (fun c4=>?_)
    ·try simp only [R] at c4
     refine zI<|zF O (fun c6=>?_) (fun c6=>?_)
     ·try simp only [R] at c6
      refine G O<|F O<|I<|o<|X O ?_
      exact congrArg vI (by unfold nArgs;(repeat' split)<;>omega)
     ·try simp only [R] at c6
      refine G O<|yE O<|F O<|I<|zF O (fun c7=>?_) (fun c7=>?_)
      ·try simp only [R] at c7
       refine G O<|F O<|I<|o<|X O ?_
       exact congrArg vI (by unfold nArgs;(repeat' split)<;>omega)
      ·try simp only [R] at c7
       refine zI<|G O<|F O<|I<|o<|X O ?_
       exact congrArg vI (by unfold nArgs;(repeat' split)<;>omega)
    ·try simp only [R] at c4
     refine G O<|yE O<|F O<|I<|zF O (fun c5=>?_) (fun c5=>?_)
     ·try simp only [R] at c5
      refine zI<|zF O (fun c6=>?_) (fun c6=>?_)
      ·try simp only [R] at c6
       refine G O<|F O<|I<|o<|X O ?_
       exact congrArg vI (by unfold nArgs;(repeat' split)<;>omega)
      ·try simp only [R] at c6
       refine G O<|yE O<|F O<|I<|zF O (fun c7=>?_) (fun c7=>?_)
       ·try simp only [R] at c7
        refine G O<|F O<|I<|o<|X O ?_
        exact congrArg vI (by unfold nArgs;(repeat' split)<;>omega)
       ·try simp only [R] at c7
        refine zI<|G O<|F O<|I<|o<|X O ?_
        exact congrArg vI (by unfold nArgs;(repeat' split)<;>omega)
     ·try simp only [R] at c5
      refine zS O<|yE O<|F O<|I<|zF O (fun c6=>?_) (fun c6=>?_)
      ·try simp only [R] at c6
       refine G O<|F O<|I<|o<|X O ?_
       exact congrArg vI (by unfold nArgs;(repeat' split)<;>omega)
      ·try simp only [R] at c6
       refine G O<|yE O<|F O<|I<|zF O (fun c7=>?_) (fun c7=>?_)
       ·try simp only [R] at c7
        refine G O<|F O<|I<|o<|X O ?_
        exact congrArg vI (by unfold nArgs;(repeat' split)<;>omega)
       ·try simp only [R] at c7
        refine zI<|G O<|F O<|I<|o<|X O ?_
        exact congrArg vI (by unfold nArgs;(repeat' split)<;>omega)
  ·try simp only [R] at c2
   refine zS O<|yE O<|F O<|I<|zF O (fun c3=>?_) (fun c3=>?_)
   ·try simp only [R] at c3
    refine G O<|F O<|I<|o<|X O ?_
    exact congrArg vI (by unfold nArgs;(repeat' split)<;>omega)
   ·try simp only [R] at c3
    refine zJ<|G O<|yE O<|F O<|I<|zF O (fun c4=>?_) (fun c4=>?_)
    ·try simp only [R] at c4
     refine zI<|zF O (fun c6=>?_) (fun c6=>?_)
     ·try simp only [R] at c6
      refine G O<|F O<|I<|o<|X O ?_
      exact congrArg vI (by unfold nArgs;(repeat' split)<;>omega)
     ·try simp only [R] at c6
      refine G O<|yE O<|F O<|I<|zF O (fun c7=>?_) (fun c7=>?_)
      ·try simp only [R] at c7
       refine G O<|F O<|I<|o<|X O ?_
       exact congrArg vI (by unfold nArgs;(repeat' split)<;>omega)
      ·try simp only [R] at c7
       refine zI<|G O<|F O<|I<|o<|X O ?_
       exact congrArg vI (by unfold nArgs;(repeat' split)<;>omega)
    ·try simp only [R] at c4
     refine G O<|yE O<|F O<|I<|zF O (fun c5=>?_) (fun c5=>?_)
     ·try simp only [R] at c5
      refine zI<|zF O (fun c6=>?_) (fun c6=>?_)
      ·try simp only [R] at c6
       refine G O<|F O<|I<|o<|X O ?_
       exact congrArg vI (by unfold nArgs;(repeat' split)<;>omega)
      ·try simp only [R] at c6
       refine G O<|yE O<|F O<|I<|zF O (fun c7=>?_) (fun c7=>?_)
       ·try simp only [R] at c7
        refine G O<|F O<|I<|o<|X O ?_
        exact congrArg vI (by unfold nArgs;(repeat' split)<;>omega)
       ·try simp only [R] at c7
        refine zI<|G O<|F O<|I<|o<|X O ?_
        exact congrArg vI (by unfold nArgs;(repeat' split)<;>omega)
     ·try simp only [R] at c5
      refine zS O<|yE O<|F O<|I<|zF O (fun c6=>?_) (fun c6=>?_)
      ·try simp only [R] at c6
       refine G O<|F O<|I<|o<|X O ?_
       exact congrArg vI (by unfold nArgs;(repeat' split)<;>omega)
      ·try simp only [R] at c6
       refine G O<|yE O<|F O<|I<|zF O (fun c7=>?_) (fun c7=>?_)
       ·try simp only [R] at c7
        refine G O<|F O<|I<|o<|X O ?_
        exact congrArg vI (by unfold nArgs;(repeat' split)<;>omega)
       ·try simp only [R] at c7
        refine zI<|G O<|F O<|I<|o<|X O ?_
        exact congrArg vI (by unfold nArgs;(repeat' split)<;>omega)
theorem kS (e:Ex):
    Pur cfg 181 [vE e] (vB (isCond e)):=by
 refine zR Tryz.func181 O Tryz.ntmps181 Tryz.results181 O ?_
 intro z hz
 refine G O<|zU O O (qM O O) ?_
 rintro _ _ ⟨b1,rfl,rfl⟩
 refine F O<|I<|G O<|zH O kQ<|zK J (Y 0 O) O<|zX O (wG O O O)<|F O<|rL0 O (fun g1_3=>zD O kQ O) O<|B 7 O (fun g1_3=>Q O J O (Y 0 O) O) O<|B 8 O (fun g1_3=>wQ O O O) O<|yQ O (fun h=>h)<|F O<|I<|o<|X O ?_
 exact O
theorem zHk (op i:Int):
    Pur cfg 277 [vI op,vI i] (vB (wantC op i)):=by
 refine zR Tryz.func277 O Tryz.ntmps277 Tryz.results277 O ?_
 intro z hz
 refine G O<|F O<|I<|zJ<|G O<|F O<|I<|zQ<|zJ<|G O<|yE O<|F O<|I<|zF O (fun c1=>?_) (fun c1=>?_)
 ·try simp only [R] at c1
  refine zI<|zF O (fun c3=>?_) (fun c3=>?_)
  ·try simp only [R] at c3
   refine G O<|F O<|I<|o<|X O ?_
   exact congrArg vB (by unfold wantC;first|(exfalso;omega)|(simp [*];done)|(rw [Bool.eq_iff_iff];simp only [Bool.or_eq_true,Bool.and_eq_true,decide_eq_true_eq];omega))
  ·try simp only [R] at c3
   refine zI<|G O<|F O<|yE O<|F O<|rL0 O (fun g6_2=>zN O O) O<|B 13 O (fun g6_2=>yG O O O) O<|yQ O (fun h=>h)<|F O<|I<|o<|X O ?_
   exact congrArg vB (by unfold wantC;first|(exfalso;omega)|(simp [*];done)|(rw [Bool.eq_iff_iff];simp only [Bool.or_eq_true,Bool.and_eq_true,decide_eq_true_eq];omega))
 ·try simp only [R] at c1
  refine G O<|yE O<|F O<|I<|zF O (fun c2=>?_) (fun c2=>?_)
  ·try simp only [R] at c2
   refine zI<|zF O (fun c3=>?_) (fun c3=>?_)
   ·try simp only [R] at c3
    refine G O<|F O<|I<|o<|X O ?_
    exact congrArg vB (by unfold wantC;first|(exfalso;omega)|(simp [*];done)|(rw [Bool.eq_iff_iff];simp only [Bool.or_eq_true,Bool.and_eq_true,decide_eq_true_eq];omega))
   ·try simp only [R] at c3
    refine zI<|G O<|F O<|yE O<|F O<|rL0 O (fun g6_2=>zN O O) O<|B 13 O (fun g6_2=>yG O O O) O<|yQ O (fun h=>h)<|F O<|I<|o<|X O ?_
    exact congrArg vB (by unfold wantC;first|(exfalso;omega)|(simp [*];done)|(rw [Bool.eq_iff_iff];simp only [Bool.or_eq_true,Bool.and_eq_true,decide_eq_true_eq];omega))
  ·try simp only [R] at c2
   refine zS O<|yE O<|F O<|I<|zF O (fun c3=>?_) (fun c3=>?_)
   ·try simp only [R] at c3
    refine G O<|F O<|I<|o<|X O ?_
    exact congrArg vB (by unfold wantC;first|(exfalso;omega)|(simp [*];done)|(rw [Bool.eq_iff_iff];simp only [Bool.or_eq_true,Bool.and_eq_true,decide_eq_true_eq];omega))
   ·try simp only [R] at c3
    refine zI<|G O<|F O<|yE O<|F O<|rL0 O (fun g6_2=>zN O O) O<|B 13 O (fun g6_2=>yG O O O) O<|yQ O (fun h=>h)<|F O<|I<|o<|X O ?_
    exact congrArg vB (by unfold wantC;first|(exfalso;omega)|(simp [*];done)|(rw [Bool.eq_iff_iff];simp only [Bool.or_eq_true,Bool.and_eq_true,decide_eq_true_eq];omega))
theorem ref14_wants (op i:Int):
    Pur cfg 284 [vI op,vI i] (vB (wantC op i)):=by
 refine zR Tryz.func284 O Tryz.ntmps284 Tryz.results284 O ?_
 intro z hz
 refine G O<|F O<|I<|G O<|F O<|yE O<|F O<|rL0 O (fun g1_2=>zN O O) O<|B 8 O (fun g1_2=>yG O O O) O<|yQ O (fun h=>h)<|F O<|rL0 O (fun g1_6=>zN O O) O<|B 12 O (fun g1_6=>yG O O O) O<|r_or O (fun h=>(lzf h))<|F O<|rL0 O (fun g1_10=>zN O O) O<|B 16 O (fun g1_10=>yG O O O) O<|r_or O (fun h=>(lzf h))<|F O<|rL0 O (fun g1_14=>zN O O) O<|B 20 O (fun g1_14=>yG O O O) O<|r_or O (fun h=>(lzf h))<|F O<|I<|o<|X O ?_
 exact O
theorem zSw (l:Lf):
    Pur cfg 270 [vLin l] (vB (zeroL l)):=by
 refine zR Tryz.func270 O Tryz.ntmps270 Tryz.results270 O ?_
 intro z hz
 refine G O<|zU O O (qM O O) ?_
 rintro _ _ ⟨b1,rfl,rfl⟩
 refine F O<|I<|G O<|zH O zCw<|zK W (Y 0 O) O<|yE O<|F O<|rL0 O (fun g1_3=>zD O kM O) O<|B 7 O (fun g1_3=>Q O wX O (Y 0 O) O) O<|B 8 O (fun g1_3=>yB O U O) O<|B 9 O (fun g1_3=>yG O O O) O<|yQ O (fun h=>h)<|F O<|I<|o<|X O ?_
 exact O
theorem zSv (x:Ix):
    Pur cfg 273 [vIndex x] (vB (wellIx x)):=by
 refine zR Tryz.func273 O Tryz.ntmps273 Tryz.results273 O ?_
 intro z hz
 refine G O<|zU O O (qM O O) ?_
 rintro _ _ ⟨b1,rfl,rfl⟩
 refine F O<|I<|zJ<|G O<|zH O zEl<|zK one9 (Y 0 O) O<|zX O (yU O O O)<|I<|zF O (fun c1=>?_) (fun c1=>?_)
 ·try simp only [R] at c1
  refine G O<|zH O zBa<|zK zEe (Y 0 O) O<|qB O s<|yE O<|F O<|I<|o<|X O ?_
  rw [wellIx,wM c1];rfl
 ·try simp only [R] at c1
  refine zI<|G O<|zH O zEm<|zO yY (Y 0 O) O<|qJ O ok270 (zSw x.Lin) ⟨H,O,T⟩<|F O<|I<|o<|X O ?_
  rw [wellIx,yJ c1];rfl
theorem expr_syntax_1 (x:Ix):
    Pur cfg 272 [vIndex x] (vB (!wellIx x)):=by
 refine zR Tryz.func272 O Tryz.ntmps272 Tryz.results272 O ?_
 intro z hz
 refine G O<|zU O O (qM O O) ?_
 rintro _ _ ⟨b1,rfl,rfl⟩
 refine F O<|I<|G O<|zO zOa (Y 0 O) O<|qJ O ok273 (zSv x) ⟨H,O,T⟩<|kO O<|F O<|I<|o<|X O ?_
 exact O
theorem expr_names_1 (x:Ix):
    Pur cfg 274 [vIndex x] (vB (!nmIx x)):=by
 refine zR Tryz.func274 O Tryz.ntmps274 Tryz.results274 O ?_
 intro z hz
 refine G O<|zU O O (qM O O) ?_
 rintro _ _ ⟨b1,rfl,rfl⟩
 refine F O<|I<|G O<|zH O zEl<|zK one9 (Y 0 O) O<|zX O (zBb O O O)<|F O<|rL0 O (fun g1_3=>zD O zEl O) O<|B 7 O (fun g1_3=>Q O one9 O (Y 0 O) O) O<|B 8 O (fun g1_3=>qL O ok49 (zAo _) ⟨H,O,T⟩) O<|B 9 O (fun g1_3=>kV O O) O<|yQ O (fun h=>h)<|F O<|I<|o<|X O ?_
 exact congrArg vB (by unfold nmIx;simp)
theorem expr_rank_1 (x:Ix):
    Pur cfg 276 [vIndex x] (vB (!rkIx x)):=by
 refine zR Tryz.func276 O Tryz.ntmps276 Tryz.results276 O ?_
 intro z hz
 refine G O<|zU O O (qM O O) ?_
 rintro _ _ ⟨b1,rfl,rfl⟩
 refine F O<|I<|G O<|zH O zBa<|zK zEe (Y 0 O) O<|qB O s<|zX O (yC O O O)<|F O<|I<|o<|X O ?_
 exact congrArg vB (by unfold rkIx;simp)
theorem expr_syntax (e:Ex) (he:e.wt<=6000000000000):
    Pur cfg 236 [vE e] (vB (synOk e)):=by
 refine zR Tryz.func236 O Tryz.ntmps236 Tryz.results236 O ?_
 intro z hz
 obtain ⟨hL,hI,hA⟩:=e.parts he
 refine G O<|zU O O (qM O O) ?_
 rintro _ _ ⟨b1,rfl,rfl⟩
 refine F O<|I<|zJ<|qX 13 mixed (by kernel_rfl) O O<|M O O (zD O kQ O)<|M O O (Q O J O (Y 0 O) O)<|M O O (yG O O O)<|M O O (zD O kQ O)<|M O O (Q O J O (Y 0 O) O)<|M O O (yG O O O)<|M O O (zN O O)<|f [] O O O O gv1 T (fun g1_6=>zD O kQ O) O<|f [(14,_)] O O O O gv1 ⟨O,O,T⟩ (fun g1_6=>Q O J O (Y 0 O) O) O<|f [(15,_)] O O O O gv1 ⟨O,O,T⟩ (fun g1_6=>yG O O O) O<|M O O (zAm O O O O (fun h=>(lzf h)))<|M O O (qY O O)<|M O O (qY O O)<|kB<|I<|zJ<|qX 8 mixed (by kernel_rfl) O O<|M O O (zD O kQ O)<|M O O (Q O J O (Y 0 O) O)<|M O O (yG O O O)<|M O O (zD O kQ O)<|M O O (Q O J O (Y 0 O) O)<|M O O (yG O O O)<|M O O (qY O O)<|M O O (qY O O)<|kB<|I<|zJ<|zQ<|G O<|zH O kQ<|zK J (Y 0 O) O<|yH O<|F O<|rL0 O (fun g3_3=>zD O kQ O) O<|B 29 O (fun g3_3=>Q O J O (Y 0 O) O) O<|B 30 O (fun g3_3=>yC O O O) O<|r_or O (fun h=>(lzf h))<|F O<|I<|zF O (fun c1=>?_) (fun c1=>?_)
 ·refine G O<|F O<|I<|o<|X O ?_
  exact congrArg vB (by simp only [synOk,c1,Bool.not_true,Bool.not_false,Bool.true_and,Bool.and_true,Bool.false_and,Bool.and_false])
 ·refine G O<|F O<|kO O<|F O<|rL0 O (fun g5_2=>zD O zKb O) O<|B 37 O (fun g5_2=>zY O agg36 O (Y 0 O) O) O<|rL0 O (fun g5_2=>zBw O zr36 pl36 O) O<|rLz [(38,_),(39,_)] O gv1 ⟨O,O,O,O,T⟩ (fun g5_2=>zAu O fl36 O O O) O<|yQ O (fun h=>h)<|F O<|I<|zF O (fun c2=>?_) (fun c2=>?_)
  ·have c2:(!decide (e.Op=1)&& !val0 e.Val)=true:=c2
   refine G O<|F O<|I<|o<|X O ?_
   exact congrArg vB (by simp only [synOk,c2,Bool.not_true,Bool.not_false,Bool.true_and,Bool.and_true,Bool.false_and,Bool.and_false])
  ·have c2:(!decide (e.Op=1)&& !val0 e.Val)=false:=c2
   refine G O<|F O<|kO O<|F O<|rL0 O (fun g7_2=>zD O zEs O) O<|B 46 O (fun g7_2=>zY O yK O (Y 0 O) O) O<|rL0 O (fun g7_2=>zBw O m pl38 O) O<|rLz [(47,_),(48,_)] O gv1 ⟨O,O,O,O,T⟩ (fun g7_2=>zAu O fl38 O O O) O<|yQ O (fun h=>h)<|F O<|I<|zF O (fun c3=>?_) (fun c3=>?_)
   ·have c3:(!(decide (e.Op=1)||decide (e.Op=12))&& !ty0 e.Ty)=true:=c3
    refine G O<|F O<|I<|o<|X O ?_
    exact congrArg vB (by simp only [synOk,c3,Bool.not_true,Bool.not_false,Bool.true_and,Bool.and_true,Bool.false_and,Bool.and_false])
   ·have c3:(!(decide (e.Op=1)||decide (e.Op=12))&& !ty0 e.Ty)=false:=c3
    refine G O<|F O<|kO O<|F O<|rL0 O (fun g9_2=>zD O zCq O) O<|B 55 O (fun g9_2=>zY O yY O (Y 0 O) O) O<|B 56 O (fun g9_2=>qL O ok270 (zSw e.Lin) ⟨H,O,T⟩) O<|B 57 O (fun g9_2=>kV O O) O<|yQ O (fun h=>h)<|F O<|I<|zF O (fun c4=>?_) (fun c4=>?_)
    ·refine G O<|F O<|I<|o<|X O ?_
     exact congrArg vB (by simp only [synOk,c4,Bool.not_true,Bool.not_false,Bool.true_and,Bool.and_true,Bool.false_and,Bool.and_false])
    ·refine G O<|F O<|kO O<|F O<|rL0 O (fun g11_2=>zD O zEt O) O<|B 64 O (fun g11_2=>Q O one9 O (Y 0 O) O) O<|B 65 O (fun g11_2=>zBb O O O) O<|B 66 O (fun g11_2=>zN O O) O<|rLz [] O P T (fun g11_6=>zD O wA O) O<|rLz [(68,_)] O P ⟨O,O,T⟩ (fun g11_6=>Q O wR O (Y 0 O) O) O<|rLz [(69,_)] O P ⟨O,O,T⟩ (fun g11_6=>yB O A O) O<|rLz [(70,_)] O P ⟨O,O,T⟩ (fun g11_6=>yC O O O) O<|B 67 O (fun g11_2=>zAm O O O O (fun h=>kA (by assumption) (lzf h))) O<|yQ O (fun h=>h)<|F O<|I<|zF O (fun c5=>?_) (fun c5=>?_)
     ·refine G O<|F O<|I<|o<|X O ?_
      exact congrArg vB (by simp only [synOk,c5,Bool.not_true,Bool.not_false,Bool.true_and,Bool.and_true,Bool.false_and,Bool.and_false])
     ·refine zI<|G O<|zH O wA<|zK wR (Y 0 O) O<|qJ O ok271 (zAy e.Idx _ (fun x=> !wellIx x) hI (fun x _=>FnPur.of_pur (first:=[]) (cap:=[]) ok272 (expr_syntax_1 x))) ⟨H,O,H,O,T⟩<|kO O<|F O<|I<|o<|X O ?_
      exact congrArg vB (by rw [zIi];simp only [synOk,c1,c2,c3,c4,c5,Bool.not_true,Bool.not_false,Bool.true_and,Bool.and_true,Bool.false_and,Bool.and_false])
theorem expr_names (e:Ex) (he:e.wt<=6000000000000):
    Pur cfg 237 [vE e] (vB (namesE e)):=by
 refine zR Tryz.func237 O Tryz.ntmps237 Tryz.results237 O ?_
 intro z hz
 obtain ⟨hL,hI,hA⟩:=e.parts he
 refine G O<|zU O O (qM O O) ?_
 rintro _ _ ⟨b1,rfl,rfl⟩
 refine F O<|I<|zJ<|G O<|zH O kQ<|zK J (Y 0 O) O<|yE O<|F O<|rL0 O (fun g1_3=>zD O zEt O) O<|B 7 O (fun g1_3=>Q O one9 O (Y 0 O) O) O<|B 8 O (fun g1_3=>qL O ok49 (zAo _) ⟨H,O,T⟩) O<|B 9 O (fun g1_3=>kV O O) O<|yQ O (fun h=>h)<|I<|zF O (fun c1=>?_) (fun c1=>?_)
 ·refine G O<|F O<|I<|o<|X O ?_
  exact congrArg vB (by simp only [namesE,c1,Bool.not_true,Bool.false_and])
 ·refine zI<|G O<|zH O wA<|zK wR (Y 0 O) O<|qJ O ok271 (zAy e.Idx _ (fun x=> !nmIx x) hI (fun x _=>FnPur.of_pur (first:=[]) (cap:=[]) ok274 (expr_names_1 x))) ⟨H,O,H,O,T⟩<|kO O<|F O<|I<|o<|X O ?_
  exact congrArg vB (by rw [zIi];simp only [namesE,c1,Bool.not_false,Bool.true_and])
theorem expr_rank (e:Ex) (he:e.wt<=6000000000000):
    Pur cfg 238 [vE e] (vB (rankE e)):=by
 refine zR Tryz.func238 O Tryz.ntmps238 Tryz.results238 O ?_
 intro z hz
 obtain ⟨hL,hI,hA⟩:=e.parts he
 refine G O<|zU O O (qM O O) ?_
 rintro _ _ ⟨b1,rfl,rfl⟩
 refine F O<|I<|zJ<|zJ<|qX 13 mixed (by kernel_rfl) O O<|M O O (zD O kZ O)<|M O O (Q O zAj O (Y 0 O) O)<|M O O (yB O g O)<|M O O (zD O kQ O)<|M O O (Q O J O (Y 0 O) O)<|M O O (qL O ok275 (expr_operands _) ⟨H,O,T⟩)<|M O O (kH O O O)<|M O O (zN O O)<|f [] O O O O gv1 T (fun g1_7=>zD O wA O) O<|f [(11,_)] O O O O gv1 ⟨O,O,T⟩ (fun g1_7=>Q O wR O (Y 0 O) O) O<|f [(12,_)] O O O O gv1 ⟨O,O,T⟩ (fun g1_7=>yB O A O) O<|f [(13,_)] O O O O gv1 ⟨O,O,T⟩ (fun g1_7=>yC O O O) O<|M O O (zAm O O O O (fun h=>(lzf h)))<|kB<|I<|zF O (fun c1=>?_) (fun c1=>?_)
 ·refine G O<|F O<|I<|o<|X O ?_
  exact congrArg vB (by simp only [rankE,c1,Bool.not_true,Bool.false_and])
 ·refine zI<|G O<|zH O wA<|zK wR (Y 0 O) O<|qJ O ok271 (zAy e.Idx _ (fun x=> !rkIx x) hI (fun x _=>FnPur.of_pur (first:=[]) (cap:=[]) ok276 (expr_rank_1 x))) ⟨H,O,H,O,T⟩<|kO O<|F O<|I<|o<|X O ?_
  exact congrArg vB (by rw [zIi];simp only [rankE,c1,Bool.not_false,Bool.true_and])
theorem expr_types (e:Ex) (he:e.wt<=6000000000000):
    Pur cfg 239 [vE e] (vB (typesE e)):=by
 refine zR Tryz.func239 O Tryz.ntmps239 Tryz.results239 O ?_
 intro z hz
 obtain ⟨hL,hI,hA⟩:=e.parts he
 refine G O<|zU O O (qM O O) ?_
 rintro _ _ ⟨b1,rfl,rfl⟩
 refine F O<|I<|zJ<|G O<|zH O kQ<|zK J (Y 0 O) O<|yE O<|F O<|rL0 O (fun g1_3=>zD O kQ O) O<|B 9 O (fun g1_3=>Q O J O (Y 0 O) O) O<|B 10 O (fun g1_3=>yG O O O) O<|r_or O (fun h=>(lzf h))<|F O<|rL0 O (fun g1_8=>zD O zEs O) O<|B 14 O (fun g1_8=>zY O yK O (Y 0 O) O) O<|B 15 O (fun g1_8=>qL O ok127 (zCl _) ⟨H,O,T⟩) O<|B 16 O (fun g1_8=>kH O O O) O<|yQ O (fun h=>h)<|I<|zF O (fun c1=>?_) (fun c1=>?_)
 ·rw [tyErr_dec] at c1
  refine G O<|F O<|I<|o<|X O ?_
  exact congrArg vB (by simp only [typesE,c1,Bool.not_true,Bool.false_and])
 ·rw [tyErr_dec] at c1
  refine zI<|zJ<|G O<|zH O kZ<|zK zAj (Y 0 O) O<|qB O g<|F O<|I<|zQ<|zW ⟨[(22,.c _),(1,.c _),(20,.c _),(21,.c _)],[_]⟩ (Weak.mk [true] ⟨H,H,H,H,T⟩ O)<|qK 1 0 O O (Nat) (fun k=>[(22,vI k)]) (fun k=>[]) (fun k=>k<=e.Args.length/\(condsOk e.Op 0 e.Args=condsOk e.Op k (e.Args.drop k))) (fun k=>e.Args.length-k) ⟨0,⟨by omega,O⟩,Weak.mk [true] ⟨H,H,H,H,T⟩ O⟩ ?_
  rintro k ⟨hk,hp⟩
  refine G O<|yH O<|I<|zJ<|zF O (fun c2=>?_) (fun c2=>?_)
  ·try simp only [R] at c2
   obtain ⟨a,ha⟩:=qW e.Args k (by omega)
   refine zI<|zJ<|zQ<|G O<|F O<|qC O g (by omega) (zCk (by assumption))<|zO yX qA O<|zU O O (qE [none,none,none,none,none,none,none,none,none,none,some 2,some 4,some 13] O zr44 O) ?_
   rintro _ _ ⟨b2,rfl,rfl⟩
   refine F O<|D 0 sz44 O<|I<|zJ<|qX 7 mixed (by kernel_rfl) O O<|M O O (zY O yX O (Y 0 O) O)<|M O O (qL O ok166 (kY a) ⟨H,O,T⟩)<|M O O (zD O kQ O)<|M O O (Q O J O (Y 1 O) O)<|M O O (zN O O)<|M O O (qL O ok277 (zHk _ _) ⟨H,O,H,O,T⟩)<|M O O (det_bneq O un4 O O)<|kB<|I<|zF O (fun c3=>?_) (fun c3=>?_)
   ·refine G O<|F O<|I<|o<|X O ?_
    exact congrArg vB (by simp only [typesE,c1,Bool.not_false,Bool.true_and];rw [hp,qR ha,condsOk,show (isCond a==wantC e.Op k)=false by simpa using c3,Bool.false_and])
   ·refine zI<|zS O<|qH O ⟨by omega,by omega⟩<|F O<|I ?_
    refine ⟨k+1,⟨by omega,(by rw [hp,qR ha,condsOk,show (isCond a==wantC e.Op k)=true by simpa using c3,Bool.true_and];rfl)⟩,(by omega),Weak.mk [false,true] ⟨H,H,H,H,T⟩ O⟩
  ·try simp only [R] at c2
   refine qN<|G O<|F O<|I<|o<|X O ?_
   exact congrArg vB (by simp only [typesE,c1,Bool.not_false,Bool.true_and];rw [hp,kC (by omega)];rfl)
theorem ref14_typed (e:Ex) (he:e.wt<=6000000000000):
    Pur cfg 259 [vE e] (vB (typesE e)):=by
 refine zR Tryz.func259 O Tryz.ntmps259 Tryz.results259 O ?_
 intro z hz
 obtain ⟨hL,hI,hA⟩:=e.parts he
 refine G O<|zU O O (qM O O) ?_
 rintro _ _ ⟨b1,rfl,rfl⟩
 refine F O<|I<|zJ<|G O<|zH O kQ<|zK J (Y 0 O) O<|yE O<|F O<|rL0 O (fun g1_3=>zD O kQ O) O<|B 8 O (fun g1_3=>Q O J O (Y 0 O) O) O<|B 9 O (fun g1_3=>yG O O O) O<|r_or O (fun h=>(lzf h))<|F O<|rL0 O (fun g1_8=>zD O zEs O) O<|B 13 O (fun g1_8=>zY O yK O (Y 0 O) O) O<|B 14 O (fun g1_8=>qL O ok148 (base_Type _) ⟨H,O,T⟩) O<|B 15 O (fun g1_8=>kV O O) O<|yQ O (fun h=>h)<|I<|zF O (fun c1=>?_) (fun c1=>?_)
 ·refine G O<|F O<|I<|o<|X O ?_
  exact congrArg vB (by simp only [typesE,c1,Bool.not_true,Bool.false_and])
 ·refine zI<|zJ<|G O<|F O<|I<|zQ<|zW ⟨[(3,.c _),(1,.c _)],[_]⟩ (Weak.mk [true] ⟨H,H,T⟩ O)<|qK 1 0 O O (Nat) (fun k=>[(3,vI k)]) (fun k=>[]) (fun k=>k<=e.Args.length/\(condsOk e.Op 0 e.Args=condsOk e.Op k (e.Args.drop k))) (fun k=>e.Args.length-k) ⟨0,⟨by omega,O⟩,Weak.mk [true] ⟨H,H,T⟩ O⟩ ?_
  rintro k ⟨hk,hp⟩
  refine zJ<|G O<|F O<|zH O kZ<|zK zAj (Y 0 O) O<|qB O g<|yH O<|I<|zF O (fun c2=>?_) (fun c2=>?_)
  ·try simp only [R] at c2
   obtain ⟨a,ha⟩:=qW e.Args k (by omega)
   refine zI<|zJ<|zQ<|zJ<|qX 11 mixed (by kernel_rfl) O O<|M O O (zD O kZ O)<|M O O (Q O zAj O (Y 0 O) O)<|M O O (zN O O)<|M O O (qD O g O O (by omega) (zCk (by assumption)))<|M O O (zY O yX O qA O)<|M O O (qL O ok181 (kS a) ⟨H,O,T⟩)<|M O O (zD O kQ O)<|M O O (Q O J O (Y 0 O) O)<|M O O (zN O O)<|M O O (qL O ok284 (ref14_wants _ _) ⟨H,O,H,O,T⟩)<|M O O (det_bneq O un4 O O)<|kB<|I<|zF O (fun c3=>?_) (fun c3=>?_)
   ·refine G O<|F O<|I<|o<|X O ?_
    exact congrArg vB (by simp only [typesE,c1,Bool.not_false,Bool.true_and];rw [hp,qR ha,condsOk,show (isCond a==wantC e.Op k)=false by simpa using c3,Bool.false_and])
   ·refine zI<|zS O<|F O<|qH O ⟨by omega,by omega⟩<|F O<|I ?_
    refine ⟨k+1,⟨by omega,(by rw [hp,qR ha,condsOk,show (isCond a==wantC e.Op k)=true by simpa using c3,Bool.true_and];rfl)⟩,(by omega),Weak.mk [true] ⟨H,H,T⟩ O⟩
  ·try simp only [R] at c2
   refine qN<|G O<|F O<|I<|o<|X O ?_
   exact congrArg vB (by simp only [typesE,c1,Bool.not_false,Bool.true_and];rw [hp,kC (by omega)];rfl)
theorem ref14_plain (e:Ex) (he:e.wt<=6000000000000):
    Pur cfg 256 [vE e] (vB (synOk e)):=by
 refine zR Tryz.func256 O Tryz.ntmps256 Tryz.results256 O ?_
 intro z hz
 obtain ⟨hL,hI,hA⟩:=e.parts he
 refine G O<|zU O O (qM O O) ?_
 rintro _ _ ⟨b1,rfl,rfl⟩
 refine F O<|I<|zJ<|G O<|zH O kQ<|zK J (Y 0 O) O<|yH O<|F O<|rL0 O (fun g1_3=>zD O kQ O) O<|B 9 O (fun g1_3=>Q O J O (Y 0 O) O) O<|B 10 O (fun g1_3=>yC O O O) O<|r_or O (fun h=>(lzf h))<|I<|zF O (fun c1=>?_) (fun c1=>?_)
 ·refine G O<|F O<|I<|o<|X O ?_
  exact congrArg vB (by simp only [synOk,c1,Bool.not_true,Bool.false_and])
 ·refine zI<|zJ<|G O<|zH O kQ<|zK J (Y 0 O) O<|yR O<|F O<|rL0 O (fun g3_3=>zD O zKb O) O<|B 17 O (fun g3_3=>zY O agg36 O (Y 0 O) O) O<|rL0 O (fun g3_3=>zBw O zr36 pl36 O) O<|rLz [(18,_),(19,_)] O gv1 ⟨O,O,O,O,T⟩ (fun g3_3=>zAu O fl36 O O O) O<|yQ O (fun h=>h)<|F O<|rL0 O (fun g3_9=>zD O kQ O) O<|B 23 O (fun g3_9=>Q O J O (Y 0 O) O) O<|B 24 O (fun g3_9=>kH O O O) O<|B 25 O (fun g3_9=>zN O O) O<|rLz [] O P T (fun g3_13=>zD O kQ O) O<|rLz [(27,_)] O P ⟨O,O,T⟩ (fun g3_13=>Q O J O (Y 0 O) O) O<|rLz [(28,_)] O P ⟨O,O,T⟩ (fun g3_13=>kH O O O) O<|B 26 O (fun g3_9=>kW O O O (fun h=>kA (by assumption) h) O) O<|B 30 O (fun g3_9=>zN O O) O<|rLz [] O P T (fun g3_18=>zD O zEs O) O<|rLz [(32,_)] O P ⟨O,O,T⟩ (fun g3_18=>zY O yK O (Y 0 O) O) O<|rLz [] O P T (fun g3_18=>zBw O m pl38 O) O<|rLz [(33,_),(34,_)] O P ⟨O,O,O,O,T⟩ (fun g3_18=>zAu O fl38 O O O) O<|B 31 O (fun g3_9=>kW O O O (fun h=>kA (by assumption) h) O) O<|r_or O (fun h=>(lzf h))<|I<|zF O (fun c2=>?_) (fun c2=>?_)
  ·have h2:=plain2 (e:=e) c2
   refine G O<|F O<|I<|o<|X O ?_
   exact congrArg vB (syn2 h2)
  ·have h2:=plain2 (e:=e) c2
   refine zI<|zJ<|G O<|zH O kQ<|zK J (Y 0 O) O<|yR O<|F O<|rL0 O (fun g5_3=>zD O zCq O) O<|B 42 O (fun g5_3=>zD O zCw O) O<|B 43 O (fun g5_3=>Q O W O (Y 0 O) O) O<|B 44 O (fun g5_3=>kH O O O) O<|B 45 O (fun g5_3=>zN O O) O<|rLz [] O P T (fun g5_8=>zD O zCq O) O<|rLz [(47,_)] O P ⟨O,O,T⟩ (fun g5_8=>zD O kM O) O<|rLz [(48,_)] O P ⟨O,O,T⟩ (fun g5_8=>Q O wX O (Y 0 O) O) O<|rLz [(49,_)] O P ⟨O,O,T⟩ (fun g5_8=>yB O U O) O<|rLz [(50,_)] O P ⟨O,O,T⟩ (fun g5_8=>yC O O O) O<|B 46 O (fun g5_3=>zAm O O O O (fun h=>kA (by assumption) (lzf h))) O<|yQ O (fun h=>h)<|F O<|rL0 O (fun g5_16=>zD O kQ O) O<|B 55 O (fun g5_16=>Q O J O (Y 0 O) O) O<|B 56 O (fun g5_16=>kH O O O) O<|B 57 O (fun g5_16=>zN O O) O<|rLz [] O P T (fun g5_20=>zD O zEt O) O<|rLz [(59,_)] O P ⟨O,O,T⟩ (fun g5_20=>Q O one9 O (Y 0 O) O) O<|rLz [(60,_)] O P ⟨O,O,T⟩ (fun g5_20=>zBb O O O) O<|rLz [(61,_)] O P ⟨O,O,T⟩ (fun g5_20=>zN O O) O<|rLz [] O P T (fun g5_24=>zD O wA O) O<|rLz [(63,_)] O P ⟨O,O,T⟩ (fun g5_24=>Q O wR O (Y 0 O) O) O<|rLz [(64,_)] O P ⟨O,O,T⟩ (fun g5_24=>yB O A O) O<|rLz [(65,_)] O P ⟨O,O,T⟩ (fun g5_24=>yC O O O) O<|rLz [(62,_)] O P ⟨O,O,T⟩ (fun g5_20=>zAm O O O O (fun h=>kA (by assumption) (lzf h))) O<|B 58 O (fun g5_16=>kW O O O (fun h=>kA (by assumption) h) O) O<|r_or O (fun h=>(lzf h))<|I<|zF O (fun c3=>?_) (fun c3=>?_)
   ·have h3:=plain3 (e:=e) c3
    refine G O<|F O<|I<|o<|X O ?_
    exact congrArg vB (syn3 h3)
   ·have h3:=plain3 (e:=e) c3
    refine zI<|zJ<|G O<|F O<|I<|zQ<|zW ⟨[(3,.c _),(1,.c _)],[_]⟩ (Weak.mk [true] ⟨H,H,T⟩ O)<|qK 1 0 O O (Nat) (fun k=>[(3,vI k)]) (fun k=>[]) (fun k=>k<=e.Idx.length/\(e.Idx.all wellIx=(e.Idx.drop k).all wellIx)) (fun k=>e.Idx.length-k) ⟨0,⟨by omega,O⟩,Weak.mk [true] ⟨H,H,T⟩ O⟩ ?_
    rintro k ⟨hk,hp⟩
    refine zJ<|G O<|F O<|zH O wA<|zK wR (Y 0 O) O<|qB O A<|yH O<|I<|zF O (fun c4=>?_) (fun c4=>?_)
    ·try simp only [R] at c4
     obtain ⟨x,hx⟩:=qW e.Idx k (by omega)
     refine zI<|zJ<|zQ<|G O<|zH O wA<|zK wR (Y 0 O) O<|F O<|qC O A (by omega) (N (by assumption))<|zO zOa qA O<|zU O O (qE [none,some 2,none,some 2] O zr72 O) ?_
     rintro _ _ ⟨b2,rfl,rfl⟩
     refine D 0 sz72 O<|I<|G O<|zH O zEl<|zK one9 (Y 0 O) O<|zX O (yU O O O)<|F O<|rL0 O (fun g11_3=>zD O zBa O) O<|B 86 O (fun g11_3=>Q O zEe O (Y 0 O) O) O<|B 87 O (fun g11_3=>yB O s O) O<|B 88 O (fun g11_3=>yC O O O) O<|yQ O (fun h=>h)<|F O<|rL0 O (fun g11_9=>zD O zEl O) O<|B 92 O (fun g11_9=>Q O one9 O (Y 0 O) O) O<|B 93 O (fun g11_9=>zBb O O O) O<|B 94 O (fun g11_9=>zN O O) O<|rLz [] O P T (fun g11_13=>zD O zEm O) O<|rLz [(96,_)] O P ⟨O,O,T⟩ (fun g11_13=>zD O zCw O) O<|rLz [(97,_)] O P ⟨O,O,T⟩ (fun g11_13=>Q O W O (Y 0 O) O) O<|rLz [(98,_)] O P ⟨O,O,T⟩ (fun g11_13=>kH O O O) O<|rLz [(99,_)] O P ⟨O,O,T⟩ (fun g11_13=>zN O O) O<|rLz [] O P T (fun g11_18=>zD O zEm O) O<|rLz [(101,_)] O P ⟨O,O,T⟩ (fun g11_18=>zD O kM O) O<|rLz [(102,_)] O P ⟨O,O,T⟩ (fun g11_18=>Q O wX O (Y 0 O) O) O<|rLz [(103,_)] O P ⟨O,O,T⟩ (fun g11_18=>yB O U O) O<|rLz [(104,_)] O P ⟨O,O,T⟩ (fun g11_18=>yC O O O) O<|rLz [(100,_)] O P ⟨O,O,T⟩ (fun g11_13=>zAm O O O O (fun h=>kA (by assumption) (lzf h))) O<|B 95 O (fun g11_9=>kW O O O (fun h=>kA (by assumption) h) O) O<|r_or O (fun h=>(lzf h))<|I<|zF O (fun c5=>?_) (fun c5=>?_)
     ·have h5:=well_dec (x:=x) c5
      refine G O<|F O<|I<|o<|X O ?_
      exact congrArg vB (by rw [synOk,zHg hx (p:=wellIx) (by simpa using h5)];simp)
     ·have h5:=well_dec (x:=x) c5
      refine zI<|zS O<|F O<|qH O ⟨by omega,by omega⟩<|F O<|I ?_
      refine ⟨k+1,⟨by omega,zQg hx hp (by simpa using h5)⟩,(by omega),Weak.mk [false,true] ⟨H,H,T⟩ O⟩
    ·try simp only [R] at c4
     refine qN<|G O<|F O<|I<|o<|X O ?_
     exact congrArg vB (syn5 c1 h2 h3 (all_end hp (by omega)))
theorem ref14_named (e:Ex) (he:e.wt<=6000000000000):
    Pur cfg 257 [vE e] (vB (namesE e)):=by
 refine zR Tryz.func257 O Tryz.ntmps257 Tryz.results257 O ?_
 intro z hz
 obtain ⟨hL,hI,hA⟩:=e.parts he
 refine G O<|zU O O (qM O O) ?_
 rintro _ _ ⟨b1,rfl,rfl⟩
 refine F O<|I<|zJ<|G O<|zH O kQ<|zK J (Y 0 O) O<|yE O<|F O<|rL0 O (fun g1_3=>zD O zEt O) O<|B 8 O (fun g1_3=>Q O one9 O (Y 0 O) O) O<|B 9 O (fun g1_3=>qL O ok60 (zFv _) ⟨H,O,T⟩) O<|B 10 O (fun g1_3=>kV O O) O<|yQ O (fun h=>h)<|I<|zF O (fun c1=>?_) (fun c1=>?_)
 ·refine G O<|F O<|I<|o<|X O ?_
  exact congrArg vB (by simp only [namesE,c1,Bool.not_true,Bool.false_and])
 ·refine zI<|zJ<|G O<|F O<|I<|zQ<|zW ⟨[(3,.c _),(1,.c _)],[_]⟩ (Weak.mk [true] ⟨H,H,T⟩ O)<|qK 1 0 O O (Nat) (fun k=>[(3,vI k)]) (fun k=>[]) (fun k=>k<=e.Idx.length/\(e.Idx.all nmIx=(e.Idx.drop k).all nmIx)) (fun k=>e.Idx.length-k) ⟨0,⟨by omega,O⟩,Weak.mk [true] ⟨H,H,T⟩ O⟩ ?_
  rintro k ⟨hk,hp⟩
  refine zJ<|G O<|F O<|zH O wA<|zK wR (Y 0 O) O<|qB O A<|yH O<|I<|zF O (fun c2=>?_) (fun c2=>?_)
  ·try simp only [R] at c2
   obtain ⟨x,hx⟩:=qW e.Idx k (by omega)
   refine zI<|zJ<|zQ<|G O<|zH O wA<|zK wR (Y 0 O) O<|F O<|qC O A (by omega) (N (by assumption))<|qQ O zEl<|zK one9 qA O<|zX O (zBb O O O)<|F O<|rL0 O (fun g6_7=>zD O wA O) O<|B 28 O (fun g6_7=>Q O wR O (Y 0 O) O) O<|rL0 O (fun g6_7=>zN O O) O<|rLz [(29,_),(30,_)] O gv1 ⟨O,O,O,O,T⟩ (fun g6_7=>qD O A O O (by omega) (N (by assumption))) O<|B 31 O (fun g6_7=>qI O zEl O) O<|B 32 O (fun g6_7=>Q O one9 O qA O) O<|B 33 O (fun g6_7=>qL O ok60 (zFv _) ⟨H,O,T⟩) O<|B 34 O (fun g6_7=>kV O O) O<|yQ O (fun h=>h)<|I<|zF O (fun c3=>?_) (fun c3=>?_)
   ·refine G O<|F O<|I<|o<|X O ?_
    exact congrArg vB (by rw [namesE,zHg hx (p:=nmIx) (by unfold nmIx;rw [c3];rfl)];simp)
   ·refine zI<|zS O<|F O<|qH O ⟨by omega,by omega⟩<|F O<|I ?_
    refine ⟨k+1,⟨by omega,zQg hx hp (by unfold nmIx;rw [c3];rfl)⟩,(by omega),Weak.mk [true] ⟨H,H,T⟩ O⟩
  ·try simp only [R] at c2
   refine qN<|G O<|F O<|I<|o<|X O ?_
   exact congrArg vB (by rw [namesE,c1,all_end hp (by omega)];rfl)
theorem ref14_ranked (e:Ex) (he:e.wt<=6000000000000):
    Pur cfg 258 [vE e] (vB (rankE e)):=by
 refine zR Tryz.func258 O Tryz.ntmps258 Tryz.results258 O ?_
 intro z hz
 obtain ⟨hL,hI,hA⟩:=e.parts he
 refine G O<|zU O O (qM O O) ?_
 rintro _ _ ⟨b1,rfl,rfl⟩
 refine F O<|I<|zJ<|zJ<|qX 13 mixed (by kernel_rfl) O O<|M O O (zD O kZ O)<|M O O (Q O zAj O (Y 0 O) O)<|M O O (yB O g O)<|M O O (zD O kQ O)<|M O O (Q O J O (Y 0 O) O)<|M O O (qL O ok283 (zNy _) ⟨H,O,T⟩)<|M O O (kH O O O)<|M O O (zN O O)<|f [] O O O O gv1 T (fun g1_7=>zD O wA O) O<|f [(12,_)] O O O O gv1 ⟨O,O,T⟩ (fun g1_7=>Q O wR O (Y 0 O) O) O<|f [(13,_)] O O O O gv1 ⟨O,O,T⟩ (fun g1_7=>yB O A O) O<|f [(14,_)] O O O O gv1 ⟨O,O,T⟩ (fun g1_7=>yC O O O) O<|M O O (zAm O O O O (fun h=>(lzf h)))<|kB<|I<|zF O (fun c1=>?_) (fun c1=>?_)
 ·refine G O<|F O<|I<|o<|X O ?_
  exact congrArg vB (by simp only [rankE,c1,Bool.not_true,Bool.false_and])
 ·refine zI<|zJ<|G O<|F O<|I<|zQ<|zW ⟨[(3,.c _),(1,.c _)],[_]⟩ (Weak.mk [true] ⟨H,H,T⟩ O)<|qK 1 0 O O (Nat) (fun k=>[(3,vI k)]) (fun k=>[]) (fun k=>k<=e.Idx.length/\(e.Idx.all rkIx=(e.Idx.drop k).all rkIx)) (fun k=>e.Idx.length-k) ⟨0,⟨by omega,O⟩,Weak.mk [true] ⟨H,H,T⟩ O⟩ ?_
  rintro k ⟨hk,hp⟩
  refine zJ<|G O<|F O<|zH O wA<|zK wR (Y 0 O) O<|qB O A<|yH O<|I<|zF O (fun c2=>?_) (fun c2=>?_)
  ·try simp only [R] at c2
   obtain ⟨x,hx⟩:=qW e.Idx k (by omega)
   refine zI<|zJ<|zQ<|G O<|zH O wA<|zK wR (Y 0 O) O<|F O<|qC O A (by omega) (N (by assumption))<|qQ O zBa<|zK zEe qA O<|qB O s<|zX O (yC O O O)<|I<|zF O (fun c3=>?_) (fun c3=>?_)
   ·refine G O<|F O<|I<|o<|X O ?_
    exact congrArg vB (by rw [rankE,zHg hx (p:=rkIx) (by unfold rkIx;rw [c3];rfl)];simp)
   ·refine zI<|zS O<|F O<|qH O ⟨by omega,by omega⟩<|F O<|I ?_
    refine ⟨k+1,⟨by omega,zQg hx hp (by unfold rkIx;rw [c3];rfl)⟩,(by omega),Weak.mk [true] ⟨H,H,T⟩ O⟩
  ·try simp only [R] at c2
   refine qN<|G O<|F O<|I<|o<|X O ?_
   exact congrArg vB (by rw [rankE,c1,all_end hp (by omega)];rfl)
theorem ref14_formed (e:Ex) (he:e.wt<=6000000000000) (hty:e.Op=1->tyOk e.Ty=true):
    Pur cfg 260 [vE e] (vB (formOk e)):=by
 refine zR Tryz.func260 O Tryz.ntmps260 Tryz.results260 O ?_
 intro z hz
 obtain ⟨hL,hI,hA⟩:=e.parts he
 refine G O<|zU O O (qM O O) ?_
 rintro _ _ ⟨b1,rfl,rfl⟩
 refine F O<|I<|zJ<|G O<|zH O kQ<|zK J (Y 0 O) O<|yE O<|F O<|rL0 O (fun g1_3=>zD O zEs O) O<|B 9 O (fun g1_3=>zY O yK O (Y 0 O) O) O<|rL0 O (fun g1_3=>zD O zKb O) O<|B 11 O (fun g1_3=>zY O agg36 O (Y 0 O) O) O<|rLz [(10,_),(12,_)] O gv1 ⟨O,O,O,O,T⟩ (fun g1_3=>qL O ok285 (base_Val e.Ty e.Val (hty (by simp only [Lz,cond_true,cond_false,Bool.and_eq_true,Bool.or_eq_true,Bool.not_eq_true',Bool.not_eq_false',Bool.or_eq_false_iff,Bool.and_eq_false_iff,decide_eq_true_eq,decide_eq_false_iff_not,Bool.not_eq_true,Bool.not_eq_false] at g1_3;exact g1_3))) ⟨H,O,H,O,T⟩) O<|B 13 O (fun g1_3=>kV O O) O<|yQ O (fun h=>h)<|F O<|rL0 O (fun g1_11=>zD O zCq O) O<|B 17 O (fun g1_11=>zY O yY O (Y 0 O) O) O<|B 18 O (fun g1_11=>qL O ok183 (zDw e.Lin hL) ⟨H,O,T⟩) O<|B 19 O (fun g1_11=>kV O O) O<|r_or O (fun h=>(lzf h))<|I<|zF O (fun c1=>?_) (fun c1=>?_)
 ·refine G O<|F O<|I<|o<|X O ?_
  exact congrArg vB (form_no c1)
 ·refine zI<|zJ<|G O<|F O<|I<|zQ<|zW ⟨[(3,.c _),(1,.c _)],[_]⟩ (Weak.mk [true] ⟨H,H,T⟩ O)<|qK 1 0 O O (Nat) (fun k=>[(3,vI k)]) (fun k=>[]) (fun k=>k<=e.Idx.length/\((formsL e).all linOk=((e.Idx.drop k).flatMap fun x=>x.Lin::x.At).all linOk)) (fun k=>e.Idx.length-k) ⟨0,⟨by omega,form_start c1⟩,Weak.mk [true] ⟨H,H,T⟩ O⟩ ?_
  rintro k ⟨hk,hp⟩
  refine zJ<|G O<|F O<|zH O wA<|zK wR (Y 0 O) O<|qB O A<|yH O<|I<|zF O (fun c2=>?_) (fun c2=>?_)
  ·try simp only [R] at c2
   obtain ⟨x,hx⟩:=qW e.Idx k (by omega)
   have hxw:=Ex.idx_wt (zZ hx)
   refine zI<|zJ<|zQ<|zJ<|G O<|zH O wA<|zK wR (Y 0 O) O<|F O<|qC O A (by omega) (N (by assumption))<|qQ O zEm<|zO yY qA O<|qJ O ok183 (zDw x.Lin (by omega)) ⟨H,O,T⟩<|kO O<|I<|zF O (fun c3=>?_) (fun c3=>?_)
   ·try simp only [R] at c3
    refine G O<|F O<|I<|o<|X O ?_
    exact congrArg vB (form_no2 hp (by rw [qR hx,List.flatMap_cons,List.all_append,List.all_cons,c3];rfl))
   ·try simp only [R] at c3
    refine zI<|G O<|F O<|I<|zQ<|zW ⟨[(4,.c _),(1,.c _),(3,.c _)],[_]⟩ (Weak.mk [true] ⟨H,H,H,T⟩ O)<|qK 1 0 O O (Nat) (fun j=>[(4,vI j)]) (fun j=>[]) (fun j=>j<=x.At.length/\(x.At.all linOk=(x.At.drop j).all linOk)) (fun j=>x.At.length-j) ⟨0,⟨by omega,O⟩,Weak.mk [true] ⟨H,H,H,T⟩ O⟩ ?_
    rintro j ⟨hj,hq⟩
    refine zJ<|G O<|F O<|zH O wA<|zK wR (Y 0 O) O<|F O<|qC O A (by omega) (N (by assumption))<|qQ O zBa<|zK zEe qA O<|qB O s<|yH O<|I<|zF O (fun c4=>?_) (fun c4=>?_)
    ·try simp only [R] at c4
     obtain ⟨l,hl⟩:=qW x.At j (by omega)
     have hlw:=zDc (zZ hl)
     refine zI<|zJ<|zQ<|G O<|zH O wA<|zK wR (Y 0 O) O<|F O<|qC O A (by omega) (N (by assumption))<|qQ O zBa<|zK zEe qA O<|F O<|qC O s (by omega) (N (by assumption))<|zO yY qA O<|qJ O ok183 (zDw l (by omega)) ⟨H,O,T⟩<|kO O<|I<|zF O (fun c5=>?_) (fun c5=>?_)
     ·try simp only [R] at c5
      refine G O<|F O<|I<|o<|X O ?_
      exact congrArg vB (form_no2 hp (by rw [qR hx,List.flatMap_cons,List.all_append,List.all_cons,zHg hl (p:=linOk) c5];simp))
     ·try simp only [R] at c5
      refine zI<|zS O<|F O<|qH O ⟨by omega,by omega⟩<|F O<|I ?_
      refine ⟨j+1,⟨by omega,zQg hl hq c5⟩,(by omega),Weak.mk [true] ⟨H,H,H,T⟩ O⟩
    ·try simp only [R] at c4
     refine qN<|zS O<|F O<|qH O ⟨by omega,by omega⟩<|F O<|I ?_
     refine ⟨k+1,⟨by omega,(by rw [hp,qR hx,List.flatMap_cons,List.all_append,List.all_cons,c3,all_end hq (by omega)];rfl)⟩,(by omega),Weak.mk [true] ⟨H,H,T⟩ O⟩
  ·try simp only [R] at c2
   refine qN<|G O<|F O<|I<|o<|X O ?_
   exact congrArg vB (form_yes c1 (by rw [hp,kC (by omega)];rfl))
theorem zRn (e:Ex) (ih:∀a,a∈e.Args->a.wt<=6000000000000->Pur cfg 230 [vE a] (vI (partE a))) (he:e.wt<=6000000000000):
    Pur cfg 230 [vE e] (vI (partE e)):=by
 refine zR Tryz.func230 O Tryz.ntmps230 Tryz.results230 O ?_
 intro z hz
 obtain ⟨hL,hI,hA⟩:=e.parts he
 refine G O<|zU O O (qM O O) ?_
 rintro _ _ ⟨b1,rfl,rfl⟩
 refine F O<|I<|zJ<|zQ<|G O<|zO yX (Y 0 O) O<|qJ O ok256 (ref14_plain e he) ⟨H,O,T⟩<|kO O<|F O<|I<|zF O (fun c1=>?_) (fun c1=>?_)
 ·try simp only [R] at c1
  refine G O<|F O<|I<|o<|X O ?_
  exact congrArg vI (by rw [zEr,show nodeErr e=5 by simp only [nodeErr,c1];rfl];rfl)
 ·try simp only [R] at c1
  refine G O<|zO yX (Y 0 O) O<|qJ O ok257 (ref14_named e he) ⟨H,O,T⟩<|kO O<|F O<|I<|zF O (fun c2=>?_) (fun c2=>?_)
  ·try simp only [R] at c2
   refine G O<|F O<|I<|o<|X O ?_
   exact congrArg vI (by rw [zEr,show nodeErr e=7 by simp only [nodeErr,c1,c2];rfl];rfl)
  ·try simp only [R] at c2
   refine G O<|zO yX (Y 0 O) O<|qJ O ok258 (ref14_ranked e he) ⟨H,O,T⟩<|kO O<|F O<|I<|zF O (fun c3=>?_) (fun c3=>?_)
   ·try simp only [R] at c3
    refine G O<|F O<|I<|o<|X O ?_
    exact congrArg vI (by rw [zEr,show nodeErr e=11 by simp only [nodeErr,c1,c2,c3];rfl];rfl)
   ·try simp only [R] at c3
    refine G O<|zO yX (Y 0 O) O<|qJ O ok259 (ref14_typed e he) ⟨H,O,T⟩<|kO O<|F O<|I<|zF O (fun c4=>?_) (fun c4=>?_)
    ·try simp only [R] at c4
     refine G O<|F O<|I<|o<|X O ?_
     exact congrArg vI (by rw [zEr,show nodeErr e=10 by simp only [nodeErr,c1,c2,c3,c4];rfl];rfl)
    ·try simp only [R] at c4
     refine G O<|zO yX (Y 0 O) O<|qJ O ok260 (ref14_formed e he (types_ty c4)) ⟨H,O,T⟩<|kO O<|F O<|I<|zF O (fun c5=>?_) (fun c5=>?_)
     ·try simp only [R] at c5
      refine G O<|F O<|I<|o<|X O ?_
      exact congrArg vI (by rw [zEr,show nodeErr e=1 by simp only [nodeErr,c1,c2,c3,c4,c5];rfl];rfl)
     ·try simp only [R] at c5
      have hn:nodeErr e=0:=by simp only [nodeErr,c1,c2,c3,c4,c5];rfl
      refine zI<|zJ<|G O<|F O<|I<|zQ<|zW ⟨[(3,.c _),(1,.c _)],[_]⟩ (Weak.mk [true] ⟨H,H,T⟩ O)<|qK 1 0 O O (Nat) (fun k=>[(3,vI k)]) (fun k=>[]) (fun k=>k<=e.Args.length/\(partL e.Args=partL (e.Args.drop k))) (fun k=>e.Args.length-k) ⟨0,⟨by omega,O⟩,Weak.mk [true] ⟨H,H,T⟩ O⟩ ?_
      rintro k ⟨hk,hp⟩
      refine zJ<|G O<|F O<|zH O kZ<|zK zAj (Y 0 O) O<|qB O g<|yH O<|I<|zF O (fun c6=>?_) (fun c6=>?_)
      ·try simp only [R] at c6
       obtain ⟨a,ha⟩:=qW e.Args k (by omega)
       refine zI<|zJ<|zQ<|G O<|zH O kZ<|zK zAj (Y 0 O) O<|F O<|qC O g (by omega) (zCk (by assumption))<|zO yX qA O<|qJ O ok230 (ih a (zZ ha) (by have:=Ex.arg_wt (zZ ha);omega)) ⟨H,O,T⟩<|F O<|I<|G O<|F O<|yR O<|I<|zF O (fun c7=>?_) (fun c7=>?_)
       ·try simp only [R] at c7
        refine G O<|F O<|F O<|I<|o<|X O ?_
        exact congrArg vI (by rw [zEr e,hn,wM rfl,cond_true,hp,qR ha,zNc,yJ c7];rfl)
       ·try simp only [R] at c7
        refine zI<|zS O<|F O<|qH O ⟨by omega,by omega⟩<|F O<|I ?_
        refine ⟨k+1,⟨by omega,(by rw [hp,qR ha,zNc,wM c7];rfl)⟩,(by omega),Weak.mk [true] ⟨H,H,T⟩ O⟩
      ·try simp only [R] at c6
       refine qN<|G O<|F O<|I<|o<|X O ?_
       exact congrArg vI (by rw [zEr,hn,wM rfl,cond_true,hp,kC (by omega)];rfl)
theorem ref14_part (e:Ex) (he:e.wt<=6000000000000):Pur cfg 230 [vE e] (vI (partE e)):=by
  induction e using Ex.ind with
  |_ e ih=>exact zRn e ih he
theorem zIt (n:Nat) (ih:n≠0->∀(a:Ex) (l:Int),a.wt<=6000000000000->l=n->Pur cfg 235 [vE a,vI l] (vI (depT (n-1) a))) (hn:n<=100) (e:Ex) (l:Int) (he:e.wt<=6000000000000) (hl:l=n+1):
    Pur cfg 235 [vE e,vI l] (vI (depT n e)):=by
 refine zR Tryz.func235 O Tryz.ntmps235 Tryz.results235 O ?_
 intro z hz
 obtain ⟨hL,hI,hA⟩:=e.parts he
 refine G O<|zU O O (qM O O) ?_
 rintro _ _ ⟨b1,rfl,rfl⟩
 refine F O<|I<|zJ<|G O<|F O<|zX O (wQ O O O)<|I<|zF O (fun c1=>?_) (fun c1=>?_)
 ·try simp only [R] at c1
  obtain rfl:n=0:=by omega
  refine G O<|F O<|F O<|I<|o<|X O ?_
  exact congrArg vI (by rw [hl];rfl)
 ·try simp only [R] at c1
  obtain ⟨m,rfl⟩:∃m,n=m+1:=⟨n-1,by omega⟩
  refine zI<|G O<|F O<|I<|zJ<|G O<|zH O kZ<|zK zAj (Y 0 O) O<|qB O g<|F O<|I<|zQ<|zW ⟨[(14,.c _),(5,.c _),(1,.c _),(12,.c _),(13,.c _)],[]⟩ (Weak.mk [false] ⟨H,H,H,H,H,T⟩ O)<|qK 2 0 O O (Nat×Int) (fun ⟨k,d⟩=>[(14,vI k),(5,vI d)]) (fun ⟨k,d⟩=>[]) (fun ⟨k,d⟩=>k<=e.Args.length/\(1<=d)/\(d<=m+2)/\(depT (m+1) e=depF (depT m) d (e.Args.drop k))) (fun ⟨k,d⟩=>e.Args.length-k) ⟨⟨0,1⟩,⟨by omega,by omega,by omega,O⟩,Weak.mk [] ⟨H,VLe.of_eq (O),H,H,H,T⟩ O⟩ ?_
  rintro ⟨k,d⟩ ⟨hk,hd1,hd2,hd3⟩
  show AWP _ _ _ _ _ ⟨[(14,vI k),(5,vI d)]++_,[]++_⟩
  refine G O<|yH O<|I<|zJ<|zF O (fun c2=>?_) (fun c2=>?_)
  ·try simp only [R] at c2
   obtain ⟨a,ha⟩:=qW e.Args k (by omega)
   have hda:=depT_le m a
   refine zI<|zJ<|zQ<|G O<|qC O g (by omega) (zCk (by assumption))<|zO yX qA O<|zU O O (qE [none,none,none,none,none,none,none,none,none,none,some 2,some 4,some 13] O zr44 O) ?_
   rintro _ _ ⟨b2,rfl,rfl⟩
   refine D 0 sz44 O<|I<|zS O<|F O<|zO yX (Y 0 O) O<|F O<|zX O (qZ O O O ⟨by omega,by omega⟩)<|qJ O ok235 (show Pur cfg 235 [vE a,vI (l-1)] (vI (depT m a)) from ih (by omega) a _ (by have:=Ex.arg_wt (zZ ha);omega) (by omega)) ⟨H,O,H,O,T⟩<|qH O ⟨by omega,by omega⟩<|zX O (zNu O O O)<|F O<|I<|zS O<|qH O ⟨by omega,by omega⟩<|F O<|I ?_
   refine ⟨⟨k+1,max d (1+depT m a)⟩,⟨by omega,by omega,by omega,by rw [hd3,qR ha,depF]⟩,(by show e.Args.length-(k+1)<e.Args.length-k;omega),Weak.mk [false] ⟨H,H,H,H,H,T⟩ O⟩
  ·try simp only [R] at c2
   refine qN<|G O<|F O<|F O<|I<|o<|X O ?_
   exact congrArg vI (by rw [hd3,kC (by omega)];rfl)
theorem expr_depth (n:Nat) (e:Ex) (l:Int) (hn:n<=100) (he:e.wt<=6000000000000) (hl:l=n+1):Pur cfg 235 [vE e,vI l] (vI (depT n e)):=by
  induction n generalizing e l with
  |zero=>exact zIt 0 (fun h=>absurd rfl h) hn e l he hl
  |succ n ih=>exact zIt (n+1) (fun _ a l h1 h2=>ih a l (by omega) h1 (by omega)) hn e l he hl
theorem zHc (n:Nat) (ih:n≠0->∀(a:Ex) (l:Int),a.wt<=6000000000000->l=n->Pur cfg 254 [vE a,vI l] (vI (depT (n-1) a))) (hn:n<=100) (e:Ex) (l:Int) (he:e.wt<=6000000000000) (hl:l=n+1):
    Pur cfg 254 [vE e,vI l] (vI (depT n e)):=by
 refine zR Tryz.func254 O Tryz.ntmps254 Tryz.results254 O ?_
 intro z hz
 obtain ⟨hL,hI,hA⟩:=e.parts he
 refine G O<|zU O O (qM O O) ?_
 rintro _ _ ⟨b1,rfl,rfl⟩
 refine F O<|I<|G O<|F O<|I<|zJ<|G O<|F O<|I<|zQ<|zW ⟨[(6,.c _),(5,.c _),(1,.c _),(2,.c _)],[_]⟩ (Weak.mk [true] ⟨H,H,H,H,T⟩ O)<|qK 2 0 O O (Nat×Int) (fun ⟨k,d⟩=>[(6,vI k),(5,vI d)]) (fun ⟨k,d⟩=>[]) (fun ⟨k,d⟩=>k<=e.Args.length/\(1<=d)/\(d<=n+1)/\(n≠0->depT n e=depF (depT (n-1)) d (e.Args.drop k))/\(n=0->d=1)) (fun ⟨k,d⟩=>e.Args.length-k) ⟨⟨0,1⟩,⟨by omega,by omega,by omega,fun h0=>dep_start h0,fun _=>O⟩,Weak.mk [true] ⟨H,VLe.of_eq (O),H,H,T⟩ O⟩ ?_
 rintro ⟨k,d⟩ ⟨hk,hd1,hd2,hd3,hd4⟩
 show AWP _ _ _ _ _ ⟨[(6,vI k),(5,vI d)]++_,[]++_⟩
 refine zJ<|G O<|F O<|zH O kZ<|zK zAj (Y 0 O) O<|qB O g<|yH O<|F O<|rL0 O (fun g3_5=>zN O O) O<|B 13 O (fun g3_5=>yC O O O) O<|yQ O (fun h=>h)<|I<|zF O (fun c1=>?_) (fun c1=>?_)
 ·try simp only [R] at c1
  obtain ⟨a,ha⟩:=qW e.Args k (by omega)
  have hda:=depT_le (n-1) a
  refine zI<|zJ<|zQ<|zS O<|F O<|zH O kZ<|zK zAj (Y 0 O) O<|F O<|qC O g (by omega) (zCk (by assumption))<|zO yX qA O<|F O<|zX O (qZ O O O ⟨by omega,by omega⟩)<|qJ O ok254 (ih (by omega) a _ (by have:=Ex.arg_wt (zZ ha);omega) (by omega)) ⟨H,O,H,O,T⟩<|qH O ⟨by omega,by omega⟩<|zX O (zNu O O O)<|F O<|I<|zS O<|F O<|qH O ⟨by omega,by omega⟩<|F O<|I ?_
  refine ⟨⟨k+1,max d (1+depT (n-1) a)⟩,⟨by omega,by omega,by omega,fun h0=>by rw [hd3 h0,qR ha,depF],fun h0=>by omega⟩,(by show e.Args.length-(k+1)<e.Args.length-k;omega),Weak.mk [true] ⟨H,H,H,H,T⟩ O⟩
 ·try simp only [R] at c1
  refine qN<|G O<|F O<|F O<|I<|o<|X O ?_
  exact congrArg vI (dep_end hl (by omega) hd3 hd4)
theorem ref14_depth (n:Nat) (e:Ex) (l:Int) (hn:n<=100) (he:e.wt<=6000000000000) (hl:l=n+1):Pur cfg 254 [vE e,vI l] (vI (depT n e)):=by
  induction n generalizing e l with
  |zero=>exact zHc 0 (fun h=>absurd rfl h) hn e l he hl
  |succ n ih=>exact zHc (n+1) (fun _ a l h1 h2=>ih a l (by omega) h1 (by omega)) hn e l he hl
theorem expr_Depth (e:Ex) (he:e.wt<=6000000000000):
    Pur cfg 206 [vE e] (vI (depT 40 e)):=by
 refine zR Tryz.func206 O Tryz.ntmps206 Tryz.results206 O ?_
 intro z hz
 refine G O<|zU O O (qM O O) ?_
 rintro _ _ ⟨b1,rfl,rfl⟩
 refine F O<|I<|G O<|zO yX (Y 0 O) O<|qJ O ok235 (expr_depth 40 e 41 (by omega) he (by omega)) ⟨H,O,H,O,T⟩<|F O<|I<|o<|X O ?_
 exact O
theorem ref14_Depth (e:Ex) (he:e.wt<=6000000000000):
    Pur cfg 228 [vE e] (vI (depT 40 e)):=by
 refine zR Tryz.func228 O Tryz.ntmps228 Tryz.results228 O ?_
 intro z hz
 refine G O<|zU O O (qM O O) ?_
 rintro _ _ ⟨b1,rfl,rfl⟩
 refine F O<|I<|G O<|zO yX (Y 0 O) O<|qJ O ok254 (ref14_depth 40 e 41 (by omega) he (by omega)) ⟨H,O,H,O,T⟩<|F O<|I<|o<|X O ?_
 exact O
theorem zRm (e:Ex) (ih:∀a,a∈e.Args->∀(m:Nat) (l:Int),a.wt<=6000000000000->m<=1000000->l=m->Pur cfg 255 [vE a,vI l] (vI (sizE a m))) (m:Nat) (l:Int) (he:e.wt<=6000000000000) (hm:m<=1000000) (hl:l=m):
    Pur cfg 255 [vE e,vI l] (vI (sizE e m)):=by
 refine zR Tryz.func255 O Tryz.ntmps255 Tryz.results255 O ?_
 intro z hz
 obtain ⟨hL,hI,hA⟩:=e.parts he
 refine G O<|zU O O (qM O O) ?_
 rintro _ _ ⟨b1,rfl,rfl⟩
 refine F O<|I<|G O<|F O<|I<|zJ<|G O<|F O<|I<|zQ<|zW ⟨[(6,.c _),(5,.c _),(1,.c _),(2,.c _)],[_]⟩ (Weak.mk [true] ⟨H,H,H,H,T⟩ O)<|qK 2 0 O O (Nat×Nat) (fun ⟨k,n⟩=>[(6,vI k),(5,vI n)]) (fun ⟨k,n⟩=>[]) (fun ⟨k,n⟩=>k<=e.Args.length/\(n<=m+1)/\(sizE e m=sizL (e.Args.drop k) m n)) (fun ⟨k,n⟩=>e.Args.length-k) ⟨⟨0,1⟩,⟨by omega,by omega,sizE_eq e m⟩,Weak.mk [true] ⟨H,VLe.of_eq (O),H,H,T⟩ O⟩ ?_
 rintro ⟨k,n⟩ ⟨hk,hn1,hn2⟩
 show AWP _ _ _ _ _ ⟨[(6,vI k),(5,vI n)]++_,[]++_⟩
 refine zJ<|G O<|F O<|zH O kZ<|zK zAj (Y 0 O) O<|qB O g<|yH O<|F O<|rL0 O (fun g3_5=>zN O O) O<|rL0 O (fun g3_5=>zN O O) O<|rLz [(13,_),(14,_)] O gv1 ⟨O,O,O,O,T⟩ (fun g3_5=>wQ O O O) O<|yQ O (fun h=>h)<|I<|zF O (fun c1=>?_) (fun c1=>?_)
 ·try simp only [R] at c1
  obtain ⟨a,ha⟩:=qW e.Args k (by omega)
  have hsa:=sizE_min a (m-n)
  refine zI<|zJ<|zQ<|zS O<|F O<|zH O kZ<|zK zAj (Y 0 O) O<|F O<|qC O g (by omega) (zCk (by assumption))<|zO yX qA O<|F O<|F O<|zX O (qZ O O O ⟨by omega,by omega⟩)<|qJ O ok255 (ih a (zZ ha) (m-n) _ (by have:=Ex.arg_wt (zZ ha);omega) (by omega) (by omega)) ⟨H,O,H,O,T⟩<|qH O ⟨by omega,by omega⟩<|F O<|I<|zS O<|F O<|qH O ⟨by omega,by omega⟩<|F O<|I ?_
  refine ⟨⟨k+1,n+sizE a (m-n)⟩,⟨by omega,by omega,by rw [hn2,qR ha,sizL,if_pos (by omega)]⟩,(by show e.Args.length-(k+1)<e.Args.length-k;omega),Weak.mk [true] ⟨H,VLe.of_eq (congrArg vI (by omega)),H,H,T⟩ O⟩
 ·try simp only [R] at c1
  refine qN<|G O<|F O<|F O<|I<|o<|X O ?_
  exact congrArg vI (by rw [hn2];exact congrArg Nat.cast (siz_end hl (by omega)))
theorem ref14_size (e:Ex) (m:Nat) (l:Int) (he:e.wt<=6000000000000) (hm:m<=1000000) (hl:l=m):Pur cfg 255 [vE e,vI l] (vI (sizE e m)):=by
  induction e using Ex.ind generalizing m l with
  |_ e ih=>exact zRm e (fun a ha m l h1 h2 h3=>ih a ha m l h1 h2 h3) m l he hm hl
theorem ref14_Size (e:Ex) (he:e.wt<=6000000000000):
    Pur cfg 229 [vE e] (vI (szT e)):=by
 refine zR Tryz.func229 O Tryz.ntmps229 Tryz.results229 O ?_
 intro z hz
 refine G O<|zU O O (qM O O) ?_
 rintro _ _ ⟨b1,rfl,rfl⟩
 refine F O<|I<|G O<|zO yX (Y 0 O) O<|qJ O ok255 (ref14_size e 2000 2000 he (by omega) O) ⟨H,O,H,O,T⟩<|zX O (det_min O O O)<|F O<|I<|o<|X O ?_
 exact congrArg vI (by rw [sizE_min,szT];omega)
theorem ref14_Validate (e:Ex) (he:e.wt<=6000000000000):
    Pur cfg 200 [vE e] (vI (validE e)):=by
 refine zR Tryz.func200 O Tryz.ntmps200 Tryz.results200 O ?_
 intro z hz
 refine G O<|zU O O (qM O O) ?_
 rintro _ _ ⟨b1,rfl,rfl⟩
 refine F O<|I<|zJ<|G O<|zO yX (Y 0 O) O<|qJ O ok228 (ref14_Depth e he) ⟨H,O,T⟩<|zX O (yC O O O)<|I<|zF O (fun c1=>?_) (fun c1=>?_)
 ·try simp only [R] at c1
  refine G O<|F O<|I<|o<|X O ?_
  rw [validE,wM c1];rfl
 ·try simp only [R] at c1
  refine zI<|zJ<|G O<|zO yX (Y 0 O) O<|qJ O ok229 (ref14_Size e he) ⟨H,O,T⟩<|zX O (yC O O O)<|I<|zF O (fun c2=>?_) (fun c2=>?_)
  ·try simp only [R] at c2
   refine G O<|F O<|I<|o<|X O ?_
   rw [validE,yJ (by omega),wM c2];rfl
  ·try simp only [R] at c2
   refine zI<|G O<|zO yX (Y 0 O) O<|qJ O ok230 (ref14_part e he) ⟨H,O,T⟩<|F O<|I<|o<|X O ?_
   rw [validE,yJ (by omega),yJ (by omega)];rfl
end Go.W
