/-
  What functions compute.
  Conditions: none.
-/
import Derived.Test.YtlfjpejkoccibaaGreatDoorWB
set_option linter.unusedSimpArgs false
set_option linter.unusedVariables false
set_option maxRecDepth 10000
namespace Go.W
open Go Go.Eng Go.Proofs Go.L41 Go.Br
attribute [local irreducible] AWP RWP TD fH
theorem kA:nG Tryz.prog 44=some 13:=by kernel_rfl
theorem g:dY Tryz.prog 42=some (44,13,160):=by kernel_rfl
theorem el70:dY Tryz.prog 70=some (41,2,32):=by kernel_rfl
theorem wF:bY Tryz.prog 44 0=some (0,3):=by kernel_rfl
theorem zFu:bY Tryz.prog 44 1=some (1,9):=by kernel_rfl
theorem zKn:bY Tryz.prog 44 2=some (2,36):=by kernel_rfl
theorem zFt:bY Tryz.prog 44 3=some (4,38):=by kernel_rfl
theorem zDe:bY Tryz.prog 44 4=some (9,41):=by kernel_rfl
theorem kX:bY Tryz.prog 44 5=some (11,34):=by kernel_rfl
theorem wL:bY Tryz.prog 44 6=some (12,42):=by kernel_rfl
theorem zEp:bY Tryz.prog 72 0=some (0,41):=by kernel_rfl
theorem zEw:bY Tryz.prog 72 1=some (2,9):=by kernel_rfl
theorem zAr:bY Tryz.prog 72 2=some (3,70):=by kernel_rfl
theorem fl36:rP Tryz.prog 36=some [.int,.int]:=by kernel_rfl
theorem ok49:bA Tryz.prog 49=true:=by kernel_rfl
theorem ok148:bA Tryz.prog 148=true:=by kernel_rfl
theorem ok166:bA Tryz.prog 166=true:=by kernel_rfl
theorem ok181:bA Tryz.prog 181=true:=by kernel_rfl
theorem ok183:bA Tryz.prog 183=true:=by kernel_rfl
theorem ok228:bA Tryz.prog 228=true:=by kernel_rfl
theorem ok229:bA Tryz.prog 229=true:=by kernel_rfl
theorem ok230:bA Tryz.prog 230=true:=by kernel_rfl
theorem ok235:bA Tryz.prog 235=true:=by kernel_rfl
theorem ok254:bA Tryz.prog 254=true:=by kernel_rfl
theorem ok255:bA Tryz.prog 255=true:=by kernel_rfl
theorem ok256:bA Tryz.prog 256=true:=by kernel_rfl
theorem ok257:bA Tryz.prog 257=true:=by kernel_rfl
theorem ok258:bA Tryz.prog 258=true:=by kernel_rfl
theorem ok259:bA Tryz.prog 259=true:=by kernel_rfl
theorem ok260:bA Tryz.prog 260=true:=by kernel_rfl
theorem ok270:bA Tryz.prog 270=true:=by kernel_rfl
theorem ok271:bA Tryz.prog 271=true:=by kernel_rfl
theorem ok272:bA Tryz.prog 272=true:=by kernel_rfl
theorem ok273:bA Tryz.prog 273=true:=by kernel_rfl
theorem ok274:bA Tryz.prog 274=true:=by kernel_rfl
theorem ok275:bA Tryz.prog 275=true:=by kernel_rfl
theorem ok276:bA Tryz.prog 276=true:=by kernel_rfl
theorem ok277:bA Tryz.prog 277=true:=by kernel_rfl
theorem ok283:bA Tryz.prog 283=true:=by kernel_rfl
theorem ok284:bA Tryz.prog 284=true:=by kernel_rfl
theorem ok285:bA Tryz.prog 285=true:=by kernel_rfl
theorem wO:lV Tryz.prog 34=true:=by kernel_rfl
theorem zBa:lV Tryz.prog 42=true:=by kernel_rfl
theorem zDw:lV Tryz.prog 70=true:=by kernel_rfl
theorem pl36:gG Tryz.prog 36=some [(0,1),(1,1)]:=by kernel_rfl
theorem sz44:(Tryz.prog.info? 44).map (·.size)=some 13:=by kernel_rfl
theorem sz72:(Tryz.prog.info? 72).map (·.size)=some 4:=by kernel_rfl
theorem un4:Tryz.prog.underlying 4=some .bool:=by kernel_rfl
theorem zr36:fS Tryz.prog 36=some [(Value.int IntKind.i64 0),(Value.int IntKind.i64 0)]:=by kernel_rfl
theorem zr44:fS Tryz.prog 44=some [(Value.int IntKind.i64 0),(Value.string (ByteArray.mk #[])),(Value.int IntKind.i64 0),(Value.int IntKind.i64 0),(Value.int IntKind.i64 0),(Value.int IntKind.i64 0),(Value.int IntKind.i64 0),(Value.int IntKind.i64 0),(Value.int IntKind.i64 0),(Value.int IntKind.i64 0),(Value.slice none 0 0),(Value.slice none 0 0),(Value.slice none 0 0)]:=by kernel_rfl
theorem zr72:fS Tryz.prog 72=some [(Value.int IntKind.i64 0),(Value.slice none 0 0),(Value.string (ByteArray.mk #[])),(Value.slice none 0 0)]:=by kernel_rfl
theorem expr_operands (op:Int):
    Pur cfg 275 [vI op] (vI (bU op)):=by
 refine zT Tryz.func275 O Tryz.ntmps275 Tryz.results275 O ?_
 intro z hz
 refine F O<|A O<|H<|zK<|F O<|A O<|H<|zR<|zK<|F O<|yF O<|A O<|H<|zD O (fun c1=>?_) (fun c1=>?_)
 ·try simp only [I] at c1
  refine zM<|zD O (fun c3=>?_) (fun c3=>?_)
  ·try simp only [I] at c3
   refine F O<|A O<|H<|o<|X O ?_
   exact congrArg vI (by unfold bU;(repeat' split)<;>omega)
  ·try simp only [I] at c3
   refine zK<|F O<|yF O<|A O<|H<|zD O (fun c4=>?_) (fun c4=>?_)
   ·try simp only [I] at c4
    refine zM<|zD O (fun c6=>?_) (fun c6=>?_)
    ·try simp only [I] at c6
     refine F O<|A O<|H<|o<|X O ?_
     exact congrArg vI (by unfold bU;(repeat' split)<;>omega)
    ·try simp only [I] at c6
     refine F O<|yF O<|A O<|H<|zD O (fun c7=>?_) (fun c7=>?_)
     ·try simp only [I] at c7
      refine F O<|A O<|H<|o<|X O ?_
      exact congrArg vI (by unfold bU;(repeat' split)<;>omega)
     ·try simp only [I] at c7
      refine zM<|F O<|A O<|H<|o<|X O ?_
      exact congrArg vI (by unfold bU;(repeat' split)<;>omega)
   ·try simp only [I] at c4
    refine F O<|yF O<|A O<|H<|zD O (fun c5=>?_) (fun c5=>?_)
    ·try simp only [I] at c5
     refine zM<|zD O (fun c6=>?_) (fun c6=>?_)
     ·try simp only [I] at c6
      refine F O<|A O<|H<|o<|X O ?_
      exact congrArg vI (by unfold bU;(repeat' split)<;>omega)
     ·try simp only [I] at c6
      refine F O<|yF O<|A O<|H<|zD O (fun c7=>?_) (fun c7=>?_)
      ·try simp only [I] at c7
       refine F O<|A O<|H<|o<|X O ?_
       exact congrArg vI (by unfold bU;(repeat' split)<;>omega)
      ·try simp only [I] at c7
       refine zM<|F O<|A O<|H<|o<|X O ?_
       exact congrArg vI (by unfold bU;(repeat' split)<;>omega)
    ·try simp only [I] at c5
     refine zQ O<|yF O<|A O<|H<|zD O (fun c6=>?_) (fun c6=>?_)
     ·try simp only [I] at c6
      refine F O<|A O<|H<|o<|X O ?_
      exact congrArg vI (by unfold bU;(repeat' split)<;>omega)
     ·try simp only [I] at c6
      refine F O<|yF O<|A O<|H<|zD O (fun c7=>?_) (fun c7=>?_)
      ·try simp only [I] at c7
       refine F O<|A O<|H<|o<|X O ?_
       exact congrArg vI (by unfold bU;(repeat' split)<;>omega)
      ·try simp only [I] at c7
       refine zM<|F O<|A O<|H<|o<|X O ?_
       exact congrArg vI (by unfold bU;(repeat' split)<;>omega)
 ·try simp only [I] at c1
  refine F O<|yF O<|A O<|H<|zD O (fun c2=>?_) (fun c2=>?_)
  ·try simp only [I] at c2
   refine zM<|zD O (fun c3=>?_) (fun c3=>?_)
   ·try simp only [I] at c3
    refine F O<|A O<|H<|o<|X O ?_
    exact congrArg vI (by unfold bU;(repeat' split)<;>omega)
   ·try simp only [I] at c3
    refine zK<|F O<|yF O<|A O<|H<|zD O (fun c4=>?_) (fun c4=>?_)
    ·try simp only [I] at c4
     refine zM<|zD O (fun c6=>?_) (fun c6=>?_)
     ·try simp only [I] at c6
      refine F O<|A O<|H<|o<|X O ?_
      exact congrArg vI (by unfold bU;(repeat' split)<;>omega)
     ·try simp only [I] at c6
      refine F O<|yF O<|A O<|H<|zD O (fun c7=>?_) (fun c7=>?_)
      ·try simp only [I] at c7
       refine F O<|A O<|H<|o<|X O ?_
       exact congrArg vI (by unfold bU;(repeat' split)<;>omega)
      ·try simp only [I] at c7
       refine zM<|F O<|A O<|H<|o<|X O ?_
       exact congrArg vI (by unfold bU;(repeat' split)<;>omega)
    ·try simp only [I] at c4
     refine F O<|yF O<|A O<|H<|zD O (fun c5=>?_) (fun c5=>?_)
     ·try simp only [I] at c5
      refine zM<|zD O (fun c6=>?_) (fun c6=>?_)
      ·try simp only [I] at c6
       refine F O<|A O<|H<|o<|X O ?_
       exact congrArg vI (by unfold bU;(repeat' split)<;>omega)
      ·try simp only [I] at c6
       refine F O<|yF O<|A O<|H<|zD O (fun c7=>?_) (fun c7=>?_)
       ·try simp only [I] at c7
        refine F O<|A O<|H<|o<|X O ?_
        exact congrArg vI (by unfold bU;(repeat' split)<;>omega)
       ·try simp only [I] at c7
        refine zM<|F O<|A O<|H<|o<|X O ?_
        exact congrArg vI (by unfold bU;(repeat' split)<;>omega)
     ·try simp only [I] at c5
      refine zQ O<|yF O<|A O<|H<|zD O (fun c6=>?_) (fun c6=>?_)
      ·try simp only [I] at c6
       refine F O<|A O<|H<|o<|X O ?_
       exact congrArg vI (by unfold bU;(repeat' split)<;>omega)
      ·try simp only [I] at c6
       refine F O<|yF O<|A O<|H<|zD O (fun c7=>?_) (fun c7=>?_)
       ·try simp only [I] at c7
        refine F O<|A O<|H<|o<|X O ?_
        exact congrArg vI (by unfold bU;(repeat' split)<;>omega)
       ·try simp only [I] at c7
        refine zM<|F O<|A O<|H<|o<|X O ?_
        exact congrArg vI (by unfold bU;(repeat' split)<;>omega)
  ·try simp only [I] at c2
   refine zQ O<|yF O<|A O<|H<|zD O (fun c3=>?_) (fun c3=>?_)
   ·try simp only [I] at c3
    refine F O<|A O<|H<|o<|X O ?_
    exact congrArg vI (by unfold bU;(repeat' split)<;>omega)
   ·try simp only [I] at c3
    refine zK<|F O<|yF O<|A O<|H<|zD O (fun c4=>?_) (fun c4=>?_)
    ·try simp only [I] at c4
     refine zM<|zD O (fun c6=>?_) (fun c6=>?_)
     ·try simp only [I] at c6
      refine F O<|A O<|H<|o<|X O ?_
      exact congrArg vI (by unfold bU;(repeat' split)<;>omega)
     ·try simp only [I] at c6
      refine F O<|yF O<|A O<|H<|zD O (fun c7=>?_) (fun c7=>?_)
      ·try simp only [I] at c7
       refine F O<|A O<|H<|o<|X O ?_
       exact congrArg vI (by unfold bU;(repeat' split)<;>omega)
      ·try simp only [I] at c7
       refine zM<|F O<|A O<|H<|o<|X O ?_
       exact congrArg vI (by unfold bU;(repeat' split)<;>omega)
    ·try simp only [I] at c4
     refine F O<|yF O<|A O<|H<|zD O (fun c5=>?_) (fun c5=>?_)
     ·try simp only [I] at c5
      refine zM<|zD O (fun c6=>?_) (fun c6=>?_)
      ·try simp only [I] at c6
       refine F O<|A O<|H<|o<|X O ?_
       exact congrArg vI (by unfold bU;(repeat' split)<;>omega)
      ·try simp only [I] at c6
       refine F O<|yF O<|A O<|H<|zD O (fun c7=>?_) (fun c7=>?_)
       ·try simp only [I] at c7
        refine F O<|A O<|H<|o<|X O ?_
        exact congrArg vI (by unfold bU;(repeat' split)<;>omega)
       ·try simp only [I] at c7
        refine zM<|F O<|A O<|H<|o<|X O ?_
        exact congrArg vI (by unfold bU;(repeat' split)<;>omega)
     ·try simp only [I] at c5
      refine zQ O<|yF O<|A O<|H<|zD O (fun c6=>?_) (fun c6=>?_)
      ·try simp only [I] at c6
       refine F O<|A O<|H<|o<|X O ?_
       exact congrArg vI (by unfold bU;(repeat' split)<;>omega)
      ·try simp only [I] at c6
       refine F O<|yF O<|A O<|H<|zD O (fun c7=>?_) (fun c7=>?_)
       ·try simp only [I] at c7
        refine F O<|A O<|H<|o<|X O ?_
        exact congrArg vI (by unfold bU;(repeat' split)<;>omega)
       ·try simp only [I] at c7
        refine zM<|F O<|A O<|H<|o<|X O ?_
        exact congrArg vI (by unfold bU;(repeat' split)<;>omega)
theorem wJ (e:Ex):
    Pur cfg 166 [vE e] (vB (bV e)):=by
 refine zT Tryz.func166 O Tryz.ntmps166 Tryz.results166 O ?_
 intro z hz
 refine F O<|zV O O (qN O O) ?_
 rintro _ _ ⟨b1,rfl,rfl⟩
 refine A O<|H<|F O<|zG O wF<|zJ one3 (R 0 O) O<|zU O (wY O O O)<|A O<|rL0 O (fun g1_3=>zE O wF O) O<|B 7 O (fun g1_3=>zF O one3 O (R 0 O) O) O<|B 8 O (fun g1_3=>wY O O O) O<|yQ O (fun h=>h)<|A O<|H<|o<|X O ?_
 exact O
theorem zQt (op:Int):
    Pur cfg 283 [vI op] (vI (bU op)):=by
 refine zT Tryz.func283 O Tryz.ntmps283 Tryz.results283 O ?_
 intro z hz
 refine F O<|A O<|H<|zK<|F O<|A O<|H<|zR<|zK<|F O<|yF O<|A O<|H<|zD O (fun c1=>?_) (fun c1=>?_)
 ·try simp only [I] at c1
  refine zM<|zD O (fun c3=>?_) (fun c3=>?_)
  ·try simp only [I] at c3
   refine F O<|A O<|H<|o<|X O ?_
   exact congrArg vI (by unfold bU;(repeat' split)<;>omega)
  ·try simp only [I] at c3
   refine zK<|F O<|yF O<|A O<|H<|zD O (fun c4=>?_) (fun c4=>?_)
   ·try simp only [I] at c4
    refine zM<|zD O (fun c6=>?_) (fun c6=>?_)
    ·try simp only [I] at c6
     refine F O<|A O<|H<|o<|X O ?_
     exact congrArg vI (by unfold bU;(repeat' split)<;>omega)
    ·try simp only [I] at c6
     refine F O<|yF O<|A O<|H<|zD O (fun c7=>?_) (fun c7=>?_)
     ·try simp only [I] at c7
      refine F O<|A O<|H<|o<|X O ?_
      exact congrArg vI (by unfold bU;(repeat' split)<;>omega)
     ·try simp only [I] at c7
      refine zM<|F O<|A O<|H<|o<|X O ?_
      exact congrArg vI (by unfold bU;(repeat' split)<;>omega)
   ·try simp only [I] at c4
    refine F O<|yF O<|A O<|H<|zD O (fun c5=>?_) (fun c5=>?_)
    ·try simp only [I] at c5
     refine zM<|zD O (fun c6=>?_) (fun c6=>?_)
     ·try simp only [I] at c6
      refine F O<|A O<|H<|o<|X O ?_
      exact congrArg vI (by unfold bU;(repeat' split)<;>omega)
     ·try simp only [I] at c6
      refine F O<|yF O<|A O<|H<|zD O (fun c7=>?_) (fun c7=>?_)
      ·try simp only [I] at c7
       refine F O<|A O<|H<|o<|X O ?_
       exact congrArg vI (by unfold bU;(repeat' split)<;>omega)
      ·try simp only [I] at c7
       refine zM<|F O<|A O<|H<|o<|X O ?_
       exact congrArg vI (by unfold bU;(repeat' split)<;>omega)
    ·try simp only [I] at c5
     refine zQ O<|yF O<|A O<|H<|zD O (fun c6=>?_) (fun c6=>?_)
     ·try simp only [I] at c6
      refine F O<|A O<|H<|o<|X O ?_
      exact congrArg vI (by unfold bU;(repeat' split)<;>omega)
     ·try simp only [I] at c6
      refine F O<|yF O<|A O<|H<|zD O (fun c7=>?_) (fun c7=>?_)
      ·try simp only [I] at c7
       refine F O<|A O<|H<|o<|X O ?_
       exact congrArg vI (by unfold bU;(repeat' split)<;>omega)
      ·try simp only [I] at c7
       refine zM<|F O<|A O<|H<|o<|X O ?_
       exact congrArg vI (by unfold bU;(repeat' split)<;>omega)
 ·try simp only [I] at c1
  refine F O<|yF O<|A O<|H<|zD O (fun c2=>?_) (fun c2=>?_)
  ·try simp only [I] at c2
   refine zM<|zD O (fun c3=>?_) (fun c3=>?_)
   ·try simp only [I] at c3
    refine F O<|A O<|H<|o<|X O ?_
    exact congrArg vI (by unfold bU;(repeat' split)<;>omega)
   ·try simp only [I] at c3
    refine zK<|F O<|yF O<|A O<|H<|zD O (fun c4=>?_) (fun c4=>?_)
    ·try simp only [I] at c4
     refine zM<|zD O (fun c6=>?_) (fun c6=>?_)
     ·try simp only [I] at c6
      refine F O<|A O<|H<|o<|X O ?_
      exact congrArg vI (by unfold bU;(repeat' split)<;>omega)
     ·try simp only [I] at c6
      refine F O<|yF O<|A O<|H<|zD O (fun c7=>?_) (fun c7=>?_)
      ·try simp only [I] at c7
       refine F O<|A O<|H<|o<|X O ?_
       exact congrArg vI (by unfold bU;(repeat' split)<;>omega)
      ·try simp only [I] at c7
       refine zM<|F O<|A O<|H<|o<|X O ?_
       exact congrArg vI (by unfold bU;(repeat' split)<;>omega)
    ·try simp only [I] at c4
     refine F O<|yF O<|A O<|H<|zD O (fun c5=>?_) (fun c5=>?_)
     ·try simp only [I] at c5
      refine zM<|zD O (fun c6=>?_) (fun c6=>?_)
      ·try simp only [I] at c6
       refine F O<|A O<|H<|o<|X O ?_
       exact congrArg vI (by unfold bU;(repeat' split)<;>omega)
      ·try simp only [I] at c6
       refine F O<|yF O<|A O<|H<|zD O (fun c7=>?_) (fun c7=>?_)
       ·try simp only [I] at c7
        refine F O<|A O<|H<|o<|X O ?_
        exact congrArg vI (by unfold bU;(repeat' split)<;>omega)
       ·try simp only [I] at c7
        refine zM<|F O<|A O<|H<|o<|X O ?_
        exact congrArg vI (by unfold bU;(repeat' split)<;>omega)
     ·try simp only [I] at c5
      refine zQ O<|yF O<|A O<|H<|zD O (fun c6=>?_) (fun c6=>?_)
      ·try simp only [I] at c6
       refine F O<|A O<|H<|o<|X O ?_
       exact congrArg vI (by unfold bU;(repeat' split)<;>omega)
      ·try simp only [I] at c6
       refine F O<|yF O<|A O<|H<|zD O (fun c7=>?_) (fun c7=>?_)
       ·try simp only [I] at c7
        refine F O<|A O<|H<|o<|X O ?_
        exact congrArg vI (by unfold bU;(repeat' split)<;>omega)
       ·try simp only [I] at c7
        refine zM<|F O<|A O<|H<|o<|X O ?_
        exact congrArg vI (by unfold bU;(repeat' split)<;>omega)
  ·try simp only [I] at c2
   refine zQ O<|yF O<|A O<|H<|zD O (fun c3=>?_) (fun c3=>?_)
   ·try simp only [I] at c3
    refine F O<|A O<|H<|o<|X O ?_
    exact congrArg vI (by unfold bU;(repeat' split)<;>omega)
   ·try simp only [I] at c3
    refine zK<|F O<|yF O<|A O<|H<|zD O (fun c4=>?_) (fun c4=>?_)
    ·try simp only [I] at c4
     refine zM<|zD O (fun c6=>?_) (fun c6=>?_)
     ·try simp only [I] at c6
      refine F O<|A O<|H<|o<|X O ?_
      exact congrArg vI (by unfold bU;(repeat' split)<;>omega)
     ·try simp only [I] at c6
      refine F O<|yF O<|A O<|H<|zD O (fun c7=>?_) (fun c7=>?_)
      ·try simp only [I] at c7
       refine F O<|A O<|H<|o<|X O ?_
       exact congrArg vI (by unfold bU;(repeat' split)<;>omega)
      ·try simp only [I] at c7
       refine zM<|F O<|A O<|H<|o<|X O ?_
       exact congrArg vI (by unfold bU;(repeat' split)<;>omega)
    ·try simp only [I] at c4
     refine F O<|yF O<|A O<|H<|zD O (fun c5=>?_) (fun c5=>?_)
     ·try simp only [I] at c5
      refine zM<|zD O (fun c6=>?_) (fun c6=>?_)
      ·try simp only [I] at c6
       refine F O<|A O<|H<|o<|X O ?_
       exact congrArg vI (by unfold bU;(repeat' split)<;>omega)
      ·try simp only [I] at c6
       refine F O<|yF O<|A O<|H<|zD O (fun c7=>?_) (fun c7=>?_)
       ·try simp only [I] at c7
        refine F O<|A O<|H<|o<|X O ?_
        exact congrArg vI (by unfold bU;(repeat' split)<;>omega)
       ·try simp only [I] at c7
        refine zM<|F O<|A O<|H<|o<|X O ?_
        exact congrArg vI (by unfold bU;(repeat' split)<;>omega)
     ·try simp only [I] at c5
      refine zQ O<|yF O<|A O<|H<|zD O (fun c6=>?_) (fun c6=>?_)
      ·try simp only [I] at c6
       refine F O<|A O<|H<|o<|X O ?_
       exact congrArg vI (by unfold bU;(repeat' split)<;>omega)
      ·try simp only [I] at c6
       refine F O<|yF O<|A O<|H<|zD O (fun c7=>?_) (fun c7=>?_)
       ·try simp only [I] at c7
        refine F O<|A O<|H<|o<|X O ?_
        exact congrArg vI (by unfold bU;(repeat' split)<;>omega)
       ·try simp only [I] at c7
        refine zM<|F O<|A O<|H<|o<|X O ?_
        exact congrArg vI (by unfold bU;(repeat' split)<;>omega)
theorem wA (e:Ex):
    Pur cfg 181 [vE e] (vB (bV e)):=by
 refine zT Tryz.func181 O Tryz.ntmps181 Tryz.results181 O ?_
 intro z hz
 refine F O<|zV O O (qN O O) ?_
 rintro _ _ ⟨b1,rfl,rfl⟩
 refine A O<|H<|F O<|zG O wF<|zJ one3 (R 0 O) O<|zU O (wI O O O)<|A O<|rL0 O (fun g1_3=>zE O wF O) O<|B 7 O (fun g1_3=>zF O one3 O (R 0 O) O) O<|B 8 O (fun g1_3=>wY O O O) O<|yQ O (fun h=>h)<|A O<|H<|o<|X O ?_
 exact O
theorem zJa (op i:Int):
    Pur cfg 277 [vI op,vI i] (vB (gT op i)):=by
 refine zT Tryz.func277 O Tryz.ntmps277 Tryz.results277 O ?_
 intro z hz
 refine F O<|A O<|H<|zK<|F O<|A O<|H<|zR<|zK<|F O<|yF O<|A O<|H<|zD O (fun c1=>?_) (fun c1=>?_)
 ·try simp only [I] at c1
  refine zM<|zD O (fun c3=>?_) (fun c3=>?_)
  ·try simp only [I] at c3
   refine F O<|A O<|H<|o<|X O ?_
   exact congrArg vB (by unfold gT;first|(exfalso;omega)|(simp [*];done)|(rw [Bool.eq_iff_iff];simp only [Bool.or_eq_true,Bool.and_eq_true,decide_eq_true_eq];omega))
  ·try simp only [I] at c3
   refine zM<|F O<|A O<|yF O<|A O<|rL0 O (fun g6_2=>zN O O) O<|B 13 O (fun g6_2=>yH O O O) O<|yQ O (fun h=>h)<|A O<|H<|o<|X O ?_
   exact congrArg vB (by unfold gT;first|(exfalso;omega)|(simp [*];done)|(rw [Bool.eq_iff_iff];simp only [Bool.or_eq_true,Bool.and_eq_true,decide_eq_true_eq];omega))
 ·try simp only [I] at c1
  refine F O<|yF O<|A O<|H<|zD O (fun c2=>?_) (fun c2=>?_)
  ·try simp only [I] at c2
   refine zM<|zD O (fun c3=>?_) (fun c3=>?_)
   ·try simp only [I] at c3
    refine F O<|A O<|H<|o<|X O ?_
    exact congrArg vB (by unfold gT;first|(exfalso;omega)|(simp [*];done)|(rw [Bool.eq_iff_iff];simp only [Bool.or_eq_true,Bool.and_eq_true,decide_eq_true_eq];omega))
   ·try simp only [I] at c3
    refine zM<|F O<|A O<|yF O<|A O<|rL0 O (fun g6_2=>zN O O) O<|B 13 O (fun g6_2=>yH O O O) O<|yQ O (fun h=>h)<|A O<|H<|o<|X O ?_
    exact congrArg vB (by unfold gT;first|(exfalso;omega)|(simp [*];done)|(rw [Bool.eq_iff_iff];simp only [Bool.or_eq_true,Bool.and_eq_true,decide_eq_true_eq];omega))
  ·try simp only [I] at c2
   refine zQ O<|yF O<|A O<|H<|zD O (fun c3=>?_) (fun c3=>?_)
   ·try simp only [I] at c3
    refine F O<|A O<|H<|o<|X O ?_
    exact congrArg vB (by unfold gT;first|(exfalso;omega)|(simp [*];done)|(rw [Bool.eq_iff_iff];simp only [Bool.or_eq_true,Bool.and_eq_true,decide_eq_true_eq];omega))
   ·try simp only [I] at c3
    refine zM<|F O<|A O<|yF O<|A O<|rL0 O (fun g6_2=>zN O O) O<|B 13 O (fun g6_2=>yH O O O) O<|yQ O (fun h=>h)<|A O<|H<|o<|X O ?_
    exact congrArg vB (by unfold gT;first|(exfalso;omega)|(simp [*];done)|(rw [Bool.eq_iff_iff];simp only [Bool.or_eq_true,Bool.and_eq_true,decide_eq_true_eq];omega))
theorem ref14_wants (op i:Int):
    Pur cfg 284 [vI op,vI i] (vB (gT op i)):=by
 refine zT Tryz.func284 O Tryz.ntmps284 Tryz.results284 O ?_
 intro z hz
 refine F O<|A O<|H<|F O<|A O<|yF O<|A O<|rL0 O (fun g1_2=>zN O O) O<|B 8 O (fun g1_2=>yH O O O) O<|yQ O (fun h=>h)<|A O<|rL0 O (fun g1_6=>zN O O) O<|B 12 O (fun g1_6=>yH O O O) O<|r_or O (fun h=>(lzf h))<|A O<|rL0 O (fun g1_10=>zN O O) O<|B 16 O (fun g1_10=>yH O O O) O<|r_or O (fun h=>(lzf h))<|A O<|rL0 O (fun g1_14=>zN O O) O<|B 20 O (fun g1_14=>yH O O O) O<|r_or O (fun h=>(lzf h))<|A O<|H<|o<|X O ?_
 exact O
theorem zWe (l:Lf):
    Pur cfg 270 [bZ l] (vB (lN l)):=by
 refine zT Tryz.func270 O Tryz.ntmps270 Tryz.results270 O ?_
 intro z hz
 refine F O<|zV O O (qN O O) ?_
 rintro _ _ ⟨b1,rfl,rfl⟩
 refine A O<|H<|F O<|zG O zDt<|zJ U (R 0 O) O<|yF O<|A O<|rL0 O (fun g1_3=>zE O kC O) O<|B 7 O (fun g1_3=>zF O wN O (R 0 O) O) O<|B 8 O (fun g1_3=>yB O P O) O<|B 9 O (fun g1_3=>yH O O O) O<|yQ O (fun h=>h)<|A O<|H<|o<|X O ?_
 exact O
theorem zWd (x:Ix):
    Pur cfg 273 [jE x] (vB (jJ x)):=by
 refine zT Tryz.func273 O Tryz.ntmps273 Tryz.results273 O ?_
 intro z hz
 refine F O<|zV O O (qN O O) ?_
 rintro _ _ ⟨b1,rfl,rfl⟩
 refine A O<|H<|zK<|F O<|zG O zEw<|zJ one9 (R 0 O) O<|zU O (yR O O O)<|H<|zD O (fun c1=>?_) (fun c1=>?_)
 ·try simp only [I] at c1
  refine F O<|zG O zAr<|zJ zDw (R 0 O) O<|qC O el70<|yF O<|A O<|H<|o<|X O ?_
  rw [jJ,wR c1];rfl
 ·try simp only [I] at c1
  refine zM<|F O<|zG O zEp<|zP yX (R 0 O) O<|qI O ok270 (zWe x.Lin) ⟨G,O,T⟩<|A O<|H<|o<|X O ?_
  rw [jJ,yO c1];rfl
theorem expr_syntax_1 (x:Ix):
    Pur cfg 272 [jE x] (vB (!jJ x)):=by
 refine zT Tryz.func272 O Tryz.ntmps272 Tryz.results272 O ?_
 intro z hz
 refine F O<|zV O O (qN O O) ?_
 rintro _ _ ⟨b1,rfl,rfl⟩
 refine A O<|H<|F O<|zP zIn (R 0 O) O<|qI O ok273 (zWd x) ⟨G,O,T⟩<|kQ O<|A O<|H<|o<|X O ?_
 exact O
theorem expr_names_1 (x:Ix):
    Pur cfg 274 [jE x] (vB (!rW x)):=by
 refine zT Tryz.func274 O Tryz.ntmps274 Tryz.results274 O ?_
 intro z hz
 refine F O<|zV O O (qN O O) ?_
 rintro _ _ ⟨b1,rfl,rfl⟩
 refine A O<|H<|F O<|zG O zEw<|zJ one9 (R 0 O) O<|zU O (zBu O O O)<|A O<|rL0 O (fun g1_3=>zE O zEw O) O<|B 7 O (fun g1_3=>zF O one9 O (R 0 O) O) O<|B 8 O (fun g1_3=>qM O ok49 (zBc _) ⟨G,O,T⟩) O<|B 9 O (fun g1_3=>kW O O) O<|yQ O (fun h=>h)<|A O<|H<|o<|X O ?_
 exact congrArg vB (by unfold rW;simp)
theorem expr_rank_1 (x:Ix):
    Pur cfg 276 [jE x] (vB (!rV x)):=by
 refine zT Tryz.func276 O Tryz.ntmps276 Tryz.results276 O ?_
 intro z hz
 refine F O<|zV O O (qN O O) ?_
 rintro _ _ ⟨b1,rfl,rfl⟩
 refine A O<|H<|F O<|zG O zAr<|zJ zDw (R 0 O) O<|qC O el70<|zU O (yG O O O)<|A O<|H<|o<|X O ?_
 exact congrArg vB (by unfold rV;simp)
theorem expr_syntax (e:Ex) (he:e.wt<=6000000000000):
    Pur cfg 236 [vE e] (vB (jB e)):=by
 refine zT Tryz.func236 O Tryz.ntmps236 Tryz.results236 O ?_
 intro z hz
 obtain ⟨hL,hI,hA⟩:=e.parts he
 refine F O<|zV O O (qN O O) ?_
 rintro _ _ ⟨b1,rfl,rfl⟩
 refine A O<|H<|zK<|qZ 13 mixed (by kernel_rfl) O O<|M O O (zE O wF O)<|M O O (zF O one3 O (R 0 O) O)<|M O O (yH O O O)<|M O O (zE O wF O)<|M O O (zF O one3 O (R 0 O) O)<|M O O (yH O O O)<|M O O (zN O O)<|f [] O O O O gv1 T (fun g1_6=>zE O wF O) O<|f [(14,_)] O O O O gv1 ⟨O,O,T⟩ (fun g1_6=>zF O one3 O (R 0 O) O) O<|f [(15,_)] O O O O gv1 ⟨O,O,T⟩ (fun g1_6=>yH O O O) O<|M O O (zAu O O O O (fun h=>(lzf h)))<|M O O (yA O O)<|M O O (yA O O)<|kE<|H<|zK<|qZ 8 mixed (by kernel_rfl) O O<|M O O (zE O wF O)<|M O O (zF O one3 O (R 0 O) O)<|M O O (yH O O O)<|M O O (zE O wF O)<|M O O (zF O one3 O (R 0 O) O)<|M O O (yH O O O)<|M O O (yA O O)<|M O O (yA O O)<|kE<|H<|zK<|zR<|F O<|zG O wF<|zJ one3 (R 0 O) O<|yD O<|A O<|rL0 O (fun g3_3=>zE O wF O) O<|B 29 O (fun g3_3=>zF O one3 O (R 0 O) O) O<|B 30 O (fun g3_3=>yG O O O) O<|r_or O (fun h=>(lzf h))<|A O<|H<|zD O (fun c1=>?_) (fun c1=>?_)
 ·refine F O<|A O<|H<|o<|X O ?_
  exact congrArg vB (by simp only [jB,c1,Bool.not_true,Bool.not_false,Bool.true_and,Bool.and_true,Bool.false_and,Bool.and_false])
 ·refine F O<|A O<|kQ O<|A O<|rL0 O (fun g5_2=>zE O zKn O) O<|B 37 O (fun g5_2=>qB O agg36 O (R 0 O) O) O<|rL0 O (fun g5_2=>zDq O zr36 pl36 O) O<|rLz [(38,_),(39,_)] O gv1 ⟨O,O,O,O,T⟩ (fun g5_2=>zBk O fl36 O O O) O<|yQ O (fun h=>h)<|A O<|H<|zD O (fun c2=>?_) (fun c2=>?_)
  ·have c2:(!decide (e.Op=1)&& !tG e.Val)=true:=c2
   refine F O<|A O<|H<|o<|X O ?_
   exact congrArg vB (by simp only [jB,c2,Bool.not_true,Bool.not_false,Bool.true_and,Bool.and_true,Bool.false_and,Bool.and_false])
  ·have c2:(!decide (e.Op=1)&& !tG e.Val)=false:=c2
   refine F O<|A O<|kQ O<|A O<|rL0 O (fun g7_2=>zE O zFt O) O<|B 46 O (fun g7_2=>qB O yN O (R 0 O) O) O<|rL0 O (fun g7_2=>zDq O m pl38 O) O<|rLz [(47,_),(48,_)] O gv1 ⟨O,O,O,O,T⟩ (fun g7_2=>zBk O fl38 O O O) O<|yQ O (fun h=>h)<|A O<|H<|zD O (fun c3=>?_) (fun c3=>?_)
   ·have c3:(!(decide (e.Op=1)||decide (e.Op=12))&& !ty0 e.Ty)=true:=c3
    refine F O<|A O<|H<|o<|X O ?_
    exact congrArg vB (by simp only [jB,c3,Bool.not_true,Bool.not_false,Bool.true_and,Bool.and_true,Bool.false_and,Bool.and_false])
   ·have c3:(!(decide (e.Op=1)||decide (e.Op=12))&& !ty0 e.Ty)=false:=c3
    refine F O<|A O<|kQ O<|A O<|rL0 O (fun g9_2=>zE O zDe O) O<|B 55 O (fun g9_2=>qB O yX O (R 0 O) O) O<|B 56 O (fun g9_2=>qM O ok270 (zWe e.Lin) ⟨G,O,T⟩) O<|B 57 O (fun g9_2=>kW O O) O<|yQ O (fun h=>h)<|A O<|H<|zD O (fun c4=>?_) (fun c4=>?_)
    ·refine F O<|A O<|H<|o<|X O ?_
     exact congrArg vB (by simp only [jB,c4,Bool.not_true,Bool.not_false,Bool.true_and,Bool.and_true,Bool.false_and,Bool.and_false])
    ·refine F O<|A O<|kQ O<|A O<|rL0 O (fun g11_2=>zE O zFu O) O<|B 64 O (fun g11_2=>zF O one9 O (R 0 O) O) O<|B 65 O (fun g11_2=>zBu O O O) O<|B 66 O (fun g11_2=>zN O O) O<|rLz [] O N T (fun g11_6=>zE O kX O) O<|rLz [(68,_)] O N ⟨O,O,T⟩ (fun g11_6=>zF O wO O (R 0 O) O) O<|rLz [(69,_)] O N ⟨O,O,T⟩ (fun g11_6=>yB O d O) O<|rLz [(70,_)] O N ⟨O,O,T⟩ (fun g11_6=>yG O O O) O<|B 67 O (fun g11_2=>zAu O O O O (fun h=>kD (by assumption) (lzf h))) O<|yQ O (fun h=>h)<|A O<|H<|zD O (fun c5=>?_) (fun c5=>?_)
     ·refine F O<|A O<|H<|o<|X O ?_
      exact congrArg vB (by simp only [jB,c5,Bool.not_true,Bool.not_false,Bool.true_and,Bool.and_true,Bool.false_and,Bool.and_false])
     ·refine zM<|F O<|zG O kX<|zJ wO (R 0 O) O<|qI O ok271 (zBq e.Idx _ (fun x=> !jJ x) hI (fun x _=>FnPur.of_pur (first:=[]) (cap:=[]) ok272 (expr_syntax_1 x))) ⟨G,O,G,O,T⟩<|kQ O<|A O<|H<|o<|X O ?_
      exact congrArg vB (by rw [zKd];simp only [jB,c1,c2,c3,c4,c5,Bool.not_true,Bool.not_false,Bool.true_and,Bool.and_true,Bool.false_and,Bool.and_false])
theorem expr_names (e:Ex) (he:e.wt<=6000000000000):
    Pur cfg 237 [vE e] (vB (lI e)):=by
 refine zT Tryz.func237 O Tryz.ntmps237 Tryz.results237 O ?_
 intro z hz
 obtain ⟨hL,hI,hA⟩:=e.parts he
 refine F O<|zV O O (qN O O) ?_
 rintro _ _ ⟨b1,rfl,rfl⟩
 refine A O<|H<|zK<|F O<|zG O wF<|zJ one3 (R 0 O) O<|yF O<|A O<|rL0 O (fun g1_3=>zE O zFu O) O<|B 7 O (fun g1_3=>zF O one9 O (R 0 O) O) O<|B 8 O (fun g1_3=>qM O ok49 (zBc _) ⟨G,O,T⟩) O<|B 9 O (fun g1_3=>kW O O) O<|yQ O (fun h=>h)<|H<|zD O (fun c1=>?_) (fun c1=>?_)
 ·refine F O<|A O<|H<|o<|X O ?_
  exact congrArg vB (by simp only [lI,c1,Bool.not_true,Bool.false_and])
 ·refine zM<|F O<|zG O kX<|zJ wO (R 0 O) O<|qI O ok271 (zBq e.Idx _ (fun x=> !rW x) hI (fun x _=>FnPur.of_pur (first:=[]) (cap:=[]) ok274 (expr_names_1 x))) ⟨G,O,G,O,T⟩<|kQ O<|A O<|H<|o<|X O ?_
  exact congrArg vB (by rw [zKd];simp only [lI,c1,Bool.not_false,Bool.true_and])
theorem expr_rank (e:Ex) (he:e.wt<=6000000000000):
    Pur cfg 238 [vE e] (vB (mF e)):=by
 refine zT Tryz.func238 O Tryz.ntmps238 Tryz.results238 O ?_
 intro z hz
 obtain ⟨hL,hI,hA⟩:=e.parts he
 refine F O<|zV O O (qN O O) ?_
 rintro _ _ ⟨b1,rfl,rfl⟩
 refine A O<|H<|zK<|zK<|qZ 13 mixed (by kernel_rfl) O O<|M O O (zE O wL O)<|M O O (zF O zBa O (R 0 O) O)<|M O O (yB O g O)<|M O O (zE O wF O)<|M O O (zF O one3 O (R 0 O) O)<|M O O (qM O ok275 (expr_operands _) ⟨G,O,T⟩)<|M O O (kN O O O)<|M O O (zN O O)<|f [] O O O O gv1 T (fun g1_7=>zE O kX O) O<|f [(11,_)] O O O O gv1 ⟨O,O,T⟩ (fun g1_7=>zF O wO O (R 0 O) O) O<|f [(12,_)] O O O O gv1 ⟨O,O,T⟩ (fun g1_7=>yB O d O) O<|f [(13,_)] O O O O gv1 ⟨O,O,T⟩ (fun g1_7=>yG O O O) O<|M O O (zAu O O O O (fun h=>(lzf h)))<|kE<|H<|zD O (fun c1=>?_) (fun c1=>?_)
 ·refine F O<|A O<|H<|o<|X O ?_
  exact congrArg vB (by simp only [mF,c1,Bool.not_true,Bool.false_and])
 ·refine zM<|F O<|zG O kX<|zJ wO (R 0 O) O<|qI O ok271 (zBq e.Idx _ (fun x=> !rV x) hI (fun x _=>FnPur.of_pur (first:=[]) (cap:=[]) ok276 (expr_rank_1 x))) ⟨G,O,G,O,T⟩<|kQ O<|A O<|H<|o<|X O ?_
  exact congrArg vB (by rw [zKd];simp only [mF,c1,Bool.not_false,Bool.true_and])
theorem expr_types (e:Ex) (he:e.wt<=6000000000000):
    Pur cfg 239 [vE e] (vB (gZ e)):=by
 refine zT Tryz.func239 O Tryz.ntmps239 Tryz.results239 O ?_
 intro z hz
 obtain ⟨hL,hI,hA⟩:=e.parts he
 refine F O<|zV O O (qN O O) ?_
 rintro _ _ ⟨b1,rfl,rfl⟩
 refine A O<|H<|zK<|F O<|zG O wF<|zJ one3 (R 0 O) O<|yF O<|A O<|rL0 O (fun g1_3=>zE O wF O) O<|B 9 O (fun g1_3=>zF O one3 O (R 0 O) O) O<|B 10 O (fun g1_3=>yH O O O) O<|r_or O (fun h=>(lzf h))<|A O<|rL0 O (fun g1_8=>zE O zFt O) O<|B 14 O (fun g1_8=>qB O yN O (R 0 O) O) O<|B 15 O (fun g1_8=>qM O ok127 (zDg _) ⟨G,O,T⟩) O<|B 16 O (fun g1_8=>kN O O O) O<|yQ O (fun h=>h)<|H<|zD O (fun c1=>?_) (fun c1=>?_)
 ·rw [tyErr_dec] at c1
  refine F O<|A O<|H<|o<|X O ?_
  exact congrArg vB (by simp only [gZ,c1,Bool.not_true,Bool.false_and])
 ·rw [tyErr_dec] at c1
  refine zM<|zK<|F O<|zG O wL<|zJ zBa (R 0 O) O<|qC O g<|A O<|H<|zR<|zY ⟨[(22,.c _),(1,.c _),(20,.c _),(21,.c _)],[_]⟩ (Weak.mk [true] ⟨G,G,G,G,T⟩ O)<|qK 1 0 O O (Nat) (fun k=>[(22,vI k)]) (fun k=>[]) (fun k=>k<=e.Args.length/\(fN e.Op 0 e.Args=fN e.Op k (e.Args.drop k))) (fun k=>e.Args.length-k) ⟨0,⟨by omega,O⟩,Weak.mk [true] ⟨G,G,G,G,T⟩ O⟩ ?_
  rintro k ⟨hk,hp⟩
  refine F O<|yD O<|H<|zK<|zD O (fun c2=>?_) (fun c2=>?_)
  ·try simp only [I] at c2
   obtain ⟨a,ha⟩:=qY e.Args k (by omega)
   refine zM<|zK<|zR<|F O<|A O<|qD O g (by omega) (zEn (by assumption))<|zP kA qA O<|zV O O (qE [none,none,none,none,none,none,none,none,none,none,some 2,some 4,some 13] O zr44 O) ?_
   rintro _ _ ⟨b2,rfl,rfl⟩
   refine A O<|Y 0 sz44 O<|H<|zK<|qZ 7 mixed (by kernel_rfl) O O<|M O O (qB O kA O (R 0 O) O)<|M O O (qM O ok166 (wJ a) ⟨G,O,T⟩)<|M O O (zE O wF O)<|M O O (zF O one3 O (R 1 O) O)<|M O O (zN O O)<|M O O (qM O ok277 (zJa _ _) ⟨G,O,G,O,T⟩)<|M O O (zSu O un4 O O)<|kE<|H<|zD O (fun c3=>?_) (fun c3=>?_)
   ·refine F O<|A O<|H<|o<|X O ?_
    exact congrArg vB (by simp only [gZ,c1,Bool.not_false,Bool.true_and];rw [hp,qR ha,fN,show (bV a==gT e.Op k)=false by simpa using c3,Bool.false_and])
   ·refine zM<|zQ O<|qJ O ⟨by omega,by omega⟩<|A O<|H ?_
    refine ⟨k+1,⟨by omega,(by rw [hp,qR ha,fN,show (bV a==gT e.Op k)=true by simpa using c3,Bool.true_and];rfl)⟩,(by omega),Weak.mk [false,true] ⟨G,G,G,G,T⟩ O⟩
  ·try simp only [I] at c2
   refine qQ<|F O<|A O<|H<|o<|X O ?_
   exact congrArg vB (by simp only [gZ,c1,Bool.not_false,Bool.true_and];rw [hp,yW (by omega)];rfl)
theorem ref14_typed (e:Ex) (he:e.wt<=6000000000000):
    Pur cfg 259 [vE e] (vB (gZ e)):=by
 refine zT Tryz.func259 O Tryz.ntmps259 Tryz.results259 O ?_
 intro z hz
 obtain ⟨hL,hI,hA⟩:=e.parts he
 refine F O<|zV O O (qN O O) ?_
 rintro _ _ ⟨b1,rfl,rfl⟩
 refine A O<|H<|zK<|F O<|zG O wF<|zJ one3 (R 0 O) O<|yF O<|A O<|rL0 O (fun g1_3=>zE O wF O) O<|B 8 O (fun g1_3=>zF O one3 O (R 0 O) O) O<|B 9 O (fun g1_3=>yH O O O) O<|r_or O (fun h=>(lzf h))<|A O<|rL0 O (fun g1_8=>zE O zFt O) O<|B 13 O (fun g1_8=>qB O yN O (R 0 O) O) O<|B 14 O (fun g1_8=>qM O ok148 (base_Type _) ⟨G,O,T⟩) O<|B 15 O (fun g1_8=>kW O O) O<|yQ O (fun h=>h)<|H<|zD O (fun c1=>?_) (fun c1=>?_)
 ·refine F O<|A O<|H<|o<|X O ?_
  exact congrArg vB (by simp only [gZ,c1,Bool.not_true,Bool.false_and])
 ·refine zM<|zK<|F O<|A O<|H<|zR<|zY ⟨[(3,.c _),(1,.c _)],[_]⟩ (Weak.mk [true] ⟨G,G,T⟩ O)<|qK 1 0 O O (Nat) (fun k=>[(3,vI k)]) (fun k=>[]) (fun k=>k<=e.Args.length/\(fN e.Op 0 e.Args=fN e.Op k (e.Args.drop k))) (fun k=>e.Args.length-k) ⟨0,⟨by omega,O⟩,Weak.mk [true] ⟨G,G,T⟩ O⟩ ?_
  rintro k ⟨hk,hp⟩
  refine zK<|F O<|A O<|zG O wL<|zJ zBa (R 0 O) O<|qC O g<|yD O<|H<|zD O (fun c2=>?_) (fun c2=>?_)
  ·try simp only [I] at c2
   obtain ⟨a,ha⟩:=qY e.Args k (by omega)
   refine zM<|zK<|zR<|zK<|qZ 11 mixed (by kernel_rfl) O O<|M O O (zE O wL O)<|M O O (zF O zBa O (R 0 O) O)<|M O O (zN O O)<|M O O (qF O g O O (by omega) (zEn (by assumption)))<|M O O (qB O kA O qA O)<|M O O (qM O ok181 (wA a) ⟨G,O,T⟩)<|M O O (zE O wF O)<|M O O (zF O one3 O (R 0 O) O)<|M O O (zN O O)<|M O O (qM O ok284 (ref14_wants _ _) ⟨G,O,G,O,T⟩)<|M O O (zSu O un4 O O)<|kE<|H<|zD O (fun c3=>?_) (fun c3=>?_)
   ·refine F O<|A O<|H<|o<|X O ?_
    exact congrArg vB (by simp only [gZ,c1,Bool.not_false,Bool.true_and];rw [hp,qR ha,fN,show (bV a==gT e.Op k)=false by simpa using c3,Bool.false_and])
   ·refine zM<|zQ O<|A O<|qJ O ⟨by omega,by omega⟩<|A O<|H ?_
    refine ⟨k+1,⟨by omega,(by rw [hp,qR ha,fN,show (bV a==gT e.Op k)=true by simpa using c3,Bool.true_and];rfl)⟩,(by omega),Weak.mk [true] ⟨G,G,T⟩ O⟩
  ·try simp only [I] at c2
   refine qQ<|F O<|A O<|H<|o<|X O ?_
   exact congrArg vB (by simp only [gZ,c1,Bool.not_false,Bool.true_and];rw [hp,yW (by omega)];rfl)
theorem ref14_plain (e:Ex) (he:e.wt<=6000000000000):
    Pur cfg 256 [vE e] (vB (jB e)):=by
 refine zT Tryz.func256 O Tryz.ntmps256 Tryz.results256 O ?_
 intro z hz
 obtain ⟨hL,hI,hA⟩:=e.parts he
 refine F O<|zV O O (qN O O) ?_
 rintro _ _ ⟨b1,rfl,rfl⟩
 refine A O<|H<|zK<|F O<|zG O wF<|zJ one3 (R 0 O) O<|yD O<|A O<|rL0 O (fun g1_3=>zE O wF O) O<|B 9 O (fun g1_3=>zF O one3 O (R 0 O) O) O<|B 10 O (fun g1_3=>yG O O O) O<|r_or O (fun h=>(lzf h))<|H<|zD O (fun c1=>?_) (fun c1=>?_)
 ·refine F O<|A O<|H<|o<|X O ?_
  exact congrArg vB (by simp only [jB,c1,Bool.not_true,Bool.false_and])
 ·refine zM<|zK<|F O<|zG O wF<|zJ one3 (R 0 O) O<|yM O<|A O<|rL0 O (fun g3_3=>zE O zKn O) O<|B 17 O (fun g3_3=>qB O agg36 O (R 0 O) O) O<|rL0 O (fun g3_3=>zDq O zr36 pl36 O) O<|rLz [(18,_),(19,_)] O gv1 ⟨O,O,O,O,T⟩ (fun g3_3=>zBk O fl36 O O O) O<|yQ O (fun h=>h)<|A O<|rL0 O (fun g3_9=>zE O wF O) O<|B 23 O (fun g3_9=>zF O one3 O (R 0 O) O) O<|B 24 O (fun g3_9=>kN O O O) O<|B 25 O (fun g3_9=>zN O O) O<|rLz [] O N T (fun g3_13=>zE O wF O) O<|rLz [(27,_)] O N ⟨O,O,T⟩ (fun g3_13=>zF O one3 O (R 0 O) O) O<|rLz [(28,_)] O N ⟨O,O,T⟩ (fun g3_13=>kN O O O) O<|B 26 O (fun g3_9=>kZ O O O (fun h=>kD (by assumption) h) O) O<|B 30 O (fun g3_9=>zN O O) O<|rLz [] O N T (fun g3_18=>zE O zFt O) O<|rLz [(32,_)] O N ⟨O,O,T⟩ (fun g3_18=>qB O yN O (R 0 O) O) O<|rLz [] O N T (fun g3_18=>zDq O m pl38 O) O<|rLz [(33,_),(34,_)] O N ⟨O,O,O,O,T⟩ (fun g3_18=>zBk O fl38 O O O) O<|B 31 O (fun g3_9=>kZ O O O (fun h=>kD (by assumption) h) O) O<|r_or O (fun h=>(lzf h))<|H<|zD O (fun c2=>?_) (fun c2=>?_)
  ·have h2:=plain2 (e:=e) c2
   refine F O<|A O<|H<|o<|X O ?_
   exact congrArg vB (syn2 h2)
  ·have h2:=plain2 (e:=e) c2
   refine zM<|zK<|F O<|zG O wF<|zJ one3 (R 0 O) O<|yM O<|A O<|rL0 O (fun g5_3=>zE O zDe O) O<|B 42 O (fun g5_3=>zE O zDt O) O<|B 43 O (fun g5_3=>zF O U O (R 0 O) O) O<|B 44 O (fun g5_3=>kN O O O) O<|B 45 O (fun g5_3=>zN O O) O<|rLz [] O N T (fun g5_8=>zE O zDe O) O<|rLz [(47,_)] O N ⟨O,O,T⟩ (fun g5_8=>zE O kC O) O<|rLz [(48,_)] O N ⟨O,O,T⟩ (fun g5_8=>zF O wN O (R 0 O) O) O<|rLz [(49,_)] O N ⟨O,O,T⟩ (fun g5_8=>yB O P O) O<|rLz [(50,_)] O N ⟨O,O,T⟩ (fun g5_8=>yG O O O) O<|B 46 O (fun g5_3=>zAu O O O O (fun h=>kD (by assumption) (lzf h))) O<|yQ O (fun h=>h)<|A O<|rL0 O (fun g5_16=>zE O wF O) O<|B 55 O (fun g5_16=>zF O one3 O (R 0 O) O) O<|B 56 O (fun g5_16=>kN O O O) O<|B 57 O (fun g5_16=>zN O O) O<|rLz [] O N T (fun g5_20=>zE O zFu O) O<|rLz [(59,_)] O N ⟨O,O,T⟩ (fun g5_20=>zF O one9 O (R 0 O) O) O<|rLz [(60,_)] O N ⟨O,O,T⟩ (fun g5_20=>zBu O O O) O<|rLz [(61,_)] O N ⟨O,O,T⟩ (fun g5_20=>zN O O) O<|rLz [] O N T (fun g5_24=>zE O kX O) O<|rLz [(63,_)] O N ⟨O,O,T⟩ (fun g5_24=>zF O wO O (R 0 O) O) O<|rLz [(64,_)] O N ⟨O,O,T⟩ (fun g5_24=>yB O d O) O<|rLz [(65,_)] O N ⟨O,O,T⟩ (fun g5_24=>yG O O O) O<|rLz [(62,_)] O N ⟨O,O,T⟩ (fun g5_20=>zAu O O O O (fun h=>kD (by assumption) (lzf h))) O<|B 58 O (fun g5_16=>kZ O O O (fun h=>kD (by assumption) h) O) O<|r_or O (fun h=>(lzf h))<|H<|zD O (fun c3=>?_) (fun c3=>?_)
   ·have h3:=plain3 (e:=e) c3
    refine F O<|A O<|H<|o<|X O ?_
    exact congrArg vB (syn3 h3)
   ·have h3:=plain3 (e:=e) c3
    refine zM<|zK<|F O<|A O<|H<|zR<|zY ⟨[(3,.c _),(1,.c _)],[_]⟩ (Weak.mk [true] ⟨G,G,T⟩ O)<|qK 1 0 O O (Nat) (fun k=>[(3,vI k)]) (fun k=>[]) (fun k=>k<=e.Idx.length/\(e.Idx.all jJ=(e.Idx.drop k).all jJ)) (fun k=>e.Idx.length-k) ⟨0,⟨by omega,O⟩,Weak.mk [true] ⟨G,G,T⟩ O⟩ ?_
    rintro k ⟨hk,hp⟩
    refine zK<|F O<|A O<|zG O kX<|zJ wO (R 0 O) O<|qC O d<|yD O<|H<|zD O (fun c4=>?_) (fun c4=>?_)
    ·try simp only [I] at c4
     obtain ⟨x,hx⟩:=qY e.Idx k (by omega)
     refine zM<|zK<|zR<|F O<|zG O kX<|zJ wO (R 0 O) O<|A O<|qD O d (by omega) (Q (by assumption))<|zP zIn qA O<|zV O O (qE [none,some 2,none,some 2] O zr72 O) ?_
     rintro _ _ ⟨b2,rfl,rfl⟩
     refine Y 0 sz72 O<|H<|F O<|zG O zEw<|zJ one9 (R 0 O) O<|zU O (yR O O O)<|A O<|rL0 O (fun g11_3=>zE O zAr O) O<|B 86 O (fun g11_3=>zF O zDw O (R 0 O) O) O<|B 87 O (fun g11_3=>yB O el70 O) O<|B 88 O (fun g11_3=>yG O O O) O<|yQ O (fun h=>h)<|A O<|rL0 O (fun g11_9=>zE O zEw O) O<|B 92 O (fun g11_9=>zF O one9 O (R 0 O) O) O<|B 93 O (fun g11_9=>zBu O O O) O<|B 94 O (fun g11_9=>zN O O) O<|rLz [] O N T (fun g11_13=>zE O zEp O) O<|rLz [(96,_)] O N ⟨O,O,T⟩ (fun g11_13=>zE O zDt O) O<|rLz [(97,_)] O N ⟨O,O,T⟩ (fun g11_13=>zF O U O (R 0 O) O) O<|rLz [(98,_)] O N ⟨O,O,T⟩ (fun g11_13=>kN O O O) O<|rLz [(99,_)] O N ⟨O,O,T⟩ (fun g11_13=>zN O O) O<|rLz [] O N T (fun g11_18=>zE O zEp O) O<|rLz [(101,_)] O N ⟨O,O,T⟩ (fun g11_18=>zE O kC O) O<|rLz [(102,_)] O N ⟨O,O,T⟩ (fun g11_18=>zF O wN O (R 0 O) O) O<|rLz [(103,_)] O N ⟨O,O,T⟩ (fun g11_18=>yB O P O) O<|rLz [(104,_)] O N ⟨O,O,T⟩ (fun g11_18=>yG O O O) O<|rLz [(100,_)] O N ⟨O,O,T⟩ (fun g11_13=>zAu O O O O (fun h=>kD (by assumption) (lzf h))) O<|B 95 O (fun g11_9=>kZ O O O (fun h=>kD (by assumption) h) O) O<|r_or O (fun h=>(lzf h))<|H<|zD O (fun c5=>?_) (fun c5=>?_)
     ·have h5:=well_dec (x:=x) c5
      refine F O<|A O<|H<|o<|X O ?_
      exact congrArg vB (by rw [jB,zKy hx (p:=jJ) (by simpa using h5)];simp)
     ·have h5:=well_dec (x:=x) c5
      refine zM<|zQ O<|A O<|qJ O ⟨by omega,by omega⟩<|A O<|H ?_
      refine ⟨k+1,⟨by omega,zTh hx hp (by simpa using h5)⟩,(by omega),Weak.mk [false,true] ⟨G,G,T⟩ O⟩
    ·try simp only [I] at c4
     refine qQ<|F O<|A O<|H<|o<|X O ?_
     exact congrArg vB (syn5 c1 h2 h3 (all_end hp (by omega)))
theorem ref14_named (e:Ex) (he:e.wt<=6000000000000):
    Pur cfg 257 [vE e] (vB (lI e)):=by
 refine zT Tryz.func257 O Tryz.ntmps257 Tryz.results257 O ?_
 intro z hz
 obtain ⟨hL,hI,hA⟩:=e.parts he
 refine F O<|zV O O (qN O O) ?_
 rintro _ _ ⟨b1,rfl,rfl⟩
 refine A O<|H<|zK<|F O<|zG O wF<|zJ one3 (R 0 O) O<|yF O<|A O<|rL0 O (fun g1_3=>zE O zFu O) O<|B 8 O (fun g1_3=>zF O one9 O (R 0 O) O) O<|B 9 O (fun g1_3=>qM O ok60 (zEq _) ⟨G,O,T⟩) O<|B 10 O (fun g1_3=>kW O O) O<|yQ O (fun h=>h)<|H<|zD O (fun c1=>?_) (fun c1=>?_)
 ·refine F O<|A O<|H<|o<|X O ?_
  exact congrArg vB (by simp only [lI,c1,Bool.not_true,Bool.false_and])
 ·refine zM<|zK<|F O<|A O<|H<|zR<|zY ⟨[(3,.c _),(1,.c _)],[_]⟩ (Weak.mk [true] ⟨G,G,T⟩ O)<|qK 1 0 O O (Nat) (fun k=>[(3,vI k)]) (fun k=>[]) (fun k=>k<=e.Idx.length/\(e.Idx.all rW=(e.Idx.drop k).all rW)) (fun k=>e.Idx.length-k) ⟨0,⟨by omega,O⟩,Weak.mk [true] ⟨G,G,T⟩ O⟩ ?_
  rintro k ⟨hk,hp⟩
  refine zK<|F O<|A O<|zG O kX<|zJ wO (R 0 O) O<|qC O d<|yD O<|H<|zD O (fun c2=>?_) (fun c2=>?_)
  ·try simp only [I] at c2
   obtain ⟨x,hx⟩:=qY e.Idx k (by omega)
   refine zM<|zK<|zR<|F O<|zG O kX<|zJ wO (R 0 O) O<|A O<|qD O d (by omega) (Q (by assumption))<|qO O zEw<|zJ one9 qA O<|zU O (zBu O O O)<|A O<|rL0 O (fun g6_7=>zE O kX O) O<|B 28 O (fun g6_7=>zF O wO O (R 0 O) O) O<|rL0 O (fun g6_7=>zN O O) O<|rLz [(29,_),(30,_)] O gv1 ⟨O,O,O,O,T⟩ (fun g6_7=>qF O d O O (by omega) (Q (by assumption))) O<|B 31 O (fun g6_7=>qL O zEw O) O<|B 32 O (fun g6_7=>zF O one9 O qA O) O<|B 33 O (fun g6_7=>qM O ok60 (zEq _) ⟨G,O,T⟩) O<|B 34 O (fun g6_7=>kW O O) O<|yQ O (fun h=>h)<|H<|zD O (fun c3=>?_) (fun c3=>?_)
   ·refine F O<|A O<|H<|o<|X O ?_
    exact congrArg vB (by rw [lI,zKy hx (p:=rW) (by unfold rW;rw [c3];rfl)];simp)
   ·refine zM<|zQ O<|A O<|qJ O ⟨by omega,by omega⟩<|A O<|H ?_
    refine ⟨k+1,⟨by omega,zTh hx hp (by unfold rW;rw [c3];rfl)⟩,(by omega),Weak.mk [true] ⟨G,G,T⟩ O⟩
  ·try simp only [I] at c2
   refine qQ<|F O<|A O<|H<|o<|X O ?_
   exact congrArg vB (by rw [lI,c1,all_end hp (by omega)];rfl)
theorem ref14_ranked (e:Ex) (he:e.wt<=6000000000000):
    Pur cfg 258 [vE e] (vB (mF e)):=by
 refine zT Tryz.func258 O Tryz.ntmps258 Tryz.results258 O ?_
 intro z hz
 obtain ⟨hL,hI,hA⟩:=e.parts he
 refine F O<|zV O O (qN O O) ?_
 rintro _ _ ⟨b1,rfl,rfl⟩
 refine A O<|H<|zK<|zK<|qZ 13 mixed (by kernel_rfl) O O<|M O O (zE O wL O)<|M O O (zF O zBa O (R 0 O) O)<|M O O (yB O g O)<|M O O (zE O wF O)<|M O O (zF O one3 O (R 0 O) O)<|M O O (qM O ok283 (zQt _) ⟨G,O,T⟩)<|M O O (kN O O O)<|M O O (zN O O)<|f [] O O O O gv1 T (fun g1_7=>zE O kX O) O<|f [(12,_)] O O O O gv1 ⟨O,O,T⟩ (fun g1_7=>zF O wO O (R 0 O) O) O<|f [(13,_)] O O O O gv1 ⟨O,O,T⟩ (fun g1_7=>yB O d O) O<|f [(14,_)] O O O O gv1 ⟨O,O,T⟩ (fun g1_7=>yG O O O) O<|M O O (zAu O O O O (fun h=>(lzf h)))<|kE<|H<|zD O (fun c1=>?_) (fun c1=>?_)
 ·refine F O<|A O<|H<|o<|X O ?_
  exact congrArg vB (by simp only [mF,c1,Bool.not_true,Bool.false_and])
 ·refine zM<|zK<|F O<|A O<|H<|zR<|zY ⟨[(3,.c _),(1,.c _)],[_]⟩ (Weak.mk [true] ⟨G,G,T⟩ O)<|qK 1 0 O O (Nat) (fun k=>[(3,vI k)]) (fun k=>[]) (fun k=>k<=e.Idx.length/\(e.Idx.all rV=(e.Idx.drop k).all rV)) (fun k=>e.Idx.length-k) ⟨0,⟨by omega,O⟩,Weak.mk [true] ⟨G,G,T⟩ O⟩ ?_
  rintro k ⟨hk,hp⟩
  refine zK<|F O<|A O<|zG O kX<|zJ wO (R 0 O) O<|qC O d<|yD O<|H<|zD O (fun c2=>?_) (fun c2=>?_)
  ·try simp only [I] at c2
   obtain ⟨x,hx⟩:=qY e.Idx k (by omega)
   refine zM<|zK<|zR<|F O<|zG O kX<|zJ wO (R 0 O) O<|A O<|qD O d (by omega) (Q (by assumption))<|qO O zAr<|zJ zDw qA O<|qC O el70<|zU O (yG O O O)<|H<|zD O (fun c3=>?_) (fun c3=>?_)
   ·refine F O<|A O<|H<|o<|X O ?_
    exact congrArg vB (by rw [mF,zKy hx (p:=rV) (by unfold rV;rw [c3];rfl)];simp)
   ·refine zM<|zQ O<|A O<|qJ O ⟨by omega,by omega⟩<|A O<|H ?_
    refine ⟨k+1,⟨by omega,zTh hx hp (by unfold rV;rw [c3];rfl)⟩,(by omega),Weak.mk [true] ⟨G,G,T⟩ O⟩
  ·try simp only [I] at c2
   refine qQ<|F O<|A O<|H<|o<|X O ?_
   exact congrArg vB (by rw [mF,c1,all_end hp (by omega)];rfl)
theorem ref14_formed (e:Ex) (he:e.wt<=6000000000000) (hty:e.Op=1->jM e.Ty=true):
    Pur cfg 260 [vE e] (vB (jF e)):=by
 refine zT Tryz.func260 O Tryz.ntmps260 Tryz.results260 O ?_
 intro z hz
 obtain ⟨hL,hI,hA⟩:=e.parts he
 refine F O<|zV O O (qN O O) ?_
 rintro _ _ ⟨b1,rfl,rfl⟩
 refine A O<|H<|zK<|F O<|zG O wF<|zJ one3 (R 0 O) O<|yF O<|A O<|rL0 O (fun g1_3=>zE O zFt O) O<|B 9 O (fun g1_3=>qB O yN O (R 0 O) O) O<|rL0 O (fun g1_3=>zE O zKn O) O<|B 11 O (fun g1_3=>qB O agg36 O (R 0 O) O) O<|rLz [(10,_),(12,_)] O gv1 ⟨O,O,O,O,T⟩ (fun g1_3=>qM O ok285 (base_Val e.Ty e.Val (hty (by simp only [Lz,cond_true,cond_false,Bool.and_eq_true,Bool.or_eq_true,Bool.not_eq_true',Bool.not_eq_false',Bool.or_eq_false_iff,Bool.and_eq_false_iff,decide_eq_true_eq,decide_eq_false_iff_not,Bool.not_eq_true,Bool.not_eq_false] at g1_3;exact g1_3))) ⟨G,O,G,O,T⟩) O<|B 13 O (fun g1_3=>kW O O) O<|yQ O (fun h=>h)<|A O<|rL0 O (fun g1_11=>zE O zDe O) O<|B 17 O (fun g1_11=>qB O yX O (R 0 O) O) O<|B 18 O (fun g1_11=>qM O ok183 (zDr e.Lin hL) ⟨G,O,T⟩) O<|B 19 O (fun g1_11=>kW O O) O<|r_or O (fun h=>(lzf h))<|H<|zD O (fun c1=>?_) (fun c1=>?_)
 ·refine F O<|A O<|H<|o<|X O ?_
  exact congrArg vB (form_no c1)
 ·refine zM<|zK<|F O<|A O<|H<|zR<|zY ⟨[(3,.c _),(1,.c _)],[_]⟩ (Weak.mk [true] ⟨G,G,T⟩ O)<|qK 1 0 O O (Nat) (fun k=>[(3,vI k)]) (fun k=>[]) (fun k=>k<=e.Idx.length/\((bQ e).all bJ=((e.Idx.drop k).flatMap fun x=>x.Lin::x.At).all bJ)) (fun k=>e.Idx.length-k) ⟨0,⟨by omega,form_start c1⟩,Weak.mk [true] ⟨G,G,T⟩ O⟩ ?_
  rintro k ⟨hk,hp⟩
  refine zK<|F O<|A O<|zG O kX<|zJ wO (R 0 O) O<|qC O d<|yD O<|H<|zD O (fun c2=>?_) (fun c2=>?_)
  ·try simp only [I] at c2
   obtain ⟨x,hx⟩:=qY e.Idx k (by omega)
   have hxw:=Ex.idx_wt (zZ hx)
   refine zM<|zK<|zR<|zK<|F O<|zG O kX<|zJ wO (R 0 O) O<|A O<|qD O d (by omega) (Q (by assumption))<|qO O zEp<|zP yX qA O<|qI O ok183 (zDr x.Lin (by omega)) ⟨G,O,T⟩<|kQ O<|H<|zD O (fun c3=>?_) (fun c3=>?_)
   ·try simp only [I] at c3
    refine F O<|A O<|H<|o<|X O ?_
    exact congrArg vB (form_no2 hp (by rw [qR hx,List.flatMap_cons,List.all_append,List.all_cons,c3];rfl))
   ·try simp only [I] at c3
    refine zM<|F O<|A O<|H<|zR<|zY ⟨[(4,.c _),(1,.c _),(3,.c _)],[_]⟩ (Weak.mk [true] ⟨G,G,G,T⟩ O)<|qK 1 0 O O (Nat) (fun j=>[(4,vI j)]) (fun j=>[]) (fun j=>j<=x.At.length/\(x.At.all bJ=(x.At.drop j).all bJ)) (fun j=>x.At.length-j) ⟨0,⟨by omega,O⟩,Weak.mk [true] ⟨G,G,G,T⟩ O⟩ ?_
    rintro j ⟨hj,hq⟩
    refine zK<|F O<|A O<|zG O kX<|zJ wO (R 0 O) O<|A O<|qD O d (by omega) (Q (by assumption))<|qO O zAr<|zJ zDw qA O<|qC O el70<|yD O<|H<|zD O (fun c4=>?_) (fun c4=>?_)
    ·try simp only [I] at c4
     obtain ⟨l,hl⟩:=qY x.At j (by omega)
     have hlw:=zDc (zZ hl)
     refine zM<|zK<|zR<|F O<|zG O kX<|zJ wO (R 0 O) O<|A O<|qD O d (by omega) (Q (by assumption))<|qO O zAr<|zJ zDw qA O<|A O<|qD O el70 (by omega) (Q (by assumption))<|zP yX qA O<|qI O ok183 (zDr l (by omega)) ⟨G,O,T⟩<|kQ O<|H<|zD O (fun c5=>?_) (fun c5=>?_)
     ·try simp only [I] at c5
      refine F O<|A O<|H<|o<|X O ?_
      exact congrArg vB (form_no2 hp (by rw [qR hx,List.flatMap_cons,List.all_append,List.all_cons,zKy hl (p:=bJ) c5];simp))
     ·try simp only [I] at c5
      refine zM<|zQ O<|A O<|qJ O ⟨by omega,by omega⟩<|A O<|H ?_
      refine ⟨j+1,⟨by omega,zTh hl hq c5⟩,(by omega),Weak.mk [true] ⟨G,G,G,T⟩ O⟩
    ·try simp only [I] at c4
     refine qQ<|zQ O<|A O<|qJ O ⟨by omega,by omega⟩<|A O<|H ?_
     refine ⟨k+1,⟨by omega,(by rw [hp,qR hx,List.flatMap_cons,List.all_append,List.all_cons,c3,all_end hq (by omega)];rfl)⟩,(by omega),Weak.mk [true] ⟨G,G,T⟩ O⟩
  ·try simp only [I] at c2
   refine qQ<|F O<|A O<|H<|o<|X O ?_
   exact congrArg vB (form_yes c1 (by rw [hp,yW (by omega)];rfl))
theorem zUs (e:Ex) (ih:∀a,a∈e.Args->a.wt<=6000000000000->Pur cfg 230 [vE a] (vI (fZ a))) (he:e.wt<=6000000000000):
    Pur cfg 230 [vE e] (vI (fZ e)):=by
 refine zT Tryz.func230 O Tryz.ntmps230 Tryz.results230 O ?_
 intro z hz
 obtain ⟨hL,hI,hA⟩:=e.parts he
 refine F O<|zV O O (qN O O) ?_
 rintro _ _ ⟨b1,rfl,rfl⟩
 refine A O<|H<|zK<|zR<|F O<|zP kA (R 0 O) O<|qI O ok256 (ref14_plain e he) ⟨G,O,T⟩<|kQ O<|A O<|H<|zD O (fun c1=>?_) (fun c1=>?_)
 ·try simp only [I] at c1
  refine F O<|A O<|H<|o<|X O ?_
  exact congrArg vI (by rw [zGd,show dA e=5 by simp only [dA,c1];rfl];rfl)
 ·try simp only [I] at c1
  refine F O<|zP kA (R 0 O) O<|qI O ok257 (ref14_named e he) ⟨G,O,T⟩<|kQ O<|A O<|H<|zD O (fun c2=>?_) (fun c2=>?_)
  ·try simp only [I] at c2
   refine F O<|A O<|H<|o<|X O ?_
   exact congrArg vI (by rw [zGd,show dA e=7 by simp only [dA,c1,c2];rfl];rfl)
  ·try simp only [I] at c2
   refine F O<|zP kA (R 0 O) O<|qI O ok258 (ref14_ranked e he) ⟨G,O,T⟩<|kQ O<|A O<|H<|zD O (fun c3=>?_) (fun c3=>?_)
   ·try simp only [I] at c3
    refine F O<|A O<|H<|o<|X O ?_
    exact congrArg vI (by rw [zGd,show dA e=11 by simp only [dA,c1,c2,c3];rfl];rfl)
   ·try simp only [I] at c3
    refine F O<|zP kA (R 0 O) O<|qI O ok259 (ref14_typed e he) ⟨G,O,T⟩<|kQ O<|A O<|H<|zD O (fun c4=>?_) (fun c4=>?_)
    ·try simp only [I] at c4
     refine F O<|A O<|H<|o<|X O ?_
     exact congrArg vI (by rw [zGd,show dA e=10 by simp only [dA,c1,c2,c3,c4];rfl];rfl)
    ·try simp only [I] at c4
     refine F O<|zP kA (R 0 O) O<|qI O ok260 (ref14_formed e he (types_ty c4)) ⟨G,O,T⟩<|kQ O<|A O<|H<|zD O (fun c5=>?_) (fun c5=>?_)
     ·try simp only [I] at c5
      refine F O<|A O<|H<|o<|X O ?_
      exact congrArg vI (by rw [zGd,show dA e=1 by simp only [dA,c1,c2,c3,c4,c5];rfl];rfl)
     ·try simp only [I] at c5
      have hn:dA e=0:=by simp only [dA,c1,c2,c3,c4,c5];rfl
      refine zM<|zK<|F O<|A O<|H<|zR<|zY ⟨[(3,.c _),(1,.c _)],[_]⟩ (Weak.mk [true] ⟨G,G,T⟩ O)<|qK 1 0 O O (Nat) (fun k=>[(3,vI k)]) (fun k=>[]) (fun k=>k<=e.Args.length/\(rK e.Args=rK (e.Args.drop k))) (fun k=>e.Args.length-k) ⟨0,⟨by omega,O⟩,Weak.mk [true] ⟨G,G,T⟩ O⟩ ?_
      rintro k ⟨hk,hp⟩
      refine zK<|F O<|A O<|zG O wL<|zJ zBa (R 0 O) O<|qC O g<|yD O<|H<|zD O (fun c6=>?_) (fun c6=>?_)
      ·try simp only [I] at c6
       obtain ⟨a,ha⟩:=qY e.Args k (by omega)
       refine zM<|zK<|zR<|F O<|zG O wL<|zJ zBa (R 0 O) O<|A O<|qD O g (by omega) (zEn (by assumption))<|zP kA qA O<|qI O ok230 (ih a (zZ ha) (by have:=Ex.arg_wt (zZ ha);omega)) ⟨G,O,T⟩<|A O<|H<|F O<|A O<|yM O<|H<|zD O (fun c7=>?_) (fun c7=>?_)
       ·try simp only [I] at c7
        refine F O<|A O<|A O<|H<|o<|X O ?_
        exact congrArg vI (by rw [zGd e,hn,wR rfl,cond_true,hp,qR ha,zPy,yO c7];rfl)
       ·try simp only [I] at c7
        refine zM<|zQ O<|A O<|qJ O ⟨by omega,by omega⟩<|A O<|H ?_
        refine ⟨k+1,⟨by omega,(by rw [hp,qR ha,zPy,wR c7];rfl)⟩,(by omega),Weak.mk [true] ⟨G,G,T⟩ O⟩
      ·try simp only [I] at c6
       refine qQ<|F O<|A O<|H<|o<|X O ?_
       exact congrArg vI (by rw [zGd,hn,wR rfl,cond_true,hp,yW (by omega)];rfl)
theorem ref14_part (e:Ex) (he:e.wt<=6000000000000):Pur cfg 230 [vE e] (vI (fZ e)):=by
  induction e using Ex.ind with
  |_ e ih=>exact zUs e ih he
theorem zKq (n:Nat) (ih:n≠0->∀(a:Ex) (l:Int),a.wt<=6000000000000->l=n->Pur cfg 235 [vE a,vI l] (vI (jA (n-1) a))) (hn:n<=100) (e:Ex) (l:Int) (he:e.wt<=6000000000000) (hl:l=n+1):
    Pur cfg 235 [vE e,vI l] (vI (jA n e)):=by
 refine zT Tryz.func235 O Tryz.ntmps235 Tryz.results235 O ?_
 intro z hz
 obtain ⟨hL,hI,hA⟩:=e.parts he
 refine F O<|zV O O (qN O O) ?_
 rintro _ _ ⟨b1,rfl,rfl⟩
 refine A O<|H<|zK<|F O<|A O<|zU O (wY O O O)<|H<|zD O (fun c1=>?_) (fun c1=>?_)
 ·try simp only [I] at c1
  obtain rfl:n=0:=by omega
  refine F O<|A O<|A O<|H<|o<|X O ?_
  exact congrArg vI (by rw [hl];rfl)
 ·try simp only [I] at c1
  obtain ⟨m,rfl⟩:∃m,n=m+1:=⟨n-1,by omega⟩
  refine zM<|F O<|A O<|H<|zK<|F O<|zG O wL<|zJ zBa (R 0 O) O<|qC O g<|A O<|H<|zR<|zY ⟨[(14,.c _),(5,.c _),(1,.c _),(12,.c _),(13,.c _)],[]⟩ (Weak.mk [false] ⟨G,G,G,G,G,T⟩ O)<|qK 2 0 O O (Nat×Int) (fun ⟨k,d⟩=>[(14,vI k),(5,vI d)]) (fun ⟨k,d⟩=>[]) (fun ⟨k,d⟩=>k<=e.Args.length/\(1<=d)/\(d<=m+2)/\(jA (m+1) e=nQ (jA m) d (e.Args.drop k))) (fun ⟨k,d⟩=>e.Args.length-k) ⟨⟨0,1⟩,⟨by omega,by omega,by omega,O⟩,Weak.mk [] ⟨G,VLe.of_eq (O),G,G,G,T⟩ O⟩ ?_
  rintro ⟨k,d⟩ ⟨hk,hd1,hd2,hd3⟩
  show AWP _ _ _ _ _ ⟨[(14,vI k),(5,vI d)]++_,[]++_⟩
  refine F O<|yD O<|H<|zK<|zD O (fun c2=>?_) (fun c2=>?_)
  ·try simp only [I] at c2
   obtain ⟨a,ha⟩:=qY e.Args k (by omega)
   have hda:=depT_le m a
   refine zM<|zK<|zR<|F O<|qD O g (by omega) (zEn (by assumption))<|zP kA qA O<|zV O O (qE [none,none,none,none,none,none,none,none,none,none,some 2,some 4,some 13] O zr44 O) ?_
   rintro _ _ ⟨b2,rfl,rfl⟩
   refine Y 0 sz44 O<|H<|zQ O<|A O<|zP kA (R 0 O) O<|A O<|zU O (yE O O O ⟨by omega,by omega⟩)<|qI O ok235 (show Pur cfg 235 [vE a,vI (l-1)] (vI (jA m a)) from ih (by omega) a _ (by have:=Ex.arg_wt (zZ ha);omega) (by omega)) ⟨G,O,G,O,T⟩<|qJ O ⟨by omega,by omega⟩<|zU O (zQp O O O)<|A O<|H<|zQ O<|qJ O ⟨by omega,by omega⟩<|A O<|H ?_
   refine ⟨⟨k+1,max d (1+jA m a)⟩,⟨by omega,by omega,by omega,by rw [hd3,qR ha,nQ]⟩,(by show e.Args.length-(k+1)<e.Args.length-k;omega),Weak.mk [false] ⟨G,G,G,G,G,T⟩ O⟩
  ·try simp only [I] at c2
   refine qQ<|F O<|A O<|A O<|H<|o<|X O ?_
   exact congrArg vI (by rw [hd3,yW (by omega)];rfl)
theorem expr_depth (n:Nat) (e:Ex) (l:Int) (hn:n<=100) (he:e.wt<=6000000000000) (hl:l=n+1):Pur cfg 235 [vE e,vI l] (vI (jA n e)):=by
  induction n generalizing e l with
  |zero=>exact zKq 0 (fun h=>absurd rfl h) hn e l he hl
  |succ n ih=>exact zKq (n+1) (fun _ a l h1 h2=>ih a l (by omega) h1 (by omega)) hn e l he hl
theorem zIs (n:Nat) (ih:n≠0->∀(a:Ex) (l:Int),a.wt<=6000000000000->l=n->Pur cfg 254 [vE a,vI l] (vI (jA (n-1) a))) (hn:n<=100) (e:Ex) (l:Int) (he:e.wt<=6000000000000) (hl:l=n+1):
    Pur cfg 254 [vE e,vI l] (vI (jA n e)):=by
 refine zT Tryz.func254 O Tryz.ntmps254 Tryz.results254 O ?_
 intro z hz
 obtain ⟨hL,hI,hA⟩:=e.parts he
 refine F O<|zV O O (qN O O) ?_
 rintro _ _ ⟨b1,rfl,rfl⟩
 refine A O<|H<|F O<|A O<|H<|zK<|F O<|A O<|H<|zR<|zY ⟨[(6,.c _),(5,.c _),(1,.c _),(2,.c _)],[_]⟩ (Weak.mk [true] ⟨G,G,G,G,T⟩ O)<|qK 2 0 O O (Nat×Int) (fun ⟨k,d⟩=>[(6,vI k),(5,vI d)]) (fun ⟨k,d⟩=>[]) (fun ⟨k,d⟩=>k<=e.Args.length/\(1<=d)/\(d<=n+1)/\(n≠0->jA n e=nQ (jA (n-1)) d (e.Args.drop k))/\(n=0->d=1)) (fun ⟨k,d⟩=>e.Args.length-k) ⟨⟨0,1⟩,⟨by omega,by omega,by omega,fun h0=>dep_start h0,fun _=>O⟩,Weak.mk [true] ⟨G,VLe.of_eq (O),G,G,T⟩ O⟩ ?_
 rintro ⟨k,d⟩ ⟨hk,hd1,hd2,hd3,hd4⟩
 show AWP _ _ _ _ _ ⟨[(6,vI k),(5,vI d)]++_,[]++_⟩
 refine zK<|F O<|A O<|zG O wL<|zJ zBa (R 0 O) O<|qC O g<|yD O<|A O<|rL0 O (fun g3_5=>zN O O) O<|B 13 O (fun g3_5=>yG O O O) O<|yQ O (fun h=>h)<|H<|zD O (fun c1=>?_) (fun c1=>?_)
 ·try simp only [I] at c1
  obtain ⟨a,ha⟩:=qY e.Args k (by omega)
  have hda:=depT_le (n-1) a
  refine zM<|zK<|zR<|zQ O<|A O<|zG O wL<|zJ zBa (R 0 O) O<|A O<|qD O g (by omega) (zEn (by assumption))<|zP kA qA O<|A O<|zU O (yE O O O ⟨by omega,by omega⟩)<|qI O ok254 (ih (by omega) a _ (by have:=Ex.arg_wt (zZ ha);omega) (by omega)) ⟨G,O,G,O,T⟩<|qJ O ⟨by omega,by omega⟩<|zU O (zQp O O O)<|A O<|H<|zQ O<|A O<|qJ O ⟨by omega,by omega⟩<|A O<|H ?_
  refine ⟨⟨k+1,max d (1+jA (n-1) a)⟩,⟨by omega,by omega,by omega,fun h0=>by rw [hd3 h0,qR ha,nQ],fun h0=>by omega⟩,(by show e.Args.length-(k+1)<e.Args.length-k;omega),Weak.mk [true] ⟨G,G,G,G,T⟩ O⟩
 ·try simp only [I] at c1
  refine qQ<|F O<|A O<|A O<|H<|o<|X O ?_
  exact congrArg vI (dep_end hl (by omega) hd3 hd4)
theorem ref14_depth (n:Nat) (e:Ex) (l:Int) (hn:n<=100) (he:e.wt<=6000000000000) (hl:l=n+1):Pur cfg 254 [vE e,vI l] (vI (jA n e)):=by
  induction n generalizing e l with
  |zero=>exact zIs 0 (fun h=>absurd rfl h) hn e l he hl
  |succ n ih=>exact zIs (n+1) (fun _ a l h1 h2=>ih a l (by omega) h1 (by omega)) hn e l he hl
theorem expr_Depth (e:Ex) (he:e.wt<=6000000000000):
    Pur cfg 206 [vE e] (vI (jA 40 e)):=by
 refine zT Tryz.func206 O Tryz.ntmps206 Tryz.results206 O ?_
 intro z hz
 refine F O<|zV O O (qN O O) ?_
 rintro _ _ ⟨b1,rfl,rfl⟩
 refine A O<|H<|F O<|zP kA (R 0 O) O<|qI O ok235 (expr_depth 40 e 41 (by omega) he (by omega)) ⟨G,O,G,O,T⟩<|A O<|H<|o<|X O ?_
 exact O
theorem ref14_Depth (e:Ex) (he:e.wt<=6000000000000):
    Pur cfg 228 [vE e] (vI (jA 40 e)):=by
 refine zT Tryz.func228 O Tryz.ntmps228 Tryz.results228 O ?_
 intro z hz
 refine F O<|zV O O (qN O O) ?_
 rintro _ _ ⟨b1,rfl,rfl⟩
 refine A O<|H<|F O<|zP kA (R 0 O) O<|qI O ok254 (ref14_depth 40 e 41 (by omega) he (by omega)) ⟨G,O,G,O,T⟩<|A O<|H<|o<|X O ?_
 exact O
theorem zUr (e:Ex) (ih:∀a,a∈e.Args->∀(m:Nat) (l:Int),a.wt<=6000000000000->m<=1000000->l=m->Pur cfg 255 [vE a,vI l] (vI (rU a m))) (m:Nat) (l:Int) (he:e.wt<=6000000000000) (hm:m<=1000000) (hl:l=m):
    Pur cfg 255 [vE e,vI l] (vI (rU e m)):=by
 refine zT Tryz.func255 O Tryz.ntmps255 Tryz.results255 O ?_
 intro z hz
 obtain ⟨hL,hI,hA⟩:=e.parts he
 refine F O<|zV O O (qN O O) ?_
 rintro _ _ ⟨b1,rfl,rfl⟩
 refine A O<|H<|F O<|A O<|H<|zK<|F O<|A O<|H<|zR<|zY ⟨[(6,.c _),(5,.c _),(1,.c _),(2,.c _)],[_]⟩ (Weak.mk [true] ⟨G,G,G,G,T⟩ O)<|qK 2 0 O O (Nat×Nat) (fun ⟨k,n⟩=>[(6,vI k),(5,vI n)]) (fun ⟨k,n⟩=>[]) (fun ⟨k,n⟩=>k<=e.Args.length/\(n<=m+1)/\(rU e m=rG (e.Args.drop k) m n)) (fun ⟨k,n⟩=>e.Args.length-k) ⟨⟨0,1⟩,⟨by omega,by omega,sizE_eq e m⟩,Weak.mk [true] ⟨G,VLe.of_eq (O),G,G,T⟩ O⟩ ?_
 rintro ⟨k,n⟩ ⟨hk,hn1,hn2⟩
 show AWP _ _ _ _ _ ⟨[(6,vI k),(5,vI n)]++_,[]++_⟩
 refine zK<|F O<|A O<|zG O wL<|zJ zBa (R 0 O) O<|qC O g<|yD O<|A O<|rL0 O (fun g3_5=>zN O O) O<|rL0 O (fun g3_5=>zN O O) O<|rLz [(13,_),(14,_)] O gv1 ⟨O,O,O,O,T⟩ (fun g3_5=>wY O O O) O<|yQ O (fun h=>h)<|H<|zD O (fun c1=>?_) (fun c1=>?_)
 ·try simp only [I] at c1
  obtain ⟨a,ha⟩:=qY e.Args k (by omega)
  have hsa:=sizE_min a (m-n)
  refine zM<|zK<|zR<|zQ O<|A O<|zG O wL<|zJ zBa (R 0 O) O<|A O<|qD O g (by omega) (zEn (by assumption))<|zP kA qA O<|A O<|A O<|zU O (yE O O O ⟨by omega,by omega⟩)<|qI O ok255 (ih a (zZ ha) (m-n) _ (by have:=Ex.arg_wt (zZ ha);omega) (by omega) (by omega)) ⟨G,O,G,O,T⟩<|qJ O ⟨by omega,by omega⟩<|A O<|H<|zQ O<|A O<|qJ O ⟨by omega,by omega⟩<|A O<|H ?_
  refine ⟨⟨k+1,n+rU a (m-n)⟩,⟨by omega,by omega,by rw [hn2,qR ha,rG,if_pos (by omega)]⟩,(by show e.Args.length-(k+1)<e.Args.length-k;omega),Weak.mk [true] ⟨G,VLe.of_eq (congrArg vI (by omega)),G,G,T⟩ O⟩
 ·try simp only [I] at c1
  refine qQ<|F O<|A O<|A O<|H<|o<|X O ?_
  exact congrArg vI (by rw [hn2];exact congrArg Nat.cast (siz_end hl (by omega)))
theorem ref14_size (e:Ex) (m:Nat) (l:Int) (he:e.wt<=6000000000000) (hm:m<=1000000) (hl:l=m):Pur cfg 255 [vE e,vI l] (vI (rU e m)):=by
  induction e using Ex.ind generalizing m l with
  |_ e ih=>exact zUr e (fun a ha m l h1 h2 h3=>ih a ha m l h1 h2 h3) m l he hm hl
theorem ref14_Size (e:Ex) (he:e.wt<=6000000000000):
    Pur cfg 229 [vE e] (vI (szT e)):=by
 refine zT Tryz.func229 O Tryz.ntmps229 Tryz.results229 O ?_
 intro z hz
 refine F O<|zV O O (qN O O) ?_
 rintro _ _ ⟨b1,rfl,rfl⟩
 refine A O<|H<|F O<|zP kA (R 0 O) O<|qI O ok255 (ref14_size e 2000 2000 he (by omega) O) ⟨G,O,G,O,T⟩<|zU O (det_min O O O)<|A O<|H<|o<|X O ?_
 exact congrArg vI (by rw [sizE_min,szT];omega)
theorem ref14_Validate (e:Ex) (he:e.wt<=6000000000000):
    Pur cfg 200 [vE e] (vI (fP e)):=by
 refine zT Tryz.func200 O Tryz.ntmps200 Tryz.results200 O ?_
 intro z hz
 refine F O<|zV O O (qN O O) ?_
 rintro _ _ ⟨b1,rfl,rfl⟩
 refine A O<|H<|zK<|F O<|zP kA (R 0 O) O<|qI O ok228 (ref14_Depth e he) ⟨G,O,T⟩<|zU O (yG O O O)<|H<|zD O (fun c1=>?_) (fun c1=>?_)
 ·try simp only [I] at c1
  refine F O<|A O<|H<|o<|X O ?_
  rw [fP,wR c1];rfl
 ·try simp only [I] at c1
  refine zM<|zK<|F O<|zP kA (R 0 O) O<|qI O ok229 (ref14_Size e he) ⟨G,O,T⟩<|zU O (yG O O O)<|H<|zD O (fun c2=>?_) (fun c2=>?_)
  ·try simp only [I] at c2
   refine F O<|A O<|H<|o<|X O ?_
   rw [fP,yO (by omega),wR c2];rfl
  ·try simp only [I] at c2
   refine zM<|F O<|zP kA (R 0 O) O<|qI O ok230 (ref14_part e he) ⟨G,O,T⟩<|A O<|H<|o<|X O ?_
   rw [fP,yO (by omega),yO (by omega)];rfl
end Go.W
