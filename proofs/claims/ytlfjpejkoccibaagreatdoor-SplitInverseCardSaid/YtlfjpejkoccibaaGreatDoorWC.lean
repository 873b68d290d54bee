/-
  Walks: what functions of the program compute. Printed by wip/gen/mk2.py.
  Conditions: none.
-/
import Derived.Test.YtlfjpejkoccibaaGreatDoorWB
set_option linter.unusedSimpArgs false
set_option linter.unusedVariables false
set_option maxRecDepth 10000
namespace Go.W
open Go Go.Eng Go.Proofs Go.L41 Go.Br
attribute [local irreducible] AWP RWP TD finQ
theorem kL:aggT Tryz.prog 44=some 13:=by kernel_rfl
theorem el42:elemT Tryz.prog 42=some (44,13,160):=by kernel_rfl
theorem el70:elemT Tryz.prog 70=some (41,2,32):=by kernel_rfl
theorem wT:fieldT Tryz.prog 44 0=some (0,3):=by kernel_rfl
theorem zKu:fieldT Tryz.prog 44 1=some (1,9):=by kernel_rfl
theorem zMy:fieldT Tryz.prog 44 2=some (2,36):=by kernel_rfl
theorem zKt:fieldT Tryz.prog 44 3=some (4,38):=by kernel_rfl
theorem zEv:fieldT Tryz.prog 44 4=some (9,41):=by kernel_rfl
theorem zAw:fieldT Tryz.prog 44 5=some (11,34):=by kernel_rfl
theorem zAv:fieldT Tryz.prog 44 6=some (12,42):=by kernel_rfl
theorem zHh:fieldT Tryz.prog 72 0=some (0,41):=by kernel_rfl
theorem zKr:fieldT Tryz.prog 72 1=some (2,9):=by kernel_rfl
theorem zCk:fieldT Tryz.prog 72 2=some (3,70):=by kernel_rfl
theorem fl36:flatK Tryz.prog 36=some [.int,.int]:=by kernel_rfl
theorem ok49:callOk Tryz.prog 49=true:=by kernel_rfl
theorem ok166:callOk Tryz.prog 166=true:=by kernel_rfl
theorem ok235:callOk Tryz.prog 235=true:=by kernel_rfl
theorem ok270:callOk Tryz.prog 270=true:=by kernel_rfl
theorem ok271:callOk Tryz.prog 271=true:=by kernel_rfl
theorem ok272:callOk Tryz.prog 272=true:=by kernel_rfl
theorem ok273:callOk Tryz.prog 273=true:=by kernel_rfl
theorem ok274:callOk Tryz.prog 274=true:=by kernel_rfl
theorem ok275:callOk Tryz.prog 275=true:=by kernel_rfl
theorem ok276:callOk Tryz.prog 276=true:=by kernel_rfl
theorem ok277:callOk Tryz.prog 277=true:=by kernel_rfl
theorem zBn:oneT Tryz.prog 34=true:=by kernel_rfl
theorem zEh:oneT Tryz.prog 42=true:=by kernel_rfl
theorem zGy:oneT Tryz.prog 70=true:=by kernel_rfl
theorem pl36:placesT Tryz.prog 36=some [(0,1),(1,1)]:=by kernel_rfl
theorem sz44:(Tryz.prog.info? 44).map (·.size)=some 13:=by kernel_rfl
theorem sz72:(Tryz.prog.info? 72).map (·.size)=some 4:=by kernel_rfl
theorem un4:Tryz.prog.underlying 4=some .bool:=by kernel_rfl
theorem zr36:zeroT Tryz.prog 36=some [(Value.int IntKind.i64 0),(Value.int IntKind.i64 0)]:=by kernel_rfl
theorem zr44:zeroT Tryz.prog 44=some [(Value.int IntKind.i64 0),(Value.string (ByteArray.mk #[])),(Value.int IntKind.i64 0),(Value.int IntKind.i64 0),(Value.int IntKind.i64 0),(Value.int IntKind.i64 0),(Value.int IntKind.i64 0),(Value.int IntKind.i64 0),(Value.int IntKind.i64 0),(Value.int IntKind.i64 0),(Value.slice none 0 0),(Value.slice none 0 0),(Value.slice none 0 0)]:=by kernel_rfl
theorem zr72:zeroT Tryz.prog 72=some [(Value.int IntKind.i64 0),(Value.slice none 0 0),(Value.string (ByteArray.mk #[])),(Value.slice none 0 0)]:=by kernel_rfl
theorem expr_operands (op:Int):
    Pur cfg 275 [vI op] (vI (nArgs op)):=by
 refine zQ Tryz.func275 O Tryz.ntmps275 Tryz.results275 O ?_
 intro z hz
 refine F O<|A O<|H<|zI<|F O<|A O<|H<|zS<|zI<|F O<|yZ O<|A O<|H<|zD O (fun c1=>?_) (fun c1=>?_)
 ·try simp only [I] at c1
  refine zH<|zD O (fun c3=>?_) (fun c3=>?_)
  ·try simp only [I] at c3
   refine F O<|A O<|H<|o<|X O ?_
   exact congrArg vI (by unfold nArgs;(repeat' split)<;>omega)
  ·try simp only [I] at c3
   refine zI<|F O<|yZ O<|A O<|H<|zD O (fun c4=>?_) (fun c4=>?_)
   ·try simp only [I] at c4
    refine zH<|zD O (fun c6=>?_) (fun c6=>?_)
    ·try simp only [I] at c6
     refine F O<|A O<|H<|o<|X O ?_
     exact congrArg vI (by unfold nArgs;(repeat' split)<;>omega)
    ·try simp only [I] at c6
     refine F O<|yZ O<|A O<|H<|zD O (fun c7=>?_) (fun c7=>?_)
     ·try simp only [I] at c7
      refine F O<|A O<|H<|o<|X O ?_
      exact congrArg vI (by unfold nArgs;(repeat' split)<;>omega)
     ·try simp only [I] at c7
      refine zH<|F O<|A O<|H<|o<|X O ?_
      exact congrArg vI (by unfold nArgs;(repeat' split)<;>omega)
   ·try simp only [I] at c4
    refine F O<|yZ O<|A O<|H<|zD O (fun c5=>?_) (fun c5=>?_)
    ·try simp only [I] at c5
     refine zH<|zD O (fun c6=>?_) (fun c6=>?_)
     ·try simp only [I] at c6
      refine F O<|A O<|H<|o<|X O ?_
      exact congrArg vI (by unfold nArgs;(repeat' split)<;>omega)
     ·try simp only [I] at c6
      refine F O<|yZ O<|A O<|H<|zD O (fun c7=>?_) (fun c7=>?_)
      ·try simp only [I] at c7
       refine F O<|A O<|H<|o<|X O ?_
       exact congrArg vI (by unfold nArgs;(repeat' split)<;>omega)
      ·try simp only [I] at c7
       refine zH<|F O<|A O<|H<|o<|X O ?_
       exact congrArg vI (by unfold nArgs;(repeat' split)<;>omega)
    ·try simp only [I] at c5
     refine zT O<|yZ O<|A O<|H<|zD O (fun c6=>?_) (fun c6=>?_)
     ·try simp only [I] at c6
      refine F O<|A O<|H<|o<|X O ?_
      exact congrArg vI (by unfold nArgs;(repeat' split)<;>omega)
     ·try simp only [I] at c6
      refine F O<|yZ O<|A O<|H<|zD O (fun c7=>?_) (fun c7=>?_)
      ·try simp only [I] at c7
       refine F O<|A O<|H<|o<|X O ?_
       exact congrArg vI (by unfold nArgs;(repeat' split)<;>omega)
      ·try simp only [I] at c7
       refine zH<|F O<|A O<|H<|o<|X O ?_
       exact congrArg vI (by unfold nArgs;(repeat' split)<;>omega)
 ·try simp only [I] at c1
  refine F O<|yZ O<|A O<|H<|zD O (fun c2=>?_) (fun c2=>?_)
  ·try simp only [I] at c2
   refine zH<|zD O (fun c3=>?_) (fun c3=>?_)
   ·try simp only [I] at c3
    refine F O<|A O<|H<|o<|X O ?_
    exact congrArg vI (by unfold nArgs;(repeat' split)<;>omega)
   ·try simp only [I] at c3
    refine zI<|F O<|yZ O<|A O<|H<|zD O (fun c4=>?_) (fun c4=>?_)
    ·try simp only [I] at c4
     refine zH<|zD O (fun c6=>?_) (fun c6=>?_)
     ·try simp only [I] at c6
      refine F O<|A O<|H<|o<|X O ?_
      exact congrArg vI (by unfold nArgs;(repeat' split)<;>omega)
     ·try simp only [I] at c6
      refine F O<|yZ O<|A O<|H<|zD O (fun c7=>?_) (fun c7=>?_)
      ·try simp only [I] at c7
       refine F O<|A O<|H<|o<|X O ?_
       exact congrArg vI (by unfold nArgs;(repeat' split)<;>omega)
      ·try simp only [I] at c7
       refine zH<|F O<|A O<|H<|o<|X O ?_
       exact congrArg vI (by unfold nArgs;(repeat' split)<;>omega)
    ·try simp only [I] at c4
     refine F O<|yZ O<|A O<|H<|zD O (fun c5=>?_) (fun c5=>?_)
     ·try simp only [I] at c5
      refine zH<|zD O (fun c6=>?_) (fun c6=>?_)
      ·try simp only [I] at c6
       refine F O<|A O<|H<|o<|X O ?_
       exact congrArg vI (by unfold nArgs;(repeat' split)<;>omega)
      ·try simp only [I] at c6
       refine F O<|yZ O<|A O<|H<|zD O (fun c7=>?_) (fun c7=>?_)
       ·try simp only [I] at c7
        refine F O<|A O<|H<|o<|X O ?_
        exact congrArg vI (by unfold nArgs;(repeat' split)<;>omega)
       ·try simp only [I] at c7
        refine zH<|F O<|A O<|H<|o<|X O ?_
        exact congrArg vI (by unfold nArgs;(repeat' split)<;>omega)
     ·try simp only [I] at c5
      refine zT O<|yZ O<|A O<|H<|zD O (fun c6=>?_) (fun c6=>?_)
      ·try simp only [I] at c6
       refine F O<|A O<|H<|o<|X O ?_
       exact congrArg vI (by unfold nArgs;(repeat' split)<;>omega)
      ·try simp only [I] at c6
       refine F O<|yZ O<|A O<|H<|zD O (fun c7=>?_) (fun c7=>?_)
       ·try simp only [I] at c7
        refine F O<|A O<|H<|o<|X O ?_
        exact congrArg vI (by unfold nArgs;(repeat' split)<;>omega)
       ·try simp only [I] at c7
        refine zH<|F O<|A O<|H<|o<|X O ?_
        exact congrArg vI (by unfold nArgs;(repeat' split)<;>omega)
  ·try simp only [I] at c2
   refine zT O<|yZ O<|A O<|H<|zD O (fun c3=>?_) (fun c3=>?_)
   ·try simp only [I] at c3
    refine F O<|A O<|H<|o<|X O ?_
    exact congrArg vI (by unfold nArgs;(repeat' split)<;>omega)
   ·try simp only [I] at c3
    refine zI<|F O<|yZ O<|A O<|H<|zD O (fun c4=>?_) (fun c4=>?_)
    ·try simp only [I] at c4
     refine zH<|zD O (fun c6=>?_) (fun c6=>?_)
     ·try simp only [I] at c6
      refine F O<|A O<|H<|o<|X O ?_
      exact congrArg vI (by unfold nArgs;(repeat' split)<;>omega)
     ·try simp only [I] at c6
      refine F O<|yZ O<|A O<|H<|zD O (fun c7=>?_) (fun c7=>?_)
      ·try simp only [I] at c7
       refine F O<|A O<|H<|o<|X O ?_
       exact congrArg vI (by unfold nArgs;(repeat' split)<;>omega)
      ·try simp only [I] at c7
       refine zH<|F O<|A O<|H<|o<|X O ?_
       exact congrArg vI (by unfold nArgs;(repeat' split)<;>omega)
    ·try simp only [I] at c4
     refine F O<|yZ O<|A O<|H<|zD O (fun c5=>?_) (fun c5=>?_)
     ·try simp only [I] at c5
      refine zH<|zD O (fun c6=>?_) (fun c6=>?_)
      ·try simp only [I] at c6
       refine F O<|A O<|H<|o<|X O ?_
       exact congrArg vI (by unfold nArgs;(repeat' split)<;>omega)
      ·try simp only [I] at c6
       refine F O<|yZ O<|A O<|H<|zD O (fun c7=>?_) (fun c7=>?_)
       ·try simp only [I] at c7
        refine F O<|A O<|H<|o<|X O ?_
        exact congrArg vI (by unfold nArgs;(repeat' split)<;>omega)
       ·try simp only [I] at c7
        refine zH<|F O<|A O<|H<|o<|X O ?_
        exact congrArg vI (by unfold nArgs;(repeat' split)<;>omega)
     ·try simp only [I] at c5
      refine zT O<|yZ O<|A O<|H<|zD O (fun c6=>?_) (fun c6=>?_)
      ·try simp only [I] at c6
       refine F O<|A O<|H<|o<|X O ?_
       exact congrArg vI (by unfold nArgs;(repeat' split)<;>omega)
      ·try simp only [I] at c6
       refine F O<|yZ O<|A O<|H<|zD O (fun c7=>?_) (fun c7=>?_)
       ·try simp only [I] at c7
        refine F O<|A O<|H<|o<|X O ?_
        exact congrArg vI (by unfold nArgs;(repeat' split)<;>omega)
       ·try simp only [I] at c7
        refine zH<|F O<|A O<|H<|o<|X O ?_
        exact congrArg vI (by unfold nArgs;(repeat' split)<;>omega)
theorem kO (e:Ex):
    Pur cfg 166 [vE e] (vB (isCond e)):=by
 refine zQ Tryz.func166 O Tryz.ntmps166 Tryz.results166 O ?_
 intro z hz
 refine F O<|zU O O (qL O O) ?_
 rintro _ _ ⟨b1,rfl,rfl⟩
 refine A O<|H<|F O<|zJ O wT<|zK J (R 0 O) O<|zR O (wV O O O)<|A O<|M O (fun g1_3=>zE O wT O) O<|B 7 O (fun g1_3=>Q O J O (R 0 O) O) O<|B 8 O (fun g1_3=>wV O O O) O<|kD O (fun h=>h)<|A O<|H<|o<|X O ?_
 exact O
theorem zGi (op i:Int):
    Pur cfg 277 [vI op,vI i] (vB (wantC op i)):=by
 refine zQ Tryz.func277 O Tryz.ntmps277 Tryz.results277 O ?_
 intro z hz
 refine F O<|A O<|H<|zI<|F O<|A O<|H<|zS<|zI<|F O<|yZ O<|A O<|H<|zD O (fun c1=>?_) (fun c1=>?_)
 ·try simp only [I] at c1
  refine zH<|zD O (fun c3=>?_) (fun c3=>?_)
  ·try simp only [I] at c3
   refine F O<|A O<|H<|o<|X O ?_
   exact congrArg vB (by unfold wantC;first|(exfalso;omega)|(simp [*];done)|(rw [Bool.eq_iff_iff];simp only [Bool.or_eq_true,Bool.and_eq_true,decide_eq_true_eq];omega))
  ·try simp only [I] at c3
   refine zH<|F O<|A O<|yZ O<|A O<|M O (fun g6_2=>w O O) O<|B 13 O (fun g6_2=>yX O O O) O<|kD O (fun h=>h)<|A O<|H<|o<|X O ?_
   exact congrArg vB (by unfold wantC;first|(exfalso;omega)|(simp [*];done)|(rw [Bool.eq_iff_iff];simp only [Bool.or_eq_true,Bool.and_eq_true,decide_eq_true_eq];omega))
 ·try simp only [I] at c1
  refine F O<|yZ O<|A O<|H<|zD O (fun c2=>?_) (fun c2=>?_)
  ·try simp only [I] at c2
   refine zH<|zD O (fun c3=>?_) (fun c3=>?_)
   ·try simp only [I] at c3
    refine F O<|A O<|H<|o<|X O ?_
    exact congrArg vB (by unfold wantC;first|(exfalso;omega)|(simp [*];done)|(rw [Bool.eq_iff_iff];simp only [Bool.or_eq_true,Bool.and_eq_true,decide_eq_true_eq];omega))
   ·try simp only [I] at c3
    refine zH<|F O<|A O<|yZ O<|A O<|M O (fun g6_2=>w O O) O<|B 13 O (fun g6_2=>yX O O O) O<|kD O (fun h=>h)<|A O<|H<|o<|X O ?_
    exact congrArg vB (by unfold wantC;first|(exfalso;omega)|(simp [*];done)|(rw [Bool.eq_iff_iff];simp only [Bool.or_eq_true,Bool.and_eq_true,decide_eq_true_eq];omega))
  ·try simp only [I] at c2
   refine zT O<|yZ O<|A O<|H<|zD O (fun c3=>?_) (fun c3=>?_)
   ·try simp only [I] at c3
    refine F O<|A O<|H<|o<|X O ?_
    exact congrArg vB (by unfold wantC;first|(exfalso;omega)|(simp [*];done)|(rw [Bool.eq_iff_iff];simp only [Bool.or_eq_true,Bool.and_eq_true,decide_eq_true_eq];omega))
   ·try simp only [I] at c3
    refine zH<|F O<|A O<|yZ O<|A O<|M O (fun g6_2=>w O O) O<|B 13 O (fun g6_2=>yX O O O) O<|kD O (fun h=>h)<|A O<|H<|o<|X O ?_
    exact congrArg vB (by unfold wantC;first|(exfalso;omega)|(simp [*];done)|(rw [Bool.eq_iff_iff];simp only [Bool.or_eq_true,Bool.and_eq_true,decide_eq_true_eq];omega))
theorem zQr (l:Lf):
    Pur cfg 270 [vLin l] (vB (zeroL l)):=by
 refine zQ Tryz.func270 O Tryz.ntmps270 Tryz.results270 O ?_
 intro z hz
 refine F O<|zU O O (qL O O) ?_
 rintro _ _ ⟨b1,rfl,rfl⟩
 refine A O<|H<|F O<|zJ O zGd<|zK n (R 0 O) O<|yZ O<|A O<|M O (fun g1_3=>zE O wU O) O<|B 7 O (fun g1_3=>Q O zDl O (R 0 O) O) O<|B 8 O (fun g1_3=>yE O P O) O<|B 9 O (fun g1_3=>yX O O O) O<|kD O (fun h=>h)<|A O<|H<|o<|X O ?_
 exact O
theorem zQq (x:Ix):
    Pur cfg 273 [vIndex x] (vB (wellIx x)):=by
 refine zQ Tryz.func273 O Tryz.ntmps273 Tryz.results273 O ?_
 intro z hz
 refine F O<|zU O O (qL O O) ?_
 rintro _ _ ⟨b1,rfl,rfl⟩
 refine A O<|H<|zI<|F O<|zJ O zKr<|zK one9 (R 0 O) O<|zR O (yM O O O)<|H<|zD O (fun c1=>?_) (fun c1=>?_)
 ·try simp only [I] at c1
  refine F O<|zJ O zCk<|zK zGy (R 0 O) O<|qB O el70<|yZ O<|A O<|H<|o<|X O ?_
  rw [wellIx,wQ c1];rfl
 ·try simp only [I] at c1
  refine zH<|F O<|zJ O zHh<|zO kE (R 0 O) O<|qG O ok270 (zQr x.Lin) ⟨G,O,T⟩<|A O<|H<|o<|X O ?_
  rw [wellIx,yL c1];rfl
theorem expr_syntax_1 (x:Ix):
    Pur cfg 272 [vIndex x] (vB (!wellIx x)):=by
 refine zQ Tryz.func272 O Tryz.ntmps272 Tryz.results272 O ?_
 intro z hz
 refine F O<|zU O O (qL O O) ?_
 rintro _ _ ⟨b1,rfl,rfl⟩
 refine A O<|H<|F O<|zO zNl (R 0 O) O<|qG O ok273 (zQq x) ⟨G,O,T⟩<|kY O<|A O<|H<|o<|X O ?_
 exact O
theorem expr_names_1 (x:Ix):
    Pur cfg 274 [vIndex x] (vB (!nmIx x)):=by
 refine zQ Tryz.func274 O Tryz.ntmps274 Tryz.results274 O ?_
 intro z hz
 refine F O<|zU O O (qL O O) ?_
 rintro _ _ ⟨b1,rfl,rfl⟩
 refine A O<|H<|F O<|zJ O zKr<|zK one9 (R 0 O) O<|zR O (zCw O O O)<|A O<|M O (fun g1_3=>zE O zKr O) O<|B 7 O (fun g1_3=>Q O one9 O (R 0 O) O) O<|B 8 O (fun g1_3=>qI O ok49 (zAa _) ⟨G,O,T⟩) O<|B 9 O (fun g1_3=>wC O O) O<|kD O (fun h=>h)<|A O<|H<|o<|X O ?_
 exact congrArg vB (by unfold nmIx;simp)
theorem expr_rank_1 (x:Ix):
    Pur cfg 276 [vIndex x] (vB (!rkIx x)):=by
 refine zQ Tryz.func276 O Tryz.ntmps276 Tryz.results276 O ?_
 intro z hz
 refine F O<|zU O O (qL O O) ?_
 rintro _ _ ⟨b1,rfl,rfl⟩
 refine A O<|H<|F O<|zJ O zCk<|zK zGy (R 0 O) O<|qB O el70<|zR O (yW O O O)<|A O<|H<|o<|X O ?_
 exact congrArg vB (by unfold rkIx;simp)
theorem expr_syntax (e:Ex) (he:e.wt<=6000000000000):
    Pur cfg 236 [vE e] (vB (synOk e)):=by
 refine zQ Tryz.func236 O Tryz.ntmps236 Tryz.results236 O ?_
 intro z hz
 obtain ⟨hL,hI,hA⟩:=e.parts he
 refine F O<|zU O O (qL O O) ?_
 rintro _ _ ⟨b1,rfl,rfl⟩
 refine A O<|H<|zI<|qY 13 mixed (by kernel_rfl) O O<|Y O O (zE O wT O)<|Y O O (Q O J O (R 0 O) O)<|Y O O (yX O O O)<|Y O O (zE O wT O)<|Y O O (Q O J O (R 0 O) O)<|Y O O (yX O O O)<|Y O O (w O O)<|i [] O O O O gv1 T (fun g1_6=>zE O wT O) O<|i [(14,_)] O O O O gv1 ⟨O,O,T⟩ (fun g1_6=>Q O J O (R 0 O) O) O<|i [(15,_)] O O O O gv1 ⟨O,O,T⟩ (fun g1_6=>yX O O O) O<|Y O O (zDh O O O O (fun h=>(lzf h)))<|Y O O (yC O O)<|Y O O (yC O O)<|kH<|H<|zI<|qY 8 mixed (by kernel_rfl) O O<|Y O O (zE O wT O)<|Y O O (Q O J O (R 0 O) O)<|Y O O (yX O O O)<|Y O O (zE O wT O)<|Y O O (Q O J O (R 0 O) O)<|Y O O (yX O O O)<|Y O O (yC O O)<|Y O O (yC O O)<|kH<|H<|zI<|zS<|F O<|zJ O wT<|zK J (R 0 O) O<|yN O<|A O<|M O (fun g3_3=>zE O wT O) O<|B 29 O (fun g3_3=>Q O J O (R 0 O) O) O<|B 30 O (fun g3_3=>yW O O O) O<|j O (fun h=>(lzf h))<|A O<|H<|zD O (fun c1=>?_) (fun c1=>?_)
 ·refine F O<|A O<|H<|o<|X O ?_
  exact congrArg vB (by simp only [synOk,c1,Bool.not_true,Bool.not_false,Bool.true_and,Bool.and_true,Bool.false_and,Bool.and_false])
 ·refine F O<|A O<|kY O<|A O<|M O (fun g5_2=>zE O zMy O) O<|B 37 O (fun g5_2=>zX O agg36 O (R 0 O) O) O<|M O (fun g5_2=>zHm O zr36 pl36 O) O<|rLz [(38,_),(39,_)] O gv1 ⟨O,O,O,O,T⟩ (fun g5_2=>zCi O fl36 O O O) O<|kD O (fun h=>h)<|A O<|H<|zD O (fun c2=>?_) (fun c2=>?_)
  ·have c2:(!decide (e.Op=1)&& !val0 e.Val)=true:=c2
   refine F O<|A O<|H<|o<|X O ?_
   exact congrArg vB (by simp only [synOk,c2,Bool.not_true,Bool.not_false,Bool.true_and,Bool.and_true,Bool.false_and,Bool.and_false])
  ·have c2:(!decide (e.Op=1)&& !val0 e.Val)=false:=c2
   refine F O<|A O<|kY O<|A O<|M O (fun g7_2=>zE O zKt O) O<|B 46 O (fun g7_2=>zX O yR O (R 0 O) O) O<|M O (fun g7_2=>zHm O l pl38 O) O<|rLz [(47,_),(48,_)] O gv1 ⟨O,O,O,O,T⟩ (fun g7_2=>zCi O fl38 O O O) O<|kD O (fun h=>h)<|A O<|H<|zD O (fun c3=>?_) (fun c3=>?_)
   ·have c3:(!(decide (e.Op=1)||decide (e.Op=12))&& !ty0 e.Ty)=true:=c3
    refine F O<|A O<|H<|o<|X O ?_
    exact congrArg vB (by simp only [synOk,c3,Bool.not_true,Bool.not_false,Bool.true_and,Bool.and_true,Bool.false_and,Bool.and_false])
   ·have c3:(!(decide (e.Op=1)||decide (e.Op=12))&& !ty0 e.Ty)=false:=c3
    refine F O<|A O<|kY O<|A O<|M O (fun g9_2=>zE O zEv O) O<|B 55 O (fun g9_2=>zX O kE O (R 0 O) O) O<|B 56 O (fun g9_2=>qI O ok270 (zQr e.Lin) ⟨G,O,T⟩) O<|B 57 O (fun g9_2=>wC O O) O<|kD O (fun h=>h)<|A O<|H<|zD O (fun c4=>?_) (fun c4=>?_)
    ·refine F O<|A O<|H<|o<|X O ?_
     exact congrArg vB (by simp only [synOk,c4,Bool.not_true,Bool.not_false,Bool.true_and,Bool.and_true,Bool.false_and,Bool.and_false])
    ·refine F O<|A O<|kY O<|A O<|M O (fun g11_2=>zE O zKu O) O<|B 64 O (fun g11_2=>Q O one9 O (R 0 O) O) O<|B 65 O (fun g11_2=>zCw O O O) O<|B 66 O (fun g11_2=>w O O) O<|rLz [] O gv2 T (fun g11_6=>zE O zAw O) O<|rLz [(68,_)] O gv2 ⟨O,O,T⟩ (fun g11_6=>Q O zBn O (R 0 O) O) O<|rLz [(69,_)] O gv2 ⟨O,O,T⟩ (fun g11_6=>yE O g O) O<|rLz [(70,_)] O gv2 ⟨O,O,T⟩ (fun g11_6=>yW O O O) O<|B 67 O (fun g11_2=>zDh O O O O (fun h=>kK (by assumption) (lzf h))) O<|kD O (fun h=>h)<|A O<|H<|zD O (fun c5=>?_) (fun c5=>?_)
     ·refine F O<|A O<|H<|o<|X O ?_
      exact congrArg vB (by simp only [synOk,c5,Bool.not_true,Bool.not_false,Bool.true_and,Bool.and_true,Bool.false_and,Bool.and_false])
     ·refine zH<|F O<|zJ O zAw<|zK zBn (R 0 O) O<|qG O ok271 (zAj e.Idx _ (fun x=> !wellIx x) hI (fun x _=>FnPur.of_pur (first:=[]) (cap:=[]) ok272 (expr_syntax_1 x))) ⟨G,O,G,O,T⟩<|kY O<|A O<|H<|o<|X O ?_
      exact congrArg vB (by rw [zGz];simp only [synOk,c1,c2,c3,c4,c5,Bool.not_true,Bool.not_false,Bool.true_and,Bool.and_true,Bool.false_and,Bool.and_false])
theorem expr_names (e:Ex) (he:e.wt<=6000000000000):
    Pur cfg 237 [vE e] (vB (namesE e)):=by
 refine zQ Tryz.func237 O Tryz.ntmps237 Tryz.results237 O ?_
 intro z hz
 obtain ⟨hL,hI,hA⟩:=e.parts he
 refine F O<|zU O O (qL O O) ?_
 rintro _ _ ⟨b1,rfl,rfl⟩
 refine A O<|H<|zI<|F O<|zJ O wT<|zK J (R 0 O) O<|yZ O<|A O<|M O (fun g1_3=>zE O zKu O) O<|B 7 O (fun g1_3=>Q O one9 O (R 0 O) O) O<|B 8 O (fun g1_3=>qI O ok49 (zAa _) ⟨G,O,T⟩) O<|B 9 O (fun g1_3=>wC O O) O<|kD O (fun h=>h)<|H<|zD O (fun c1=>?_) (fun c1=>?_)
 ·refine F O<|A O<|H<|o<|X O ?_
  exact congrArg vB (by simp only [namesE,c1,Bool.not_true,Bool.false_and])
 ·refine zH<|F O<|zJ O zAw<|zK zBn (R 0 O) O<|qG O ok271 (zAj e.Idx _ (fun x=> !nmIx x) hI (fun x _=>FnPur.of_pur (first:=[]) (cap:=[]) ok274 (expr_names_1 x))) ⟨G,O,G,O,T⟩<|kY O<|A O<|H<|o<|X O ?_
  exact congrArg vB (by rw [zGz];simp only [namesE,c1,Bool.not_false,Bool.true_and])
theorem expr_rank (e:Ex) (he:e.wt<=6000000000000):
    Pur cfg 238 [vE e] (vB (rankE e)):=by
 refine zQ Tryz.func238 O Tryz.ntmps238 Tryz.results238 O ?_
 intro z hz
 obtain ⟨hL,hI,hA⟩:=e.parts he
 refine F O<|zU O O (qL O O) ?_
 rintro _ _ ⟨b1,rfl,rfl⟩
 refine A O<|H<|zI<|zI<|qY 13 mixed (by kernel_rfl) O O<|Y O O (zE O zAv O)<|Y O O (Q O zEh O (R 0 O) O)<|Y O O (yE O el42 O)<|Y O O (zE O wT O)<|Y O O (Q O J O (R 0 O) O)<|Y O O (qI O ok275 (expr_operands _) ⟨G,O,T⟩)<|Y O O (kT O O O)<|Y O O (w O O)<|i [] O O O O gv1 T (fun g1_7=>zE O zAw O) O<|i [(11,_)] O O O O gv1 ⟨O,O,T⟩ (fun g1_7=>Q O zBn O (R 0 O) O) O<|i [(12,_)] O O O O gv1 ⟨O,O,T⟩ (fun g1_7=>yE O g O) O<|i [(13,_)] O O O O gv1 ⟨O,O,T⟩ (fun g1_7=>yW O O O) O<|Y O O (zDh O O O O (fun h=>(lzf h)))<|kH<|H<|zD O (fun c1=>?_) (fun c1=>?_)
 ·refine F O<|A O<|H<|o<|X O ?_
  exact congrArg vB (by simp only [rankE,c1,Bool.not_true,Bool.false_and])
 ·refine zH<|F O<|zJ O zAw<|zK zBn (R 0 O) O<|qG O ok271 (zAj e.Idx _ (fun x=> !rkIx x) hI (fun x _=>FnPur.of_pur (first:=[]) (cap:=[]) ok276 (expr_rank_1 x))) ⟨G,O,G,O,T⟩<|kY O<|A O<|H<|o<|X O ?_
  exact congrArg vB (by rw [zGz];simp only [rankE,c1,Bool.not_false,Bool.true_and])
theorem expr_types (e:Ex) (he:e.wt<=6000000000000):
    Pur cfg 239 [vE e] (vB (typesE e)):=by
 refine zQ Tryz.func239 O Tryz.ntmps239 Tryz.results239 O ?_
 intro z hz
 obtain ⟨hL,hI,hA⟩:=e.parts he
 refine F O<|zU O O (qL O O) ?_
 rintro _ _ ⟨b1,rfl,rfl⟩
 refine A O<|H<|zI<|F O<|zJ O wT<|zK J (R 0 O) O<|yZ O<|A O<|M O (fun g1_3=>zE O wT O) O<|B 9 O (fun g1_3=>Q O J O (R 0 O) O) O<|B 10 O (fun g1_3=>yX O O O) O<|j O (fun h=>(lzf h))<|A O<|M O (fun g1_8=>zE O zKt O) O<|B 14 O (fun g1_8=>zX O yR O (R 0 O) O) O<|B 15 O (fun g1_8=>qI O ok127 (zBx _) ⟨G,O,T⟩) O<|B 16 O (fun g1_8=>kT O O O) O<|kD O (fun h=>h)<|H<|zD O (fun c1=>?_) (fun c1=>?_)
 ·rw [tyErr_dec] at c1
  refine F O<|A O<|H<|o<|X O ?_
  exact congrArg vB (by simp only [typesE,c1,Bool.not_true,Bool.false_and])
 ·rw [tyErr_dec] at c1
  refine zH<|zI<|F O<|zJ O zAv<|zK zEh (R 0 O) O<|qB O el42<|A O<|H<|zS<|zV ⟨[(22,.c _),(1,.c _),(20,.c _),(21,.c _)],[_]⟩ (Weak.mk [true] ⟨G,G,G,G,T⟩ O)<|qO 1 0 O O (Nat) (fun k=>[(22,vI k)]) (fun k=>[]) (fun k=>k<=e.Args.length/\(condsOk e.Op 0 e.Args=condsOk e.Op k (e.Args.drop k))) (fun k=>e.Args.length-k) ⟨0,⟨by omega,O⟩,Weak.mk [true] ⟨G,G,G,G,T⟩ O⟩ ?_
  rintro k ⟨hk,hp⟩
  refine F O<|yN O<|H<|zI<|zD O (fun c2=>?_) (fun c2=>?_)
  ·try simp only [I] at c2
   obtain ⟨a,ha⟩:=qZ e.Args k (by omega)
   refine zH<|zI<|zS<|F O<|A O<|qD O el42 (by omega) (zIh (by assumption))<|zO kL qA O<|zU O O (qC [none,none,none,none,none,none,none,none,none,none,some 2,some 4,some 13] O zr44 O) ?_
   rintro _ _ ⟨b2,rfl,rfl⟩
   refine A O<|D 0 sz44 O<|H<|zI<|qY 7 mixed (by kernel_rfl) O O<|Y O O (zX O kL O (R 0 O) O)<|Y O O (qI O ok166 (kO a) ⟨G,O,T⟩)<|Y O O (zE O wT O)<|Y O O (Q O J O (R 1 O) O)<|Y O O (w O O)<|Y O O (qI O ok277 (zGi _ _) ⟨G,O,G,O,T⟩)<|Y O O (det_bneq O un4 O O)<|kH<|H<|zD O (fun c3=>?_) (fun c3=>?_)
   ·refine F O<|A O<|H<|o<|X O ?_
    exact congrArg vB (by simp only [typesE,c1,Bool.not_false,Bool.true_and];rw [hp,qP ha,condsOk,show (isCond a==wantC e.Op k)=false by simpa using c3,Bool.false_and])
   ·refine zH<|zT O<|qK O ⟨by omega,by omega⟩<|A O<|H ?_
    refine ⟨k+1,⟨by omega,(by rw [hp,qP ha,condsOk,show (isCond a==wantC e.Op k)=true by simpa using c3,Bool.true_and];rfl)⟩,(by omega),Weak.mk [false,true] ⟨G,G,G,G,T⟩ O⟩
  ·try simp only [I] at c2
   refine qQ<|F O<|A O<|H<|o<|X O ?_
   exact congrArg vB (by simp only [typesE,c1,Bool.not_false,Bool.true_and];rw [hp,kB (by omega)];rfl)
theorem zHj (n:Nat) (ih:n≠0->∀(a:Ex) (l:Int),a.wt<=6000000000000->l=n->Pur cfg 235 [vE a,vI l] (vI (depT (n-1) a))) (hn:n<=100) (e:Ex) (l:Int) (he:e.wt<=6000000000000) (hl:l=n+1):
    Pur cfg 235 [vE e,vI l] (vI (depT n e)):=by
 refine zQ Tryz.func235 O Tryz.ntmps235 Tryz.results235 O ?_
 intro z hz
 obtain ⟨hL,hI,hA⟩:=e.parts he
 refine F O<|zU O O (qL O O) ?_
 rintro _ _ ⟨b1,rfl,rfl⟩
 refine A O<|H<|zI<|F O<|A O<|zR O (wV O O O)<|H<|zD O (fun c1=>?_) (fun c1=>?_)
 ·try simp only [I] at c1
  obtain rfl:n=0:=by omega
  refine F O<|A O<|A O<|H<|o<|X O ?_
  exact congrArg vI (by rw [hl];rfl)
 ·try simp only [I] at c1
  obtain ⟨m,rfl⟩:∃m,n=m+1:=⟨n-1,by omega⟩
  refine zH<|F O<|A O<|H<|zI<|F O<|zJ O zAv<|zK zEh (R 0 O) O<|qB O el42<|A O<|H<|zS<|zV ⟨[(14,.c _),(5,.c _),(1,.c _),(12,.c _),(13,.c _)],[]⟩ (Weak.mk [false] ⟨G,G,G,G,G,T⟩ O)<|qO 2 0 O O (Nat×Int) (fun ⟨k,d⟩=>[(14,vI k),(5,vI d)]) (fun ⟨k,d⟩=>[]) (fun ⟨k,d⟩=>k<=e.Args.length/\(1<=d)/\(d<=m+2)/\(depT (m+1) e=depF (depT m) d (e.Args.drop k))) (fun ⟨k,d⟩=>e.Args.length-k) ⟨⟨0,1⟩,⟨by omega,by omega,by omega,O⟩,Weak.mk [] ⟨G,VLe.of_eq (O),G,G,G,T⟩ O⟩ ?_
  rintro ⟨k,d⟩ ⟨hk,hd1,hd2,hd3⟩
  show AWP _ _ _ _ _ ⟨[(14,vI k),(5,vI d)]++_,[]++_⟩
  refine F O<|yN O<|H<|zI<|zD O (fun c2=>?_) (fun c2=>?_)
  ·try simp only [I] at c2
   obtain ⟨a,ha⟩:=qZ e.Args k (by omega)
   have hda:=depT_le m a
   refine zH<|zI<|zS<|F O<|qD O el42 (by omega) (zIh (by assumption))<|zO kL qA O<|zU O O (qC [none,none,none,none,none,none,none,none,none,none,some 2,some 4,some 13] O zr44 O) ?_
   rintro _ _ ⟨b2,rfl,rfl⟩
   refine D 0 sz44 O<|H<|zT O<|A O<|zO kL (R 0 O) O<|A O<|zR O (yB O O O ⟨by omega,by omega⟩)<|qG O ok235 (show Pur cfg 235 [vE a,vI (l-1)] (vI (depT m a)) from ih (by omega) a _ (by have:=Ex.arg_wt (zZ ha);omega) (by omega)) ⟨G,O,G,O,T⟩<|qK O ⟨by omega,by omega⟩<|zR O (det_max O O O)<|A O<|H<|zT O<|qK O ⟨by omega,by omega⟩<|A O<|H ?_
   refine ⟨⟨k+1,max d (1+depT m a)⟩,⟨by omega,by omega,by omega,by rw [hd3,qP ha,depF]⟩,(by show e.Args.length-(k+1)<e.Args.length-k;omega),Weak.mk [false] ⟨G,G,G,G,G,T⟩ O⟩
  ·try simp only [I] at c2
   refine qQ<|F O<|A O<|A O<|H<|o<|X O ?_
   exact congrArg vI (by rw [hd3,kB (by omega)];rfl)
theorem expr_depth (n:Nat) (e:Ex) (l:Int) (hn:n<=100) (he:e.wt<=6000000000000) (hl:l=n+1):Pur cfg 235 [vE e,vI l] (vI (depT n e)):=by
  induction n generalizing e l with
  |zero=>exact zHj 0 (fun h=>absurd rfl h) hn e l he hl
  |succ n ih=>exact zHj (n+1) (fun _ a l h1 h2=>ih a l (by omega) h1 (by omega)) hn e l he hl
theorem expr_Depth (e:Ex) (he:e.wt<=6000000000000):
    Pur cfg 206 [vE e] (vI (depT 40 e)):=by
 refine zQ Tryz.func206 O Tryz.ntmps206 Tryz.results206 O ?_
 intro z hz
 refine F O<|zU O O (qL O O) ?_
 rintro _ _ ⟨b1,rfl,rfl⟩
 refine A O<|H<|F O<|zO kL (R 0 O) O<|qG O ok235 (expr_depth 40 e 41 (by omega) he (by omega)) ⟨G,O,G,O,T⟩<|A O<|H<|o<|X O ?_
 exact O
end Go.W
