/-
  Walks: what functions of the program compute. Printed by wip/gen/mk2.py.
  Conditions: none.
-/
import Derived.Test.YtdldhbfgfkebjaaGreatDoorWB
set_option linter.unusedSimpArgs false
set_option linter.unusedVariables false
set_option maxRecDepth 10000
namespace Go.W
open Go Go.Eng Go.Proofs Go.L41 Go.Br
attribute [local irreducible] AWP RWP TD finQ
theorem zCd:aggT Tryz.prog 54=some 2:=by kernel_rfl
theorem kC:aggT Tryz.prog 57=some 13:=by kernel_rfl
theorem el55:elemT Tryz.prog 55=some (57,13,160):=by kernel_rfl
theorem zDb:elemT Tryz.prog 151=some (54,2,32):=by kernel_rfl
theorem wY:fieldT Tryz.prog 57 0=some (0,3):=by kernel_rfl
theorem zHl:fieldT Tryz.prog 57 1=some (1,9):=by kernel_rfl
theorem zOg:fieldT Tryz.prog 57 2=some (2,44):=by kernel_rfl
theorem zFa:fieldT Tryz.prog 57 3=some (4,31):=by kernel_rfl
theorem zLk:fieldT Tryz.prog 57 4=some (9,54):=by kernel_rfl
theorem zBk:fieldT Tryz.prog 57 5=some (11,51):=by kernel_rfl
theorem wH:fieldT Tryz.prog 57 6=some (12,55):=by kernel_rfl
theorem zGd:fieldT Tryz.prog 153 0=some (0,54):=by kernel_rfl
theorem zAs:fieldT Tryz.prog 153 1=some (2,9):=by kernel_rfl
theorem zCk:fieldT Tryz.prog 153 2=some (3,151):=by kernel_rfl
theorem fl44:flatK Tryz.prog 44=some [.int,.int]:=by kernel_rfl
theorem ok96:callOk Tryz.prog 96=true:=by kernel_rfl
theorem ok171:callOk Tryz.prog 171=true:=by kernel_rfl
theorem ok240:callOk Tryz.prog 240=true:=by kernel_rfl
theorem ok272:callOk Tryz.prog 272=true:=by kernel_rfl
theorem ok273:callOk Tryz.prog 273=true:=by kernel_rfl
theorem ok274:callOk Tryz.prog 274=true:=by kernel_rfl
theorem ok275:callOk Tryz.prog 275=true:=by kernel_rfl
theorem ok276:callOk Tryz.prog 276=true:=by kernel_rfl
theorem ok277:callOk Tryz.prog 277=true:=by kernel_rfl
theorem ok278:callOk Tryz.prog 278=true:=by kernel_rfl
theorem ok279:callOk Tryz.prog 279=true:=by kernel_rfl
theorem zCa:oneT Tryz.prog 51=true:=by kernel_rfl
theorem zAw:oneT Tryz.prog 55=true:=by kernel_rfl
theorem zEw:oneT Tryz.prog 151=true:=by kernel_rfl
theorem pl44:placesT Tryz.prog 44=some [(0,1),(1,1)]:=by kernel_rfl
theorem sz57:(Tryz.prog.info? 57).map (·.size)=some 13:=by kernel_rfl
theorem zMx:(Tryz.prog.info? 153).map (·.size)=some 4:=by kernel_rfl
theorem un4:Tryz.prog.underlying 4=some .bool:=by kernel_rfl
theorem zr44:zeroT Tryz.prog 44=some [(Value.int IntKind.i64 0),(Value.int IntKind.i64 0)]:=by kernel_rfl
theorem zr57:zeroT Tryz.prog 57=some [(Value.int IntKind.i64 0),(Value.string (ByteArray.mk #[])),(Value.int IntKind.i64 0),(Value.int IntKind.i64 0),(Value.int IntKind.i64 0),(Value.int IntKind.i64 0),(Value.int IntKind.i64 0),(Value.int IntKind.i64 0),(Value.int IntKind.i64 0),(Value.int IntKind.i64 0),(Value.slice none 0 0),(Value.slice none 0 0),(Value.slice none 0 0)]:=by kernel_rfl
theorem zMo:zeroT Tryz.prog 153=some [(Value.int IntKind.i64 0),(Value.slice none 0 0),(Value.string (ByteArray.mk #[])),(Value.slice none 0 0)]:=by kernel_rfl
theorem expr_operands (op:Int):
    Pur cfg 277 [vI op] (vI (nArgs op)):=by
 refine zW Tryz.func277 O Tryz.ntmps277 Tryz.results277 O ?_
 intro z hz
 refine R O<|G O<|zA<|zF<|R O<|G O<|zA<|zQ<|zF<|R O<|yO O<|G O<|zA<|zC O (fun c1=>?_) (fun c1=>?_)
 ·try simp only [sx] at c1
  refine zH<|zC O (fun c3=>?_) (fun c3=>?_)
  ·try simp only [sx] at c3
   refine R O<|G O<|zA<|zM<|zX O ?_
   exact congrArg vI (by unfold nArgs;(repeat' split)<;>omega)
  ·try simp only [sx] at c3
   refine zF<|R O<|yO O<|G O<|zA<|zC O (fun c4=>?_) (fun c4=>?_)
   ·try simp only [sx] at c4
    refine zH<|zC O (fun c6=>?_) (fun c6=>?_)
    ·try simp only [sx] at c6
     refine R O<|G O<|zA<|zM<|zX O ?_
     exact congrArg vI (by unfold nArgs;(repeat' split)<;>omega)
    ·try simp only [sx] at c6
     refine R O<|yO O<|G O<|zA<|zC O (fun c7=>?_) (fun c7=>?_)
     ·try simp only [sx] at c7
      refine R O<|G O<|zA<|zM<|zX O ?_
      exact congrArg vI (by unfold nArgs;(repeat' split)<;>omega)
     ·try simp only [sx] at c7
      refine zH<|R O<|G O<|zA<|zM<|zX O ?_
      exact congrArg vI (by unfold nArgs;(repeat' split)<;>omega)
   ·try simp only [sx] at c4
    refine R O<|yO O<|G O<|zA<|zC O (fun c5=>?_) (fun c5=>?_)
    ·try simp only [sx] at c5
     refine zH<|zC O (fun c6=>?_) (fun c6=>?_)
     ·try simp only [sx] at c6
      refine R O<|G O<|zA<|zM<|zX O ?_
      exact congrArg vI (by unfold nArgs;(repeat' split)<;>omega)
     ·try simp only [sx] at c6
      refine R O<|yO O<|G O<|zA<|zC O (fun c7=>?_) (fun c7=>?_)
      ·try simp only [sx] at c7
       refine R O<|G O<|zA<|zM<|zX O ?_
       exact congrArg vI (by unfold nArgs;(repeat' split)<;>omega)
      ·try simp only [sx] at c7
       refine zH<|R O<|G O<|zA<|zM<|zX O ?_
       exact congrArg vI (by unfold nArgs;(repeat' split)<;>omega)
    ·try simp only [sx] at c5
     refine zI O<|yO O<|G O<|zA<|zC O (fun c6=>?_) (fun c6=>?_)
     ·try simp only [sx] at c6
      refine R O<|G O<|zA<|zM<|zX O ?_
      exact congrArg vI (by unfold nArgs;(repeat' split)<;>omega)
     ·try simp only [sx] at c6
      refine R O<|yO O<|G O<|zA<|zC O (fun c7=>?_) (fun c7=>?_)
      ·try simp only [sx] at c7
       refine R O<|G O<|zA<|zM<|zX O ?_
       exact congrArg vI (by unfold nArgs;(repeat' split)<;>omega)
      ·try simp only [sx] at c7
       refine zH<|R O<|G O<|zA<|zM<|zX O ?_
       exact congrArg vI (by unfold nArgs;(repeat' split)<;>omega)
 ·try simp only [sx] at c1
  refine R O<|yO O<|G O<|zA<|zC O (fun c2=>?_) (fun c2=>?_)
  ·try simp only [sx] at c2
   refine zH<|zC O (fun c3=>?_) (fun c3=>?_)
   ·try simp only [sx] at c3
    refine R O<|G O<|zA<|zM<|zX O ?_
    exact congrArg vI (by unfold nArgs;(repeat' split)<;>omega)
   ·try simp only [sx] at c3
    refine zF<|R O<|yO O<|G O<|zA<|zC O (fun c4=>?_) (fun c4=>?_)
    ·try simp only [sx] at c4
     refine zH<|zC O (fun c6=>?_) (fun c6=>?_)
     ·try simp only [sx] at c6
      refine R O<|G O<|zA<|zM<|zX O ?_
      exact congrArg vI (by unfold nArgs;(repeat' split)<;>omega)
     ·try simp only [sx] at c6
      refine R O<|yO O<|G O<|zA<|zC O (fun c7=>?_) (fun c7=>?_)
      ·try simp only [sx] at c7
       refine R O<|G O<|zA<|zM<|zX O ?_
       exact congrArg vI (by unfold nArgs;(repeat' split)<;>omega)
      ·try simp only [sx] at c7
       refine zH<|R O<|G O<|zA<|zM<|zX O ?_
       exact congrArg vI (by unfold nArgs;(repeat' split)<;>omega)
    ·try simp only [sx] at c4
     refine R O<|yO O<|G O<|zA<|zC O (fun c5=>?_) (fun c5=>?_)
     ·try simp only [sx] at c5
      refine zH<|zC O (fun c6=>?_) (fun c6=>?_)
      ·try simp only [sx] at c6
       refine R O<|G O<|zA<|zM<|zX O ?_
       exact congrArg vI (by unfold nArgs;(repeat' split)<;>omega)
      ·try simp only [sx] at c6
       refine R O<|yO O<|G O<|zA<|zC O (fun c7=>?_) (fun c7=>?_)
       ·try simp only [sx] at c7
        refine R O<|G O<|zA<|zM<|zX O ?_
        exact congrArg vI (by unfold nArgs;(repeat' split)<;>omega)
       ·try simp only [sx] at c7
        refine zH<|R O<|G O<|zA<|zM<|zX O ?_
        exact congrArg vI (by unfold nArgs;(repeat' split)<;>omega)
     ·try simp only [sx] at c5
      refine zI O<|yO O<|G O<|zA<|zC O (fun c6=>?_) (fun c6=>?_)
      ·try simp only [sx] at c6
       refine R O<|G O<|zA<|zM<|zX O ?_
       exact congrArg vI (by unfold nArgs;(repeat' split)<;>omega)
      ·try simp only [sx] at c6
       refine R O<|yO O<|G O<|zA<|zC O (fun c7=>?_) (fun c7=>?_)
       ·try simp only [sx] at c7
        refine R O<|G O<|zA<|zM<|zX O ?_
        exact congrArg vI (by unfold nArgs;(repeat' split)<;>omega)
       ·try simp only [sx] at c7
        refine zH<|R O<|G O<|zA<|zM<|zX O ?_
        exact congrArg vI (by unfold nArgs;(repeat' split)<;>omega)
  ·try simp only [sx] at c2
   refine zI O<|yO O<|G O<|zA<|zC O (fun c3=>?_) (fun c3=>?_)
   ·try simp only [sx] at c3
    refine R O<|G O<|zA<|zM<|zX O ?_
    exact congrArg vI (by unfold nArgs;(repeat' split)<;>omega)
   ·try simp only [sx] at c3
    refine zF<|R O<|yO O<|G O<|zA<|zC O (fun c4=>?_) (fun c4=>?_)
    ·try simp only [sx] at c4
     refine zH<|zC O (fun c6=>?_) (fun c6=>?_)
     ·try simp only [sx] at c6
      refine R O<|G O<|zA<|zM<|zX O ?_
      exact congrArg vI (by unfold nArgs;(repeat' split)<;>omega)
     ·try simp only [sx] at c6
      refine R O<|yO O<|G O<|zA<|zC O (fun c7=>?_) (fun c7=>?_)
      ·try simp only [sx] at c7
       refine R O<|G O<|zA<|zM<|zX O ?_
       exact congrArg vI (by unfold nArgs;(repeat' split)<;>omega)
      ·try simp only [sx] at c7
       refine zH<|R O<|G O<|zA<|zM<|zX O ?_
       exact congrArg vI (by unfold nArgs;(repeat' split)<;>omega)
    ·try simp only [sx] at c4
     refine R O<|yO O<|G O<|zA<|zC O (fun c5=>?_) (fun c5=>?_)
     ·try simp only [sx] at c5
      refine zH<|zC O (fun c6=>?_) (fun c6=>?_)
      ·try simp only [sx] at c6
       refine R O<|G O<|zA<|zM<|zX O ?_
       exact congrArg vI (by unfold nArgs;(repeat' split)<;>omega)
      ·try simp only [sx] at c6
       refine R O<|yO O<|G O<|zA<|zC O (fun c7=>?_) (fun c7=>?_)
       ·try simp only [sx] at c7
        refine R O<|G O<|zA<|zM<|zX O ?_
        exact congrArg vI (by unfold nArgs;(repeat' split)<;>omega)
       ·try simp only [sx] at c7
        refine zH<|R O<|G O<|zA<|zM<|zX O ?_
        exact congrArg vI (by unfold nArgs;(repeat' split)<;>omega)
     ·try simp only [sx] at c5
      refine zI O<|yO O<|G O<|zA<|zC O (fun c6=>?_) (fun c6=>?_)
      ·try simp only [sx] at c6
       refine R O<|G O<|zA<|zM<|zX O ?_
       exact congrArg vI (by unfold nArgs;(repeat' split)<;>omega)
      ·try simp only [sx] at c6
       refine R O<|yO O<|G O<|zA<|zC O (fun c7=>?_) (fun c7=>?_)
       ·try simp only [sx] at c7
        refine R O<|G O<|zA<|zM<|zX O ?_
        exact congrArg vI (by unfold nArgs;(repeat' split)<;>omega)
       ·try simp only [sx] at c7
        refine zH<|R O<|G O<|zA<|zM<|zX O ?_
        exact congrArg vI (by unfold nArgs;(repeat' split)<;>omega)
theorem kN (e:Ex):
    Pur cfg 171 [vE e] (vB (isCond e)):=by
 refine zW Tryz.func171 O Tryz.ntmps171 Tryz.results171 O ?_
 intro z hz
 refine R O<|zU O O (qT O O) ?_
 rintro _ _ ⟨b1,rfl,rfl⟩
 refine G O<|zA<|R O<|zN O wY<|zL one3 (A 0 O) O<|v O (wI O O O)<|G O<|rL0 O (fun g1_3=>zJ O wY O) O<|B 7 O (fun g1_3=>zD O one3 O (A 0 O) O) O<|B 8 O (fun g1_3=>wI O O O) O<|kE O (fun h=>h)<|G O<|zA<|zM<|zX O ?_
 exact O
theorem zFi (op i:Int):
    Pur cfg 279 [vI op,vI i] (vB (wantC op i)):=by
 refine zW Tryz.func279 O Tryz.ntmps279 Tryz.results279 O ?_
 intro z hz
 refine R O<|G O<|zA<|zF<|R O<|G O<|zA<|zQ<|zF<|R O<|yO O<|G O<|zA<|zC O (fun c1=>?_) (fun c1=>?_)
 ·try simp only [sx] at c1
  refine zH<|zC O (fun c3=>?_) (fun c3=>?_)
  ·try simp only [sx] at c3
   refine R O<|G O<|zA<|zM<|zX O ?_
   exact congrArg vB (by unfold wantC;first|(exfalso;omega)|(simp [*];done)|(rw [Bool.eq_iff_iff];simp only [Bool.or_eq_true,Bool.and_eq_true,decide_eq_true_eq];omega))
  ·try simp only [sx] at c3
   refine zH<|R O<|G O<|yO O<|G O<|rL0 O (fun g6_2=>zG O O) O<|B 13 O (fun g6_2=>kJ O O O) O<|kE O (fun h=>h)<|G O<|zA<|zM<|zX O ?_
   exact congrArg vB (by unfold wantC;first|(exfalso;omega)|(simp [*];done)|(rw [Bool.eq_iff_iff];simp only [Bool.or_eq_true,Bool.and_eq_true,decide_eq_true_eq];omega))
 ·try simp only [sx] at c1
  refine R O<|yO O<|G O<|zA<|zC O (fun c2=>?_) (fun c2=>?_)
  ·try simp only [sx] at c2
   refine zH<|zC O (fun c3=>?_) (fun c3=>?_)
   ·try simp only [sx] at c3
    refine R O<|G O<|zA<|zM<|zX O ?_
    exact congrArg vB (by unfold wantC;first|(exfalso;omega)|(simp [*];done)|(rw [Bool.eq_iff_iff];simp only [Bool.or_eq_true,Bool.and_eq_true,decide_eq_true_eq];omega))
   ·try simp only [sx] at c3
    refine zH<|R O<|G O<|yO O<|G O<|rL0 O (fun g6_2=>zG O O) O<|B 13 O (fun g6_2=>kJ O O O) O<|kE O (fun h=>h)<|G O<|zA<|zM<|zX O ?_
    exact congrArg vB (by unfold wantC;first|(exfalso;omega)|(simp [*];done)|(rw [Bool.eq_iff_iff];simp only [Bool.or_eq_true,Bool.and_eq_true,decide_eq_true_eq];omega))
  ·try simp only [sx] at c2
   refine zI O<|yO O<|G O<|zA<|zC O (fun c3=>?_) (fun c3=>?_)
   ·try simp only [sx] at c3
    refine R O<|G O<|zA<|zM<|zX O ?_
    exact congrArg vB (by unfold wantC;first|(exfalso;omega)|(simp [*];done)|(rw [Bool.eq_iff_iff];simp only [Bool.or_eq_true,Bool.and_eq_true,decide_eq_true_eq];omega))
   ·try simp only [sx] at c3
    refine zH<|R O<|G O<|yO O<|G O<|rL0 O (fun g6_2=>zG O O) O<|B 13 O (fun g6_2=>kJ O O O) O<|kE O (fun h=>h)<|G O<|zA<|zM<|zX O ?_
    exact congrArg vB (by unfold wantC;first|(exfalso;omega)|(simp [*];done)|(rw [Bool.eq_iff_iff];simp only [Bool.or_eq_true,Bool.and_eq_true,decide_eq_true_eq];omega))
theorem zOm (l:Lf):
    Pur cfg 272 [vLin l] (vB (zeroL l)):=by
 refine zW Tryz.func272 O Tryz.ntmps272 Tryz.results272 O ?_
 intro z hz
 refine R O<|zU O O (qT O O) ?_
 rintro _ _ ⟨b1,rfl,rfl⟩
 refine G O<|zA<|R O<|zN O fd54_0<|zL one2 (A 0 O) O<|yO O<|G O<|rL0 O (fun g1_3=>zJ O zGb O) O<|B 7 O (fun g1_3=>zD O zNk O (A 0 O) O) O<|B 8 O (fun g1_3=>wJ O el52 O) O<|B 9 O (fun g1_3=>kJ O O O) O<|kE O (fun h=>h)<|G O<|zA<|zM<|zX O ?_
 exact O
theorem zOl (x:Ix):
    Pur cfg 275 [vIndex x] (vB (wellIx x)):=by
 refine zW Tryz.func275 O Tryz.ntmps275 Tryz.results275 O ?_
 intro z hz
 refine R O<|zU O O (qT O O) ?_
 rintro _ _ ⟨b1,rfl,rfl⟩
 refine G O<|zA<|zF<|R O<|zN O zAs<|zL one9 (A 0 O) O<|v O (kH O O O)<|zA<|zC O (fun c1=>?_) (fun c1=>?_)
 ·try simp only [sx] at c1
  refine R O<|zN O zCk<|zL zEw (A 0 O) O<|qH O zDb<|yO O<|G O<|zA<|zM<|zX O ?_
  rw [wellIx,zDm c1];rfl
 ·try simp only [sx] at c1
  refine zH<|R O<|zN O zGd<|zP zCd (A 0 O) O<|qW O ok272 (zOm x.Lin) ⟨zB,O,T⟩<|G O<|zA<|zM<|zX O ?_
  rw [wellIx,wQ c1];rfl
theorem expr_syntax_1 (x:Ix):
    Pur cfg 274 [vIndex x] (vB (!wellIx x)):=by
 refine zW Tryz.func274 O Tryz.ntmps274 Tryz.results274 O ?_
 intro z hz
 refine R O<|zU O O (qT O O) ?_
 rintro _ _ ⟨b1,rfl,rfl⟩
 refine G O<|zA<|R O<|zP zCo (A 0 O) O<|qW O ok275 (zOl x) ⟨zB,O,T⟩<|wK O<|G O<|zA<|zM<|zX O ?_
 exact O
theorem expr_names_1 (x:Ix):
    Pur cfg 276 [vIndex x] (vB (!nmIx x)):=by
 refine zW Tryz.func276 O Tryz.ntmps276 Tryz.results276 O ?_
 intro z hz
 refine R O<|zU O O (qT O O) ?_
 rintro _ _ ⟨b1,rfl,rfl⟩
 refine G O<|zA<|R O<|zN O zAs<|zL one9 (A 0 O) O<|v O (zCf O O O)<|G O<|rL0 O (fun g1_3=>zJ O zAs O) O<|B 7 O (fun g1_3=>zD O one9 O (A 0 O) O) O<|B 8 O (fun g1_3=>qY O ok96 (zCi _) ⟨zB,O,T⟩) O<|B 9 O (fun g1_3=>wR O O) O<|kE O (fun h=>h)<|G O<|zA<|zM<|zX O ?_
 exact congrArg vB (by unfold nmIx;simp)
theorem expr_rank_1 (x:Ix):
    Pur cfg 278 [vIndex x] (vB (!rkIx x)):=by
 refine zW Tryz.func278 O Tryz.ntmps278 Tryz.results278 O ?_
 intro z hz
 refine R O<|zU O O (qT O O) ?_
 rintro _ _ ⟨b1,rfl,rfl⟩
 refine G O<|zA<|R O<|zN O zCk<|zL zEw (A 0 O) O<|qH O zDb<|v O (kA O O O)<|G O<|zA<|zM<|zX O ?_
 exact congrArg vB (by unfold rkIx;simp)
theorem expr_syntax (e:Ex) (he:e.wt<=6000000000000):
    Pur cfg 241 [vE e] (vB (synOk e)):=by
 refine zW Tryz.func241 O Tryz.ntmps241 Tryz.results241 O ?_
 intro z hz
 obtain ⟨hL,hI,hA⟩:=e.parts he
 refine R O<|zU O O (qT O O) ?_
 rintro _ _ ⟨b1,rfl,rfl⟩
 refine G O<|zA<|zF<|qU 13 mixed (by kernel_rfl) O O<|zE O O (zJ O wY O)<|zE O O (zD O one3 O (A 0 O) O)<|zE O O (kJ O O O)<|zE O O (zJ O wY O)<|zE O O (zD O one3 O (A 0 O) O)<|zE O O (kJ O O O)<|zE O O (zG O O)<|qM [] O O O O gv1 T (fun g1_6=>zJ O wY O) O<|qM [(14,_)] O O O O gv1 ⟨O,O,T⟩ (fun g1_6=>zD O one3 O (A 0 O) O) O<|qM [(15,_)] O O O O gv1 ⟨O,O,T⟩ (fun g1_6=>kJ O O O) O<|zE O O (kK O O O O (fun h=>(lzf h)))<|zE O O (kG O O)<|zE O O (kG O O)<|yM<|zA<|zF<|qU 8 mixed (by kernel_rfl) O O<|zE O O (zJ O wY O)<|zE O O (zD O one3 O (A 0 O) O)<|zE O O (kJ O O O)<|zE O O (zJ O wY O)<|zE O O (zD O one3 O (A 0 O) O)<|zE O O (kJ O O O)<|zE O O (kG O O)<|zE O O (kG O O)<|yM<|zA<|zF<|zQ<|R O<|zN O wY<|zL one3 (A 0 O) O<|yE O<|G O<|rL0 O (fun g3_3=>zJ O wY O) O<|B 29 O (fun g3_3=>zD O one3 O (A 0 O) O) O<|B 30 O (fun g3_3=>kA O O O) O<|v O (kK O O O O (fun h=>(lzf h)))<|G O<|zA<|zC O (fun c1=>?_) (fun c1=>?_)
 ·refine R O<|G O<|zA<|zM<|zX O ?_
  exact congrArg vB (by simp only [synOk,c1,Bool.not_true,Bool.not_false,Bool.true_and,Bool.and_true,Bool.false_and,Bool.and_false])
 ·refine R O<|G O<|wK O<|G O<|rL0 O (fun g5_2=>zJ O zOg O) O<|B 37 O (fun g5_2=>qG O agg44 O (A 0 O) O) O<|rL0 O (fun g5_2=>yB O zr44 pl44 O) O<|rLz [(38,_),(39,_)] O gv1 ⟨O,O,O,O,T⟩ (fun g5_2=>zCr O fl44 O O O) O<|kE O (fun h=>h)<|G O<|zA<|zC O (fun c2=>?_) (fun c2=>?_)
  ·have c2:(!decide (e.Op=1)&& !val0 e.Val)=true:=c2
   refine R O<|G O<|zA<|zM<|zX O ?_
   exact congrArg vB (by simp only [synOk,c2,Bool.not_true,Bool.not_false,Bool.true_and,Bool.and_true,Bool.false_and,Bool.and_false])
  ·have c2:(!decide (e.Op=1)&& !val0 e.Val)=false:=c2
   refine R O<|G O<|wK O<|G O<|rL0 O (fun g7_2=>zJ O zFa O) O<|B 46 O (fun g7_2=>qG O yP O (A 0 O) O) O<|rL0 O (fun g7_2=>yB O zr31 pl31 O) O<|rLz [(47,_),(48,_)] O gv1 ⟨O,O,O,O,T⟩ (fun g7_2=>zCr O fl31 O O O) O<|kE O (fun h=>h)<|G O<|zA<|zC O (fun c3=>?_) (fun c3=>?_)
   ·have c3:(!(decide (e.Op=1)||decide (e.Op=12))&& !ty0 e.Ty)=true:=c3
    refine R O<|G O<|zA<|zM<|zX O ?_
    exact congrArg vB (by simp only [synOk,c3,Bool.not_true,Bool.not_false,Bool.true_and,Bool.and_true,Bool.false_and,Bool.and_false])
   ·have c3:(!(decide (e.Op=1)||decide (e.Op=12))&& !ty0 e.Ty)=false:=c3
    refine R O<|G O<|wK O<|G O<|rL0 O (fun g9_2=>zJ O zLk O) O<|B 55 O (fun g9_2=>qG O zCd O (A 0 O) O) O<|B 56 O (fun g9_2=>qY O ok272 (zOm e.Lin) ⟨zB,O,T⟩) O<|B 57 O (fun g9_2=>wR O O) O<|kE O (fun h=>h)<|G O<|zA<|zC O (fun c4=>?_) (fun c4=>?_)
    ·refine R O<|G O<|zA<|zM<|zX O ?_
     exact congrArg vB (by simp only [synOk,c4,Bool.not_true,Bool.not_false,Bool.true_and,Bool.and_true,Bool.false_and,Bool.and_false])
    ·refine R O<|G O<|wK O<|G O<|rL0 O (fun g11_2=>zJ O zHl O) O<|B 64 O (fun g11_2=>zD O one9 O (A 0 O) O) O<|B 65 O (fun g11_2=>zCf O O O) O<|B 66 O (fun g11_2=>zG O O) O<|rLz [] O gv2 T (fun g11_6=>zJ O zBk O) O<|rLz [(68,_)] O gv2 ⟨O,O,T⟩ (fun g11_6=>zD O zCa O (A 0 O) O) O<|rLz [(69,_)] O gv2 ⟨O,O,T⟩ (fun g11_6=>wJ O el51 O) O<|rLz [(70,_)] O gv2 ⟨O,O,T⟩ (fun g11_6=>kA O O O) O<|B 67 O (fun g11_2=>kK O O O O (fun h=>kX (by assumption) (lzf h))) O<|kE O (fun h=>h)<|G O<|zA<|zC O (fun c5=>?_) (fun c5=>?_)
     ·refine R O<|G O<|zA<|zM<|zX O ?_
      exact congrArg vB (by simp only [synOk,c5,Bool.not_true,Bool.not_false,Bool.true_and,Bool.and_true,Bool.false_and,Bool.and_false])
     ·refine zH<|R O<|zN O zBk<|zL zCa (A 0 O) O<|qW O ok273 (zAi e.Idx _ (fun x=> !wellIx x) hI (fun x _=>FnPur.of_pur (first:=[]) (cap:=[]) ok274 (expr_syntax_1 x))) ⟨zB,O,zB,O,T⟩<|wK O<|G O<|zA<|zM<|zX O ?_
      exact congrArg vB (by rw [zBg];simp only [synOk,c1,c2,c3,c4,c5,Bool.not_true,Bool.not_false,Bool.true_and,Bool.and_true,Bool.false_and,Bool.and_false])
theorem expr_names (e:Ex) (he:e.wt<=6000000000000):
    Pur cfg 242 [vE e] (vB (namesE e)):=by
 refine zW Tryz.func242 O Tryz.ntmps242 Tryz.results242 O ?_
 intro z hz
 obtain ⟨hL,hI,hA⟩:=e.parts he
 refine R O<|zU O O (qT O O) ?_
 rintro _ _ ⟨b1,rfl,rfl⟩
 refine G O<|zA<|zF<|R O<|zN O wY<|zL one3 (A 0 O) O<|yO O<|G O<|rL0 O (fun g1_3=>zJ O zHl O) O<|B 7 O (fun g1_3=>zD O one9 O (A 0 O) O) O<|B 8 O (fun g1_3=>qY O ok96 (zCi _) ⟨zB,O,T⟩) O<|B 9 O (fun g1_3=>wR O O) O<|kE O (fun h=>h)<|zA<|zC O (fun c1=>?_) (fun c1=>?_)
 ·refine R O<|G O<|zA<|zM<|zX O ?_
  exact congrArg vB (by simp only [namesE,c1,Bool.not_true,Bool.false_and])
 ·refine zH<|R O<|zN O zBk<|zL zCa (A 0 O) O<|qW O ok273 (zAi e.Idx _ (fun x=> !nmIx x) hI (fun x _=>FnPur.of_pur (first:=[]) (cap:=[]) ok276 (expr_names_1 x))) ⟨zB,O,zB,O,T⟩<|wK O<|G O<|zA<|zM<|zX O ?_
  exact congrArg vB (by rw [zBg];simp only [namesE,c1,Bool.not_false,Bool.true_and])
theorem expr_rank (e:Ex) (he:e.wt<=6000000000000):
    Pur cfg 243 [vE e] (vB (rankE e)):=by
 refine zW Tryz.func243 O Tryz.ntmps243 Tryz.results243 O ?_
 intro z hz
 obtain ⟨hL,hI,hA⟩:=e.parts he
 refine R O<|zU O O (qT O O) ?_
 rintro _ _ ⟨b1,rfl,rfl⟩
 refine G O<|zA<|zF<|zF<|qU 13 mixed (by kernel_rfl) O O<|zE O O (zJ O wH O)<|zE O O (zD O zAw O (A 0 O) O)<|zE O O (wJ O el55 O)<|zE O O (zJ O wY O)<|zE O O (zD O one3 O (A 0 O) O)<|zE O O (qY O ok277 (expr_operands _) ⟨zB,O,T⟩)<|zE O O (zEq O O O)<|zE O O (zG O O)<|qM [] O O O O gv1 T (fun g1_7=>zJ O zBk O) O<|qM [(11,_)] O O O O gv1 ⟨O,O,T⟩ (fun g1_7=>zD O zCa O (A 0 O) O) O<|qM [(12,_)] O O O O gv1 ⟨O,O,T⟩ (fun g1_7=>wJ O el51 O) O<|qM [(13,_)] O O O O gv1 ⟨O,O,T⟩ (fun g1_7=>kA O O O) O<|zE O O (kK O O O O (fun h=>(lzf h)))<|yM<|zA<|zC O (fun c1=>?_) (fun c1=>?_)
 ·refine R O<|G O<|zA<|zM<|zX O ?_
  exact congrArg vB (by simp only [rankE,c1,Bool.not_true,Bool.false_and])
 ·refine zH<|R O<|zN O zBk<|zL zCa (A 0 O) O<|qW O ok273 (zAi e.Idx _ (fun x=> !rkIx x) hI (fun x _=>FnPur.of_pur (first:=[]) (cap:=[]) ok278 (expr_rank_1 x))) ⟨zB,O,zB,O,T⟩<|wK O<|G O<|zA<|zM<|zX O ?_
  exact congrArg vB (by rw [zBg];simp only [rankE,c1,Bool.not_false,Bool.true_and])
theorem expr_types (e:Ex) (he:e.wt<=6000000000000):
    Pur cfg 244 [vE e] (vB (typesE e)):=by
 refine zW Tryz.func244 O Tryz.ntmps244 Tryz.results244 O ?_
 intro z hz
 obtain ⟨hL,hI,hA⟩:=e.parts he
 refine R O<|zU O O (qT O O) ?_
 rintro _ _ ⟨b1,rfl,rfl⟩
 refine G O<|zA<|zF<|R O<|zN O wY<|zL one3 (A 0 O) O<|yO O<|G O<|rL0 O (fun g1_3=>zJ O wY O) O<|B 9 O (fun g1_3=>zD O one3 O (A 0 O) O) O<|B 10 O (fun g1_3=>kJ O O O) O<|v O (kK O O O O (fun h=>(lzf h)))<|G O<|rL0 O (fun g1_8=>zJ O zFa O) O<|B 14 O (fun g1_8=>qG O yP O (A 0 O) O) O<|B 15 O (fun g1_8=>qY O ok39 (zBq _) ⟨zB,O,T⟩) O<|B 16 O (fun g1_8=>zEq O O O) O<|kE O (fun h=>h)<|zA<|zC O (fun c1=>?_) (fun c1=>?_)
 ·rw [tyErr_dec] at c1
  refine R O<|G O<|zA<|zM<|zX O ?_
  exact congrArg vB (by simp only [typesE,c1,Bool.not_true,Bool.false_and])
 ·rw [tyErr_dec] at c1
  refine zH<|zF<|R O<|zN O wH<|zL zAw (A 0 O) O<|qH O el55<|G O<|zA<|zQ<|zS ⟨[(22,.c _),(1,.c _),(20,.c _),(21,.c _)],[_]⟩ (Weak.mk [true] ⟨zB,zB,zB,zB,T⟩ O)<|qJ 1 0 O O (Nat) (fun k=>[(22,vI k)]) (fun k=>[]) (fun k=>k<=e.Args.length/\(condsOk e.Op 0 e.Args=condsOk e.Op k (e.Args.drop k))) (fun k=>e.Args.length-k) ⟨0,⟨by omega,O⟩,Weak.mk [true] ⟨zB,zB,zB,zB,T⟩ O⟩ ?_
  rintro k ⟨hk,hp⟩
  refine R O<|yE O<|zA<|zF<|zC O (fun c2=>?_) (fun c2=>?_)
  ·try simp only [sx] at c2
   obtain ⟨a,ha⟩:=qX e.Args k (by omega)
   refine zH<|zF<|zQ<|R O<|G O<|qI O el55 (by omega) (zBi (by assumption))<|zP kC Y O<|zU O O (qR [none,none,none,none,none,none,none,none,none,none,some 2,some 4,some 13] O zr57 O) ?_
   rintro _ _ ⟨b2,rfl,rfl⟩
   refine G O<|D 0 sz57 O<|zA<|zF<|qU 7 mixed (by kernel_rfl) O O<|zE O O (qG O kC O (A 0 O) O)<|zE O O (qY O ok171 (kN a) ⟨zB,O,T⟩)<|zE O O (zJ O wY O)<|zE O O (zD O one3 O (A 1 O) O)<|zE O O (zG O O)<|zE O O (qY O ok279 (zFi _ _) ⟨zB,O,zB,O,T⟩)<|zE O O (det_bneq O un4 O O)<|yM<|zA<|zC O (fun c3=>?_) (fun c3=>?_)
   ·refine R O<|G O<|zA<|zM<|zX O ?_
    exact congrArg vB (by simp only [typesE,c1,Bool.not_false,Bool.true_and];rw [hp,qZ ha,condsOk,show (isCond a==wantC e.Op k)=false by simpa using c3,Bool.false_and])
   ·refine zH<|zI O<|qD O ⟨by omega,by omega⟩<|G O<|zA ?_
    refine ⟨k+1,⟨by omega,(by rw [hp,qZ ha,condsOk,show (isCond a==wantC e.Op k)=true by simpa using c3,Bool.true_and];rfl)⟩,(by omega),Weak.mk [false,true] ⟨zB,zB,zB,zB,T⟩ O⟩
  ·try simp only [sx] at c2
   refine qL<|R O<|G O<|zA<|zM<|zX O ?_
   exact congrArg vB (by simp only [typesE,c1,Bool.not_false,Bool.true_and];rw [hp,wM (by omega)];rfl)
theorem zGf (n:Nat) (ih:n≠0->∀(a:Ex) (l:Int),a.wt<=6000000000000->l=n->Pur cfg 240 [vE a,vI l] (vI (depT (n-1) a))) (hn:n<=100) (e:Ex) (l:Int) (he:e.wt<=6000000000000) (hl:l=n+1):
    Pur cfg 240 [vE e,vI l] (vI (depT n e)):=by
 refine zW Tryz.func240 O Tryz.ntmps240 Tryz.results240 O ?_
 intro z hz
 obtain ⟨hL,hI,hA⟩:=e.parts he
 refine R O<|zU O O (qT O O) ?_
 rintro _ _ ⟨b1,rfl,rfl⟩
 refine G O<|zA<|zF<|R O<|G O<|v O (wI O O O)<|zA<|zC O (fun c1=>?_) (fun c1=>?_)
 ·try simp only [sx] at c1
  obtain rfl:n=0:=by omega
  refine R O<|G O<|G O<|zA<|zM<|zX O ?_
  exact congrArg vI (by rw [hl];rfl)
 ·try simp only [sx] at c1
  obtain ⟨m,rfl⟩:∃m,n=m+1:=⟨n-1,by omega⟩
  refine zH<|R O<|G O<|zA<|zF<|R O<|zN O wH<|zL zAw (A 0 O) O<|qH O el55<|G O<|zA<|zQ<|zS ⟨[(14,.c _),(5,.c _),(1,.c _),(12,.c _),(13,.c _)],[]⟩ (Weak.mk [false] ⟨zB,zB,zB,zB,zB,T⟩ O)<|qJ 2 0 O O (Nat×Int) (fun ⟨k,d⟩=>[(14,vI k),(5,vI d)]) (fun ⟨k,d⟩=>[]) (fun ⟨k,d⟩=>k<=e.Args.length/\(1<=d)/\(d<=m+2)/\(depT (m+1) e=depF (depT m) d (e.Args.drop k))) (fun ⟨k,d⟩=>e.Args.length-k) ⟨⟨0,1⟩,⟨by omega,by omega,by omega,O⟩,Weak.mk [] ⟨zB,VLe.of_eq (O),zB,zB,zB,T⟩ O⟩ ?_
  rintro ⟨k,d⟩ ⟨hk,hd1,hd2,hd3⟩
  show AWP _ _ _ _ _ ⟨[(14,vI k),(5,vI d)]++_,[]++_⟩
  refine R O<|yE O<|zA<|zF<|zC O (fun c2=>?_) (fun c2=>?_)
  ·try simp only [sx] at c2
   obtain ⟨a,ha⟩:=qX e.Args k (by omega)
   have hda:=depT_le m a
   refine zH<|zF<|zQ<|R O<|qI O el55 (by omega) (zBi (by assumption))<|zP kC Y O<|zU O O (qR [none,none,none,none,none,none,none,none,none,none,some 2,some 4,some 13] O zr57 O) ?_
   rintro _ _ ⟨b2,rfl,rfl⟩
   refine D 0 sz57 O<|zA<|zI O<|G O<|zP kC (A 0 O) O<|G O<|yF O ⟨by omega,by omega⟩<|qW O ok240 (show Pur cfg 240 [vE a,vI (l-1)] (vI (depT m a)) from ih (by omega) a _ (by have:=Ex.arg_wt (qB ha);omega) (by omega)) ⟨zB,O,zB,O,T⟩<|qD O ⟨by omega,by omega⟩<|v O (zOr O O O)<|G O<|zA<|zI O<|qD O ⟨by omega,by omega⟩<|G O<|zA ?_
   refine ⟨⟨k+1,max d (1+depT m a)⟩,⟨by omega,by omega,by omega,by rw [hd3,qZ ha,depF]⟩,(by show e.Args.length-(k+1)<e.Args.length-k;omega),Weak.mk [false] ⟨zB,zB,zB,zB,zB,T⟩ O⟩
  ·try simp only [sx] at c2
   refine qL<|R O<|G O<|G O<|zA<|zM<|zX O ?_
   exact congrArg vI (by rw [hd3,wM (by omega)];rfl)
theorem expr_depth (n:Nat) (e:Ex) (l:Int) (hn:n<=100) (he:e.wt<=6000000000000) (hl:l=n+1):Pur cfg 240 [vE e,vI l] (vI (depT n e)):=by
  induction n generalizing e l with
  |zero=>exact zGf 0 (fun h=>absurd rfl h) hn e l he hl
  |succ n ih=>exact zGf (n+1) (fun _ a l h1 h2=>ih a l (by omega) h1 (by omega)) hn e l he hl
theorem expr_Depth (e:Ex) (he:e.wt<=6000000000000):
    Pur cfg 211 [vE e] (vI (depT 40 e)):=by
 refine zW Tryz.func211 O Tryz.ntmps211 Tryz.results211 O ?_
 intro z hz
 refine R O<|zU O O (qT O O) ?_
 rintro _ _ ⟨b1,rfl,rfl⟩
 refine G O<|zA<|R O<|zP kC (A 0 O) O<|qW O ok240 (expr_depth 40 e 41 (by omega) he (by omega)) ⟨zB,O,zB,O,T⟩<|G O<|zA<|zM<|zX O ?_
 exact O
end Go.W
