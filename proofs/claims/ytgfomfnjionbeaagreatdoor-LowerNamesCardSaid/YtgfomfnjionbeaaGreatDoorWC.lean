/-
  Walks: what functions of the program compute. Printed by wip/gen/mk2.py.
  Conditions: none.
-/
import Derived.Test.YtgfomfnjionbeaaGreatDoorWB
set_option linter.unusedSimpArgs false
set_option linter.unusedVariables false
set_option maxRecDepth 10000
namespace Go.W
open Go Go.Eng Go.Proofs Go.L41 Go.Br
attribute [local irreducible] AWP RWP TD finQ
theorem kD:aggT Tryz.prog 62=some 13:=by kernel_rfl
theorem el60:elemT Tryz.prog 60=some (62,13,160):=by kernel_rfl
theorem el72:elemT Tryz.prog 72=some (59,2,32):=by kernel_rfl
theorem zAw:fieldT Tryz.prog 62 0=some (0,3):=by kernel_rfl
theorem zNj:fieldT Tryz.prog 62 1=some (1,9):=by kernel_rfl
theorem fd62_2:fieldT Tryz.prog 62 2=some (2,54):=by kernel_rfl
theorem zKv:fieldT Tryz.prog 62 3=some (4,56):=by kernel_rfl
theorem zGp:fieldT Tryz.prog 62 4=some (9,59):=by kernel_rfl
theorem zAt:fieldT Tryz.prog 62 5=some (11,52):=by kernel_rfl
theorem zCf:fieldT Tryz.prog 62 6=some (12,60):=by kernel_rfl
theorem zEl:fieldT Tryz.prog 93 0=some (0,59):=by kernel_rfl
theorem zJd:fieldT Tryz.prog 93 1=some (2,9):=by kernel_rfl
theorem zBj:fieldT Tryz.prog 93 2=some (3,72):=by kernel_rfl
theorem fl54:flatK Tryz.prog 54=some [.int,.int]:=by kernel_rfl
theorem ok19:callOk Tryz.prog 19=true:=by kernel_rfl
theorem ok179:callOk Tryz.prog 179=true:=by kernel_rfl
theorem ok253:callOk Tryz.prog 253=true:=by kernel_rfl
theorem ok284:callOk Tryz.prog 284=true:=by kernel_rfl
theorem ok285:callOk Tryz.prog 285=true:=by kernel_rfl
theorem ok286:callOk Tryz.prog 286=true:=by kernel_rfl
theorem ok287:callOk Tryz.prog 287=true:=by kernel_rfl
theorem ok288:callOk Tryz.prog 288=true:=by kernel_rfl
theorem ok289:callOk Tryz.prog 289=true:=by kernel_rfl
theorem ok290:callOk Tryz.prog 290=true:=by kernel_rfl
theorem ok291:callOk Tryz.prog 291=true:=by kernel_rfl
theorem zBr:oneT Tryz.prog 52=true:=by kernel_rfl
theorem zIw:oneT Tryz.prog 60=true:=by kernel_rfl
theorem zEt:oneT Tryz.prog 72=true:=by kernel_rfl
theorem sz62:(Tryz.prog.info? 62).map (·.size)=some 13:=by kernel_rfl
theorem sz93:(Tryz.prog.info? 93).map (·.size)=some 4:=by kernel_rfl
theorem un4:Tryz.prog.underlying 4=some .bool:=by kernel_rfl
theorem zr62:zeroT Tryz.prog 62=some [(Value.int IntKind.i64 0),(Value.string (ByteArray.mk #[])),(Value.int IntKind.i64 0),(Value.int IntKind.i64 0),(Value.int IntKind.i64 0),(Value.int IntKind.i64 0),(Value.int IntKind.i64 0),(Value.int IntKind.i64 0),(Value.int IntKind.i64 0),(Value.int IntKind.i64 0),(Value.slice none 0 0),(Value.slice none 0 0),(Value.slice none 0 0)]:=by kernel_rfl
theorem zr93:zeroT Tryz.prog 93=some [(Value.int IntKind.i64 0),(Value.slice none 0 0),(Value.string (ByteArray.mk #[])),(Value.slice none 0 0)]:=by kernel_rfl
theorem expr_operands (op:Int):
    Pur cfg 289 [vI op] (vI (nArgs op)):=by
 refine zW Tryz.func289 O Tryz.ntmps289 Tryz.results289 O ?_
 intro z hz
 refine Y O<|G O<|zA<|zH<|Y O<|G O<|zA<|zT<|zH<|Y O<|yX O<|G O<|zA<|zE O (fun c1=>?_) (fun c1=>?_)
 ·try simp only [sx] at c1
  refine zF<|zE O (fun c3=>?_) (fun c3=>?_)
  ·try simp only [sx] at c3
   exact p9
  ·exact q9
 ·try simp only [sx] at c1
  refine Y O<|yX O<|G O<|zA<|zE O (fun c2=>?_) (fun c2=>?_)
  ·try simp only [sx] at c2
   refine zF<|zE O (fun c3=>?_) (fun c3=>?_)
   ·try simp only [sx] at c3
    exact p9
   ·exact q9
  ·try simp only [sx] at c2
   refine zP O<|yX O<|G O<|zA<|zE O (fun c3=>?_) (fun c3=>?_)
   ·try simp only [sx] at c3
    exact p9
   ·exact q9
theorem kQ (e:Ex):
    Pur cfg 179 [vE e] (vB (isCond e)):=by
 refine zW Tryz.func179 O Tryz.ntmps179 Tryz.results179 O ?_
 intro z hz
 refine Y O<|zZ O O (qO O O) ?_
 rintro _ _ ⟨b1,rfl,rfl⟩
 refine G O<|zA<|Y O<|zD O zAw<|zI one3 (J 0 O) O<|zR O (zBb O O O)<|G O<|rL0 O (fun g1_3=>zJ O zAw O) O<|rL1 7 O (fun g1_3=>zK O one3 O (J 0 O) O) O<|rL1 8 O (fun g1_3=>zBb O O O) O<|wC O (fun h=>h)<|G O<|zA<|zG<|zV O ?_
 exact O
theorem zGv (op i:Int):
    Pur cfg 291 [vI op,vI i] (vB (wantC op i)):=by
 refine zW Tryz.func291 O Tryz.ntmps291 Tryz.results291 O ?_
 intro z hz
 refine Y O<|G O<|zA<|zH<|Y O<|G O<|zA<|zT<|zH<|Y O<|yX O<|G O<|zA<|zE O (fun c1=>?_) (fun c1=>?_)
 ·try simp only [sx] at c1
  refine zF<|zE O (fun c3=>?_) (fun c3=>?_)
  ·try simp only [sx] at c3
   refine Y O<|G O<|zA<|zG<|zV O ?_
   exact p6
  ·exact k8
 ·try simp only [sx] at c1
  refine Y O<|yX O<|G O<|zA<|zE O (fun c2=>?_) (fun c2=>?_)
  ·try simp only [sx] at c2
   refine zF<|zE O (fun c3=>?_) (fun c3=>?_)
   ·try simp only [sx] at c3
    refine Y O<|G O<|zA<|zG<|zV O ?_
    exact p6
   ·exact k8
  ·try simp only [sx] at c2
   refine zP O<|yX O<|G O<|zA<|zE O (fun c3=>?_) (fun c3=>?_)
   ·try simp only [sx] at c3
    refine Y O<|G O<|zA<|zG<|zV O ?_
    exact p6
   ·exact k8
theorem zQb (l:Lf):
    Pur cfg 284 [vLin l] (vB (zeroL l)):=by
 refine zW Tryz.func284 O Tryz.ntmps284 Tryz.results284 O ?_
 intro z hz
 refine Y O<|zZ O O (qO O O) ?_
 rintro _ _ ⟨b1,rfl,rfl⟩
 refine G O<|zA<|Y O<|zD O zFk<|zI one2 (J 0 O) O<|yX O<|G O<|rL0 O (fun g1_3=>zJ O zAe O) O<|rL1 7 O (fun g1_3=>zK O zEg O (J 0 O) O) O<|rL1 8 O (fun g1_3=>yW O U O) O<|rL1 9 O (fun g1_3=>kC O O O) O<|wC O (fun h=>h)<|G O<|zA<|zG<|zV O ?_
 exact O
theorem zQa (x:Ix):
    Pur cfg 287 [vIndex x] (vB (wellIx x)):=by
 refine zW Tryz.func287 O Tryz.ntmps287 Tryz.results287 O ?_
 intro z hz
 refine Y O<|zZ O O (qO O O) ?_
 rintro _ _ ⟨b1,rfl,rfl⟩
 refine G O<|zA<|zH<|Y O<|zD O zJd<|zI one9 (J 0 O) O<|kY O<|zA<|zE O (fun c1=>?_) (fun c1=>?_)
 ·try simp only [sx] at c1
  refine Y O<|zD O zBj<|zI zEt (J 0 O) O<|qB O el72<|yX O<|G O<|zA<|zG<|zV O ?_
  rw [wellIx,zDj c1];rfl
 ·try simp only [sx] at c1
  refine zF<|Y O<|zD O zEl<|zM kE (J 0 O) O<|qK O ok284 (zQb x.Lin) ⟨zB,O,T⟩<|G O<|zA<|zG<|zV O ?_
  rw [wellIx,wH c1];rfl
theorem expr_syntax_1 (x:Ix):
    Pur cfg 286 [vIndex x] (vB (!wellIx x)):=by
 refine zW Tryz.func286 O Tryz.ntmps286 Tryz.results286 O ?_
 intro z hz
 refine Y O<|zZ O O (qO O O) ?_
 rintro _ _ ⟨b1,rfl,rfl⟩
 refine G O<|zA<|Y O<|zM zLp (J 0 O) O<|qK O ok287 (zQa x) ⟨zB,O,T⟩<|wG O<|G O<|zA<|zG<|zV O ?_
 exact O
theorem expr_names_1 (x:Ix):
    Pur cfg 288 [vIndex x] (vB (!nmIx x)):=by
 refine zW Tryz.func288 O Tryz.ntmps288 Tryz.results288 O ?_
 intro z hz
 refine Y O<|zZ O O (qO O O) ?_
 rintro _ _ ⟨b1,rfl,rfl⟩
 refine G O<|zA<|Y O<|zD O zJd<|zI one9 (J 0 O) O<|zR O (zLb O O O)<|G O<|rL0 O (fun g1_3=>zJ O zJd O) O<|rL1 7 O (fun g1_3=>zK O one9 O (J 0 O) O) O<|rL1 8 O (fun g1_3=>qR O ok19 (zAq _) ⟨zB,O,T⟩) O<|rL1 9 O (fun g1_3=>zAz O O) O<|wC O (fun h=>h)<|G O<|zA<|zG<|zV O ?_
 exact congrArg vB (by unfold nmIx;simp)
theorem expr_rank_1 (x:Ix):
    Pur cfg 290 [vIndex x] (vB (!rkIx x)):=by
 refine zW Tryz.func290 O Tryz.ntmps290 Tryz.results290 O ?_
 intro z hz
 refine Y O<|zZ O O (qO O O) ?_
 rintro _ _ ⟨b1,rfl,rfl⟩
 refine G O<|zA<|Y O<|zD O zBj<|zI zEt (J 0 O) O<|qB O el72<|zR O (yU O O O)<|G O<|zA<|zG<|zV O ?_
 exact congrArg vB (by unfold rkIx;simp)
theorem expr_syntax (e:Ex) (he:e.wt<=6000000000000):
    Pur cfg 256 [vE e] (vB (synOk e)):=by
 refine zW Tryz.func256 O Tryz.ntmps256 Tryz.results256 O ?_
 intro z hz
 obtain ⟨hL,hI,hA⟩:=e.parts he
 refine Y O<|zZ O O (qO O O) ?_
 rintro _ _ ⟨b1,rfl,rfl⟩
 refine G O<|zA<|zH<|yL 13 mixed (by kernel_rfl) O O<|zQ O O (zJ O zAw O)<|zQ O O (zK O one3 O (J 0 O) O)<|zQ O O (kC O O O)<|zQ O O (zJ O zAw O)<|zQ O O (zK O one3 O (J 0 O) O)<|zQ O O (kC O O O)<|zQ O O (zS O O)<|qQ [] O O O O gv1 T (fun g1_6=>zJ O zAw O) O<|qQ [(14,_)] O O O O gv1 ⟨O,O,T⟩ (fun g1_6=>zK O one3 O (J 0 O) O) O<|qQ [(15,_)] O O O O gv1 ⟨O,O,T⟩ (fun g1_6=>kC O O O) O<|zQ O O (zDh O O O O (fun h=>(lzf h)))<|zQ O O (yV O O)<|zQ O O (yV O O)<|kL<|zA<|zH<|yL 8 mixed (by kernel_rfl) O O<|zQ O O (zJ O zAw O)<|zQ O O (zK O one3 O (J 0 O) O)<|zQ O O (kC O O O)<|zQ O O (zJ O zAw O)<|zQ O O (zK O one3 O (J 0 O) O)<|zQ O O (kC O O O)<|zQ O O (yV O O)<|zQ O O (yV O O)<|kL<|zA<|zH<|zT<|Y O<|zD O zAw<|zI one3 (J 0 O) O<|yB O<|G O<|rL0 O (fun g3_3=>zJ O zAw O) O<|rL1 29 O (fun g3_3=>zK O one3 O (J 0 O) O) O<|rL1 30 O (fun g3_3=>yU O O O) O<|r_or O (fun h=>(lzf h))<|G O<|zA<|zE O (fun c1=>?_) (fun c1=>?_)
 ·refine Y O<|G O<|zA<|zG<|zV O ?_
  exact congrArg vB (by simp only [synOk,c1,Bool.not_true,Bool.not_false,Bool.true_and,Bool.and_true,Bool.false_and,Bool.and_false])
 ·refine Y O<|G O<|wG O<|G O<|rL0 O (fun g5_2=>zJ O fd62_2 O) O<|rL1 37 O (fun g5_2=>qA O zGk O (J 0 O) O) O<|rL0 O (fun g5_2=>zBl O zr54 pl54 O) O<|rLz [(38,_),(39,_)] O gv1 ⟨O,O,O,O,T⟩ (fun g5_2=>zCi O fl54 O O O) O<|wC O (fun h=>h)<|G O<|zA<|zE O (fun c2=>?_) (fun c2=>?_)
  ·have c2:(!decide (e.Op=1)&& !val0 e.Val)=true:=c2
   refine Y O<|G O<|zA<|zG<|zV O ?_
   exact congrArg vB (by simp only [synOk,c2,Bool.not_true,Bool.not_false,Bool.true_and,Bool.and_true,Bool.false_and,Bool.and_false])
  ·have c2:(!decide (e.Op=1)&& !val0 e.Val)=false:=c2
   refine Y O<|G O<|wG O<|G O<|rL0 O (fun g7_2=>zJ O zKv O) O<|rL1 46 O (fun g7_2=>qA O qZ O (J 0 O) O) O<|rL0 O (fun g7_2=>zBl O zr56 pl56 O) O<|rLz [(47,_),(48,_)] O gv1 ⟨O,O,O,O,T⟩ (fun g7_2=>zCi O fl56 O O O) O<|wC O (fun h=>h)<|G O<|zA<|zE O (fun c3=>?_) (fun c3=>?_)
   ·have c3:(!(decide (e.Op=1)||decide (e.Op=12))&& !ty0 e.Ty)=true:=c3
    refine Y O<|G O<|zA<|zG<|zV O ?_
    exact congrArg vB (by simp only [synOk,c3,Bool.not_true,Bool.not_false,Bool.true_and,Bool.and_true,Bool.false_and,Bool.and_false])
   ·have c3:(!(decide (e.Op=1)||decide (e.Op=12))&& !ty0 e.Ty)=false:=c3
    refine Y O<|G O<|wG O<|G O<|rL0 O (fun g9_2=>zJ O zGp O) O<|rL1 55 O (fun g9_2=>qA O kE O (J 0 O) O) O<|rL1 56 O (fun g9_2=>qR O ok284 (zQb e.Lin) ⟨zB,O,T⟩) O<|rL1 57 O (fun g9_2=>zAz O O) O<|wC O (fun h=>h)<|G O<|zA<|zE O (fun c4=>?_) (fun c4=>?_)
    ·refine Y O<|G O<|zA<|zG<|zV O ?_
     exact congrArg vB (by simp only [synOk,c4,Bool.not_true,Bool.not_false,Bool.true_and,Bool.and_true,Bool.false_and,Bool.and_false])
    ·refine Y O<|G O<|wG O<|G O<|rL0 O (fun g11_2=>zJ O zNj O) O<|rL1 64 O (fun g11_2=>zK O one9 O (J 0 O) O) O<|rL1 65 O (fun g11_2=>zLb O O O) O<|rL1 66 O (fun g11_2=>zS O O) O<|rLz [] O gv2 T (fun g11_6=>zJ O zAt O) O<|rLz [(68,_)] O gv2 ⟨O,O,T⟩ (fun g11_6=>zK O zBr O (J 0 O) O) O<|rLz [(69,_)] O gv2 ⟨O,O,T⟩ (fun g11_6=>yW O el52 O) O<|rLz [(70,_)] O gv2 ⟨O,O,T⟩ (fun g11_6=>yU O O O) O<|rL1 67 O (fun g11_2=>zDh O O O O (fun h=>kU (by assumption) (lzf h))) O<|wC O (fun h=>h)<|G O<|zA<|zE O (fun c5=>?_) (fun c5=>?_)
     ·refine Y O<|G O<|zA<|zG<|zV O ?_
      exact congrArg vB (by simp only [synOk,c5,Bool.not_true,Bool.not_false,Bool.true_and,Bool.and_true,Bool.false_and,Bool.and_false])
     ·refine zF<|Y O<|zD O zAt<|zI zBr (J 0 O) O<|qK O ok285 (zAo e.Idx _ (fun x=> !wellIx x) hI (fun x _=>FnPur.of_pur (first:=[]) (cap:=[]) ok286 (expr_syntax_1 x))) ⟨zB,O,zB,O,T⟩<|wG O<|G O<|zA<|zG<|zV O ?_
      exact congrArg vB (by rw [zHi];simp only [synOk,c1,c2,c3,c4,c5,Bool.not_true,Bool.not_false,Bool.true_and,Bool.and_true,Bool.false_and,Bool.and_false])
theorem expr_names (e:Ex) (he:e.wt<=6000000000000):
    Pur cfg 257 [vE e] (vB (namesE e)):=by
 refine zW Tryz.func257 O Tryz.ntmps257 Tryz.results257 O ?_
 intro z hz
 obtain ⟨hL,hI,hA⟩:=e.parts he
 refine Y O<|zZ O O (qO O O) ?_
 rintro _ _ ⟨b1,rfl,rfl⟩
 refine G O<|zA<|zH<|Y O<|zD O zAw<|zI one3 (J 0 O) O<|yX O<|G O<|rL0 O (fun g1_3=>zJ O zNj O) O<|rL1 7 O (fun g1_3=>zK O one9 O (J 0 O) O) O<|rL1 8 O (fun g1_3=>qR O ok19 (zAq _) ⟨zB,O,T⟩) O<|rL1 9 O (fun g1_3=>zAz O O) O<|wC O (fun h=>h)<|zA<|zE O (fun c1=>?_) (fun c1=>?_)
 ·refine Y O<|G O<|zA<|zG<|zV O ?_
  exact congrArg vB (by simp only [namesE,c1,Bool.not_true,Bool.false_and])
 ·refine zF<|Y O<|zD O zAt<|zI zBr (J 0 O) O<|qK O ok285 (zAo e.Idx _ (fun x=> !nmIx x) hI (fun x _=>FnPur.of_pur (first:=[]) (cap:=[]) ok288 (expr_names_1 x))) ⟨zB,O,zB,O,T⟩<|wG O<|G O<|zA<|zG<|zV O ?_
  exact congrArg vB (by rw [zHi];simp only [namesE,c1,Bool.not_false,Bool.true_and])
theorem expr_rank (e:Ex) (he:e.wt<=6000000000000):
    Pur cfg 258 [vE e] (vB (rankE e)):=by
 refine zW Tryz.func258 O Tryz.ntmps258 Tryz.results258 O ?_
 intro z hz
 obtain ⟨hL,hI,hA⟩:=e.parts he
 refine Y O<|zZ O O (qO O O) ?_
 rintro _ _ ⟨b1,rfl,rfl⟩
 refine G O<|zA<|zH<|zH<|yL 13 mixed (by kernel_rfl) O O<|zQ O O (zJ O zCf O)<|zQ O O (zK O zIw O (J 0 O) O)<|zQ O O (yW O el60 O)<|zQ O O (zJ O zAw O)<|zQ O O (zK O one3 O (J 0 O) O)<|zQ O O (qR O ok289 (expr_operands _) ⟨zB,O,T⟩)<|zQ O O (zBa O O O)<|zQ O O (zS O O)<|qQ [] O O O O gv1 T (fun g1_7=>zJ O zAt O) O<|qQ [(11,_)] O O O O gv1 ⟨O,O,T⟩ (fun g1_7=>zK O zBr O (J 0 O) O) O<|qQ [(12,_)] O O O O gv1 ⟨O,O,T⟩ (fun g1_7=>yW O el52 O) O<|qQ [(13,_)] O O O O gv1 ⟨O,O,T⟩ (fun g1_7=>yU O O O) O<|zQ O O (zDh O O O O (fun h=>(lzf h)))<|kL<|zA<|zE O (fun c1=>?_) (fun c1=>?_)
 ·refine Y O<|G O<|zA<|zG<|zV O ?_
  exact congrArg vB (by simp only [rankE,c1,Bool.not_true,Bool.false_and])
 ·refine zF<|Y O<|zD O zAt<|zI zBr (J 0 O) O<|qK O ok285 (zAo e.Idx _ (fun x=> !rkIx x) hI (fun x _=>FnPur.of_pur (first:=[]) (cap:=[]) ok290 (expr_rank_1 x))) ⟨zB,O,zB,O,T⟩<|wG O<|G O<|zA<|zG<|zV O ?_
  exact congrArg vB (by rw [zHi];simp only [rankE,c1,Bool.not_false,Bool.true_and])
theorem expr_types (e:Ex) (he:e.wt<=6000000000000):
    Pur cfg 259 [vE e] (vB (typesE e)):=by
 refine zW Tryz.func259 O Tryz.ntmps259 Tryz.results259 O ?_
 intro z hz
 obtain ⟨hL,hI,hA⟩:=e.parts he
 refine Y O<|zZ O O (qO O O) ?_
 rintro _ _ ⟨b1,rfl,rfl⟩
 refine G O<|zA<|zH<|Y O<|zD O zAw<|zI one3 (J 0 O) O<|yX O<|G O<|rL0 O (fun g1_3=>zJ O zAw O) O<|rL1 9 O (fun g1_3=>zK O one3 O (J 0 O) O) O<|rL1 10 O (fun g1_3=>kC O O O) O<|r_or O (fun h=>(lzf h))<|G O<|rL0 O (fun g1_8=>zJ O zKv O) O<|rL1 14 O (fun g1_8=>qA O qZ O (J 0 O) O) O<|rL1 15 O (fun g1_8=>qR O ok167 (kW _) ⟨zB,O,T⟩) O<|rL1 16 O (fun g1_8=>zBa O O O) O<|wC O (fun h=>h)<|zA<|zE O (fun c1=>?_) (fun c1=>?_)
 ·rw [tyErr_dec] at c1
  refine Y O<|G O<|zA<|zG<|zV O ?_
  exact congrArg vB (by simp only [typesE,c1,Bool.not_true,Bool.false_and])
 ·rw [tyErr_dec] at c1
  refine zF<|zH<|Y O<|zD O zCf<|zI zIw (J 0 O) O<|qB O el60<|G O<|zA<|zT<|zU ⟨[(22,.c _),(1,.c _),(20,.c _),(21,.c _)],[_]⟩ (Weak.mk [true] ⟨zB,zB,zB,zB,T⟩ O)<|qJ 1 0 O O (Nat) (fun k=>[(22,vI k)]) (fun k=>[]) (fun k=>k<=e.Args.length/\(condsOk e.Op 0 e.Args=condsOk e.Op k (e.Args.drop k))) (fun k=>e.Args.length-k) ⟨0,⟨by omega,O⟩,Weak.mk [true] ⟨zB,zB,zB,zB,T⟩ O⟩ ?_
  rintro k ⟨hk,hp⟩
  refine Y O<|yB O<|zA<|zH<|zE O (fun c2=>?_) (fun c2=>?_)
  ·try simp only [sx] at c2
   obtain ⟨a,ha⟩:=yD e.Args k (by omega)
   refine zF<|zH<|zT<|Y O<|G O<|qD O el60 (by omega) (getmE (by assumption))<|zM kD qH O<|zZ O O (qF [none,none,none,none,none,none,none,none,none,none,some 2,some 4,some 13] O zr62 O) ?_
   rintro _ _ ⟨b2,rfl,rfl⟩
   refine G O<|D 0 sz62 O<|zA<|zH<|yL 7 mixed (by kernel_rfl) O O<|zQ O O (qA O kD O (J 0 O) O)<|zQ O O (qR O ok179 (kQ a) ⟨zB,O,T⟩)<|zQ O O (zJ O zAw O)<|zQ O O (zK O one3 O (J 1 O) O)<|zQ O O (zS O O)<|zQ O O (qR O ok291 (zGv _ _) ⟨zB,O,zB,O,T⟩)<|zQ O O (det_bneq O un4 O O)<|kL<|zA<|zE O (fun c3=>?_) (fun c3=>?_)
   ·refine Y O<|G O<|zA<|zG<|zV O ?_
    exact congrArg vB (by simp only [typesE,c1,Bool.not_false,Bool.true_and];rw [hp,qN ha,condsOk,show (isCond a==wantC e.Op k)=false by simpa using c3,Bool.false_and])
   ·refine zF<|zP O<|qM O ⟨by omega,by omega⟩<|G O<|zA ?_
    refine ⟨k+1,⟨by omega,(by rw [hp,qN ha,condsOk,show (isCond a==wantC e.Op k)=true by simpa using c3,Bool.true_and];rfl)⟩,(by omega),Weak.mk [false,true] ⟨zB,zB,zB,zB,T⟩ O⟩
  ·try simp only [sx] at c2
   refine qP<|Y O<|G O<|zA<|zG<|zV O ?_
   exact congrArg vB (by simp only [typesE,c1,Bool.not_false,Bool.true_and];rw [hp,kV (by omega)];rfl)
theorem zIc (n:Nat) (ih:n≠0->∀(a:Ex) (l:Int),a.wt<=6000000000000->l=n->Pur cfg 253 [vE a,vI l] (vI (depT (n-1) a))) (hn:n<=100) (e:Ex) (l:Int) (he:e.wt<=6000000000000) (hl:l=n+1):
    Pur cfg 253 [vE e,vI l] (vI (depT n e)):=by
 refine zW Tryz.func253 O Tryz.ntmps253 Tryz.results253 O ?_
 intro z hz
 obtain ⟨hL,hI,hA⟩:=e.parts he
 refine Y O<|zZ O O (qO O O) ?_
 rintro _ _ ⟨b1,rfl,rfl⟩
 refine G O<|zA<|zH<|Y O<|G O<|zR O (zBb O O O)<|zA<|zE O (fun c1=>?_) (fun c1=>?_)
 ·try simp only [sx] at c1
  obtain rfl:n=0:=by omega
  refine Y O<|G O<|G O<|zA<|zG<|zV O ?_
  exact congrArg vI (by rw [hl];rfl)
 ·try simp only [sx] at c1
  obtain ⟨m,rfl⟩:∃m,n=m+1:=⟨n-1,by omega⟩
  refine zF<|Y O<|G O<|zA<|zH<|Y O<|zD O zCf<|zI zIw (J 0 O) O<|qB O el60<|G O<|zA<|zT<|zU ⟨[(14,.c _),(5,.c _),(1,.c _),(12,.c _),(13,.c _)],[]⟩ (Weak.mk [false] ⟨zB,zB,zB,zB,zB,T⟩ O)<|qJ 2 0 O O (Nat×Int) (fun ⟨k,d⟩=>[(14,vI k),(5,vI d)]) (fun ⟨k,d⟩=>[]) (fun ⟨k,d⟩=>k<=e.Args.length/\(1<=d)/\(d<=m+2)/\(depT (m+1) e=depF (depT m) d (e.Args.drop k))) (fun ⟨k,d⟩=>e.Args.length-k) ⟨⟨0,1⟩,⟨by omega,by omega,by omega,O⟩,Weak.mk [] ⟨zB,VLe.of_eq (O),zB,zB,zB,T⟩ O⟩ ?_
  rintro ⟨k,d⟩ ⟨hk,hd1,hd2,hd3⟩
  show AWP _ _ _ _ _ ⟨[(14,vI k),(5,vI d)]++_,[]++_⟩
  refine Y O<|yB O<|zA<|zH<|zE O (fun c2=>?_) (fun c2=>?_)
  ·try simp only [sx] at c2
   obtain ⟨a,ha⟩:=yD e.Args k (by omega)
   have hda:=depT_le m a
   refine zF<|zH<|zT<|Y O<|qD O el60 (by omega) (getmE (by assumption))<|zM kD qH O<|zZ O O (qF [none,none,none,none,none,none,none,none,none,none,some 2,some 4,some 13] O zr62 O) ?_
   rintro _ _ ⟨b2,rfl,rfl⟩
   refine D 0 sz62 O<|zA<|zP O<|G O<|zM kD (J 0 O) O<|G O<|zR O (yO O O O ⟨by omega,by omega⟩)<|qK O ok253 (show Pur cfg 253 [vE a,vI (l-1)] (vI (depT m a)) from ih (by omega) a _ (by have:=Ex.arg_wt (qC ha);omega) (by omega)) ⟨zB,O,zB,O,T⟩<|qM O ⟨by omega,by omega⟩<|zR O (det_max O O O)<|G O<|zA<|zP O<|qM O ⟨by omega,by omega⟩<|G O<|zA ?_
   refine ⟨⟨k+1,max d (1+depT m a)⟩,⟨by omega,by omega,by omega,by rw [hd3,qN ha,depF]⟩,(by show e.Args.length-(k+1)<e.Args.length-k;omega),Weak.mk [false] ⟨zB,zB,zB,zB,zB,T⟩ O⟩
  ·try simp only [sx] at c2
   refine qP<|Y O<|G O<|G O<|zA<|zG<|zV O ?_
   exact congrArg vI (by rw [hd3,kV (by omega)];rfl)
theorem expr_depth (n:Nat) (e:Ex) (l:Int) (hn:n<=100) (he:e.wt<=6000000000000) (hl:l=n+1):Pur cfg 253 [vE e,vI l] (vI (depT n e)):=by
  induction n generalizing e l with
  |zero=>exact zIc 0 (fun h=>absurd rfl h) hn e l he hl
  |succ n ih=>exact zIc (n+1) (fun _ a l h1 h2=>ih a l (by omega) h1 (by omega)) hn e l he hl
theorem expr_Depth (e:Ex) (he:e.wt<=6000000000000):
    Pur cfg 218 [vE e] (vI (depT 40 e)):=by
 refine zW Tryz.func218 O Tryz.ntmps218 Tryz.results218 O ?_
 intro z hz
 refine Y O<|zZ O O (qO O O) ?_
 rintro _ _ ⟨b1,rfl,rfl⟩
 refine G O<|zA<|Y O<|zM kD (J 0 O) O<|qK O ok253 (expr_depth 40 e 41 (by omega) he (by omega)) ⟨zB,O,zB,O,T⟩<|G O<|zA<|zG<|zV O ?_
 exact O
end Go.W
