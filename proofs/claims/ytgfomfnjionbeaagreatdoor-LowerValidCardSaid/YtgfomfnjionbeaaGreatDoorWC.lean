/-
  What functions compute.
  Conditions: none.
-/
import Derived.Test.YtgfomfnjionbeaaGreatDoorWB
set_option linter.unusedSimpArgs false
set_option linter.unusedVariables false
set_option maxRecDepth 10000
namespace Go.W
open Go Go.Eng Go.Proofs Go.L41 Go.Br
attribute [local irreducible] AWP RWP TD fQ
theorem yU:mJ Tryz.prog 62=some 13:=by kernel_rfl
theorem el60:dG Tryz.prog 60=some (62,13,160):=by kernel_rfl
theorem el72:dG Tryz.prog 72=some (59,2,32):=by kernel_rfl
theorem wE:bD Tryz.prog 62 0=some (0,3):=by kernel_rfl
theorem zFp:bD Tryz.prog 62 1=some (1,9):=by kernel_rfl
theorem zLa:bD Tryz.prog 62 2=some (2,54):=by kernel_rfl
theorem zEo:bD Tryz.prog 62 3=some (4,56):=by kernel_rfl
theorem zDi:bD Tryz.prog 62 4=some (9,59):=by kernel_rfl
theorem kQ:bD Tryz.prog 62 5=some (11,52):=by kernel_rfl
theorem wP:bD Tryz.prog 62 6=some (12,60):=by kernel_rfl
theorem zCi:bD Tryz.prog 93 0=some (0,59):=by kernel_rfl
theorem zDm:bD Tryz.prog 93 1=some (2,9):=by kernel_rfl
theorem zAg:bD Tryz.prog 93 2=some (3,72):=by kernel_rfl
theorem fl54:flatK Tryz.prog 54=some [.int,.int]:=by kernel_rfl
theorem ok19:bA Tryz.prog 19=true:=by kernel_rfl
theorem ok146:bA Tryz.prog 146=true:=by kernel_rfl
theorem ok173:bA Tryz.prog 173=true:=by kernel_rfl
theorem ok179:bA Tryz.prog 179=true:=by kernel_rfl
theorem ok202:bA Tryz.prog 202=true:=by kernel_rfl
theorem ok239:bA Tryz.prog 239=true:=by kernel_rfl
theorem ok240:bA Tryz.prog 240=true:=by kernel_rfl
theorem ok241:bA Tryz.prog 241=true:=by kernel_rfl
theorem ok253:bA Tryz.prog 253=true:=by kernel_rfl
theorem ok270:bA Tryz.prog 270=true:=by kernel_rfl
theorem ok271:bA Tryz.prog 271=true:=by kernel_rfl
theorem ok272:bA Tryz.prog 272=true:=by kernel_rfl
theorem ok273:bA Tryz.prog 273=true:=by kernel_rfl
theorem ok274:bA Tryz.prog 274=true:=by kernel_rfl
theorem ok275:bA Tryz.prog 275=true:=by kernel_rfl
theorem ok276:bA Tryz.prog 276=true:=by kernel_rfl
theorem ok284:bA Tryz.prog 284=true:=by kernel_rfl
theorem ok285:bA Tryz.prog 285=true:=by kernel_rfl
theorem ok286:bA Tryz.prog 286=true:=by kernel_rfl
theorem ok287:bA Tryz.prog 287=true:=by kernel_rfl
theorem ok288:bA Tryz.prog 288=true:=by kernel_rfl
theorem ok289:bA Tryz.prog 289=true:=by kernel_rfl
theorem ok290:bA Tryz.prog 290=true:=by kernel_rfl
theorem ok291:bA Tryz.prog 291=true:=by kernel_rfl
theorem ok297:bA Tryz.prog 297=true:=by kernel_rfl
theorem ok298:bA Tryz.prog 298=true:=by kernel_rfl
theorem wG:gB Tryz.prog 52=true:=by kernel_rfl
theorem zBy:gB Tryz.prog 60=true:=by kernel_rfl
theorem zCg:gB Tryz.prog 72=true:=by kernel_rfl
theorem sz62:(Tryz.prog.info? 62).map (·.size)=some 13:=by kernel_rfl
theorem sz93:(Tryz.prog.info? 93).map (·.size)=some 4:=by kernel_rfl
theorem un4:Tryz.prog.underlying 4=some .bool:=by kernel_rfl
theorem zr62:dO Tryz.prog 62=some [(Value.int IntKind.i64 0),(Value.string (ByteArray.mk #[])),(Value.int IntKind.i64 0),(Value.int IntKind.i64 0),(Value.int IntKind.i64 0),(Value.int IntKind.i64 0),(Value.int IntKind.i64 0),(Value.int IntKind.i64 0),(Value.int IntKind.i64 0),(Value.int IntKind.i64 0),(Value.slice none 0 0),(Value.slice none 0 0),(Value.slice none 0 0)]:=by kernel_rfl
theorem zr93:dO Tryz.prog 93=some [(Value.int IntKind.i64 0),(Value.slice none 0 0),(Value.string (ByteArray.mk #[])),(Value.slice none 0 0)]:=by kernel_rfl
theorem expr_operands (op:Int):
    Pur cfg 289 [vI op] (vI (bN op)):=by
 refine zV Tryz.func289 O Tryz.ntmps289 Tryz.results289 O ?_
 exact n9
theorem kY (e:Ex):
    Pur cfg 179 [vE e] (vB (bO e)):=by
 refine zV Tryz.func179 O Tryz.ntmps179 Tryz.results179 O ?_
 intro z hz
 refine Y O<|zY O O (qL O O) ?_
 rintro _ _ ⟨b1,rfl,rfl⟩
 refine G O<|zA<|Y O<|zD O wE<|zG one3 (J 0 O) O<|zW O (wN O O O)<|G O<|rL0 O (fun g1_3=>zF O wE O) O<|rL1 7 O (fun g1_3=>zK O one3 O (J 0 O) O) O<|rL1 8 O (fun g1_3=>wN O O O) O<|kB O (fun h=>h)<|G O<|zA<|zJ<|zT O ?_
 exact O
theorem zPi (op:Int):
    Pur cfg 297 [vI op] (vI (bN op)):=by
 refine zV Tryz.func297 O Tryz.ntmps297 Tryz.results297 O ?_
 exact n9
theorem kU (e:Ex):
    Pur cfg 173 [vE e] (vB (bO e)):=by
 refine zV Tryz.func173 O Tryz.ntmps173 Tryz.results173 O ?_
 intro z hz
 refine Y O<|zY O O (qL O O) ?_
 rintro _ _ ⟨b1,rfl,rfl⟩
 refine G O<|zA<|Y O<|zD O wE<|zG one3 (J 0 O) O<|zW O (wQ O O O)<|G O<|rL0 O (fun g1_3=>zF O wE O) O<|rL1 7 O (fun g1_3=>zK O one3 O (J 0 O) O) O<|rL1 8 O (fun g1_3=>wN O O O) O<|kB O (fun h=>h)<|G O<|zA<|zJ<|zT O ?_
 exact O
theorem zIj (op i:Int):
    Pur cfg 291 [vI op,vI i] (vB (gP op i)):=by
 refine zV Tryz.func291 O Tryz.ntmps291 Tryz.results291 O ?_
 intro z hz
 refine Y O<|G O<|zA<|zH<|Y O<|G O<|zA<|zR<|zH<|Y O<|yJ O<|G O<|zA<|zE O (fun c1=>?_) (fun c1=>?_)
 ·try simp only [sx] at c1
  refine zI<|zE O (fun c3=>?_) (fun c3=>?_)
  ·try simp only [sx] at c3
   refine Y O<|G O<|zA<|zJ<|zT O ?_
   exact p9
  ·exact v12
 ·try simp only [sx] at c1
  refine Y O<|yJ O<|G O<|zA<|zE O (fun c2=>?_) (fun c2=>?_)
  ·try simp only [sx] at c2
   refine zI<|zE O (fun c3=>?_) (fun c3=>?_)
   ·try simp only [sx] at c3
    refine Y O<|G O<|zA<|zJ<|zT O ?_
    exact p9
   ·exact v12
  ·try simp only [sx] at c2
   refine zO O<|yJ O<|G O<|zA<|zE O (fun c3=>?_) (fun c3=>?_)
   ·try simp only [sx] at c3
    refine Y O<|G O<|zA<|zJ<|zT O ?_
    exact p9
   ·exact v12
theorem ref14_wants (op i:Int):
    Pur cfg 298 [vI op,vI i] (vB (gP op i)):=by
 refine zV Tryz.func298 O Tryz.ntmps298 Tryz.results298 O ?_
 intro z hz
 refine Y O<|G O<|zA<|Y O<|G O<|yJ O<|G O<|rL0 O (fun g1_2=>zP O O) O<|rL1 8 O (fun g1_2=>yR O O O) O<|kB O (fun h=>h)<|G O<|rL0 O (fun g1_6=>zP O O) O<|rL1 12 O (fun g1_6=>yR O O O) O<|r_or O (fun h=>(lzf h))<|G O<|rL0 O (fun g1_10=>zP O O) O<|rL1 16 O (fun g1_10=>yR O O O) O<|r_or O (fun h=>(lzf h))<|G O<|rL0 O (fun g1_14=>zP O O) O<|rL1 20 O (fun g1_14=>yR O O O) O<|r_or O (fun h=>(lzf h))<|G O<|zA<|zJ<|zT O ?_
 exact O
theorem zTt (l:Lf):
    Pur cfg 284 [dP l] (vB (nR l)):=by
 refine zV Tryz.func284 O Tryz.ntmps284 Tryz.results284 O ?_
 intro z hz
 refine Y O<|zY O O (qL O O) ?_
 rintro _ _ ⟨b1,rfl,rfl⟩
 refine G O<|zA<|Y O<|zD O zEd<|zG W (J 0 O) O<|yJ O<|G O<|rL0 O (fun g1_3=>zF O wC O) O<|rL1 7 O (fun g1_3=>zK O zBe O (J 0 O) O) O<|rL1 8 O (fun g1_3=>qT O U O) O<|rL1 9 O (fun g1_3=>yR O O O) O<|kB O (fun h=>h)<|G O<|zA<|zJ<|zT O ?_
 exact O
theorem zTs (x:Ix):
    Pur cfg 287 [jN x] (vB (jW x)):=by
 refine zV Tryz.func287 O Tryz.ntmps287 Tryz.results287 O ?_
 intro z hz
 refine Y O<|zY O O (qL O O) ?_
 rintro _ _ ⟨b1,rfl,rfl⟩
 refine G O<|zA<|zH<|Y O<|zD O zDm<|zG one9 (J 0 O) O<|wD O<|zA<|zE O (fun c1=>?_) (fun c1=>?_)
 ·try simp only [sx] at c1
  refine Y O<|zD O zAg<|zG zCg (J 0 O) O<|qB O el72<|yJ O<|G O<|zA<|zJ<|zT O ?_
  rw [jW,zAk c1];rfl
 ·try simp only [sx] at c1
  refine zI<|Y O<|zD O zCi<|zM kD (J 0 O) O<|qJ O ok284 (zTt x.Lin) ⟨zB,O,T⟩<|G O<|zA<|zJ<|zT O ?_
  rw [jW,kF c1];rfl
theorem expr_syntax_1 (x:Ix):
    Pur cfg 286 [jN x] (vB (!jW x)):=by
 refine zV Tryz.func286 O Tryz.ntmps286 Tryz.results286 O ?_
 intro z hz
 refine Y O<|zY O O (qL O O) ?_
 rintro _ _ ⟨b1,rfl,rfl⟩
 refine G O<|zA<|Y O<|zM zJx (J 0 O) O<|qJ O ok287 (zTs x) ⟨zB,O,T⟩<|kZ O<|G O<|zA<|zJ<|zT O ?_
 exact O
theorem expr_names_1 (x:Ix):
    Pur cfg 288 [jN x] (vB (!tL x)):=by
 refine zV Tryz.func288 O Tryz.ntmps288 Tryz.results288 O ?_
 intro z hz
 refine Y O<|zY O O (qL O O) ?_
 rintro _ _ ⟨b1,rfl,rfl⟩
 refine G O<|zA<|Y O<|zD O zDm<|zG one9 (J 0 O) O<|zW O (zEt O O O)<|G O<|rL0 O (fun g1_3=>zF O zDm O) O<|rL1 7 O (fun g1_3=>zK O one9 O (J 0 O) O) O<|rL1 8 O (fun g1_3=>qS O ok19 (zBr _) ⟨zB,O,T⟩) O<|rL1 9 O (fun g1_3=>wJ O O) O<|kB O (fun h=>h)<|G O<|zA<|zJ<|zT O ?_
 exact congrArg vB (by unfold tL;simp)
theorem expr_rank_1 (x:Ix):
    Pur cfg 290 [jN x] (vB (!tH x)):=by
 refine zV Tryz.func290 O Tryz.ntmps290 Tryz.results290 O ?_
 intro z hz
 refine Y O<|zY O O (qL O O) ?_
 rintro _ _ ⟨b1,rfl,rfl⟩
 refine G O<|zA<|Y O<|zD O zAg<|zG zCg (J 0 O) O<|qB O el72<|zW O (yF O O O)<|G O<|zA<|zJ<|zT O ?_
 exact congrArg vB (by unfold tH;simp)
theorem expr_syntax (e:Ex) (he:e.wt<=6000000000000):
    Pur cfg 256 [vE e] (vB (gX e)):=by
 refine zV Tryz.func256 O Tryz.ntmps256 Tryz.results256 O ?_
 intro z hz
 obtain ⟨hL,hI,hA⟩:=e.parts he
 refine Y O<|zY O O (qL O O) ?_
 rintro _ _ ⟨b1,rfl,rfl⟩
 refine G O<|zA<|zH<|yE 13 mixed uC O O<|zN O O (zF O wE O)<|zN O O (zK O one3 O (J 0 O) O)<|zN O O (yR O O O)<|zN O O (zF O wE O)<|zN O O (zK O one3 O (J 0 O) O)<|zN O O (yR O O O)<|zN O O (zP O O)<|qP [] O O O O gv1 T (fun g1_6=>zF O wE O) O<|qP [(14,_)] O O O O gv1 ⟨O,O,T⟩ (fun g1_6=>zK O one3 O (J 0 O) O) O<|qP [(15,_)] O O O O gv1 ⟨O,O,T⟩ (fun g1_6=>yR O O O) O<|zN O O (zAy O O O O (fun h=>(lzf h)))<|zN O O (yL O O)<|zN O O (yL O O)<|kE<|zA<|zH<|yE 8 mixed uC O O<|zN O O (zF O wE O)<|zN O O (zK O one3 O (J 0 O) O)<|zN O O (yR O O O)<|zN O O (zF O wE O)<|zN O O (zK O one3 O (J 0 O) O)<|zN O O (yR O O O)<|zN O O (yL O O)<|zN O O (yL O O)<|kE<|zA<|zH<|zR<|Y O<|zD O wE<|zG one3 (J 0 O) O<|yA O<|G O<|rL0 O (fun g3_3=>zF O wE O) O<|rL1 29 O (fun g3_3=>zK O one3 O (J 0 O) O) O<|rL1 30 O (fun g3_3=>yF O O O) O<|r_or O (fun h=>(lzf h))<|G O<|zA<|zE O (fun c1=>?_) (fun c1=>?_)
 ·refine Y O<|G O<|zA<|zJ<|zT O ?_
  exact congrArg vB (by simp only [gX,c1,Bool.not_true,Bool.not_false,Bool.true_and,Bool.and_true,Bool.false_and,Bool.and_false])
 ·refine Y O<|G O<|kZ O<|G O<|rL0 O (fun g5_2=>zF O zLa O) O<|rL1 37 O (fun g5_2=>qA O zFt O (J 0 O) O) O<|rL0 O (fun g5_2=>zAz O zr54 pl54 O) O<|rLz [(38,_),(39,_)] O gv1 ⟨O,O,O,O,T⟩ (fun g5_2=>zAr O fl54 O O O) O<|kB O (fun h=>h)<|G O<|zA<|zE O (fun c2=>?_) (fun c2=>?_)
  ·have c2:(!decide (e.Op=1)&& !vM e.Val)=true:=c2
   refine Y O<|G O<|zA<|zJ<|zT O ?_
   exact congrArg vB (by simp only [gX,c2,Bool.not_true,Bool.not_false,Bool.true_and,Bool.and_true,Bool.false_and,Bool.and_false])
  ·have c2:(!decide (e.Op=1)&& !vM e.Val)=false:=c2
   refine Y O<|G O<|kZ O<|G O<|rL0 O (fun g7_2=>zF O zEo O) O<|rL1 46 O (fun g7_2=>qA O qZ O (J 0 O) O) O<|rL0 O (fun g7_2=>zAz O zr56 pl56 O) O<|rLz [(47,_),(48,_)] O gv1 ⟨O,O,O,O,T⟩ (fun g7_2=>zAr O fl56 O O O) O<|kB O (fun h=>h)<|G O<|zA<|zE O (fun c3=>?_) (fun c3=>?_)
   ·have c3:(!(decide (e.Op=1)||decide (e.Op=12))&& !ty0 e.Ty)=true:=c3
    refine Y O<|G O<|zA<|zJ<|zT O ?_
    exact congrArg vB (by simp only [gX,c3,Bool.not_true,Bool.not_false,Bool.true_and,Bool.and_true,Bool.false_and,Bool.and_false])
   ·have c3:(!(decide (e.Op=1)||decide (e.Op=12))&& !ty0 e.Ty)=false:=c3
    refine Y O<|G O<|kZ O<|G O<|rL0 O (fun g9_2=>zF O zDi O) O<|rL1 55 O (fun g9_2=>qA O kD O (J 0 O) O) O<|rL1 56 O (fun g9_2=>qS O ok284 (zTt e.Lin) ⟨zB,O,T⟩) O<|rL1 57 O (fun g9_2=>wJ O O) O<|kB O (fun h=>h)<|G O<|zA<|zE O (fun c4=>?_) (fun c4=>?_)
    ·refine Y O<|G O<|zA<|zJ<|zT O ?_
     exact congrArg vB (by simp only [gX,c4,Bool.not_true,Bool.not_false,Bool.true_and,Bool.and_true,Bool.false_and,Bool.and_false])
    ·refine Y O<|G O<|kZ O<|G O<|rL0 O (fun g11_2=>zF O zFp O) O<|rL1 64 O (fun g11_2=>zK O one9 O (J 0 O) O) O<|rL1 65 O (fun g11_2=>zEt O O O) O<|rL1 66 O (fun g11_2=>zP O O) O<|rLz [] O gv2 T (fun g11_6=>zF O kQ O) O<|rLz [(68,_)] O gv2 ⟨O,O,T⟩ (fun g11_6=>zK O wG O (J 0 O) O) O<|rLz [(69,_)] O gv2 ⟨O,O,T⟩ (fun g11_6=>qT O N O) O<|rLz [(70,_)] O gv2 ⟨O,O,T⟩ (fun g11_6=>yF O O O) O<|rL1 67 O (fun g11_2=>zAy O O O O (fun h=>kM uD (lzf h))) O<|kB O (fun h=>h)<|G O<|zA<|zE O (fun c5=>?_) (fun c5=>?_)
     ·refine Y O<|G O<|zA<|zJ<|zT O ?_
      exact congrArg vB (by simp only [gX,c5,Bool.not_true,Bool.not_false,Bool.true_and,Bool.and_true,Bool.false_and,Bool.and_false])
     ·refine zI<|Y O<|zD O kQ<|zG wG (J 0 O) O<|qJ O ok285 (zBl e.Idx _ (fun x=> !jW x) hI (fun x _=>FnPur.of_pur (first:=[]) (cap:=[]) ok286 (expr_syntax_1 x))) ⟨zB,O,zB,O,T⟩<|kZ O<|G O<|zA<|zJ<|zT O ?_
      exact congrArg vB (by rw [zJa];simp only [gX,c1,c2,c3,c4,c5,Bool.not_true,Bool.not_false,Bool.true_and,Bool.and_true,Bool.false_and,Bool.and_false])
theorem expr_names (e:Ex) (he:e.wt<=6000000000000):
    Pur cfg 257 [vE e] (vB (mS e)):=by
 refine zV Tryz.func257 O Tryz.ntmps257 Tryz.results257 O ?_
 intro z hz
 obtain ⟨hL,hI,hA⟩:=e.parts he
 refine Y O<|zY O O (qL O O) ?_
 rintro _ _ ⟨b1,rfl,rfl⟩
 refine G O<|zA<|zH<|Y O<|zD O wE<|zG one3 (J 0 O) O<|yJ O<|G O<|rL0 O (fun g1_3=>zF O zFp O) O<|rL1 7 O (fun g1_3=>zK O one9 O (J 0 O) O) O<|rL1 8 O (fun g1_3=>qS O ok19 (zBr _) ⟨zB,O,T⟩) O<|rL1 9 O (fun g1_3=>wJ O O) O<|kB O (fun h=>h)<|zA<|zE O (fun c1=>?_) (fun c1=>?_)
 ·refine Y O<|G O<|zA<|zJ<|zT O ?_
  exact congrArg vB (by simp only [mS,c1,Bool.not_true,Bool.false_and])
 ·refine zI<|Y O<|zD O kQ<|zG wG (J 0 O) O<|qJ O ok285 (zBl e.Idx _ (fun x=> !tL x) hI (fun x _=>FnPur.of_pur (first:=[]) (cap:=[]) ok288 (expr_names_1 x))) ⟨zB,O,zB,O,T⟩<|kZ O<|G O<|zA<|zJ<|zT O ?_
  exact congrArg vB (by rw [zJa];simp only [mS,c1,Bool.not_false,Bool.true_and])
theorem expr_rank (e:Ex) (he:e.wt<=6000000000000):
    Pur cfg 258 [vE e] (vB (nU e)):=by
 refine zV Tryz.func258 O Tryz.ntmps258 Tryz.results258 O ?_
 intro z hz
 obtain ⟨hL,hI,hA⟩:=e.parts he
 refine Y O<|zY O O (qL O O) ?_
 rintro _ _ ⟨b1,rfl,rfl⟩
 refine G O<|zA<|zH<|zH<|yE 13 mixed uC O O<|zN O O (zF O wP O)<|zN O O (zK O zBy O (J 0 O) O)<|zN O O (qT O el60 O)<|zN O O (zF O wE O)<|zN O O (zK O one3 O (J 0 O) O)<|zN O O (qS O ok289 (expr_operands _) ⟨zB,O,T⟩)<|zN O O (wM O O O)<|zN O O (zP O O)<|qP [] O O O O gv1 T (fun g1_7=>zF O kQ O) O<|qP [(11,_)] O O O O gv1 ⟨O,O,T⟩ (fun g1_7=>zK O wG O (J 0 O) O) O<|qP [(12,_)] O O O O gv1 ⟨O,O,T⟩ (fun g1_7=>qT O N O) O<|qP [(13,_)] O O O O gv1 ⟨O,O,T⟩ (fun g1_7=>yF O O O) O<|zN O O (zAy O O O O (fun h=>(lzf h)))<|kE<|zA<|zE O (fun c1=>?_) (fun c1=>?_)
 ·refine Y O<|G O<|zA<|zJ<|zT O ?_
  exact congrArg vB (by simp only [nU,c1,Bool.not_true,Bool.false_and])
 ·refine zI<|Y O<|zD O kQ<|zG wG (J 0 O) O<|qJ O ok285 (zBl e.Idx _ (fun x=> !tH x) hI (fun x _=>FnPur.of_pur (first:=[]) (cap:=[]) ok290 (expr_rank_1 x))) ⟨zB,O,zB,O,T⟩<|kZ O<|G O<|zA<|zJ<|zT O ?_
  exact congrArg vB (by rw [zJa];simp only [nU,c1,Bool.not_false,Bool.true_and])
theorem expr_types (e:Ex) (he:e.wt<=6000000000000):
    Pur cfg 259 [vE e] (vB (jP e)):=by
 refine zV Tryz.func259 O Tryz.ntmps259 Tryz.results259 O ?_
 intro z hz
 obtain ⟨hL,hI,hA⟩:=e.parts he
 refine Y O<|zY O O (qL O O) ?_
 rintro _ _ ⟨b1,rfl,rfl⟩
 refine G O<|zA<|zH<|Y O<|zD O wE<|zG one3 (J 0 O) O<|yJ O<|G O<|rL0 O (fun g1_3=>zF O wE O) O<|rL1 9 O (fun g1_3=>zK O one3 O (J 0 O) O) O<|rL1 10 O (fun g1_3=>yR O O O) O<|r_or O (fun h=>(lzf h))<|G O<|rL0 O (fun g1_8=>zF O zEo O) O<|rL1 14 O (fun g1_8=>qA O qZ O (J 0 O) O) O<|rL1 15 O (fun g1_8=>qS O ok167 (wH _) ⟨zB,O,T⟩) O<|rL1 16 O (fun g1_8=>wM O O O) O<|kB O (fun h=>h)<|zA<|zE O (fun c1=>?_) (fun c1=>?_)
 ·rw [tyErr_dec] at c1
  refine Y O<|G O<|zA<|zJ<|zT O ?_
  exact congrArg vB (by simp only [jP,c1,Bool.not_true,Bool.false_and])
 ·rw [tyErr_dec] at c1
  refine zI<|zH<|Y O<|zD O wP<|zG zBy (J 0 O) O<|qB O el60<|G O<|zA<|zR<|zU ⟨[(22,.c _),(1,.c _),(20,.c _),(21,.c _)],[_]⟩ (Weak.mk [true] ⟨zB,zB,zB,zB,T⟩ O)<|qF 1 0 O O (Nat) (fun k=>[(22,vI k)]) (fun k=>[]) (fun k=>k<=e.Args.length/\(gI e.Op 0 e.Args=gI e.Op k (e.Args.drop k))) (fun k=>e.Args.length-k) ⟨0,⟨zC,O⟩,Weak.mk [true] ⟨zB,zB,zB,zB,T⟩ O⟩ ?_
  rintro k ⟨hk,hp⟩
  refine Y O<|yA O<|zA<|zH<|zE O (fun c2=>?_) (fun c2=>?_)
  ·try simp only [sx] at c2
   obtain ⟨a,ha⟩:=qV e.Args k zC
   refine zI<|zH<|zR<|Y O<|G O<|qE O el60 zC (zGh uD)<|zM yU qD O<|zY O O (qG [none,none,none,none,none,none,none,none,none,none,some 2,some 4,some 13] O zr62 O) ?_
   rintro _ _ ⟨b2,rfl,rfl⟩
   refine G O<|D 0 sz62 O<|zA<|zH<|yE 7 mixed uC O O<|zN O O (qA O yU O (J 0 O) O)<|zN O O (qS O ok179 (kY a) ⟨zB,O,T⟩)<|zN O O (zF O wE O)<|zN O O (zK O one3 O (J 1 O) O)<|zN O O (zP O O)<|zN O O (qS O ok291 (zIj _ _) ⟨zB,O,zB,O,T⟩)<|zN O O (zRf O un4 O O)<|kE<|zA<|zE O (fun c3=>?_) (fun c3=>?_)
   ·exact v59
   ·refine zI<|zO O<|qH O ⟨zC,zC⟩<|G O<|zA ?_
    refine ⟨k+1,⟨zC,(by rw [hp,qO ha,gI,show (bO a==gP e.Op k)=true by simpa using c3,Bool.true_and];rfl)⟩,zC,Weak.mk [false,true] ⟨zB,zB,zB,zB,T⟩ O⟩
  ·try simp only [sx] at c2
   refine qM<|Y O<|G O<|zA<|zJ<|zT O ?_
   exact congrArg vB (by simp only [jP,c1,Bool.not_false,Bool.true_and];rw [hp,kJ zC];rfl)
theorem ref14_typed (e:Ex) (he:e.wt<=6000000000000):
    Pur cfg 275 [vE e] (vB (jP e)):=by
 refine zV Tryz.func275 O Tryz.ntmps275 Tryz.results275 O ?_
 intro z hz
 obtain ⟨hL,hI,hA⟩:=e.parts he
 refine Y O<|zY O O (qL O O) ?_
 rintro _ _ ⟨b1,rfl,rfl⟩
 refine G O<|zA<|zH<|Y O<|zD O wE<|zG one3 (J 0 O) O<|yJ O<|G O<|rL0 O (fun g1_3=>zF O wE O) O<|rL1 8 O (fun g1_3=>zK O one3 O (J 0 O) O) O<|rL1 9 O (fun g1_3=>yR O O O) O<|r_or O (fun h=>(lzf h))<|G O<|rL0 O (fun g1_8=>zF O zEo O) O<|rL1 13 O (fun g1_8=>qA O qZ O (J 0 O) O) O<|rL1 14 O (fun g1_8=>qS O ok107 (base_Type _) ⟨zB,O,T⟩) O<|rL1 15 O (fun g1_8=>wJ O O) O<|kB O (fun h=>h)<|zA<|zE O (fun c1=>?_) (fun c1=>?_)
 ·refine Y O<|G O<|zA<|zJ<|zT O ?_
  exact congrArg vB (by simp only [jP,c1,Bool.not_true,Bool.false_and])
 ·refine zI<|zH<|Y O<|G O<|zA<|zR<|zU ⟨[(3,.c _),(1,.c _)],[_]⟩ (Weak.mk [true] ⟨zB,zB,T⟩ O)<|qF 1 0 O O (Nat) (fun k=>[(3,vI k)]) (fun k=>[]) (fun k=>k<=e.Args.length/\(gI e.Op 0 e.Args=gI e.Op k (e.Args.drop k))) (fun k=>e.Args.length-k) ⟨0,⟨zC,O⟩,Weak.mk [true] ⟨zB,zB,T⟩ O⟩ ?_
  rintro k ⟨hk,hp⟩
  refine zH<|Y O<|G O<|zD O wP<|zG zBy (J 0 O) O<|qB O el60<|yA O<|zA<|zE O (fun c2=>?_) (fun c2=>?_)
  ·try simp only [sx] at c2
   obtain ⟨a,ha⟩:=qV e.Args k zC
   refine zI<|zH<|zR<|zH<|yE 11 mixed uC O O<|zN O O (zF O wP O)<|zN O O (zK O zBy O (J 0 O) O)<|zN O O (zP O O)<|zN O O (qN O el60 O O zC (zGh uD))<|zN O O (qA O yU O qD O)<|zN O O (qS O ok173 (kU a) ⟨zB,O,T⟩)<|zN O O (zF O wE O)<|zN O O (zK O one3 O (J 0 O) O)<|zN O O (zP O O)<|zN O O (qS O ok298 (ref14_wants _ _) ⟨zB,O,zB,O,T⟩)<|zN O O (zRf O un4 O O)<|kE<|zA<|zE O (fun c3=>?_) (fun c3=>?_)
   ·exact v59
   ·refine zI<|zO O<|G O<|qH O ⟨zC,zC⟩<|G O<|zA ?_
    refine ⟨k+1,⟨zC,(by rw [hp,qO ha,gI,show (bO a==gP e.Op k)=true by simpa using c3,Bool.true_and];rfl)⟩,zC,Weak.mk [true] ⟨zB,zB,T⟩ O⟩
  ·try simp only [sx] at c2
   refine qM<|Y O<|G O<|zA<|zJ<|zT O ?_
   exact congrArg vB (by simp only [jP,c1,Bool.not_false,Bool.true_and];rw [hp,kJ zC];rfl)
theorem ref14_plain (e:Ex) (he:e.wt<=6000000000000):
    Pur cfg 272 [vE e] (vB (gX e)):=by
 refine zV Tryz.func272 O Tryz.ntmps272 Tryz.results272 O ?_
 intro z hz
 obtain ⟨hL,hI,hA⟩:=e.parts he
 refine Y O<|zY O O (qL O O) ?_
 rintro _ _ ⟨b1,rfl,rfl⟩
 refine G O<|zA<|zH<|Y O<|zD O wE<|zG one3 (J 0 O) O<|yA O<|G O<|rL0 O (fun g1_3=>zF O wE O) O<|rL1 9 O (fun g1_3=>zK O one3 O (J 0 O) O) O<|rL1 10 O (fun g1_3=>yF O O O) O<|r_or O (fun h=>(lzf h))<|zA<|zE O (fun c1=>?_) (fun c1=>?_)
 ·refine Y O<|G O<|zA<|zJ<|zT O ?_
  exact congrArg vB (by simp only [gX,c1,Bool.not_true,Bool.false_and])
 ·refine zI<|zH<|Y O<|zD O wE<|zG one3 (J 0 O) O<|yN O<|G O<|rL0 O (fun g3_3=>zF O zLa O) O<|rL1 17 O (fun g3_3=>qA O zFt O (J 0 O) O) O<|rL0 O (fun g3_3=>zAz O zr54 pl54 O) O<|rLz [(18,_),(19,_)] O gv1 ⟨O,O,O,O,T⟩ (fun g3_3=>zAr O fl54 O O O) O<|kB O (fun h=>h)<|G O<|rL0 O (fun g3_9=>zF O wE O) O<|rL1 23 O (fun g3_9=>zK O one3 O (J 0 O) O) O<|rL1 24 O (fun g3_9=>wM O O O) O<|rL1 25 O (fun g3_9=>zP O O) O<|rLz [] O gv2 T (fun g3_13=>zF O wE O) O<|rLz [(27,_)] O gv2 ⟨O,O,T⟩ (fun g3_13=>zK O one3 O (J 0 O) O) O<|rLz [(28,_)] O gv2 ⟨O,O,T⟩ (fun g3_13=>wM O O O) O<|rL1 26 O (fun g3_9=>zAc O O O (fun h=>kM uD h) O) O<|rL1 30 O (fun g3_9=>zP O O) O<|rLz [] O gv2 T (fun g3_18=>zF O zEo O) O<|rLz [(32,_)] O gv2 ⟨O,O,T⟩ (fun g3_18=>qA O qZ O (J 0 O) O) O<|rLz [] O gv2 T (fun g3_18=>zAz O zr56 pl56 O) O<|rLz [(33,_),(34,_)] O gv2 ⟨O,O,O,O,T⟩ (fun g3_18=>zAr O fl56 O O O) O<|rL1 31 O (fun g3_9=>zAc O O O (fun h=>kM uD h) O) O<|r_or O (fun h=>(lzf h))<|zA<|zE O (fun c2=>?_) (fun c2=>?_)
  ·have h2:=plain2 (e:=e) c2
   refine Y O<|G O<|zA<|zJ<|zT O ?_
   exact congrArg vB (syn2 h2)
  ·have h2:=plain2 (e:=e) c2
   refine zI<|zH<|Y O<|zD O wE<|zG one3 (J 0 O) O<|yN O<|G O<|rL0 O (fun g5_3=>zF O zDi O) O<|rL1 42 O (fun g5_3=>zF O zEd O) O<|rL1 43 O (fun g5_3=>zK O W O (J 0 O) O) O<|rL1 44 O (fun g5_3=>wM O O O) O<|rL1 45 O (fun g5_3=>zP O O) O<|rLz [] O gv2 T (fun g5_8=>zF O zDi O) O<|rLz [(47,_)] O gv2 ⟨O,O,T⟩ (fun g5_8=>zF O wC O) O<|rLz [(48,_)] O gv2 ⟨O,O,T⟩ (fun g5_8=>zK O zBe O (J 0 O) O) O<|rLz [(49,_)] O gv2 ⟨O,O,T⟩ (fun g5_8=>qT O U O) O<|rLz [(50,_)] O gv2 ⟨O,O,T⟩ (fun g5_8=>yF O O O) O<|rL1 46 O (fun g5_3=>zAy O O O O (fun h=>kM uD (lzf h))) O<|kB O (fun h=>h)<|G O<|rL0 O (fun g5_16=>zF O wE O) O<|rL1 55 O (fun g5_16=>zK O one3 O (J 0 O) O) O<|rL1 56 O (fun g5_16=>wM O O O) O<|rL1 57 O (fun g5_16=>zP O O) O<|rLz [] O gv2 T (fun g5_20=>zF O zFp O) O<|rLz [(59,_)] O gv2 ⟨O,O,T⟩ (fun g5_20=>zK O one9 O (J 0 O) O) O<|rLz [(60,_)] O gv2 ⟨O,O,T⟩ (fun g5_20=>zEt O O O) O<|rLz [(61,_)] O gv2 ⟨O,O,T⟩ (fun g5_20=>zP O O) O<|rLz [] O gv2 T (fun g5_24=>zF O kQ O) O<|rLz [(63,_)] O gv2 ⟨O,O,T⟩ (fun g5_24=>zK O wG O (J 0 O) O) O<|rLz [(64,_)] O gv2 ⟨O,O,T⟩ (fun g5_24=>qT O N O) O<|rLz [(65,_)] O gv2 ⟨O,O,T⟩ (fun g5_24=>yF O O O) O<|rLz [(62,_)] O gv2 ⟨O,O,T⟩ (fun g5_20=>zAy O O O O (fun h=>kM uD (lzf h))) O<|rL1 58 O (fun g5_16=>zAc O O O (fun h=>kM uD h) O) O<|r_or O (fun h=>(lzf h))<|zA<|zE O (fun c3=>?_) (fun c3=>?_)
   ·have h3:=plain3 (e:=e) c3
    refine Y O<|G O<|zA<|zJ<|zT O ?_
    exact congrArg vB (syn3 h3)
   ·have h3:=plain3 (e:=e) c3
    refine zI<|zH<|Y O<|G O<|zA<|zR<|zU ⟨[(3,.c _),(1,.c _)],[_]⟩ (Weak.mk [true] ⟨zB,zB,T⟩ O)<|qF 1 0 O O (Nat) (fun k=>[(3,vI k)]) (fun k=>[]) (fun k=>k<=e.Idx.length/\(e.Idx.all jW=(e.Idx.drop k).all jW)) (fun k=>e.Idx.length-k) ⟨0,⟨zC,O⟩,Weak.mk [true] ⟨zB,zB,T⟩ O⟩ ?_
    rintro k ⟨hk,hp⟩
    refine zH<|Y O<|G O<|zD O kQ<|zG wG (J 0 O) O<|qB O N<|yA O<|zA<|zE O (fun c4=>?_) (fun c4=>?_)
    ·try simp only [sx] at c4
     obtain ⟨x,hx⟩:=qV e.Idx k zC
     refine zI<|zH<|zR<|Y O<|zD O kQ<|zG wG (J 0 O) O<|G O<|qE O N zC (getm uD)<|zM zJx qD O<|zY O O (qG [none,some 2,none,some 2] O zr93 O) ?_
     rintro _ _ ⟨b2,rfl,rfl⟩
     refine D 0 sz93 O<|zA<|Y O<|zD O zDm<|zG one9 (J 0 O) O<|wD O<|G O<|rL0 O (fun g11_3=>zF O zAg O) O<|rL1 86 O (fun g11_3=>zK O zCg O (J 0 O) O) O<|rL1 87 O (fun g11_3=>qT O el72 O) O<|rL1 88 O (fun g11_3=>yF O O O) O<|kB O (fun h=>h)<|G O<|rL0 O (fun g11_9=>zF O zDm O) O<|rL1 92 O (fun g11_9=>zK O one9 O (J 0 O) O) O<|rL1 93 O (fun g11_9=>zEt O O O) O<|rL1 94 O (fun g11_9=>zP O O) O<|rLz [] O gv2 T (fun g11_13=>zF O zCi O) O<|rLz [(96,_)] O gv2 ⟨O,O,T⟩ (fun g11_13=>zF O zEd O) O<|rLz [(97,_)] O gv2 ⟨O,O,T⟩ (fun g11_13=>zK O W O (J 0 O) O) O<|rLz [(98,_)] O gv2 ⟨O,O,T⟩ (fun g11_13=>wM O O O) O<|rLz [(99,_)] O gv2 ⟨O,O,T⟩ (fun g11_13=>zP O O) O<|rLz [] O gv2 T (fun g11_18=>zF O zCi O) O<|rLz [(101,_)] O gv2 ⟨O,O,T⟩ (fun g11_18=>zF O wC O) O<|rLz [(102,_)] O gv2 ⟨O,O,T⟩ (fun g11_18=>zK O zBe O (J 0 O) O) O<|rLz [(103,_)] O gv2 ⟨O,O,T⟩ (fun g11_18=>qT O U O) O<|rLz [(104,_)] O gv2 ⟨O,O,T⟩ (fun g11_18=>yF O O O) O<|rLz [(100,_)] O gv2 ⟨O,O,T⟩ (fun g11_13=>zAy O O O O (fun h=>kM uD (lzf h))) O<|rL1 95 O (fun g11_9=>zAc O O O (fun h=>kM uD h) O) O<|r_or O (fun h=>(lzf h))<|zA<|zE O (fun c5=>?_) (fun c5=>?_)
     ·have h5:=well_dec (x:=x) c5
      refine Y O<|G O<|zA<|zJ<|zT O ?_
      exact congrArg vB (by rw [gX,zQg hx (p:=jW) (by simpa using h5)];simp)
     ·have h5:=well_dec (x:=x) c5
      refine zI<|zO O<|G O<|qH O ⟨zC,zC⟩<|G O<|zA ?_
      refine ⟨k+1,⟨zC,zRl hx hp (by simpa using h5)⟩,zC,Weak.mk [false,true] ⟨zB,zB,T⟩ O⟩
    ·try simp only [sx] at c4
     refine qM<|Y O<|G O<|zA<|zJ<|zT O ?_
     exact congrArg vB (syn5 c1 h2 h3 (all_end hp zC))
theorem ref14_named (e:Ex) (he:e.wt<=6000000000000):
    Pur cfg 273 [vE e] (vB (mS e)):=by
 refine zV Tryz.func273 O Tryz.ntmps273 Tryz.results273 O ?_
 intro z hz
 obtain ⟨hL,hI,hA⟩:=e.parts he
 refine Y O<|zY O O (qL O O) ?_
 rintro _ _ ⟨b1,rfl,rfl⟩
 refine G O<|zA<|zH<|Y O<|zD O wE<|zG one3 (J 0 O) O<|yJ O<|G O<|rL0 O (fun g1_3=>zF O zFp O) O<|rL1 8 O (fun g1_3=>zK O one9 O (J 0 O) O) O<|rL1 9 O (fun g1_3=>qS O ok20 (zGx _) ⟨zB,O,T⟩) O<|rL1 10 O (fun g1_3=>wJ O O) O<|kB O (fun h=>h)<|zA<|zE O (fun c1=>?_) (fun c1=>?_)
 ·refine Y O<|G O<|zA<|zJ<|zT O ?_
  exact congrArg vB (by simp only [mS,c1,Bool.not_true,Bool.false_and])
 ·refine zI<|zH<|Y O<|G O<|zA<|zR<|zU ⟨[(3,.c _),(1,.c _)],[_]⟩ (Weak.mk [true] ⟨zB,zB,T⟩ O)<|qF 1 0 O O (Nat) (fun k=>[(3,vI k)]) (fun k=>[]) (fun k=>k<=e.Idx.length/\(e.Idx.all tL=(e.Idx.drop k).all tL)) (fun k=>e.Idx.length-k) ⟨0,⟨zC,O⟩,Weak.mk [true] ⟨zB,zB,T⟩ O⟩ ?_
  rintro k ⟨hk,hp⟩
  refine zH<|Y O<|G O<|zD O kQ<|zG wG (J 0 O) O<|qB O N<|yA O<|zA<|zE O (fun c2=>?_) (fun c2=>?_)
  ·try simp only [sx] at c2
   obtain ⟨x,hx⟩:=qV e.Idx k zC
   refine zI<|zH<|zR<|Y O<|zD O kQ<|zG wG (J 0 O) O<|G O<|qE O N zC (getm uD)<|qW O zDm<|zG one9 qD O<|zW O (zEt O O O)<|G O<|rL0 O (fun g6_7=>zF O kQ O) O<|rL1 28 O (fun g6_7=>zK O wG O (J 0 O) O) O<|rL0 O (fun g6_7=>zP O O) O<|rLz [(29,_),(30,_)] O gv1 ⟨O,O,O,O,T⟩ (fun g6_7=>qN O N O O zC (getm uD)) O<|rL1 31 O (fun g6_7=>qQ O zDm O) O<|rL1 32 O (fun g6_7=>zK O one9 O qD O) O<|rL1 33 O (fun g6_7=>qS O ok20 (zGx _) ⟨zB,O,T⟩) O<|rL1 34 O (fun g6_7=>wJ O O) O<|kB O (fun h=>h)<|zA<|zE O (fun c3=>?_) (fun c3=>?_)
   ·refine Y O<|G O<|zA<|zJ<|zT O ?_
    exact congrArg vB (by rw [mS,zQg hx (p:=tL) (by unfold tL;rw [c3];rfl)];simp)
   ·refine zI<|zO O<|G O<|qH O ⟨zC,zC⟩<|G O<|zA ?_
    refine ⟨k+1,⟨zC,zRl hx hp (by unfold tL;rw [c3];rfl)⟩,zC,Weak.mk [true] ⟨zB,zB,T⟩ O⟩
  ·try simp only [sx] at c2
   refine qM<|Y O<|G O<|zA<|zJ<|zT O ?_
   exact congrArg vB (by rw [mS,c1,all_end hp zC];rfl)
theorem ref14_ranked (e:Ex) (he:e.wt<=6000000000000):
    Pur cfg 274 [vE e] (vB (nU e)):=by
 refine zV Tryz.func274 O Tryz.ntmps274 Tryz.results274 O ?_
 intro z hz
 obtain ⟨hL,hI,hA⟩:=e.parts he
 refine Y O<|zY O O (qL O O) ?_
 rintro _ _ ⟨b1,rfl,rfl⟩
 refine G O<|zA<|zH<|zH<|yE 13 mixed uC O O<|zN O O (zF O wP O)<|zN O O (zK O zBy O (J 0 O) O)<|zN O O (qT O el60 O)<|zN O O (zF O wE O)<|zN O O (zK O one3 O (J 0 O) O)<|zN O O (qS O ok297 (zPi _) ⟨zB,O,T⟩)<|zN O O (wM O O O)<|zN O O (zP O O)<|qP [] O O O O gv1 T (fun g1_7=>zF O kQ O) O<|qP [(12,_)] O O O O gv1 ⟨O,O,T⟩ (fun g1_7=>zK O wG O (J 0 O) O) O<|qP [(13,_)] O O O O gv1 ⟨O,O,T⟩ (fun g1_7=>qT O N O) O<|qP [(14,_)] O O O O gv1 ⟨O,O,T⟩ (fun g1_7=>yF O O O) O<|zN O O (zAy O O O O (fun h=>(lzf h)))<|kE<|zA<|zE O (fun c1=>?_) (fun c1=>?_)
 ·refine Y O<|G O<|zA<|zJ<|zT O ?_
  exact congrArg vB (by simp only [nU,c1,Bool.not_true,Bool.false_and])
 ·refine zI<|zH<|Y O<|G O<|zA<|zR<|zU ⟨[(3,.c _),(1,.c _)],[_]⟩ (Weak.mk [true] ⟨zB,zB,T⟩ O)<|qF 1 0 O O (Nat) (fun k=>[(3,vI k)]) (fun k=>[]) (fun k=>k<=e.Idx.length/\(e.Idx.all tH=(e.Idx.drop k).all tH)) (fun k=>e.Idx.length-k) ⟨0,⟨zC,O⟩,Weak.mk [true] ⟨zB,zB,T⟩ O⟩ ?_
  rintro k ⟨hk,hp⟩
  refine zH<|Y O<|G O<|zD O kQ<|zG wG (J 0 O) O<|qB O N<|yA O<|zA<|zE O (fun c2=>?_) (fun c2=>?_)
  ·try simp only [sx] at c2
   obtain ⟨x,hx⟩:=qV e.Idx k zC
   refine zI<|zH<|zR<|Y O<|zD O kQ<|zG wG (J 0 O) O<|G O<|qE O N zC (getm uD)<|qW O zAg<|zG zCg qD O<|qB O el72<|zW O (yF O O O)<|zA<|zE O (fun c3=>?_) (fun c3=>?_)
   ·refine Y O<|G O<|zA<|zJ<|zT O ?_
    exact congrArg vB (by rw [nU,zQg hx (p:=tH) (by unfold tH;rw [c3];rfl)];simp)
   ·refine zI<|zO O<|G O<|qH O ⟨zC,zC⟩<|G O<|zA ?_
    refine ⟨k+1,⟨zC,zRl hx hp (by unfold tH;rw [c3];rfl)⟩,zC,Weak.mk [true] ⟨zB,zB,T⟩ O⟩
  ·try simp only [sx] at c2
   refine qM<|Y O<|G O<|zA<|zJ<|zT O ?_
   exact congrArg vB (by rw [nU,c1,all_end hp zC];rfl)
theorem ref14_formed (e:Ex) (he:e.wt<=6000000000000) (hty:e.Op=1->dV e.Ty=true):
    Pur cfg 276 [vE e] (vB (lB e)):=by
 refine zV Tryz.func276 O Tryz.ntmps276 Tryz.results276 O ?_
 intro z hz
 obtain ⟨hL,hI,hA⟩:=e.parts he
 refine Y O<|zY O O (qL O O) ?_
 rintro _ _ ⟨b1,rfl,rfl⟩
 refine G O<|zA<|zH<|Y O<|zD O wE<|zG one3 (J 0 O) O<|yJ O<|G O<|rL0 O (fun g1_3=>zF O zEo O) O<|rL1 9 O (fun g1_3=>qA O qZ O (J 0 O) O) O<|rL0 O (fun g1_3=>zF O zLa O) O<|rL1 11 O (fun g1_3=>qA O zFt O (J 0 O) O) O<|rLz [(10,_),(12,_)] O gv1 ⟨O,O,O,O,T⟩ (fun g1_3=>qS O ok202 (base_Val e.Ty e.Val (hty (by simp only [Lz,cond_true,cond_false,Bool.and_eq_true,Bool.or_eq_true,Bool.not_eq_true',Bool.not_eq_false',Bool.or_eq_false_iff,Bool.and_eq_false_iff,decide_eq_true_eq,decide_eq_false_iff_not,Bool.not_eq_true,Bool.not_eq_false] at g1_3;exact g1_3))) ⟨zB,O,zB,O,T⟩) O<|rL1 13 O (fun g1_3=>wJ O O) O<|kB O (fun h=>h)<|G O<|rL0 O (fun g1_11=>zF O zDi O) O<|rL1 17 O (fun g1_11=>qA O kD O (J 0 O) O) O<|rL1 18 O (fun g1_11=>qS O ok146 (zHx e.Lin hL) ⟨zB,O,T⟩) O<|rL1 19 O (fun g1_11=>wJ O O) O<|r_or O (fun h=>(lzf h))<|zA<|zE O (fun c1=>?_) (fun c1=>?_)
 ·refine Y O<|G O<|zA<|zJ<|zT O ?_
  exact congrArg vB (form_no c1)
 ·refine zI<|zH<|Y O<|G O<|zA<|zR<|zU ⟨[(3,.c _),(1,.c _)],[_]⟩ (Weak.mk [true] ⟨zB,zB,T⟩ O)<|qF 1 0 O O (Nat) (fun k=>[(3,vI k)]) (fun k=>[]) (fun k=>k<=e.Idx.length/\((dI e).all bP=((e.Idx.drop k).flatMap fun x=>x.Lin::x.At).all bP)) (fun k=>e.Idx.length-k) ⟨0,⟨zC,form_start c1⟩,Weak.mk [true] ⟨zB,zB,T⟩ O⟩ ?_
  rintro k ⟨hk,hp⟩
  refine zH<|Y O<|G O<|zD O kQ<|zG wG (J 0 O) O<|qB O N<|yA O<|zA<|zE O (fun c2=>?_) (fun c2=>?_)
  ·try simp only [sx] at c2
   obtain ⟨x,hx⟩:=qV e.Idx k zC
   have hxw:=Ex.idx_wt (qC hx)
   refine zI<|zH<|zR<|zH<|Y O<|zD O kQ<|zG wG (J 0 O) O<|G O<|qE O N zC (getm uD)<|qW O zCi<|zM kD qD O<|qJ O ok146 (zHx x.Lin zC) ⟨zB,O,T⟩<|kZ O<|zA<|zE O (fun c3=>?_) (fun c3=>?_)
   ·try simp only [sx] at c3
    refine Y O<|G O<|zA<|zJ<|zT O ?_
    exact congrArg vB (form_no2 hp (by rw [qO hx,List.flatMap_cons,List.all_append,List.all_cons,c3];rfl))
   ·try simp only [sx] at c3
    refine zI<|Y O<|G O<|zA<|zR<|zU ⟨[(4,.c _),(1,.c _),(3,.c _)],[_]⟩ (Weak.mk [true] ⟨zB,zB,zB,T⟩ O)<|qF 1 0 O O (Nat) (fun j=>[(4,vI j)]) (fun j=>[]) (fun j=>j<=x.At.length/\(x.At.all bP=(x.At.drop j).all bP)) (fun j=>x.At.length-j) ⟨0,⟨zC,O⟩,Weak.mk [true] ⟨zB,zB,zB,T⟩ O⟩ ?_
    rintro j ⟨hj,hq⟩
    refine zH<|Y O<|G O<|zD O kQ<|zG wG (J 0 O) O<|G O<|qE O N zC (getm uD)<|qW O zAg<|zG zCg qD O<|qB O el72<|yA O<|zA<|zE O (fun c4=>?_) (fun c4=>?_)
    ·try simp only [sx] at c4
     obtain ⟨l,hl⟩:=qV x.At j zC
     have hlw:=zBz (qC hl)
     refine zI<|zH<|zR<|Y O<|zD O kQ<|zG wG (J 0 O) O<|G O<|qE O N zC (getm uD)<|qW O zAg<|zG zCg qD O<|G O<|qE O el72 zC (getm uD)<|zM kD qD O<|qJ O ok146 (zHx l zC) ⟨zB,O,T⟩<|kZ O<|zA<|zE O (fun c5=>?_) (fun c5=>?_)
     ·try simp only [sx] at c5
      refine Y O<|G O<|zA<|zJ<|zT O ?_
      exact congrArg vB (form_no2 hp (by rw [qO hx,List.flatMap_cons,List.all_append,List.all_cons,zQg hl (p:=bP) c5];simp))
     ·try simp only [sx] at c5
      refine zI<|zO O<|G O<|qH O ⟨zC,zC⟩<|G O<|zA ?_
      refine ⟨j+1,⟨zC,zRl hl hq c5⟩,zC,Weak.mk [true] ⟨zB,zB,zB,T⟩ O⟩
    ·try simp only [sx] at c4
     refine qM<|zO O<|G O<|qH O ⟨zC,zC⟩<|G O<|zA ?_
     refine ⟨k+1,⟨zC,(by rw [hp,qO hx,List.flatMap_cons,List.all_append,List.all_cons,c3,all_end hq zC];rfl)⟩,zC,Weak.mk [true] ⟨zB,zB,T⟩ O⟩
  ·try simp only [sx] at c2
   refine qM<|Y O<|G O<|zA<|zJ<|zT O ?_
   exact congrArg vB (form_yes c1 (by rw [hp,kJ zC];rfl))
theorem zSn (e:Ex) (ih:∀a,a∈e.Args->a.wt<=6000000000000->Pur cfg 241 [vE a] (vI (dZ a))) (he:e.wt<=6000000000000):
    Pur cfg 241 [vE e] (vI (dZ e)):=by
 refine zV Tryz.func241 O Tryz.ntmps241 Tryz.results241 O ?_
 intro z hz
 obtain ⟨hL,hI,hA⟩:=e.parts he
 refine Y O<|zY O O (qL O O) ?_
 rintro _ _ ⟨b1,rfl,rfl⟩
 refine G O<|zA<|zH<|zR<|Y O<|zM yU (J 0 O) O<|qJ O ok272 (ref14_plain e he) ⟨zB,O,T⟩<|kZ O<|G O<|zA<|zE O (fun c1=>?_) (fun c1=>?_)
 ·try simp only [sx] at c1
  refine Y O<|G O<|zA<|zJ<|zT O ?_
  exact congrArg vI (by rw [zFw,show bW e=5 by simp only [bW,c1];rfl];rfl)
 ·try simp only [sx] at c1
  refine Y O<|zM yU (J 0 O) O<|qJ O ok273 (ref14_named e he) ⟨zB,O,T⟩<|kZ O<|G O<|zA<|zE O (fun c2=>?_) (fun c2=>?_)
  ·try simp only [sx] at c2
   refine Y O<|G O<|zA<|zJ<|zT O ?_
   exact congrArg vI (by rw [zFw,show bW e=7 by simp only [bW,c1,c2];rfl];rfl)
  ·try simp only [sx] at c2
   refine Y O<|zM yU (J 0 O) O<|qJ O ok274 (ref14_ranked e he) ⟨zB,O,T⟩<|kZ O<|G O<|zA<|zE O (fun c3=>?_) (fun c3=>?_)
   ·try simp only [sx] at c3
    refine Y O<|G O<|zA<|zJ<|zT O ?_
    exact congrArg vI (by rw [zFw,show bW e=11 by simp only [bW,c1,c2,c3];rfl];rfl)
   ·try simp only [sx] at c3
    refine Y O<|zM yU (J 0 O) O<|qJ O ok275 (ref14_typed e he) ⟨zB,O,T⟩<|kZ O<|G O<|zA<|zE O (fun c4=>?_) (fun c4=>?_)
    ·try simp only [sx] at c4
     refine Y O<|G O<|zA<|zJ<|zT O ?_
     exact congrArg vI (by rw [zFw,show bW e=10 by simp only [bW,c1,c2,c3,c4];rfl];rfl)
    ·try simp only [sx] at c4
     refine Y O<|zM yU (J 0 O) O<|qJ O ok276 (ref14_formed e he (types_ty c4)) ⟨zB,O,T⟩<|kZ O<|G O<|zA<|zE O (fun c5=>?_) (fun c5=>?_)
     ·try simp only [sx] at c5
      refine Y O<|G O<|zA<|zJ<|zT O ?_
      exact congrArg vI (by rw [zFw,show bW e=1 by simp only [bW,c1,c2,c3,c4,c5];rfl];rfl)
     ·try simp only [sx] at c5
      have hn:bW e=0:=by simp only [bW,c1,c2,c3,c4,c5];rfl
      refine zI<|zH<|Y O<|G O<|zA<|zR<|zU ⟨[(3,.c _),(1,.c _)],[_]⟩ (Weak.mk [true] ⟨zB,zB,T⟩ O)<|qF 1 0 O O (Nat) (fun k=>[(3,vI k)]) (fun k=>[]) (fun k=>k<=e.Args.length/\(sN e.Args=sN (e.Args.drop k))) (fun k=>e.Args.length-k) ⟨0,⟨zC,O⟩,Weak.mk [true] ⟨zB,zB,T⟩ O⟩ ?_
      rintro k ⟨hk,hp⟩
      refine zH<|Y O<|G O<|zD O wP<|zG zBy (J 0 O) O<|qB O el60<|yA O<|zA<|zE O (fun c6=>?_) (fun c6=>?_)
      ·try simp only [sx] at c6
       obtain ⟨a,ha⟩:=qV e.Args k zC
       refine zI<|zH<|zR<|Y O<|zD O wP<|zG zBy (J 0 O) O<|G O<|qE O el60 zC (zGh uD)<|zM yU qD O<|qJ O ok241 (ih a (qC ha) (by have:=Ex.arg_wt (qC ha);omega)) ⟨zB,O,T⟩<|G O<|zA<|Y O<|G O<|yN O<|zA<|zE O (fun c7=>?_) (fun c7=>?_)
       ·try simp only [sx] at c7
        refine Y O<|G O<|G O<|zA<|zJ<|zT O ?_
        exact congrArg vI (by rw [zFw e,hn,zAk rfl,cond_true,hp,qO ha,zOe,kF c7];rfl)
       ·try simp only [sx] at c7
        refine zI<|zO O<|G O<|qH O ⟨zC,zC⟩<|G O<|zA ?_
        refine ⟨k+1,⟨zC,(by rw [hp,qO ha,zOe,zAk c7];rfl)⟩,zC,Weak.mk [true] ⟨zB,zB,T⟩ O⟩
      ·try simp only [sx] at c6
       refine qM<|Y O<|G O<|zA<|zJ<|zT O ?_
       exact congrArg vI (by rw [zFw,hn,zAk rfl,cond_true,hp,kJ zC];rfl)
theorem ref14_part (e:Ex) (he:e.wt<=6000000000000):Pur cfg 241 [vE e] (vI (dZ e)):=by
  induction e using Ex.ind with
  |_ e ih=>exact zSn e ih he
theorem zJq (n:Nat) (ih:n≠0->∀(a:Ex) (l:Int),a.wt<=6000000000000->l=n->Pur cfg 253 [vE a,vI l] (vI (lL (n-1) a))) (hn:n<=100) (e:Ex) (l:Int) (he:e.wt<=6000000000000) (hl:l=n+1):
    Pur cfg 253 [vE e,vI l] (vI (lL n e)):=by
 refine zV Tryz.func253 O Tryz.ntmps253 Tryz.results253 O ?_
 intro z hz
 obtain ⟨hL,hI,hA⟩:=e.parts he
 refine Y O<|zY O O (qL O O) ?_
 rintro _ _ ⟨b1,rfl,rfl⟩
 refine G O<|zA<|zH<|Y O<|G O<|zW O (wN O O O)<|zA<|zE O (fun c1=>?_) (fun c1=>?_)
 ·try simp only [sx] at c1
  obtain rfl:n=0:=by omega
  refine Y O<|G O<|G O<|zA<|zJ<|zT O ?_
  exact congrArg vI (by rw [hl];rfl)
 ·try simp only [sx] at c1
  obtain ⟨m,rfl⟩:∃m,n=m+1:=⟨n-1,zC⟩
  refine zI<|Y O<|G O<|zA<|zH<|Y O<|zD O wP<|zG zBy (J 0 O) O<|qB O el60<|G O<|zA<|zR<|zU ⟨[(14,.c _),(5,.c _),(1,.c _),(12,.c _),(13,.c _)],[]⟩ (Weak.mk [false] ⟨zB,zB,zB,zB,zB,T⟩ O)<|qF 2 0 O O (Nat×Int) (fun ⟨k,d⟩=>[(14,vI k),(5,vI d)]) (fun ⟨k,d⟩=>[]) (fun ⟨k,d⟩=>k<=e.Args.length/\(1<=d)/\(d<=m+2)/\(lL (m+1) e=tA (lL m) d (e.Args.drop k))) (fun ⟨k,d⟩=>e.Args.length-k) ⟨⟨0,1⟩,⟨zC,zC,zC,O⟩,Weak.mk [] ⟨zB,VLe.of_eq (O),zB,zB,zB,T⟩ O⟩ ?_
  rintro ⟨k,d⟩ ⟨hk,hd1,hd2,hd3⟩
  show AWP _ _ _ _ _ ⟨[(14,vI k),(5,vI d)]++_,[]++_⟩
  refine Y O<|yA O<|zA<|zH<|zE O (fun c2=>?_) (fun c2=>?_)
  ·try simp only [sx] at c2
   obtain ⟨a,ha⟩:=qV e.Args k zC
   have hda:=depT_le m a
   refine zI<|zH<|zR<|Y O<|qE O el60 zC (zGh uD)<|zM yU qD O<|zY O O (qG [none,none,none,none,none,none,none,none,none,none,some 2,some 4,some 13] O zr62 O) ?_
   rintro _ _ ⟨b2,rfl,rfl⟩
   refine D 0 sz62 O<|zA<|zO O<|G O<|zM yU (J 0 O) O<|G O<|zW O (yM O O O ⟨zC,zC⟩)<|qJ O ok253 (show Pur cfg 253 [vE a,vI (l-1)] (vI (lL m a)) from ih zC a _ (by have:=Ex.arg_wt (qC ha);omega) zC) ⟨zB,O,zB,O,T⟩<|qH O ⟨zC,zC⟩<|zW O (zPe O O O)<|G O<|zA<|zO O<|qH O ⟨zC,zC⟩<|G O<|zA ?_
   refine ⟨⟨k+1,max d (1+lL m a)⟩,⟨zC,zC,zC,by rw [hd3,qO ha,tA]⟩,(by show e.Args.length-(k+1)<e.Args.length-k;omega),Weak.mk [false] ⟨zB,zB,zB,zB,zB,T⟩ O⟩
  ·try simp only [sx] at c2
   refine qM<|Y O<|G O<|G O<|zA<|zJ<|zT O ?_
   exact congrArg vI (by rw [hd3,kJ zC];rfl)
theorem expr_depth (n:Nat) (e:Ex) (l:Int) (hn:n<=100) (he:e.wt<=6000000000000) (hl:l=n+1):Pur cfg 253 [vE e,vI l] (vI (lL n e)):=by
  induction n generalizing e l with
  |zero=>exact zJq 0 (fun h=>absurd rfl h) hn e l he hl
  |succ n ih=>exact zJq (n+1) (fun _ a l h1 h2=>ih a l zC h1 zC) hn e l he hl
theorem zIa (n:Nat) (ih:n≠0->∀(a:Ex) (l:Int),a.wt<=6000000000000->l=n->Pur cfg 270 [vE a,vI l] (vI (lL (n-1) a))) (hn:n<=100) (e:Ex) (l:Int) (he:e.wt<=6000000000000) (hl:l=n+1):
    Pur cfg 270 [vE e,vI l] (vI (lL n e)):=by
 refine zV Tryz.func270 O Tryz.ntmps270 Tryz.results270 O ?_
 intro z hz
 obtain ⟨hL,hI,hA⟩:=e.parts he
 refine Y O<|zY O O (qL O O) ?_
 rintro _ _ ⟨b1,rfl,rfl⟩
 refine G O<|zA<|Y O<|G O<|zA<|zH<|Y O<|G O<|zA<|zR<|zU ⟨[(6,.c _),(5,.c _),(1,.c _),(2,.c _)],[_]⟩ (Weak.mk [true] ⟨zB,zB,zB,zB,T⟩ O)<|qF 2 0 O O (Nat×Int) (fun ⟨k,d⟩=>[(6,vI k),(5,vI d)]) (fun ⟨k,d⟩=>[]) (fun ⟨k,d⟩=>k<=e.Args.length/\(1<=d)/\(d<=n+1)/\(n≠0->lL n e=tA (lL (n-1)) d (e.Args.drop k))/\(n=0->d=1)) (fun ⟨k,d⟩=>e.Args.length-k) ⟨⟨0,1⟩,⟨zC,zC,zC,fun h0=>dep_start h0,fun _=>O⟩,Weak.mk [true] ⟨zB,VLe.of_eq (O),zB,zB,T⟩ O⟩ ?_
 rintro ⟨k,d⟩ ⟨hk,hd1,hd2,hd3,hd4⟩
 show AWP _ _ _ _ _ ⟨[(6,vI k),(5,vI d)]++_,[]++_⟩
 refine zH<|Y O<|G O<|zD O wP<|zG zBy (J 0 O) O<|qB O el60<|yA O<|G O<|rL0 O (fun g3_5=>zP O O) O<|rL1 13 O (fun g3_5=>yF O O O) O<|kB O (fun h=>h)<|zA<|zE O (fun c1=>?_) (fun c1=>?_)
 ·try simp only [sx] at c1
  obtain ⟨a,ha⟩:=qV e.Args k zC
  have hda:=depT_le (n-1) a
  refine zI<|zH<|zR<|zO O<|G O<|zD O wP<|zG zBy (J 0 O) O<|G O<|qE O el60 zC (zGh uD)<|zM yU qD O<|G O<|zW O (yM O O O ⟨zC,zC⟩)<|qJ O ok270 (ih zC a _ (by have:=Ex.arg_wt (qC ha);omega) zC) ⟨zB,O,zB,O,T⟩<|qH O ⟨zC,zC⟩<|zW O (zPe O O O)<|G O<|zA<|zO O<|G O<|qH O ⟨zC,zC⟩<|G O<|zA ?_
  refine ⟨⟨k+1,max d (1+lL (n-1) a)⟩,⟨zC,zC,zC,fun h0=>by rw [hd3 h0,qO ha,tA],fun h0=>by omega⟩,(by show e.Args.length-(k+1)<e.Args.length-k;omega),Weak.mk [true] ⟨zB,zB,zB,zB,T⟩ O⟩
 ·try simp only [sx] at c1
  refine qM<|Y O<|G O<|G O<|zA<|zJ<|zT O ?_
  exact congrArg vI (dep_end hl zC hd3 hd4)
theorem ref14_depth (n:Nat) (e:Ex) (l:Int) (hn:n<=100) (he:e.wt<=6000000000000) (hl:l=n+1):Pur cfg 270 [vE e,vI l] (vI (lL n e)):=by
  induction n generalizing e l with
  |zero=>exact zIa 0 (fun h=>absurd rfl h) hn e l he hl
  |succ n ih=>exact zIa (n+1) (fun _ a l h1 h2=>ih a l zC h1 zC) hn e l he hl
theorem expr_Depth (e:Ex) (he:e.wt<=6000000000000):
    Pur cfg 218 [vE e] (vI (lL 40 e)):=by
 refine zV Tryz.func218 O Tryz.ntmps218 Tryz.results218 O ?_
 intro z hz
 refine Y O<|zY O O (qL O O) ?_
 rintro _ _ ⟨b1,rfl,rfl⟩
 refine G O<|zA<|Y O<|zM yU (J 0 O) O<|qJ O ok253 (expr_depth 40 e 41 zC he zC) ⟨zB,O,zB,O,T⟩<|G O<|zA<|zJ<|zT O ?_
 exact O
theorem ref14_Depth (e:Ex) (he:e.wt<=6000000000000):
    Pur cfg 239 [vE e] (vI (lL 40 e)):=by
 refine zV Tryz.func239 O Tryz.ntmps239 Tryz.results239 O ?_
 intro z hz
 refine Y O<|zY O O (qL O O) ?_
 rintro _ _ ⟨b1,rfl,rfl⟩
 refine G O<|zA<|Y O<|zM yU (J 0 O) O<|qJ O ok270 (ref14_depth 40 e 41 zC he zC) ⟨zB,O,zB,O,T⟩<|G O<|zA<|zJ<|zT O ?_
 exact O
theorem zSm (e:Ex) (ih:∀a,a∈e.Args->∀(m:Nat) (l:Int),a.wt<=6000000000000->m<=1000000->l=m->Pur cfg 271 [vE a,vI l] (vI (sW a m))) (m:Nat) (l:Int) (he:e.wt<=6000000000000) (hm:m<=1000000) (hl:l=m):
    Pur cfg 271 [vE e,vI l] (vI (sW e m)):=by
 refine zV Tryz.func271 O Tryz.ntmps271 Tryz.results271 O ?_
 intro z hz
 obtain ⟨hL,hI,hA⟩:=e.parts he
 refine Y O<|zY O O (qL O O) ?_
 rintro _ _ ⟨b1,rfl,rfl⟩
 refine G O<|zA<|Y O<|G O<|zA<|zH<|Y O<|G O<|zA<|zR<|zU ⟨[(6,.c _),(5,.c _),(1,.c _),(2,.c _)],[_]⟩ (Weak.mk [true] ⟨zB,zB,zB,zB,T⟩ O)<|qF 2 0 O O (Nat×Nat) (fun ⟨k,n⟩=>[(6,vI k),(5,vI n)]) (fun ⟨k,n⟩=>[]) (fun ⟨k,n⟩=>k<=e.Args.length/\(n<=m+1)/\(sW e m=sK (e.Args.drop k) m n)) (fun ⟨k,n⟩=>e.Args.length-k) ⟨⟨0,1⟩,⟨zC,zC,sizE_eq e m⟩,Weak.mk [true] ⟨zB,VLe.of_eq (O),zB,zB,T⟩ O⟩ ?_
 rintro ⟨k,n⟩ ⟨hk,hn1,hn2⟩
 show AWP _ _ _ _ _ ⟨[(6,vI k),(5,vI n)]++_,[]++_⟩
 refine zH<|Y O<|G O<|zD O wP<|zG zBy (J 0 O) O<|qB O el60<|yA O<|G O<|rL0 O (fun g3_5=>zP O O) O<|rL0 O (fun g3_5=>zP O O) O<|rLz [(13,_),(14,_)] O gv1 ⟨O,O,O,O,T⟩ (fun g3_5=>wN O O O) O<|kB O (fun h=>h)<|zA<|zE O (fun c1=>?_) (fun c1=>?_)
 ·try simp only [sx] at c1
  obtain ⟨a,ha⟩:=qV e.Args k zC
  have hsa:=sizE_min a (m-n)
  refine zI<|zH<|zR<|zO O<|G O<|zD O wP<|zG zBy (J 0 O) O<|G O<|qE O el60 zC (zGh uD)<|zM yU qD O<|G O<|G O<|zW O (yM O O O ⟨zC,zC⟩)<|qJ O ok271 (ih a (qC ha) (m-n) _ (by have:=Ex.arg_wt (qC ha);omega) zC zC) ⟨zB,O,zB,O,T⟩<|qH O ⟨zC,zC⟩<|G O<|zA<|zO O<|G O<|qH O ⟨zC,zC⟩<|G O<|zA ?_
  refine ⟨⟨k+1,n+sW a (m-n)⟩,⟨zC,zC,by rw [hn2,qO ha,sK,if_pos zC]⟩,(by show e.Args.length-(k+1)<e.Args.length-k;omega),Weak.mk [true] ⟨zB,VLe.of_eq (congrArg vI zC),zB,zB,T⟩ O⟩
 ·try simp only [sx] at c1
  refine qM<|Y O<|G O<|G O<|zA<|zJ<|zT O ?_
  exact congrArg vI (by rw [hn2];exact congrArg Nat.cast (siz_end hl zC))
theorem ref14_size (e:Ex) (m:Nat) (l:Int) (he:e.wt<=6000000000000) (hm:m<=1000000) (hl:l=m):Pur cfg 271 [vE e,vI l] (vI (sW e m)):=by
  induction e using Ex.ind generalizing m l with
  |_ e ih=>exact zSm e (fun a ha m l h1 h2 h3=>ih a ha m l h1 h2 h3) m l he hm hl
theorem ref14_Size (e:Ex) (he:e.wt<=6000000000000):
    Pur cfg 240 [vE e] (vI (szT e)):=by
 refine zV Tryz.func240 O Tryz.ntmps240 Tryz.results240 O ?_
 intro z hz
 refine Y O<|zY O O (qL O O) ?_
 rintro _ _ ⟨b1,rfl,rfl⟩
 refine G O<|zA<|Y O<|zM yU (J 0 O) O<|qJ O ok271 (ref14_size e 2000 2000 he zC O) ⟨zB,O,zB,O,T⟩<|zW O (det_min O O O)<|G O<|zA<|zJ<|zT O ?_
 exact congrArg vI (by rw [sizE_min,szT];omega)
theorem ref14_Validate (e:Ex) (he:e.wt<=6000000000000):
    Pur cfg 197 [vE e] (vI (dQ e)):=by
 refine zV Tryz.func197 O Tryz.ntmps197 Tryz.results197 O ?_
 intro z hz
 refine Y O<|zY O O (qL O O) ?_
 rintro _ _ ⟨b1,rfl,rfl⟩
 refine G O<|zA<|zH<|Y O<|zM yU (J 0 O) O<|qJ O ok239 (ref14_Depth e he) ⟨zB,O,T⟩<|zW O (yF O O O)<|zA<|zE O (fun c1=>?_) (fun c1=>?_)
 ·try simp only [sx] at c1
  refine Y O<|G O<|zA<|zJ<|zT O ?_
  rw [dQ,zAk c1];rfl
 ·try simp only [sx] at c1
  refine zI<|zH<|Y O<|zM yU (J 0 O) O<|qJ O ok240 (ref14_Size e he) ⟨zB,O,T⟩<|zW O (yF O O O)<|zA<|zE O (fun c2=>?_) (fun c2=>?_)
  ·try simp only [sx] at c2
   refine Y O<|G O<|zA<|zJ<|zT O ?_
   rw [dQ,kF zC,zAk c2];rfl
  ·try simp only [sx] at c2
   refine zI<|Y O<|zM yU (J 0 O) O<|qJ O ok241 (ref14_part e he) ⟨zB,O,T⟩<|G O<|zA<|zJ<|zT O ?_
   rw [dQ,kF zC,kF zC];rfl
end Go.W
