/-
  What functions compute.
  Conditions: none.
-/
import Derived.Test.YtdldhbfgfkebjaaGreatDoorWB
set_option linter.unusedSimpArgs false
set_option linter.unusedVariables false
set_option maxRecDepth 10000
namespace Go.W
open Go Go.Eng Go.Proofs Go.L41 Go.Br
attribute [local irreducible] AWP RWP TD fT
theorem zAn:lK Tryz.prog 54=some 2:=by kernel_rfl
theorem yM:lK Tryz.prog 57=some 13:=by kernel_rfl
theorem el55:dW Tryz.prog 55=some (57,13,160):=by kernel_rfl
theorem zAq:dW Tryz.prog 151=some (54,2,32):=by kernel_rfl
theorem kQ:bD Tryz.prog 57 0=some (0,3):=by kernel_rfl
theorem zCu:bD Tryz.prog 57 1=some (1,9):=by kernel_rfl
theorem zHw:bD Tryz.prog 57 2=some (2,44):=by kernel_rfl
theorem zBp:bD Tryz.prog 57 3=some (4,31):=by kernel_rfl
theorem zEg:bD Tryz.prog 57 4=some (9,54):=by kernel_rfl
theorem kX:bD Tryz.prog 57 5=some (11,51):=by kernel_rfl
theorem yW:bD Tryz.prog 57 6=some (12,55):=by kernel_rfl
theorem zCg:bD Tryz.prog 153 0=some (0,54):=by kernel_rfl
theorem wN:bD Tryz.prog 153 1=some (2,9):=by kernel_rfl
theorem zAf:bD Tryz.prog 153 2=some (3,151):=by kernel_rfl
theorem fl44:pI Tryz.prog 44=some [.int,.int]:=by kernel_rfl
theorem ok96:bA Tryz.prog 96=true:=by kernel_rfl
theorem ok121:bA Tryz.prog 121=true:=by kernel_rfl
theorem ok159:bA Tryz.prog 159=true:=by kernel_rfl
theorem ok171:bA Tryz.prog 171=true:=by kernel_rfl
theorem ok203:bA Tryz.prog 203=true:=by kernel_rfl
theorem ok204:bA Tryz.prog 204=true:=by kernel_rfl
theorem ok205:bA Tryz.prog 205=true:=by kernel_rfl
theorem ok231:bA Tryz.prog 231=true:=by kernel_rfl
theorem ok232:bA Tryz.prog 232=true:=by kernel_rfl
theorem ok233:bA Tryz.prog 233=true:=by kernel_rfl
theorem ok234:bA Tryz.prog 234=true:=by kernel_rfl
theorem ok235:bA Tryz.prog 235=true:=by kernel_rfl
theorem ok236:bA Tryz.prog 236=true:=by kernel_rfl
theorem ok237:bA Tryz.prog 237=true:=by kernel_rfl
theorem ok240:bA Tryz.prog 240=true:=by kernel_rfl
theorem ok257:bA Tryz.prog 257=true:=by kernel_rfl
theorem ok258:bA Tryz.prog 258=true:=by kernel_rfl
theorem ok259:bA Tryz.prog 259=true:=by kernel_rfl
theorem ok260:bA Tryz.prog 260=true:=by kernel_rfl
theorem ok272:bA Tryz.prog 272=true:=by kernel_rfl
theorem ok273:bA Tryz.prog 273=true:=by kernel_rfl
theorem ok274:bA Tryz.prog 274=true:=by kernel_rfl
theorem ok275:bA Tryz.prog 275=true:=by kernel_rfl
theorem ok276:bA Tryz.prog 276=true:=by kernel_rfl
theorem ok277:bA Tryz.prog 277=true:=by kernel_rfl
theorem ok278:bA Tryz.prog 278=true:=by kernel_rfl
theorem ok279:bA Tryz.prog 279=true:=by kernel_rfl
theorem wM:jQ Tryz.prog 51=true:=by kernel_rfl
theorem kW:jQ Tryz.prog 55=true:=by kernel_rfl
theorem zBn:jQ Tryz.prog 151=true:=by kernel_rfl
theorem pl44:fB Tryz.prog 44=some [(0,1),(1,1)]:=by kernel_rfl
theorem sz57:(Tryz.prog.info? 57).map (·.size)=some 13:=by kernel_rfl
theorem zPw:(Tryz.prog.info? 153).map (·.size)=some 4:=by kernel_rfl
theorem un4:Tryz.prog.underlying 4=some .bool:=by kernel_rfl
theorem zr44:dK Tryz.prog 44=some [(Value.int IntKind.i64 0),(Value.int IntKind.i64 0)]:=by kernel_rfl
theorem zr57:dK Tryz.prog 57=some [(Value.int IntKind.i64 0),(Value.string (ByteArray.mk #[])),(Value.int IntKind.i64 0),(Value.int IntKind.i64 0),(Value.int IntKind.i64 0),(Value.int IntKind.i64 0),(Value.int IntKind.i64 0),(Value.int IntKind.i64 0),(Value.int IntKind.i64 0),(Value.int IntKind.i64 0),(Value.slice none 0 0),(Value.slice none 0 0),(Value.slice none 0 0)]:=by kernel_rfl
theorem zPv:dK Tryz.prog 153=some [(Value.int IntKind.i64 0),(Value.slice none 0 0),(Value.string (ByteArray.mk #[])),(Value.slice none 0 0)]:=by kernel_rfl
theorem expr_operands (op:Int):
    Pur cfg 277 [vI op] (vI (bI op)):=by
 refine zW Tryz.func277 O Tryz.ntmps277 Tryz.results277 O ?_
 exact n6
theorem wL (e:Ex):
    Pur cfg 171 [vE e] (vB (bC e)):=by
 refine zW Tryz.func171 O Tryz.ntmps171 Tryz.results171 O ?_
 intro z hz
 refine R O<|zT O O (qP O O) ?_
 rintro _ _ ⟨b1,rfl,rfl⟩
 refine G O<|zA<|R O<|zM O kQ<|zF one3 (A 0 O) O<|zZ O (wJ O O O)<|G O<|rL0 O (fun g1_3=>zG O kQ O) O<|B 7 O (fun g1_3=>zD O one3 O (A 0 O) O) O<|B 8 O (fun g1_3=>wJ O O O) O<|yU O (fun h=>h)<|G O<|zA<|zN<|zV O ?_
 exact O
theorem zOz (op:Int):
    Pur cfg 257 [vI op] (vI (bI op)):=by
 refine zW Tryz.func257 O Tryz.ntmps257 Tryz.results257 O ?_
 exact n6
theorem wC (e:Ex):
    Pur cfg 159 [vE e] (vB (bC e)):=by
 refine zW Tryz.func159 O Tryz.ntmps159 Tryz.results159 O ?_
 intro z hz
 refine R O<|zT O O (qP O O) ?_
 rintro _ _ ⟨b1,rfl,rfl⟩
 refine G O<|zA<|R O<|zM O kQ<|zF one3 (A 0 O) O<|zZ O (kU O O O)<|G O<|rL0 O (fun g1_3=>zG O kQ O) O<|B 7 O (fun g1_3=>zD O one3 O (A 0 O) O) O<|B 8 O (fun g1_3=>wJ O O O) O<|yU O (fun h=>h)<|G O<|zA<|zN<|zV O ?_
 exact O
theorem zIf (op i:Int):
    Pur cfg 279 [vI op,vI i] (vB (fG op i)):=by
 refine zW Tryz.func279 O Tryz.ntmps279 Tryz.results279 O ?_
 intro z hz
 refine R O<|G O<|zA<|zE<|R O<|G O<|zA<|zP<|zE<|R O<|yD O<|G O<|zA<|zC O (fun c1=>?_) (fun c1=>?_)
 ·try simp only [sx] at c1
  refine zI<|zC O (fun c3=>?_) (fun c3=>?_)
  ·try simp only [sx] at c3
   refine R O<|G O<|zA<|zN<|zV O ?_
   exact r7
  ·exact v10
 ·try simp only [sx] at c1
  refine R O<|yD O<|G O<|zA<|zC O (fun c2=>?_) (fun c2=>?_)
  ·try simp only [sx] at c2
   refine zI<|zC O (fun c3=>?_) (fun c3=>?_)
   ·try simp only [sx] at c3
    refine R O<|G O<|zA<|zN<|zV O ?_
    exact r7
   ·exact v10
  ·try simp only [sx] at c2
   refine zJ O<|yD O<|G O<|zA<|zC O (fun c3=>?_) (fun c3=>?_)
   ·try simp only [sx] at c3
    refine R O<|G O<|zA<|zN<|zV O ?_
    exact r7
   ·exact v10
theorem ref14_wants (op i:Int):
    Pur cfg 258 [vI op,vI i] (vB (fG op i)):=by
 refine zW Tryz.func258 O Tryz.ntmps258 Tryz.results258 O ?_
 intro z hz
 refine R O<|G O<|zA<|R O<|G O<|yD O<|G O<|rL0 O (fun g1_2=>zK O O) O<|B 8 O (fun g1_2=>kD O O O) O<|yU O (fun h=>h)<|G O<|rL0 O (fun g1_6=>zK O O) O<|B 12 O (fun g1_6=>kD O O O) O<|r_or O (fun h=>(lzf h))<|G O<|rL0 O (fun g1_10=>zK O O) O<|B 16 O (fun g1_10=>kD O O O) O<|r_or O (fun h=>(lzf h))<|G O<|rL0 O (fun g1_14=>zK O O) O<|B 20 O (fun g1_14=>kD O O O) O<|r_or O (fun h=>(lzf h))<|G O<|zA<|zN<|zV O ?_
 exact O
theorem zTr (l:Lf):
    Pur cfg 272 [jZ l] (vB (nP l)):=by
 refine zW Tryz.func272 O Tryz.ntmps272 Tryz.results272 O ?_
 intro z hz
 refine R O<|zT O O (qP O O) ?_
 rintro _ _ ⟨b1,rfl,rfl⟩
 refine G O<|zA<|R O<|zM O zGl<|zF one2 (A 0 O) O<|yD O<|G O<|rL0 O (fun g1_3=>zG O zAh O) O<|B 7 O (fun g1_3=>zD O zCs O (A 0 O) O) O<|B 8 O (fun g1_3=>yS O el52 O) O<|B 9 O (fun g1_3=>kD O O O) O<|yU O (fun h=>h)<|G O<|zA<|zN<|zV O ?_
 exact O
theorem zTq (x:Ix):
    Pur cfg 275 [gK x] (vB (jT x)):=by
 refine zW Tryz.func275 O Tryz.ntmps275 Tryz.results275 O ?_
 intro z hz
 refine R O<|zT O O (qP O O) ?_
 rintro _ _ ⟨b1,rfl,rfl⟩
 refine G O<|zA<|zE<|R O<|zM O wN<|zF one9 (A 0 O) O<|zZ O (kB O O O)<|zA<|zC O (fun c1=>?_) (fun c1=>?_)
 ·try simp only [sx] at c1
  refine R O<|zM O zAf<|zF zBn (A 0 O) O<|qC O zAq<|yD O<|G O<|zA<|zN<|zV O ?_
  rw [jT,zAm c1];rfl
 ·try simp only [sx] at c1
  refine zI<|R O<|zM O zCg<|zQ zAn (A 0 O) O<|qS O ok272 (zTr x.Lin) ⟨zB,O,T⟩<|G O<|zA<|zN<|zV O ?_
  rw [jT,kJ c1];rfl
theorem expr_syntax_1 (x:Ix):
    Pur cfg 274 [gK x] (vB (!jT x)):=by
 refine zW Tryz.func274 O Tryz.ntmps274 Tryz.results274 O ?_
 intro z hz
 refine R O<|zT O O (qP O O) ?_
 rintro _ _ ⟨b1,rfl,rfl⟩
 refine G O<|zA<|R O<|zQ zCw (A 0 O) O<|qS O ok275 (zTq x) ⟨zB,O,T⟩<|wD O<|G O<|zA<|zN<|zV O ?_
 exact O
theorem expr_names_1 (x:Ix):
    Pur cfg 276 [gK x] (vB (!rZ x)):=by
 refine zW Tryz.func276 O Tryz.ntmps276 Tryz.results276 O ?_
 intro z hz
 refine R O<|zT O O (qP O O) ?_
 rintro _ _ ⟨b1,rfl,rfl⟩
 refine G O<|zA<|R O<|zM O wN<|zF one9 (A 0 O) O<|zZ O (zAu O O O)<|G O<|rL0 O (fun g1_3=>zG O wN O) O<|B 7 O (fun g1_3=>zD O one9 O (A 0 O) O) O<|B 8 O (fun g1_3=>qR O ok96 (zDy _) ⟨zB,O,T⟩) O<|B 9 O (fun g1_3=>wG O O) O<|yU O (fun h=>h)<|G O<|zA<|zN<|zV O ?_
 exact congrArg vB (by unfold rZ;simp)
theorem expr_rank_1 (x:Ix):
    Pur cfg 278 [gK x] (vB (!rW x)):=by
 refine zW Tryz.func278 O Tryz.ntmps278 Tryz.results278 O ?_
 intro z hz
 refine R O<|zT O O (qP O O) ?_
 rintro _ _ ⟨b1,rfl,rfl⟩
 refine G O<|zA<|R O<|zM O zAf<|zF zBn (A 0 O) O<|qC O zAq<|zZ O (yH O O O)<|G O<|zA<|zN<|zV O ?_
 exact congrArg vB (by unfold rW;simp)
theorem expr_syntax (e:Ex) (he:e.wt<=6000000000000):
    Pur cfg 241 [vE e] (vB (gZ e)):=by
 refine zW Tryz.func241 O Tryz.ntmps241 Tryz.results241 O ?_
 intro z hz
 obtain ⟨hL,hI,hA⟩:=e.parts he
 refine R O<|zT O O (qP O O) ?_
 rintro _ _ ⟨b1,rfl,rfl⟩
 refine G O<|zA<|zE<|qV 13 mixed (by kernel_rfl) O O<|zL O O (zG O kQ O)<|zL O O (zD O one3 O (A 0 O) O)<|zL O O (kD O O O)<|zL O O (zG O kQ O)<|zL O O (zD O one3 O (A 0 O) O)<|zL O O (kD O O O)<|zL O O (zK O O)<|qJ [] O O O O gv1 T (fun g1_6=>zG O kQ O) O<|qJ [(14,_)] O O O O gv1 ⟨O,O,T⟩ (fun g1_6=>zD O one3 O (A 0 O) O) O<|qJ [(15,_)] O O O O gv1 ⟨O,O,T⟩ (fun g1_6=>kD O O O) O<|zL O O (zAl O O O O (fun h=>(lzf h)))<|zL O O (yR O O)<|zL O O (yR O O)<|yJ<|zA<|zE<|qV 8 mixed (by kernel_rfl) O O<|zL O O (zG O kQ O)<|zL O O (zD O one3 O (A 0 O) O)<|zL O O (kD O O O)<|zL O O (zG O kQ O)<|zL O O (zD O one3 O (A 0 O) O)<|zL O O (kD O O O)<|zL O O (yR O O)<|zL O O (yR O O)<|yJ<|zA<|zE<|zP<|R O<|zM O kQ<|zF one3 (A 0 O) O<|yC O<|G O<|rL0 O (fun g3_3=>zG O kQ O) O<|B 29 O (fun g3_3=>zD O one3 O (A 0 O) O) O<|B 30 O (fun g3_3=>yH O O O) O<|r_or O (fun h=>(lzf h))<|G O<|zA<|zC O (fun c1=>?_) (fun c1=>?_)
 ·refine R O<|G O<|zA<|zN<|zV O ?_
  exact congrArg vB (by simp only [gZ,c1,Bool.not_true,Bool.not_false,Bool.true_and,Bool.and_true,Bool.false_and,Bool.and_false])
 ·refine R O<|G O<|wD O<|G O<|rL0 O (fun g5_2=>zG O zHw O) O<|B 37 O (fun g5_2=>qD O agg44 O (A 0 O) O) O<|rL0 O (fun g5_2=>kY O zr44 pl44 O) O<|rLz [(38,_),(39,_)] O gv1 ⟨O,O,O,O,T⟩ (fun g5_2=>zAv O fl44 O O O) O<|yU O (fun h=>h)<|G O<|zA<|zC O (fun c2=>?_) (fun c2=>?_)
  ·have c2:(!decide (e.Op=1)&& !sU e.Val)=true:=c2
   refine R O<|G O<|zA<|zN<|zV O ?_
   exact congrArg vB (by simp only [gZ,c2,Bool.not_true,Bool.not_false,Bool.true_and,Bool.and_true,Bool.false_and,Bool.and_false])
  ·have c2:(!decide (e.Op=1)&& !sU e.Val)=false:=c2
   refine R O<|G O<|wD O<|G O<|rL0 O (fun g7_2=>zG O zBp O) O<|B 46 O (fun g7_2=>qD O yG O (A 0 O) O) O<|rL0 O (fun g7_2=>kY O zr31 pl31 O) O<|rLz [(47,_),(48,_)] O gv1 ⟨O,O,O,O,T⟩ (fun g7_2=>zAv O fl31 O O O) O<|yU O (fun h=>h)<|G O<|zA<|zC O (fun c3=>?_) (fun c3=>?_)
   ·have c3:(!(decide (e.Op=1)||decide (e.Op=12))&& !ty0 e.Ty)=true:=c3
    refine R O<|G O<|zA<|zN<|zV O ?_
    exact congrArg vB (by simp only [gZ,c3,Bool.not_true,Bool.not_false,Bool.true_and,Bool.and_true,Bool.false_and,Bool.and_false])
   ·have c3:(!(decide (e.Op=1)||decide (e.Op=12))&& !ty0 e.Ty)=false:=c3
    refine R O<|G O<|wD O<|G O<|rL0 O (fun g9_2=>zG O zEg O) O<|B 55 O (fun g9_2=>qD O zAn O (A 0 O) O) O<|B 56 O (fun g9_2=>qR O ok272 (zTr e.Lin) ⟨zB,O,T⟩) O<|B 57 O (fun g9_2=>wG O O) O<|yU O (fun h=>h)<|G O<|zA<|zC O (fun c4=>?_) (fun c4=>?_)
    ·refine R O<|G O<|zA<|zN<|zV O ?_
     exact congrArg vB (by simp only [gZ,c4,Bool.not_true,Bool.not_false,Bool.true_and,Bool.and_true,Bool.false_and,Bool.and_false])
    ·refine R O<|G O<|wD O<|G O<|rL0 O (fun g11_2=>zG O zCu O) O<|B 64 O (fun g11_2=>zD O one9 O (A 0 O) O) O<|B 65 O (fun g11_2=>zAu O O O) O<|B 66 O (fun g11_2=>zK O O) O<|rLz [] O gv2 T (fun g11_6=>zG O kX O) O<|rLz [(68,_)] O gv2 ⟨O,O,T⟩ (fun g11_6=>zD O wM O (A 0 O) O) O<|rLz [(69,_)] O gv2 ⟨O,O,T⟩ (fun g11_6=>yS O el51 O) O<|rLz [(70,_)] O gv2 ⟨O,O,T⟩ (fun g11_6=>yH O O O) O<|B 67 O (fun g11_2=>zAl O O O O (fun h=>kM (by assumption) (lzf h))) O<|yU O (fun h=>h)<|G O<|zA<|zC O (fun c5=>?_) (fun c5=>?_)
     ·refine R O<|G O<|zA<|zN<|zV O ?_
      exact congrArg vB (by simp only [gZ,c5,Bool.not_true,Bool.not_false,Bool.true_and,Bool.and_true,Bool.false_and,Bool.and_false])
     ·refine zI<|R O<|zM O kX<|zF wM (A 0 O) O<|qS O ok273 (zBk e.Idx _ (fun x=> !jT x) hI (fun x _=>FnPur.of_pur (first:=[]) (cap:=[]) ok274 (expr_syntax_1 x))) ⟨zB,O,zB,O,T⟩<|wD O<|G O<|zA<|zN<|zV O ?_
      exact congrArg vB (by rw [zCi];simp only [gZ,c1,c2,c3,c4,c5,Bool.not_true,Bool.not_false,Bool.true_and,Bool.and_true,Bool.false_and,Bool.and_false])
theorem expr_names (e:Ex) (he:e.wt<=6000000000000):
    Pur cfg 242 [vE e] (vB (lW e)):=by
 refine zW Tryz.func242 O Tryz.ntmps242 Tryz.results242 O ?_
 intro z hz
 obtain ⟨hL,hI,hA⟩:=e.parts he
 refine R O<|zT O O (qP O O) ?_
 rintro _ _ ⟨b1,rfl,rfl⟩
 refine G O<|zA<|zE<|R O<|zM O kQ<|zF one3 (A 0 O) O<|yD O<|G O<|rL0 O (fun g1_3=>zG O zCu O) O<|B 7 O (fun g1_3=>zD O one9 O (A 0 O) O) O<|B 8 O (fun g1_3=>qR O ok96 (zDy _) ⟨zB,O,T⟩) O<|B 9 O (fun g1_3=>wG O O) O<|yU O (fun h=>h)<|zA<|zC O (fun c1=>?_) (fun c1=>?_)
 ·refine R O<|G O<|zA<|zN<|zV O ?_
  exact congrArg vB (by simp only [lW,c1,Bool.not_true,Bool.false_and])
 ·refine zI<|R O<|zM O kX<|zF wM (A 0 O) O<|qS O ok273 (zBk e.Idx _ (fun x=> !rZ x) hI (fun x _=>FnPur.of_pur (first:=[]) (cap:=[]) ok276 (expr_names_1 x))) ⟨zB,O,zB,O,T⟩<|wD O<|G O<|zA<|zN<|zV O ?_
  exact congrArg vB (by rw [zCi];simp only [lW,c1,Bool.not_false,Bool.true_and])
theorem expr_rank (e:Ex) (he:e.wt<=6000000000000):
    Pur cfg 243 [vE e] (vB (mN e)):=by
 refine zW Tryz.func243 O Tryz.ntmps243 Tryz.results243 O ?_
 intro z hz
 obtain ⟨hL,hI,hA⟩:=e.parts he
 refine R O<|zT O O (qP O O) ?_
 rintro _ _ ⟨b1,rfl,rfl⟩
 refine G O<|zA<|zE<|zE<|qV 13 mixed (by kernel_rfl) O O<|zL O O (zG O yW O)<|zL O O (zD O kW O (A 0 O) O)<|zL O O (yS O el55 O)<|zL O O (zG O kQ O)<|zL O O (zD O one3 O (A 0 O) O)<|zL O O (qR O ok277 (expr_operands _) ⟨zB,O,T⟩)<|zL O O (zAg O O O)<|zL O O (zK O O)<|qJ [] O O O O gv1 T (fun g1_7=>zG O kX O) O<|qJ [(11,_)] O O O O gv1 ⟨O,O,T⟩ (fun g1_7=>zD O wM O (A 0 O) O) O<|qJ [(12,_)] O O O O gv1 ⟨O,O,T⟩ (fun g1_7=>yS O el51 O) O<|qJ [(13,_)] O O O O gv1 ⟨O,O,T⟩ (fun g1_7=>yH O O O) O<|zL O O (zAl O O O O (fun h=>(lzf h)))<|yJ<|zA<|zC O (fun c1=>?_) (fun c1=>?_)
 ·refine R O<|G O<|zA<|zN<|zV O ?_
  exact congrArg vB (by simp only [mN,c1,Bool.not_true,Bool.false_and])
 ·refine zI<|R O<|zM O kX<|zF wM (A 0 O) O<|qS O ok273 (zBk e.Idx _ (fun x=> !rW x) hI (fun x _=>FnPur.of_pur (first:=[]) (cap:=[]) ok278 (expr_rank_1 x))) ⟨zB,O,zB,O,T⟩<|wD O<|G O<|zA<|zN<|zV O ?_
  exact congrArg vB (by rw [zCi];simp only [mN,c1,Bool.not_false,Bool.true_and])
theorem expr_types (e:Ex) (he:e.wt<=6000000000000):
    Pur cfg 244 [vE e] (vB (gU e)):=by
 refine zW Tryz.func244 O Tryz.ntmps244 Tryz.results244 O ?_
 intro z hz
 obtain ⟨hL,hI,hA⟩:=e.parts he
 refine R O<|zT O O (qP O O) ?_
 rintro _ _ ⟨b1,rfl,rfl⟩
 refine G O<|zA<|zE<|R O<|zM O kQ<|zF one3 (A 0 O) O<|yD O<|G O<|rL0 O (fun g1_3=>zG O kQ O) O<|B 9 O (fun g1_3=>zD O one3 O (A 0 O) O) O<|B 10 O (fun g1_3=>kD O O O) O<|r_or O (fun h=>(lzf h))<|G O<|rL0 O (fun g1_8=>zG O zBp O) O<|B 14 O (fun g1_8=>qD O yG O (A 0 O) O) O<|B 15 O (fun g1_8=>qR O ok39 (zDa _) ⟨zB,O,T⟩) O<|B 16 O (fun g1_8=>zAg O O O) O<|yU O (fun h=>h)<|zA<|zC O (fun c1=>?_) (fun c1=>?_)
 ·rw [tyErr_dec] at c1
  refine R O<|G O<|zA<|zN<|zV O ?_
  exact congrArg vB (by simp only [gU,c1,Bool.not_true,Bool.false_and])
 ·rw [tyErr_dec] at c1
  refine zI<|zE<|R O<|zM O yW<|zF kW (A 0 O) O<|qC O el55<|G O<|zA<|zP<|zU ⟨[(22,.c _),(1,.c _),(20,.c _),(21,.c _)],[_]⟩ (Weak.mk [true] ⟨zB,zB,zB,zB,T⟩ O)<|qF 1 0 O O (Nat) (fun k=>[(22,vI k)]) (fun k=>[]) (fun k=>k<=e.Args.length/\(fC e.Op 0 e.Args=fC e.Op k (e.Args.drop k))) (fun k=>e.Args.length-k) ⟨0,⟨by omega,O⟩,Weak.mk [true] ⟨zB,zB,zB,zB,T⟩ O⟩ ?_
  rintro k ⟨hk,hp⟩
  refine R O<|yC O<|zA<|zE<|zC O (fun c2=>?_) (fun c2=>?_)
  ·try simp only [sx] at c2
   obtain ⟨a,ha⟩:=qU e.Args k (by omega)
   refine zI<|zE<|zP<|R O<|G O<|zX O el55 (by omega) (wF (by assumption))<|zQ yM Y O<|zT O O (qQ [none,none,none,none,none,none,none,none,none,none,some 2,some 4,some 13] O zr57 O) ?_
   rintro _ _ ⟨b2,rfl,rfl⟩
   refine G O<|D 0 sz57 O<|zA<|zE<|qV 7 mixed (by kernel_rfl) O O<|zL O O (qD O yM O (A 0 O) O)<|zL O O (qR O ok171 (wL a) ⟨zB,O,T⟩)<|zL O O (zG O kQ O)<|zL O O (zD O one3 O (A 1 O) O)<|zL O O (zK O O)<|zL O O (qR O ok279 (zIf _ _) ⟨zB,O,zB,O,T⟩)<|zL O O (det_bneq O un4 O O)<|yJ<|zA<|zC O (fun c3=>?_) (fun c3=>?_)
   ·exact v36
   ·refine zI<|zJ O<|qB O ⟨by omega,by omega⟩<|G O<|zA ?_
    refine ⟨k+1,⟨by omega,(by rw [hp,yB ha,fC,show (bC a==fG e.Op k)=true by simpa using c3,Bool.true_and];rfl)⟩,(by omega),Weak.mk [false,true] ⟨zB,zB,zB,zB,T⟩ O⟩
  ·try simp only [sx] at c2
   refine qK<|R O<|G O<|zA<|zN<|zV O ?_
   exact congrArg vB (by simp only [gU,c1,Bool.not_false,Bool.true_and];rw [hp,wE (by omega)];rfl)
theorem ref14_typed (e:Ex) (he:e.wt<=6000000000000):
    Pur cfg 236 [vE e] (vB (gU e)):=by
 refine zW Tryz.func236 O Tryz.ntmps236 Tryz.results236 O ?_
 intro z hz
 obtain ⟨hL,hI,hA⟩:=e.parts he
 refine R O<|zT O O (qP O O) ?_
 rintro _ _ ⟨b1,rfl,rfl⟩
 refine G O<|zA<|zE<|R O<|zM O kQ<|zF one3 (A 0 O) O<|yD O<|G O<|rL0 O (fun g1_3=>zG O kQ O) O<|B 8 O (fun g1_3=>zD O one3 O (A 0 O) O) O<|B 9 O (fun g1_3=>kD O O O) O<|r_or O (fun h=>(lzf h))<|G O<|rL0 O (fun g1_8=>zG O zBp O) O<|B 13 O (fun g1_8=>qD O yG O (A 0 O) O) O<|B 14 O (fun g1_8=>qR O ok121 (base_Type _) ⟨zB,O,T⟩) O<|B 15 O (fun g1_8=>wG O O) O<|yU O (fun h=>h)<|zA<|zC O (fun c1=>?_) (fun c1=>?_)
 ·refine R O<|G O<|zA<|zN<|zV O ?_
  exact congrArg vB (by simp only [gU,c1,Bool.not_true,Bool.false_and])
 ·refine zI<|zE<|R O<|G O<|zA<|zP<|zU ⟨[(3,.c _),(1,.c _)],[_]⟩ (Weak.mk [true] ⟨zB,zB,T⟩ O)<|qF 1 0 O O (Nat) (fun k=>[(3,vI k)]) (fun k=>[]) (fun k=>k<=e.Args.length/\(fC e.Op 0 e.Args=fC e.Op k (e.Args.drop k))) (fun k=>e.Args.length-k) ⟨0,⟨by omega,O⟩,Weak.mk [true] ⟨zB,zB,T⟩ O⟩ ?_
  rintro k ⟨hk,hp⟩
  refine zE<|R O<|G O<|zM O yW<|zF kW (A 0 O) O<|qC O el55<|yC O<|zA<|zC O (fun c2=>?_) (fun c2=>?_)
  ·try simp only [sx] at c2
   obtain ⟨a,ha⟩:=qU e.Args k (by omega)
   refine zI<|zE<|zP<|zE<|qV 11 mixed (by kernel_rfl) O O<|zL O O (zG O yW O)<|zL O O (zD O kW O (A 0 O) O)<|zL O O (zK O O)<|zL O O (qI O el55 O O (by omega) (wF (by assumption)))<|zL O O (qD O yM O Y O)<|zL O O (qR O ok159 (wC a) ⟨zB,O,T⟩)<|zL O O (zG O kQ O)<|zL O O (zD O one3 O (A 0 O) O)<|zL O O (zK O O)<|zL O O (qR O ok258 (ref14_wants _ _) ⟨zB,O,zB,O,T⟩)<|zL O O (det_bneq O un4 O O)<|yJ<|zA<|zC O (fun c3=>?_) (fun c3=>?_)
   ·exact v36
   ·refine zI<|zJ O<|G O<|qB O ⟨by omega,by omega⟩<|G O<|zA ?_
    refine ⟨k+1,⟨by omega,(by rw [hp,yB ha,fC,show (bC a==fG e.Op k)=true by simpa using c3,Bool.true_and];rfl)⟩,(by omega),Weak.mk [true] ⟨zB,zB,T⟩ O⟩
  ·try simp only [sx] at c2
   refine qK<|R O<|G O<|zA<|zN<|zV O ?_
   exact congrArg vB (by simp only [gU,c1,Bool.not_false,Bool.true_and];rw [hp,wE (by omega)];rfl)
theorem ref14_plain (e:Ex) (he:e.wt<=6000000000000):
    Pur cfg 233 [vE e] (vB (gZ e)):=by
 refine zW Tryz.func233 O Tryz.ntmps233 Tryz.results233 O ?_
 intro z hz
 obtain ⟨hL,hI,hA⟩:=e.parts he
 refine R O<|zT O O (qP O O) ?_
 rintro _ _ ⟨b1,rfl,rfl⟩
 refine G O<|zA<|zE<|R O<|zM O kQ<|zF one3 (A 0 O) O<|yC O<|G O<|rL0 O (fun g1_3=>zG O kQ O) O<|B 9 O (fun g1_3=>zD O one3 O (A 0 O) O) O<|B 10 O (fun g1_3=>yH O O O) O<|r_or O (fun h=>(lzf h))<|zA<|zC O (fun c1=>?_) (fun c1=>?_)
 ·refine R O<|G O<|zA<|zN<|zV O ?_
  exact congrArg vB (by simp only [gZ,c1,Bool.not_true,Bool.false_and])
 ·refine zI<|zE<|R O<|zM O kQ<|zF one3 (A 0 O) O<|kZ O<|G O<|rL0 O (fun g3_3=>zG O zHw O) O<|B 17 O (fun g3_3=>qD O agg44 O (A 0 O) O) O<|rL0 O (fun g3_3=>kY O zr44 pl44 O) O<|rLz [(18,_),(19,_)] O gv1 ⟨O,O,O,O,T⟩ (fun g3_3=>zAv O fl44 O O O) O<|yU O (fun h=>h)<|G O<|rL0 O (fun g3_9=>zG O kQ O) O<|B 23 O (fun g3_9=>zD O one3 O (A 0 O) O) O<|B 24 O (fun g3_9=>zAg O O O) O<|B 25 O (fun g3_9=>zK O O) O<|rLz [] O gv2 T (fun g3_13=>zG O kQ O) O<|rLz [(27,_)] O gv2 ⟨O,O,T⟩ (fun g3_13=>zD O one3 O (A 0 O) O) O<|rLz [(28,_)] O gv2 ⟨O,O,T⟩ (fun g3_13=>zAg O O O) O<|B 26 O (fun g3_9=>wU O O O (fun h=>kM (by assumption) h) O) O<|B 30 O (fun g3_9=>zK O O) O<|rLz [] O gv2 T (fun g3_18=>zG O zBp O) O<|rLz [(32,_)] O gv2 ⟨O,O,T⟩ (fun g3_18=>qD O yG O (A 0 O) O) O<|rLz [] O gv2 T (fun g3_18=>kY O zr31 pl31 O) O<|rLz [(33,_),(34,_)] O gv2 ⟨O,O,O,O,T⟩ (fun g3_18=>zAv O fl31 O O O) O<|B 31 O (fun g3_9=>wU O O O (fun h=>kM (by assumption) h) O) O<|r_or O (fun h=>(lzf h))<|zA<|zC O (fun c2=>?_) (fun c2=>?_)
  ·have h2:=plain2 (e:=e) c2
   refine R O<|G O<|zA<|zN<|zV O ?_
   exact congrArg vB (syn2 h2)
  ·have h2:=plain2 (e:=e) c2
   refine zI<|zE<|R O<|zM O kQ<|zF one3 (A 0 O) O<|kZ O<|G O<|rL0 O (fun g5_3=>zG O zEg O) O<|B 42 O (fun g5_3=>zG O zGl O) O<|B 43 O (fun g5_3=>zD O one2 O (A 0 O) O) O<|B 44 O (fun g5_3=>zAg O O O) O<|B 45 O (fun g5_3=>zK O O) O<|rLz [] O gv2 T (fun g5_8=>zG O zEg O) O<|rLz [(47,_)] O gv2 ⟨O,O,T⟩ (fun g5_8=>zG O zAh O) O<|rLz [(48,_)] O gv2 ⟨O,O,T⟩ (fun g5_8=>zD O zCs O (A 0 O) O) O<|rLz [(49,_)] O gv2 ⟨O,O,T⟩ (fun g5_8=>yS O el52 O) O<|rLz [(50,_)] O gv2 ⟨O,O,T⟩ (fun g5_8=>yH O O O) O<|B 46 O (fun g5_3=>zAl O O O O (fun h=>kM (by assumption) (lzf h))) O<|yU O (fun h=>h)<|G O<|rL0 O (fun g5_16=>zG O kQ O) O<|B 55 O (fun g5_16=>zD O one3 O (A 0 O) O) O<|B 56 O (fun g5_16=>zAg O O O) O<|B 57 O (fun g5_16=>zK O O) O<|rLz [] O gv2 T (fun g5_20=>zG O zCu O) O<|rLz [(59,_)] O gv2 ⟨O,O,T⟩ (fun g5_20=>zD O one9 O (A 0 O) O) O<|rLz [(60,_)] O gv2 ⟨O,O,T⟩ (fun g5_20=>zAu O O O) O<|rLz [(61,_)] O gv2 ⟨O,O,T⟩ (fun g5_20=>zK O O) O<|rLz [] O gv2 T (fun g5_24=>zG O kX O) O<|rLz [(63,_)] O gv2 ⟨O,O,T⟩ (fun g5_24=>zD O wM O (A 0 O) O) O<|rLz [(64,_)] O gv2 ⟨O,O,T⟩ (fun g5_24=>yS O el51 O) O<|rLz [(65,_)] O gv2 ⟨O,O,T⟩ (fun g5_24=>yH O O O) O<|rLz [(62,_)] O gv2 ⟨O,O,T⟩ (fun g5_20=>zAl O O O O (fun h=>kM (by assumption) (lzf h))) O<|B 58 O (fun g5_16=>wU O O O (fun h=>kM (by assumption) h) O) O<|r_or O (fun h=>(lzf h))<|zA<|zC O (fun c3=>?_) (fun c3=>?_)
   ·have h3:=plain3 (e:=e) c3
    refine R O<|G O<|zA<|zN<|zV O ?_
    exact congrArg vB (syn3 h3)
   ·have h3:=plain3 (e:=e) c3
    refine zI<|zE<|R O<|G O<|zA<|zP<|zU ⟨[(3,.c _),(1,.c _)],[_]⟩ (Weak.mk [true] ⟨zB,zB,T⟩ O)<|qF 1 0 O O (Nat) (fun k=>[(3,vI k)]) (fun k=>[]) (fun k=>k<=e.Idx.length/\(e.Idx.all jT=(e.Idx.drop k).all jT)) (fun k=>e.Idx.length-k) ⟨0,⟨by omega,O⟩,Weak.mk [true] ⟨zB,zB,T⟩ O⟩ ?_
    rintro k ⟨hk,hp⟩
    refine zE<|R O<|G O<|zM O kX<|zF wM (A 0 O) O<|qC O el51<|yC O<|zA<|zC O (fun c4=>?_) (fun c4=>?_)
    ·try simp only [sx] at c4
     obtain ⟨x,hx⟩:=qU e.Idx k (by omega)
     refine zI<|zE<|zP<|R O<|zM O kX<|zF wM (A 0 O) O<|G O<|zX O el51 (by omega) (N (by assumption))<|zQ zCw Y O<|zT O O (qQ [none,some 2,none,some 2] O zPv O) ?_
     rintro _ _ ⟨b2,rfl,rfl⟩
     refine D 0 zPw O<|zA<|R O<|zM O wN<|zF one9 (A 0 O) O<|zZ O (kB O O O)<|G O<|rL0 O (fun g11_3=>zG O zAf O) O<|B 86 O (fun g11_3=>zD O zBn O (A 0 O) O) O<|B 87 O (fun g11_3=>yS O zAq O) O<|B 88 O (fun g11_3=>yH O O O) O<|yU O (fun h=>h)<|G O<|rL0 O (fun g11_9=>zG O wN O) O<|B 92 O (fun g11_9=>zD O one9 O (A 0 O) O) O<|B 93 O (fun g11_9=>zAu O O O) O<|B 94 O (fun g11_9=>zK O O) O<|rLz [] O gv2 T (fun g11_13=>zG O zCg O) O<|rLz [(96,_)] O gv2 ⟨O,O,T⟩ (fun g11_13=>zG O zGl O) O<|rLz [(97,_)] O gv2 ⟨O,O,T⟩ (fun g11_13=>zD O one2 O (A 0 O) O) O<|rLz [(98,_)] O gv2 ⟨O,O,T⟩ (fun g11_13=>zAg O O O) O<|rLz [(99,_)] O gv2 ⟨O,O,T⟩ (fun g11_13=>zK O O) O<|rLz [] O gv2 T (fun g11_18=>zG O zCg O) O<|rLz [(101,_)] O gv2 ⟨O,O,T⟩ (fun g11_18=>zG O zAh O) O<|rLz [(102,_)] O gv2 ⟨O,O,T⟩ (fun g11_18=>zD O zCs O (A 0 O) O) O<|rLz [(103,_)] O gv2 ⟨O,O,T⟩ (fun g11_18=>yS O el52 O) O<|rLz [(104,_)] O gv2 ⟨O,O,T⟩ (fun g11_18=>yH O O O) O<|rLz [(100,_)] O gv2 ⟨O,O,T⟩ (fun g11_13=>zAl O O O O (fun h=>kM (by assumption) (lzf h))) O<|B 95 O (fun g11_9=>wU O O O (fun h=>kM (by assumption) h) O) O<|r_or O (fun h=>(lzf h))<|zA<|zC O (fun c5=>?_) (fun c5=>?_)
     ·have h5:=well_dec (x:=x) c5
      refine R O<|G O<|zA<|zN<|zV O ?_
      exact congrArg vB (by rw [gZ,zPt hx (p:=jT) (by simpa using h5)];simp)
     ·have h5:=well_dec (x:=x) c5
      refine zI<|zJ O<|G O<|qB O ⟨by omega,by omega⟩<|G O<|zA ?_
      refine ⟨k+1,⟨by omega,zRi hx hp (by simpa using h5)⟩,(by omega),Weak.mk [false,true] ⟨zB,zB,T⟩ O⟩
    ·try simp only [sx] at c4
     refine qK<|R O<|G O<|zA<|zN<|zV O ?_
     exact congrArg vB (syn5 c1 h2 h3 (all_end hp (by omega)))
theorem ref14_named (e:Ex) (he:e.wt<=6000000000000):
    Pur cfg 234 [vE e] (vB (lW e)):=by
 refine zW Tryz.func234 O Tryz.ntmps234 Tryz.results234 O ?_
 intro z hz
 obtain ⟨hL,hI,hA⟩:=e.parts he
 refine R O<|zT O O (qP O O) ?_
 rintro _ _ ⟨b1,rfl,rfl⟩
 refine G O<|zA<|zE<|R O<|zM O kQ<|zF one3 (A 0 O) O<|yD O<|G O<|rL0 O (fun g1_3=>zG O zCu O) O<|B 8 O (fun g1_3=>zD O one9 O (A 0 O) O) O<|B 9 O (fun g1_3=>qR O ok120 (zGr _) ⟨zB,O,T⟩) O<|B 10 O (fun g1_3=>wG O O) O<|yU O (fun h=>h)<|zA<|zC O (fun c1=>?_) (fun c1=>?_)
 ·refine R O<|G O<|zA<|zN<|zV O ?_
  exact congrArg vB (by simp only [lW,c1,Bool.not_true,Bool.false_and])
 ·refine zI<|zE<|R O<|G O<|zA<|zP<|zU ⟨[(3,.c _),(1,.c _)],[_]⟩ (Weak.mk [true] ⟨zB,zB,T⟩ O)<|qF 1 0 O O (Nat) (fun k=>[(3,vI k)]) (fun k=>[]) (fun k=>k<=e.Idx.length/\(e.Idx.all rZ=(e.Idx.drop k).all rZ)) (fun k=>e.Idx.length-k) ⟨0,⟨by omega,O⟩,Weak.mk [true] ⟨zB,zB,T⟩ O⟩ ?_
  rintro k ⟨hk,hp⟩
  refine zE<|R O<|G O<|zM O kX<|zF wM (A 0 O) O<|qC O el51<|yC O<|zA<|zC O (fun c2=>?_) (fun c2=>?_)
  ·try simp only [sx] at c2
   obtain ⟨x,hx⟩:=qU e.Idx k (by omega)
   refine zI<|zE<|zP<|R O<|zM O kX<|zF wM (A 0 O) O<|G O<|zX O el51 (by omega) (N (by assumption))<|zS O wN<|zF one9 Y O<|zZ O (zAu O O O)<|G O<|rL0 O (fun g6_7=>zG O kX O) O<|B 28 O (fun g6_7=>zD O wM O (A 0 O) O) O<|rL0 O (fun g6_7=>zK O O) O<|rLz [(29,_),(30,_)] O gv1 ⟨O,O,O,O,T⟩ (fun g6_7=>qI O el51 O O (by omega) (N (by assumption))) O<|B 31 O (fun g6_7=>qA O wN O) O<|B 32 O (fun g6_7=>zD O one9 O Y O) O<|B 33 O (fun g6_7=>qR O ok120 (zGr _) ⟨zB,O,T⟩) O<|B 34 O (fun g6_7=>wG O O) O<|yU O (fun h=>h)<|zA<|zC O (fun c3=>?_) (fun c3=>?_)
   ·refine R O<|G O<|zA<|zN<|zV O ?_
    exact congrArg vB (by rw [lW,zPt hx (p:=rZ) (by unfold rZ;rw [c3];rfl)];simp)
   ·refine zI<|zJ O<|G O<|qB O ⟨by omega,by omega⟩<|G O<|zA ?_
    refine ⟨k+1,⟨by omega,zRi hx hp (by unfold rZ;rw [c3];rfl)⟩,(by omega),Weak.mk [true] ⟨zB,zB,T⟩ O⟩
  ·try simp only [sx] at c2
   refine qK<|R O<|G O<|zA<|zN<|zV O ?_
   exact congrArg vB (by rw [lW,c1,all_end hp (by omega)];rfl)
theorem ref14_ranked (e:Ex) (he:e.wt<=6000000000000):
    Pur cfg 235 [vE e] (vB (mN e)):=by
 refine zW Tryz.func235 O Tryz.ntmps235 Tryz.results235 O ?_
 intro z hz
 obtain ⟨hL,hI,hA⟩:=e.parts he
 refine R O<|zT O O (qP O O) ?_
 rintro _ _ ⟨b1,rfl,rfl⟩
 refine G O<|zA<|zE<|zE<|qV 13 mixed (by kernel_rfl) O O<|zL O O (zG O yW O)<|zL O O (zD O kW O (A 0 O) O)<|zL O O (yS O el55 O)<|zL O O (zG O kQ O)<|zL O O (zD O one3 O (A 0 O) O)<|zL O O (qR O ok257 (zOz _) ⟨zB,O,T⟩)<|zL O O (zAg O O O)<|zL O O (zK O O)<|qJ [] O O O O gv1 T (fun g1_7=>zG O kX O) O<|qJ [(12,_)] O O O O gv1 ⟨O,O,T⟩ (fun g1_7=>zD O wM O (A 0 O) O) O<|qJ [(13,_)] O O O O gv1 ⟨O,O,T⟩ (fun g1_7=>yS O el51 O) O<|qJ [(14,_)] O O O O gv1 ⟨O,O,T⟩ (fun g1_7=>yH O O O) O<|zL O O (zAl O O O O (fun h=>(lzf h)))<|yJ<|zA<|zC O (fun c1=>?_) (fun c1=>?_)
 ·refine R O<|G O<|zA<|zN<|zV O ?_
  exact congrArg vB (by simp only [mN,c1,Bool.not_true,Bool.false_and])
 ·refine zI<|zE<|R O<|G O<|zA<|zP<|zU ⟨[(3,.c _),(1,.c _)],[_]⟩ (Weak.mk [true] ⟨zB,zB,T⟩ O)<|qF 1 0 O O (Nat) (fun k=>[(3,vI k)]) (fun k=>[]) (fun k=>k<=e.Idx.length/\(e.Idx.all rW=(e.Idx.drop k).all rW)) (fun k=>e.Idx.length-k) ⟨0,⟨by omega,O⟩,Weak.mk [true] ⟨zB,zB,T⟩ O⟩ ?_
  rintro k ⟨hk,hp⟩
  refine zE<|R O<|G O<|zM O kX<|zF wM (A 0 O) O<|qC O el51<|yC O<|zA<|zC O (fun c2=>?_) (fun c2=>?_)
  ·try simp only [sx] at c2
   obtain ⟨x,hx⟩:=qU e.Idx k (by omega)
   refine zI<|zE<|zP<|R O<|zM O kX<|zF wM (A 0 O) O<|G O<|zX O el51 (by omega) (N (by assumption))<|zS O zAf<|zF zBn Y O<|qC O zAq<|zZ O (yH O O O)<|zA<|zC O (fun c3=>?_) (fun c3=>?_)
   ·refine R O<|G O<|zA<|zN<|zV O ?_
    exact congrArg vB (by rw [mN,zPt hx (p:=rW) (by unfold rW;rw [c3];rfl)];simp)
   ·refine zI<|zJ O<|G O<|qB O ⟨by omega,by omega⟩<|G O<|zA ?_
    refine ⟨k+1,⟨by omega,zRi hx hp (by unfold rW;rw [c3];rfl)⟩,(by omega),Weak.mk [true] ⟨zB,zB,T⟩ O⟩
  ·try simp only [sx] at c2
   refine qK<|R O<|G O<|zA<|zN<|zV O ?_
   exact congrArg vB (by rw [mN,c1,all_end hp (by omega)];rfl)
theorem ref14_formed (e:Ex) (he:e.wt<=6000000000000) (hty:e.Op=1->gV e.Ty=true):
    Pur cfg 237 [vE e] (vB (jL e)):=by
 refine zW Tryz.func237 O Tryz.ntmps237 Tryz.results237 O ?_
 intro z hz
 obtain ⟨hL,hI,hA⟩:=e.parts he
 refine R O<|zT O O (qP O O) ?_
 rintro _ _ ⟨b1,rfl,rfl⟩
 refine G O<|zA<|zE<|R O<|zM O kQ<|zF one3 (A 0 O) O<|yD O<|G O<|rL0 O (fun g1_3=>zG O zBp O) O<|B 9 O (fun g1_3=>qD O yG O (A 0 O) O) O<|rL0 O (fun g1_3=>zG O zHw O) O<|B 11 O (fun g1_3=>qD O agg44 O (A 0 O) O) O<|rLz [(10,_),(12,_)] O gv1 ⟨O,O,O,O,T⟩ (fun g1_3=>qR O ok259 (base_Val e.Ty e.Val (hty (by simp only [Lz,cond_true,cond_false,Bool.and_eq_true,Bool.or_eq_true,Bool.not_eq_true',Bool.not_eq_false',Bool.or_eq_false_iff,Bool.and_eq_false_iff,decide_eq_true_eq,decide_eq_false_iff_not,Bool.not_eq_true,Bool.not_eq_false] at g1_3;exact g1_3))) ⟨zB,O,zB,O,T⟩) O<|B 13 O (fun g1_3=>wG O O) O<|yU O (fun h=>h)<|G O<|rL0 O (fun g1_11=>zG O zEg O) O<|B 17 O (fun g1_11=>qD O zAn O (A 0 O) O) O<|B 18 O (fun g1_11=>qR O ok260 (zHp e.Lin hL) ⟨zB,O,T⟩) O<|B 19 O (fun g1_11=>wG O O) O<|r_or O (fun h=>(lzf h))<|zA<|zC O (fun c1=>?_) (fun c1=>?_)
 ·refine R O<|G O<|zA<|zN<|zV O ?_
  exact congrArg vB (form_no c1)
 ·refine zI<|zE<|R O<|G O<|zA<|zP<|zU ⟨[(3,.c _),(1,.c _)],[_]⟩ (Weak.mk [true] ⟨zB,zB,T⟩ O)<|qF 1 0 O O (Nat) (fun k=>[(3,vI k)]) (fun k=>[]) (fun k=>k<=e.Idx.length/\((gW e).all fW=((e.Idx.drop k).flatMap fun x=>x.Lin::x.At).all fW)) (fun k=>e.Idx.length-k) ⟨0,⟨by omega,form_start c1⟩,Weak.mk [true] ⟨zB,zB,T⟩ O⟩ ?_
  rintro k ⟨hk,hp⟩
  refine zE<|R O<|G O<|zM O kX<|zF wM (A 0 O) O<|qC O el51<|yC O<|zA<|zC O (fun c2=>?_) (fun c2=>?_)
  ·try simp only [sx] at c2
   obtain ⟨x,hx⟩:=qU e.Idx k (by omega)
   have hxw:=Ex.idx_wt (qE hx)
   refine zI<|zE<|zP<|zE<|R O<|zM O kX<|zF wM (A 0 O) O<|G O<|zX O el51 (by omega) (N (by assumption))<|zS O zCg<|zQ zAn Y O<|qS O ok260 (zHp x.Lin (by omega)) ⟨zB,O,T⟩<|wD O<|zA<|zC O (fun c3=>?_) (fun c3=>?_)
   ·try simp only [sx] at c3
    refine R O<|G O<|zA<|zN<|zV O ?_
    exact congrArg vB (form_no2 hp (by rw [yB hx,List.flatMap_cons,List.all_append,List.all_cons,c3];rfl))
   ·try simp only [sx] at c3
    refine zI<|R O<|G O<|zA<|zP<|zU ⟨[(4,.c _),(1,.c _),(3,.c _)],[_]⟩ (Weak.mk [true] ⟨zB,zB,zB,T⟩ O)<|qF 1 0 O O (Nat) (fun j=>[(4,vI j)]) (fun j=>[]) (fun j=>j<=x.At.length/\(x.At.all fW=(x.At.drop j).all fW)) (fun j=>x.At.length-j) ⟨0,⟨by omega,O⟩,Weak.mk [true] ⟨zB,zB,zB,T⟩ O⟩ ?_
    rintro j ⟨hj,hq⟩
    refine zE<|R O<|G O<|zM O kX<|zF wM (A 0 O) O<|G O<|zX O el51 (by omega) (N (by assumption))<|zS O zAf<|zF zBn Y O<|qC O zAq<|yC O<|zA<|zC O (fun c4=>?_) (fun c4=>?_)
    ·try simp only [sx] at c4
     obtain ⟨l,hl⟩:=qU x.At j (by omega)
     have hlw:=zBg (qE hl)
     refine zI<|zE<|zP<|R O<|zM O kX<|zF wM (A 0 O) O<|G O<|zX O el51 (by omega) (N (by assumption))<|zS O zAf<|zF zBn Y O<|G O<|zX O zAq (by omega) (N (by assumption))<|zQ zAn Y O<|qS O ok260 (zHp l (by omega)) ⟨zB,O,T⟩<|wD O<|zA<|zC O (fun c5=>?_) (fun c5=>?_)
     ·try simp only [sx] at c5
      refine R O<|G O<|zA<|zN<|zV O ?_
      exact congrArg vB (form_no2 hp (by rw [yB hx,List.flatMap_cons,List.all_append,List.all_cons,zPt hl (p:=fW) c5];simp))
     ·try simp only [sx] at c5
      refine zI<|zJ O<|G O<|qB O ⟨by omega,by omega⟩<|G O<|zA ?_
      refine ⟨j+1,⟨by omega,zRi hl hq c5⟩,(by omega),Weak.mk [true] ⟨zB,zB,zB,T⟩ O⟩
    ·try simp only [sx] at c4
     refine qK<|zJ O<|G O<|qB O ⟨by omega,by omega⟩<|G O<|zA ?_
     refine ⟨k+1,⟨by omega,(by rw [hp,yB hx,List.flatMap_cons,List.all_append,List.all_cons,c3,all_end hq (by omega)];rfl)⟩,(by omega),Weak.mk [true] ⟨zB,zB,T⟩ O⟩
  ·try simp only [sx] at c2
   refine qK<|R O<|G O<|zA<|zN<|zV O ?_
   exact congrArg vB (form_yes c1 (by rw [hp,wE (by omega)];rfl))
theorem zSk (e:Ex) (ih:∀a,a∈e.Args->a.wt<=6000000000000->Pur cfg 205 [vE a] (vI (fM a))) (he:e.wt<=6000000000000):
    Pur cfg 205 [vE e] (vI (fM e)):=by
 refine zW Tryz.func205 O Tryz.ntmps205 Tryz.results205 O ?_
 intro z hz
 obtain ⟨hL,hI,hA⟩:=e.parts he
 refine R O<|zT O O (qP O O) ?_
 rintro _ _ ⟨b1,rfl,rfl⟩
 refine G O<|zA<|zE<|zP<|R O<|zQ yM (A 0 O) O<|qS O ok233 (ref14_plain e he) ⟨zB,O,T⟩<|wD O<|G O<|zA<|zC O (fun c1=>?_) (fun c1=>?_)
 ·try simp only [sx] at c1
  refine R O<|G O<|zA<|zN<|zV O ?_
  exact congrArg vI (by rw [zFj,show bS e=5 by simp only [bS,c1];rfl];rfl)
 ·try simp only [sx] at c1
  refine R O<|zQ yM (A 0 O) O<|qS O ok234 (ref14_named e he) ⟨zB,O,T⟩<|wD O<|G O<|zA<|zC O (fun c2=>?_) (fun c2=>?_)
  ·try simp only [sx] at c2
   refine R O<|G O<|zA<|zN<|zV O ?_
   exact congrArg vI (by rw [zFj,show bS e=7 by simp only [bS,c1,c2];rfl];rfl)
  ·try simp only [sx] at c2
   refine R O<|zQ yM (A 0 O) O<|qS O ok235 (ref14_ranked e he) ⟨zB,O,T⟩<|wD O<|G O<|zA<|zC O (fun c3=>?_) (fun c3=>?_)
   ·try simp only [sx] at c3
    refine R O<|G O<|zA<|zN<|zV O ?_
    exact congrArg vI (by rw [zFj,show bS e=11 by simp only [bS,c1,c2,c3];rfl];rfl)
   ·try simp only [sx] at c3
    refine R O<|zQ yM (A 0 O) O<|qS O ok236 (ref14_typed e he) ⟨zB,O,T⟩<|wD O<|G O<|zA<|zC O (fun c4=>?_) (fun c4=>?_)
    ·try simp only [sx] at c4
     refine R O<|G O<|zA<|zN<|zV O ?_
     exact congrArg vI (by rw [zFj,show bS e=10 by simp only [bS,c1,c2,c3,c4];rfl];rfl)
    ·try simp only [sx] at c4
     refine R O<|zQ yM (A 0 O) O<|qS O ok237 (ref14_formed e he (types_ty c4)) ⟨zB,O,T⟩<|wD O<|G O<|zA<|zC O (fun c5=>?_) (fun c5=>?_)
     ·try simp only [sx] at c5
      refine R O<|G O<|zA<|zN<|zV O ?_
      exact congrArg vI (by rw [zFj,show bS e=1 by simp only [bS,c1,c2,c3,c4,c5];rfl];rfl)
     ·try simp only [sx] at c5
      have hn:bS e=0:=by simp only [bS,c1,c2,c3,c4,c5];rfl
      refine zI<|zE<|R O<|G O<|zA<|zP<|zU ⟨[(3,.c _),(1,.c _)],[_]⟩ (Weak.mk [true] ⟨zB,zB,T⟩ O)<|qF 1 0 O O (Nat) (fun k=>[(3,vI k)]) (fun k=>[]) (fun k=>k<=e.Args.length/\(pY e.Args=pY (e.Args.drop k))) (fun k=>e.Args.length-k) ⟨0,⟨by omega,O⟩,Weak.mk [true] ⟨zB,zB,T⟩ O⟩ ?_
      rintro k ⟨hk,hp⟩
      refine zE<|R O<|G O<|zM O yW<|zF kW (A 0 O) O<|qC O el55<|yC O<|zA<|zC O (fun c6=>?_) (fun c6=>?_)
      ·try simp only [sx] at c6
       obtain ⟨a,ha⟩:=qU e.Args k (by omega)
       refine zI<|zE<|zP<|R O<|zM O yW<|zF kW (A 0 O) O<|G O<|zX O el55 (by omega) (wF (by assumption))<|zQ yM Y O<|qS O ok205 (ih a (qE ha) (by have:=Ex.arg_wt (qE ha);omega)) ⟨zB,O,T⟩<|G O<|zA<|R O<|G O<|kZ O<|zA<|zC O (fun c7=>?_) (fun c7=>?_)
       ·try simp only [sx] at c7
        refine R O<|G O<|G O<|zA<|zN<|zV O ?_
        exact congrArg vI (by rw [zFj e,hn,zAm rfl,cond_true,hp,yB ha,zOe,kJ c7];rfl)
       ·try simp only [sx] at c7
        refine zI<|zJ O<|G O<|qB O ⟨by omega,by omega⟩<|G O<|zA ?_
        refine ⟨k+1,⟨by omega,(by rw [hp,yB ha,zOe,zAm c7];rfl)⟩,(by omega),Weak.mk [true] ⟨zB,zB,T⟩ O⟩
      ·try simp only [sx] at c6
       refine qK<|R O<|G O<|zA<|zN<|zV O ?_
       exact congrArg vI (by rw [zFj,hn,zAm rfl,cond_true,hp,wE (by omega)];rfl)
theorem ref14_part (e:Ex) (he:e.wt<=6000000000000):Pur cfg 205 [vE e] (vI (fM e)):=by
  induction e using Ex.ind with
  |_ e ih=>exact zSk e ih he
theorem zJd (n:Nat) (ih:n≠0->∀(a:Ex) (l:Int),a.wt<=6000000000000->l=n->Pur cfg 240 [vE a,vI l] (vI (jN (n-1) a))) (hn:n<=100) (e:Ex) (l:Int) (he:e.wt<=6000000000000) (hl:l=n+1):
    Pur cfg 240 [vE e,vI l] (vI (jN n e)):=by
 refine zW Tryz.func240 O Tryz.ntmps240 Tryz.results240 O ?_
 intro z hz
 obtain ⟨hL,hI,hA⟩:=e.parts he
 refine R O<|zT O O (qP O O) ?_
 rintro _ _ ⟨b1,rfl,rfl⟩
 refine G O<|zA<|zE<|R O<|G O<|zZ O (wJ O O O)<|zA<|zC O (fun c1=>?_) (fun c1=>?_)
 ·try simp only [sx] at c1
  obtain rfl:n=0:=by omega
  refine R O<|G O<|G O<|zA<|zN<|zV O ?_
  exact congrArg vI (by rw [hl];rfl)
 ·try simp only [sx] at c1
  obtain ⟨m,rfl⟩:∃m,n=m+1:=⟨n-1,by omega⟩
  refine zI<|R O<|G O<|zA<|zE<|R O<|zM O yW<|zF kW (A 0 O) O<|qC O el55<|G O<|zA<|zP<|zU ⟨[(14,.c _),(5,.c _),(1,.c _),(12,.c _),(13,.c _)],[]⟩ (Weak.mk [false] ⟨zB,zB,zB,zB,zB,T⟩ O)<|qF 2 0 O O (Nat×Int) (fun ⟨k,d⟩=>[(14,vI k),(5,vI d)]) (fun ⟨k,d⟩=>[]) (fun ⟨k,d⟩=>k<=e.Args.length/\(1<=d)/\(d<=m+2)/\(jN (m+1) e=rJ (jN m) d (e.Args.drop k))) (fun ⟨k,d⟩=>e.Args.length-k) ⟨⟨0,1⟩,⟨by omega,by omega,by omega,O⟩,Weak.mk [] ⟨zB,VLe.of_eq (O),zB,zB,zB,T⟩ O⟩ ?_
  rintro ⟨k,d⟩ ⟨hk,hd1,hd2,hd3⟩
  show AWP _ _ _ _ _ ⟨[(14,vI k),(5,vI d)]++_,[]++_⟩
  refine R O<|yC O<|zA<|zE<|zC O (fun c2=>?_) (fun c2=>?_)
  ·try simp only [sx] at c2
   obtain ⟨a,ha⟩:=qU e.Args k (by omega)
   have hda:=depT_le m a
   refine zI<|zE<|zP<|R O<|zX O el55 (by omega) (wF (by assumption))<|zQ yM Y O<|zT O O (qQ [none,none,none,none,none,none,none,none,none,none,some 2,some 4,some 13] O zr57 O) ?_
   rintro _ _ ⟨b2,rfl,rfl⟩
   refine D 0 sz57 O<|zA<|zJ O<|G O<|zQ yM (A 0 O) O<|G O<|yX O ⟨by omega,by omega⟩<|qS O ok240 (show Pur cfg 240 [vE a,vI (l-1)] (vI (jN m a)) from ih (by omega) a _ (by have:=Ex.arg_wt (qE ha);omega) (by omega)) ⟨zB,O,zB,O,T⟩<|qB O ⟨by omega,by omega⟩<|zZ O (zEv O O O)<|G O<|zA<|zJ O<|qB O ⟨by omega,by omega⟩<|G O<|zA ?_
   refine ⟨⟨k+1,max d (1+jN m a)⟩,⟨by omega,by omega,by omega,by rw [hd3,yB ha,rJ]⟩,(by show e.Args.length-(k+1)<e.Args.length-k;omega),Weak.mk [false] ⟨zB,zB,zB,zB,zB,T⟩ O⟩
  ·try simp only [sx] at c2
   refine qK<|R O<|G O<|G O<|zA<|zN<|zV O ?_
   exact congrArg vI (by rw [hd3,wE (by omega)];rfl)
theorem expr_depth (n:Nat) (e:Ex) (l:Int) (hn:n<=100) (he:e.wt<=6000000000000) (hl:l=n+1):Pur cfg 240 [vE e,vI l] (vI (jN n e)):=by
  induction n generalizing e l with
  |zero=>exact zJd 0 (fun h=>absurd rfl h) hn e l he hl
  |succ n ih=>exact zJd (n+1) (fun _ a l h1 h2=>ih a l (by omega) h1 (by omega)) hn e l he hl
theorem zHt (n:Nat) (ih:n≠0->∀(a:Ex) (l:Int),a.wt<=6000000000000->l=n->Pur cfg 231 [vE a,vI l] (vI (jN (n-1) a))) (hn:n<=100) (e:Ex) (l:Int) (he:e.wt<=6000000000000) (hl:l=n+1):
    Pur cfg 231 [vE e,vI l] (vI (jN n e)):=by
 refine zW Tryz.func231 O Tryz.ntmps231 Tryz.results231 O ?_
 intro z hz
 obtain ⟨hL,hI,hA⟩:=e.parts he
 refine R O<|zT O O (qP O O) ?_
 rintro _ _ ⟨b1,rfl,rfl⟩
 refine G O<|zA<|R O<|G O<|zA<|zE<|R O<|G O<|zA<|zP<|zU ⟨[(6,.c _),(5,.c _),(1,.c _),(2,.c _)],[_]⟩ (Weak.mk [true] ⟨zB,zB,zB,zB,T⟩ O)<|qF 2 0 O O (Nat×Int) (fun ⟨k,d⟩=>[(6,vI k),(5,vI d)]) (fun ⟨k,d⟩=>[]) (fun ⟨k,d⟩=>k<=e.Args.length/\(1<=d)/\(d<=n+1)/\(n≠0->jN n e=rJ (jN (n-1)) d (e.Args.drop k))/\(n=0->d=1)) (fun ⟨k,d⟩=>e.Args.length-k) ⟨⟨0,1⟩,⟨by omega,by omega,by omega,fun h0=>dep_start h0,fun _=>O⟩,Weak.mk [true] ⟨zB,VLe.of_eq (O),zB,zB,T⟩ O⟩ ?_
 rintro ⟨k,d⟩ ⟨hk,hd1,hd2,hd3,hd4⟩
 show AWP _ _ _ _ _ ⟨[(6,vI k),(5,vI d)]++_,[]++_⟩
 refine zE<|R O<|G O<|zM O yW<|zF kW (A 0 O) O<|qC O el55<|yC O<|G O<|rL0 O (fun g3_5=>zK O O) O<|B 13 O (fun g3_5=>yH O O O) O<|yU O (fun h=>h)<|zA<|zC O (fun c1=>?_) (fun c1=>?_)
 ·try simp only [sx] at c1
  obtain ⟨a,ha⟩:=qU e.Args k (by omega)
  have hda:=depT_le (n-1) a
  refine zI<|zE<|zP<|zJ O<|G O<|zM O yW<|zF kW (A 0 O) O<|G O<|zX O el55 (by omega) (wF (by assumption))<|zQ yM Y O<|G O<|yX O ⟨by omega,by omega⟩<|qS O ok231 (ih (by omega) a _ (by have:=Ex.arg_wt (qE ha);omega) (by omega)) ⟨zB,O,zB,O,T⟩<|qB O ⟨by omega,by omega⟩<|zZ O (zEv O O O)<|G O<|zA<|zJ O<|G O<|qB O ⟨by omega,by omega⟩<|G O<|zA ?_
  refine ⟨⟨k+1,max d (1+jN (n-1) a)⟩,⟨by omega,by omega,by omega,fun h0=>by rw [hd3 h0,yB ha,rJ],fun h0=>by omega⟩,(by show e.Args.length-(k+1)<e.Args.length-k;omega),Weak.mk [true] ⟨zB,zB,zB,zB,T⟩ O⟩
 ·try simp only [sx] at c1
  refine qK<|R O<|G O<|G O<|zA<|zN<|zV O ?_
  exact congrArg vI (dep_end hl (by omega) hd3 hd4)
theorem ref14_depth (n:Nat) (e:Ex) (l:Int) (hn:n<=100) (he:e.wt<=6000000000000) (hl:l=n+1):Pur cfg 231 [vE e,vI l] (vI (jN n e)):=by
  induction n generalizing e l with
  |zero=>exact zHt 0 (fun h=>absurd rfl h) hn e l he hl
  |succ n ih=>exact zHt (n+1) (fun _ a l h1 h2=>ih a l (by omega) h1 (by omega)) hn e l he hl
theorem expr_Depth (e:Ex) (he:e.wt<=6000000000000):
    Pur cfg 211 [vE e] (vI (jN 40 e)):=by
 refine zW Tryz.func211 O Tryz.ntmps211 Tryz.results211 O ?_
 intro z hz
 refine R O<|zT O O (qP O O) ?_
 rintro _ _ ⟨b1,rfl,rfl⟩
 refine G O<|zA<|R O<|zQ yM (A 0 O) O<|qS O ok240 (expr_depth 40 e 41 (by omega) he (by omega)) ⟨zB,O,zB,O,T⟩<|G O<|zA<|zN<|zV O ?_
 exact O
theorem ref14_Depth (e:Ex) (he:e.wt<=6000000000000):
    Pur cfg 203 [vE e] (vI (jN 40 e)):=by
 refine zW Tryz.func203 O Tryz.ntmps203 Tryz.results203 O ?_
 intro z hz
 refine R O<|zT O O (qP O O) ?_
 rintro _ _ ⟨b1,rfl,rfl⟩
 refine G O<|zA<|R O<|zQ yM (A 0 O) O<|qS O ok231 (ref14_depth 40 e 41 (by omega) he (by omega)) ⟨zB,O,zB,O,T⟩<|G O<|zA<|zN<|zV O ?_
 exact O
theorem zSj (e:Ex) (ih:∀a,a∈e.Args->∀(m:Nat) (l:Int),a.wt<=6000000000000->m<=1000000->l=m->Pur cfg 232 [vE a,vI l] (vI (rF a m))) (m:Nat) (l:Int) (he:e.wt<=6000000000000) (hm:m<=1000000) (hl:l=m):
    Pur cfg 232 [vE e,vI l] (vI (rF e m)):=by
 refine zW Tryz.func232 O Tryz.ntmps232 Tryz.results232 O ?_
 intro z hz
 obtain ⟨hL,hI,hA⟩:=e.parts he
 refine R O<|zT O O (qP O O) ?_
 rintro _ _ ⟨b1,rfl,rfl⟩
 refine G O<|zA<|R O<|G O<|zA<|zE<|R O<|G O<|zA<|zP<|zU ⟨[(6,.c _),(5,.c _),(1,.c _),(2,.c _)],[_]⟩ (Weak.mk [true] ⟨zB,zB,zB,zB,T⟩ O)<|qF 2 0 O O (Nat×Nat) (fun ⟨k,n⟩=>[(6,vI k),(5,vI n)]) (fun ⟨k,n⟩=>[]) (fun ⟨k,n⟩=>k<=e.Args.length/\(n<=m+1)/\(rF e m=pW (e.Args.drop k) m n)) (fun ⟨k,n⟩=>e.Args.length-k) ⟨⟨0,1⟩,⟨by omega,by omega,sizE_eq e m⟩,Weak.mk [true] ⟨zB,VLe.of_eq (O),zB,zB,T⟩ O⟩ ?_
 rintro ⟨k,n⟩ ⟨hk,hn1,hn2⟩
 show AWP _ _ _ _ _ ⟨[(6,vI k),(5,vI n)]++_,[]++_⟩
 refine zE<|R O<|G O<|zM O yW<|zF kW (A 0 O) O<|qC O el55<|yC O<|G O<|rL0 O (fun g3_5=>zK O O) O<|rL0 O (fun g3_5=>zK O O) O<|rLz [(13,_),(14,_)] O gv1 ⟨O,O,O,O,T⟩ (fun g3_5=>wJ O O O) O<|yU O (fun h=>h)<|zA<|zC O (fun c1=>?_) (fun c1=>?_)
 ·try simp only [sx] at c1
  obtain ⟨a,ha⟩:=qU e.Args k (by omega)
  have hsa:=sizE_min a (m-n)
  refine zI<|zE<|zP<|zJ O<|G O<|zM O yW<|zF kW (A 0 O) O<|G O<|zX O el55 (by omega) (wF (by assumption))<|zQ yM Y O<|G O<|G O<|yX O ⟨by omega,by omega⟩<|qS O ok232 (ih a (qE ha) (m-n) _ (by have:=Ex.arg_wt (qE ha);omega) (by omega) (by omega)) ⟨zB,O,zB,O,T⟩<|qB O ⟨by omega,by omega⟩<|G O<|zA<|zJ O<|G O<|qB O ⟨by omega,by omega⟩<|G O<|zA ?_
  refine ⟨⟨k+1,n+rF a (m-n)⟩,⟨by omega,by omega,by rw [hn2,yB ha,pW,if_pos (by omega)]⟩,(by show e.Args.length-(k+1)<e.Args.length-k;omega),Weak.mk [true] ⟨zB,VLe.of_eq (congrArg vI (by omega)),zB,zB,T⟩ O⟩
 ·try simp only [sx] at c1
  refine qK<|R O<|G O<|G O<|zA<|zN<|zV O ?_
  exact congrArg vI (by rw [hn2];exact congrArg Nat.cast (siz_end hl (by omega)))
theorem ref14_size (e:Ex) (m:Nat) (l:Int) (he:e.wt<=6000000000000) (hm:m<=1000000) (hl:l=m):Pur cfg 232 [vE e,vI l] (vI (rF e m)):=by
  induction e using Ex.ind generalizing m l with
  |_ e ih=>exact zSj e (fun a ha m l h1 h2 h3=>ih a ha m l h1 h2 h3) m l he hm hl
theorem ref14_Size (e:Ex) (he:e.wt<=6000000000000):
    Pur cfg 204 [vE e] (vI (szT e)):=by
 refine zW Tryz.func204 O Tryz.ntmps204 Tryz.results204 O ?_
 intro z hz
 refine R O<|zT O O (qP O O) ?_
 rintro _ _ ⟨b1,rfl,rfl⟩
 refine G O<|zA<|R O<|zQ yM (A 0 O) O<|qS O ok232 (ref14_size e 2000 2000 he (by omega) O) ⟨zB,O,zB,O,T⟩<|zZ O (det_min O O O)<|G O<|zA<|zN<|zV O ?_
 exact congrArg vI (by rw [sizE_min,szT];omega)
theorem ref14_Validate (e:Ex) (he:e.wt<=6000000000000):
    Pur cfg 184 [vE e] (vI (fS e)):=by
 refine zW Tryz.func184 O Tryz.ntmps184 Tryz.results184 O ?_
 intro z hz
 refine R O<|zT O O (qP O O) ?_
 rintro _ _ ⟨b1,rfl,rfl⟩
 refine G O<|zA<|zE<|R O<|zQ yM (A 0 O) O<|qS O ok203 (ref14_Depth e he) ⟨zB,O,T⟩<|zZ O (yH O O O)<|zA<|zC O (fun c1=>?_) (fun c1=>?_)
 ·try simp only [sx] at c1
  refine R O<|G O<|zA<|zN<|zV O ?_
  rw [fS,zAm c1];rfl
 ·try simp only [sx] at c1
  refine zI<|zE<|R O<|zQ yM (A 0 O) O<|qS O ok204 (ref14_Size e he) ⟨zB,O,T⟩<|zZ O (yH O O O)<|zA<|zC O (fun c2=>?_) (fun c2=>?_)
  ·try simp only [sx] at c2
   refine R O<|G O<|zA<|zN<|zV O ?_
   rw [fS,kJ (by omega),zAm c2];rfl
  ·try simp only [sx] at c2
   refine zI<|R O<|zQ yM (A 0 O) O<|qS O ok205 (ref14_part e he) ⟨zB,O,T⟩<|G O<|zA<|zN<|zV O ?_
   rw [fS,kJ (by omega),kJ (by omega)];rfl
end Go.W
