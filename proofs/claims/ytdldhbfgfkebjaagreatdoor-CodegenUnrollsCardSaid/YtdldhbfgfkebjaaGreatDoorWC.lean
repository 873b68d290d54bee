/-
  What functions compute.
  Conditions: none.
-/
import Derived.Test.YtdldhbfgfkebjaaGreatDoorWB
set_option linter.unusedSimpArgs false
set_option linter.unusedVariables false
set_option maxRecDepth 10000
namespace Go.W
open Go Go.Eng Go.Proofs Go.L41 Go.Br
attribute [local irreducible] AWP RWP TD fP
theorem zAj:lK Tryz.prog 54=some 2:=by kernel_rfl
theorem yN:lK Tryz.prog 57=some 13:=by kernel_rfl
theorem el55:dZ Tryz.prog 55=some (57,13,160):=by kernel_rfl
theorem zAk:dZ Tryz.prog 151=some (54,2,32):=by kernel_rfl
theorem kR:bD Tryz.prog 57 0=some (0,3):=by kernel_rfl
theorem zCo:bD Tryz.prog 57 1=some (1,9):=by kernel_rfl
theorem zGp:bD Tryz.prog 57 2=some (2,44):=by kernel_rfl
theorem zBj:bD Tryz.prog 57 3=some (4,31):=by kernel_rfl
theorem zEd:bD Tryz.prog 57 4=some (9,54):=by kernel_rfl
theorem kQ:bD Tryz.prog 57 5=some (11,51):=by kernel_rfl
theorem yU:bD Tryz.prog 57 6=some (12,55):=by kernel_rfl
theorem zBx:bD Tryz.prog 153 0=some (0,54):=by kernel_rfl
theorem wN:bD Tryz.prog 153 1=some (2,9):=by kernel_rfl
theorem wU:bD Tryz.prog 153 2=some (3,151):=by kernel_rfl
theorem fl44:pJ Tryz.prog 44=some [.int,.int]:=by kernel_rfl
theorem ok96:bA Tryz.prog 96=true:=by kernel_rfl
theorem ok121:bA Tryz.prog 121=true:=by kernel_rfl
theorem ok159:bA Tryz.prog 159=true:=by kernel_rfl
theorem ok171:bA Tryz.prog 171=true:=by kernel_rfl
theorem ok203:bA Tryz.prog 203=true:=by kernel_rfl
theorem ok204:bA Tryz.prog 204=true:=by kernel_rfl
theorem ok205:bA Tryz.prog 205=true:=by kernel_rfl
theorem ok231:bA Tryz.prog 231=true:=by kernel_rfl
theorem ok232:bA Tryz.prog 232=true:=by kernel_rfl
theorem ok233:bA Tryz.prog 233=true:=by kernel_rfl
theorem ok234:bA Tryz.prog 234=true:=by kernel_rfl
theorem ok235:bA Tryz.prog 235=true:=by kernel_rfl
theorem ok236:bA Tryz.prog 236=true:=by kernel_rfl
theorem ok237:bA Tryz.prog 237=true:=by kernel_rfl
theorem ok240:bA Tryz.prog 240=true:=by kernel_rfl
theorem ok257:bA Tryz.prog 257=true:=by kernel_rfl
theorem ok258:bA Tryz.prog 258=true:=by kernel_rfl
theorem ok259:bA Tryz.prog 259=true:=by kernel_rfl
theorem ok260:bA Tryz.prog 260=true:=by kernel_rfl
theorem ok272:bA Tryz.prog 272=true:=by kernel_rfl
theorem ok273:bA Tryz.prog 273=true:=by kernel_rfl
theorem ok274:bA Tryz.prog 274=true:=by kernel_rfl
theorem ok275:bA Tryz.prog 275=true:=by kernel_rfl
theorem ok276:bA Tryz.prog 276=true:=by kernel_rfl
theorem ok277:bA Tryz.prog 277=true:=by kernel_rfl
theorem ok278:bA Tryz.prog 278=true:=by kernel_rfl
theorem ok279:bA Tryz.prog 279=true:=by kernel_rfl
theorem wI:jK Tryz.prog 51=true:=by kernel_rfl
theorem kW:jK Tryz.prog 55=true:=by kernel_rfl
theorem zAx:jK Tryz.prog 151=true:=by kernel_rfl
theorem pl44:dN Tryz.prog 44=some [(0,1),(1,1)]:=by kernel_rfl
theorem sz57:(Tryz.prog.info? 57).map (·.size)=some 13:=by kernel_rfl
theorem zOd:(Tryz.prog.info? 153).map (·.size)=some 4:=by kernel_rfl
theorem un4:Tryz.prog.underlying 4=some .bool:=by kernel_rfl
theorem zr44:dL Tryz.prog 44=some [(Value.int IntKind.i64 0),(Value.int IntKind.i64 0)]:=by kernel_rfl
theorem zr57:dL Tryz.prog 57=some [(Value.int IntKind.i64 0),(Value.string (ByteArray.mk #[])),(Value.int IntKind.i64 0),(Value.int IntKind.i64 0),(Value.int IntKind.i64 0),(Value.int IntKind.i64 0),(Value.int IntKind.i64 0),(Value.int IntKind.i64 0),(Value.int IntKind.i64 0),(Value.int IntKind.i64 0),(Value.slice none 0 0),(Value.slice none 0 0),(Value.slice none 0 0)]:=by kernel_rfl
theorem zKx:dL Tryz.prog 153=some [(Value.int IntKind.i64 0),(Value.slice none 0 0),(Value.string (ByteArray.mk #[])),(Value.slice none 0 0)]:=by kernel_rfl
theorem expr_operands (op:Int):
    Pur cfg 277 [vI op] (vI (bI op)):=by
 refine zW Tryz.func277 O Tryz.ntmps277 Tryz.results277 O ?_
 exact n6
theorem wO (e:Ex):
    Pur cfg 171 [vE e] (vB (bC e)):=by
 refine zW Tryz.func171 O Tryz.ntmps171 Tryz.results171 O ?_
 intro z hz
 refine R O<|zS O O (qP O O) ?_
 rintro _ _ ⟨b1,rfl,rfl⟩
 refine G O<|zA<|R O<|zJ O kR<|zE one3 (A 0 O) O<|zZ O (wL O O O)<|G O<|rL0 O (fun g1_3=>zH O kR O) O<|B 7 O (fun g1_3=>zC O one3 O (A 0 O) O) O<|B 8 O (fun g1_3=>wL O O O) O<|yW O (fun h=>h)<|G O<|zA<|zN<|zV O ?_
 exact O
theorem zPi (op:Int):
    Pur cfg 257 [vI op] (vI (bI op)):=by
 refine zW Tryz.func257 O Tryz.ntmps257 Tryz.results257 O ?_
 exact n6
theorem wD (e:Ex):
    Pur cfg 159 [vE e] (vB (bC e)):=by
 refine zW Tryz.func159 O Tryz.ntmps159 Tryz.results159 O ?_
 intro z hz
 refine R O<|zS O O (qP O O) ?_
 rintro _ _ ⟨b1,rfl,rfl⟩
 refine G O<|zA<|R O<|zJ O kR<|zE one3 (A 0 O) O<|zZ O (kY O O O)<|G O<|rL0 O (fun g1_3=>zH O kR O) O<|B 7 O (fun g1_3=>zC O one3 O (A 0 O) O) O<|B 8 O (fun g1_3=>wL O O O) O<|yW O (fun h=>h)<|G O<|zA<|zN<|zV O ?_
 exact O
theorem zIl (op i:Int):
    Pur cfg 279 [vI op,vI i] (vB (fG op i)):=by
 refine zW Tryz.func279 O Tryz.ntmps279 Tryz.results279 O ?_
 intro z hz
 refine R O<|G O<|zA<|zF<|R O<|G O<|zA<|zP<|zF<|R O<|yE O<|G O<|zA<|zD O (fun c1=>?_) (fun c1=>?_)
 ·try simp only [sx] at c1
  refine zI<|zD O (fun c3=>?_) (fun c3=>?_)
  ·try simp only [sx] at c3
   refine R O<|G O<|zA<|zN<|zV O ?_
   exact r7
  ·exact j9
 ·try simp only [sx] at c1
  refine R O<|yE O<|G O<|zA<|zD O (fun c2=>?_) (fun c2=>?_)
  ·try simp only [sx] at c2
   refine zI<|zD O (fun c3=>?_) (fun c3=>?_)
   ·try simp only [sx] at c3
    refine R O<|G O<|zA<|zN<|zV O ?_
    exact r7
   ·exact j9
  ·try simp only [sx] at c2
   refine zK O<|yE O<|G O<|zA<|zD O (fun c3=>?_) (fun c3=>?_)
   ·try simp only [sx] at c3
    refine R O<|G O<|zA<|zN<|zV O ?_
    exact r7
   ·exact j9
theorem ref14_wants (op i:Int):
    Pur cfg 258 [vI op,vI i] (vB (fG op i)):=by
 refine zW Tryz.func258 O Tryz.ntmps258 Tryz.results258 O ?_
 intro z hz
 refine R O<|G O<|zA<|R O<|G O<|yE O<|G O<|rL0 O (fun g1_2=>zM O O) O<|B 8 O (fun g1_2=>kH O O O) O<|yW O (fun h=>h)<|G O<|rL0 O (fun g1_6=>zM O O) O<|B 12 O (fun g1_6=>kH O O O) O<|r_or O (fun h=>(lzf h))<|G O<|rL0 O (fun g1_10=>zM O O) O<|B 16 O (fun g1_10=>kH O O O) O<|r_or O (fun h=>(lzf h))<|G O<|rL0 O (fun g1_14=>zM O O) O<|B 20 O (fun g1_14=>kH O O O) O<|r_or O (fun h=>(lzf h))<|G O<|zA<|zN<|zV O ?_
 exact O
theorem zTv (l:Lf):
    Pur cfg 272 [jU l] (vB (nP l)):=by
 refine zW Tryz.func272 O Tryz.ntmps272 Tryz.results272 O ?_
 intro z hz
 refine R O<|zS O O (qP O O) ?_
 rintro _ _ ⟨b1,rfl,rfl⟩
 refine G O<|zA<|R O<|zJ O zFp<|zE one2 (A 0 O) O<|yE O<|G O<|rL0 O (fun g1_3=>zH O zAg O) O<|B 7 O (fun g1_3=>zC O zCj O (A 0 O) O) O<|B 8 O (fun g1_3=>yV O el52 O) O<|B 9 O (fun g1_3=>kH O O O) O<|yW O (fun h=>h)<|G O<|zA<|zN<|zV O ?_
 exact O
theorem zTu (x:Ix):
    Pur cfg 275 [gK x] (vB (jT x)):=by
 refine zW Tryz.func275 O Tryz.ntmps275 Tryz.results275 O ?_
 intro z hz
 refine R O<|zS O O (qP O O) ?_
 rintro _ _ ⟨b1,rfl,rfl⟩
 refine G O<|zA<|zF<|R O<|zJ O wN<|zE one9 (A 0 O) O<|zZ O (kE O O O)<|zA<|zD O (fun c1=>?_) (fun c1=>?_)
 ·try simp only [sx] at c1
  refine R O<|zJ O wU<|zE zAx (A 0 O) O<|qD O zAk<|yE O<|G O<|zA<|zN<|zV O ?_
  rw [jT,zAr c1];rfl
 ·try simp only [sx] at c1
  refine zI<|R O<|zJ O zBx<|zQ zAj (A 0 O) O<|qS O ok272 (zTv x.Lin) ⟨zB,O,T⟩<|G O<|zA<|zN<|zV O ?_
  rw [jT,kL c1];rfl
theorem expr_syntax_1 (x:Ix):
    Pur cfg 274 [gK x] (vB (!jT x)):=by
 refine zW Tryz.func274 O Tryz.ntmps274 Tryz.results274 O ?_
 intro z hz
 refine R O<|zS O O (qP O O) ?_
 rintro _ _ ⟨b1,rfl,rfl⟩
 refine G O<|zA<|R O<|zQ zCr (A 0 O) O<|qS O ok275 (zTu x) ⟨zB,O,T⟩<|wE O<|G O<|zA<|zN<|zV O ?_
 exact O
theorem expr_names_1 (x:Ix):
    Pur cfg 276 [gK x] (vB (!sB x)):=by
 refine zW Tryz.func276 O Tryz.ntmps276 Tryz.results276 O ?_
 intro z hz
 refine R O<|zS O O (qP O O) ?_
 rintro _ _ ⟨b1,rfl,rfl⟩
 refine G O<|zA<|R O<|zJ O wN<|zE one9 (A 0 O) O<|zZ O (zAv O O O)<|G O<|rL0 O (fun g1_3=>zH O wN O) O<|B 7 O (fun g1_3=>zC O one9 O (A 0 O) O) O<|B 8 O (fun g1_3=>qR O ok96 (zEb _) ⟨zB,O,T⟩) O<|B 9 O (fun g1_3=>wJ O O) O<|yW O (fun h=>h)<|G O<|zA<|zN<|zV O ?_
 exact congrArg vB (by unfold sB;simp)
theorem expr_rank_1 (x:Ix):
    Pur cfg 278 [gK x] (vB (!rY x)):=by
 refine zW Tryz.func278 O Tryz.ntmps278 Tryz.results278 O ?_
 intro z hz
 refine R O<|zS O O (qP O O) ?_
 rintro _ _ ⟨b1,rfl,rfl⟩
 refine G O<|zA<|R O<|zJ O wU<|zE zAx (A 0 O) O<|qD O zAk<|zZ O (yH O O O)<|G O<|zA<|zN<|zV O ?_
 exact congrArg vB (by unfold rY;simp)
theorem expr_syntax (e:Ex) (he:e.wt<=6000000000000):
    Pur cfg 241 [vE e] (vB (gZ e)):=by
 refine zW Tryz.func241 O Tryz.ntmps241 Tryz.results241 O ?_
 intro z hz
 obtain ⟨hL,hI,hA⟩:=e.parts he
 refine R O<|zS O O (qP O O) ?_
 rintro _ _ ⟨b1,rfl,rfl⟩
 refine G O<|zA<|zF<|qW 13 mixed (by kernel_rfl) O O<|zL O O (zH O kR O)<|zL O O (zC O one3 O (A 0 O) O)<|zL O O (kH O O O)<|zL O O (zH O kR O)<|zL O O (zC O one3 O (A 0 O) O)<|zL O O (kH O O O)<|zL O O (zM O O)<|qJ [] O O O O gv1 T (fun g1_6=>zH O kR O) O<|qJ [(14,_)] O O O O gv1 ⟨O,O,T⟩ (fun g1_6=>zC O one3 O (A 0 O) O) O<|qJ [(15,_)] O O O O gv1 ⟨O,O,T⟩ (fun g1_6=>kH O O O) O<|zL O O (zAq O O O O (fun h=>(lzf h)))<|zL O O (yR O O)<|zL O O (yR O O)<|yM<|zA<|zF<|qW 8 mixed (by kernel_rfl) O O<|zL O O (zH O kR O)<|zL O O (zC O one3 O (A 0 O) O)<|zL O O (kH O O O)<|zL O O (zH O kR O)<|zL O O (zC O one3 O (A 0 O) O)<|zL O O (kH O O O)<|zL O O (yR O O)<|zL O O (yR O O)<|yM<|zA<|zF<|zP<|R O<|zJ O kR<|zE one3 (A 0 O) O<|yC O<|G O<|rL0 O (fun g3_3=>zH O kR O) O<|B 29 O (fun g3_3=>zC O one3 O (A 0 O) O) O<|B 30 O (fun g3_3=>yH O O O) O<|r_or O (fun h=>(lzf h))<|G O<|zA<|zD O (fun c1=>?_) (fun c1=>?_)
 ·refine R O<|G O<|zA<|zN<|zV O ?_
  exact congrArg vB (by simp only [gZ,c1,Bool.not_true,Bool.not_false,Bool.true_and,Bool.and_true,Bool.false_and,Bool.and_false])
 ·refine R O<|G O<|wE O<|G O<|rL0 O (fun g5_2=>zH O zGp O) O<|B 37 O (fun g5_2=>qC O zUo O (A 0 O) O) O<|rL0 O (fun g5_2=>kU O zr44 pl44 O) O<|rLz [(38,_),(39,_)] O gv1 ⟨O,O,O,O,T⟩ (fun g5_2=>zAw O fl44 O O O) O<|yW O (fun h=>h)<|G O<|zA<|zD O (fun c2=>?_) (fun c2=>?_)
  ·have c2:(!decide (e.Op=1)&& !sW e.Val)=true:=c2
   refine R O<|G O<|zA<|zN<|zV O ?_
   exact congrArg vB (by simp only [gZ,c2,Bool.not_true,Bool.not_false,Bool.true_and,Bool.and_true,Bool.false_and,Bool.and_false])
  ·have c2:(!decide (e.Op=1)&& !sW e.Val)=false:=c2
   refine R O<|G O<|wE O<|G O<|rL0 O (fun g7_2=>zH O zBj O) O<|B 46 O (fun g7_2=>qC O yG O (A 0 O) O) O<|rL0 O (fun g7_2=>kU O zr31 pl31 O) O<|rLz [(47,_),(48,_)] O gv1 ⟨O,O,O,O,T⟩ (fun g7_2=>zAw O fl31 O O O) O<|yW O (fun h=>h)<|G O<|zA<|zD O (fun c3=>?_) (fun c3=>?_)
   ·have c3:(!(decide (e.Op=1)||decide (e.Op=12))&& !ty0 e.Ty)=true:=c3
    refine R O<|G O<|zA<|zN<|zV O ?_
    exact congrArg vB (by simp only [gZ,c3,Bool.not_true,Bool.not_false,Bool.true_and,Bool.and_true,Bool.false_and,Bool.and_false])
   ·have c3:(!(decide (e.Op=1)||decide (e.Op=12))&& !ty0 e.Ty)=false:=c3
    refine R O<|G O<|wE O<|G O<|rL0 O (fun g9_2=>zH O zEd O) O<|B 55 O (fun g9_2=>qC O zAj O (A 0 O) O) O<|B 56 O (fun g9_2=>qR O ok272 (zTv e.Lin) ⟨zB,O,T⟩) O<|B 57 O (fun g9_2=>wJ O O) O<|yW O (fun h=>h)<|G O<|zA<|zD O (fun c4=>?_) (fun c4=>?_)
    ·refine R O<|G O<|zA<|zN<|zV O ?_
     exact congrArg vB (by simp only [gZ,c4,Bool.not_true,Bool.not_false,Bool.true_and,Bool.and_true,Bool.false_and,Bool.and_false])
    ·refine R O<|G O<|wE O<|G O<|rL0 O (fun g11_2=>zH O zCo O) O<|B 64 O (fun g11_2=>zC O one9 O (A 0 O) O) O<|B 65 O (fun g11_2=>zAv O O O) O<|B 66 O (fun g11_2=>zM O O) O<|rLz [] O N T (fun g11_6=>zH O kQ O) O<|rLz [(68,_)] O N ⟨O,O,T⟩ (fun g11_6=>zC O wI O (A 0 O) O) O<|rLz [(69,_)] O N ⟨O,O,T⟩ (fun g11_6=>yV O el51 O) O<|rLz [(70,_)] O N ⟨O,O,T⟩ (fun g11_6=>yH O O O) O<|B 67 O (fun g11_2=>zAq O O O O (fun h=>kO (by assumption) (lzf h))) O<|yW O (fun h=>h)<|G O<|zA<|zD O (fun c5=>?_) (fun c5=>?_)
     ·refine R O<|G O<|zA<|zN<|zV O ?_
      exact congrArg vB (by simp only [gZ,c5,Bool.not_true,Bool.not_false,Bool.true_and,Bool.and_true,Bool.false_and,Bool.and_false])
     ·refine zI<|R O<|zJ O kQ<|zE wI (A 0 O) O<|qS O ok273 (zBn e.Idx _ (fun x=> !jT x) hI (fun x _=>FnPur.of_pur (first:=[]) (cap:=[]) ok274 (expr_syntax_1 x))) ⟨zB,O,zB,O,T⟩<|wE O<|G O<|zA<|zN<|zV O ?_
      exact congrArg vB (by rw [zCl];simp only [gZ,c1,c2,c3,c4,c5,Bool.not_true,Bool.not_false,Bool.true_and,Bool.and_true,Bool.false_and,Bool.and_false])
theorem expr_names (e:Ex) (he:e.wt<=6000000000000):
    Pur cfg 242 [vE e] (vB (lW e)):=by
 refine zW Tryz.func242 O Tryz.ntmps242 Tryz.results242 O ?_
 intro z hz
 obtain ⟨hL,hI,hA⟩:=e.parts he
 refine R O<|zS O O (qP O O) ?_
 rintro _ _ ⟨b1,rfl,rfl⟩
 refine G O<|zA<|zF<|R O<|zJ O kR<|zE one3 (A 0 O) O<|yE O<|G O<|rL0 O (fun g1_3=>zH O zCo O) O<|B 7 O (fun g1_3=>zC O one9 O (A 0 O) O) O<|B 8 O (fun g1_3=>qR O ok96 (zEb _) ⟨zB,O,T⟩) O<|B 9 O (fun g1_3=>wJ O O) O<|yW O (fun h=>h)<|zA<|zD O (fun c1=>?_) (fun c1=>?_)
 ·refine R O<|G O<|zA<|zN<|zV O ?_
  exact congrArg vB (by simp only [lW,c1,Bool.not_true,Bool.false_and])
 ·refine zI<|R O<|zJ O kQ<|zE wI (A 0 O) O<|qS O ok273 (zBn e.Idx _ (fun x=> !sB x) hI (fun x _=>FnPur.of_pur (first:=[]) (cap:=[]) ok276 (expr_names_1 x))) ⟨zB,O,zB,O,T⟩<|wE O<|G O<|zA<|zN<|zV O ?_
  exact congrArg vB (by rw [zCl];simp only [lW,c1,Bool.not_false,Bool.true_and])
theorem expr_rank (e:Ex) (he:e.wt<=6000000000000):
    Pur cfg 243 [vE e] (vB (mN e)):=by
 refine zW Tryz.func243 O Tryz.ntmps243 Tryz.results243 O ?_
 intro z hz
 obtain ⟨hL,hI,hA⟩:=e.parts he
 refine R O<|zS O O (qP O O) ?_
 rintro _ _ ⟨b1,rfl,rfl⟩
 refine G O<|zA<|zF<|zF<|qW 13 mixed (by kernel_rfl) O O<|zL O O (zH O yU O)<|zL O O (zC O kW O (A 0 O) O)<|zL O O (yV O el55 O)<|zL O O (zH O kR O)<|zL O O (zC O one3 O (A 0 O) O)<|zL O O (qR O ok277 (expr_operands _) ⟨zB,O,T⟩)<|zL O O (zAi O O O)<|zL O O (zM O O)<|qJ [] O O O O gv1 T (fun g1_7=>zH O kQ O) O<|qJ [(11,_)] O O O O gv1 ⟨O,O,T⟩ (fun g1_7=>zC O wI O (A 0 O) O) O<|qJ [(12,_)] O O O O gv1 ⟨O,O,T⟩ (fun g1_7=>yV O el51 O) O<|qJ [(13,_)] O O O O gv1 ⟨O,O,T⟩ (fun g1_7=>yH O O O) O<|zL O O (zAq O O O O (fun h=>(lzf h)))<|yM<|zA<|zD O (fun c1=>?_) (fun c1=>?_)
 ·refine R O<|G O<|zA<|zN<|zV O ?_
  exact congrArg vB (by simp only [mN,c1,Bool.not_true,Bool.false_and])
 ·refine zI<|R O<|zJ O kQ<|zE wI (A 0 O) O<|qS O ok273 (zBn e.Idx _ (fun x=> !rY x) hI (fun x _=>FnPur.of_pur (first:=[]) (cap:=[]) ok278 (expr_rank_1 x))) ⟨zB,O,zB,O,T⟩<|wE O<|G O<|zA<|zN<|zV O ?_
  exact congrArg vB (by rw [zCl];simp only [mN,c1,Bool.not_false,Bool.true_and])
theorem expr_types (e:Ex) (he:e.wt<=6000000000000):
    Pur cfg 244 [vE e] (vB (gU e)):=by
 refine zW Tryz.func244 O Tryz.ntmps244 Tryz.results244 O ?_
 intro z hz
 obtain ⟨hL,hI,hA⟩:=e.parts he
 refine R O<|zS O O (qP O O) ?_
 rintro _ _ ⟨b1,rfl,rfl⟩
 refine G O<|zA<|zF<|R O<|zJ O kR<|zE one3 (A 0 O) O<|yE O<|G O<|rL0 O (fun g1_3=>zH O kR O) O<|B 9 O (fun g1_3=>zC O one3 O (A 0 O) O) O<|B 10 O (fun g1_3=>kH O O O) O<|r_or O (fun h=>(lzf h))<|G O<|rL0 O (fun g1_8=>zH O zBj O) O<|B 14 O (fun g1_8=>qC O yG O (A 0 O) O) O<|B 15 O (fun g1_8=>qR O ok39 (zDd _) ⟨zB,O,T⟩) O<|B 16 O (fun g1_8=>zAi O O O) O<|yW O (fun h=>h)<|zA<|zD O (fun c1=>?_) (fun c1=>?_)
 ·rw [tyErr_dec] at c1
  refine R O<|G O<|zA<|zN<|zV O ?_
  exact congrArg vB (by simp only [gU,c1,Bool.not_true,Bool.false_and])
 ·rw [tyErr_dec] at c1
  refine zI<|zF<|R O<|zJ O yU<|zE kW (A 0 O) O<|qD O el55<|G O<|zA<|zP<|zU ⟨[(22,.c _),(1,.c _),(20,.c _),(21,.c _)],[_]⟩ (Weak.mk [true] ⟨zB,zB,zB,zB,T⟩ O)<|qF 1 0 O O (Nat) (fun k=>[(22,vI k)]) (fun k=>[]) (fun k=>k<=e.Args.length/\(fC e.Op 0 e.Args=fC e.Op k (e.Args.drop k))) (fun k=>e.Args.length-k) ⟨0,⟨by omega,O⟩,Weak.mk [true] ⟨zB,zB,zB,zB,T⟩ O⟩ ?_
  rintro k ⟨hk,hp⟩
  refine R O<|yC O<|zA<|zF<|zD O (fun c2=>?_) (fun c2=>?_)
  ·try simp only [sx] at c2
   obtain ⟨a,ha⟩:=qU e.Args k (by omega)
   refine zI<|zF<|zP<|R O<|G O<|zY O el55 (by omega) (wF (by assumption))<|zQ yN zO O<|zS O O (qQ [none,none,none,none,none,none,none,none,none,none,some 2,some 4,some 13] O zr57 O) ?_
   rintro _ _ ⟨b2,rfl,rfl⟩
   refine G O<|Y 0 sz57 O<|zA<|zF<|qW 7 mixed (by kernel_rfl) O O<|zL O O (qC O yN O (A 0 O) O)<|zL O O (qR O ok171 (wO a) ⟨zB,O,T⟩)<|zL O O (zH O kR O)<|zL O O (zC O one3 O (A 1 O) O)<|zL O O (zM O O)<|zL O O (qR O ok279 (zIl _ _) ⟨zB,O,zB,O,T⟩)<|zL O O (det_bneq O un4 O O)<|yM<|zA<|zD O (fun c3=>?_) (fun c3=>?_)
   ·exact v36
   ·refine zI<|zK O<|qA O ⟨by omega,by omega⟩<|G O<|zA ?_
    refine ⟨k+1,⟨by omega,(by rw [hp,yB ha,fC,show (bC a==fG e.Op k)=true by simpa using c3,Bool.true_and];rfl)⟩,(by omega),Weak.mk [false,true] ⟨zB,zB,zB,zB,T⟩ O⟩
  ·try simp only [sx] at c2
   refine qK<|R O<|G O<|zA<|zN<|zV O ?_
   exact congrArg vB (by simp only [gU,c1,Bool.not_false,Bool.true_and];rw [hp,wG (by omega)];rfl)
theorem ref14_typed (e:Ex) (he:e.wt<=6000000000000):
    Pur cfg 236 [vE e] (vB (gU e)):=by
 refine zW Tryz.func236 O Tryz.ntmps236 Tryz.results236 O ?_
 intro z hz
 obtain ⟨hL,hI,hA⟩:=e.parts he
 refine R O<|zS O O (qP O O) ?_
 rintro _ _ ⟨b1,rfl,rfl⟩
 refine G O<|zA<|zF<|R O<|zJ O kR<|zE one3 (A 0 O) O<|yE O<|G O<|rL0 O (fun g1_3=>zH O kR O) O<|B 8 O (fun g1_3=>zC O one3 O (A 0 O) O) O<|B 9 O (fun g1_3=>kH O O O) O<|r_or O (fun h=>(lzf h))<|G O<|rL0 O (fun g1_8=>zH O zBj O) O<|B 13 O (fun g1_8=>qC O yG O (A 0 O) O) O<|B 14 O (fun g1_8=>qR O ok121 (base_Type _) ⟨zB,O,T⟩) O<|B 15 O (fun g1_8=>wJ O O) O<|yW O (fun h=>h)<|zA<|zD O (fun c1=>?_) (fun c1=>?_)
 ·refine R O<|G O<|zA<|zN<|zV O ?_
  exact congrArg vB (by simp only [gU,c1,Bool.not_true,Bool.false_and])
 ·refine zI<|zF<|R O<|G O<|zA<|zP<|zU ⟨[(3,.c _),(1,.c _)],[_]⟩ (Weak.mk [true] ⟨zB,zB,T⟩ O)<|qF 1 0 O O (Nat) (fun k=>[(3,vI k)]) (fun k=>[]) (fun k=>k<=e.Args.length/\(fC e.Op 0 e.Args=fC e.Op k (e.Args.drop k))) (fun k=>e.Args.length-k) ⟨0,⟨by omega,O⟩,Weak.mk [true] ⟨zB,zB,T⟩ O⟩ ?_
  rintro k ⟨hk,hp⟩
  refine zF<|R O<|G O<|zJ O yU<|zE kW (A 0 O) O<|qD O el55<|yC O<|zA<|zD O (fun c2=>?_) (fun c2=>?_)
  ·try simp only [sx] at c2
   obtain ⟨a,ha⟩:=qU e.Args k (by omega)
   refine zI<|zF<|zP<|zF<|qW 11 mixed (by kernel_rfl) O O<|zL O O (zH O yU O)<|zL O O (zC O kW O (A 0 O) O)<|zL O O (zM O O)<|zL O O (qH O el55 O O (by omega) (wF (by assumption)))<|zL O O (qC O yN O zO O)<|zL O O (qR O ok159 (wD a) ⟨zB,O,T⟩)<|zL O O (zH O kR O)<|zL O O (zC O one3 O (A 0 O) O)<|zL O O (zM O O)<|zL O O (qR O ok258 (ref14_wants _ _) ⟨zB,O,zB,O,T⟩)<|zL O O (det_bneq O un4 O O)<|yM<|zA<|zD O (fun c3=>?_) (fun c3=>?_)
   ·exact v36
   ·refine zI<|zK O<|G O<|qA O ⟨by omega,by omega⟩<|G O<|zA ?_
    refine ⟨k+1,⟨by omega,(by rw [hp,yB ha,fC,show (bC a==fG e.Op k)=true by simpa using c3,Bool.true_and];rfl)⟩,(by omega),Weak.mk [true] ⟨zB,zB,T⟩ O⟩
  ·try simp only [sx] at c2
   refine qK<|R O<|G O<|zA<|zN<|zV O ?_
   exact congrArg vB (by simp only [gU,c1,Bool.not_false,Bool.true_and];rw [hp,wG (by omega)];rfl)
theorem ref14_plain (e:Ex) (he:e.wt<=6000000000000):
    Pur cfg 233 [vE e] (vB (gZ e)):=by
 refine zW Tryz.func233 O Tryz.ntmps233 Tryz.results233 O ?_
 intro z hz
 obtain ⟨hL,hI,hA⟩:=e.parts he
 refine R O<|zS O O (qP O O) ?_
 rintro _ _ ⟨b1,rfl,rfl⟩
 refine G O<|zA<|zF<|R O<|zJ O kR<|zE one3 (A 0 O) O<|yC O<|G O<|rL0 O (fun g1_3=>zH O kR O) O<|B 9 O (fun g1_3=>zC O one3 O (A 0 O) O) O<|B 10 O (fun g1_3=>yH O O O) O<|r_or O (fun h=>(lzf h))<|zA<|zD O (fun c1=>?_) (fun c1=>?_)
 ·refine R O<|G O<|zA<|zN<|zV O ?_
  exact congrArg vB (by simp only [gZ,c1,Bool.not_true,Bool.false_and])
 ·refine zI<|zF<|R O<|zJ O kR<|zE one3 (A 0 O) O<|wA O<|G O<|rL0 O (fun g3_3=>zH O zGp O) O<|B 17 O (fun g3_3=>qC O zUo O (A 0 O) O) O<|rL0 O (fun g3_3=>kU O zr44 pl44 O) O<|rLz [(18,_),(19,_)] O gv1 ⟨O,O,O,O,T⟩ (fun g3_3=>zAw O fl44 O O O) O<|yW O (fun h=>h)<|G O<|rL0 O (fun g3_9=>zH O kR O) O<|B 23 O (fun g3_9=>zC O one3 O (A 0 O) O) O<|B 24 O (fun g3_9=>zAi O O O) O<|B 25 O (fun g3_9=>zM O O) O<|rLz [] O N T (fun g3_13=>zH O kR O) O<|rLz [(27,_)] O N ⟨O,O,T⟩ (fun g3_13=>zC O one3 O (A 0 O) O) O<|rLz [(28,_)] O N ⟨O,O,T⟩ (fun g3_13=>zAi O O O) O<|B 26 O (fun g3_9=>wV O O O (fun h=>kO (by assumption) h) O) O<|B 30 O (fun g3_9=>zM O O) O<|rLz [] O N T (fun g3_18=>zH O zBj O) O<|rLz [(32,_)] O N ⟨O,O,T⟩ (fun g3_18=>qC O yG O (A 0 O) O) O<|rLz [] O N T (fun g3_18=>kU O zr31 pl31 O) O<|rLz [(33,_),(34,_)] O N ⟨O,O,O,O,T⟩ (fun g3_18=>zAw O fl31 O O O) O<|B 31 O (fun g3_9=>wV O O O (fun h=>kO (by assumption) h) O) O<|r_or O (fun h=>(lzf h))<|zA<|zD O (fun c2=>?_) (fun c2=>?_)
  ·have h2:=plain2 (e:=e) c2
   refine R O<|G O<|zA<|zN<|zV O ?_
   exact congrArg vB (syn2 h2)
  ·have h2:=plain2 (e:=e) c2
   refine zI<|zF<|R O<|zJ O kR<|zE one3 (A 0 O) O<|wA O<|G O<|rL0 O (fun g5_3=>zH O zEd O) O<|B 42 O (fun g5_3=>zH O zFp O) O<|B 43 O (fun g5_3=>zC O one2 O (A 0 O) O) O<|B 44 O (fun g5_3=>zAi O O O) O<|B 45 O (fun g5_3=>zM O O) O<|rLz [] O N T (fun g5_8=>zH O zEd O) O<|rLz [(47,_)] O N ⟨O,O,T⟩ (fun g5_8=>zH O zAg O) O<|rLz [(48,_)] O N ⟨O,O,T⟩ (fun g5_8=>zC O zCj O (A 0 O) O) O<|rLz [(49,_)] O N ⟨O,O,T⟩ (fun g5_8=>yV O el52 O) O<|rLz [(50,_)] O N ⟨O,O,T⟩ (fun g5_8=>yH O O O) O<|B 46 O (fun g5_3=>zAq O O O O (fun h=>kO (by assumption) (lzf h))) O<|yW O (fun h=>h)<|G O<|rL0 O (fun g5_16=>zH O kR O) O<|B 55 O (fun g5_16=>zC O one3 O (A 0 O) O) O<|B 56 O (fun g5_16=>zAi O O O) O<|B 57 O (fun g5_16=>zM O O) O<|rLz [] O N T (fun g5_20=>zH O zCo O) O<|rLz [(59,_)] O N ⟨O,O,T⟩ (fun g5_20=>zC O one9 O (A 0 O) O) O<|rLz [(60,_)] O N ⟨O,O,T⟩ (fun g5_20=>zAv O O O) O<|rLz [(61,_)] O N ⟨O,O,T⟩ (fun g5_20=>zM O O) O<|rLz [] O N T (fun g5_24=>zH O kQ O) O<|rLz [(63,_)] O N ⟨O,O,T⟩ (fun g5_24=>zC O wI O (A 0 O) O) O<|rLz [(64,_)] O N ⟨O,O,T⟩ (fun g5_24=>yV O el51 O) O<|rLz [(65,_)] O N ⟨O,O,T⟩ (fun g5_24=>yH O O O) O<|rLz [(62,_)] O N ⟨O,O,T⟩ (fun g5_20=>zAq O O O O (fun h=>kO (by assumption) (lzf h))) O<|B 58 O (fun g5_16=>wV O O O (fun h=>kO (by assumption) h) O) O<|r_or O (fun h=>(lzf h))<|zA<|zD O (fun c3=>?_) (fun c3=>?_)
   ·have h3:=plain3 (e:=e) c3
    refine R O<|G O<|zA<|zN<|zV O ?_
    exact congrArg vB (syn3 h3)
   ·have h3:=plain3 (e:=e) c3
    refine zI<|zF<|R O<|G O<|zA<|zP<|zU ⟨[(3,.c _),(1,.c _)],[_]⟩ (Weak.mk [true] ⟨zB,zB,T⟩ O)<|qF 1 0 O O (Nat) (fun k=>[(3,vI k)]) (fun k=>[]) (fun k=>k<=e.Idx.length/\(e.Idx.all jT=(e.Idx.drop k).all jT)) (fun k=>e.Idx.length-k) ⟨0,⟨by omega,O⟩,Weak.mk [true] ⟨zB,zB,T⟩ O⟩ ?_
    rintro k ⟨hk,hp⟩
    refine zF<|R O<|G O<|zJ O kQ<|zE wI (A 0 O) O<|qD O el51<|yC O<|zA<|zD O (fun c4=>?_) (fun c4=>?_)
    ·try simp only [sx] at c4
     obtain ⟨x,hx⟩:=qU e.Idx k (by omega)
     refine zI<|zF<|zP<|R O<|zJ O kQ<|zE wI (A 0 O) O<|G O<|zY O el51 (by omega) (v (by assumption))<|zQ zCr zO O<|zS O O (qQ [none,some 2,none,some 2] O zKx O) ?_
     rintro _ _ ⟨b2,rfl,rfl⟩
     refine Y 0 zOd O<|zA<|R O<|zJ O wN<|zE one9 (A 0 O) O<|zZ O (kE O O O)<|G O<|rL0 O (fun g11_3=>zH O wU O) O<|B 86 O (fun g11_3=>zC O zAx O (A 0 O) O) O<|B 87 O (fun g11_3=>yV O zAk O) O<|B 88 O (fun g11_3=>yH O O O) O<|yW O (fun h=>h)<|G O<|rL0 O (fun g11_9=>zH O wN O) O<|B 92 O (fun g11_9=>zC O one9 O (A 0 O) O) O<|B 93 O (fun g11_9=>zAv O O O) O<|B 94 O (fun g11_9=>zM O O) O<|rLz [] O N T (fun g11_13=>zH O zBx O) O<|rLz [(96,_)] O N ⟨O,O,T⟩ (fun g11_13=>zH O zFp O) O<|rLz [(97,_)] O N ⟨O,O,T⟩ (fun g11_13=>zC O one2 O (A 0 O) O) O<|rLz [(98,_)] O N ⟨O,O,T⟩ (fun g11_13=>zAi O O O) O<|rLz [(99,_)] O N ⟨O,O,T⟩ (fun g11_13=>zM O O) O<|rLz [] O N T (fun g11_18=>zH O zBx O) O<|rLz [(101,_)] O N ⟨O,O,T⟩ (fun g11_18=>zH O zAg O) O<|rLz [(102,_)] O N ⟨O,O,T⟩ (fun g11_18=>zC O zCj O (A 0 O) O) O<|rLz [(103,_)] O N ⟨O,O,T⟩ (fun g11_18=>yV O el52 O) O<|rLz [(104,_)] O N ⟨O,O,T⟩ (fun g11_18=>yH O O O) O<|rLz [(100,_)] O N ⟨O,O,T⟩ (fun g11_13=>zAq O O O O (fun h=>kO (by assumption) (lzf h))) O<|B 95 O (fun g11_9=>wV O O O (fun h=>kO (by assumption) h) O) O<|r_or O (fun h=>(lzf h))<|zA<|zD O (fun c5=>?_) (fun c5=>?_)
     ·have h5:=well_dec (x:=x) c5
      refine R O<|G O<|zA<|zN<|zV O ?_
      exact congrArg vB (by rw [gZ,zQa hx (p:=jT) (by simpa using h5)];simp)
     ·have h5:=well_dec (x:=x) c5
      refine zI<|zK O<|G O<|qA O ⟨by omega,by omega⟩<|G O<|zA ?_
      refine ⟨k+1,⟨by omega,zRl hx hp (by simpa using h5)⟩,(by omega),Weak.mk [false,true] ⟨zB,zB,T⟩ O⟩
    ·try simp only [sx] at c4
     refine qK<|R O<|G O<|zA<|zN<|zV O ?_
     exact congrArg vB (syn5 c1 h2 h3 (all_end hp (by omega)))
theorem ref14_named (e:Ex) (he:e.wt<=6000000000000):
    Pur cfg 234 [vE e] (vB (lW e)):=by
 refine zW Tryz.func234 O Tryz.ntmps234 Tryz.results234 O ?_
 intro z hz
 obtain ⟨hL,hI,hA⟩:=e.parts he
 refine R O<|zS O O (qP O O) ?_
 rintro _ _ ⟨b1,rfl,rfl⟩
 refine G O<|zA<|zF<|R O<|zJ O kR<|zE one3 (A 0 O) O<|yE O<|G O<|rL0 O (fun g1_3=>zH O zCo O) O<|B 8 O (fun g1_3=>zC O one9 O (A 0 O) O) O<|B 9 O (fun g1_3=>qR O ok120 (zGv _) ⟨zB,O,T⟩) O<|B 10 O (fun g1_3=>wJ O O) O<|yW O (fun h=>h)<|zA<|zD O (fun c1=>?_) (fun c1=>?_)
 ·refine R O<|G O<|zA<|zN<|zV O ?_
  exact congrArg vB (by simp only [lW,c1,Bool.not_true,Bool.false_and])
 ·refine zI<|zF<|R O<|G O<|zA<|zP<|zU ⟨[(3,.c _),(1,.c _)],[_]⟩ (Weak.mk [true] ⟨zB,zB,T⟩ O)<|qF 1 0 O O (Nat) (fun k=>[(3,vI k)]) (fun k=>[]) (fun k=>k<=e.Idx.length/\(e.Idx.all sB=(e.Idx.drop k).all sB)) (fun k=>e.Idx.length-k) ⟨0,⟨by omega,O⟩,Weak.mk [true] ⟨zB,zB,T⟩ O⟩ ?_
  rintro k ⟨hk,hp⟩
  refine zF<|R O<|G O<|zJ O kQ<|zE wI (A 0 O) O<|qD O el51<|yC O<|zA<|zD O (fun c2=>?_) (fun c2=>?_)
  ·try simp only [sx] at c2
   obtain ⟨x,hx⟩:=qU e.Idx k (by omega)
   refine zI<|zF<|zP<|R O<|zJ O kQ<|zE wI (A 0 O) O<|G O<|zY O el51 (by omega) (v (by assumption))<|zT O wN<|zE one9 zO O<|zZ O (zAv O O O)<|G O<|rL0 O (fun g6_7=>zH O kQ O) O<|B 28 O (fun g6_7=>zC O wI O (A 0 O) O) O<|rL0 O (fun g6_7=>zM O O) O<|rLz [(29,_),(30,_)] O gv1 ⟨O,O,O,O,T⟩ (fun g6_7=>qH O el51 O O (by omega) (v (by assumption))) O<|B 31 O (fun g6_7=>qB O wN O) O<|B 32 O (fun g6_7=>zC O one9 O zO O) O<|B 33 O (fun g6_7=>qR O ok120 (zGv _) ⟨zB,O,T⟩) O<|B 34 O (fun g6_7=>wJ O O) O<|yW O (fun h=>h)<|zA<|zD O (fun c3=>?_) (fun c3=>?_)
   ·refine R O<|G O<|zA<|zN<|zV O ?_
    exact congrArg vB (by rw [lW,zQa hx (p:=sB) (by unfold sB;rw [c3];rfl)];simp)
   ·refine zI<|zK O<|G O<|qA O ⟨by omega,by omega⟩<|G O<|zA ?_
    refine ⟨k+1,⟨by omega,zRl hx hp (by unfold sB;rw [c3];rfl)⟩,(by omega),Weak.mk [true] ⟨zB,zB,T⟩ O⟩
  ·try simp only [sx] at c2
   refine qK<|R O<|G O<|zA<|zN<|zV O ?_
   exact congrArg vB (by rw [lW,c1,all_end hp (by omega)];rfl)
theorem ref14_ranked (e:Ex) (he:e.wt<=6000000000000):
    Pur cfg 235 [vE e] (vB (mN e)):=by
 refine zW Tryz.func235 O Tryz.ntmps235 Tryz.results235 O ?_
 intro z hz
 obtain ⟨hL,hI,hA⟩:=e.parts he
 refine R O<|zS O O (qP O O) ?_
 rintro _ _ ⟨b1,rfl,rfl⟩
 refine G O<|zA<|zF<|zF<|qW 13 mixed (by kernel_rfl) O O<|zL O O (zH O yU O)<|zL O O (zC O kW O (A 0 O) O)<|zL O O (yV O el55 O)<|zL O O (zH O kR O)<|zL O O (zC O one3 O (A 0 O) O)<|zL O O (qR O ok257 (zPi _) ⟨zB,O,T⟩)<|zL O O (zAi O O O)<|zL O O (zM O O)<|qJ [] O O O O gv1 T (fun g1_7=>zH O kQ O) O<|qJ [(12,_)] O O O O gv1 ⟨O,O,T⟩ (fun g1_7=>zC O wI O (A 0 O) O) O<|qJ [(13,_)] O O O O gv1 ⟨O,O,T⟩ (fun g1_7=>yV O el51 O) O<|qJ [(14,_)] O O O O gv1 ⟨O,O,T⟩ (fun g1_7=>yH O O O) O<|zL O O (zAq O O O O (fun h=>(lzf h)))<|yM<|zA<|zD O (fun c1=>?_) (fun c1=>?_)
 ·refine R O<|G O<|zA<|zN<|zV O ?_
  exact congrArg vB (by simp only [mN,c1,Bool.not_true,Bool.false_and])
 ·refine zI<|zF<|R O<|G O<|zA<|zP<|zU ⟨[(3,.c _),(1,.c _)],[_]⟩ (Weak.mk [true] ⟨zB,zB,T⟩ O)<|qF 1 0 O O (Nat) (fun k=>[(3,vI k)]) (fun k=>[]) (fun k=>k<=e.Idx.length/\(e.Idx.all rY=(e.Idx.drop k).all rY)) (fun k=>e.Idx.length-k) ⟨0,⟨by omega,O⟩,Weak.mk [true] ⟨zB,zB,T⟩ O⟩ ?_
  rintro k ⟨hk,hp⟩
  refine zF<|R O<|G O<|zJ O kQ<|zE wI (A 0 O) O<|qD O el51<|yC O<|zA<|zD O (fun c2=>?_) (fun c2=>?_)
  ·try simp only [sx] at c2
   obtain ⟨x,hx⟩:=qU e.Idx k (by omega)
   refine zI<|zF<|zP<|R O<|zJ O kQ<|zE wI (A 0 O) O<|G O<|zY O el51 (by omega) (v (by assumption))<|zT O wU<|zE zAx zO O<|qD O zAk<|zZ O (yH O O O)<|zA<|zD O (fun c3=>?_) (fun c3=>?_)
   ·refine R O<|G O<|zA<|zN<|zV O ?_
    exact congrArg vB (by rw [mN,zQa hx (p:=rY) (by unfold rY;rw [c3];rfl)];simp)
   ·refine zI<|zK O<|G O<|qA O ⟨by omega,by omega⟩<|G O<|zA ?_
    refine ⟨k+1,⟨by omega,zRl hx hp (by unfold rY;rw [c3];rfl)⟩,(by omega),Weak.mk [true] ⟨zB,zB,T⟩ O⟩
  ·try simp only [sx] at c2
   refine qK<|R O<|G O<|zA<|zN<|zV O ?_
   exact congrArg vB (by rw [mN,c1,all_end hp (by omega)];rfl)
theorem ref14_formed (e:Ex) (he:e.wt<=6000000000000) (hty:e.Op=1->gV e.Ty=true):
    Pur cfg 237 [vE e] (vB (jM e)):=by
 refine zW Tryz.func237 O Tryz.ntmps237 Tryz.results237 O ?_
 intro z hz
 obtain ⟨hL,hI,hA⟩:=e.parts he
 refine R O<|zS O O (qP O O) ?_
 rintro _ _ ⟨b1,rfl,rfl⟩
 refine G O<|zA<|zF<|R O<|zJ O kR<|zE one3 (A 0 O) O<|yE O<|G O<|rL0 O (fun g1_3=>zH O zBj O) O<|B 9 O (fun g1_3=>qC O yG O (A 0 O) O) O<|rL0 O (fun g1_3=>zH O zGp O) O<|B 11 O (fun g1_3=>qC O zUo O (A 0 O) O) O<|rLz [(10,_),(12,_)] O gv1 ⟨O,O,O,O,T⟩ (fun g1_3=>qR O ok259 (base_Val e.Ty e.Val (hty (by simp only [Lz,cond_true,cond_false,Bool.and_eq_true,Bool.or_eq_true,Bool.not_eq_true',Bool.not_eq_false',Bool.or_eq_false_iff,Bool.and_eq_false_iff,decide_eq_true_eq,decide_eq_false_iff_not,Bool.not_eq_true,Bool.not_eq_false] at g1_3;exact g1_3))) ⟨zB,O,zB,O,T⟩) O<|B 13 O (fun g1_3=>wJ O O) O<|yW O (fun h=>h)<|G O<|rL0 O (fun g1_11=>zH O zEd O) O<|B 17 O (fun g1_11=>qC O zAj O (A 0 O) O) O<|B 18 O (fun g1_11=>qR O ok260 (zHv e.Lin hL) ⟨zB,O,T⟩) O<|B 19 O (fun g1_11=>wJ O O) O<|r_or O (fun h=>(lzf h))<|zA<|zD O (fun c1=>?_) (fun c1=>?_)
 ·refine R O<|G O<|zA<|zN<|zV O ?_
  exact congrArg vB (form_no c1)
 ·refine zI<|zF<|R O<|G O<|zA<|zP<|zU ⟨[(3,.c _),(1,.c _)],[_]⟩ (Weak.mk [true] ⟨zB,zB,T⟩ O)<|qF 1 0 O O (Nat) (fun k=>[(3,vI k)]) (fun k=>[]) (fun k=>k<=e.Idx.length/\((gW e).all fW=((e.Idx.drop k).flatMap fun x=>x.Lin::x.At).all fW)) (fun k=>e.Idx.length-k) ⟨0,⟨by omega,form_start c1⟩,Weak.mk [true] ⟨zB,zB,T⟩ O⟩ ?_
  rintro k ⟨hk,hp⟩
  refine zF<|R O<|G O<|zJ O kQ<|zE wI (A 0 O) O<|qD O el51<|yC O<|zA<|zD O (fun c2=>?_) (fun c2=>?_)
  ·try simp only [sx] at c2
   obtain ⟨x,hx⟩:=qU e.Idx k (by omega)
   have hxw:=Ex.idx_wt (qE hx)
   refine zI<|zF<|zP<|zF<|R O<|zJ O kQ<|zE wI (A 0 O) O<|G O<|zY O el51 (by omega) (v (by assumption))<|zT O zBx<|zQ zAj zO O<|qS O ok260 (zHv x.Lin (by omega)) ⟨zB,O,T⟩<|wE O<|zA<|zD O (fun c3=>?_) (fun c3=>?_)
   ·try simp only [sx] at c3
    refine R O<|G O<|zA<|zN<|zV O ?_
    exact congrArg vB (form_no2 hp (by rw [yB hx,List.flatMap_cons,List.all_append,List.all_cons,c3];rfl))
   ·try simp only [sx] at c3
    refine zI<|R O<|G O<|zA<|zP<|zU ⟨[(4,.c _),(1,.c _),(3,.c _)],[_]⟩ (Weak.mk [true] ⟨zB,zB,zB,T⟩ O)<|qF 1 0 O O (Nat) (fun j=>[(4,vI j)]) (fun j=>[]) (fun j=>j<=x.At.length/\(x.At.all fW=(x.At.drop j).all fW)) (fun j=>x.At.length-j) ⟨0,⟨by omega,O⟩,Weak.mk [true] ⟨zB,zB,zB,T⟩ O⟩ ?_
    rintro j ⟨hj,hq⟩
    refine zF<|R O<|G O<|zJ O kQ<|zE wI (A 0 O) O<|G O<|zY O el51 (by omega) (v (by assumption))<|zT O wU<|zE zAx zO O<|qD O zAk<|yC O<|zA<|zD O (fun c4=>?_) (fun c4=>?_)
    ·try simp only [sx] at c4
     obtain ⟨l,hl⟩:=qU x.At j (by omega)
     have hlw:=zAy (qE hl)
     refine zI<|zF<|zP<|R O<|zJ O kQ<|zE wI (A 0 O) O<|G O<|zY O el51 (by omega) (v (by assumption))<|zT O wU<|zE zAx zO O<|G O<|zY O zAk (by omega) (v (by assumption))<|zQ zAj zO O<|qS O ok260 (zHv l (by omega)) ⟨zB,O,T⟩<|wE O<|zA<|zD O (fun c5=>?_) (fun c5=>?_)
     ·try simp only [sx] at c5
      refine R O<|G O<|zA<|zN<|zV O ?_
      exact congrArg vB (form_no2 hp (by rw [yB hx,List.flatMap_cons,List.all_append,List.all_cons,zQa hl (p:=fW) c5];simp))
     ·try simp only [sx] at c5
      refine zI<|zK O<|G O<|qA O ⟨by omega,by omega⟩<|G O<|zA ?_
      refine ⟨j+1,⟨by omega,zRl hl hq c5⟩,(by omega),Weak.mk [true] ⟨zB,zB,zB,T⟩ O⟩
    ·try simp only [sx] at c4
     refine qK<|zK O<|G O<|qA O ⟨by omega,by omega⟩<|G O<|zA ?_
     refine ⟨k+1,⟨by omega,(by rw [hp,yB hx,List.flatMap_cons,List.all_append,List.all_cons,c3,all_end hq (by omega)];rfl)⟩,(by omega),Weak.mk [true] ⟨zB,zB,T⟩ O⟩
  ·try simp only [sx] at c2
   refine qK<|R O<|G O<|zA<|zN<|zV O ?_
   exact congrArg vB (form_yes c1 (by rw [hp,wG (by omega)];rfl))
theorem zSo (e:Ex) (ih:∀a,a∈e.Args->a.wt<=6000000000000->Pur cfg 205 [vE a] (vI (fM a))) (he:e.wt<=6000000000000):
    Pur cfg 205 [vE e] (vI (fM e)):=by
 refine zW Tryz.func205 O Tryz.ntmps205 Tryz.results205 O ?_
 intro z hz
 obtain ⟨hL,hI,hA⟩:=e.parts he
 refine R O<|zS O O (qP O O) ?_
 rintro _ _ ⟨b1,rfl,rfl⟩
 refine G O<|zA<|zF<|zP<|R O<|zQ yN (A 0 O) O<|qS O ok233 (ref14_plain e he) ⟨zB,O,T⟩<|wE O<|G O<|zA<|zD O (fun c1=>?_) (fun c1=>?_)
 ·try simp only [sx] at c1
  refine R O<|G O<|zA<|zN<|zV O ?_
  exact congrArg vI (by rw [zFn,show bS e=5 by simp only [bS,c1];rfl];rfl)
 ·try simp only [sx] at c1
  refine R O<|zQ yN (A 0 O) O<|qS O ok234 (ref14_named e he) ⟨zB,O,T⟩<|wE O<|G O<|zA<|zD O (fun c2=>?_) (fun c2=>?_)
  ·try simp only [sx] at c2
   refine R O<|G O<|zA<|zN<|zV O ?_
   exact congrArg vI (by rw [zFn,show bS e=7 by simp only [bS,c1,c2];rfl];rfl)
  ·try simp only [sx] at c2
   refine R O<|zQ yN (A 0 O) O<|qS O ok235 (ref14_ranked e he) ⟨zB,O,T⟩<|wE O<|G O<|zA<|zD O (fun c3=>?_) (fun c3=>?_)
   ·try simp only [sx] at c3
    refine R O<|G O<|zA<|zN<|zV O ?_
    exact congrArg vI (by rw [zFn,show bS e=11 by simp only [bS,c1,c2,c3];rfl];rfl)
   ·try simp only [sx] at c3
    refine R O<|zQ yN (A 0 O) O<|qS O ok236 (ref14_typed e he) ⟨zB,O,T⟩<|wE O<|G O<|zA<|zD O (fun c4=>?_) (fun c4=>?_)
    ·try simp only [sx] at c4
     refine R O<|G O<|zA<|zN<|zV O ?_
     exact congrArg vI (by rw [zFn,show bS e=10 by simp only [bS,c1,c2,c3,c4];rfl];rfl)
    ·try simp only [sx] at c4
     refine R O<|zQ yN (A 0 O) O<|qS O ok237 (ref14_formed e he (types_ty c4)) ⟨zB,O,T⟩<|wE O<|G O<|zA<|zD O (fun c5=>?_) (fun c5=>?_)
     ·try simp only [sx] at c5
      refine R O<|G O<|zA<|zN<|zV O ?_
      exact congrArg vI (by rw [zFn,show bS e=1 by simp only [bS,c1,c2,c3,c4,c5];rfl];rfl)
     ·try simp only [sx] at c5
      have hn:bS e=0:=by simp only [bS,c1,c2,c3,c4,c5];rfl
      refine zI<|zF<|R O<|G O<|zA<|zP<|zU ⟨[(3,.c _),(1,.c _)],[_]⟩ (Weak.mk [true] ⟨zB,zB,T⟩ O)<|qF 1 0 O O (Nat) (fun k=>[(3,vI k)]) (fun k=>[]) (fun k=>k<=e.Args.length/\(pZ e.Args=pZ (e.Args.drop k))) (fun k=>e.Args.length-k) ⟨0,⟨by omega,O⟩,Weak.mk [true] ⟨zB,zB,T⟩ O⟩ ?_
      rintro k ⟨hk,hp⟩
      refine zF<|R O<|G O<|zJ O yU<|zE kW (A 0 O) O<|qD O el55<|yC O<|zA<|zD O (fun c6=>?_) (fun c6=>?_)
      ·try simp only [sx] at c6
       obtain ⟨a,ha⟩:=qU e.Args k (by omega)
       refine zI<|zF<|zP<|R O<|zJ O yU<|zE kW (A 0 O) O<|G O<|zY O el55 (by omega) (wF (by assumption))<|zQ yN zO O<|qS O ok205 (ih a (qE ha) (by have:=Ex.arg_wt (qE ha);omega)) ⟨zB,O,T⟩<|G O<|zA<|R O<|G O<|wA O<|zA<|zD O (fun c7=>?_) (fun c7=>?_)
       ·try simp only [sx] at c7
        refine R O<|G O<|G O<|zA<|zN<|zV O ?_
        exact congrArg vI (by rw [zFn e,hn,zAr rfl,cond_true,hp,yB ha,zOn,kL c7];rfl)
       ·try simp only [sx] at c7
        refine zI<|zK O<|G O<|qA O ⟨by omega,by omega⟩<|G O<|zA ?_
        refine ⟨k+1,⟨by omega,(by rw [hp,yB ha,zOn,zAr c7];rfl)⟩,(by omega),Weak.mk [true] ⟨zB,zB,T⟩ O⟩
      ·try simp only [sx] at c6
       refine qK<|R O<|G O<|zA<|zN<|zV O ?_
       exact congrArg vI (by rw [zFn,hn,zAr rfl,cond_true,hp,wG (by omega)];rfl)
theorem ref14_part (e:Ex) (he:e.wt<=6000000000000):Pur cfg 205 [vE e] (vI (fM e)):=by
  induction e using Ex.ind with
  |_ e ih=>exact zSo e ih he
theorem zJj (n:Nat) (ih:n≠0->∀(a:Ex) (l:Int),a.wt<=6000000000000->l=n->Pur cfg 240 [vE a,vI l] (vI (jO (n-1) a))) (hn:n<=100) (e:Ex) (l:Int) (he:e.wt<=6000000000000) (hl:l=n+1):
    Pur cfg 240 [vE e,vI l] (vI (jO n e)):=by
 refine zW Tryz.func240 O Tryz.ntmps240 Tryz.results240 O ?_
 intro z hz
 obtain ⟨hL,hI,hA⟩:=e.parts he
 refine R O<|zS O O (qP O O) ?_
 rintro _ _ ⟨b1,rfl,rfl⟩
 refine G O<|zA<|zF<|R O<|G O<|zZ O (wL O O O)<|zA<|zD O (fun c1=>?_) (fun c1=>?_)
 ·try simp only [sx] at c1
  obtain rfl:n=0:=by omega
  refine R O<|G O<|G O<|zA<|zN<|zV O ?_
  exact congrArg vI (by rw [hl];rfl)
 ·try simp only [sx] at c1
  obtain ⟨m,rfl⟩:∃m,n=m+1:=⟨n-1,by omega⟩
  refine zI<|R O<|G O<|zA<|zF<|R O<|zJ O yU<|zE kW (A 0 O) O<|qD O el55<|G O<|zA<|zP<|zU ⟨[(14,.c _),(5,.c _),(1,.c _),(12,.c _),(13,.c _)],[]⟩ (Weak.mk [false] ⟨zB,zB,zB,zB,zB,T⟩ O)<|qF 2 0 O O (Nat×Int) (fun ⟨k,d⟩=>[(14,vI k),(5,vI d)]) (fun ⟨k,d⟩=>[]) (fun ⟨k,d⟩=>k<=e.Args.length/\(1<=d)/\(d<=m+2)/\(jO (m+1) e=rL (jO m) d (e.Args.drop k))) (fun ⟨k,d⟩=>e.Args.length-k) ⟨⟨0,1⟩,⟨by omega,by omega,by omega,O⟩,Weak.mk [] ⟨zB,VLe.of_eq (O),zB,zB,zB,T⟩ O⟩ ?_
  rintro ⟨k,d⟩ ⟨hk,hd1,hd2,hd3⟩
  show AWP _ _ _ _ _ ⟨[(14,vI k),(5,vI d)]++_,[]++_⟩
  refine R O<|yC O<|zA<|zF<|zD O (fun c2=>?_) (fun c2=>?_)
  ·try simp only [sx] at c2
   obtain ⟨a,ha⟩:=qU e.Args k (by omega)
   have hda:=depT_le m a
   refine zI<|zF<|zP<|R O<|zY O el55 (by omega) (wF (by assumption))<|zQ yN zO O<|zS O O (qQ [none,none,none,none,none,none,none,none,none,none,some 2,some 4,some 13] O zr57 O) ?_
   rintro _ _ ⟨b2,rfl,rfl⟩
   refine Y 0 sz57 O<|zA<|zK O<|G O<|zQ yN (A 0 O) O<|G O<|yY O ⟨by omega,by omega⟩<|qS O ok240 (show Pur cfg 240 [vE a,vI (l-1)] (vI (jO m a)) from ih (by omega) a _ (by have:=Ex.arg_wt (qE ha);omega) (by omega)) ⟨zB,O,zB,O,T⟩<|qA O ⟨by omega,by omega⟩<|zZ O (zFb O O O)<|G O<|zA<|zK O<|qA O ⟨by omega,by omega⟩<|G O<|zA ?_
   refine ⟨⟨k+1,max d (1+jO m a)⟩,⟨by omega,by omega,by omega,by rw [hd3,yB ha,rL]⟩,(by show e.Args.length-(k+1)<e.Args.length-k;omega),Weak.mk [false] ⟨zB,zB,zB,zB,zB,T⟩ O⟩
  ·try simp only [sx] at c2
   refine qK<|R O<|G O<|G O<|zA<|zN<|zV O ?_
   exact congrArg vI (by rw [hd3,wG (by omega)];rfl)
theorem expr_depth (n:Nat) (e:Ex) (l:Int) (hn:n<=100) (he:e.wt<=6000000000000) (hl:l=n+1):Pur cfg 240 [vE e,vI l] (vI (jO n e)):=by
  induction n generalizing e l with
  |zero=>exact zJj 0 (fun h=>absurd rfl h) hn e l he hl
  |succ n ih=>exact zJj (n+1) (fun _ a l h1 h2=>ih a l (by omega) h1 (by omega)) hn e l he hl
theorem zHz (n:Nat) (ih:n≠0->∀(a:Ex) (l:Int),a.wt<=6000000000000->l=n->Pur cfg 231 [vE a,vI l] (vI (jO (n-1) a))) (hn:n<=100) (e:Ex) (l:Int) (he:e.wt<=6000000000000) (hl:l=n+1):
    Pur cfg 231 [vE e,vI l] (vI (jO n e)):=by
 refine zW Tryz.func231 O Tryz.ntmps231 Tryz.results231 O ?_
 intro z hz
 obtain ⟨hL,hI,hA⟩:=e.parts he
 refine R O<|zS O O (qP O O) ?_
 rintro _ _ ⟨b1,rfl,rfl⟩
 refine G O<|zA<|R O<|G O<|zA<|zF<|R O<|G O<|zA<|zP<|zU ⟨[(6,.c _),(5,.c _),(1,.c _),(2,.c _)],[_]⟩ (Weak.mk [true] ⟨zB,zB,zB,zB,T⟩ O)<|qF 2 0 O O (Nat×Int) (fun ⟨k,d⟩=>[(6,vI k),(5,vI d)]) (fun ⟨k,d⟩=>[]) (fun ⟨k,d⟩=>k<=e.Args.length/\(1<=d)/\(d<=n+1)/\(n≠0->jO n e=rL (jO (n-1)) d (e.Args.drop k))/\(n=0->d=1)) (fun ⟨k,d⟩=>e.Args.length-k) ⟨⟨0,1⟩,⟨by omega,by omega,by omega,fun h0=>dep_start h0,fun _=>O⟩,Weak.mk [true] ⟨zB,VLe.of_eq (O),zB,zB,T⟩ O⟩ ?_
 rintro ⟨k,d⟩ ⟨hk,hd1,hd2,hd3,hd4⟩
 show AWP _ _ _ _ _ ⟨[(6,vI k),(5,vI d)]++_,[]++_⟩
 refine zF<|R O<|G O<|zJ O yU<|zE kW (A 0 O) O<|qD O el55<|yC O<|G O<|rL0 O (fun g3_5=>zM O O) O<|B 13 O (fun g3_5=>yH O O O) O<|yW O (fun h=>h)<|zA<|zD O (fun c1=>?_) (fun c1=>?_)
 ·try simp only [sx] at c1
  obtain ⟨a,ha⟩:=qU e.Args k (by omega)
  have hda:=depT_le (n-1) a
  refine zI<|zF<|zP<|zK O<|G O<|zJ O yU<|zE kW (A 0 O) O<|G O<|zY O el55 (by omega) (wF (by assumption))<|zQ yN zO O<|G O<|yY O ⟨by omega,by omega⟩<|qS O ok231 (ih (by omega) a _ (by have:=Ex.arg_wt (qE ha);omega) (by omega)) ⟨zB,O,zB,O,T⟩<|qA O ⟨by omega,by omega⟩<|zZ O (zFb O O O)<|G O<|zA<|zK O<|G O<|qA O ⟨by omega,by omega⟩<|G O<|zA ?_
  refine ⟨⟨k+1,max d (1+jO (n-1) a)⟩,⟨by omega,by omega,by omega,fun h0=>by rw [hd3 h0,yB ha,rL],fun h0=>by omega⟩,(by show e.Args.length-(k+1)<e.Args.length-k;omega),Weak.mk [true] ⟨zB,zB,zB,zB,T⟩ O⟩
 ·try simp only [sx] at c1
  refine qK<|R O<|G O<|G O<|zA<|zN<|zV O ?_
  exact congrArg vI (dep_end hl (by omega) hd3 hd4)
theorem ref14_depth (n:Nat) (e:Ex) (l:Int) (hn:n<=100) (he:e.wt<=6000000000000) (hl:l=n+1):Pur cfg 231 [vE e,vI l] (vI (jO n e)):=by
  induction n generalizing e l with
  |zero=>exact zHz 0 (fun h=>absurd rfl h) hn e l he hl
  |succ n ih=>exact zHz (n+1) (fun _ a l h1 h2=>ih a l (by omega) h1 (by omega)) hn e l he hl
theorem expr_Depth (e:Ex) (he:e.wt<=6000000000000):
    Pur cfg 211 [vE e] (vI (jO 40 e)):=by
 refine zW Tryz.func211 O Tryz.ntmps211 Tryz.results211 O ?_
 intro z hz
 refine R O<|zS O O (qP O O) ?_
 rintro _ _ ⟨b1,rfl,rfl⟩
 refine G O<|zA<|R O<|zQ yN (A 0 O) O<|qS O ok240 (expr_depth 40 e 41 (by omega) he (by omega)) ⟨zB,O,zB,O,T⟩<|G O<|zA<|zN<|zV O ?_
 exact O
theorem ref14_Depth (e:Ex) (he:e.wt<=6000000000000):
    Pur cfg 203 [vE e] (vI (jO 40 e)):=by
 refine zW Tryz.func203 O Tryz.ntmps203 Tryz.results203 O ?_
 intro z hz
 refine R O<|zS O O (qP O O) ?_
 rintro _ _ ⟨b1,rfl,rfl⟩
 refine G O<|zA<|R O<|zQ yN (A 0 O) O<|qS O ok231 (ref14_depth 40 e 41 (by omega) he (by omega)) ⟨zB,O,zB,O,T⟩<|G O<|zA<|zN<|zV O ?_
 exact O
theorem zSn (e:Ex) (ih:∀a,a∈e.Args->∀(m:Nat) (l:Int),a.wt<=6000000000000->m<=1000000->l=m->Pur cfg 232 [vE a,vI l] (vI (rH a m))) (m:Nat) (l:Int) (he:e.wt<=6000000000000) (hm:m<=1000000) (hl:l=m):
    Pur cfg 232 [vE e,vI l] (vI (rH e m)):=by
 refine zW Tryz.func232 O Tryz.ntmps232 Tryz.results232 O ?_
 intro z hz
 obtain ⟨hL,hI,hA⟩:=e.parts he
 refine R O<|zS O O (qP O O) ?_
 rintro _ _ ⟨b1,rfl,rfl⟩
 refine G O<|zA<|R O<|G O<|zA<|zF<|R O<|G O<|zA<|zP<|zU ⟨[(6,.c _),(5,.c _),(1,.c _),(2,.c _)],[_]⟩ (Weak.mk [true] ⟨zB,zB,zB,zB,T⟩ O)<|qF 2 0 O O (Nat×Nat) (fun ⟨k,n⟩=>[(6,vI k),(5,vI n)]) (fun ⟨k,n⟩=>[]) (fun ⟨k,n⟩=>k<=e.Args.length/\(n<=m+1)/\(rH e m=pX (e.Args.drop k) m n)) (fun ⟨k,n⟩=>e.Args.length-k) ⟨⟨0,1⟩,⟨by omega,by omega,sizE_eq e m⟩,Weak.mk [true] ⟨zB,VLe.of_eq (O),zB,zB,T⟩ O⟩ ?_
 rintro ⟨k,n⟩ ⟨hk,hn1,hn2⟩
 show AWP _ _ _ _ _ ⟨[(6,vI k),(5,vI n)]++_,[]++_⟩
 refine zF<|R O<|G O<|zJ O yU<|zE kW (A 0 O) O<|qD O el55<|yC O<|G O<|rL0 O (fun g3_5=>zM O O) O<|rL0 O (fun g3_5=>zM O O) O<|rLz [(13,_),(14,_)] O gv1 ⟨O,O,O,O,T⟩ (fun g3_5=>wL O O O) O<|yW O (fun h=>h)<|zA<|zD O (fun c1=>?_) (fun c1=>?_)
 ·try simp only [sx] at c1
  obtain ⟨a,ha⟩:=qU e.Args k (by omega)
  have hsa:=sizE_min a (m-n)
  refine zI<|zF<|zP<|zK O<|G O<|zJ O yU<|zE kW (A 0 O) O<|G O<|zY O el55 (by omega) (wF (by assumption))<|zQ yN zO O<|G O<|G O<|yY O ⟨by omega,by omega⟩<|qS O ok232 (ih a (qE ha) (m-n) _ (by have:=Ex.arg_wt (qE ha);omega) (by omega) (by omega)) ⟨zB,O,zB,O,T⟩<|qA O ⟨by omega,by omega⟩<|G O<|zA<|zK O<|G O<|qA O ⟨by omega,by omega⟩<|G O<|zA ?_
  refine ⟨⟨k+1,n+rH a (m-n)⟩,⟨by omega,by omega,by rw [hn2,yB ha,pX,if_pos (by omega)]⟩,(by show e.Args.length-(k+1)<e.Args.length-k;omega),Weak.mk [true] ⟨zB,VLe.of_eq (congrArg vI (by omega)),zB,zB,T⟩ O⟩
 ·try simp only [sx] at c1
  refine qK<|R O<|G O<|G O<|zA<|zN<|zV O ?_
  exact congrArg vI (by rw [hn2];exact congrArg Nat.cast (siz_end hl (by omega)))
theorem ref14_size (e:Ex) (m:Nat) (l:Int) (he:e.wt<=6000000000000) (hm:m<=1000000) (hl:l=m):Pur cfg 232 [vE e,vI l] (vI (rH e m)):=by
  induction e using Ex.ind generalizing m l with
  |_ e ih=>exact zSn e (fun a ha m l h1 h2 h3=>ih a ha m l h1 h2 h3) m l he hm hl
theorem ref14_Size (e:Ex) (he:e.wt<=6000000000000):
    Pur cfg 204 [vE e] (vI (szT e)):=by
 refine zW Tryz.func204 O Tryz.ntmps204 Tryz.results204 O ?_
 intro z hz
 refine R O<|zS O O (qP O O) ?_
 rintro _ _ ⟨b1,rfl,rfl⟩
 refine G O<|zA<|R O<|zQ yN (A 0 O) O<|qS O ok232 (ref14_size e 2000 2000 he (by omega) O) ⟨zB,O,zB,O,T⟩<|zZ O (det_min O O O)<|G O<|zA<|zN<|zV O ?_
 exact congrArg vI (by rw [sizE_min,szT];omega)
theorem ref14_Validate (e:Ex) (he:e.wt<=6000000000000):
    Pur cfg 184 [vE e] (vI (fT e)):=by
 refine zW Tryz.func184 O Tryz.ntmps184 Tryz.results184 O ?_
 intro z hz
 refine R O<|zS O O (qP O O) ?_
 rintro _ _ ⟨b1,rfl,rfl⟩
 refine G O<|zA<|zF<|R O<|zQ yN (A 0 O) O<|qS O ok203 (ref14_Depth e he) ⟨zB,O,T⟩<|zZ O (yH O O O)<|zA<|zD O (fun c1=>?_) (fun c1=>?_)
 ·try simp only [sx] at c1
  refine R O<|G O<|zA<|zN<|zV O ?_
  rw [fT,zAr c1];rfl
 ·try simp only [sx] at c1
  refine zI<|zF<|R O<|zQ yN (A 0 O) O<|qS O ok204 (ref14_Size e he) ⟨zB,O,T⟩<|zZ O (yH O O O)<|zA<|zD O (fun c2=>?_) (fun c2=>?_)
  ·try simp only [sx] at c2
   refine R O<|G O<|zA<|zN<|zV O ?_
   rw [fT,kL (by omega),zAr c2];rfl
  ·try simp only [sx] at c2
   refine zI<|R O<|zQ yN (A 0 O) O<|qS O ok205 (ref14_part e he) ⟨zB,O,T⟩<|G O<|zA<|zN<|zV O ?_
   rw [fT,kL (by omega),kL (by omega)];rfl
end Go.W
