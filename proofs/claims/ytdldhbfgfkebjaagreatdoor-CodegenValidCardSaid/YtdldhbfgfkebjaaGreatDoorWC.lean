/-
  What functions compute.
  Conditions: none.
-/
import Derived.Test.YtdldhbfgfkebjaaGreatDoorWB
set_option linter.unusedSimpArgs false
set_option linter.unusedVariables false
set_option maxRecDepth 10000
namespace Go.W
open Go Go.Eng Go.Proofs Go.L41 Go.Br
attribute [local irreducible] AWP RWP TD fY
theorem zBa:lI Tryz.prog 54=some 2:=by kernel_rfl
theorem yP:lI Tryz.prog 57=some 13:=by kernel_rfl
theorem el55:fA Tryz.prog 55=some (57,13,160):=by kernel_rfl
theorem zAv:fA Tryz.prog 151=some (54,2,32):=by kernel_rfl
theorem kS:bD Tryz.prog 57 0=some (0,3):=by kernel_rfl
theorem zDg:bD Tryz.prog 57 1=some (1,9):=by kernel_rfl
theorem zIp:bD Tryz.prog 57 2=some (2,44):=by kernel_rfl
theorem zCx:bD Tryz.prog 57 3=some (4,31):=by kernel_rfl
theorem zFc:bD Tryz.prog 57 4=some (9,54):=by kernel_rfl
theorem kR:bD Tryz.prog 57 5=some (11,51):=by kernel_rfl
theorem kO:bD Tryz.prog 57 6=some (12,55):=by kernel_rfl
theorem zCy:bD Tryz.prog 153 0=some (0,54):=by kernel_rfl
theorem wG:bD Tryz.prog 153 1=some (2,9):=by kernel_rfl
theorem zAr:bD Tryz.prog 153 2=some (3,151):=by kernel_rfl
theorem fl44:rO Tryz.prog 44=some [.int,.int]:=by kernel_rfl
theorem ok96:bA Tryz.prog 96=true:=by kernel_rfl
theorem ok121:bA Tryz.prog 121=true:=by kernel_rfl
theorem ok159:bA Tryz.prog 159=true:=by kernel_rfl
theorem ok171:bA Tryz.prog 171=true:=by kernel_rfl
theorem ok203:bA Tryz.prog 203=true:=by kernel_rfl
theorem ok204:bA Tryz.prog 204=true:=by kernel_rfl
theorem ok205:bA Tryz.prog 205=true:=by kernel_rfl
theorem ok231:bA Tryz.prog 231=true:=by kernel_rfl
theorem ok232:bA Tryz.prog 232=true:=by kernel_rfl
theorem ok233:bA Tryz.prog 233=true:=by kernel_rfl
theorem ok234:bA Tryz.prog 234=true:=by kernel_rfl
theorem ok235:bA Tryz.prog 235=true:=by kernel_rfl
theorem ok236:bA Tryz.prog 236=true:=by kernel_rfl
theorem ok237:bA Tryz.prog 237=true:=by kernel_rfl
theorem ok240:bA Tryz.prog 240=true:=by kernel_rfl
theorem ok257:bA Tryz.prog 257=true:=by kernel_rfl
theorem ok258:bA Tryz.prog 258=true:=by kernel_rfl
theorem ok259:bA Tryz.prog 259=true:=by kernel_rfl
theorem ok260:bA Tryz.prog 260=true:=by kernel_rfl
theorem ok272:bA Tryz.prog 272=true:=by kernel_rfl
theorem ok273:bA Tryz.prog 273=true:=by kernel_rfl
theorem ok274:bA Tryz.prog 274=true:=by kernel_rfl
theorem ok275:bA Tryz.prog 275=true:=by kernel_rfl
theorem ok276:bA Tryz.prog 276=true:=by kernel_rfl
theorem ok277:bA Tryz.prog 277=true:=by kernel_rfl
theorem ok278:bA Tryz.prog 278=true:=by kernel_rfl
theorem ok279:bA Tryz.prog 279=true:=by kernel_rfl
theorem wJ:jQ Tryz.prog 51=true:=by kernel_rfl
theorem wZ:jQ Tryz.prog 55=true:=by kernel_rfl
theorem zCl:jQ Tryz.prog 151=true:=by kernel_rfl
theorem pl44:fL Tryz.prog 44=some [(0,1),(1,1)]:=by kernel_rfl
theorem sz57:(Tryz.prog.info? 57).map (·.size)=some 13:=by kernel_rfl
theorem zPc:(Tryz.prog.info? 153).map (·.size)=some 4:=by kernel_rfl
theorem un4:Tryz.prog.underlying 4=some .bool:=by kernel_rfl
theorem zr44:dS Tryz.prog 44=some [(Value.int IntKind.i64 0),(Value.int IntKind.i64 0)]:=by kernel_rfl
theorem zr57:dS Tryz.prog 57=some [(Value.int IntKind.i64 0),(Value.string (ByteArray.mk #[])),(Value.int IntKind.i64 0),(Value.int IntKind.i64 0),(Value.int IntKind.i64 0),(Value.int IntKind.i64 0),(Value.int IntKind.i64 0),(Value.int IntKind.i64 0),(Value.int IntKind.i64 0),(Value.int IntKind.i64 0),(Value.slice none 0 0),(Value.slice none 0 0),(Value.slice none 0 0)]:=by kernel_rfl
theorem zPb:dS Tryz.prog 153=some [(Value.int IntKind.i64 0),(Value.slice none 0 0),(Value.string (ByteArray.mk #[])),(Value.slice none 0 0)]:=by kernel_rfl
theorem expr_operands (op:Int):
    Pur cfg 277 [vI op] (vI (bI op)):=by
 refine zU Tryz.func277 O Tryz.ntmps277 Tryz.results277 O ?_
 exact n7
theorem wC (e:Ex):
    Pur cfg 171 [vE e] (vB (bC e)):=by
 refine zU Tryz.func171 O Tryz.ntmps171 Tryz.results171 O ?_
 intro z hz
 refine R O<|zV O O (qO O O) ?_
 rintro _ _ ⟨b1,rfl,rfl⟩
 refine G O<|zA<|R O<|zG O kS<|zH one3 (Y 0 O) O<|zW O (kQ O O O)<|G O<|rL0 O (fun g1_3=>zD O kS O) O<|A 7 O (fun g1_3=>zF O one3 O (Y 0 O) O) O<|A 8 O (fun g1_3=>kQ O O O) O<|yK O (fun h=>h)<|G O<|zA<|zK<|zR O ?_
 exact O
theorem zOj (op:Int):
    Pur cfg 257 [vI op] (vI (bI op)):=by
 refine zU Tryz.func257 O Tryz.ntmps257 Tryz.results257 O ?_
 exact n7
theorem kT (e:Ex):
    Pur cfg 159 [vE e] (vB (bC e)):=by
 refine zU Tryz.func159 O Tryz.ntmps159 Tryz.results159 O ?_
 intro z hz
 refine R O<|zV O O (qO O O) ?_
 rintro _ _ ⟨b1,rfl,rfl⟩
 refine G O<|zA<|R O<|zG O kS<|zH one3 (Y 0 O) O<|zW O (kN O O O)<|G O<|rL0 O (fun g1_3=>zD O kS O) O<|A 7 O (fun g1_3=>zF O one3 O (Y 0 O) O) O<|A 8 O (fun g1_3=>kQ O O O) O<|yK O (fun h=>h)<|G O<|zA<|zK<|zR O ?_
 exact O
theorem zHr (op i:Int):
    Pur cfg 279 [vI op,vI i] (vB (fI op i)):=by
 refine zU Tryz.func279 O Tryz.ntmps279 Tryz.results279 O ?_
 intro z hz
 refine R O<|G O<|zA<|zI<|R O<|G O<|zA<|zP<|zI<|R O<|qZ O<|G O<|zA<|zC O (fun c1=>?_) (fun c1=>?_)
 ·try simp only [sx] at c1
  refine zJ<|zC O (fun c3=>?_) (fun c3=>?_)
  ·try simp only [sx] at c3
   refine R O<|G O<|zA<|zK<|zR O ?_
   exact p9
  ·exact v11
 ·try simp only [sx] at c1
  refine R O<|qZ O<|G O<|zA<|zC O (fun c2=>?_) (fun c2=>?_)
  ·try simp only [sx] at c2
   refine zJ<|zC O (fun c3=>?_) (fun c3=>?_)
   ·try simp only [sx] at c3
    refine R O<|G O<|zA<|zK<|zR O ?_
    exact p9
   ·exact v11
  ·try simp only [sx] at c2
   refine zM O<|qZ O<|G O<|zA<|zC O (fun c3=>?_) (fun c3=>?_)
   ·try simp only [sx] at c3
    refine R O<|G O<|zA<|zK<|zR O ?_
    exact p9
   ·exact v11
theorem ref14_wants (op i:Int):
    Pur cfg 258 [vI op,vI i] (vB (fI op i)):=by
 refine zU Tryz.func258 O Tryz.ntmps258 Tryz.results258 O ?_
 intro z hz
 refine R O<|G O<|zA<|R O<|G O<|qZ O<|G O<|rL0 O (fun g1_2=>zN O O) O<|A 8 O (fun g1_2=>yO O O O) O<|yK O (fun h=>h)<|G O<|rL0 O (fun g1_6=>zN O O) O<|A 12 O (fun g1_6=>yO O O O) O<|r_or O (fun h=>(lzf h))<|G O<|rL0 O (fun g1_10=>zN O O) O<|A 16 O (fun g1_10=>yO O O O) O<|r_or O (fun h=>(lzf h))<|G O<|rL0 O (fun g1_14=>zN O O) O<|A 20 O (fun g1_14=>yO O O O) O<|r_or O (fun h=>(lzf h))<|G O<|zA<|zK<|zR O ?_
 exact O
theorem zTc (l:Lf):
    Pur cfg 272 [mD l] (vB (pA l)):=by
 refine zU Tryz.func272 O Tryz.ntmps272 Tryz.results272 O ?_
 intro z hz
 refine R O<|zV O O (qO O O) ?_
 rintro _ _ ⟨b1,rfl,rfl⟩
 refine G O<|zA<|R O<|zG O zKb<|zH W (Y 0 O) O<|qZ O<|G O<|rL0 O (fun g1_3=>zD O zAy O) O<|A 7 O (fun g1_3=>zF O zDz O (Y 0 O) O) O<|A 8 O (fun g1_3=>yW O el52 O) O<|A 9 O (fun g1_3=>yO O O O) O<|yK O (fun h=>h)<|G O<|zA<|zK<|zR O ?_
 exact O
theorem zTb (x:Ix):
    Pur cfg 275 [hM x] (vB (jX x)):=by
 refine zU Tryz.func275 O Tryz.ntmps275 Tryz.results275 O ?_
 intro z hz
 refine R O<|zV O O (qO O O) ?_
 rintro _ _ ⟨b1,rfl,rfl⟩
 refine G O<|zA<|zI<|R O<|zG O wG<|zH one9 (Y 0 O) O<|zW O (kE O O O)<|zA<|zC O (fun c1=>?_) (fun c1=>?_)
 ·try simp only [sx] at c1
  refine R O<|zG O zAr<|zH zCl (Y 0 O) O<|zZ O zAv<|qZ O<|G O<|zA<|zK<|zR O ?_
  rw [jX,zAh c1];rfl
 ·try simp only [sx] at c1
  refine zJ<|R O<|zG O zCy<|zO zBa (Y 0 O) O<|qN O ok272 (zTc x.Lin) ⟨zB,O,T⟩<|G O<|zA<|zK<|zR O ?_
  rw [jX,yV c1];rfl
theorem expr_syntax_1 (x:Ix):
    Pur cfg 274 [hM x] (vB (!jX x)):=by
 refine zU Tryz.func274 O Tryz.ntmps274 Tryz.results274 O ?_
 intro z hz
 refine R O<|zV O O (qO O O) ?_
 rintro _ _ ⟨b1,rfl,rfl⟩
 refine G O<|zA<|R O<|zO zDc (Y 0 O) O<|qN O ok275 (zTb x) ⟨zB,O,T⟩<|kP O<|G O<|zA<|zK<|zR O ?_
 exact O
theorem expr_names_1 (x:Ix):
    Pur cfg 276 [hM x] (vB (!sQ x)):=by
 refine zU Tryz.func276 O Tryz.ntmps276 Tryz.results276 O ?_
 intro z hz
 refine R O<|zV O O (qO O O) ?_
 rintro _ _ ⟨b1,rfl,rfl⟩
 refine G O<|zA<|R O<|zG O wG<|zH one9 (Y 0 O) O<|zW O (zAl O O O)<|G O<|rL0 O (fun g1_3=>zD O wG O) O<|A 7 O (fun g1_3=>zF O one9 O (Y 0 O) O) O<|A 8 O (fun g1_3=>qS O ok96 (zDt _) ⟨zB,O,T⟩) O<|A 9 O (fun g1_3=>wA O O) O<|yK O (fun h=>h)<|G O<|zA<|zK<|zR O ?_
 exact congrArg vB (by unfold sQ;simp)
theorem expr_rank_1 (x:Ix):
    Pur cfg 278 [hM x] (vB (!sN x)):=by
 refine zU Tryz.func278 O Tryz.ntmps278 Tryz.results278 O ?_
 intro z hz
 refine R O<|zV O O (qO O O) ?_
 rintro _ _ ⟨b1,rfl,rfl⟩
 refine G O<|zA<|R O<|zG O zAr<|zH zCl (Y 0 O) O<|zZ O zAv<|zW O (yG O O O)<|G O<|zA<|zK<|zR O ?_
 exact congrArg vB (by unfold sN;simp)
theorem expr_syntax (e:Ex) (he:e.wt<=6000000000000):
    Pur cfg 241 [vE e] (vB (jE e)):=by
 refine zU Tryz.func241 O Tryz.ntmps241 Tryz.results241 O ?_
 intro z hz
 obtain ⟨hL,hI,hA⟩:=e.parts he
 refine R O<|zV O O (qO O O) ?_
 rintro _ _ ⟨b1,rfl,rfl⟩
 refine G O<|zA<|zI<|qW 13 mixed (by kernel_rfl) O O<|zL O O (zD O kS O)<|zL O O (zF O one3 O (Y 0 O) O)<|zL O O (yO O O O)<|zL O O (zD O kS O)<|zL O O (zF O one3 O (Y 0 O) O)<|zL O O (yO O O O)<|zL O O (zN O O)<|qJ [] O O O O J T (fun g1_6=>zD O kS O) O<|qJ [(14,_)] O O O O J ⟨O,O,T⟩ (fun g1_6=>zF O one3 O (Y 0 O) O) O<|qJ [(15,_)] O O O O J ⟨O,O,T⟩ (fun g1_6=>yO O O O) O<|zL O O (zAz O O O O (fun h=>(lzf h)))<|zL O O (yU O O)<|zL O O (yU O O)<|yJ<|zA<|zI<|qW 8 mixed (by kernel_rfl) O O<|zL O O (zD O kS O)<|zL O O (zF O one3 O (Y 0 O) O)<|zL O O (yO O O O)<|zL O O (zD O kS O)<|zL O O (zF O one3 O (Y 0 O) O)<|zL O O (yO O O O)<|zL O O (yU O O)<|zL O O (yU O O)<|yJ<|zA<|zI<|zP<|R O<|zG O kS<|zH one3 (Y 0 O) O<|yB O<|G O<|rL0 O (fun g3_3=>zD O kS O) O<|A 29 O (fun g3_3=>zF O one3 O (Y 0 O) O) O<|A 30 O (fun g3_3=>yG O O O) O<|r_or O (fun h=>(lzf h))<|G O<|zA<|zC O (fun c1=>?_) (fun c1=>?_)
 ·refine R O<|G O<|zA<|zK<|zR O ?_
  exact congrArg vB (by simp only [jE,c1,Bool.not_true,Bool.not_false,Bool.true_and,Bool.and_true,Bool.false_and,Bool.and_false])
 ·refine R O<|G O<|kP O<|G O<|rL0 O (fun g5_2=>zD O zIp O) O<|A 37 O (fun g5_2=>qC O zTv O (Y 0 O) O) O<|rL0 O (fun g5_2=>zAb O zr44 pl44 O) O<|rLz [(38,_),(39,_)] O J ⟨O,O,O,O,T⟩ (fun g5_2=>zBk O fl44 O O O) O<|yK O (fun h=>h)<|G O<|zA<|zC O (fun c2=>?_) (fun c2=>?_)
  ·have c2:(!decide (e.Op=1)&& !rW e.Val)=true:=c2
   refine R O<|G O<|zA<|zK<|zR O ?_
   exact congrArg vB (by simp only [jE,c2,Bool.not_true,Bool.not_false,Bool.true_and,Bool.and_true,Bool.false_and,Bool.and_false])
  ·have c2:(!decide (e.Op=1)&& !rW e.Val)=false:=c2
   refine R O<|G O<|kP O<|G O<|rL0 O (fun g7_2=>zD O zCx O) O<|A 46 O (fun g7_2=>qC O yH O (Y 0 O) O) O<|rL0 O (fun g7_2=>zAb O zr31 pl31 O) O<|rLz [(47,_),(48,_)] O J ⟨O,O,O,O,T⟩ (fun g7_2=>zBk O fl31 O O O) O<|yK O (fun h=>h)<|G O<|zA<|zC O (fun c3=>?_) (fun c3=>?_)
   ·have c3:(!(decide (e.Op=1)||decide (e.Op=12))&& !ty0 e.Ty)=true:=c3
    refine R O<|G O<|zA<|zK<|zR O ?_
    exact congrArg vB (by simp only [jE,c3,Bool.not_true,Bool.not_false,Bool.true_and,Bool.and_true,Bool.false_and,Bool.and_false])
   ·have c3:(!(decide (e.Op=1)||decide (e.Op=12))&& !ty0 e.Ty)=false:=c3
    refine R O<|G O<|kP O<|G O<|rL0 O (fun g9_2=>zD O zFc O) O<|A 55 O (fun g9_2=>qC O zBa O (Y 0 O) O) O<|A 56 O (fun g9_2=>qS O ok272 (zTc e.Lin) ⟨zB,O,T⟩) O<|A 57 O (fun g9_2=>wA O O) O<|yK O (fun h=>h)<|G O<|zA<|zC O (fun c4=>?_) (fun c4=>?_)
    ·refine R O<|G O<|zA<|zK<|zR O ?_
     exact congrArg vB (by simp only [jE,c4,Bool.not_true,Bool.not_false,Bool.true_and,Bool.and_true,Bool.false_and,Bool.and_false])
    ·refine R O<|G O<|kP O<|G O<|rL0 O (fun g11_2=>zD O zDg O) O<|A 64 O (fun g11_2=>zF O one9 O (Y 0 O) O) O<|A 65 O (fun g11_2=>zAl O O O) O<|A 66 O (fun g11_2=>zN O O) O<|rLz [] O N T (fun g11_6=>zD O kR O) O<|rLz [(68,_)] O N ⟨O,O,T⟩ (fun g11_6=>zF O wJ O (Y 0 O) O) O<|rLz [(69,_)] O N ⟨O,O,T⟩ (fun g11_6=>yW O el51 O) O<|rLz [(70,_)] O N ⟨O,O,T⟩ (fun g11_6=>yG O O O) O<|A 67 O (fun g11_2=>zAz O O O O (fun h=>kH (by assumption) (lzf h))) O<|yK O (fun h=>h)<|G O<|zA<|zC O (fun c5=>?_) (fun c5=>?_)
     ·refine R O<|G O<|zA<|zK<|zR O ?_
      exact congrArg vB (by simp only [jE,c5,Bool.not_true,Bool.not_false,Bool.true_and,Bool.and_true,Bool.false_and,Bool.and_false])
     ·refine zJ<|R O<|zG O kR<|zH wJ (Y 0 O) O<|qN O ok273 (zBg e.Idx _ (fun x=> !jX x) hI (fun x _=>FnPur.of_pur (first:=[]) (cap:=[]) ok274 (expr_syntax_1 x))) ⟨zB,O,zB,O,T⟩<|kP O<|G O<|zA<|zK<|zR O ?_
      exact congrArg vB (by rw [zBz];simp only [jE,c1,c2,c3,c4,c5,Bool.not_true,Bool.not_false,Bool.true_and,Bool.and_true,Bool.false_and,Bool.and_false])
theorem expr_names (e:Ex) (he:e.wt<=6000000000000):
    Pur cfg 242 [vE e] (vB (mG e)):=by
 refine zU Tryz.func242 O Tryz.ntmps242 Tryz.results242 O ?_
 intro z hz
 obtain ⟨hL,hI,hA⟩:=e.parts he
 refine R O<|zV O O (qO O O) ?_
 rintro _ _ ⟨b1,rfl,rfl⟩
 refine G O<|zA<|zI<|R O<|zG O kS<|zH one3 (Y 0 O) O<|qZ O<|G O<|rL0 O (fun g1_3=>zD O zDg O) O<|A 7 O (fun g1_3=>zF O one9 O (Y 0 O) O) O<|A 8 O (fun g1_3=>qS O ok96 (zDt _) ⟨zB,O,T⟩) O<|A 9 O (fun g1_3=>wA O O) O<|yK O (fun h=>h)<|zA<|zC O (fun c1=>?_) (fun c1=>?_)
 ·refine R O<|G O<|zA<|zK<|zR O ?_
  exact congrArg vB (by simp only [mG,c1,Bool.not_true,Bool.false_and])
 ·refine zJ<|R O<|zG O kR<|zH wJ (Y 0 O) O<|qN O ok273 (zBg e.Idx _ (fun x=> !sQ x) hI (fun x _=>FnPur.of_pur (first:=[]) (cap:=[]) ok276 (expr_names_1 x))) ⟨zB,O,zB,O,T⟩<|kP O<|G O<|zA<|zK<|zR O ?_
  exact congrArg vB (by rw [zBz];simp only [mG,c1,Bool.not_false,Bool.true_and])
theorem expr_rank (e:Ex) (he:e.wt<=6000000000000):
    Pur cfg 243 [vE e] (vB (mZ e)):=by
 refine zU Tryz.func243 O Tryz.ntmps243 Tryz.results243 O ?_
 intro z hz
 obtain ⟨hL,hI,hA⟩:=e.parts he
 refine R O<|zV O O (qO O O) ?_
 rintro _ _ ⟨b1,rfl,rfl⟩
 refine G O<|zA<|zI<|zI<|qW 13 mixed (by kernel_rfl) O O<|zL O O (zD O kO O)<|zL O O (zF O wZ O (Y 0 O) O)<|zL O O (yW O el55 O)<|zL O O (zD O kS O)<|zL O O (zF O one3 O (Y 0 O) O)<|zL O O (qS O ok277 (expr_operands _) ⟨zB,O,T⟩)<|zL O O (zAn O O O)<|zL O O (zN O O)<|qJ [] O O O O J T (fun g1_7=>zD O kR O) O<|qJ [(11,_)] O O O O J ⟨O,O,T⟩ (fun g1_7=>zF O wJ O (Y 0 O) O) O<|qJ [(12,_)] O O O O J ⟨O,O,T⟩ (fun g1_7=>yW O el51 O) O<|qJ [(13,_)] O O O O J ⟨O,O,T⟩ (fun g1_7=>yG O O O) O<|zL O O (zAz O O O O (fun h=>(lzf h)))<|yJ<|zA<|zC O (fun c1=>?_) (fun c1=>?_)
 ·refine R O<|G O<|zA<|zK<|zR O ?_
  exact congrArg vB (by simp only [mZ,c1,Bool.not_true,Bool.false_and])
 ·refine zJ<|R O<|zG O kR<|zH wJ (Y 0 O) O<|qN O ok273 (zBg e.Idx _ (fun x=> !sN x) hI (fun x _=>FnPur.of_pur (first:=[]) (cap:=[]) ok278 (expr_rank_1 x))) ⟨zB,O,zB,O,T⟩<|kP O<|G O<|zA<|zK<|zR O ?_
  exact congrArg vB (by rw [zBz];simp only [mZ,c1,Bool.not_false,Bool.true_and])
theorem expr_types (e:Ex) (he:e.wt<=6000000000000):
    Pur cfg 244 [vE e] (vB (gN e)):=by
 refine zU Tryz.func244 O Tryz.ntmps244 Tryz.results244 O ?_
 intro z hz
 obtain ⟨hL,hI,hA⟩:=e.parts he
 refine R O<|zV O O (qO O O) ?_
 rintro _ _ ⟨b1,rfl,rfl⟩
 refine G O<|zA<|zI<|R O<|zG O kS<|zH one3 (Y 0 O) O<|qZ O<|G O<|rL0 O (fun g1_3=>zD O kS O) O<|A 9 O (fun g1_3=>zF O one3 O (Y 0 O) O) O<|A 10 O (fun g1_3=>yO O O O) O<|r_or O (fun h=>(lzf h))<|G O<|rL0 O (fun g1_8=>zD O zCx O) O<|A 14 O (fun g1_8=>qC O yH O (Y 0 O) O) O<|A 15 O (fun g1_8=>qS O ok39 (zAj _) ⟨zB,O,T⟩) O<|A 16 O (fun g1_8=>zAn O O O) O<|yK O (fun h=>h)<|zA<|zC O (fun c1=>?_) (fun c1=>?_)
 ·rw [tyErr_dec] at c1
  refine R O<|G O<|zA<|zK<|zR O ?_
  exact congrArg vB (by simp only [gN,c1,Bool.not_true,Bool.false_and])
 ·rw [tyErr_dec] at c1
  refine zJ<|zI<|R O<|zG O kO<|zH wZ (Y 0 O) O<|zZ O el55<|G O<|zA<|zP<|zT ⟨[(22,.c _),(1,.c _),(20,.c _),(21,.c _)],[_]⟩ (Weak.mk [true] ⟨zB,zB,zB,zB,T⟩ O)<|qG 1 0 O O (Nat) (fun k=>[(22,vI k)]) (fun k=>[]) (fun k=>k<=e.Args.length/\(fC e.Op 0 e.Args=fC e.Op k (e.Args.drop k))) (fun k=>e.Args.length-k) ⟨0,⟨by omega,O⟩,Weak.mk [true] ⟨zB,zB,zB,zB,T⟩ O⟩ ?_
  rintro k ⟨hk,hp⟩
  refine R O<|yB O<|zA<|zI<|zC O (fun c2=>?_) (fun c2=>?_)
  ·try simp only [sx] at c2
   obtain ⟨a,ha⟩:=qU e.Args k (by omega)
   refine zJ<|zI<|zP<|R O<|G O<|qD O el55 (by omega) (zAa (by assumption))<|zO yP zQ O<|zV O O (qR [none,none,none,none,none,none,none,none,none,none,some 2,some 4,some 13] O zr57 O) ?_
   rintro _ _ ⟨b2,rfl,rfl⟩
   refine G O<|D 0 sz57 O<|zA<|zI<|qW 7 mixed (by kernel_rfl) O O<|zL O O (qC O yP O (Y 0 O) O)<|zL O O (qS O ok171 (wC a) ⟨zB,O,T⟩)<|zL O O (zD O kS O)<|zL O O (zF O one3 O (Y 1 O) O)<|zL O O (zN O O)<|zL O O (qS O ok279 (zHr _ _) ⟨zB,O,zB,O,T⟩)<|zL O O (det_bneq O un4 O O)<|yJ<|zA<|zC O (fun c3=>?_) (fun c3=>?_)
   ·exact v39
   ·refine zJ<|zM O<|qB O ⟨by omega,by omega⟩<|G O<|zA ?_
    refine ⟨k+1,⟨by omega,(by rw [hp,qY ha,fC,show (bC a==fI e.Op k)=true by simpa using c3,Bool.true_and];rfl)⟩,(by omega),Weak.mk [false,true] ⟨zB,zB,zB,zB,T⟩ O⟩
  ·try simp only [sx] at c2
   refine qH<|R O<|G O<|zA<|zK<|zR O ?_
   exact congrArg vB (by simp only [gN,c1,Bool.not_false,Bool.true_and];rw [hp,kV (by omega)];rfl)
theorem ref14_typed (e:Ex) (he:e.wt<=6000000000000):
    Pur cfg 236 [vE e] (vB (gN e)):=by
 refine zU Tryz.func236 O Tryz.ntmps236 Tryz.results236 O ?_
 intro z hz
 obtain ⟨hL,hI,hA⟩:=e.parts he
 refine R O<|zV O O (qO O O) ?_
 rintro _ _ ⟨b1,rfl,rfl⟩
 refine G O<|zA<|zI<|R O<|zG O kS<|zH one3 (Y 0 O) O<|qZ O<|G O<|rL0 O (fun g1_3=>zD O kS O) O<|A 8 O (fun g1_3=>zF O one3 O (Y 0 O) O) O<|A 9 O (fun g1_3=>yO O O O) O<|r_or O (fun h=>(lzf h))<|G O<|rL0 O (fun g1_8=>zD O zCx O) O<|A 13 O (fun g1_8=>qC O yH O (Y 0 O) O) O<|A 14 O (fun g1_8=>qS O ok121 (base_Type _) ⟨zB,O,T⟩) O<|A 15 O (fun g1_8=>wA O O) O<|yK O (fun h=>h)<|zA<|zC O (fun c1=>?_) (fun c1=>?_)
 ·refine R O<|G O<|zA<|zK<|zR O ?_
  exact congrArg vB (by simp only [gN,c1,Bool.not_true,Bool.false_and])
 ·refine zJ<|zI<|R O<|G O<|zA<|zP<|zT ⟨[(3,.c _),(1,.c _)],[_]⟩ (Weak.mk [true] ⟨zB,zB,T⟩ O)<|qG 1 0 O O (Nat) (fun k=>[(3,vI k)]) (fun k=>[]) (fun k=>k<=e.Args.length/\(fC e.Op 0 e.Args=fC e.Op k (e.Args.drop k))) (fun k=>e.Args.length-k) ⟨0,⟨by omega,O⟩,Weak.mk [true] ⟨zB,zB,T⟩ O⟩ ?_
  rintro k ⟨hk,hp⟩
  refine zI<|R O<|G O<|zG O kO<|zH wZ (Y 0 O) O<|zZ O el55<|yB O<|zA<|zC O (fun c2=>?_) (fun c2=>?_)
  ·try simp only [sx] at c2
   obtain ⟨a,ha⟩:=qU e.Args k (by omega)
   refine zJ<|zI<|zP<|zI<|qW 11 mixed (by kernel_rfl) O O<|zL O O (zD O kO O)<|zL O O (zF O wZ O (Y 0 O) O)<|zL O O (zN O O)<|zL O O (qL O el55 O O (by omega) (zAa (by assumption)))<|zL O O (qC O yP O zQ O)<|zL O O (qS O ok159 (kT a) ⟨zB,O,T⟩)<|zL O O (zD O kS O)<|zL O O (zF O one3 O (Y 0 O) O)<|zL O O (zN O O)<|zL O O (qS O ok258 (ref14_wants _ _) ⟨zB,O,zB,O,T⟩)<|zL O O (det_bneq O un4 O O)<|yJ<|zA<|zC O (fun c3=>?_) (fun c3=>?_)
   ·exact v39
   ·refine zJ<|zM O<|G O<|qB O ⟨by omega,by omega⟩<|G O<|zA ?_
    refine ⟨k+1,⟨by omega,(by rw [hp,qY ha,fC,show (bC a==fI e.Op k)=true by simpa using c3,Bool.true_and];rfl)⟩,(by omega),Weak.mk [true] ⟨zB,zB,T⟩ O⟩
  ·try simp only [sx] at c2
   refine qH<|R O<|G O<|zA<|zK<|zR O ?_
   exact congrArg vB (by simp only [gN,c1,Bool.not_false,Bool.true_and];rw [hp,kV (by omega)];rfl)
theorem ref14_plain (e:Ex) (he:e.wt<=6000000000000):
    Pur cfg 233 [vE e] (vB (jE e)):=by
 refine zU Tryz.func233 O Tryz.ntmps233 Tryz.results233 O ?_
 intro z hz
 obtain ⟨hL,hI,hA⟩:=e.parts he
 refine R O<|zV O O (qO O O) ?_
 rintro _ _ ⟨b1,rfl,rfl⟩
 refine G O<|zA<|zI<|R O<|zG O kS<|zH one3 (Y 0 O) O<|yB O<|G O<|rL0 O (fun g1_3=>zD O kS O) O<|A 9 O (fun g1_3=>zF O one3 O (Y 0 O) O) O<|A 10 O (fun g1_3=>yG O O O) O<|r_or O (fun h=>(lzf h))<|zA<|zC O (fun c1=>?_) (fun c1=>?_)
 ·refine R O<|G O<|zA<|zK<|zR O ?_
  exact congrArg vB (by simp only [jE,c1,Bool.not_true,Bool.false_and])
 ·refine zJ<|zI<|R O<|zG O kS<|zH one3 (Y 0 O) O<|kU O<|G O<|rL0 O (fun g3_3=>zD O zIp O) O<|A 17 O (fun g3_3=>qC O zTv O (Y 0 O) O) O<|rL0 O (fun g3_3=>zAb O zr44 pl44 O) O<|rLz [(18,_),(19,_)] O J ⟨O,O,O,O,T⟩ (fun g3_3=>zBk O fl44 O O O) O<|yK O (fun h=>h)<|G O<|rL0 O (fun g3_9=>zD O kS O) O<|A 23 O (fun g3_9=>zF O one3 O (Y 0 O) O) O<|A 24 O (fun g3_9=>zAn O O O) O<|A 25 O (fun g3_9=>zN O O) O<|rLz [] O N T (fun g3_13=>zD O kS O) O<|rLz [(27,_)] O N ⟨O,O,T⟩ (fun g3_13=>zF O one3 O (Y 0 O) O) O<|rLz [(28,_)] O N ⟨O,O,T⟩ (fun g3_13=>zAn O O O) O<|A 26 O (fun g3_9=>wU O O O (fun h=>kH (by assumption) h) O) O<|A 30 O (fun g3_9=>zN O O) O<|rLz [] O N T (fun g3_18=>zD O zCx O) O<|rLz [(32,_)] O N ⟨O,O,T⟩ (fun g3_18=>qC O yH O (Y 0 O) O) O<|rLz [] O N T (fun g3_18=>zAb O zr31 pl31 O) O<|rLz [(33,_),(34,_)] O N ⟨O,O,O,O,T⟩ (fun g3_18=>zBk O fl31 O O O) O<|A 31 O (fun g3_9=>wU O O O (fun h=>kH (by assumption) h) O) O<|r_or O (fun h=>(lzf h))<|zA<|zC O (fun c2=>?_) (fun c2=>?_)
  ·have h2:=plain2 (e:=e) c2
   refine R O<|G O<|zA<|zK<|zR O ?_
   exact congrArg vB (syn2 h2)
  ·have h2:=plain2 (e:=e) c2
   refine zJ<|zI<|R O<|zG O kS<|zH one3 (Y 0 O) O<|kU O<|G O<|rL0 O (fun g5_3=>zD O zFc O) O<|A 42 O (fun g5_3=>zD O zKb O) O<|A 43 O (fun g5_3=>zF O W O (Y 0 O) O) O<|A 44 O (fun g5_3=>zAn O O O) O<|A 45 O (fun g5_3=>zN O O) O<|rLz [] O N T (fun g5_8=>zD O zFc O) O<|rLz [(47,_)] O N ⟨O,O,T⟩ (fun g5_8=>zD O zAy O) O<|rLz [(48,_)] O N ⟨O,O,T⟩ (fun g5_8=>zF O zDz O (Y 0 O) O) O<|rLz [(49,_)] O N ⟨O,O,T⟩ (fun g5_8=>yW O el52 O) O<|rLz [(50,_)] O N ⟨O,O,T⟩ (fun g5_8=>yG O O O) O<|A 46 O (fun g5_3=>zAz O O O O (fun h=>kH (by assumption) (lzf h))) O<|yK O (fun h=>h)<|G O<|rL0 O (fun g5_16=>zD O kS O) O<|A 55 O (fun g5_16=>zF O one3 O (Y 0 O) O) O<|A 56 O (fun g5_16=>zAn O O O) O<|A 57 O (fun g5_16=>zN O O) O<|rLz [] O N T (fun g5_20=>zD O zDg O) O<|rLz [(59,_)] O N ⟨O,O,T⟩ (fun g5_20=>zF O one9 O (Y 0 O) O) O<|rLz [(60,_)] O N ⟨O,O,T⟩ (fun g5_20=>zAl O O O) O<|rLz [(61,_)] O N ⟨O,O,T⟩ (fun g5_20=>zN O O) O<|rLz [] O N T (fun g5_24=>zD O kR O) O<|rLz [(63,_)] O N ⟨O,O,T⟩ (fun g5_24=>zF O wJ O (Y 0 O) O) O<|rLz [(64,_)] O N ⟨O,O,T⟩ (fun g5_24=>yW O el51 O) O<|rLz [(65,_)] O N ⟨O,O,T⟩ (fun g5_24=>yG O O O) O<|rLz [(62,_)] O N ⟨O,O,T⟩ (fun g5_20=>zAz O O O O (fun h=>kH (by assumption) (lzf h))) O<|A 58 O (fun g5_16=>wU O O O (fun h=>kH (by assumption) h) O) O<|r_or O (fun h=>(lzf h))<|zA<|zC O (fun c3=>?_) (fun c3=>?_)
   ·have h3:=plain3 (e:=e) c3
    refine R O<|G O<|zA<|zK<|zR O ?_
    exact congrArg vB (syn3 h3)
   ·have h3:=plain3 (e:=e) c3
    refine zJ<|zI<|R O<|G O<|zA<|zP<|zT ⟨[(3,.c _),(1,.c _)],[_]⟩ (Weak.mk [true] ⟨zB,zB,T⟩ O)<|qG 1 0 O O (Nat) (fun k=>[(3,vI k)]) (fun k=>[]) (fun k=>k<=e.Idx.length/\(e.Idx.all jX=(e.Idx.drop k).all jX)) (fun k=>e.Idx.length-k) ⟨0,⟨by omega,O⟩,Weak.mk [true] ⟨zB,zB,T⟩ O⟩ ?_
    rintro k ⟨hk,hp⟩
    refine zI<|R O<|G O<|zG O kR<|zH wJ (Y 0 O) O<|zZ O el51<|yB O<|zA<|zC O (fun c4=>?_) (fun c4=>?_)
    ·try simp only [sx] at c4
     obtain ⟨x,hx⟩:=qU e.Idx k (by omega)
     refine zJ<|zI<|zP<|R O<|zG O kR<|zH wJ (Y 0 O) O<|G O<|qD O el51 (by omega) (B (by assumption))<|zO zDc zQ O<|zV O O (qR [none,some 2,none,some 2] O zPb O) ?_
     rintro _ _ ⟨b2,rfl,rfl⟩
     refine D 0 zPc O<|zA<|R O<|zG O wG<|zH one9 (Y 0 O) O<|zW O (kE O O O)<|G O<|rL0 O (fun g11_3=>zD O zAr O) O<|A 86 O (fun g11_3=>zF O zCl O (Y 0 O) O) O<|A 87 O (fun g11_3=>yW O zAv O) O<|A 88 O (fun g11_3=>yG O O O) O<|yK O (fun h=>h)<|G O<|rL0 O (fun g11_9=>zD O wG O) O<|A 92 O (fun g11_9=>zF O one9 O (Y 0 O) O) O<|A 93 O (fun g11_9=>zAl O O O) O<|A 94 O (fun g11_9=>zN O O) O<|rLz [] O N T (fun g11_13=>zD O zCy O) O<|rLz [(96,_)] O N ⟨O,O,T⟩ (fun g11_13=>zD O zKb O) O<|rLz [(97,_)] O N ⟨O,O,T⟩ (fun g11_13=>zF O W O (Y 0 O) O) O<|rLz [(98,_)] O N ⟨O,O,T⟩ (fun g11_13=>zAn O O O) O<|rLz [(99,_)] O N ⟨O,O,T⟩ (fun g11_13=>zN O O) O<|rLz [] O N T (fun g11_18=>zD O zCy O) O<|rLz [(101,_)] O N ⟨O,O,T⟩ (fun g11_18=>zD O zAy O) O<|rLz [(102,_)] O N ⟨O,O,T⟩ (fun g11_18=>zF O zDz O (Y 0 O) O) O<|rLz [(103,_)] O N ⟨O,O,T⟩ (fun g11_18=>yW O el52 O) O<|rLz [(104,_)] O N ⟨O,O,T⟩ (fun g11_18=>yG O O O) O<|rLz [(100,_)] O N ⟨O,O,T⟩ (fun g11_13=>zAz O O O O (fun h=>kH (by assumption) (lzf h))) O<|A 95 O (fun g11_9=>wU O O O (fun h=>kH (by assumption) h) O) O<|r_or O (fun h=>(lzf h))<|zA<|zC O (fun c5=>?_) (fun c5=>?_)
     ·have h5:=well_dec (x:=x) c5
      refine R O<|G O<|zA<|zK<|zR O ?_
      exact congrArg vB (by rw [jE,zPa hx (p:=jX) (by simpa using h5)];simp)
     ·have h5:=well_dec (x:=x) c5
      refine zJ<|zM O<|G O<|qB O ⟨by omega,by omega⟩<|G O<|zA ?_
      refine ⟨k+1,⟨by omega,zQq hx hp (by simpa using h5)⟩,(by omega),Weak.mk [false,true] ⟨zB,zB,T⟩ O⟩
    ·try simp only [sx] at c4
     refine qH<|R O<|G O<|zA<|zK<|zR O ?_
     exact congrArg vB (syn5 c1 h2 h3 (all_end hp (by omega)))
theorem ref14_named (e:Ex) (he:e.wt<=6000000000000):
    Pur cfg 234 [vE e] (vB (mG e)):=by
 refine zU Tryz.func234 O Tryz.ntmps234 Tryz.results234 O ?_
 intro z hz
 obtain ⟨hL,hI,hA⟩:=e.parts he
 refine R O<|zV O O (qO O O) ?_
 rintro _ _ ⟨b1,rfl,rfl⟩
 refine G O<|zA<|zI<|R O<|zG O kS<|zH one3 (Y 0 O) O<|qZ O<|G O<|rL0 O (fun g1_3=>zD O zDg O) O<|A 8 O (fun g1_3=>zF O one9 O (Y 0 O) O) O<|A 9 O (fun g1_3=>qS O ok120 (zIy _) ⟨zB,O,T⟩) O<|A 10 O (fun g1_3=>wA O O) O<|yK O (fun h=>h)<|zA<|zC O (fun c1=>?_) (fun c1=>?_)
 ·refine R O<|G O<|zA<|zK<|zR O ?_
  exact congrArg vB (by simp only [mG,c1,Bool.not_true,Bool.false_and])
 ·refine zJ<|zI<|R O<|G O<|zA<|zP<|zT ⟨[(3,.c _),(1,.c _)],[_]⟩ (Weak.mk [true] ⟨zB,zB,T⟩ O)<|qG 1 0 O O (Nat) (fun k=>[(3,vI k)]) (fun k=>[]) (fun k=>k<=e.Idx.length/\(e.Idx.all sQ=(e.Idx.drop k).all sQ)) (fun k=>e.Idx.length-k) ⟨0,⟨by omega,O⟩,Weak.mk [true] ⟨zB,zB,T⟩ O⟩ ?_
  rintro k ⟨hk,hp⟩
  refine zI<|R O<|G O<|zG O kR<|zH wJ (Y 0 O) O<|zZ O el51<|yB O<|zA<|zC O (fun c2=>?_) (fun c2=>?_)
  ·try simp only [sx] at c2
   obtain ⟨x,hx⟩:=qU e.Idx k (by omega)
   refine zJ<|zI<|zP<|R O<|zG O kR<|zH wJ (Y 0 O) O<|G O<|qD O el51 (by omega) (B (by assumption))<|zX O wG<|zH one9 zQ O<|zW O (zAl O O O)<|G O<|rL0 O (fun g6_7=>zD O kR O) O<|A 28 O (fun g6_7=>zF O wJ O (Y 0 O) O) O<|rL0 O (fun g6_7=>zN O O) O<|rLz [(29,_),(30,_)] O J ⟨O,O,O,O,T⟩ (fun g6_7=>qL O el51 O O (by omega) (B (by assumption))) O<|A 31 O (fun g6_7=>qF O wG O) O<|A 32 O (fun g6_7=>zF O one9 O zQ O) O<|A 33 O (fun g6_7=>qS O ok120 (zIy _) ⟨zB,O,T⟩) O<|A 34 O (fun g6_7=>wA O O) O<|yK O (fun h=>h)<|zA<|zC O (fun c3=>?_) (fun c3=>?_)
   ·refine R O<|G O<|zA<|zK<|zR O ?_
    exact congrArg vB (by rw [mG,zPa hx (p:=sQ) (by unfold sQ;rw [c3];rfl)];simp)
   ·refine zJ<|zM O<|G O<|qB O ⟨by omega,by omega⟩<|G O<|zA ?_
    refine ⟨k+1,⟨by omega,zQq hx hp (by unfold sQ;rw [c3];rfl)⟩,(by omega),Weak.mk [true] ⟨zB,zB,T⟩ O⟩
  ·try simp only [sx] at c2
   refine qH<|R O<|G O<|zA<|zK<|zR O ?_
   exact congrArg vB (by rw [mG,c1,all_end hp (by omega)];rfl)
theorem ref14_ranked (e:Ex) (he:e.wt<=6000000000000):
    Pur cfg 235 [vE e] (vB (mZ e)):=by
 refine zU Tryz.func235 O Tryz.ntmps235 Tryz.results235 O ?_
 intro z hz
 obtain ⟨hL,hI,hA⟩:=e.parts he
 refine R O<|zV O O (qO O O) ?_
 rintro _ _ ⟨b1,rfl,rfl⟩
 refine G O<|zA<|zI<|zI<|qW 13 mixed (by kernel_rfl) O O<|zL O O (zD O kO O)<|zL O O (zF O wZ O (Y 0 O) O)<|zL O O (yW O el55 O)<|zL O O (zD O kS O)<|zL O O (zF O one3 O (Y 0 O) O)<|zL O O (qS O ok257 (zOj _) ⟨zB,O,T⟩)<|zL O O (zAn O O O)<|zL O O (zN O O)<|qJ [] O O O O J T (fun g1_7=>zD O kR O) O<|qJ [(12,_)] O O O O J ⟨O,O,T⟩ (fun g1_7=>zF O wJ O (Y 0 O) O) O<|qJ [(13,_)] O O O O J ⟨O,O,T⟩ (fun g1_7=>yW O el51 O) O<|qJ [(14,_)] O O O O J ⟨O,O,T⟩ (fun g1_7=>yG O O O) O<|zL O O (zAz O O O O (fun h=>(lzf h)))<|yJ<|zA<|zC O (fun c1=>?_) (fun c1=>?_)
 ·refine R O<|G O<|zA<|zK<|zR O ?_
  exact congrArg vB (by simp only [mZ,c1,Bool.not_true,Bool.false_and])
 ·refine zJ<|zI<|R O<|G O<|zA<|zP<|zT ⟨[(3,.c _),(1,.c _)],[_]⟩ (Weak.mk [true] ⟨zB,zB,T⟩ O)<|qG 1 0 O O (Nat) (fun k=>[(3,vI k)]) (fun k=>[]) (fun k=>k<=e.Idx.length/\(e.Idx.all sN=(e.Idx.drop k).all sN)) (fun k=>e.Idx.length-k) ⟨0,⟨by omega,O⟩,Weak.mk [true] ⟨zB,zB,T⟩ O⟩ ?_
  rintro k ⟨hk,hp⟩
  refine zI<|R O<|G O<|zG O kR<|zH wJ (Y 0 O) O<|zZ O el51<|yB O<|zA<|zC O (fun c2=>?_) (fun c2=>?_)
  ·try simp only [sx] at c2
   obtain ⟨x,hx⟩:=qU e.Idx k (by omega)
   refine zJ<|zI<|zP<|R O<|zG O kR<|zH wJ (Y 0 O) O<|G O<|qD O el51 (by omega) (B (by assumption))<|zX O zAr<|zH zCl zQ O<|zZ O zAv<|zW O (yG O O O)<|zA<|zC O (fun c3=>?_) (fun c3=>?_)
   ·refine R O<|G O<|zA<|zK<|zR O ?_
    exact congrArg vB (by rw [mZ,zPa hx (p:=sN) (by unfold sN;rw [c3];rfl)];simp)
   ·refine zJ<|zM O<|G O<|qB O ⟨by omega,by omega⟩<|G O<|zA ?_
    refine ⟨k+1,⟨by omega,zQq hx hp (by unfold sN;rw [c3];rfl)⟩,(by omega),Weak.mk [true] ⟨zB,zB,T⟩ O⟩
  ·try simp only [sx] at c2
   refine qH<|R O<|G O<|zA<|zK<|zR O ?_
   exact congrArg vB (by rw [mZ,c1,all_end hp (by omega)];rfl)
theorem ref14_formed (e:Ex) (he:e.wt<=6000000000000) (hty:e.Op=1->dO e.Ty=true):
    Pur cfg 237 [vE e] (vB (jJ e)):=by
 refine zU Tryz.func237 O Tryz.ntmps237 Tryz.results237 O ?_
 intro z hz
 obtain ⟨hL,hI,hA⟩:=e.parts he
 refine R O<|zV O O (qO O O) ?_
 rintro _ _ ⟨b1,rfl,rfl⟩
 refine G O<|zA<|zI<|R O<|zG O kS<|zH one3 (Y 0 O) O<|qZ O<|G O<|rL0 O (fun g1_3=>zD O zCx O) O<|A 9 O (fun g1_3=>qC O yH O (Y 0 O) O) O<|rL0 O (fun g1_3=>zD O zIp O) O<|A 11 O (fun g1_3=>qC O zTv O (Y 0 O) O) O<|rLz [(10,_),(12,_)] O J ⟨O,O,O,O,T⟩ (fun g1_3=>qS O ok259 (base_Val e.Ty e.Val (hty (by simp only [Lz,cond_true,cond_false,Bool.and_eq_true,Bool.or_eq_true,Bool.not_eq_true',Bool.not_eq_false',Bool.or_eq_false_iff,Bool.and_eq_false_iff,decide_eq_true_eq,decide_eq_false_iff_not,Bool.not_eq_true,Bool.not_eq_false] at g1_3;exact g1_3))) ⟨zB,O,zB,O,T⟩) O<|A 13 O (fun g1_3=>wA O O) O<|yK O (fun h=>h)<|G O<|rL0 O (fun g1_11=>zD O zFc O) O<|A 17 O (fun g1_11=>qC O zBa O (Y 0 O) O) O<|A 18 O (fun g1_11=>qS O ok260 (zGz e.Lin hL) ⟨zB,O,T⟩) O<|A 19 O (fun g1_11=>wA O O) O<|r_or O (fun h=>(lzf h))<|zA<|zC O (fun c1=>?_) (fun c1=>?_)
 ·refine R O<|G O<|zA<|zK<|zR O ?_
  exact congrArg vB (form_no c1)
 ·refine zJ<|zI<|R O<|G O<|zA<|zP<|zT ⟨[(3,.c _),(1,.c _)],[_]⟩ (Weak.mk [true] ⟨zB,zB,T⟩ O)<|qG 1 0 O O (Nat) (fun k=>[(3,vI k)]) (fun k=>[]) (fun k=>k<=e.Idx.length/\((jC e).all gD=((e.Idx.drop k).flatMap fun x=>x.Lin::x.At).all gD)) (fun k=>e.Idx.length-k) ⟨0,⟨by omega,form_start c1⟩,Weak.mk [true] ⟨zB,zB,T⟩ O⟩ ?_
  rintro k ⟨hk,hp⟩
  refine zI<|R O<|G O<|zG O kR<|zH wJ (Y 0 O) O<|zZ O el51<|yB O<|zA<|zC O (fun c2=>?_) (fun c2=>?_)
  ·try simp only [sx] at c2
   obtain ⟨x,hx⟩:=qU e.Idx k (by omega)
   have hxw:=Ex.idx_wt (qA hx)
   refine zJ<|zI<|zP<|zI<|R O<|zG O kR<|zH wJ (Y 0 O) O<|G O<|qD O el51 (by omega) (B (by assumption))<|zX O zCy<|zO zBa zQ O<|qN O ok260 (zGz x.Lin (by omega)) ⟨zB,O,T⟩<|kP O<|zA<|zC O (fun c3=>?_) (fun c3=>?_)
   ·try simp only [sx] at c3
    refine R O<|G O<|zA<|zK<|zR O ?_
    exact congrArg vB (form_no2 hp (by rw [qY hx,List.flatMap_cons,List.all_append,List.all_cons,c3];rfl))
   ·try simp only [sx] at c3
    refine zJ<|R O<|G O<|zA<|zP<|zT ⟨[(4,.c _),(1,.c _),(3,.c _)],[_]⟩ (Weak.mk [true] ⟨zB,zB,zB,T⟩ O)<|qG 1 0 O O (Nat) (fun j=>[(4,vI j)]) (fun j=>[]) (fun j=>j<=x.At.length/\(x.At.all gD=(x.At.drop j).all gD)) (fun j=>x.At.length-j) ⟨0,⟨by omega,O⟩,Weak.mk [true] ⟨zB,zB,zB,T⟩ O⟩ ?_
    rintro j ⟨hj,hq⟩
    refine zI<|R O<|G O<|zG O kR<|zH wJ (Y 0 O) O<|G O<|qD O el51 (by omega) (B (by assumption))<|zX O zAr<|zH zCl zQ O<|zZ O zAv<|yB O<|zA<|zC O (fun c4=>?_) (fun c4=>?_)
    ·try simp only [sx] at c4
     obtain ⟨l,hl⟩:=qU x.At j (by omega)
     have hlw:=zCn (qA hl)
     refine zJ<|zI<|zP<|R O<|zG O kR<|zH wJ (Y 0 O) O<|G O<|qD O el51 (by omega) (B (by assumption))<|zX O zAr<|zH zCl zQ O<|G O<|qD O zAv (by omega) (B (by assumption))<|zO zBa zQ O<|qN O ok260 (zGz l (by omega)) ⟨zB,O,T⟩<|kP O<|zA<|zC O (fun c5=>?_) (fun c5=>?_)
     ·try simp only [sx] at c5
      refine R O<|G O<|zA<|zK<|zR O ?_
      exact congrArg vB (form_no2 hp (by rw [qY hx,List.flatMap_cons,List.all_append,List.all_cons,zPa hl (p:=gD) c5];simp))
     ·try simp only [sx] at c5
      refine zJ<|zM O<|G O<|qB O ⟨by omega,by omega⟩<|G O<|zA ?_
      refine ⟨j+1,⟨by omega,zQq hl hq c5⟩,(by omega),Weak.mk [true] ⟨zB,zB,zB,T⟩ O⟩
    ·try simp only [sx] at c4
     refine qH<|zM O<|G O<|qB O ⟨by omega,by omega⟩<|G O<|zA ?_
     refine ⟨k+1,⟨by omega,(by rw [hp,qY hx,List.flatMap_cons,List.all_append,List.all_cons,c3,all_end hq (by omega)];rfl)⟩,(by omega),Weak.mk [true] ⟨zB,zB,T⟩ O⟩
  ·try simp only [sx] at c2
   refine qH<|R O<|G O<|zA<|zK<|zR O ?_
   exact congrArg vB (form_yes c1 (by rw [hp,kV (by omega)];rfl))
theorem zRu (e:Ex) (ih:∀a,a∈e.Args->a.wt<=6000000000000->Pur cfg 205 [vE a] (vI (fN a))) (he:e.wt<=6000000000000):
    Pur cfg 205 [vE e] (vI (fN e)):=by
 refine zU Tryz.func205 O Tryz.ntmps205 Tryz.results205 O ?_
 intro z hz
 obtain ⟨hL,hI,hA⟩:=e.parts he
 refine R O<|zV O O (qO O O) ?_
 rintro _ _ ⟨b1,rfl,rfl⟩
 refine G O<|zA<|zI<|zP<|R O<|zO yP (Y 0 O) O<|qN O ok233 (ref14_plain e he) ⟨zB,O,T⟩<|kP O<|G O<|zA<|zC O (fun c1=>?_) (fun c1=>?_)
 ·try simp only [sx] at c1
  refine R O<|G O<|zA<|zK<|zR O ?_
  exact congrArg vI (by rw [zEy,show bU e=5 by simp only [bU,c1];rfl];rfl)
 ·try simp only [sx] at c1
  refine R O<|zO yP (Y 0 O) O<|qN O ok234 (ref14_named e he) ⟨zB,O,T⟩<|kP O<|G O<|zA<|zC O (fun c2=>?_) (fun c2=>?_)
  ·try simp only [sx] at c2
   refine R O<|G O<|zA<|zK<|zR O ?_
   exact congrArg vI (by rw [zEy,show bU e=7 by simp only [bU,c1,c2];rfl];rfl)
  ·try simp only [sx] at c2
   refine R O<|zO yP (Y 0 O) O<|qN O ok235 (ref14_ranked e he) ⟨zB,O,T⟩<|kP O<|G O<|zA<|zC O (fun c3=>?_) (fun c3=>?_)
   ·try simp only [sx] at c3
    refine R O<|G O<|zA<|zK<|zR O ?_
    exact congrArg vI (by rw [zEy,show bU e=11 by simp only [bU,c1,c2,c3];rfl];rfl)
   ·try simp only [sx] at c3
    refine R O<|zO yP (Y 0 O) O<|qN O ok236 (ref14_typed e he) ⟨zB,O,T⟩<|kP O<|G O<|zA<|zC O (fun c4=>?_) (fun c4=>?_)
    ·try simp only [sx] at c4
     refine R O<|G O<|zA<|zK<|zR O ?_
     exact congrArg vI (by rw [zEy,show bU e=10 by simp only [bU,c1,c2,c3,c4];rfl];rfl)
    ·try simp only [sx] at c4
     refine R O<|zO yP (Y 0 O) O<|qN O ok237 (ref14_formed e he (types_ty c4)) ⟨zB,O,T⟩<|kP O<|G O<|zA<|zC O (fun c5=>?_) (fun c5=>?_)
     ·try simp only [sx] at c5
      refine R O<|G O<|zA<|zK<|zR O ?_
      exact congrArg vI (by rw [zEy,show bU e=1 by simp only [bU,c1,c2,c3,c4,c5];rfl];rfl)
     ·try simp only [sx] at c5
      have hn:bU e=0:=by simp only [bU,c1,c2,c3,c4,c5];rfl
      refine zJ<|zI<|R O<|G O<|zA<|zP<|zT ⟨[(3,.c _),(1,.c _)],[_]⟩ (Weak.mk [true] ⟨zB,zB,T⟩ O)<|qG 1 0 O O (Nat) (fun k=>[(3,vI k)]) (fun k=>[]) (fun k=>k<=e.Args.length/\(rJ e.Args=rJ (e.Args.drop k))) (fun k=>e.Args.length-k) ⟨0,⟨by omega,O⟩,Weak.mk [true] ⟨zB,zB,T⟩ O⟩ ?_
      rintro k ⟨hk,hp⟩
      refine zI<|R O<|G O<|zG O kO<|zH wZ (Y 0 O) O<|zZ O el55<|yB O<|zA<|zC O (fun c6=>?_) (fun c6=>?_)
      ·try simp only [sx] at c6
       obtain ⟨a,ha⟩:=qU e.Args k (by omega)
       refine zJ<|zI<|zP<|R O<|zG O kO<|zH wZ (Y 0 O) O<|G O<|qD O el55 (by omega) (zAa (by assumption))<|zO yP zQ O<|qN O ok205 (ih a (qA ha) (by have:=Ex.arg_wt (qA ha);omega)) ⟨zB,O,T⟩<|G O<|zA<|R O<|G O<|kU O<|zA<|zC O (fun c7=>?_) (fun c7=>?_)
       ·try simp only [sx] at c7
        refine R O<|G O<|G O<|zA<|zK<|zR O ?_
        exact congrArg vI (by rw [zEy e,hn,zAh rfl,cond_true,hp,qY ha,zNp,yV c7];rfl)
       ·try simp only [sx] at c7
        refine zJ<|zM O<|G O<|qB O ⟨by omega,by omega⟩<|G O<|zA ?_
        refine ⟨k+1,⟨by omega,(by rw [hp,qY ha,zNp,zAh c7];rfl)⟩,(by omega),Weak.mk [true] ⟨zB,zB,T⟩ O⟩
      ·try simp only [sx] at c6
       refine qH<|R O<|G O<|zA<|zK<|zR O ?_
       exact congrArg vI (by rw [zEy,hn,zAh rfl,cond_true,hp,kV (by omega)];rfl)
theorem ref14_part (e:Ex) (he:e.wt<=6000000000000):Pur cfg 205 [vE e] (vI (fN e)):=by
  induction e using Ex.ind with
  |_ e ih=>exact zRu e ih he
theorem zIt (n:Nat) (ih:n≠0->∀(a:Ex) (l:Int),a.wt<=6000000000000->l=n->Pur cfg 240 [vE a,vI l] (vI (gG (n-1) a))) (hn:n<=100) (e:Ex) (l:Int) (he:e.wt<=6000000000000) (hl:l=n+1):
    Pur cfg 240 [vE e,vI l] (vI (gG n e)):=by
 refine zU Tryz.func240 O Tryz.ntmps240 Tryz.results240 O ?_
 intro z hz
 obtain ⟨hL,hI,hA⟩:=e.parts he
 refine R O<|zV O O (qO O O) ?_
 rintro _ _ ⟨b1,rfl,rfl⟩
 refine G O<|zA<|zI<|R O<|G O<|zW O (kQ O O O)<|zA<|zC O (fun c1=>?_) (fun c1=>?_)
 ·try simp only [sx] at c1
  obtain rfl:n=0:=by omega
  refine R O<|G O<|G O<|zA<|zK<|zR O ?_
  exact congrArg vI (by rw [hl];rfl)
 ·try simp only [sx] at c1
  obtain ⟨m,rfl⟩:∃m,n=m+1:=⟨n-1,by omega⟩
  refine zJ<|R O<|G O<|zA<|zI<|R O<|zG O kO<|zH wZ (Y 0 O) O<|zZ O el55<|G O<|zA<|zP<|zT ⟨[(14,.c _),(5,.c _),(1,.c _),(12,.c _),(13,.c _)],[]⟩ (Weak.mk [false] ⟨zB,zB,zB,zB,zB,T⟩ O)<|qG 2 0 O O (Nat×Int) (fun ⟨k,d⟩=>[(14,vI k),(5,vI d)]) (fun ⟨k,d⟩=>[]) (fun ⟨k,d⟩=>k<=e.Args.length/\(1<=d)/\(d<=m+2)/\(gG (m+1) e=pP (gG m) d (e.Args.drop k))) (fun ⟨k,d⟩=>e.Args.length-k) ⟨⟨0,1⟩,⟨by omega,by omega,by omega,O⟩,Weak.mk [] ⟨zB,VLe.of_eq (O),zB,zB,zB,T⟩ O⟩ ?_
  rintro ⟨k,d⟩ ⟨hk,hd1,hd2,hd3⟩
  show AWP _ _ _ _ _ ⟨[(14,vI k),(5,vI d)]++_,[]++_⟩
  refine R O<|yB O<|zA<|zI<|zC O (fun c2=>?_) (fun c2=>?_)
  ·try simp only [sx] at c2
   obtain ⟨a,ha⟩:=qU e.Args k (by omega)
   have hda:=depT_le m a
   refine zJ<|zI<|zP<|R O<|qD O el55 (by omega) (zAa (by assumption))<|zO yP zQ O<|zV O O (qR [none,none,none,none,none,none,none,none,none,none,some 2,some 4,some 13] O zr57 O) ?_
   rintro _ _ ⟨b2,rfl,rfl⟩
   refine D 0 sz57 O<|zA<|zM O<|G O<|zO yP (Y 0 O) O<|G O<|yY O ⟨by omega,by omega⟩<|qN O ok240 (show Pur cfg 240 [vE a,vI (l-1)] (vI (gG m a)) from ih (by omega) a _ (by have:=Ex.arg_wt (qA ha);omega) (by omega)) ⟨zB,O,zB,O,T⟩<|qB O ⟨by omega,by omega⟩<|zW O (zFn O O O)<|G O<|zA<|zM O<|qB O ⟨by omega,by omega⟩<|G O<|zA ?_
   refine ⟨⟨k+1,max d (1+gG m a)⟩,⟨by omega,by omega,by omega,by rw [hd3,qY ha,pP]⟩,(by show e.Args.length-(k+1)<e.Args.length-k;omega),Weak.mk [false] ⟨zB,zB,zB,zB,zB,T⟩ O⟩
  ·try simp only [sx] at c2
   refine qH<|R O<|G O<|G O<|zA<|zK<|zR O ?_
   exact congrArg vI (by rw [hd3,kV (by omega)];rfl)
theorem expr_depth (n:Nat) (e:Ex) (l:Int) (hn:n<=100) (he:e.wt<=6000000000000) (hl:l=n+1):Pur cfg 240 [vE e,vI l] (vI (gG n e)):=by
  induction n generalizing e l with
  |zero=>exact zIt 0 (fun h=>absurd rfl h) hn e l he hl
  |succ n ih=>exact zIt (n+1) (fun _ a l h1 h2=>ih a l (by omega) h1 (by omega)) hn e l he hl
theorem zHe (n:Nat) (ih:n≠0->∀(a:Ex) (l:Int),a.wt<=6000000000000->l=n->Pur cfg 231 [vE a,vI l] (vI (gG (n-1) a))) (hn:n<=100) (e:Ex) (l:Int) (he:e.wt<=6000000000000) (hl:l=n+1):
    Pur cfg 231 [vE e,vI l] (vI (gG n e)):=by
 refine zU Tryz.func231 O Tryz.ntmps231 Tryz.results231 O ?_
 intro z hz
 obtain ⟨hL,hI,hA⟩:=e.parts he
 refine R O<|zV O O (qO O O) ?_
 rintro _ _ ⟨b1,rfl,rfl⟩
 refine G O<|zA<|R O<|G O<|zA<|zI<|R O<|G O<|zA<|zP<|zT ⟨[(6,.c _),(5,.c _),(1,.c _),(2,.c _)],[_]⟩ (Weak.mk [true] ⟨zB,zB,zB,zB,T⟩ O)<|qG 2 0 O O (Nat×Int) (fun ⟨k,d⟩=>[(6,vI k),(5,vI d)]) (fun ⟨k,d⟩=>[]) (fun ⟨k,d⟩=>k<=e.Args.length/\(1<=d)/\(d<=n+1)/\(n≠0->gG n e=pP (gG (n-1)) d (e.Args.drop k))/\(n=0->d=1)) (fun ⟨k,d⟩=>e.Args.length-k) ⟨⟨0,1⟩,⟨by omega,by omega,by omega,fun h0=>dep_start h0,fun _=>O⟩,Weak.mk [true] ⟨zB,VLe.of_eq (O),zB,zB,T⟩ O⟩ ?_
 rintro ⟨k,d⟩ ⟨hk,hd1,hd2,hd3,hd4⟩
 show AWP _ _ _ _ _ ⟨[(6,vI k),(5,vI d)]++_,[]++_⟩
 refine zI<|R O<|G O<|zG O kO<|zH wZ (Y 0 O) O<|zZ O el55<|yB O<|G O<|rL0 O (fun g3_5=>zN O O) O<|A 13 O (fun g3_5=>yG O O O) O<|yK O (fun h=>h)<|zA<|zC O (fun c1=>?_) (fun c1=>?_)
 ·try simp only [sx] at c1
  obtain ⟨a,ha⟩:=qU e.Args k (by omega)
  have hda:=depT_le (n-1) a
  refine zJ<|zI<|zP<|zM O<|G O<|zG O kO<|zH wZ (Y 0 O) O<|G O<|qD O el55 (by omega) (zAa (by assumption))<|zO yP zQ O<|G O<|yY O ⟨by omega,by omega⟩<|qN O ok231 (ih (by omega) a _ (by have:=Ex.arg_wt (qA ha);omega) (by omega)) ⟨zB,O,zB,O,T⟩<|qB O ⟨by omega,by omega⟩<|zW O (zFn O O O)<|G O<|zA<|zM O<|G O<|qB O ⟨by omega,by omega⟩<|G O<|zA ?_
  refine ⟨⟨k+1,max d (1+gG (n-1) a)⟩,⟨by omega,by omega,by omega,fun h0=>by rw [hd3 h0,qY ha,pP],fun h0=>by omega⟩,(by show e.Args.length-(k+1)<e.Args.length-k;omega),Weak.mk [true] ⟨zB,zB,zB,zB,T⟩ O⟩
 ·try simp only [sx] at c1
  refine qH<|R O<|G O<|G O<|zA<|zK<|zR O ?_
  exact congrArg vI (dep_end hl (by omega) hd3 hd4)
theorem ref14_depth (n:Nat) (e:Ex) (l:Int) (hn:n<=100) (he:e.wt<=6000000000000) (hl:l=n+1):Pur cfg 231 [vE e,vI l] (vI (gG n e)):=by
  induction n generalizing e l with
  |zero=>exact zHe 0 (fun h=>absurd rfl h) hn e l he hl
  |succ n ih=>exact zHe (n+1) (fun _ a l h1 h2=>ih a l (by omega) h1 (by omega)) hn e l he hl
theorem expr_Depth (e:Ex) (he:e.wt<=6000000000000):
    Pur cfg 211 [vE e] (vI (gG 40 e)):=by
 refine zU Tryz.func211 O Tryz.ntmps211 Tryz.results211 O ?_
 intro z hz
 refine R O<|zV O O (qO O O) ?_
 rintro _ _ ⟨b1,rfl,rfl⟩
 refine G O<|zA<|R O<|zO yP (Y 0 O) O<|qN O ok240 (expr_depth 40 e 41 (by omega) he (by omega)) ⟨zB,O,zB,O,T⟩<|G O<|zA<|zK<|zR O ?_
 exact O
theorem ref14_Depth (e:Ex) (he:e.wt<=6000000000000):
    Pur cfg 203 [vE e] (vI (gG 40 e)):=by
 refine zU Tryz.func203 O Tryz.ntmps203 Tryz.results203 O ?_
 intro z hz
 refine R O<|zV O O (qO O O) ?_
 rintro _ _ ⟨b1,rfl,rfl⟩
 refine G O<|zA<|R O<|zO yP (Y 0 O) O<|qN O ok231 (ref14_depth 40 e 41 (by omega) he (by omega)) ⟨zB,O,zB,O,T⟩<|G O<|zA<|zK<|zR O ?_
 exact O
theorem zRt (e:Ex) (ih:∀a,a∈e.Args->∀(m:Nat) (l:Int),a.wt<=6000000000000->m<=1000000->l=m->Pur cfg 232 [vE a,vI l] (vI (rX a m))) (m:Nat) (l:Int) (he:e.wt<=6000000000000) (hm:m<=1000000) (hl:l=m):
    Pur cfg 232 [vE e,vI l] (vI (rX e m)):=by
 refine zU Tryz.func232 O Tryz.ntmps232 Tryz.results232 O ?_
 intro z hz
 obtain ⟨hL,hI,hA⟩:=e.parts he
 refine R O<|zV O O (qO O O) ?_
 rintro _ _ ⟨b1,rfl,rfl⟩
 refine G O<|zA<|R O<|G O<|zA<|zI<|R O<|G O<|zA<|zP<|zT ⟨[(6,.c _),(5,.c _),(1,.c _),(2,.c _)],[_]⟩ (Weak.mk [true] ⟨zB,zB,zB,zB,T⟩ O)<|qG 2 0 O O (Nat×Nat) (fun ⟨k,n⟩=>[(6,vI k),(5,vI n)]) (fun ⟨k,n⟩=>[]) (fun ⟨k,n⟩=>k<=e.Args.length/\(n<=m+1)/\(rX e m=rG (e.Args.drop k) m n)) (fun ⟨k,n⟩=>e.Args.length-k) ⟨⟨0,1⟩,⟨by omega,by omega,sizE_eq e m⟩,Weak.mk [true] ⟨zB,VLe.of_eq (O),zB,zB,T⟩ O⟩ ?_
 rintro ⟨k,n⟩ ⟨hk,hn1,hn2⟩
 show AWP _ _ _ _ _ ⟨[(6,vI k),(5,vI n)]++_,[]++_⟩
 refine zI<|R O<|G O<|zG O kO<|zH wZ (Y 0 O) O<|zZ O el55<|yB O<|G O<|rL0 O (fun g3_5=>zN O O) O<|rL0 O (fun g3_5=>zN O O) O<|rLz [(13,_),(14,_)] O J ⟨O,O,O,O,T⟩ (fun g3_5=>kQ O O O) O<|yK O (fun h=>h)<|zA<|zC O (fun c1=>?_) (fun c1=>?_)
 ·try simp only [sx] at c1
  obtain ⟨a,ha⟩:=qU e.Args k (by omega)
  have hsa:=sizE_min a (m-n)
  refine zJ<|zI<|zP<|zM O<|G O<|zG O kO<|zH wZ (Y 0 O) O<|G O<|qD O el55 (by omega) (zAa (by assumption))<|zO yP zQ O<|G O<|G O<|yY O ⟨by omega,by omega⟩<|qN O ok232 (ih a (qA ha) (m-n) _ (by have:=Ex.arg_wt (qA ha);omega) (by omega) (by omega)) ⟨zB,O,zB,O,T⟩<|qB O ⟨by omega,by omega⟩<|G O<|zA<|zM O<|G O<|qB O ⟨by omega,by omega⟩<|G O<|zA ?_
  refine ⟨⟨k+1,n+rX a (m-n)⟩,⟨by omega,by omega,by rw [hn2,qY ha,rG,if_pos (by omega)]⟩,(by show e.Args.length-(k+1)<e.Args.length-k;omega),Weak.mk [true] ⟨zB,VLe.of_eq (congrArg vI (by omega)),zB,zB,T⟩ O⟩
 ·try simp only [sx] at c1
  refine qH<|R O<|G O<|G O<|zA<|zK<|zR O ?_
  exact congrArg vI (by rw [hn2];exact congrArg Nat.cast (siz_end hl (by omega)))
theorem ref14_size (e:Ex) (m:Nat) (l:Int) (he:e.wt<=6000000000000) (hm:m<=1000000) (hl:l=m):Pur cfg 232 [vE e,vI l] (vI (rX e m)):=by
  induction e using Ex.ind generalizing m l with
  |_ e ih=>exact zRt e (fun a ha m l h1 h2 h3=>ih a ha m l h1 h2 h3) m l he hm hl
theorem ref14_Size (e:Ex) (he:e.wt<=6000000000000):
    Pur cfg 204 [vE e] (vI (szT e)):=by
 refine zU Tryz.func204 O Tryz.ntmps204 Tryz.results204 O ?_
 intro z hz
 refine R O<|zV O O (qO O O) ?_
 rintro _ _ ⟨b1,rfl,rfl⟩
 refine G O<|zA<|R O<|zO yP (Y 0 O) O<|qN O ok232 (ref14_size e 2000 2000 he (by omega) O) ⟨zB,O,zB,O,T⟩<|zW O (det_min O O O)<|G O<|zA<|zK<|zR O ?_
 exact congrArg vI (by rw [sizE_min,szT];omega)
theorem ref14_Validate (e:Ex) (he:e.wt<=6000000000000):
    Pur cfg 184 [vE e] (vI (fQ e)):=by
 refine zU Tryz.func184 O Tryz.ntmps184 Tryz.results184 O ?_
 intro z hz
 refine R O<|zV O O (qO O O) ?_
 rintro _ _ ⟨b1,rfl,rfl⟩
 refine G O<|zA<|zI<|R O<|zO yP (Y 0 O) O<|qN O ok203 (ref14_Depth e he) ⟨zB,O,T⟩<|zW O (yG O O O)<|zA<|zC O (fun c1=>?_) (fun c1=>?_)
 ·try simp only [sx] at c1
  refine R O<|G O<|zA<|zK<|zR O ?_
  rw [fQ,zAh c1];rfl
 ·try simp only [sx] at c1
  refine zJ<|zI<|R O<|zO yP (Y 0 O) O<|qN O ok204 (ref14_Size e he) ⟨zB,O,T⟩<|zW O (yG O O O)<|zA<|zC O (fun c2=>?_) (fun c2=>?_)
  ·try simp only [sx] at c2
   refine R O<|G O<|zA<|zK<|zR O ?_
   rw [fQ,yV (by omega),zAh c2];rfl
  ·try simp only [sx] at c2
   refine zJ<|R O<|zO yP (Y 0 O) O<|qN O ok205 (ref14_part e he) ⟨zB,O,T⟩<|G O<|zA<|zK<|zR O ?_
   rw [fQ,yV (by omega),yV (by omega)];rfl
end Go.W
