/-
  Walks: what functions of the program compute. Printed by wip/gen/mk2.py.
  Conditions: none.
-/
import Derived.Test.YtlfjpejkoccibaaGreatDoorWA
set_option linter.unusedSimpArgs false
set_option linter.unusedVariables false
set_option maxRecDepth 10000
namespace Go.W
open Go Go.Eng Go.Proofs Go.L41 Go.Br
attribute [local irreducible] AWP RWP TD finQ
theorem agg36:aggT Tryz.prog 36=some 2:=by kernel_rfl
theorem yR:aggT Tryz.prog 38=some 5:=by kernel_rfl
theorem zGv:fieldT Tryz.prog 36 0=some (0,2):=by kernel_rfl
theorem zIh:fieldT Tryz.prog 36 1=some (1,2):=by kernel_rfl
theorem zGu:fieldT Tryz.prog 38 0=some (0,3):=by kernel_rfl
theorem zLj:fieldT Tryz.prog 38 1=some (1,3):=by kernel_rfl
theorem zUq:fieldT Tryz.prog 38 2=some (2,3):=by kernel_rfl
theorem zUp:fieldT Tryz.prog 38 3=some (3,3):=by kernel_rfl
theorem zUo:fieldT Tryz.prog 38 4=some (4,3):=by kernel_rfl
theorem fl38:flatK Tryz.prog 38=some [.int,.int,.int,.int,.int]:=by kernel_rfl
theorem ik180:intT Tryz.prog 180=some .u64:=by kernel_rfl
theorem ik205:intT Tryz.prog 205=some .u64:=by kernel_rfl
theorem ok127:callOk Tryz.prog 127=true:=by kernel_rfl
theorem ok161:callOk Tryz.prog 161=true:=by kernel_rfl
theorem ok162:callOk Tryz.prog 162=true:=by kernel_rfl
theorem ok278:callOk Tryz.prog 278=true:=by kernel_rfl
theorem ok279:callOk Tryz.prog 279=true:=by kernel_rfl
theorem ok280:callOk Tryz.prog 280=true:=by kernel_rfl
theorem ok296:callOk Tryz.prog 296=true:=by kernel_rfl
theorem ok297:callOk Tryz.prog 297=true:=by kernel_rfl
theorem ok298:callOk Tryz.prog 298=true:=by kernel_rfl
theorem ok299:callOk Tryz.prog 299=true:=by kernel_rfl
theorem ok300:callOk Tryz.prog 300=true:=by kernel_rfl
theorem ok301:callOk Tryz.prog 301=true:=by kernel_rfl
theorem ok304:callOk Tryz.prog 304=true:=by kernel_rfl
theorem one3:oneT Tryz.prog 3=true:=by kernel_rfl
theorem pl38:placesT Tryz.prog 38=some [(0,1),(1,1),(2,1),(3,1),(4,1)]:=by kernel_rfl
theorem us2:(Tryz.prog.underlying 2).isSome=true:=by kernel_rfl
theorem us3:(Tryz.prog.underlying 3).isSome=true:=by kernel_rfl
theorem m:zeroT Tryz.prog 38=some [(Value.int IntKind.i64 0),(Value.int IntKind.i64 0),(Value.int IntKind.i64 0),(Value.int IntKind.i64 0),(Value.int IntKind.i64 0)]:=by kernel_rfl
theorem zSi (t:Ty):
    Pur cfg 161 [vTy t] (vB (plainT t)):=by
 refine zT Tryz.func161 O Tryz.ntmps161 Tryz.results161 O ?_
 intro z hz
 refine F O<|zX O O (qN O O) ?_
 rintro _ _ ⟨b1,rfl,rfl⟩
 refine A O<|G<|F O<|zP yR (R 0 O) O<|zH O zGu<|zM one3 (R 0 O) O<|yP O m pl38<|zU O (det_aeql O fl38 O O O)<|A O<|G<|o<|X O ?_
 exact congrArg vB (plainT_eq t)
theorem zDi (t:Ty):
    Pur cfg 162 [vTy t] (vI (bif fixOk t then 0 else 10)):=by
 refine zT Tryz.func162 O Tryz.ntmps162 Tryz.results162 O ?_
 intro z hz
 refine F O<|zX O O (qN O O) ?_
 rintro _ _ ⟨b1,rfl,rfl⟩
 refine A O<|G<|F O<|zH O zUp<|zM one3 (R 0 O) O<|zU O (wH O O O)<|A O<|rL0 O (fun g1_3=>zE O zUp O) O<|B 8 O (fun g1_3=>zF O one3 O (R 0 O) O) O<|B 9 O (fun g1_3=>wX O O O) O<|yS O (fun h=>h)<|A O<|rL0 O (fun g1_8=>zE O zUo O) O<|B 13 O (fun g1_8=>zF O one3 O (R 0 O) O) O<|B 14 O (fun g1_8=>yL O O O) O<|B 15 O (fun g1_8=>w O O) O<|rLz [] O P T (fun g1_12=>zE O zUo O) O<|rLz [(17,_)] O P ⟨O,O,T⟩ (fun g1_12=>zF O one3 O (R 0 O) O) O<|rLz [(18,_)] O P ⟨O,O,T⟩ (fun g1_12=>yL O O O) O<|B 16 O (fun g1_8=>zAs O O O O (fun h=>kE (by assumption) (lzf h))) O<|yS O (fun h=>h)<|A O<|G<|zJ<|F O<|zH O zGu<|zM one3 (R 0 O) O<|yN O<|A O<|rL0 O (fun g2_3=>zE O zLj O) O<|B 26 O (fun g2_3=>zF O one3 O (R 0 O) O) O<|B 27 O (fun g2_3=>zBa O O O) O<|r_or O (fun h=>(lzf h))<|A O<|rL0 O (fun g2_8=>zE O zLj O) O<|B 31 O (fun g2_8=>zF O one3 O (R 0 O) O) O<|B 32 O (fun g2_8=>yG O O O) O<|r_or O (fun h=>(lzf h))<|A O<|rL0 O (fun g2_13=>zE O zUq O) O<|B 36 O (fun g2_13=>zF O one3 O (R 0 O) O) O<|B 37 O (fun g2_13=>zBa O O O) O<|r_or O (fun h=>(lzf h))<|A O<|rL0 O (fun g2_18=>zE O zUq O) O<|B 41 O (fun g2_18=>zF O one3 O (R 0 O) O) O<|B 42 O (fun g2_18=>yG O O O) O<|r_or O (fun h=>(lzf h))<|A O<|rL0 O (fun g2_23=>w O O) O<|B 46 O (fun g2_23=>kX O O) O<|r_or O (fun h=>(lzf h))<|G<|zD O (fun c1=>?_) (fun c1=>?_)
 ·refine F O<|A O<|G<|o<|X O ?_
  rw [show fixOk t=false from fix_no c1];rfl
 ·refine zK<|F O<|A O<|G<|o<|X O ?_
  rw [show fixOk t=true from fix_yes c1];rfl
theorem zDf (t:Ty):
    Pur cfg 127 [vTy t] (vI (tyErr t)):=by
 refine zT Tryz.func127 O Tryz.ntmps127 Tryz.results127 O ?_
 intro z hz
 refine F O<|zX O O (qN O O) ?_
 rintro _ _ ⟨b1,rfl,rfl⟩
 refine A O<|G<|zJ<|F O<|zH O zGu<|zM one3 (R 0 O) O<|G<|zR<|zJ<|F O<|yF O<|A O<|G<|zD O (fun c1=>?_) (fun c1=>?_)
 ·try simp only [I] at c1
  refine zK<|zD O (fun c2=>?_) (fun c2=>?_)
  ·try simp only [I] at c2
   refine F O<|zP yR (R 0 O) O<|qI O ok161 (zSi _) ⟨H,O,T⟩<|G<|zD O (fun c3=>?_) (fun c3=>?_)
   ·try simp only [I] at c3
    refine F O<|A O<|G<|o<|X O ?_
    exact congrArg vI (by first|(exfalso;omega)|(rw [tyErr,tyk1 (by omega),c3];rfl)|(rw [tyErr,zCf (by omega),fxz c5];rfl)|(rw [tyErr,zCf (by omega),fxn c5];rfl)|(rw [tyErr,tyk0 (by omega) (by omega) (by omega)];rfl))
   ·try simp only [I] at c3
    refine zK<|F O<|A O<|G<|o<|X O ?_
    exact congrArg vI (by first|(exfalso;omega)|(rw [tyErr,tyk1 (by omega),c3];rfl)|(rw [tyErr,zCf (by omega),fxz c5];rfl)|(rw [tyErr,zCf (by omega),fxn c5];rfl)|(rw [tyErr,tyk0 (by omega) (by omega) (by omega)];rfl))
  ·try simp only [I] at c2
   refine F O<|yF O<|A O<|G<|zD O (fun c4=>?_) (fun c4=>?_)
   ·try simp only [I] at c4
    refine F O<|zP yR (R 0 O) O<|qI O ok162 (zDi _) ⟨H,O,T⟩<|yF O<|G<|zD O (fun c5=>?_) (fun c5=>?_)
    ·try simp only [I] at c5
     refine F O<|A O<|G<|o<|X O ?_
     exact congrArg vI (by first|(exfalso;omega)|(rw [tyErr,tyk1 (by omega),c3];rfl)|(rw [tyErr,zCf (by omega),fxz c5];rfl)|(rw [tyErr,zCf (by omega),fxn c5];rfl)|(rw [tyErr,tyk0 (by omega) (by omega) (by omega)];rfl))
    ·try simp only [I] at c5
     refine zK<|F O<|A O<|G<|o<|X O ?_
     exact congrArg vI (by first|(exfalso;omega)|(rw [tyErr,tyk1 (by omega),c3];rfl)|(rw [tyErr,zCf (by omega),fxz c5];rfl)|(rw [tyErr,zCf (by omega),fxn c5];rfl)|(rw [tyErr,tyk0 (by omega) (by omega) (by omega)];rfl))
   ·try simp only [I] at c4
    refine zK<|F O<|A O<|G<|o<|X O ?_
    exact congrArg vI (by first|(exfalso;omega)|(rw [tyErr,tyk1 (by omega),c3];rfl)|(rw [tyErr,zCf (by omega),fxz c5];rfl)|(rw [tyErr,zCf (by omega),fxn c5];rfl)|(rw [tyErr,tyk0 (by omega) (by omega) (by omega)];rfl))
 ·try simp only [I] at c1
  refine zQ O<|yF O<|A O<|G<|zD O (fun c2=>?_) (fun c2=>?_)
  ·try simp only [I] at c2
   refine F O<|zP yR (R 0 O) O<|qI O ok161 (zSi _) ⟨H,O,T⟩<|G<|zD O (fun c3=>?_) (fun c3=>?_)
   ·try simp only [I] at c3
    refine F O<|A O<|G<|o<|X O ?_
    exact congrArg vI (by first|(exfalso;omega)|(rw [tyErr,tyk1 (by omega),c3];rfl)|(rw [tyErr,zCf (by omega),fxz c5];rfl)|(rw [tyErr,zCf (by omega),fxn c5];rfl)|(rw [tyErr,tyk0 (by omega) (by omega) (by omega)];rfl))
   ·try simp only [I] at c3
    refine zK<|F O<|A O<|G<|o<|X O ?_
    exact congrArg vI (by first|(exfalso;omega)|(rw [tyErr,tyk1 (by omega),c3];rfl)|(rw [tyErr,zCf (by omega),fxz c5];rfl)|(rw [tyErr,zCf (by omega),fxn c5];rfl)|(rw [tyErr,tyk0 (by omega) (by omega) (by omega)];rfl))
  ·try simp only [I] at c2
   refine F O<|yF O<|A O<|G<|zD O (fun c4=>?_) (fun c4=>?_)
   ·try simp only [I] at c4
    refine F O<|zP yR (R 0 O) O<|qI O ok162 (zDi _) ⟨H,O,T⟩<|yF O<|G<|zD O (fun c5=>?_) (fun c5=>?_)
    ·try simp only [I] at c5
     refine F O<|A O<|G<|o<|X O ?_
     exact congrArg vI (by first|(exfalso;omega)|(rw [tyErr,tyk1 (by omega),c3];rfl)|(rw [tyErr,zCf (by omega),fxz c5];rfl)|(rw [tyErr,zCf (by omega),fxn c5];rfl)|(rw [tyErr,tyk0 (by omega) (by omega) (by omega)];rfl))
    ·try simp only [I] at c5
     refine zK<|F O<|A O<|G<|o<|X O ?_
     exact congrArg vI (by first|(exfalso;omega)|(rw [tyErr,tyk1 (by omega),c3];rfl)|(rw [tyErr,zCf (by omega),fxz c5];rfl)|(rw [tyErr,zCf (by omega),fxn c5];rfl)|(rw [tyErr,tyk0 (by omega) (by omega) (by omega)];rfl))
   ·try simp only [I] at c4
    refine zK<|F O<|A O<|G<|o<|X O ?_
    exact congrArg vI (by first|(exfalso;omega)|(rw [tyErr,tyk1 (by omega),c3];rfl)|(rw [tyErr,zCf (by omega),fxz c5];rfl)|(rw [tyErr,zCf (by omega),fxn c5];rfl)|(rw [tyErr,tyk0 (by omega) (by omega) (by omega)];rfl))
theorem base_Type (t:Ty):
    Pur cfg 148 [vTy t] (vB (tyOk t)):=by
 refine zT Tryz.func148 O Tryz.ntmps148 Tryz.results148 O ?_
 intro z hz
 refine F O<|zX O O (qN O O) ?_
 rintro _ _ ⟨b1,rfl,rfl⟩
 refine A O<|G<|zJ<|F O<|zH O zGu<|zM one3 (R 0 O) O<|yF O<|A O<|rL0 O (fun g1_3=>zE O zGu O) O<|B 7 O (fun g1_3=>zF O one3 O (R 0 O) O) O<|B 8 O (fun g1_3=>yL O O O) O<|r_or O (fun h=>(lzf h))<|G<|zD O (fun c1=>?_) (fun c1=>?_)
 ·refine F O<|zH O zLj<|zM one3 (R 0 O) O<|yF O<|A O<|rL0 O (fun g2_3=>zE O zUq O) O<|B 15 O (fun g2_3=>zF O one3 O (R 0 O) O) O<|B 16 O (fun g2_3=>yL O O O) O<|yS O (fun h=>h)<|A O<|rL0 O (fun g2_8=>zE O zUp O) O<|B 20 O (fun g2_8=>zF O one3 O (R 0 O) O) O<|B 21 O (fun g2_8=>yL O O O) O<|yS O (fun h=>h)<|A O<|rL0 O (fun g2_13=>zE O zUo O) O<|B 25 O (fun g2_13=>zF O one3 O (R 0 O) O) O<|B 26 O (fun g2_13=>yL O O O) O<|yS O (fun h=>h)<|A O<|G<|o<|X O ?_
  exact congrArg vB (type1 c1)
 ·refine zK<|F O<|zH O zGu<|zM one3 (R 0 O) O<|yF O<|A O<|rL0 O (fun g3_3=>zE O zLj O) O<|B 33 O (fun g3_3=>zF O one3 O (R 0 O) O) O<|B 34 O (fun g3_3=>wH O O O) O<|yS O (fun h=>h)<|A O<|rL0 O (fun g3_8=>zE O zLj O) O<|B 38 O (fun g3_8=>zF O one3 O (R 0 O) O) O<|B 39 O (fun g3_8=>wX O O O) O<|yS O (fun h=>h)<|A O<|rL0 O (fun g3_13=>zE O zUq O) O<|B 43 O (fun g3_13=>zF O one3 O (R 0 O) O) O<|B 44 O (fun g3_13=>wH O O O) O<|yS O (fun h=>h)<|A O<|rL0 O (fun g3_18=>zE O zUq O) O<|B 48 O (fun g3_18=>zF O one3 O (R 0 O) O) O<|B 49 O (fun g3_18=>wX O O O) O<|yS O (fun h=>h)<|A O<|rL0 O (fun g3_23=>zE O zUp O) O<|B 53 O (fun g3_23=>zF O one3 O (R 0 O) O) O<|B 54 O (fun g3_23=>wH O O O) O<|yS O (fun h=>h)<|A O<|rL0 O (fun g3_28=>zE O zUp O) O<|B 58 O (fun g3_28=>zF O one3 O (R 0 O) O) O<|B 59 O (fun g3_28=>wX O O O) O<|yS O (fun h=>h)<|A O<|rL0 O (fun g3_33=>zE O zUo O) O<|B 63 O (fun g3_33=>zF O one3 O (R 0 O) O) O<|B 64 O (fun g3_33=>yL O O O) O<|B 65 O (fun g3_33=>w O O) O<|rLz [] O P T (fun g3_37=>zE O zUo O) O<|rLz [(67,_)] O P ⟨O,O,T⟩ (fun g3_37=>zF O one3 O (R 0 O) O) O<|rLz [(68,_)] O P ⟨O,O,T⟩ (fun g3_37=>yL O O O) O<|B 66 O (fun g3_33=>zAs O O O O (fun h=>kE (by assumption) (lzf h))) O<|yS O (fun h=>h)<|A O<|G<|o<|X O ?_
  exact congrArg vB (type2 c1)
theorem zTb (b:Int):
    Pur cfg 304 [vI b] (vB (decide (2<=b)&&decide (b<=31))):=by
 refine zT Tryz.func304 O Tryz.ntmps304 Tryz.results304 O ?_
 intro z hz
 refine F O<|A O<|G<|F O<|A O<|zU O (wH O O O)<|A O<|rL0 O (fun g1_2=>w O O) O<|B 6 O (fun g1_2=>wX O O O) O<|yS O (fun h=>h)<|A O<|G<|o<|X O ?_
 exact O
theorem round_MinInt (b:Int) (h1:2<=b) (h2:b<=31):
    Pur cfg 296 [vI b] (vI (-half b)):=by
 refine zT Tryz.func296 O Tryz.ntmps296 Tryz.results296 O ?_
 intro z hz
 refine F O<|A O<|G<|zJ<|F O<|A O<|qI O ok304 (zTb _) ⟨H,O,T⟩<|kO O<|G<|zD O (fun c1=>?_) (fun c1=>?_)
 ·try simp only [I] at c1
  exact absurd c1 (by omega)
 ·try simp only [I] at c1
  refine zK<|F O<|A O<|zU O (yB O O O ⟨by omega,by omega⟩)<|zU O (kV O us3 ik205 O)<|zU O (det_shl O O O (by rw [zKf (by omega)];omega))<|zU O (zGf O O)<|A O<|G<|o<|X O ?_
  exact congrArg vI (min_eq h1 h2)
theorem round_MaxInt (b:Int) (h1:2<=b) (h2:b<=31):
    Pur cfg 297 [vI b] (vI (half b-1)):=by
 refine zT Tryz.func297 O Tryz.ntmps297 Tryz.results297 O ?_
 intro z hz
 refine F O<|A O<|G<|zJ<|F O<|A O<|qI O ok304 (zTb _) ⟨H,O,T⟩<|kO O<|G<|zD O (fun c1=>?_) (fun c1=>?_)
 ·try simp only [I] at c1
  exact absurd c1 (by omega)
 ·try simp only [I] at c1
  refine zK<|F O<|A O<|zU O (yB O O O ⟨by omega,by omega⟩)<|zU O (kV O us3 ik205 O)<|zU O (det_shl O O O (by rw [zKf (by omega)];omega))<|zU O (zHw O O O)<|A O<|G<|o<|X O ?_
  exact congrArg vI (max_eq h1 h2)
theorem fixed_Valid (t:Ty) (v:Vl):
    Pur cfg 278 [vTy t,vVal v] (vB (fixOk t&&(decide (v.D=1)&&decide (-half t.Bits<=v.N)&&decide (v.N<half t.Bits)))):=by
 refine zT Tryz.func278 O Tryz.ntmps278 Tryz.results278 O ?_
 intro z hz
 refine F O<|zX O O (qN O O) ?_
 rintro _ _ ⟨b1,rfl,rfl⟩
 refine zX O O (qN O O) ?_
 rintro _ _ ⟨b2,rfl,rfl⟩
 refine A O<|G<|zJ<|qY 25 mixed (by kernel_rfl) O O<|M O O (zZ O yR O (R 1 O) O)<|M O O (qM O ok162 (zDi _) ⟨H,O,T⟩)<|M O O (yL O O O)<|M O O (w O O)<|f [] O O O O gv1 T (fun g1_3=>zE O zIh O) O<|f [(9,_)] O O O O gv1 ⟨O,O,T⟩ (fun g1_3=>zF O W O (R 0 O) O) O<|f [(10,_)] O O O O gv1 ⟨O,O,T⟩ (fun g1_3=>yL O O O) O<|M O O (kU O O O (fun h=>h) O)<|M O O (w O O)<|f [] O O O O gv1 T (fun g1_8=>zE O zGv O) O<|f [(14,_)] O O O O gv1 ⟨O,O,T⟩ (fun g1_8=>zF O W O (R 0 O) O) O<|f [] O O O O gv1 T (fun g1_8=>zE O zLj O) O<|f [(16,_)] O O O O gv1 ⟨O,O,T⟩ (fun g1_8=>zF O one3 O (R 1 O) O) O<|f [(17,_)] O O O O gv1 ⟨O,O,T⟩ (fun g1_8=>qM O ok296 (round_MinInt _ (fixB (fxa g1_8)).1 (fixB (fxa g1_8)).2) ⟨H,O,T⟩) O<|f [(15,_),(18,_)] O O O O gv1 ⟨O,O,O,O,T⟩ (fun g1_8=>wH O O O) O<|M O O (kU O O O (fun h=>h) O)<|M O O (w O O)<|f [] O O O O gv1 T (fun g1_16=>zE O zGv O) O<|f [(22,_)] O O O O gv1 ⟨O,O,T⟩ (fun g1_16=>zF O W O (R 0 O) O) O<|f [] O O O O gv1 T (fun g1_16=>zE O zLj O) O<|f [(24,_)] O O O O gv1 ⟨O,O,T⟩ (fun g1_16=>zF O one3 O (R 1 O) O) O<|f [(25,_)] O O O O gv1 ⟨O,O,T⟩ (fun g1_16=>qM O ok297 (round_MaxInt _ (fixB (fxb g1_16)).1 (fixB (fxb g1_16)).2) ⟨H,O,T⟩) O<|f [(23,_),(26,_)] O O O O gv1 ⟨O,O,O,O,T⟩ (fun g1_16=>wX O O O) O<|M O O (kU O O O (fun h=>h) O)<|M O O (yA O O)<|kD<|G<|o<|X O ?_
 exact congrArg vB (fixV t v)
theorem value_whole (n:Int):
    Pur cfg 279 [vI n] (vB (num31 n)):=by
 refine zT Tryz.func279 O Tryz.ntmps279 Tryz.results279 O ?_
 intro z hz
 refine F O<|A O<|G<|F O<|A O<|zU O (wH O O O)<|A O<|rL0 O (fun g1_2=>w O O) O<|B 6 O (fun g1_2=>wX O O O) O<|yS O (fun h=>h)<|A O<|G<|o<|X O ?_
 exact O
theorem frac_inRange (n:Int):
    Pur cfg 298 [vI n] (vB (num31 n)):=by
 refine zT Tryz.func298 O Tryz.ntmps298 Tryz.results298 O ?_
 intro z hz
 refine F O<|A O<|G<|F O<|A O<|zU O (wH O O O)<|A O<|rL0 O (fun g1_2=>w O O) O<|B 6 O (fun g1_2=>wX O O O) O<|yS O (fun h=>h)<|A O<|G<|o<|X O ?_
 exact O
theorem frac_magnitude (n:Int) (hn: -9223372036854775808<=n) (hm:n<=9223372036854775807):
    Pur cfg 300 [vI n] (vU64 n.natAbs):=by
 refine zT Tryz.func300 O Tryz.ntmps300 Tryz.results300 O ?_
 intro z hz
 refine F O<|A O<|G<|zJ<|F O<|A O<|yD O<|G<|zD O (fun c1=>?_) (fun c1=>?_)
 ·try simp only [I] at c1
  refine F O<|A O<|zU O (kV O us2 ik180 O)<|zU O (zGf O O)<|A O<|G<|o<|X O ?_
  exact congrArg vU64 (mag_neg c1 hn)
 ·try simp only [I] at c1
  refine zK<|F O<|A O<|zU O (kV O us2 ik180 O)<|A O<|G<|o<|X O ?_
  exact congrArg vU64 (mag_pos (by omega) hm)
theorem frac_gcd (a b:Nat):
    Pur cfg 299 [vU64 a,vU64 b] (vU64 (Nat.gcd a b)):=by
 refine zT Tryz.func299 O Tryz.ntmps299 Tryz.results299 O ?_
 intro z hz
 refine F O<|A O<|G<|zJ<|zR<|zY ⟨[(0,.c _),(1,.c _)],[]⟩ (Weak.mk [] ⟨H,H,T⟩ O)<|qK 2 0 O O (Nat×Nat) (fun ⟨x,y⟩=>[(0,vU64 x),(1,vU64 y)]) (fun ⟨x,y⟩=>[]) (fun ⟨x,y⟩=>Nat.gcd a b=Nat.gcd x y) (fun ⟨x,y⟩=>y) ⟨⟨a,b⟩,O,Weak.mk [] ⟨H,H,T⟩ O⟩ ?_
 rintro ⟨x,y⟩ hg
 refine zJ<|F O<|A O<|yN O<|G<|zD O (fun c1=>?_) (fun c1=>?_)
 ·try simp only [I] at c1
  refine zK<|zR<|qY 6 mixed (by kernel_rfl) O O<|M O O (w O O)<|M O O (w O O)<|M O O (w O O)<|M O O (det_rem O O O (by omega))<|M O O (yA O O)<|M O O (yA O O)<|kD<|G ?_
  refine ⟨⟨y,x%y⟩,(by rw [hg];exact gcd_step (by omega)),(Nat.mod_lt _ (by omega)),Weak.mk [] ⟨H,VLe.of_eq (congrArg vU64 (Int.ofNat_tmod x y).symm),T⟩ O⟩
 ·try simp only [I] at c1
  refine qQ<|F O<|A O<|A O<|G<|o<|X O ?_
  exact congrArg vU64 (by rw [hg,show y=0 by omega,Nat.gcd_zero_right])
theorem base_gcd (a b:Nat):
    Pur cfg 301 [vI a,vI b] (vI (Nat.gcd a b)):=by
 refine zT Tryz.func301 O Tryz.ntmps301 Tryz.results301 O ?_
 intro z hz
 refine F O<|A O<|G<|zJ<|zR<|zY ⟨[(0,.c _),(1,.c _)],[]⟩ (Weak.mk [] ⟨H,H,T⟩ O)<|qK 2 0 O O (Nat×Nat) (fun ⟨x,y⟩=>[(0,vI x),(1,vI y)]) (fun ⟨x,y⟩=>[]) (fun ⟨x,y⟩=>Nat.gcd a b=Nat.gcd x y) (fun ⟨x,y⟩=>y) ⟨⟨a,b⟩,O,Weak.mk [] ⟨H,H,T⟩ O⟩ ?_
 rintro ⟨x,y⟩ hg
 refine zJ<|F O<|A O<|yN O<|G<|zD O (fun c1=>?_) (fun c1=>?_)
 ·try simp only [I] at c1
  refine zK<|zR<|qY 6 mixed (by kernel_rfl) O O<|M O O (w O O)<|M O O (w O O)<|M O O (w O O)<|M O O (det_rem O O O (by omega))<|M O O (yA O O)<|M O O (yA O O)<|kD<|G ?_
  refine ⟨⟨y,x%y⟩,(by rw [hg];exact gcd_step (by omega)),(Nat.mod_lt _ (by omega)),Weak.mk [] ⟨H,VLe.of_eq (congrArg vI (Int.ofNat_tmod x y).symm),T⟩ O⟩
 ·try simp only [I] at c1
  refine qQ<|F O<|A O<|A O<|G<|o<|X O ?_
  exact congrArg vI (by rw [hg,show y=0 by omega,Nat.gcd_zero_right])
theorem frac_Valid (v:Vl):
    Pur cfg 280 [vVal v] (vB (decide (1<=v.D)&&decide (v.D<=2147483647)&&num31 v.N&&decide (Int.gcd v.N v.D=1))):=by
 refine zT Tryz.func280 O Tryz.ntmps280 Tryz.results280 O ?_
 intro z hz
 refine F O<|zX O O (qN O O) ?_
 rintro _ _ ⟨b1,rfl,rfl⟩
 refine A O<|G<|zJ<|qY 24 mixed (by kernel_rfl) O O<|M O O (zE O zIh O)<|M O O (zF O W O (R 0 O) O)<|M O O (wH O O O)<|M O O (w O O)<|f [] O O O O gv1 T (fun g1_3=>zE O zIh O) O<|f [(7,_)] O O O O gv1 ⟨O,O,T⟩ (fun g1_3=>zF O W O (R 0 O) O) O<|f [(8,_)] O O O O gv1 ⟨O,O,T⟩ (fun g1_3=>wX O O O) O<|M O O (kU O O O (fun h=>h) O)<|M O O (w O O)<|f [] O O O O gv1 T (fun g1_8=>zE O zGv O) O<|f [(12,_)] O O O O gv1 ⟨O,O,T⟩ (fun g1_8=>zF O W O (R 0 O) O) O<|f [(13,_)] O O O O gv1 ⟨O,O,T⟩ (fun g1_8=>qM O ok298 (frac_inRange _) ⟨H,O,T⟩) O<|M O O (kU O O O (fun h=>h) O)<|M O O (w O O)<|f [] O O O O gv1 T (fun g1_13=>zE O zGv O) O<|f [(17,_)] O O O O gv1 ⟨O,O,T⟩ (fun g1_13=>zF O W O (R 0 O) O) O<|f [(18,_)] O O O O gv1 ⟨O,O,T⟩ (fun g1_13=>qM O ok300 (frac_magnitude v.N (frV g1_13).2.2.1 (frV g1_13).2.2.2) ⟨H,O,T⟩) O<|f [] O O O O gv1 T (fun g1_13=>zE O zIh O) O<|f [(20,_)] O O O O gv1 ⟨O,O,T⟩ (fun g1_13=>zF O W O (R 0 O) O) O<|f [(21,_)] O O O O gv1 ⟨O,O,T⟩ (fun g1_13=>kV O us2 ik180 O) O<|f [(19,_),(22,_)] O O O O gv1 ⟨O,O,O,O,T⟩ (fun g1_13=>qM O ok299 (show Pur cfg 299 [vU64 v.N.natAbs,vU64 (IntKind.u64.wrap v.D)] (vU64 (Nat.gcd v.N.natAbs v.D.natAbs)) from by rw [u64_D (frV g1_13).1 (frV g1_13).2.1];exact frac_gcd _ _) ⟨H,O,H,O,T⟩) O<|f [(23,_)] O O O O gv1 ⟨O,O,T⟩ (fun g1_13=>yL O O O) O<|M O O (kU O O O (fun h=>h) O)<|M O O (yA O O)<|kD<|G<|o<|X O ?_
 exact congrArg vB (by rw [show (decide (((Nat.gcd v.N.natAbs v.D.natAbs:Nat):Int)=1))=decide (Int.gcd v.N v.D=1) from decide_eq_decide.2 (by unfold Int.gcd;omega)])
theorem value_Valid (t:Ty) (v:Vl):
    Pur cfg 240 [vTy t,vVal v] (vB (tyOk t&&valOk t v)):=by
 refine zT Tryz.func240 O Tryz.ntmps240 Tryz.results240 O ?_
 intro z hz
 refine F O<|zX O O (qN O O) ?_
 rintro _ _ ⟨b1,rfl,rfl⟩
 refine zX O O (qN O O) ?_
 rintro _ _ ⟨b2,rfl,rfl⟩
 refine A O<|G<|zJ<|F O<|zP yR (R 1 O) O<|qI O ok127 (zDf _) ⟨H,O,T⟩<|yN O<|G<|zD O (fun c1=>?_) (fun c1=>?_)
 ·try simp only [I] at c1
  have ht:tyOk t=false:=tyErr_ne c1
  refine F O<|A O<|G<|o<|X O ?_
  rw [ht];rfl
 ·try simp only [I] at c1
  have ht:tyOk t=true:=zKh c1
  refine zK<|zJ<|F O<|zH O zGu<|zM one3 (R 1 O) O<|G<|zR<|F O<|yF O<|A O<|G<|zD O (fun c2=>?_) (fun c2=>?_)
  ·try simp only [I] at c2
   refine F O<|zP yR (R 1 O) O<|zP agg36 (R 0 O) O<|qI O ok278 (fixed_Valid _ _) ⟨H,O,H,O,T⟩<|A O<|G<|o<|X O ?_
   exact congrArg vB (by rw [ht,valOk,c2,←zCf c2,ht];rfl)
  ·try simp only [I] at c2
   refine F O<|yF O<|A O<|G<|zD O (fun c3=>?_) (fun c3=>?_)
   ·try simp only [I] at c3
    refine F O<|zH O zIh<|zM W (R 0 O) O<|yF O<|A O<|rL0 O (fun g7_3=>zE O zGv O) O<|B 21 O (fun g7_3=>zF O W O (R 0 O) O) O<|B 22 O (fun g7_3=>qM O ok279 (value_whole _) ⟨H,O,T⟩) O<|yS O (fun h=>h)<|A O<|G<|o<|X O ?_
    exact congrArg vB (by rw [ht,valOk,yQ c2,c3];rfl)
   ·try simp only [I] at c3
    refine zK<|F O<|zP agg36 (R 0 O) O<|qI O ok280 (frac_Valid _) ⟨H,O,T⟩<|A O<|G<|o<|X O ?_
    exact congrArg vB (by rw [ht,valOk,yQ c2,yQ c3];rfl)
theorem base_Val (t:Ty) (v:Vl) (ht:tyOk t=true):
    Pur cfg 285 [vTy t,vVal v] (vB (valOk t v)):=by
 refine zT Tryz.func285 O Tryz.ntmps285 Tryz.results285 O ?_
 intro z hz
 refine F O<|zX O O (qN O O) ?_
 rintro _ _ ⟨b1,rfl,rfl⟩
 refine zX O O (qN O O) ?_
 rintro _ _ ⟨b2,rfl,rfl⟩
 refine A O<|G<|zJ<|F O<|zH O zGu<|zM one3 (R 1 O) O<|yF O<|G<|zD O (fun c1=>?_) (fun c1=>?_)
 ·try simp only [I] at c1
  obtain ⟨b1,b2⟩:=fixB (by rw [←zCf c1];exact ht)
  refine F O<|zH O zLj<|zM one3 (R 1 O) O<|zU O (yB O O O ⟨by omega,by omega⟩)<|zU O (det_shl O O O (by omega))<|A O<|G<|F O<|zH O zIh<|zM W (R 0 O) O<|yF O<|A O<|rL0 O (fun g3_3=>zE O zGv O) O<|B 17 O (fun g3_3=>zF O W O (R 0 O) O) O<|rL0 O (fun g3_3=>w O O) O<|B 19 O (fun g3_3=>zGf O O) O<|rLz [(18,_),(20,_)] O gv1 ⟨O,O,O,O,T⟩ (fun g3_3=>wH O O O) O<|yS O (fun h=>h)<|A O<|rL0 O (fun g3_10=>zE O zGv O) O<|B 24 O (fun g3_10=>zF O W O (R 0 O) O) O<|rL0 O (fun g3_10=>w O O) O<|rLz [(25,_),(26,_)] O gv1 ⟨O,O,O,O,T⟩ (fun g3_10=>zBa O O O) O<|yS O (fun h=>h)<|A O<|G<|o<|X O ?_
  exact congrArg vB (valfix c1 b1 b2)
 ·try simp only [I] at c1
  refine zK<|zJ<|F O<|zH O zGv<|zM W (R 0 O) O<|zU O (yG O O O)<|A O<|rL0 O (fun g4_3=>zE O zGv O) O<|B 33 O (fun g4_3=>zF O W O (R 0 O) O) O<|B 34 O (fun g4_3=>zBa O O O) O<|r_or O (fun h=>(lzf h))<|A O<|rL0 O (fun g4_8=>zE O zIh O) O<|B 38 O (fun g4_8=>zF O W O (R 0 O) O) O<|B 39 O (fun g4_8=>zBa O O O) O<|r_or O (fun h=>(lzf h))<|A O<|rL0 O (fun g4_13=>zE O zIh O) O<|B 43 O (fun g4_13=>zF O W O (R 0 O) O) O<|B 44 O (fun g4_13=>yG O O O) O<|r_or O (fun h=>(lzf h))<|G<|zD O (fun c2=>?_) (fun c2=>?_)
  ·refine F O<|A O<|G<|o<|X O ?_
   exact congrArg vB (val_out c1 c2).symm
  ·obtain ⟨hN1,hN2,hD1,hD2⟩:=val_in c2
   refine zK<|zJ<|F O<|zH O zGu<|zM one3 (R 1 O) O<|yF O<|G<|zD O (fun c3=>?_) (fun c3=>?_)
   ·try simp only [I] at c3
    refine F O<|zH O zIh<|zM W (R 0 O) O<|yF O<|A O<|G<|o<|X O ?_
    exact congrArg vB (by rw [valOk,yQ c1,c3];simp [num31,hN1,hN2])
   ·try simp only [I] at c3
    refine zK<|F O<|zH O zGv<|zM W (R 0 O) O<|zH O zGv<|zM W (R 0 O) O<|zU O (zGf O O)<|zU O (zPi O O O)<|zH O zIh<|zM W (R 0 O) O<|qI O ok301 (show Pur cfg 301 [vI (max v.N (IntKind.i64.wrap (-v.N))),vI v.D] (vI (Int.gcd v.N v.D)) from by rw [max_abs hN1 hN2,show v.D=(v.D.natAbs:Int) by omega];exact base_gcd _ _) ⟨H,O,H,O,T⟩<|yF O<|A O<|G<|o<|X O ?_
    exact congrArg vB (by rw [valOk,yQ c1,yQ c3];simp [num31,hN1,hN2,hD1,hD2];omega)
end Go.W
