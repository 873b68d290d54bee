/-
  Walks: what functions of the program compute. Printed by wip/gen/mk2.py.
  Conditions: none.
-/
import Derived.Test.YtkidnhldibjiaaaGreatDoorWA
set_option linter.unusedSimpArgs false
set_option linter.unusedVariables false
set_option maxRecDepth 10000
namespace Go.W
open Go Go.Eng Go.Proofs Go.L41 Go.Br
attribute [local irreducible] AWP RWP TD finQ
theorem agg35:aggT Tryz.prog 35=some 2:=by kernel_rfl
theorem yD:aggT Tryz.prog 37=some 5:=by kernel_rfl
theorem zEo:fieldT Tryz.prog 35 0=some (0,2):=by kernel_rfl
theorem zFo:fieldT Tryz.prog 35 1=some (1,2):=by kernel_rfl
theorem zEn:fieldT Tryz.prog 37 0=some (0,3):=by kernel_rfl
theorem zHr:fieldT Tryz.prog 37 1=some (1,3):=by kernel_rfl
theorem zPm:fieldT Tryz.prog 37 2=some (2,3):=by kernel_rfl
theorem zPl:fieldT Tryz.prog 37 3=some (3,3):=by kernel_rfl
theorem zPk:fieldT Tryz.prog 37 4=some (4,3):=by kernel_rfl
theorem fl37:flatK Tryz.prog 37=some [.int,.int,.int,.int,.int]:=by kernel_rfl
theorem ik254:intT Tryz.prog 254=some .u64:=by kernel_rfl
theorem ik262:intT Tryz.prog 262=some .u64:=by kernel_rfl
theorem ok109:callOk Tryz.prog 109=true:=by kernel_rfl
theorem ok191:callOk Tryz.prog 191=true:=by kernel_rfl
theorem ok235:callOk Tryz.prog 235=true:=by kernel_rfl
theorem ok236:callOk Tryz.prog 236=true:=by kernel_rfl
theorem ok273:callOk Tryz.prog 273=true:=by kernel_rfl
theorem ok274:callOk Tryz.prog 274=true:=by kernel_rfl
theorem ok275:callOk Tryz.prog 275=true:=by kernel_rfl
theorem ok306:callOk Tryz.prog 306=true:=by kernel_rfl
theorem ok307:callOk Tryz.prog 307=true:=by kernel_rfl
theorem ok308:callOk Tryz.prog 308=true:=by kernel_rfl
theorem ok309:callOk Tryz.prog 309=true:=by kernel_rfl
theorem ok310:callOk Tryz.prog 310=true:=by kernel_rfl
theorem ok329:callOk Tryz.prog 329=true:=by kernel_rfl
theorem ok335:callOk Tryz.prog 335=true:=by kernel_rfl
theorem one3:oneT Tryz.prog 3=true:=by kernel_rfl
theorem pl35:placesT Tryz.prog 35=some [(0,1),(1,1)]:=by kernel_rfl
theorem pl37:placesT Tryz.prog 37=some [(0,1),(1,1),(2,1),(3,1),(4,1)]:=by kernel_rfl
theorem us2:(Tryz.prog.underlying 2).isSome=true:=by kernel_rfl
theorem us3:(Tryz.prog.underlying 3).isSome=true:=by kernel_rfl
theorem zr35:zeroT Tryz.prog 35=some [(Value.int IntKind.i64 0),(Value.int IntKind.i64 0)]:=by kernel_rfl
theorem zr37:zeroT Tryz.prog 37=some [(Value.int IntKind.i64 0),(Value.int IntKind.i64 0),(Value.int IntKind.i64 0),(Value.int IntKind.i64 0),(Value.int IntKind.i64 0)]:=by kernel_rfl
theorem zNm (t:Ty):
    Pur cfg 235 [vTy t] (vB (plainT t)):=by
 refine zR Tryz.func235 O Tryz.ntmps235 Tryz.results235 O ?_
 intro z hz
 refine G O<|zS O O (qG O O) ?_
 rintro _ _ ⟨b1,rfl,rfl⟩
 refine Y O<|W<|G O<|zL yD (J 0 O) O<|zD O zEn<|zH one3 (J 0 O) O<|yW O zr37 pl37<|zX O (det_aeql O fl37 O O O)<|Y O<|W<|zJ<|zP O ?_
 exact congrArg vB (plainT_eq t)
theorem zBt (t:Ty):
    Pur cfg 236 [vTy t] (vI (bif fixOk t then 0 else 10)):=by
 refine zR Tryz.func236 O Tryz.ntmps236 Tryz.results236 O ?_
 intro z hz
 refine G O<|zS O O (qG O O) ?_
 rintro _ _ ⟨b1,rfl,rfl⟩
 refine Y O<|W<|G O<|zD O zPl<|zH one3 (J 0 O) O<|zX O (kX O O O)<|Y O<|rL0 O (fun g1_3=>zF O zPl O) O<|rL1 8 O (fun g1_3=>zK O one3 O (J 0 O) O) O<|rL1 9 O (fun g1_3=>kO O O O) O<|kD O (fun h=>h)<|Y O<|rL0 O (fun g1_8=>zF O zPk O) O<|rL1 13 O (fun g1_8=>zK O one3 O (J 0 O) O) O<|rL1 14 O (fun g1_8=>yL O O O) O<|rL1 15 O (fun g1_8=>zQ O O) O<|rLz [] O q T (fun g1_12=>zF O zPk O) O<|rLz [(17,_)] O q ⟨O,O,T⟩ (fun g1_12=>zK O one3 O (J 0 O) O) O<|rLz [(18,_)] O q ⟨O,O,T⟩ (fun g1_12=>yL O O O) O<|rL1 16 O (fun g1_8=>zBw O O O O (fun h=>kE (by assumption) (lzf h))) O<|kD O (fun h=>h)<|Y O<|W<|zG<|G O<|zD O zEn<|zH one3 (J 0 O) O<|yR O<|Y O<|rL0 O (fun g2_3=>zF O zHr O) O<|rL1 26 O (fun g2_3=>zK O one3 O (J 0 O) O) O<|rL1 27 O (fun g2_3=>zDy O O O) O<|r_or O (fun h=>(lzf h))<|Y O<|rL0 O (fun g2_8=>zF O zHr O) O<|rL1 31 O (fun g2_8=>zK O one3 O (J 0 O) O) O<|rL1 32 O (fun g2_8=>yF O O O) O<|r_or O (fun h=>(lzf h))<|Y O<|rL0 O (fun g2_13=>zF O zPm O) O<|rL1 36 O (fun g2_13=>zK O one3 O (J 0 O) O) O<|rL1 37 O (fun g2_13=>zDy O O O) O<|r_or O (fun h=>(lzf h))<|Y O<|rL0 O (fun g2_18=>zF O zPm O) O<|rL1 41 O (fun g2_18=>zK O one3 O (J 0 O) O) O<|rL1 42 O (fun g2_18=>yF O O O) O<|r_or O (fun h=>(lzf h))<|Y O<|rL0 O (fun g2_23=>zQ O O) O<|rL1 46 O (fun g2_23=>wB O O) O<|r_or O (fun h=>(lzf h))<|W<|zE O (fun c1=>?_) (fun c1=>?_)
 ·refine G O<|Y O<|W<|zJ<|zP O ?_
  rw [show fixOk t=false from fix_no c1];rfl
 ·refine zI<|G O<|Y O<|W<|zJ<|zP O ?_
  rw [show fixOk t=true from fix_yes c1];rfl
theorem zBs (t:Ty):
    Pur cfg 191 [vTy t] (vI (tyErr t)):=by
 refine zR Tryz.func191 O Tryz.ntmps191 Tryz.results191 O ?_
 intro z hz
 refine G O<|zS O O (qG O O) ?_
 rintro _ _ ⟨b1,rfl,rfl⟩
 refine Y O<|W<|zG<|G O<|zD O zEn<|zH one3 (J 0 O) O<|W<|zN<|zG<|G O<|yG O<|Y O<|W<|zE O (fun c1=>?_) (fun c1=>?_)
 ·try simp only [sx] at c1
  refine zI<|zE O (fun c2=>?_) (fun c2=>?_)
  ·try simp only [sx] at c2
   refine G O<|zL yD (J 0 O) O<|qK O ok235 (zNm _) ⟨U,O,T⟩<|W<|zE O (fun c3=>?_) (fun c3=>?_)
   ·try simp only [sx] at c3
    refine G O<|Y O<|W<|zJ<|zP O ?_
    exact congrArg vI (by first|(exfalso;omega)|(rw [tyErr,tyk1 (by omega),c3];rfl)|(rw [tyErr,zAw (by omega),fxz c5];rfl)|(rw [tyErr,zAw (by omega),fxn c5];rfl)|(rw [tyErr,tyk0 (by omega) (by omega) (by omega)];rfl))
   ·try simp only [sx] at c3
    refine zI<|G O<|Y O<|W<|zJ<|zP O ?_
    exact congrArg vI (by first|(exfalso;omega)|(rw [tyErr,tyk1 (by omega),c3];rfl)|(rw [tyErr,zAw (by omega),fxz c5];rfl)|(rw [tyErr,zAw (by omega),fxn c5];rfl)|(rw [tyErr,tyk0 (by omega) (by omega) (by omega)];rfl))
  ·try simp only [sx] at c2
   refine G O<|yG O<|Y O<|W<|zE O (fun c4=>?_) (fun c4=>?_)
   ·try simp only [sx] at c4
    refine G O<|zL yD (J 0 O) O<|qK O ok236 (zBt _) ⟨U,O,T⟩<|yG O<|W<|zE O (fun c5=>?_) (fun c5=>?_)
    ·try simp only [sx] at c5
     refine G O<|Y O<|W<|zJ<|zP O ?_
     exact congrArg vI (by first|(exfalso;omega)|(rw [tyErr,tyk1 (by omega),c3];rfl)|(rw [tyErr,zAw (by omega),fxz c5];rfl)|(rw [tyErr,zAw (by omega),fxn c5];rfl)|(rw [tyErr,tyk0 (by omega) (by omega) (by omega)];rfl))
    ·try simp only [sx] at c5
     refine zI<|G O<|Y O<|W<|zJ<|zP O ?_
     exact congrArg vI (by first|(exfalso;omega)|(rw [tyErr,tyk1 (by omega),c3];rfl)|(rw [tyErr,zAw (by omega),fxz c5];rfl)|(rw [tyErr,zAw (by omega),fxn c5];rfl)|(rw [tyErr,tyk0 (by omega) (by omega) (by omega)];rfl))
   ·try simp only [sx] at c4
    refine zI<|G O<|Y O<|W<|zJ<|zP O ?_
    exact congrArg vI (by first|(exfalso;omega)|(rw [tyErr,tyk1 (by omega),c3];rfl)|(rw [tyErr,zAw (by omega),fxz c5];rfl)|(rw [tyErr,zAw (by omega),fxn c5];rfl)|(rw [tyErr,tyk0 (by omega) (by omega) (by omega)];rfl))
 ·try simp only [sx] at c1
  refine zO O<|yG O<|Y O<|W<|zE O (fun c2=>?_) (fun c2=>?_)
  ·try simp only [sx] at c2
   refine G O<|zL yD (J 0 O) O<|qK O ok235 (zNm _) ⟨U,O,T⟩<|W<|zE O (fun c3=>?_) (fun c3=>?_)
   ·try simp only [sx] at c3
    refine G O<|Y O<|W<|zJ<|zP O ?_
    exact congrArg vI (by first|(exfalso;omega)|(rw [tyErr,tyk1 (by omega),c3];rfl)|(rw [tyErr,zAw (by omega),fxz c5];rfl)|(rw [tyErr,zAw (by omega),fxn c5];rfl)|(rw [tyErr,tyk0 (by omega) (by omega) (by omega)];rfl))
   ·try simp only [sx] at c3
    refine zI<|G O<|Y O<|W<|zJ<|zP O ?_
    exact congrArg vI (by first|(exfalso;omega)|(rw [tyErr,tyk1 (by omega),c3];rfl)|(rw [tyErr,zAw (by omega),fxz c5];rfl)|(rw [tyErr,zAw (by omega),fxn c5];rfl)|(rw [tyErr,tyk0 (by omega) (by omega) (by omega)];rfl))
  ·try simp only [sx] at c2
   refine G O<|yG O<|Y O<|W<|zE O (fun c4=>?_) (fun c4=>?_)
   ·try simp only [sx] at c4
    refine G O<|zL yD (J 0 O) O<|qK O ok236 (zBt _) ⟨U,O,T⟩<|yG O<|W<|zE O (fun c5=>?_) (fun c5=>?_)
    ·try simp only [sx] at c5
     refine G O<|Y O<|W<|zJ<|zP O ?_
     exact congrArg vI (by first|(exfalso;omega)|(rw [tyErr,tyk1 (by omega),c3];rfl)|(rw [tyErr,zAw (by omega),fxz c5];rfl)|(rw [tyErr,zAw (by omega),fxn c5];rfl)|(rw [tyErr,tyk0 (by omega) (by omega) (by omega)];rfl))
    ·try simp only [sx] at c5
     refine zI<|G O<|Y O<|W<|zJ<|zP O ?_
     exact congrArg vI (by first|(exfalso;omega)|(rw [tyErr,tyk1 (by omega),c3];rfl)|(rw [tyErr,zAw (by omega),fxz c5];rfl)|(rw [tyErr,zAw (by omega),fxn c5];rfl)|(rw [tyErr,tyk0 (by omega) (by omega) (by omega)];rfl))
   ·try simp only [sx] at c4
    refine zI<|G O<|Y O<|W<|zJ<|zP O ?_
    exact congrArg vI (by first|(exfalso;omega)|(rw [tyErr,tyk1 (by omega),c3];rfl)|(rw [tyErr,zAw (by omega),fxz c5];rfl)|(rw [tyErr,zAw (by omega),fxn c5];rfl)|(rw [tyErr,tyk0 (by omega) (by omega) (by omega)];rfl))
theorem zQg (t:Ty):
    Pur cfg 109 [vTy t] (vB (tyOk t)):=by
 refine zR Tryz.func109 O Tryz.ntmps109 Tryz.results109 O ?_
 intro z hz
 refine G O<|zS O O (qG O O) ?_
 rintro _ _ ⟨b1,rfl,rfl⟩
 refine Y O<|W<|zG<|G O<|zD O zEn<|zH one3 (J 0 O) O<|yG O<|Y O<|rL0 O (fun g1_3=>zF O zEn O) O<|rL1 7 O (fun g1_3=>zK O one3 O (J 0 O) O) O<|rL1 8 O (fun g1_3=>yL O O O) O<|r_or O (fun h=>(lzf h))<|W<|zE O (fun c1=>?_) (fun c1=>?_)
 ·refine G O<|zD O zHr<|zH one3 (J 0 O) O<|yG O<|Y O<|rL0 O (fun g2_3=>zF O zPm O) O<|rL1 15 O (fun g2_3=>zK O one3 O (J 0 O) O) O<|rL1 16 O (fun g2_3=>yL O O O) O<|kD O (fun h=>h)<|Y O<|rL0 O (fun g2_8=>zF O zPl O) O<|rL1 20 O (fun g2_8=>zK O one3 O (J 0 O) O) O<|rL1 21 O (fun g2_8=>yL O O O) O<|kD O (fun h=>h)<|Y O<|rL0 O (fun g2_13=>zF O zPk O) O<|rL1 25 O (fun g2_13=>zK O one3 O (J 0 O) O) O<|rL1 26 O (fun g2_13=>yL O O O) O<|kD O (fun h=>h)<|Y O<|W<|zJ<|zP O ?_
  exact congrArg vB (type1 c1)
 ·refine zI<|G O<|zD O zEn<|zH one3 (J 0 O) O<|yG O<|Y O<|rL0 O (fun g3_3=>zF O zHr O) O<|rL1 33 O (fun g3_3=>zK O one3 O (J 0 O) O) O<|rL1 34 O (fun g3_3=>kX O O O) O<|kD O (fun h=>h)<|Y O<|rL0 O (fun g3_8=>zF O zHr O) O<|rL1 38 O (fun g3_8=>zK O one3 O (J 0 O) O) O<|rL1 39 O (fun g3_8=>kO O O O) O<|kD O (fun h=>h)<|Y O<|rL0 O (fun g3_13=>zF O zPm O) O<|rL1 43 O (fun g3_13=>zK O one3 O (J 0 O) O) O<|rL1 44 O (fun g3_13=>kX O O O) O<|kD O (fun h=>h)<|Y O<|rL0 O (fun g3_18=>zF O zPm O) O<|rL1 48 O (fun g3_18=>zK O one3 O (J 0 O) O) O<|rL1 49 O (fun g3_18=>kO O O O) O<|kD O (fun h=>h)<|Y O<|rL0 O (fun g3_23=>zF O zPl O) O<|rL1 53 O (fun g3_23=>zK O one3 O (J 0 O) O) O<|rL1 54 O (fun g3_23=>kX O O O) O<|kD O (fun h=>h)<|Y O<|rL0 O (fun g3_28=>zF O zPl O) O<|rL1 58 O (fun g3_28=>zK O one3 O (J 0 O) O) O<|rL1 59 O (fun g3_28=>kO O O O) O<|kD O (fun h=>h)<|Y O<|rL0 O (fun g3_33=>zF O zPk O) O<|rL1 63 O (fun g3_33=>zK O one3 O (J 0 O) O) O<|rL1 64 O (fun g3_33=>yL O O O) O<|rL1 65 O (fun g3_33=>zQ O O) O<|rLz [] O q T (fun g3_37=>zF O zPk O) O<|rLz [(67,_)] O q ⟨O,O,T⟩ (fun g3_37=>zK O one3 O (J 0 O) O) O<|rLz [(68,_)] O q ⟨O,O,T⟩ (fun g3_37=>yL O O O) O<|rL1 66 O (fun g3_33=>zBw O O O O (fun h=>kE (by assumption) (lzf h))) O<|kD O (fun h=>h)<|Y O<|W<|zJ<|zP O ?_
  exact congrArg vB (type2 c1)
theorem zNy (b:Int):
    Pur cfg 335 [vI b] (vB (decide (2<=b)&&decide (b<=31))):=by
 refine zR Tryz.func335 O Tryz.ntmps335 Tryz.results335 O ?_
 intro z hz
 refine G O<|Y O<|W<|G O<|Y O<|zX O (kX O O O)<|Y O<|rL0 O (fun g1_2=>zQ O O) O<|rL1 6 O (fun g1_2=>kO O O O) O<|kD O (fun h=>h)<|Y O<|W<|zJ<|zP O ?_
 exact O
theorem round_MinInt (b:Int) (h1:2<=b) (h2:b<=31):
    Pur cfg 306 [vI b] (vI (-half b)):=by
 refine zR Tryz.func306 O Tryz.ntmps306 Tryz.results306 O ?_
 intro z hz
 refine G O<|Y O<|W<|zG<|G O<|Y O<|qK O ok335 (zNy _) ⟨U,O,T⟩<|wD O<|W<|zE O (fun c1=>?_) (fun c1=>?_)
 ·try simp only [sx] at c1
  exact absurd c1 (by omega)
 ·try simp only [sx] at c1
  refine zI<|G O<|Y O<|zX O (wY O O O ⟨by omega,by omega⟩)<|zX O (zFe O us3 ik262 O)<|zX O (det_shl O O O (by rw [zGp (by omega)];omega))<|zX O (det_neg O O)<|Y O<|W<|zJ<|zP O ?_
  exact congrArg vI (min_eq h1 h2)
theorem round_MaxInt (b:Int) (h1:2<=b) (h2:b<=31):
    Pur cfg 307 [vI b] (vI (half b-1)):=by
 refine zR Tryz.func307 O Tryz.ntmps307 Tryz.results307 O ?_
 intro z hz
 refine G O<|Y O<|W<|zG<|G O<|Y O<|qK O ok335 (zNy _) ⟨U,O,T⟩<|wD O<|W<|zE O (fun c1=>?_) (fun c1=>?_)
 ·try simp only [sx] at c1
  exact absurd c1 (by omega)
 ·try simp only [sx] at c1
  refine zI<|G O<|Y O<|zX O (wY O O O ⟨by omega,by omega⟩)<|zX O (zFe O us3 ik262 O)<|zX O (det_shl O O O (by rw [zGp (by omega)];omega))<|zX O (det_sub O O O)<|Y O<|W<|zJ<|zP O ?_
  exact congrArg vI (max_eq h1 h2)
theorem fixed_Valid (t:Ty) (v:Vl):
    Pur cfg 273 [vTy t,vVal v] (vB (fixOk t&&(decide (v.D=1)&&decide (-half t.Bits<=v.N)&&decide (v.N<half t.Bits)))):=by
 refine zR Tryz.func273 O Tryz.ntmps273 Tryz.results273 O ?_
 intro z hz
 refine G O<|zS O O (qG O O) ?_
 rintro _ _ ⟨b1,rfl,rfl⟩
 refine zS O O (qG O O) ?_
 rintro _ _ ⟨b2,rfl,rfl⟩
 refine Y O<|W<|zG<|qY 25 mixed (by kernel_rfl) O O<|zM O O (zT O yD O (J 1 O) O)<|zM O O (qH O ok236 (zBt _) ⟨U,O,T⟩)<|zM O O (yL O O O)<|zM O O (zQ O O)<|qC [] O O O O gv1 T (fun g1_3=>zF O zFo O) O<|qC [(9,_)] O O O O gv1 ⟨O,O,T⟩ (fun g1_3=>zK O one2 O (J 0 O) O) O<|qC [(10,_)] O O O O gv1 ⟨O,O,T⟩ (fun g1_3=>yL O O O) O<|zM O O (wF O O O (fun h=>h) O)<|zM O O (zQ O O)<|qC [] O O O O gv1 T (fun g1_8=>zF O zEo O) O<|qC [(14,_)] O O O O gv1 ⟨O,O,T⟩ (fun g1_8=>zK O one2 O (J 0 O) O) O<|qC [] O O O O gv1 T (fun g1_8=>zF O zHr O) O<|qC [(16,_)] O O O O gv1 ⟨O,O,T⟩ (fun g1_8=>zK O one3 O (J 1 O) O) O<|qC [(17,_)] O O O O gv1 ⟨O,O,T⟩ (fun g1_8=>qH O ok306 (round_MinInt _ (fixB (fxa g1_8)).1 (fixB (fxa g1_8)).2) ⟨U,O,T⟩) O<|qC [(15,_),(18,_)] O O O O gv1 ⟨O,O,O,O,T⟩ (fun g1_8=>kX O O O) O<|zM O O (wF O O O (fun h=>h) O)<|zM O O (zQ O O)<|qC [] O O O O gv1 T (fun g1_16=>zF O zEo O) O<|qC [(22,_)] O O O O gv1 ⟨O,O,T⟩ (fun g1_16=>zK O one2 O (J 0 O) O) O<|qC [] O O O O gv1 T (fun g1_16=>zF O zHr O) O<|qC [(24,_)] O O O O gv1 ⟨O,O,T⟩ (fun g1_16=>zK O one3 O (J 1 O) O) O<|qC [(25,_)] O O O O gv1 ⟨O,O,T⟩ (fun g1_16=>qH O ok307 (round_MaxInt _ (fixB (fxb g1_16)).1 (fixB (fxb g1_16)).2) ⟨U,O,T⟩) O<|qC [(23,_),(26,_)] O O O O gv1 ⟨O,O,O,O,T⟩ (fun g1_16=>kO O O O) O<|zM O O (wF O O O (fun h=>h) O)<|zM O O (yV O O)<|yT<|W<|zJ<|zP O ?_
 exact congrArg vB (fixV t v)
theorem value_whole (n:Int):
    Pur cfg 274 [vI n] (vB (num31 n)):=by
 refine zR Tryz.func274 O Tryz.ntmps274 Tryz.results274 O ?_
 intro z hz
 refine G O<|Y O<|W<|G O<|Y O<|zX O (kX O O O)<|Y O<|rL0 O (fun g1_2=>zQ O O) O<|rL1 6 O (fun g1_2=>kO O O O) O<|kD O (fun h=>h)<|Y O<|W<|zJ<|zP O ?_
 exact O
theorem frac_inRange (n:Int):
    Pur cfg 308 [vI n] (vB (num31 n)):=by
 refine zR Tryz.func308 O Tryz.ntmps308 Tryz.results308 O ?_
 intro z hz
 refine G O<|Y O<|W<|G O<|Y O<|zX O (kX O O O)<|Y O<|rL0 O (fun g1_2=>zQ O O) O<|rL1 6 O (fun g1_2=>kO O O O) O<|kD O (fun h=>h)<|Y O<|W<|zJ<|zP O ?_
 exact O
theorem frac_magnitude (n:Int) (hn: -9223372036854775808<=n) (hm:n<=9223372036854775807):
    Pur cfg 310 [vI n] (vU64 n.natAbs):=by
 refine zR Tryz.func310 O Tryz.ntmps310 Tryz.results310 O ?_
 intro z hz
 refine G O<|Y O<|W<|zG<|G O<|Y O<|qW O<|W<|zE O (fun c1=>?_) (fun c1=>?_)
 ·try simp only [sx] at c1
  refine G O<|Y O<|zX O (zFe O us2 ik254 O)<|zX O (det_neg O O)<|Y O<|W<|zJ<|zP O ?_
  exact congrArg vU64 (mag_neg c1 hn)
 ·try simp only [sx] at c1
  refine zI<|G O<|Y O<|zX O (zFe O us2 ik254 O)<|Y O<|W<|zJ<|zP O ?_
  exact congrArg vU64 (mag_pos (by omega) hm)
theorem frac_gcd (a b:Nat):
    Pur cfg 309 [vU64 a,vU64 b] (vU64 (Nat.gcd a b)):=by
 refine zR Tryz.func309 O Tryz.ntmps309 Tryz.results309 O ?_
 intro z hz
 refine G O<|Y O<|W<|zG<|zN<|zU ⟨[(0,.c _),(1,.c _)],[]⟩ (Weak.mk [] ⟨U,U,T⟩ O)<|qA 2 0 O O (Nat×Nat) (fun ⟨x,y⟩=>[(0,vU64 x),(1,vU64 y)]) (fun ⟨x,y⟩=>[]) (fun ⟨x,y⟩=>Nat.gcd a b=Nat.gcd x y) (fun ⟨x,y⟩=>y) ⟨⟨a,b⟩,O,Weak.mk [] ⟨U,U,T⟩ O⟩ ?_
 rintro ⟨x,y⟩ hg
 refine zG<|G O<|Y O<|yR O<|W<|zE O (fun c1=>?_) (fun c1=>?_)
 ·try simp only [sx] at c1
  refine zI<|zN<|qY 6 mixed (by kernel_rfl) O O<|zM O O (zQ O O)<|zM O O (zQ O O)<|zM O O (zQ O O)<|zM O O (det_rem O O O (by omega))<|zM O O (yV O O)<|zM O O (yV O O)<|yT<|W ?_
  refine ⟨⟨y,x%y⟩,(by rw [hg];exact gcd_step (by omega)),(Nat.mod_lt _ (by omega)),Weak.mk [] ⟨U,VLe.of_eq (congrArg vU64 (Int.ofNat_tmod x y).symm),T⟩ O⟩
 ·try simp only [sx] at c1
  refine qE<|G O<|Y O<|Y O<|W<|zJ<|zP O ?_
  exact congrArg vU64 (by rw [hg,show y=0 by omega,Nat.gcd_zero_right])
theorem base_gcd (a b:Nat):
    Pur cfg 329 [vI a,vI b] (vI (Nat.gcd a b)):=by
 refine zR Tryz.func329 O Tryz.ntmps329 Tryz.results329 O ?_
 intro z hz
 refine G O<|Y O<|W<|zG<|zN<|zU ⟨[(0,.c _),(1,.c _)],[]⟩ (Weak.mk [] ⟨U,U,T⟩ O)<|qA 2 0 O O (Nat×Nat) (fun ⟨x,y⟩=>[(0,vI x),(1,vI y)]) (fun ⟨x,y⟩=>[]) (fun ⟨x,y⟩=>Nat.gcd a b=Nat.gcd x y) (fun ⟨x,y⟩=>y) ⟨⟨a,b⟩,O,Weak.mk [] ⟨U,U,T⟩ O⟩ ?_
 rintro ⟨x,y⟩ hg
 refine zG<|G O<|Y O<|yR O<|W<|zE O (fun c1=>?_) (fun c1=>?_)
 ·try simp only [sx] at c1
  refine zI<|zN<|qY 6 mixed (by kernel_rfl) O O<|zM O O (zQ O O)<|zM O O (zQ O O)<|zM O O (zQ O O)<|zM O O (det_rem O O O (by omega))<|zM O O (yV O O)<|zM O O (yV O O)<|yT<|W ?_
  refine ⟨⟨y,x%y⟩,(by rw [hg];exact gcd_step (by omega)),(Nat.mod_lt _ (by omega)),Weak.mk [] ⟨U,VLe.of_eq (congrArg vI (Int.ofNat_tmod x y).symm),T⟩ O⟩
 ·try simp only [sx] at c1
  refine qE<|G O<|Y O<|Y O<|W<|zJ<|zP O ?_
  exact congrArg vI (by rw [hg,show y=0 by omega,Nat.gcd_zero_right])
theorem frac_Valid (v:Vl):
    Pur cfg 275 [vVal v] (vB (decide (1<=v.D)&&decide (v.D<=2147483647)&&num31 v.N&&decide (Int.gcd v.N v.D=1))):=by
 refine zR Tryz.func275 O Tryz.ntmps275 Tryz.results275 O ?_
 intro z hz
 refine G O<|zS O O (qG O O) ?_
 rintro _ _ ⟨b1,rfl,rfl⟩
 refine Y O<|W<|zG<|qY 24 mixed (by kernel_rfl) O O<|zM O O (zF O zFo O)<|zM O O (zK O one2 O (J 0 O) O)<|zM O O (kX O O O)<|zM O O (zQ O O)<|qC [] O O O O gv1 T (fun g1_3=>zF O zFo O) O<|qC [(7,_)] O O O O gv1 ⟨O,O,T⟩ (fun g1_3=>zK O one2 O (J 0 O) O) O<|qC [(8,_)] O O O O gv1 ⟨O,O,T⟩ (fun g1_3=>kO O O O) O<|zM O O (wF O O O (fun h=>h) O)<|zM O O (zQ O O)<|qC [] O O O O gv1 T (fun g1_8=>zF O zEo O) O<|qC [(12,_)] O O O O gv1 ⟨O,O,T⟩ (fun g1_8=>zK O one2 O (J 0 O) O) O<|qC [(13,_)] O O O O gv1 ⟨O,O,T⟩ (fun g1_8=>qH O ok308 (frac_inRange _) ⟨U,O,T⟩) O<|zM O O (wF O O O (fun h=>h) O)<|zM O O (zQ O O)<|qC [] O O O O gv1 T (fun g1_13=>zF O zEo O) O<|qC [(17,_)] O O O O gv1 ⟨O,O,T⟩ (fun g1_13=>zK O one2 O (J 0 O) O) O<|qC [(18,_)] O O O O gv1 ⟨O,O,T⟩ (fun g1_13=>qH O ok310 (frac_magnitude v.N (frV g1_13).2.2.1 (frV g1_13).2.2.2) ⟨U,O,T⟩) O<|qC [] O O O O gv1 T (fun g1_13=>zF O zFo O) O<|qC [(20,_)] O O O O gv1 ⟨O,O,T⟩ (fun g1_13=>zK O one2 O (J 0 O) O) O<|qC [(21,_)] O O O O gv1 ⟨O,O,T⟩ (fun g1_13=>zFe O us2 ik254 O) O<|qC [(19,_),(22,_)] O O O O gv1 ⟨O,O,O,O,T⟩ (fun g1_13=>qH O ok309 (show Pur cfg 309 [vU64 v.N.natAbs,vU64 (IntKind.u64.wrap v.D)] (vU64 (Nat.gcd v.N.natAbs v.D.natAbs)) from by rw [u64_D (frV g1_13).1 (frV g1_13).2.1];exact frac_gcd _ _) ⟨U,O,U,O,T⟩) O<|qC [(23,_)] O O O O gv1 ⟨O,O,T⟩ (fun g1_13=>yL O O O) O<|zM O O (wF O O O (fun h=>h) O)<|zM O O (yV O O)<|yT<|W<|zJ<|zP O ?_
 exact congrArg vB (by rw [show (decide (((Nat.gcd v.N.natAbs v.D.natAbs:Nat):Int)=1))=decide (Int.gcd v.N v.D=1) from decide_eq_decide.2 (by unfold Int.gcd;omega)])
theorem value_Valid (t:Ty) (v:Vl):
    Pur cfg 225 [vTy t,vVal v] (vB (tyOk t&&valOk t v)):=by
 refine zR Tryz.func225 O Tryz.ntmps225 Tryz.results225 O ?_
 intro z hz
 refine G O<|zS O O (qG O O) ?_
 rintro _ _ ⟨b1,rfl,rfl⟩
 refine zS O O (qG O O) ?_
 rintro _ _ ⟨b2,rfl,rfl⟩
 refine Y O<|W<|zG<|G O<|zL yD (J 1 O) O<|qK O ok191 (zBs _) ⟨U,O,T⟩<|yR O<|W<|zE O (fun c1=>?_) (fun c1=>?_)
 ·try simp only [sx] at c1
  have ht:tyOk t=false:=tyErr_ne c1
  refine G O<|Y O<|W<|zJ<|zP O ?_
  rw [ht];rfl
 ·try simp only [sx] at c1
  have ht:tyOk t=true:=tyErr_eq c1
  refine zI<|zG<|G O<|zD O zEn<|zH one3 (J 1 O) O<|W<|zN<|G O<|yG O<|Y O<|W<|zE O (fun c2=>?_) (fun c2=>?_)
  ·try simp only [sx] at c2
   refine G O<|zL yD (J 1 O) O<|zL agg35 (J 0 O) O<|qK O ok273 (fixed_Valid _ _) ⟨U,O,U,O,T⟩<|Y O<|W<|zJ<|zP O ?_
   exact congrArg vB (by rw [ht,valOk,c2,←zAw c2,ht];rfl)
  ·try simp only [sx] at c2
   refine G O<|yG O<|Y O<|W<|zE O (fun c3=>?_) (fun c3=>?_)
   ·try simp only [sx] at c3
    refine G O<|zD O zFo<|zH one2 (J 0 O) O<|yG O<|Y O<|rL0 O (fun g7_3=>zF O zEo O) O<|rL1 21 O (fun g7_3=>zK O one2 O (J 0 O) O) O<|rL1 22 O (fun g7_3=>qH O ok274 (value_whole _) ⟨U,O,T⟩) O<|kD O (fun h=>h)<|Y O<|W<|zJ<|zP O ?_
    exact congrArg vB (by rw [ht,valOk,yI c2,c3];rfl)
   ·try simp only [sx] at c3
    refine zI<|G O<|zL agg35 (J 0 O) O<|qK O ok275 (frac_Valid _) ⟨U,O,T⟩<|Y O<|W<|zJ<|zP O ?_
    exact congrArg vB (by rw [ht,valOk,yI c2,yI c3];rfl)
theorem base_Val (t:Ty) (v:Vl) (ht:tyOk t=true):
    Pur cfg 295 [vTy t,vVal v] (vB (valOk t v)):=by
 refine zR Tryz.func295 O Tryz.ntmps295 Tryz.results295 O ?_
 intro z hz
 refine G O<|zS O O (qG O O) ?_
 rintro _ _ ⟨b1,rfl,rfl⟩
 refine zS O O (qG O O) ?_
 rintro _ _ ⟨b2,rfl,rfl⟩
 refine Y O<|W<|zG<|G O<|zD O zEn<|zH one3 (J 1 O) O<|yG O<|W<|zE O (fun c1=>?_) (fun c1=>?_)
 ·try simp only [sx] at c1
  obtain ⟨b1,b2⟩:=fixB (by rw [←zAw c1];exact ht)
  refine G O<|zD O zHr<|zH one3 (J 1 O) O<|zX O (wY O O O ⟨by omega,by omega⟩)<|zX O (det_shl O O O (by omega))<|Y O<|W<|G O<|zD O zFo<|zH one2 (J 0 O) O<|yG O<|Y O<|rL0 O (fun g3_3=>zF O zEo O) O<|rL1 17 O (fun g3_3=>zK O one2 O (J 0 O) O) O<|rL0 O (fun g3_3=>zQ O O) O<|rL1 19 O (fun g3_3=>det_neg O O) O<|rLz [(18,_),(20,_)] O gv1 ⟨O,O,O,O,T⟩ (fun g3_3=>kX O O O) O<|kD O (fun h=>h)<|Y O<|rL0 O (fun g3_10=>zF O zEo O) O<|rL1 24 O (fun g3_10=>zK O one2 O (J 0 O) O) O<|rL0 O (fun g3_10=>zQ O O) O<|rLz [(25,_),(26,_)] O gv1 ⟨O,O,O,O,T⟩ (fun g3_10=>zDy O O O) O<|kD O (fun h=>h)<|Y O<|W<|zJ<|zP O ?_
  exact congrArg vB (valfix c1 b1 b2)
 ·try simp only [sx] at c1
  refine zI<|zG<|G O<|zD O zEo<|zH one2 (J 0 O) O<|zX O (yF O O O)<|Y O<|rL0 O (fun g4_3=>zF O zEo O) O<|rL1 33 O (fun g4_3=>zK O one2 O (J 0 O) O) O<|rL1 34 O (fun g4_3=>zDy O O O) O<|r_or O (fun h=>(lzf h))<|Y O<|rL0 O (fun g4_8=>zF O zFo O) O<|rL1 38 O (fun g4_8=>zK O one2 O (J 0 O) O) O<|rL1 39 O (fun g4_8=>zDy O O O) O<|r_or O (fun h=>(lzf h))<|Y O<|rL0 O (fun g4_13=>zF O zFo O) O<|rL1 43 O (fun g4_13=>zK O one2 O (J 0 O) O) O<|rL1 44 O (fun g4_13=>yF O O O) O<|r_or O (fun h=>(lzf h))<|W<|zE O (fun c2=>?_) (fun c2=>?_)
  ·refine G O<|Y O<|W<|zJ<|zP O ?_
   exact congrArg vB (val_out c1 c2).symm
  ·obtain ⟨hN1,hN2,hD1,hD2⟩:=val_in c2
   refine zI<|zG<|G O<|zD O zEn<|zH one3 (J 1 O) O<|yG O<|W<|zE O (fun c3=>?_) (fun c3=>?_)
   ·try simp only [sx] at c3
    refine G O<|zD O zFo<|zH one2 (J 0 O) O<|yG O<|Y O<|W<|zJ<|zP O ?_
    exact congrArg vB (by rw [valOk,yI c1,c3];simp [num31,hN1,hN2])
   ·try simp only [sx] at c3
    refine zI<|G O<|zD O zEo<|zH one2 (J 0 O) O<|zD O zEo<|zH one2 (J 0 O) O<|zX O (det_neg O O)<|zX O (det_max O O O)<|zD O zFo<|zH one2 (J 0 O) O<|qK O ok329 (show Pur cfg 329 [vI (max v.N (IntKind.i64.wrap (-v.N))),vI v.D] (vI (Int.gcd v.N v.D)) from by rw [max_abs hN1 hN2,show v.D=(v.D.natAbs:Int) by omega];exact base_gcd _ _) ⟨U,O,U,O,T⟩<|yG O<|Y O<|W<|zJ<|zP O ?_
    exact congrArg vB (by rw [valOk,yI c1,yI c3];simp [num31,hN1,hN2,hD1,hD2];omega)
end Go.W
