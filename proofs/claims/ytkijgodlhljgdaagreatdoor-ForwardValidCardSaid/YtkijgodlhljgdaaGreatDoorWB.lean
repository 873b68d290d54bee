/-
  Walks: what functions of the program compute. Printed by wip/gen/mk2.py.
  Conditions: none.
-/
import Derived.Test.YtkijgodlhljgdaaGreatDoorWA
set_option linter.unusedSimpArgs false
set_option linter.unusedVariables false
set_option maxRecDepth 10000
namespace Go.W
open Go Go.Eng Go.Proofs Go.L41 Go.Br
attribute [local irreducible] AWP RWP TD finQ
theorem agg29:aggT Tryz.prog 29=some 2:=by kernel_rfl
theorem qZ:aggT Tryz.prog 31=some 5:=by kernel_rfl
theorem zEo:fieldT Tryz.prog 29 0=some (0,2):=by kernel_rfl
theorem zFf:fieldT Tryz.prog 29 1=some (1,2):=by kernel_rfl
theorem zBp:fieldT Tryz.prog 31 0=some (0,3):=by kernel_rfl
theorem zGy:fieldT Tryz.prog 31 1=some (1,3):=by kernel_rfl
theorem zNs:fieldT Tryz.prog 31 2=some (2,3):=by kernel_rfl
theorem zNr:fieldT Tryz.prog 31 3=some (3,3):=by kernel_rfl
theorem zNq:fieldT Tryz.prog 31 4=some (4,3):=by kernel_rfl
theorem fl31:flatK Tryz.prog 31=some [.int,.int,.int,.int,.int]:=by kernel_rfl
theorem ik198:intT Tryz.prog 198=some .u64:=by kernel_rfl
theorem ik230:intT Tryz.prog 230=some .u64:=by kernel_rfl
theorem ok117:callOk Tryz.prog 117=true:=by kernel_rfl
theorem ok214:callOk Tryz.prog 214=true:=by kernel_rfl
theorem ok216:callOk Tryz.prog 216=true:=by kernel_rfl
theorem ok217:callOk Tryz.prog 217=true:=by kernel_rfl
theorem ok218:callOk Tryz.prog 218=true:=by kernel_rfl
theorem ok258:callOk Tryz.prog 258=true:=by kernel_rfl
theorem ok259:callOk Tryz.prog 259=true:=by kernel_rfl
theorem ok260:callOk Tryz.prog 260=true:=by kernel_rfl
theorem ok261:callOk Tryz.prog 261=true:=by kernel_rfl
theorem ok262:callOk Tryz.prog 262=true:=by kernel_rfl
theorem ok263:callOk Tryz.prog 263=true:=by kernel_rfl
theorem ok264:callOk Tryz.prog 264=true:=by kernel_rfl
theorem ok265:callOk Tryz.prog 265=true:=by kernel_rfl
theorem ok292:callOk Tryz.prog 292=true:=by kernel_rfl
theorem one3:oneT Tryz.prog 3=true:=by kernel_rfl
theorem pl29:placesT Tryz.prog 29=some [(0,1),(1,1)]:=by kernel_rfl
theorem pl31:placesT Tryz.prog 31=some [(0,1),(1,1),(2,1),(3,1),(4,1)]:=by kernel_rfl
theorem us2:(Tryz.prog.underlying 2).isSome=true:=by kernel_rfl
theorem us3:(Tryz.prog.underlying 3).isSome=true:=by kernel_rfl
theorem zr29:zeroT Tryz.prog 29=some [(Value.int IntKind.i64 0),(Value.int IntKind.i64 0)]:=by kernel_rfl
theorem zr31:zeroT Tryz.prog 31=some [(Value.int IntKind.i64 0),(Value.int IntKind.i64 0),(Value.int IntKind.i64 0),(Value.int IntKind.i64 0),(Value.int IntKind.i64 0)]:=by kernel_rfl
theorem zMa (t:Ty):
    Pur cfg 258 [vTy t] (vB (plainT t)):=by
 refine zT Tryz.func258 O Tryz.ntmps258 Tryz.results258 O ?_
 intro z hz
 refine B O<|zZ O O (qI O O) ?_
 rintro _ _ ⟨b1,rfl,rfl⟩
 refine G O<|U<|B O<|zL qZ (J 0 O) O<|zG O zBp<|zK one3 (J 0 O) O<|yV O zr31 pl31<|zX O (zLp O fl31 O O O)<|G O<|U<|zH<|zQ O ?_
 exact congrArg vB (plainT_eq t)
theorem zBt (t:Ty):
    Pur cfg 259 [vTy t] (vI (bif fixOk t then 0 else 10)):=by
 refine zT Tryz.func259 O Tryz.ntmps259 Tryz.results259 O ?_
 intro z hz
 refine B O<|zZ O O (qI O O) ?_
 rintro _ _ ⟨b1,rfl,rfl⟩
 refine G O<|U<|B O<|zG O zNr<|zK one3 (J 0 O) O<|zX O (wD O O O)<|G O<|rL0 O (fun g1_3=>zD O zNr O) O<|rL1 8 O (fun g1_3=>zF O one3 O (J 0 O) O) O<|rL1 9 O (fun g1_3=>kQ O O O) O<|yW O (fun h=>h)<|G O<|rL0 O (fun g1_8=>zD O zNq O) O<|rL1 13 O (fun g1_8=>zF O one3 O (J 0 O) O) O<|rL1 14 O (fun g1_8=>yF O O O) O<|rL1 15 O (fun g1_8=>zR O O) O<|rLz [] O q T (fun g1_12=>zD O zNq O) O<|rLz [(17,_)] O q ⟨O,O,T⟩ (fun g1_12=>zF O one3 O (J 0 O) O) O<|rLz [(18,_)] O q ⟨O,O,T⟩ (fun g1_12=>yF O O O) O<|rL1 16 O (fun g1_8=>zAw O O O O (fun h=>kA (by assumption) (lzf h))) O<|yW O (fun h=>h)<|G O<|U<|zI<|B O<|zG O zBp<|zK one3 (J 0 O) O<|yN O<|G O<|rL0 O (fun g2_3=>zD O zGy O) O<|rL1 26 O (fun g2_3=>zF O one3 O (J 0 O) O) O<|rL1 27 O (fun g2_3=>zEc O O O) O<|r_or O (fun h=>(lzf h))<|G O<|rL0 O (fun g2_8=>zD O zGy O) O<|rL1 31 O (fun g2_8=>zF O one3 O (J 0 O) O) O<|rL1 32 O (fun g2_8=>yD O O O) O<|r_or O (fun h=>(lzf h))<|G O<|rL0 O (fun g2_13=>zD O zNs O) O<|rL1 36 O (fun g2_13=>zF O one3 O (J 0 O) O) O<|rL1 37 O (fun g2_13=>zEc O O O) O<|r_or O (fun h=>(lzf h))<|G O<|rL0 O (fun g2_18=>zD O zNs O) O<|rL1 41 O (fun g2_18=>zF O one3 O (J 0 O) O) O<|rL1 42 O (fun g2_18=>yD O O O) O<|r_or O (fun h=>(lzf h))<|G O<|rL0 O (fun g2_23=>zR O O) O<|rL1 46 O (fun g2_23=>wA O O) O<|r_or O (fun h=>(lzf h))<|U<|zE O (fun c1=>?_) (fun c1=>?_)
 ·refine B O<|G O<|U<|zH<|zQ O ?_
  rw [show fixOk t=false from fix_no c1];rfl
 ·refine zJ<|B O<|G O<|U<|zH<|zQ O ?_
  rw [show fixOk t=true from fix_yes c1];rfl
theorem zBs (t:Ty):
    Pur cfg 214 [vTy t] (vI (tyErr t)):=by
 refine zT Tryz.func214 O Tryz.ntmps214 Tryz.results214 O ?_
 intro z hz
 refine B O<|zZ O O (qI O O) ?_
 rintro _ _ ⟨b1,rfl,rfl⟩
 refine G O<|U<|zI<|B O<|zG O zBp<|zK one3 (J 0 O) O<|U<|zP<|zI<|B O<|L O<|G O<|U<|zE O (fun c1=>?_) (fun c1=>?_)
 ·try simp only [W] at c1
  refine zJ<|zE O (fun c2=>?_) (fun c2=>?_)
  ·try simp only [W] at c2
   refine B O<|zL qZ (J 0 O) O<|qK O ok258 (zMa _) ⟨Y,O,T⟩<|U<|zE O (fun c3=>?_) (fun c3=>?_)
   ·try simp only [W] at c3
    refine B O<|G O<|U<|zH<|zQ O ?_
    exact congrArg vI (by first|(exfalso;omega)|(rw [tyErr,tyk1 (by omega),c3];rfl)|(rw [tyErr,zAt (by omega),fxz c5];rfl)|(rw [tyErr,zAt (by omega),fxn c5];rfl)|(rw [tyErr,tyk0 (by omega) (by omega) (by omega)];rfl))
   ·try simp only [W] at c3
    refine zJ<|B O<|G O<|U<|zH<|zQ O ?_
    exact congrArg vI (by first|(exfalso;omega)|(rw [tyErr,tyk1 (by omega),c3];rfl)|(rw [tyErr,zAt (by omega),fxz c5];rfl)|(rw [tyErr,zAt (by omega),fxn c5];rfl)|(rw [tyErr,tyk0 (by omega) (by omega) (by omega)];rfl))
  ·try simp only [W] at c2
   refine B O<|L O<|G O<|U<|zE O (fun c4=>?_) (fun c4=>?_)
   ·try simp only [W] at c4
    refine B O<|zL qZ (J 0 O) O<|qK O ok259 (zBt _) ⟨Y,O,T⟩<|L O<|U<|zE O (fun c5=>?_) (fun c5=>?_)
    ·try simp only [W] at c5
     refine B O<|G O<|U<|zH<|zQ O ?_
     exact congrArg vI (by first|(exfalso;omega)|(rw [tyErr,tyk1 (by omega),c3];rfl)|(rw [tyErr,zAt (by omega),fxz c5];rfl)|(rw [tyErr,zAt (by omega),fxn c5];rfl)|(rw [tyErr,tyk0 (by omega) (by omega) (by omega)];rfl))
    ·try simp only [W] at c5
     refine zJ<|B O<|G O<|U<|zH<|zQ O ?_
     exact congrArg vI (by first|(exfalso;omega)|(rw [tyErr,tyk1 (by omega),c3];rfl)|(rw [tyErr,zAt (by omega),fxz c5];rfl)|(rw [tyErr,zAt (by omega),fxn c5];rfl)|(rw [tyErr,tyk0 (by omega) (by omega) (by omega)];rfl))
   ·try simp only [W] at c4
    refine zJ<|B O<|G O<|U<|zH<|zQ O ?_
    exact congrArg vI (by first|(exfalso;omega)|(rw [tyErr,tyk1 (by omega),c3];rfl)|(rw [tyErr,zAt (by omega),fxz c5];rfl)|(rw [tyErr,zAt (by omega),fxn c5];rfl)|(rw [tyErr,tyk0 (by omega) (by omega) (by omega)];rfl))
 ·try simp only [W] at c1
  refine zS O<|L O<|G O<|U<|zE O (fun c2=>?_) (fun c2=>?_)
  ·try simp only [W] at c2
   refine B O<|zL qZ (J 0 O) O<|qK O ok258 (zMa _) ⟨Y,O,T⟩<|U<|zE O (fun c3=>?_) (fun c3=>?_)
   ·try simp only [W] at c3
    refine B O<|G O<|U<|zH<|zQ O ?_
    exact congrArg vI (by first|(exfalso;omega)|(rw [tyErr,tyk1 (by omega),c3];rfl)|(rw [tyErr,zAt (by omega),fxz c5];rfl)|(rw [tyErr,zAt (by omega),fxn c5];rfl)|(rw [tyErr,tyk0 (by omega) (by omega) (by omega)];rfl))
   ·try simp only [W] at c3
    refine zJ<|B O<|G O<|U<|zH<|zQ O ?_
    exact congrArg vI (by first|(exfalso;omega)|(rw [tyErr,tyk1 (by omega),c3];rfl)|(rw [tyErr,zAt (by omega),fxz c5];rfl)|(rw [tyErr,zAt (by omega),fxn c5];rfl)|(rw [tyErr,tyk0 (by omega) (by omega) (by omega)];rfl))
  ·try simp only [W] at c2
   refine B O<|L O<|G O<|U<|zE O (fun c4=>?_) (fun c4=>?_)
   ·try simp only [W] at c4
    refine B O<|zL qZ (J 0 O) O<|qK O ok259 (zBt _) ⟨Y,O,T⟩<|L O<|U<|zE O (fun c5=>?_) (fun c5=>?_)
    ·try simp only [W] at c5
     refine B O<|G O<|U<|zH<|zQ O ?_
     exact congrArg vI (by first|(exfalso;omega)|(rw [tyErr,tyk1 (by omega),c3];rfl)|(rw [tyErr,zAt (by omega),fxz c5];rfl)|(rw [tyErr,zAt (by omega),fxn c5];rfl)|(rw [tyErr,tyk0 (by omega) (by omega) (by omega)];rfl))
    ·try simp only [W] at c5
     refine zJ<|B O<|G O<|U<|zH<|zQ O ?_
     exact congrArg vI (by first|(exfalso;omega)|(rw [tyErr,tyk1 (by omega),c3];rfl)|(rw [tyErr,zAt (by omega),fxz c5];rfl)|(rw [tyErr,zAt (by omega),fxn c5];rfl)|(rw [tyErr,tyk0 (by omega) (by omega) (by omega)];rfl))
   ·try simp only [W] at c4
    refine zJ<|B O<|G O<|U<|zH<|zQ O ?_
    exact congrArg vI (by first|(exfalso;omega)|(rw [tyErr,tyk1 (by omega),c3];rfl)|(rw [tyErr,zAt (by omega),fxz c5];rfl)|(rw [tyErr,zAt (by omega),fxn c5];rfl)|(rw [tyErr,tyk0 (by omega) (by omega) (by omega)];rfl))
theorem zOi (t:Ty):
    Pur cfg 117 [vTy t] (vB (tyOk t)):=by
 refine zT Tryz.func117 O Tryz.ntmps117 Tryz.results117 O ?_
 intro z hz
 refine B O<|zZ O O (qI O O) ?_
 rintro _ _ ⟨b1,rfl,rfl⟩
 refine G O<|U<|zI<|B O<|zG O zBp<|zK one3 (J 0 O) O<|L O<|G O<|rL0 O (fun g1_3=>zD O zBp O) O<|rL1 7 O (fun g1_3=>zF O one3 O (J 0 O) O) O<|rL1 8 O (fun g1_3=>yF O O O) O<|r_or O (fun h=>(lzf h))<|U<|zE O (fun c1=>?_) (fun c1=>?_)
 ·refine B O<|zG O zGy<|zK one3 (J 0 O) O<|L O<|G O<|rL0 O (fun g2_3=>zD O zNs O) O<|rL1 15 O (fun g2_3=>zF O one3 O (J 0 O) O) O<|rL1 16 O (fun g2_3=>yF O O O) O<|yW O (fun h=>h)<|G O<|rL0 O (fun g2_8=>zD O zNr O) O<|rL1 20 O (fun g2_8=>zF O one3 O (J 0 O) O) O<|rL1 21 O (fun g2_8=>yF O O O) O<|yW O (fun h=>h)<|G O<|rL0 O (fun g2_13=>zD O zNq O) O<|rL1 25 O (fun g2_13=>zF O one3 O (J 0 O) O) O<|rL1 26 O (fun g2_13=>yF O O O) O<|yW O (fun h=>h)<|G O<|U<|zH<|zQ O ?_
  exact congrArg vB (type1 c1)
 ·refine zJ<|B O<|zG O zBp<|zK one3 (J 0 O) O<|L O<|G O<|rL0 O (fun g3_3=>zD O zGy O) O<|rL1 33 O (fun g3_3=>zF O one3 O (J 0 O) O) O<|rL1 34 O (fun g3_3=>wD O O O) O<|yW O (fun h=>h)<|G O<|rL0 O (fun g3_8=>zD O zGy O) O<|rL1 38 O (fun g3_8=>zF O one3 O (J 0 O) O) O<|rL1 39 O (fun g3_8=>kQ O O O) O<|yW O (fun h=>h)<|G O<|rL0 O (fun g3_13=>zD O zNs O) O<|rL1 43 O (fun g3_13=>zF O one3 O (J 0 O) O) O<|rL1 44 O (fun g3_13=>wD O O O) O<|yW O (fun h=>h)<|G O<|rL0 O (fun g3_18=>zD O zNs O) O<|rL1 48 O (fun g3_18=>zF O one3 O (J 0 O) O) O<|rL1 49 O (fun g3_18=>kQ O O O) O<|yW O (fun h=>h)<|G O<|rL0 O (fun g3_23=>zD O zNr O) O<|rL1 53 O (fun g3_23=>zF O one3 O (J 0 O) O) O<|rL1 54 O (fun g3_23=>wD O O O) O<|yW O (fun h=>h)<|G O<|rL0 O (fun g3_28=>zD O zNr O) O<|rL1 58 O (fun g3_28=>zF O one3 O (J 0 O) O) O<|rL1 59 O (fun g3_28=>kQ O O O) O<|yW O (fun h=>h)<|G O<|rL0 O (fun g3_33=>zD O zNq O) O<|rL1 63 O (fun g3_33=>zF O one3 O (J 0 O) O) O<|rL1 64 O (fun g3_33=>yF O O O) O<|rL1 65 O (fun g3_33=>zR O O) O<|rLz [] O q T (fun g3_37=>zD O zNq O) O<|rLz [(67,_)] O q ⟨O,O,T⟩ (fun g3_37=>zF O one3 O (J 0 O) O) O<|rLz [(68,_)] O q ⟨O,O,T⟩ (fun g3_37=>yF O O O) O<|rL1 66 O (fun g3_33=>zAw O O O O (fun h=>kA (by assumption) (lzf h))) O<|yW O (fun h=>h)<|G O<|U<|zH<|zQ O ?_
  exact congrArg vB (type2 c1)
theorem zMp (b:Int):
    Pur cfg 292 [vI b] (vB (decide (2<=b)&&decide (b<=31))):=by
 refine zT Tryz.func292 O Tryz.ntmps292 Tryz.results292 O ?_
 intro z hz
 refine B O<|G O<|U<|B O<|G O<|zX O (wD O O O)<|G O<|rL0 O (fun g1_2=>zR O O) O<|rL1 6 O (fun g1_2=>kQ O O O) O<|yW O (fun h=>h)<|G O<|U<|zH<|zQ O ?_
 exact O
theorem round_MinInt (b:Int) (h1:2<=b) (h2:b<=31):
    Pur cfg 260 [vI b] (vI (-half b)):=by
 refine zT Tryz.func260 O Tryz.ntmps260 Tryz.results260 O ?_
 intro z hz
 refine B O<|G O<|U<|zI<|B O<|G O<|qK O ok292 (zMp _) ⟨Y,O,T⟩<|wB O<|U<|zE O (fun c1=>?_) (fun c1=>?_)
 ·try simp only [W] at c1
  exact absurd c1 (by omega)
 ·try simp only [W] at c1
  refine zJ<|B O<|G O<|zX O (zAa O O O ⟨by omega,by omega⟩)<|zX O (zEy O us3 ik198 O)<|zX O (det_shl O O O (by rw [zGd (by omega)];omega))<|zX O (det_neg O O)<|G O<|U<|zH<|zQ O ?_
  exact congrArg vI (min_eq h1 h2)
theorem round_MaxInt (b:Int) (h1:2<=b) (h2:b<=31):
    Pur cfg 261 [vI b] (vI (half b-1)):=by
 refine zT Tryz.func261 O Tryz.ntmps261 Tryz.results261 O ?_
 intro z hz
 refine B O<|G O<|U<|zI<|B O<|G O<|qK O ok292 (zMp _) ⟨Y,O,T⟩<|wB O<|U<|zE O (fun c1=>?_) (fun c1=>?_)
 ·try simp only [W] at c1
  exact absurd c1 (by omega)
 ·try simp only [W] at c1
  refine zJ<|B O<|G O<|zX O (zAa O O O ⟨by omega,by omega⟩)<|zX O (zEy O us3 ik198 O)<|zX O (det_shl O O O (by rw [zGd (by omega)];omega))<|zX O (det_sub O O O)<|G O<|U<|zH<|zQ O ?_
  exact congrArg vI (max_eq h1 h2)
theorem fixed_Valid (t:Ty) (v:Vl):
    Pur cfg 216 [vTy t,vVal v] (vB (fixOk t&&(decide (v.D=1)&&decide (-half t.Bits<=v.N)&&decide (v.N<half t.Bits)))):=by
 refine zT Tryz.func216 O Tryz.ntmps216 Tryz.results216 O ?_
 intro z hz
 refine B O<|zZ O O (qI O O) ?_
 rintro _ _ ⟨b1,rfl,rfl⟩
 refine zZ O O (qI O O) ?_
 rintro _ _ ⟨b2,rfl,rfl⟩
 refine G O<|U<|zI<|qT 25 mixed (by kernel_rfl) O O<|zM O O (zN O qZ O (J 1 O) O)<|zM O O (qG O ok259 (zBt _) ⟨Y,O,T⟩)<|zM O O (yF O O O)<|zM O O (zR O O)<|qC [] O O O O gv1 T (fun g1_3=>zD O zFf O) O<|qC [(9,_)] O O O O gv1 ⟨O,O,T⟩ (fun g1_3=>zF O one2 O (J 0 O) O) O<|qC [(10,_)] O O O O gv1 ⟨O,O,T⟩ (fun g1_3=>yF O O O) O<|zM O O (kR O O O (fun h=>h) O)<|zM O O (zR O O)<|qC [] O O O O gv1 T (fun g1_8=>zD O zEo O) O<|qC [(14,_)] O O O O gv1 ⟨O,O,T⟩ (fun g1_8=>zF O one2 O (J 0 O) O) O<|qC [] O O O O gv1 T (fun g1_8=>zD O zGy O) O<|qC [(16,_)] O O O O gv1 ⟨O,O,T⟩ (fun g1_8=>zF O one3 O (J 1 O) O) O<|qC [(17,_)] O O O O gv1 ⟨O,O,T⟩ (fun g1_8=>qG O ok260 (round_MinInt _ (fixB (fxa g1_8)).1 (fixB (fxa g1_8)).2) ⟨Y,O,T⟩) O<|qC [(15,_),(18,_)] O O O O gv1 ⟨O,O,O,O,T⟩ (fun g1_8=>wD O O O) O<|zM O O (kR O O O (fun h=>h) O)<|zM O O (zR O O)<|qC [] O O O O gv1 T (fun g1_16=>zD O zEo O) O<|qC [(22,_)] O O O O gv1 ⟨O,O,T⟩ (fun g1_16=>zF O one2 O (J 0 O) O) O<|qC [] O O O O gv1 T (fun g1_16=>zD O zGy O) O<|qC [(24,_)] O O O O gv1 ⟨O,O,T⟩ (fun g1_16=>zF O one3 O (J 1 O) O) O<|qC [(25,_)] O O O O gv1 ⟨O,O,T⟩ (fun g1_16=>qG O ok261 (round_MaxInt _ (fixB (fxb g1_16)).1 (fixB (fxb g1_16)).2) ⟨Y,O,T⟩) O<|qC [(23,_),(26,_)] O O O O gv1 ⟨O,O,O,O,T⟩ (fun g1_16=>kQ O O O) O<|zM O O (kR O O O (fun h=>h) O)<|zM O O (yQ O O)<|yM<|U<|zH<|zQ O ?_
 exact congrArg vB (fixV t v)
theorem value_whole (n:Int):
    Pur cfg 217 [vI n] (vB (num31 n)):=by
 refine zT Tryz.func217 O Tryz.ntmps217 Tryz.results217 O ?_
 intro z hz
 refine B O<|G O<|U<|B O<|G O<|zX O (wD O O O)<|G O<|rL0 O (fun g1_2=>zR O O) O<|rL1 6 O (fun g1_2=>kQ O O O) O<|yW O (fun h=>h)<|G O<|U<|zH<|zQ O ?_
 exact O
theorem frac_inRange (n:Int):
    Pur cfg 262 [vI n] (vB (num31 n)):=by
 refine zT Tryz.func262 O Tryz.ntmps262 Tryz.results262 O ?_
 intro z hz
 refine B O<|G O<|U<|B O<|G O<|zX O (wD O O O)<|G O<|rL0 O (fun g1_2=>zR O O) O<|rL1 6 O (fun g1_2=>kQ O O O) O<|yW O (fun h=>h)<|G O<|U<|zH<|zQ O ?_
 exact O
theorem frac_magnitude (n:Int) (hn: -9223372036854775808<=n) (hm:n<=9223372036854775807):
    Pur cfg 264 [vI n] (vU64 n.natAbs):=by
 refine zT Tryz.func264 O Tryz.ntmps264 Tryz.results264 O ?_
 intro z hz
 refine B O<|G O<|U<|zI<|B O<|G O<|yA O<|U<|zE O (fun c1=>?_) (fun c1=>?_)
 ·try simp only [W] at c1
  refine B O<|G O<|zX O (zEy O us2 ik230 O)<|zX O (det_neg O O)<|G O<|U<|zH<|zQ O ?_
  exact congrArg vU64 (mag_neg c1 hn)
 ·try simp only [W] at c1
  refine zJ<|B O<|G O<|zX O (zEy O us2 ik230 O)<|G O<|U<|zH<|zQ O ?_
  exact congrArg vU64 (mag_pos (by omega) hm)
theorem frac_gcd (a b:Nat):
    Pur cfg 263 [vU64 a,vU64 b] (vU64 (Nat.gcd a b)):=by
 refine zT Tryz.func263 O Tryz.ntmps263 Tryz.results263 O ?_
 intro z hz
 refine B O<|G O<|U<|zI<|zP<|zU ⟨[(0,.c _),(1,.c _)],[]⟩ (Weak.mk [] ⟨Y,Y,T⟩ O)<|qF 2 0 O O (Nat×Nat) (fun ⟨x,y⟩=>[(0,vU64 x),(1,vU64 y)]) (fun ⟨x,y⟩=>[]) (fun ⟨x,y⟩=>Nat.gcd a b=Nat.gcd x y) (fun ⟨x,y⟩=>y) ⟨⟨a,b⟩,O,Weak.mk [] ⟨Y,Y,T⟩ O⟩ ?_
 rintro ⟨x,y⟩ hg
 refine zI<|B O<|G O<|yN O<|U<|zE O (fun c1=>?_) (fun c1=>?_)
 ·try simp only [W] at c1
  refine zJ<|zP<|qT 6 mixed (by kernel_rfl) O O<|zM O O (zR O O)<|zM O O (zR O O)<|zM O O (zR O O)<|zM O O (det_rem O O O (by omega))<|zM O O (yQ O O)<|zM O O (yQ O O)<|yM<|U ?_
  refine ⟨⟨y,x%y⟩,(by rw [hg];exact gcd_step (by omega)),(Nat.mod_lt _ (by omega)),Weak.mk [] ⟨Y,VLe.of_eq (congrArg vU64 (Int.ofNat_tmod x y).symm),T⟩ O⟩
 ·try simp only [W] at c1
  refine qO<|B O<|G O<|G O<|U<|zH<|zQ O ?_
  exact congrArg vU64 (by rw [hg,show y=0 by omega,Nat.gcd_zero_right])
theorem base_gcd (a b:Nat):
    Pur cfg 265 [vI a,vI b] (vI (Nat.gcd a b)):=by
 refine zT Tryz.func265 O Tryz.ntmps265 Tryz.results265 O ?_
 intro z hz
 refine B O<|G O<|U<|zI<|zP<|zU ⟨[(0,.c _),(1,.c _)],[]⟩ (Weak.mk [] ⟨Y,Y,T⟩ O)<|qF 2 0 O O (Nat×Nat) (fun ⟨x,y⟩=>[(0,vI x),(1,vI y)]) (fun ⟨x,y⟩=>[]) (fun ⟨x,y⟩=>Nat.gcd a b=Nat.gcd x y) (fun ⟨x,y⟩=>y) ⟨⟨a,b⟩,O,Weak.mk [] ⟨Y,Y,T⟩ O⟩ ?_
 rintro ⟨x,y⟩ hg
 refine zI<|B O<|G O<|yN O<|U<|zE O (fun c1=>?_) (fun c1=>?_)
 ·try simp only [W] at c1
  refine zJ<|zP<|qT 6 mixed (by kernel_rfl) O O<|zM O O (zR O O)<|zM O O (zR O O)<|zM O O (zR O O)<|zM O O (det_rem O O O (by omega))<|zM O O (yQ O O)<|zM O O (yQ O O)<|yM<|U ?_
  refine ⟨⟨y,x%y⟩,(by rw [hg];exact gcd_step (by omega)),(Nat.mod_lt _ (by omega)),Weak.mk [] ⟨Y,VLe.of_eq (congrArg vI (Int.ofNat_tmod x y).symm),T⟩ O⟩
 ·try simp only [W] at c1
  refine qO<|B O<|G O<|G O<|U<|zH<|zQ O ?_
  exact congrArg vI (by rw [hg,show y=0 by omega,Nat.gcd_zero_right])
theorem frac_Valid (v:Vl):
    Pur cfg 218 [vVal v] (vB (decide (1<=v.D)&&decide (v.D<=2147483647)&&num31 v.N&&decide (Int.gcd v.N v.D=1))):=by
 refine zT Tryz.func218 O Tryz.ntmps218 Tryz.results218 O ?_
 intro z hz
 refine B O<|zZ O O (qI O O) ?_
 rintro _ _ ⟨b1,rfl,rfl⟩
 refine G O<|U<|zI<|qT 24 mixed (by kernel_rfl) O O<|zM O O (zD O zFf O)<|zM O O (zF O one2 O (J 0 O) O)<|zM O O (wD O O O)<|zM O O (zR O O)<|qC [] O O O O gv1 T (fun g1_3=>zD O zFf O) O<|qC [(7,_)] O O O O gv1 ⟨O,O,T⟩ (fun g1_3=>zF O one2 O (J 0 O) O) O<|qC [(8,_)] O O O O gv1 ⟨O,O,T⟩ (fun g1_3=>kQ O O O) O<|zM O O (kR O O O (fun h=>h) O)<|zM O O (zR O O)<|qC [] O O O O gv1 T (fun g1_8=>zD O zEo O) O<|qC [(12,_)] O O O O gv1 ⟨O,O,T⟩ (fun g1_8=>zF O one2 O (J 0 O) O) O<|qC [(13,_)] O O O O gv1 ⟨O,O,T⟩ (fun g1_8=>qG O ok262 (frac_inRange _) ⟨Y,O,T⟩) O<|zM O O (kR O O O (fun h=>h) O)<|zM O O (zR O O)<|qC [] O O O O gv1 T (fun g1_13=>zD O zEo O) O<|qC [(17,_)] O O O O gv1 ⟨O,O,T⟩ (fun g1_13=>zF O one2 O (J 0 O) O) O<|qC [(18,_)] O O O O gv1 ⟨O,O,T⟩ (fun g1_13=>qG O ok264 (frac_magnitude v.N (frV g1_13).2.2.1 (frV g1_13).2.2.2) ⟨Y,O,T⟩) O<|qC [] O O O O gv1 T (fun g1_13=>zD O zFf O) O<|qC [(20,_)] O O O O gv1 ⟨O,O,T⟩ (fun g1_13=>zF O one2 O (J 0 O) O) O<|qC [(21,_)] O O O O gv1 ⟨O,O,T⟩ (fun g1_13=>zEy O us2 ik230 O) O<|qC [(19,_),(22,_)] O O O O gv1 ⟨O,O,O,O,T⟩ (fun g1_13=>qG O ok263 (show Pur cfg 263 [vU64 v.N.natAbs,vU64 (IntKind.u64.wrap v.D)] (vU64 (Nat.gcd v.N.natAbs v.D.natAbs)) from by rw [u64_D (frV g1_13).1 (frV g1_13).2.1];exact frac_gcd _ _) ⟨Y,O,Y,O,T⟩) O<|qC [(23,_)] O O O O gv1 ⟨O,O,T⟩ (fun g1_13=>yF O O O) O<|zM O O (kR O O O (fun h=>h) O)<|zM O O (yQ O O)<|yM<|U<|zH<|zQ O ?_
 exact congrArg vB (by rw [show (decide (((Nat.gcd v.N.natAbs v.D.natAbs:Nat):Int)=1))=decide (Int.gcd v.N v.D=1) from decide_eq_decide.2 (by unfold Int.gcd;omega)])
theorem value_Valid (t:Ty) (v:Vl):
    Pur cfg 161 [vTy t,vVal v] (vB (tyOk t&&valOk t v)):=by
 refine zT Tryz.func161 O Tryz.ntmps161 Tryz.results161 O ?_
 intro z hz
 refine B O<|zZ O O (qI O O) ?_
 rintro _ _ ⟨b1,rfl,rfl⟩
 refine zZ O O (qI O O) ?_
 rintro _ _ ⟨b2,rfl,rfl⟩
 refine G O<|U<|zI<|B O<|zL qZ (J 1 O) O<|qK O ok214 (zBs _) ⟨Y,O,T⟩<|yN O<|U<|zE O (fun c1=>?_) (fun c1=>?_)
 ·try simp only [W] at c1
  have ht:tyOk t=false:=tyErr_ne c1
  refine B O<|G O<|U<|zH<|zQ O ?_
  rw [ht];rfl
 ·try simp only [W] at c1
  have ht:tyOk t=true:=tyErr_eq c1
  refine zJ<|zI<|B O<|zG O zBp<|zK one3 (J 1 O) O<|U<|zP<|B O<|L O<|G O<|U<|zE O (fun c2=>?_) (fun c2=>?_)
  ·try simp only [W] at c2
   refine B O<|zL qZ (J 1 O) O<|zL agg29 (J 0 O) O<|qK O ok216 (fixed_Valid _ _) ⟨Y,O,Y,O,T⟩<|G O<|U<|zH<|zQ O ?_
   exact congrArg vB (by rw [ht,valOk,c2,←zAt c2,ht];rfl)
  ·try simp only [W] at c2
   refine B O<|L O<|G O<|U<|zE O (fun c3=>?_) (fun c3=>?_)
   ·try simp only [W] at c3
    refine B O<|zG O zFf<|zK one2 (J 0 O) O<|L O<|G O<|rL0 O (fun g7_3=>zD O zEo O) O<|rL1 21 O (fun g7_3=>zF O one2 O (J 0 O) O) O<|rL1 22 O (fun g7_3=>qG O ok217 (value_whole _) ⟨Y,O,T⟩) O<|yW O (fun h=>h)<|G O<|U<|zH<|zQ O ?_
    exact congrArg vB (by rw [ht,valOk,yC c2,c3];rfl)
   ·try simp only [W] at c3
    refine zJ<|B O<|zL agg29 (J 0 O) O<|qK O ok218 (frac_Valid _) ⟨Y,O,T⟩<|G O<|U<|zH<|zQ O ?_
    exact congrArg vB (by rw [ht,valOk,yC c2,yC c3];rfl)
theorem base_Val (t:Ty) (v:Vl) (ht:tyOk t=true):
    Pur cfg 221 [vTy t,vVal v] (vB (valOk t v)):=by
 refine zT Tryz.func221 O Tryz.ntmps221 Tryz.results221 O ?_
 intro z hz
 refine B O<|zZ O O (qI O O) ?_
 rintro _ _ ⟨b1,rfl,rfl⟩
 refine zZ O O (qI O O) ?_
 rintro _ _ ⟨b2,rfl,rfl⟩
 refine G O<|U<|zI<|B O<|zG O zBp<|zK one3 (J 1 O) O<|L O<|U<|zE O (fun c1=>?_) (fun c1=>?_)
 ·try simp only [W] at c1
  obtain ⟨b1,b2⟩:=fixB (by rw [←zAt c1];exact ht)
  refine B O<|zG O zGy<|zK one3 (J 1 O) O<|zX O (zAa O O O ⟨by omega,by omega⟩)<|zX O (det_shl O O O (by omega))<|G O<|U<|B O<|zG O zFf<|zK one2 (J 0 O) O<|L O<|G O<|rL0 O (fun g3_3=>zD O zEo O) O<|rL1 17 O (fun g3_3=>zF O one2 O (J 0 O) O) O<|rL0 O (fun g3_3=>zR O O) O<|rL1 19 O (fun g3_3=>det_neg O O) O<|rLz [(18,_),(20,_)] O gv1 ⟨O,O,O,O,T⟩ (fun g3_3=>wD O O O) O<|yW O (fun h=>h)<|G O<|rL0 O (fun g3_10=>zD O zEo O) O<|rL1 24 O (fun g3_10=>zF O one2 O (J 0 O) O) O<|rL0 O (fun g3_10=>zR O O) O<|rLz [(25,_),(26,_)] O gv1 ⟨O,O,O,O,T⟩ (fun g3_10=>zEc O O O) O<|yW O (fun h=>h)<|G O<|U<|zH<|zQ O ?_
  exact congrArg vB (valfix c1 b1 b2)
 ·try simp only [W] at c1
  refine zJ<|zI<|B O<|zG O zEo<|zK one2 (J 0 O) O<|zX O (yD O O O)<|G O<|rL0 O (fun g4_3=>zD O zEo O) O<|rL1 33 O (fun g4_3=>zF O one2 O (J 0 O) O) O<|rL1 34 O (fun g4_3=>zEc O O O) O<|r_or O (fun h=>(lzf h))<|G O<|rL0 O (fun g4_8=>zD O zFf O) O<|rL1 38 O (fun g4_8=>zF O one2 O (J 0 O) O) O<|rL1 39 O (fun g4_8=>zEc O O O) O<|r_or O (fun h=>(lzf h))<|G O<|rL0 O (fun g4_13=>zD O zFf O) O<|rL1 43 O (fun g4_13=>zF O one2 O (J 0 O) O) O<|rL1 44 O (fun g4_13=>yD O O O) O<|r_or O (fun h=>(lzf h))<|U<|zE O (fun c2=>?_) (fun c2=>?_)
  ·refine B O<|G O<|U<|zH<|zQ O ?_
   exact congrArg vB (val_out c1 c2).symm
  ·obtain ⟨hN1,hN2,hD1,hD2⟩:=val_in c2
   refine zJ<|zI<|B O<|zG O zBp<|zK one3 (J 1 O) O<|L O<|U<|zE O (fun c3=>?_) (fun c3=>?_)
   ·try simp only [W] at c3
    refine B O<|zG O zFf<|zK one2 (J 0 O) O<|L O<|G O<|U<|zH<|zQ O ?_
    exact congrArg vB (by rw [valOk,yC c1,c3];simp [num31,hN1,hN2])
   ·try simp only [W] at c3
    refine zJ<|B O<|zG O zEo<|zK one2 (J 0 O) O<|zG O zEo<|zK one2 (J 0 O) O<|zX O (det_neg O O)<|zX O (det_max O O O)<|zG O zFf<|zK one2 (J 0 O) O<|qK O ok265 (show Pur cfg 265 [vI (max v.N (IntKind.i64.wrap (-v.N))),vI v.D] (vI (Int.gcd v.N v.D)) from by rw [max_abs hN1 hN2,show v.D=(v.D.natAbs:Int) by omega];exact base_gcd _ _) ⟨Y,O,Y,O,T⟩<|L O<|G O<|U<|zH<|zQ O ?_
    exact congrArg vB (by rw [valOk,yC c1,yC c3];simp [num31,hN1,hN2,hD1,hD2];omega)
end Go.W
