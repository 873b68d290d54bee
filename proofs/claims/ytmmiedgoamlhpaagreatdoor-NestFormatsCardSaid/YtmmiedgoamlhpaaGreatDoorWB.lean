/-
  Walks: what functions of the program compute. Printed by wip/gen/mk2.py.
  Conditions: none.
-/
import Derived.Test.YtmmiedgoamlhpaaGreatDoorWA
set_option linter.unusedSimpArgs false
set_option linter.unusedVariables false
set_option maxRecDepth 10000
namespace Go.W
open Go Go.Eng Go.Proofs Go.L41 Go.Br
attribute [local irreducible] AWP RWP TD finQ
theorem zAw:aggT Tryz.prog 63=some 2:=by kernel_rfl
theorem yI:aggT Tryz.prog 65=some 5:=by kernel_rfl
theorem zDa:fieldT Tryz.prog 63 0=some (0,2):=by kernel_rfl
theorem zEc:fieldT Tryz.prog 63 1=some (1,2):=by kernel_rfl
theorem zDd:fieldT Tryz.prog 65 0=some (0,3):=by kernel_rfl
theorem zFe:fieldT Tryz.prog 65 1=some (1,3):=by kernel_rfl
theorem zFw:fieldT Tryz.prog 65 2=some (2,3):=by kernel_rfl
theorem zIo:fieldT Tryz.prog 65 3=some (3,3):=by kernel_rfl
theorem zMf:fieldT Tryz.prog 65 4=some (4,3):=by kernel_rfl
theorem fl65:flatK Tryz.prog 65=some [.int,.int,.int,.int,.int]:=by kernel_rfl
theorem ik145:intT Tryz.prog 145=some .u64:=by kernel_rfl
theorem ik188:intT Tryz.prog 188=some .u64:=by kernel_rfl
theorem ok60:callOk Tryz.prog 60=true:=by kernel_rfl
theorem ok106:callOk Tryz.prog 106=true:=by kernel_rfl
theorem ok107:callOk Tryz.prog 107=true:=by kernel_rfl
theorem ok163:callOk Tryz.prog 163=true:=by kernel_rfl
theorem ok164:callOk Tryz.prog 164=true:=by kernel_rfl
theorem ok165:callOk Tryz.prog 165=true:=by kernel_rfl
theorem ok227:callOk Tryz.prog 227=true:=by kernel_rfl
theorem ok228:callOk Tryz.prog 228=true:=by kernel_rfl
theorem ok229:callOk Tryz.prog 229=true:=by kernel_rfl
theorem ok230:callOk Tryz.prog 230=true:=by kernel_rfl
theorem ok231:callOk Tryz.prog 231=true:=by kernel_rfl
theorem ok232:callOk Tryz.prog 232=true:=by kernel_rfl
theorem ok296:callOk Tryz.prog 296=true:=by kernel_rfl
theorem one3:oneT Tryz.prog 3=true:=by kernel_rfl
theorem pl65:placesT Tryz.prog 65=some [(0,1),(1,1),(2,1),(3,1),(4,1)]:=by kernel_rfl
theorem us2:(Tryz.prog.underlying 2).isSome=true:=by kernel_rfl
theorem us3:(Tryz.prog.underlying 3).isSome=true:=by kernel_rfl
theorem zr65:zeroT Tryz.prog 65=some [(Value.int IntKind.i64 0),(Value.int IntKind.i64 0),(Value.int IntKind.i64 0),(Value.int IntKind.i64 0),(Value.int IntKind.i64 0)]:=by kernel_rfl
theorem zQk (t:Ty):
    Pur cfg 106 [vTy t] (vB (plainT t)):=by
 refine zS Tryz.func106 O Tryz.ntmps106 Tryz.results106 O ?_
 intro z hz
 refine A O<|zU O O (qN O O) ?_
 rintro _ _ ⟨b1,rfl,rfl⟩
 refine G O<|R<|A O<|zO yI (zD 0 O) O<|zH O zDd<|zM one3 (zD 0 O) O<|yU O zr65 pl65<|zT O (zPs O fl65 O O O)<|G O<|R<|zF<|zQ O ?_
 exact congrArg vB (plainT_eq t)
theorem zBj (t:Ty):
    Pur cfg 107 [vTy t] (vI (bif fixOk t then 0 else 10)):=by
 refine zS Tryz.func107 O Tryz.ntmps107 Tryz.results107 O ?_
 intro z hz
 refine A O<|zU O O (qN O O) ?_
 rintro _ _ ⟨b1,rfl,rfl⟩
 refine G O<|R<|A O<|zH O zIo<|zM one3 (zD 0 O) O<|zT O (wO O O O)<|G O<|rL0 O (fun g1_3=>zE O zIo O) O<|rL1 8 O (fun g1_3=>zJ O one3 O (zD 0 O) O) O<|rL1 9 O (fun g1_3=>zAa O O O) O<|yZ O (fun h=>h)<|G O<|rL0 O (fun g1_8=>zE O zMf O) O<|rL1 13 O (fun g1_8=>zJ O one3 O (zD 0 O) O) O<|rL1 14 O (fun g1_8=>kB O O O) O<|rL1 15 O (fun g1_8=>zP O O) O<|rLz [] O N T (fun g1_12=>zE O zMf O) O<|rLz [(17,_)] O N ⟨O,O,T⟩ (fun g1_12=>zJ O one3 O (zD 0 O) O) O<|rLz [(18,_)] O N ⟨O,O,T⟩ (fun g1_12=>kB O O O) O<|rL1 16 O (fun g1_8=>zBk O O O O (fun h=>kI (by assumption) (lzf h))) O<|yZ O (fun h=>h)<|G O<|R<|zK<|A O<|zH O zDd<|zM one3 (zD 0 O) O<|kP O<|G O<|rL0 O (fun g2_3=>zE O zFe O) O<|rL1 26 O (fun g2_3=>zJ O one3 O (zD 0 O) O) O<|rL1 27 O (fun g2_3=>zCh O O O) O<|r_or O (fun h=>(lzf h))<|G O<|rL0 O (fun g2_8=>zE O zFe O) O<|rL1 31 O (fun g2_8=>zJ O one3 O (zD 0 O) O) O<|rL1 32 O (fun g2_8=>yA O O O) O<|r_or O (fun h=>(lzf h))<|G O<|rL0 O (fun g2_13=>zE O zFw O) O<|rL1 36 O (fun g2_13=>zJ O one3 O (zD 0 O) O) O<|rL1 37 O (fun g2_13=>zCh O O O) O<|r_or O (fun h=>(lzf h))<|G O<|rL0 O (fun g2_18=>zE O zFw O) O<|rL1 41 O (fun g2_18=>zJ O one3 O (zD 0 O) O) O<|rL1 42 O (fun g2_18=>yA O O O) O<|r_or O (fun h=>(lzf h))<|G O<|rL0 O (fun g2_23=>zP O O) O<|rL1 46 O (fun g2_23=>wL O O) O<|r_or O (fun h=>(lzf h))<|R<|zC O (fun c1=>?_) (fun c1=>?_)
 ·refine A O<|G O<|R<|zF<|zQ O ?_
  rw [show fixOk t=false from fix_no c1];rfl
 ·refine zI<|A O<|G O<|R<|zF<|zQ O ?_
  rw [show fixOk t=true from fix_yes c1];rfl
theorem zBi (t:Ty):
    Pur cfg 60 [vTy t] (vI (tyErr t)):=by
 refine zS Tryz.func60 O Tryz.ntmps60 Tryz.results60 O ?_
 intro z hz
 refine A O<|zU O O (qN O O) ?_
 rintro _ _ ⟨b1,rfl,rfl⟩
 refine G O<|R<|zK<|A O<|zH O zDd<|zM one3 (zD 0 O) O<|R<|zR<|zK<|A O<|L O<|G O<|R<|zC O (fun c1=>?_) (fun c1=>?_)
 ·try simp only [sx] at c1
  refine zI<|zC O (fun c2=>?_) (fun c2=>?_)
  ·try simp only [sx] at c2
   refine A O<|zO yI (zD 0 O) O<|qK O ok106 (zQk _) ⟨Y,O,T⟩<|R<|zC O (fun c3=>?_) (fun c3=>?_)
   ·try simp only [sx] at c3
    refine A O<|G O<|R<|zF<|zQ O ?_
    exact congrArg vI (by first|(exfalso;omega)|(rw [tyErr,tyk1 (by omega),c3];rfl)|(rw [tyErr,zAm (by omega),fxz c5];rfl)|(rw [tyErr,zAm (by omega),fxn c5];rfl)|(rw [tyErr,tyk0 (by omega) (by omega) (by omega)];rfl))
   ·try simp only [sx] at c3
    refine zI<|A O<|G O<|R<|zF<|zQ O ?_
    exact congrArg vI (by first|(exfalso;omega)|(rw [tyErr,tyk1 (by omega),c3];rfl)|(rw [tyErr,zAm (by omega),fxz c5];rfl)|(rw [tyErr,zAm (by omega),fxn c5];rfl)|(rw [tyErr,tyk0 (by omega) (by omega) (by omega)];rfl))
  ·try simp only [sx] at c2
   refine A O<|L O<|G O<|R<|zC O (fun c4=>?_) (fun c4=>?_)
   ·try simp only [sx] at c4
    refine A O<|zO yI (zD 0 O) O<|qK O ok107 (zBj _) ⟨Y,O,T⟩<|L O<|R<|zC O (fun c5=>?_) (fun c5=>?_)
    ·try simp only [sx] at c5
     refine A O<|G O<|R<|zF<|zQ O ?_
     exact congrArg vI (by first|(exfalso;omega)|(rw [tyErr,tyk1 (by omega),c3];rfl)|(rw [tyErr,zAm (by omega),fxz c5];rfl)|(rw [tyErr,zAm (by omega),fxn c5];rfl)|(rw [tyErr,tyk0 (by omega) (by omega) (by omega)];rfl))
    ·try simp only [sx] at c5
     refine zI<|A O<|G O<|R<|zF<|zQ O ?_
     exact congrArg vI (by first|(exfalso;omega)|(rw [tyErr,tyk1 (by omega),c3];rfl)|(rw [tyErr,zAm (by omega),fxz c5];rfl)|(rw [tyErr,zAm (by omega),fxn c5];rfl)|(rw [tyErr,tyk0 (by omega) (by omega) (by omega)];rfl))
   ·try simp only [sx] at c4
    refine zI<|A O<|G O<|R<|zF<|zQ O ?_
    exact congrArg vI (by first|(exfalso;omega)|(rw [tyErr,tyk1 (by omega),c3];rfl)|(rw [tyErr,zAm (by omega),fxz c5];rfl)|(rw [tyErr,zAm (by omega),fxn c5];rfl)|(rw [tyErr,tyk0 (by omega) (by omega) (by omega)];rfl))
 ·try simp only [sx] at c1
  refine zN O<|L O<|G O<|R<|zC O (fun c2=>?_) (fun c2=>?_)
  ·try simp only [sx] at c2
   refine A O<|zO yI (zD 0 O) O<|qK O ok106 (zQk _) ⟨Y,O,T⟩<|R<|zC O (fun c3=>?_) (fun c3=>?_)
   ·try simp only [sx] at c3
    refine A O<|G O<|R<|zF<|zQ O ?_
    exact congrArg vI (by first|(exfalso;omega)|(rw [tyErr,tyk1 (by omega),c3];rfl)|(rw [tyErr,zAm (by omega),fxz c5];rfl)|(rw [tyErr,zAm (by omega),fxn c5];rfl)|(rw [tyErr,tyk0 (by omega) (by omega) (by omega)];rfl))
   ·try simp only [sx] at c3
    refine zI<|A O<|G O<|R<|zF<|zQ O ?_
    exact congrArg vI (by first|(exfalso;omega)|(rw [tyErr,tyk1 (by omega),c3];rfl)|(rw [tyErr,zAm (by omega),fxz c5];rfl)|(rw [tyErr,zAm (by omega),fxn c5];rfl)|(rw [tyErr,tyk0 (by omega) (by omega) (by omega)];rfl))
  ·try simp only [sx] at c2
   refine A O<|L O<|G O<|R<|zC O (fun c4=>?_) (fun c4=>?_)
   ·try simp only [sx] at c4
    refine A O<|zO yI (zD 0 O) O<|qK O ok107 (zBj _) ⟨Y,O,T⟩<|L O<|R<|zC O (fun c5=>?_) (fun c5=>?_)
    ·try simp only [sx] at c5
     refine A O<|G O<|R<|zF<|zQ O ?_
     exact congrArg vI (by first|(exfalso;omega)|(rw [tyErr,tyk1 (by omega),c3];rfl)|(rw [tyErr,zAm (by omega),fxz c5];rfl)|(rw [tyErr,zAm (by omega),fxn c5];rfl)|(rw [tyErr,tyk0 (by omega) (by omega) (by omega)];rfl))
    ·try simp only [sx] at c5
     refine zI<|A O<|G O<|R<|zF<|zQ O ?_
     exact congrArg vI (by first|(exfalso;omega)|(rw [tyErr,tyk1 (by omega),c3];rfl)|(rw [tyErr,zAm (by omega),fxz c5];rfl)|(rw [tyErr,zAm (by omega),fxn c5];rfl)|(rw [tyErr,tyk0 (by omega) (by omega) (by omega)];rfl))
   ·try simp only [sx] at c4
    refine zI<|A O<|G O<|R<|zF<|zQ O ?_
    exact congrArg vI (by first|(exfalso;omega)|(rw [tyErr,tyk1 (by omega),c3];rfl)|(rw [tyErr,zAm (by omega),fxz c5];rfl)|(rw [tyErr,zAm (by omega),fxn c5];rfl)|(rw [tyErr,tyk0 (by omega) (by omega) (by omega)];rfl))
theorem zMu (t:Ty):
    Pur cfg 63 [vTy t] (vB (tyOk t)):=by
 refine zS Tryz.func63 O Tryz.ntmps63 Tryz.results63 O ?_
 intro z hz
 refine A O<|zU O O (qN O O) ?_
 rintro _ _ ⟨b1,rfl,rfl⟩
 refine G O<|R<|zK<|A O<|zH O zDd<|zM one3 (zD 0 O) O<|L O<|G O<|rL0 O (fun g1_3=>zE O zDd O) O<|rL1 7 O (fun g1_3=>zJ O one3 O (zD 0 O) O) O<|rL1 8 O (fun g1_3=>kB O O O) O<|r_or O (fun h=>(lzf h))<|R<|zC O (fun c1=>?_) (fun c1=>?_)
 ·refine A O<|zH O zFe<|zM one3 (zD 0 O) O<|L O<|G O<|rL0 O (fun g2_3=>zE O zFw O) O<|rL1 15 O (fun g2_3=>zJ O one3 O (zD 0 O) O) O<|rL1 16 O (fun g2_3=>kB O O O) O<|yZ O (fun h=>h)<|G O<|rL0 O (fun g2_8=>zE O zIo O) O<|rL1 20 O (fun g2_8=>zJ O one3 O (zD 0 O) O) O<|rL1 21 O (fun g2_8=>kB O O O) O<|yZ O (fun h=>h)<|G O<|rL0 O (fun g2_13=>zE O zMf O) O<|rL1 25 O (fun g2_13=>zJ O one3 O (zD 0 O) O) O<|rL1 26 O (fun g2_13=>kB O O O) O<|yZ O (fun h=>h)<|G O<|R<|zF<|zQ O ?_
  exact congrArg vB (type1 c1)
 ·refine zI<|A O<|zH O zDd<|zM one3 (zD 0 O) O<|L O<|G O<|rL0 O (fun g3_3=>zE O zFe O) O<|rL1 33 O (fun g3_3=>zJ O one3 O (zD 0 O) O) O<|rL1 34 O (fun g3_3=>wO O O O) O<|yZ O (fun h=>h)<|G O<|rL0 O (fun g3_8=>zE O zFe O) O<|rL1 38 O (fun g3_8=>zJ O one3 O (zD 0 O) O) O<|rL1 39 O (fun g3_8=>zAa O O O) O<|yZ O (fun h=>h)<|G O<|rL0 O (fun g3_13=>zE O zFw O) O<|rL1 43 O (fun g3_13=>zJ O one3 O (zD 0 O) O) O<|rL1 44 O (fun g3_13=>wO O O O) O<|yZ O (fun h=>h)<|G O<|rL0 O (fun g3_18=>zE O zFw O) O<|rL1 48 O (fun g3_18=>zJ O one3 O (zD 0 O) O) O<|rL1 49 O (fun g3_18=>zAa O O O) O<|yZ O (fun h=>h)<|G O<|rL0 O (fun g3_23=>zE O zIo O) O<|rL1 53 O (fun g3_23=>zJ O one3 O (zD 0 O) O) O<|rL1 54 O (fun g3_23=>wO O O O) O<|yZ O (fun h=>h)<|G O<|rL0 O (fun g3_28=>zE O zIo O) O<|rL1 58 O (fun g3_28=>zJ O one3 O (zD 0 O) O) O<|rL1 59 O (fun g3_28=>zAa O O O) O<|yZ O (fun h=>h)<|G O<|rL0 O (fun g3_33=>zE O zMf O) O<|rL1 63 O (fun g3_33=>zJ O one3 O (zD 0 O) O) O<|rL1 64 O (fun g3_33=>kB O O O) O<|rL1 65 O (fun g3_33=>zP O O) O<|rLz [] O N T (fun g3_37=>zE O zMf O) O<|rLz [(67,_)] O N ⟨O,O,T⟩ (fun g3_37=>zJ O one3 O (zD 0 O) O) O<|rLz [(68,_)] O N ⟨O,O,T⟩ (fun g3_37=>kB O O O) O<|rL1 66 O (fun g3_33=>zBk O O O O (fun h=>kI (by assumption) (lzf h))) O<|yZ O (fun h=>h)<|G O<|R<|zF<|zQ O ?_
  exact congrArg vB (type2 c1)
theorem zRc (b:Int):
    Pur cfg 296 [vI b] (vB (decide (2<=b)&&decide (b<=31))):=by
 refine zS Tryz.func296 O Tryz.ntmps296 Tryz.results296 O ?_
 intro z hz
 refine A O<|G O<|R<|A O<|G O<|zT O (wO O O O)<|G O<|rL0 O (fun g1_2=>zP O O) O<|rL1 6 O (fun g1_2=>zAa O O O) O<|yZ O (fun h=>h)<|G O<|R<|zF<|zQ O ?_
 exact O
theorem round_MinInt (b:Int) (h1:2<=b) (h2:b<=31):
    Pur cfg 228 [vI b] (vI (-half b)):=by
 refine zS Tryz.func228 O Tryz.ntmps228 Tryz.results228 O ?_
 intro z hz
 refine A O<|G O<|R<|zK<|A O<|G O<|qK O ok296 (zRc _) ⟨Y,O,T⟩<|wA O<|R<|zC O (fun c1=>?_) (fun c1=>?_)
 ·try simp only [sx] at c1
  exact absurd c1 (by omega)
 ·try simp only [sx] at c1
  refine zI<|A O<|G O<|zT O (yD O O O ⟨by omega,by omega⟩)<|zT O (wK O us3 ik145 O)<|zT O (det_shl O O O (by rw [zEf (by omega)];omega))<|zT O (zGy O O)<|G O<|R<|zF<|zQ O ?_
  exact congrArg vI (min_eq h1 h2)
theorem round_MaxInt (b:Int) (h1:2<=b) (h2:b<=31):
    Pur cfg 229 [vI b] (vI (half b-1)):=by
 refine zS Tryz.func229 O Tryz.ntmps229 Tryz.results229 O ?_
 intro z hz
 refine A O<|G O<|R<|zK<|A O<|G O<|qK O ok296 (zRc _) ⟨Y,O,T⟩<|wA O<|R<|zC O (fun c1=>?_) (fun c1=>?_)
 ·try simp only [sx] at c1
  exact absurd c1 (by omega)
 ·try simp only [sx] at c1
  refine zI<|A O<|G O<|zT O (yD O O O ⟨by omega,by omega⟩)<|zT O (wK O us3 ik145 O)<|zT O (det_shl O O O (by rw [zEf (by omega)];omega))<|zT O (det_sub O O O)<|G O<|R<|zF<|zQ O ?_
  exact congrArg vI (max_eq h1 h2)
theorem zSr (t:Ty) (v:Vl):
    Pur cfg 163 [vTy t,vVal v] (vB (fixOk t&&(decide (v.D=1)&&decide (-half t.Bits<=v.N)&&decide (v.N<half t.Bits)))):=by
 refine zS Tryz.func163 O Tryz.ntmps163 Tryz.results163 O ?_
 intro z hz
 refine A O<|zU O O (qN O O) ?_
 rintro _ _ ⟨b1,rfl,rfl⟩
 refine zU O O (qN O O) ?_
 rintro _ _ ⟨b2,rfl,rfl⟩
 refine G O<|R<|zK<|qU 25 mixed (by kernel_rfl) O O<|J O O (zV O yI O (zD 1 O) O)<|J O O (qC O ok107 (zBj _) ⟨Y,O,T⟩)<|J O O (kB O O O)<|J O O (zP O O)<|qR [] O O O O gv1 T (fun g1_3=>zE O zEc O) O<|qR [(9,_)] O O O O gv1 ⟨O,O,T⟩ (fun g1_3=>zJ O r O (zD 0 O) O) O<|qR [(10,_)] O O O O gv1 ⟨O,O,T⟩ (fun g1_3=>kB O O O) O<|J O O (zAp O O O (fun h=>h) O)<|J O O (zP O O)<|qR [] O O O O gv1 T (fun g1_8=>zE O zDa O) O<|qR [(14,_)] O O O O gv1 ⟨O,O,T⟩ (fun g1_8=>zJ O r O (zD 0 O) O) O<|qR [] O O O O gv1 T (fun g1_8=>zE O zFe O) O<|qR [(16,_)] O O O O gv1 ⟨O,O,T⟩ (fun g1_8=>zJ O one3 O (zD 1 O) O) O<|qR [(17,_)] O O O O gv1 ⟨O,O,T⟩ (fun g1_8=>qC O ok228 (round_MinInt _ (fixB (fxa g1_8)).1 (fixB (fxa g1_8)).2) ⟨Y,O,T⟩) O<|qR [(15,_),(18,_)] O O O O gv1 ⟨O,O,O,O,T⟩ (fun g1_8=>wO O O O) O<|J O O (zAp O O O (fun h=>h) O)<|J O O (zP O O)<|qR [] O O O O gv1 T (fun g1_16=>zE O zDa O) O<|qR [(22,_)] O O O O gv1 ⟨O,O,T⟩ (fun g1_16=>zJ O r O (zD 0 O) O) O<|qR [] O O O O gv1 T (fun g1_16=>zE O zFe O) O<|qR [(24,_)] O O O O gv1 ⟨O,O,T⟩ (fun g1_16=>zJ O one3 O (zD 1 O) O) O<|qR [(25,_)] O O O O gv1 ⟨O,O,T⟩ (fun g1_16=>qC O ok229 (round_MaxInt _ (fixB (fxb g1_16)).1 (fixB (fxb g1_16)).2) ⟨Y,O,T⟩) O<|qR [(23,_),(26,_)] O O O O gv1 ⟨O,O,O,O,T⟩ (fun g1_16=>zAa O O O) O<|J O O (zAp O O O (fun h=>h) O)<|J O O (qV O O)<|yO<|R<|zF<|zQ O ?_
 exact congrArg vB (fixV t v)
theorem value_whole (n:Int):
    Pur cfg 164 [vI n] (vB (num31 n)):=by
 refine zS Tryz.func164 O Tryz.ntmps164 Tryz.results164 O ?_
 intro z hz
 refine A O<|G O<|R<|A O<|G O<|zT O (wO O O O)<|G O<|rL0 O (fun g1_2=>zP O O) O<|rL1 6 O (fun g1_2=>zAa O O O) O<|yZ O (fun h=>h)<|G O<|R<|zF<|zQ O ?_
 exact O
theorem frac_inRange (n:Int):
    Pur cfg 230 [vI n] (vB (num31 n)):=by
 refine zS Tryz.func230 O Tryz.ntmps230 Tryz.results230 O ?_
 intro z hz
 refine A O<|G O<|R<|A O<|G O<|zT O (wO O O O)<|G O<|rL0 O (fun g1_2=>zP O O) O<|rL1 6 O (fun g1_2=>zAa O O O) O<|yZ O (fun h=>h)<|G O<|R<|zF<|zQ O ?_
 exact O
theorem zFn (n:Int) (hn: -9223372036854775808<=n) (hm:n<=9223372036854775807):
    Pur cfg 232 [vI n] (vU64 n.natAbs):=by
 refine zS Tryz.func232 O Tryz.ntmps232 Tryz.results232 O ?_
 intro z hz
 refine A O<|G O<|R<|zK<|A O<|G O<|yJ O<|R<|zC O (fun c1=>?_) (fun c1=>?_)
 ·try simp only [sx] at c1
  refine A O<|G O<|zT O (wK O us2 ik188 O)<|zT O (zGy O O)<|G O<|R<|zF<|zQ O ?_
  exact congrArg vU64 (mag_neg c1 hn)
 ·try simp only [sx] at c1
  refine zI<|A O<|G O<|zT O (wK O us2 ik188 O)<|G O<|R<|zF<|zQ O ?_
  exact congrArg vU64 (mag_pos (by omega) hm)
theorem frac_gcd (a b:Nat):
    Pur cfg 231 [vU64 a,vU64 b] (vU64 (Nat.gcd a b)):=by
 refine zS Tryz.func231 O Tryz.ntmps231 Tryz.results231 O ?_
 intro z hz
 refine A O<|G O<|R<|zK<|zR<|zX ⟨[(0,.c _),(1,.c _)],[]⟩ (Weak.mk [] ⟨Y,Y,T⟩ O)<|qG 2 0 O O (Nat×Nat) (fun ⟨x,y⟩=>[(0,vU64 x),(1,vU64 y)]) (fun ⟨x,y⟩=>[]) (fun ⟨x,y⟩=>Nat.gcd a b=Nat.gcd x y) (fun ⟨x,y⟩=>y) ⟨⟨a,b⟩,O,Weak.mk [] ⟨Y,Y,T⟩ O⟩ ?_
 rintro ⟨x,y⟩ hg
 refine zK<|A O<|G O<|kP O<|R<|zC O (fun c1=>?_) (fun c1=>?_)
 ·try simp only [sx] at c1
  refine zI<|zR<|qU 6 mixed (by kernel_rfl) O O<|J O O (zP O O)<|J O O (zP O O)<|J O O (zP O O)<|J O O (zSx O O O (by omega))<|J O O (qV O O)<|J O O (qV O O)<|yO<|R ?_
  refine ⟨⟨y,x%y⟩,(by rw [hg];exact gcd_step (by omega)),(Nat.mod_lt _ (by omega)),Weak.mk [] ⟨Y,VLe.of_eq (congrArg vU64 (Int.ofNat_tmod x y).symm),T⟩ O⟩
 ·try simp only [sx] at c1
  refine qP<|A O<|G O<|G O<|R<|zF<|zQ O ?_
  exact congrArg vU64 (by rw [hg,show y=0 by omega,Nat.gcd_zero_right])
theorem base_gcd (a b:Nat):
    Pur cfg 227 [vI a,vI b] (vI (Nat.gcd a b)):=by
 refine zS Tryz.func227 O Tryz.ntmps227 Tryz.results227 O ?_
 intro z hz
 refine A O<|G O<|R<|zK<|zR<|zX ⟨[(0,.c _),(1,.c _)],[]⟩ (Weak.mk [] ⟨Y,Y,T⟩ O)<|qG 2 0 O O (Nat×Nat) (fun ⟨x,y⟩=>[(0,vI x),(1,vI y)]) (fun ⟨x,y⟩=>[]) (fun ⟨x,y⟩=>Nat.gcd a b=Nat.gcd x y) (fun ⟨x,y⟩=>y) ⟨⟨a,b⟩,O,Weak.mk [] ⟨Y,Y,T⟩ O⟩ ?_
 rintro ⟨x,y⟩ hg
 refine zK<|A O<|G O<|kP O<|R<|zC O (fun c1=>?_) (fun c1=>?_)
 ·try simp only [sx] at c1
  refine zI<|zR<|qU 6 mixed (by kernel_rfl) O O<|J O O (zP O O)<|J O O (zP O O)<|J O O (zP O O)<|J O O (zSx O O O (by omega))<|J O O (qV O O)<|J O O (qV O O)<|yO<|R ?_
  refine ⟨⟨y,x%y⟩,(by rw [hg];exact gcd_step (by omega)),(Nat.mod_lt _ (by omega)),Weak.mk [] ⟨Y,VLe.of_eq (congrArg vI (Int.ofNat_tmod x y).symm),T⟩ O⟩
 ·try simp only [sx] at c1
  refine qP<|A O<|G O<|G O<|R<|zF<|zQ O ?_
  exact congrArg vI (by rw [hg,show y=0 by omega,Nat.gcd_zero_right])
theorem frac_Valid (v:Vl):
    Pur cfg 165 [vVal v] (vB (decide (1<=v.D)&&decide (v.D<=2147483647)&&num31 v.N&&decide (Int.gcd v.N v.D=1))):=by
 refine zS Tryz.func165 O Tryz.ntmps165 Tryz.results165 O ?_
 intro z hz
 refine A O<|zU O O (qN O O) ?_
 rintro _ _ ⟨b1,rfl,rfl⟩
 refine G O<|R<|zK<|qU 24 mixed (by kernel_rfl) O O<|J O O (zE O zEc O)<|J O O (zJ O r O (zD 0 O) O)<|J O O (wO O O O)<|J O O (zP O O)<|qR [] O O O O gv1 T (fun g1_3=>zE O zEc O) O<|qR [(7,_)] O O O O gv1 ⟨O,O,T⟩ (fun g1_3=>zJ O r O (zD 0 O) O) O<|qR [(8,_)] O O O O gv1 ⟨O,O,T⟩ (fun g1_3=>zAa O O O) O<|J O O (zAp O O O (fun h=>h) O)<|J O O (zP O O)<|qR [] O O O O gv1 T (fun g1_8=>zE O zDa O) O<|qR [(12,_)] O O O O gv1 ⟨O,O,T⟩ (fun g1_8=>zJ O r O (zD 0 O) O) O<|qR [(13,_)] O O O O gv1 ⟨O,O,T⟩ (fun g1_8=>qC O ok230 (frac_inRange _) ⟨Y,O,T⟩) O<|J O O (zAp O O O (fun h=>h) O)<|J O O (zP O O)<|qR [] O O O O gv1 T (fun g1_13=>zE O zDa O) O<|qR [(17,_)] O O O O gv1 ⟨O,O,T⟩ (fun g1_13=>zJ O r O (zD 0 O) O) O<|qR [(18,_)] O O O O gv1 ⟨O,O,T⟩ (fun g1_13=>qC O ok232 (zFn v.N (frV g1_13).2.2.1 (frV g1_13).2.2.2) ⟨Y,O,T⟩) O<|qR [] O O O O gv1 T (fun g1_13=>zE O zEc O) O<|qR [(20,_)] O O O O gv1 ⟨O,O,T⟩ (fun g1_13=>zJ O r O (zD 0 O) O) O<|qR [(21,_)] O O O O gv1 ⟨O,O,T⟩ (fun g1_13=>wK O us2 ik188 O) O<|qR [(19,_),(22,_)] O O O O gv1 ⟨O,O,O,O,T⟩ (fun g1_13=>qC O ok231 (show Pur cfg 231 [vU64 v.N.natAbs,vU64 (IntKind.u64.wrap v.D)] (vU64 (Nat.gcd v.N.natAbs v.D.natAbs)) from by rw [u64_D (frV g1_13).1 (frV g1_13).2.1];exact frac_gcd _ _) ⟨Y,O,Y,O,T⟩) O<|qR [(23,_)] O O O O gv1 ⟨O,O,T⟩ (fun g1_13=>kB O O O) O<|J O O (zAp O O O (fun h=>h) O)<|J O O (qV O O)<|yO<|R<|zF<|zQ O ?_
 exact congrArg vB (by rw [show (decide (((Nat.gcd v.N.natAbs v.D.natAbs:Nat):Int)=1))=decide (Int.gcd v.N v.D=1) from decide_eq_decide.2 (by unfold Int.gcd;omega)])
theorem zQl (t:Ty) (v:Vl):
    Pur cfg 117 [vTy t,vVal v] (vB (tyOk t&&valOk t v)):=by
 refine zS Tryz.func117 O Tryz.ntmps117 Tryz.results117 O ?_
 intro z hz
 refine A O<|zU O O (qN O O) ?_
 rintro _ _ ⟨b1,rfl,rfl⟩
 refine zU O O (qN O O) ?_
 rintro _ _ ⟨b2,rfl,rfl⟩
 refine G O<|R<|zK<|A O<|zO yI (zD 1 O) O<|qK O ok60 (zBi _) ⟨Y,O,T⟩<|kP O<|R<|zC O (fun c1=>?_) (fun c1=>?_)
 ·try simp only [sx] at c1
  have ht:tyOk t=false:=tyErr_ne c1
  refine A O<|G O<|R<|zF<|zQ O ?_
  rw [ht];rfl
 ·try simp only [sx] at c1
  have ht:tyOk t=true:=zJd c1
  refine zI<|zK<|A O<|zH O zDd<|zM one3 (zD 1 O) O<|R<|zR<|A O<|L O<|G O<|R<|zC O (fun c2=>?_) (fun c2=>?_)
  ·try simp only [sx] at c2
   refine A O<|zO yI (zD 1 O) O<|zO zAw (zD 0 O) O<|qK O ok163 (zSr _ _) ⟨Y,O,Y,O,T⟩<|G O<|R<|zF<|zQ O ?_
   exact congrArg vB (by rw [ht,valOk,c2,←zAm c2,ht];rfl)
  ·try simp only [sx] at c2
   refine A O<|L O<|G O<|R<|zC O (fun c3=>?_) (fun c3=>?_)
   ·try simp only [sx] at c3
    refine A O<|zH O zEc<|zM r (zD 0 O) O<|L O<|G O<|rL0 O (fun g7_3=>zE O zDa O) O<|rL1 21 O (fun g7_3=>zJ O r O (zD 0 O) O) O<|rL1 22 O (fun g7_3=>qC O ok164 (value_whole _) ⟨Y,O,T⟩) O<|yZ O (fun h=>h)<|G O<|R<|zF<|zQ O ?_
    exact congrArg vB (by rw [ht,valOk,yF c2,c3];rfl)
   ·try simp only [sx] at c3
    refine zI<|A O<|zO zAw (zD 0 O) O<|qK O ok165 (frac_Valid _) ⟨Y,O,T⟩<|G O<|R<|zF<|zQ O ?_
    exact congrArg vB (by rw [ht,valOk,yF c2,yF c3];rfl)
theorem base_Val (t:Ty) (v:Vl) (ht:tyOk t=true):
    Pur cfg 161 [vTy t,vVal v] (vB (valOk t v)):=by
 refine zS Tryz.func161 O Tryz.ntmps161 Tryz.results161 O ?_
 intro z hz
 refine A O<|zU O O (qN O O) ?_
 rintro _ _ ⟨b1,rfl,rfl⟩
 refine zU O O (qN O O) ?_
 rintro _ _ ⟨b2,rfl,rfl⟩
 refine G O<|R<|zK<|A O<|zH O zDd<|zM one3 (zD 1 O) O<|L O<|R<|zC O (fun c1=>?_) (fun c1=>?_)
 ·try simp only [sx] at c1
  obtain ⟨b1,b2⟩:=fixB (by rw [←zAm c1];exact ht)
  refine A O<|zH O zFe<|zM one3 (zD 1 O) O<|zT O (yD O O O ⟨by omega,by omega⟩)<|zT O (det_shl O O O (by omega))<|G O<|R<|A O<|zH O zEc<|zM r (zD 0 O) O<|L O<|G O<|rL0 O (fun g3_3=>zE O zDa O) O<|rL1 17 O (fun g3_3=>zJ O r O (zD 0 O) O) O<|rL0 O (fun g3_3=>zP O O) O<|rL1 19 O (fun g3_3=>zGy O O) O<|rLz [(18,_),(20,_)] O gv1 ⟨O,O,O,O,T⟩ (fun g3_3=>wO O O O) O<|yZ O (fun h=>h)<|G O<|rL0 O (fun g3_10=>zE O zDa O) O<|rL1 24 O (fun g3_10=>zJ O r O (zD 0 O) O) O<|rL0 O (fun g3_10=>zP O O) O<|rLz [(25,_),(26,_)] O gv1 ⟨O,O,O,O,T⟩ (fun g3_10=>zCh O O O) O<|yZ O (fun h=>h)<|G O<|R<|zF<|zQ O ?_
  exact congrArg vB (valfix c1 b1 b2)
 ·try simp only [sx] at c1
  refine zI<|zK<|A O<|zH O zDa<|zM r (zD 0 O) O<|zT O (yA O O O)<|G O<|rL0 O (fun g4_3=>zE O zDa O) O<|rL1 33 O (fun g4_3=>zJ O r O (zD 0 O) O) O<|rL1 34 O (fun g4_3=>zCh O O O) O<|r_or O (fun h=>(lzf h))<|G O<|rL0 O (fun g4_8=>zE O zEc O) O<|rL1 38 O (fun g4_8=>zJ O r O (zD 0 O) O) O<|rL1 39 O (fun g4_8=>zCh O O O) O<|r_or O (fun h=>(lzf h))<|G O<|rL0 O (fun g4_13=>zE O zEc O) O<|rL1 43 O (fun g4_13=>zJ O r O (zD 0 O) O) O<|rL1 44 O (fun g4_13=>yA O O O) O<|r_or O (fun h=>(lzf h))<|R<|zC O (fun c2=>?_) (fun c2=>?_)
  ·refine A O<|G O<|R<|zF<|zQ O ?_
   exact congrArg vB (val_out c1 c2).symm
  ·obtain ⟨hN1,hN2,hD1,hD2⟩:=val_in c2
   refine zI<|zK<|A O<|zH O zDd<|zM one3 (zD 1 O) O<|L O<|R<|zC O (fun c3=>?_) (fun c3=>?_)
   ·try simp only [sx] at c3
    refine A O<|zH O zEc<|zM r (zD 0 O) O<|L O<|G O<|R<|zF<|zQ O ?_
    exact congrArg vB (by rw [valOk,yF c1,c3];simp [num31,hN1,hN2])
   ·try simp only [sx] at c3
    refine zI<|A O<|zH O zDa<|zM r (zD 0 O) O<|zH O zDa<|zM r (zD 0 O) O<|zT O (zGy O O)<|zT O (zLb O O O)<|zH O zEc<|zM r (zD 0 O) O<|qK O ok227 (show Pur cfg 227 [vI (max v.N (IntKind.i64.wrap (-v.N))),vI v.D] (vI (Int.gcd v.N v.D)) from by rw [max_abs hN1 hN2,show v.D=(v.D.natAbs:Int) by omega];exact base_gcd _ _) ⟨Y,O,Y,O,T⟩<|L O<|G O<|R<|zF<|zQ O ?_
    exact congrArg vB (by rw [valOk,yF c1,yF c3];simp [num31,hN1,hN2,hD1,hD2];omega)
end Go.W
