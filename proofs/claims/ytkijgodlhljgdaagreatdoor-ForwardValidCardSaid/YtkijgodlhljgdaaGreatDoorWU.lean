/-
  Walks: what functions of the program compute. Printed by wip/gen/mk2.py.
  Conditions: none.
-/
import Derived.Test.YtkijgodlhljgdaaGreatDoorWT
import Derived.Test.YtkijgodlhljgdaaGreatDoorWP
import Derived.Test.YtkijgodlhljgdaaGreatDoorPlain
set_option linter.unusedSimpArgs false
set_option linter.unusedVariables false
set_option maxRecDepth 10000
namespace Go.W
open Go Go.Eng Go.Proofs Go.L41 Go.Br
attribute [local irreducible] AWP RWP TD finQ
theorem fd93_1:fieldT Tryz.prog 93 1=some (2,4):=by kernel_rfl
theorem ok19:callOk Tryz.prog 19=true:=by kernel_rfl
theorem ok21:callOk Tryz.prog 21=true:=by kernel_rfl
theorem ok58:callOk Tryz.prog 58=true:=by kernel_rfl
theorem one4:oneT Tryz.prog 4=true:=by kernel_rfl
theorem base_Axes (a b:List Ax) (ha:a.length<=4294967296) (hx0:∀x,x∈a->x.Size.L.length<=6000000000000):
    Pur cfg 58 [.c (.sl 3 (a.map Ax.cells)),.c (.sl 3 (b.map Ax.cells))] (vB (decide (a=b))):=by
 refine zT Tryz.func58 O Tryz.ntmps58 Tryz.results58 O ?_
 intro z hz
 refine B O<|G O<|U<|zI<|B O<|G O<|zY O el57<|G O<|zY O el57<|yN O<|U<|zE O (fun c1=>?_) (fun c1=>?_)
 ·try simp only [W] at c1
  refine B O<|G O<|U<|zH<|zQ O ?_
  rw [yC (fun h=>c1 (by rw [h]))]
 ·try simp only [W] at c1
  refine zJ<|zI<|B O<|G O<|U<|zP<|zU ⟨[(5,.c _),(0,.c _),(1,.c _)],[]⟩ (Weak.mk [] ⟨Y,Y,Y,T⟩ O)<|qF 1 0 O O (Nat) (fun k=>[(5,vI k)]) (fun k=>[]) (fun k=>k<=a.length/\(a.take k=b.take k)) (fun k=>a.length-k) ⟨0,⟨by omega,O⟩,Weak.mk [] ⟨Y,Y,Y,T⟩ O⟩ ?_
  rintro k ⟨hk,hp⟩
  refine zI<|B O<|G O<|G O<|zY O el57<|yA O<|U<|zE O (fun c2=>?_) (fun c2=>?_)
  ·try simp only [W] at c2
   obtain ⟨x,hx⟩:=qQ a k (by omega)
   obtain ⟨y,hy⟩:=qQ b k (by omega)
   refine zJ<|zI<|zP<|zI<|qT 25 mixed (by kernel_rfl) O O<|zM O O (zR O O)<|zM O O (zR O O)<|zM O O (qA O el57 O O (by omega) (getm hx))<|zM O O (qL O zCo O)<|zM O O (zF O one9 O qB O)<|zM O O (zR O O)<|zM O O (zR O O)<|zM O O (qA O el57 O O (by omega) (getm hy))<|zM O O (qL O zCo O)<|zM O O (zF O one9 O qB O)<|zM O O (zCt O O O)<|zM O O (zR O O)<|qC [] O O O O gv1 T (fun g6_11=>zR O O) O<|qC [] O O O O gv1 T (fun g6_11=>zR O O) O<|qC [(29,_),(30,_)] O O O O gv1 ⟨O,O,O,O,T⟩ (fun g6_11=>qA O el57 O O (by omega) (getm hx)) O<|qC [(31,_)] O O O O gv1 ⟨O,O,T⟩ (fun g6_11=>qL O zHp O) O<|qC [(32,_)] O O O O gv1 ⟨O,O,T⟩ (fun g6_11=>zN O kK O qB O) O<|qC [] O O O O gv1 T (fun g6_11=>zR O O) O<|qC [] O O O O gv1 T (fun g6_11=>zR O O) O<|qC [(34,_),(35,_)] O O O O gv1 ⟨O,O,O,O,T⟩ (fun g6_11=>qA O el57 O O (by omega) (getm hy)) O<|qC [(36,_)] O O O O gv1 ⟨O,O,T⟩ (fun g6_11=>qL O zHp O) O<|qC [(37,_)] O O O O gv1 ⟨O,O,T⟩ (fun g6_11=>zN O kK O qB O) O<|qC [(33,_),(38,_)] O O O O gv1 ⟨O,O,O,O,T⟩ (fun g6_11=>qG O ok38 (zLs x.Size y.Size (hx0 x (qD hx))) ⟨Y,O,Y,O,T⟩) O<|qC [(39,_)] O O O O gv1 ⟨O,O,T⟩ (fun g6_11=>wA O O) O<|zM O O (zAw O O O O (fun h=>(lzf h)))<|yM<|U<|zE O (fun c3=>?_) (fun c3=>?_)
   ·have hne:=ax_ne c3
    refine B O<|G O<|U<|zH<|zQ O ?_
    rw [yC (zEk hx hy hne)]
   ·have heq:=ax_yes' c3
    refine zJ<|zS O<|G O<|qJ O ⟨by omega,by omega⟩<|G O<|U ?_
    refine ⟨k+1,⟨by omega,zBl hx hy hp heq⟩,(by omega),Weak.mk [] ⟨Y,Y,Y,T⟩ O⟩
  ·try simp only [W] at c2
   refine qO<|B O<|G O<|U<|zH<|zQ O ?_
   rw [kT (zDc hp (by omega) (by omega))]
theorem base_Def (a b:Df) (h1:a.Dims.length<=4294967296) (h2:a.Red.length<=4294967296) (h3:∀x,x∈a.Dims->x.Size.L.length<=6000000000000) (h4:∀x,x∈a.Red->x.Size.L.length<=6000000000000) (h5:a.Body.wt<=6000000000000):
    Pur cfg 21 [vDf a,vDf b] (vB (decide (a=b))):=by
 refine zT Tryz.func21 O Tryz.ntmps21 Tryz.results21 O ?_
 intro z hz
 refine B O<|zZ O O (qI O O) ?_
 rintro _ _ ⟨b1,rfl,rfl⟩
 refine zZ O O (qI O O) ?_
 rintro _ _ ⟨b2,rfl,rfl⟩
 refine G O<|U<|B O<|zG O zEn<|zK one9 (J 1 O) O<|zG O zEn<|zK one9 (J 0 O) O<|zX O (yL O O O)<|G O<|rL0 O (fun g1_5=>zD O zIo O) O<|rL1 11 O (fun g1_5=>zN O qZ O (J 1 O) O) O<|rL0 O (fun g1_5=>zD O zIo O) O<|rL1 13 O (fun g1_5=>zN O qZ O (J 0 O) O) O<|rLz [(12,_),(14,_)] O gv1 ⟨O,O,O,O,T⟩ (fun g1_5=>zLp O fl31 O O O) O<|yW O (fun h=>h)<|G O<|rL0 O (fun g1_12=>zD O zFe O) O<|rL1 18 O (fun g1_12=>zF O one3 O (J 1 O) O) O<|rL0 O (fun g1_12=>zD O zFe O) O<|rL1 20 O (fun g1_12=>zF O one3 O (J 0 O) O) O<|rLz [(19,_),(21,_)] O gv1 ⟨O,O,O,O,T⟩ (fun g1_12=>yF O O O) O<|yW O (fun h=>h)<|G O<|rL0 O (fun g1_19=>zD O zAv O) O<|rL1 25 O (fun g1_19=>zF O wK O (J 1 O) O) O<|rL0 O (fun g1_19=>zD O zAv O) O<|rL1 27 O (fun g1_19=>zF O wK O (J 0 O) O) O<|rLz [(26,_),(28,_)] O gv1 ⟨O,O,O,O,T⟩ (fun g1_19=>qG O ok58 (base_Axes a.Dims b.Dims h1 h3) ⟨Y,O,Y,O,T⟩) O<|yW O (fun h=>h)<|G O<|rL0 O (fun g1_26=>zD O zAm O) O<|rL1 32 O (fun g1_26=>zF O wK O (J 1 O) O) O<|rL0 O (fun g1_26=>zD O zAm O) O<|rL1 34 O (fun g1_26=>zF O wK O (J 0 O) O) O<|rLz [(33,_),(35,_)] O gv1 ⟨O,O,O,O,T⟩ (fun g1_26=>qG O ok58 (base_Axes a.Red b.Red h2 h4) ⟨Y,O,Y,O,T⟩) O<|yW O (fun h=>h)<|G O<|rL0 O (fun g1_33=>zD O zDl O) O<|rL1 39 O (fun g1_33=>zN O qN O (J 1 O) O) O<|rL0 O (fun g1_33=>zD O zDl O) O<|rL1 41 O (fun g1_33=>zN O qN O (J 0 O) O) O<|rLz [(40,_),(42,_)] O gv1 ⟨O,O,O,O,T⟩ (fun g1_33=>qG O ok13 (base_Expr a.Body b.Body h5) ⟨Y,O,Y,O,T⟩) O<|yW O (fun h=>h)<|G O<|U<|zH<|zQ O ?_
 exact congrArg vB (df_eq a b)
end Go.W
