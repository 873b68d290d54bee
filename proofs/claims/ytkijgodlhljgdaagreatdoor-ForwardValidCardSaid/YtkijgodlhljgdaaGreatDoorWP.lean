/-
  Walks: what functions of the program compute. Printed by wip/gen/mk2.py.
  Conditions: none.
-/
import Derived.Test.YtkijgodlhljgdaaGreatDoorWO
set_option linter.unusedSimpArgs false
set_option linter.unusedVariables false
set_option maxRecDepth 10000
namespace Go.W
open Go Go.Eng Go.Proofs Go.L41 Go.Br
attribute [local irreducible] AWP RWP TD finQ
theorem ok33:callOk Tryz.prog 33=true:=by kernel_rfl
theorem ok53:callOk Tryz.prog 53=true:=by kernel_rfl
theorem ok54:callOk Tryz.prog 54=true:=by kernel_rfl
theorem ok55:callOk Tryz.prog 55=true:=by kernel_rfl
theorem ok56:callOk Tryz.prog 56=true:=by kernel_rfl
theorem ok114:callOk Tryz.prog 114=true:=by kernel_rfl
theorem ok118:callOk Tryz.prog 118=true:=by kernel_rfl
theorem ok119:callOk Tryz.prog 119=true:=by kernel_rfl
theorem ok120:callOk Tryz.prog 120=true:=by kernel_rfl
theorem pl27:placesT Tryz.prog 27=some [(0,1),(1,1),(2,1),(3,1),(4,1)]:=by kernel_rfl
theorem zJn (l:Lf) (sz:List ByteArray) (hl:l.L.length<=5864062014805) (hz0:sz.length<=4294967296):
    Pur cfg 54 [vLin l,vSs sz] (vI (formR l sz)):=by
 refine zT Tryz.func54 O Tryz.ntmps54 Tryz.results54 O ?_
 intro z hz
 refine B O<|zZ O O (qI O O) ?_
 rintro _ _ ⟨b1,rfl,rfl⟩
 refine G O<|U<|zI<|B O<|zL kK (J 0 O) O<|qK O ok115 (zCu l (by omega)) ⟨Y,O,T⟩<|wB O<|U<|zE O (fun c1=>?_) (fun c1=>?_)
 ·try simp only [W] at c1
  refine B O<|G O<|U<|zH<|zQ O ?_
  rw [formR_1 c1]
 ·try simp only [W] at c1
  refine zJ<|zI<|B O<|zL kK (J 0 O) O<|G O<|qK O ok116 (zHi l [] sz hl (by simp) hz0) ⟨Y,O,VLe.nil,O,Y,O,T⟩<|wB O<|U<|zE O (fun c2=>?_) (fun c2=>?_)
  ·try simp only [W] at c2
   refine B O<|G O<|U<|zH<|zQ O ?_
   rw [formR_9 c1 c2]
  ·try simp only [W] at c2
   refine zJ<|B O<|G O<|U<|zH<|zQ O ?_
   rw [formR_0 c1 c2]
theorem zGf (s:ByteArray) (t:List ByteArray) (ht:t.length<=4294967296):
    Pur cfg 114 [vS s,vSs t] (vI (nameR s t)):=by
 refine zT Tryz.func114 O Tryz.ntmps114 Tryz.results114 O ?_
 intro z hz
 refine B O<|G O<|U<|zI<|B O<|G O<|qK O ok146 (zGb s) ⟨Y,O,T⟩<|wB O<|U<|zE O (fun c1=>?_) (fun c1=>?_)
 ·try simp only [W] at c1
  refine B O<|G O<|U<|zH<|zQ O ?_
  rw [nameR_7 c1]
 ·try simp only [W] at c1
  refine zJ<|zI<|B O<|G O<|G O<|qK O ok50 (zJa t s (by omega)) ⟨Y,O,Y,O,T⟩<|U<|zE O (fun c2=>?_) (fun c2=>?_)
  ·try simp only [W] at c2
   refine B O<|G O<|U<|zH<|zQ O ?_
   rw [nameR_8 c1 c2]
  ·try simp only [W] at c2
   refine zJ<|B O<|G O<|U<|zH<|zQ O ?_
   rw [nameR_0 c1 (by simpa using c2)]
theorem ref17_param (x:Pm) (sz t:List ByteArray) (hl0:x.Dims.length<=4294967296) (hx0:∀l,l∈x.Dims->l.L.length<=5864062014805) (hz0:sz.length<=4294967296) (ht:t.length<=4294967296):
    Pur cfg 55 [vPm x,vSs sz,vSs t] (vI (paramR x sz t)):=by
 refine zT Tryz.func55 O Tryz.ntmps55 Tryz.results55 O ?_
 intro z hz
 refine B O<|zZ O O (qI O O) ?_
 rintro _ _ ⟨b1,rfl,rfl⟩
 refine G O<|U<|zI<|B O<|zG O zNp<|zK one9 (J 0 O) O<|G O<|qK O ok114 (zGf x.Name t ht) ⟨Y,O,Y,O,T⟩<|G O<|U<|B O<|G O<|yN O<|U<|zE O (fun c1=>?_) (fun c1=>?_)
 ·try simp only [W] at c1
  refine B O<|G O<|G O<|U<|zH<|zQ O ?_
  rw [paramR_1 c1]
 ·try simp only [W] at c1
  refine zJ<|zI<|B O<|zG O fd65_1<|zL qZ (J 0 O) O<|qK O ok117 (zOi x.T) ⟨Y,O,T⟩<|wB O<|U<|zE O (fun c2=>?_) (fun c2=>?_)
  ·try simp only [W] at c2
   refine B O<|G O<|U<|zH<|zQ O ?_
   rw [paramR_10 c1 c2]
  ·try simp only [W] at c2
   refine zJ<|zI<|B O<|zG O zEm<|zK zBa (J 0 O) O<|zY O el63<|zX O (yD O O O)<|U<|zE O (fun c3=>?_) (fun c3=>?_)
   ·try simp only [W] at c3
    refine B O<|G O<|U<|zH<|zQ O ?_
    rw [paramR_11 c1 c2 (by omega)]
   ·try simp only [W] at c3
    refine zJ<|zI<|B O<|G O<|U<|zP<|zU ⟨[(8,.c _),(1,.c _),(3,.c _)],[_]⟩ (Weak.mk [true] ⟨Y,Y,Y,T⟩ O)<|qF 1 0 O O (Nat) (fun k=>[(8,vI k)]) (fun k=>[]) (fun k=>k<=x.Dims.length/\(formsR sz x.Dims=formsR sz (x.Dims.drop k))) (fun k=>x.Dims.length-k) ⟨0,⟨by omega,O⟩,Weak.mk [true] ⟨Y,Y,Y,T⟩ O⟩ ?_
    rintro k ⟨hk,hp⟩
    refine zI<|B O<|G O<|zG O zEm<|zK zBa (J 0 O) O<|zY O el63<|yA O<|U<|zE O (fun c4=>?_) (fun c4=>?_)
    ·try simp only [W] at c4
     obtain ⟨y,hy⟩:=qQ x.Dims k (by omega)
     refine zJ<|zI<|zP<|B O<|zG O zEm<|zK zBa (J 0 O) O<|G O<|qE O el63 (by omega) (getm (by assumption))<|zL kK qB O<|G O<|qK O ok54 (zJn y sz (hx0 y (qD hy)) hz0) ⟨Y,O,Y,O,T⟩<|G O<|U<|B O<|G O<|yN O<|U<|zE O (fun c5=>?_) (fun c5=>?_)
     ·try simp only [W] at c5
      refine B O<|G O<|G O<|U<|zH<|zQ O ?_
      rw [paramR_f c1 c2 (by omega),hp,formsR_no hy c5]
     ·try simp only [W] at c5
      refine zJ<|zS O<|G O<|qJ O ⟨by omega,by omega⟩<|G O<|U ?_
      refine ⟨k+1,⟨by omega,hp.trans (formsR_next hy c5)⟩,(by omega),Weak.mk [true] ⟨Y,Y,Y,T⟩ O⟩
    ·try simp only [W] at c4
     refine qO<|B O<|G O<|U<|zH<|zQ O ?_
     rw [paramR_f c1 c2 (by omega),hp,wC (by omega)];rfl
theorem ref17_axes (l:List Ax) (sz:List ByteArray) (hl0:l.length<=2147483648) (hx0:∀a,a∈l->a.Size.L.length<=5864062014805) (hz0:sz.length<=4194304):
    Pur cfg 118 [.c (.sl 3 (l.map Ax.cells)),vSs sz] (vI (axesR sz sz l)):=by
 refine zT Tryz.func118 O Tryz.ntmps118 Tryz.results118 O ?_
 intro z hz
 refine B O<|G O<|U<|B O<|zZ O O (zBm O el22 zr9 O O O O) ?_
 rintro _ _ ⟨sv1,rfl,rfl⟩
 refine G O<|zZ O O (qY 0 O el22 O O O (by simp only [List.length_append,List.length_take,List.length_map,List.length_cons,List.length_nil];omega) (by simp only [List.length_append,List.length_take,List.length_map,List.length_cons,List.length_nil];omega)) ?_
 rintro _ _ ⟨sv2,rfl,rfl⟩
 refine G O<|U<|zI<|B O<|G O<|U<|zP<|zU ⟨[(6,.c _),(5,.c _),(0,.c _),(1,.c _)],[_]⟩ (Weak.mk [true] ⟨Y,Y,Y,Y,T⟩ O)<|qF 2 1 O O (Nat×Value) (fun ⟨k,sv⟩=>[(6,vI k),(5,.c (.lit sv))]) (fun ⟨k,sv⟩=>[E.vec sv 9 1 ((sz++(l.take k).map Ax.Name).map fun s=>[cS s])]) (fun ⟨k,sv⟩=>k<=l.length/\(axesR sz sz l=axesR sz (sz++(l.take k).map Ax.Name) (l.drop k))) (fun ⟨k,sv⟩=>l.length-k) ⟨⟨0,_⟩,⟨by omega,by simp⟩,Weak.mk [true] ⟨Y,Y,Y,Y,T⟩ (by show _=[E.vec _ _ 1 ((sz++[]).map fun s=>[cS s])]++_;rw [List.append_nil sz];rfl)⟩ ?_
 rintro ⟨k,sv⟩ ⟨hk,hp⟩
 show AWP _ _ _ _ _ ⟨[(6,vI k),(5,.c (.lit sv))]++_,[E.vec sv 9 1 ((sz++(l.take k).map Ax.Name).map fun s=>[cS s])]++_⟩
 refine zI<|B O<|G O<|G O<|zY O el57<|yA O<|U<|zE O (fun c1=>?_) (fun c1=>?_)
 ·try simp only [W] at c1
  obtain ⟨x,hx⟩:=qQ l k (by omega)
  refine zJ<|zI<|zP<|zI<|B O<|G O<|G O<|qE O el57 (by omega) (getm (by assumption))<|zX O (qL O zCo O)<|zK one9 qB O<|G O<|zX O (zAf 0 O ok114 O (zGf x.Name (sz++(l.take k).map Ax.Name) (by simp only [List.length_append,List.length_take,List.length_map,List.length_cons,List.length_nil];omega)) O ⟨.inr ⟨Y,O⟩,.inl ⟨O,O⟩,T⟩)<|G O<|U<|B O<|G O<|yN O<|U<|zE O (fun c2=>?_) (fun c2=>?_)
  ·try simp only [W] at c2
   refine B O<|G O<|G O<|U<|zH<|zQ O ?_
   rw [hp,axesR_n hx c2]
  ·try simp only [W] at c2
   refine zJ<|zI<|B O<|G O<|G O<|qE O el57 (by omega) (getm (by assumption))<|zX O (qL O zHp O)<|zL kK qB O<|G O<|qK O ok54 (zJn x.Size sz (hx0 x (qD hx)) (by omega)) ⟨Y,O,Y,O,T⟩<|G O<|U<|B O<|G O<|yN O<|U<|zE O (fun c3=>?_) (fun c3=>?_)
   ·try simp only [W] at c3
    refine B O<|G O<|G O<|U<|zH<|zQ O ?_
    rw [hp,axesR_f hx c2 c3]
   ·try simp only [W] at c3
    refine zJ<|zS O<|G O<|G O<|G O<|qE O el57 (by omega) (getm (by assumption))<|zX O (qL O zCo O)<|zK one9 qB O<|yE O el22 zr9<|zZ O O (qY 0 O el22 O O O (by simp only [List.length_append,List.length_take,List.length_map,List.length_cons,List.length_nil];omega) (by simp only [List.length_append,List.length_take,List.length_map,List.length_cons,List.length_nil];omega)) ?_
    rintro _ _ ⟨sv3,rfl,rfl⟩
    refine G O<|U<|zS O<|G O<|qJ O ⟨by omega,by omega⟩<|G O<|U ?_
    refine ⟨⟨k+1,sv3⟩,⟨by omega,by rw [hp,axesR_next hx c2 c3,qR hx,List.map_append,←List.append_assoc];rfl⟩,(by show l.length-(k+1)<l.length-k;omega),Weak.mk [true] ⟨Y,Y,Y,Y,T⟩ (by show _=[E.vec sv3 _ 1 ((sz++(l.take (k+1)).map Ax.Name).map fun s=>[cS s])]++_;rw [qR hx,List.map_append (f:=Ax.Name),←List.append_assoc,List.map_append (f:=fun s=>[cS s]) (l₁:=sz++(l.take k).map Ax.Name)];rfl)⟩
 ·try simp only [W] at c1
  refine qO<|B O<|G O<|U<|zH<|zQ O ?_
  rw [hp,wC (by omega)];rfl
theorem zMr (d:Df):
    Pur cfg 119 [vDf d] (vI (foldR d)):=by
 refine zT Tryz.func119 O Tryz.ntmps119 Tryz.results119 O ?_
 intro z hz
 refine B O<|zZ O O (qI O O) ?_
 rintro _ _ ⟨b1,rfl,rfl⟩
 refine G O<|U<|zI<|B O<|zG O zFe<|zK one3 (J 0 O) O<|yA O<|G O<|rL0 O (fun g1_3=>zD O zFe O) O<|rL1 8 O (fun g1_3=>zF O one3 O (J 0 O) O) O<|rL1 9 O (fun g1_3=>yD O O O) O<|r_or O (fun h=>(lzf h))<|U<|zE O (fun c1=>?_) (fun c1=>?_)
 ·have h1:=(red1 d).1 c1
  refine B O<|G O<|U<|zH<|zQ O ?_
  rw [foldR,if_pos h1]
 ·have h1:=(red1 d).2 c1
  refine zJ<|B O<|zG O zFe<|zK one3 (J 0 O) O<|L O<|G O<|rL0 O (fun g3_3=>zD O zFe O) O<|rL1 16 O (fun g3_3=>zF O one3 O (J 0 O) O) O<|rL1 17 O (fun g3_3=>yF O O O) O<|r_or O (fun h=>(lzf h))<|G O<|U<|zI<|B O<|G O<|zG O zAm<|zK wK (J 0 O) O<|zY O el57<|L O<|zX O (det_bneq O un4 O O)<|G O<|rL0 O (fun g4_6=>zD O zFe O) O<|rL1 27 O (fun g4_6=>zF O one3 O (J 0 O) O) O<|rL1 28 O (fun g4_6=>yF O O O) O<|rL1 29 O (fun g4_6=>zR O O) O<|rLz [] O q T (fun g4_10=>zD O zAv O) O<|rLz [(31,_)] O q ⟨O,O,T⟩ (fun g4_10=>zF O wK O (J 0 O) O) O<|rLz [(32,_)] O q ⟨O,O,T⟩ (fun g4_10=>qP O el57 O) O<|rLz [(33,_)] O q ⟨O,O,T⟩ (fun g4_10=>yF O O O) O<|rL1 30 O (fun g4_6=>kR O O O (fun h=>kA (by assumption) h) O) O<|r_or O (fun h=>(lzf h))<|U<|zE O (fun c2=>?_) (fun c2=>?_)
  ·refine B O<|G O<|U<|zH<|zQ O ?_
   rw [foldR,if_neg h1,if_pos (red2 c2)]
  ·refine zJ<|B O<|G O<|U<|zH<|zQ O ?_
   rw [foldR,if_neg h1,if_neg (red3 c2)]
theorem ref17_def (p:Pg) (hP:p.Ok) (hz0:p.Sizes.length<=64) (k:Nat) (d:Df) (hd:p.Defs[k]? =some d) (t:List ByteArray) (ht:t.length<=4294967296):
    Pur cfg 56 [vPg p,vI k,vSs t] (vI (defR ⟨p.Sizes,p.Params,p.Defs.take k⟩ d t)):=by
 refine zT Tryz.func56 O Tryz.ntmps56 Tryz.results56 O ?_
 intro z hz
 obtain ⟨hD,hR,hA,hA2,hB⟩:=hP.ds d (qD hd)
 have hlen:=zKc hd
 have hpd:=hP.defs
 have hDR:(d.Dims++d.Red).length=d.Dims.length+d.Red.length:=List.length_append
 have hAx:∀a,a∈d.Dims++d.Red->a.Size.L.length<=5864062014805:=fun a ha=>by rcases List.mem_append.1 ha with h|h;exact hA a h;exact hA2 a h
 have hrows:[]++d.Dims.map Ax.cells++d.Red.map Ax.cells=(d.Dims++d.Red).map Ax.cells:=by simp
 have hax:Pur cfg 118 [.c (.sl 3 ([]++d.Dims.map Ax.cells++d.Red.map Ax.cells)),vSs p.Sizes] (vI (axesR p.Sizes p.Sizes (d.Dims++d.Red))):=by rw [hrows];exact ref17_axes (d.Dims++d.Red) p.Sizes (by omega) hAx (by omega)
 have hP2:(⟨p.Sizes,[],p.Params,p.Defs.take k,[]⟩:Pg).Ok:=⟨hP.sizes,by simp,hP.params,(hP.take k).defs,by simp,fun c hc=>(by cases hc),hP.ps,(hP.take k).ds⟩
 refine B O<|zZ O O (qI O O) ?_
 rintro _ _ ⟨b1,rfl,rfl⟩
 refine G O<|U<|B O<|zG O kE<|zK wX (J 0 O) O<|G O<|qE O el25 (by omega) (getm (by assumption))<|zL zCv qB O<|zZ O O (qH [none,none,none,none,none,none,some 3,some 3,none,none,none,none,none,none,none,none,none,none,none,some 2,some 4,some 13] O zr59 O) ?_
 rintro _ _ ⟨b2,rfl,rfl⟩
 refine N 0 sz59 O<|U<|zI<|B O<|zG O zEn<|zK one9 (J 0 O) O<|G O<|qK O ok114 (zGf d.Name t ht) ⟨Y,O,Y,O,T⟩<|G O<|U<|B O<|G O<|yN O<|U<|zE O (fun c1=>?_) (fun c1=>?_)
 ·try simp only [W] at c1
  refine B O<|G O<|G O<|U<|zH<|zQ O ?_
  rw [defR_1 c1]
 ·try simp only [W] at c1
  refine zJ<|zI<|B O<|zG O zIo<|zL qZ (J 0 O) O<|qK O ok117 (zOi d.T) ⟨Y,O,T⟩<|wB O<|U<|zE O (fun c2=>?_) (fun c2=>?_)
  ·try simp only [W] at c2
   refine B O<|G O<|U<|zH<|zQ O ?_
   rw [defR_10 c1 c2]
  ·try simp only [W] at c2
   refine zJ<|zI<|B O<|zG O zAv<|zK wK (J 0 O) O<|zY O el57<|zX O (yD O O O)<|G O<|rL0 O (fun g7_4=>zD O zAm O) O<|rL1 34 O (fun g7_4=>zF O wK O (J 0 O) O) O<|rL1 35 O (fun g7_4=>qP O el57 O) O<|rL1 36 O (fun g7_4=>yD O O O) O<|r_or O (fun h=>(lzf h))<|U<|zE O (fun c3=>?_) (fun c3=>?_)
   ·try simp only [W] at c3
    refine B O<|G O<|U<|zH<|zQ O ?_
    rw [defR_11 c1 c2 (by omega)]
   ·try simp only [W] at c3
    have hX:=defR_ok (n:=⟨p.Sizes,p.Params,p.Defs.take k⟩) c1 c2 (by omega)
    refine zJ<|zI<|zI<|yH 9 1 [⟨1,.q []⟩,⟨2,.q [1]⟩,⟨4,.q []⟩,⟨5,.q [1]⟩,⟨7,.q []⟩,⟨8,.q [2]⟩,⟨0,.e 0 []⟩,⟨3,.e 0 []⟩,⟨6,.e 0 []⟩] mixed (by kernel_rfl) (by kernel_rfl) O O O<|zO O<|zO O<|zO O<|zO O<|zO O<|zO O<|zO O<|zO O<|zO O<|wM<|zW O (by decide) O O (zD O zAv O)<|zW O (by decide) O O (zF O wK O (J 0 O) O)<|zW O (by decide) O O (zD O zAm O)<|zW O (by decide) O O (zF O wK O (J 0 O) O)<|zW O (by decide) O O (zD O zCm O)<|zW O (by decide) O O (zF O wY O (J 0 O) O)<|zMh O O (by decide) O O (zBm O el57 zr105 O O O O) ?_
    rintro _ _ ⟨sv3,rfl,rfl⟩
    refine ⟨_,O,?_⟩
    refine zMh O O (by decide) O O (qY 0 O el57 O O O (by simp only [List.length_append,List.length_take,List.length_map,List.length_cons,List.length_nil];omega) (by simp only [List.length_append,List.length_take,List.length_map,List.length_cons,List.length_nil];omega)) ?_
    rintro _ _ ⟨sv4,rfl,rfl⟩
    refine ⟨_,O,?_⟩
    refine zMh O O (by decide) O O (qY 0 O el57 O O O (by simp only [List.length_append,List.length_take,List.length_map,List.length_cons,List.length_nil];omega) (by simp only [List.length_append,List.length_take,List.length_map,List.length_cons,List.length_nil];omega)) ?_
    rintro _ _ ⟨sv5,rfl,rfl⟩
    refine ⟨_,O,?_⟩
    refine wJ O<|zX O (zAf 0 O ok118 O hax O ⟨.inl ⟨O,O⟩,.inr ⟨Y,O⟩,T⟩)<|G O<|U<|B O<|G O<|yN O<|U<|zE O (fun c4=>?_) (fun c4=>?_)
    ·try simp only [W] at c4
     refine B O<|G O<|G O<|U<|zH<|zQ O ?_
     rw [hX,if_neg c4]
    ·try simp only [W] at c4
     rw [if_pos c4] at hX
     refine zJ<|zI<|B O<|zL zCv (J 1 O) O<|qK O ok119 (zMr d) ⟨Y,O,T⟩<|G O<|U<|B O<|G O<|yN O<|U<|zE O (fun c5=>?_) (fun c5=>?_)
     ·try simp only [W] at c5
      refine B O<|G O<|G O<|U<|zH<|zQ O ?_
      rw [hX,if_neg c5]
     ·try simp only [W] at c5
      rw [if_pos c5] at hX
      unfold tyErrD at hX
      refine zJ<|zI<|yH 19 1 [⟨0,.q []⟩,⟨1,.q [3]⟩,⟨2,.q []⟩,⟨3,.q [3]⟩,⟨4,.q []⟩,⟨5,.q [3]⟩,⟨6,.q []⟩,⟨7,.q []⟩,⟨8,.q []⟩,⟨9,.q [2]⟩,⟨10,.q []⟩,⟨11,.q []⟩,⟨12,.q [2]⟩,⟨13,.q []⟩,⟨14,.q []⟩,⟨15,.q []⟩,⟨16,.q []⟩,⟨17,.e 0 []⟩,⟨18,.e 0 []⟩] mixed (by kernel_rfl) (by kernel_rfl) O O O<|zO O<|zO O<|zO O<|zO O<|zO O<|zO O<|zO O<|zO O<|zO O<|zO O<|zO O<|zO O<|zO O<|zO O<|zO O<|zO O<|zO O<|zO O<|zO O<|wM<|zW O (by decide) O O (zD O zCm O)<|zW O (by decide) O O (zF O wY O (J 0 O) O)<|zW O (by decide) O O (zD O wN O)<|zW O (by decide) O O (zF O zCk O (J 0 O) O)<|zW O (by decide) O O (zD O kE O)<|zW O (by decide) O O (zF O wX O (J 0 O) O)<|zW O (by decide) O O (zR O O)<|zW O (by decide) O O (zAr O el25 O O (by omega))<|zW O (by decide) O O (yK [none,some 3,none,none,some 1] O zr27 pl27 O O)<|zW O (by decide) O O (zN O zCv O (J 0 O) O)<|zW O (by decide) O O (qG O ok120 (OwnR.pur (zLb d hD hR)) ⟨Y,O,T⟩)<|zW O (by decide) O O (zD O zDl O)<|zW O (by decide) O O (zN O qN O (J 0 O) O)<|zW O (by decide) O O (qG O ok33 (ref17_TypeOf (⟨p.Sizes,[],p.Params,p.Defs.take k,[]⟩:Pg) (namesD d) d.Body hP2 (by rw [namesD,List.length_append,List.length_map,List.length_map];omega) hB) ⟨Y,O,Y,O,Y,O,T⟩)<|zW O (by decide) O O (qV O O)<|zW O (by decide) O O (yJ O O O)<|zW O (by decide) O O (yI O O O)<|zMh O O (by decide) O O (yB O zr31) ?_
      rintro _ _ ⟨b6,rfl,rfl⟩
      refine ⟨_,O,?_⟩
      refine zIc O O (by decide) O O (kW O sz31 O O O (zEe 0 O O)) ?_
      rintro _ _ ⟨rfl,rfl⟩
      refine ⟨_,O,?_⟩
      refine wJ O<|G O<|U<|zI<|B O<|G O<|yN O<|U<|zE O (fun c6=>?_) (fun c6=>?_)
      ·try simp only [W] at c6
       refine B O<|G O<|G O<|U<|zH<|zQ O ?_
       rw [hX,if_neg (show ¬(typeR (⟨p.Sizes,p.Params,p.Defs.take k⟩:En) (namesD d) d.Body).2=0 from c6)];rfl
      ·try simp only [W] at c6
       rw [if_pos (show (typeR (⟨p.Sizes,p.Params,p.Defs.take k⟩:En) (namesD d) d.Body).2=0 from c6)] at hX
       refine zJ<|zI<|B O<|zL qZ (J 0 O) O<|zG O zIo<|zL qZ (J 2 O) O<|zX O (zCf O fl31 O O O)<|U<|zE O (fun c7=>?_) (fun c7=>?_)
       ·refine B O<|G O<|U<|zH<|zQ O ?_
        rw [hX,if_neg (show ¬(typeR (⟨p.Sizes,p.Params,p.Defs.take k⟩:En) (namesD d) d.Body).1=d.T from zHv c7)]
       ·refine zJ<|B O<|G O<|U<|zH<|zQ O ?_
        rw [hX,if_pos (show (typeR (⟨p.Sizes,p.Params,p.Defs.take k⟩:En) (namesD d) d.Body).1=d.T from zGe c7)]
theorem ref17_sizes (p:Pg) (hP:p.Ok):
    Pur cfg 53 [vPg p] (vI (sizes0R p)):=by
 refine zT Tryz.func53 O Tryz.ntmps53 Tryz.results53 O ?_
 intro z hz
 have hpz:=hP.sizes
 refine B O<|zZ O O (qI O O) ?_
 rintro _ _ ⟨b1,rfl,rfl⟩
 refine G O<|U<|zI<|B O<|zG O zCm<|zK wY (J 0 O) O<|zY O el22<|zX O (yD O O O)<|G O<|rL0 O (fun g1_4=>zD O wN O) O<|rL1 10 O (fun g1_4=>zF O zCk O (J 0 O) O) O<|rL1 11 O (fun g1_4=>qP O el24 O) O<|rL1 12 O (fun g1_4=>yD O O O) O<|r_or O (fun h=>(lzf h))<|G O<|rL0 O (fun g1_10=>zD O kE O) O<|rL1 16 O (fun g1_10=>zF O wX O (J 0 O) O) O<|rL1 17 O (fun g1_10=>qP O el25 O) O<|rL1 18 O (fun g1_10=>yD O O O) O<|r_or O (fun h=>(lzf h))<|G O<|rL0 O (fun g1_16=>zD O zBb O) O<|rL1 22 O (fun g1_16=>zF O wY O (J 0 O) O) O<|rL1 23 O (fun g1_16=>qP O el22 O) O<|rL1 24 O (fun g1_16=>yD O O O) O<|r_or O (fun h=>(lzf h))<|G O<|rL0 O (fun g1_22=>zD O zFg O) O<|rL1 28 O (fun g1_22=>zF O one23 O (J 0 O) O) O<|rL1 29 O (fun g1_22=>qP O el23 O) O<|rL1 30 O (fun g1_22=>yD O O O) O<|r_or O (fun h=>(lzf h))<|U<|zE O (fun c1=>?_) (fun c1=>?_)
 ·have hl:¬limitOk p:=lim_no c1
  refine B O<|G O<|U<|zH<|zQ O ?_
  rw [sizes0R,if_neg hl]
 ·have hl:limitOk p:=lim_yes c1
  have hz:sizes0R p=sizesR [] p.Sizes:=by unfold sizes0R;rw [if_pos hl]
  refine zJ<|zI<|B O<|G O<|U<|zP<|zU ⟨[(3,.c _),(1,.c _)],[_]⟩ (Weak.mk [true] ⟨Y,Y,T⟩ O)<|qF 1 0 O O (Nat) (fun k=>[(3,vI k)]) (fun k=>[]) (fun k=>k<=p.Sizes.length/\(sizesR [] p.Sizes=sizesR (p.Sizes.take k) (p.Sizes.drop k))) (fun k=>p.Sizes.length-k) ⟨0,⟨by omega,O⟩,Weak.mk [true] ⟨Y,Y,T⟩ O⟩ ?_
  rintro k ⟨hk,hp⟩
  refine zI<|B O<|G O<|zG O zCm<|zK wY (J 0 O) O<|zY O el22<|yA O<|U<|zE O (fun c2=>?_) (fun c2=>?_)
  ·try simp only [W] at c2
   obtain ⟨x,hx⟩:=qQ p.Sizes k (by omega)
   refine zJ<|zI<|zP<|zI<|qT 11 mixed (by kernel_rfl) O O<|zM O O (zD O zCm O)<|zM O O (zF O wY O (J 0 O) O)<|zM O O (zR O O)<|zM O O (qA O el22 O O (by omega) (getm (by assumption)))<|zM O O (zF O one9 O qB O)<|zM O O (zD O zCm O)<|zM O O (zF O wY O (J 0 O) O)<|zM O O (zR O O)<|zM O O (zAr O el22 O O (by omega))<|zM O O (qG O ok114 (zGf x (p.Sizes.take k) (by rw [List.length_take];omega)) ⟨Y,O,Y,O,T⟩)<|zM O O (yQ O O)<|yM<|U<|B O<|G O<|yN O<|U<|zE O (fun c3=>?_) (fun c3=>?_)
   ·try simp only [W] at c3
    refine B O<|G O<|G O<|U<|zH<|zQ O ?_
    rw [hz,hp,sizesR_no hx c3]
   ·try simp only [W] at c3
    refine zJ<|zS O<|G O<|qJ O ⟨by omega,by omega⟩<|G O<|U ?_
    refine ⟨k+1,⟨by omega,hp.trans (sizesR_next hx c3)⟩,(by omega),Weak.mk [true] ⟨Y,Y,T⟩ O⟩
  ·try simp only [W] at c2
   refine qO<|B O<|G O<|U<|zH<|zQ O ?_
   rw [hz,hp,wC (by omega)];rfl
theorem ref17_Validate (p:Pg) (hP:p.Ok):
    Pur cfg 18 [vPg p] (.tup [vI (validR p).1,vI (validR p).2]):=by
 refine zT Tryz.func18 O Tryz.ntmps18 Tryz.results18 O ?_
 intro z hz
 have hps:=hP.sizes
 have hpw:=hP.wh
 have hpp:=hP.params
 have hpd:=hP.defs
 have hpo:=hP.outs
 refine B O<|zZ O O (qI O O) ?_
 rintro _ _ ⟨b1,rfl,rfl⟩
 refine G O<|G O<|U<|zI<|B O<|zL kO (J 0 O) O<|qK O ok53 (ref17_sizes p hP) ⟨Y,O,T⟩<|G O<|U<|B O<|G O<|yN O<|U<|zE O (fun c1=>?_) (fun c1=>?_)
 ·try simp only [W] at c1
  refine B O<|G O<|G O<|G O<|U<|zH<|fin2 (v O) (v O) ?_
  rw [validR_s c1]
 ·try simp only [W] at c1
  have hlm:limitOk p:=(zJl c1).1
  have hlp:p.Params.length<=64:=hlm.2.1
  have hld:p.Defs.length<=64:=hlm.2.2.1
  have hlz:p.Sizes.length<=64:=hlm.1
  refine zJ<|zI<|B O<|G O<|U<|zP<|zU ⟨[(5,.c _),(1,.c _)],[_]⟩ (Weak.mk [true] ⟨Y,Y,T⟩ O)<|qF 1 0 O O (Nat) (fun k=>[(5,vI k)]) (fun k=>[]) (fun k=>k<=p.Where.length/\(whereR p.Sizes p.Where=whereR p.Sizes (p.Where.drop k))) (fun k=>p.Where.length-k) ⟨0,⟨by omega,O⟩,Weak.mk [true] ⟨Y,Y,T⟩ O⟩ ?_
  rintro k ⟨hk,hp⟩
  refine zI<|B O<|G O<|zG O zFg<|zK one23 (J 0 O) O<|zY O el23<|yA O<|U<|zE O (fun c2=>?_) (fun c2=>?_)
  ·try simp only [W] at c2
   obtain ⟨x,hx⟩:=qQ p.Where k (by omega)
   refine zJ<|zI<|zP<|zI<|qT 10 mixed (by kernel_rfl) O O<|zM O O (zD O zFg O)<|zM O O (zF O one23 O (J 0 O) O)<|zM O O (zR O O)<|zM O O (qA O el23 O O (by omega) (getm (by assumption)))<|zM O O (qL O fd93_0 O)<|zM O O (zN O kK O qB O)<|zM O O (zD O zCm O)<|zM O O (zF O wY O (J 0 O) O)<|zM O O (qG O ok54 (zJn x.Lin p.Sizes (hP.whs x (qD hx)) (by omega)) ⟨Y,O,Y,O,T⟩)<|zM O O (yQ O O)<|yM<|U<|B O<|G O<|yN O<|U<|zE O (fun c3=>?_) (fun c3=>?_)
   ·try simp only [W] at c3
    refine B O<|G O<|G O<|G O<|U<|zH<|fin2 (v O) (v O) ?_
    rw [validR_w c1 (by rw [hp,whereR_no hx c3];exact c3),hp,whereR_no hx c3]
   ·try simp only [W] at c3
    refine zJ<|zS O<|G O<|qJ O ⟨by omega,by omega⟩<|G O<|U ?_
    refine ⟨k+1,⟨by omega,hp.trans (whereR_next hx c3)⟩,(by omega),Weak.mk [true] ⟨Y,Y,T⟩ O⟩
  ·try simp only [W] at c2
   rw [wC (l:=p.Where) (k:=k) (by omega)] at hp
   have hV:=validR_p c1 hp
   refine qO<|B O<|zZ O O (zBm O el22 zr9 O O O O) ?_
   rintro _ _ ⟨sv2,rfl,rfl⟩
   refine zG O zCm<|zK wY (J 1 O) O<|zZ O O (qY 0 O el22 O O O (by simp only [List.length_append,List.length_take,List.length_map,List.length_cons,List.length_nil];omega) (by simp only [List.length_append,List.length_take,List.length_map,List.length_cons,List.length_nil];omega)) ?_
   rintro _ _ ⟨sv3,rfl,rfl⟩
   refine G O<|U<|B O<|G O<|U<|zI<|B O<|G O<|U<|zP<|zU ⟨[(9,.c _),(7,.c _),(8,.c _),(1,.c _)],[_,_]⟩ (Weak.mk [true,true] ⟨Y,Y,Y,Y,T⟩ O)<|qF 3 1 O O (Nat×Value) (fun ⟨k,sv⟩=>[(9,vI k),(7,.c (.lit sv)),(8,vI (2+(k:Int)))]) (fun ⟨k,sv⟩=>[E.vec sv 9 1 ((p.Sizes++(p.Params.take k).map Pm.Name).map fun s=>[cS s])]) (fun ⟨k,sv⟩=>k<=p.Params.length/\(validR p=paramsR p (2+(k:Int)) (p.Sizes++(p.Params.take k).map Pm.Name) (p.Params.drop k))) (fun ⟨k,sv⟩=>p.Params.length-k) ⟨⟨0,_⟩,⟨by omega,by rw [hV];simp⟩,Weak.mk [true,true] ⟨Y,Y,Y,Y,T⟩ (by show _=[E.vec _ _ 1 ((p.Sizes++[]).map fun s=>[cS s])]++_;rw [List.append_nil p.Sizes];rfl)⟩ ?_
   rintro ⟨k,sv⟩ ⟨hk,hp⟩
   show AWP _ _ _ _ _ ⟨[(9,vI k),(7,.c (.lit sv)),(8,vI (2+(k:Int)))]++_,[E.vec sv 9 1 ((p.Sizes++(p.Params.take k).map Pm.Name).map fun s=>[cS s])]++_⟩
   refine zI<|B O<|G O<|zG O wN<|zK zCk (J 1 O) O<|zY O el24<|yA O<|U<|zE O (fun c4=>?_) (fun c4=>?_)
   ·try simp only [W] at c4
    obtain ⟨x,hx⟩:=qQ p.Params k (by omega)
    refine zJ<|zI<|zP<|zI<|zI<|qT 8 mixed (by kernel_rfl) O O<|zM O O (zD O wN O)<|zM O O (zF O zCk O (J 1 O) O)<|zM O O (zR O O)<|zM O O (qA O el24 O O (by omega) (getm (by assumption)))<|zM O O (zN O zLd O qB O)<|zM O O (zD O zCm O)<|zM O O (zF O wY O (J 1 O) O)<|zM O O (zR O O)<|yM<|zX O (zAf 0 O ok55 O (ref17_param x p.Sizes (p.Sizes++(p.Params.take k).map Pm.Name) (hP.ps x (qD hx)).1 (hP.ps x (qD hx)).2 (by omega) (by simp only [List.length_append,List.length_take,List.length_map,List.length_cons,List.length_nil];omega)) O ⟨.inr ⟨Y,O⟩,.inr ⟨Y,O⟩,.inl ⟨O,O⟩,T⟩)<|G O<|U<|B O<|G O<|yN O<|U<|zE O (fun c5=>?_) (fun c5=>?_)
    ·try simp only [W] at c5
     refine B O<|G O<|G O<|G O<|G O<|U<|zH<|fin2 (v O) (v O) ?_
     rw [hp,paramsR_no hx c5]
    ·try simp only [W] at c5
     refine zJ<|B O<|G O<|zG O wN<|zK zCk (J 1 O) O<|G O<|qE O el24 (by omega) (getm (by assumption))<|zX O (qL O zNp O)<|zK one9 qB O<|yE O el22 zr9<|zZ O O (qY 0 O el22 O O O (by simp only [List.length_append,List.length_take,List.length_map,List.length_cons,List.length_nil];omega) (by simp only [List.length_append,List.length_take,List.length_map,List.length_cons,List.length_nil];omega)) ?_
     rintro _ _ ⟨sv4,rfl,rfl⟩
     refine G O<|U<|zS O<|G O<|qJ O ⟨by omega,by omega⟩<|G O<|U<|zS O<|G O<|qJ O ⟨by omega,by omega⟩<|G O<|U ?_
     refine ⟨⟨k+1,sv4⟩,⟨by omega,by rw [hp,paramsR_next hx c5,qR hx,List.map_append,←List.append_assoc];congr 1<;>first|omega|rfl⟩,(by show p.Params.length-(k+1)<p.Params.length-k;omega),Weak.mk [true,true] ⟨Y,Y,VLe.of_eq (congrArg vI (by omega)),Y,T⟩ (by show _=[E.vec sv4 _ 1 ((p.Sizes++(p.Params.take (k+1)).map Pm.Name).map fun s=>[cS s])]++_;rw [qR hx,List.map_append (f:=Pm.Name),←List.append_assoc,List.map_append (f:=fun s=>[cS s]) (l₁:=p.Sizes++(p.Params.take k).map Pm.Name)];rfl)⟩
   ·try simp only [W] at c4
    rw [qX (l:=p.Params) (k:=k) (by omega)]
    rw [wC (l:=p.Params) (k:=k) (by omega),qX (l:=p.Params) (k:=k) (by omega),paramsR] at hp
    refine qO<|zI<|B O<|G O<|U<|zP<|zU ⟨[(11,.c _),(7,.c _),(8,.c _),(1,.c _)],[_,_]⟩ (Weak.mk [true,true] ⟨Y,Y,Y,Y,T⟩ O) ?_
    refine qF 3 1 O O (Nat×Value) (fun ⟨k,sv⟩=>[(11,vI k),(7,.c (.lit sv)),(8,vI (2+(p.Params.length:Int)+(k:Int)))]) (fun ⟨k,sv⟩=>[E.vec sv 9 1 ((p.Sizes++p.Params.map Pm.Name++(p.Defs.take k).map Df.Name).map fun s=>[cS s])]) (fun ⟨k,sv⟩=>k<=p.Defs.length/\(validR p=defsR p (2+(p.Params.length:Int)+(k:Int)) (p.Sizes++p.Params.map Pm.Name++(p.Defs.take k).map Df.Name) (p.Defs.take k) (p.Defs.drop k))) (fun ⟨k,sv⟩=>p.Defs.length-k) ⟨⟨0,sv⟩,⟨by omega,by rw [hp];simp only [List.take_zero,List.map_nil,List.append_nil,List.drop_zero];congr 1<;>omega⟩,Weak.mk [true,true] ⟨Y,Y,VLe.of_eq (congrArg vI (by omega)),Y,T⟩ (by show _=[E.vec _ _ 1 ((p.Sizes++p.Params.map Pm.Name++[]).map fun s=>[cS s])]++_;rw [List.append_nil (p.Sizes++p.Params.map Pm.Name)];rfl)⟩ ?_
    rintro ⟨k,sv⟩ ⟨hk,hq⟩
    show AWP _ _ _ _ _ ⟨[(11,vI k),(7,.c (.lit sv)),(8,vI (2+(p.Params.length:Int)+(k:Int)))]++_,[E.vec sv 9 1 ((p.Sizes++p.Params.map Pm.Name++(p.Defs.take k).map Df.Name).map fun s=>[cS s])]++_⟩
    refine zI<|B O<|G O<|zG O kE<|zK wX (J 1 O) O<|zY O el25<|yA O<|U<|zE O (fun c6=>?_) (fun c6=>?_)
    ·try simp only [W] at c6
     obtain ⟨x,hx⟩:=qQ p.Defs k (by omega)
     refine zJ<|zI<|zP<|zI<|B O<|zL kO (J 1 O) O<|G O<|G O<|zX O (zAf 0 O ok56 O (ref17_def p hP hlm.1 k x hx (p.Sizes++p.Params.map Pm.Name++(p.Defs.take k).map Df.Name) (by simp only [List.length_append,List.length_take,List.length_map,List.length_cons,List.length_nil];omega)) O ⟨.inr ⟨Y,O⟩,.inr ⟨Y,O⟩,.inl ⟨O,O⟩,T⟩)<|G O<|U<|B O<|G O<|yN O<|U<|zE O (fun c7=>?_) (fun c7=>?_)
     ·try simp only [W] at c7
      refine B O<|G O<|G O<|G O<|G O<|U<|zH<|fin2 (v O) (v O) ?_
      rw [hq,defsR_no hx c7]
     ·try simp only [W] at c7
      refine zJ<|B O<|G O<|zG O kE<|zK wX (J 1 O) O<|G O<|qE O el25 (by omega) (getm (by assumption))<|zX O (qL O zEn O)<|zK one9 qB O<|yE O el22 zr9<|zZ O O (qY 0 O el22 O O O (by simp only [List.length_append,List.length_take,List.length_map,List.length_cons,List.length_nil];omega) (by simp only [List.length_append,List.length_take,List.length_map,List.length_cons,List.length_nil];omega)) ?_
      rintro _ _ ⟨sv5,rfl,rfl⟩
      refine G O<|U<|zS O<|G O<|qJ O ⟨by omega,by omega⟩<|G O<|U<|zS O<|G O<|qJ O ⟨by omega,by omega⟩<|G O<|U ?_
      refine ⟨⟨k+1,sv5⟩,⟨by omega,by rw [hq,defsR_next hx c7,qR hx,List.map_append,←List.append_assoc];congr 1<;>first|omega|rfl⟩,(by show p.Defs.length-(k+1)<p.Defs.length-k;omega),Weak.mk [true,true] ⟨Y,Y,VLe.of_eq (congrArg vI (by omega)),Y,T⟩ (by show _=[E.vec sv5 _ 1 ((p.Sizes++p.Params.map Pm.Name++(p.Defs.take (k+1)).map Df.Name).map fun s=>[cS s])]++_;rw [qR hx,List.map_append (f:=Df.Name),←List.append_assoc,List.map_append (f:=fun s=>[cS s]) (l₁:=p.Sizes++p.Params.map Pm.Name++(p.Defs.take k).map Df.Name)];rfl)⟩
    ·try simp only [W] at c6
     rw [wC (l:=p.Defs) (k:=k) (by omega),qX (l:=p.Defs) (k:=k) (by omega),defsR] at hq
     refine qO<|zI<|B O<|G O<|U<|zP<|zU ⟨[(13,.c _),(8,.c _),(1,.c _)],[_]⟩ (Weak.mk [false,true] ⟨Y,Y,Y,T⟩ O) ?_
     refine qF 2 0 O O (Nat) (fun k=>[(13,vI k),(8,vI (2+(p.Params.length:Int)+(p.Defs.length:Int)+(k:Int)))]) (fun k=>[]) (fun k=>k<=p.Outs.length/\(validR p=outsR p.en (2+(p.Params.length:Int)+(p.Defs.length:Int)+(k:Int)) (p.Outs.take k) (p.Outs.drop k))) (fun k=>p.Outs.length-k) ⟨0,⟨by omega,by rw [hq];congr 1;omega⟩,Weak.mk [true] ⟨Y,VLe.of_eq (congrArg vI (by omega)),Y,T⟩ O⟩ ?_
     rintro k ⟨hk,ho⟩
     refine zI<|B O<|G O<|zG O zBb<|zK wY (J 0 O) O<|zY O el22<|yA O<|U<|zE O (fun c8=>?_) (fun c8=>?_)
     ·try simp only [W] at c8
      obtain ⟨x,hx⟩:=qQ p.Outs k (by omega)
      refine zJ<|zI<|zP<|zI<|zI<|yH 14 1 [⟨0,.q [1]⟩,⟨1,.q []⟩,⟨2,.q [1]⟩,⟨3,.q []⟩,⟨4,.q []⟩,⟨5,.q []⟩,⟨6,.q []⟩,⟨7,.q []⟩,⟨8,.q []⟩,⟨9,.q []⟩,⟨10,.q []⟩,⟨11,.e 0 []⟩,⟨12,.e 0 []⟩,⟨13,.q []⟩] mixed (by kernel_rfl) (by kernel_rfl) O O O<|zO O<|zO O<|zO O<|zO O<|zO O<|zO O<|zO O<|zO O<|zO O<|zO O<|zO O<|zO O<|zO O<|zO O<|wM<|zW O (by decide) O O (zN O kO O (J 0 O) O)<|zW O (by decide) O O (zD O zBb O)<|zW O (by decide) O O (zF O wY O (J 0 O) O)<|zW O (by decide) O O (zR O O)<|zW O (by decide) O O (qA O el22 O O (by omega) (getm (by assumption)))<|zW O (by decide) O O (zF O one9 O qB O)<|zW O (by decide) O O (qG O ok57 (zJo p x hP) ⟨Y,O,Y,O,T⟩)<|zW O (by decide) O O (qV O O)<|zW O (by decide) O O (yJ O O O)<|zW O (by decide) O O (yI O O O)<|zW O (by decide) O O (yI O O O)<|zMh O O (by decide) O O (yB O zr31) ?_
      rintro _ _ ⟨b6,rfl,rfl⟩
      refine ⟨_,O,?_⟩
      refine zIc O O (by decide) O O (kW O sz31 O O O (zEe 0 O O)) ?_
      rintro _ _ ⟨rfl,rfl⟩
      refine ⟨_,O,?_⟩
      refine zW O (by decide) O O (yQ O O)<|wJ O<|G O<|U<|B O<|G O<|wB O<|U<|zE O (fun c9=>?_) (fun c9=>?_)
      ·try simp only [W] at c9
       refine B O<|G O<|G O<|G O<|U<|zH<|fin2 (v O) (v O) ?_
       rw [ho,outsR_9 hx c9]
      ·try simp only [W] at c9
       refine zJ<|zI<|zI<|qT 10 mixed (by kernel_rfl) O O<|zM O O (zD O zBb O)<|zM O O (zF O wY O (J 1 O) O)<|zM O O (zR O O)<|zM O O (zAr O el22 O O (by omega))<|zM O O (zD O zBb O)<|zM O O (zF O wY O (J 1 O) O)<|zM O O (zR O O)<|zM O O (qA O el22 O O (by omega) (getm (by assumption)))<|zM O O (zF O one9 O qB O)<|zM O O (qG O ok50 (zJa (p.Outs.take k) x (by rw [List.length_take];omega)) ⟨Y,O,Y,O,T⟩)<|yM<|U<|zE O (fun c10=>?_) (fun c10=>?_)
       ·try simp only [W] at c10
        refine B O<|G O<|G O<|G O<|U<|zH<|fin2 (v O) (v O) ?_
        rw [ho,outsR_8 hx c9 c10]
       ·try simp only [W] at c10
        refine zJ<|zS O<|G O<|qJ O ⟨by omega,by omega⟩<|G O<|U<|zS O<|G O<|qJ O ⟨by omega,by omega⟩<|G O<|U ?_
        refine ⟨k+1,⟨by omega,by rw [ho,outsR_next hx c9 (by simpa using c10)];congr 1<;>omega⟩,(by omega),Weak.mk [false,true] ⟨Y,VLe.of_eq (congrArg vI (by omega)),Y,T⟩ O⟩
     ·try simp only [W] at c8
      refine qO<|B O<|G O<|G O<|U<|zH<|fin2 (v O) (v O) ?_
      rw [ho,wC (by omega)];rfl
end Go.W
