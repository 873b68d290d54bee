/-
  Walks: what functions of the program compute. Printed by wip/gen/mk2.py.
  Conditions: none.
-/
import Derived.Test.YtkijgodlhljgdaaGreatDoorWO
set_option linter.unusedSimpArgs false
set_option linter.unusedVariables false
set_option maxRecDepth 10000
namespace Go.W
open Go Go.Eng Go.Proofs Go.L41 Go.Br
attribute [local irreducible] AWP RWP TD finQ
theorem ok33:callOk Tryz.prog 33=true:=by kernel_rfl
theorem ok53:callOk Tryz.prog 53=true:=by kernel_rfl
theorem ok54:callOk Tryz.prog 54=true:=by kernel_rfl
theorem ok55:callOk Tryz.prog 55=true:=by kernel_rfl
theorem ok56:callOk Tryz.prog 56=true:=by kernel_rfl
theorem ok114:callOk Tryz.prog 114=true:=by kernel_rfl
theorem ok118:callOk Tryz.prog 118=true:=by kernel_rfl
theorem ok119:callOk Tryz.prog 119=true:=by kernel_rfl
theorem ok120:callOk Tryz.prog 120=true:=by kernel_rfl
theorem pl27:placesT Tryz.prog 27=some [(0,1),(1,1),(2,1),(3,1),(4,1)]:=by kernel_rfl
theorem zKo (l:Lf) (sz:List ByteArray) (hl:l.L.length<=5864062014805) (hz0:sz.length<=4294967296):
    Pur cfg 54 [vLin l,vSs sz] (vI (formR l sz)):=by
 refine zV Tryz.func54 O Tryz.ntmps54 Tryz.results54 O ?_
 intro z hz
 refine B O<|zW O O (qJ O O) ?_
 rintro _ _ ⟨b1,rfl,rfl⟩
 refine F O<|H<|U<|B O<|zL kP (K 0 O) O<|qK O ok115 (zDe l (by omega)) ⟨G,O,T⟩<|wI O<|H<|g O (fun c1=>?_) (fun c1=>?_)
 ·try simp only [I] at c1
  refine B O<|F O<|H<|W<|R O ?_
  rw [formR_1 c1]
 ·try simp only [I] at c1
  refine zJ<|U<|B O<|zL kP (K 0 O) O<|F O<|qK O ok116 (zIl l [] sz hl (by simp) hz0) ⟨G,O,VLe.nil,O,G,O,T⟩<|wI O<|H<|g O (fun c2=>?_) (fun c2=>?_)
  ·try simp only [I] at c2
   refine B O<|F O<|H<|W<|R O ?_
   rw [formR_9 c1 c2]
  ·try simp only [I] at c2
   refine zJ<|B O<|F O<|H<|W<|R O ?_
   rw [formR_0 c1 c2]
theorem zGz (s:ByteArray) (t:List ByteArray) (ht:t.length<=4294967296):
    Pur cfg 114 [vS s,vSs t] (vI (nameR s t)):=by
 refine zV Tryz.func114 O Tryz.ntmps114 Tryz.results114 O ?_
 intro z hz
 refine B O<|F O<|H<|U<|B O<|F O<|qK O ok146 (zGu s) ⟨G,O,T⟩<|wI O<|H<|g O (fun c1=>?_) (fun c1=>?_)
 ·try simp only [I] at c1
  refine B O<|F O<|H<|W<|R O ?_
  rw [nameR_7 c1]
 ·try simp only [I] at c1
  refine zJ<|U<|B O<|F O<|F O<|qK O ok50 (zDf t s (by omega)) ⟨G,O,G,O,T⟩<|H<|g O (fun c2=>?_) (fun c2=>?_)
  ·try simp only [I] at c2
   refine B O<|F O<|H<|W<|R O ?_
   rw [nameR_8 c1 c2]
  ·try simp only [I] at c2
   refine zJ<|B O<|F O<|H<|W<|R O ?_
   rw [nameR_0 c1 (by simpa using c2)]
theorem ref17_param (x:Pm) (sz t:List ByteArray) (hl0:x.Dims.length<=4294967296) (hx0:∀l,l∈x.Dims->l.L.length<=5864062014805) (hz0:sz.length<=4294967296) (ht:t.length<=4294967296):
    Pur cfg 55 [vPm x,vSs sz,vSs t] (vI (paramR x sz t)):=by
 refine zV Tryz.func55 O Tryz.ntmps55 Tryz.results55 O ?_
 intro z hz
 refine B O<|zW O O (qJ O O) ?_
 rintro _ _ ⟨b1,rfl,rfl⟩
 refine F O<|H<|U<|B O<|zG O zHy<|zK i (K 0 O) O<|F O<|qK O ok114 (zGz x.Name t ht) ⟨G,O,G,O,T⟩<|F O<|H<|B O<|F O<|yP O<|H<|g O (fun c1=>?_) (fun c1=>?_)
 ·try simp only [I] at c1
  refine B O<|F O<|F O<|H<|W<|R O ?_
  rw [paramR_1 c1]
 ·try simp only [I] at c1
  refine zJ<|U<|B O<|zG O zJr<|zL yF (K 0 O) O<|qK O ok117 (zPv x.T) ⟨G,O,T⟩<|wI O<|H<|g O (fun c2=>?_) (fun c2=>?_)
  ·try simp only [I] at c2
   refine B O<|F O<|H<|W<|R O ?_
   rw [paramR_10 c1 c2]
  ·try simp only [I] at c2
   refine zJ<|U<|B O<|zG O zCy<|zK zAv (K 0 O) O<|zZ O el63<|qB O (yM O O O)<|H<|g O (fun c3=>?_) (fun c3=>?_)
   ·try simp only [I] at c3
    refine B O<|F O<|H<|W<|R O ?_
    rw [paramR_11 c1 c2 (by omega)]
   ·try simp only [I] at c3
    refine zJ<|U<|B O<|F O<|H<|zP<|zT ⟨[(8,.c _),(1,.c _),(3,.c _)],[_]⟩ (Weak.mk [true] ⟨G,G,G,T⟩ O)<|qG 1 0 O O (Nat) (fun k=>[(8,vI k)]) (fun k=>[]) (fun k=>k<=x.Dims.length/\(formsR sz x.Dims=formsR sz (x.Dims.drop k))) (fun k=>x.Dims.length-k) ⟨0,⟨by omega,O⟩,Weak.mk [true] ⟨G,G,G,T⟩ O⟩ ?_
    rintro k ⟨hk,hp⟩
    refine U<|B O<|F O<|zG O zCy<|zK zAv (K 0 O) O<|zZ O el63<|yB O<|H<|g O (fun c4=>?_) (fun c4=>?_)
    ·try simp only [I] at c4
     obtain ⟨y,hy⟩:=qP x.Dims k (by omega)
     refine zJ<|U<|zP<|B O<|zG O zCy<|zK zAv (K 0 O) O<|F O<|qE O el63 (by omega) (Q (by assumption))<|zL kP qA O<|F O<|qK O ok54 (zKo y sz (hx0 y (qD hy)) hz0) ⟨G,O,G,O,T⟩<|F O<|H<|B O<|F O<|yP O<|H<|g O (fun c5=>?_) (fun c5=>?_)
     ·try simp only [I] at c5
      refine B O<|F O<|F O<|H<|W<|R O ?_
      rw [paramR_f c1 c2 (by omega),hp,formsR_no hy c5]
     ·try simp only [I] at c5
      refine zJ<|zU O<|F O<|qL O ⟨by omega,by omega⟩<|F O<|H ?_
      refine ⟨k+1,⟨by omega,hp.trans (formsR_next hy c5)⟩,(by omega),Weak.mk [true] ⟨G,G,G,T⟩ O⟩
    ·try simp only [I] at c4
     refine qM<|B O<|F O<|H<|W<|R O ?_
     rw [paramR_f c1 c2 (by omega),hp,wK (by omega)];rfl
theorem ref17_axes (l:List Ax) (sz:List ByteArray) (hl0:l.length<=2147483648) (hx0:∀a,a∈l->a.Size.L.length<=5864062014805) (hz0:sz.length<=4194304):
    Pur cfg 118 [.c (.sl 3 (l.map Ax.cells)),vSs sz] (vI (axesR sz sz l)):=by
 refine zV Tryz.func118 O Tryz.ntmps118 Tryz.results118 O ?_
 intro z hz
 refine B O<|F O<|H<|B O<|zW O O (zBe O el22 zr9 O O O O) ?_
 rintro _ _ ⟨sv1,rfl,rfl⟩
 refine F O<|zW O O (qS 0 O el22 O O O (by simp only [List.length_append,List.length_take,List.length_map,List.length_cons,List.length_nil];omega) (by simp only [List.length_append,List.length_take,List.length_map,List.length_cons,List.length_nil];omega)) ?_
 rintro _ _ ⟨sv2,rfl,rfl⟩
 refine F O<|H<|U<|B O<|F O<|H<|zP<|zT ⟨[(6,.c _),(5,.c _),(0,.c _),(1,.c _)],[_]⟩ (Weak.mk [true] ⟨G,G,G,G,T⟩ O)<|qG 2 1 O O (Nat×Value) (fun ⟨k,sv⟩=>[(6,vI k),(5,.c (.lit sv))]) (fun ⟨k,sv⟩=>[E.vec sv 9 1 ((sz++(l.take k).map Ax.Name).map fun s=>[cS s])]) (fun ⟨k,sv⟩=>k<=l.length/\(axesR sz sz l=axesR sz (sz++(l.take k).map Ax.Name) (l.drop k))) (fun ⟨k,sv⟩=>l.length-k) ⟨⟨0,_⟩,⟨by omega,by simp⟩,Weak.mk [true] ⟨G,G,G,G,T⟩ (by show _=[E.vec _ _ 1 ((sz++[]).map fun s=>[cS s])]++_;rw [List.append_nil sz];rfl)⟩ ?_
 rintro ⟨k,sv⟩ ⟨hk,hp⟩
 show AWP _ _ _ _ _ ⟨[(6,vI k),(5,.c (.lit sv))]++_,[E.vec sv 9 1 ((sz++(l.take k).map Ax.Name).map fun s=>[cS s])]++_⟩
 refine U<|B O<|F O<|F O<|zZ O el57<|yB O<|H<|g O (fun c1=>?_) (fun c1=>?_)
 ·try simp only [I] at c1
  obtain ⟨x,hx⟩:=qP l k (by omega)
  refine zJ<|U<|zP<|U<|B O<|F O<|F O<|qE O el57 (by omega) (Q (by assumption))<|qR O zCx<|zK i qA O<|F O<|qB O (wC 0 O ok114 O (zGz x.Name (sz++(l.take k).map Ax.Name) (by simp only [List.length_append,List.length_take,List.length_map,List.length_cons,List.length_nil];omega)) O ⟨.inr ⟨G,O⟩,.inl ⟨O,O⟩,T⟩)<|F O<|H<|B O<|F O<|yP O<|H<|g O (fun c2=>?_) (fun c2=>?_)
  ·try simp only [I] at c2
   refine B O<|F O<|F O<|H<|W<|R O ?_
   rw [hp,axesR_n hx c2]
  ·try simp only [I] at c2
   refine zJ<|U<|B O<|F O<|F O<|qE O el57 (by omega) (Q (by assumption))<|qR O zIt<|zL kP qA O<|F O<|qK O ok54 (zKo x.Size sz (hx0 x (qD hx)) (by omega)) ⟨G,O,G,O,T⟩<|F O<|H<|B O<|F O<|yP O<|H<|g O (fun c3=>?_) (fun c3=>?_)
   ·try simp only [I] at c3
    refine B O<|F O<|F O<|H<|W<|R O ?_
    rw [hp,axesR_f hx c2 c3]
   ·try simp only [I] at c3
    refine zJ<|zU O<|F O<|F O<|F O<|qE O el57 (by omega) (Q (by assumption))<|qR O zCx<|zK i qA O<|qZ O el22 zr9<|zW O O (qS 0 O el22 O O O (by simp only [List.length_append,List.length_take,List.length_map,List.length_cons,List.length_nil];omega) (by simp only [List.length_append,List.length_take,List.length_map,List.length_cons,List.length_nil];omega)) ?_
    rintro _ _ ⟨sv3,rfl,rfl⟩
    refine F O<|H<|zU O<|F O<|qL O ⟨by omega,by omega⟩<|F O<|H ?_
    refine ⟨⟨k+1,sv3⟩,⟨by omega,by rw [hp,axesR_next hx c2 c3,qQ hx,List.map_append,←List.append_assoc];rfl⟩,(by show l.length-(k+1)<l.length-k;omega),Weak.mk [true] ⟨G,G,G,G,T⟩ (by show _=[E.vec sv3 _ 1 ((sz++(l.take (k+1)).map Ax.Name).map fun s=>[cS s])]++_;rw [qQ hx,List.map_append (f:=Ax.Name),←List.append_assoc,List.map_append (f:=fun s=>[cS s]) (l₁:=sz++(l.take k).map Ax.Name)];rfl)⟩
 ·try simp only [I] at c1
  refine qM<|B O<|F O<|H<|W<|R O ?_
  rw [hp,wK (by omega)];rfl
theorem zNy (d:Df):
    Pur cfg 119 [vDf d] (vI (foldR d)):=by
 refine zV Tryz.func119 O Tryz.ntmps119 Tryz.results119 O ?_
 intro z hz
 refine B O<|zW O O (qJ O O) ?_
 rintro _ _ ⟨b1,rfl,rfl⟩
 refine F O<|H<|U<|B O<|zG O zDx<|zK w (K 0 O) O<|yB O<|F O<|u O (fun g1_3=>zD O zDx O) O<|J 8 O (fun g1_3=>zF O w O (K 0 O) O) O<|J 9 O (fun g1_3=>yM O O O) O<|r_or O (fun h=>(lzf h))<|H<|g O (fun c1=>?_) (fun c1=>?_)
 ·have h1:=(red1 d).1 c1
  refine B O<|F O<|H<|W<|R O ?_
  rw [foldR,if_pos h1]
 ·have h1:=(red1 d).2 c1
  refine zJ<|B O<|zG O zDx<|zK w (K 0 O) O<|qX O<|F O<|u O (fun g3_3=>zD O zDx O) O<|J 16 O (fun g3_3=>zF O w O (K 0 O) O) O<|J 17 O (fun g3_3=>yL O O O) O<|r_or O (fun h=>(lzf h))<|F O<|H<|U<|B O<|F O<|zG O zAx<|zK wW (K 0 O) O<|zZ O el57<|qX O<|qB O (det_bneq O un4 O O)<|F O<|u O (fun g4_6=>zD O zDx O) O<|J 27 O (fun g4_6=>zF O w O (K 0 O) O) O<|J 28 O (fun g4_6=>yL O O O) O<|J 29 O (fun g4_6=>zQ O O) O<|rLz [] O j T (fun g4_10=>zD O zBi O) O<|rLz [(31,_)] O j ⟨O,O,T⟩ (fun g4_10=>zF O wW O (K 0 O) O) O<|rLz [(32,_)] O j ⟨O,O,T⟩ (fun g4_10=>qV O el57 O) O<|rLz [(33,_)] O j ⟨O,O,T⟩ (fun g4_10=>yL O O O) O<|J 30 O (fun g4_6=>kR O O O (fun h=>kH (by assumption) h) O) O<|r_or O (fun h=>(lzf h))<|H<|g O (fun c2=>?_) (fun c2=>?_)
  ·refine B O<|F O<|H<|W<|R O ?_
   rw [foldR,if_neg h1,if_pos (red2 c2)]
  ·refine zJ<|B O<|F O<|H<|W<|R O ?_
   rw [foldR,if_neg h1,if_neg (red3 c2)]
theorem ref17_def (p:Pg) (hP:p.Ok) (hz0:p.Sizes.length<=64) (k:Nat) (d:Df) (hd:p.Defs[k]? =some d) (t:List ByteArray) (ht:t.length<=4294967296):
    Pur cfg 56 [vPg p,vI k,vSs t] (vI (defR ⟨p.Sizes,p.Params,p.Defs.take k⟩ d t)):=by
 refine zV Tryz.func56 O Tryz.ntmps56 Tryz.results56 O ?_
 intro z hz
 obtain ⟨hD,hR,hA,hA2,hB⟩:=hP.ds d (qD hd)
 have hlen:=zHf hd
 have hpd:=hP.defs
 have hDR:(d.Dims++d.Red).length=d.Dims.length+d.Red.length:=List.length_append
 have hAx:∀a,a∈d.Dims++d.Red->a.Size.L.length<=5864062014805:=fun a ha=>by rcases List.mem_append.1 ha with h|h;exact hA a h;exact hA2 a h
 have hrows:[]++d.Dims.map Ax.cells++d.Red.map Ax.cells=(d.Dims++d.Red).map Ax.cells:=by simp
 have hax:Pur cfg 118 [.c (.sl 3 ([]++d.Dims.map Ax.cells++d.Red.map Ax.cells)),vSs p.Sizes] (vI (axesR p.Sizes p.Sizes (d.Dims++d.Red))):=by rw [hrows];exact ref17_axes (d.Dims++d.Red) p.Sizes (by omega) hAx (by omega)
 have hP2:(⟨p.Sizes,[],p.Params,p.Defs.take k,[]⟩:Pg).Ok:=⟨hP.sizes,by simp,hP.params,(hP.take k).defs,by simp,fun c hc=>(by cases hc),hP.ps,(hP.take k).ds⟩
 refine B O<|zW O O (qJ O O) ?_
 rintro _ _ ⟨b1,rfl,rfl⟩
 refine F O<|H<|B O<|zG O kE<|zK zAc (K 0 O) O<|F O<|qE O el25 (by omega) (Q (by assumption))<|zL zCn qA O<|zW O O (qI [none,none,none,none,none,none,some 3,some 3,none,none,none,none,none,none,none,none,none,none,none,some 2,some 4,some 13] O zr59 O) ?_
 rintro _ _ ⟨b2,rfl,rfl⟩
 refine N 0 sz59 O<|H<|U<|B O<|zG O zEk<|zK i (K 0 O) O<|F O<|qK O ok114 (zGz d.Name t ht) ⟨G,O,G,O,T⟩<|F O<|H<|B O<|F O<|yP O<|H<|g O (fun c1=>?_) (fun c1=>?_)
 ·try simp only [I] at c1
  refine B O<|F O<|F O<|H<|W<|R O ?_
  rw [defR_1 c1]
 ·try simp only [I] at c1
  refine zJ<|U<|B O<|zG O zHz<|zL yF (K 0 O) O<|qK O ok117 (zPv d.T) ⟨G,O,T⟩<|wI O<|H<|g O (fun c2=>?_) (fun c2=>?_)
  ·try simp only [I] at c2
   refine B O<|F O<|H<|W<|R O ?_
   rw [defR_10 c1 c2]
  ·try simp only [I] at c2
   refine zJ<|U<|B O<|zG O zBi<|zK wW (K 0 O) O<|zZ O el57<|qB O (yM O O O)<|F O<|u O (fun g7_4=>zD O zAx O) O<|J 34 O (fun g7_4=>zF O wW O (K 0 O) O) O<|J 35 O (fun g7_4=>qV O el57 O) O<|J 36 O (fun g7_4=>yM O O O) O<|r_or O (fun h=>(lzf h))<|H<|g O (fun c3=>?_) (fun c3=>?_)
   ·try simp only [I] at c3
    refine B O<|F O<|H<|W<|R O ?_
    rw [defR_11 c1 c2 (by omega)]
   ·try simp only [I] at c3
    have hX:=defR_ok (n:=⟨p.Sizes,p.Params,p.Defs.take k⟩) c1 c2 (by omega)
    refine zJ<|U<|U<|yH 9 1 [⟨1,.q []⟩,⟨2,.q [1]⟩,⟨4,.q []⟩,⟨5,.q [1]⟩,⟨7,.q []⟩,⟨8,.q [2]⟩,⟨0,.e 0 []⟩,⟨3,.e 0 []⟩,⟨6,.e 0 []⟩] mixed (by kernel_rfl) (by kernel_rfl) O O O<|D O<|D O<|D O<|D O<|D O<|D O<|D O<|D O<|D O<|wG<|M O (by decide) O O (zD O zBi O)<|M O (by decide) O O (zF O wW O (K 0 O) O)<|M O (by decide) O O (zD O zAx O)<|M O (by decide) O O (zF O wW O (K 0 O) O)<|M O (by decide) O O (zD O zBy O)<|M O (by decide) O O (zF O wT O (K 0 O) O)<|zKl O O (by decide) O O (zBe O el57 zr105 O O O O) ?_
    rintro _ _ ⟨sv3,rfl,rfl⟩
    refine ⟨_,O,?_⟩
    refine zKl O O (by decide) O O (qS 0 O el57 O O O (by simp only [List.length_append,List.length_take,List.length_map,List.length_cons,List.length_nil];omega) (by simp only [List.length_append,List.length_take,List.length_map,List.length_cons,List.length_nil];omega)) ?_
    rintro _ _ ⟨sv4,rfl,rfl⟩
    refine ⟨_,O,?_⟩
    refine zKl O O (by decide) O O (qS 0 O el57 O O O (by simp only [List.length_append,List.length_take,List.length_map,List.length_cons,List.length_nil];omega) (by simp only [List.length_append,List.length_take,List.length_map,List.length_cons,List.length_nil];omega)) ?_
    rintro _ _ ⟨sv5,rfl,rfl⟩
    refine ⟨_,O,?_⟩
    refine wF O<|qB O (wC 0 O ok118 O hax O ⟨.inl ⟨O,O⟩,.inr ⟨G,O⟩,T⟩)<|F O<|H<|B O<|F O<|yP O<|H<|g O (fun c4=>?_) (fun c4=>?_)
    ·try simp only [I] at c4
     refine B O<|F O<|F O<|H<|W<|R O ?_
     rw [hX,if_neg c4]
    ·try simp only [I] at c4
     rw [if_pos c4] at hX
     refine zJ<|U<|B O<|zL zCn (K 1 O) O<|qK O ok119 (zNy d) ⟨G,O,T⟩<|F O<|H<|B O<|F O<|yP O<|H<|g O (fun c5=>?_) (fun c5=>?_)
     ·try simp only [I] at c5
      refine B O<|F O<|F O<|H<|W<|R O ?_
      rw [hX,if_neg c5]
     ·try simp only [I] at c5
      rw [if_pos c5] at hX
      unfold tyErrD at hX
      refine zJ<|U<|yH 19 1 [⟨0,.q []⟩,⟨1,.q [3]⟩,⟨2,.q []⟩,⟨3,.q [3]⟩,⟨4,.q []⟩,⟨5,.q [3]⟩,⟨6,.q []⟩,⟨7,.q []⟩,⟨8,.q []⟩,⟨9,.q [2]⟩,⟨10,.q []⟩,⟨11,.q []⟩,⟨12,.q [2]⟩,⟨13,.q []⟩,⟨14,.q []⟩,⟨15,.q []⟩,⟨16,.q []⟩,⟨17,.e 0 []⟩,⟨18,.e 0 []⟩] mixed (by kernel_rfl) (by kernel_rfl) O O O<|D O<|D O<|D O<|D O<|D O<|D O<|D O<|D O<|D O<|D O<|D O<|D O<|D O<|D O<|D O<|D O<|D O<|D O<|D O<|wG<|M O (by decide) O O (zD O zBy O)<|M O (by decide) O O (zF O wT O (K 0 O) O)<|M O (by decide) O O (zD O kM O)<|M O (by decide) O O (zF O zAl O (K 0 O) O)<|M O (by decide) O O (zD O kE O)<|M O (by decide) O O (zF O zAc O (K 0 O) O)<|M O (by decide) O O (zQ O O)<|M O (by decide) O O (zAo O el25 O O (by omega))<|M O (by decide) O O (zLn [none,some 3,none,none,some 1] O zr27 pl27 O O)<|M O (by decide) O O (zN O zCn O (K 0 O) O)<|M O (by decide) O O (qF O ok120 (OwnR.pur (zMk d hD hR)) ⟨G,O,T⟩)<|M O (by decide) O O (zD O zCg O)<|M O (by decide) O O (zN O qH O (K 0 O) O)<|M O (by decide) O O (qF O ok33 (zGh (⟨p.Sizes,[],p.Params,p.Defs.take k,[]⟩:Pg) (namesD d) d.Body hP2 (by rw [namesD,List.length_append,List.length_map,List.length_map];omega) hB) ⟨G,O,G,O,G,O,T⟩)<|M O (by decide) O O (qU O O)<|M O (by decide) O O (yN O O O)<|M O (by decide) O O (yG O O O)<|zKl O O (by decide) O O (yA O zr31) ?_
      rintro _ _ ⟨b6,rfl,rfl⟩
      refine ⟨_,O,?_⟩
      refine zGb O O (by decide) O O (kT O sz31 O O O (zDo 0 O O)) ?_
      rintro _ _ ⟨rfl,rfl⟩
      refine ⟨_,O,?_⟩
      refine wF O<|F O<|H<|U<|B O<|F O<|yP O<|H<|g O (fun c6=>?_) (fun c6=>?_)
      ·try simp only [I] at c6
       refine B O<|F O<|F O<|H<|W<|R O ?_
       rw [hX,if_neg (show ¬(typeR (⟨p.Sizes,p.Params,p.Defs.take k⟩:En) (namesD d) d.Body).2=0 from c6)];rfl
      ·try simp only [I] at c6
       rw [if_pos (show (typeR (⟨p.Sizes,p.Params,p.Defs.take k⟩:En) (namesD d) d.Body).2=0 from c6)] at hX
       refine zJ<|U<|B O<|zL yF (K 0 O) O<|zG O zHz<|zL yF (K 2 O) O<|qB O (zCj O fl31 O O O)<|H<|g O (fun c7=>?_) (fun c7=>?_)
       ·refine B O<|F O<|H<|W<|R O ?_
        rw [hX,if_neg (show ¬(typeR (⟨p.Sizes,p.Params,p.Defs.take k⟩:En) (namesD d) d.Body).1=d.T from zIz c7)]
       ·refine zJ<|B O<|F O<|H<|W<|R O ?_
        rw [hX,if_pos (show (typeR (⟨p.Sizes,p.Params,p.Defs.take k⟩:En) (namesD d) d.Body).1=d.T from zGx c7)]
theorem ref17_sizes (p:Pg) (hP:p.Ok):
    Pur cfg 53 [vPg p] (vI (sizes0R p)):=by
 refine zV Tryz.func53 O Tryz.ntmps53 Tryz.results53 O ?_
 intro z hz
 have hpz:=hP.sizes
 refine B O<|zW O O (qJ O O) ?_
 rintro _ _ ⟨b1,rfl,rfl⟩
 refine F O<|H<|U<|B O<|zG O zBy<|zK wT (K 0 O) O<|zZ O el22<|qB O (yM O O O)<|F O<|u O (fun g1_4=>zD O kM O) O<|J 10 O (fun g1_4=>zF O zAl O (K 0 O) O) O<|J 11 O (fun g1_4=>qV O el24 O) O<|J 12 O (fun g1_4=>yM O O O) O<|r_or O (fun h=>(lzf h))<|F O<|u O (fun g1_10=>zD O kE O) O<|J 16 O (fun g1_10=>zF O zAc O (K 0 O) O) O<|J 17 O (fun g1_10=>qV O el25 O) O<|J 18 O (fun g1_10=>yM O O O) O<|r_or O (fun h=>(lzf h))<|F O<|u O (fun g1_16=>zD O zAt O) O<|J 22 O (fun g1_16=>zF O wT O (K 0 O) O) O<|J 23 O (fun g1_16=>qV O el22 O) O<|J 24 O (fun g1_16=>yM O O O) O<|r_or O (fun h=>(lzf h))<|F O<|u O (fun g1_22=>zD O zDz O) O<|J 28 O (fun g1_22=>zF O zKv O (K 0 O) O) O<|J 29 O (fun g1_22=>qV O el23 O) O<|J 30 O (fun g1_22=>yM O O O) O<|r_or O (fun h=>(lzf h))<|H<|g O (fun c1=>?_) (fun c1=>?_)
 ·have hl:¬limitOk p:=lim_no c1
  refine B O<|F O<|H<|W<|R O ?_
  rw [sizes0R,if_neg hl]
 ·have hl:limitOk p:=lim_yes c1
  have hz:sizes0R p=sizesR [] p.Sizes:=by unfold sizes0R;rw [if_pos hl]
  refine zJ<|U<|B O<|F O<|H<|zP<|zT ⟨[(3,.c _),(1,.c _)],[_]⟩ (Weak.mk [true] ⟨G,G,T⟩ O)<|qG 1 0 O O (Nat) (fun k=>[(3,vI k)]) (fun k=>[]) (fun k=>k<=p.Sizes.length/\(sizesR [] p.Sizes=sizesR (p.Sizes.take k) (p.Sizes.drop k))) (fun k=>p.Sizes.length-k) ⟨0,⟨by omega,O⟩,Weak.mk [true] ⟨G,G,T⟩ O⟩ ?_
  rintro k ⟨hk,hp⟩
  refine U<|B O<|F O<|zG O zBy<|zK wT (K 0 O) O<|zZ O el22<|yB O<|H<|g O (fun c2=>?_) (fun c2=>?_)
  ·try simp only [I] at c2
   obtain ⟨x,hx⟩:=qP p.Sizes k (by omega)
   refine zJ<|U<|zP<|U<|qO 11 mixed (by kernel_rfl) O O<|Y O O (zD O zBy O)<|Y O O (zF O wT O (K 0 O) O)<|Y O O (zQ O O)<|Y O O (zY O el22 O O (by omega) (Q (by assumption)))<|Y O O (zF O i O qA O)<|Y O O (zD O zBy O)<|Y O O (zF O wT O (K 0 O) O)<|Y O O (zQ O O)<|Y O O (zAo O el22 O O (by omega))<|Y O O (qF O ok114 (zGz x (p.Sizes.take k) (by rw [List.length_take];omega)) ⟨G,O,G,O,T⟩)<|Y O O (yX O O)<|yK<|H<|B O<|F O<|yP O<|H<|g O (fun c3=>?_) (fun c3=>?_)
   ·try simp only [I] at c3
    refine B O<|F O<|F O<|H<|W<|R O ?_
    rw [hz,hp,sizesR_no hx c3]
   ·try simp only [I] at c3
    refine zJ<|zU O<|F O<|qL O ⟨by omega,by omega⟩<|F O<|H ?_
    refine ⟨k+1,⟨by omega,hp.trans (sizesR_next hx c3)⟩,(by omega),Weak.mk [true] ⟨G,G,T⟩ O⟩
  ·try simp only [I] at c2
   refine qM<|B O<|F O<|H<|W<|R O ?_
   rw [hz,hp,wK (by omega)];rfl
theorem zHu (p:Pg) (hP:p.Ok):
    Pur cfg 18 [vPg p] (.tup [vI (validR p).1,vI (validR p).2]):=by
 refine zV Tryz.func18 O Tryz.ntmps18 Tryz.results18 O ?_
 intro z hz
 have hps:=hP.sizes
 have hpw:=hP.wh
 have hpp:=hP.params
 have hpd:=hP.defs
 have hpo:=hP.outs
 refine B O<|zW O O (qJ O O) ?_
 rintro _ _ ⟨b1,rfl,rfl⟩
 refine F O<|F O<|H<|U<|B O<|zL kC (K 0 O) O<|qK O ok53 (ref17_sizes p hP) ⟨G,O,T⟩<|F O<|H<|B O<|F O<|yP O<|H<|g O (fun c1=>?_) (fun c1=>?_)
 ·try simp only [I] at c1
  refine B O<|F O<|F O<|F O<|H<|W<|fin2 (o O) (o O) ?_
  rw [validR_s c1]
 ·try simp only [I] at c1
  have hlm:limitOk p:=(zKm c1).1
  have hlp:p.Params.length<=64:=hlm.2.1
  have hld:p.Defs.length<=64:=hlm.2.2.1
  have hlz:p.Sizes.length<=64:=hlm.1
  refine zJ<|U<|B O<|F O<|H<|zP<|zT ⟨[(5,.c _),(1,.c _)],[_]⟩ (Weak.mk [true] ⟨G,G,T⟩ O)<|qG 1 0 O O (Nat) (fun k=>[(5,vI k)]) (fun k=>[]) (fun k=>k<=p.Where.length/\(whereR p.Sizes p.Where=whereR p.Sizes (p.Where.drop k))) (fun k=>p.Where.length-k) ⟨0,⟨by omega,O⟩,Weak.mk [true] ⟨G,G,T⟩ O⟩ ?_
  rintro k ⟨hk,hp⟩
  refine U<|B O<|F O<|zG O zDz<|zK zKv (K 0 O) O<|zZ O el23<|yB O<|H<|g O (fun c2=>?_) (fun c2=>?_)
  ·try simp only [I] at c2
   obtain ⟨x,hx⟩:=qP p.Where k (by omega)
   refine zJ<|U<|zP<|U<|qO 10 mixed (by kernel_rfl) O O<|Y O O (zD O zDz O)<|Y O O (zF O zKv O (K 0 O) O)<|Y O O (zQ O O)<|Y O O (zY O el23 O O (by omega) (Q (by assumption)))<|Y O O (qT O zPb O)<|Y O O (zN O kP O qA O)<|Y O O (zD O zBy O)<|Y O O (zF O wT O (K 0 O) O)<|Y O O (qF O ok54 (zKo x.Lin p.Sizes (hP.whs x (qD hx)) (by omega)) ⟨G,O,G,O,T⟩)<|Y O O (yX O O)<|yK<|H<|B O<|F O<|yP O<|H<|g O (fun c3=>?_) (fun c3=>?_)
   ·try simp only [I] at c3
    refine B O<|F O<|F O<|F O<|H<|W<|fin2 (o O) (o O) ?_
    rw [validR_w c1 (by rw [hp,whereR_no hx c3];exact c3),hp,whereR_no hx c3]
   ·try simp only [I] at c3
    refine zJ<|zU O<|F O<|qL O ⟨by omega,by omega⟩<|F O<|H ?_
    refine ⟨k+1,⟨by omega,hp.trans (whereR_next hx c3)⟩,(by omega),Weak.mk [true] ⟨G,G,T⟩ O⟩
  ·try simp only [I] at c2
   rw [wK (l:=p.Where) (k:=k) (by omega)] at hp
   have hV:=validR_p c1 hp
   refine qM<|B O<|zW O O (zBe O el22 zr9 O O O O) ?_
   rintro _ _ ⟨sv2,rfl,rfl⟩
   refine zG O zBy<|zK wT (K 1 O) O<|zW O O (qS 0 O el22 O O O (by simp only [List.length_append,List.length_take,List.length_map,List.length_cons,List.length_nil];omega) (by simp only [List.length_append,List.length_take,List.length_map,List.length_cons,List.length_nil];omega)) ?_
   rintro _ _ ⟨sv3,rfl,rfl⟩
   refine F O<|H<|B O<|F O<|H<|U<|B O<|F O<|H<|zP<|zT ⟨[(9,.c _),(7,.c _),(8,.c _),(1,.c _)],[_,_]⟩ (Weak.mk [true,true] ⟨G,G,G,G,T⟩ O)<|qG 3 1 O O (Nat×Value) (fun ⟨k,sv⟩=>[(9,vI k),(7,.c (.lit sv)),(8,vI (2+(k:Int)))]) (fun ⟨k,sv⟩=>[E.vec sv 9 1 ((p.Sizes++(p.Params.take k).map Pm.Name).map fun s=>[cS s])]) (fun ⟨k,sv⟩=>k<=p.Params.length/\(validR p=paramsR p (2+(k:Int)) (p.Sizes++(p.Params.take k).map Pm.Name) (p.Params.drop k))) (fun ⟨k,sv⟩=>p.Params.length-k) ⟨⟨0,_⟩,⟨by omega,by rw [hV];simp⟩,Weak.mk [true,true] ⟨G,G,G,G,T⟩ (by show _=[E.vec _ _ 1 ((p.Sizes++[]).map fun s=>[cS s])]++_;rw [List.append_nil p.Sizes];rfl)⟩ ?_
   rintro ⟨k,sv⟩ ⟨hk,hp⟩
   show AWP _ _ _ _ _ ⟨[(9,vI k),(7,.c (.lit sv)),(8,vI (2+(k:Int)))]++_,[E.vec sv 9 1 ((p.Sizes++(p.Params.take k).map Pm.Name).map fun s=>[cS s])]++_⟩
   refine U<|B O<|F O<|zG O kM<|zK zAl (K 1 O) O<|zZ O el24<|yB O<|H<|g O (fun c4=>?_) (fun c4=>?_)
   ·try simp only [I] at c4
    obtain ⟨x,hx⟩:=qP p.Params k (by omega)
    refine zJ<|U<|zP<|U<|U<|qO 8 mixed (by kernel_rfl) O O<|Y O O (zD O kM O)<|Y O O (zF O zAl O (K 1 O) O)<|Y O O (zQ O O)<|Y O O (zY O el24 O O (by omega) (Q (by assumption)))<|Y O O (zN O zMm O qA O)<|Y O O (zD O zBy O)<|Y O O (zF O wT O (K 1 O) O)<|Y O O (zQ O O)<|yK<|qB O (wC 0 O ok55 O (ref17_param x p.Sizes (p.Sizes++(p.Params.take k).map Pm.Name) (hP.ps x (qD hx)).1 (hP.ps x (qD hx)).2 (by omega) (by simp only [List.length_append,List.length_take,List.length_map,List.length_cons,List.length_nil];omega)) O ⟨.inr ⟨G,O⟩,.inr ⟨G,O⟩,.inl ⟨O,O⟩,T⟩)<|F O<|H<|B O<|F O<|yP O<|H<|g O (fun c5=>?_) (fun c5=>?_)
    ·try simp only [I] at c5
     refine B O<|F O<|F O<|F O<|F O<|H<|W<|fin2 (o O) (o O) ?_
     rw [hp,paramsR_no hx c5]
    ·try simp only [I] at c5
     refine zJ<|B O<|F O<|zG O kM<|zK zAl (K 1 O) O<|F O<|qE O el24 (by omega) (Q (by assumption))<|qR O zHy<|zK i qA O<|qZ O el22 zr9<|zW O O (qS 0 O el22 O O O (by simp only [List.length_append,List.length_take,List.length_map,List.length_cons,List.length_nil];omega) (by simp only [List.length_append,List.length_take,List.length_map,List.length_cons,List.length_nil];omega)) ?_
     rintro _ _ ⟨sv4,rfl,rfl⟩
     refine F O<|H<|zU O<|F O<|qL O ⟨by omega,by omega⟩<|F O<|H<|zU O<|F O<|qL O ⟨by omega,by omega⟩<|F O<|H ?_
     refine ⟨⟨k+1,sv4⟩,⟨by omega,by rw [hp,paramsR_next hx c5,qQ hx,List.map_append,←List.append_assoc];congr 1<;>first|omega|rfl⟩,(by show p.Params.length-(k+1)<p.Params.length-k;omega),Weak.mk [true,true] ⟨G,G,VLe.of_eq (congrArg vI (by omega)),G,T⟩ (by show _=[E.vec sv4 _ 1 ((p.Sizes++(p.Params.take (k+1)).map Pm.Name).map fun s=>[cS s])]++_;rw [qQ hx,List.map_append (f:=Pm.Name),←List.append_assoc,List.map_append (f:=fun s=>[cS s]) (l₁:=p.Sizes++(p.Params.take k).map Pm.Name)];rfl)⟩
   ·try simp only [I] at c4
    rw [qY (l:=p.Params) (k:=k) (by omega)]
    rw [wK (l:=p.Params) (k:=k) (by omega),qY (l:=p.Params) (k:=k) (by omega),paramsR] at hp
    refine qM<|U<|B O<|F O<|H<|zP<|zT ⟨[(11,.c _),(7,.c _),(8,.c _),(1,.c _)],[_,_]⟩ (Weak.mk [true,true] ⟨G,G,G,G,T⟩ O) ?_
    refine qG 3 1 O O (Nat×Value) (fun ⟨k,sv⟩=>[(11,vI k),(7,.c (.lit sv)),(8,vI (2+(p.Params.length:Int)+(k:Int)))]) (fun ⟨k,sv⟩=>[E.vec sv 9 1 ((p.Sizes++p.Params.map Pm.Name++(p.Defs.take k).map Df.Name).map fun s=>[cS s])]) (fun ⟨k,sv⟩=>k<=p.Defs.length/\(validR p=defsR p (2+(p.Params.length:Int)+(k:Int)) (p.Sizes++p.Params.map Pm.Name++(p.Defs.take k).map Df.Name) (p.Defs.take k) (p.Defs.drop k))) (fun ⟨k,sv⟩=>p.Defs.length-k) ⟨⟨0,sv⟩,⟨by omega,by rw [hp];simp only [List.take_zero,List.map_nil,List.append_nil,List.drop_zero];congr 1<;>omega⟩,Weak.mk [true,true] ⟨G,G,VLe.of_eq (congrArg vI (by omega)),G,T⟩ (by show _=[E.vec _ _ 1 ((p.Sizes++p.Params.map Pm.Name++[]).map fun s=>[cS s])]++_;rw [List.append_nil (p.Sizes++p.Params.map Pm.Name)];rfl)⟩ ?_
    rintro ⟨k,sv⟩ ⟨hk,hq⟩
    show AWP _ _ _ _ _ ⟨[(11,vI k),(7,.c (.lit sv)),(8,vI (2+(p.Params.length:Int)+(k:Int)))]++_,[E.vec sv 9 1 ((p.Sizes++p.Params.map Pm.Name++(p.Defs.take k).map Df.Name).map fun s=>[cS s])]++_⟩
    refine U<|B O<|F O<|zG O kE<|zK zAc (K 1 O) O<|zZ O el25<|yB O<|H<|g O (fun c6=>?_) (fun c6=>?_)
    ·try simp only [I] at c6
     obtain ⟨x,hx⟩:=qP p.Defs k (by omega)
     refine zJ<|U<|zP<|U<|B O<|zL kC (K 1 O) O<|F O<|F O<|qB O (wC 0 O ok56 O (ref17_def p hP hlm.1 k x hx (p.Sizes++p.Params.map Pm.Name++(p.Defs.take k).map Df.Name) (by simp only [List.length_append,List.length_take,List.length_map,List.length_cons,List.length_nil];omega)) O ⟨.inr ⟨G,O⟩,.inr ⟨G,O⟩,.inl ⟨O,O⟩,T⟩)<|F O<|H<|B O<|F O<|yP O<|H<|g O (fun c7=>?_) (fun c7=>?_)
     ·try simp only [I] at c7
      refine B O<|F O<|F O<|F O<|F O<|H<|W<|fin2 (o O) (o O) ?_
      rw [hq,defsR_no hx c7]
     ·try simp only [I] at c7
      refine zJ<|B O<|F O<|zG O kE<|zK zAc (K 1 O) O<|F O<|qE O el25 (by omega) (Q (by assumption))<|qR O zEk<|zK i qA O<|qZ O el22 zr9<|zW O O (qS 0 O el22 O O O (by simp only [List.length_append,List.length_take,List.length_map,List.length_cons,List.length_nil];omega) (by simp only [List.length_append,List.length_take,List.length_map,List.length_cons,List.length_nil];omega)) ?_
      rintro _ _ ⟨sv5,rfl,rfl⟩
      refine F O<|H<|zU O<|F O<|qL O ⟨by omega,by omega⟩<|F O<|H<|zU O<|F O<|qL O ⟨by omega,by omega⟩<|F O<|H ?_
      refine ⟨⟨k+1,sv5⟩,⟨by omega,by rw [hq,defsR_next hx c7,qQ hx,List.map_append,←List.append_assoc];congr 1<;>first|omega|rfl⟩,(by show p.Defs.length-(k+1)<p.Defs.length-k;omega),Weak.mk [true,true] ⟨G,G,VLe.of_eq (congrArg vI (by omega)),G,T⟩ (by show _=[E.vec sv5 _ 1 ((p.Sizes++p.Params.map Pm.Name++(p.Defs.take (k+1)).map Df.Name).map fun s=>[cS s])]++_;rw [qQ hx,List.map_append (f:=Df.Name),←List.append_assoc,List.map_append (f:=fun s=>[cS s]) (l₁:=p.Sizes++p.Params.map Pm.Name++(p.Defs.take k).map Df.Name)];rfl)⟩
    ·try simp only [I] at c6
     rw [wK (l:=p.Defs) (k:=k) (by omega),qY (l:=p.Defs) (k:=k) (by omega),defsR] at hq
     refine qM<|U<|B O<|F O<|H<|zP<|zT ⟨[(13,.c _),(8,.c _),(1,.c _)],[_]⟩ (Weak.mk [false,true] ⟨G,G,G,T⟩ O) ?_
     refine qG 2 0 O O (Nat) (fun k=>[(13,vI k),(8,vI (2+(p.Params.length:Int)+(p.Defs.length:Int)+(k:Int)))]) (fun k=>[]) (fun k=>k<=p.Outs.length/\(validR p=outsR p.en (2+(p.Params.length:Int)+(p.Defs.length:Int)+(k:Int)) (p.Outs.take k) (p.Outs.drop k))) (fun k=>p.Outs.length-k) ⟨0,⟨by omega,by rw [hq];congr 1;omega⟩,Weak.mk [true] ⟨G,VLe.of_eq (congrArg vI (by omega)),G,T⟩ O⟩ ?_
     rintro k ⟨hk,ho⟩
     refine U<|B O<|F O<|zG O zAt<|zK wT (K 0 O) O<|zZ O el22<|yB O<|H<|g O (fun c8=>?_) (fun c8=>?_)
     ·try simp only [I] at c8
      obtain ⟨x,hx⟩:=qP p.Outs k (by omega)
      refine zJ<|U<|zP<|U<|U<|yH 14 1 [⟨0,.q [1]⟩,⟨1,.q []⟩,⟨2,.q [1]⟩,⟨3,.q []⟩,⟨4,.q []⟩,⟨5,.q []⟩,⟨6,.q []⟩,⟨7,.q []⟩,⟨8,.q []⟩,⟨9,.q []⟩,⟨10,.q []⟩,⟨11,.e 0 []⟩,⟨12,.e 0 []⟩,⟨13,.q []⟩] mixed (by kernel_rfl) (by kernel_rfl) O O O<|D O<|D O<|D O<|D O<|D O<|D O<|D O<|D O<|D O<|D O<|D O<|D O<|D O<|D O<|wG<|M O (by decide) O O (zN O kC O (K 0 O) O)<|M O (by decide) O O (zD O zAt O)<|M O (by decide) O O (zF O wT O (K 0 O) O)<|M O (by decide) O O (zQ O O)<|M O (by decide) O O (zY O el22 O O (by omega) (Q (by assumption)))<|M O (by decide) O O (zF O i O qA O)<|M O (by decide) O O (qF O ok57 (zKp p x hP) ⟨G,O,G,O,T⟩)<|M O (by decide) O O (qU O O)<|M O (by decide) O O (yN O O O)<|M O (by decide) O O (yG O O O)<|M O (by decide) O O (yG O O O)<|zKl O O (by decide) O O (yA O zr31) ?_
      rintro _ _ ⟨b6,rfl,rfl⟩
      refine ⟨_,O,?_⟩
      refine zGb O O (by decide) O O (kT O sz31 O O O (zDo 0 O O)) ?_
      rintro _ _ ⟨rfl,rfl⟩
      refine ⟨_,O,?_⟩
      refine M O (by decide) O O (yX O O)<|wF O<|F O<|H<|B O<|F O<|wI O<|H<|g O (fun c9=>?_) (fun c9=>?_)
      ·try simp only [I] at c9
       refine B O<|F O<|F O<|F O<|H<|W<|fin2 (o O) (o O) ?_
       rw [ho,outsR_9 hx c9]
      ·try simp only [I] at c9
       refine zJ<|U<|U<|qO 10 mixed (by kernel_rfl) O O<|Y O O (zD O zAt O)<|Y O O (zF O wT O (K 1 O) O)<|Y O O (zQ O O)<|Y O O (zAo O el22 O O (by omega))<|Y O O (zD O zAt O)<|Y O O (zF O wT O (K 1 O) O)<|Y O O (zQ O O)<|Y O O (zY O el22 O O (by omega) (Q (by assumption)))<|Y O O (zF O i O qA O)<|Y O O (qF O ok50 (zDf (p.Outs.take k) x (by rw [List.length_take];omega)) ⟨G,O,G,O,T⟩)<|yK<|H<|g O (fun c10=>?_) (fun c10=>?_)
       ·try simp only [I] at c10
        refine B O<|F O<|F O<|F O<|H<|W<|fin2 (o O) (o O) ?_
        rw [ho,outsR_8 hx c9 c10]
       ·try simp only [I] at c10
        refine zJ<|zU O<|F O<|qL O ⟨by omega,by omega⟩<|F O<|H<|zU O<|F O<|qL O ⟨by omega,by omega⟩<|F O<|H ?_
        refine ⟨k+1,⟨by omega,by rw [ho,outsR_next hx c9 (by simpa using c10)];congr 1<;>omega⟩,(by omega),Weak.mk [false,true] ⟨G,VLe.of_eq (congrArg vI (by omega)),G,T⟩ O⟩
     ·try simp only [I] at c8
      refine qM<|B O<|F O<|F O<|H<|W<|fin2 (o O) (o O) ?_
      rw [ho,wK (by omega)];rfl
end Go.W
