/-
  Walks: what functions of the program compute. Printed by wip/gen/mk2.py.
  Conditions: none.
-/
import Derived.Test.YtkidnhldibjiaaaGreatDoorWO
set_option linter.unusedSimpArgs false
set_option linter.unusedVariables false
set_option maxRecDepth 10000
namespace Go.W
open Go Go.Eng Go.Proofs Go.L41 Go.Br
attribute [local irreducible] AWP RWP TD finQ
theorem ok55:callOk Tryz.prog 55=true:=by kernel_rfl
theorem ok56:callOk Tryz.prog 56=true:=by kernel_rfl
theorem ok57:callOk Tryz.prog 57=true:=by kernel_rfl
theorem ok58:callOk Tryz.prog 58=true:=by kernel_rfl
theorem ok96:callOk Tryz.prog 96=true:=by kernel_rfl
theorem ok97:callOk Tryz.prog 97=true:=by kernel_rfl
theorem ok106:callOk Tryz.prog 106=true:=by kernel_rfl
theorem ok110:callOk Tryz.prog 110=true:=by kernel_rfl
theorem ok111:callOk Tryz.prog 111=true:=by kernel_rfl
theorem pl27:placesT Tryz.prog 27=some [(0,1),(1,1),(2,1),(3,1),(4,1)]:=by kernel_rfl
theorem zKl (l:Lf) (sz:List ByteArray) (hl:l.L.length<=5864062014805) (hz0:sz.length<=4294967296):
    Pur cfg 56 [vLin l,vSs sz] (vI (formR l sz)):=by
 refine zR Tryz.func56 O Tryz.ntmps56 Tryz.results56 O ?_
 intro z hz
 refine G O<|zS O O (qG O O) ?_
 rintro _ _ ⟨b1,rfl,rfl⟩
 refine Y O<|W<|zG<|G O<|zL kF (J 0 O) O<|qK O ok107 (zDa l (by omega)) ⟨U,O,T⟩<|wD O<|W<|zE O (fun c1=>?_) (fun c1=>?_)
 ·try simp only [sx] at c1
  refine G O<|Y O<|W<|zJ<|zP O ?_
  rw [formR_1 c1]
 ·try simp only [sx] at c1
  refine zI<|zG<|G O<|zL kF (J 0 O) O<|Y O<|qK O ok108 (zIa l [] sz hl (by simp) hz0) ⟨U,O,VLe.nil,O,U,O,T⟩<|wD O<|W<|zE O (fun c2=>?_) (fun c2=>?_)
  ·try simp only [sx] at c2
   refine G O<|Y O<|W<|zJ<|zP O ?_
   rw [formR_9 c1 c2]
  ·try simp only [sx] at c2
   refine zI<|G O<|Y O<|W<|zJ<|zP O ?_
   rw [formR_0 c1 c2]
theorem zGs (s:ByteArray) (t:List ByteArray) (ht:t.length<=4294967296):
    Pur cfg 106 [vS s,vSs t] (vI (nameR s t)):=by
 refine zR Tryz.func106 O Tryz.ntmps106 Tryz.results106 O ?_
 intro z hz
 refine G O<|Y O<|W<|zG<|G O<|Y O<|qK O ok137 (zGm s) ⟨U,O,T⟩<|wD O<|W<|zE O (fun c1=>?_) (fun c1=>?_)
 ·try simp only [sx] at c1
  refine G O<|Y O<|W<|zJ<|zP O ?_
  rw [nameR_7 c1]
 ·try simp only [sx] at c1
  refine zI<|zG<|G O<|Y O<|Y O<|qK O ok21 (zFg t s (by omega)) ⟨U,O,U,O,T⟩<|W<|zE O (fun c2=>?_) (fun c2=>?_)
  ·try simp only [sx] at c2
   refine G O<|Y O<|W<|zJ<|zP O ?_
   rw [nameR_8 c1 c2]
  ·try simp only [sx] at c2
   refine zI<|G O<|Y O<|W<|zJ<|zP O ?_
   rw [nameR_0 c1 (by simpa using c2)]
theorem ref17_param (x:Pm) (sz t:List ByteArray) (hl0:x.Dims.length<=4294967296) (hx0:∀l,l∈x.Dims->l.L.length<=5864062014805) (hz0:sz.length<=4294967296) (ht:t.length<=4294967296):
    Pur cfg 57 [vPm x,vSs sz,vSs t] (vI (paramR x sz t)):=by
 refine zR Tryz.func57 O Tryz.ntmps57 Tryz.results57 O ?_
 intro z hz
 refine G O<|zS O O (qG O O) ?_
 rintro _ _ ⟨b1,rfl,rfl⟩
 refine Y O<|W<|zG<|G O<|zD O fd67_0<|zH one9 (J 0 O) O<|Y O<|qK O ok106 (zGs x.Name t ht) ⟨U,O,U,O,T⟩<|Y O<|W<|G O<|Y O<|yR O<|W<|zE O (fun c1=>?_) (fun c1=>?_)
 ·try simp only [sx] at c1
  refine G O<|Y O<|Y O<|W<|zJ<|zP O ?_
  rw [paramR_1 c1]
 ·try simp only [sx] at c1
  refine zI<|zG<|G O<|zD O fd67_1<|zL yD (J 0 O) O<|qK O ok109 (zQg x.T) ⟨U,O,T⟩<|wD O<|W<|zE O (fun c2=>?_) (fun c2=>?_)
  ·try simp only [sx] at c2
   refine G O<|Y O<|W<|zJ<|zP O ?_
   rw [paramR_10 c1 c2]
  ·try simp only [sx] at c2
   refine zI<|zG<|G O<|zD O zHp<|zH zAr (J 0 O) O<|zV O el65<|zX O (yF O O O)<|W<|zE O (fun c3=>?_) (fun c3=>?_)
   ·try simp only [sx] at c3
    refine G O<|Y O<|W<|zJ<|zP O ?_
    rw [paramR_11 c1 c2 (by omega)]
   ·try simp only [sx] at c3
    refine zI<|zG<|G O<|Y O<|W<|zN<|zU ⟨[(8,.c _),(1,.c _),(3,.c _)],[_]⟩ (Weak.mk [true] ⟨U,U,U,T⟩ O)<|qA 1 0 O O (Nat) (fun k=>[(8,vI k)]) (fun k=>[]) (fun k=>k<=x.Dims.length/\(formsR sz x.Dims=formsR sz (x.Dims.drop k))) (fun k=>x.Dims.length-k) ⟨0,⟨by omega,O⟩,Weak.mk [true] ⟨U,U,U,T⟩ O⟩ ?_
    rintro k ⟨hk,hp⟩
    refine zG<|G O<|Y O<|zD O zHp<|zH zAr (J 0 O) O<|zV O el65<|qW O<|W<|zE O (fun c4=>?_) (fun c4=>?_)
    ·try simp only [sx] at c4
     obtain ⟨y,hy⟩:=qP x.Dims k (by omega)
     refine zI<|zG<|zN<|G O<|zD O zHp<|zH zAr (J 0 O) O<|Y O<|zZ O el65 (by omega) (getm (by assumption))<|zL kF zY O<|Y O<|qK O ok56 (zKl y sz (hx0 y (zW hy)) hz0) ⟨U,O,U,O,T⟩<|Y O<|W<|G O<|Y O<|yR O<|W<|zE O (fun c5=>?_) (fun c5=>?_)
     ·try simp only [sx] at c5
      refine G O<|Y O<|Y O<|W<|zJ<|zP O ?_
      rw [paramR_f c1 c2 (by omega),hp,formsR_no hy c5]
     ·try simp only [sx] at c5
      refine zI<|zO O<|Y O<|qB O ⟨by omega,by omega⟩<|Y O<|W ?_
      refine ⟨k+1,⟨by omega,hp.trans (formsR_next hy c5)⟩,(by omega),Weak.mk [true] ⟨U,U,U,T⟩ O⟩
    ·try simp only [sx] at c4
     refine qE<|G O<|Y O<|W<|zJ<|zP O ?_
     rw [paramR_f c1 c2 (by omega),hp,wE (by omega)];rfl
theorem ref17_axes (l:List Ax) (sz:List ByteArray) (hl0:l.length<=2147483648) (hx0:∀a,a∈l->a.Size.L.length<=5864062014805) (hz0:sz.length<=4194304):
    Pur cfg 110 [.c (.sl 3 (l.map Ax.cells)),vSs sz] (vI (axesR sz sz l)):=by
 refine zR Tryz.func110 O Tryz.ntmps110 Tryz.results110 O ?_
 intro z hz
 refine G O<|Y O<|W<|G O<|zS O O (zAq O r zr9 O O O O) ?_
 rintro _ _ ⟨sv1,rfl,rfl⟩
 refine Y O<|zS O O (qO 0 O r O O O (by simp only [List.length_append,List.length_take,List.length_map,List.length_cons,List.length_nil];omega) (by simp only [List.length_append,List.length_take,List.length_map,List.length_cons,List.length_nil];omega)) ?_
 rintro _ _ ⟨sv2,rfl,rfl⟩
 refine Y O<|W<|zG<|G O<|Y O<|W<|zN<|zU ⟨[(6,.c _),(5,.c _),(0,.c _),(1,.c _)],[_]⟩ (Weak.mk [true] ⟨U,U,U,U,T⟩ O)<|qA 2 1 O O (Nat×Value) (fun ⟨k,sv⟩=>[(6,vI k),(5,.c (.lit sv))]) (fun ⟨k,sv⟩=>[E.vec sv 9 1 ((sz++(l.take k).map Ax.Name).map fun s=>[cS s])]) (fun ⟨k,sv⟩=>k<=l.length/\(axesR sz sz l=axesR sz (sz++(l.take k).map Ax.Name) (l.drop k))) (fun ⟨k,sv⟩=>l.length-k) ⟨⟨0,_⟩,⟨by omega,by simp⟩,Weak.mk [true] ⟨U,U,U,U,T⟩ (by show _=[E.vec _ _ 1 ((sz++[]).map fun s=>[cS s])]++_;rw [List.append_nil sz];rfl)⟩ ?_
 rintro ⟨k,sv⟩ ⟨hk,hp⟩
 show AWP _ _ _ _ _ ⟨[(6,vI k),(5,.c (.lit sv))]++_,[E.vec sv 9 1 ((sz++(l.take k).map Ax.Name).map fun s=>[cS s])]++_⟩
 refine zG<|G O<|Y O<|Y O<|zV O D<|qW O<|W<|zE O (fun c1=>?_) (fun c1=>?_)
 ·try simp only [sx] at c1
  obtain ⟨x,hx⟩:=qP l k (by omega)
  refine zI<|zG<|zN<|zG<|G O<|Y O<|Y O<|zZ O D (by omega) (getm (by assumption))<|qN O zAj<|zH one9 zY O<|Y O<|zX O (zAv 0 O ok106 O (zGs x.Name (sz++(l.take k).map Ax.Name) (by simp only [List.length_append,List.length_take,List.length_map,List.length_cons,List.length_nil];omega)) O ⟨.inr ⟨U,O⟩,.inl ⟨O,O⟩,T⟩)<|Y O<|W<|G O<|Y O<|yR O<|W<|zE O (fun c2=>?_) (fun c2=>?_)
  ·try simp only [sx] at c2
   refine G O<|Y O<|Y O<|W<|zJ<|zP O ?_
   rw [hp,axesR_n hx c2]
  ·try simp only [sx] at c2
   refine zI<|zG<|G O<|Y O<|Y O<|zZ O D (by omega) (getm (by assumption))<|qN O zDm<|zL kF zY O<|Y O<|qK O ok56 (zKl x.Size sz (hx0 x (zW hx)) (by omega)) ⟨U,O,U,O,T⟩<|Y O<|W<|G O<|Y O<|yR O<|W<|zE O (fun c3=>?_) (fun c3=>?_)
   ·try simp only [sx] at c3
    refine G O<|Y O<|Y O<|W<|zJ<|zP O ?_
    rw [hp,axesR_f hx c2 c3]
   ·try simp only [sx] at c3
    refine zI<|zO O<|Y O<|Y O<|Y O<|zZ O D (by omega) (getm (by assumption))<|qN O zAj<|zH one9 zY O<|qX O r zr9<|zS O O (qO 0 O r O O O (by simp only [List.length_append,List.length_take,List.length_map,List.length_cons,List.length_nil];omega) (by simp only [List.length_append,List.length_take,List.length_map,List.length_cons,List.length_nil];omega)) ?_
    rintro _ _ ⟨sv3,rfl,rfl⟩
    refine Y O<|W<|zO O<|Y O<|qB O ⟨by omega,by omega⟩<|Y O<|W ?_
    refine ⟨⟨k+1,sv3⟩,⟨by omega,by rw [hp,axesR_next hx c2 c3,qM hx,List.map_append,←List.append_assoc];rfl⟩,(by show l.length-(k+1)<l.length-k;omega),Weak.mk [true] ⟨U,U,U,U,T⟩ (by show _=[E.vec sv3 _ 1 ((sz++(l.take (k+1)).map Ax.Name).map fun s=>[cS s])]++_;rw [qM hx,List.map_append (f:=Ax.Name),←List.append_assoc,List.map_append (f:=fun s=>[cS s]) (l₁:=sz++(l.take k).map Ax.Name)];rfl)⟩
 ·try simp only [sx] at c1
  refine qE<|G O<|Y O<|W<|zJ<|zP O ?_
  rw [hp,wE (by omega)];rfl
theorem zOa (d:Df):
    Pur cfg 111 [vDf d] (vI (foldR d)):=by
 refine zR Tryz.func111 O Tryz.ntmps111 Tryz.results111 O ?_
 intro z hz
 refine G O<|zS O O (qG O O) ?_
 rintro _ _ ⟨b1,rfl,rfl⟩
 refine Y O<|W<|zG<|G O<|zD O zLw<|zH one3 (J 0 O) O<|qW O<|Y O<|rL0 O (fun g1_3=>zF O zLw O) O<|rL1 8 O (fun g1_3=>zK O one3 O (J 0 O) O) O<|rL1 9 O (fun g1_3=>yF O O O) O<|r_or O (fun h=>(lzf h))<|W<|zE O (fun c1=>?_) (fun c1=>?_)
 ·have h1:=(red1 d).1 c1
  refine G O<|Y O<|W<|zJ<|zP O ?_
  rw [foldR,if_pos h1]
 ·have h1:=(red1 d).2 c1
  refine zI<|G O<|zD O zLw<|zH one3 (J 0 O) O<|yG O<|Y O<|rL0 O (fun g3_3=>zF O zLw O) O<|rL1 16 O (fun g3_3=>zK O one3 O (J 0 O) O) O<|rL1 17 O (fun g3_3=>yL O O O) O<|r_or O (fun h=>(lzf h))<|Y O<|W<|zG<|G O<|Y O<|zD O zAc<|zH kQ (J 0 O) O<|zV O D<|yG O<|zX O (det_bneq O un4 O O)<|Y O<|rL0 O (fun g4_6=>zF O zLw O) O<|rL1 27 O (fun g4_6=>zK O one3 O (J 0 O) O) O<|rL1 28 O (fun g4_6=>yL O O O) O<|rL1 29 O (fun g4_6=>zQ O O) O<|rLz [] O q T (fun g4_10=>zF O zAl O) O<|rLz [(31,_)] O q ⟨O,O,T⟩ (fun g4_10=>zK O kQ O (J 0 O) O) O<|rLz [(32,_)] O q ⟨O,O,T⟩ (fun g4_10=>qU O D O) O<|rLz [(33,_)] O q ⟨O,O,T⟩ (fun g4_10=>yL O O O) O<|rL1 30 O (fun g4_6=>wF O O O (fun h=>kE (by assumption) h) O) O<|r_or O (fun h=>(lzf h))<|W<|zE O (fun c2=>?_) (fun c2=>?_)
  ·refine G O<|Y O<|W<|zJ<|zP O ?_
   rw [foldR,if_neg h1,if_pos (red2 c2)]
  ·refine zI<|G O<|Y O<|W<|zJ<|zP O ?_
   rw [foldR,if_neg h1,if_neg (red3 c2)]
theorem ref17_def (p:Pg) (hP:p.Ok) (hz0:p.Sizes.length<=64) (k:Nat) (d:Df) (hd:p.Defs[k]? =some d) (t:List ByteArray) (ht:t.length<=4294967296):
    Pur cfg 58 [vPg p,vI k,vSs t] (vI (defR ⟨p.Sizes,p.Params,p.Defs.take k⟩ d t)):=by
 refine zR Tryz.func58 O Tryz.ntmps58 Tryz.results58 O ?_
 intro z hz
 obtain ⟨hD,hR,hA,hA2,hB⟩:=hP.ds d (zW hd)
 have hlen:=zLc hd
 have hpd:=hP.defs
 have hDR:(d.Dims++d.Red).length=d.Dims.length+d.Red.length:=List.length_append
 have hAx:∀a,a∈d.Dims++d.Red->a.Size.L.length<=5864062014805:=fun a ha=>by rcases List.mem_append.1 ha with h|h;exact hA a h;exact hA2 a h
 have hrows:[]++d.Dims.map Ax.cells++d.Red.map Ax.cells=(d.Dims++d.Red).map Ax.cells:=by simp
 have hax:Pur cfg 110 [.c (.sl 3 ([]++d.Dims.map Ax.cells++d.Red.map Ax.cells)),vSs p.Sizes] (vI (axesR p.Sizes p.Sizes (d.Dims++d.Red))):=by rw [hrows];exact ref17_axes (d.Dims++d.Red) p.Sizes (by omega) hAx (by omega)
 have hP2:(⟨p.Sizes,[],p.Params,p.Defs.take k,[]⟩:Pg).Ok:=⟨hP.sizes,by simp,hP.params,(hP.take k).defs,by simp,fun c hc=>(by cases hc),hP.ps,(hP.take k).ds⟩
 refine G O<|zS O O (qG O O) ?_
 rintro _ _ ⟨b1,rfl,rfl⟩
 refine Y O<|W<|G O<|zD O yZ<|zH wL (J 0 O) O<|Y O<|zZ O el25 (by omega) (getm (by assumption))<|zL wM zY O<|zS O O (qD [none,none,none,none,none,none,some 3,some 3,none,none,none,none,none,none,none,none,none,none,none,some 2,some 4,some 13] O zr63 O) ?_
 rintro _ _ ⟨b2,rfl,rfl⟩
 refine N 0 sz63 O<|W<|zG<|G O<|zD O zGf<|zH one9 (J 0 O) O<|Y O<|qK O ok106 (zGs d.Name t ht) ⟨U,O,U,O,T⟩<|Y O<|W<|G O<|Y O<|yR O<|W<|zE O (fun c1=>?_) (fun c1=>?_)
 ·try simp only [sx] at c1
  refine G O<|Y O<|Y O<|W<|zJ<|zP O ?_
  rw [defR_1 c1]
 ·try simp only [sx] at c1
  refine zI<|zG<|G O<|zD O zLx<|zL yD (J 0 O) O<|qK O ok109 (zQg d.T) ⟨U,O,T⟩<|wD O<|W<|zE O (fun c2=>?_) (fun c2=>?_)
  ·try simp only [sx] at c2
   refine G O<|Y O<|W<|zJ<|zP O ?_
   rw [defR_10 c1 c2]
  ·try simp only [sx] at c2
   refine zI<|zG<|G O<|zD O zAl<|zH kQ (J 0 O) O<|zV O D<|zX O (yF O O O)<|Y O<|rL0 O (fun g7_4=>zF O zAc O) O<|rL1 34 O (fun g7_4=>zK O kQ O (J 0 O) O) O<|rL1 35 O (fun g7_4=>qU O D O) O<|rL1 36 O (fun g7_4=>yF O O O) O<|r_or O (fun h=>(lzf h))<|W<|zE O (fun c3=>?_) (fun c3=>?_)
   ·try simp only [sx] at c3
    refine G O<|Y O<|W<|zJ<|zP O ?_
    rw [defR_11 c1 c2 (by omega)]
   ·try simp only [sx] at c3
    have hX:=defR_ok (n:=⟨p.Sizes,p.Params,p.Defs.take k⟩) c1 c2 (by omega)
    refine zI<|zG<|zG<|wO 9 1 [⟨1,.q []⟩,⟨2,.q [1]⟩,⟨4,.q []⟩,⟨5,.q [1]⟩,⟨7,.q []⟩,⟨8,.q [2]⟩,⟨0,.e 0 []⟩,⟨3,.e 0 []⟩,⟨6,.e 0 []⟩] mixed (by kernel_rfl) (by kernel_rfl) O O O<|qL O<|qL O<|qL O<|qL O<|qL O<|qL O<|qL O<|qL O<|qL O<|zFl<|qT O (by decide) O O (zF O zAl O)<|qT O (by decide) O O (zK O kQ O (J 0 O) O)<|qT O (by decide) O O (zF O zAc O)<|qT O (by decide) O O (zK O kQ O (J 0 O) O)<|qT O (by decide) O O (zF O zCp O)<|qT O (by decide) O O (zK O zBq O (J 0 O) O)<|sq_op O O (by decide) O O (zAq O D zHg O O O O) ?_
    rintro _ _ ⟨sv3,rfl,rfl⟩
    refine ⟨_,O,?_⟩
    refine sq_op O O (by decide) O O (qO 0 O D O O O (by simp only [List.length_append,List.length_take,List.length_map,List.length_cons,List.length_nil];omega) (by simp only [List.length_append,List.length_take,List.length_map,List.length_cons,List.length_nil];omega)) ?_
    rintro _ _ ⟨sv4,rfl,rfl⟩
    refine ⟨_,O,?_⟩
    refine sq_op O O (by decide) O O (qO 0 O D O O O (by simp only [List.length_append,List.length_take,List.length_map,List.length_cons,List.length_nil];omega) (by simp only [List.length_append,List.length_take,List.length_map,List.length_cons,List.length_nil];omega)) ?_
    rintro _ _ ⟨sv5,rfl,rfl⟩
    refine ⟨_,O,?_⟩
    refine zFh O<|zX O (zAv 0 O ok110 O hax O ⟨.inl ⟨O,O⟩,.inr ⟨U,O⟩,T⟩)<|Y O<|W<|G O<|Y O<|yR O<|W<|zE O (fun c4=>?_) (fun c4=>?_)
    ·try simp only [sx] at c4
     refine G O<|Y O<|Y O<|W<|zJ<|zP O ?_
     rw [hX,if_neg c4]
    ·try simp only [sx] at c4
     rw [if_pos c4] at hX
     refine zI<|zG<|G O<|zL wM (J 1 O) O<|qK O ok111 (zOa d) ⟨U,O,T⟩<|Y O<|W<|G O<|Y O<|yR O<|W<|zE O (fun c5=>?_) (fun c5=>?_)
     ·try simp only [sx] at c5
      refine G O<|Y O<|Y O<|W<|zJ<|zP O ?_
      rw [hX,if_neg c5]
     ·try simp only [sx] at c5
      rw [if_pos c5] at hX
      unfold tyErrD at hX
      refine zI<|zG<|wO 19 1 [⟨0,.q []⟩,⟨1,.q [3]⟩,⟨2,.q []⟩,⟨3,.q [3]⟩,⟨4,.q []⟩,⟨5,.q [3]⟩,⟨6,.q []⟩,⟨7,.q []⟩,⟨8,.q []⟩,⟨9,.q [2]⟩,⟨10,.q []⟩,⟨11,.q []⟩,⟨12,.q [2]⟩,⟨13,.q []⟩,⟨14,.q []⟩,⟨15,.q []⟩,⟨16,.q []⟩,⟨17,.e 0 []⟩,⟨18,.e 0 []⟩] mixed (by kernel_rfl) (by kernel_rfl) O O O<|qL O<|qL O<|qL O<|qL O<|qL O<|qL O<|qL O<|qL O<|qL O<|qL O<|qL O<|qL O<|qL O<|qL O<|qL O<|qL O<|qL O<|qL O<|qL O<|zFl<|qT O (by decide) O O (zF O zCp O)<|qT O (by decide) O O (zK O zBq O (J 0 O) O)<|qT O (by decide) O O (zF O zBu O)<|qT O (by decide) O O (zK O zFp O (J 0 O) O)<|qT O (by decide) O O (zF O yZ O)<|qT O (by decide) O O (zK O wL O (J 0 O) O)<|qT O (by decide) O O (zQ O O)<|qT O (by decide) O O (zAd O el25 O O (by omega))<|qT O (by decide) O O (kJ [none,some 3,none,none,some 1] O zr27 pl27 O O)<|qT O (by decide) O O (zT O wM O (J 0 O) O)<|qT O (by decide) O O (qH O ok97 (OwnR.pur (zMg d hD hR)) ⟨U,O,T⟩)<|qT O (by decide) O O (zF O zBx O)<|qT O (by decide) O O (zT O qZ O (J 0 O) O)<|qT O (by decide) O O (qH O ok96 (ref17_TypeOf (⟨p.Sizes,[],p.Params,p.Defs.take k,[]⟩:Pg) (namesD d) d.Body hP2 (by rw [namesD,List.length_append,List.length_map,List.length_map];omega) hB) ⟨U,O,U,O,U,O,T⟩)<|qT O (by decide) O O (yE O O)<|qT O (by decide) O O (kA O O O)<|qT O (by decide) O O (yP O O O)<|sq_op O O (by decide) O O (yB O zr37) ?_
      rintro _ _ ⟨b6,rfl,rfl⟩
      refine ⟨_,O,?_⟩
      refine sq_op0 O O (by decide) O O (kU O sz37 O O O (zHi 0 O O)) ?_
      rintro _ _ ⟨rfl,rfl⟩
      refine ⟨_,O,?_⟩
      refine zFh O<|Y O<|W<|zG<|G O<|Y O<|yR O<|W<|zE O (fun c6=>?_) (fun c6=>?_)
      ·try simp only [sx] at c6
       refine G O<|Y O<|Y O<|W<|zJ<|zP O ?_
       rw [hX,if_neg (show ¬(typeR (⟨p.Sizes,p.Params,p.Defs.take k⟩:En) (namesD d) d.Body).2=0 from c6)];rfl
      ·try simp only [sx] at c6
       rw [if_pos (show (typeR (⟨p.Sizes,p.Params,p.Defs.take k⟩:En) (namesD d) d.Body).2=0 from c6)] at hX
       refine zI<|zG<|G O<|zL yD (J 0 O) O<|zD O zLx<|zL yD (J 2 O) O<|zX O (zBf O fl37 O O O)<|W<|zE O (fun c7=>?_) (fun c7=>?_)
       ·refine G O<|Y O<|W<|zJ<|zP O ?_
        rw [hX,if_neg (show ¬(typeR (⟨p.Sizes,p.Params,p.Defs.take k⟩:En) (namesD d) d.Body).1=d.T from zIr c7)]
       ·refine zI<|G O<|Y O<|W<|zJ<|zP O ?_
        rw [hX,if_pos (show (typeR (⟨p.Sizes,p.Params,p.Defs.take k⟩:En) (namesD d) d.Body).1=d.T from zGq c7)]
theorem ref17_sizes (p:Pg) (hP:p.Ok):
    Pur cfg 55 [vPg p] (vI (sizes0R p)):=by
 refine zR Tryz.func55 O Tryz.ntmps55 Tryz.results55 O ?_
 intro z hz
 have hpz:=hP.sizes
 refine G O<|zS O O (qG O O) ?_
 rintro _ _ ⟨b1,rfl,rfl⟩
 refine Y O<|W<|zG<|G O<|zD O zCp<|zH zBq (J 0 O) O<|zV O r<|zX O (yF O O O)<|Y O<|rL0 O (fun g1_4=>zF O zBu O) O<|rL1 10 O (fun g1_4=>zK O zFp O (J 0 O) O) O<|rL1 11 O (fun g1_4=>qU O el24 O) O<|rL1 12 O (fun g1_4=>yF O O O) O<|r_or O (fun h=>(lzf h))<|Y O<|rL0 O (fun g1_10=>zF O yZ O) O<|rL1 16 O (fun g1_10=>zK O wL O (J 0 O) O) O<|rL1 17 O (fun g1_10=>qU O el25 O) O<|rL1 18 O (fun g1_10=>yF O O O) O<|r_or O (fun h=>(lzf h))<|Y O<|rL0 O (fun g1_16=>zF O zGg O) O<|rL1 22 O (fun g1_16=>zK O zBq O (J 0 O) O) O<|rL1 23 O (fun g1_16=>qU O r O) O<|rL1 24 O (fun g1_16=>yF O O O) O<|r_or O (fun h=>(lzf h))<|Y O<|rL0 O (fun g1_22=>zF O zJl O) O<|rL1 28 O (fun g1_22=>zK O one23 O (J 0 O) O) O<|rL1 29 O (fun g1_22=>qU O el23 O) O<|rL1 30 O (fun g1_22=>yF O O O) O<|r_or O (fun h=>(lzf h))<|W<|zE O (fun c1=>?_) (fun c1=>?_)
 ·have hl:¬limitOk p:=lim_no c1
  refine G O<|Y O<|W<|zJ<|zP O ?_
  rw [sizes0R,if_neg hl]
 ·have hl:limitOk p:=lim_yes c1
  have hz:sizes0R p=sizesR [] p.Sizes:=by unfold sizes0R;rw [if_pos hl]
  refine zI<|zG<|G O<|Y O<|W<|zN<|zU ⟨[(3,.c _),(1,.c _)],[_]⟩ (Weak.mk [true] ⟨U,U,T⟩ O)<|qA 1 0 O O (Nat) (fun k=>[(3,vI k)]) (fun k=>[]) (fun k=>k<=p.Sizes.length/\(sizesR [] p.Sizes=sizesR (p.Sizes.take k) (p.Sizes.drop k))) (fun k=>p.Sizes.length-k) ⟨0,⟨by omega,O⟩,Weak.mk [true] ⟨U,U,T⟩ O⟩ ?_
  rintro k ⟨hk,hp⟩
  refine zG<|G O<|Y O<|zD O zCp<|zH zBq (J 0 O) O<|zV O r<|qW O<|W<|zE O (fun c2=>?_) (fun c2=>?_)
  ·try simp only [sx] at c2
   obtain ⟨x,hx⟩:=qP p.Sizes k (by omega)
   refine zI<|zG<|zN<|zG<|qY 11 mixed (by kernel_rfl) O O<|zM O O (zF O zCp O)<|zM O O (zK O zBq O (J 0 O) O)<|zM O O (zQ O O)<|zM O O (qJ O r O O (by omega) (getm (by assumption)))<|zM O O (zK O one9 O zY O)<|zM O O (zF O zCp O)<|zM O O (zK O zBq O (J 0 O) O)<|zM O O (zQ O O)<|zM O O (zAd O r O O (by omega))<|zM O O (qH O ok106 (zGs x (p.Sizes.take k) (by rw [List.length_take];omega)) ⟨U,O,U,O,T⟩)<|zM O O (yV O O)<|yT<|W<|G O<|Y O<|yR O<|W<|zE O (fun c3=>?_) (fun c3=>?_)
   ·try simp only [sx] at c3
    refine G O<|Y O<|Y O<|W<|zJ<|zP O ?_
    rw [hz,hp,sizesR_no hx c3]
   ·try simp only [sx] at c3
    refine zI<|zO O<|Y O<|qB O ⟨by omega,by omega⟩<|Y O<|W ?_
    refine ⟨k+1,⟨by omega,hp.trans (sizesR_next hx c3)⟩,(by omega),Weak.mk [true] ⟨U,U,T⟩ O⟩
  ·try simp only [sx] at c2
   refine qE<|G O<|Y O<|W<|zJ<|zP O ?_
   rw [hz,hp,wE (by omega)];rfl
theorem ref17_Validate (p:Pg) (hP:p.Ok):
    Pur cfg 20 [vPg p] (.tup [vI (validR p).1,vI (validR p).2]):=by
 refine zR Tryz.func20 O Tryz.ntmps20 Tryz.results20 O ?_
 intro z hz
 have hps:=hP.sizes
 have hpw:=hP.wh
 have hpp:=hP.params
 have hpd:=hP.defs
 have hpo:=hP.outs
 refine G O<|zS O O (qG O O) ?_
 rintro _ _ ⟨b1,rfl,rfl⟩
 refine Y O<|Y O<|W<|zG<|G O<|zL wC (J 0 O) O<|qK O ok55 (ref17_sizes p hP) ⟨U,O,T⟩<|Y O<|W<|G O<|Y O<|yR O<|W<|zE O (fun c1=>?_) (fun c1=>?_)
 ·try simp only [sx] at c1
  refine G O<|Y O<|Y O<|Y O<|W<|zJ<|fin2 (v O) (v O) ?_
  rw [validR_s c1]
 ·try simp only [sx] at c1
  have hlm:limitOk p:=(zKi c1).1
  have hlp:p.Params.length<=64:=hlm.2.1
  have hld:p.Defs.length<=64:=hlm.2.2.1
  have hlz:p.Sizes.length<=64:=hlm.1
  refine zI<|zG<|G O<|Y O<|W<|zN<|zU ⟨[(5,.c _),(1,.c _)],[_]⟩ (Weak.mk [true] ⟨U,U,T⟩ O)<|qA 1 0 O O (Nat) (fun k=>[(5,vI k)]) (fun k=>[]) (fun k=>k<=p.Where.length/\(whereR p.Sizes p.Where=whereR p.Sizes (p.Where.drop k))) (fun k=>p.Where.length-k) ⟨0,⟨by omega,O⟩,Weak.mk [true] ⟨U,U,T⟩ O⟩ ?_
  rintro k ⟨hk,hp⟩
  refine zG<|G O<|Y O<|zD O zJl<|zH one23 (J 0 O) O<|zV O el23<|qW O<|W<|zE O (fun c2=>?_) (fun c2=>?_)
  ·try simp only [sx] at c2
   obtain ⟨x,hx⟩:=qP p.Where k (by omega)
   refine zI<|zG<|zN<|zG<|qY 10 mixed (by kernel_rfl) O O<|zM O O (zF O zJl O)<|zM O O (zK O one23 O (J 0 O) O)<|zM O O (zQ O O)<|zM O O (qJ O el23 O O (by omega) (getm (by assumption)))<|zM O O (qQ O fd101_0 O)<|zM O O (zT O kF O zY O)<|zM O O (zF O zCp O)<|zM O O (zK O zBq O (J 0 O) O)<|zM O O (qH O ok56 (zKl x.Lin p.Sizes (hP.whs x (zW hx)) (by omega)) ⟨U,O,U,O,T⟩)<|zM O O (yV O O)<|yT<|W<|G O<|Y O<|yR O<|W<|zE O (fun c3=>?_) (fun c3=>?_)
   ·try simp only [sx] at c3
    refine G O<|Y O<|Y O<|Y O<|W<|zJ<|fin2 (v O) (v O) ?_
    rw [validR_w c1 (by rw [hp,whereR_no hx c3];exact c3),hp,whereR_no hx c3]
   ·try simp only [sx] at c3
    refine zI<|zO O<|Y O<|qB O ⟨by omega,by omega⟩<|Y O<|W ?_
    refine ⟨k+1,⟨by omega,hp.trans (whereR_next hx c3)⟩,(by omega),Weak.mk [true] ⟨U,U,T⟩ O⟩
  ·try simp only [sx] at c2
   rw [wE (l:=p.Where) (k:=k) (by omega)] at hp
   have hV:=validR_p c1 hp
   refine qE<|G O<|zS O O (zAq O r zr9 O O O O) ?_
   rintro _ _ ⟨sv2,rfl,rfl⟩
   refine zD O zCp<|zH zBq (J 1 O) O<|zS O O (qO 0 O r O O O (by simp only [List.length_append,List.length_take,List.length_map,List.length_cons,List.length_nil];omega) (by simp only [List.length_append,List.length_take,List.length_map,List.length_cons,List.length_nil];omega)) ?_
   rintro _ _ ⟨sv3,rfl,rfl⟩
   refine Y O<|W<|G O<|Y O<|W<|zG<|G O<|Y O<|W<|zN<|zU ⟨[(9,.c _),(7,.c _),(8,.c _),(1,.c _)],[_,_]⟩ (Weak.mk [true,true] ⟨U,U,U,U,T⟩ O)<|qA 3 1 O O (Nat×Value) (fun ⟨k,sv⟩=>[(9,vI k),(7,.c (.lit sv)),(8,vI (2+(k:Int)))]) (fun ⟨k,sv⟩=>[E.vec sv 9 1 ((p.Sizes++(p.Params.take k).map Pm.Name).map fun s=>[cS s])]) (fun ⟨k,sv⟩=>k<=p.Params.length/\(validR p=paramsR p (2+(k:Int)) (p.Sizes++(p.Params.take k).map Pm.Name) (p.Params.drop k))) (fun ⟨k,sv⟩=>p.Params.length-k) ⟨⟨0,_⟩,⟨by omega,by rw [hV];simp⟩,Weak.mk [true,true] ⟨U,U,U,U,T⟩ (by show _=[E.vec _ _ 1 ((p.Sizes++[]).map fun s=>[cS s])]++_;rw [List.append_nil p.Sizes];rfl)⟩ ?_
   rintro ⟨k,sv⟩ ⟨hk,hp⟩
   show AWP _ _ _ _ _ ⟨[(9,vI k),(7,.c (.lit sv)),(8,vI (2+(k:Int)))]++_,[E.vec sv 9 1 ((p.Sizes++(p.Params.take k).map Pm.Name).map fun s=>[cS s])]++_⟩
   refine zG<|G O<|Y O<|zD O zBu<|zH zFp (J 1 O) O<|zV O el24<|qW O<|W<|zE O (fun c4=>?_) (fun c4=>?_)
   ·try simp only [sx] at c4
    obtain ⟨x,hx⟩:=qP p.Params k (by omega)
    refine zI<|zG<|zN<|zG<|zG<|qY 8 mixed (by kernel_rfl) O O<|zM O O (zF O zBu O)<|zM O O (zK O zFp O (J 1 O) O)<|zM O O (zQ O O)<|zM O O (qJ O el24 O O (by omega) (getm (by assumption)))<|zM O O (zT O agg67 O zY O)<|zM O O (zF O zCp O)<|zM O O (zK O zBq O (J 1 O) O)<|zM O O (zQ O O)<|yT<|zX O (zAv 0 O ok57 O (ref17_param x p.Sizes (p.Sizes++(p.Params.take k).map Pm.Name) (hP.ps x (zW hx)).1 (hP.ps x (zW hx)).2 (by omega) (by simp only [List.length_append,List.length_take,List.length_map,List.length_cons,List.length_nil];omega)) O ⟨.inr ⟨U,O⟩,.inr ⟨U,O⟩,.inl ⟨O,O⟩,T⟩)<|Y O<|W<|G O<|Y O<|yR O<|W<|zE O (fun c5=>?_) (fun c5=>?_)
    ·try simp only [sx] at c5
     refine G O<|Y O<|Y O<|Y O<|Y O<|W<|zJ<|fin2 (v O) (v O) ?_
     rw [hp,paramsR_no hx c5]
    ·try simp only [sx] at c5
     refine zI<|G O<|Y O<|zD O zBu<|zH zFp (J 1 O) O<|Y O<|zZ O el24 (by omega) (getm (by assumption))<|qN O fd67_0<|zH one9 zY O<|qX O r zr9<|zS O O (qO 0 O r O O O (by simp only [List.length_append,List.length_take,List.length_map,List.length_cons,List.length_nil];omega) (by simp only [List.length_append,List.length_take,List.length_map,List.length_cons,List.length_nil];omega)) ?_
     rintro _ _ ⟨sv4,rfl,rfl⟩
     refine Y O<|W<|zO O<|Y O<|qB O ⟨by omega,by omega⟩<|Y O<|W<|zO O<|Y O<|qB O ⟨by omega,by omega⟩<|Y O<|W ?_
     refine ⟨⟨k+1,sv4⟩,⟨by omega,by rw [hp,paramsR_next hx c5,qM hx,List.map_append,←List.append_assoc];congr 1<;>first|omega|rfl⟩,(by show p.Params.length-(k+1)<p.Params.length-k;omega),Weak.mk [true,true] ⟨U,U,VLe.of_eq (congrArg vI (by omega)),U,T⟩ (by show _=[E.vec sv4 _ 1 ((p.Sizes++(p.Params.take (k+1)).map Pm.Name).map fun s=>[cS s])]++_;rw [qM hx,List.map_append (f:=Pm.Name),←List.append_assoc,List.map_append (f:=fun s=>[cS s]) (l₁:=p.Sizes++(p.Params.take k).map Pm.Name)];rfl)⟩
   ·try simp only [sx] at c4
    rw [qS (l:=p.Params) (k:=k) (by omega)]
    rw [wE (l:=p.Params) (k:=k) (by omega),qS (l:=p.Params) (k:=k) (by omega),paramsR] at hp
    refine qE<|zG<|G O<|Y O<|W<|zN<|zU ⟨[(11,.c _),(7,.c _),(8,.c _),(1,.c _)],[_,_]⟩ (Weak.mk [true,true] ⟨U,U,U,U,T⟩ O) ?_
    refine qA 3 1 O O (Nat×Value) (fun ⟨k,sv⟩=>[(11,vI k),(7,.c (.lit sv)),(8,vI (2+(p.Params.length:Int)+(k:Int)))]) (fun ⟨k,sv⟩=>[E.vec sv 9 1 ((p.Sizes++p.Params.map Pm.Name++(p.Defs.take k).map Df.Name).map fun s=>[cS s])]) (fun ⟨k,sv⟩=>k<=p.Defs.length/\(validR p=defsR p (2+(p.Params.length:Int)+(k:Int)) (p.Sizes++p.Params.map Pm.Name++(p.Defs.take k).map Df.Name) (p.Defs.take k) (p.Defs.drop k))) (fun ⟨k,sv⟩=>p.Defs.length-k) ⟨⟨0,sv⟩,⟨by omega,by rw [hp];simp only [List.take_zero,List.map_nil,List.append_nil,List.drop_zero];congr 1<;>omega⟩,Weak.mk [true,true] ⟨U,U,VLe.of_eq (congrArg vI (by omega)),U,T⟩ (by show _=[E.vec _ _ 1 ((p.Sizes++p.Params.map Pm.Name++[]).map fun s=>[cS s])]++_;rw [List.append_nil (p.Sizes++p.Params.map Pm.Name)];rfl)⟩ ?_
    rintro ⟨k,sv⟩ ⟨hk,hq⟩
    show AWP _ _ _ _ _ ⟨[(11,vI k),(7,.c (.lit sv)),(8,vI (2+(p.Params.length:Int)+(k:Int)))]++_,[E.vec sv 9 1 ((p.Sizes++p.Params.map Pm.Name++(p.Defs.take k).map Df.Name).map fun s=>[cS s])]++_⟩
    refine zG<|G O<|Y O<|zD O yZ<|zH wL (J 1 O) O<|zV O el25<|qW O<|W<|zE O (fun c6=>?_) (fun c6=>?_)
    ·try simp only [sx] at c6
     obtain ⟨x,hx⟩:=qP p.Defs k (by omega)
     refine zI<|zG<|zN<|zG<|G O<|zL wC (J 1 O) O<|Y O<|Y O<|zX O (zAv 0 O ok58 O (ref17_def p hP hlm.1 k x hx (p.Sizes++p.Params.map Pm.Name++(p.Defs.take k).map Df.Name) (by simp only [List.length_append,List.length_take,List.length_map,List.length_cons,List.length_nil];omega)) O ⟨.inr ⟨U,O⟩,.inr ⟨U,O⟩,.inl ⟨O,O⟩,T⟩)<|Y O<|W<|G O<|Y O<|yR O<|W<|zE O (fun c7=>?_) (fun c7=>?_)
     ·try simp only [sx] at c7
      refine G O<|Y O<|Y O<|Y O<|Y O<|W<|zJ<|fin2 (v O) (v O) ?_
      rw [hq,defsR_no hx c7]
     ·try simp only [sx] at c7
      refine zI<|G O<|Y O<|zD O yZ<|zH wL (J 1 O) O<|Y O<|zZ O el25 (by omega) (getm (by assumption))<|qN O zGf<|zH one9 zY O<|qX O r zr9<|zS O O (qO 0 O r O O O (by simp only [List.length_append,List.length_take,List.length_map,List.length_cons,List.length_nil];omega) (by simp only [List.length_append,List.length_take,List.length_map,List.length_cons,List.length_nil];omega)) ?_
      rintro _ _ ⟨sv5,rfl,rfl⟩
      refine Y O<|W<|zO O<|Y O<|qB O ⟨by omega,by omega⟩<|Y O<|W<|zO O<|Y O<|qB O ⟨by omega,by omega⟩<|Y O<|W ?_
      refine ⟨⟨k+1,sv5⟩,⟨by omega,by rw [hq,defsR_next hx c7,qM hx,List.map_append,←List.append_assoc];congr 1<;>first|omega|rfl⟩,(by show p.Defs.length-(k+1)<p.Defs.length-k;omega),Weak.mk [true,true] ⟨U,U,VLe.of_eq (congrArg vI (by omega)),U,T⟩ (by show _=[E.vec sv5 _ 1 ((p.Sizes++p.Params.map Pm.Name++(p.Defs.take (k+1)).map Df.Name).map fun s=>[cS s])]++_;rw [qM hx,List.map_append (f:=Df.Name),←List.append_assoc,List.map_append (f:=fun s=>[cS s]) (l₁:=p.Sizes++p.Params.map Pm.Name++(p.Defs.take k).map Df.Name)];rfl)⟩
    ·try simp only [sx] at c6
     rw [wE (l:=p.Defs) (k:=k) (by omega),qS (l:=p.Defs) (k:=k) (by omega),defsR] at hq
     refine qE<|zG<|G O<|Y O<|W<|zN<|zU ⟨[(13,.c _),(8,.c _),(1,.c _)],[_]⟩ (Weak.mk [false,true] ⟨U,U,U,T⟩ O) ?_
     refine qA 2 0 O O (Nat) (fun k=>[(13,vI k),(8,vI (2+(p.Params.length:Int)+(p.Defs.length:Int)+(k:Int)))]) (fun k=>[]) (fun k=>k<=p.Outs.length/\(validR p=outsR p.en (2+(p.Params.length:Int)+(p.Defs.length:Int)+(k:Int)) (p.Outs.take k) (p.Outs.drop k))) (fun k=>p.Outs.length-k) ⟨0,⟨by omega,by rw [hq];congr 1;omega⟩,Weak.mk [true] ⟨U,VLe.of_eq (congrArg vI (by omega)),U,T⟩ O⟩ ?_
     rintro k ⟨hk,ho⟩
     refine zG<|G O<|Y O<|zD O zGg<|zH zBq (J 0 O) O<|zV O r<|qW O<|W<|zE O (fun c8=>?_) (fun c8=>?_)
     ·try simp only [sx] at c8
      obtain ⟨x,hx⟩:=qP p.Outs k (by omega)
      refine zI<|zG<|zN<|zG<|zG<|wO 14 1 [⟨0,.q [1]⟩,⟨1,.q []⟩,⟨2,.q [1]⟩,⟨3,.q []⟩,⟨4,.q []⟩,⟨5,.q []⟩,⟨6,.q []⟩,⟨7,.q []⟩,⟨8,.q []⟩,⟨9,.q []⟩,⟨10,.q []⟩,⟨11,.e 0 []⟩,⟨12,.e 0 []⟩,⟨13,.q []⟩] mixed (by kernel_rfl) (by kernel_rfl) O O O<|qL O<|qL O<|qL O<|qL O<|qL O<|qL O<|qL O<|qL O<|qL O<|qL O<|qL O<|qL O<|qL O<|qL O<|zFl<|qT O (by decide) O O (zT O wC O (J 0 O) O)<|qT O (by decide) O O (zF O zGg O)<|qT O (by decide) O O (zK O zBq O (J 0 O) O)<|qT O (by decide) O O (zQ O O)<|qT O (by decide) O O (qJ O r O O (by omega) (getm (by assumption)))<|qT O (by decide) O O (zK O one9 O zY O)<|qT O (by decide) O O (qH O ok59 (zKm p x hP) ⟨U,O,U,O,T⟩)<|qT O (by decide) O O (yE O O)<|qT O (by decide) O O (kA O O O)<|qT O (by decide) O O (yP O O O)<|qT O (by decide) O O (yP O O O)<|sq_op O O (by decide) O O (yB O zr37) ?_
      rintro _ _ ⟨b6,rfl,rfl⟩
      refine ⟨_,O,?_⟩
      refine sq_op0 O O (by decide) O O (kU O sz37 O O O (zHi 0 O O)) ?_
      rintro _ _ ⟨rfl,rfl⟩
      refine ⟨_,O,?_⟩
      refine qT O (by decide) O O (yV O O)<|zFh O<|Y O<|W<|G O<|Y O<|wD O<|W<|zE O (fun c9=>?_) (fun c9=>?_)
      ·try simp only [sx] at c9
       refine G O<|Y O<|Y O<|Y O<|W<|zJ<|fin2 (v O) (v O) ?_
       rw [ho,outsR_9 hx c9]
      ·try simp only [sx] at c9
       refine zI<|zG<|zG<|qY 10 mixed (by kernel_rfl) O O<|zM O O (zF O zGg O)<|zM O O (zK O zBq O (J 1 O) O)<|zM O O (zQ O O)<|zM O O (zAd O r O O (by omega))<|zM O O (zF O zGg O)<|zM O O (zK O zBq O (J 1 O) O)<|zM O O (zQ O O)<|zM O O (qJ O r O O (by omega) (getm (by assumption)))<|zM O O (zK O one9 O zY O)<|zM O O (qH O ok21 (zFg (p.Outs.take k) x (by rw [List.length_take];omega)) ⟨U,O,U,O,T⟩)<|yT<|W<|zE O (fun c10=>?_) (fun c10=>?_)
       ·try simp only [sx] at c10
        refine G O<|Y O<|Y O<|Y O<|W<|zJ<|fin2 (v O) (v O) ?_
        rw [ho,outsR_8 hx c9 c10]
       ·try simp only [sx] at c10
        refine zI<|zO O<|Y O<|qB O ⟨by omega,by omega⟩<|Y O<|W<|zO O<|Y O<|qB O ⟨by omega,by omega⟩<|Y O<|W ?_
        refine ⟨k+1,⟨by omega,by rw [ho,outsR_next hx c9 (by simpa using c10)];congr 1<;>omega⟩,(by omega),Weak.mk [false,true] ⟨U,VLe.of_eq (congrArg vI (by omega)),U,T⟩ O⟩
     ·try simp only [sx] at c8
      refine qE<|G O<|Y O<|Y O<|W<|zJ<|fin2 (v O) (v O) ?_
      rw [ho,wE (by omega)];rfl
end Go.W
