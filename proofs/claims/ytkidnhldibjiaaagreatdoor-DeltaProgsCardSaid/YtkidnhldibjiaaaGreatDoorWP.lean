/-
  What functions compute.
  Conditions: none.
-/
import Derived.Test.YtkidnhldibjiaaaGreatDoorWO
set_option linter.unusedSimpArgs false
set_option linter.unusedVariables false
set_option maxRecDepth 10000
namespace Go.W
open Go Go.Eng Go.Proofs Go.L41 Go.Br
attribute [local irreducible] AWP RWP TD fL
theorem ok55:bA Tryz.prog 55=true:=by kernel_rfl
theorem ok56:bA Tryz.prog 56=true:=by kernel_rfl
theorem ok57:bA Tryz.prog 57=true:=by kernel_rfl
theorem ok58:bA Tryz.prog 58=true:=by kernel_rfl
theorem ok96:bA Tryz.prog 96=true:=by kernel_rfl
theorem ok97:bA Tryz.prog 97=true:=by kernel_rfl
theorem ok106:bA Tryz.prog 106=true:=by kernel_rfl
theorem ok110:bA Tryz.prog 110=true:=by kernel_rfl
theorem ok111:bA Tryz.prog 111=true:=by kernel_rfl
theorem pl27:fR Tryz.prog 27=some [(0,1),(1,1),(2,1),(3,1),(4,1)]:=by kernel_rfl
theorem zMr (l:Lf) (sz:List ByteArray) (hl:l.L.length<=5864062014805) (hz0:sz.length<=4294967296):
    Pur cfg 56 [dK l,vSs sz] (vI (fU l sz)):=by
 refine zW Tryz.func56 O Tryz.ntmps56 Tryz.results56 O ?_
 intro z hz
 refine Y O<|zY O O (qN O O) ?_
 rintro _ _ ⟨b1,rfl,rfl⟩
 refine G O<|W<|zM<|Y O<|zP yB (J 0 O) O<|qQ O ok107 (zBo l (by omega)) ⟨U,O,T⟩<|wE O<|W<|zH O (fun c1=>?_) (fun c1=>?_)
 ·try simp only [sx] at c1
  refine Y O<|G O<|W<|zO<|zV O ?_
  rw [formR_1 c1]
 ·try simp only [sx] at c1
  refine zN<|zM<|Y O<|zP yB (J 0 O) O<|G O<|qQ O ok108 (zJu l [] sz hl (by simp) hz0) ⟨U,O,VLe.nil,O,U,O,T⟩<|wE O<|W<|zH O (fun c2=>?_) (fun c2=>?_)
  ·try simp only [sx] at c2
   refine Y O<|G O<|W<|zO<|zV O ?_
   rw [formR_9 c1 c2]
  ·try simp only [sx] at c2
   refine zN<|Y O<|G O<|W<|zO<|zV O ?_
   rw [formR_0 c1 c2]
theorem zIj (s:ByteArray) (t:List ByteArray) (ht:t.length<=4294967296):
    Pur cfg 106 [vS s,vSs t] (vI (dH s t)):=by
 refine zW Tryz.func106 O Tryz.ntmps106 Tryz.results106 O ?_
 intro z hz
 refine Y O<|G O<|W<|zM<|Y O<|G O<|qQ O ok137 (zEw s) ⟨U,O,T⟩<|wE O<|W<|zH O (fun c1=>?_) (fun c1=>?_)
 ·try simp only [sx] at c1
  refine Y O<|G O<|W<|zO<|zV O ?_
  rw [nameR_7 c1]
 ·try simp only [sx] at c1
  refine zN<|zM<|Y O<|G O<|G O<|qQ O ok21 (zMc t s (by omega)) ⟨U,O,U,O,T⟩<|W<|zH O (fun c2=>?_) (fun c2=>?_)
  ·try simp only [sx] at c2
   refine Y O<|G O<|W<|zO<|zV O ?_
   rw [nameR_8 c1 c2]
  ·try simp only [sx] at c2
   refine zN<|Y O<|G O<|W<|zO<|zV O ?_
   rw [nameR_0 c1 (by simpa using c2)]
theorem ref17_param (x:Pm) (sz t:List ByteArray) (hl0:x.Dims.length<=4294967296) (hx0:∀l,l∈x.Dims->l.L.length<=5864062014805) (hz0:sz.length<=4294967296) (ht:t.length<=4294967296):
    Pur cfg 57 [vPm x,vSs sz,vSs t] (vI (gL x sz t)):=by
 refine zW Tryz.func57 O Tryz.ntmps57 Tryz.results57 O ?_
 intro z hz
 refine Y O<|zY O O (qN O O) ?_
 rintro _ _ ⟨b1,rfl,rfl⟩
 refine G O<|W<|zM<|Y O<|zF O zRz<|zK one9 (J 0 O) O<|G O<|qQ O ok106 (zIj x.Name t ht) ⟨U,O,U,O,T⟩<|G O<|W<|Y O<|G O<|yW O<|W<|zH O (fun c1=>?_) (fun c1=>?_)
 ·try simp only [sx] at c1
  refine Y O<|G O<|G O<|W<|zO<|zV O ?_
  rw [paramR_1 c1]
 ·try simp only [sx] at c1
  refine zN<|zM<|Y O<|zF O fd67_1<|zP yO (J 0 O) O<|qQ O ok109 (zMb x.T) ⟨U,O,T⟩<|wE O<|W<|zH O (fun c2=>?_) (fun c2=>?_)
  ·try simp only [sx] at c2
   refine Y O<|G O<|W<|zO<|zV O ?_
   rw [paramR_10 c1 c2]
  ·try simp only [sx] at c2
   refine zN<|zM<|Y O<|zF O zCj<|zK zAp (J 0 O) O<|qB O el65<|qA O (yL O O O)<|W<|zH O (fun c3=>?_) (fun c3=>?_)
   ·try simp only [sx] at c3
    refine Y O<|G O<|W<|zO<|zV O ?_
    rw [paramR_11 c1 c2 (by omega)]
   ·try simp only [sx] at c3
    refine zN<|zM<|Y O<|G O<|W<|zR<|qC ⟨[(8,.c _),(1,.c _),(3,.c _)],[_]⟩ (Weak.mk [true] ⟨U,U,U,T⟩ O)<|qG 1 0 O O (Nat) (fun k=>[(8,vI k)]) (fun k=>[]) (fun k=>k<=x.Dims.length/\(lI sz x.Dims=lI sz (x.Dims.drop k))) (fun k=>x.Dims.length-k) ⟨0,⟨by omega,O⟩,Weak.mk [true] ⟨U,U,U,T⟩ O⟩ ?_
    rintro k ⟨hk,hp⟩
    refine zM<|Y O<|G O<|zF O zCj<|zK zAp (J 0 O) O<|qB O el65<|yI O<|W<|zH O (fun c4=>?_) (fun c4=>?_)
    ·try simp only [sx] at c4
     obtain ⟨y,hy⟩:=qU x.Dims k (by omega)
     refine zN<|zM<|zR<|Y O<|zF O zCj<|zK zAp (J 0 O) O<|G O<|qJ O el65 (by omega) (getm (by assumption))<|zP yB qE O<|G O<|qQ O ok56 (zMr y sz (hx0 y (zX hy)) hz0) ⟨U,O,U,O,T⟩<|G O<|W<|Y O<|G O<|yW O<|W<|zH O (fun c5=>?_) (fun c5=>?_)
     ·try simp only [sx] at c5
      refine Y O<|G O<|G O<|W<|zO<|zV O ?_
      rw [paramR_f c1 c2 (by omega),hp,formsR_no hy c5]
     ·try simp only [sx] at c5
      refine zN<|zT O<|G O<|qK O ⟨by omega,by omega⟩<|G O<|W ?_
      refine ⟨k+1,⟨by omega,hp.trans (formsR_next hy c5)⟩,(by omega),Weak.mk [true] ⟨U,U,U,T⟩ O⟩
    ·try simp only [sx] at c4
     refine qO<|Y O<|G O<|W<|zO<|zV O ?_
     rw [paramR_f c1 c2 (by omega),hp,wV (by omega)];rfl
theorem ref17_axes (l:List Ax) (sz:List ByteArray) (hl0:l.length<=2147483648) (hx0:∀a,a∈l->a.Size.L.length<=5864062014805) (hz0:sz.length<=4194304):
    Pur cfg 110 [.c (.sl 3 (l.map Ax.cells)),vSs sz] (vI (gI sz sz l)):=by
 refine zW Tryz.func110 O Tryz.ntmps110 Tryz.results110 O ?_
 intro z hz
 refine Y O<|G O<|W<|Y O<|zY O O (zAa O el22 zr9 O O O O) ?_
 rintro _ _ ⟨sv1,rfl,rfl⟩
 refine G O<|zY O O (qV 0 O el22 O O O (by simp only [List.length_append,List.length_take,List.length_map,List.length_cons,List.length_nil];omega) (by simp only [List.length_append,List.length_take,List.length_map,List.length_cons,List.length_nil];omega)) ?_
 rintro _ _ ⟨sv2,rfl,rfl⟩
 refine G O<|W<|zM<|Y O<|G O<|W<|zR<|qC ⟨[(6,.c _),(5,.c _),(0,.c _),(1,.c _)],[_]⟩ (Weak.mk [true] ⟨U,U,U,U,T⟩ O)<|qG 2 1 O O (Nat×Value) (fun ⟨k,sv⟩=>[(6,vI k),(5,.c (.lit sv))]) (fun ⟨k,sv⟩=>[E.vec sv 9 1 ((sz++(l.take k).map Ax.Name).map fun s=>[cS s])]) (fun ⟨k,sv⟩=>k<=l.length/\(gI sz sz l=gI sz (sz++(l.take k).map Ax.Name) (l.drop k))) (fun ⟨k,sv⟩=>l.length-k) ⟨⟨0,_⟩,⟨by omega,by simp⟩,Weak.mk [true] ⟨U,U,U,U,T⟩ (by show _=[E.vec _ _ 1 ((sz++[]).map fun s=>[cS s])]++_;rw [List.append_nil sz];rfl)⟩ ?_
 rintro ⟨k,sv⟩ ⟨hk,hp⟩
 show AWP _ _ _ _ _ ⟨[(6,vI k),(5,.c (.lit sv))]++_,[E.vec sv 9 1 ((sz++(l.take k).map Ax.Name).map fun s=>[cS s])]++_⟩
 refine zM<|Y O<|G O<|G O<|qB O N<|yI O<|W<|zH O (fun c1=>?_) (fun c1=>?_)
 ·try simp only [sx] at c1
  obtain ⟨x,hx⟩:=qU l k (by omega)
  refine zN<|zM<|zR<|zM<|Y O<|G O<|G O<|qJ O N (by omega) (getm (by assumption))<|qS O zAm<|zK one9 qE O<|G O<|qA O (zEg 0 O ok106 O (zIj x.Name (sz++(l.take k).map Ax.Name) (by simp only [List.length_append,List.length_take,List.length_map,List.length_cons,List.length_nil];omega)) O ⟨.inr ⟨U,O⟩,.inl ⟨O,O⟩,T⟩)<|G O<|W<|Y O<|G O<|yW O<|W<|zH O (fun c2=>?_) (fun c2=>?_)
  ·try simp only [sx] at c2
   refine Y O<|G O<|G O<|W<|zO<|zV O ?_
   rw [hp,axesR_n hx c2]
  ·try simp only [sx] at c2
   refine zN<|zM<|Y O<|G O<|G O<|qJ O N (by omega) (getm (by assumption))<|qS O zEu<|zP yB qE O<|G O<|qQ O ok56 (zMr x.Size sz (hx0 x (zX hx)) (by omega)) ⟨U,O,U,O,T⟩<|G O<|W<|Y O<|G O<|yW O<|W<|zH O (fun c3=>?_) (fun c3=>?_)
   ·try simp only [sx] at c3
    refine Y O<|G O<|G O<|W<|zO<|zV O ?_
    rw [hp,axesR_f hx c2 c3]
   ·try simp only [sx] at c3
    refine zN<|zT O<|G O<|G O<|G O<|qJ O N (by omega) (getm (by assumption))<|qS O zAm<|zK one9 qE O<|yV O el22 zr9<|zY O O (qV 0 O el22 O O O (by simp only [List.length_append,List.length_take,List.length_map,List.length_cons,List.length_nil];omega) (by simp only [List.length_append,List.length_take,List.length_map,List.length_cons,List.length_nil];omega)) ?_
    rintro _ _ ⟨sv3,rfl,rfl⟩
    refine G O<|W<|zT O<|G O<|qK O ⟨by omega,by omega⟩<|G O<|W ?_
    refine ⟨⟨k+1,sv3⟩,⟨by omega,by rw [hp,axesR_next hx c2 c3,qT hx,List.map_append,←List.append_assoc];rfl⟩,(by show l.length-(k+1)<l.length-k;omega),Weak.mk [true] ⟨U,U,U,U,T⟩ (by show _=[E.vec sv3 _ 1 ((sz++(l.take (k+1)).map Ax.Name).map fun s=>[cS s])]++_;rw [qT hx,List.map_append (f:=Ax.Name),←List.append_assoc,List.map_append (f:=fun s=>[cS s]) (l₁:=sz++(l.take k).map Ax.Name)];rfl)⟩
 ·try simp only [sx] at c1
  refine qO<|Y O<|G O<|W<|zO<|zV O ?_
  rw [hp,wV (by omega)];rfl
theorem zQp (d:Df):
    Pur cfg 111 [vDf d] (vI (lZ d)):=by
 refine zW Tryz.func111 O Tryz.ntmps111 Tryz.results111 O ?_
 intro z hz
 refine Y O<|zY O O (qN O O) ?_
 rintro _ _ ⟨b1,rfl,rfl⟩
 refine G O<|W<|zM<|Y O<|zF O zGg<|zK one3 (J 0 O) O<|yI O<|G O<|rL0 O (fun g1_3=>zE O zGg O) O<|rL1 8 O (fun g1_3=>zJ O one3 O (J 0 O) O) O<|rL1 9 O (fun g1_3=>yL O O O) O<|r_or O (fun h=>(lzf h))<|W<|zH O (fun c1=>?_) (fun c1=>?_)
 ·have h1:=(red1 d).1 c1
  refine Y O<|G O<|W<|zO<|zV O ?_
  rw [lZ,if_pos h1]
 ·have h1:=(red1 d).2 c1
  refine zN<|Y O<|zF O zGg<|zK one3 (J 0 O) O<|yK O<|G O<|rL0 O (fun g3_3=>zE O zGg O) O<|rL1 16 O (fun g3_3=>zJ O one3 O (J 0 O) O) O<|rL1 17 O (fun g3_3=>yM O O O) O<|r_or O (fun h=>(lzf h))<|G O<|W<|zM<|Y O<|G O<|zF O kU<|zK kY (J 0 O) O<|qB O N<|yK O<|qA O (zLu O un4 O O)<|G O<|rL0 O (fun g4_6=>zE O zGg O) O<|rL1 27 O (fun g4_6=>zJ O one3 O (J 0 O) O) O<|rL1 28 O (fun g4_6=>yM O O O) O<|rL1 29 O (fun g4_6=>zS O O) O<|rLz [] O q T (fun g4_10=>zE O zAt O) O<|rLz [(31,_)] O q ⟨O,O,T⟩ (fun g4_10=>zJ O kY O (J 0 O) O) O<|rLz [(32,_)] O q ⟨O,O,T⟩ (fun g4_10=>qX O N O) O<|rLz [(33,_)] O q ⟨O,O,T⟩ (fun g4_10=>yM O O O) O<|rL1 30 O (fun g4_6=>wK O O O (fun h=>kH (by assumption) h) O) O<|r_or O (fun h=>(lzf h))<|W<|zH O (fun c2=>?_) (fun c2=>?_)
  ·refine Y O<|G O<|W<|zO<|zV O ?_
   rw [lZ,if_neg h1,if_pos (red2 c2)]
  ·refine zN<|Y O<|G O<|W<|zO<|zV O ?_
   rw [lZ,if_neg h1,if_neg (red3 c2)]
theorem ref17_def (p:Pg) (hP:p.Ok) (hz0:p.Sizes.length<=64) (k:Nat) (d:Df) (hd:p.Defs[k]? =some d) (t:List ByteArray) (ht:t.length<=4294967296):
    Pur cfg 58 [vPg p,vI k,vSs t] (vI (gX ⟨p.Sizes,p.Params,p.Defs.take k⟩ d t)):=by
 refine zW Tryz.func58 O Tryz.ntmps58 Tryz.results58 O ?_
 intro z hz
 obtain ⟨hD,hR,hA,hA2,hB⟩:=hP.ds d (zX hd)
 have hlen:=zNl hd
 have hpd:=hP.defs
 have hDR:(d.Dims++d.Red).length=d.Dims.length+d.Red.length:=List.length_append
 have hAx:∀a,a∈d.Dims++d.Red->a.Size.L.length<=5864062014805:=fun a ha=>by rcases List.mem_append.1 ha with h|h;exact hA a h;exact hA2 a h
 have hrows:[]++d.Dims.map Ax.cells++d.Red.map Ax.cells=(d.Dims++d.Red).map Ax.cells:=by simp
 have hax:Pur cfg 110 [.c (.sl 3 ([]++d.Dims.map Ax.cells++d.Red.map Ax.cells)),vSs p.Sizes] (vI (gI p.Sizes p.Sizes (d.Dims++d.Red))):=by rw [hrows];exact ref17_axes (d.Dims++d.Red) p.Sizes (by omega) hAx (by omega)
 have hP2:(⟨p.Sizes,[],p.Params,p.Defs.take k,[]⟩:Pg).Ok:=⟨hP.sizes,by simp,hP.params,(hP.take k).defs,by simp,fun c hc=>(by cases hc),hP.ps,(hP.take k).ds⟩
 refine Y O<|zY O O (qN O O) ?_
 rintro _ _ ⟨b1,rfl,rfl⟩
 refine G O<|W<|Y O<|zF O kV<|zK zAq (J 0 O) O<|G O<|qJ O el25 (by omega) (getm (by assumption))<|zP zAi qE O<|zY O O (qF [none,none,none,none,none,none,some 3,some 3,none,none,none,none,none,none,none,none,none,none,none,some 2,some 4,some 13] O zr63 O) ?_
 rintro _ _ ⟨b2,rfl,rfl⟩
 refine rStR 0 sz63 O<|W<|zM<|Y O<|zF O zOe<|zK one9 (J 0 O) O<|G O<|qQ O ok106 (zIj d.Name t ht) ⟨U,O,U,O,T⟩<|G O<|W<|Y O<|G O<|yW O<|W<|zH O (fun c1=>?_) (fun c1=>?_)
 ·try simp only [sx] at c1
  refine Y O<|G O<|G O<|W<|zO<|zV O ?_
  rw [zSs c1]
 ·try simp only [sx] at c1
  refine zN<|zM<|Y O<|zF O zLr<|zP yO (J 0 O) O<|qQ O ok109 (zMb d.T) ⟨U,O,T⟩<|wE O<|W<|zH O (fun c2=>?_) (fun c2=>?_)
  ·try simp only [sx] at c2
   refine Y O<|G O<|W<|zO<|zV O ?_
   rw [zKh c1 c2]
  ·try simp only [sx] at c2
   refine zN<|zM<|Y O<|zF O zAt<|zK kY (J 0 O) O<|qB O N<|qA O (yL O O O)<|G O<|rL0 O (fun g7_4=>zE O kU O) O<|rL1 34 O (fun g7_4=>zJ O kY O (J 0 O) O) O<|rL1 35 O (fun g7_4=>qX O N O) O<|rL1 36 O (fun g7_4=>yL O O O) O<|r_or O (fun h=>(lzf h))<|W<|zH O (fun c3=>?_) (fun c3=>?_)
   ·try simp only [sx] at c3
    refine Y O<|G O<|W<|zO<|zV O ?_
    rw [zKg c1 c2 (by omega)]
   ·try simp only [sx] at c3
    have hX:=zSr (n:=⟨p.Sizes,p.Params,p.Defs.take k⟩) c1 c2 (by omega)
    refine zN<|zM<|zM<|kI 9 1 [⟨1,.q []⟩,⟨2,.q [1]⟩,⟨4,.q []⟩,⟨5,.q [1]⟩,⟨7,.q []⟩,⟨8,.q [2]⟩,⟨0,.e 0 []⟩,⟨3,.e 0 []⟩,⟨6,.e 0 []⟩] mixed (by kernel_rfl) (by kernel_rfl) O O O<|qD O<|qD O<|qD O<|qD O<|qD O<|qD O<|qD O<|qD O<|qD O<|zBq<|qM O (by decide) O O (zE O zAt O)<|qM O (by decide) O O (zJ O kY O (J 0 O) O)<|qM O (by decide) O O (zE O kU O)<|qM O (by decide) O O (zJ O kY O (J 0 O) O)<|qM O (by decide) O O (zE O zCl O)<|qM O (by decide) O O (zJ O zBn O (J 0 O) O)<|zFs O O (by decide) O O (zAa O N zJb O O O O) ?_
    rintro _ _ ⟨sv3,rfl,rfl⟩
    refine ⟨_,O,?_⟩
    refine zFs O O (by decide) O O (qV 0 O N O O O (by simp only [List.length_append,List.length_take,List.length_map,List.length_cons,List.length_nil];omega) (by simp only [List.length_append,List.length_take,List.length_map,List.length_cons,List.length_nil];omega)) ?_
    rintro _ _ ⟨sv4,rfl,rfl⟩
    refine ⟨_,O,?_⟩
    refine zFs O O (by decide) O O (qV 0 O N O O O (by simp only [List.length_append,List.length_take,List.length_map,List.length_cons,List.length_nil];omega) (by simp only [List.length_append,List.length_take,List.length_map,List.length_cons,List.length_nil];omega)) ?_
    rintro _ _ ⟨sv5,rfl,rfl⟩
    refine ⟨_,O,?_⟩
    refine zBp O<|qA O (zEg 0 O ok110 O hax O ⟨.inl ⟨O,O⟩,.inr ⟨U,O⟩,T⟩)<|G O<|W<|Y O<|G O<|yW O<|W<|zH O (fun c4=>?_) (fun c4=>?_)
    ·try simp only [sx] at c4
     refine Y O<|G O<|G O<|W<|zO<|zV O ?_
     rw [hX,if_neg c4]
    ·try simp only [sx] at c4
     rw [if_pos c4] at hX
     refine zN<|zM<|Y O<|zP zAi (J 1 O) O<|qQ O ok111 (zQp d) ⟨U,O,T⟩<|G O<|W<|Y O<|G O<|yW O<|W<|zH O (fun c5=>?_) (fun c5=>?_)
     ·try simp only [sx] at c5
      refine Y O<|G O<|G O<|W<|zO<|zV O ?_
      rw [hX,if_neg c5]
     ·try simp only [sx] at c5
      rw [if_pos c5] at hX
      unfold mJ at hX
      refine zN<|zM<|kI 19 1 [⟨0,.q []⟩,⟨1,.q [3]⟩,⟨2,.q []⟩,⟨3,.q [3]⟩,⟨4,.q []⟩,⟨5,.q [3]⟩,⟨6,.q []⟩,⟨7,.q []⟩,⟨8,.q []⟩,⟨9,.q [2]⟩,⟨10,.q []⟩,⟨11,.q []⟩,⟨12,.q [2]⟩,⟨13,.q []⟩,⟨14,.q []⟩,⟨15,.q []⟩,⟨16,.q []⟩,⟨17,.e 0 []⟩,⟨18,.e 0 []⟩] mixed (by kernel_rfl) (by kernel_rfl) O O O<|qD O<|qD O<|qD O<|qD O<|qD O<|qD O<|qD O<|qD O<|qD O<|qD O<|qD O<|qD O<|qD O<|qD O<|qD O<|qD O<|qD O<|qD O<|qD O<|zBq<|qM O (by decide) O O (zE O zCl O)<|qM O (by decide) O O (zJ O zBn O (J 0 O) O)<|qM O (by decide) O O (zE O wM O)<|qM O (by decide) O O (zJ O zBm O (J 0 O) O)<|qM O (by decide) O O (zE O kV O)<|qM O (by decide) O O (zJ O zAq O (J 0 O) O)<|qM O (by decide) O O (zS O O)<|qM O (by decide) O O (zDt O el25 O O (by omega))<|qM O (by decide) O O (zIv [none,some 3,none,none,some 1] O zr27 pl27 O O)<|qM O (by decide) O O (zU O zAi O (J 0 O) O)<|qM O (by decide) O O (qL O ok97 (OwnR.pur (zOq d hD hR)) ⟨U,O,T⟩)<|qM O (by decide) O O (zE O zCv O)<|qM O (by decide) O O (zU O yG O (J 0 O) O)<|qM O (by decide) O O (qL O ok96 (ref17_TypeOf (⟨p.Sizes,[],p.Params,p.Defs.take k,[]⟩:Pg) (bQ d) d.Body hP2 (by rw [bQ,List.length_append,List.length_map,List.length_map];omega) hB) ⟨U,O,U,O,U,O,T⟩)<|qM O (by decide) O O (kL O O)<|qM O (by decide) O O (yA O O O)<|qM O (by decide) O O (wW O O O)<|zFs O O (by decide) O O (yJ O zr37) ?_
      rintro _ _ ⟨b6,rfl,rfl⟩
      refine ⟨_,O,?_⟩
      refine zHa O O (by decide) O O (kN O sz37 O O O (zCu 0 O O)) ?_
      rintro _ _ ⟨rfl,rfl⟩
      refine ⟨_,O,?_⟩
      refine zBp O<|G O<|W<|zM<|Y O<|G O<|yW O<|W<|zH O (fun c6=>?_) (fun c6=>?_)
      ·try simp only [sx] at c6
       refine Y O<|G O<|G O<|W<|zO<|zV O ?_
       rw [hX,if_neg (show ¬(lJ (⟨p.Sizes,p.Params,p.Defs.take k⟩:En) (bQ d) d.Body).2=0 from c6)];rfl
      ·try simp only [sx] at c6
       rw [if_pos (show (lJ (⟨p.Sizes,p.Params,p.Defs.take k⟩:En) (bQ d) d.Body).2=0 from c6)] at hX
       refine zN<|zM<|Y O<|zP yO (J 0 O) O<|zF O zLr<|zP yO (J 2 O) O<|qA O (zBg O fl37 O O O)<|W<|zH O (fun c7=>?_) (fun c7=>?_)
       ·refine Y O<|G O<|W<|zO<|zV O ?_
        rw [hX,if_neg (show ¬(lJ (⟨p.Sizes,p.Params,p.Defs.take k⟩:En) (bQ d) d.Body).1=d.T from zKr c7)]
       ·refine zN<|Y O<|G O<|W<|zO<|zV O ?_
        rw [hX,if_pos (show (lJ (⟨p.Sizes,p.Params,p.Defs.take k⟩:En) (bQ d) d.Body).1=d.T from zIi c7)]
theorem ref17_sizes (p:Pg) (hP:p.Ok):
    Pur cfg 55 [vPg p] (vI (jM p)):=by
 refine zW Tryz.func55 O Tryz.ntmps55 Tryz.results55 O ?_
 intro z hz
 have hpz:=hP.sizes
 refine Y O<|zY O O (qN O O) ?_
 rintro _ _ ⟨b1,rfl,rfl⟩
 refine G O<|W<|zM<|Y O<|zF O zCl<|zK zBn (J 0 O) O<|qB O el22<|qA O (yL O O O)<|G O<|rL0 O (fun g1_4=>zE O wM O) O<|rL1 10 O (fun g1_4=>zJ O zBm O (J 0 O) O) O<|rL1 11 O (fun g1_4=>qX O el24 O) O<|rL1 12 O (fun g1_4=>yL O O O) O<|r_or O (fun h=>(lzf h))<|G O<|rL0 O (fun g1_10=>zE O kV O) O<|rL1 16 O (fun g1_10=>zJ O zAq O (J 0 O) O) O<|rL1 17 O (fun g1_10=>qX O el25 O) O<|rL1 18 O (fun g1_10=>yL O O O) O<|r_or O (fun h=>(lzf h))<|G O<|rL0 O (fun g1_16=>zE O zFh O) O<|rL1 22 O (fun g1_16=>zJ O zBn O (J 0 O) O) O<|rL1 23 O (fun g1_16=>qX O el22 O) O<|rL1 24 O (fun g1_16=>yL O O O) O<|r_or O (fun h=>(lzf h))<|G O<|rL0 O (fun g1_22=>zE O zBu O) O<|rL1 28 O (fun g1_22=>zJ O zHj O (J 0 O) O) O<|rL1 29 O (fun g1_22=>qX O el23 O) O<|rL1 30 O (fun g1_22=>yL O O O) O<|r_or O (fun h=>(lzf h))<|W<|zH O (fun c1=>?_) (fun c1=>?_)
 ·have hl:¬dG p:=lim_no c1
  refine Y O<|G O<|W<|zO<|zV O ?_
  rw [jM,if_neg hl]
 ·have hl:dG p:=lim_yes c1
  have hz:jM p=gU [] p.Sizes:=by unfold jM;rw [if_pos hl]
  refine zN<|zM<|Y O<|G O<|W<|zR<|qC ⟨[(3,.c _),(1,.c _)],[_]⟩ (Weak.mk [true] ⟨U,U,T⟩ O)<|qG 1 0 O O (Nat) (fun k=>[(3,vI k)]) (fun k=>[]) (fun k=>k<=p.Sizes.length/\(gU [] p.Sizes=gU (p.Sizes.take k) (p.Sizes.drop k))) (fun k=>p.Sizes.length-k) ⟨0,⟨by omega,O⟩,Weak.mk [true] ⟨U,U,T⟩ O⟩ ?_
  rintro k ⟨hk,hp⟩
  refine zM<|Y O<|G O<|zF O zCl<|zK zBn (J 0 O) O<|qB O el22<|yI O<|W<|zH O (fun c2=>?_) (fun c2=>?_)
  ·try simp only [sx] at c2
   obtain ⟨x,hx⟩:=qU p.Sizes k (by omega)
   refine zN<|zM<|zR<|zM<|qW 11 mixed (by kernel_rfl) O O<|zQ O O (zE O zCl O)<|zQ O O (zJ O zBn O (J 0 O) O)<|zQ O O (zS O O)<|zQ O O (qH O el22 O O (by omega) (getm (by assumption)))<|zQ O O (zJ O one9 O qE O)<|zQ O O (zE O zCl O)<|zQ O O (zJ O zBn O (J 0 O) O)<|zQ O O (zS O O)<|zQ O O (zDt O el22 O O (by omega))<|zQ O O (qL O ok106 (zIj x (p.Sizes.take k) (by rw [List.length_take];omega)) ⟨U,O,U,O,T⟩)<|zQ O O (yY O O)<|yR<|W<|Y O<|G O<|yW O<|W<|zH O (fun c3=>?_) (fun c3=>?_)
   ·try simp only [sx] at c3
    refine Y O<|G O<|G O<|W<|zO<|zV O ?_
    rw [hz,hp,sizesR_no hx c3]
   ·try simp only [sx] at c3
    refine zN<|zT O<|G O<|qK O ⟨by omega,by omega⟩<|G O<|W ?_
    refine ⟨k+1,⟨by omega,hp.trans (sizesR_next hx c3)⟩,(by omega),Weak.mk [true] ⟨U,U,T⟩ O⟩
  ·try simp only [sx] at c2
   refine qO<|Y O<|G O<|W<|zO<|zV O ?_
   rw [hz,hp,wV (by omega)];rfl
theorem zFl (p:Pg) (hP:p.Ok):
    Pur cfg 20 [vPg p] (.tup [vI (jE p).1,vI (jE p).2]):=by
 refine zW Tryz.func20 O Tryz.ntmps20 Tryz.results20 O ?_
 intro z hz
 have hps:=hP.sizes
 have hpw:=hP.wh
 have hpp:=hP.params
 have hpd:=hP.defs
 have hpo:=hP.outs
 refine Y O<|zY O O (qN O O) ?_
 rintro _ _ ⟨b1,rfl,rfl⟩
 refine G O<|G O<|W<|zM<|Y O<|zP wY (J 0 O) O<|qQ O ok55 (ref17_sizes p hP) ⟨U,O,T⟩<|G O<|W<|Y O<|G O<|yW O<|W<|zH O (fun c1=>?_) (fun c1=>?_)
 ·try simp only [sx] at c1
  refine Y O<|G O<|G O<|G O<|W<|zO<|fin2 (rs_c O) (rs_c O) ?_
  rw [validR_s c1]
 ·try simp only [sx] at c1
  have hlm:dG p:=(zMm c1).1
  have hlp:p.Params.length<=64:=hlm.2.1
  have hld:p.Defs.length<=64:=hlm.2.2.1
  have hlz:p.Sizes.length<=64:=hlm.1
  refine zN<|zM<|Y O<|G O<|W<|zR<|qC ⟨[(5,.c _),(1,.c _)],[_]⟩ (Weak.mk [true] ⟨U,U,T⟩ O)<|qG 1 0 O O (Nat) (fun k=>[(5,vI k)]) (fun k=>[]) (fun k=>k<=p.Where.length/\(gS p.Sizes p.Where=gS p.Sizes (p.Where.drop k))) (fun k=>p.Where.length-k) ⟨0,⟨by omega,O⟩,Weak.mk [true] ⟨U,U,T⟩ O⟩ ?_
  rintro k ⟨hk,hp⟩
  refine zM<|Y O<|G O<|zF O zBu<|zK zHj (J 0 O) O<|qB O el23<|yI O<|W<|zH O (fun c2=>?_) (fun c2=>?_)
  ·try simp only [sx] at c2
   obtain ⟨x,hx⟩:=qU p.Where k (by omega)
   refine zN<|zM<|zR<|zM<|qW 10 mixed (by kernel_rfl) O O<|zQ O O (zE O zBu O)<|zQ O O (zJ O zHj O (J 0 O) O)<|zQ O O (zS O O)<|zQ O O (qH O el23 O O (by omega) (getm (by assumption)))<|zQ O O (qP O zGw O)<|zQ O O (zU O yB O qE O)<|zQ O O (zE O zCl O)<|zQ O O (zJ O zBn O (J 0 O) O)<|zQ O O (qL O ok56 (zMr x.Lin p.Sizes (hP.whs x (zX hx)) (by omega)) ⟨U,O,U,O,T⟩)<|zQ O O (yY O O)<|yR<|W<|Y O<|G O<|yW O<|W<|zH O (fun c3=>?_) (fun c3=>?_)
   ·try simp only [sx] at c3
    refine Y O<|G O<|G O<|G O<|W<|zO<|fin2 (rs_c O) (rs_c O) ?_
    rw [validR_w c1 (by rw [hp,whereR_no hx c3];exact c3),hp,whereR_no hx c3]
   ·try simp only [sx] at c3
    refine zN<|zT O<|G O<|qK O ⟨by omega,by omega⟩<|G O<|W ?_
    refine ⟨k+1,⟨by omega,hp.trans (whereR_next hx c3)⟩,(by omega),Weak.mk [true] ⟨U,U,T⟩ O⟩
  ·try simp only [sx] at c2
   rw [wV (l:=p.Where) (k:=k) (by omega)] at hp
   have hV:=validR_p c1 hp
   refine qO<|Y O<|zY O O (zAa O el22 zr9 O O O O) ?_
   rintro _ _ ⟨sv2,rfl,rfl⟩
   refine zF O zCl<|zK zBn (J 1 O) O<|zY O O (qV 0 O el22 O O O (by simp only [List.length_append,List.length_take,List.length_map,List.length_cons,List.length_nil];omega) (by simp only [List.length_append,List.length_take,List.length_map,List.length_cons,List.length_nil];omega)) ?_
   rintro _ _ ⟨sv3,rfl,rfl⟩
   refine G O<|W<|Y O<|G O<|W<|zM<|Y O<|G O<|W<|zR<|qC ⟨[(9,.c _),(7,.c _),(8,.c _),(1,.c _)],[_,_]⟩ (Weak.mk [true,true] ⟨U,U,U,U,T⟩ O)<|qG 3 1 O O (Nat×Value) (fun ⟨k,sv⟩=>[(9,vI k),(7,.c (.lit sv)),(8,vI (2+(k:Int)))]) (fun ⟨k,sv⟩=>[E.vec sv 9 1 ((p.Sizes++(p.Params.take k).map Pm.Name).map fun s=>[cS s])]) (fun ⟨k,sv⟩=>k<=p.Params.length/\(jE p=fG p (2+(k:Int)) (p.Sizes++(p.Params.take k).map Pm.Name) (p.Params.drop k))) (fun ⟨k,sv⟩=>p.Params.length-k) ⟨⟨0,_⟩,⟨by omega,by rw [hV];simp⟩,Weak.mk [true,true] ⟨U,U,U,U,T⟩ (by show _=[E.vec _ _ 1 ((p.Sizes++[]).map fun s=>[cS s])]++_;rw [List.append_nil p.Sizes];rfl)⟩ ?_
   rintro ⟨k,sv⟩ ⟨hk,hp⟩
   show AWP _ _ _ _ _ ⟨[(9,vI k),(7,.c (.lit sv)),(8,vI (2+(k:Int)))]++_,[E.vec sv 9 1 ((p.Sizes++(p.Params.take k).map Pm.Name).map fun s=>[cS s])]++_⟩
   refine zM<|Y O<|G O<|zF O wM<|zK zBm (J 1 O) O<|qB O el24<|yI O<|W<|zH O (fun c4=>?_) (fun c4=>?_)
   ·try simp only [sx] at c4
    obtain ⟨x,hx⟩:=qU p.Params k (by omega)
    refine zN<|zM<|zR<|zM<|zM<|qW 8 mixed (by kernel_rfl) O O<|zQ O O (zE O wM O)<|zQ O O (zJ O zBm O (J 1 O) O)<|zQ O O (zS O O)<|zQ O O (qH O el24 O O (by omega) (getm (by assumption)))<|zQ O O (zU O agg67 O qE O)<|zQ O O (zE O zCl O)<|zQ O O (zJ O zBn O (J 1 O) O)<|zQ O O (zS O O)<|yR<|qA O (zEg 0 O ok57 O (ref17_param x p.Sizes (p.Sizes++(p.Params.take k).map Pm.Name) (hP.ps x (zX hx)).1 (hP.ps x (zX hx)).2 (by omega) (by simp only [List.length_append,List.length_take,List.length_map,List.length_cons,List.length_nil];omega)) O ⟨.inr ⟨U,O⟩,.inr ⟨U,O⟩,.inl ⟨O,O⟩,T⟩)<|G O<|W<|Y O<|G O<|yW O<|W<|zH O (fun c5=>?_) (fun c5=>?_)
    ·try simp only [sx] at c5
     refine Y O<|G O<|G O<|G O<|G O<|W<|zO<|fin2 (rs_c O) (rs_c O) ?_
     rw [hp,paramsR_no hx c5]
    ·try simp only [sx] at c5
     refine zN<|Y O<|G O<|zF O wM<|zK zBm (J 1 O) O<|G O<|qJ O el24 (by omega) (getm (by assumption))<|qS O zRz<|zK one9 qE O<|yV O el22 zr9<|zY O O (qV 0 O el22 O O O (by simp only [List.length_append,List.length_take,List.length_map,List.length_cons,List.length_nil];omega) (by simp only [List.length_append,List.length_take,List.length_map,List.length_cons,List.length_nil];omega)) ?_
     rintro _ _ ⟨sv4,rfl,rfl⟩
     refine G O<|W<|zT O<|G O<|qK O ⟨by omega,by omega⟩<|G O<|W<|zT O<|G O<|qK O ⟨by omega,by omega⟩<|G O<|W ?_
     refine ⟨⟨k+1,sv4⟩,⟨by omega,by rw [hp,paramsR_next hx c5,qT hx,List.map_append,←List.append_assoc];congr 1<;>first|omega|rfl⟩,(by show p.Params.length-(k+1)<p.Params.length-k;omega),Weak.mk [true,true] ⟨U,U,VLe.of_eq (congrArg vI (by omega)),U,T⟩ (by show _=[E.vec sv4 _ 1 ((p.Sizes++(p.Params.take (k+1)).map Pm.Name).map fun s=>[cS s])]++_;rw [qT hx,List.map_append (f:=Pm.Name),←List.append_assoc,List.map_append (f:=fun s=>[cS s]) (l₁:=p.Sizes++(p.Params.take k).map Pm.Name)];rfl)⟩
   ·try simp only [sx] at c4
    rw [qY (l:=p.Params) (k:=k) (by omega)]
    rw [wV (l:=p.Params) (k:=k) (by omega),qY (l:=p.Params) (k:=k) (by omega),fG] at hp
    refine qO<|zM<|Y O<|G O<|W<|zR<|qC ⟨[(11,.c _),(7,.c _),(8,.c _),(1,.c _)],[_,_]⟩ (Weak.mk [true,true] ⟨U,U,U,U,T⟩ O) ?_
    refine qG 3 1 O O (Nat×Value) (fun ⟨k,sv⟩=>[(11,vI k),(7,.c (.lit sv)),(8,vI (2+(p.Params.length:Int)+(k:Int)))]) (fun ⟨k,sv⟩=>[E.vec sv 9 1 ((p.Sizes++p.Params.map Pm.Name++(p.Defs.take k).map Df.Name).map fun s=>[cS s])]) (fun ⟨k,sv⟩=>k<=p.Defs.length/\(jE p=jB p (2+(p.Params.length:Int)+(k:Int)) (p.Sizes++p.Params.map Pm.Name++(p.Defs.take k).map Df.Name) (p.Defs.take k) (p.Defs.drop k))) (fun ⟨k,sv⟩=>p.Defs.length-k) ⟨⟨0,sv⟩,⟨by omega,by rw [hp];simp only [List.take_zero,List.map_nil,List.append_nil,List.drop_zero];congr 1<;>omega⟩,Weak.mk [true,true] ⟨U,U,VLe.of_eq (congrArg vI (by omega)),U,T⟩ (by show _=[E.vec _ _ 1 ((p.Sizes++p.Params.map Pm.Name++[]).map fun s=>[cS s])]++_;rw [List.append_nil (p.Sizes++p.Params.map Pm.Name)];rfl)⟩ ?_
    rintro ⟨k,sv⟩ ⟨hk,hq⟩
    show AWP _ _ _ _ _ ⟨[(11,vI k),(7,.c (.lit sv)),(8,vI (2+(p.Params.length:Int)+(k:Int)))]++_,[E.vec sv 9 1 ((p.Sizes++p.Params.map Pm.Name++(p.Defs.take k).map Df.Name).map fun s=>[cS s])]++_⟩
    refine zM<|Y O<|G O<|zF O kV<|zK zAq (J 1 O) O<|qB O el25<|yI O<|W<|zH O (fun c6=>?_) (fun c6=>?_)
    ·try simp only [sx] at c6
     obtain ⟨x,hx⟩:=qU p.Defs k (by omega)
     refine zN<|zM<|zR<|zM<|Y O<|zP wY (J 1 O) O<|G O<|G O<|qA O (zEg 0 O ok58 O (ref17_def p hP hlm.1 k x hx (p.Sizes++p.Params.map Pm.Name++(p.Defs.take k).map Df.Name) (by simp only [List.length_append,List.length_take,List.length_map,List.length_cons,List.length_nil];omega)) O ⟨.inr ⟨U,O⟩,.inr ⟨U,O⟩,.inl ⟨O,O⟩,T⟩)<|G O<|W<|Y O<|G O<|yW O<|W<|zH O (fun c7=>?_) (fun c7=>?_)
     ·try simp only [sx] at c7
      refine Y O<|G O<|G O<|G O<|G O<|W<|zO<|fin2 (rs_c O) (rs_c O) ?_
      rw [hq,defsR_no hx c7]
     ·try simp only [sx] at c7
      refine zN<|Y O<|G O<|zF O kV<|zK zAq (J 1 O) O<|G O<|qJ O el25 (by omega) (getm (by assumption))<|qS O zOe<|zK one9 qE O<|yV O el22 zr9<|zY O O (qV 0 O el22 O O O (by simp only [List.length_append,List.length_take,List.length_map,List.length_cons,List.length_nil];omega) (by simp only [List.length_append,List.length_take,List.length_map,List.length_cons,List.length_nil];omega)) ?_
      rintro _ _ ⟨sv5,rfl,rfl⟩
      refine G O<|W<|zT O<|G O<|qK O ⟨by omega,by omega⟩<|G O<|W<|zT O<|G O<|qK O ⟨by omega,by omega⟩<|G O<|W ?_
      refine ⟨⟨k+1,sv5⟩,⟨by omega,by rw [hq,defsR_next hx c7,qT hx,List.map_append,←List.append_assoc];congr 1<;>first|omega|rfl⟩,(by show p.Defs.length-(k+1)<p.Defs.length-k;omega),Weak.mk [true,true] ⟨U,U,VLe.of_eq (congrArg vI (by omega)),U,T⟩ (by show _=[E.vec sv5 _ 1 ((p.Sizes++p.Params.map Pm.Name++(p.Defs.take (k+1)).map Df.Name).map fun s=>[cS s])]++_;rw [qT hx,List.map_append (f:=Df.Name),←List.append_assoc,List.map_append (f:=fun s=>[cS s]) (l₁:=p.Sizes++p.Params.map Pm.Name++(p.Defs.take k).map Df.Name)];rfl)⟩
    ·try simp only [sx] at c6
     rw [wV (l:=p.Defs) (k:=k) (by omega),qY (l:=p.Defs) (k:=k) (by omega),jB] at hq
     refine qO<|zM<|Y O<|G O<|W<|zR<|qC ⟨[(13,.c _),(8,.c _),(1,.c _)],[_]⟩ (Weak.mk [false,true] ⟨U,U,U,T⟩ O) ?_
     refine qG 2 0 O O (Nat) (fun k=>[(13,vI k),(8,vI (2+(p.Params.length:Int)+(p.Defs.length:Int)+(k:Int)))]) (fun k=>[]) (fun k=>k<=p.Outs.length/\(jE p=jV p.en (2+(p.Params.length:Int)+(p.Defs.length:Int)+(k:Int)) (p.Outs.take k) (p.Outs.drop k))) (fun k=>p.Outs.length-k) ⟨0,⟨by omega,by rw [hq];congr 1;omega⟩,Weak.mk [true] ⟨U,VLe.of_eq (congrArg vI (by omega)),U,T⟩ O⟩ ?_
     rintro k ⟨hk,ho⟩
     refine zM<|Y O<|G O<|zF O zFh<|zK zBn (J 0 O) O<|qB O el22<|yI O<|W<|zH O (fun c8=>?_) (fun c8=>?_)
     ·try simp only [sx] at c8
      obtain ⟨x,hx⟩:=qU p.Outs k (by omega)
      refine zN<|zM<|zR<|zM<|zM<|kI 14 1 [⟨0,.q [1]⟩,⟨1,.q []⟩,⟨2,.q [1]⟩,⟨3,.q []⟩,⟨4,.q []⟩,⟨5,.q []⟩,⟨6,.q []⟩,⟨7,.q []⟩,⟨8,.q []⟩,⟨9,.q []⟩,⟨10,.q []⟩,⟨11,.e 0 []⟩,⟨12,.e 0 []⟩,⟨13,.q []⟩] mixed (by kernel_rfl) (by kernel_rfl) O O O<|qD O<|qD O<|qD O<|qD O<|qD O<|qD O<|qD O<|qD O<|qD O<|qD O<|qD O<|qD O<|qD O<|qD O<|zBq<|qM O (by decide) O O (zU O wY O (J 0 O) O)<|qM O (by decide) O O (zE O zFh O)<|qM O (by decide) O O (zJ O zBn O (J 0 O) O)<|qM O (by decide) O O (zS O O)<|qM O (by decide) O O (qH O el22 O O (by omega) (getm (by assumption)))<|qM O (by decide) O O (zJ O one9 O qE O)<|qM O (by decide) O O (qL O ok59 (zMs p x hP) ⟨U,O,U,O,T⟩)<|qM O (by decide) O O (kL O O)<|qM O (by decide) O O (yA O O O)<|qM O (by decide) O O (wW O O O)<|qM O (by decide) O O (wW O O O)<|zFs O O (by decide) O O (yJ O zr37) ?_
      rintro _ _ ⟨b6,rfl,rfl⟩
      refine ⟨_,O,?_⟩
      refine zHa O O (by decide) O O (kN O sz37 O O O (zCu 0 O O)) ?_
      rintro _ _ ⟨rfl,rfl⟩
      refine ⟨_,O,?_⟩
      refine qM O (by decide) O O (yY O O)<|zBp O<|G O<|W<|Y O<|G O<|wE O<|W<|zH O (fun c9=>?_) (fun c9=>?_)
      ·try simp only [sx] at c9
       refine Y O<|G O<|G O<|G O<|W<|zO<|fin2 (rs_c O) (rs_c O) ?_
       rw [ho,outsR_9 hx c9]
      ·try simp only [sx] at c9
       refine zN<|zM<|zM<|qW 10 mixed (by kernel_rfl) O O<|zQ O O (zE O zFh O)<|zQ O O (zJ O zBn O (J 1 O) O)<|zQ O O (zS O O)<|zQ O O (zDt O el22 O O (by omega))<|zQ O O (zE O zFh O)<|zQ O O (zJ O zBn O (J 1 O) O)<|zQ O O (zS O O)<|zQ O O (qH O el22 O O (by omega) (getm (by assumption)))<|zQ O O (zJ O one9 O qE O)<|zQ O O (qL O ok21 (zMc (p.Outs.take k) x (by rw [List.length_take];omega)) ⟨U,O,U,O,T⟩)<|yR<|W<|zH O (fun c10=>?_) (fun c10=>?_)
       ·try simp only [sx] at c10
        refine Y O<|G O<|G O<|G O<|W<|zO<|fin2 (rs_c O) (rs_c O) ?_
        rw [ho,outsR_8 hx c9 c10]
       ·try simp only [sx] at c10
        refine zN<|zT O<|G O<|qK O ⟨by omega,by omega⟩<|G O<|W<|zT O<|G O<|qK O ⟨by omega,by omega⟩<|G O<|W ?_
        refine ⟨k+1,⟨by omega,by rw [ho,outsR_next hx c9 (by simpa using c10)];congr 1<;>omega⟩,(by omega),Weak.mk [false,true] ⟨U,VLe.of_eq (congrArg vI (by omega)),U,T⟩ O⟩
     ·try simp only [sx] at c8
      refine qO<|Y O<|G O<|G O<|W<|zO<|fin2 (rs_c O) (rs_c O) ?_
      rw [ho,wV (by omega)];rfl
end Go.W
