/-
  What functions compute.
  What functions compute.
  What functions compute.
  Conditions: none.
-/
import Derived.Test.YtkidnhldibjiaaaGreatDoorWK
import Derived.Test.YtkidnhldibjiaaaGreatDoorPlain
import Derived.Test.YtkidnhldibjiaaaGreatDoorEngZ
import Derived.Test.YtkidnhldibjiaaaGreatDoorWP
import Derived.Test.YtkidnhldibjiaaaGreatDoorPlain2
set_option linter.unusedSimpArgs false
set_option linter.unusedVariables false
section
set_option maxRecDepth 10000
namespace Go.W
open Go Go.Eng Go.Proofs Go.L41 Go.Br
attribute [local irreducible] AWP RWP TD fL
end Go.W
end
section
set_option maxRecDepth 10000
namespace Go.W
open Go Go.Eng Go.Proofs Go.L41 Go.Br
attribute [local irreducible] AWP RWP TD fL
theorem zSb:bM Tryz.prog 101 1=some (2,4):=by kernel_rfl
theorem ok42:bA Tryz.prog 42=true:=by kernel_rfl
theorem ok43:bA Tryz.prog 43=true:=by kernel_rfl
theorem ok45:bA Tryz.prog 45=true:=by kernel_rfl
theorem ok99:bA Tryz.prog 99=true:=by kernel_rfl
theorem ok100:bA Tryz.prog 100=true:=by kernel_rfl
theorem one4:lS Tryz.prog 4=true:=by kernel_rfl
theorem base_Con (a b:Cn) (ha:a.Lin.L.length<=5864062014805):
    Pur cfg 99 [vCn a,vCn b] (vB (decide (a=b))):=by
 refine zW Tryz.func99 O Tryz.ntmps99 Tryz.results99 O ?_
 intro z hz
 refine Y O<|zY O O (qN O O) ?_
 rintro _ _ ⟨b1,rfl,rfl⟩
 refine zY O O (qN O O) ?_
 rintro _ _ ⟨b2,rfl,rfl⟩
 refine G O<|W<|Y O<|zF O zSb<|zK one4 (J 1 O) O<|zF O zSb<|zK one4 (J 0 O) O<|qA O (det_beql O un4 O O)<|G O<|rL0 O (fun g1_5=>zE O zGw O) O<|rL1 11 O (fun g1_5=>zU O yB O (J 1 O) O) O<|rL0 O (fun g1_5=>zE O zGw O) O<|rL1 13 O (fun g1_5=>zU O yB O (J 0 O) O) O<|rLz [(12,_),(14,_)] O gv1 ⟨O,O,O,O,T⟩ (fun g1_5=>qL O ok34 (zIw a.Lin b.Lin (by omega)) ⟨U,O,U,O,T⟩) O<|yZ O (fun h=>h)<|G O<|W<|zO<|zV O ?_
 exact congrArg vB (cn_eq a b)
theorem base_Cons (a b:List Cn) (ha:a.length<=4294967296) (hx0:∀x,x∈a->x.Lin.L.length<=5864062014805):
    Pur cfg 43 [.c (.sl 3 (a.map Cn.cells)),.c (.sl 3 (b.map Cn.cells))] (vB (decide (a=b))):=by
 refine zW Tryz.func43 O Tryz.ntmps43 Tryz.results43 O ?_
 intro z hz
 refine Y O<|G O<|W<|zM<|Y O<|G O<|qB O el23<|G O<|qB O el23<|yW O<|W<|zH O (fun c1=>?_) (fun c1=>?_)
 ·try simp only [sx] at c1
  refine Y O<|G O<|W<|zO<|zV O ?_
  rw [yD (fun h=>c1 (by rw [h]))]
 ·try simp only [sx] at c1
  refine zN<|zM<|Y O<|G O<|W<|zR<|qC ⟨[(5,.c _),(0,.c _),(1,.c _)],[]⟩ (Weak.mk [] ⟨U,U,U,T⟩ O)<|qG 1 0 O O (Nat) (fun k=>[(5,vI k)]) (fun k=>[]) (fun k=>k<=a.length/\(a.take k=b.take k)) (fun k=>a.length-k) ⟨0,⟨by omega,O⟩,Weak.mk [] ⟨U,U,U,T⟩ O⟩ ?_
  rintro k ⟨hk,hp⟩
  refine zM<|Y O<|G O<|G O<|qB O el23<|yI O<|W<|zH O (fun c2=>?_) (fun c2=>?_)
  ·try simp only [sx] at c2
   obtain ⟨x,hx⟩:=qU a k (by omega)
   obtain ⟨y,hy⟩:=qU b k (by omega)
   refine zN<|zM<|zR<|zM<|qW 10 mixed (by kernel_rfl) O O<|zQ O O (zS O O)<|zQ O O (zS O O)<|zQ O O (qH O el23 O O (by omega) (getm (by assumption)))<|zQ O O (zU O zTe O qE O)<|zQ O O (zS O O)<|zQ O O (zS O O)<|zQ O O (qH O el23 O O (by omega) (getm (by assumption)))<|zQ O O (zU O zTe O qE O)<|zQ O O (qL O ok99 (base_Con x y (hx0 x (zX hx))) ⟨U,O,U,O,T⟩)<|zQ O O (kT O O)<|yR<|W<|zH O (fun c3=>?_) (fun c3=>?_)
   ·try simp only [sx] at c3
    refine Y O<|G O<|W<|zO<|zV O ?_
    rw [yD (zBt hx hy c3)]
   ·try simp only [sx] at c3
    refine zN<|zT O<|G O<|qK O ⟨by omega,by omega⟩<|G O<|W ?_
    refine ⟨k+1,⟨by omega,wZ hx hy hp c3⟩,(by omega),Weak.mk [] ⟨U,U,U,T⟩ O⟩
  ·try simp only [sx] at c2
   refine qO<|Y O<|G O<|W<|zO<|zV O ?_
   rw [kR (zBd hp (by omega) (by omega))]
theorem base_Axes (a b:List Ax) (ha:a.length<=4294967296) (hx0:∀x,x∈a->x.Size.L.length<=6000000000000):
    Pur cfg 100 [.c (.sl 3 (a.map Ax.cells)),.c (.sl 3 (b.map Ax.cells))] (vB (decide (a=b))):=by
 refine zW Tryz.func100 O Tryz.ntmps100 Tryz.results100 O ?_
 intro z hz
 refine Y O<|G O<|W<|zM<|Y O<|G O<|qB O N<|G O<|qB O N<|yW O<|W<|zH O (fun c1=>?_) (fun c1=>?_)
 ·try simp only [sx] at c1
  refine Y O<|G O<|W<|zO<|zV O ?_
  rw [yD (fun h=>c1 (by rw [h]))]
 ·try simp only [sx] at c1
  refine zN<|zM<|Y O<|G O<|W<|zR<|qC ⟨[(5,.c _),(0,.c _),(1,.c _)],[]⟩ (Weak.mk [] ⟨U,U,U,T⟩ O)<|qG 1 0 O O (Nat) (fun k=>[(5,vI k)]) (fun k=>[]) (fun k=>k<=a.length/\(a.take k=b.take k)) (fun k=>a.length-k) ⟨0,⟨by omega,O⟩,Weak.mk [] ⟨U,U,U,T⟩ O⟩ ?_
  rintro k ⟨hk,hp⟩
  refine zM<|Y O<|G O<|G O<|qB O N<|yI O<|W<|zH O (fun c2=>?_) (fun c2=>?_)
  ·try simp only [sx] at c2
   obtain ⟨x,hx⟩:=qU a k (by omega)
   obtain ⟨y,hy⟩:=qU b k (by omega)
   refine zN<|zM<|zR<|zM<|qW 25 mixed (by kernel_rfl) O O<|zQ O O (zS O O)<|zQ O O (zS O O)<|zQ O O (qH O N O O (by omega) (getm hx))<|zQ O O (qP O zAm O)<|zQ O O (zJ O one9 O qE O)<|zQ O O (zS O O)<|zQ O O (zS O O)<|zQ O O (qH O N O O (by omega) (getm hy))<|zQ O O (qP O zAm O)<|zQ O O (zJ O one9 O qE O)<|zQ O O (zEe O O O)<|zQ O O (zS O O)<|qI [] O O O O gv1 T (fun g6_11=>zS O O) O<|qI [] O O O O gv1 T (fun g6_11=>zS O O) O<|qI [(29,_),(30,_)] O O O O gv1 ⟨O,O,O,O,T⟩ (fun g6_11=>qH O N O O (by omega) (getm hx)) O<|qI [(31,_)] O O O O gv1 ⟨O,O,T⟩ (fun g6_11=>qP O zEu O) O<|qI [(32,_)] O O O O gv1 ⟨O,O,T⟩ (fun g6_11=>zU O yB O qE O) O<|qI [] O O O O gv1 T (fun g6_11=>zS O O) O<|qI [] O O O O gv1 T (fun g6_11=>zS O O) O<|qI [(34,_),(35,_)] O O O O gv1 ⟨O,O,O,O,T⟩ (fun g6_11=>qH O N O O (by omega) (getm hy)) O<|qI [(36,_)] O O O O gv1 ⟨O,O,T⟩ (fun g6_11=>qP O zEu O) O<|qI [(37,_)] O O O O gv1 ⟨O,O,T⟩ (fun g6_11=>zU O yB O qE O) O<|qI [(33,_),(38,_)] O O O O gv1 ⟨O,O,O,O,T⟩ (fun g6_11=>qL O ok34 (zIw x.Size y.Size (hx0 x (zX hx))) ⟨U,O,U,O,T⟩) O<|qI [(39,_)] O O O O gv1 ⟨O,O,T⟩ (fun g6_11=>kT O O) O<|zQ O O (zBc O O O O (fun h=>(lzf h)))<|yR<|W<|zH O (fun c3=>?_) (fun c3=>?_)
   ·have hne:=ax_ne c3
    refine Y O<|G O<|W<|zO<|zV O ?_
    rw [yD (zBt hx hy hne)]
   ·have heq:=ax_yes' c3
    refine zN<|zT O<|G O<|qK O ⟨by omega,by omega⟩<|G O<|W ?_
    refine ⟨k+1,⟨by omega,wZ hx hy hp heq⟩,(by omega),Weak.mk [] ⟨U,U,U,T⟩ O⟩
  ·try simp only [sx] at c2
   refine qO<|Y O<|G O<|W<|zO<|zV O ?_
   rw [kR (zBd hp (by omega) (by omega))]
theorem base_Def (a b:Df) (h1:a.Dims.length<=4294967296) (h2:a.Red.length<=4294967296) (h3:∀x,x∈a.Dims->x.Size.L.length<=6000000000000) (h4:∀x,x∈a.Red->x.Size.L.length<=6000000000000) (h5:a.Body.wt<=6000000000000):
    Pur cfg 45 [vDf a,vDf b] (vB (decide (a=b))):=by
 refine zW Tryz.func45 O Tryz.ntmps45 Tryz.results45 O ?_
 intro z hz
 refine Y O<|zY O O (qN O O) ?_
 rintro _ _ ⟨b1,rfl,rfl⟩
 refine zY O O (qN O O) ?_
 rintro _ _ ⟨b2,rfl,rfl⟩
 refine G O<|W<|Y O<|zF O zOe<|zK one9 (J 1 O) O<|zF O zOe<|zK one9 (J 0 O) O<|wD O<|G O<|rL0 O (fun g1_5=>zE O zLr O) O<|rL1 11 O (fun g1_5=>zU O yO O (J 1 O) O) O<|rL0 O (fun g1_5=>zE O zLr O) O<|rL1 13 O (fun g1_5=>zU O yO O (J 0 O) O) O<|rLz [(12,_),(14,_)] O gv1 ⟨O,O,O,O,T⟩ (fun g1_5=>zPn O fl37 O O O) O<|yZ O (fun h=>h)<|G O<|rL0 O (fun g1_12=>zE O zGg O) O<|rL1 18 O (fun g1_12=>zJ O one3 O (J 1 O) O) O<|rL0 O (fun g1_12=>zE O zGg O) O<|rL1 20 O (fun g1_12=>zJ O one3 O (J 0 O) O) O<|rLz [(19,_),(21,_)] O gv1 ⟨O,O,O,O,T⟩ (fun g1_12=>yM O O O) O<|yZ O (fun h=>h)<|G O<|rL0 O (fun g1_19=>zE O zAt O) O<|rL1 25 O (fun g1_19=>zJ O kY O (J 1 O) O) O<|rL0 O (fun g1_19=>zE O zAt O) O<|rL1 27 O (fun g1_19=>zJ O kY O (J 0 O) O) O<|rLz [(26,_),(28,_)] O gv1 ⟨O,O,O,O,T⟩ (fun g1_19=>qL O ok100 (base_Axes a.Dims b.Dims h1 h3) ⟨U,O,U,O,T⟩) O<|yZ O (fun h=>h)<|G O<|rL0 O (fun g1_26=>zE O kU O) O<|rL1 32 O (fun g1_26=>zJ O kY O (J 1 O) O) O<|rL0 O (fun g1_26=>zE O kU O) O<|rL1 34 O (fun g1_26=>zJ O kY O (J 0 O) O) O<|rLz [(33,_),(35,_)] O gv1 ⟨O,O,O,O,T⟩ (fun g1_26=>qL O ok100 (base_Axes a.Red b.Red h2 h4) ⟨U,O,U,O,T⟩) O<|yZ O (fun h=>h)<|G O<|rL0 O (fun g1_33=>zE O zCv O) O<|rL1 39 O (fun g1_33=>zU O yG O (J 1 O) O) O<|rL0 O (fun g1_33=>zE O zCv O) O<|rL1 41 O (fun g1_33=>zU O yG O (J 0 O) O) O<|rLz [(40,_),(42,_)] O gv1 ⟨O,O,O,O,T⟩ (fun g1_33=>qL O ok12 (base_Expr a.Body b.Body h5) ⟨U,O,U,O,T⟩) O<|yZ O (fun h=>h)<|G O<|W<|zO<|zV O ?_
 exact congrArg vB (df_eq a b)
theorem zNs (p q:Pg) (hP:p.Ok):
    Pur cfg 15 [vPg p,vPg q] (vB (decide (p=q))):=by
 refine zW Tryz.func15 O Tryz.ntmps15 Tryz.results15 O ?_
 intro z hz
 have hpp:=hP.params
 have hpd:=hP.defs
 refine Y O<|zY O O (qN O O) ?_
 rintro _ _ ⟨b1,rfl,rfl⟩
 refine zY O O (qN O O) ?_
 rintro _ _ ⟨b2,rfl,rfl⟩
 refine G O<|W<|zM<|Y O<|zF O zCl<|zK zBn (J 1 O) O<|zF O zCl<|zK zBn (J 0 O) O<|qQ O ok42 (zOk p.Sizes q.Sizes (Nat.le_trans hP.sizes (by decide))) ⟨U,O,U,O,T⟩<|wE O<|G O<|rL0 O (fun g1_6=>zE O zBu O) O<|rL1 14 O (fun g1_6=>zJ O zHj O (J 1 O) O) O<|rL0 O (fun g1_6=>zE O zBu O) O<|rL1 16 O (fun g1_6=>zJ O zHj O (J 0 O) O) O<|rLz [(15,_),(17,_)] O gv1 ⟨O,O,O,O,T⟩ (fun g1_6=>qL O ok43 (base_Cons p.Where q.Where hP.wh hP.whs) ⟨U,O,U,O,T⟩) O<|rL1 18 O (fun g1_6=>kT O O) O<|r_or O (fun h=>(lzf h))<|G O<|rL0 O (fun g1_14=>zE O zFh O) O<|rL1 22 O (fun g1_14=>zJ O zBn O (J 1 O) O) O<|rL0 O (fun g1_14=>zE O zFh O) O<|rL1 24 O (fun g1_14=>zJ O zBn O (J 0 O) O) O<|rLz [(23,_),(25,_)] O gv1 ⟨O,O,O,O,T⟩ (fun g1_14=>qL O ok42 (zOk p.Outs q.Outs (Nat.le_trans hP.outs (by decide))) ⟨U,O,U,O,T⟩) O<|rL1 26 O (fun g1_14=>kT O O) O<|r_or O (fun h=>(lzf h))<|G O<|rL0 O (fun g1_22=>zE O wM O) O<|rL1 30 O (fun g1_22=>zJ O zBm O (J 1 O) O) O<|rL1 31 O (fun g1_22=>qX O el24 O) O<|rL0 O (fun g1_22=>zE O wM O) O<|rL1 33 O (fun g1_22=>zJ O zBm O (J 0 O) O) O<|rL1 34 O (fun g1_22=>qX O el24 O) O<|rLz [(32,_),(35,_)] O gv1 ⟨O,O,O,O,T⟩ (fun g1_22=>zAg O O O) O<|r_or O (fun h=>(lzf h))<|G O<|rL0 O (fun g1_31=>zE O kV O) O<|rL1 39 O (fun g1_31=>zJ O zAq O (J 1 O) O) O<|rL1 40 O (fun g1_31=>qX O el25 O) O<|rL0 O (fun g1_31=>zE O kV O) O<|rL1 42 O (fun g1_31=>zJ O zAq O (J 0 O) O) O<|rL1 43 O (fun g1_31=>qX O el25 O) O<|rLz [(41,_),(44,_)] O gv1 ⟨O,O,O,O,T⟩ (fun g1_31=>zAg O O O) O<|r_or O (fun h=>(lzf h))<|W<|zH O (fun c1=>?_) (fun c1=>?_)
 ·have hne:=pr_t c1
  refine Y O<|G O<|W<|zO<|zV O ?_
  rw [yD hne]
 ·obtain ⟨k1,k2,k3,k4,k5⟩:=pr_f c1
  refine zN<|zM<|Y O<|G O<|W<|zR<|qC ⟨[(5,.c _),(2,.c _),(3,.c _)],[_,_]⟩ (Weak.mk [true,true] ⟨U,U,U,T⟩ O)<|qG 1 0 O O (Nat) (fun k=>[(5,vI k)]) (fun k=>[]) (fun k=>k<=p.Params.length/\(p.Params.take k=q.Params.take k)) (fun k=>p.Params.length-k) ⟨0,⟨by omega,O⟩,Weak.mk [true,true] ⟨U,U,U,T⟩ O⟩ ?_
  rintro k ⟨hk,hp⟩
  refine zM<|Y O<|G O<|zF O wM<|zK zBm (J 1 O) O<|qB O el24<|yI O<|W<|zH O (fun c2=>?_) (fun c2=>?_)
  ·try simp only [sx] at c2
   obtain ⟨x,hx⟩:=qU p.Params k (by omega)
   obtain ⟨y,hy⟩:=qU q.Params k (by omega)
   refine zN<|zM<|zR<|zM<|qW 44 mixed (by kernel_rfl) O O<|zQ O O (zE O wM O)<|zQ O O (zJ O zBm O (J 1 O) O)<|zQ O O (zS O O)<|zQ O O (qH O el24 O O (by omega) (getm hx))<|zQ O O (qP O zRz O)<|zQ O O (zJ O one9 O qE O)<|zQ O O (zE O wM O)<|zQ O O (zJ O zBm O (J 0 O) O)<|zQ O O (zS O O)<|zQ O O (qH O el24 O O (by omega) (getm hy))<|zQ O O (qP O zRz O)<|zQ O O (zJ O one9 O qE O)<|zQ O O (zEe O O O)<|zQ O O (zS O O)<|qI [] O O O O gv1 T (fun g6_13=>zE O wM O) O<|qI [(68,_)] O O O O gv1 ⟨O,O,T⟩ (fun g6_13=>zJ O zBm O (J 1 O) O) O<|qI [] O O O O gv1 T (fun g6_13=>zS O O) O<|qI [(69,_),(70,_)] O O O O gv1 ⟨O,O,O,O,T⟩ (fun g6_13=>qH O el24 O O (by omega) (getm hx)) O<|qI [(71,_)] O O O O gv1 ⟨O,O,T⟩ (fun g6_13=>qP O fd67_1 O) O<|qI [(72,_)] O O O O gv1 ⟨O,O,T⟩ (fun g6_13=>zU O yO O qE O) O<|qI [] O O O O gv1 T (fun g6_13=>zE O wM O) O<|qI [(74,_)] O O O O gv1 ⟨O,O,T⟩ (fun g6_13=>zJ O zBm O (J 0 O) O) O<|qI [] O O O O gv1 T (fun g6_13=>zS O O) O<|qI [(75,_),(76,_)] O O O O gv1 ⟨O,O,O,O,T⟩ (fun g6_13=>qH O el24 O O (by omega) (getm hy)) O<|qI [(77,_)] O O O O gv1 ⟨O,O,T⟩ (fun g6_13=>qP O fd67_1 O) O<|qI [(78,_)] O O O O gv1 ⟨O,O,T⟩ (fun g6_13=>zU O yO O qE O) O<|qI [(73,_),(79,_)] O O O O gv1 ⟨O,O,O,O,T⟩ (fun g6_13=>zBg O fl37 O O O) O<|zQ O O (zBc O O O O (fun h=>(lzf h)))<|zQ O O (zS O O)<|qI [] O O O O gv1 T (fun g6_28=>zE O wM O) O<|qI [(83,_)] O O O O gv1 ⟨O,O,T⟩ (fun g6_28=>zJ O zBm O (J 1 O) O) O<|qI [] O O O O gv1 T (fun g6_28=>zS O O) O<|qI [(84,_),(85,_)] O O O O gv1 ⟨O,O,O,O,T⟩ (fun g6_28=>qH O el24 O O (by omega) (getm hx)) O<|qI [(86,_)] O O O O gv1 ⟨O,O,T⟩ (fun g6_28=>qP O zCj O) O<|qI [(87,_)] O O O O gv1 ⟨O,O,T⟩ (fun g6_28=>zJ O zAp O qE O) O<|qI [] O O O O gv1 T (fun g6_28=>zE O wM O) O<|qI [(89,_)] O O O O gv1 ⟨O,O,T⟩ (fun g6_28=>zJ O zBm O (J 0 O) O) O<|qI [] O O O O gv1 T (fun g6_28=>zS O O) O<|qI [(90,_),(91,_)] O O O O gv1 ⟨O,O,O,O,T⟩ (fun g6_28=>qH O el24 O O (by omega) (getm hy)) O<|qI [(92,_)] O O O O gv1 ⟨O,O,T⟩ (fun g6_28=>qP O zCj O) O<|qI [(93,_)] O O O O gv1 ⟨O,O,T⟩ (fun g6_28=>zJ O zAp O qE O) O<|qI [(88,_),(94,_)] O O O O gv1 ⟨O,O,O,O,T⟩ (fun g6_28=>qL O ok44 (base_LinsF x.Dims y.Dims (Nat.le_trans (hP.ps x (zX hx)).1 (by decide)) (fun l hl=>Nat.le_trans ((hP.ps x (zX hx)).2 l hl) (by decide))) ⟨U,O,U,O,T⟩) O<|qI [(95,_)] O O O O gv1 ⟨O,O,T⟩ (fun g6_28=>kT O O) O<|zQ O O (zBc O O O O (fun h=>(lzf h)))<|yR<|W<|zH O (fun c3=>?_) (fun c3=>?_)
   ·have hne:=pm_t c3
    refine Y O<|G O<|W<|zO<|zV O ?_
    rw [yD (fun h=>zBt hx hy hne (by rw [h]))]
   ·have heq:=pm_f c3
    refine zN<|zT O<|G O<|qK O ⟨by omega,by omega⟩<|G O<|W ?_
    refine ⟨k+1,⟨by omega,wZ hx hy hp heq⟩,(by omega),Weak.mk [true,true] ⟨U,U,U,T⟩ O⟩
  ·try simp only [sx] at c2
   have hPe:=zBd hp (by omega) k4
   refine qO<|zM<|Y O<|G O<|W<|zR<|qC ⟨[(6,.c _),(2,.c _),(3,.c _)],[_,_]⟩ (Weak.mk [true,true] ⟨U,U,U,T⟩ O)<|qG 1 0 O O (Nat) (fun k=>[(6,vI k)]) (fun k=>[]) (fun k=>k<=p.Defs.length/\(p.Defs.take k=q.Defs.take k)) (fun k=>p.Defs.length-k) ⟨0,⟨by omega,O⟩,Weak.mk [true,true] ⟨U,U,U,T⟩ O⟩ ?_
   rintro k ⟨hk,hq⟩
   refine zM<|Y O<|G O<|zF O kV<|zK zAq (J 1 O) O<|qB O el25<|yI O<|W<|zH O (fun c4=>?_) (fun c4=>?_)
   ·try simp only [sx] at c4
    obtain ⟨x,hx⟩:=qU p.Defs k (by omega)
    obtain ⟨y,hy⟩:=qU q.Defs k (by omega)
    refine zN<|zM<|zR<|zM<|qW 12 mixed (by kernel_rfl) O O<|zQ O O (zE O kV O)<|zQ O O (zJ O zAq O (J 1 O) O)<|zQ O O (zS O O)<|zQ O O (qH O el25 O O (by omega) (getm hx))<|zQ O O (zU O zAi O qE O)<|zQ O O (zE O kV O)<|zQ O O (zJ O zAq O (J 0 O) O)<|zQ O O (zS O O)<|zQ O O (qH O el25 O O (by omega) (getm hy))<|zQ O O (zU O zAi O qE O)<|zQ O O (qL O ok45 (base_Def x y (by have:=(hP.ds x (zX hx)).1;omega) (by have:=(hP.ds x (zX hx)).2.1;omega) (fun a ha=>Nat.le_trans ((hP.ds x (zX hx)).2.2.1 a ha) (by decide)) (fun a ha=>Nat.le_trans ((hP.ds x (zX hx)).2.2.2.1 a ha) (by decide)) (Nat.le_trans (hP.ds x (zX hx)).2.2.2.2 (by decide))) ⟨U,O,U,O,T⟩)<|zQ O O (kT O O)<|yR<|W<|zH O (fun c5=>?_) (fun c5=>?_)
    ·try simp only [sx] at c5
     refine Y O<|G O<|W<|zO<|zV O ?_
     rw [yD (fun h=>zBt hx hy c5 (by rw [h]))]
    ·try simp only [sx] at c5
     refine zN<|zT O<|G O<|qK O ⟨by omega,by omega⟩<|G O<|W ?_
     refine ⟨k+1,⟨by omega,wZ hx hy hq c5⟩,(by omega),Weak.mk [true,true] ⟨U,U,U,T⟩ O⟩
   ·try simp only [sx] at c4
    refine qO<|Y O<|G O<|W<|zO<|zV O ?_
    rw [kR (pg_yes k1 k2 k3 hPe (zBd hq (by omega) k5))]
end Go.W
end
section
set_option maxRecDepth 10000
namespace Go.W
open Go Go.Eng Go.Proofs Go.L41 Go.Br
attribute [local irreducible] AWP RWP TD fL
end Go.W
end
