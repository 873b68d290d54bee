/-
  Walks: what functions of the program compute. Printed by wip/gen/mk2.py.
  Conditions: none.
-/
import Derived.Test.YtkidnhldibjiaaaGreatDoorWD
import Derived.Test.YtkidnhldibjiaaaGreatDoorPlain
set_option linter.unusedSimpArgs false
set_option linter.unusedVariables false
set_option maxRecDepth 10000
namespace Go.W
open Go Go.Eng Go.Proofs Go.L41 Go.Br
attribute [local irreducible] AWP RWP TD finQ
theorem ok12:callOk Tryz.prog 12=true:=by kernel_rfl
theorem ok26:callOk Tryz.prog 26=true:=by kernel_rfl
theorem ok34:callOk Tryz.prog 34=true:=by kernel_rfl
theorem ok35:callOk Tryz.prog 35=true:=by kernel_rfl
theorem ok36:callOk Tryz.prog 36=true:=by kernel_rfl
theorem ok44:callOk Tryz.prog 44=true:=by kernel_rfl
theorem ok80:callOk Tryz.prog 80=true:=by kernel_rfl
theorem ok82:callOk Tryz.prog 82=true:=by kernel_rfl
theorem base_LinsF (a b:List Lf) (ha:a.length<=6000000000000) (hw:∀x,x∈a->x.L.length<=6000000000000):
    Pur cfg 44 [vLins a,vLins b] (vB (decide (a=b))):=by
 refine zR Tryz.func44 O Tryz.ntmps44 Tryz.results44 O ?_
 intro z hz
 refine G O<|Y O<|W<|zG<|G O<|Y O<|zV O el65<|Y O<|zV O el65<|yR O<|W<|zE O (fun c1=>?_) (fun c1=>?_)
 ·try simp only [sx] at c1
  refine G O<|Y O<|W<|zJ<|zP O ?_
  rw [yI (fun h=>c1 (by rw [h]))]
 ·try simp only [sx] at c1
  refine zI<|zG<|G O<|Y O<|W<|zN<|zU ⟨[(5,.c _),(0,.c _),(1,.c _)],[]⟩ (Weak.mk [] ⟨U,U,U,T⟩ O)<|qA 1 0 O O (Nat) (fun k=>[(5,vI k)]) (fun k=>[]) (fun k=>k<=a.length/\(a.take k=b.take k)) (fun k=>a.length-k) ⟨0,⟨by omega,O⟩,Weak.mk [] ⟨U,U,U,T⟩ O⟩ ?_
  rintro k ⟨hk,hp⟩
  refine zG<|G O<|Y O<|Y O<|zV O el65<|qW O<|W<|zE O (fun c2=>?_) (fun c2=>?_)
  ·try simp only [sx] at c2
   obtain ⟨x,hx⟩:=qP a k (by omega)
   obtain ⟨y,hy⟩:=qP b k (by omega)
   refine zI<|zG<|zN<|zG<|qY 10 mixed (by kernel_rfl) O O<|zM O O (zQ O O)<|zM O O (zQ O O)<|zM O O (qJ O el65 O O (by omega) (getm (by assumption)))<|zM O O (zT O kF O zY O)<|zM O O (zQ O O)<|zM O O (zQ O O)<|zM O O (qJ O el65 O O (by omega) (getm (by assumption)))<|zM O O (zT O kF O zY O)<|zM O O (qH O ok34 (zNc x y (hw x (zW hx))) ⟨U,O,U,O,T⟩)<|zM O O (wB O O)<|yT<|W<|zE O (fun c3=>?_) (fun c3=>?_)
   ·try simp only [sx] at c3
    refine G O<|Y O<|W<|zJ<|zP O ?_
    rw [yI (zEj hx hy c3)]
   ·try simp only [sx] at c3
    refine zI<|zO O<|Y O<|qB O ⟨by omega,by omega⟩<|Y O<|W ?_
    refine ⟨k+1,⟨by omega,zBh hx hy hp c3⟩,(by omega),Weak.mk [] ⟨U,U,U,T⟩ O⟩
  ·try simp only [sx] at c2
   refine qE<|G O<|Y O<|W<|zJ<|zP O ?_
   rw [wA (zDb hp (by omega) (by omega))]
theorem base_Lins (a b:List Lf) (ha:a.length<=6000000000000) (hw:linsWt a<=6000000000000):Pur cfg 44 [vLins a,vLins b] (vB (decide (a=b))):=
  base_LinsF a b ha fun x hx=>by have:=zAt hx;omega
theorem base_Index (a b:Ix) (ha:a.wt<=6000000000000):
    Pur cfg 82 [vIndex a,vIndex b] (vB (decide (a=b))):=by
 refine zR Tryz.func82 O Tryz.ntmps82 Tryz.results82 O ?_
 intro z hz
 have hw:=ha
 unfold Ix.wt at hw
 refine G O<|zS O O (qG O O) ?_
 rintro _ _ ⟨b1,rfl,rfl⟩
 refine zS O O (qG O O) ?_
 rintro _ _ ⟨b2,rfl,rfl⟩
 refine Y O<|W<|G O<|zD O wX<|zH one9 (J 1 O) O<|zD O wX<|zH one9 (J 0 O) O<|zX O (yM O O O)<|Y O<|rL0 O (fun g1_5=>zF O zAz O) O<|rL1 11 O (fun g1_5=>zT O kF O (J 1 O) O) O<|rL0 O (fun g1_5=>zF O zAz O) O<|rL1 13 O (fun g1_5=>zT O kF O (J 0 O) O) O<|rLz [(12,_),(14,_)] O gv1 ⟨O,O,O,O,T⟩ (fun g1_5=>qH O ok34 (zNc a.Lin b.Lin (by omega)) ⟨U,O,U,O,T⟩) O<|kD O (fun h=>h)<|Y O<|rL0 O (fun g1_12=>zF O kW O) O<|rL1 18 O (fun g1_12=>zK O zAr O (J 1 O) O) O<|rL0 O (fun g1_12=>zF O kW O) O<|rL1 20 O (fun g1_12=>zK O zAr O (J 0 O) O) O<|rLz [(19,_),(21,_)] O gv1 ⟨O,O,O,O,T⟩ (fun g1_12=>qH O ok44 (base_Lins a.At b.At (by omega) (by omega)) ⟨U,O,U,O,T⟩) O<|kD O (fun h=>h)<|Y O<|W<|zJ<|zP O ?_
 exact congrArg vB (ix_eq a b)
theorem base_Indices (a b:List Ix) (ha:a.length<=6000000000000) (hw:idxWt a<=6000000000000):
    Pur cfg 35 [vIndices a,vIndices b] (vB (decide (a=b))):=by
 refine zR Tryz.func35 O Tryz.ntmps35 Tryz.results35 O ?_
 intro z hz
 refine G O<|Y O<|W<|zG<|G O<|Y O<|zV O el41<|Y O<|zV O el41<|yR O<|W<|zE O (fun c1=>?_) (fun c1=>?_)
 ·try simp only [sx] at c1
  refine G O<|Y O<|W<|zJ<|zP O ?_
  rw [yI (fun h=>c1 (by rw [h]))]
 ·try simp only [sx] at c1
  refine zI<|zG<|G O<|Y O<|W<|zN<|zU ⟨[(5,.c _),(0,.c _),(1,.c _)],[]⟩ (Weak.mk [] ⟨U,U,U,T⟩ O)<|qA 1 0 O O (Nat) (fun k=>[(5,vI k)]) (fun k=>[]) (fun k=>k<=a.length/\(a.take k=b.take k)) (fun k=>a.length-k) ⟨0,⟨by omega,O⟩,Weak.mk [] ⟨U,U,U,T⟩ O⟩ ?_
  rintro k ⟨hk,hp⟩
  refine zG<|G O<|Y O<|Y O<|zV O el41<|qW O<|W<|zE O (fun c2=>?_) (fun c2=>?_)
  ·try simp only [sx] at c2
   obtain ⟨x,hx⟩:=qP a k (by omega)
   obtain ⟨y,hy⟩:=qP b k (by omega)
   have hxw:=zDl (zW hx)
   refine zI<|zG<|zN<|zG<|qY 10 mixed (by kernel_rfl) O O<|zM O O (zQ O O)<|zM O O (zQ O O)<|zM O O (qJ O el41 O O (by omega) (getm (by assumption)))<|zM O O (zT O zAx O zY O)<|zM O O (zQ O O)<|zM O O (zQ O O)<|zM O O (qJ O el41 O O (by omega) (getm (by assumption)))<|zM O O (zT O zAx O zY O)<|zM O O (qH O ok82 (base_Index x y (by omega)) ⟨U,O,U,O,T⟩)<|zM O O (wB O O)<|yT<|W<|zE O (fun c3=>?_) (fun c3=>?_)
   ·try simp only [sx] at c3
    refine G O<|Y O<|W<|zJ<|zP O ?_
    rw [yI (zEj hx hy c3)]
   ·try simp only [sx] at c3
    refine zI<|zO O<|Y O<|qB O ⟨by omega,by omega⟩<|Y O<|W ?_
    refine ⟨k+1,⟨by omega,zBh hx hy hp c3⟩,(by omega),Weak.mk [] ⟨U,U,U,T⟩ O⟩
  ·try simp only [sx] at c2
   refine qE<|G O<|Y O<|W<|zJ<|zP O ?_
   rw [wA (zDb hp (by omega) (by omega))]
theorem base_Exprs_of (a b:List Ex) (hE:∀x,x∈a->∀y,Pur cfg 12 [vE x,vE y] (vB (decide (x=y)))) (ha:a.length<=6000000000000):
    Pur cfg 36 [vEs a,vEs b] (vB (decide (a=b))):=by
 refine zR Tryz.func36 O Tryz.ntmps36 Tryz.results36 O ?_
 intro z hz
 refine G O<|Y O<|W<|zG<|G O<|Y O<|zV O el42<|Y O<|zV O el42<|yR O<|W<|zE O (fun c1=>?_) (fun c1=>?_)
 ·try simp only [sx] at c1
  refine G O<|Y O<|W<|zJ<|zP O ?_
  rw [yI (fun h=>c1 (by rw [h]))]
 ·try simp only [sx] at c1
  refine zI<|zG<|G O<|Y O<|W<|zN<|zU ⟨[(5,.c _),(0,.c _),(1,.c _)],[]⟩ (Weak.mk [] ⟨U,U,U,T⟩ O)<|qA 1 0 O O (Nat) (fun k=>[(5,vI k)]) (fun k=>[]) (fun k=>k<=a.length/\(a.take k=b.take k)) (fun k=>a.length-k) ⟨0,⟨by omega,O⟩,Weak.mk [] ⟨U,U,U,T⟩ O⟩ ?_
  rintro k ⟨hk,hp⟩
  refine zG<|G O<|Y O<|Y O<|zV O el42<|qW O<|W<|zE O (fun c2=>?_) (fun c2=>?_)
  ·try simp only [sx] at c2
   obtain ⟨x,hx⟩:=qP a k (by omega)
   obtain ⟨y,hy⟩:=qP b k (by omega)
   refine zI<|zG<|zN<|zG<|qY 10 mixed (by kernel_rfl) O O<|zM O O (zQ O O)<|zM O O (zQ O O)<|zM O O (qJ O el42 O O (by omega) (zBr (by assumption)))<|zM O O (zT O qZ O zY O)<|zM O O (zQ O O)<|zM O O (zQ O O)<|zM O O (qJ O el42 O O (by omega) (zBr (by assumption)))<|zM O O (zT O qZ O zY O)<|zM O O (qH O ok12 (hE x (zW hx) y) ⟨U,O,U,O,T⟩)<|zM O O (wB O O)<|yT<|W<|zE O (fun c3=>?_) (fun c3=>?_)
   ·try simp only [sx] at c3
    refine G O<|Y O<|W<|zJ<|zP O ?_
    rw [yI (zEj hx hy c3)]
   ·try simp only [sx] at c3
    refine zI<|zO O<|Y O<|qB O ⟨by omega,by omega⟩<|Y O<|W ?_
    refine ⟨k+1,⟨by omega,zBh hx hy hp c3⟩,(by omega),Weak.mk [] ⟨U,U,U,T⟩ O⟩
  ·try simp only [sx] at c2
   refine qE<|G O<|Y O<|W<|zJ<|zP O ?_
   rw [wA (zDb hp (by omega) (by omega))]
theorem base_Expr_step (a:Ex) (ih:∀x,x∈a.Args->x.wt<=6000000000000->∀y,Pur cfg 12 [vE x,vE y] (vB (decide (x=y)))) (ha:a.wt<=6000000000000) (b:Ex):
    Pur cfg 12 [vE a,vE b] (vB (decide (a=b))):=by
 refine zR Tryz.func12 O Tryz.ntmps12 Tryz.results12 O ?_
 intro z hz
 obtain ⟨hL,hI,hA⟩:=a.parts ha
 have hw:=Ex.wt_eq a
 refine G O<|zS O O (qG O O) ?_
 rintro _ _ ⟨b1,rfl,rfl⟩
 refine zS O O (qG O O) ?_
 rintro _ _ ⟨b2,rfl,rfl⟩
 refine Y O<|W<|G O<|zD O yY<|zH one3 (J 1 O) O<|zD O yY<|zH one3 (J 0 O) O<|yG O<|Y O<|rL0 O (fun g1_5=>zF O zFm O) O<|rL1 11 O (fun g1_5=>zK O one9 O (J 1 O) O) O<|rL0 O (fun g1_5=>zF O zFm O) O<|rL1 13 O (fun g1_5=>zK O one9 O (J 0 O) O) O<|rLz [(12,_),(14,_)] O gv1 ⟨O,O,O,O,T⟩ (fun g1_5=>yM O O O) O<|kD O (fun h=>h)<|Y O<|rL0 O (fun g1_12=>zF O zHq O) O<|rL1 18 O (fun g1_12=>zT O agg35 O (J 1 O) O) O<|rL0 O (fun g1_12=>zF O zHq O) O<|rL1 20 O (fun g1_12=>zT O agg35 O (J 0 O) O) O<|rLz [(19,_),(21,_)] O gv1 ⟨O,O,O,O,T⟩ (fun g1_12=>det_aeql O fl35 O O O) O<|kD O (fun h=>h)<|Y O<|rL0 O (fun g1_19=>zF O zEm O) O<|rL1 25 O (fun g1_19=>zT O yD O (J 1 O) O) O<|rL0 O (fun g1_19=>zF O zEm O) O<|rL1 27 O (fun g1_19=>zT O yD O (J 0 O) O) O<|rLz [(26,_),(28,_)] O gv1 ⟨O,O,O,O,T⟩ (fun g1_19=>det_aeql O fl37 O O O) O<|kD O (fun h=>h)<|Y O<|rL0 O (fun g1_26=>zF O zCo O) O<|rL1 32 O (fun g1_26=>zT O kF O (J 1 O) O) O<|rL0 O (fun g1_26=>zF O zCo O) O<|rL1 34 O (fun g1_26=>zT O kF O (J 0 O) O) O<|rLz [(33,_),(35,_)] O gv1 ⟨O,O,O,O,T⟩ (fun g1_26=>qH O ok34 (zNc a.Lin b.Lin hL) ⟨U,O,U,O,T⟩) O<|kD O (fun h=>h)<|Y O<|rL0 O (fun g1_33=>zF O kC O) O<|rL1 39 O (fun g1_33=>zK O wK O (J 1 O) O) O<|rL0 O (fun g1_33=>zF O kC O) O<|rL1 41 O (fun g1_33=>zK O wK O (J 0 O) O) O<|rLz [(40,_),(42,_)] O gv1 ⟨O,O,O,O,T⟩ (fun g1_33=>qH O ok35 (base_Indices a.Idx b.Idx hI (by omega)) ⟨U,O,U,O,T⟩) O<|kD O (fun h=>h)<|Y O<|rL0 O (fun g1_40=>zF O kG O) O<|rL1 46 O (fun g1_40=>zK O wS O (J 1 O) O) O<|rL0 O (fun g1_40=>zF O kG O) O<|rL1 48 O (fun g1_40=>zK O wS O (J 0 O) O) O<|rLz [(47,_),(49,_)] O gv1 ⟨O,O,O,O,T⟩ (fun g1_40=>qH O ok36 (base_Exprs_of a.Args b.Args (fun x hx y=>ih x hx (by have:=Ex.arg_wt hx;omega) y) hA) ⟨U,O,U,O,T⟩) O<|kD O (fun h=>h)<|Y O<|W<|zJ<|zP O ?_
 exact congrArg vB (ex_eq a b)
theorem zGn (a b:Ex) (ha:a.wt<=6000000000000):Pur cfg 12 [vE a,vE b] (vB (decide (a=b))):=by
  induction a using Ex.ind generalizing b with
  |_ a ih=>exact base_Expr_step a (fun x hx h y=>ih x hx y h) ha b
theorem zQf (e:Ex) (ih:∀a,a∈e.Args->∀(m:Nat) (x:Int),a.fit->m<=1000000->x=m->Pur cfg 26 [vE a,vI x] (vI (weighE a m))) (m:Nat) (x:Int) (hf:e.fit) (hm:m<=1000000) (hx:x=m):
    Pur cfg 26 [vE e,vI x] (vI (weighE e m)):=by
 refine zR Tryz.func26 O Tryz.ntmps26 Tryz.results26 O ?_
 intro z hz
 obtain ⟨f1,f2,f3,f4,f5⟩:=Ex.fit_eq hf
 have hW:=weighE_eq e m
 refine G O<|zS O O (qG O O) ?_
 rintro _ _ ⟨b1,rfl,rfl⟩
 refine Y O<|W<|G O<|zD O zCo<|zD O kR<|zH zAm (J 0 O) O<|zV O el38<|qB O ⟨by omega,by omega⟩<|zD O kC<|zH wK (J 0 O) O<|zV O el41<|qB O ⟨by omega,by omega⟩<|Y O<|W<|zG<|G O<|Y O<|W<|zN<|zU ⟨[(6,.c _),(5,.c _),(1,.c _),(2,.c _)],[_]⟩ (Weak.mk [true] ⟨U,U,U,U,T⟩ O) ?_
 refine qA 2 0 O O (Nat×Nat) (fun ⟨k,n⟩=>[(6,vI k),(5,vI n)]) (fun ⟨k,n⟩=>[]) (fun ⟨k,n⟩=>k<=e.Idx.length/\(n<=m+4*140737488355328)/\(weighIdx m (1+e.Lin.L.length+e.Idx.length) e.Idx=weighIdx m n (e.Idx.drop k))) (fun ⟨k,n⟩=>e.Idx.length-k) ⟨⟨0,1+e.Lin.L.length+e.Idx.length⟩,⟨by omega,by omega,O⟩,Weak.mk [true] ⟨U,VLe.of_eq (congrArg vI (by omega)),U,U,T⟩ O⟩ ?_
 rintro ⟨k,n⟩ ⟨hk,hn1,hn2⟩
 show AWP _ _ _ _ _ ⟨[(6,vI k),(5,vI n)]++_,[]++_⟩
 refine zG<|G O<|Y O<|zD O kC<|zH wK (J 0 O) O<|zV O el41<|qW O<|Y O<|rL0 O (fun g3_5=>zQ O O) O<|rL0 O (fun g3_5=>zQ O O) O<|rLz [(24,_),(25,_)] O gv1 ⟨O,O,O,O,T⟩ (fun g3_5=>kO O O O) O<|kD O (fun h=>h)<|W<|zE O (fun c1=>?_) (fun c1=>?_)
 ·try simp only [sx] at c1
  obtain ⟨y,hy⟩:=qP e.Idx k (by omega)
  obtain ⟨i1,i2,i3⟩:=f4 y (zW hy)
  refine zI<|zG<|zN<|zG<|qY 19 mixed (by kernel_rfl) O O<|zM O O (zQ O O)<|zM O O (zF O kC O)<|zM O O (zK O wK O (J 0 O) O)<|zM O O (zQ O O)<|zM O O (qJ O el41 O O (by omega) (getm (by assumption)))<|zM O O (qQ O zAz O)<|zM O O (qQ O kR O)<|zM O O (zK O zAm O zY O)<|zM O O (qU O el38 O)<|zM O O (zEq O O O ⟨by omega,by omega⟩)<|zM O O (zF O kC O)<|zM O O (zK O wK O (J 0 O) O)<|zM O O (zQ O O)<|zM O O (qJ O el41 O O (by omega) (getm (by assumption)))<|zM O O (qQ O kW O)<|zM O O (zK O zAr O zY O)<|zM O O (qU O el65 O)<|zM O O (zEq O O O ⟨by omega,by omega⟩)<|zM O O (yV O O)<|yT<|W<|G O<|Y O<|W<|zN<|zU ⟨[(7,.c _),(5,.c _),(1,.c _),(2,.c _),(6,.c _)],[_]⟩ (Weak.mk [true] ⟨U,U,U,U,U,T⟩ O) ?_
  refine qA 2 0 O O (Nat×Nat) (fun ⟨j,p⟩=>[(7,vI j),(5,vI p)]) (fun ⟨j,p⟩=>[]) (fun ⟨j,p⟩=>j<=y.At.length/\(p<=m+4*140737488355328)/\(weighAt m (n+y.Lin.L.length+y.At.length) y.At=weighAt m p (y.At.drop j))) (fun ⟨j,p⟩=>y.At.length-j) ⟨⟨0,n+y.Lin.L.length+y.At.length⟩,⟨by omega,by omega,O⟩,Weak.mk [true] ⟨U,VLe.of_eq (congrArg vI (by omega)),U,U,U,T⟩ O⟩ ?_
  rintro ⟨j,p⟩ ⟨hj,hp1,hp2⟩
  show AWP _ _ _ _ _ ⟨[(7,vI j),(5,vI p)]++_,[]++_⟩
  refine zG<|G O<|Y O<|zD O kC<|zH wK (J 0 O) O<|Y O<|zZ O el41 (by omega) (getm (by assumption))<|qN O kW<|zH zAr zY O<|zV O el65<|qW O<|Y O<|rL0 O (fun g7_9=>zQ O O) O<|rL0 O (fun g7_9=>zQ O O) O<|rLz [(58,_),(59,_)] O gv1 ⟨O,O,O,O,T⟩ (fun g7_9=>kO O O O) O<|kD O (fun h=>h)<|W<|zE O (fun c2=>?_) (fun c2=>?_)
  ·try simp only [sx] at c2
   obtain ⟨l,hl⟩:=qP y.At j (by omega)
   have hl2:=i3 l (zW hl)
   refine zI<|zG<|zN<|zO O<|Y O<|zD O kC<|zH wK (J 0 O) O<|Y O<|zZ O el41 (by omega) (getm (by assumption))<|qN O kW<|zH zAr zY O<|Y O<|zZ O el65 (by omega) (getm (by assumption))<|qN O kR<|zH zAm zY O<|zV O el38<|qB O ⟨by omega,by omega⟩<|Y O<|W<|zO O<|Y O<|qB O ⟨by omega,by omega⟩<|Y O<|W ?_
   refine ⟨⟨j+1,p+l.L.length⟩,⟨by omega,by omega,by rw [hp2,qI hl,weighAt,if_pos (by omega)]⟩,(by show y.At.length-(j+1)<y.At.length-j;omega),Weak.mk [true] ⟨U,VLe.of_eq (congrArg vI (by omega)),U,U,U,T⟩ O⟩
  ·try simp only [sx] at c2
   have hN2:=weighAt_end (l:=y.At) (k:=j) (n:=p) hx (by omega)
   refine qE<|zO O<|Y O<|qB O ⟨by omega,by omega⟩<|Y O<|W ?_
   refine ⟨⟨k+1,p⟩,⟨by omega,hp1,by rw [hn2,qI hy,weighIdx,if_pos (by omega),hp2,←hN2]⟩,(by show e.Idx.length-(k+1)<e.Idx.length-k;omega),Weak.mk [true] ⟨U,U,U,U,T⟩ O⟩
 ·try simp only [sx] at c1
  have hN:=weighIdx_end (l:=e.Idx) (k:=k) (n:=n) hx (by omega)
  refine qE<|zG<|G O<|Y O<|W<|zN<|zU ⟨[(8,.c _),(5,.c _),(1,.c _),(2,.c _)],[_]⟩ (Weak.mk [true] ⟨U,U,U,U,T⟩ O)<|qA 2 0 O O (Nat×Nat) (fun ⟨k,n⟩=>[(8,vI k),(5,vI n)]) (fun ⟨k,n⟩=>[]) (fun ⟨k,n⟩=>k<=e.Args.length/\(n<=m+4*140737488355328)/\(weighE e m=weighL (e.Args.drop k) m n)) (fun ⟨k,n⟩=>e.Args.length-k) ⟨⟨0,n⟩,⟨by omega,hn1,by rw [hW,hn2,←hN];rfl⟩,Weak.mk [true] ⟨U,U,U,U,T⟩ O⟩ ?_
  rintro ⟨k,n⟩ ⟨hk3,hn3,hn4⟩
  show AWP _ _ _ _ _ ⟨[(8,vI k),(5,vI n)]++_,[]++_⟩
  refine zG<|G O<|Y O<|zD O kG<|zH wS (J 0 O) O<|zV O el42<|qW O<|Y O<|rL0 O (fun g11_5=>zQ O O) O<|rL0 O (fun g11_5=>zQ O O) O<|rLz [(83,_),(84,_)] O gv1 ⟨O,O,O,O,T⟩ (fun g11_5=>kO O O O) O<|kD O (fun h=>h)<|W<|zE O (fun c3=>?_) (fun c3=>?_)
  ·try simp only [sx] at c3
   obtain ⟨a,ha⟩:=qP e.Args k (by omega)
   have hwa:=zNi a (m-n) (f5 a (zW ha))
   refine zI<|zG<|zN<|zO O<|Y O<|zD O kG<|zH wS (J 0 O) O<|Y O<|zZ O el42 (by omega) (zBr (by assumption))<|zL qZ zY O<|Y O<|Y O<|zX O (wY O O O ⟨by omega,by omega⟩)<|qK O ok26 (ih a (zW ha) (m-n) _ (f5 a (zW ha)) (by omega) (by omega)) ⟨U,O,U,O,T⟩<|qB O ⟨by omega,by omega⟩<|Y O<|W<|zO O<|Y O<|qB O ⟨by omega,by omega⟩<|Y O<|W ?_
   refine ⟨⟨k+1,n+weighE a (m-n)⟩,⟨by omega,by omega,by rw [hn4,qI ha,weighL,if_pos (by omega)]⟩,(by show e.Args.length-(k+1)<e.Args.length-k;omega),Weak.mk [true] ⟨U,VLe.of_eq (congrArg vI (by omega)),U,U,T⟩ O⟩
  ·try simp only [sx] at c3
   refine qE<|G O<|Y O<|Y O<|W<|zJ<|zP O ?_
   exact congrArg vI (by rw [hn4,←weighL_end hx (by omega)])
theorem base_Weigh (e:Ex) (m:Nat) (x:Int) (hf:e.fit) (hm:m<=1000000) (hx:x=m):Pur cfg 26 [vE e,vI x] (vI (weighE e m)):=by
  induction e using Ex.ind generalizing m x with
  |_ e ih=>exact zQf e (fun a ha m x h1 h2 h3=>ih a ha m x h1 h2 h3) m x hf hm hx
theorem zEe (l:List Mono) (hl:l.length<=5864062014805):
    OwnR cfg 80 [vMonos l] 107 2 (l.map Mono.cells):=by
 refine zR Tryz.func80 O Tryz.ntmps80 Tryz.results80 O ?_
 intro z hz
 refine G O<|zX O (yA 2 O O)<|W<|zG<|G O<|Y O<|zS O O (zFx O el38 O O) ?_
 rintro _ _ ⟨nb1,rfl,hnil1,rfl⟩
 refine W<|zE O (fun c1=>?_) (fun c1=>?_)
 ·try simp only [sx] at c1
  refine G O<|Y O<|qV _ (yH 107 2)<|W<|zJ<|zP O ?_
  exact ⟨_,O,by rw [hnil1 c1]⟩
 ·try simp only [sx] at c1
  refine zI<|G O<|zS O O (zAq O el38 zIo O O O O) ?_
  rintro _ _ ⟨sv3,rfl,rfl⟩
  refine Y O<|zS O O (qO 0 O el38 O O O (by simp only [List.length_map,List.length_nil,Nat.zero_add];omega) (by simp only [List.length_map,List.length_nil,Nat.zero_add];omega)) ?_
  rintro _ _ ⟨sv4,rfl,rfl⟩
  refine Y O<|W<|zJ<|zP O ?_
  exact ⟨_,O,O⟩
theorem zMf (l:List Lf) (hl:l.length<=4294967296):
    OwnR cfg 150 [vLins l] 40 2 (l.map Lf.cells):=by
 refine zR Tryz.func150 O Tryz.ntmps150 Tryz.results150 O ?_
 intro z hz
 refine G O<|zX O (yA 2 O O)<|W<|zG<|G O<|Y O<|zS O O (zFx O el65 O O) ?_
 rintro _ _ ⟨nb1,rfl,hnil1,rfl⟩
 refine W<|zE O (fun c1=>?_) (fun c1=>?_)
 ·try simp only [sx] at c1
  refine G O<|Y O<|qV _ (yH 40 2)<|W<|zJ<|zP O ?_
  exact ⟨_,O,by rw [hnil1 c1]⟩
 ·try simp only [sx] at c1
  refine zI<|G O<|zS O O (zAq O el65 zr40 O O O O) ?_
  rintro _ _ ⟨sv3,rfl,rfl⟩
  refine Y O<|zS O O (qO 0 O el65 O O O (by simp only [List.length_map,List.length_nil,Nat.zero_add];omega) (by simp only [List.length_map,List.length_nil,Nat.zero_add];omega)) ?_
  rintro _ _ ⟨sv4,rfl,rfl⟩
  refine Y O<|W<|zJ<|zP O ?_
  exact ⟨_,O,O⟩
theorem zNt (l:List Ix) (hl:l.length<=4294967296):
    OwnR cfg 149 [vIndices l] 115 4 (l.map Ix.cells):=by
 refine zR Tryz.func149 O Tryz.ntmps149 Tryz.results149 O ?_
 intro z hz
 refine G O<|zX O (yA 4 O O)<|W<|zG<|G O<|Y O<|zS O O (zFx O el41 O O) ?_
 rintro _ _ ⟨nb1,rfl,hnil1,rfl⟩
 refine W<|zE O (fun c1=>?_) (fun c1=>?_)
 ·try simp only [sx] at c1
  refine G O<|Y O<|qV _ (yH 115 4)<|W<|zJ<|zP O ?_
  exact ⟨_,O,by rw [hnil1 c1]⟩
 ·try simp only [sx] at c1
  refine zI<|G O<|zS O O (zAq O el41 zDp O O O O) ?_
  rintro _ _ ⟨sv3,rfl,rfl⟩
  refine Y O<|zS O O (qO 0 O el41 O O O (by simp only [List.length_map,List.length_nil,Nat.zero_add];omega) (by simp only [List.length_map,List.length_nil,Nat.zero_add];omega)) ?_
  rintro _ _ ⟨sv4,rfl,rfl⟩
  refine Y O<|W<|zJ<|zP O ?_
  exact ⟨_,O,O⟩
theorem zNu (l:List Ex) (hl:l.length<=4294967296):
    OwnR cfg 151 [vEs l] 44 13 (l.map Ex.cells):=by
 refine zR Tryz.func151 O Tryz.ntmps151 Tryz.results151 O ?_
 intro z hz
 refine G O<|zX O (yA 13 O O)<|W<|zG<|G O<|Y O<|zS O O (zFx O el42 O O) ?_
 rintro _ _ ⟨nb1,rfl,hnil1,rfl⟩
 refine W<|zE O (fun c1=>?_) (fun c1=>?_)
 ·try simp only [sx] at c1
  refine G O<|Y O<|qV _ (yH 44 13)<|W<|zJ<|zP O ?_
  exact ⟨_,O,by rw [hnil1 c1]⟩
 ·try simp only [sx] at c1
  refine zI<|G O<|zS O O (zAq O el42 zr44 O O O O) ?_
  rintro _ _ ⟨sv3,rfl,rfl⟩
  refine Y O<|zS O O (qO 0 O el42 O O O (by simp only [List.length_map,List.length_nil,Nat.zero_add];omega) (by simp only [List.length_map,List.length_nil,Nat.zero_add];omega)) ?_
  rintro _ _ ⟨sv4,rfl,rfl⟩
  refine Y O<|W<|zJ<|zP O ?_
  exact ⟨_,O,O⟩
theorem expr_Copy_1 (l:Lf) (hl:l.L.length<=5864062014805):
    Pur cfg 79 [vLin l] (.tup [vLin (idF l).1,vI (idF l).2]):=by
 refine zR Tryz.func79 O Tryz.ntmps79 Tryz.results79 O ?_
 intro z hz
 refine G O<|zS O O (qG O O) ?_
 rintro _ _ ⟨b1,rfl,rfl⟩
 refine zS O O (qD [none,some 2] O zr40 O) ?_
 rintro _ _ ⟨b2,rfl,rfl⟩
 refine Y O<|W<|zG<|qY 6 mixed (by kernel_rfl) O O<|zM O O (zF O zFn O)<|zM O O (zK O one2 O (J 1 O) O)<|zM O O (zF O kR O)<|zM O O (zK O zAm O (J 1 O) O)<|zM O O (qH O ok80 (OwnR.pur (zEe l.L hl)) ⟨U,O,T⟩)<|zM O O (kV O zr40 pl40 O)<|yT<|N 0 sz40 O<|Y O<|W<|zJ<|fin2 (qF kF O (J 0 O) O) (v O) ?_
 exact O
end Go.W
