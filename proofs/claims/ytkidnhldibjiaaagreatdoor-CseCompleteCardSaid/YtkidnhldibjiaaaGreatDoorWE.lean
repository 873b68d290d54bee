/-
  Walks: what functions of the program compute. Printed by wip/gen/mk2.py.
  Conditions: none.
-/
import Derived.Test.YtkidnhldibjiaaaGreatDoorWD
import Derived.Test.YtkidnhldibjiaaaGreatDoorPlain
set_option linter.unusedSimpArgs false
set_option linter.unusedVariables false
set_option maxRecDepth 10000
namespace Go.W
open Go Go.Eng Go.Proofs Go.L41 Go.Br
attribute [local irreducible] AWP RWP TD finQ
theorem ok12:callOk Tryz.prog 12=true:=by kernel_rfl
theorem ok26:callOk Tryz.prog 26=true:=by kernel_rfl
theorem ok34:callOk Tryz.prog 34=true:=by kernel_rfl
theorem ok35:callOk Tryz.prog 35=true:=by kernel_rfl
theorem ok36:callOk Tryz.prog 36=true:=by kernel_rfl
theorem ok44:callOk Tryz.prog 44=true:=by kernel_rfl
theorem ok80:callOk Tryz.prog 80=true:=by kernel_rfl
theorem ok82:callOk Tryz.prog 82=true:=by kernel_rfl
theorem base_LinsF (a b:List Lf) (ha:a.length<=6000000000000) (hw:∀x,x∈a->x.L.length<=6000000000000):
    Pur cfg 44 [vLins a,vLins b] (vB (decide (a=b))):=by
 refine zQ Tryz.func44 O Tryz.ntmps44 Tryz.results44 O ?_
 intro z hz
 refine G O<|Y O<|W<|zG<|G O<|Y O<|zU O el65<|Y O<|zU O el65<|yR O<|W<|zF O (fun c1=>?_) (fun c1=>?_)
 ·try simp only [sx] at c1
  refine G O<|Y O<|W<|zJ<|zP O ?_
  rw [yF (fun h=>c1 (by rw [h]))]
 ·try simp only [sx] at c1
  refine zI<|zG<|G O<|Y O<|W<|zN<|zV ⟨[(5,.c _),(0,.c _),(1,.c _)],[]⟩ (Weak.mk [] ⟨U,U,U,T⟩ O)<|zZ 1 0 O O (Nat) (fun k=>[(5,vI k)]) (fun k=>[]) (fun k=>k<=a.length/\(a.take k=b.take k)) (fun k=>a.length-k) ⟨0,⟨by omega,O⟩,Weak.mk [] ⟨U,U,U,T⟩ O⟩ ?_
  rintro k ⟨hk,hp⟩
  refine zG<|G O<|Y O<|Y O<|zU O el65<|qW O<|W<|zF O (fun c2=>?_) (fun c2=>?_)
  ·try simp only [sx] at c2
   obtain ⟨x,hx⟩:=qO a k (by omega)
   obtain ⟨y,hy⟩:=qO b k (by omega)
   refine zI<|zG<|zN<|zG<|qX 10 mixed (by kernel_rfl) O O<|zM O O (zS O O)<|zM O O (zS O O)<|zM O O (qN O el65 O O (by omega) (getm (by assumption)))<|zM O O (zW O kE O qA O)<|zM O O (zS O O)<|zM O O (zS O O)<|zM O O (qN O el65 O O (by omega) (getm (by assumption)))<|zM O O (zW O kE O qA O)<|zM O O (qI O ok34 (base_Lin x y (hw x (zX hx))) ⟨U,O,U,O,T⟩)<|zM O O (wG O O)<|yW<|W<|zF O (fun c3=>?_) (fun c3=>?_)
   ·try simp only [sx] at c3
    refine G O<|Y O<|W<|zJ<|zP O ?_
    rw [yF (zFu hx hy c3)]
   ·try simp only [sx] at c3
    refine zI<|zO O<|Y O<|qB O ⟨by omega,by omega⟩<|Y O<|W ?_
    refine ⟨k+1,⟨by omega,zCa hx hy hp c3⟩,(by omega),Weak.mk [] ⟨U,U,U,T⟩ O⟩
  ·try simp only [sx] at c2
   refine qF<|G O<|Y O<|W<|zJ<|zP O ?_
   rw [wB (zEj hp (by omega) (by omega))]
theorem base_Lins (a b:List Lf) (ha:a.length<=6000000000000) (hw:linsWt a<=6000000000000):Pur cfg 44 [vLins a,vLins b] (vB (decide (a=b))):=
  base_LinsF a b ha fun x hx=>by have:=zBg hx;omega
theorem base_Index (a b:Ix) (ha:a.wt<=6000000000000):
    Pur cfg 82 [vIndex a,vIndex b] (vB (decide (a=b))):=by
 refine zQ Tryz.func82 O Tryz.ntmps82 Tryz.results82 O ?_
 intro z hz
 have hw:=ha
 unfold Ix.wt at hw
 refine G O<|zR O O (qG O O) ?_
 rintro _ _ ⟨b1,rfl,rfl⟩
 refine zR O O (qG O O) ?_
 rintro _ _ ⟨b2,rfl,rfl⟩
 refine Y O<|W<|G O<|zE O wT<|zH one9 (J 1 O) O<|zE O wT<|zH one9 (J 0 O) O<|zT O (yH O O O)<|Y O<|rL0 O (fun g1_5=>zD O zBb O) O<|rL1 11 O (fun g1_5=>zW O kE O (J 1 O) O) O<|rL0 O (fun g1_5=>zD O zBb O) O<|rL1 13 O (fun g1_5=>zW O kE O (J 0 O) O) O<|rLz [(12,_),(14,_)] O gv1 ⟨O,O,O,O,T⟩ (fun g1_5=>qI O ok34 (base_Lin a.Lin b.Lin (by omega)) ⟨U,O,U,O,T⟩) O<|yY O (fun h=>h)<|Y O<|rL0 O (fun g1_12=>zD O kV O) O<|rL1 18 O (fun g1_12=>zK O zAr O (J 1 O) O) O<|rL0 O (fun g1_12=>zD O kV O) O<|rL1 20 O (fun g1_12=>zK O zAr O (J 0 O) O) O<|rLz [(19,_),(21,_)] O gv1 ⟨O,O,O,O,T⟩ (fun g1_12=>qI O ok44 (base_Lins a.At b.At (by omega) (by omega)) ⟨U,O,U,O,T⟩) O<|yY O (fun h=>h)<|Y O<|W<|zJ<|zP O ?_
 exact congrArg vB (ix_eq a b)
theorem base_Indices (a b:List Ix) (ha:a.length<=6000000000000) (hw:idxWt a<=6000000000000):
    Pur cfg 35 [vIndices a,vIndices b] (vB (decide (a=b))):=by
 refine zQ Tryz.func35 O Tryz.ntmps35 Tryz.results35 O ?_
 intro z hz
 refine G O<|Y O<|W<|zG<|G O<|Y O<|zU O D<|Y O<|zU O D<|yR O<|W<|zF O (fun c1=>?_) (fun c1=>?_)
 ·try simp only [sx] at c1
  refine G O<|Y O<|W<|zJ<|zP O ?_
  rw [yF (fun h=>c1 (by rw [h]))]
 ·try simp only [sx] at c1
  refine zI<|zG<|G O<|Y O<|W<|zN<|zV ⟨[(5,.c _),(0,.c _),(1,.c _)],[]⟩ (Weak.mk [] ⟨U,U,U,T⟩ O)<|zZ 1 0 O O (Nat) (fun k=>[(5,vI k)]) (fun k=>[]) (fun k=>k<=a.length/\(a.take k=b.take k)) (fun k=>a.length-k) ⟨0,⟨by omega,O⟩,Weak.mk [] ⟨U,U,U,T⟩ O⟩ ?_
  rintro k ⟨hk,hp⟩
  refine zG<|G O<|Y O<|Y O<|zU O D<|qW O<|W<|zF O (fun c2=>?_) (fun c2=>?_)
  ·try simp only [sx] at c2
   obtain ⟨x,hx⟩:=qO a k (by omega)
   obtain ⟨y,hy⟩:=qO b k (by omega)
   have hxw:=zEf (zX hx)
   refine zI<|zG<|zN<|zG<|qX 10 mixed (by kernel_rfl) O O<|zM O O (zS O O)<|zM O O (zS O O)<|zM O O (qN O D O O (by omega) (getm (by assumption)))<|zM O O (zW O zAp O qA O)<|zM O O (zS O O)<|zM O O (zS O O)<|zM O O (qN O D O O (by omega) (getm (by assumption)))<|zM O O (zW O zAp O qA O)<|zM O O (qI O ok82 (base_Index x y (by omega)) ⟨U,O,U,O,T⟩)<|zM O O (wG O O)<|yW<|W<|zF O (fun c3=>?_) (fun c3=>?_)
   ·try simp only [sx] at c3
    refine G O<|Y O<|W<|zJ<|zP O ?_
    rw [yF (zFu hx hy c3)]
   ·try simp only [sx] at c3
    refine zI<|zO O<|Y O<|qB O ⟨by omega,by omega⟩<|Y O<|W ?_
    refine ⟨k+1,⟨by omega,zCa hx hy hp c3⟩,(by omega),Weak.mk [] ⟨U,U,U,T⟩ O⟩
  ·try simp only [sx] at c2
   refine qF<|G O<|Y O<|W<|zJ<|zP O ?_
   rw [wB (zEj hp (by omega) (by omega))]
theorem base_Exprs_of (a b:List Ex) (hE:∀x,x∈a->∀y,Pur cfg 12 [vE x,vE y] (vB (decide (x=y)))) (ha:a.length<=6000000000000):
    Pur cfg 36 [vEs a,vEs b] (vB (decide (a=b))):=by
 refine zQ Tryz.func36 O Tryz.ntmps36 Tryz.results36 O ?_
 intro z hz
 refine G O<|Y O<|W<|zG<|G O<|Y O<|zU O el42<|Y O<|zU O el42<|yR O<|W<|zF O (fun c1=>?_) (fun c1=>?_)
 ·try simp only [sx] at c1
  refine G O<|Y O<|W<|zJ<|zP O ?_
  rw [yF (fun h=>c1 (by rw [h]))]
 ·try simp only [sx] at c1
  refine zI<|zG<|G O<|Y O<|W<|zN<|zV ⟨[(5,.c _),(0,.c _),(1,.c _)],[]⟩ (Weak.mk [] ⟨U,U,U,T⟩ O)<|zZ 1 0 O O (Nat) (fun k=>[(5,vI k)]) (fun k=>[]) (fun k=>k<=a.length/\(a.take k=b.take k)) (fun k=>a.length-k) ⟨0,⟨by omega,O⟩,Weak.mk [] ⟨U,U,U,T⟩ O⟩ ?_
  rintro k ⟨hk,hp⟩
  refine zG<|G O<|Y O<|Y O<|zU O el42<|qW O<|W<|zF O (fun c2=>?_) (fun c2=>?_)
  ·try simp only [sx] at c2
   obtain ⟨x,hx⟩:=qO a k (by omega)
   obtain ⟨y,hy⟩:=qO b k (by omega)
   refine zI<|zG<|zN<|zG<|qX 10 mixed (by kernel_rfl) O O<|zM O O (zS O O)<|zM O O (zS O O)<|zM O O (qN O el42 O O (by omega) (zDt (by assumption)))<|zM O O (zW O qY O qA O)<|zM O O (zS O O)<|zM O O (zS O O)<|zM O O (qN O el42 O O (by omega) (zDt (by assumption)))<|zM O O (zW O qY O qA O)<|zM O O (qI O ok12 (hE x (zX hx) y) ⟨U,O,U,O,T⟩)<|zM O O (wG O O)<|yW<|W<|zF O (fun c3=>?_) (fun c3=>?_)
   ·try simp only [sx] at c3
    refine G O<|Y O<|W<|zJ<|zP O ?_
    rw [yF (zFu hx hy c3)]
   ·try simp only [sx] at c3
    refine zI<|zO O<|Y O<|qB O ⟨by omega,by omega⟩<|Y O<|W ?_
    refine ⟨k+1,⟨by omega,zCa hx hy hp c3⟩,(by omega),Weak.mk [] ⟨U,U,U,T⟩ O⟩
  ·try simp only [sx] at c2
   refine qF<|G O<|Y O<|W<|zJ<|zP O ?_
   rw [wB (zEj hp (by omega) (by omega))]
theorem base_Expr_step (a:Ex) (ih:∀x,x∈a.Args->x.wt<=6000000000000->∀y,Pur cfg 12 [vE x,vE y] (vB (decide (x=y)))) (ha:a.wt<=6000000000000) (b:Ex):
    Pur cfg 12 [vE a,vE b] (vB (decide (a=b))):=by
 refine zQ Tryz.func12 O Tryz.ntmps12 Tryz.results12 O ?_
 intro z hz
 obtain ⟨hL,hI,hA⟩:=a.parts ha
 have hw:=Ex.wt_eq a
 refine G O<|zR O O (qG O O) ?_
 rintro _ _ ⟨b1,rfl,rfl⟩
 refine zR O O (qG O O) ?_
 rintro _ _ ⟨b2,rfl,rfl⟩
 refine Y O<|W<|G O<|zE O kA<|zH one3 (J 1 O) O<|zE O kA<|zH one3 (J 0 O) O<|yD O<|Y O<|rL0 O (fun g1_5=>zD O zFe O) O<|rL1 11 O (fun g1_5=>zK O one9 O (J 1 O) O) O<|rL0 O (fun g1_5=>zD O zFe O) O<|rL1 13 O (fun g1_5=>zK O one9 O (J 0 O) O) O<|rLz [(12,_),(14,_)] O gv1 ⟨O,O,O,O,T⟩ (fun g1_5=>yH O O O) O<|yY O (fun h=>h)<|Y O<|rL0 O (fun g1_12=>zD O zHg O) O<|rL1 18 O (fun g1_12=>zW O agg35 O (J 1 O) O) O<|rL0 O (fun g1_12=>zD O zHg O) O<|rL1 20 O (fun g1_12=>zW O agg35 O (J 0 O) O) O<|rLz [(19,_),(21,_)] O gv1 ⟨O,O,O,O,T⟩ (fun g1_12=>det_aeql O fl35 O O O) O<|yY O (fun h=>h)<|Y O<|rL0 O (fun g1_19=>zD O zEg O) O<|rL1 25 O (fun g1_19=>zW O yB O (J 1 O) O) O<|rL0 O (fun g1_19=>zD O zEg O) O<|rL1 27 O (fun g1_19=>zW O yB O (J 0 O) O) O<|rLz [(26,_),(28,_)] O gv1 ⟨O,O,O,O,T⟩ (fun g1_19=>det_aeql O fl37 O O O) O<|yY O (fun h=>h)<|Y O<|rL0 O (fun g1_26=>zD O zCp O) O<|rL1 32 O (fun g1_26=>zW O kE O (J 1 O) O) O<|rL0 O (fun g1_26=>zD O zCp O) O<|rL1 34 O (fun g1_26=>zW O kE O (J 0 O) O) O<|rLz [(33,_),(35,_)] O gv1 ⟨O,O,O,O,T⟩ (fun g1_26=>qI O ok34 (base_Lin a.Lin b.Lin hL) ⟨U,O,U,O,T⟩) O<|yY O (fun h=>h)<|Y O<|rL0 O (fun g1_33=>zD O yZ O) O<|rL1 39 O (fun g1_33=>zK O wO O (J 1 O) O) O<|rL0 O (fun g1_33=>zD O yZ O) O<|rL1 41 O (fun g1_33=>zK O wO O (J 0 O) O) O<|rLz [(40,_),(42,_)] O gv1 ⟨O,O,O,O,T⟩ (fun g1_33=>qI O ok35 (base_Indices a.Idx b.Idx hI (by omega)) ⟨U,O,U,O,T⟩) O<|yY O (fun h=>h)<|Y O<|rL0 O (fun g1_40=>zD O kI O) O<|rL1 46 O (fun g1_40=>zK O zAf O (J 1 O) O) O<|rL0 O (fun g1_40=>zD O kI O) O<|rL1 48 O (fun g1_40=>zK O zAf O (J 0 O) O) O<|rLz [(47,_),(49,_)] O gv1 ⟨O,O,O,O,T⟩ (fun g1_40=>qI O ok36 (base_Exprs_of a.Args b.Args (fun x hx y=>ih x hx (by have:=Ex.arg_wt hx;omega) y) hA) ⟨U,O,U,O,T⟩) O<|yY O (fun h=>h)<|Y O<|W<|zJ<|zP O ?_
 exact congrArg vB (ex_eq a b)
theorem zPj (a b:Ex) (ha:a.wt<=6000000000000):Pur cfg 12 [vE a,vE b] (vB (decide (a=b))):=by
  induction a using Ex.ind generalizing b with
  |_ a ih=>exact base_Expr_step a (fun x hx h y=>ih x hx y h) ha b
theorem zPh (e:Ex) (ih:∀a,a∈e.Args->∀(m:Nat) (x:Int),a.fit->m<=1000000->x=m->Pur cfg 26 [vE a,vI x] (vI (weighE a m))) (m:Nat) (x:Int) (hf:e.fit) (hm:m<=1000000) (hx:x=m):
    Pur cfg 26 [vE e,vI x] (vI (weighE e m)):=by
 refine zQ Tryz.func26 O Tryz.ntmps26 Tryz.results26 O ?_
 intro z hz
 obtain ⟨f1,f2,f3,f4,f5⟩:=Ex.fit_eq hf
 have hW:=weighE_eq e m
 refine G O<|zR O O (qG O O) ?_
 rintro _ _ ⟨b1,rfl,rfl⟩
 refine Y O<|W<|G O<|zE O zCp<|zE O kQ<|zH zAk (J 0 O) O<|zU O el38<|qB O ⟨by omega,by omega⟩<|zE O yZ<|zH wO (J 0 O) O<|zU O D<|qB O ⟨by omega,by omega⟩<|Y O<|W<|zG<|G O<|Y O<|W<|zN<|zV ⟨[(6,.c _),(5,.c _),(1,.c _),(2,.c _)],[_]⟩ (Weak.mk [true] ⟨U,U,U,U,T⟩ O) ?_
 refine zZ 2 0 O O (Nat×Nat) (fun ⟨k,n⟩=>[(6,vI k),(5,vI n)]) (fun ⟨k,n⟩=>[]) (fun ⟨k,n⟩=>k<=e.Idx.length/\(n<=m+4*140737488355328)/\(weighIdx m (1+e.Lin.L.length+e.Idx.length) e.Idx=weighIdx m n (e.Idx.drop k))) (fun ⟨k,n⟩=>e.Idx.length-k) ⟨⟨0,1+e.Lin.L.length+e.Idx.length⟩,⟨by omega,by omega,O⟩,Weak.mk [true] ⟨U,VLe.of_eq (congrArg vI (by omega)),U,U,T⟩ O⟩ ?_
 rintro ⟨k,n⟩ ⟨hk,hn1,hn2⟩
 show AWP _ _ _ _ _ ⟨[(6,vI k),(5,vI n)]++_,[]++_⟩
 refine zG<|G O<|Y O<|zE O yZ<|zH wO (J 0 O) O<|zU O D<|qW O<|Y O<|rL0 O (fun g3_5=>zS O O) O<|rL0 O (fun g3_5=>zS O O) O<|rLz [(24,_),(25,_)] O gv1 ⟨O,O,O,O,T⟩ (fun g3_5=>kL O O O) O<|yY O (fun h=>h)<|W<|zF O (fun c1=>?_) (fun c1=>?_)
 ·try simp only [sx] at c1
  obtain ⟨y,hy⟩:=qO e.Idx k (by omega)
  obtain ⟨i1,i2,i3⟩:=f4 y (zX hy)
  refine zI<|zG<|zN<|zG<|qX 19 mixed (by kernel_rfl) O O<|zM O O (zS O O)<|zM O O (zD O yZ O)<|zM O O (zK O wO O (J 0 O) O)<|zM O O (zS O O)<|zM O O (qN O D O O (by omega) (getm (by assumption)))<|zM O O (qE O zBb O)<|zM O O (qE O kQ O)<|zM O O (zK O zAk O qA O)<|zM O O (qR O el38 O)<|zM O O (zCx O O O ⟨by omega,by omega⟩)<|zM O O (zD O yZ O)<|zM O O (zK O wO O (J 0 O) O)<|zM O O (zS O O)<|zM O O (qN O D O O (by omega) (getm (by assumption)))<|zM O O (qE O kV O)<|zM O O (zK O zAr O qA O)<|zM O O (qR O el65 O)<|zM O O (zCx O O O ⟨by omega,by omega⟩)<|zM O O (yV O O)<|yW<|W<|G O<|Y O<|W<|zN<|zV ⟨[(7,.c _),(5,.c _),(1,.c _),(2,.c _),(6,.c _)],[_]⟩ (Weak.mk [true] ⟨U,U,U,U,U,T⟩ O) ?_
  refine zZ 2 0 O O (Nat×Nat) (fun ⟨j,p⟩=>[(7,vI j),(5,vI p)]) (fun ⟨j,p⟩=>[]) (fun ⟨j,p⟩=>j<=y.At.length/\(p<=m+4*140737488355328)/\(weighAt m (n+y.Lin.L.length+y.At.length) y.At=weighAt m p (y.At.drop j))) (fun ⟨j,p⟩=>y.At.length-j) ⟨⟨0,n+y.Lin.L.length+y.At.length⟩,⟨by omega,by omega,O⟩,Weak.mk [true] ⟨U,VLe.of_eq (congrArg vI (by omega)),U,U,U,T⟩ O⟩ ?_
  rintro ⟨j,p⟩ ⟨hj,hp1,hp2⟩
  show AWP _ _ _ _ _ ⟨[(7,vI j),(5,vI p)]++_,[]++_⟩
  refine zG<|G O<|Y O<|zE O yZ<|zH wO (J 0 O) O<|Y O<|zY O D (by omega) (getm (by assumption))<|zT O (qE O kV O)<|zH zAr qA O<|zU O el65<|qW O<|Y O<|rL0 O (fun g7_9=>zS O O) O<|rL0 O (fun g7_9=>zS O O) O<|rLz [(58,_),(59,_)] O gv1 ⟨O,O,O,O,T⟩ (fun g7_9=>kL O O O) O<|yY O (fun h=>h)<|W<|zF O (fun c2=>?_) (fun c2=>?_)
  ·try simp only [sx] at c2
   obtain ⟨l,hl⟩:=qO y.At j (by omega)
   have hl2:=i3 l (zX hl)
   refine zI<|zG<|zN<|zO O<|Y O<|zE O yZ<|zH wO (J 0 O) O<|Y O<|zY O D (by omega) (getm (by assumption))<|zT O (qE O kV O)<|zH zAr qA O<|Y O<|zY O el65 (by omega) (getm (by assumption))<|zT O (qE O kQ O)<|zH zAk qA O<|zU O el38<|qB O ⟨by omega,by omega⟩<|Y O<|W<|zO O<|Y O<|qB O ⟨by omega,by omega⟩<|Y O<|W ?_
   refine ⟨⟨j+1,p+l.L.length⟩,⟨by omega,by omega,by rw [hp2,qH hl,weighAt,if_pos (by omega)]⟩,(by show y.At.length-(j+1)<y.At.length-j;omega),Weak.mk [true] ⟨U,VLe.of_eq (congrArg vI (by omega)),U,U,U,T⟩ O⟩
  ·try simp only [sx] at c2
   have hN2:=weighAt_end (l:=y.At) (k:=j) (n:=p) hx (by omega)
   refine qF<|zO O<|Y O<|qB O ⟨by omega,by omega⟩<|Y O<|W ?_
   refine ⟨⟨k+1,p⟩,⟨by omega,hp1,by rw [hn2,qH hy,weighIdx,if_pos (by omega),hp2,←hN2]⟩,(by show e.Idx.length-(k+1)<e.Idx.length-k;omega),Weak.mk [true] ⟨U,U,U,U,T⟩ O⟩
 ·try simp only [sx] at c1
  have hN:=weighIdx_end (l:=e.Idx) (k:=k) (n:=n) hx (by omega)
  refine qF<|zG<|G O<|Y O<|W<|zN<|zV ⟨[(8,.c _),(5,.c _),(1,.c _),(2,.c _)],[_]⟩ (Weak.mk [true] ⟨U,U,U,U,T⟩ O)<|zZ 2 0 O O (Nat×Nat) (fun ⟨k,n⟩=>[(8,vI k),(5,vI n)]) (fun ⟨k,n⟩=>[]) (fun ⟨k,n⟩=>k<=e.Args.length/\(n<=m+4*140737488355328)/\(weighE e m=weighL (e.Args.drop k) m n)) (fun ⟨k,n⟩=>e.Args.length-k) ⟨⟨0,n⟩,⟨by omega,hn1,by rw [hW,hn2,←hN];rfl⟩,Weak.mk [true] ⟨U,U,U,U,T⟩ O⟩ ?_
  rintro ⟨k,n⟩ ⟨hk3,hn3,hn4⟩
  show AWP _ _ _ _ _ ⟨[(8,vI k),(5,vI n)]++_,[]++_⟩
  refine zG<|G O<|Y O<|zE O kI<|zH zAf (J 0 O) O<|zU O el42<|qW O<|Y O<|rL0 O (fun g11_5=>zS O O) O<|rL0 O (fun g11_5=>zS O O) O<|rLz [(83,_),(84,_)] O gv1 ⟨O,O,O,O,T⟩ (fun g11_5=>kL O O O) O<|yY O (fun h=>h)<|W<|zF O (fun c3=>?_) (fun c3=>?_)
  ·try simp only [sx] at c3
   obtain ⟨a,ha⟩:=qO e.Args k (by omega)
   have hwa:=zMq a (m-n) (f5 a (zX ha))
   refine zI<|zG<|zN<|zO O<|Y O<|zE O kI<|zH zAf (J 0 O) O<|Y O<|zY O el42 (by omega) (zDt (by assumption))<|zL qY qA O<|Y O<|Y O<|zT O (wI O O O ⟨by omega,by omega⟩)<|qL O ok26 (ih a (zX ha) (m-n) _ (f5 a (zX ha)) (by omega) (by omega)) ⟨U,O,U,O,T⟩<|qB O ⟨by omega,by omega⟩<|Y O<|W<|zO O<|Y O<|qB O ⟨by omega,by omega⟩<|Y O<|W ?_
   refine ⟨⟨k+1,n+weighE a (m-n)⟩,⟨by omega,by omega,by rw [hn4,qH ha,weighL,if_pos (by omega)]⟩,(by show e.Args.length-(k+1)<e.Args.length-k;omega),Weak.mk [true] ⟨U,VLe.of_eq (congrArg vI (by omega)),U,U,T⟩ O⟩
  ·try simp only [sx] at c3
   refine qF<|G O<|Y O<|Y O<|W<|zJ<|zP O ?_
   exact congrArg vI (by rw [hn4,←weighL_end hx (by omega)])
theorem base_Weigh (e:Ex) (m:Nat) (x:Int) (hf:e.fit) (hm:m<=1000000) (hx:x=m):Pur cfg 26 [vE e,vI x] (vI (weighE e m)):=by
  induction e using Ex.ind generalizing m x with
  |_ e ih=>exact zPh e (fun a ha m x h1 h2 h3=>ih a ha m x h1 h2 h3) m x hf hm hx
theorem zDy (l:List Mono) (hl:l.length<=5864062014805):
    OwnR cfg 80 [vMonos l] 107 2 (l.map Mono.cells):=by
 refine zQ Tryz.func80 O Tryz.ntmps80 Tryz.results80 O ?_
 intro z hz
 refine G O<|zT O (yL 2 O O)<|W<|zG<|G O<|Y O<|zR O O (zFr O el38 O O) ?_
 rintro _ _ ⟨nb1,rfl,hnil1,rfl⟩
 refine W<|zF O (fun c1=>?_) (fun c1=>?_)
 ·try simp only [sx] at c1
  refine G O<|Y O<|qU _ (yJ 107 2)<|W<|zJ<|zP O ?_
  exact ⟨_,O,by rw [hnil1 c1]⟩
 ·try simp only [sx] at c1
  refine zI<|G O<|zR O O (zBe O el38 zId O O O O) ?_
  rintro _ _ ⟨sv3,rfl,rfl⟩
  refine Y O<|zR O O (qP 0 O el38 O O O (by simp only [List.length_map,List.length_nil,Nat.zero_add];omega) (by simp only [List.length_map,List.length_nil,Nat.zero_add];omega)) ?_
  rintro _ _ ⟨sv4,rfl,rfl⟩
  refine Y O<|W<|zJ<|zP O ?_
  exact ⟨_,O,O⟩
theorem zLs (l:List Lf) (hl:l.length<=4294967296):
    OwnR cfg 150 [vLins l] 40 2 (l.map Lf.cells):=by
 refine zQ Tryz.func150 O Tryz.ntmps150 Tryz.results150 O ?_
 intro z hz
 refine G O<|zT O (yL 2 O O)<|W<|zG<|G O<|Y O<|zR O O (zFr O el65 O O) ?_
 rintro _ _ ⟨nb1,rfl,hnil1,rfl⟩
 refine W<|zF O (fun c1=>?_) (fun c1=>?_)
 ·try simp only [sx] at c1
  refine G O<|Y O<|qU _ (yJ 40 2)<|W<|zJ<|zP O ?_
  exact ⟨_,O,by rw [hnil1 c1]⟩
 ·try simp only [sx] at c1
  refine zI<|G O<|zR O O (zBe O el65 zr40 O O O O) ?_
  rintro _ _ ⟨sv3,rfl,rfl⟩
  refine Y O<|zR O O (qP 0 O el65 O O O (by simp only [List.length_map,List.length_nil,Nat.zero_add];omega) (by simp only [List.length_map,List.length_nil,Nat.zero_add];omega)) ?_
  rintro _ _ ⟨sv4,rfl,rfl⟩
  refine Y O<|W<|zJ<|zP O ?_
  exact ⟨_,O,O⟩
theorem zNb (l:List Ix) (hl:l.length<=4294967296):
    OwnR cfg 149 [vIndices l] 115 4 (l.map Ix.cells):=by
 refine zQ Tryz.func149 O Tryz.ntmps149 Tryz.results149 O ?_
 intro z hz
 refine G O<|zT O (yL 4 O O)<|W<|zG<|G O<|Y O<|zR O O (zFr O D O O) ?_
 rintro _ _ ⟨nb1,rfl,hnil1,rfl⟩
 refine W<|zF O (fun c1=>?_) (fun c1=>?_)
 ·try simp only [sx] at c1
  refine G O<|Y O<|qU _ (yJ 115 4)<|W<|zJ<|zP O ?_
  exact ⟨_,O,by rw [hnil1 c1]⟩
 ·try simp only [sx] at c1
  refine zI<|G O<|zR O O (zBe O D zDi O O O O) ?_
  rintro _ _ ⟨sv3,rfl,rfl⟩
  refine Y O<|zR O O (qP 0 O D O O O (by simp only [List.length_map,List.length_nil,Nat.zero_add];omega) (by simp only [List.length_map,List.length_nil,Nat.zero_add];omega)) ?_
  rintro _ _ ⟨sv4,rfl,rfl⟩
  refine Y O<|W<|zJ<|zP O ?_
  exact ⟨_,O,O⟩
theorem zNc (l:List Ex) (hl:l.length<=4294967296):
    OwnR cfg 151 [vEs l] 44 13 (l.map Ex.cells):=by
 refine zQ Tryz.func151 O Tryz.ntmps151 Tryz.results151 O ?_
 intro z hz
 refine G O<|zT O (yL 13 O O)<|W<|zG<|G O<|Y O<|zR O O (zFr O el42 O O) ?_
 rintro _ _ ⟨nb1,rfl,hnil1,rfl⟩
 refine W<|zF O (fun c1=>?_) (fun c1=>?_)
 ·try simp only [sx] at c1
  refine G O<|Y O<|qU _ (yJ 44 13)<|W<|zJ<|zP O ?_
  exact ⟨_,O,by rw [hnil1 c1]⟩
 ·try simp only [sx] at c1
  refine zI<|G O<|zR O O (zBe O el42 zr44 O O O O) ?_
  rintro _ _ ⟨sv3,rfl,rfl⟩
  refine Y O<|zR O O (qP 0 O el42 O O O (by simp only [List.length_map,List.length_nil,Nat.zero_add];omega) (by simp only [List.length_map,List.length_nil,Nat.zero_add];omega)) ?_
  rintro _ _ ⟨sv4,rfl,rfl⟩
  refine Y O<|W<|zJ<|zP O ?_
  exact ⟨_,O,O⟩
theorem expr_Copy_1 (l:Lf) (hl:l.L.length<=5864062014805):
    Pur cfg 79 [vLin l] (.tup [vLin (idF l).1,vI (idF l).2]):=by
 refine zQ Tryz.func79 O Tryz.ntmps79 Tryz.results79 O ?_
 intro z hz
 refine G O<|zR O O (qG O O) ?_
 rintro _ _ ⟨b1,rfl,rfl⟩
 refine zR O O (qC [none,some 2] O zr40 O) ?_
 rintro _ _ ⟨b2,rfl,rfl⟩
 refine Y O<|W<|zG<|qX 6 mixed (by kernel_rfl) O O<|zM O O (zD O zFf O)<|zM O O (zK O one2 O (J 1 O) O)<|zM O O (zD O kQ O)<|zM O O (zK O zAk O (J 1 O) O)<|zM O O (qI O ok80 (OwnR.pur (zDy l.L hl)) ⟨U,O,T⟩)<|zM O O (kO O zr40 pl40 O)<|yW<|N 0 sz40 O<|Y O<|W<|zJ<|fin2 (qD kE O (J 0 O) O) (v O) ?_
 exact O
end Go.W
