/-
  Walks: what functions of the program compute. Printed by wip/gen/mk2.py.
  Conditions: none.
-/
import Derived.Test.YtmmiedgoamlhpaaGreatDoorWD
import Derived.Test.YtmmiedgoamlhpaaGreatDoorPlain
set_option linter.unusedSimpArgs false
set_option linter.unusedVariables false
set_option maxRecDepth 10000
namespace Go.W
open Go Go.Eng Go.Proofs Go.L41 Go.Br
attribute [local irreducible] AWP RWP TD finQ
theorem ok127:callOk Tryz.prog 127=true:=by kernel_rfl
theorem ok202:callOk Tryz.prog 202=true:=by kernel_rfl
theorem ok263:callOk Tryz.prog 263=true:=by kernel_rfl
theorem ok264:callOk Tryz.prog 264=true:=by kernel_rfl
theorem ok265:callOk Tryz.prog 265=true:=by kernel_rfl
theorem ok331:callOk Tryz.prog 331=true:=by kernel_rfl
theorem ok364:callOk Tryz.prog 364=true:=by kernel_rfl
theorem base_LinsF (a b:List Lf) (ha:a.length<=6000000000000) (hw:∀x,x∈a->x.L.length<=6000000000000):
    Pur cfg 364 [vLins a,vLins b] (vB (decide (a=b))):=by
 refine zS Tryz.func364 O Tryz.ntmps364 Tryz.results364 O ?_
 intro z hz
 refine A O<|G O<|R<|zK<|A O<|G O<|zZ O wV<|G O<|zZ O wV<|kP O<|R<|zC O (fun c1=>?_) (fun c1=>?_)
 ·try simp only [sx] at c1
  refine A O<|G O<|R<|zF<|zQ O ?_
  rw [yF (fun h=>c1 (by rw [h]))]
 ·try simp only [sx] at c1
  refine zI<|zK<|A O<|G O<|R<|zR<|zX ⟨[(5,.c _),(0,.c _),(1,.c _)],[]⟩ (Weak.mk [] ⟨Y,Y,Y,T⟩ O)<|qG 1 0 O O (Nat) (fun k=>[(5,vI k)]) (fun k=>[]) (fun k=>k<=a.length/\(a.take k=b.take k)) (fun k=>a.length-k) ⟨0,⟨by omega,O⟩,Weak.mk [] ⟨Y,Y,Y,T⟩ O⟩ ?_
  rintro k ⟨hk,hp⟩
  refine zK<|A O<|G O<|G O<|zZ O wV<|yJ O<|R<|zC O (fun c2=>?_) (fun c2=>?_)
  ·try simp only [sx] at c2
   obtain ⟨x,hx⟩:=qY a k (by omega)
   obtain ⟨y,hy⟩:=qY b k (by omega)
   refine zI<|zK<|zR<|zK<|qU 10 mixed (by kernel_rfl) O O<|J O O (zP O O)<|J O O (zP O O)<|J O O (qO O wV O O (by omega) (getm (by assumption)))<|J O O (zV O kL O qA O)<|J O O (zP O O)<|J O O (zP O O)<|J O O (qO O wV O O (by omega) (getm (by assumption)))<|J O O (zV O kL O qA O)<|J O O (qC O ok263 (base_Lin x y (hw x (zY hx))) ⟨Y,O,Y,O,T⟩)<|J O O (wL O O)<|yO<|R<|zC O (fun c3=>?_) (fun c3=>?_)
   ·try simp only [sx] at c3
    refine A O<|G O<|R<|zF<|zQ O ?_
    rw [yF (zIh hx hy c3)]
   ·try simp only [sx] at c3
    refine zI<|zN O<|G O<|qI O ⟨by omega,by omega⟩<|G O<|R ?_
    refine ⟨k+1,⟨by omega,zDs hx hy hp c3⟩,(by omega),Weak.mk [] ⟨Y,Y,Y,T⟩ O⟩
  ·try simp only [sx] at c2
   refine qP<|A O<|G O<|R<|zF<|zQ O ?_
   rw [zAi (zFx hp (by omega) (by omega))]
theorem base_Lins (a b:List Lf) (ha:a.length<=6000000000000) (hw:linsWt a<=6000000000000):Pur cfg 364 [vLins a,vLins b] (vB (decide (a=b))):=
  base_LinsF a b ha fun x hx=>by have:=zAd hx;omega
theorem base_Index (a b:Ix) (ha:a.wt<=6000000000000):
    Pur cfg 331 [vIndex a,vIndex b] (vB (decide (a=b))):=by
 refine zS Tryz.func331 O Tryz.ntmps331 Tryz.results331 O ?_
 intro z hz
 have hw:=ha
 unfold Ix.wt at hw
 refine A O<|zU O O (qN O O) ?_
 rintro _ _ ⟨b1,rfl,rfl⟩
 refine zU O O (qN O O) ?_
 rintro _ _ ⟨b2,rfl,rfl⟩
 refine G O<|R<|A O<|zH O zAg<|zM one9 (zD 1 O) O<|zH O zAg<|zM one9 (zD 0 O) O<|wF O<|G O<|rL0 O (fun g1_5=>zE O zAh O) O<|rL1 11 O (fun g1_5=>zV O kL O (zD 1 O) O) O<|rL0 O (fun g1_5=>zE O zAh O) O<|rL1 13 O (fun g1_5=>zV O kL O (zD 0 O) O) O<|rLz [(12,_),(14,_)] O gv1 ⟨O,O,O,O,T⟩ (fun g1_5=>qC O ok263 (base_Lin a.Lin b.Lin (by omega)) ⟨Y,O,Y,O,T⟩) O<|yZ O (fun h=>h)<|G O<|rL0 O (fun g1_12=>zE O wC O) O<|rL1 18 O (fun g1_12=>zJ O zAk O (zD 1 O) O) O<|rL0 O (fun g1_12=>zE O wC O) O<|rL1 20 O (fun g1_12=>zJ O zAk O (zD 0 O) O) O<|rLz [(19,_),(21,_)] O gv1 ⟨O,O,O,O,T⟩ (fun g1_12=>qC O ok364 (base_Lins a.At b.At (by omega) (by omega)) ⟨Y,O,Y,O,T⟩) O<|yZ O (fun h=>h)<|G O<|R<|zF<|zQ O ?_
 exact congrArg vB (ix_eq a b)
theorem base_Indices (a b:List Ix) (ha:a.length<=6000000000000) (hw:idxWt a<=6000000000000):
    Pur cfg 264 [vIndices a,vIndices b] (vB (decide (a=b))):=by
 refine zS Tryz.func264 O Tryz.ntmps264 Tryz.results264 O ?_
 intro z hz
 refine A O<|G O<|R<|zK<|A O<|G O<|zZ O kO<|G O<|zZ O kO<|kP O<|R<|zC O (fun c1=>?_) (fun c1=>?_)
 ·try simp only [sx] at c1
  refine A O<|G O<|R<|zF<|zQ O ?_
  rw [yF (fun h=>c1 (by rw [h]))]
 ·try simp only [sx] at c1
  refine zI<|zK<|A O<|G O<|R<|zR<|zX ⟨[(5,.c _),(0,.c _),(1,.c _)],[]⟩ (Weak.mk [] ⟨Y,Y,Y,T⟩ O)<|qG 1 0 O O (Nat) (fun k=>[(5,vI k)]) (fun k=>[]) (fun k=>k<=a.length/\(a.take k=b.take k)) (fun k=>a.length-k) ⟨0,⟨by omega,O⟩,Weak.mk [] ⟨Y,Y,Y,T⟩ O⟩ ?_
  rintro k ⟨hk,hp⟩
  refine zK<|A O<|G O<|G O<|zZ O kO<|yJ O<|R<|zC O (fun c2=>?_) (fun c2=>?_)
  ·try simp only [sx] at c2
   obtain ⟨x,hx⟩:=qY a k (by omega)
   obtain ⟨y,hy⟩:=qY b k (by omega)
   have hxw:=zCz (zY hx)
   refine zI<|zK<|zR<|zK<|qU 10 mixed (by kernel_rfl) O O<|J O O (zP O O)<|J O O (zP O O)<|J O O (qO O kO O O (by omega) (getm (by assumption)))<|J O O (zV O zDf O qA O)<|J O O (zP O O)<|J O O (zP O O)<|J O O (qO O kO O O (by omega) (getm (by assumption)))<|J O O (zV O zDf O qA O)<|J O O (qC O ok331 (base_Index x y (by omega)) ⟨Y,O,Y,O,T⟩)<|J O O (wL O O)<|yO<|R<|zC O (fun c3=>?_) (fun c3=>?_)
   ·try simp only [sx] at c3
    refine A O<|G O<|R<|zF<|zQ O ?_
    rw [yF (zIh hx hy c3)]
   ·try simp only [sx] at c3
    refine zI<|zN O<|G O<|qI O ⟨by omega,by omega⟩<|G O<|R ?_
    refine ⟨k+1,⟨by omega,zDs hx hy hp c3⟩,(by omega),Weak.mk [] ⟨Y,Y,Y,T⟩ O⟩
  ·try simp only [sx] at c2
   refine qP<|A O<|G O<|R<|zF<|zQ O ?_
   rw [zAi (zFx hp (by omega) (by omega))]
theorem base_Exprs_of (a b:List Ex) (hE:∀x,x∈a->∀y,Pur cfg 202 [vE x,vE y] (vB (decide (x=y)))) (ha:a.length<=6000000000000):
    Pur cfg 265 [vEs a,vEs b] (vB (decide (a=b))):=by
 refine zS Tryz.func265 O Tryz.ntmps265 Tryz.results265 O ?_
 intro z hz
 refine A O<|G O<|R<|zK<|A O<|G O<|zZ O wE<|G O<|zZ O wE<|kP O<|R<|zC O (fun c1=>?_) (fun c1=>?_)
 ·try simp only [sx] at c1
  refine A O<|G O<|R<|zF<|zQ O ?_
  rw [yF (fun h=>c1 (by rw [h]))]
 ·try simp only [sx] at c1
  refine zI<|zK<|A O<|G O<|R<|zR<|zX ⟨[(5,.c _),(0,.c _),(1,.c _)],[]⟩ (Weak.mk [] ⟨Y,Y,Y,T⟩ O)<|qG 1 0 O O (Nat) (fun k=>[(5,vI k)]) (fun k=>[]) (fun k=>k<=a.length/\(a.take k=b.take k)) (fun k=>a.length-k) ⟨0,⟨by omega,O⟩,Weak.mk [] ⟨Y,Y,Y,T⟩ O⟩ ?_
  rintro k ⟨hk,hp⟩
  refine zK<|A O<|G O<|G O<|zZ O wE<|yJ O<|R<|zC O (fun c2=>?_) (fun c2=>?_)
  ·try simp only [sx] at c2
   obtain ⟨x,hx⟩:=qY a k (by omega)
   obtain ⟨y,hy⟩:=qY b k (by omega)
   refine zI<|zK<|zR<|zK<|qU 10 mixed (by kernel_rfl) O O<|J O O (zP O O)<|J O O (zP O O)<|J O O (qO O wE O O (by omega) (zBr (by assumption)))<|J O O (zV O qX O qA O)<|J O O (zP O O)<|J O O (zP O O)<|J O O (qO O wE O O (by omega) (zBr (by assumption)))<|J O O (zV O qX O qA O)<|J O O (qC O ok202 (hE x (zY hx) y) ⟨Y,O,Y,O,T⟩)<|J O O (wL O O)<|yO<|R<|zC O (fun c3=>?_) (fun c3=>?_)
   ·try simp only [sx] at c3
    refine A O<|G O<|R<|zF<|zQ O ?_
    rw [yF (zIh hx hy c3)]
   ·try simp only [sx] at c3
    refine zI<|zN O<|G O<|qI O ⟨by omega,by omega⟩<|G O<|R ?_
    refine ⟨k+1,⟨by omega,zDs hx hy hp c3⟩,(by omega),Weak.mk [] ⟨Y,Y,Y,T⟩ O⟩
  ·try simp only [sx] at c2
   refine qP<|A O<|G O<|R<|zF<|zQ O ?_
   rw [zAi (zFx hp (by omega) (by omega))]
theorem base_Expr_step (a:Ex) (ih:∀x,x∈a.Args->x.wt<=6000000000000->∀y,Pur cfg 202 [vE x,vE y] (vB (decide (x=y)))) (ha:a.wt<=6000000000000) (b:Ex):
    Pur cfg 202 [vE a,vE b] (vB (decide (a=b))):=by
 refine zS Tryz.func202 O Tryz.ntmps202 Tryz.results202 O ?_
 intro z hz
 obtain ⟨hL,hI,hA⟩:=a.parts ha
 have hw:=Ex.wt_eq a
 refine A O<|zU O O (qN O O) ?_
 rintro _ _ ⟨b1,rfl,rfl⟩
 refine zU O O (qN O O) ?_
 rintro _ _ ⟨b2,rfl,rfl⟩
 refine G O<|R<|A O<|zH O kA<|zM one3 (zD 1 O) O<|zH O kA<|zM one3 (zD 0 O) O<|L O<|G O<|rL0 O (fun g1_5=>zE O zBs O) O<|rL1 11 O (fun g1_5=>zJ O one9 O (zD 1 O) O) O<|rL0 O (fun g1_5=>zE O zBs O) O<|rL1 13 O (fun g1_5=>zJ O one9 O (zD 0 O) O) O<|rLz [(12,_),(14,_)] O gv1 ⟨O,O,O,O,T⟩ (fun g1_5=>zGw O O O) O<|yZ O (fun h=>h)<|G O<|rL0 O (fun g1_12=>zE O zDm O) O<|rL1 18 O (fun g1_12=>zV O zAw O (zD 1 O) O) O<|rL0 O (fun g1_12=>zE O zDm O) O<|rL1 20 O (fun g1_12=>zV O zAw O (zD 0 O) O) O<|rLz [(19,_),(21,_)] O gv1 ⟨O,O,O,O,T⟩ (fun g1_12=>zPs O fl63 O O O) O<|yZ O (fun h=>h)<|G O<|rL0 O (fun g1_19=>zE O zAo O) O<|rL1 25 O (fun g1_19=>zV O yI O (zD 1 O) O) O<|rL0 O (fun g1_19=>zE O zAo O) O<|rL1 27 O (fun g1_19=>zV O yI O (zD 0 O) O) O<|rLz [(26,_),(28,_)] O gv1 ⟨O,O,O,O,T⟩ (fun g1_19=>zPs O fl65 O O O) O<|yZ O (fun h=>h)<|G O<|rL0 O (fun g1_26=>zE O zCs O) O<|rL1 32 O (fun g1_26=>zV O kL O (zD 1 O) O) O<|rL0 O (fun g1_26=>zE O zCs O) O<|rL1 34 O (fun g1_26=>zV O kL O (zD 0 O) O) O<|rLz [(33,_),(35,_)] O gv1 ⟨O,O,O,O,T⟩ (fun g1_26=>qC O ok263 (base_Lin a.Lin b.Lin hL) ⟨Y,O,Y,O,T⟩) O<|yZ O (fun h=>h)<|G O<|rL0 O (fun g1_33=>zE O yV O) O<|rL1 39 O (fun g1_33=>zJ O kF O (zD 1 O) O) O<|rL0 O (fun g1_33=>zE O yV O) O<|rL1 41 O (fun g1_33=>zJ O kF O (zD 0 O) O) O<|rLz [(40,_),(42,_)] O gv1 ⟨O,O,O,O,T⟩ (fun g1_33=>qC O ok264 (base_Indices a.Idx b.Idx hI (by omega)) ⟨Y,O,Y,O,T⟩) O<|yZ O (fun h=>h)<|G O<|rL0 O (fun g1_40=>zE O yY O) O<|rL1 46 O (fun g1_40=>zJ O kU O (zD 1 O) O) O<|rL0 O (fun g1_40=>zE O yY O) O<|rL1 48 O (fun g1_40=>zJ O kU O (zD 0 O) O) O<|rLz [(47,_),(49,_)] O gv1 ⟨O,O,O,O,T⟩ (fun g1_40=>qC O ok265 (base_Exprs_of a.Args b.Args (fun x hx y=>ih x hx (by have:=Ex.arg_wt hx;omega) y) hA) ⟨Y,O,Y,O,T⟩) O<|yZ O (fun h=>h)<|G O<|R<|zF<|zQ O ?_
 exact congrArg vB (ex_eq a b)
theorem base_Expr (a b:Ex) (ha:a.wt<=6000000000000):Pur cfg 202 [vE a,vE b] (vB (decide (a=b))):=by
  induction a using Ex.ind generalizing b with
  |_ a ih=>exact base_Expr_step a (fun x hx h y=>ih x hx y h) ha b
theorem zTl (e:Ex) (ih:∀a,a∈e.Args->∀(m:Nat) (x:Int),a.fit->m<=1000000->x=m->Pur cfg 127 [vE a,vI x] (vI (weighE a m))) (m:Nat) (x:Int) (hf:e.fit) (hm:m<=1000000) (hx:x=m):
    Pur cfg 127 [vE e,vI x] (vI (weighE e m)):=by
 refine zS Tryz.func127 O Tryz.ntmps127 Tryz.results127 O ?_
 intro z hz
 obtain ⟨f1,f2,f3,f4,f5⟩:=Ex.fit_eq hf
 have hW:=weighE_eq e m
 refine A O<|zU O O (qN O O) ?_
 rintro _ _ ⟨b1,rfl,rfl⟩
 refine G O<|R<|A O<|zH O zCs<|zH O kT<|zM zBp (zD 0 O) O<|zZ O el99<|qI O ⟨by omega,by omega⟩<|zH O yV<|zM kF (zD 0 O) O<|zZ O kO<|qI O ⟨by omega,by omega⟩<|G O<|R<|zK<|A O<|G O<|R<|zR<|zX ⟨[(6,.c _),(5,.c _),(1,.c _),(2,.c _)],[_]⟩ (Weak.mk [true] ⟨Y,Y,Y,Y,T⟩ O) ?_
 refine qG 2 0 O O (Nat×Nat) (fun ⟨k,n⟩=>[(6,vI k),(5,vI n)]) (fun ⟨k,n⟩=>[]) (fun ⟨k,n⟩=>k<=e.Idx.length/\(n<=m+4*140737488355328)/\(weighIdx m (1+e.Lin.L.length+e.Idx.length) e.Idx=weighIdx m n (e.Idx.drop k))) (fun ⟨k,n⟩=>e.Idx.length-k) ⟨⟨0,1+e.Lin.L.length+e.Idx.length⟩,⟨by omega,by omega,O⟩,Weak.mk [true] ⟨Y,VLe.of_eq (congrArg vI (by omega)),Y,Y,T⟩ O⟩ ?_
 rintro ⟨k,n⟩ ⟨hk,hn1,hn2⟩
 show AWP _ _ _ _ _ ⟨[(6,vI k),(5,vI n)]++_,[]++_⟩
 refine zK<|A O<|G O<|zH O yV<|zM kF (zD 0 O) O<|zZ O kO<|yJ O<|G O<|rL0 O (fun g3_5=>zP O O) O<|rL0 O (fun g3_5=>zP O O) O<|rLz [(24,_),(25,_)] O gv1 ⟨O,O,O,O,T⟩ (fun g3_5=>zAa O O O) O<|yZ O (fun h=>h)<|R<|zC O (fun c1=>?_) (fun c1=>?_)
 ·try simp only [sx] at c1
  obtain ⟨y,hy⟩:=qY e.Idx k (by omega)
  obtain ⟨i1,i2,i3⟩:=f4 y (zY hy)
  refine zI<|zK<|zR<|zK<|qU 19 mixed (by kernel_rfl) O O<|J O O (zP O O)<|J O O (zE O yV O)<|J O O (zJ O kF O (zD 0 O) O)<|J O O (zP O O)<|J O O (qO O kO O O (by omega) (getm (by assumption)))<|J O O (qW O zAh O)<|J O O (qW O kT O)<|J O O (zJ O zBp O qA O)<|J O O (yG O el99 O)<|J O O (zCv O O O ⟨by omega,by omega⟩)<|J O O (zE O yV O)<|J O O (zJ O kF O (zD 0 O) O)<|J O O (zP O O)<|J O O (qO O kO O O (by omega) (getm (by assumption)))<|J O O (qW O wC O)<|J O O (zJ O zAk O qA O)<|J O O (yG O wV O)<|J O O (zCv O O O ⟨by omega,by omega⟩)<|J O O (qV O O)<|yO<|R<|A O<|G O<|R<|zR<|zX ⟨[(7,.c _),(5,.c _),(1,.c _),(2,.c _),(6,.c _)],[_]⟩ (Weak.mk [true] ⟨Y,Y,Y,Y,Y,T⟩ O) ?_
  refine qG 2 0 O O (Nat×Nat) (fun ⟨j,p⟩=>[(7,vI j),(5,vI p)]) (fun ⟨j,p⟩=>[]) (fun ⟨j,p⟩=>j<=y.At.length/\(p<=m+4*140737488355328)/\(weighAt m (n+y.Lin.L.length+y.At.length) y.At=weighAt m p (y.At.drop j))) (fun ⟨j,p⟩=>y.At.length-j) ⟨⟨0,n+y.Lin.L.length+y.At.length⟩,⟨by omega,by omega,O⟩,Weak.mk [true] ⟨Y,VLe.of_eq (congrArg vI (by omega)),Y,Y,Y,T⟩ O⟩ ?_
  rintro ⟨j,p⟩ ⟨hj,hp1,hp2⟩
  show AWP _ _ _ _ _ ⟨[(7,vI j),(5,vI p)]++_,[]++_⟩
  refine zK<|A O<|G O<|zH O yV<|zM kF (zD 0 O) O<|G O<|qE O kO (by omega) (getm (by assumption))<|yB O wC<|zM zAk qA O<|zZ O wV<|yJ O<|G O<|rL0 O (fun g7_9=>zP O O) O<|rL0 O (fun g7_9=>zP O O) O<|rLz [(58,_),(59,_)] O gv1 ⟨O,O,O,O,T⟩ (fun g7_9=>zAa O O O) O<|yZ O (fun h=>h)<|R<|zC O (fun c2=>?_) (fun c2=>?_)
  ·try simp only [sx] at c2
   obtain ⟨l,hl⟩:=qY y.At j (by omega)
   have hl2:=i3 l (zY hl)
   refine zI<|zK<|zR<|zN O<|G O<|zH O yV<|zM kF (zD 0 O) O<|G O<|qE O kO (by omega) (getm (by assumption))<|yB O wC<|zM zAk qA O<|G O<|qE O wV (by omega) (getm (by assumption))<|yB O kT<|zM zBp qA O<|zZ O el99<|qI O ⟨by omega,by omega⟩<|G O<|R<|zN O<|G O<|qI O ⟨by omega,by omega⟩<|G O<|R ?_
   refine ⟨⟨j+1,p+l.L.length⟩,⟨by omega,by omega,by rw [hp2,qZ hl,weighAt,if_pos (by omega)]⟩,(by show y.At.length-(j+1)<y.At.length-j;omega),Weak.mk [true] ⟨Y,VLe.of_eq (congrArg vI (by omega)),Y,Y,Y,T⟩ O⟩
  ·try simp only [sx] at c2
   have hN2:=weighAt_end (l:=y.At) (k:=j) (n:=p) hx (by omega)
   refine qP<|zN O<|G O<|qI O ⟨by omega,by omega⟩<|G O<|R ?_
   refine ⟨⟨k+1,p⟩,⟨by omega,hp1,by rw [hn2,qZ hy,weighIdx,if_pos (by omega),hp2,←hN2]⟩,(by show e.Idx.length-(k+1)<e.Idx.length-k;omega),Weak.mk [true] ⟨Y,Y,Y,Y,T⟩ O⟩
 ·try simp only [sx] at c1
  have hN:=weighIdx_end (l:=e.Idx) (k:=k) (n:=n) hx (by omega)
  refine qP<|zK<|A O<|G O<|R<|zR<|zX ⟨[(8,.c _),(5,.c _),(1,.c _),(2,.c _)],[_]⟩ (Weak.mk [true] ⟨Y,Y,Y,Y,T⟩ O)<|qG 2 0 O O (Nat×Nat) (fun ⟨k,n⟩=>[(8,vI k),(5,vI n)]) (fun ⟨k,n⟩=>[]) (fun ⟨k,n⟩=>k<=e.Args.length/\(n<=m+4*140737488355328)/\(weighE e m=weighL (e.Args.drop k) m n)) (fun ⟨k,n⟩=>e.Args.length-k) ⟨⟨0,n⟩,⟨by omega,hn1,by rw [hW,hn2,←hN];rfl⟩,Weak.mk [true] ⟨Y,Y,Y,Y,T⟩ O⟩ ?_
  rintro ⟨k,n⟩ ⟨hk3,hn3,hn4⟩
  show AWP _ _ _ _ _ ⟨[(8,vI k),(5,vI n)]++_,[]++_⟩
  refine zK<|A O<|G O<|zH O yY<|zM kU (zD 0 O) O<|zZ O wE<|yJ O<|G O<|rL0 O (fun g11_5=>zP O O) O<|rL0 O (fun g11_5=>zP O O) O<|rLz [(83,_),(84,_)] O gv1 ⟨O,O,O,O,T⟩ (fun g11_5=>zAa O O O) O<|yZ O (fun h=>h)<|R<|zC O (fun c3=>?_) (fun c3=>?_)
  ·try simp only [sx] at c3
   obtain ⟨a,ha⟩:=qY e.Args k (by omega)
   have hwa:=zFp a (m-n) (f5 a (zY ha))
   refine zI<|zK<|zR<|zN O<|G O<|zH O yY<|zM kU (zD 0 O) O<|G O<|qE O wE (by omega) (zBr (by assumption))<|zO qX qA O<|G O<|G O<|zT O (yD O O O ⟨by omega,by omega⟩)<|qK O ok127 (ih a (zY ha) (m-n) _ (f5 a (zY ha)) (by omega) (by omega)) ⟨Y,O,Y,O,T⟩<|qI O ⟨by omega,by omega⟩<|G O<|R<|zN O<|G O<|qI O ⟨by omega,by omega⟩<|G O<|R ?_
   refine ⟨⟨k+1,n+weighE a (m-n)⟩,⟨by omega,by omega,by rw [hn4,qZ ha,weighL,if_pos (by omega)]⟩,(by show e.Args.length-(k+1)<e.Args.length-k;omega),Weak.mk [true] ⟨Y,VLe.of_eq (congrArg vI (by omega)),Y,Y,T⟩ O⟩
  ·try simp only [sx] at c3
   refine qP<|A O<|G O<|G O<|R<|zF<|zQ O ?_
   exact congrArg vI (by rw [hn4,←weighL_end hx (by omega)])
theorem base_Weigh (e:Ex) (m:Nat) (x:Int) (hf:e.fit) (hm:m<=1000000) (hx:x=m):Pur cfg 127 [vE e,vI x] (vI (weighE e m)):=by
  induction e using Ex.ind generalizing m x with
  |_ e ih=>exact zTl e (fun a ha m x h1 h2 h3=>ih a ha m x h1 h2 h3) m x hf hm hx
theorem zOs (l:List Lf) (hl:l.length<=4294967296):
    OwnR cfg 139 [vLins l] 101 2 (l.map Lf.cells):=by
 refine zS Tryz.func139 O Tryz.ntmps139 Tryz.results139 O ?_
 intro z hz
 refine A O<|zT O (kE 2 O O)<|R<|zK<|A O<|G O<|zU O O (zRs O wV O O) ?_
 rintro _ _ ⟨nb1,rfl,hnil1,rfl⟩
 refine R<|zC O (fun c1=>?_) (fun c1=>?_)
 ·try simp only [sx] at c1
  refine A O<|G O<|yX _ (wI 101 2)<|R<|zF<|zQ O ?_
  exact ⟨_,O,by rw [hnil1 c1]⟩
 ·try simp only [sx] at c1
  refine zI<|A O<|zU O O (zJh O wV zKm O O O O) ?_
  rintro _ _ ⟨sv3,rfl,rfl⟩
  refine G O<|zU O O (kG 0 O wV O O O (by simp only [List.length_map,List.length_nil,Nat.zero_add];omega) (by simp only [List.length_map,List.length_nil,Nat.zero_add];omega)) ?_
  rintro _ _ ⟨sv4,rfl,rfl⟩
  refine G O<|R<|zF<|zQ O ?_
  exact ⟨_,O,O⟩
theorem zQy (l:List Ix) (hl:l.length<=4294967296):
    OwnR cfg 138 [vIndices l] 104 4 (l.map Ix.cells):=by
 refine zS Tryz.func138 O Tryz.ntmps138 Tryz.results138 O ?_
 intro z hz
 refine A O<|zT O (kE 4 O O)<|R<|zK<|A O<|G O<|zU O O (zRs O kO O O) ?_
 rintro _ _ ⟨nb1,rfl,hnil1,rfl⟩
 refine R<|zC O (fun c1=>?_) (fun c1=>?_)
 ·try simp only [sx] at c1
  refine A O<|G O<|yX _ (wI 104 4)<|R<|zF<|zQ O ?_
  exact ⟨_,O,by rw [hnil1 c1]⟩
 ·try simp only [sx] at c1
  refine zI<|A O<|zU O O (zJh O kO zLf O O O O) ?_
  rintro _ _ ⟨sv3,rfl,rfl⟩
  refine G O<|zU O O (kG 0 O kO O O O (by simp only [List.length_map,List.length_nil,Nat.zero_add];omega) (by simp only [List.length_map,List.length_nil,Nat.zero_add];omega)) ?_
  rintro _ _ ⟨sv4,rfl,rfl⟩
  refine G O<|R<|zF<|zQ O ?_
  exact ⟨_,O,O⟩
end Go.W
