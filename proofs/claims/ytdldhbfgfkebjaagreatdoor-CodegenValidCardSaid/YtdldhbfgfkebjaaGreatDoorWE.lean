/-
  What functions compute.
  Conditions: none.
-/
import Derived.Test.YtdldhbfgfkebjaaGreatDoorWD
import Derived.Test.YtdldhbfgfkebjaaGreatDoorPlain
set_option linter.unusedSimpArgs false
set_option linter.unusedVariables false
set_option maxRecDepth 10000
namespace Go.W
open Go Go.Eng Go.Proofs Go.L41 Go.Br
attribute [local irreducible] AWP RWP TD fY
theorem ok46:bA Tryz.prog 46=true:=by kernel_rfl
theorem ok183:bA Tryz.prog 183=true:=by kernel_rfl
theorem ok200:bA Tryz.prog 200=true:=by kernel_rfl
theorem ok201:bA Tryz.prog 201=true:=by kernel_rfl
theorem ok202:bA Tryz.prog 202=true:=by kernel_rfl
theorem ok230:bA Tryz.prog 230=true:=by kernel_rfl
theorem ok256:bA Tryz.prog 256=true:=by kernel_rfl
theorem base_LinsF (a b:List Lf) (ha:a.length<=6000000000000) (hw:∀x,x∈a->x.L.length<=6000000000000):
    Pur cfg 256 [pB a,pB b] (vB (decide (a=b))):=by
 refine zU Tryz.func256 O Tryz.ntmps256 Tryz.results256 O ?_
 intro z hz
 refine R O<|G O<|zA<|zI<|R O<|G O<|zZ O zAv<|G O<|zZ O zAv<|kU O<|zA<|zC O (fun c1=>?_) (fun c1=>?_)
 ·try simp only [sx] at c1
  refine R O<|G O<|zA<|zK<|zR O ?_
  rw [yV (fun h=>c1 (by rw [h]))]
 ·try simp only [sx] at c1
  refine zJ<|zI<|R O<|G O<|zA<|zP<|zT ⟨[(5,.c _),(0,.c _),(1,.c _)],[]⟩ (Weak.mk [] ⟨zB,zB,zB,T⟩ O)<|qG 1 0 O O (Nat) (fun k=>[(5,vI k)]) (fun k=>[]) (fun k=>k<=a.length/\(a.take k=b.take k)) (fun k=>a.length-k) ⟨0,⟨by omega,O⟩,Weak.mk [] ⟨zB,zB,zB,T⟩ O⟩ ?_
  rintro k ⟨hk,hp⟩
  refine zI<|R O<|G O<|G O<|zZ O zAv<|yB O<|zA<|zC O (fun c2=>?_) (fun c2=>?_)
  ·try simp only [sx] at c2
   obtain ⟨x,hx⟩:=qU a k (by omega)
   obtain ⟨y,hy⟩:=qU b k (by omega)
   refine zJ<|zI<|zP<|zI<|qW 10 mixed (by kernel_rfl) O O<|zL O O (zN O O)<|zL O O (zN O O)<|zL O O (qL O zAv O O (by omega) (B (by assumption)))<|zL O O (qC O zBa O zQ O)<|zL O O (zN O O)<|zL O O (zN O O)<|zL O O (qL O zAv O O (by omega) (B (by assumption)))<|zL O O (qC O zBa O zQ O)<|zL O O (qS O ok200 (base_Lin x y (hw x (qA hx))) ⟨zB,O,zB,O,T⟩)<|zL O O (wA O O)<|yJ<|zA<|zC O (fun c3=>?_) (fun c3=>?_)
   ·try simp only [sx] at c3
    refine R O<|G O<|zA<|zK<|zR O ?_
    rw [yV (zLw hx hy c3)]
   ·exact j8
  ·exact v34
theorem base_Lins (a b:List Lf) (ha:a.length<=6000000000000) (hw:mU a<=6000000000000):Pur cfg 256 [pB a,pB b] (vB (decide (a=b))):=
  base_LinsF a b ha fun x hx=>by have:=zCn hx;omega
theorem base_Index (a b:Ix) (ha:a.wt<=6000000000000):
    Pur cfg 230 [hM a,hM b] (vB (decide (a=b))):=by
 refine zU Tryz.func230 O Tryz.ntmps230 Tryz.results230 O ?_
 intro z hz
 have hw:=ha
 unfold Ix.wt at hw
 refine R O<|zV O O (qO O O) ?_
 rintro _ _ ⟨b1,rfl,rfl⟩
 refine zV O O (qO O O) ?_
 rintro _ _ ⟨b2,rfl,rfl⟩
 refine G O<|zA<|R O<|zG O wG<|zH one9 (Y 1 O) O<|zG O wG<|zH one9 (Y 0 O) O<|zW O (kE O O O)<|G O<|rL0 O (fun g1_5=>zD O zCy O) O<|A 11 O (fun g1_5=>qC O zBa O (Y 1 O) O) O<|rL0 O (fun g1_5=>zD O zCy O) O<|A 13 O (fun g1_5=>qC O zBa O (Y 0 O) O) O<|rLz [(12,_),(14,_)] O J ⟨O,O,O,O,T⟩ (fun g1_5=>qS O ok200 (base_Lin a.Lin b.Lin (by omega)) ⟨zB,O,zB,O,T⟩) O<|yK O (fun h=>h)<|G O<|rL0 O (fun g1_12=>zD O zAr O) O<|A 18 O (fun g1_12=>zF O zCl O (Y 1 O) O) O<|rL0 O (fun g1_12=>zD O zAr O) O<|A 20 O (fun g1_12=>zF O zCl O (Y 0 O) O) O<|rLz [(19,_),(21,_)] O J ⟨O,O,O,O,T⟩ (fun g1_12=>qS O ok256 (base_Lins a.At b.At (by omega) (by omega)) ⟨zB,O,zB,O,T⟩) O<|yK O (fun h=>h)<|G O<|zA<|zK<|zR O ?_
 exact congrArg vB (ix_eq a b)
theorem base_Indices (a b:List Ix) (ha:a.length<=6000000000000) (hw:gF a<=6000000000000):
    Pur cfg 201 [mJ a,mJ b] (vB (decide (a=b))):=by
 refine zU Tryz.func201 O Tryz.ntmps201 Tryz.results201 O ?_
 intro z hz
 refine R O<|G O<|zA<|zI<|R O<|G O<|zZ O el51<|G O<|zZ O el51<|kU O<|zA<|zC O (fun c1=>?_) (fun c1=>?_)
 ·try simp only [sx] at c1
  refine R O<|G O<|zA<|zK<|zR O ?_
  rw [yV (fun h=>c1 (by rw [h]))]
 ·try simp only [sx] at c1
  refine zJ<|zI<|R O<|G O<|zA<|zP<|zT ⟨[(5,.c _),(0,.c _),(1,.c _)],[]⟩ (Weak.mk [] ⟨zB,zB,zB,T⟩ O)<|qG 1 0 O O (Nat) (fun k=>[(5,vI k)]) (fun k=>[]) (fun k=>k<=a.length/\(a.take k=b.take k)) (fun k=>a.length-k) ⟨0,⟨by omega,O⟩,Weak.mk [] ⟨zB,zB,zB,T⟩ O⟩ ?_
  rintro k ⟨hk,hp⟩
  refine zI<|R O<|G O<|G O<|zZ O el51<|yB O<|zA<|zC O (fun c2=>?_) (fun c2=>?_)
  ·try simp only [sx] at c2
   obtain ⟨x,hx⟩:=qU a k (by omega)
   obtain ⟨y,hy⟩:=qU b k (by omega)
   have hxw:=zCv (qA hx)
   refine zJ<|zI<|zP<|zI<|qW 10 mixed (by kernel_rfl) O O<|zL O O (zN O O)<|zL O O (zN O O)<|zL O O (qL O el51 O O (by omega) (B (by assumption)))<|zL O O (qC O zDc O zQ O)<|zL O O (zN O O)<|zL O O (zN O O)<|zL O O (qL O el51 O O (by omega) (B (by assumption)))<|zL O O (qC O zDc O zQ O)<|zL O O (qS O ok230 (base_Index x y (by omega)) ⟨zB,O,zB,O,T⟩)<|zL O O (wA O O)<|yJ<|zA<|zC O (fun c3=>?_) (fun c3=>?_)
   ·try simp only [sx] at c3
    refine R O<|G O<|zA<|zK<|zR O ?_
    rw [yV (zLw hx hy c3)]
   ·exact j8
  ·exact v34
theorem base_Exprs_of (a b:List Ex) (hE:∀x,x∈a->∀y,Pur cfg 183 [vE x,vE y] (vB (decide (x=y)))) (ha:a.length<=6000000000000):
    Pur cfg 202 [vEs a,vEs b] (vB (decide (a=b))):=by
 refine zU Tryz.func202 O Tryz.ntmps202 Tryz.results202 O ?_
 intro z hz
 refine R O<|G O<|zA<|zI<|R O<|G O<|zZ O el55<|G O<|zZ O el55<|kU O<|zA<|zC O (fun c1=>?_) (fun c1=>?_)
 ·try simp only [sx] at c1
  refine R O<|G O<|zA<|zK<|zR O ?_
  rw [yV (fun h=>c1 (by rw [h]))]
 ·try simp only [sx] at c1
  refine zJ<|zI<|R O<|G O<|zA<|zP<|zT ⟨[(5,.c _),(0,.c _),(1,.c _)],[]⟩ (Weak.mk [] ⟨zB,zB,zB,T⟩ O)<|qG 1 0 O O (Nat) (fun k=>[(5,vI k)]) (fun k=>[]) (fun k=>k<=a.length/\(a.take k=b.take k)) (fun k=>a.length-k) ⟨0,⟨by omega,O⟩,Weak.mk [] ⟨zB,zB,zB,T⟩ O⟩ ?_
  rintro k ⟨hk,hp⟩
  refine zI<|R O<|G O<|G O<|zZ O el55<|yB O<|zA<|zC O (fun c2=>?_) (fun c2=>?_)
  ·try simp only [sx] at c2
   obtain ⟨x,hx⟩:=qU a k (by omega)
   obtain ⟨y,hy⟩:=qU b k (by omega)
   refine zJ<|zI<|zP<|zI<|qW 10 mixed (by kernel_rfl) O O<|zL O O (zN O O)<|zL O O (zN O O)<|zL O O (qL O el55 O O (by omega) (zAa (by assumption)))<|zL O O (qC O yP O zQ O)<|zL O O (zN O O)<|zL O O (zN O O)<|zL O O (qL O el55 O O (by omega) (zAa (by assumption)))<|zL O O (qC O yP O zQ O)<|zL O O (qS O ok183 (hE x (qA hx) y) ⟨zB,O,zB,O,T⟩)<|zL O O (wA O O)<|yJ<|zA<|zC O (fun c3=>?_) (fun c3=>?_)
   ·try simp only [sx] at c3
    refine R O<|G O<|zA<|zK<|zR O ?_
    rw [yV (zLw hx hy c3)]
   ·exact j8
  ·exact v34
theorem base_Expr_step (a:Ex) (ih:∀x,x∈a.Args->x.wt<=6000000000000->∀y,Pur cfg 183 [vE x,vE y] (vB (decide (x=y)))) (ha:a.wt<=6000000000000) (b:Ex):
    Pur cfg 183 [vE a,vE b] (vB (decide (a=b))):=by
 refine zU Tryz.func183 O Tryz.ntmps183 Tryz.results183 O ?_
 intro z hz
 obtain ⟨hL,hI,hA⟩:=a.parts ha
 have hw:=Ex.wt_eq a
 refine R O<|zV O O (qO O O) ?_
 rintro _ _ ⟨b1,rfl,rfl⟩
 refine zV O O (qO O O) ?_
 rintro _ _ ⟨b2,rfl,rfl⟩
 refine G O<|zA<|R O<|zG O kS<|zH one3 (Y 1 O) O<|zG O kS<|zH one3 (Y 0 O) O<|qZ O<|G O<|rL0 O (fun g1_5=>zD O zDg O) O<|A 11 O (fun g1_5=>zF O one9 O (Y 1 O) O) O<|rL0 O (fun g1_5=>zD O zDg O) O<|A 13 O (fun g1_5=>zF O one9 O (Y 0 O) O) O<|rLz [(12,_),(14,_)] O J ⟨O,O,O,O,T⟩ (fun g1_5=>kE O O O) O<|yK O (fun h=>h)<|G O<|rL0 O (fun g1_12=>zD O zIp O) O<|A 18 O (fun g1_12=>qC O zTv O (Y 1 O) O) O<|rL0 O (fun g1_12=>zD O zIp O) O<|A 20 O (fun g1_12=>qC O zTv O (Y 0 O) O) O<|rLz [(19,_),(21,_)] O J ⟨O,O,O,O,T⟩ (fun g1_12=>zQh O fl44 O O O) O<|yK O (fun h=>h)<|G O<|rL0 O (fun g1_19=>zD O zCx O) O<|A 25 O (fun g1_19=>qC O yH O (Y 1 O) O) O<|rL0 O (fun g1_19=>zD O zCx O) O<|A 27 O (fun g1_19=>qC O yH O (Y 0 O) O) O<|rLz [(26,_),(28,_)] O J ⟨O,O,O,O,T⟩ (fun g1_19=>zQh O fl31 O O O) O<|yK O (fun h=>h)<|G O<|rL0 O (fun g1_26=>zD O zFc O) O<|A 32 O (fun g1_26=>qC O zBa O (Y 1 O) O) O<|rL0 O (fun g1_26=>zD O zFc O) O<|A 34 O (fun g1_26=>qC O zBa O (Y 0 O) O) O<|rLz [(33,_),(35,_)] O J ⟨O,O,O,O,T⟩ (fun g1_26=>qS O ok200 (base_Lin a.Lin b.Lin hL) ⟨zB,O,zB,O,T⟩) O<|yK O (fun h=>h)<|G O<|rL0 O (fun g1_33=>zD O kR O) O<|A 39 O (fun g1_33=>zF O wJ O (Y 1 O) O) O<|rL0 O (fun g1_33=>zD O kR O) O<|A 41 O (fun g1_33=>zF O wJ O (Y 0 O) O) O<|rLz [(40,_),(42,_)] O J ⟨O,O,O,O,T⟩ (fun g1_33=>qS O ok201 (base_Indices a.Idx b.Idx hI (by omega)) ⟨zB,O,zB,O,T⟩) O<|yK O (fun h=>h)<|G O<|rL0 O (fun g1_40=>zD O kO O) O<|A 46 O (fun g1_40=>zF O wZ O (Y 1 O) O) O<|rL0 O (fun g1_40=>zD O kO O) O<|A 48 O (fun g1_40=>zF O wZ O (Y 0 O) O) O<|rLz [(47,_),(49,_)] O J ⟨O,O,O,O,T⟩ (fun g1_40=>qS O ok202 (base_Exprs_of a.Args b.Args (fun x hx y=>ih x hx (by have:=Ex.arg_wt hx;omega) y) hA) ⟨zB,O,zB,O,T⟩) O<|yK O (fun h=>h)<|G O<|zA<|zK<|zR O ?_
 exact congrArg vB (ex_eq a b)
theorem base_Expr (a b:Ex) (ha:a.wt<=6000000000000):Pur cfg 183 [vE a,vE b] (vB (decide (a=b))):=by
  induction a using Ex.ind generalizing b with
  |_ a ih=>exact base_Expr_step a (fun x hx h y=>ih x hx y h) ha b
theorem zTq (e:Ex) (ih:∀a,a∈e.Args->∀(m:Nat) (x:Int),a.fit->m<=1000000->x=m->Pur cfg 46 [vE a,vI x] (vI (fH a m))) (m:Nat) (x:Int) (hf:e.fit) (hm:m<=1000000) (hx:x=m):
    Pur cfg 46 [vE e,vI x] (vI (fH e m)):=by
 refine zU Tryz.func46 O Tryz.ntmps46 Tryz.results46 O ?_
 intro z hz
 obtain ⟨f1,f2,f3,f4,f5⟩:=Ex.fit_eq hf
 have hW:=weighE_eq e m
 refine R O<|zV O O (qO O O) ?_
 rintro _ _ ⟨b1,rfl,rfl⟩
 refine G O<|zA<|R O<|zG O zFc<|zG O zAy<|zH zDz (Y 0 O) O<|zZ O el52<|qB O ⟨by omega,by omega⟩<|zG O kR<|zH wJ (Y 0 O) O<|zZ O el51<|qB O ⟨by omega,by omega⟩<|G O<|zA<|zI<|R O<|G O<|zA<|zP<|zT ⟨[(6,.c _),(5,.c _),(1,.c _),(2,.c _)],[_]⟩ (Weak.mk [true] ⟨zB,zB,zB,zB,T⟩ O) ?_
 refine qG 2 0 O O (Nat×Nat) (fun ⟨k,n⟩=>[(6,vI k),(5,vI n)]) (fun ⟨k,n⟩=>[]) (fun ⟨k,n⟩=>k<=e.Idx.length/\(n<=m+4*140737488355328)/\(dU m (1+e.Lin.L.length+e.Idx.length) e.Idx=dU m n (e.Idx.drop k))) (fun ⟨k,n⟩=>e.Idx.length-k) ⟨⟨0,1+e.Lin.L.length+e.Idx.length⟩,⟨by omega,by omega,O⟩,Weak.mk [true] ⟨zB,VLe.of_eq (congrArg vI (by omega)),zB,zB,T⟩ O⟩ ?_
 rintro ⟨k,n⟩ ⟨hk,hn1,hn2⟩
 show AWP _ _ _ _ _ ⟨[(6,vI k),(5,vI n)]++_,[]++_⟩
 refine zI<|R O<|G O<|zG O kR<|zH wJ (Y 0 O) O<|zZ O el51<|yB O<|G O<|rL0 O (fun g3_5=>zN O O) O<|rL0 O (fun g3_5=>zN O O) O<|rLz [(24,_),(25,_)] O J ⟨O,O,O,O,T⟩ (fun g3_5=>kQ O O O) O<|yK O (fun h=>h)<|zA<|zC O (fun c1=>?_) (fun c1=>?_)
 ·try simp only [sx] at c1
  obtain ⟨y,hy⟩:=qU e.Idx k (by omega)
  obtain ⟨i1,i2,i3⟩:=f4 y (qA hy)
  refine zJ<|zI<|zP<|zI<|qW 19 mixed (by kernel_rfl) O O<|zL O O (zN O O)<|zL O O (zD O kR O)<|zL O O (zF O wJ O (Y 0 O) O)<|zL O O (zN O O)<|zL O O (qL O el51 O O (by omega) (B (by assumption)))<|zL O O (qF O zCy O)<|zL O O (qF O zAy O)<|zL O O (zF O zDz O zQ O)<|zL O O (yW O el52 O)<|zL O O (kZ O O O ⟨by omega,by omega⟩)<|zL O O (zD O kR O)<|zL O O (zF O wJ O (Y 0 O) O)<|zL O O (zN O O)<|zL O O (qL O el51 O O (by omega) (B (by assumption)))<|zL O O (qF O zAr O)<|zL O O (zF O zCl O zQ O)<|zL O O (yW O zAv O)<|zL O O (kZ O O O ⟨by omega,by omega⟩)<|zL O O (yU O O)<|yJ<|zA<|R O<|G O<|zA<|zP<|zT ⟨[(7,.c _),(5,.c _),(1,.c _),(2,.c _),(6,.c _)],[_]⟩ (Weak.mk [true] ⟨zB,zB,zB,zB,zB,T⟩ O) ?_
  refine qG 2 0 O O (Nat×Nat) (fun ⟨j,p⟩=>[(7,vI j),(5,vI p)]) (fun ⟨j,p⟩=>[]) (fun ⟨j,p⟩=>j<=y.At.length/\(p<=m+4*140737488355328)/\(fT m (n+y.Lin.L.length+y.At.length) y.At=fT m p (y.At.drop j))) (fun ⟨j,p⟩=>y.At.length-j) ⟨⟨0,n+y.Lin.L.length+y.At.length⟩,⟨by omega,by omega,O⟩,Weak.mk [true] ⟨zB,VLe.of_eq (congrArg vI (by omega)),zB,zB,zB,T⟩ O⟩ ?_
  rintro ⟨j,p⟩ ⟨hj,hp1,hp2⟩
  show AWP _ _ _ _ _ ⟨[(7,vI j),(5,vI p)]++_,[]++_⟩
  refine zI<|R O<|G O<|zG O kR<|zH wJ (Y 0 O) O<|G O<|qD O el51 (by omega) (B (by assumption))<|zX O zAr<|zH zCl zQ O<|zZ O zAv<|yB O<|G O<|rL0 O (fun g7_9=>zN O O) O<|rL0 O (fun g7_9=>zN O O) O<|rLz [(58,_),(59,_)] O J ⟨O,O,O,O,T⟩ (fun g7_9=>kQ O O O) O<|yK O (fun h=>h)<|zA<|zC O (fun c2=>?_) (fun c2=>?_)
  ·try simp only [sx] at c2
   obtain ⟨l,hl⟩:=qU y.At j (by omega)
   have hl2:=i3 l (qA hl)
   refine zJ<|zI<|zP<|zM O<|G O<|zG O kR<|zH wJ (Y 0 O) O<|G O<|qD O el51 (by omega) (B (by assumption))<|zX O zAr<|zH zCl zQ O<|G O<|qD O zAv (by omega) (B (by assumption))<|zX O zAy<|zH zDz zQ O<|zZ O el52<|qB O ⟨by omega,by omega⟩<|G O<|zA<|zM O<|G O<|qB O ⟨by omega,by omega⟩<|G O<|zA ?_
   refine ⟨⟨j+1,p+l.L.length⟩,⟨by omega,by omega,by rw [hp2,qY hl,fT,if_pos (by omega)]⟩,(by show y.At.length-(j+1)<y.At.length-j;omega),Weak.mk [true] ⟨zB,VLe.of_eq (congrArg vI (by omega)),zB,zB,zB,T⟩ O⟩
  ·try simp only [sx] at c2
   have hN2:=weighAt_end (l:=y.At) (k:=j) (n:=p) hx (by omega)
   refine qH<|zM O<|G O<|qB O ⟨by omega,by omega⟩<|G O<|zA ?_
   refine ⟨⟨k+1,p⟩,⟨by omega,hp1,by rw [hn2,qY hy,dU,if_pos (by omega),hp2,←hN2]⟩,(by show e.Idx.length-(k+1)<e.Idx.length-k;omega),Weak.mk [true] ⟨zB,zB,zB,zB,T⟩ O⟩
 ·try simp only [sx] at c1
  have hN:=weighIdx_end (l:=e.Idx) (k:=k) (n:=n) hx (by omega)
  refine qH<|zI<|R O<|G O<|zA<|zP<|zT ⟨[(8,.c _),(5,.c _),(1,.c _),(2,.c _)],[_]⟩ (Weak.mk [true] ⟨zB,zB,zB,zB,T⟩ O)<|qG 2 0 O O (Nat×Nat) (fun ⟨k,n⟩=>[(8,vI k),(5,vI n)]) (fun ⟨k,n⟩=>[]) (fun ⟨k,n⟩=>k<=e.Args.length/\(n<=m+4*140737488355328)/\(fH e m=gU (e.Args.drop k) m n)) (fun ⟨k,n⟩=>e.Args.length-k) ⟨⟨0,n⟩,⟨by omega,hn1,by rw [hW,hn2,←hN];rfl⟩,Weak.mk [true] ⟨zB,zB,zB,zB,T⟩ O⟩ ?_
  rintro ⟨k,n⟩ ⟨hk3,hn3,hn4⟩
  show AWP _ _ _ _ _ ⟨[(8,vI k),(5,vI n)]++_,[]++_⟩
  refine zI<|R O<|G O<|zG O kO<|zH wZ (Y 0 O) O<|zZ O el55<|yB O<|G O<|rL0 O (fun g11_5=>zN O O) O<|rL0 O (fun g11_5=>zN O O) O<|rLz [(83,_),(84,_)] O J ⟨O,O,O,O,T⟩ (fun g11_5=>kQ O O O) O<|yK O (fun h=>h)<|zA<|zC O (fun c3=>?_) (fun c3=>?_)
  ·try simp only [sx] at c3
   obtain ⟨a,ha⟩:=qU e.Args k (by omega)
   have hwa:=zFp a (m-n) (f5 a (qA ha))
   refine zJ<|zI<|zP<|zM O<|G O<|zG O kO<|zH wZ (Y 0 O) O<|G O<|qD O el55 (by omega) (zAa (by assumption))<|zO yP zQ O<|G O<|G O<|yY O ⟨by omega,by omega⟩<|qN O ok46 (ih a (qA ha) (m-n) _ (f5 a (qA ha)) (by omega) (by omega)) ⟨zB,O,zB,O,T⟩<|qB O ⟨by omega,by omega⟩<|G O<|zA<|zM O<|G O<|qB O ⟨by omega,by omega⟩<|G O<|zA ?_
   refine ⟨⟨k+1,n+fH a (m-n)⟩,⟨by omega,by omega,by rw [hn4,qY ha,gU,if_pos (by omega)]⟩,(by show e.Args.length-(k+1)<e.Args.length-k;omega),Weak.mk [true] ⟨zB,VLe.of_eq (congrArg vI (by omega)),zB,zB,T⟩ O⟩
  ·try simp only [sx] at c3
   refine qH<|R O<|G O<|G O<|zA<|zK<|zR O ?_
   exact congrArg vI (by rw [hn4,←weighL_end hx (by omega)])
theorem base_Weigh (e:Ex) (m:Nat) (x:Int) (hf:e.fit) (hm:m<=1000000) (hx:x=m):Pur cfg 46 [vE e,vI x] (vI (fH e m)):=by
  induction e using Ex.ind generalizing m x with
  |_ e ih=>exact zTq e (fun a ha m x h1 h2 h3=>ih a ha m x h1 h2 h3) m x hf hm hx
end Go.W
