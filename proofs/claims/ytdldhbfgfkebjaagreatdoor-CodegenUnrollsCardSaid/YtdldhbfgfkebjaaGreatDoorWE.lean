/-
  What functions compute.
  Conditions: none.
-/
import Derived.Test.YtdldhbfgfkebjaaGreatDoorWD
import Derived.Test.YtdldhbfgfkebjaaGreatDoorPlain
set_option linter.unusedSimpArgs false
set_option linter.unusedVariables false
set_option maxRecDepth 10000
namespace Go.W
open Go Go.Eng Go.Proofs Go.L41 Go.Br
attribute [local irreducible] AWP RWP TD fP
theorem ok46:bA Tryz.prog 46=true:=by kernel_rfl
theorem ok183:bA Tryz.prog 183=true:=by kernel_rfl
theorem ok200:bA Tryz.prog 200=true:=by kernel_rfl
theorem ok201:bA Tryz.prog 201=true:=by kernel_rfl
theorem ok202:bA Tryz.prog 202=true:=by kernel_rfl
theorem ok230:bA Tryz.prog 230=true:=by kernel_rfl
theorem ok256:bA Tryz.prog 256=true:=by kernel_rfl
theorem base_LinsF (a b:List Lf) (ha:a.length<=6000000000000) (hw:∀x,x∈a->x.L.length<=6000000000000):
    Pur cfg 256 [nQ a,nQ b] (vB (decide (a=b))):=by
 refine zW Tryz.func256 O Tryz.ntmps256 Tryz.results256 O ?_
 intro z hz
 refine R O<|G O<|zA<|zF<|R O<|G O<|qD O zAk<|G O<|qD O zAk<|wA O<|zA<|zD O (fun c1=>?_) (fun c1=>?_)
 ·try simp only [sx] at c1
  refine R O<|G O<|zA<|zN<|zV O ?_
  rw [kL (fun h=>c1 (by rw [h]))]
 ·try simp only [sx] at c1
  refine zI<|zF<|R O<|G O<|zA<|zP<|zU ⟨[(5,.c _),(0,.c _),(1,.c _)],[]⟩ (Weak.mk [] ⟨zB,zB,zB,T⟩ O)<|qF 1 0 O O (Nat) (fun k=>[(5,vI k)]) (fun k=>[]) (fun k=>k<=a.length/\(a.take k=b.take k)) (fun k=>a.length-k) ⟨0,⟨by omega,O⟩,Weak.mk [] ⟨zB,zB,zB,T⟩ O⟩ ?_
  rintro k ⟨hk,hp⟩
  refine zF<|R O<|G O<|G O<|qD O zAk<|yC O<|zA<|zD O (fun c2=>?_) (fun c2=>?_)
  ·try simp only [sx] at c2
   obtain ⟨x,hx⟩:=qU a k (by omega)
   obtain ⟨y,hy⟩:=qU b k (by omega)
   refine zI<|zF<|zP<|zF<|qW 10 mixed (by kernel_rfl) O O<|zL O O (zM O O)<|zL O O (zM O O)<|zL O O (qH O zAk O O (by omega) (v (by assumption)))<|zL O O (qC O zAj O zO O)<|zL O O (zM O O)<|zL O O (zM O O)<|zL O O (qH O zAk O O (by omega) (v (by assumption)))<|zL O O (qC O zAj O zO O)<|zL O O (qR O ok200 (base_Lin x y (hw x (qE hx))) ⟨zB,O,zB,O,T⟩)<|zL O O (wJ O O)<|yM<|zA<|zD O (fun c3=>?_) (fun c3=>?_)
   ·try simp only [sx] at c3
    refine R O<|G O<|zA<|zN<|zV O ?_
    rw [kL (zMt hx hy c3)]
   ·exact j6
  ·exact v28
theorem base_Lins (a b:List Lf) (ha:a.length<=6000000000000) (hw:mJ a<=6000000000000):Pur cfg 256 [nQ a,nQ b] (vB (decide (a=b))):=
  base_LinsF a b ha fun x hx=>by have:=zAy hx;omega
theorem base_Index (a b:Ix) (ha:a.wt<=6000000000000):
    Pur cfg 230 [gK a,gK b] (vB (decide (a=b))):=by
 refine zW Tryz.func230 O Tryz.ntmps230 Tryz.results230 O ?_
 intro z hz
 have hw:=ha
 unfold Ix.wt at hw
 refine R O<|zS O O (qP O O) ?_
 rintro _ _ ⟨b1,rfl,rfl⟩
 refine zS O O (qP O O) ?_
 rintro _ _ ⟨b2,rfl,rfl⟩
 refine G O<|zA<|R O<|zJ O wN<|zE one9 (A 1 O) O<|zJ O wN<|zE one9 (A 0 O) O<|zZ O (kE O O O)<|G O<|rL0 O (fun g1_5=>zH O zBx O) O<|B 11 O (fun g1_5=>qC O zAj O (A 1 O) O) O<|rL0 O (fun g1_5=>zH O zBx O) O<|B 13 O (fun g1_5=>qC O zAj O (A 0 O) O) O<|rLz [(12,_),(14,_)] O gv1 ⟨O,O,O,O,T⟩ (fun g1_5=>qR O ok200 (base_Lin a.Lin b.Lin (by omega)) ⟨zB,O,zB,O,T⟩) O<|yW O (fun h=>h)<|G O<|rL0 O (fun g1_12=>zH O wU O) O<|B 18 O (fun g1_12=>zC O zAx O (A 1 O) O) O<|rL0 O (fun g1_12=>zH O wU O) O<|B 20 O (fun g1_12=>zC O zAx O (A 0 O) O) O<|rLz [(19,_),(21,_)] O gv1 ⟨O,O,O,O,T⟩ (fun g1_12=>qR O ok256 (base_Lins a.At b.At (by omega) (by omega)) ⟨zB,O,zB,O,T⟩) O<|yW O (fun h=>h)<|G O<|zA<|zN<|zV O ?_
 exact congrArg vB (ix_eq a b)
theorem base_Indices (a b:List Ix) (ha:a.length<=6000000000000) (hw:fQ a<=6000000000000):
    Pur cfg 201 [jQ a,jQ b] (vB (decide (a=b))):=by
 refine zW Tryz.func201 O Tryz.ntmps201 Tryz.results201 O ?_
 intro z hz
 refine R O<|G O<|zA<|zF<|R O<|G O<|qD O el51<|G O<|qD O el51<|wA O<|zA<|zD O (fun c1=>?_) (fun c1=>?_)
 ·try simp only [sx] at c1
  refine R O<|G O<|zA<|zN<|zV O ?_
  rw [kL (fun h=>c1 (by rw [h]))]
 ·try simp only [sx] at c1
  refine zI<|zF<|R O<|G O<|zA<|zP<|zU ⟨[(5,.c _),(0,.c _),(1,.c _)],[]⟩ (Weak.mk [] ⟨zB,zB,zB,T⟩ O)<|qF 1 0 O O (Nat) (fun k=>[(5,vI k)]) (fun k=>[]) (fun k=>k<=a.length/\(a.take k=b.take k)) (fun k=>a.length-k) ⟨0,⟨by omega,O⟩,Weak.mk [] ⟨zB,zB,zB,T⟩ O⟩ ?_
  rintro k ⟨hk,hp⟩
  refine zF<|R O<|G O<|G O<|qD O el51<|yC O<|zA<|zD O (fun c2=>?_) (fun c2=>?_)
  ·try simp only [sx] at c2
   obtain ⟨x,hx⟩:=qU a k (by omega)
   obtain ⟨y,hy⟩:=qU b k (by omega)
   have hxw:=zBa (qE hx)
   refine zI<|zF<|zP<|zF<|qW 10 mixed (by kernel_rfl) O O<|zL O O (zM O O)<|zL O O (zM O O)<|zL O O (qH O el51 O O (by omega) (v (by assumption)))<|zL O O (qC O zCr O zO O)<|zL O O (zM O O)<|zL O O (zM O O)<|zL O O (qH O el51 O O (by omega) (v (by assumption)))<|zL O O (qC O zCr O zO O)<|zL O O (qR O ok230 (base_Index x y (by omega)) ⟨zB,O,zB,O,T⟩)<|zL O O (wJ O O)<|yM<|zA<|zD O (fun c3=>?_) (fun c3=>?_)
   ·try simp only [sx] at c3
    refine R O<|G O<|zA<|zN<|zV O ?_
    rw [kL (zMt hx hy c3)]
   ·exact j6
  ·exact v28
theorem base_Exprs_of (a b:List Ex) (hE:∀x,x∈a->∀y,Pur cfg 183 [vE x,vE y] (vB (decide (x=y)))) (ha:a.length<=6000000000000):
    Pur cfg 202 [vEs a,vEs b] (vB (decide (a=b))):=by
 refine zW Tryz.func202 O Tryz.ntmps202 Tryz.results202 O ?_
 intro z hz
 refine R O<|G O<|zA<|zF<|R O<|G O<|qD O el55<|G O<|qD O el55<|wA O<|zA<|zD O (fun c1=>?_) (fun c1=>?_)
 ·try simp only [sx] at c1
  refine R O<|G O<|zA<|zN<|zV O ?_
  rw [kL (fun h=>c1 (by rw [h]))]
 ·try simp only [sx] at c1
  refine zI<|zF<|R O<|G O<|zA<|zP<|zU ⟨[(5,.c _),(0,.c _),(1,.c _)],[]⟩ (Weak.mk [] ⟨zB,zB,zB,T⟩ O)<|qF 1 0 O O (Nat) (fun k=>[(5,vI k)]) (fun k=>[]) (fun k=>k<=a.length/\(a.take k=b.take k)) (fun k=>a.length-k) ⟨0,⟨by omega,O⟩,Weak.mk [] ⟨zB,zB,zB,T⟩ O⟩ ?_
  rintro k ⟨hk,hp⟩
  refine zF<|R O<|G O<|G O<|qD O el55<|yC O<|zA<|zD O (fun c2=>?_) (fun c2=>?_)
  ·try simp only [sx] at c2
   obtain ⟨x,hx⟩:=qU a k (by omega)
   obtain ⟨y,hy⟩:=qU b k (by omega)
   refine zI<|zF<|zP<|zF<|qW 10 mixed (by kernel_rfl) O O<|zL O O (zM O O)<|zL O O (zM O O)<|zL O O (qH O el55 O O (by omega) (wF (by assumption)))<|zL O O (qC O yN O zO O)<|zL O O (zM O O)<|zL O O (zM O O)<|zL O O (qH O el55 O O (by omega) (wF (by assumption)))<|zL O O (qC O yN O zO O)<|zL O O (qR O ok183 (hE x (qE hx) y) ⟨zB,O,zB,O,T⟩)<|zL O O (wJ O O)<|yM<|zA<|zD O (fun c3=>?_) (fun c3=>?_)
   ·try simp only [sx] at c3
    refine R O<|G O<|zA<|zN<|zV O ?_
    rw [kL (zMt hx hy c3)]
   ·exact j6
  ·exact v28
theorem base_Expr_step (a:Ex) (ih:∀x,x∈a.Args->x.wt<=6000000000000->∀y,Pur cfg 183 [vE x,vE y] (vB (decide (x=y)))) (ha:a.wt<=6000000000000) (b:Ex):
    Pur cfg 183 [vE a,vE b] (vB (decide (a=b))):=by
 refine zW Tryz.func183 O Tryz.ntmps183 Tryz.results183 O ?_
 intro z hz
 obtain ⟨hL,hI,hA⟩:=a.parts ha
 have hw:=Ex.wt_eq a
 refine R O<|zS O O (qP O O) ?_
 rintro _ _ ⟨b1,rfl,rfl⟩
 refine zS O O (qP O O) ?_
 rintro _ _ ⟨b2,rfl,rfl⟩
 refine G O<|zA<|R O<|zJ O kR<|zE one3 (A 1 O) O<|zJ O kR<|zE one3 (A 0 O) O<|yE O<|G O<|rL0 O (fun g1_5=>zH O zCo O) O<|B 11 O (fun g1_5=>zC O one9 O (A 1 O) O) O<|rL0 O (fun g1_5=>zH O zCo O) O<|B 13 O (fun g1_5=>zC O one9 O (A 0 O) O) O<|rLz [(12,_),(14,_)] O gv1 ⟨O,O,O,O,T⟩ (fun g1_5=>kE O O O) O<|yW O (fun h=>h)<|G O<|rL0 O (fun g1_12=>zH O zGp O) O<|B 18 O (fun g1_12=>qC O zUo O (A 1 O) O) O<|rL0 O (fun g1_12=>zH O zGp O) O<|B 20 O (fun g1_12=>qC O zUo O (A 0 O) O) O<|rLz [(19,_),(21,_)] O gv1 ⟨O,O,O,O,T⟩ (fun g1_12=>zKe O fl44 O O O) O<|yW O (fun h=>h)<|G O<|rL0 O (fun g1_19=>zH O zBj O) O<|B 25 O (fun g1_19=>qC O yG O (A 1 O) O) O<|rL0 O (fun g1_19=>zH O zBj O) O<|B 27 O (fun g1_19=>qC O yG O (A 0 O) O) O<|rLz [(26,_),(28,_)] O gv1 ⟨O,O,O,O,T⟩ (fun g1_19=>zKe O fl31 O O O) O<|yW O (fun h=>h)<|G O<|rL0 O (fun g1_26=>zH O zEd O) O<|B 32 O (fun g1_26=>qC O zAj O (A 1 O) O) O<|rL0 O (fun g1_26=>zH O zEd O) O<|B 34 O (fun g1_26=>qC O zAj O (A 0 O) O) O<|rLz [(33,_),(35,_)] O gv1 ⟨O,O,O,O,T⟩ (fun g1_26=>qR O ok200 (base_Lin a.Lin b.Lin hL) ⟨zB,O,zB,O,T⟩) O<|yW O (fun h=>h)<|G O<|rL0 O (fun g1_33=>zH O kQ O) O<|B 39 O (fun g1_33=>zC O wI O (A 1 O) O) O<|rL0 O (fun g1_33=>zH O kQ O) O<|B 41 O (fun g1_33=>zC O wI O (A 0 O) O) O<|rLz [(40,_),(42,_)] O gv1 ⟨O,O,O,O,T⟩ (fun g1_33=>qR O ok201 (base_Indices a.Idx b.Idx hI (by omega)) ⟨zB,O,zB,O,T⟩) O<|yW O (fun h=>h)<|G O<|rL0 O (fun g1_40=>zH O yU O) O<|B 46 O (fun g1_40=>zC O kW O (A 1 O) O) O<|rL0 O (fun g1_40=>zH O yU O) O<|B 48 O (fun g1_40=>zC O kW O (A 0 O) O) O<|rLz [(47,_),(49,_)] O gv1 ⟨O,O,O,O,T⟩ (fun g1_40=>qR O ok202 (base_Exprs_of a.Args b.Args (fun x hx y=>ih x hx (by have:=Ex.arg_wt hx;omega) y) hA) ⟨zB,O,zB,O,T⟩) O<|yW O (fun h=>h)<|G O<|zA<|zN<|zV O ?_
 exact congrArg vB (ex_eq a b)
theorem base_Expr (a b:Ex) (ha:a.wt<=6000000000000):Pur cfg 183 [vE a,vE b] (vB (decide (a=b))):=by
  induction a using Ex.ind generalizing b with
  |_ a ih=>exact base_Expr_step a (fun x hx h y=>ih x hx y h) ha b
theorem zUi (e:Ex) (ih:∀a,a∈e.Args->∀(m:Nat) (x:Int),a.fit->m<=1000000->x=m->Pur cfg 46 [vE a,vI x] (vI (fF a m))) (m:Nat) (x:Int) (hf:e.fit) (hm:m<=1000000) (hx:x=m):
    Pur cfg 46 [vE e,vI x] (vI (fF e m)):=by
 refine zW Tryz.func46 O Tryz.ntmps46 Tryz.results46 O ?_
 intro z hz
 obtain ⟨f1,f2,f3,f4,f5⟩:=Ex.fit_eq hf
 have hW:=weighE_eq e m
 refine R O<|zS O O (qP O O) ?_
 rintro _ _ ⟨b1,rfl,rfl⟩
 refine G O<|zA<|R O<|zJ O zEd<|zJ O zAg<|zE zCj (A 0 O) O<|qD O el52<|qA O ⟨by omega,by omega⟩<|zJ O kQ<|zE wI (A 0 O) O<|qD O el51<|qA O ⟨by omega,by omega⟩<|G O<|zA<|zF<|R O<|G O<|zA<|zP<|zU ⟨[(6,.c _),(5,.c _),(1,.c _),(2,.c _)],[_]⟩ (Weak.mk [true] ⟨zB,zB,zB,zB,T⟩ O) ?_
 refine qF 2 0 O O (Nat×Nat) (fun ⟨k,n⟩=>[(6,vI k),(5,vI n)]) (fun ⟨k,n⟩=>[]) (fun ⟨k,n⟩=>k<=e.Idx.length/\(n<=m+4*140737488355328)/\(dS m (1+e.Lin.L.length+e.Idx.length) e.Idx=dS m n (e.Idx.drop k))) (fun ⟨k,n⟩=>e.Idx.length-k) ⟨⟨0,1+e.Lin.L.length+e.Idx.length⟩,⟨by omega,by omega,O⟩,Weak.mk [true] ⟨zB,VLe.of_eq (congrArg vI (by omega)),zB,zB,T⟩ O⟩ ?_
 rintro ⟨k,n⟩ ⟨hk,hn1,hn2⟩
 show AWP _ _ _ _ _ ⟨[(6,vI k),(5,vI n)]++_,[]++_⟩
 refine zF<|R O<|G O<|zJ O kQ<|zE wI (A 0 O) O<|qD O el51<|yC O<|G O<|rL0 O (fun g3_5=>zM O O) O<|rL0 O (fun g3_5=>zM O O) O<|rLz [(24,_),(25,_)] O gv1 ⟨O,O,O,O,T⟩ (fun g3_5=>wL O O O) O<|yW O (fun h=>h)<|zA<|zD O (fun c1=>?_) (fun c1=>?_)
 ·try simp only [sx] at c1
  obtain ⟨y,hy⟩:=qU e.Idx k (by omega)
  obtain ⟨i1,i2,i3⟩:=f4 y (qE hy)
  refine zI<|zF<|zP<|zF<|qW 19 mixed (by kernel_rfl) O O<|zL O O (zM O O)<|zL O O (zH O kQ O)<|zL O O (zC O wI O (A 0 O) O)<|zL O O (zM O O)<|zL O O (qH O el51 O O (by omega) (v (by assumption)))<|zL O O (qB O zBx O)<|zL O O (qB O zAg O)<|zL O O (zC O zCj O zO O)<|zL O O (yV O el52 O)<|zL O O (wC O O O ⟨by omega,by omega⟩)<|zL O O (zH O kQ O)<|zL O O (zC O wI O (A 0 O) O)<|zL O O (zM O O)<|zL O O (qH O el51 O O (by omega) (v (by assumption)))<|zL O O (qB O wU O)<|zL O O (zC O zAx O zO O)<|zL O O (yV O zAk O)<|zL O O (wC O O O ⟨by omega,by omega⟩)<|zL O O (yR O O)<|yM<|zA<|R O<|G O<|zA<|zP<|zU ⟨[(7,.c _),(5,.c _),(1,.c _),(2,.c _),(6,.c _)],[_]⟩ (Weak.mk [true] ⟨zB,zB,zB,zB,zB,T⟩ O) ?_
  refine qF 2 0 O O (Nat×Nat) (fun ⟨j,p⟩=>[(7,vI j),(5,vI p)]) (fun ⟨j,p⟩=>[]) (fun ⟨j,p⟩=>j<=y.At.length/\(p<=m+4*140737488355328)/\(fO m (n+y.Lin.L.length+y.At.length) y.At=fO m p (y.At.drop j))) (fun ⟨j,p⟩=>y.At.length-j) ⟨⟨0,n+y.Lin.L.length+y.At.length⟩,⟨by omega,by omega,O⟩,Weak.mk [true] ⟨zB,VLe.of_eq (congrArg vI (by omega)),zB,zB,zB,T⟩ O⟩ ?_
  rintro ⟨j,p⟩ ⟨hj,hp1,hp2⟩
  show AWP _ _ _ _ _ ⟨[(7,vI j),(5,vI p)]++_,[]++_⟩
  refine zF<|R O<|G O<|zJ O kQ<|zE wI (A 0 O) O<|G O<|zY O el51 (by omega) (v (by assumption))<|zT O wU<|zE zAx zO O<|qD O zAk<|yC O<|G O<|rL0 O (fun g7_9=>zM O O) O<|rL0 O (fun g7_9=>zM O O) O<|rLz [(58,_),(59,_)] O gv1 ⟨O,O,O,O,T⟩ (fun g7_9=>wL O O O) O<|yW O (fun h=>h)<|zA<|zD O (fun c2=>?_) (fun c2=>?_)
  ·try simp only [sx] at c2
   obtain ⟨l,hl⟩:=qU y.At j (by omega)
   have hl2:=i3 l (qE hl)
   refine zI<|zF<|zP<|zK O<|G O<|zJ O kQ<|zE wI (A 0 O) O<|G O<|zY O el51 (by omega) (v (by assumption))<|zT O wU<|zE zAx zO O<|G O<|zY O zAk (by omega) (v (by assumption))<|zT O zAg<|zE zCj zO O<|qD O el52<|qA O ⟨by omega,by omega⟩<|G O<|zA<|zK O<|G O<|qA O ⟨by omega,by omega⟩<|G O<|zA ?_
   refine ⟨⟨j+1,p+l.L.length⟩,⟨by omega,by omega,by rw [hp2,yB hl,fO,if_pos (by omega)]⟩,(by show y.At.length-(j+1)<y.At.length-j;omega),Weak.mk [true] ⟨zB,VLe.of_eq (congrArg vI (by omega)),zB,zB,zB,T⟩ O⟩
  ·try simp only [sx] at c2
   have hN2:=weighAt_end (l:=y.At) (k:=j) (n:=p) hx (by omega)
   refine qK<|zK O<|G O<|qA O ⟨by omega,by omega⟩<|G O<|zA ?_
   refine ⟨⟨k+1,p⟩,⟨by omega,hp1,by rw [hn2,yB hy,dS,if_pos (by omega),hp2,←hN2]⟩,(by show e.Idx.length-(k+1)<e.Idx.length-k;omega),Weak.mk [true] ⟨zB,zB,zB,zB,T⟩ O⟩
 ·try simp only [sx] at c1
  have hN:=weighIdx_end (l:=e.Idx) (k:=k) (n:=n) hx (by omega)
  refine qK<|zF<|R O<|G O<|zA<|zP<|zU ⟨[(8,.c _),(5,.c _),(1,.c _),(2,.c _)],[_]⟩ (Weak.mk [true] ⟨zB,zB,zB,zB,T⟩ O)<|qF 2 0 O O (Nat×Nat) (fun ⟨k,n⟩=>[(8,vI k),(5,vI n)]) (fun ⟨k,n⟩=>[]) (fun ⟨k,n⟩=>k<=e.Args.length/\(n<=m+4*140737488355328)/\(fF e m=gI (e.Args.drop k) m n)) (fun ⟨k,n⟩=>e.Args.length-k) ⟨⟨0,n⟩,⟨by omega,hn1,by rw [hW,hn2,←hN];rfl⟩,Weak.mk [true] ⟨zB,zB,zB,zB,T⟩ O⟩ ?_
  rintro ⟨k,n⟩ ⟨hk3,hn3,hn4⟩
  show AWP _ _ _ _ _ ⟨[(8,vI k),(5,vI n)]++_,[]++_⟩
  refine zF<|R O<|G O<|zJ O yU<|zE kW (A 0 O) O<|qD O el55<|yC O<|G O<|rL0 O (fun g11_5=>zM O O) O<|rL0 O (fun g11_5=>zM O O) O<|rLz [(83,_),(84,_)] O gv1 ⟨O,O,O,O,T⟩ (fun g11_5=>wL O O O) O<|yW O (fun h=>h)<|zA<|zD O (fun c3=>?_) (fun c3=>?_)
  ·try simp only [sx] at c3
   obtain ⟨a,ha⟩:=qU e.Args k (by omega)
   have hwa:=zGb a (m-n) (f5 a (qE ha))
   refine zI<|zF<|zP<|zK O<|G O<|zJ O yU<|zE kW (A 0 O) O<|G O<|zY O el55 (by omega) (wF (by assumption))<|zQ yN zO O<|G O<|G O<|yY O ⟨by omega,by omega⟩<|qS O ok46 (ih a (qE ha) (m-n) _ (f5 a (qE ha)) (by omega) (by omega)) ⟨zB,O,zB,O,T⟩<|qA O ⟨by omega,by omega⟩<|G O<|zA<|zK O<|G O<|qA O ⟨by omega,by omega⟩<|G O<|zA ?_
   refine ⟨⟨k+1,n+fF a (m-n)⟩,⟨by omega,by omega,by rw [hn4,yB ha,gI,if_pos (by omega)]⟩,(by show e.Args.length-(k+1)<e.Args.length-k;omega),Weak.mk [true] ⟨zB,VLe.of_eq (congrArg vI (by omega)),zB,zB,T⟩ O⟩
  ·try simp only [sx] at c3
   refine qK<|R O<|G O<|G O<|zA<|zN<|zV O ?_
   exact congrArg vI (by rw [hn4,←weighL_end hx (by omega)])
theorem base_Weigh (e:Ex) (m:Nat) (x:Int) (hf:e.fit) (hm:m<=1000000) (hx:x=m):Pur cfg 46 [vE e,vI x] (vI (fF e m)):=by
  induction e using Ex.ind generalizing m x with
  |_ e ih=>exact zUi e (fun a ha m x h1 h2 h3=>ih a ha m x h1 h2 h3) m x hf hm hx
end Go.W
