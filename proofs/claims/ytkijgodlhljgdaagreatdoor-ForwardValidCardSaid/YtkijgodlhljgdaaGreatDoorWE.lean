/-
  Walks: what functions of the program compute. Printed by wip/gen/mk2.py.
  Conditions: none.
-/
import Derived.Test.YtkijgodlhljgdaaGreatDoorWD
import Derived.Test.YtkijgodlhljgdaaGreatDoorPlain
set_option linter.unusedSimpArgs false
set_option linter.unusedVariables false
set_option maxRecDepth 10000
namespace Go.W
open Go Go.Eng Go.Proofs Go.L41 Go.Br
attribute [local irreducible] AWP RWP TD finQ
theorem ok8:callOk Tryz.prog 8=true:=by kernel_rfl
theorem ok13:callOk Tryz.prog 13=true:=by kernel_rfl
theorem ok38:callOk Tryz.prog 38=true:=by kernel_rfl
theorem ok39:callOk Tryz.prog 39=true:=by kernel_rfl
theorem ok40:callOk Tryz.prog 40=true:=by kernel_rfl
theorem ok52:callOk Tryz.prog 52=true:=by kernel_rfl
theorem ok86:callOk Tryz.prog 86=true:=by kernel_rfl
theorem ok101:callOk Tryz.prog 101=true:=by kernel_rfl
theorem base_LinsF (a b:List Lf) (ha:a.length<=6000000000000) (hw:∀x,x∈a->x.L.length<=6000000000000):
    Pur cfg 52 [vLins a,vLins b] (vB (decide (a=b))):=by
 refine zT Tryz.func52 O Tryz.ntmps52 Tryz.results52 O ?_
 intro z hz
 refine B O<|G O<|U<|zI<|B O<|G O<|zY O el63<|G O<|zY O el63<|yN O<|U<|zE O (fun c1=>?_) (fun c1=>?_)
 ·try simp only [W] at c1
  refine B O<|G O<|U<|zH<|zQ O ?_
  rw [yC (fun h=>c1 (by rw [h]))]
 ·try simp only [W] at c1
  refine zJ<|zI<|B O<|G O<|U<|zP<|zU ⟨[(5,.c _),(0,.c _),(1,.c _)],[]⟩ (Weak.mk [] ⟨Y,Y,Y,T⟩ O)<|qF 1 0 O O (Nat) (fun k=>[(5,vI k)]) (fun k=>[]) (fun k=>k<=a.length/\(a.take k=b.take k)) (fun k=>a.length-k) ⟨0,⟨by omega,O⟩,Weak.mk [] ⟨Y,Y,Y,T⟩ O⟩ ?_
  rintro k ⟨hk,hp⟩
  refine zI<|B O<|G O<|G O<|zY O el63<|yA O<|U<|zE O (fun c2=>?_) (fun c2=>?_)
  ·try simp only [W] at c2
   obtain ⟨x,hx⟩:=qQ a k (by omega)
   obtain ⟨y,hy⟩:=qQ b k (by omega)
   refine zJ<|zI<|zP<|zI<|qT 10 mixed (by kernel_rfl) O O<|zM O O (zR O O)<|zM O O (zR O O)<|zM O O (qA O el63 O O (by omega) (getm (by assumption)))<|zM O O (zN O kK O qB O)<|zM O O (zR O O)<|zM O O (zR O O)<|zM O O (qA O el63 O O (by omega) (getm (by assumption)))<|zM O O (zN O kK O qB O)<|zM O O (qG O ok38 (zLs x y (hw x (qD hx))) ⟨Y,O,Y,O,T⟩)<|zM O O (wA O O)<|yM<|U<|zE O (fun c3=>?_) (fun c3=>?_)
   ·try simp only [W] at c3
    refine B O<|G O<|U<|zH<|zQ O ?_
    rw [yC (zEk hx hy c3)]
   ·try simp only [W] at c3
    refine zJ<|zS O<|G O<|qJ O ⟨by omega,by omega⟩<|G O<|U ?_
    refine ⟨k+1,⟨by omega,zBl hx hy hp c3⟩,(by omega),Weak.mk [] ⟨Y,Y,Y,T⟩ O⟩
  ·try simp only [W] at c2
   refine qO<|B O<|G O<|U<|zH<|zQ O ?_
   rw [kT (zDc hp (by omega) (by omega))]
theorem base_Lins (a b:List Lf) (ha:a.length<=6000000000000) (hw:linsWt a<=6000000000000):Pur cfg 52 [vLins a,vLins b] (vB (decide (a=b))):=
  base_LinsF a b ha fun x hx=>by have:=zBz hx;omega
theorem base_Index (a b:Ix) (ha:a.wt<=6000000000000):
    Pur cfg 101 [vIndex a,vIndex b] (vB (decide (a=b))):=by
 refine zT Tryz.func101 O Tryz.ntmps101 Tryz.results101 O ?_
 intro z hz
 have hw:=ha
 unfold Ix.wt at hw
 refine B O<|zZ O O (qI O O) ?_
 rintro _ _ ⟨b1,rfl,rfl⟩
 refine zZ O O (qI O O) ?_
 rintro _ _ ⟨b2,rfl,rfl⟩
 refine G O<|U<|B O<|zG O zDk<|zK one9 (J 1 O) O<|zG O zDk<|zK one9 (J 0 O) O<|zX O (yL O O O)<|G O<|rL0 O (fun g1_5=>zD O zDv O) O<|rL1 11 O (fun g1_5=>zN O kK O (J 1 O) O) O<|rL0 O (fun g1_5=>zD O zDv O) O<|rL1 13 O (fun g1_5=>zN O kK O (J 0 O) O) O<|rLz [(12,_),(14,_)] O gv1 ⟨O,O,O,O,T⟩ (fun g1_5=>qG O ok38 (zLs a.Lin b.Lin (by omega)) ⟨Y,O,Y,O,T⟩) O<|yW O (fun h=>h)<|G O<|rL0 O (fun g1_12=>zD O zAu O) O<|rL1 18 O (fun g1_12=>zF O zBa O (J 1 O) O) O<|rL0 O (fun g1_12=>zD O zAu O) O<|rL1 20 O (fun g1_12=>zF O zBa O (J 0 O) O) O<|rLz [(19,_),(21,_)] O gv1 ⟨O,O,O,O,T⟩ (fun g1_12=>qG O ok52 (base_Lins a.At b.At (by omega) (by omega)) ⟨Y,O,Y,O,T⟩) O<|yW O (fun h=>h)<|G O<|U<|zH<|zQ O ?_
 exact congrArg vB (ix_eq a b)
theorem base_Indices (a b:List Ix) (ha:a.length<=6000000000000) (hw:idxWt a<=6000000000000):
    Pur cfg 39 [vIndices a,vIndices b] (vB (decide (a=b))):=by
 refine zT Tryz.func39 O Tryz.ntmps39 Tryz.results39 O ?_
 intro z hz
 refine B O<|G O<|U<|zI<|B O<|G O<|zY O el35<|G O<|zY O el35<|yN O<|U<|zE O (fun c1=>?_) (fun c1=>?_)
 ·try simp only [W] at c1
  refine B O<|G O<|U<|zH<|zQ O ?_
  rw [yC (fun h=>c1 (by rw [h]))]
 ·try simp only [W] at c1
  refine zJ<|zI<|B O<|G O<|U<|zP<|zU ⟨[(5,.c _),(0,.c _),(1,.c _)],[]⟩ (Weak.mk [] ⟨Y,Y,Y,T⟩ O)<|qF 1 0 O O (Nat) (fun k=>[(5,vI k)]) (fun k=>[]) (fun k=>k<=a.length/\(a.take k=b.take k)) (fun k=>a.length-k) ⟨0,⟨by omega,O⟩,Weak.mk [] ⟨Y,Y,Y,T⟩ O⟩ ?_
  rintro k ⟨hk,hp⟩
  refine zI<|B O<|G O<|G O<|zY O el35<|yA O<|U<|zE O (fun c2=>?_) (fun c2=>?_)
  ·try simp only [W] at c2
   obtain ⟨x,hx⟩:=qQ a k (by omega)
   obtain ⟨y,hy⟩:=qQ b k (by omega)
   have hxw:=zFw (qD hx)
   refine zJ<|zI<|zP<|zI<|qT 10 mixed (by kernel_rfl) O O<|zM O O (zR O O)<|zM O O (zR O O)<|zM O O (qA O el35 O O (by omega) (getm (by assumption)))<|zM O O (zN O zJe O qB O)<|zM O O (zR O O)<|zM O O (zR O O)<|zM O O (qA O el35 O O (by omega) (getm (by assumption)))<|zM O O (zN O zJe O qB O)<|zM O O (qG O ok101 (base_Index x y (by omega)) ⟨Y,O,Y,O,T⟩)<|zM O O (wA O O)<|yM<|U<|zE O (fun c3=>?_) (fun c3=>?_)
   ·try simp only [W] at c3
    refine B O<|G O<|U<|zH<|zQ O ?_
    rw [yC (zEk hx hy c3)]
   ·try simp only [W] at c3
    refine zJ<|zS O<|G O<|qJ O ⟨by omega,by omega⟩<|G O<|U ?_
    refine ⟨k+1,⟨by omega,zBl hx hy hp c3⟩,(by omega),Weak.mk [] ⟨Y,Y,Y,T⟩ O⟩
  ·try simp only [W] at c2
   refine qO<|B O<|G O<|U<|zH<|zQ O ?_
   rw [kT (zDc hp (by omega) (by omega))]
theorem base_Exprs_of (a b:List Ex) (hE:∀x,x∈a->∀y,Pur cfg 13 [vE x,vE y] (vB (decide (x=y)))) (ha:a.length<=6000000000000):
    Pur cfg 40 [vEs a,vEs b] (vB (decide (a=b))):=by
 refine zT Tryz.func40 O Tryz.ntmps40 Tryz.results40 O ?_
 intro z hz
 refine B O<|G O<|U<|zI<|B O<|G O<|zY O D<|G O<|zY O D<|yN O<|U<|zE O (fun c1=>?_) (fun c1=>?_)
 ·try simp only [W] at c1
  refine B O<|G O<|U<|zH<|zQ O ?_
  rw [yC (fun h=>c1 (by rw [h]))]
 ·try simp only [W] at c1
  refine zJ<|zI<|B O<|G O<|U<|zP<|zU ⟨[(5,.c _),(0,.c _),(1,.c _)],[]⟩ (Weak.mk [] ⟨Y,Y,Y,T⟩ O)<|qF 1 0 O O (Nat) (fun k=>[(5,vI k)]) (fun k=>[]) (fun k=>k<=a.length/\(a.take k=b.take k)) (fun k=>a.length-k) ⟨0,⟨by omega,O⟩,Weak.mk [] ⟨Y,Y,Y,T⟩ O⟩ ?_
  rintro k ⟨hk,hp⟩
  refine zI<|B O<|G O<|G O<|zY O D<|yA O<|U<|zE O (fun c2=>?_) (fun c2=>?_)
  ·try simp only [W] at c2
   obtain ⟨x,hx⟩:=qQ a k (by omega)
   obtain ⟨y,hy⟩:=qQ b k (by omega)
   refine zJ<|zI<|zP<|zI<|qT 10 mixed (by kernel_rfl) O O<|zM O O (zR O O)<|zM O O (zR O O)<|zM O O (qA O D O O (by omega) (yZ (by assumption)))<|zM O O (zN O qN O qB O)<|zM O O (zR O O)<|zM O O (zR O O)<|zM O O (qA O D O O (by omega) (yZ (by assumption)))<|zM O O (zN O qN O qB O)<|zM O O (qG O ok13 (hE x (qD hx) y) ⟨Y,O,Y,O,T⟩)<|zM O O (wA O O)<|yM<|U<|zE O (fun c3=>?_) (fun c3=>?_)
   ·try simp only [W] at c3
    refine B O<|G O<|U<|zH<|zQ O ?_
    rw [yC (zEk hx hy c3)]
   ·try simp only [W] at c3
    refine zJ<|zS O<|G O<|qJ O ⟨by omega,by omega⟩<|G O<|U ?_
    refine ⟨k+1,⟨by omega,zBl hx hy hp c3⟩,(by omega),Weak.mk [] ⟨Y,Y,Y,T⟩ O⟩
  ·try simp only [W] at c2
   refine qO<|B O<|G O<|U<|zH<|zQ O ?_
   rw [kT (zDc hp (by omega) (by omega))]
theorem base_Expr_step (a:Ex) (ih:∀x,x∈a.Args->x.wt<=6000000000000->∀y,Pur cfg 13 [vE x,vE y] (vB (decide (x=y)))) (ha:a.wt<=6000000000000) (b:Ex):
    Pur cfg 13 [vE a,vE b] (vB (decide (a=b))):=by
 refine zT Tryz.func13 O Tryz.ntmps13 Tryz.results13 O ?_
 intro z hz
 obtain ⟨hL,hI,hA⟩:=a.parts ha
 have hw:=Ex.wt_eq a
 refine B O<|zZ O O (qI O O) ?_
 rintro _ _ ⟨b1,rfl,rfl⟩
 refine zZ O O (qI O O) ?_
 rintro _ _ ⟨b2,rfl,rfl⟩
 refine G O<|U<|B O<|zG O yS<|zK one3 (J 1 O) O<|zG O yS<|zK one3 (J 0 O) O<|L O<|G O<|rL0 O (fun g1_5=>zD O zBw O) O<|rL1 11 O (fun g1_5=>zF O one9 O (J 1 O) O) O<|rL0 O (fun g1_5=>zD O zBw O) O<|rL1 13 O (fun g1_5=>zF O one9 O (J 0 O) O) O<|rLz [(12,_),(14,_)] O gv1 ⟨O,O,O,O,T⟩ (fun g1_5=>yL O O O) O<|yW O (fun h=>h)<|G O<|rL0 O (fun g1_12=>zD O zGx O) O<|rL1 18 O (fun g1_12=>zN O agg29 O (J 1 O) O) O<|rL0 O (fun g1_12=>zD O zGx O) O<|rL1 20 O (fun g1_12=>zN O agg29 O (J 0 O) O) O<|rLz [(19,_),(21,_)] O gv1 ⟨O,O,O,O,T⟩ (fun g1_12=>zLp O fl29 O O O) O<|yW O (fun h=>h)<|G O<|rL0 O (fun g1_19=>zD O zDm O) O<|rL1 25 O (fun g1_19=>zN O qZ O (J 1 O) O) O<|rL0 O (fun g1_19=>zD O zDm O) O<|rL1 27 O (fun g1_19=>zN O qZ O (J 0 O) O) O<|rLz [(26,_),(28,_)] O gv1 ⟨O,O,O,O,T⟩ (fun g1_19=>zLp O fl31 O O O) O<|yW O (fun h=>h)<|G O<|rL0 O (fun g1_26=>zD O zDw O) O<|rL1 32 O (fun g1_26=>zN O kK O (J 1 O) O) O<|rL0 O (fun g1_26=>zD O zDw O) O<|rL1 34 O (fun g1_26=>zN O kK O (J 0 O) O) O<|rLz [(33,_),(35,_)] O gv1 ⟨O,O,O,O,T⟩ (fun g1_26=>qG O ok38 (zLs a.Lin b.Lin hL) ⟨Y,O,Y,O,T⟩) O<|yW O (fun h=>h)<|G O<|rL0 O (fun g1_33=>zD O kL O) O<|rL1 39 O (fun g1_33=>zF O zAd O (J 1 O) O) O<|rL0 O (fun g1_33=>zD O kL O) O<|rL1 41 O (fun g1_33=>zF O zAd O (J 0 O) O) O<|rLz [(40,_),(42,_)] O gv1 ⟨O,O,O,O,T⟩ (fun g1_33=>qG O ok39 (base_Indices a.Idx b.Idx hI (by omega)) ⟨Y,O,Y,O,T⟩) O<|yW O (fun h=>h)<|G O<|rL0 O (fun g1_40=>zD O kZ O) O<|rL1 46 O (fun g1_40=>zF O zAy O (J 1 O) O) O<|rL0 O (fun g1_40=>zD O kZ O) O<|rL1 48 O (fun g1_40=>zF O zAy O (J 0 O) O) O<|rLz [(47,_),(49,_)] O gv1 ⟨O,O,O,O,T⟩ (fun g1_40=>qG O ok40 (base_Exprs_of a.Args b.Args (fun x hx y=>ih x hx (by have:=Ex.arg_wt hx;omega) y) hA) ⟨Y,O,Y,O,T⟩) O<|yW O (fun h=>h)<|G O<|U<|zH<|zQ O ?_
 exact congrArg vB (ex_eq a b)
theorem base_Expr (a b:Ex) (ha:a.wt<=6000000000000):Pur cfg 13 [vE a,vE b] (vB (decide (a=b))):=by
  induction a using Ex.ind generalizing b with
  |_ a ih=>exact base_Expr_step a (fun x hx h y=>ih x hx y h) ha b
theorem zKx (a b:List ByteArray) (ha:a.length<=6000000000000):
    Pur cfg 19 [vSs a,vSs b] (vB (decide (a=b))):=by
 refine zT Tryz.func19 O Tryz.ntmps19 Tryz.results19 O ?_
 intro z hz
 refine B O<|G O<|U<|zI<|B O<|G O<|zY O el22<|G O<|zY O el22<|yN O<|U<|zE O (fun c1=>?_) (fun c1=>?_)
 ·try simp only [W] at c1
  refine B O<|G O<|U<|zH<|zQ O ?_
  rw [yC (fun h=>c1 (by rw [h]))]
 ·try simp only [W] at c1
  refine zJ<|zI<|B O<|G O<|U<|zP<|zU ⟨[(5,.c _),(0,.c _),(1,.c _)],[]⟩ (Weak.mk [] ⟨Y,Y,Y,T⟩ O)<|qF 1 0 O O (Nat) (fun k=>[(5,vI k)]) (fun k=>[]) (fun k=>k<=a.length/\(a.take k=b.take k)) (fun k=>a.length-k) ⟨0,⟨by omega,O⟩,Weak.mk [] ⟨Y,Y,Y,T⟩ O⟩ ?_
  rintro k ⟨hk,hp⟩
  refine zI<|B O<|G O<|G O<|zY O el22<|yA O<|U<|zE O (fun c2=>?_) (fun c2=>?_)
  ·try simp only [W] at c2
   obtain ⟨x,hx⟩:=qQ a k (by omega)
   obtain ⟨y,hy⟩:=qQ b k (by omega)
   refine zJ<|zI<|zP<|zI<|qT 9 mixed (by kernel_rfl) O O<|zM O O (zR O O)<|zM O O (zR O O)<|zM O O (qA O el22 O O (by omega) (getm (by assumption)))<|zM O O (zF O one9 O qB O)<|zM O O (zR O O)<|zM O O (zR O O)<|zM O O (qA O el22 O O (by omega) (getm (by assumption)))<|zM O O (zF O one9 O qB O)<|zM O O (zCt O O O)<|yM<|U<|zE O (fun c3=>?_) (fun c3=>?_)
   ·try simp only [W] at c3
    refine B O<|G O<|U<|zH<|zQ O ?_
    rw [yC (zEk hx hy c3)]
   ·try simp only [W] at c3
    refine zJ<|zS O<|G O<|qJ O ⟨by omega,by omega⟩<|G O<|U ?_
    refine ⟨k+1,⟨by omega,zBl hx hy hp c3⟩,(by omega),Weak.mk [] ⟨Y,Y,Y,T⟩ O⟩
  ·try simp only [W] at c2
   refine qO<|B O<|G O<|U<|zH<|zQ O ?_
   rw [kT (zDc hp (by omega) (by omega))]
theorem zOh (e:Ex) (ih:∀a,a∈e.Args->∀(m:Nat) (x:Int),a.fit->m<=1000000->x=m->Pur cfg 8 [vE a,vI x] (vI (weighE a m))) (m:Nat) (x:Int) (hf:e.fit) (hm:m<=1000000) (hx:x=m):
    Pur cfg 8 [vE e,vI x] (vI (weighE e m)):=by
 refine zT Tryz.func8 O Tryz.ntmps8 Tryz.results8 O ?_
 intro z hz
 obtain ⟨f1,f2,f3,f4,f5⟩:=Ex.fit_eq hf
 have hW:=weighE_eq e m
 refine B O<|zZ O O (qI O O) ?_
 rintro _ _ ⟨b1,rfl,rfl⟩
 refine G O<|U<|B O<|zG O zDw<|zG O wU<|zK zBv (J 0 O) O<|zY O el32<|qJ O ⟨by omega,by omega⟩<|zG O kL<|zK zAd (J 0 O) O<|zY O el35<|qJ O ⟨by omega,by omega⟩<|G O<|U<|zI<|B O<|G O<|U<|zP<|zU ⟨[(6,.c _),(5,.c _),(1,.c _),(2,.c _)],[_]⟩ (Weak.mk [true] ⟨Y,Y,Y,Y,T⟩ O) ?_
 refine qF 2 0 O O (Nat×Nat) (fun ⟨k,n⟩=>[(6,vI k),(5,vI n)]) (fun ⟨k,n⟩=>[]) (fun ⟨k,n⟩=>k<=e.Idx.length/\(n<=m+4*140737488355328)/\(weighIdx m (1+e.Lin.L.length+e.Idx.length) e.Idx=weighIdx m n (e.Idx.drop k))) (fun ⟨k,n⟩=>e.Idx.length-k) ⟨⟨0,1+e.Lin.L.length+e.Idx.length⟩,⟨by omega,by omega,O⟩,Weak.mk [true] ⟨Y,VLe.of_eq (congrArg vI (by omega)),Y,Y,T⟩ O⟩ ?_
 rintro ⟨k,n⟩ ⟨hk,hn1,hn2⟩
 show AWP _ _ _ _ _ ⟨[(6,vI k),(5,vI n)]++_,[]++_⟩
 refine zI<|B O<|G O<|zG O kL<|zK zAd (J 0 O) O<|zY O el35<|yA O<|G O<|rL0 O (fun g3_5=>zR O O) O<|rL0 O (fun g3_5=>zR O O) O<|rLz [(24,_),(25,_)] O gv1 ⟨O,O,O,O,T⟩ (fun g3_5=>kQ O O O) O<|yW O (fun h=>h)<|U<|zE O (fun c1=>?_) (fun c1=>?_)
 ·try simp only [W] at c1
  obtain ⟨y,hy⟩:=qQ e.Idx k (by omega)
  obtain ⟨i1,i2,i3⟩:=f4 y (qD hy)
  refine zJ<|zI<|zP<|zI<|qT 19 mixed (by kernel_rfl) O O<|zM O O (zR O O)<|zM O O (zD O kL O)<|zM O O (zF O zAd O (J 0 O) O)<|zM O O (zR O O)<|zM O O (qA O el35 O O (by omega) (getm (by assumption)))<|zM O O (qL O zDv O)<|zM O O (qL O wU O)<|zM O O (zF O zBv O qB O)<|zM O O (qP O el32 O)<|zM O O (zDe O O O ⟨by omega,by omega⟩)<|zM O O (zD O kL O)<|zM O O (zF O zAd O (J 0 O) O)<|zM O O (zR O O)<|zM O O (qA O el35 O O (by omega) (getm (by assumption)))<|zM O O (qL O zAu O)<|zM O O (zF O zBa O qB O)<|zM O O (qP O el63 O)<|zM O O (zDe O O O ⟨by omega,by omega⟩)<|zM O O (yQ O O)<|yM<|U<|B O<|G O<|U<|zP<|zU ⟨[(7,.c _),(5,.c _),(1,.c _),(2,.c _),(6,.c _)],[_]⟩ (Weak.mk [true] ⟨Y,Y,Y,Y,Y,T⟩ O) ?_
  refine qF 2 0 O O (Nat×Nat) (fun ⟨j,p⟩=>[(7,vI j),(5,vI p)]) (fun ⟨j,p⟩=>[]) (fun ⟨j,p⟩=>j<=y.At.length/\(p<=m+4*140737488355328)/\(weighAt m (n+y.Lin.L.length+y.At.length) y.At=weighAt m p (y.At.drop j))) (fun ⟨j,p⟩=>y.At.length-j) ⟨⟨0,n+y.Lin.L.length+y.At.length⟩,⟨by omega,by omega,O⟩,Weak.mk [true] ⟨Y,VLe.of_eq (congrArg vI (by omega)),Y,Y,Y,T⟩ O⟩ ?_
  rintro ⟨j,p⟩ ⟨hj,hp1,hp2⟩
  show AWP _ _ _ _ _ ⟨[(7,vI j),(5,vI p)]++_,[]++_⟩
  refine zI<|B O<|G O<|zG O kL<|zK zAd (J 0 O) O<|G O<|qE O el35 (by omega) (getm (by assumption))<|zX O (qL O zAu O)<|zK zBa qB O<|zY O el63<|yA O<|G O<|rL0 O (fun g7_9=>zR O O) O<|rL0 O (fun g7_9=>zR O O) O<|rLz [(58,_),(59,_)] O gv1 ⟨O,O,O,O,T⟩ (fun g7_9=>kQ O O O) O<|yW O (fun h=>h)<|U<|zE O (fun c2=>?_) (fun c2=>?_)
  ·try simp only [W] at c2
   obtain ⟨l,hl⟩:=qQ y.At j (by omega)
   have hl2:=i3 l (qD hl)
   refine zJ<|zI<|zP<|zS O<|G O<|zG O kL<|zK zAd (J 0 O) O<|G O<|qE O el35 (by omega) (getm (by assumption))<|zX O (qL O zAu O)<|zK zBa qB O<|G O<|qE O el63 (by omega) (getm (by assumption))<|zX O (qL O wU O)<|zK zBv qB O<|zY O el32<|qJ O ⟨by omega,by omega⟩<|G O<|U<|zS O<|G O<|qJ O ⟨by omega,by omega⟩<|G O<|U ?_
   refine ⟨⟨j+1,p+l.L.length⟩,⟨by omega,by omega,by rw [hp2,qM hl,weighAt,if_pos (by omega)]⟩,(by show y.At.length-(j+1)<y.At.length-j;omega),Weak.mk [true] ⟨Y,VLe.of_eq (congrArg vI (by omega)),Y,Y,Y,T⟩ O⟩
  ·try simp only [W] at c2
   have hN2:=weighAt_end (l:=y.At) (k:=j) (n:=p) hx (by omega)
   refine qO<|zS O<|G O<|qJ O ⟨by omega,by omega⟩<|G O<|U ?_
   refine ⟨⟨k+1,p⟩,⟨by omega,hp1,by rw [hn2,qM hy,weighIdx,if_pos (by omega),hp2,←hN2]⟩,(by show e.Idx.length-(k+1)<e.Idx.length-k;omega),Weak.mk [true] ⟨Y,Y,Y,Y,T⟩ O⟩
 ·try simp only [W] at c1
  have hN:=weighIdx_end (l:=e.Idx) (k:=k) (n:=n) hx (by omega)
  refine qO<|zI<|B O<|G O<|U<|zP<|zU ⟨[(8,.c _),(5,.c _),(1,.c _),(2,.c _)],[_]⟩ (Weak.mk [true] ⟨Y,Y,Y,Y,T⟩ O)<|qF 2 0 O O (Nat×Nat) (fun ⟨k,n⟩=>[(8,vI k),(5,vI n)]) (fun ⟨k,n⟩=>[]) (fun ⟨k,n⟩=>k<=e.Args.length/\(n<=m+4*140737488355328)/\(weighE e m=weighL (e.Args.drop k) m n)) (fun ⟨k,n⟩=>e.Args.length-k) ⟨⟨0,n⟩,⟨by omega,hn1,by rw [hW,hn2,←hN];rfl⟩,Weak.mk [true] ⟨Y,Y,Y,Y,T⟩ O⟩ ?_
  rintro ⟨k,n⟩ ⟨hk3,hn3,hn4⟩
  show AWP _ _ _ _ _ ⟨[(8,vI k),(5,vI n)]++_,[]++_⟩
  refine zI<|B O<|G O<|zG O kZ<|zK zAy (J 0 O) O<|zY O D<|yA O<|G O<|rL0 O (fun g11_5=>zR O O) O<|rL0 O (fun g11_5=>zR O O) O<|rLz [(83,_),(84,_)] O gv1 ⟨O,O,O,O,T⟩ (fun g11_5=>kQ O O O) O<|yW O (fun h=>h)<|U<|zE O (fun c3=>?_) (fun c3=>?_)
  ·try simp only [W] at c3
   obtain ⟨a,ha⟩:=qQ e.Args k (by omega)
   have hwa:=zLx a (m-n) (f5 a (qD ha))
   refine zJ<|zI<|zP<|zS O<|G O<|zG O kZ<|zK zAy (J 0 O) O<|G O<|qE O D (by omega) (yZ (by assumption))<|zL qN qB O<|G O<|G O<|zX O (zAa O O O ⟨by omega,by omega⟩)<|qK O ok8 (ih a (qD ha) (m-n) _ (f5 a (qD ha)) (by omega) (by omega)) ⟨Y,O,Y,O,T⟩<|qJ O ⟨by omega,by omega⟩<|G O<|U<|zS O<|G O<|qJ O ⟨by omega,by omega⟩<|G O<|U ?_
   refine ⟨⟨k+1,n+weighE a (m-n)⟩,⟨by omega,by omega,by rw [hn4,qM ha,weighL,if_pos (by omega)]⟩,(by show e.Args.length-(k+1)<e.Args.length-k;omega),Weak.mk [true] ⟨Y,VLe.of_eq (congrArg vI (by omega)),Y,Y,T⟩ O⟩
  ·try simp only [W] at c3
   refine qO<|B O<|G O<|G O<|U<|zH<|zQ O ?_
   exact congrArg vI (by rw [hn4,←weighL_end hx (by omega)])
theorem base_Weigh (e:Ex) (m:Nat) (x:Int) (hf:e.fit) (hm:m<=1000000) (hx:x=m):Pur cfg 8 [vE e,vI x] (vI (weighE e m)):=by
  induction e using Ex.ind generalizing m x with
  |_ e ih=>exact zOh e (fun a ha m x h1 h2 h3=>ih a ha m x h1 h2 h3) m x hf hm hx
theorem zEg (l:List Mono) (hl:l.length<=5864062014805):
    OwnR cfg 86 [vMonos l] 101 2 (l.map Mono.cells):=by
 refine zT Tryz.func86 O Tryz.ntmps86 Tryz.results86 O ?_
 intro z hz
 refine B O<|zX O (yU 2 O O)<|U<|zI<|B O<|G O<|zZ O O (zFq O el32 O O) ?_
 rintro _ _ ⟨nb1,rfl,hnil1,rfl⟩
 refine U<|zE O (fun c1=>?_) (fun c1=>?_)
 ·try simp only [W] at c1
  refine B O<|G O<|yY _ (kM 101 2)<|U<|zH<|zQ O ?_
  exact ⟨_,O,by rw [hnil1 c1]⟩
 ·try simp only [W] at c1
  refine zJ<|B O<|zZ O O (zBm O el32 zr101 O O O O) ?_
  rintro _ _ ⟨sv3,rfl,rfl⟩
  refine G O<|zZ O O (qY 0 O el32 O O O (by simp only [List.length_map,List.length_nil,Nat.zero_add];omega) (by simp only [List.length_map,List.length_nil,Nat.zero_add];omega)) ?_
  rintro _ _ ⟨sv4,rfl,rfl⟩
  refine G O<|U<|zH<|zQ O ?_
  exact ⟨_,O,O⟩
theorem zLa (l:List Lf) (hl:l.length<=4294967296):
    OwnR cfg 164 [vLins l] 34 2 (l.map Lf.cells):=by
 refine zT Tryz.func164 O Tryz.ntmps164 Tryz.results164 O ?_
 intro z hz
 refine B O<|zX O (yU 2 O O)<|U<|zI<|B O<|G O<|zZ O O (zFq O el63 O O) ?_
 rintro _ _ ⟨nb1,rfl,hnil1,rfl⟩
 refine U<|zE O (fun c1=>?_) (fun c1=>?_)
 ·try simp only [W] at c1
  refine B O<|G O<|yY _ (kM 34 2)<|U<|zH<|zQ O ?_
  exact ⟨_,O,by rw [hnil1 c1]⟩
 ·try simp only [W] at c1
  refine zJ<|B O<|zZ O O (zBm O el63 zr34 O O O O) ?_
  rintro _ _ ⟨sv3,rfl,rfl⟩
  refine G O<|zZ O O (qY 0 O el63 O O O (by simp only [List.length_map,List.length_nil,Nat.zero_add];omega) (by simp only [List.length_map,List.length_nil,Nat.zero_add];omega)) ?_
  rintro _ _ ⟨sv4,rfl,rfl⟩
  refine G O<|U<|zH<|zQ O ?_
  exact ⟨_,O,O⟩
theorem zMk (l:List Ix) (hl:l.length<=4294967296):
    OwnR cfg 163 [vIndices l] 67 4 (l.map Ix.cells):=by
 refine zT Tryz.func163 O Tryz.ntmps163 Tryz.results163 O ?_
 intro z hz
 refine B O<|zX O (yU 4 O O)<|U<|zI<|B O<|G O<|zZ O O (zFq O el35 O O) ?_
 rintro _ _ ⟨nb1,rfl,hnil1,rfl⟩
 refine U<|zE O (fun c1=>?_) (fun c1=>?_)
 ·try simp only [W] at c1
  refine B O<|G O<|yY _ (kM 67 4)<|U<|zH<|zQ O ?_
  exact ⟨_,O,by rw [hnil1 c1]⟩
 ·try simp only [W] at c1
  refine zJ<|B O<|zZ O O (zBm O el35 zr67 O O O O) ?_
  rintro _ _ ⟨sv3,rfl,rfl⟩
  refine G O<|zZ O O (qY 0 O el35 O O O (by simp only [List.length_map,List.length_nil,Nat.zero_add];omega) (by simp only [List.length_map,List.length_nil,Nat.zero_add];omega)) ?_
  rintro _ _ ⟨sv4,rfl,rfl⟩
  refine G O<|U<|zH<|zQ O ?_
  exact ⟨_,O,O⟩
theorem zMl (l:List Ex) (hl:l.length<=4294967296):
    OwnR cfg 165 [vEs l] 38 13 (l.map Ex.cells):=by
 refine zT Tryz.func165 O Tryz.ntmps165 Tryz.results165 O ?_
 intro z hz
 refine B O<|zX O (yU 13 O O)<|U<|zI<|B O<|G O<|zZ O O (zFq O D O O) ?_
 rintro _ _ ⟨nb1,rfl,hnil1,rfl⟩
 refine U<|zE O (fun c1=>?_) (fun c1=>?_)
 ·try simp only [W] at c1
  refine B O<|G O<|yY _ (kM 38 13)<|U<|zH<|zQ O ?_
  exact ⟨_,O,by rw [hnil1 c1]⟩
 ·try simp only [W] at c1
  refine zJ<|B O<|zZ O O (zBm O D zr38 O O O O) ?_
  rintro _ _ ⟨sv3,rfl,rfl⟩
  refine G O<|zZ O O (qY 0 O D O O O (by simp only [List.length_map,List.length_nil,Nat.zero_add];omega) (by simp only [List.length_map,List.length_nil,Nat.zero_add];omega)) ?_
  rintro _ _ ⟨sv4,rfl,rfl⟩
  refine G O<|U<|zH<|zQ O ?_
  exact ⟨_,O,O⟩
theorem expr_Copy_1 (l:Lf) (hl:l.L.length<=5864062014805):
    Pur cfg 85 [vLin l] (.tup [vLin (idF l).1,vI (idF l).2]):=by
 refine zT Tryz.func85 O Tryz.ntmps85 Tryz.results85 O ?_
 intro z hz
 refine B O<|zZ O O (qI O O) ?_
 rintro _ _ ⟨b1,rfl,rfl⟩
 refine zZ O O (qH [none,some 2] O zr34 O) ?_
 rintro _ _ ⟨b2,rfl,rfl⟩
 refine G O<|U<|zI<|qT 6 mixed (by kernel_rfl) O O<|zM O O (zD O zIp O)<|zM O O (zF O one2 O (J 1 O) O)<|zM O O (zD O wU O)<|zM O O (zF O zBv O (J 1 O) O)<|zM O O (qG O ok86 (OwnR.pur (zEg l.L hl)) ⟨Y,O,T⟩)<|zM O O (kX O zr34 pl34 O)<|yM<|N 0 sz34 O<|G O<|U<|zH<|fin2 (zV kK O (J 0 O) O) (v O) ?_
 exact O
end Go.W
