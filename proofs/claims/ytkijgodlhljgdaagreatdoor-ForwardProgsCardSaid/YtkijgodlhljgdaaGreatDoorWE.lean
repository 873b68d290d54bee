/-
  Walks: what functions of the program compute. Printed by wip/gen/mk2.py.
  Conditions: none.
-/
import Derived.Test.YtkijgodlhljgdaaGreatDoorWD
import Derived.Test.YtkijgodlhljgdaaGreatDoorPlain
set_option linter.unusedSimpArgs false
set_option linter.unusedVariables false
set_option maxRecDepth 10000
namespace Go.W
open Go Go.Eng Go.Proofs Go.L41 Go.Br
attribute [local irreducible] AWP RWP TD finQ
theorem ok8:callOk Tryz.prog 8=true:=by kernel_rfl
theorem ok13:callOk Tryz.prog 13=true:=by kernel_rfl
theorem ok38:callOk Tryz.prog 38=true:=by kernel_rfl
theorem ok39:callOk Tryz.prog 39=true:=by kernel_rfl
theorem ok40:callOk Tryz.prog 40=true:=by kernel_rfl
theorem ok52:callOk Tryz.prog 52=true:=by kernel_rfl
theorem ok86:callOk Tryz.prog 86=true:=by kernel_rfl
theorem ok101:callOk Tryz.prog 101=true:=by kernel_rfl
theorem base_LinsF (a b:List Lf) (ha:a.length<=6000000000000) (hw:∀x,x∈a->x.L.length<=6000000000000):
    Pur cfg 52 [vLins a,vLins b] (vB (decide (a=b))):=by
 refine zV Tryz.func52 O Tryz.ntmps52 Tryz.results52 O ?_
 intro z hz
 refine B O<|F O<|H<|U<|B O<|F O<|zZ O el63<|F O<|zZ O el63<|yP O<|H<|g O (fun c1=>?_) (fun c1=>?_)
 ·try simp only [I] at c1
  refine B O<|F O<|H<|W<|R O ?_
  rw [yE (fun h=>c1 (by rw [h]))]
 ·try simp only [I] at c1
  refine zJ<|U<|B O<|F O<|H<|zP<|zT ⟨[(5,.c _),(0,.c _),(1,.c _)],[]⟩ (Weak.mk [] ⟨G,G,G,T⟩ O)<|qG 1 0 O O (Nat) (fun k=>[(5,vI k)]) (fun k=>[]) (fun k=>k<=a.length/\(a.take k=b.take k)) (fun k=>a.length-k) ⟨0,⟨by omega,O⟩,Weak.mk [] ⟨G,G,G,T⟩ O⟩ ?_
  rintro k ⟨hk,hp⟩
  refine U<|B O<|F O<|F O<|zZ O el63<|yB O<|H<|g O (fun c2=>?_) (fun c2=>?_)
  ·try simp only [I] at c2
   obtain ⟨x,hx⟩:=qP a k (by omega)
   obtain ⟨y,hy⟩:=qP b k (by omega)
   refine zJ<|U<|zP<|U<|qO 10 mixed (by kernel_rfl) O O<|Y O O (zQ O O)<|Y O O (zQ O O)<|Y O O (zY O el63 O O (by omega) (Q (by assumption)))<|Y O O (zN O kP O qA O)<|Y O O (zQ O O)<|Y O O (zQ O O)<|Y O O (zY O el63 O O (by omega) (Q (by assumption)))<|Y O O (zN O kP O qA O)<|Y O O (qF O ok38 (zKc x y (hw x (qD hx))) ⟨G,O,G,O,T⟩)<|Y O O (kU O O)<|yK<|H<|g O (fun c3=>?_) (fun c3=>?_)
   ·try simp only [I] at c3
    refine B O<|F O<|H<|W<|R O ?_
    rw [yE (zCe hx hy c3)]
   ·try simp only [I] at c3
    refine zJ<|zU O<|F O<|qL O ⟨by omega,by omega⟩<|F O<|H ?_
    refine ⟨k+1,⟨by omega,wV hx hy hp c3⟩,(by omega),Weak.mk [] ⟨G,G,G,T⟩ O⟩
  ·try simp only [I] at c2
   refine qM<|B O<|F O<|H<|W<|R O ?_
   rw [kX (zBg hp (by omega) (by omega))]
theorem base_Lins (a b:List Lf) (ha:a.length<=6000000000000) (hw:linsWt a<=6000000000000):Pur cfg 52 [vLins a,vLins b] (vB (decide (a=b))):=
  base_LinsF a b ha fun x hx=>by have:=zBw hx;omega
theorem base_Index (a b:Ix) (ha:a.wt<=6000000000000):
    Pur cfg 101 [vIndex a,vIndex b] (vB (decide (a=b))):=by
 refine zV Tryz.func101 O Tryz.ntmps101 Tryz.results101 O ?_
 intro z hz
 have hw:=ha
 unfold Ix.wt at hw
 refine B O<|zW O O (qJ O O) ?_
 rintro _ _ ⟨b1,rfl,rfl⟩
 refine zW O O (qJ O O) ?_
 rintro _ _ ⟨b2,rfl,rfl⟩
 refine F O<|H<|B O<|zG O zDv<|zK i (K 1 O) O<|zG O zDv<|zK i (K 0 O) O<|qB O (yQ O O O)<|F O<|u O (fun g1_5=>zD O zDw O) O<|J 11 O (fun g1_5=>zN O kP O (K 1 O) O) O<|u O (fun g1_5=>zD O zDw O) O<|J 13 O (fun g1_5=>zN O kP O (K 0 O) O) O<|rLz [(12,_),(14,_)] O P ⟨O,O,O,O,T⟩ (fun g1_5=>qF O ok38 (zKc a.Lin b.Lin (by omega)) ⟨G,O,G,O,T⟩) O<|yZ O (fun h=>h)<|F O<|u O (fun g1_12=>zD O zAw O) O<|J 18 O (fun g1_12=>zF O zAv O (K 1 O) O) O<|u O (fun g1_12=>zD O zAw O) O<|J 20 O (fun g1_12=>zF O zAv O (K 0 O) O) O<|rLz [(19,_),(21,_)] O P ⟨O,O,O,O,T⟩ (fun g1_12=>qF O ok52 (base_Lins a.At b.At (by omega) (by omega)) ⟨G,O,G,O,T⟩) O<|yZ O (fun h=>h)<|F O<|H<|W<|R O ?_
 exact congrArg vB (ix_eq a b)
theorem base_Indices (a b:List Ix) (ha:a.length<=6000000000000) (hw:idxWt a<=6000000000000):
    Pur cfg 39 [vIndices a,vIndices b] (vB (decide (a=b))):=by
 refine zV Tryz.func39 O Tryz.ntmps39 Tryz.results39 O ?_
 intro z hz
 refine B O<|F O<|H<|U<|B O<|F O<|zZ O d<|F O<|zZ O d<|yP O<|H<|g O (fun c1=>?_) (fun c1=>?_)
 ·try simp only [I] at c1
  refine B O<|F O<|H<|W<|R O ?_
  rw [yE (fun h=>c1 (by rw [h]))]
 ·try simp only [I] at c1
  refine zJ<|U<|B O<|F O<|H<|zP<|zT ⟨[(5,.c _),(0,.c _),(1,.c _)],[]⟩ (Weak.mk [] ⟨G,G,G,T⟩ O)<|qG 1 0 O O (Nat) (fun k=>[(5,vI k)]) (fun k=>[]) (fun k=>k<=a.length/\(a.take k=b.take k)) (fun k=>a.length-k) ⟨0,⟨by omega,O⟩,Weak.mk [] ⟨G,G,G,T⟩ O⟩ ?_
  rintro k ⟨hk,hp⟩
  refine U<|B O<|F O<|F O<|zZ O d<|yB O<|H<|g O (fun c2=>?_) (fun c2=>?_)
  ·try simp only [I] at c2
   obtain ⟨x,hx⟩:=qP a k (by omega)
   obtain ⟨y,hy⟩:=qP b k (by omega)
   have hxw:=zEz (qD hx)
   refine zJ<|U<|zP<|U<|qO 10 mixed (by kernel_rfl) O O<|Y O O (zQ O O)<|Y O O (zQ O O)<|Y O O (zY O d O O (by omega) (Q (by assumption)))<|Y O O (zN O zKg O qA O)<|Y O O (zQ O O)<|Y O O (zQ O O)<|Y O O (zY O d O O (by omega) (Q (by assumption)))<|Y O O (zN O zKg O qA O)<|Y O O (qF O ok101 (base_Index x y (by omega)) ⟨G,O,G,O,T⟩)<|Y O O (kU O O)<|yK<|H<|g O (fun c3=>?_) (fun c3=>?_)
   ·try simp only [I] at c3
    refine B O<|F O<|H<|W<|R O ?_
    rw [yE (zCe hx hy c3)]
   ·try simp only [I] at c3
    refine zJ<|zU O<|F O<|qL O ⟨by omega,by omega⟩<|F O<|H ?_
    refine ⟨k+1,⟨by omega,wV hx hy hp c3⟩,(by omega),Weak.mk [] ⟨G,G,G,T⟩ O⟩
  ·try simp only [I] at c2
   refine qM<|B O<|F O<|H<|W<|R O ?_
   rw [kX (zBg hp (by omega) (by omega))]
theorem base_Exprs_of (a b:List Ex) (hE:∀x,x∈a->∀y,Pur cfg 13 [vE x,vE y] (vB (decide (x=y)))) (ha:a.length<=6000000000000):
    Pur cfg 40 [vEs a,vEs b] (vB (decide (a=b))):=by
 refine zV Tryz.func40 O Tryz.ntmps40 Tryz.results40 O ?_
 intro z hz
 refine B O<|F O<|H<|U<|B O<|F O<|zZ O A<|F O<|zZ O A<|yP O<|H<|g O (fun c1=>?_) (fun c1=>?_)
 ·try simp only [I] at c1
  refine B O<|F O<|H<|W<|R O ?_
  rw [yE (fun h=>c1 (by rw [h]))]
 ·try simp only [I] at c1
  refine zJ<|U<|B O<|F O<|H<|zP<|zT ⟨[(5,.c _),(0,.c _),(1,.c _)],[]⟩ (Weak.mk [] ⟨G,G,G,T⟩ O)<|qG 1 0 O O (Nat) (fun k=>[(5,vI k)]) (fun k=>[]) (fun k=>k<=a.length/\(a.take k=b.take k)) (fun k=>a.length-k) ⟨0,⟨by omega,O⟩,Weak.mk [] ⟨G,G,G,T⟩ O⟩ ?_
  rintro k ⟨hk,hp⟩
  refine U<|B O<|F O<|F O<|zZ O A<|yB O<|H<|g O (fun c2=>?_) (fun c2=>?_)
  ·try simp only [I] at c2
   obtain ⟨x,hx⟩:=qP a k (by omega)
   obtain ⟨y,hy⟩:=qP b k (by omega)
   refine zJ<|U<|zP<|U<|qO 10 mixed (by kernel_rfl) O O<|Y O O (zQ O O)<|Y O O (zQ O O)<|Y O O (zY O A O O (by omega) (yU (by assumption)))<|Y O O (zN O qH O qA O)<|Y O O (zQ O O)<|Y O O (zQ O O)<|Y O O (zY O A O O (by omega) (yU (by assumption)))<|Y O O (zN O qH O qA O)<|Y O O (qF O ok13 (hE x (qD hx) y) ⟨G,O,G,O,T⟩)<|Y O O (kU O O)<|yK<|H<|g O (fun c3=>?_) (fun c3=>?_)
   ·try simp only [I] at c3
    refine B O<|F O<|H<|W<|R O ?_
    rw [yE (zCe hx hy c3)]
   ·try simp only [I] at c3
    refine zJ<|zU O<|F O<|qL O ⟨by omega,by omega⟩<|F O<|H ?_
    refine ⟨k+1,⟨by omega,wV hx hy hp c3⟩,(by omega),Weak.mk [] ⟨G,G,G,T⟩ O⟩
  ·try simp only [I] at c2
   refine qM<|B O<|F O<|H<|W<|R O ?_
   rw [kX (zBg hp (by omega) (by omega))]
theorem base_Expr_step (a:Ex) (ih:∀x,x∈a.Args->x.wt<=6000000000000->∀y,Pur cfg 13 [vE x,vE y] (vB (decide (x=y)))) (ha:a.wt<=6000000000000) (b:Ex):
    Pur cfg 13 [vE a,vE b] (vB (decide (a=b))):=by
 refine zV Tryz.func13 O Tryz.ntmps13 Tryz.results13 O ?_
 intro z hz
 obtain ⟨hL,hI,hA⟩:=a.parts ha
 have hw:=Ex.wt_eq a
 refine B O<|zW O O (qJ O O) ?_
 rintro _ _ ⟨b1,rfl,rfl⟩
 refine zW O O (qJ O O) ?_
 rintro _ _ ⟨b2,rfl,rfl⟩
 refine F O<|H<|B O<|zG O yT<|zK w (K 1 O) O<|zG O yT<|zK w (K 0 O) O<|qX O<|F O<|u O (fun g1_5=>zD O zBm O) O<|J 11 O (fun g1_5=>zF O i O (K 1 O) O) O<|u O (fun g1_5=>zD O zBm O) O<|J 13 O (fun g1_5=>zF O i O (K 0 O) O) O<|rLz [(12,_),(14,_)] O P ⟨O,O,O,O,T⟩ (fun g1_5=>yQ O O O) O<|yZ O (fun h=>h)<|F O<|u O (fun g1_12=>zD O zIa O) O<|J 18 O (fun g1_12=>zN O agg29 O (K 1 O) O) O<|u O (fun g1_12=>zD O zIa O) O<|J 20 O (fun g1_12=>zN O agg29 O (K 0 O) O) O<|rLz [(19,_),(21,_)] O P ⟨O,O,O,O,T⟩ (fun g1_12=>zMx O fl29 O O O) O<|yZ O (fun h=>h)<|F O<|u O (fun g1_19=>zD O zCz O) O<|J 25 O (fun g1_19=>zN O yF O (K 1 O) O) O<|u O (fun g1_19=>zD O zCz O) O<|J 27 O (fun g1_19=>zN O yF O (K 0 O) O) O<|rLz [(26,_),(28,_)] O P ⟨O,O,O,O,T⟩ (fun g1_19=>zMx O fl31 O O O) O<|yZ O (fun h=>h)<|F O<|u O (fun g1_26=>zD O zDy O) O<|J 32 O (fun g1_26=>zN O kP O (K 1 O) O) O<|u O (fun g1_26=>zD O zDy O) O<|J 34 O (fun g1_26=>zN O kP O (K 0 O) O) O<|rLz [(33,_),(35,_)] O P ⟨O,O,O,O,T⟩ (fun g1_26=>qF O ok38 (zKc a.Lin b.Lin hL) ⟨G,O,G,O,T⟩) O<|yZ O (fun h=>h)<|F O<|u O (fun g1_33=>zD O kL O) O<|J 39 O (fun g1_33=>zF O wX O (K 1 O) O) O<|u O (fun g1_33=>zD O kL O) O<|J 41 O (fun g1_33=>zF O wX O (K 0 O) O) O<|rLz [(40,_),(42,_)] O P ⟨O,O,O,O,T⟩ (fun g1_33=>qF O ok39 (base_Indices a.Idx b.Idx hI (by omega)) ⟨G,O,G,O,T⟩) O<|yZ O (fun h=>h)<|F O<|u O (fun g1_40=>zD O kF O) O<|J 46 O (fun g1_40=>zF O wJ O (K 1 O) O) O<|u O (fun g1_40=>zD O kF O) O<|J 48 O (fun g1_40=>zF O wJ O (K 0 O) O) O<|rLz [(47,_),(49,_)] O P ⟨O,O,O,O,T⟩ (fun g1_40=>qF O ok40 (base_Exprs_of a.Args b.Args (fun x hx y=>ih x hx (by have:=Ex.arg_wt hx;omega) y) hA) ⟨G,O,G,O,T⟩) O<|yZ O (fun h=>h)<|F O<|H<|W<|R O ?_
 exact congrArg vB (ex_eq a b)
theorem zPw (a b:Ex) (ha:a.wt<=6000000000000):Pur cfg 13 [vE a,vE b] (vB (decide (a=b))):=by
  induction a using Ex.ind generalizing b with
  |_ a ih=>exact base_Expr_step a (fun x hx h y=>ih x hx y h) ha b
theorem zGt (a b:List ByteArray) (ha:a.length<=6000000000000):
    Pur cfg 19 [vSs a,vSs b] (vB (decide (a=b))):=by
 refine zV Tryz.func19 O Tryz.ntmps19 Tryz.results19 O ?_
 intro z hz
 refine B O<|F O<|H<|U<|B O<|F O<|zZ O el22<|F O<|zZ O el22<|yP O<|H<|g O (fun c1=>?_) (fun c1=>?_)
 ·try simp only [I] at c1
  refine B O<|F O<|H<|W<|R O ?_
  rw [yE (fun h=>c1 (by rw [h]))]
 ·try simp only [I] at c1
  refine zJ<|U<|B O<|F O<|H<|zP<|zT ⟨[(5,.c _),(0,.c _),(1,.c _)],[]⟩ (Weak.mk [] ⟨G,G,G,T⟩ O)<|qG 1 0 O O (Nat) (fun k=>[(5,vI k)]) (fun k=>[]) (fun k=>k<=a.length/\(a.take k=b.take k)) (fun k=>a.length-k) ⟨0,⟨by omega,O⟩,Weak.mk [] ⟨G,G,G,T⟩ O⟩ ?_
  rintro k ⟨hk,hp⟩
  refine U<|B O<|F O<|F O<|zZ O el22<|yB O<|H<|g O (fun c2=>?_) (fun c2=>?_)
  ·try simp only [I] at c2
   obtain ⟨x,hx⟩:=qP a k (by omega)
   obtain ⟨y,hy⟩:=qP b k (by omega)
   refine zJ<|U<|zP<|U<|qO 9 mixed (by kernel_rfl) O O<|Y O O (zQ O O)<|Y O O (zQ O O)<|Y O O (zY O el22 O O (by omega) (Q (by assumption)))<|Y O O (zF O i O qA O)<|Y O O (zQ O O)<|Y O O (zQ O O)<|Y O O (zY O el22 O O (by omega) (Q (by assumption)))<|Y O O (zF O i O qA O)<|Y O O (zCi O O O)<|yK<|H<|g O (fun c3=>?_) (fun c3=>?_)
   ·try simp only [I] at c3
    refine B O<|F O<|H<|W<|R O ?_
    rw [yE (zCe hx hy c3)]
   ·try simp only [I] at c3
    refine zJ<|zU O<|F O<|qL O ⟨by omega,by omega⟩<|F O<|H ?_
    refine ⟨k+1,⟨by omega,wV hx hy hp c3⟩,(by omega),Weak.mk [] ⟨G,G,G,T⟩ O⟩
  ·try simp only [I] at c2
   refine qM<|B O<|F O<|H<|W<|R O ?_
   rw [kX (zBg hp (by omega) (by omega))]
theorem zPu (e:Ex) (ih:∀a,a∈e.Args->∀(m:Nat) (x:Int),a.fit->m<=1000000->x=m->Pur cfg 8 [vE a,vI x] (vI (weighE a m))) (m:Nat) (x:Int) (hf:e.fit) (hm:m<=1000000) (hx:x=m):
    Pur cfg 8 [vE e,vI x] (vI (weighE e m)):=by
 refine zV Tryz.func8 O Tryz.ntmps8 Tryz.results8 O ?_
 intro z hz
 obtain ⟨f1,f2,f3,f4,f5⟩:=Ex.fit_eq hf
 have hW:=weighE_eq e m
 refine B O<|zW O O (qJ O O) ?_
 rintro _ _ ⟨b1,rfl,rfl⟩
 refine F O<|H<|B O<|zG O zDy<|zG O wU<|zK zCb (K 0 O) O<|zZ O el32<|qL O ⟨by omega,by omega⟩<|zG O kL<|zK wX (K 0 O) O<|zZ O d<|qL O ⟨by omega,by omega⟩<|F O<|H<|U<|B O<|F O<|H<|zP<|zT ⟨[(6,.c _),(5,.c _),(1,.c _),(2,.c _)],[_]⟩ (Weak.mk [true] ⟨G,G,G,G,T⟩ O) ?_
 refine qG 2 0 O O (Nat×Nat) (fun ⟨k,n⟩=>[(6,vI k),(5,vI n)]) (fun ⟨k,n⟩=>[]) (fun ⟨k,n⟩=>k<=e.Idx.length/\(n<=m+4*140737488355328)/\(weighIdx m (1+e.Lin.L.length+e.Idx.length) e.Idx=weighIdx m n (e.Idx.drop k))) (fun ⟨k,n⟩=>e.Idx.length-k) ⟨⟨0,1+e.Lin.L.length+e.Idx.length⟩,⟨by omega,by omega,O⟩,Weak.mk [true] ⟨G,VLe.of_eq (congrArg vI (by omega)),G,G,T⟩ O⟩ ?_
 rintro ⟨k,n⟩ ⟨hk,hn1,hn2⟩
 show AWP _ _ _ _ _ ⟨[(6,vI k),(5,vI n)]++_,[]++_⟩
 refine U<|B O<|F O<|zG O kL<|zK wX (K 0 O) O<|zZ O d<|yB O<|F O<|u O (fun g3_5=>zQ O O) O<|u O (fun g3_5=>zQ O O) O<|rLz [(24,_),(25,_)] O P ⟨O,O,O,O,T⟩ (fun g3_5=>wA O O O) O<|yZ O (fun h=>h)<|H<|g O (fun c1=>?_) (fun c1=>?_)
 ·try simp only [I] at c1
  obtain ⟨y,hy⟩:=qP e.Idx k (by omega)
  obtain ⟨i1,i2,i3⟩:=f4 y (qD hy)
  refine zJ<|U<|zP<|U<|qO 19 mixed (by kernel_rfl) O O<|Y O O (zQ O O)<|Y O O (zD O kL O)<|Y O O (zF O wX O (K 0 O) O)<|Y O O (zQ O O)<|Y O O (zY O d O O (by omega) (Q (by assumption)))<|Y O O (qT O zDw O)<|Y O O (qT O wU O)<|Y O O (zF O zCb O qA O)<|Y O O (qV O el32 O)<|Y O O (zFb O O O ⟨by omega,by omega⟩)<|Y O O (zD O kL O)<|Y O O (zF O wX O (K 0 O) O)<|Y O O (zQ O O)<|Y O O (zY O d O O (by omega) (Q (by assumption)))<|Y O O (qT O zAw O)<|Y O O (zF O zAv O qA O)<|Y O O (qV O el63 O)<|Y O O (zFb O O O ⟨by omega,by omega⟩)<|Y O O (yX O O)<|yK<|H<|B O<|F O<|H<|zP<|zT ⟨[(7,.c _),(5,.c _),(1,.c _),(2,.c _),(6,.c _)],[_]⟩ (Weak.mk [true] ⟨G,G,G,G,G,T⟩ O) ?_
  refine qG 2 0 O O (Nat×Nat) (fun ⟨j,p⟩=>[(7,vI j),(5,vI p)]) (fun ⟨j,p⟩=>[]) (fun ⟨j,p⟩=>j<=y.At.length/\(p<=m+4*140737488355328)/\(weighAt m (n+y.Lin.L.length+y.At.length) y.At=weighAt m p (y.At.drop j))) (fun ⟨j,p⟩=>y.At.length-j) ⟨⟨0,n+y.Lin.L.length+y.At.length⟩,⟨by omega,by omega,O⟩,Weak.mk [true] ⟨G,VLe.of_eq (congrArg vI (by omega)),G,G,G,T⟩ O⟩ ?_
  rintro ⟨j,p⟩ ⟨hj,hp1,hp2⟩
  show AWP _ _ _ _ _ ⟨[(7,vI j),(5,vI p)]++_,[]++_⟩
  refine U<|B O<|F O<|zG O kL<|zK wX (K 0 O) O<|F O<|qE O d (by omega) (Q (by assumption))<|qR O zAw<|zK zAv qA O<|zZ O el63<|yB O<|F O<|u O (fun g7_9=>zQ O O) O<|u O (fun g7_9=>zQ O O) O<|rLz [(58,_),(59,_)] O P ⟨O,O,O,O,T⟩ (fun g7_9=>wA O O O) O<|yZ O (fun h=>h)<|H<|g O (fun c2=>?_) (fun c2=>?_)
  ·try simp only [I] at c2
   obtain ⟨l,hl⟩:=qP y.At j (by omega)
   have hl2:=i3 l (qD hl)
   refine zJ<|U<|zP<|zU O<|F O<|zG O kL<|zK wX (K 0 O) O<|F O<|qE O d (by omega) (Q (by assumption))<|qR O zAw<|zK zAv qA O<|F O<|qE O el63 (by omega) (Q (by assumption))<|qR O wU<|zK zCb qA O<|zZ O el32<|qL O ⟨by omega,by omega⟩<|F O<|H<|zU O<|F O<|qL O ⟨by omega,by omega⟩<|F O<|H ?_
   refine ⟨⟨j+1,p+l.L.length⟩,⟨by omega,by omega,by rw [hp2,qN hl,weighAt,if_pos (by omega)]⟩,(by show y.At.length-(j+1)<y.At.length-j;omega),Weak.mk [true] ⟨G,VLe.of_eq (congrArg vI (by omega)),G,G,G,T⟩ O⟩
  ·try simp only [I] at c2
   have hN2:=weighAt_end (l:=y.At) (k:=j) (n:=p) hx (by omega)
   refine qM<|zU O<|F O<|qL O ⟨by omega,by omega⟩<|F O<|H ?_
   refine ⟨⟨k+1,p⟩,⟨by omega,hp1,by rw [hn2,qN hy,weighIdx,if_pos (by omega),hp2,←hN2]⟩,(by show e.Idx.length-(k+1)<e.Idx.length-k;omega),Weak.mk [true] ⟨G,G,G,G,T⟩ O⟩
 ·try simp only [I] at c1
  have hN:=weighIdx_end (l:=e.Idx) (k:=k) (n:=n) hx (by omega)
  refine qM<|U<|B O<|F O<|H<|zP<|zT ⟨[(8,.c _),(5,.c _),(1,.c _),(2,.c _)],[_]⟩ (Weak.mk [true] ⟨G,G,G,G,T⟩ O)<|qG 2 0 O O (Nat×Nat) (fun ⟨k,n⟩=>[(8,vI k),(5,vI n)]) (fun ⟨k,n⟩=>[]) (fun ⟨k,n⟩=>k<=e.Args.length/\(n<=m+4*140737488355328)/\(weighE e m=weighL (e.Args.drop k) m n)) (fun ⟨k,n⟩=>e.Args.length-k) ⟨⟨0,n⟩,⟨by omega,hn1,by rw [hW,hn2,←hN];rfl⟩,Weak.mk [true] ⟨G,G,G,G,T⟩ O⟩ ?_
  rintro ⟨k,n⟩ ⟨hk3,hn3,hn4⟩
  show AWP _ _ _ _ _ ⟨[(8,vI k),(5,vI n)]++_,[]++_⟩
  refine U<|B O<|F O<|zG O kF<|zK wJ (K 0 O) O<|zZ O A<|yB O<|F O<|u O (fun g11_5=>zQ O O) O<|u O (fun g11_5=>zQ O O) O<|rLz [(83,_),(84,_)] O P ⟨O,O,O,O,T⟩ (fun g11_5=>wA O O O) O<|yZ O (fun h=>h)<|H<|g O (fun c3=>?_) (fun c3=>?_)
  ·try simp only [I] at c3
   obtain ⟨a,ha⟩:=qP e.Args k (by omega)
   have hwa:=zNg a (m-n) (f5 a (qD ha))
   refine zJ<|U<|zP<|zU O<|F O<|zG O kF<|zK wJ (K 0 O) O<|F O<|qE O A (by omega) (yU (by assumption))<|zL qH qA O<|F O<|F O<|qB O (zAk O O O ⟨by omega,by omega⟩)<|qK O ok8 (ih a (qD ha) (m-n) _ (f5 a (qD ha)) (by omega) (by omega)) ⟨G,O,G,O,T⟩<|qL O ⟨by omega,by omega⟩<|F O<|H<|zU O<|F O<|qL O ⟨by omega,by omega⟩<|F O<|H ?_
   refine ⟨⟨k+1,n+weighE a (m-n)⟩,⟨by omega,by omega,by rw [hn4,qN ha,weighL,if_pos (by omega)]⟩,(by show e.Args.length-(k+1)<e.Args.length-k;omega),Weak.mk [true] ⟨G,VLe.of_eq (congrArg vI (by omega)),G,G,T⟩ O⟩
  ·try simp only [I] at c3
   refine qM<|B O<|F O<|F O<|H<|W<|R O ?_
   exact congrArg vI (by rw [hn4,←weighL_end hx (by omega)])
theorem base_Weigh (e:Ex) (m:Nat) (x:Int) (hf:e.fit) (hm:m<=1000000) (hx:x=m):Pur cfg 8 [vE e,vI x] (vI (weighE e m)):=by
  induction e using Ex.ind generalizing m x with
  |_ e ih=>exact zPu e (fun a ha m x h1 h2 h3=>ih a ha m x h1 h2 h3) m x hf hm hx
theorem zEt (l:List Mono) (hl:l.length<=5864062014805):
    OwnR cfg 86 [vMonos l] 101 2 (l.map Mono.cells):=by
 refine zV Tryz.func86 O Tryz.ntmps86 Tryz.results86 O ?_
 intro z hz
 refine B O<|qB O (yJ 2 O O)<|H<|U<|B O<|F O<|zW O O (zGi O el32 O O) ?_
 rintro _ _ ⟨nb1,rfl,hnil1,rfl⟩
 refine H<|g O (fun c1=>?_) (fun c1=>?_)
 ·try simp only [I] at c1
  refine B O<|F O<|yV _ (kG 101 2)<|H<|W<|R O ?_
  exact ⟨_,O,by rw [hnil1 c1]⟩
 ·try simp only [I] at c1
  refine zJ<|B O<|zW O O (zBe O el32 zr101 O O O O) ?_
  rintro _ _ ⟨sv3,rfl,rfl⟩
  refine F O<|zW O O (qS 0 O el32 O O O (by simp only [List.length_map,List.length_nil,Nat.zero_add];omega) (by simp only [List.length_map,List.length_nil,Nat.zero_add];omega)) ?_
  rintro _ _ ⟨sv4,rfl,rfl⟩
  refine F O<|H<|W<|R O ?_
  exact ⟨_,O,O⟩
theorem zMj (l:List Lf) (hl:l.length<=4294967296):
    OwnR cfg 164 [vLins l] 34 2 (l.map Lf.cells):=by
 refine zV Tryz.func164 O Tryz.ntmps164 Tryz.results164 O ?_
 intro z hz
 refine B O<|qB O (yJ 2 O O)<|H<|U<|B O<|F O<|zW O O (zGi O el63 O O) ?_
 rintro _ _ ⟨nb1,rfl,hnil1,rfl⟩
 refine H<|g O (fun c1=>?_) (fun c1=>?_)
 ·try simp only [I] at c1
  refine B O<|F O<|yV _ (kG 34 2)<|H<|W<|R O ?_
  exact ⟨_,O,by rw [hnil1 c1]⟩
 ·try simp only [I] at c1
  refine zJ<|B O<|zW O O (zBe O el63 zr34 O O O O) ?_
  rintro _ _ ⟨sv3,rfl,rfl⟩
  refine F O<|zW O O (qS 0 O el63 O O O (by simp only [List.length_map,List.length_nil,Nat.zero_add];omega) (by simp only [List.length_map,List.length_nil,Nat.zero_add];omega)) ?_
  rintro _ _ ⟨sv4,rfl,rfl⟩
  refine F O<|H<|W<|R O ?_
  exact ⟨_,O,O⟩
theorem zNr (l:List Ix) (hl:l.length<=4294967296):
    OwnR cfg 163 [vIndices l] 67 4 (l.map Ix.cells):=by
 refine zV Tryz.func163 O Tryz.ntmps163 Tryz.results163 O ?_
 intro z hz
 refine B O<|qB O (yJ 4 O O)<|H<|U<|B O<|F O<|zW O O (zGi O d O O) ?_
 rintro _ _ ⟨nb1,rfl,hnil1,rfl⟩
 refine H<|g O (fun c1=>?_) (fun c1=>?_)
 ·try simp only [I] at c1
  refine B O<|F O<|yV _ (kG 67 4)<|H<|W<|R O ?_
  exact ⟨_,O,by rw [hnil1 c1]⟩
 ·try simp only [I] at c1
  refine zJ<|B O<|zW O O (zBe O d zr67 O O O O) ?_
  rintro _ _ ⟨sv3,rfl,rfl⟩
  refine F O<|zW O O (qS 0 O d O O O (by simp only [List.length_map,List.length_nil,Nat.zero_add];omega) (by simp only [List.length_map,List.length_nil,Nat.zero_add];omega)) ?_
  rintro _ _ ⟨sv4,rfl,rfl⟩
  refine F O<|H<|W<|R O ?_
  exact ⟨_,O,O⟩
theorem zNs (l:List Ex) (hl:l.length<=4294967296):
    OwnR cfg 165 [vEs l] 38 13 (l.map Ex.cells):=by
 refine zV Tryz.func165 O Tryz.ntmps165 Tryz.results165 O ?_
 intro z hz
 refine B O<|qB O (yJ 13 O O)<|H<|U<|B O<|F O<|zW O O (zGi O A O O) ?_
 rintro _ _ ⟨nb1,rfl,hnil1,rfl⟩
 refine H<|g O (fun c1=>?_) (fun c1=>?_)
 ·try simp only [I] at c1
  refine B O<|F O<|yV _ (kG 38 13)<|H<|W<|R O ?_
  exact ⟨_,O,by rw [hnil1 c1]⟩
 ·try simp only [I] at c1
  refine zJ<|B O<|zW O O (zBe O A zr38 O O O O) ?_
  rintro _ _ ⟨sv3,rfl,rfl⟩
  refine F O<|zW O O (qS 0 O A O O O (by simp only [List.length_map,List.length_nil,Nat.zero_add];omega) (by simp only [List.length_map,List.length_nil,Nat.zero_add];omega)) ?_
  rintro _ _ ⟨sv4,rfl,rfl⟩
  refine F O<|H<|W<|R O ?_
  exact ⟨_,O,O⟩
theorem expr_Copy_1 (l:Lf) (hl:l.L.length<=5864062014805):
    Pur cfg 85 [vLin l] (.tup [vLin (idF l).1,vI (idF l).2]):=by
 refine zV Tryz.func85 O Tryz.ntmps85 Tryz.results85 O ?_
 intro z hz
 refine B O<|zW O O (qJ O O) ?_
 rintro _ _ ⟨b1,rfl,rfl⟩
 refine zW O O (qI [none,some 2] O zr34 O) ?_
 rintro _ _ ⟨b2,rfl,rfl⟩
 refine F O<|H<|U<|qO 6 mixed (by kernel_rfl) O O<|Y O O (zD O zJs O)<|Y O O (zF O one2 O (K 1 O) O)<|Y O O (zD O wU O)<|Y O O (zF O zCb O (K 1 O) O)<|Y O O (qF O ok86 (OwnR.pur (zEt l.L hl)) ⟨G,O,T⟩)<|Y O O (kZ O zr34 pl34 O)<|yK<|N 0 sz34 O<|F O<|H<|W<|fin2 (zS kP O (K 0 O) O) (o O) ?_
 exact O
end Go.W
