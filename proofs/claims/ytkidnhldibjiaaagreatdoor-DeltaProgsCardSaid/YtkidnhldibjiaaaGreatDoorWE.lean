/-
  What functions compute.
  Conditions: none.
-/
import Derived.Test.YtkidnhldibjiaaaGreatDoorWD
import Derived.Test.YtkidnhldibjiaaaGreatDoorPlain
set_option linter.unusedSimpArgs false
set_option linter.unusedVariables false
set_option maxRecDepth 10000
namespace Go.W
open Go Go.Eng Go.Proofs Go.L41 Go.Br
attribute [local irreducible] AWP RWP TD fL
theorem ok12:bA Tryz.prog 12=true:=by kernel_rfl
theorem ok26:bA Tryz.prog 26=true:=by kernel_rfl
theorem ok34:bA Tryz.prog 34=true:=by kernel_rfl
theorem ok35:bA Tryz.prog 35=true:=by kernel_rfl
theorem ok36:bA Tryz.prog 36=true:=by kernel_rfl
theorem ok44:bA Tryz.prog 44=true:=by kernel_rfl
theorem ok80:bA Tryz.prog 80=true:=by kernel_rfl
theorem ok82:bA Tryz.prog 82=true:=by kernel_rfl
theorem base_LinsF (a b:List Lf) (ha:a.length<=6000000000000) (hw:∀x,x∈a->x.L.length<=6000000000000):
    Pur cfg 44 [mR a,mR b] (vB (decide (a=b))):=by
 refine zW Tryz.func44 O Tryz.ntmps44 Tryz.results44 O ?_
 intro z hz
 refine Y O<|G O<|W<|zM<|Y O<|G O<|qB O el65<|G O<|qB O el65<|yW O<|W<|zH O (fun c1=>?_) (fun c1=>?_)
 ·try simp only [sx] at c1
  refine Y O<|G O<|W<|zO<|zV O ?_
  rw [yD (fun h=>c1 (by rw [h]))]
 ·try simp only [sx] at c1
  refine zN<|zM<|Y O<|G O<|W<|zR<|qC ⟨[(5,.c _),(0,.c _),(1,.c _)],[]⟩ (Weak.mk [] ⟨U,U,U,T⟩ O)<|qG 1 0 O O (Nat) (fun k=>[(5,vI k)]) (fun k=>[]) (fun k=>k<=a.length/\(a.take k=b.take k)) (fun k=>a.length-k) ⟨0,⟨by omega,O⟩,Weak.mk [] ⟨U,U,U,T⟩ O⟩ ?_
  rintro k ⟨hk,hp⟩
  refine zM<|Y O<|G O<|G O<|qB O el65<|yI O<|W<|zH O (fun c2=>?_) (fun c2=>?_)
  ·try simp only [sx] at c2
   obtain ⟨x,hx⟩:=qU a k (by omega)
   obtain ⟨y,hy⟩:=qU b k (by omega)
   refine zN<|zM<|zR<|zM<|qW 10 mixed (by kernel_rfl) O O<|zQ O O (zS O O)<|zQ O O (zS O O)<|zQ O O (qH O el65 O O (by omega) (getm (by assumption)))<|zQ O O (zU O yB O qE O)<|zQ O O (zS O O)<|zQ O O (zS O O)<|zQ O O (qH O el65 O O (by omega) (getm (by assumption)))<|zQ O O (zU O yB O qE O)<|zQ O O (qL O ok34 (zIw x y (hw x (zX hx))) ⟨U,O,U,O,T⟩)<|zQ O O (kT O O)<|yR<|W<|zH O (fun c3=>?_) (fun c3=>?_)
   ·try simp only [sx] at c3
    refine Y O<|G O<|W<|zO<|zV O ?_
    rw [yD (zBt hx hy c3)]
   ·try simp only [sx] at c3
    refine zN<|zT O<|G O<|qK O ⟨by omega,by omega⟩<|G O<|W ?_
    refine ⟨k+1,⟨by omega,wZ hx hy hp c3⟩,(by omega),Weak.mk [] ⟨U,U,U,T⟩ O⟩
  ·try simp only [sx] at c2
   refine qO<|Y O<|G O<|W<|zO<|zV O ?_
   rw [kR (zBd hp (by omega) (by omega))]
theorem base_Lins (a b:List Lf) (ha:a.length<=6000000000000) (hw:dS a<=6000000000000):Pur cfg 44 [mR a,mR b] (vB (decide (a=b))):=
  base_LinsF a b ha fun x hx=>by have:=zDe hx;omega
theorem base_Index (a b:Ix) (ha:a.wt<=6000000000000):
    Pur cfg 82 [lK a,lK b] (vB (decide (a=b))):=by
 refine zW Tryz.func82 O Tryz.ntmps82 Tryz.results82 O ?_
 intro z hz
 have hw:=ha
 unfold Ix.wt at hw
 refine Y O<|zY O O (qN O O) ?_
 rintro _ _ ⟨b1,rfl,rfl⟩
 refine zY O O (qN O O) ?_
 rintro _ _ ⟨b2,rfl,rfl⟩
 refine G O<|W<|Y O<|zF O zCe<|zK one9 (J 1 O) O<|zF O zCe<|zK one9 (J 0 O) O<|wD O<|G O<|rL0 O (fun g1_5=>zE O zCp O) O<|rL1 11 O (fun g1_5=>zU O yB O (J 1 O) O) O<|rL0 O (fun g1_5=>zE O zCp O) O<|rL1 13 O (fun g1_5=>zU O yB O (J 0 O) O) O<|rLz [(12,_),(14,_)] O gv1 ⟨O,O,O,O,T⟩ (fun g1_5=>qL O ok34 (zIw a.Lin b.Lin (by omega)) ⟨U,O,U,O,T⟩) O<|yZ O (fun h=>h)<|G O<|rL0 O (fun g1_12=>zE O wI O) O<|rL1 18 O (fun g1_12=>zJ O zAp O (J 1 O) O) O<|rL0 O (fun g1_12=>zE O wI O) O<|rL1 20 O (fun g1_12=>zJ O zAp O (J 0 O) O) O<|rLz [(19,_),(21,_)] O gv1 ⟨O,O,O,O,T⟩ (fun g1_12=>qL O ok44 (base_Lins a.At b.At (by omega) (by omega)) ⟨U,O,U,O,T⟩) O<|yZ O (fun h=>h)<|G O<|W<|zO<|zV O ?_
 exact congrArg vB (ix_eq a b)
theorem base_Indices (a b:List Ix) (ha:a.length<=6000000000000) (hw:fH a<=6000000000000):
    Pur cfg 35 [nB a,nB b] (vB (decide (a=b))):=by
 refine zW Tryz.func35 O Tryz.ntmps35 Tryz.results35 O ?_
 intro z hz
 refine Y O<|G O<|W<|zM<|Y O<|G O<|qB O el41<|G O<|qB O el41<|yW O<|W<|zH O (fun c1=>?_) (fun c1=>?_)
 ·try simp only [sx] at c1
  refine Y O<|G O<|W<|zO<|zV O ?_
  rw [yD (fun h=>c1 (by rw [h]))]
 ·try simp only [sx] at c1
  refine zN<|zM<|Y O<|G O<|W<|zR<|qC ⟨[(5,.c _),(0,.c _),(1,.c _)],[]⟩ (Weak.mk [] ⟨U,U,U,T⟩ O)<|qG 1 0 O O (Nat) (fun k=>[(5,vI k)]) (fun k=>[]) (fun k=>k<=a.length/\(a.take k=b.take k)) (fun k=>a.length-k) ⟨0,⟨by omega,O⟩,Weak.mk [] ⟨U,U,U,T⟩ O⟩ ?_
  rintro k ⟨hk,hp⟩
  refine zM<|Y O<|G O<|G O<|qB O el41<|yI O<|W<|zH O (fun c2=>?_) (fun c2=>?_)
  ·try simp only [sx] at c2
   obtain ⟨x,hx⟩:=qU a k (by omega)
   obtain ⟨y,hy⟩:=qU b k (by omega)
   have hxw:=zLm (zX hx)
   refine zN<|zM<|zR<|zM<|qW 10 mixed (by kernel_rfl) O O<|zQ O O (zS O O)<|zQ O O (zS O O)<|zQ O O (qH O el41 O O (by omega) (getm (by assumption)))<|zQ O O (zU O zDv O qE O)<|zQ O O (zS O O)<|zQ O O (zS O O)<|zQ O O (qH O el41 O O (by omega) (getm (by assumption)))<|zQ O O (zU O zDv O qE O)<|zQ O O (qL O ok82 (base_Index x y (by omega)) ⟨U,O,U,O,T⟩)<|zQ O O (kT O O)<|yR<|W<|zH O (fun c3=>?_) (fun c3=>?_)
   ·try simp only [sx] at c3
    refine Y O<|G O<|W<|zO<|zV O ?_
    rw [yD (zBt hx hy c3)]
   ·try simp only [sx] at c3
    refine zN<|zT O<|G O<|qK O ⟨by omega,by omega⟩<|G O<|W ?_
    refine ⟨k+1,⟨by omega,wZ hx hy hp c3⟩,(by omega),Weak.mk [] ⟨U,U,U,T⟩ O⟩
  ·try simp only [sx] at c2
   refine qO<|Y O<|G O<|W<|zO<|zV O ?_
   rw [kR (zBd hp (by omega) (by omega))]
theorem base_Exprs_of (a b:List Ex) (hE:∀x,x∈a->∀y,Pur cfg 12 [vE x,vE y] (vB (decide (x=y)))) (ha:a.length<=6000000000000):
    Pur cfg 36 [vEs a,vEs b] (vB (decide (a=b))):=by
 refine zW Tryz.func36 O Tryz.ntmps36 Tryz.results36 O ?_
 intro z hz
 refine Y O<|G O<|W<|zM<|Y O<|G O<|qB O el42<|G O<|qB O el42<|yW O<|W<|zH O (fun c1=>?_) (fun c1=>?_)
 ·try simp only [sx] at c1
  refine Y O<|G O<|W<|zO<|zV O ?_
  rw [yD (fun h=>c1 (by rw [h]))]
 ·try simp only [sx] at c1
  refine zN<|zM<|Y O<|G O<|W<|zR<|qC ⟨[(5,.c _),(0,.c _),(1,.c _)],[]⟩ (Weak.mk [] ⟨U,U,U,T⟩ O)<|qG 1 0 O O (Nat) (fun k=>[(5,vI k)]) (fun k=>[]) (fun k=>k<=a.length/\(a.take k=b.take k)) (fun k=>a.length-k) ⟨0,⟨by omega,O⟩,Weak.mk [] ⟨U,U,U,T⟩ O⟩ ?_
  rintro k ⟨hk,hp⟩
  refine zM<|Y O<|G O<|G O<|qB O el42<|yI O<|W<|zH O (fun c2=>?_) (fun c2=>?_)
  ·try simp only [sx] at c2
   obtain ⟨x,hx⟩:=qU a k (by omega)
   obtain ⟨y,hy⟩:=qU b k (by omega)
   refine zN<|zM<|zR<|zM<|qW 10 mixed (by kernel_rfl) O O<|zQ O O (zS O O)<|zQ O O (zS O O)<|zQ O O (qH O el42 O O (by omega) (zBj (by assumption)))<|zQ O O (zU O yG O qE O)<|zQ O O (zS O O)<|zQ O O (zS O O)<|zQ O O (qH O el42 O O (by omega) (zBj (by assumption)))<|zQ O O (zU O yG O qE O)<|zQ O O (qL O ok12 (hE x (zX hx) y) ⟨U,O,U,O,T⟩)<|zQ O O (kT O O)<|yR<|W<|zH O (fun c3=>?_) (fun c3=>?_)
   ·try simp only [sx] at c3
    refine Y O<|G O<|W<|zO<|zV O ?_
    rw [yD (zBt hx hy c3)]
   ·try simp only [sx] at c3
    refine zN<|zT O<|G O<|qK O ⟨by omega,by omega⟩<|G O<|W ?_
    refine ⟨k+1,⟨by omega,wZ hx hy hp c3⟩,(by omega),Weak.mk [] ⟨U,U,U,T⟩ O⟩
  ·try simp only [sx] at c2
   refine qO<|Y O<|G O<|W<|zO<|zV O ?_
   rw [kR (zBd hp (by omega) (by omega))]
theorem base_Expr_step (a:Ex) (ih:∀x,x∈a.Args->x.wt<=6000000000000->∀y,Pur cfg 12 [vE x,vE y] (vB (decide (x=y)))) (ha:a.wt<=6000000000000) (b:Ex):
    Pur cfg 12 [vE a,vE b] (vB (decide (a=b))):=by
 refine zW Tryz.func12 O Tryz.ntmps12 Tryz.results12 O ?_
 intro z hz
 obtain ⟨hL,hI,hA⟩:=a.parts ha
 have hw:=Ex.wt_eq a
 refine Y O<|zY O O (qN O O) ?_
 rintro _ _ ⟨b1,rfl,rfl⟩
 refine zY O O (qN O O) ?_
 rintro _ _ ⟨b2,rfl,rfl⟩
 refine G O<|W<|Y O<|zF O kE<|zK one3 (J 1 O) O<|zF O kE<|zK one3 (J 0 O) O<|yK O<|G O<|rL0 O (fun g1_5=>zE O zJi O) O<|rL1 11 O (fun g1_5=>zJ O one9 O (J 1 O) O) O<|rL0 O (fun g1_5=>zE O zJi O) O<|rL1 13 O (fun g1_5=>zJ O one9 O (J 0 O) O) O<|rLz [(12,_),(14,_)] O gv1 ⟨O,O,O,O,T⟩ (fun g1_5=>zLt O O O) O<|yZ O (fun h=>h)<|G O<|rL0 O (fun g1_12=>zE O zHe O) O<|rL1 18 O (fun g1_12=>zU O zJe O (J 1 O) O) O<|rL0 O (fun g1_12=>zE O zHe O) O<|rL1 20 O (fun g1_12=>zU O zJe O (J 0 O) O) O<|rLz [(19,_),(21,_)] O gv1 ⟨O,O,O,O,T⟩ (fun g1_12=>zPn O fl35 O O O) O<|yZ O (fun h=>h)<|G O<|rL0 O (fun g1_19=>zE O zCw O) O<|rL1 25 O (fun g1_19=>zU O yO O (J 1 O) O) O<|rL0 O (fun g1_19=>zE O zCw O) O<|rL1 27 O (fun g1_19=>zU O yO O (J 0 O) O) O<|rLz [(26,_),(28,_)] O gv1 ⟨O,O,O,O,T⟩ (fun g1_19=>zPn O fl37 O O O) O<|yZ O (fun h=>h)<|G O<|rL0 O (fun g1_26=>zE O zBk O) O<|rL1 32 O (fun g1_26=>zU O yB O (J 1 O) O) O<|rL0 O (fun g1_26=>zE O zBk O) O<|rL1 34 O (fun g1_26=>zU O yB O (J 0 O) O) O<|rLz [(33,_),(35,_)] O gv1 ⟨O,O,O,O,T⟩ (fun g1_26=>qL O ok34 (zIw a.Lin b.Lin hL) ⟨U,O,U,O,T⟩) O<|yZ O (fun h=>h)<|G O<|rL0 O (fun g1_33=>zE O kM O) O<|rL1 39 O (fun g1_33=>zJ O zAh O (J 1 O) O) O<|rL0 O (fun g1_33=>zE O kM O) O<|rL1 41 O (fun g1_33=>zJ O zAh O (J 0 O) O) O<|rLz [(40,_),(42,_)] O gv1 ⟨O,O,O,O,T⟩ (fun g1_33=>qL O ok35 (base_Indices a.Idx b.Idx hI (by omega)) ⟨U,O,U,O,T⟩) O<|yZ O (fun h=>h)<|G O<|rL0 O (fun g1_40=>zE O kO O) O<|rL1 46 O (fun g1_40=>zJ O zAj O (J 1 O) O) O<|rL0 O (fun g1_40=>zE O kO O) O<|rL1 48 O (fun g1_40=>zJ O zAj O (J 0 O) O) O<|rLz [(47,_),(49,_)] O gv1 ⟨O,O,O,O,T⟩ (fun g1_40=>qL O ok36 (base_Exprs_of a.Args b.Args (fun x hx y=>ih x hx (by have:=Ex.arg_wt hx;omega) y) hA) ⟨U,O,U,O,T⟩) O<|yZ O (fun h=>h)<|G O<|W<|zO<|zV O ?_
 exact congrArg vB (ex_eq a b)
theorem base_Expr (a b:Ex) (ha:a.wt<=6000000000000):Pur cfg 12 [vE a,vE b] (vB (decide (a=b))):=by
  induction a using Ex.ind generalizing b with
  |_ a ih=>exact base_Expr_step a (fun x hx h y=>ih x hx y h) ha b
theorem zOk (a b:List ByteArray) (ha:a.length<=6000000000000):
    Pur cfg 42 [vSs a,vSs b] (vB (decide (a=b))):=by
 refine zW Tryz.func42 O Tryz.ntmps42 Tryz.results42 O ?_
 intro z hz
 refine Y O<|G O<|W<|zM<|Y O<|G O<|qB O el22<|G O<|qB O el22<|yW O<|W<|zH O (fun c1=>?_) (fun c1=>?_)
 ·try simp only [sx] at c1
  refine Y O<|G O<|W<|zO<|zV O ?_
  rw [yD (fun h=>c1 (by rw [h]))]
 ·try simp only [sx] at c1
  refine zN<|zM<|Y O<|G O<|W<|zR<|qC ⟨[(5,.c _),(0,.c _),(1,.c _)],[]⟩ (Weak.mk [] ⟨U,U,U,T⟩ O)<|qG 1 0 O O (Nat) (fun k=>[(5,vI k)]) (fun k=>[]) (fun k=>k<=a.length/\(a.take k=b.take k)) (fun k=>a.length-k) ⟨0,⟨by omega,O⟩,Weak.mk [] ⟨U,U,U,T⟩ O⟩ ?_
  rintro k ⟨hk,hp⟩
  refine zM<|Y O<|G O<|G O<|qB O el22<|yI O<|W<|zH O (fun c2=>?_) (fun c2=>?_)
  ·try simp only [sx] at c2
   obtain ⟨x,hx⟩:=qU a k (by omega)
   obtain ⟨y,hy⟩:=qU b k (by omega)
   refine zN<|zM<|zR<|zM<|qW 9 mixed (by kernel_rfl) O O<|zQ O O (zS O O)<|zQ O O (zS O O)<|zQ O O (qH O el22 O O (by omega) (getm (by assumption)))<|zQ O O (zJ O one9 O qE O)<|zQ O O (zS O O)<|zQ O O (zS O O)<|zQ O O (qH O el22 O O (by omega) (getm (by assumption)))<|zQ O O (zJ O one9 O qE O)<|zQ O O (zEe O O O)<|yR<|W<|zH O (fun c3=>?_) (fun c3=>?_)
   ·try simp only [sx] at c3
    refine Y O<|G O<|W<|zO<|zV O ?_
    rw [yD (zBt hx hy c3)]
   ·try simp only [sx] at c3
    refine zN<|zT O<|G O<|qK O ⟨by omega,by omega⟩<|G O<|W ?_
    refine ⟨k+1,⟨by omega,wZ hx hy hp c3⟩,(by omega),Weak.mk [] ⟨U,U,U,T⟩ O⟩
  ·try simp only [sx] at c2
   refine qO<|Y O<|G O<|W<|zO<|zV O ?_
   rw [kR (zBd hp (by omega) (by omega))]
theorem zSy (e:Ex) (ih:∀a,a∈e.Args->∀(m:Nat) (x:Int),a.fit->m<=1000000->x=m->Pur cfg 26 [vE a,vI x] (vI (gJ a m))) (m:Nat) (x:Int) (hf:e.fit) (hm:m<=1000000) (hx:x=m):
    Pur cfg 26 [vE e,vI x] (vI (gJ e m)):=by
 refine zW Tryz.func26 O Tryz.ntmps26 Tryz.results26 O ?_
 intro z hz
 obtain ⟨f1,f2,f3,f4,f5⟩:=Ex.fit_eq hf
 have hW:=weighE_eq e m
 refine Y O<|zY O O (qN O O) ?_
 rintro _ _ ⟨b1,rfl,rfl⟩
 refine G O<|W<|Y O<|zF O zBk<|zF O yP<|zK kQ (J 0 O) O<|qB O D<|qK O ⟨by omega,by omega⟩<|zF O kM<|zK zAh (J 0 O) O<|qB O el41<|qK O ⟨by omega,by omega⟩<|G O<|W<|zM<|Y O<|G O<|W<|zR<|qC ⟨[(6,.c _),(5,.c _),(1,.c _),(2,.c _)],[_]⟩ (Weak.mk [true] ⟨U,U,U,U,T⟩ O) ?_
 refine qG 2 0 O O (Nat×Nat) (fun ⟨k,n⟩=>[(6,vI k),(5,vI n)]) (fun ⟨k,n⟩=>[]) (fun ⟨k,n⟩=>k<=e.Idx.length/\(n<=m+4*140737488355328)/\(dY m (1+e.Lin.L.length+e.Idx.length) e.Idx=dY m n (e.Idx.drop k))) (fun ⟨k,n⟩=>e.Idx.length-k) ⟨⟨0,1+e.Lin.L.length+e.Idx.length⟩,⟨by omega,by omega,O⟩,Weak.mk [true] ⟨U,VLe.of_eq (congrArg vI (by omega)),U,U,T⟩ O⟩ ?_
 rintro ⟨k,n⟩ ⟨hk,hn1,hn2⟩
 show AWP _ _ _ _ _ ⟨[(6,vI k),(5,vI n)]++_,[]++_⟩
 refine zM<|Y O<|G O<|zF O kM<|zK zAh (J 0 O) O<|qB O el41<|yI O<|G O<|rL0 O (fun g3_5=>zS O O) O<|rL0 O (fun g3_5=>zS O O) O<|rLz [(24,_),(25,_)] O gv1 ⟨O,O,O,O,T⟩ (fun g3_5=>wU O O O) O<|yZ O (fun h=>h)<|W<|zH O (fun c1=>?_) (fun c1=>?_)
 ·try simp only [sx] at c1
  obtain ⟨y,hy⟩:=qU e.Idx k (by omega)
  obtain ⟨i1,i2,i3⟩:=f4 y (zX hy)
  refine zN<|zM<|zR<|zM<|qW 19 mixed (by kernel_rfl) O O<|zQ O O (zS O O)<|zQ O O (zE O kM O)<|zQ O O (zJ O zAh O (J 0 O) O)<|zQ O O (zS O O)<|zQ O O (qH O el41 O O (by omega) (getm (by assumption)))<|zQ O O (qP O zCp O)<|zQ O O (qP O yP O)<|zQ O O (zJ O kQ O qE O)<|zQ O O (qX O D O)<|zQ O O (zGj O O O ⟨by omega,by omega⟩)<|zQ O O (zE O kM O)<|zQ O O (zJ O zAh O (J 0 O) O)<|zQ O O (zS O O)<|zQ O O (qH O el41 O O (by omega) (getm (by assumption)))<|zQ O O (qP O wI O)<|zQ O O (zJ O zAp O qE O)<|zQ O O (qX O el65 O)<|zQ O O (zGj O O O ⟨by omega,by omega⟩)<|zQ O O (yY O O)<|yR<|W<|Y O<|G O<|W<|zR<|qC ⟨[(7,.c _),(5,.c _),(1,.c _),(2,.c _),(6,.c _)],[_]⟩ (Weak.mk [true] ⟨U,U,U,U,U,T⟩ O) ?_
  refine qG 2 0 O O (Nat×Nat) (fun ⟨j,p⟩=>[(7,vI j),(5,vI p)]) (fun ⟨j,p⟩=>[]) (fun ⟨j,p⟩=>j<=y.At.length/\(p<=m+4*140737488355328)/\(fP m (n+y.Lin.L.length+y.At.length) y.At=fP m p (y.At.drop j))) (fun ⟨j,p⟩=>y.At.length-j) ⟨⟨0,n+y.Lin.L.length+y.At.length⟩,⟨by omega,by omega,O⟩,Weak.mk [true] ⟨U,VLe.of_eq (congrArg vI (by omega)),U,U,U,T⟩ O⟩ ?_
  rintro ⟨j,p⟩ ⟨hj,hp1,hp2⟩
  show AWP _ _ _ _ _ ⟨[(7,vI j),(5,vI p)]++_,[]++_⟩
  refine zM<|Y O<|G O<|zF O kM<|zK zAh (J 0 O) O<|G O<|qJ O el41 (by omega) (getm (by assumption))<|qS O wI<|zK zAp qE O<|qB O el65<|yI O<|G O<|rL0 O (fun g7_9=>zS O O) O<|rL0 O (fun g7_9=>zS O O) O<|rLz [(58,_),(59,_)] O gv1 ⟨O,O,O,O,T⟩ (fun g7_9=>wU O O O) O<|yZ O (fun h=>h)<|W<|zH O (fun c2=>?_) (fun c2=>?_)
  ·try simp only [sx] at c2
   obtain ⟨l,hl⟩:=qU y.At j (by omega)
   have hl2:=i3 l (zX hl)
   refine zN<|zM<|zR<|zT O<|G O<|zF O kM<|zK zAh (J 0 O) O<|G O<|qJ O el41 (by omega) (getm (by assumption))<|qS O wI<|zK zAp qE O<|G O<|qJ O el65 (by omega) (getm (by assumption))<|qS O yP<|zK kQ qE O<|qB O D<|qK O ⟨by omega,by omega⟩<|G O<|W<|zT O<|G O<|qK O ⟨by omega,by omega⟩<|G O<|W ?_
   refine ⟨⟨j+1,p+l.L.length⟩,⟨by omega,by omega,by rw [hp2,qR hl,fP,if_pos (by omega)]⟩,(by show y.At.length-(j+1)<y.At.length-j;omega),Weak.mk [true] ⟨U,VLe.of_eq (congrArg vI (by omega)),U,U,U,T⟩ O⟩
  ·try simp only [sx] at c2
   have hN2:=weighAt_end (l:=y.At) (k:=j) (n:=p) hx (by omega)
   refine qO<|zT O<|G O<|qK O ⟨by omega,by omega⟩<|G O<|W ?_
   refine ⟨⟨k+1,p⟩,⟨by omega,hp1,by rw [hn2,qR hy,dY,if_pos (by omega),hp2,←hN2]⟩,(by show e.Idx.length-(k+1)<e.Idx.length-k;omega),Weak.mk [true] ⟨U,U,U,U,T⟩ O⟩
 ·try simp only [sx] at c1
  have hN:=weighIdx_end (l:=e.Idx) (k:=k) (n:=n) hx (by omega)
  refine qO<|zM<|Y O<|G O<|W<|zR<|qC ⟨[(8,.c _),(5,.c _),(1,.c _),(2,.c _)],[_]⟩ (Weak.mk [true] ⟨U,U,U,U,T⟩ O)<|qG 2 0 O O (Nat×Nat) (fun ⟨k,n⟩=>[(8,vI k),(5,vI n)]) (fun ⟨k,n⟩=>[]) (fun ⟨k,n⟩=>k<=e.Args.length/\(n<=m+4*140737488355328)/\(gJ e m=jD (e.Args.drop k) m n)) (fun ⟨k,n⟩=>e.Args.length-k) ⟨⟨0,n⟩,⟨by omega,hn1,by rw [hW,hn2,←hN];rfl⟩,Weak.mk [true] ⟨U,U,U,U,T⟩ O⟩ ?_
  rintro ⟨k,n⟩ ⟨hk3,hn3,hn4⟩
  show AWP _ _ _ _ _ ⟨[(8,vI k),(5,vI n)]++_,[]++_⟩
  refine zM<|Y O<|G O<|zF O kO<|zK zAj (J 0 O) O<|qB O el42<|yI O<|G O<|rL0 O (fun g11_5=>zS O O) O<|rL0 O (fun g11_5=>zS O O) O<|rLz [(83,_),(84,_)] O gv1 ⟨O,O,O,O,T⟩ (fun g11_5=>wU O O O) O<|yZ O (fun h=>h)<|W<|zH O (fun c3=>?_) (fun c3=>?_)
  ·try simp only [sx] at c3
   obtain ⟨a,ha⟩:=qU e.Args k (by omega)
   have hwa:=weighE_le a (m-n) (f5 a (zX ha))
   refine zN<|zM<|zR<|zT O<|G O<|zF O kO<|zK zAj (J 0 O) O<|G O<|qJ O el42 (by omega) (zBj (by assumption))<|zP yG qE O<|G O<|G O<|qA O (kP O O O ⟨by omega,by omega⟩)<|qQ O ok26 (ih a (zX ha) (m-n) _ (f5 a (zX ha)) (by omega) (by omega)) ⟨U,O,U,O,T⟩<|qK O ⟨by omega,by omega⟩<|G O<|W<|zT O<|G O<|qK O ⟨by omega,by omega⟩<|G O<|W ?_
   refine ⟨⟨k+1,n+gJ a (m-n)⟩,⟨by omega,by omega,by rw [hn4,qR ha,jD,if_pos (by omega)]⟩,(by show e.Args.length-(k+1)<e.Args.length-k;omega),Weak.mk [true] ⟨U,VLe.of_eq (congrArg vI (by omega)),U,U,T⟩ O⟩
  ·try simp only [sx] at c3
   refine qO<|Y O<|G O<|G O<|W<|zO<|zV O ?_
   exact congrArg vI (by rw [hn4,←weighL_end hx (by omega)])
theorem base_Weigh (e:Ex) (m:Nat) (x:Int) (hf:e.fit) (hm:m<=1000000) (hx:x=m):Pur cfg 26 [vE e,vI x] (vI (gJ e m)):=by
  induction e using Ex.ind generalizing m x with
  |_ e ih=>exact zSy e (fun a ha m x h1 h2 h3=>ih a ha m x h1 h2 h3) m x hf hm hx
theorem zFv (l:List Mono) (hl:l.length<=5864062014805):
    OwnR cfg 80 [pU l] 107 2 (l.map Mono.cells):=by
 refine zW Tryz.func80 O Tryz.ntmps80 Tryz.results80 O ?_
 intro z hz
 refine Y O<|qA O (yQ 2 O O)<|W<|zM<|Y O<|G O<|zY O O (zFy O D O O) ?_
 rintro _ _ ⟨nb1,rfl,hnil1,rfl⟩
 refine W<|zH O (fun c1=>?_) (fun c1=>?_)
 ·try simp only [sx] at c1
  refine Y O<|G O<|yE _ (yU 107 2)<|W<|zO<|zV O ?_
  exact ⟨_,O,by rw [hnil1 c1]⟩
 ·try simp only [sx] at c1
  refine zN<|Y O<|zY O O (zAa O D zCy O O O O) ?_
  rintro _ _ ⟨sv3,rfl,rfl⟩
  refine G O<|zY O O (qV 0 O D O O O (by simp only [List.length_map,List.length_nil,Nat.zero_add];omega) (by simp only [List.length_map,List.length_nil,Nat.zero_add];omega)) ?_
  rintro _ _ ⟨sv4,rfl,rfl⟩
  refine G O<|W<|zO<|zV O ?_
  exact ⟨_,O,O⟩
theorem zOp (l:List Lf) (hl:l.length<=4294967296):
    OwnR cfg 150 [mR l] 40 2 (l.map Lf.cells):=by
 refine zW Tryz.func150 O Tryz.ntmps150 Tryz.results150 O ?_
 intro z hz
 refine Y O<|qA O (yQ 2 O O)<|W<|zM<|Y O<|G O<|zY O O (zFy O el65 O O) ?_
 rintro _ _ ⟨nb1,rfl,hnil1,rfl⟩
 refine W<|zH O (fun c1=>?_) (fun c1=>?_)
 ·try simp only [sx] at c1
  refine Y O<|G O<|yE _ (yU 40 2)<|W<|zO<|zV O ?_
  exact ⟨_,O,by rw [hnil1 c1]⟩
 ·try simp only [sx] at c1
  refine zN<|Y O<|zY O O (zAa O el65 v O O O O) ?_
  rintro _ _ ⟨sv3,rfl,rfl⟩
  refine G O<|zY O O (qV 0 O el65 O O O (by simp only [List.length_map,List.length_nil,Nat.zero_add];omega) (by simp only [List.length_map,List.length_nil,Nat.zero_add];omega)) ?_
  rintro _ _ ⟨sv4,rfl,rfl⟩
  refine G O<|W<|zO<|zV O ?_
  exact ⟨_,O,O⟩
theorem zQg (l:List Ix) (hl:l.length<=4294967296):
    OwnR cfg 149 [nB l] 115 4 (l.map Ix.cells):=by
 refine zW Tryz.func149 O Tryz.ntmps149 Tryz.results149 O ?_
 intro z hz
 refine Y O<|qA O (yQ 4 O O)<|W<|zM<|Y O<|G O<|zY O O (zFy O el41 O O) ?_
 rintro _ _ ⟨nb1,rfl,hnil1,rfl⟩
 refine W<|zH O (fun c1=>?_) (fun c1=>?_)
 ·try simp only [sx] at c1
  refine Y O<|G O<|yE _ (yU 115 4)<|W<|zO<|zV O ?_
  exact ⟨_,O,by rw [hnil1 c1]⟩
 ·try simp only [sx] at c1
  refine zN<|Y O<|zY O O (zAa O el41 zJa O O O O) ?_
  rintro _ _ ⟨sv3,rfl,rfl⟩
  refine G O<|zY O O (qV 0 O el41 O O O (by simp only [List.length_map,List.length_nil,Nat.zero_add];omega) (by simp only [List.length_map,List.length_nil,Nat.zero_add];omega)) ?_
  rintro _ _ ⟨sv4,rfl,rfl⟩
  refine G O<|W<|zO<|zV O ?_
  exact ⟨_,O,O⟩
theorem zQh (l:List Ex) (hl:l.length<=4294967296):
    OwnR cfg 151 [vEs l] 44 13 (l.map Ex.cells):=by
 refine zW Tryz.func151 O Tryz.ntmps151 Tryz.results151 O ?_
 intro z hz
 refine Y O<|qA O (yQ 13 O O)<|W<|zM<|Y O<|G O<|zY O O (zFy O el42 O O) ?_
 rintro _ _ ⟨nb1,rfl,hnil1,rfl⟩
 refine W<|zH O (fun c1=>?_) (fun c1=>?_)
 ·try simp only [sx] at c1
  refine Y O<|G O<|yE _ (yU 44 13)<|W<|zO<|zV O ?_
  exact ⟨_,O,by rw [hnil1 c1]⟩
 ·try simp only [sx] at c1
  refine zN<|Y O<|zY O O (zAa O el42 zr44 O O O O) ?_
  rintro _ _ ⟨sv3,rfl,rfl⟩
  refine G O<|zY O O (qV 0 O el42 O O O (by simp only [List.length_map,List.length_nil,Nat.zero_add];omega) (by simp only [List.length_map,List.length_nil,Nat.zero_add];omega)) ?_
  rintro _ _ ⟨sv4,rfl,rfl⟩
  refine G O<|W<|zO<|zV O ?_
  exact ⟨_,O,O⟩
theorem expr_Copy_1 (l:Lf) (hl:l.L.length<=5864062014805):
    Pur cfg 79 [dK l] (.tup [dK (idF l).1,vI (idF l).2]):=by
 refine zW Tryz.func79 O Tryz.ntmps79 Tryz.results79 O ?_
 intro z hz
 refine Y O<|zY O O (qN O O) ?_
 rintro _ _ ⟨b1,rfl,rfl⟩
 refine zY O O (qF [none,some 2] O v O) ?_
 rintro _ _ ⟨b2,rfl,rfl⟩
 refine G O<|W<|zM<|qW 6 mixed (by kernel_rfl) O O<|zQ O O (zE O zCk O)<|zQ O O (zJ O one2 O (J 1 O) O)<|zQ O O (zE O yP O)<|zQ O O (zJ O kQ O (J 1 O) O)<|zQ O O (qL O ok80 (OwnR.pur (zFv l.L hl)) ⟨U,O,T⟩)<|zQ O O (kW O v pl40 O)<|yR<|rStR 0 sz40 O<|G O<|W<|zO<|fin2 (zZ yB O (J 0 O) O) (rs_c O) ?_
 exact O
end Go.W
