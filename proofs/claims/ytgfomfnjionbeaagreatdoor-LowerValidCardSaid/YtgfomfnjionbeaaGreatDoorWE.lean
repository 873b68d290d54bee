/-
  What functions compute.
  Conditions: none.
-/
import Derived.Test.YtgfomfnjionbeaaGreatDoorWD
import Derived.Test.YtgfomfnjionbeaaGreatDoorPlain
set_option linter.unusedSimpArgs false
set_option linter.unusedVariables false
set_option maxRecDepth 10000
namespace Go.W
open Go Go.Eng Go.Proofs Go.L41 Go.Br
attribute [local irreducible] AWP RWP TD fQ
theorem ok21:bA Tryz.prog 21=true:=by kernel_rfl
theorem ok100:bA Tryz.prog 100=true:=by kernel_rfl
theorem ok101:bA Tryz.prog 101=true:=by kernel_rfl
theorem ok162:bA Tryz.prog 162=true:=by kernel_rfl
theorem ok163:bA Tryz.prog 163=true:=by kernel_rfl
theorem ok164:bA Tryz.prog 164=true:=by kernel_rfl
theorem ok204:bA Tryz.prog 204=true:=by kernel_rfl
theorem base_LinsF (a b:List Lf) (ha:a.length<=6000000000000) (hw:∀x,x∈a->x.L.length<=6000000000000):
    Pur cfg 204 [nI a,nI b] (vB (decide (a=b))):=by
 refine zV Tryz.func204 O Tryz.ntmps204 Tryz.results204 O ?_
 intro z hz
 refine Y O<|G O<|zA<|zH<|Y O<|G O<|qB O el72<|G O<|qB O el72<|yN O<|zA<|zE O (fun c1=>?_) (fun c1=>?_)
 ·try simp only [sx] at c1
  refine Y O<|G O<|zA<|zJ<|zT O ?_
  rw [kF (fun h=>c1 (by rw [h]))]
 ·try simp only [sx] at c1
  refine zI<|zH<|Y O<|G O<|zA<|zR<|zU ⟨[(5,.c _),(0,.c _),(1,.c _)],[]⟩ (Weak.mk [] ⟨zB,zB,zB,T⟩ O)<|qF 1 0 O O (Nat) (fun k=>[(5,vI k)]) (fun k=>[]) (fun k=>k<=a.length/\(a.take k=b.take k)) (fun k=>a.length-k) ⟨0,⟨zC,O⟩,Weak.mk [] ⟨zB,zB,zB,T⟩ O⟩ ?_
  rintro k ⟨hk,hp⟩
  refine zH<|Y O<|G O<|G O<|qB O el72<|yA O<|zA<|zE O (fun c2=>?_) (fun c2=>?_)
  ·try simp only [sx] at c2
   obtain ⟨x,hx⟩:=qV a k zC
   obtain ⟨y,hy⟩:=qV b k zC
   refine zI<|zH<|zR<|zH<|yE 10 mixed uC O O<|zN O O (zP O O)<|zN O O (zP O O)<|zN O O (qN O el72 O O zC (getm uD))<|zN O O (qA O kD O qD O)<|zN O O (zP O O)<|zN O O (zP O O)<|zN O O (qN O el72 O O zC (getm uD))<|zN O O (qA O kD O qD O)<|zN O O (qS O ok163 (base_Lin x y (hw x (qC hx))) ⟨zB,O,zB,O,T⟩)<|zN O O (wJ O O)<|kE<|zA<|zE O (fun c3=>?_) (fun c3=>?_)
   ·try simp only [sx] at c3
    refine Y O<|G O<|zA<|zJ<|zT O ?_
    rw [kF (zMj hx hy c3)]
   ·exact j5
  ·exact v52
theorem base_Lins (a b:List Lf) (ha:a.length<=6000000000000) (hw:fT a<=6000000000000):Pur cfg 204 [nI a,nI b] (vB (decide (a=b))):=
  base_LinsF a b ha fun x hx=>by have:=zBz hx;omega
theorem base_Index (a b:Ix) (ha:a.wt<=6000000000000):
    Pur cfg 162 [jN a,jN b] (vB (decide (a=b))):=by
 refine zV Tryz.func162 O Tryz.ntmps162 Tryz.results162 O ?_
 intro z hz
 have hw:=ha
 unfold Ix.wt at hw
 refine Y O<|zY O O (qL O O) ?_
 rintro _ _ ⟨b1,rfl,rfl⟩
 refine zY O O (qL O O) ?_
 rintro _ _ ⟨b2,rfl,rfl⟩
 refine G O<|zA<|Y O<|zD O zDm<|zG one9 (J 1 O) O<|zD O zDm<|zG one9 (J 0 O) O<|wD O<|G O<|rL0 O (fun g1_5=>zF O zCi O) O<|rL1 11 O (fun g1_5=>qA O kD O (J 1 O) O) O<|rL0 O (fun g1_5=>zF O zCi O) O<|rL1 13 O (fun g1_5=>qA O kD O (J 0 O) O) O<|rLz [(12,_),(14,_)] O gv1 ⟨O,O,O,O,T⟩ (fun g1_5=>qS O ok163 (base_Lin a.Lin b.Lin zC) ⟨zB,O,zB,O,T⟩) O<|kB O (fun h=>h)<|G O<|rL0 O (fun g1_12=>zF O zAg O) O<|rL1 18 O (fun g1_12=>zK O zCg O (J 1 O) O) O<|rL0 O (fun g1_12=>zF O zAg O) O<|rL1 20 O (fun g1_12=>zK O zCg O (J 0 O) O) O<|rLz [(19,_),(21,_)] O gv1 ⟨O,O,O,O,T⟩ (fun g1_12=>qS O ok204 (base_Lins a.At b.At zC zC) ⟨zB,O,zB,O,T⟩) O<|kB O (fun h=>h)<|G O<|zA<|zJ<|zT O ?_
 exact congrArg vB (ix_eq a b)
theorem base_Indices (a b:List Ix) (ha:a.length<=6000000000000) (hw:dD a<=6000000000000):
    Pur cfg 100 [lN a,lN b] (vB (decide (a=b))):=by
 refine zV Tryz.func100 O Tryz.ntmps100 Tryz.results100 O ?_
 intro z hz
 refine Y O<|G O<|zA<|zH<|Y O<|G O<|qB O N<|G O<|qB O N<|yN O<|zA<|zE O (fun c1=>?_) (fun c1=>?_)
 ·try simp only [sx] at c1
  refine Y O<|G O<|zA<|zJ<|zT O ?_
  rw [kF (fun h=>c1 (by rw [h]))]
 ·try simp only [sx] at c1
  refine zI<|zH<|Y O<|G O<|zA<|zR<|zU ⟨[(5,.c _),(0,.c _),(1,.c _)],[]⟩ (Weak.mk [] ⟨zB,zB,zB,T⟩ O)<|qF 1 0 O O (Nat) (fun k=>[(5,vI k)]) (fun k=>[]) (fun k=>k<=a.length/\(a.take k=b.take k)) (fun k=>a.length-k) ⟨0,⟨zC,O⟩,Weak.mk [] ⟨zB,zB,zB,T⟩ O⟩ ?_
  rintro k ⟨hk,hp⟩
  refine zH<|Y O<|G O<|G O<|qB O N<|yA O<|zA<|zE O (fun c2=>?_) (fun c2=>?_)
  ·try simp only [sx] at c2
   obtain ⟨x,hx⟩:=qV a k zC
   obtain ⟨y,hy⟩:=qV b k zC
   have hxw:=zCh (qC hx)
   refine zI<|zH<|zR<|zH<|yE 10 mixed uC O O<|zN O O (zP O O)<|zN O O (zP O O)<|zN O O (qN O N O O zC (getm uD))<|zN O O (qA O zJx O qD O)<|zN O O (zP O O)<|zN O O (zP O O)<|zN O O (qN O N O O zC (getm uD))<|zN O O (qA O zJx O qD O)<|zN O O (qS O ok162 (base_Index x y zC) ⟨zB,O,zB,O,T⟩)<|zN O O (wJ O O)<|kE<|zA<|zE O (fun c3=>?_) (fun c3=>?_)
   ·try simp only [sx] at c3
    refine Y O<|G O<|zA<|zJ<|zT O ?_
    rw [kF (zMj hx hy c3)]
   ·exact j5
  ·exact v52
theorem base_Exprs_of (a b:List Ex) (hE:∀x,x∈a->∀y,Pur cfg 101 [vE x,vE y] (vB (decide (x=y)))) (ha:a.length<=6000000000000):
    Pur cfg 164 [vEs a,vEs b] (vB (decide (a=b))):=by
 refine zV Tryz.func164 O Tryz.ntmps164 Tryz.results164 O ?_
 intro z hz
 refine Y O<|G O<|zA<|zH<|Y O<|G O<|qB O el60<|G O<|qB O el60<|yN O<|zA<|zE O (fun c1=>?_) (fun c1=>?_)
 ·try simp only [sx] at c1
  refine Y O<|G O<|zA<|zJ<|zT O ?_
  rw [kF (fun h=>c1 (by rw [h]))]
 ·try simp only [sx] at c1
  refine zI<|zH<|Y O<|G O<|zA<|zR<|zU ⟨[(5,.c _),(0,.c _),(1,.c _)],[]⟩ (Weak.mk [] ⟨zB,zB,zB,T⟩ O)<|qF 1 0 O O (Nat) (fun k=>[(5,vI k)]) (fun k=>[]) (fun k=>k<=a.length/\(a.take k=b.take k)) (fun k=>a.length-k) ⟨0,⟨zC,O⟩,Weak.mk [] ⟨zB,zB,zB,T⟩ O⟩ ?_
  rintro k ⟨hk,hp⟩
  refine zH<|Y O<|G O<|G O<|qB O el60<|yA O<|zA<|zE O (fun c2=>?_) (fun c2=>?_)
  ·try simp only [sx] at c2
   obtain ⟨x,hx⟩:=qV a k zC
   obtain ⟨y,hy⟩:=qV b k zC
   refine zI<|zH<|zR<|zH<|yE 10 mixed uC O O<|zN O O (zP O O)<|zN O O (zP O O)<|zN O O (qN O el60 O O zC (zGh uD))<|zN O O (qA O yU O qD O)<|zN O O (zP O O)<|zN O O (zP O O)<|zN O O (qN O el60 O O zC (zGh uD))<|zN O O (qA O yU O qD O)<|zN O O (qS O ok101 (hE x (qC hx) y) ⟨zB,O,zB,O,T⟩)<|zN O O (wJ O O)<|kE<|zA<|zE O (fun c3=>?_) (fun c3=>?_)
   ·try simp only [sx] at c3
    refine Y O<|G O<|zA<|zJ<|zT O ?_
    rw [kF (zMj hx hy c3)]
   ·exact j5
  ·exact v52
theorem base_Expr_step (a:Ex) (ih:∀x,x∈a.Args->x.wt<=6000000000000->∀y,Pur cfg 101 [vE x,vE y] (vB (decide (x=y)))) (ha:a.wt<=6000000000000) (b:Ex):
    Pur cfg 101 [vE a,vE b] (vB (decide (a=b))):=by
 refine zV Tryz.func101 O Tryz.ntmps101 Tryz.results101 O ?_
 intro z hz
 obtain ⟨hL,hI,hA⟩:=a.parts ha
 have hw:=Ex.wt_eq a
 refine Y O<|zY O O (qL O O) ?_
 rintro _ _ ⟨b1,rfl,rfl⟩
 refine zY O O (qL O O) ?_
 rintro _ _ ⟨b2,rfl,rfl⟩
 refine G O<|zA<|Y O<|zD O wE<|zG one3 (J 1 O) O<|zD O wE<|zG one3 (J 0 O) O<|yJ O<|G O<|rL0 O (fun g1_5=>zF O zFp O) O<|rL1 11 O (fun g1_5=>zK O one9 O (J 1 O) O) O<|rL0 O (fun g1_5=>zF O zFp O) O<|rL1 13 O (fun g1_5=>zK O one9 O (J 0 O) O) O<|rLz [(12,_),(14,_)] O gv1 ⟨O,O,O,O,T⟩ (fun g1_5=>zNd O O O) O<|kB O (fun h=>h)<|G O<|rL0 O (fun g1_12=>zF O zLa O) O<|rL1 18 O (fun g1_12=>qA O zFt O (J 1 O) O) O<|rL0 O (fun g1_12=>zF O zLa O) O<|rL1 20 O (fun g1_12=>qA O zFt O (J 0 O) O) O<|rLz [(19,_),(21,_)] O gv1 ⟨O,O,O,O,T⟩ (fun g1_12=>det_aeql O fl54 O O O) O<|kB O (fun h=>h)<|G O<|rL0 O (fun g1_19=>zF O zEo O) O<|rL1 25 O (fun g1_19=>qA O qZ O (J 1 O) O) O<|rL0 O (fun g1_19=>zF O zEo O) O<|rL1 27 O (fun g1_19=>qA O qZ O (J 0 O) O) O<|rLz [(26,_),(28,_)] O gv1 ⟨O,O,O,O,T⟩ (fun g1_19=>det_aeql O fl56 O O O) O<|kB O (fun h=>h)<|G O<|rL0 O (fun g1_26=>zF O zDi O) O<|rL1 32 O (fun g1_26=>qA O kD O (J 1 O) O) O<|rL0 O (fun g1_26=>zF O zDi O) O<|rL1 34 O (fun g1_26=>qA O kD O (J 0 O) O) O<|rLz [(33,_),(35,_)] O gv1 ⟨O,O,O,O,T⟩ (fun g1_26=>qS O ok163 (base_Lin a.Lin b.Lin hL) ⟨zB,O,zB,O,T⟩) O<|kB O (fun h=>h)<|G O<|rL0 O (fun g1_33=>zF O kQ O) O<|rL1 39 O (fun g1_33=>zK O wG O (J 1 O) O) O<|rL0 O (fun g1_33=>zF O kQ O) O<|rL1 41 O (fun g1_33=>zK O wG O (J 0 O) O) O<|rLz [(40,_),(42,_)] O gv1 ⟨O,O,O,O,T⟩ (fun g1_33=>qS O ok100 (base_Indices a.Idx b.Idx hI zC) ⟨zB,O,zB,O,T⟩) O<|kB O (fun h=>h)<|G O<|rL0 O (fun g1_40=>zF O wP O) O<|rL1 46 O (fun g1_40=>zK O zBy O (J 1 O) O) O<|rL0 O (fun g1_40=>zF O wP O) O<|rL1 48 O (fun g1_40=>zK O zBy O (J 0 O) O) O<|rLz [(47,_),(49,_)] O gv1 ⟨O,O,O,O,T⟩ (fun g1_40=>qS O ok164 (base_Exprs_of a.Args b.Args (fun x hx y=>ih x hx (by have:=Ex.arg_wt hx;omega) y) hA) ⟨zB,O,zB,O,T⟩) O<|kB O (fun h=>h)<|G O<|zA<|zJ<|zT O ?_
 exact congrArg vB (ex_eq a b)
theorem base_Expr (a b:Ex) (ha:a.wt<=6000000000000):Pur cfg 101 [vE a,vE b] (vB (decide (a=b))):=by
  induction a using Ex.ind generalizing b with
  |_ a ih=>exact base_Expr_step a (fun x hx h y=>ih x hx y h) ha b
theorem zUj (e:Ex) (ih:∀a,a∈e.Args->∀(m:Nat) (x:Int),a.fit->m<=1000000->x=m->Pur cfg 21 [vE a,vI x] (vI (gJ a m))) (m:Nat) (x:Int) (hf:e.fit) (hm:m<=1000000) (hx:x=m):
    Pur cfg 21 [vE e,vI x] (vI (gJ e m)):=by
 refine zV Tryz.func21 O Tryz.ntmps21 Tryz.results21 O ?_
 intro z hz
 obtain ⟨f1,f2,f3,f4,f5⟩:=Ex.fit_eq hf
 have hW:=weighE_eq e m
 refine Y O<|zY O O (qL O O) ?_
 rintro _ _ ⟨b1,rfl,rfl⟩
 refine G O<|zA<|Y O<|zD O zDi<|zD O wC<|zG zBe (J 0 O) O<|qB O U<|qH O ⟨zC,zC⟩<|zD O kQ<|zG wG (J 0 O) O<|qB O N<|qH O ⟨zC,zC⟩<|G O<|zA<|zH<|Y O<|G O<|zA<|zR<|zU ⟨[(6,.c _),(5,.c _),(1,.c _),(2,.c _)],[_]⟩ (Weak.mk [true] ⟨zB,zB,zB,zB,T⟩ O) ?_
 refine qF 2 0 O O (Nat×Nat) (fun ⟨k,n⟩=>[(6,vI k),(5,vI n)]) (fun ⟨k,n⟩=>[]) (fun ⟨k,n⟩=>k<=e.Idx.length/\(n<=m+4*140737488355328)/\(dU m (1+e.Lin.L.length+e.Idx.length) e.Idx=dU m n (e.Idx.drop k))) (fun ⟨k,n⟩=>e.Idx.length-k) ⟨⟨0,1+e.Lin.L.length+e.Idx.length⟩,⟨zC,zC,O⟩,Weak.mk [true] ⟨zB,VLe.of_eq (congrArg vI zC),zB,zB,T⟩ O⟩ ?_
 rintro ⟨k,n⟩ ⟨hk,hn1,hn2⟩
 show AWP _ _ _ _ _ ⟨[(6,vI k),(5,vI n)]++_,[]++_⟩
 refine zH<|Y O<|G O<|zD O kQ<|zG wG (J 0 O) O<|qB O N<|yA O<|G O<|rL0 O (fun g3_5=>zP O O) O<|rL0 O (fun g3_5=>zP O O) O<|rLz [(24,_),(25,_)] O gv1 ⟨O,O,O,O,T⟩ (fun g3_5=>wN O O O) O<|kB O (fun h=>h)<|zA<|zE O (fun c1=>?_) (fun c1=>?_)
 ·try simp only [sx] at c1
  obtain ⟨y,hy⟩:=qV e.Idx k zC
  obtain ⟨i1,i2,i3⟩:=f4 y (qC hy)
  refine zI<|zH<|zR<|zH<|yE 19 mixed uC O O<|zN O O (zP O O)<|zN O O (zF O kQ O)<|zN O O (zK O wG O (J 0 O) O)<|zN O O (zP O O)<|zN O O (qN O N O O zC (getm uD))<|zN O O (qQ O zCi O)<|zN O O (qQ O wC O)<|zN O O (zK O zBe O qD O)<|zN O O (qT O U O)<|zN O O (zFa O O O ⟨zC,zC⟩)<|zN O O (zF O kQ O)<|zN O O (zK O wG O (J 0 O) O)<|zN O O (zP O O)<|zN O O (qN O N O O zC (getm uD))<|zN O O (qQ O zAg O)<|zN O O (zK O zCg O qD O)<|zN O O (qT O el72 O)<|zN O O (zFa O O O ⟨zC,zC⟩)<|zN O O (yL O O)<|kE<|zA<|Y O<|G O<|zA<|zR<|zU ⟨[(7,.c _),(5,.c _),(1,.c _),(2,.c _),(6,.c _)],[_]⟩ (Weak.mk [true] ⟨zB,zB,zB,zB,zB,T⟩ O) ?_
  refine qF 2 0 O O (Nat×Nat) (fun ⟨j,p⟩=>[(7,vI j),(5,vI p)]) (fun ⟨j,p⟩=>[]) (fun ⟨j,p⟩=>j<=y.At.length/\(p<=m+4*140737488355328)/\(fO m (n+y.Lin.L.length+y.At.length) y.At=fO m p (y.At.drop j))) (fun ⟨j,p⟩=>y.At.length-j) ⟨⟨0,n+y.Lin.L.length+y.At.length⟩,⟨zC,zC,O⟩,Weak.mk [true] ⟨zB,VLe.of_eq (congrArg vI zC),zB,zB,zB,T⟩ O⟩ ?_
  rintro ⟨j,p⟩ ⟨hj,hp1,hp2⟩
  show AWP _ _ _ _ _ ⟨[(7,vI j),(5,vI p)]++_,[]++_⟩
  refine zH<|Y O<|G O<|zD O kQ<|zG wG (J 0 O) O<|G O<|qE O N zC (getm uD)<|qW O zAg<|zG zCg qD O<|qB O el72<|yA O<|G O<|rL0 O (fun g7_9=>zP O O) O<|rL0 O (fun g7_9=>zP O O) O<|rLz [(58,_),(59,_)] O gv1 ⟨O,O,O,O,T⟩ (fun g7_9=>wN O O O) O<|kB O (fun h=>h)<|zA<|zE O (fun c2=>?_) (fun c2=>?_)
  ·try simp only [sx] at c2
   obtain ⟨l,hl⟩:=qV y.At j zC
   have hl2:=i3 l (qC hl)
   refine zI<|zH<|zR<|zO O<|G O<|zD O kQ<|zG wG (J 0 O) O<|G O<|qE O N zC (getm uD)<|qW O zAg<|zG zCg qD O<|G O<|qE O el72 zC (getm uD)<|qW O wC<|zG zBe qD O<|qB O U<|qH O ⟨zC,zC⟩<|G O<|zA<|zO O<|G O<|qH O ⟨zC,zC⟩<|G O<|zA ?_
   refine ⟨⟨j+1,p+l.L.length⟩,⟨zC,zC,by rw [hp2,qO hl,fO,if_pos zC]⟩,(by show y.At.length-(j+1)<y.At.length-j;omega),Weak.mk [true] ⟨zB,VLe.of_eq (congrArg vI zC),zB,zB,zB,T⟩ O⟩
  ·try simp only [sx] at c2
   have hN2:=weighAt_end (l:=y.At) (k:=j) (n:=p) hx zC
   refine qM<|zO O<|G O<|qH O ⟨zC,zC⟩<|G O<|zA ?_
   refine ⟨⟨k+1,p⟩,⟨zC,hp1,by rw [hn2,qO hy,dU,if_pos zC,hp2,←hN2]⟩,(by show e.Idx.length-(k+1)<e.Idx.length-k;omega),Weak.mk [true] ⟨zB,zB,zB,zB,T⟩ O⟩
 ·try simp only [sx] at c1
  have hN:=weighIdx_end (l:=e.Idx) (k:=k) (n:=n) hx zC
  refine qM<|zH<|Y O<|G O<|zA<|zR<|zU ⟨[(8,.c _),(5,.c _),(1,.c _),(2,.c _)],[_]⟩ (Weak.mk [true] ⟨zB,zB,zB,zB,T⟩ O)<|qF 2 0 O O (Nat×Nat) (fun ⟨k,n⟩=>[(8,vI k),(5,vI n)]) (fun ⟨k,n⟩=>[]) (fun ⟨k,n⟩=>k<=e.Args.length/\(n<=m+4*140737488355328)/\(gJ e m=jE (e.Args.drop k) m n)) (fun ⟨k,n⟩=>e.Args.length-k) ⟨⟨0,n⟩,⟨zC,hn1,by rw [hW,hn2,←hN];rfl⟩,Weak.mk [true] ⟨zB,zB,zB,zB,T⟩ O⟩ ?_
  rintro ⟨k,n⟩ ⟨hk3,hn3,hn4⟩
  show AWP _ _ _ _ _ ⟨[(8,vI k),(5,vI n)]++_,[]++_⟩
  refine zH<|Y O<|G O<|zD O wP<|zG zBy (J 0 O) O<|qB O el60<|yA O<|G O<|rL0 O (fun g11_5=>zP O O) O<|rL0 O (fun g11_5=>zP O O) O<|rLz [(83,_),(84,_)] O gv1 ⟨O,O,O,O,T⟩ (fun g11_5=>wN O O O) O<|kB O (fun h=>h)<|zA<|zE O (fun c3=>?_) (fun c3=>?_)
  ·try simp only [sx] at c3
   obtain ⟨a,ha⟩:=qV e.Args k zC
   have hwa:=zRp a (m-n) (f5 a (qC ha))
   refine zI<|zH<|zR<|zO O<|G O<|zD O wP<|zG zBy (J 0 O) O<|G O<|qE O el60 zC (zGh uD)<|zM yU qD O<|G O<|G O<|zW O (yM O O O ⟨zC,zC⟩)<|qJ O ok21 (ih a (qC ha) (m-n) _ (f5 a (qC ha)) zC zC) ⟨zB,O,zB,O,T⟩<|qH O ⟨zC,zC⟩<|G O<|zA<|zO O<|G O<|qH O ⟨zC,zC⟩<|G O<|zA ?_
   refine ⟨⟨k+1,n+gJ a (m-n)⟩,⟨zC,zC,by rw [hn4,qO ha,jE,if_pos zC]⟩,(by show e.Args.length-(k+1)<e.Args.length-k;omega),Weak.mk [true] ⟨zB,VLe.of_eq (congrArg vI zC),zB,zB,T⟩ O⟩
  ·try simp only [sx] at c3
   refine qM<|Y O<|G O<|G O<|zA<|zJ<|zT O ?_
   exact congrArg vI (by rw [hn4,←weighL_end hx zC])
theorem base_Weigh (e:Ex) (m:Nat) (x:Int) (hf:e.fit) (hm:m<=1000000) (hx:x=m):Pur cfg 21 [vE e,vI x] (vI (gJ e m)):=by
  induction e using Ex.ind generalizing m x with
  |_ e ih=>exact zUj e (fun a ha m x h1 h2 h3=>ih a ha m x h1 h2 h3) m x hf hm hx
theorem zGl (l:List Mono) (hl:l.length<=5864062014805):
    OwnR cfg 196 [vO l] 139 2 (l.map Mono.cells):=by
 refine zV Tryz.func196 O Tryz.ntmps196 Tryz.results196 O ?_
 intro z hz
 refine Y O<|qX 2 O<|zA<|zH<|Y O<|G O<|zY O O (zGn O U O O) ?_
 rintro _ _ ⟨nb1,rfl,hnil1,rfl⟩
 refine zA<|zE O (fun c1=>?_) (fun c1=>?_)
 ·try simp only [sx] at c1
  refine Y O<|G O<|yT _ (kO 139 2)<|zA<|zJ<|zT O ?_
  exact ⟨_,O,by rw [hnil1 c1]⟩
 ·try simp only [sx] at c1
  refine zI<|Y O<|zY O O (zBx O U zGb O O O O) ?_
  rintro _ _ ⟨sv3,rfl,rfl⟩
  refine G O<|zY O O (yH 0 O U O O O uH uH) ?_
  exact j9
theorem zHz (l:List Lf) (hl:l.length<=4294967296):
    OwnR cfg 129 [nI l] 59 2 (l.map Lf.cells):=by
 refine zV Tryz.func129 O Tryz.ntmps129 Tryz.results129 O ?_
 intro z hz
 refine Y O<|qX 2 O<|zA<|zH<|Y O<|G O<|zY O O (zGn O el72 O O) ?_
 rintro _ _ ⟨nb1,rfl,hnil1,rfl⟩
 refine zA<|zE O (fun c1=>?_) (fun c1=>?_)
 ·try simp only [sx] at c1
  refine Y O<|G O<|yT _ (kO 59 2)<|zA<|zJ<|zT O ?_
  exact ⟨_,O,by rw [hnil1 c1]⟩
 ·try simp only [sx] at c1
  refine zI<|Y O<|zY O O (zBx O el72 zr59 O O O O) ?_
  rintro _ _ ⟨sv3,rfl,rfl⟩
  refine G O<|zY O O (yH 0 O el72 O O O uH uH) ?_
  exact j9
theorem zIq (l:List Ix) (hl:l.length<=4294967296):
    OwnR cfg 128 [lN l] 93 4 (l.map Ix.cells):=by
 refine zV Tryz.func128 O Tryz.ntmps128 Tryz.results128 O ?_
 intro z hz
 refine Y O<|qX 4 O<|zA<|zH<|Y O<|G O<|zY O O (zGn O N O O) ?_
 rintro _ _ ⟨nb1,rfl,hnil1,rfl⟩
 refine zA<|zE O (fun c1=>?_) (fun c1=>?_)
 ·try simp only [sx] at c1
  refine Y O<|G O<|yT _ (kO 93 4)<|zA<|zJ<|zT O ?_
  exact ⟨_,O,by rw [hnil1 c1]⟩
 ·try simp only [sx] at c1
  refine zI<|Y O<|zY O O (zBx O N zr93 O O O O) ?_
  rintro _ _ ⟨sv3,rfl,rfl⟩
  refine G O<|zY O O (yH 0 O N O O O uH uH) ?_
  exact j9
theorem zIr (l:List Ex) (hl:l.length<=4294967296):
    OwnR cfg 130 [vEs l] 62 13 (l.map Ex.cells):=by
 refine zV Tryz.func130 O Tryz.ntmps130 Tryz.results130 O ?_
 intro z hz
 refine Y O<|qX 13 O<|zA<|zH<|Y O<|G O<|zY O O (zGn O el60 O O) ?_
 rintro _ _ ⟨nb1,rfl,hnil1,rfl⟩
 refine zA<|zE O (fun c1=>?_) (fun c1=>?_)
 ·try simp only [sx] at c1
  refine Y O<|G O<|yT _ (kO 62 13)<|zA<|zJ<|zT O ?_
  exact ⟨_,O,by rw [hnil1 c1]⟩
 ·try simp only [sx] at c1
  refine zI<|Y O<|zY O O (zBx O el60 zr62 O O O O) ?_
  rintro _ _ ⟨sv3,rfl,rfl⟩
  refine G O<|zY O O (yH 0 O el60 O O O uH uH) ?_
  exact j9
end Go.W
