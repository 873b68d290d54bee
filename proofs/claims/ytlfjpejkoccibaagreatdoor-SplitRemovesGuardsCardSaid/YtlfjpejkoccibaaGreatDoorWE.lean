/-
  Walks: what functions of the program compute. Printed by wip/gen/mk2.py.
  Conditions: none.
-/
import Derived.Test.YtlfjpejkoccibaaGreatDoorWD
import Derived.Test.YtlfjpejkoccibaaGreatDoorPlain
set_option linter.unusedSimpArgs false
set_option linter.unusedVariables false
set_option maxRecDepth 10000
namespace Go.W
open Go Go.Eng Go.Proofs Go.L41 Go.Br
attribute [local irreducible] AWP RWP TD finQ
theorem ok77:callOk Tryz.prog 77=true:=by kernel_rfl
theorem ok140:callOk Tryz.prog 140=true:=by kernel_rfl
theorem ok141:callOk Tryz.prog 141=true:=by kernel_rfl
theorem ok174:callOk Tryz.prog 174=true:=by kernel_rfl
theorem ok175:callOk Tryz.prog 175=true:=by kernel_rfl
theorem ok176:callOk Tryz.prog 176=true:=by kernel_rfl
theorem ok197:callOk Tryz.prog 197=true:=by kernel_rfl
theorem base_Lins (a b:List Lf) (ha:a.length<=6000000000000) (hw:linsWt a<=6000000000000):
    Pur cfg 197 [vLins a,vLins b] (vB (decide (a=b))):=by
 refine zR Tryz.func197 O Tryz.ntmps197 Tryz.results197 O ?_
 intro z hz
 refine G O<|F O<|I<|zJ<|G O<|F O<|qB O s<|F O<|qB O s<|yR O<|I<|zF O (fun c1=>?_) (fun c1=>?_)
 ·try simp only [R] at c1
  refine G O<|F O<|I<|o<|X O ?_
  rw [yJ (fun h=>c1 (by rw [h]))]
 ·try simp only [R] at c1
  refine zI<|zJ<|G O<|F O<|I<|zQ<|zW ⟨[(5,.c _),(0,.c _),(1,.c _)],[]⟩ (Weak.mk [] ⟨H,H,H,T⟩ O)<|qK 1 0 O O (Nat) (fun k=>[(5,vI k)]) (fun k=>[]) (fun k=>k<=a.length/\(a.take k=b.take k)) (fun k=>a.length-k) ⟨0,⟨by omega,O⟩,Weak.mk [] ⟨H,H,H,T⟩ O⟩ ?_
  rintro k ⟨hk,hp⟩
  refine zJ<|G O<|F O<|F O<|qB O s<|yH O<|I<|zF O (fun c2=>?_) (fun c2=>?_)
  ·try simp only [R] at c2
   obtain ⟨x,hx⟩:=qW a k (by omega)
   obtain ⟨y,hy⟩:=qW b k (by omega)
   have hxw:=zDc (zZ hx)
   refine zI<|zJ<|zQ<|zJ<|qX 10 mixed (by kernel_rfl) O O<|M O O (zN O O)<|M O O (zN O O)<|M O O (qD O s O O (by omega) (N (by assumption)))<|M O O (zY O yY O qA O)<|M O O (zN O O)<|M O O (zN O O)<|M O O (qD O s O O (by omega) (N (by assumption)))<|M O O (zY O yY O qA O)<|M O O (qL O ok175 (base_Lin x y (by omega)) ⟨H,O,H,O,T⟩)<|M O O (kV O O)<|kB<|I<|zF O (fun c3=>?_) (fun c3=>?_)
   ·try simp only [R] at c3
    refine G O<|F O<|I<|o<|X O ?_
    rw [yJ (zEh hx hy c3)]
   ·try simp only [R] at c3
    refine zI<|zS O<|F O<|qH O ⟨by omega,by omega⟩<|F O<|I ?_
    refine ⟨k+1,⟨by omega,zBc hx hy hp c3⟩,(by omega),Weak.mk [] ⟨H,H,H,T⟩ O⟩
  ·try simp only [R] at c2
   refine qN<|G O<|F O<|I<|o<|X O ?_
   rw [wM (zDd hp (by omega) (by omega))]
theorem base_Index (a b:Ix) (ha:a.wt<=6000000000000):
    Pur cfg 174 [vIndex a,vIndex b] (vB (decide (a=b))):=by
 refine zR Tryz.func174 O Tryz.ntmps174 Tryz.results174 O ?_
 intro z hz
 have hw:=ha
 unfold Ix.wt at hw
 refine G O<|zU O O (qM O O) ?_
 rintro _ _ ⟨b1,rfl,rfl⟩
 refine zU O O (qM O O) ?_
 rintro _ _ ⟨b2,rfl,rfl⟩
 refine F O<|I<|G O<|zH O zEl<|zK one9 (Y 1 O) O<|zH O zEl<|zK one9 (Y 0 O) O<|zX O (yU O O O)<|F O<|rL0 O (fun g1_5=>zD O zEm O) O<|B 11 O (fun g1_5=>zY O yY O (Y 1 O) O) O<|rL0 O (fun g1_5=>zD O zEm O) O<|B 13 O (fun g1_5=>zY O yY O (Y 0 O) O) O<|rLz [(12,_),(14,_)] O gv1 ⟨O,O,O,O,T⟩ (fun g1_5=>qL O ok175 (base_Lin a.Lin b.Lin (by omega)) ⟨H,O,H,O,T⟩) O<|yQ O (fun h=>h)<|F O<|rL0 O (fun g1_12=>zD O zBa O) O<|B 18 O (fun g1_12=>Q O zEe O (Y 1 O) O) O<|rL0 O (fun g1_12=>zD O zBa O) O<|B 20 O (fun g1_12=>Q O zEe O (Y 0 O) O) O<|rLz [(19,_),(21,_)] O gv1 ⟨O,O,O,O,T⟩ (fun g1_12=>qL O ok197 (base_Lins a.At b.At (by omega) (by omega)) ⟨H,O,H,O,T⟩) O<|yQ O (fun h=>h)<|F O<|I<|o<|X O ?_
 exact congrArg vB (ix_eq a b)
theorem zOp (a b:List Ix) (ha:a.length<=6000000000000) (hw:idxWt a<=6000000000000):
    Pur cfg 140 [vIndices a,vIndices b] (vB (decide (a=b))):=by
 refine zR Tryz.func140 O Tryz.ntmps140 Tryz.results140 O ?_
 intro z hz
 refine G O<|F O<|I<|zJ<|G O<|F O<|qB O A<|F O<|qB O A<|yR O<|I<|zF O (fun c1=>?_) (fun c1=>?_)
 ·try simp only [R] at c1
  refine G O<|F O<|I<|o<|X O ?_
  rw [yJ (fun h=>c1 (by rw [h]))]
 ·try simp only [R] at c1
  refine zI<|zJ<|G O<|F O<|I<|zQ<|zW ⟨[(5,.c _),(0,.c _),(1,.c _)],[]⟩ (Weak.mk [] ⟨H,H,H,T⟩ O)<|qK 1 0 O O (Nat) (fun k=>[(5,vI k)]) (fun k=>[]) (fun k=>k<=a.length/\(a.take k=b.take k)) (fun k=>a.length-k) ⟨0,⟨by omega,O⟩,Weak.mk [] ⟨H,H,H,T⟩ O⟩ ?_
  rintro k ⟨hk,hp⟩
  refine zJ<|G O<|F O<|F O<|qB O A<|yH O<|I<|zF O (fun c2=>?_) (fun c2=>?_)
  ·try simp only [R] at c2
   obtain ⟨x,hx⟩:=qW a k (by omega)
   obtain ⟨y,hy⟩:=qW b k (by omega)
   have hxw:=zAw (zZ hx)
   refine zI<|zJ<|zQ<|zJ<|qX 10 mixed (by kernel_rfl) O O<|M O O (zN O O)<|M O O (zN O O)<|M O O (qD O A O O (by omega) (N (by assumption)))<|M O O (zY O zOa O qA O)<|M O O (zN O O)<|M O O (zN O O)<|M O O (qD O A O O (by omega) (N (by assumption)))<|M O O (zY O zOa O qA O)<|M O O (qL O ok174 (base_Index x y (by omega)) ⟨H,O,H,O,T⟩)<|M O O (kV O O)<|kB<|I<|zF O (fun c3=>?_) (fun c3=>?_)
   ·try simp only [R] at c3
    refine G O<|F O<|I<|o<|X O ?_
    rw [yJ (zEh hx hy c3)]
   ·try simp only [R] at c3
    refine zI<|zS O<|F O<|qH O ⟨by omega,by omega⟩<|F O<|I ?_
    refine ⟨k+1,⟨by omega,zBc hx hy hp c3⟩,(by omega),Weak.mk [] ⟨H,H,H,T⟩ O⟩
  ·try simp only [R] at c2
   refine qN<|G O<|F O<|I<|o<|X O ?_
   rw [wM (zDd hp (by omega) (by omega))]
theorem base_Exprs_of (a b:List Ex) (hE:∀x,x∈a->∀y,Pur cfg 141 [vE x,vE y] (vB (decide (x=y)))) (ha:a.length<=6000000000000):
    Pur cfg 176 [vEs a,vEs b] (vB (decide (a=b))):=by
 refine zR Tryz.func176 O Tryz.ntmps176 Tryz.results176 O ?_
 intro z hz
 refine G O<|F O<|I<|zJ<|G O<|F O<|qB O g<|F O<|qB O g<|yR O<|I<|zF O (fun c1=>?_) (fun c1=>?_)
 ·try simp only [R] at c1
  refine G O<|F O<|I<|o<|X O ?_
  rw [yJ (fun h=>c1 (by rw [h]))]
 ·try simp only [R] at c1
  refine zI<|zJ<|G O<|F O<|I<|zQ<|zW ⟨[(5,.c _),(0,.c _),(1,.c _)],[]⟩ (Weak.mk [] ⟨H,H,H,T⟩ O)<|qK 1 0 O O (Nat) (fun k=>[(5,vI k)]) (fun k=>[]) (fun k=>k<=a.length/\(a.take k=b.take k)) (fun k=>a.length-k) ⟨0,⟨by omega,O⟩,Weak.mk [] ⟨H,H,H,T⟩ O⟩ ?_
  rintro k ⟨hk,hp⟩
  refine zJ<|G O<|F O<|F O<|qB O g<|yH O<|I<|zF O (fun c2=>?_) (fun c2=>?_)
  ·try simp only [R] at c2
   obtain ⟨x,hx⟩:=qW a k (by omega)
   obtain ⟨y,hy⟩:=qW b k (by omega)
   refine zI<|zJ<|zQ<|zJ<|qX 10 mixed (by kernel_rfl) O O<|M O O (zN O O)<|M O O (zN O O)<|M O O (qD O g O O (by omega) (zCk (by assumption)))<|M O O (zY O yX O qA O)<|M O O (zN O O)<|M O O (zN O O)<|M O O (qD O g O O (by omega) (zCk (by assumption)))<|M O O (zY O yX O qA O)<|M O O (qL O ok141 (hE x (zZ hx) y) ⟨H,O,H,O,T⟩)<|M O O (kV O O)<|kB<|I<|zF O (fun c3=>?_) (fun c3=>?_)
   ·try simp only [R] at c3
    refine G O<|F O<|I<|o<|X O ?_
    rw [yJ (zEh hx hy c3)]
   ·try simp only [R] at c3
    refine zI<|zS O<|F O<|qH O ⟨by omega,by omega⟩<|F O<|I ?_
    refine ⟨k+1,⟨by omega,zBc hx hy hp c3⟩,(by omega),Weak.mk [] ⟨H,H,H,T⟩ O⟩
  ·try simp only [R] at c2
   refine qN<|G O<|F O<|I<|o<|X O ?_
   rw [wM (zDd hp (by omega) (by omega))]
theorem base_Expr_step (a:Ex) (ih:∀x,x∈a.Args->x.wt<=6000000000000->∀y,Pur cfg 141 [vE x,vE y] (vB (decide (x=y)))) (ha:a.wt<=6000000000000) (b:Ex):
    Pur cfg 141 [vE a,vE b] (vB (decide (a=b))):=by
 refine zR Tryz.func141 O Tryz.ntmps141 Tryz.results141 O ?_
 intro z hz
 obtain ⟨hL,hI,hA⟩:=a.parts ha
 have hw:=Ex.wt_eq a
 refine G O<|zU O O (qM O O) ?_
 rintro _ _ ⟨b1,rfl,rfl⟩
 refine zU O O (qM O O) ?_
 rintro _ _ ⟨b2,rfl,rfl⟩
 refine F O<|I<|G O<|zH O kQ<|zK J (Y 1 O) O<|zH O kQ<|zK J (Y 0 O) O<|yE O<|F O<|rL0 O (fun g1_5=>zD O zEt O) O<|B 11 O (fun g1_5=>Q O one9 O (Y 1 O) O) O<|rL0 O (fun g1_5=>zD O zEt O) O<|B 13 O (fun g1_5=>Q O one9 O (Y 0 O) O) O<|rLz [(12,_),(14,_)] O gv1 ⟨O,O,O,O,T⟩ (fun g1_5=>yU O O O) O<|yQ O (fun h=>h)<|F O<|rL0 O (fun g1_12=>zD O zKb O) O<|B 18 O (fun g1_12=>zY O agg36 O (Y 1 O) O) O<|rL0 O (fun g1_12=>zD O zKb O) O<|B 20 O (fun g1_12=>zY O agg36 O (Y 0 O) O) O<|rLz [(19,_),(21,_)] O gv1 ⟨O,O,O,O,T⟩ (fun g1_12=>det_aeql O fl36 O O O) O<|yQ O (fun h=>h)<|F O<|rL0 O (fun g1_19=>zD O zEs O) O<|B 25 O (fun g1_19=>zY O yK O (Y 1 O) O) O<|rL0 O (fun g1_19=>zD O zEs O) O<|B 27 O (fun g1_19=>zY O yK O (Y 0 O) O) O<|rLz [(26,_),(28,_)] O gv1 ⟨O,O,O,O,T⟩ (fun g1_19=>det_aeql O fl38 O O O) O<|yQ O (fun h=>h)<|F O<|rL0 O (fun g1_26=>zD O zCq O) O<|B 32 O (fun g1_26=>zY O yY O (Y 1 O) O) O<|rL0 O (fun g1_26=>zD O zCq O) O<|B 34 O (fun g1_26=>zY O yY O (Y 0 O) O) O<|rLz [(33,_),(35,_)] O gv1 ⟨O,O,O,O,T⟩ (fun g1_26=>qL O ok175 (base_Lin a.Lin b.Lin hL) ⟨H,O,H,O,T⟩) O<|yQ O (fun h=>h)<|F O<|rL0 O (fun g1_33=>zD O wA O) O<|B 39 O (fun g1_33=>Q O wR O (Y 1 O) O) O<|rL0 O (fun g1_33=>zD O wA O) O<|B 41 O (fun g1_33=>Q O wR O (Y 0 O) O) O<|rLz [(40,_),(42,_)] O gv1 ⟨O,O,O,O,T⟩ (fun g1_33=>qL O ok140 (zOp a.Idx b.Idx hI (by omega)) ⟨H,O,H,O,T⟩) O<|yQ O (fun h=>h)<|F O<|rL0 O (fun g1_40=>zD O kZ O) O<|B 46 O (fun g1_40=>Q O zAj O (Y 1 O) O) O<|rL0 O (fun g1_40=>zD O kZ O) O<|B 48 O (fun g1_40=>Q O zAj O (Y 0 O) O) O<|rLz [(47,_),(49,_)] O gv1 ⟨O,O,O,O,T⟩ (fun g1_40=>qL O ok176 (base_Exprs_of a.Args b.Args (fun x hx y=>ih x hx (by have:=Ex.arg_wt hx;omega) y) hA) ⟨H,O,H,O,T⟩) O<|yQ O (fun h=>h)<|F O<|I<|o<|X O ?_
 exact congrArg vB (ex_eq a b)
theorem base_Expr (a b:Ex) (ha:a.wt<=6000000000000):Pur cfg 141 [vE a,vE b] (vB (decide (a=b))):=by
  induction a using Ex.ind generalizing b with
  |_ a ih=>exact base_Expr_step a (fun x hx h y=>ih x hx y h) ha b
theorem zTm (e:Ex) (ih:∀a,a∈e.Args->∀(m:Nat) (x:Int),a.fit->m<=1000000->x=m->Pur cfg 77 [vE a,vI x] (vI (weighE a m))) (m:Nat) (x:Int) (hf:e.fit) (hm:m<=1000000) (hx:x=m):
    Pur cfg 77 [vE e,vI x] (vI (weighE e m)):=by
 refine zR Tryz.func77 O Tryz.ntmps77 Tryz.results77 O ?_
 intro z hz
 obtain ⟨f1,f2,f3,f4,f5⟩:=Ex.fit_eq hf
 have hW:=weighE_eq e m
 refine G O<|zU O O (qM O O) ?_
 rintro _ _ ⟨b1,rfl,rfl⟩
 refine F O<|I<|G O<|zH O zCq<|zH O kM<|zK wX (Y 0 O) O<|qB O U<|qH O ⟨by omega,by omega⟩<|zH O wA<|zK wR (Y 0 O) O<|qB O A<|qH O ⟨by omega,by omega⟩<|F O<|I<|zJ<|G O<|F O<|I<|zQ<|zW ⟨[(6,.c _),(5,.c _),(1,.c _),(2,.c _)],[_]⟩ (Weak.mk [true] ⟨H,H,H,H,T⟩ O) ?_
 refine qK 2 0 O O (Nat×Nat) (fun ⟨k,n⟩=>[(6,vI k),(5,vI n)]) (fun ⟨k,n⟩=>[]) (fun ⟨k,n⟩=>k<=e.Idx.length/\(n<=m+4*140737488355328)/\(weighIdx m (1+e.Lin.L.length+e.Idx.length) e.Idx=weighIdx m n (e.Idx.drop k))) (fun ⟨k,n⟩=>e.Idx.length-k) ⟨⟨0,1+e.Lin.L.length+e.Idx.length⟩,⟨by omega,by omega,O⟩,Weak.mk [true] ⟨H,VLe.of_eq (congrArg vI (by omega)),H,H,T⟩ O⟩ ?_
 rintro ⟨k,n⟩ ⟨hk,hn1,hn2⟩
 show AWP _ _ _ _ _ ⟨[(6,vI k),(5,vI n)]++_,[]++_⟩
 refine zJ<|G O<|F O<|zH O wA<|zK wR (Y 0 O) O<|qB O A<|yH O<|F O<|rL0 O (fun g3_5=>zN O O) O<|rL0 O (fun g3_5=>zN O O) O<|rLz [(24,_),(25,_)] O gv1 ⟨O,O,O,O,T⟩ (fun g3_5=>wQ O O O) O<|yQ O (fun h=>h)<|I<|zF O (fun c1=>?_) (fun c1=>?_)
 ·try simp only [R] at c1
  obtain ⟨y,hy⟩:=qW e.Idx k (by omega)
  obtain ⟨i1,i2,i3⟩:=f4 y (zZ hy)
  refine zI<|zJ<|zQ<|zJ<|qX 19 mixed (by kernel_rfl) O O<|M O O (zN O O)<|M O O (zD O wA O)<|M O O (Q O wR O (Y 0 O) O)<|M O O (zN O O)<|M O O (qD O A O O (by omega) (N (by assumption)))<|M O O (qI O zEm O)<|M O O (qI O kM O)<|M O O (Q O wX O qA O)<|M O O (yB O U O)<|M O O (zDf O O O ⟨by omega,by omega⟩)<|M O O (zD O wA O)<|M O O (Q O wR O (Y 0 O) O)<|M O O (zN O O)<|M O O (qD O A O O (by omega) (N (by assumption)))<|M O O (qI O zBa O)<|M O O (Q O zEe O qA O)<|M O O (yB O s O)<|M O O (zDf O O O ⟨by omega,by omega⟩)<|M O O (qY O O)<|kB<|I<|G O<|F O<|I<|zQ<|zW ⟨[(7,.c _),(5,.c _),(1,.c _),(2,.c _),(6,.c _)],[_]⟩ (Weak.mk [true] ⟨H,H,H,H,H,T⟩ O) ?_
  refine qK 2 0 O O (Nat×Nat) (fun ⟨j,p⟩=>[(7,vI j),(5,vI p)]) (fun ⟨j,p⟩=>[]) (fun ⟨j,p⟩=>j<=y.At.length/\(p<=m+4*140737488355328)/\(weighAt m (n+y.Lin.L.length+y.At.length) y.At=weighAt m p (y.At.drop j))) (fun ⟨j,p⟩=>y.At.length-j) ⟨⟨0,n+y.Lin.L.length+y.At.length⟩,⟨by omega,by omega,O⟩,Weak.mk [true] ⟨H,VLe.of_eq (congrArg vI (by omega)),H,H,H,T⟩ O⟩ ?_
  rintro ⟨j,p⟩ ⟨hj,hp1,hp2⟩
  show AWP _ _ _ _ _ ⟨[(7,vI j),(5,vI p)]++_,[]++_⟩
  refine zJ<|G O<|F O<|zH O wA<|zK wR (Y 0 O) O<|F O<|qC O A (by omega) (N (by assumption))<|qQ O zBa<|zK zEe qA O<|qB O s<|yH O<|F O<|rL0 O (fun g7_9=>zN O O) O<|rL0 O (fun g7_9=>zN O O) O<|rLz [(58,_),(59,_)] O gv1 ⟨O,O,O,O,T⟩ (fun g7_9=>wQ O O O) O<|yQ O (fun h=>h)<|I<|zF O (fun c2=>?_) (fun c2=>?_)
  ·try simp only [R] at c2
   obtain ⟨l,hl⟩:=qW y.At j (by omega)
   have hl2:=i3 l (zZ hl)
   refine zI<|zJ<|zQ<|zS O<|F O<|zH O wA<|zK wR (Y 0 O) O<|F O<|qC O A (by omega) (N (by assumption))<|qQ O zBa<|zK zEe qA O<|F O<|qC O s (by omega) (N (by assumption))<|qQ O kM<|zK wX qA O<|qB O U<|qH O ⟨by omega,by omega⟩<|F O<|I<|zS O<|F O<|qH O ⟨by omega,by omega⟩<|F O<|I ?_
   refine ⟨⟨j+1,p+l.L.length⟩,⟨by omega,by omega,by rw [hp2,qR hl,weighAt,if_pos (by omega)]⟩,(by show y.At.length-(j+1)<y.At.length-j;omega),Weak.mk [true] ⟨H,VLe.of_eq (congrArg vI (by omega)),H,H,H,T⟩ O⟩
  ·try simp only [R] at c2
   have hN2:=weighAt_end (l:=y.At) (k:=j) (n:=p) hx (by omega)
   refine qN<|zS O<|F O<|qH O ⟨by omega,by omega⟩<|F O<|I ?_
   refine ⟨⟨k+1,p⟩,⟨by omega,hp1,by rw [hn2,qR hy,weighIdx,if_pos (by omega),hp2,←hN2]⟩,(by show e.Idx.length-(k+1)<e.Idx.length-k;omega),Weak.mk [true] ⟨H,H,H,H,T⟩ O⟩
 ·try simp only [R] at c1
  have hN:=weighIdx_end (l:=e.Idx) (k:=k) (n:=n) hx (by omega)
  refine qN<|zJ<|G O<|F O<|I<|zQ<|zW ⟨[(8,.c _),(5,.c _),(1,.c _),(2,.c _)],[_]⟩ (Weak.mk [true] ⟨H,H,H,H,T⟩ O)<|qK 2 0 O O (Nat×Nat) (fun ⟨k,n⟩=>[(8,vI k),(5,vI n)]) (fun ⟨k,n⟩=>[]) (fun ⟨k,n⟩=>k<=e.Args.length/\(n<=m+4*140737488355328)/\(weighE e m=weighL (e.Args.drop k) m n)) (fun ⟨k,n⟩=>e.Args.length-k) ⟨⟨0,n⟩,⟨by omega,hn1,by rw [hW,hn2,←hN];rfl⟩,Weak.mk [true] ⟨H,H,H,H,T⟩ O⟩ ?_
  rintro ⟨k,n⟩ ⟨hk3,hn3,hn4⟩
  show AWP _ _ _ _ _ ⟨[(8,vI k),(5,vI n)]++_,[]++_⟩
  refine zJ<|G O<|F O<|zH O kZ<|zK zAj (Y 0 O) O<|qB O g<|yH O<|F O<|rL0 O (fun g11_5=>zN O O) O<|rL0 O (fun g11_5=>zN O O) O<|rLz [(83,_),(84,_)] O gv1 ⟨O,O,O,O,T⟩ (fun g11_5=>wQ O O O) O<|yQ O (fun h=>h)<|I<|zF O (fun c3=>?_) (fun c3=>?_)
  ·try simp only [R] at c3
   obtain ⟨a,ha⟩:=qW e.Args k (by omega)
   have hwa:=zFc a (m-n) (f5 a (zZ ha))
   refine zI<|zJ<|zQ<|zS O<|F O<|zH O kZ<|zK zAj (Y 0 O) O<|F O<|qC O g (by omega) (zCk (by assumption))<|zO yX qA O<|F O<|F O<|zX O (qZ O O O ⟨by omega,by omega⟩)<|qJ O ok77 (ih a (zZ ha) (m-n) _ (f5 a (zZ ha)) (by omega) (by omega)) ⟨H,O,H,O,T⟩<|qH O ⟨by omega,by omega⟩<|F O<|I<|zS O<|F O<|qH O ⟨by omega,by omega⟩<|F O<|I ?_
   refine ⟨⟨k+1,n+weighE a (m-n)⟩,⟨by omega,by omega,by rw [hn4,qR ha,weighL,if_pos (by omega)]⟩,(by show e.Args.length-(k+1)<e.Args.length-k;omega),Weak.mk [true] ⟨H,VLe.of_eq (congrArg vI (by omega)),H,H,T⟩ O⟩
  ·try simp only [R] at c3
   refine qN<|G O<|F O<|F O<|I<|o<|X O ?_
   exact congrArg vI (by rw [hn4,←weighL_end hx (by omega)])
theorem base_Weigh (e:Ex) (m:Nat) (x:Int) (hf:e.fit) (hm:m<=1000000) (hx:x=m):Pur cfg 77 [vE e,vI x] (vI (weighE e m)):=by
  induction e using Ex.ind generalizing m x with
  |_ e ih=>exact zTm e (fun a ha m x h1 h2 h3=>ih a ha m x h1 h2 h3) m x hf hm hx
theorem zMy (l:List Mono) (hl:l.length<=5864062014805):
    OwnR cfg 139 [vMonos l] 69 2 (l.map Mono.cells):=by
 refine zR Tryz.func139 O Tryz.ntmps139 Tryz.results139 O ?_
 intro z hz
 refine G O<|yA 2 O<|I<|zJ<|G O<|F O<|zU O O (zFl O U O O) ?_
 rintro _ _ ⟨nb1,rfl,hnil1,rfl⟩
 refine I<|zF O (fun c1=>?_) (fun c1=>?_)
 ·try simp only [R] at c1
  refine G O<|F O<|yN _ (kX 69 2)<|I<|o<|X O ?_
  exact ⟨_,O,by rw [hnil1 c1]⟩
 ·try simp only [R] at c1
  refine zI<|G O<|zU O O (zCy O U zr69 O O O O) ?_
  rintro _ _ ⟨sv3,rfl,rfl⟩
  refine F O<|zU O O (yD 0 O U O O O (by simp only [List.length_map,List.length_nil,Nat.zero_add];omega) (by simp only [List.length_map,List.length_nil,Nat.zero_add];omega)) ?_
  rintro _ _ ⟨sv4,rfl,rfl⟩
  refine F O<|I<|o<|X O ?_
  exact ⟨_,O,O⟩
theorem zOs (l:List Lf) (hl:l.length<=4294967296):
    OwnR cfg 134 [vLins l] 41 2 (l.map Lf.cells):=by
 refine zR Tryz.func134 O Tryz.ntmps134 Tryz.results134 O ?_
 intro z hz
 refine G O<|yA 2 O<|I<|zJ<|G O<|F O<|zU O O (zFl O s O O) ?_
 rintro _ _ ⟨nb1,rfl,hnil1,rfl⟩
 refine I<|zF O (fun c1=>?_) (fun c1=>?_)
 ·try simp only [R] at c1
  refine G O<|F O<|yN _ (kX 41 2)<|I<|o<|X O ?_
  exact ⟨_,O,by rw [hnil1 c1]⟩
 ·try simp only [R] at c1
  refine zI<|G O<|zU O O (zCy O s zr41 O O O O) ?_
  rintro _ _ ⟨sv3,rfl,rfl⟩
  refine F O<|zU O O (yD 0 O s O O O (by simp only [List.length_map,List.length_nil,Nat.zero_add];omega) (by simp only [List.length_map,List.length_nil,Nat.zero_add];omega)) ?_
  rintro _ _ ⟨sv4,rfl,rfl⟩
  refine F O<|I<|o<|X O ?_
  exact ⟨_,O,O⟩
theorem zRb (l:List Ix) (hl:l.length<=4294967296):
    OwnR cfg 133 [vIndices l] 72 4 (l.map Ix.cells):=by
 refine zR Tryz.func133 O Tryz.ntmps133 Tryz.results133 O ?_
 intro z hz
 refine G O<|yA 4 O<|I<|zJ<|G O<|F O<|zU O O (zFl O A O O) ?_
 rintro _ _ ⟨nb1,rfl,hnil1,rfl⟩
 refine I<|zF O (fun c1=>?_) (fun c1=>?_)
 ·try simp only [R] at c1
  refine G O<|F O<|yN _ (kX 72 4)<|I<|o<|X O ?_
  exact ⟨_,O,by rw [hnil1 c1]⟩
 ·try simp only [R] at c1
  refine zI<|G O<|zU O O (zCy O A zr72 O O O O) ?_
  rintro _ _ ⟨sv3,rfl,rfl⟩
  refine F O<|zU O O (yD 0 O A O O O (by simp only [List.length_map,List.length_nil,Nat.zero_add];omega) (by simp only [List.length_map,List.length_nil,Nat.zero_add];omega)) ?_
  rintro _ _ ⟨sv4,rfl,rfl⟩
  refine F O<|I<|o<|X O ?_
  exact ⟨_,O,O⟩
theorem zRc (l:List Ex) (hl:l.length<=4294967296):
    OwnR cfg 173 [vEs l] 44 13 (l.map Ex.cells):=by
 refine zR Tryz.func173 O Tryz.ntmps173 Tryz.results173 O ?_
 intro z hz
 refine G O<|yA 13 O<|I<|zJ<|G O<|F O<|zU O O (zFl O g O O) ?_
 rintro _ _ ⟨nb1,rfl,hnil1,rfl⟩
 refine I<|zF O (fun c1=>?_) (fun c1=>?_)
 ·try simp only [R] at c1
  refine G O<|F O<|yN _ (kX 44 13)<|I<|o<|X O ?_
  exact ⟨_,O,by rw [hnil1 c1]⟩
 ·try simp only [R] at c1
  refine zI<|G O<|zU O O (zCy O g zr44 O O O O) ?_
  rintro _ _ ⟨sv3,rfl,rfl⟩
  refine F O<|zU O O (yD 0 O g O O O (by simp only [List.length_map,List.length_nil,Nat.zero_add];omega) (by simp only [List.length_map,List.length_nil,Nat.zero_add];omega)) ?_
  rintro _ _ ⟨sv4,rfl,rfl⟩
  refine F O<|I<|o<|X O ?_
  exact ⟨_,O,O⟩
end Go.W
