/-
  Walks: what functions of the program compute. Printed by wip/gen/mk2.py.
  Conditions: none.
-/
import Derived.Test.YtlfjpejkoccibaaGreatDoorWD
import Derived.Test.YtlfjpejkoccibaaGreatDoorPlain
set_option linter.unusedSimpArgs false
set_option linter.unusedVariables false
set_option maxRecDepth 10000
namespace Go.W
open Go Go.Eng Go.Proofs Go.L41 Go.Br
attribute [local irreducible] AWP RWP TD finQ
theorem ok77:callOk Tryz.prog 77=true:=by kernel_rfl
theorem ok140:callOk Tryz.prog 140=true:=by kernel_rfl
theorem ok141:callOk Tryz.prog 141=true:=by kernel_rfl
theorem ok174:callOk Tryz.prog 174=true:=by kernel_rfl
theorem ok175:callOk Tryz.prog 175=true:=by kernel_rfl
theorem ok176:callOk Tryz.prog 176=true:=by kernel_rfl
theorem ok197:callOk Tryz.prog 197=true:=by kernel_rfl
theorem base_Lins (a b:List Lf) (ha:a.length<=6000000000000) (hw:linsWt a<=6000000000000):
    Pur cfg 197 [vLins a,vLins b] (vB (decide (a=b))):=by
 refine zQ Tryz.func197 O Tryz.ntmps197 Tryz.results197 O ?_
 intro z hz
 refine F O<|A O<|H<|zI<|F O<|A O<|qB O el70<|A O<|qB O el70<|yP O<|H<|zD O (fun c1=>?_) (fun c1=>?_)
 ·try simp only [I] at c1
  refine F O<|A O<|H<|o<|X O ?_
  rw [yL (fun h=>c1 (by rw [h]))]
 ·try simp only [I] at c1
  refine zH<|zI<|F O<|A O<|H<|zS<|zV ⟨[(5,.c _),(0,.c _),(1,.c _)],[]⟩ (Weak.mk [] ⟨G,G,G,T⟩ O)<|qO 1 0 O O (Nat) (fun k=>[(5,vI k)]) (fun k=>[]) (fun k=>k<=a.length/\(a.take k=b.take k)) (fun k=>a.length-k) ⟨0,⟨by omega,O⟩,Weak.mk [] ⟨G,G,G,T⟩ O⟩ ?_
  rintro k ⟨hk,hp⟩
  refine zI<|F O<|A O<|A O<|qB O el70<|yN O<|H<|zD O (fun c2=>?_) (fun c2=>?_)
  ·try simp only [I] at c2
   obtain ⟨x,hx⟩:=qZ a k (by omega)
   obtain ⟨y,hy⟩:=qZ b k (by omega)
   have hxw:=zDo (zZ hx)
   refine zH<|zI<|zS<|zI<|qY 10 mixed (by kernel_rfl) O O<|Y O O (w O O)<|Y O O (w O O)<|Y O O (qE O el70 O O (by omega) (v (by assumption)))<|Y O O (zX O kE O qA O)<|Y O O (w O O)<|Y O O (w O O)<|Y O O (qE O el70 O O (by omega) (v (by assumption)))<|Y O O (zX O kE O qA O)<|Y O O (qI O ok175 (base_Lin x y (by omega)) ⟨G,O,G,O,T⟩)<|Y O O (wC O O)<|kH<|H<|zD O (fun c3=>?_) (fun c3=>?_)
   ·try simp only [I] at c3
    refine F O<|A O<|H<|o<|X O ?_
    rw [yL (zDs hx hy c3)]
   ·try simp only [I] at c3
    refine zH<|zT O<|A O<|qK O ⟨by omega,by omega⟩<|A O<|H ?_
    refine ⟨k+1,⟨by omega,zAl hx hy hp c3⟩,(by omega),Weak.mk [] ⟨G,G,G,T⟩ O⟩
  ·try simp only [I] at c2
   refine qQ<|F O<|A O<|H<|o<|X O ?_
   rw [wQ (zCr hp (by omega) (by omega))]
theorem base_Index (a b:Ix) (ha:a.wt<=6000000000000):
    Pur cfg 174 [vIndex a,vIndex b] (vB (decide (a=b))):=by
 refine zQ Tryz.func174 O Tryz.ntmps174 Tryz.results174 O ?_
 intro z hz
 have hw:=ha
 unfold Ix.wt at hw
 refine F O<|zU O O (qL O O) ?_
 rintro _ _ ⟨b1,rfl,rfl⟩
 refine zU O O (qL O O) ?_
 rintro _ _ ⟨b2,rfl,rfl⟩
 refine A O<|H<|F O<|zJ O zKr<|zK one9 (R 1 O) O<|zJ O zKr<|zK one9 (R 0 O) O<|zR O (yM O O O)<|A O<|M O (fun g1_5=>zE O zHh O) O<|B 11 O (fun g1_5=>zX O kE O (R 1 O) O) O<|M O (fun g1_5=>zE O zHh O) O<|B 13 O (fun g1_5=>zX O kE O (R 0 O) O) O<|rLz [(12,_),(14,_)] O gv1 ⟨O,O,O,O,T⟩ (fun g1_5=>qI O ok175 (base_Lin a.Lin b.Lin (by omega)) ⟨G,O,G,O,T⟩) O<|kD O (fun h=>h)<|A O<|M O (fun g1_12=>zE O zCk O) O<|B 18 O (fun g1_12=>Q O zGy O (R 1 O) O) O<|M O (fun g1_12=>zE O zCk O) O<|B 20 O (fun g1_12=>Q O zGy O (R 0 O) O) O<|rLz [(19,_),(21,_)] O gv1 ⟨O,O,O,O,T⟩ (fun g1_12=>qI O ok197 (base_Lins a.At b.At (by omega) (by omega)) ⟨G,O,G,O,T⟩) O<|kD O (fun h=>h)<|A O<|H<|o<|X O ?_
 exact congrArg vB (ix_eq a b)
theorem zNc (a b:List Ix) (ha:a.length<=6000000000000) (hw:idxWt a<=6000000000000):
    Pur cfg 140 [vIndices a,vIndices b] (vB (decide (a=b))):=by
 refine zQ Tryz.func140 O Tryz.ntmps140 Tryz.results140 O ?_
 intro z hz
 refine F O<|A O<|H<|zI<|F O<|A O<|qB O g<|A O<|qB O g<|yP O<|H<|zD O (fun c1=>?_) (fun c1=>?_)
 ·try simp only [I] at c1
  refine F O<|A O<|H<|o<|X O ?_
  rw [yL (fun h=>c1 (by rw [h]))]
 ·try simp only [I] at c1
  refine zH<|zI<|F O<|A O<|H<|zS<|zV ⟨[(5,.c _),(0,.c _),(1,.c _)],[]⟩ (Weak.mk [] ⟨G,G,G,T⟩ O)<|qO 1 0 O O (Nat) (fun k=>[(5,vI k)]) (fun k=>[]) (fun k=>k<=a.length/\(a.take k=b.take k)) (fun k=>a.length-k) ⟨0,⟨by omega,O⟩,Weak.mk [] ⟨G,G,G,T⟩ O⟩ ?_
  rintro k ⟨hk,hp⟩
  refine zI<|F O<|A O<|A O<|qB O g<|yN O<|H<|zD O (fun c2=>?_) (fun c2=>?_)
  ·try simp only [I] at c2
   obtain ⟨x,hx⟩:=qZ a k (by omega)
   obtain ⟨y,hy⟩:=qZ b k (by omega)
   have hxw:=zAp (zZ hx)
   refine zH<|zI<|zS<|zI<|qY 10 mixed (by kernel_rfl) O O<|Y O O (w O O)<|Y O O (w O O)<|Y O O (qE O g O O (by omega) (v (by assumption)))<|Y O O (zX O zNl O qA O)<|Y O O (w O O)<|Y O O (w O O)<|Y O O (qE O g O O (by omega) (v (by assumption)))<|Y O O (zX O zNl O qA O)<|Y O O (qI O ok174 (base_Index x y (by omega)) ⟨G,O,G,O,T⟩)<|Y O O (wC O O)<|kH<|H<|zD O (fun c3=>?_) (fun c3=>?_)
   ·try simp only [I] at c3
    refine F O<|A O<|H<|o<|X O ?_
    rw [yL (zDs hx hy c3)]
   ·try simp only [I] at c3
    refine zH<|zT O<|A O<|qK O ⟨by omega,by omega⟩<|A O<|H ?_
    refine ⟨k+1,⟨by omega,zAl hx hy hp c3⟩,(by omega),Weak.mk [] ⟨G,G,G,T⟩ O⟩
  ·try simp only [I] at c2
   refine qQ<|F O<|A O<|H<|o<|X O ?_
   rw [wQ (zCr hp (by omega) (by omega))]
theorem base_Exprs_of (a b:List Ex) (hE:∀x,x∈a->∀y,Pur cfg 141 [vE x,vE y] (vB (decide (x=y)))) (ha:a.length<=6000000000000):
    Pur cfg 176 [vEs a,vEs b] (vB (decide (a=b))):=by
 refine zQ Tryz.func176 O Tryz.ntmps176 Tryz.results176 O ?_
 intro z hz
 refine F O<|A O<|H<|zI<|F O<|A O<|qB O el42<|A O<|qB O el42<|yP O<|H<|zD O (fun c1=>?_) (fun c1=>?_)
 ·try simp only [I] at c1
  refine F O<|A O<|H<|o<|X O ?_
  rw [yL (fun h=>c1 (by rw [h]))]
 ·try simp only [I] at c1
  refine zH<|zI<|F O<|A O<|H<|zS<|zV ⟨[(5,.c _),(0,.c _),(1,.c _)],[]⟩ (Weak.mk [] ⟨G,G,G,T⟩ O)<|qO 1 0 O O (Nat) (fun k=>[(5,vI k)]) (fun k=>[]) (fun k=>k<=a.length/\(a.take k=b.take k)) (fun k=>a.length-k) ⟨0,⟨by omega,O⟩,Weak.mk [] ⟨G,G,G,T⟩ O⟩ ?_
  rintro k ⟨hk,hp⟩
  refine zI<|F O<|A O<|A O<|qB O el42<|yN O<|H<|zD O (fun c2=>?_) (fun c2=>?_)
  ·try simp only [I] at c2
   obtain ⟨x,hx⟩:=qZ a k (by omega)
   obtain ⟨y,hy⟩:=qZ b k (by omega)
   refine zH<|zI<|zS<|zI<|qY 10 mixed (by kernel_rfl) O O<|Y O O (w O O)<|Y O O (w O O)<|Y O O (qE O el42 O O (by omega) (zIh (by assumption)))<|Y O O (zX O kL O qA O)<|Y O O (w O O)<|Y O O (w O O)<|Y O O (qE O el42 O O (by omega) (zIh (by assumption)))<|Y O O (zX O kL O qA O)<|Y O O (qI O ok141 (hE x (zZ hx) y) ⟨G,O,G,O,T⟩)<|Y O O (wC O O)<|kH<|H<|zD O (fun c3=>?_) (fun c3=>?_)
   ·try simp only [I] at c3
    refine F O<|A O<|H<|o<|X O ?_
    rw [yL (zDs hx hy c3)]
   ·try simp only [I] at c3
    refine zH<|zT O<|A O<|qK O ⟨by omega,by omega⟩<|A O<|H ?_
    refine ⟨k+1,⟨by omega,zAl hx hy hp c3⟩,(by omega),Weak.mk [] ⟨G,G,G,T⟩ O⟩
  ·try simp only [I] at c2
   refine qQ<|F O<|A O<|H<|o<|X O ?_
   rw [wQ (zCr hp (by omega) (by omega))]
theorem base_Expr_step (a:Ex) (ih:∀x,x∈a.Args->x.wt<=6000000000000->∀y,Pur cfg 141 [vE x,vE y] (vB (decide (x=y)))) (ha:a.wt<=6000000000000) (b:Ex):
    Pur cfg 141 [vE a,vE b] (vB (decide (a=b))):=by
 refine zQ Tryz.func141 O Tryz.ntmps141 Tryz.results141 O ?_
 intro z hz
 obtain ⟨hL,hI,hA⟩:=a.parts ha
 have hw:=Ex.wt_eq a
 refine F O<|zU O O (qL O O) ?_
 rintro _ _ ⟨b1,rfl,rfl⟩
 refine zU O O (qL O O) ?_
 rintro _ _ ⟨b2,rfl,rfl⟩
 refine A O<|H<|F O<|zJ O wT<|zK J (R 1 O) O<|zJ O wT<|zK J (R 0 O) O<|yZ O<|A O<|M O (fun g1_5=>zE O zKu O) O<|B 11 O (fun g1_5=>Q O one9 O (R 1 O) O) O<|M O (fun g1_5=>zE O zKu O) O<|B 13 O (fun g1_5=>Q O one9 O (R 0 O) O) O<|rLz [(12,_),(14,_)] O gv1 ⟨O,O,O,O,T⟩ (fun g1_5=>yM O O O) O<|kD O (fun h=>h)<|A O<|M O (fun g1_12=>zE O zMy O) O<|B 18 O (fun g1_12=>zX O agg36 O (R 1 O) O) O<|M O (fun g1_12=>zE O zMy O) O<|B 20 O (fun g1_12=>zX O agg36 O (R 0 O) O) O<|rLz [(19,_),(21,_)] O gv1 ⟨O,O,O,O,T⟩ (fun g1_12=>det_aeql O fl36 O O O) O<|kD O (fun h=>h)<|A O<|M O (fun g1_19=>zE O zKt O) O<|B 25 O (fun g1_19=>zX O yR O (R 1 O) O) O<|M O (fun g1_19=>zE O zKt O) O<|B 27 O (fun g1_19=>zX O yR O (R 0 O) O) O<|rLz [(26,_),(28,_)] O gv1 ⟨O,O,O,O,T⟩ (fun g1_19=>det_aeql O fl38 O O O) O<|kD O (fun h=>h)<|A O<|M O (fun g1_26=>zE O zEv O) O<|B 32 O (fun g1_26=>zX O kE O (R 1 O) O) O<|M O (fun g1_26=>zE O zEv O) O<|B 34 O (fun g1_26=>zX O kE O (R 0 O) O) O<|rLz [(33,_),(35,_)] O gv1 ⟨O,O,O,O,T⟩ (fun g1_26=>qI O ok175 (base_Lin a.Lin b.Lin hL) ⟨G,O,G,O,T⟩) O<|kD O (fun h=>h)<|A O<|M O (fun g1_33=>zE O zAw O) O<|B 39 O (fun g1_33=>Q O zBn O (R 1 O) O) O<|M O (fun g1_33=>zE O zAw O) O<|B 41 O (fun g1_33=>Q O zBn O (R 0 O) O) O<|rLz [(40,_),(42,_)] O gv1 ⟨O,O,O,O,T⟩ (fun g1_33=>qI O ok140 (zNc a.Idx b.Idx hI (by omega)) ⟨G,O,G,O,T⟩) O<|kD O (fun h=>h)<|A O<|M O (fun g1_40=>zE O zAv O) O<|B 46 O (fun g1_40=>Q O zEh O (R 1 O) O) O<|M O (fun g1_40=>zE O zAv O) O<|B 48 O (fun g1_40=>Q O zEh O (R 0 O) O) O<|rLz [(47,_),(49,_)] O gv1 ⟨O,O,O,O,T⟩ (fun g1_40=>qI O ok176 (base_Exprs_of a.Args b.Args (fun x hx y=>ih x hx (by have:=Ex.arg_wt hx;omega) y) hA) ⟨G,O,G,O,T⟩) O<|kD O (fun h=>h)<|A O<|H<|o<|X O ?_
 exact congrArg vB (ex_eq a b)
theorem base_Expr (a b:Ex) (ha:a.wt<=6000000000000):Pur cfg 141 [vE a,vE b] (vB (decide (a=b))):=by
  induction a using Ex.ind generalizing b with
  |_ a ih=>exact base_Expr_step a (fun x hx h y=>ih x hx y h) ha b
theorem zRh (e:Ex) (ih:∀a,a∈e.Args->∀(m:Nat) (x:Int),a.fit->m<=1000000->x=m->Pur cfg 77 [vE a,vI x] (vI (weighE a m))) (m:Nat) (x:Int) (hf:e.fit) (hm:m<=1000000) (hx:x=m):
    Pur cfg 77 [vE e,vI x] (vI (weighE e m)):=by
 refine zQ Tryz.func77 O Tryz.ntmps77 Tryz.results77 O ?_
 intro z hz
 obtain ⟨f1,f2,f3,f4,f5⟩:=Ex.fit_eq hf
 have hW:=weighE_eq e m
 refine F O<|zU O O (qL O O) ?_
 rintro _ _ ⟨b1,rfl,rfl⟩
 refine A O<|H<|F O<|zJ O zEv<|zJ O wU<|zK zDl (R 0 O) O<|qB O P<|qK O ⟨by omega,by omega⟩<|zJ O zAw<|zK zBn (R 0 O) O<|qB O g<|qK O ⟨by omega,by omega⟩<|A O<|H<|zI<|F O<|A O<|H<|zS<|zV ⟨[(6,.c _),(5,.c _),(1,.c _),(2,.c _)],[_]⟩ (Weak.mk [true] ⟨G,G,G,G,T⟩ O) ?_
 refine qO 2 0 O O (Nat×Nat) (fun ⟨k,n⟩=>[(6,vI k),(5,vI n)]) (fun ⟨k,n⟩=>[]) (fun ⟨k,n⟩=>k<=e.Idx.length/\(n<=m+4*140737488355328)/\(weighIdx m (1+e.Lin.L.length+e.Idx.length) e.Idx=weighIdx m n (e.Idx.drop k))) (fun ⟨k,n⟩=>e.Idx.length-k) ⟨⟨0,1+e.Lin.L.length+e.Idx.length⟩,⟨by omega,by omega,O⟩,Weak.mk [true] ⟨G,VLe.of_eq (congrArg vI (by omega)),G,G,T⟩ O⟩ ?_
 rintro ⟨k,n⟩ ⟨hk,hn1,hn2⟩
 show AWP _ _ _ _ _ ⟨[(6,vI k),(5,vI n)]++_,[]++_⟩
 refine zI<|F O<|A O<|zJ O zAw<|zK zBn (R 0 O) O<|qB O g<|yN O<|A O<|M O (fun g3_5=>w O O) O<|M O (fun g3_5=>w O O) O<|rLz [(24,_),(25,_)] O gv1 ⟨O,O,O,O,T⟩ (fun g3_5=>wV O O O) O<|kD O (fun h=>h)<|H<|zD O (fun c1=>?_) (fun c1=>?_)
 ·try simp only [I] at c1
  obtain ⟨y,hy⟩:=qZ e.Idx k (by omega)
  obtain ⟨i1,i2,i3⟩:=f4 y (zZ hy)
  refine zH<|zI<|zS<|zI<|qY 19 mixed (by kernel_rfl) O O<|Y O O (w O O)<|Y O O (zE O zAw O)<|Y O O (Q O zBn O (R 0 O) O)<|Y O O (w O O)<|Y O O (qE O g O O (by omega) (v (by assumption)))<|Y O O (qJ O zHh O)<|Y O O (qJ O wU O)<|Y O O (Q O zDl O qA O)<|Y O O (yE O P O)<|Y O O (zCt O O O ⟨by omega,by omega⟩)<|Y O O (zE O zAw O)<|Y O O (Q O zBn O (R 0 O) O)<|Y O O (w O O)<|Y O O (qE O g O O (by omega) (v (by assumption)))<|Y O O (qJ O zCk O)<|Y O O (Q O zGy O qA O)<|Y O O (yE O el70 O)<|Y O O (zCt O O O ⟨by omega,by omega⟩)<|Y O O (yC O O)<|kH<|H<|F O<|A O<|H<|zS<|zV ⟨[(7,.c _),(5,.c _),(1,.c _),(2,.c _),(6,.c _)],[_]⟩ (Weak.mk [true] ⟨G,G,G,G,G,T⟩ O) ?_
  refine qO 2 0 O O (Nat×Nat) (fun ⟨j,p⟩=>[(7,vI j),(5,vI p)]) (fun ⟨j,p⟩=>[]) (fun ⟨j,p⟩=>j<=y.At.length/\(p<=m+4*140737488355328)/\(weighAt m (n+y.Lin.L.length+y.At.length) y.At=weighAt m p (y.At.drop j))) (fun ⟨j,p⟩=>y.At.length-j) ⟨⟨0,n+y.Lin.L.length+y.At.length⟩,⟨by omega,by omega,O⟩,Weak.mk [true] ⟨G,VLe.of_eq (congrArg vI (by omega)),G,G,G,T⟩ O⟩ ?_
  rintro ⟨j,p⟩ ⟨hj,hp1,hp2⟩
  show AWP _ _ _ _ _ ⟨[(7,vI j),(5,vI p)]++_,[]++_⟩
  refine zI<|F O<|A O<|zJ O zAw<|zK zBn (R 0 O) O<|A O<|qD O g (by omega) (v (by assumption))<|qS O zCk<|zK zGy qA O<|qB O el70<|yN O<|A O<|M O (fun g7_9=>w O O) O<|M O (fun g7_9=>w O O) O<|rLz [(58,_),(59,_)] O gv1 ⟨O,O,O,O,T⟩ (fun g7_9=>wV O O O) O<|kD O (fun h=>h)<|H<|zD O (fun c2=>?_) (fun c2=>?_)
  ·try simp only [I] at c2
   obtain ⟨l,hl⟩:=qZ y.At j (by omega)
   have hl2:=i3 l (zZ hl)
   refine zH<|zI<|zS<|zT O<|A O<|zJ O zAw<|zK zBn (R 0 O) O<|A O<|qD O g (by omega) (v (by assumption))<|qS O zCk<|zK zGy qA O<|A O<|qD O el70 (by omega) (v (by assumption))<|qS O wU<|zK zDl qA O<|qB O P<|qK O ⟨by omega,by omega⟩<|A O<|H<|zT O<|A O<|qK O ⟨by omega,by omega⟩<|A O<|H ?_
   refine ⟨⟨j+1,p+l.L.length⟩,⟨by omega,by omega,by rw [hp2,qP hl,weighAt,if_pos (by omega)]⟩,(by show y.At.length-(j+1)<y.At.length-j;omega),Weak.mk [true] ⟨G,VLe.of_eq (congrArg vI (by omega)),G,G,G,T⟩ O⟩
  ·try simp only [I] at c2
   have hN2:=weighAt_end (l:=y.At) (k:=j) (n:=p) hx (by omega)
   refine qQ<|zT O<|A O<|qK O ⟨by omega,by omega⟩<|A O<|H ?_
   refine ⟨⟨k+1,p⟩,⟨by omega,hp1,by rw [hn2,qP hy,weighIdx,if_pos (by omega),hp2,←hN2]⟩,(by show e.Idx.length-(k+1)<e.Idx.length-k;omega),Weak.mk [true] ⟨G,G,G,G,T⟩ O⟩
 ·try simp only [I] at c1
  have hN:=weighIdx_end (l:=e.Idx) (k:=k) (n:=n) hx (by omega)
  refine qQ<|zI<|F O<|A O<|H<|zS<|zV ⟨[(8,.c _),(5,.c _),(1,.c _),(2,.c _)],[_]⟩ (Weak.mk [true] ⟨G,G,G,G,T⟩ O)<|qO 2 0 O O (Nat×Nat) (fun ⟨k,n⟩=>[(8,vI k),(5,vI n)]) (fun ⟨k,n⟩=>[]) (fun ⟨k,n⟩=>k<=e.Args.length/\(n<=m+4*140737488355328)/\(weighE e m=weighL (e.Args.drop k) m n)) (fun ⟨k,n⟩=>e.Args.length-k) ⟨⟨0,n⟩,⟨by omega,hn1,by rw [hW,hn2,←hN];rfl⟩,Weak.mk [true] ⟨G,G,G,G,T⟩ O⟩ ?_
  rintro ⟨k,n⟩ ⟨hk3,hn3,hn4⟩
  show AWP _ _ _ _ _ ⟨[(8,vI k),(5,vI n)]++_,[]++_⟩
  refine zI<|F O<|A O<|zJ O zAv<|zK zEh (R 0 O) O<|qB O el42<|yN O<|A O<|M O (fun g11_5=>w O O) O<|M O (fun g11_5=>w O O) O<|rLz [(83,_),(84,_)] O gv1 ⟨O,O,O,O,T⟩ (fun g11_5=>wV O O O) O<|kD O (fun h=>h)<|H<|zD O (fun c3=>?_) (fun c3=>?_)
  ·try simp only [I] at c3
   obtain ⟨a,ha⟩:=qZ e.Args k (by omega)
   have hwa:=zEk a (m-n) (f5 a (zZ ha))
   refine zH<|zI<|zS<|zT O<|A O<|zJ O zAv<|zK zEh (R 0 O) O<|A O<|qD O el42 (by omega) (zIh (by assumption))<|zO kL qA O<|A O<|A O<|zR O (yB O O O ⟨by omega,by omega⟩)<|qG O ok77 (ih a (zZ ha) (m-n) _ (f5 a (zZ ha)) (by omega) (by omega)) ⟨G,O,G,O,T⟩<|qK O ⟨by omega,by omega⟩<|A O<|H<|zT O<|A O<|qK O ⟨by omega,by omega⟩<|A O<|H ?_
   refine ⟨⟨k+1,n+weighE a (m-n)⟩,⟨by omega,by omega,by rw [hn4,qP ha,weighL,if_pos (by omega)]⟩,(by show e.Args.length-(k+1)<e.Args.length-k;omega),Weak.mk [true] ⟨G,VLe.of_eq (congrArg vI (by omega)),G,G,T⟩ O⟩
  ·try simp only [I] at c3
   refine qQ<|F O<|A O<|A O<|H<|o<|X O ?_
   exact congrArg vI (by rw [hn4,←weighL_end hx (by omega)])
theorem base_Weigh (e:Ex) (m:Nat) (x:Int) (hf:e.fit) (hm:m<=1000000) (hx:x=m):Pur cfg 77 [vE e,vI x] (vI (weighE e m)):=by
  induction e using Ex.ind generalizing m x with
  |_ e ih=>exact zRh e (fun a ha m x h1 h2 h3=>ih a ha m x h1 h2 h3) m x hf hm hx
theorem zLu (l:List Mono) (hl:l.length<=5864062014805):
    OwnR cfg 139 [vMonos l] 69 2 (l.map Mono.cells):=by
 refine zQ Tryz.func139 O Tryz.ntmps139 Tryz.results139 O ?_
 intro z hz
 refine F O<|qX 2 O<|H<|zI<|F O<|A O<|zU O O (zEp O P O O) ?_
 rintro _ _ ⟨nb1,rfl,hnil1,rfl⟩
 refine H<|zD O (fun c1=>?_) (fun c1=>?_)
 ·try simp only [I] at c1
  refine F O<|A O<|yJ _ (wL 69 2)<|H<|o<|X O ?_
  exact ⟨_,O,by rw [hnil1 c1]⟩
 ·try simp only [I] at c1
  refine zH<|F O<|zU O O (zCm O P zr69 O O O O) ?_
  rintro _ _ ⟨sv3,rfl,rfl⟩
  refine A O<|zU O O (yU 0 O P O O O (by simp only [List.length_map,List.length_nil,Nat.zero_add];omega) (by simp only [List.length_map,List.length_nil,Nat.zero_add];omega)) ?_
  rintro _ _ ⟨sv4,rfl,rfl⟩
  refine A O<|H<|o<|X O ?_
  exact ⟨_,O,O⟩
theorem zNg (l:List Lf) (hl:l.length<=4294967296):
    OwnR cfg 134 [vLins l] 41 2 (l.map Lf.cells):=by
 refine zQ Tryz.func134 O Tryz.ntmps134 Tryz.results134 O ?_
 intro z hz
 refine F O<|qX 2 O<|H<|zI<|F O<|A O<|zU O O (zEp O el70 O O) ?_
 rintro _ _ ⟨nb1,rfl,hnil1,rfl⟩
 refine H<|zD O (fun c1=>?_) (fun c1=>?_)
 ·try simp only [I] at c1
  refine F O<|A O<|yJ _ (wL 41 2)<|H<|o<|X O ?_
  exact ⟨_,O,by rw [hnil1 c1]⟩
 ·try simp only [I] at c1
  refine zH<|F O<|zU O O (zCm O el70 zr41 O O O O) ?_
  rintro _ _ ⟨sv3,rfl,rfl⟩
  refine A O<|zU O O (yU 0 O el70 O O O (by simp only [List.length_map,List.length_nil,Nat.zero_add];omega) (by simp only [List.length_map,List.length_nil,Nat.zero_add];omega)) ?_
  rintro _ _ ⟨sv4,rfl,rfl⟩
  refine A O<|H<|o<|X O ?_
  exact ⟨_,O,O⟩
theorem zPb (l:List Ix) (hl:l.length<=4294967296):
    OwnR cfg 133 [vIndices l] 72 4 (l.map Ix.cells):=by
 refine zQ Tryz.func133 O Tryz.ntmps133 Tryz.results133 O ?_
 intro z hz
 refine F O<|qX 4 O<|H<|zI<|F O<|A O<|zU O O (zEp O g O O) ?_
 rintro _ _ ⟨nb1,rfl,hnil1,rfl⟩
 refine H<|zD O (fun c1=>?_) (fun c1=>?_)
 ·try simp only [I] at c1
  refine F O<|A O<|yJ _ (wL 72 4)<|H<|o<|X O ?_
  exact ⟨_,O,by rw [hnil1 c1]⟩
 ·try simp only [I] at c1
  refine zH<|F O<|zU O O (zCm O g zr72 O O O O) ?_
  rintro _ _ ⟨sv3,rfl,rfl⟩
  refine A O<|zU O O (yU 0 O g O O O (by simp only [List.length_map,List.length_nil,Nat.zero_add];omega) (by simp only [List.length_map,List.length_nil,Nat.zero_add];omega)) ?_
  rintro _ _ ⟨sv4,rfl,rfl⟩
  refine A O<|H<|o<|X O ?_
  exact ⟨_,O,O⟩
theorem zPc (l:List Ex) (hl:l.length<=4294967296):
    OwnR cfg 173 [vEs l] 44 13 (l.map Ex.cells):=by
 refine zQ Tryz.func173 O Tryz.ntmps173 Tryz.results173 O ?_
 intro z hz
 refine F O<|qX 13 O<|H<|zI<|F O<|A O<|zU O O (zEp O el42 O O) ?_
 rintro _ _ ⟨nb1,rfl,hnil1,rfl⟩
 refine H<|zD O (fun c1=>?_) (fun c1=>?_)
 ·try simp only [I] at c1
  refine F O<|A O<|yJ _ (wL 44 13)<|H<|o<|X O ?_
  exact ⟨_,O,by rw [hnil1 c1]⟩
 ·try simp only [I] at c1
  refine zH<|F O<|zU O O (zCm O el42 zr44 O O O O) ?_
  rintro _ _ ⟨sv3,rfl,rfl⟩
  refine A O<|zU O O (yU 0 O el42 O O O (by simp only [List.length_map,List.length_nil,Nat.zero_add];omega) (by simp only [List.length_map,List.length_nil,Nat.zero_add];omega)) ?_
  rintro _ _ ⟨sv4,rfl,rfl⟩
  refine A O<|H<|o<|X O ?_
  exact ⟨_,O,O⟩
end Go.W
