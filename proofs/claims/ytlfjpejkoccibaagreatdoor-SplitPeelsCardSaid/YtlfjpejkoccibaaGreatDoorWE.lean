/-
  Walks: what functions of the program compute. Printed by wip/gen/mk2.py.
  Conditions: none.
-/
import Derived.Test.YtlfjpejkoccibaaGreatDoorWD
import Derived.Test.YtlfjpejkoccibaaGreatDoorPlain
set_option linter.unusedSimpArgs false
set_option linter.unusedVariables false
set_option maxRecDepth 10000
namespace Go.W
open Go Go.Eng Go.Proofs Go.L41 Go.Br
attribute [local irreducible] AWP RWP TD finQ
theorem ok77:callOk Tryz.prog 77=true:=by kernel_rfl
theorem ok140:callOk Tryz.prog 140=true:=by kernel_rfl
theorem ok141:callOk Tryz.prog 141=true:=by kernel_rfl
theorem ok174:callOk Tryz.prog 174=true:=by kernel_rfl
theorem ok175:callOk Tryz.prog 175=true:=by kernel_rfl
theorem ok176:callOk Tryz.prog 176=true:=by kernel_rfl
theorem ok197:callOk Tryz.prog 197=true:=by kernel_rfl
theorem base_Lins (a b:List Lf) (ha:a.length<=6000000000000) (hw:linsWt a<=6000000000000):
    Pur cfg 197 [vLins a,vLins b] (vB (decide (a=b))):=by
 refine zT Tryz.func197 O Tryz.ntmps197 Tryz.results197 O ?_
 intro z hz
 refine F O<|A O<|G<|zJ<|F O<|A O<|qC O el70<|A O<|qC O el70<|yN O<|G<|zD O (fun c1=>?_) (fun c1=>?_)
 ·try simp only [I] at c1
  refine F O<|A O<|G<|o<|X O ?_
  rw [yQ (fun h=>c1 (by rw [h]))]
 ·try simp only [I] at c1
  refine zK<|zJ<|F O<|A O<|G<|zR<|zY ⟨[(5,.c _),(0,.c _),(1,.c _)],[]⟩ (Weak.mk [] ⟨H,H,H,T⟩ O)<|qK 1 0 O O (Nat) (fun k=>[(5,vI k)]) (fun k=>[]) (fun k=>k<=a.length/\(a.take k=b.take k)) (fun k=>a.length-k) ⟨0,⟨by omega,O⟩,Weak.mk [] ⟨H,H,H,T⟩ O⟩ ?_
  rintro k ⟨hk,hp⟩
  refine zJ<|F O<|A O<|A O<|qC O el70<|yD O<|G<|zD O (fun c2=>?_) (fun c2=>?_)
  ·try simp only [I] at c2
   obtain ⟨x,hx⟩:=qV a k (by omega)
   obtain ⟨y,hy⟩:=qV b k (by omega)
   have hxw:=zDb (qB hx)
   refine zK<|zJ<|zR<|zJ<|qY 10 mixed (by kernel_rfl) O O<|M O O (w O O)<|M O O (w O O)<|M O O (qG O el70 O O (by omega) (Q (by assumption)))<|M O O (zZ O yK O qA O)<|M O O (w O O)<|M O O (w O O)<|M O O (qG O el70 O O (by omega) (Q (by assumption)))<|M O O (zZ O yK O qA O)<|M O O (qM O ok175 (base_Lin x y (by omega)) ⟨H,O,H,O,T⟩)<|M O O (kX O O)<|kD<|G<|zD O (fun c3=>?_) (fun c3=>?_)
   ·try simp only [I] at c3
    refine F O<|A O<|G<|o<|X O ?_
    rw [yQ (zFf hx hy c3)]
   ·try simp only [I] at c3
    refine zK<|zQ O<|A O<|qJ O ⟨by omega,by omega⟩<|A O<|G ?_
    refine ⟨k+1,⟨by omega,zBq hx hy hp c3⟩,(by omega),Weak.mk [] ⟨H,H,H,T⟩ O⟩
  ·try simp only [I] at c2
   refine qQ<|F O<|A O<|G<|o<|X O ?_
   rw [wR (zDs hp (by omega) (by omega))]
theorem base_Index (a b:Ix) (ha:a.wt<=6000000000000):
    Pur cfg 174 [vIndex a,vIndex b] (vB (decide (a=b))):=by
 refine zT Tryz.func174 O Tryz.ntmps174 Tryz.results174 O ?_
 intro z hz
 have hw:=ha
 unfold Ix.wt at hw
 refine F O<|zX O O (qN O O) ?_
 rintro _ _ ⟨b1,rfl,rfl⟩
 refine zX O O (qN O O) ?_
 rintro _ _ ⟨b2,rfl,rfl⟩
 refine A O<|G<|F O<|zH O zEo<|zM one9 (R 1 O) O<|zH O zEo<|zM one9 (R 0 O) O<|zU O (yV O O O)<|A O<|rL0 O (fun g1_5=>zE O zEp O) O<|B 11 O (fun g1_5=>zZ O yK O (R 1 O) O) O<|rL0 O (fun g1_5=>zE O zEp O) O<|B 13 O (fun g1_5=>zZ O yK O (R 0 O) O) O<|rLz [(12,_),(14,_)] O gv1 ⟨O,O,O,O,T⟩ (fun g1_5=>qM O ok175 (base_Lin a.Lin b.Lin (by omega)) ⟨H,O,H,O,T⟩) O<|yS O (fun h=>h)<|A O<|rL0 O (fun g1_12=>zE O zAq O) O<|B 18 O (fun g1_12=>zF O zEh O (R 1 O) O) O<|rL0 O (fun g1_12=>zE O zAq O) O<|B 20 O (fun g1_12=>zF O zEh O (R 0 O) O) O<|rLz [(19,_),(21,_)] O gv1 ⟨O,O,O,O,T⟩ (fun g1_12=>qM O ok197 (base_Lins a.At b.At (by omega) (by omega)) ⟨H,O,H,O,T⟩) O<|yS O (fun h=>h)<|A O<|G<|o<|X O ?_
 exact congrArg vB (ix_eq a b)
theorem zQc (a b:List Ix) (ha:a.length<=6000000000000) (hw:idxWt a<=6000000000000):
    Pur cfg 140 [vIndices a,vIndices b] (vB (decide (a=b))):=by
 refine zT Tryz.func140 O Tryz.ntmps140 Tryz.results140 O ?_
 intro z hz
 refine F O<|A O<|G<|zJ<|F O<|A O<|qC O d<|A O<|qC O d<|yN O<|G<|zD O (fun c1=>?_) (fun c1=>?_)
 ·try simp only [I] at c1
  refine F O<|A O<|G<|o<|X O ?_
  rw [yQ (fun h=>c1 (by rw [h]))]
 ·try simp only [I] at c1
  refine zK<|zJ<|F O<|A O<|G<|zR<|zY ⟨[(5,.c _),(0,.c _),(1,.c _)],[]⟩ (Weak.mk [] ⟨H,H,H,T⟩ O)<|qK 1 0 O O (Nat) (fun k=>[(5,vI k)]) (fun k=>[]) (fun k=>k<=a.length/\(a.take k=b.take k)) (fun k=>a.length-k) ⟨0,⟨by omega,O⟩,Weak.mk [] ⟨H,H,H,T⟩ O⟩ ?_
  rintro k ⟨hk,hp⟩
  refine zJ<|F O<|A O<|A O<|qC O d<|yD O<|G<|zD O (fun c2=>?_) (fun c2=>?_)
  ·try simp only [I] at c2
   obtain ⟨x,hx⟩:=qV a k (by omega)
   obtain ⟨y,hy⟩:=qV b k (by omega)
   have hxw:=zAy (qB hx)
   refine zK<|zJ<|zR<|zJ<|qY 10 mixed (by kernel_rfl) O O<|M O O (w O O)<|M O O (w O O)<|M O O (qG O d O O (by omega) (Q (by assumption)))<|M O O (zZ O zIb O qA O)<|M O O (w O O)<|M O O (w O O)<|M O O (qG O d O O (by omega) (Q (by assumption)))<|M O O (zZ O zIb O qA O)<|M O O (qM O ok174 (base_Index x y (by omega)) ⟨H,O,H,O,T⟩)<|M O O (kX O O)<|kD<|G<|zD O (fun c3=>?_) (fun c3=>?_)
   ·try simp only [I] at c3
    refine F O<|A O<|G<|o<|X O ?_
    rw [yQ (zFf hx hy c3)]
   ·try simp only [I] at c3
    refine zK<|zQ O<|A O<|qJ O ⟨by omega,by omega⟩<|A O<|G ?_
    refine ⟨k+1,⟨by omega,zBq hx hy hp c3⟩,(by omega),Weak.mk [] ⟨H,H,H,T⟩ O⟩
  ·try simp only [I] at c2
   refine qQ<|F O<|A O<|G<|o<|X O ?_
   rw [wR (zDs hp (by omega) (by omega))]
theorem base_Exprs_of (a b:List Ex) (hE:∀x,x∈a->∀y,Pur cfg 141 [vE x,vE y] (vB (decide (x=y)))) (ha:a.length<=6000000000000):
    Pur cfg 176 [vEs a,vEs b] (vB (decide (a=b))):=by
 refine zT Tryz.func176 O Tryz.ntmps176 Tryz.results176 O ?_
 intro z hz
 refine F O<|A O<|G<|zJ<|F O<|A O<|qC O el42<|A O<|qC O el42<|yN O<|G<|zD O (fun c1=>?_) (fun c1=>?_)
 ·try simp only [I] at c1
  refine F O<|A O<|G<|o<|X O ?_
  rw [yQ (fun h=>c1 (by rw [h]))]
 ·try simp only [I] at c1
  refine zK<|zJ<|F O<|A O<|G<|zR<|zY ⟨[(5,.c _),(0,.c _),(1,.c _)],[]⟩ (Weak.mk [] ⟨H,H,H,T⟩ O)<|qK 1 0 O O (Nat) (fun k=>[(5,vI k)]) (fun k=>[]) (fun k=>k<=a.length/\(a.take k=b.take k)) (fun k=>a.length-k) ⟨0,⟨by omega,O⟩,Weak.mk [] ⟨H,H,H,T⟩ O⟩ ?_
  rintro k ⟨hk,hp⟩
  refine zJ<|F O<|A O<|A O<|qC O el42<|yD O<|G<|zD O (fun c2=>?_) (fun c2=>?_)
  ·try simp only [I] at c2
   obtain ⟨x,hx⟩:=qV a k (by omega)
   obtain ⟨y,hy⟩:=qV b k (by omega)
   refine zK<|zJ<|zR<|zJ<|qY 10 mixed (by kernel_rfl) O O<|M O O (w O O)<|M O O (w O O)<|M O O (qG O el42 O O (by omega) (zEm (by assumption)))<|M O O (zZ O kC O qA O)<|M O O (w O O)<|M O O (w O O)<|M O O (qG O el42 O O (by omega) (zEm (by assumption)))<|M O O (zZ O kC O qA O)<|M O O (qM O ok141 (hE x (qB hx) y) ⟨H,O,H,O,T⟩)<|M O O (kX O O)<|kD<|G<|zD O (fun c3=>?_) (fun c3=>?_)
   ·try simp only [I] at c3
    refine F O<|A O<|G<|o<|X O ?_
    rw [yQ (zFf hx hy c3)]
   ·try simp only [I] at c3
    refine zK<|zQ O<|A O<|qJ O ⟨by omega,by omega⟩<|A O<|G ?_
    refine ⟨k+1,⟨by omega,zBq hx hy hp c3⟩,(by omega),Weak.mk [] ⟨H,H,H,T⟩ O⟩
  ·try simp only [I] at c2
   refine qQ<|F O<|A O<|G<|o<|X O ?_
   rw [wR (zDs hp (by omega) (by omega))]
theorem base_Expr_step (a:Ex) (ih:∀x,x∈a.Args->x.wt<=6000000000000->∀y,Pur cfg 141 [vE x,vE y] (vB (decide (x=y)))) (ha:a.wt<=6000000000000) (b:Ex):
    Pur cfg 141 [vE a,vE b] (vB (decide (a=b))):=by
 refine zT Tryz.func141 O Tryz.ntmps141 Tryz.results141 O ?_
 intro z hz
 obtain ⟨hL,hI,hA⟩:=a.parts ha
 have hw:=Ex.wt_eq a
 refine F O<|zX O O (qN O O) ?_
 rintro _ _ ⟨b1,rfl,rfl⟩
 refine zX O O (qN O O) ?_
 rintro _ _ ⟨b2,rfl,rfl⟩
 refine A O<|G<|F O<|zH O wF<|zM one3 (R 1 O) O<|zH O wF<|zM one3 (R 0 O) O<|yF O<|A O<|rL0 O (fun g1_5=>zE O zFk O) O<|B 11 O (fun g1_5=>zF O one9 O (R 1 O) O) O<|rL0 O (fun g1_5=>zE O zFk O) O<|B 13 O (fun g1_5=>zF O one9 O (R 0 O) O) O<|rLz [(12,_),(14,_)] O gv1 ⟨O,O,O,O,T⟩ (fun g1_5=>yV O O O) O<|yS O (fun h=>h)<|A O<|rL0 O (fun g1_12=>zE O zJw O) O<|B 18 O (fun g1_12=>zZ O agg36 O (R 1 O) O) O<|rL0 O (fun g1_12=>zE O zJw O) O<|B 20 O (fun g1_12=>zZ O agg36 O (R 0 O) O) O<|rLz [(19,_),(21,_)] O gv1 ⟨O,O,O,O,T⟩ (fun g1_12=>det_aeql O fl36 O O O) O<|yS O (fun h=>h)<|A O<|rL0 O (fun g1_19=>zE O zFj O) O<|B 25 O (fun g1_19=>zZ O yR O (R 1 O) O) O<|rL0 O (fun g1_19=>zE O zFj O) O<|B 27 O (fun g1_19=>zZ O yR O (R 0 O) O) O<|rLz [(26,_),(28,_)] O gv1 ⟨O,O,O,O,T⟩ (fun g1_19=>det_aeql O fl38 O O O) O<|yS O (fun h=>h)<|A O<|rL0 O (fun g1_26=>zE O zDj O) O<|B 32 O (fun g1_26=>zZ O yK O (R 1 O) O) O<|rL0 O (fun g1_26=>zE O zDj O) O<|B 34 O (fun g1_26=>zZ O yK O (R 0 O) O) O<|rLz [(33,_),(35,_)] O gv1 ⟨O,O,O,O,T⟩ (fun g1_26=>qM O ok175 (base_Lin a.Lin b.Lin hL) ⟨H,O,H,O,T⟩) O<|yS O (fun h=>h)<|A O<|rL0 O (fun g1_33=>zE O wD O) O<|B 39 O (fun g1_33=>zF O wQ O (R 1 O) O) O<|rL0 O (fun g1_33=>zE O wD O) O<|B 41 O (fun g1_33=>zF O wQ O (R 0 O) O) O<|rLz [(40,_),(42,_)] O gv1 ⟨O,O,O,O,T⟩ (fun g1_33=>qM O ok140 (zQc a.Idx b.Idx hI (by omega)) ⟨H,O,H,O,T⟩) O<|yS O (fun h=>h)<|A O<|rL0 O (fun g1_40=>zE O wN O) O<|B 46 O (fun g1_40=>zF O zBk O (R 1 O) O) O<|rL0 O (fun g1_40=>zE O wN O) O<|B 48 O (fun g1_40=>zF O zBk O (R 0 O) O) O<|rLz [(47,_),(49,_)] O gv1 ⟨O,O,O,O,T⟩ (fun g1_40=>qM O ok176 (base_Exprs_of a.Args b.Args (fun x hx y=>ih x hx (by have:=Ex.arg_wt hx;omega) y) hA) ⟨H,O,H,O,T⟩) O<|yS O (fun h=>h)<|A O<|G<|o<|X O ?_
 exact congrArg vB (ex_eq a b)
theorem base_Expr (a b:Ex) (ha:a.wt<=6000000000000):Pur cfg 141 [vE a,vE b] (vB (decide (a=b))):=by
  induction a using Ex.ind generalizing b with
  |_ a ih=>exact base_Expr_step a (fun x hx h y=>ih x hx y h) ha b
theorem zVj (e:Ex) (ih:∀a,a∈e.Args->∀(m:Nat) (x:Int),a.fit->m<=1000000->x=m->Pur cfg 77 [vE a,vI x] (vI (weighE a m))) (m:Nat) (x:Int) (hf:e.fit) (hm:m<=1000000) (hx:x=m):
    Pur cfg 77 [vE e,vI x] (vI (weighE e m)):=by
 refine zT Tryz.func77 O Tryz.ntmps77 Tryz.results77 O ?_
 intro z hz
 obtain ⟨f1,f2,f3,f4,f5⟩:=Ex.fit_eq hf
 have hW:=weighE_eq e m
 refine F O<|zX O O (qN O O) ?_
 rintro _ _ ⟨b1,rfl,rfl⟩
 refine A O<|G<|F O<|zH O zDj<|zH O yT<|zM wE (R 0 O) O<|qC O N<|qJ O ⟨by omega,by omega⟩<|zH O wD<|zM wQ (R 0 O) O<|qC O d<|qJ O ⟨by omega,by omega⟩<|A O<|G<|zJ<|F O<|A O<|G<|zR<|zY ⟨[(6,.c _),(5,.c _),(1,.c _),(2,.c _)],[_]⟩ (Weak.mk [true] ⟨H,H,H,H,T⟩ O) ?_
 refine qK 2 0 O O (Nat×Nat) (fun ⟨k,n⟩=>[(6,vI k),(5,vI n)]) (fun ⟨k,n⟩=>[]) (fun ⟨k,n⟩=>k<=e.Idx.length/\(n<=m+4*140737488355328)/\(weighIdx m (1+e.Lin.L.length+e.Idx.length) e.Idx=weighIdx m n (e.Idx.drop k))) (fun ⟨k,n⟩=>e.Idx.length-k) ⟨⟨0,1+e.Lin.L.length+e.Idx.length⟩,⟨by omega,by omega,O⟩,Weak.mk [true] ⟨H,VLe.of_eq (congrArg vI (by omega)),H,H,T⟩ O⟩ ?_
 rintro ⟨k,n⟩ ⟨hk,hn1,hn2⟩
 show AWP _ _ _ _ _ ⟨[(6,vI k),(5,vI n)]++_,[]++_⟩
 refine zJ<|F O<|A O<|zH O wD<|zM wQ (R 0 O) O<|qC O d<|yD O<|A O<|rL0 O (fun g3_5=>w O O) O<|rL0 O (fun g3_5=>w O O) O<|rLz [(24,_),(25,_)] O gv1 ⟨O,O,O,O,T⟩ (fun g3_5=>wX O O O) O<|yS O (fun h=>h)<|G<|zD O (fun c1=>?_) (fun c1=>?_)
 ·try simp only [I] at c1
  obtain ⟨y,hy⟩:=qV e.Idx k (by omega)
  obtain ⟨i1,i2,i3⟩:=f4 y (qB hy)
  refine zK<|zJ<|zR<|zJ<|qY 19 mixed (by kernel_rfl) O O<|M O O (w O O)<|M O O (zE O wD O)<|M O O (zF O wQ O (R 0 O) O)<|M O O (w O O)<|M O O (qG O d O O (by omega) (Q (by assumption)))<|M O O (qL O zEp O)<|M O O (qL O yT O)<|M O O (zF O wE O qA O)<|M O O (yC O N O)<|M O O (zDu O O O ⟨by omega,by omega⟩)<|M O O (zE O wD O)<|M O O (zF O wQ O (R 0 O) O)<|M O O (w O O)<|M O O (qG O d O O (by omega) (Q (by assumption)))<|M O O (qL O zAq O)<|M O O (zF O zEh O qA O)<|M O O (yC O el70 O)<|M O O (zDu O O O ⟨by omega,by omega⟩)<|M O O (yA O O)<|kD<|G<|F O<|A O<|G<|zR<|zY ⟨[(7,.c _),(5,.c _),(1,.c _),(2,.c _),(6,.c _)],[_]⟩ (Weak.mk [true] ⟨H,H,H,H,H,T⟩ O) ?_
  refine qK 2 0 O O (Nat×Nat) (fun ⟨j,p⟩=>[(7,vI j),(5,vI p)]) (fun ⟨j,p⟩=>[]) (fun ⟨j,p⟩=>j<=y.At.length/\(p<=m+4*140737488355328)/\(weighAt m (n+y.Lin.L.length+y.At.length) y.At=weighAt m p (y.At.drop j))) (fun ⟨j,p⟩=>y.At.length-j) ⟨⟨0,n+y.Lin.L.length+y.At.length⟩,⟨by omega,by omega,O⟩,Weak.mk [true] ⟨H,VLe.of_eq (congrArg vI (by omega)),H,H,H,T⟩ O⟩ ?_
  rintro ⟨j,p⟩ ⟨hj,hp1,hp2⟩
  show AWP _ _ _ _ _ ⟨[(7,vI j),(5,vI p)]++_,[]++_⟩
  refine zJ<|F O<|A O<|zH O wD<|zM wQ (R 0 O) O<|A O<|qD O d (by omega) (Q (by assumption))<|qP O zAq<|zM zEh qA O<|qC O el70<|yD O<|A O<|rL0 O (fun g7_9=>w O O) O<|rL0 O (fun g7_9=>w O O) O<|rLz [(58,_),(59,_)] O gv1 ⟨O,O,O,O,T⟩ (fun g7_9=>wX O O O) O<|yS O (fun h=>h)<|G<|zD O (fun c2=>?_) (fun c2=>?_)
  ·try simp only [I] at c2
   obtain ⟨l,hl⟩:=qV y.At j (by omega)
   have hl2:=i3 l (qB hl)
   refine zK<|zJ<|zR<|zQ O<|A O<|zH O wD<|zM wQ (R 0 O) O<|A O<|qD O d (by omega) (Q (by assumption))<|qP O zAq<|zM zEh qA O<|A O<|qD O el70 (by omega) (Q (by assumption))<|qP O yT<|zM wE qA O<|qC O N<|qJ O ⟨by omega,by omega⟩<|A O<|G<|zQ O<|A O<|qJ O ⟨by omega,by omega⟩<|A O<|G ?_
   refine ⟨⟨j+1,p+l.L.length⟩,⟨by omega,by omega,by rw [hp2,qR hl,weighAt,if_pos (by omega)]⟩,(by show y.At.length-(j+1)<y.At.length-j;omega),Weak.mk [true] ⟨H,VLe.of_eq (congrArg vI (by omega)),H,H,H,T⟩ O⟩
  ·try simp only [I] at c2
   have hN2:=weighAt_end (l:=y.At) (k:=j) (n:=p) hx (by omega)
   refine qQ<|zQ O<|A O<|qJ O ⟨by omega,by omega⟩<|A O<|G ?_
   refine ⟨⟨k+1,p⟩,⟨by omega,hp1,by rw [hn2,qR hy,weighIdx,if_pos (by omega),hp2,←hN2]⟩,(by show e.Idx.length-(k+1)<e.Idx.length-k;omega),Weak.mk [true] ⟨H,H,H,H,T⟩ O⟩
 ·try simp only [I] at c1
  have hN:=weighIdx_end (l:=e.Idx) (k:=k) (n:=n) hx (by omega)
  refine qQ<|zJ<|F O<|A O<|G<|zR<|zY ⟨[(8,.c _),(5,.c _),(1,.c _),(2,.c _)],[_]⟩ (Weak.mk [true] ⟨H,H,H,H,T⟩ O)<|qK 2 0 O O (Nat×Nat) (fun ⟨k,n⟩=>[(8,vI k),(5,vI n)]) (fun ⟨k,n⟩=>[]) (fun ⟨k,n⟩=>k<=e.Args.length/\(n<=m+4*140737488355328)/\(weighE e m=weighL (e.Args.drop k) m n)) (fun ⟨k,n⟩=>e.Args.length-k) ⟨⟨0,n⟩,⟨by omega,hn1,by rw [hW,hn2,←hN];rfl⟩,Weak.mk [true] ⟨H,H,H,H,T⟩ O⟩ ?_
  rintro ⟨k,n⟩ ⟨hk3,hn3,hn4⟩
  show AWP _ _ _ _ _ ⟨[(8,vI k),(5,vI n)]++_,[]++_⟩
  refine zJ<|F O<|A O<|zH O wN<|zM zBk (R 0 O) O<|qC O el42<|yD O<|A O<|rL0 O (fun g11_5=>w O O) O<|rL0 O (fun g11_5=>w O O) O<|rLz [(83,_),(84,_)] O gv1 ⟨O,O,O,O,T⟩ (fun g11_5=>wX O O O) O<|yS O (fun h=>h)<|G<|zD O (fun c3=>?_) (fun c3=>?_)
  ·try simp only [I] at c3
   obtain ⟨a,ha⟩:=qV e.Args k (by omega)
   have hwa:=zGg a (m-n) (f5 a (qB ha))
   refine zK<|zJ<|zR<|zQ O<|A O<|zH O wN<|zM zBk (R 0 O) O<|A O<|qD O el42 (by omega) (zEm (by assumption))<|zP kC qA O<|A O<|A O<|zU O (yB O O O ⟨by omega,by omega⟩)<|qI O ok77 (ih a (qB ha) (m-n) _ (f5 a (qB ha)) (by omega) (by omega)) ⟨H,O,H,O,T⟩<|qJ O ⟨by omega,by omega⟩<|A O<|G<|zQ O<|A O<|qJ O ⟨by omega,by omega⟩<|A O<|G ?_
   refine ⟨⟨k+1,n+weighE a (m-n)⟩,⟨by omega,by omega,by rw [hn4,qR ha,weighL,if_pos (by omega)]⟩,(by show e.Args.length-(k+1)<e.Args.length-k;omega),Weak.mk [true] ⟨H,VLe.of_eq (congrArg vI (by omega)),H,H,T⟩ O⟩
  ·try simp only [I] at c3
   refine qQ<|F O<|A O<|A O<|G<|o<|X O ?_
   exact congrArg vI (by rw [hn4,←weighL_end hx (by omega)])
theorem base_Weigh (e:Ex) (m:Nat) (x:Int) (hf:e.fit) (hm:m<=1000000) (hx:x=m):Pur cfg 77 [vE e,vI x] (vI (weighE e m)):=by
  induction e using Ex.ind generalizing m x with
  |_ e ih=>exact zVj e (fun a ha m x h1 h2 h3=>ih a ha m x h1 h2 h3) m x hf hm hx
theorem zOr (l:List Mono) (hl:l.length<=5864062014805):
    OwnR cfg 139 [vMonos l] 69 2 (l.map Mono.cells):=by
 refine zT Tryz.func139 O Tryz.ntmps139 Tryz.results139 O ?_
 intro z hz
 refine F O<|qZ 2 O<|G<|zJ<|F O<|A O<|zX O O (zGn O N O O) ?_
 rintro _ _ ⟨nb1,rfl,hnil1,rfl⟩
 refine G<|zD O (fun c1=>?_) (fun c1=>?_)
 ·try simp only [I] at c1
  refine F O<|A O<|yI _ (kN 69 2)<|G<|o<|X O ?_
  exact ⟨_,O,by rw [hnil1 c1]⟩
 ·try simp only [I] at c1
  refine zK<|F O<|zX O O (zCz O N zr69 O O O O) ?_
  rintro _ _ ⟨sv3,rfl,rfl⟩
  refine A O<|zX O O (qX 0 O N O O O (by simp only [List.length_map,List.length_nil,Nat.zero_add];omega) (by simp only [List.length_map,List.length_nil,Nat.zero_add];omega)) ?_
  rintro _ _ ⟨sv4,rfl,rfl⟩
  refine A O<|G<|o<|X O ?_
  exact ⟨_,O,O⟩
theorem zQg (l:List Lf) (hl:l.length<=4294967296):
    OwnR cfg 134 [vLins l] 41 2 (l.map Lf.cells):=by
 refine zT Tryz.func134 O Tryz.ntmps134 Tryz.results134 O ?_
 intro z hz
 refine F O<|qZ 2 O<|G<|zJ<|F O<|A O<|zX O O (zGn O el70 O O) ?_
 rintro _ _ ⟨nb1,rfl,hnil1,rfl⟩
 refine G<|zD O (fun c1=>?_) (fun c1=>?_)
 ·try simp only [I] at c1
  refine F O<|A O<|yI _ (kN 41 2)<|G<|o<|X O ?_
  exact ⟨_,O,by rw [hnil1 c1]⟩
 ·try simp only [I] at c1
  refine zK<|F O<|zX O O (zCz O el70 U O O O O) ?_
  rintro _ _ ⟨sv3,rfl,rfl⟩
  refine A O<|zX O O (qX 0 O el70 O O O (by simp only [List.length_map,List.length_nil,Nat.zero_add];omega) (by simp only [List.length_map,List.length_nil,Nat.zero_add];omega)) ?_
  rintro _ _ ⟨sv4,rfl,rfl⟩
  refine A O<|G<|o<|X O ?_
  exact ⟨_,O,O⟩
theorem zSv (l:List Ix) (hl:l.length<=4294967296):
    OwnR cfg 133 [vIndices l] 72 4 (l.map Ix.cells):=by
 refine zT Tryz.func133 O Tryz.ntmps133 Tryz.results133 O ?_
 intro z hz
 refine F O<|qZ 4 O<|G<|zJ<|F O<|A O<|zX O O (zGn O d O O) ?_
 rintro _ _ ⟨nb1,rfl,hnil1,rfl⟩
 refine G<|zD O (fun c1=>?_) (fun c1=>?_)
 ·try simp only [I] at c1
  refine F O<|A O<|yI _ (kN 72 4)<|G<|o<|X O ?_
  exact ⟨_,O,by rw [hnil1 c1]⟩
 ·try simp only [I] at c1
  refine zK<|F O<|zX O O (zCz O d zr72 O O O O) ?_
  rintro _ _ ⟨sv3,rfl,rfl⟩
  refine A O<|zX O O (qX 0 O d O O O (by simp only [List.length_map,List.length_nil,Nat.zero_add];omega) (by simp only [List.length_map,List.length_nil,Nat.zero_add];omega)) ?_
  rintro _ _ ⟨sv4,rfl,rfl⟩
  refine A O<|G<|o<|X O ?_
  exact ⟨_,O,O⟩
theorem zSw (l:List Ex) (hl:l.length<=4294967296):
    OwnR cfg 173 [vEs l] 44 13 (l.map Ex.cells):=by
 refine zT Tryz.func173 O Tryz.ntmps173 Tryz.results173 O ?_
 intro z hz
 refine F O<|qZ 13 O<|G<|zJ<|F O<|A O<|zX O O (zGn O el42 O O) ?_
 rintro _ _ ⟨nb1,rfl,hnil1,rfl⟩
 refine G<|zD O (fun c1=>?_) (fun c1=>?_)
 ·try simp only [I] at c1
  refine F O<|A O<|yI _ (kN 44 13)<|G<|o<|X O ?_
  exact ⟨_,O,by rw [hnil1 c1]⟩
 ·try simp only [I] at c1
  refine zK<|F O<|zX O O (zCz O el42 zr44 O O O O) ?_
  rintro _ _ ⟨sv3,rfl,rfl⟩
  refine A O<|zX O O (qX 0 O el42 O O O (by simp only [List.length_map,List.length_nil,Nat.zero_add];omega) (by simp only [List.length_map,List.length_nil,Nat.zero_add];omega)) ?_
  rintro _ _ ⟨sv4,rfl,rfl⟩
  refine A O<|G<|o<|X O ?_
  exact ⟨_,O,O⟩
end Go.W
