/-
  What functions compute.
  Conditions: none.
-/
import Derived.Test.YtlfjpejkoccibaaGreatDoorWD
import Derived.Test.YtlfjpejkoccibaaGreatDoorPlain
set_option linter.unusedSimpArgs false
set_option linter.unusedVariables false
set_option maxRecDepth 10000
namespace Go.W
open Go Go.Eng Go.Proofs Go.L41 Go.Br
attribute [local irreducible] AWP RWP TD fH
theorem ok77:bA Tryz.prog 77=true:=by kernel_rfl
theorem ok140:bA Tryz.prog 140=true:=by kernel_rfl
theorem ok141:bA Tryz.prog 141=true:=by kernel_rfl
theorem ok174:bA Tryz.prog 174=true:=by kernel_rfl
theorem ok175:bA Tryz.prog 175=true:=by kernel_rfl
theorem ok176:bA Tryz.prog 176=true:=by kernel_rfl
theorem ok197:bA Tryz.prog 197=true:=by kernel_rfl
theorem base_Lins (a b:List Lf) (ha:a.length<=6000000000000) (hw:fB a<=6000000000000):
    Pur cfg 197 [rZ a,rZ b] (vB (decide (a=b))):=by
 refine zT Tryz.func197 O Tryz.ntmps197 Tryz.results197 O ?_
 intro z hz
 refine F O<|A O<|H<|zK<|F O<|A O<|qC O el70<|A O<|qC O el70<|yM O<|H<|zD O (fun c1=>?_) (fun c1=>?_)
 ·try simp only [I] at c1
  refine F O<|A O<|H<|o<|X O ?_
  rw [yO (fun h=>c1 (by rw [h]))]
 ·try simp only [I] at c1
  refine zM<|zK<|F O<|A O<|H<|zR<|zY ⟨[(5,.c _),(0,.c _),(1,.c _)],[]⟩ (Weak.mk [] ⟨G,G,G,T⟩ O)<|qK 1 0 O O (Nat) (fun k=>[(5,vI k)]) (fun k=>[]) (fun k=>k<=a.length/\(a.take k=b.take k)) (fun k=>a.length-k) ⟨0,⟨by omega,O⟩,Weak.mk [] ⟨G,G,G,T⟩ O⟩ ?_
  rintro k ⟨hk,hp⟩
  refine zK<|F O<|A O<|A O<|qC O el70<|yD O<|H<|zD O (fun c2=>?_) (fun c2=>?_)
  ·try simp only [I] at c2
   obtain ⟨x,hx⟩:=qY a k (by omega)
   obtain ⟨y,hy⟩:=qY b k (by omega)
   have hxw:=zDc (zZ hx)
   refine zM<|zK<|zR<|zK<|qZ 10 mixed (by kernel_rfl) O O<|M O O (zN O O)<|M O O (zN O O)<|M O O (qF O el70 O O (by omega) (Q (by assumption)))<|M O O (qB O yX O qA O)<|M O O (zN O O)<|M O O (zN O O)<|M O O (qF O el70 O O (by omega) (Q (by assumption)))<|M O O (qB O yX O qA O)<|M O O (qM O ok175 (base_Lin x y (by omega)) ⟨G,O,G,O,T⟩)<|M O O (kW O O)<|kE<|H<|zD O (fun c3=>?_) (fun c3=>?_)
   ·try simp only [I] at c3
    refine F O<|A O<|H<|o<|X O ?_
    rw [yO (zFq hx hy c3)]
   ·try simp only [I] at c3
    refine zM<|zQ O<|A O<|qJ O ⟨by omega,by omega⟩<|A O<|H ?_
    refine ⟨k+1,⟨by omega,zBv hx hy hp c3⟩,(by omega),Weak.mk [] ⟨G,G,G,T⟩ O⟩
  ·try simp only [I] at c2
   refine qQ<|F O<|A O<|H<|o<|X O ?_
   rw [wR (zDz hp (by omega) (by omega))]
theorem base_Index (a b:Ix) (ha:a.wt<=6000000000000):
    Pur cfg 174 [jE a,jE b] (vB (decide (a=b))):=by
 refine zT Tryz.func174 O Tryz.ntmps174 Tryz.results174 O ?_
 intro z hz
 have hw:=ha
 unfold Ix.wt at hw
 refine F O<|zV O O (qN O O) ?_
 rintro _ _ ⟨b1,rfl,rfl⟩
 refine zV O O (qN O O) ?_
 rintro _ _ ⟨b2,rfl,rfl⟩
 refine A O<|H<|F O<|zG O zEw<|zJ one9 (R 1 O) O<|zG O zEw<|zJ one9 (R 0 O) O<|zU O (yR O O O)<|A O<|rL0 O (fun g1_5=>zE O zEp O) O<|B 11 O (fun g1_5=>qB O yX O (R 1 O) O) O<|rL0 O (fun g1_5=>zE O zEp O) O<|B 13 O (fun g1_5=>qB O yX O (R 0 O) O) O<|rLz [(12,_),(14,_)] O gv1 ⟨O,O,O,O,T⟩ (fun g1_5=>qM O ok175 (base_Lin a.Lin b.Lin (by omega)) ⟨G,O,G,O,T⟩) O<|yQ O (fun h=>h)<|A O<|rL0 O (fun g1_12=>zE O zAr O) O<|B 18 O (fun g1_12=>zF O zDw O (R 1 O) O) O<|rL0 O (fun g1_12=>zE O zAr O) O<|B 20 O (fun g1_12=>zF O zDw O (R 0 O) O) O<|rLz [(19,_),(21,_)] O gv1 ⟨O,O,O,O,T⟩ (fun g1_12=>qM O ok197 (base_Lins a.At b.At (by omega) (by omega)) ⟨G,O,G,O,T⟩) O<|yQ O (fun h=>h)<|A O<|H<|o<|X O ?_
 exact congrArg vB (ix_eq a b)
theorem zRi (a b:List Ix) (ha:a.length<=6000000000000) (hw:dH a<=6000000000000):
    Pur cfg 140 [gM a,gM b] (vB (decide (a=b))):=by
 refine zT Tryz.func140 O Tryz.ntmps140 Tryz.results140 O ?_
 intro z hz
 refine F O<|A O<|H<|zK<|F O<|A O<|qC O d<|A O<|qC O d<|yM O<|H<|zD O (fun c1=>?_) (fun c1=>?_)
 ·try simp only [I] at c1
  refine F O<|A O<|H<|o<|X O ?_
  rw [yO (fun h=>c1 (by rw [h]))]
 ·try simp only [I] at c1
  refine zM<|zK<|F O<|A O<|H<|zR<|zY ⟨[(5,.c _),(0,.c _),(1,.c _)],[]⟩ (Weak.mk [] ⟨G,G,G,T⟩ O)<|qK 1 0 O O (Nat) (fun k=>[(5,vI k)]) (fun k=>[]) (fun k=>k<=a.length/\(a.take k=b.take k)) (fun k=>a.length-k) ⟨0,⟨by omega,O⟩,Weak.mk [] ⟨G,G,G,T⟩ O⟩ ?_
  rintro k ⟨hk,hp⟩
  refine zK<|F O<|A O<|A O<|qC O d<|yD O<|H<|zD O (fun c2=>?_) (fun c2=>?_)
  ·try simp only [I] at c2
   obtain ⟨x,hx⟩:=qY a k (by omega)
   obtain ⟨y,hy⟩:=qY b k (by omega)
   have hxw:=zAq (zZ hx)
   refine zM<|zK<|zR<|zK<|qZ 10 mixed (by kernel_rfl) O O<|M O O (zN O O)<|M O O (zN O O)<|M O O (qF O d O O (by omega) (Q (by assumption)))<|M O O (qB O zIn O qA O)<|M O O (zN O O)<|M O O (zN O O)<|M O O (qF O d O O (by omega) (Q (by assumption)))<|M O O (qB O zIn O qA O)<|M O O (qM O ok174 (base_Index x y (by omega)) ⟨G,O,G,O,T⟩)<|M O O (kW O O)<|kE<|H<|zD O (fun c3=>?_) (fun c3=>?_)
   ·try simp only [I] at c3
    refine F O<|A O<|H<|o<|X O ?_
    rw [yO (zFq hx hy c3)]
   ·try simp only [I] at c3
    refine zM<|zQ O<|A O<|qJ O ⟨by omega,by omega⟩<|A O<|H ?_
    refine ⟨k+1,⟨by omega,zBv hx hy hp c3⟩,(by omega),Weak.mk [] ⟨G,G,G,T⟩ O⟩
  ·try simp only [I] at c2
   refine qQ<|F O<|A O<|H<|o<|X O ?_
   rw [wR (zDz hp (by omega) (by omega))]
theorem base_Exprs_of (a b:List Ex) (hE:∀x,x∈a->∀y,Pur cfg 141 [vE x,vE y] (vB (decide (x=y)))) (ha:a.length<=6000000000000):
    Pur cfg 176 [vEs a,vEs b] (vB (decide (a=b))):=by
 refine zT Tryz.func176 O Tryz.ntmps176 Tryz.results176 O ?_
 intro z hz
 refine F O<|A O<|H<|zK<|F O<|A O<|qC O g<|A O<|qC O g<|yM O<|H<|zD O (fun c1=>?_) (fun c1=>?_)
 ·try simp only [I] at c1
  refine F O<|A O<|H<|o<|X O ?_
  rw [yO (fun h=>c1 (by rw [h]))]
 ·try simp only [I] at c1
  refine zM<|zK<|F O<|A O<|H<|zR<|zY ⟨[(5,.c _),(0,.c _),(1,.c _)],[]⟩ (Weak.mk [] ⟨G,G,G,T⟩ O)<|qK 1 0 O O (Nat) (fun k=>[(5,vI k)]) (fun k=>[]) (fun k=>k<=a.length/\(a.take k=b.take k)) (fun k=>a.length-k) ⟨0,⟨by omega,O⟩,Weak.mk [] ⟨G,G,G,T⟩ O⟩ ?_
  rintro k ⟨hk,hp⟩
  refine zK<|F O<|A O<|A O<|qC O g<|yD O<|H<|zD O (fun c2=>?_) (fun c2=>?_)
  ·try simp only [I] at c2
   obtain ⟨x,hx⟩:=qY a k (by omega)
   obtain ⟨y,hy⟩:=qY b k (by omega)
   refine zM<|zK<|zR<|zK<|qZ 10 mixed (by kernel_rfl) O O<|M O O (zN O O)<|M O O (zN O O)<|M O O (qF O g O O (by omega) (zEn (by assumption)))<|M O O (qB O kA O qA O)<|M O O (zN O O)<|M O O (zN O O)<|M O O (qF O g O O (by omega) (zEn (by assumption)))<|M O O (qB O kA O qA O)<|M O O (qM O ok141 (hE x (zZ hx) y) ⟨G,O,G,O,T⟩)<|M O O (kW O O)<|kE<|H<|zD O (fun c3=>?_) (fun c3=>?_)
   ·try simp only [I] at c3
    refine F O<|A O<|H<|o<|X O ?_
    rw [yO (zFq hx hy c3)]
   ·try simp only [I] at c3
    refine zM<|zQ O<|A O<|qJ O ⟨by omega,by omega⟩<|A O<|H ?_
    refine ⟨k+1,⟨by omega,zBv hx hy hp c3⟩,(by omega),Weak.mk [] ⟨G,G,G,T⟩ O⟩
  ·try simp only [I] at c2
   refine qQ<|F O<|A O<|H<|o<|X O ?_
   rw [wR (zDz hp (by omega) (by omega))]
theorem base_Expr_step (a:Ex) (ih:∀x,x∈a.Args->x.wt<=6000000000000->∀y,Pur cfg 141 [vE x,vE y] (vB (decide (x=y)))) (ha:a.wt<=6000000000000) (b:Ex):
    Pur cfg 141 [vE a,vE b] (vB (decide (a=b))):=by
 refine zT Tryz.func141 O Tryz.ntmps141 Tryz.results141 O ?_
 intro z hz
 obtain ⟨hL,hI,hA⟩:=a.parts ha
 have hw:=Ex.wt_eq a
 refine F O<|zV O O (qN O O) ?_
 rintro _ _ ⟨b1,rfl,rfl⟩
 refine zV O O (qN O O) ?_
 rintro _ _ ⟨b2,rfl,rfl⟩
 refine A O<|H<|F O<|zG O wF<|zJ one3 (R 1 O) O<|zG O wF<|zJ one3 (R 0 O) O<|yF O<|A O<|rL0 O (fun g1_5=>zE O zFu O) O<|B 11 O (fun g1_5=>zF O one9 O (R 1 O) O) O<|rL0 O (fun g1_5=>zE O zFu O) O<|B 13 O (fun g1_5=>zF O one9 O (R 0 O) O) O<|rLz [(12,_),(14,_)] O gv1 ⟨O,O,O,O,T⟩ (fun g1_5=>yR O O O) O<|yQ O (fun h=>h)<|A O<|rL0 O (fun g1_12=>zE O zKn O) O<|B 18 O (fun g1_12=>qB O agg36 O (R 1 O) O) O<|rL0 O (fun g1_12=>zE O zKn O) O<|B 20 O (fun g1_12=>qB O agg36 O (R 0 O) O) O<|rLz [(19,_),(21,_)] O gv1 ⟨O,O,O,O,T⟩ (fun g1_12=>det_aeql O fl36 O O O) O<|yQ O (fun h=>h)<|A O<|rL0 O (fun g1_19=>zE O zFt O) O<|B 25 O (fun g1_19=>qB O yN O (R 1 O) O) O<|rL0 O (fun g1_19=>zE O zFt O) O<|B 27 O (fun g1_19=>qB O yN O (R 0 O) O) O<|rLz [(26,_),(28,_)] O gv1 ⟨O,O,O,O,T⟩ (fun g1_19=>det_aeql O fl38 O O O) O<|yQ O (fun h=>h)<|A O<|rL0 O (fun g1_26=>zE O zDe O) O<|B 32 O (fun g1_26=>qB O yX O (R 1 O) O) O<|rL0 O (fun g1_26=>zE O zDe O) O<|B 34 O (fun g1_26=>qB O yX O (R 0 O) O) O<|rLz [(33,_),(35,_)] O gv1 ⟨O,O,O,O,T⟩ (fun g1_26=>qM O ok175 (base_Lin a.Lin b.Lin hL) ⟨G,O,G,O,T⟩) O<|yQ O (fun h=>h)<|A O<|rL0 O (fun g1_33=>zE O kX O) O<|B 39 O (fun g1_33=>zF O wO O (R 1 O) O) O<|rL0 O (fun g1_33=>zE O kX O) O<|B 41 O (fun g1_33=>zF O wO O (R 0 O) O) O<|rLz [(40,_),(42,_)] O gv1 ⟨O,O,O,O,T⟩ (fun g1_33=>qM O ok140 (zRi a.Idx b.Idx hI (by omega)) ⟨G,O,G,O,T⟩) O<|yQ O (fun h=>h)<|A O<|rL0 O (fun g1_40=>zE O wL O) O<|B 46 O (fun g1_40=>zF O zBa O (R 1 O) O) O<|rL0 O (fun g1_40=>zE O wL O) O<|B 48 O (fun g1_40=>zF O zBa O (R 0 O) O) O<|rLz [(47,_),(49,_)] O gv1 ⟨O,O,O,O,T⟩ (fun g1_40=>qM O ok176 (base_Exprs_of a.Args b.Args (fun x hx y=>ih x hx (by have:=Ex.arg_wt hx;omega) y) hA) ⟨G,O,G,O,T⟩) O<|yQ O (fun h=>h)<|A O<|H<|o<|X O ?_
 exact congrArg vB (ex_eq a b)
theorem base_Expr (a b:Ex) (ha:a.wt<=6000000000000):Pur cfg 141 [vE a,vE b] (vB (decide (a=b))):=by
  induction a using Ex.ind generalizing b with
  |_ a ih=>exact base_Expr_step a (fun x hx h y=>ih x hx y h) ha b
theorem zWy (e:Ex) (ih:∀a,a∈e.Args->∀(m:Nat) (x:Int),a.fit->m<=1000000->x=m->Pur cfg 77 [vE a,vI x] (vI (fU a m))) (m:Nat) (x:Int) (hf:e.fit) (hm:m<=1000000) (hx:x=m):
    Pur cfg 77 [vE e,vI x] (vI (fU e m)):=by
 refine zT Tryz.func77 O Tryz.ntmps77 Tryz.results77 O ?_
 intro z hz
 obtain ⟨f1,f2,f3,f4,f5⟩:=Ex.fit_eq hf
 have hW:=weighE_eq e m
 refine F O<|zV O O (qN O O) ?_
 rintro _ _ ⟨b1,rfl,rfl⟩
 refine A O<|H<|F O<|zG O zDe<|zG O kC<|zJ wN (R 0 O) O<|qC O P<|qJ O ⟨by omega,by omega⟩<|zG O kX<|zJ wO (R 0 O) O<|qC O d<|qJ O ⟨by omega,by omega⟩<|A O<|H<|zK<|F O<|A O<|H<|zR<|zY ⟨[(6,.c _),(5,.c _),(1,.c _),(2,.c _)],[_]⟩ (Weak.mk [true] ⟨G,G,G,G,T⟩ O) ?_
 refine qK 2 0 O O (Nat×Nat) (fun ⟨k,n⟩=>[(6,vI k),(5,vI n)]) (fun ⟨k,n⟩=>[]) (fun ⟨k,n⟩=>k<=e.Idx.length/\(n<=m+4*140737488355328)/\(fG m (1+e.Lin.L.length+e.Idx.length) e.Idx=fG m n (e.Idx.drop k))) (fun ⟨k,n⟩=>e.Idx.length-k) ⟨⟨0,1+e.Lin.L.length+e.Idx.length⟩,⟨by omega,by omega,O⟩,Weak.mk [true] ⟨G,VLe.of_eq (congrArg vI (by omega)),G,G,T⟩ O⟩ ?_
 rintro ⟨k,n⟩ ⟨hk,hn1,hn2⟩
 show AWP _ _ _ _ _ ⟨[(6,vI k),(5,vI n)]++_,[]++_⟩
 refine zK<|F O<|A O<|zG O kX<|zJ wO (R 0 O) O<|qC O d<|yD O<|A O<|rL0 O (fun g3_5=>zN O O) O<|rL0 O (fun g3_5=>zN O O) O<|rLz [(24,_),(25,_)] O gv1 ⟨O,O,O,O,T⟩ (fun g3_5=>wY O O O) O<|yQ O (fun h=>h)<|H<|zD O (fun c1=>?_) (fun c1=>?_)
 ·try simp only [I] at c1
  obtain ⟨y,hy⟩:=qY e.Idx k (by omega)
  obtain ⟨i1,i2,i3⟩:=f4 y (zZ hy)
  refine zM<|zK<|zR<|zK<|qZ 19 mixed (by kernel_rfl) O O<|M O O (zN O O)<|M O O (zE O kX O)<|M O O (zF O wO O (R 0 O) O)<|M O O (zN O O)<|M O O (qF O d O O (by omega) (Q (by assumption)))<|M O O (qL O zEp O)<|M O O (qL O kC O)<|M O O (zF O wN O qA O)<|M O O (yB O P O)<|M O O (zEb O O O ⟨by omega,by omega⟩)<|M O O (zE O kX O)<|M O O (zF O wO O (R 0 O) O)<|M O O (zN O O)<|M O O (qF O d O O (by omega) (Q (by assumption)))<|M O O (qL O zAr O)<|M O O (zF O zDw O qA O)<|M O O (yB O el70 O)<|M O O (zEb O O O ⟨by omega,by omega⟩)<|M O O (yA O O)<|kE<|H<|F O<|A O<|H<|zR<|zY ⟨[(7,.c _),(5,.c _),(1,.c _),(2,.c _),(6,.c _)],[_]⟩ (Weak.mk [true] ⟨G,G,G,G,G,T⟩ O) ?_
  refine qK 2 0 O O (Nat×Nat) (fun ⟨j,p⟩=>[(7,vI j),(5,vI p)]) (fun ⟨j,p⟩=>[]) (fun ⟨j,p⟩=>j<=y.At.length/\(p<=m+4*140737488355328)/\(gC m (n+y.Lin.L.length+y.At.length) y.At=gC m p (y.At.drop j))) (fun ⟨j,p⟩=>y.At.length-j) ⟨⟨0,n+y.Lin.L.length+y.At.length⟩,⟨by omega,by omega,O⟩,Weak.mk [true] ⟨G,VLe.of_eq (congrArg vI (by omega)),G,G,G,T⟩ O⟩ ?_
  rintro ⟨j,p⟩ ⟨hj,hp1,hp2⟩
  show AWP _ _ _ _ _ ⟨[(7,vI j),(5,vI p)]++_,[]++_⟩
  refine zK<|F O<|A O<|zG O kX<|zJ wO (R 0 O) O<|A O<|qD O d (by omega) (Q (by assumption))<|qO O zAr<|zJ zDw qA O<|qC O el70<|yD O<|A O<|rL0 O (fun g7_9=>zN O O) O<|rL0 O (fun g7_9=>zN O O) O<|rLz [(58,_),(59,_)] O gv1 ⟨O,O,O,O,T⟩ (fun g7_9=>wY O O O) O<|yQ O (fun h=>h)<|H<|zD O (fun c2=>?_) (fun c2=>?_)
  ·try simp only [I] at c2
   obtain ⟨l,hl⟩:=qY y.At j (by omega)
   have hl2:=i3 l (zZ hl)
   refine zM<|zK<|zR<|zQ O<|A O<|zG O kX<|zJ wO (R 0 O) O<|A O<|qD O d (by omega) (Q (by assumption))<|qO O zAr<|zJ zDw qA O<|A O<|qD O el70 (by omega) (Q (by assumption))<|qO O kC<|zJ wN qA O<|qC O P<|qJ O ⟨by omega,by omega⟩<|A O<|H<|zQ O<|A O<|qJ O ⟨by omega,by omega⟩<|A O<|H ?_
   refine ⟨⟨j+1,p+l.L.length⟩,⟨by omega,by omega,by rw [hp2,qR hl,gC,if_pos (by omega)]⟩,(by show y.At.length-(j+1)<y.At.length-j;omega),Weak.mk [true] ⟨G,VLe.of_eq (congrArg vI (by omega)),G,G,G,T⟩ O⟩
  ·try simp only [I] at c2
   have hN2:=weighAt_end (l:=y.At) (k:=j) (n:=p) hx (by omega)
   refine qQ<|zQ O<|A O<|qJ O ⟨by omega,by omega⟩<|A O<|H ?_
   refine ⟨⟨k+1,p⟩,⟨by omega,hp1,by rw [hn2,qR hy,fG,if_pos (by omega),hp2,←hN2]⟩,(by show e.Idx.length-(k+1)<e.Idx.length-k;omega),Weak.mk [true] ⟨G,G,G,G,T⟩ O⟩
 ·try simp only [I] at c1
  have hN:=weighIdx_end (l:=e.Idx) (k:=k) (n:=n) hx (by omega)
  refine qQ<|zK<|F O<|A O<|H<|zR<|zY ⟨[(8,.c _),(5,.c _),(1,.c _),(2,.c _)],[_]⟩ (Weak.mk [true] ⟨G,G,G,G,T⟩ O)<|qK 2 0 O O (Nat×Nat) (fun ⟨k,n⟩=>[(8,vI k),(5,vI n)]) (fun ⟨k,n⟩=>[]) (fun ⟨k,n⟩=>k<=e.Args.length/\(n<=m+4*140737488355328)/\(fU e m=jD (e.Args.drop k) m n)) (fun ⟨k,n⟩=>e.Args.length-k) ⟨⟨0,n⟩,⟨by omega,hn1,by rw [hW,hn2,←hN];rfl⟩,Weak.mk [true] ⟨G,G,G,G,T⟩ O⟩ ?_
  rintro ⟨k,n⟩ ⟨hk3,hn3,hn4⟩
  show AWP _ _ _ _ _ ⟨[(8,vI k),(5,vI n)]++_,[]++_⟩
  refine zK<|F O<|A O<|zG O wL<|zJ zBa (R 0 O) O<|qC O g<|yD O<|A O<|rL0 O (fun g11_5=>zN O O) O<|rL0 O (fun g11_5=>zN O O) O<|rLz [(83,_),(84,_)] O gv1 ⟨O,O,O,O,T⟩ (fun g11_5=>wY O O O) O<|yQ O (fun h=>h)<|H<|zD O (fun c3=>?_) (fun c3=>?_)
  ·try simp only [I] at c3
   obtain ⟨a,ha⟩:=qY e.Args k (by omega)
   have hwa:=zGp a (m-n) (f5 a (zZ ha))
   refine zM<|zK<|zR<|zQ O<|A O<|zG O wL<|zJ zBa (R 0 O) O<|A O<|qD O g (by omega) (zEn (by assumption))<|zP kA qA O<|A O<|A O<|zU O (yE O O O ⟨by omega,by omega⟩)<|qI O ok77 (ih a (zZ ha) (m-n) _ (f5 a (zZ ha)) (by omega) (by omega)) ⟨G,O,G,O,T⟩<|qJ O ⟨by omega,by omega⟩<|A O<|H<|zQ O<|A O<|qJ O ⟨by omega,by omega⟩<|A O<|H ?_
   refine ⟨⟨k+1,n+fU a (m-n)⟩,⟨by omega,by omega,by rw [hn4,qR ha,jD,if_pos (by omega)]⟩,(by show e.Args.length-(k+1)<e.Args.length-k;omega),Weak.mk [true] ⟨G,VLe.of_eq (congrArg vI (by omega)),G,G,T⟩ O⟩
  ·try simp only [I] at c3
   refine qQ<|F O<|A O<|A O<|H<|o<|X O ?_
   exact congrArg vI (by rw [hn4,←weighL_end hx (by omega)])
theorem base_Weigh (e:Ex) (m:Nat) (x:Int) (hf:e.fit) (hm:m<=1000000) (hx:x=m):Pur cfg 77 [vE e,vI x] (vI (fU e m)):=by
  induction e using Ex.ind generalizing m x with
  |_ e ih=>exact zWy e (fun a ha m x h1 h2 h3=>ih a ha m x h1 h2 h3) m x hf hm hx
theorem zPt (l:List Mono) (hl:l.length<=5864062014805):
    OwnR cfg 139 [tH l] 69 2 (l.map Mono.cells):=by
 refine zT Tryz.func139 O Tryz.ntmps139 Tryz.results139 O ?_
 intro z hz
 refine F O<|qX 2 O<|H<|zK<|F O<|A O<|zV O O (zGx O P O O) ?_
 rintro _ _ ⟨nb1,rfl,hnil1,rfl⟩
 refine H<|zD O (fun c1=>?_) (fun c1=>?_)
 ·try simp only [I] at c1
  refine F O<|A O<|yI _ (kR 69 2)<|H<|o<|X O ?_
  exact ⟨_,O,by rw [hnil1 c1]⟩
 ·try simp only [I] at c1
  refine zM<|F O<|zV O O (zCe O P zr69 O O O O) ?_
  rintro _ _ ⟨sv3,rfl,rfl⟩
  refine A O<|zV O O (qV 0 O P O O O (by simp only [List.length_map,List.length_nil,Nat.zero_add];omega) (by simp only [List.length_map,List.length_nil,Nat.zero_add];omega)) ?_
  rintro _ _ ⟨sv4,rfl,rfl⟩
  refine A O<|H<|o<|X O ?_
  exact ⟨_,O,O⟩
theorem zRm (l:List Lf) (hl:l.length<=4294967296):
    OwnR cfg 134 [rZ l] 41 2 (l.map Lf.cells):=by
 refine zT Tryz.func134 O Tryz.ntmps134 Tryz.results134 O ?_
 intro z hz
 refine F O<|qX 2 O<|H<|zK<|F O<|A O<|zV O O (zGx O el70 O O) ?_
 rintro _ _ ⟨nb1,rfl,hnil1,rfl⟩
 refine H<|zD O (fun c1=>?_) (fun c1=>?_)
 ·try simp only [I] at c1
  refine F O<|A O<|yI _ (kR 41 2)<|H<|o<|X O ?_
  exact ⟨_,O,by rw [hnil1 c1]⟩
 ·try simp only [I] at c1
  refine zM<|F O<|zV O O (zCe O el70 v O O O O) ?_
  rintro _ _ ⟨sv3,rfl,rfl⟩
  refine A O<|zV O O (qV 0 O el70 O O O (by simp only [List.length_map,List.length_nil,Nat.zero_add];omega) (by simp only [List.length_map,List.length_nil,Nat.zero_add];omega)) ?_
  rintro _ _ ⟨sv4,rfl,rfl⟩
  refine A O<|H<|o<|X O ?_
  exact ⟨_,O,O⟩
theorem zUf (l:List Ix) (hl:l.length<=4294967296):
    OwnR cfg 133 [gM l] 72 4 (l.map Ix.cells):=by
 refine zT Tryz.func133 O Tryz.ntmps133 Tryz.results133 O ?_
 intro z hz
 refine F O<|qX 4 O<|H<|zK<|F O<|A O<|zV O O (zGx O d O O) ?_
 rintro _ _ ⟨nb1,rfl,hnil1,rfl⟩
 refine H<|zD O (fun c1=>?_) (fun c1=>?_)
 ·try simp only [I] at c1
  refine F O<|A O<|yI _ (kR 72 4)<|H<|o<|X O ?_
  exact ⟨_,O,by rw [hnil1 c1]⟩
 ·try simp only [I] at c1
  refine zM<|F O<|zV O O (zCe O d zr72 O O O O) ?_
  rintro _ _ ⟨sv3,rfl,rfl⟩
  refine A O<|zV O O (qV 0 O d O O O (by simp only [List.length_map,List.length_nil,Nat.zero_add];omega) (by simp only [List.length_map,List.length_nil,Nat.zero_add];omega)) ?_
  rintro _ _ ⟨sv4,rfl,rfl⟩
  refine A O<|H<|o<|X O ?_
  exact ⟨_,O,O⟩
theorem zUg (l:List Ex) (hl:l.length<=4294967296):
    OwnR cfg 173 [vEs l] 44 13 (l.map Ex.cells):=by
 refine zT Tryz.func173 O Tryz.ntmps173 Tryz.results173 O ?_
 intro z hz
 refine F O<|qX 13 O<|H<|zK<|F O<|A O<|zV O O (zGx O g O O) ?_
 rintro _ _ ⟨nb1,rfl,hnil1,rfl⟩
 refine H<|zD O (fun c1=>?_) (fun c1=>?_)
 ·try simp only [I] at c1
  refine F O<|A O<|yI _ (kR 44 13)<|H<|o<|X O ?_
  exact ⟨_,O,by rw [hnil1 c1]⟩
 ·try simp only [I] at c1
  refine zM<|F O<|zV O O (zCe O g zr44 O O O O) ?_
  rintro _ _ ⟨sv3,rfl,rfl⟩
  refine A O<|zV O O (qV 0 O g O O O (by simp only [List.length_map,List.length_nil,Nat.zero_add];omega) (by simp only [List.length_map,List.length_nil,Nat.zero_add];omega)) ?_
  rintro _ _ ⟨sv4,rfl,rfl⟩
  refine A O<|H<|o<|X O ?_
  exact ⟨_,O,O⟩
end Go.W
