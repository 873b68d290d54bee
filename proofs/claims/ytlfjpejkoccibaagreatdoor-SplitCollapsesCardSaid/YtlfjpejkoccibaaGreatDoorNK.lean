/-
  What functions compute.
  Conditions: none.
-/
import Derived.Test.YtlfjpejkoccibaaGreatDoorNJ
set_option linter.unusedSimpArgs false
set_option linter.unusedVariables false
set_option maxRecDepth 10000
namespace Go.W
open Go Go.Eng Go.Proofs Go.L41 Go.Br
attribute [local irreducible] AWP RWP TD fH
theorem ok43:bA Tryz.prog 43=true:=by kernel_rfl
theorem ok95:bA Tryz.prog 95=true:=by kernel_rfl
theorem zPg (a b:List St) (hE:∀x,x∈a->∀y,Pur cfg 95 [vSt x,vSt y] (vB (decide (x=y)))) (ha:a.length<=4294967296):
    Pur cfg 43 [bM a,bM b] (vB (decide (a=b))):=by
 refine zT Tryz.func43 O Tryz.ntmps43 Tryz.results43 O ?_
 intro z hz
 refine F O<|A O<|H<|zK<|F O<|A O<|qC O D<|A O<|qC O D<|yM O<|H<|zD O (fun c1=>?_) (fun c1=>?_)
 ·try simp only [I] at c1
  refine F O<|A O<|H<|o<|X O ?_
  rw [yO (fun h=>c1 (by rw [h]))]
 ·try simp only [I] at c1
  refine zM<|zK<|F O<|A O<|H<|zR<|zY ⟨[(5,.c _),(0,.c _),(1,.c _)],[]⟩ (Weak.mk [] ⟨G,G,G,T⟩ O)<|qK 1 0 O O (Nat) (fun k=>[(5,vI k)]) (fun k=>[]) (fun k=>k<=a.length/\(a.take k=b.take k)) (fun k=>a.length-k) ⟨0,⟨by omega,O⟩,Weak.mk [] ⟨G,G,G,T⟩ O⟩ ?_
  rintro k ⟨hk,hp⟩
  refine zK<|F O<|A O<|A O<|qC O D<|yD O<|H<|zD O (fun c2=>?_) (fun c2=>?_)
  ·try simp only [I] at c2
   obtain ⟨x,hx⟩:=qY a k (by omega)
   obtain ⟨y,hy⟩:=qY b k (by omega)
   refine zM<|zK<|zR<|zK<|qZ 10 mixed (by kernel_rfl) O O<|M O O (zN O O)<|M O O (zN O O)<|M O O (qF O D O O (by omega) (wD hx))<|M O O (qB O zAv O qA O)<|M O O (zN O O)<|M O O (zN O O)<|M O O (qF O D O O (by omega) (wD hy))<|M O O (qB O zAv O qA O)<|M O O (qM O ok95 (hE x (zZ hx) y) ⟨G,O,G,O,T⟩)<|M O O (kW O O)<|kE<|H<|zD O (fun c3=>?_) (fun c3=>?_)
   ·try simp only [I] at c3
    refine F O<|A O<|H<|o<|X O ?_
    rw [yO (zFq hx hy c3)]
   ·try simp only [I] at c3
    refine zM<|zQ O<|A O<|qJ O ⟨by omega,by omega⟩<|A O<|H ?_
    refine ⟨k+1,⟨by omega,zBv hx hy hp c3⟩,(by omega),Weak.mk [] ⟨G,G,G,T⟩ O⟩
  ·try simp only [I] at c2
   refine qQ<|F O<|A O<|H<|o<|X O ?_
   rw [wR (zDz hp (by omega) (by omega))]
theorem base_Stmt_step (a:St) (ih:∀x,x∈a.Body->x.wt<=4294967296->∀y,Pur cfg 95 [vSt x,vSt y] (vB (decide (x=y)))) (ha:a.wt<=4294967296) (b:St):
    Pur cfg 95 [vSt a,vSt b] (vB (decide (a=b))):=by
 refine zT Tryz.func95 O Tryz.ntmps95 Tryz.results95 O ?_
 intro z hz
 have hw:=St.wt_eq a
 have hbl:=kO a.Body
 refine F O<|zV O O (qN O O) ?_
 rintro _ _ ⟨b1,rfl,rfl⟩
 refine zV O O (qN O O) ?_
 rintro _ _ ⟨b2,rfl,rfl⟩
 refine A O<|H<|F O<|zG O zAp<|zJ one3 (R 1 O) O<|zG O zAp<|zJ one3 (R 0 O) O<|yF O<|A O<|rL0 O (fun g1_5=>zE O zAj O) O<|B 11 O (fun g1_5=>zF O one9 O (R 1 O) O) O<|rL0 O (fun g1_5=>zE O zAj O) O<|B 13 O (fun g1_5=>zF O one9 O (R 0 O) O) O<|rLz [(12,_),(14,_)] O gv1 ⟨O,O,O,O,T⟩ (fun g1_5=>yR O O O) O<|yQ O (fun h=>h)<|A O<|rL0 O (fun g1_12=>zE O zAc O) O<|B 18 O (fun g1_12=>zF O one3 O (R 1 O) O) O<|rL0 O (fun g1_12=>zE O zAc O) O<|B 20 O (fun g1_12=>zF O one3 O (R 0 O) O) O<|rLz [(19,_),(21,_)] O gv1 ⟨O,O,O,O,T⟩ (fun g1_12=>yH O O O) O<|yQ O (fun h=>h)<|A O<|rL0 O (fun g1_19=>zE O zHg O) O<|B 25 O (fun g1_19=>zF O one3 O (R 1 O) O) O<|rL0 O (fun g1_19=>zE O zHg O) O<|B 27 O (fun g1_19=>zF O one3 O (R 0 O) O) O<|rLz [(26,_),(28,_)] O gv1 ⟨O,O,O,O,T⟩ (fun g1_19=>yH O O O) O<|yQ O (fun h=>h)<|A O<|rL0 O (fun g1_26=>zE O zRe O) O<|B 32 O (fun g1_26=>zF O one3 O (R 1 O) O) O<|rL0 O (fun g1_26=>zE O zRe O) O<|B 34 O (fun g1_26=>zF O one3 O (R 0 O) O) O<|rLz [(33,_),(35,_)] O gv1 ⟨O,O,O,O,T⟩ (fun g1_26=>yH O O O) O<|yQ O (fun h=>h)<|A O<|rL0 O (fun g1_33=>zE O zDo O) O<|B 39 O (fun g1_33=>zF O wO O (R 1 O) O) O<|rL0 O (fun g1_33=>zE O zDo O) O<|B 41 O (fun g1_33=>zF O wO O (R 0 O) O) O<|rLz [(40,_),(42,_)] O gv1 ⟨O,O,O,O,T⟩ (fun g1_33=>qM O ok140 (zRi a.Idx b.Idx (by omega) (by omega)) ⟨G,O,G,O,T⟩) O<|yQ O (fun h=>h)<|A O<|rL0 O (fun g1_40=>zE O zAz O) O<|B 46 O (fun g1_40=>qB O kA O (R 1 O) O) O<|rL0 O (fun g1_40=>zE O zAz O) O<|B 48 O (fun g1_40=>qB O kA O (R 0 O) O) O<|rLz [(47,_),(49,_)] O gv1 ⟨O,O,O,O,T⟩ (fun g1_40=>qM O ok141 (base_Expr a.E b.E (by omega)) ⟨G,O,G,O,T⟩) O<|yQ O (fun h=>h)<|A O<|rL0 O (fun g1_47=>zE O kK O) O<|B 53 O (fun g1_47=>zF O kP O (R 1 O) O) O<|rL0 O (fun g1_47=>zE O kK O) O<|B 55 O (fun g1_47=>zF O kP O (R 0 O) O) O<|rLz [(54,_),(56,_)] O gv1 ⟨O,O,O,O,T⟩ (fun g1_47=>qM O ok43 (zPg a.Body b.Body (fun x hx y=>ih x hx (by have:=yC hx;omega) y) (by omega)) ⟨G,O,G,O,T⟩) O<|yQ O (fun h=>h)<|A O<|H<|o<|X O ?_
 exact congrArg vB (st_eq a b)
theorem base_Stmt (a b:St) (ha:a.wt<=4294967296):Pur cfg 95 [vSt a,vSt b] (vB (decide (a=b))):=by
  induction a using St.ind generalizing b with
  |_ a ih=>exact base_Stmt_step a (fun x hx h y=>ih x hx y h) ha b
theorem base_Stmts (a b:List St) (ha:bC a<=4294967296):Pur cfg 43 [bM a,bM b] (vB (decide (a=b))):=
  zPg a b (fun x hx y=>base_Stmt x y (by have:=yC hx;omega)) (by have:=kO a;omega)
theorem base_Nest (a b:Ns) (ha:a.Ok):
    Pur cfg 14 [vNs a,vNs b] (vB (decide (a=b))):=by
 refine zT Tryz.func14 O Tryz.ntmps14 Tryz.results14 O ?_
 intro z hz
 have hab:=ha.bufs
 have hbw:=ha.body
 refine F O<|zV O O (qN O O) ?_
 rintro _ _ ⟨b1,rfl,rfl⟩
 refine zV O O (qN O O) ?_
 rintro _ _ ⟨b2,rfl,rfl⟩
 refine A O<|H<|zK<|F O<|zG O zAt<|zJ zEk (R 1 O) O<|qC O el22<|zG O zAt<|zJ zEk (R 0 O) O<|qC O el22<|yM O<|H<|zD O (fun c1=>?_) (fun c1=>?_)
 ·try simp only [I] at c1
  refine F O<|A O<|H<|o<|X O ?_
  rw [yO (fun h=>c1 (by rw [h]))]
 ·try simp only [I] at c1
  refine zM<|zK<|F O<|A O<|H<|zR<|zY ⟨[(5,.c _),(2,.c _),(3,.c _)],[_,_]⟩ (Weak.mk [true,true] ⟨G,G,G,T⟩ O)<|qK 1 0 O O (Nat) (fun k=>[(5,vI k)]) (fun k=>[]) (fun k=>k<=a.Bufs.length/\(a.Bufs.take k=b.Bufs.take k)) (fun k=>a.Bufs.length-k) ⟨0,⟨by omega,O⟩,Weak.mk [true,true] ⟨G,G,G,T⟩ O⟩ ?_
  rintro k ⟨hk,hp⟩
  refine zK<|F O<|A O<|zG O zAt<|zJ zEk (R 1 O) O<|qC O el22<|yD O<|H<|zD O (fun c2=>?_) (fun c2=>?_)
  ·try simp only [I] at c2
   obtain ⟨x,hx⟩:=qY a.Bufs k (by omega)
   obtain ⟨y,hy⟩:=qY b.Bufs k (by omega)
   refine zM<|zK<|zR<|zK<|kL 13 2 [⟨0,.q []⟩,⟨1,.q [3]⟩,⟨2,.q []⟩,⟨3,.q []⟩,⟨4,.q []⟩,⟨5,.q []⟩,⟨6,.q [2]⟩,⟨7,.q []⟩,⟨8,.q []⟩,⟨9,.q []⟩,⟨10,.f 1⟩,⟨11,.f 0⟩,⟨12,.g 1 []⟩] mixed (by kernel_rfl) (by kernel_rfl) O O O<|p O<|p O<|p O<|p O<|p O<|p O<|p O<|p O<|p O<|p O<|zOq O O (zEo (qE [none,none,none,none,none,none,some 1,none] O zr65 O)) ⟨_,_,0,O,O⟩<|zOq O O (zEo (qE [none,none,none,none,none,none,some 1,none] O zr65 O)) ⟨_,_,0,O,O⟩<|p O<|zBo<|t O (by decide) O O (zE O zAt O)<|t O (by decide) O O (zF O zEk O (R 0 O) O)<|t O (by decide) O O (zN O O)<|t O (by decide) O O (qF O el22 O O (by omega) (Q (by assumption)))<|t O (by decide) O O (qB O zMz O qA O)<|t O (by decide) O O (zE O zAt O)<|t O (by decide) O O (zF O zEk O (R 0 O) O)<|t O (by decide) O O (zN O O)<|t O (by decide) O O (qF O el22 O O (by omega) (Q (by assumption)))<|t O (by decide) O O (qB O zMz O qA O)<|zNn O O ?_
   rintro _ _ ⟨b3,rfl,rfl⟩
   refine zNn O O ?_
   rintro _ _ ⟨b4,rfl,rfl⟩
   refine sq_v0 O O (by decide) O O O (kB O sz65 O O O (zFl 0 O O)) O<|zBl O<|Y 0 sz65 O<|H<|F O<|zG O zMi<|zJ one9 (R 1 O) O<|zG O zMi<|zJ one9 (R 0 O) O<|zU O (zBu O O O)<|A O<|rL0 O (fun g7_5=>zE O zKm O) O<|B 38 O (fun g7_5=>qB O yN O (R 1 O) O) O<|rL0 O (fun g7_5=>zE O zKm O) O<|B 40 O (fun g7_5=>qB O yN O (R 0 O) O) O<|rLz [(39,_),(41,_)] O gv1 ⟨O,O,O,O,T⟩ (fun g7_5=>zBk O fl38 O O O) O<|r_or O (fun h=>(lzf h))<|A O<|rL0 O (fun g7_12=>zE O zRd O) O<|B 45 O (fun g7_12=>zF O one3 O (R 1 O) O) O<|rL0 O (fun g7_12=>zE O zRd O) O<|B 47 O (fun g7_12=>zF O one3 O (R 0 O) O) O<|rLz [(46,_),(48,_)] O gv1 ⟨O,O,O,O,T⟩ (fun g7_12=>kN O O O) O<|r_or O (fun h=>(lzf h))<|A O<|rL0 O (fun g7_19=>zE O zMh O) O<|B 52 O (fun g7_19=>zF O zGy O (R 1 O) O) O<|rL0 O (fun g7_19=>zE O zMh O) O<|B 54 O (fun g7_19=>zF O zGy O (R 0 O) O) O<|rLz [(53,_),(55,_)] O gv1 ⟨O,O,O,O,T⟩ (fun g7_19=>qM O ok36 (base_Ints x.Dims y.Dims (ha.dims x (zZ hx))) ⟨G,O,G,O,T⟩) O<|B 56 O (fun g7_19=>kW O O) O<|r_or O (fun h=>(lzf h))<|H<|zD O (fun c3=>?_) (fun c3=>?_)
   ·have c3:(!decide (x.Name=y.Name)|| !dJ [cI x.T.Kind,cI x.T.Bits,cI x.T.Frac,cI x.T.Round,cI x.T.Over] [cI y.T.Kind,cI y.T.Bits,cI y.T.Frac,cI y.T.Round,cI y.T.Over]|| !decide (x.Use=y.Use)|| !decide (x.Dims=y.Dims))=true:=c3
    rw [bf_ne] at c3
    have c3:¬x=y:=by simpa using c3
    refine F O<|A O<|H<|o<|X O ?_
    rw [yO (fun h=>zFq hx hy c3 (by rw [h]))]
   ·have c3:(!decide (x.Name=y.Name)|| !dJ [cI x.T.Kind,cI x.T.Bits,cI x.T.Frac,cI x.T.Round,cI x.T.Over] [cI y.T.Kind,cI y.T.Bits,cI y.T.Frac,cI y.T.Round,cI y.T.Over]|| !decide (x.Use=y.Use)|| !decide (x.Dims=y.Dims))=false:=by first|exact c3|simpa using c3
    rw [bf_ne] at c3
    have c3:x=y:=by simpa using c3
    refine zM<|zQ O<|A O<|qJ O ⟨by omega,by omega⟩<|A O<|H ?_
    refine ⟨k+1,⟨by omega,zBv hx hy hp c3⟩,(by omega),Weak.mk [false,false,true,true] ⟨G,G,G,T⟩ O⟩
  ·try simp only [I] at c2
   refine qQ<|F O<|zG O zAd<|zJ kP (R 1 O) O<|zG O zAd<|zJ kP (R 0 O) O<|qI O ok43 (base_Stmts a.Body b.Body (by omega)) ⟨G,O,G,O,T⟩<|A O<|H<|o<|X O ?_
   have hbe:=zDz hp (by omega) (by omega)
   exact congrArg vB (decide_eq_decide.2 (by rw [Ns.eq_iff];simp [hbe]))
theorem lin_SubstR (l:Lf) (s:ByteArray) (u:Lf) (hl:l.L.length<=4294967296) (ht:u.L.length<=4294967296) (hrl:l.rng) (hrt:u.rng):Pur cfg 109 [bZ l,vS s,bZ u] (.tup [bZ (bI l s u).1,vI (bI l s u).2]):=by
  have h:=lin_Substitute l s u hl ht hrl hrt
  rw [subst_eq hrl] at h;exact h
end Go.W
