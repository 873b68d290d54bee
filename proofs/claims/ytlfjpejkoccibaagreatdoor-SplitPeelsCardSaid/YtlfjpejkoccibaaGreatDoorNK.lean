/-
  Walks: what functions of the program compute. Printed by wip/gen/mk2.py.
  Conditions: none.
-/
import Derived.Test.YtlfjpejkoccibaaGreatDoorNJ
set_option linter.unusedSimpArgs false
set_option linter.unusedVariables false
set_option maxRecDepth 10000
namespace Go.W
open Go Go.Eng Go.Proofs Go.L41 Go.Br
attribute [local irreducible] AWP RWP TD finQ
theorem ok43:callOk Tryz.prog 43=true:=by kernel_rfl
theorem ok95:callOk Tryz.prog 95=true:=by kernel_rfl
theorem zOa (a b:List St) (hE:∀x,x∈a->∀y,Pur cfg 95 [vSt x,vSt y] (vB (decide (x=y)))) (ha:a.length<=4294967296):
    Pur cfg 43 [vSts a,vSts b] (vB (decide (a=b))):=by
 refine zT Tryz.func43 O Tryz.ntmps43 Tryz.results43 O ?_
 intro z hz
 refine F O<|A O<|G<|zJ<|F O<|A O<|qC O D<|A O<|qC O D<|yN O<|G<|zD O (fun c1=>?_) (fun c1=>?_)
 ·try simp only [I] at c1
  refine F O<|A O<|G<|o<|X O ?_
  rw [yQ (fun h=>c1 (by rw [h]))]
 ·try simp only [I] at c1
  refine zK<|zJ<|F O<|A O<|G<|zR<|zY ⟨[(5,.c _),(0,.c _),(1,.c _)],[]⟩ (Weak.mk [] ⟨H,H,H,T⟩ O)<|qK 1 0 O O (Nat) (fun k=>[(5,vI k)]) (fun k=>[]) (fun k=>k<=a.length/\(a.take k=b.take k)) (fun k=>a.length-k) ⟨0,⟨by omega,O⟩,Weak.mk [] ⟨H,H,H,T⟩ O⟩ ?_
  rintro k ⟨hk,hp⟩
  refine zJ<|F O<|A O<|A O<|qC O D<|yD O<|G<|zD O (fun c2=>?_) (fun c2=>?_)
  ·try simp only [I] at c2
   obtain ⟨x,hx⟩:=qV a k (by omega)
   obtain ⟨y,hy⟩:=qV b k (by omega)
   refine zK<|zJ<|zR<|zJ<|qY 10 mixed (by kernel_rfl) O O<|M O O (w O O)<|M O O (w O O)<|M O O (qG O D O O (by omega) (wG hx))<|M O O (zZ O zAt O qA O)<|M O O (w O O)<|M O O (w O O)<|M O O (qG O D O O (by omega) (wG hy))<|M O O (zZ O zAt O qA O)<|M O O (qM O ok95 (hE x (qB hx) y) ⟨H,O,H,O,T⟩)<|M O O (kX O O)<|kD<|G<|zD O (fun c3=>?_) (fun c3=>?_)
   ·try simp only [I] at c3
    refine F O<|A O<|G<|o<|X O ?_
    rw [yQ (zFf hx hy c3)]
   ·try simp only [I] at c3
    refine zK<|zQ O<|A O<|qJ O ⟨by omega,by omega⟩<|A O<|G ?_
    refine ⟨k+1,⟨by omega,zBq hx hy hp c3⟩,(by omega),Weak.mk [] ⟨H,H,H,T⟩ O⟩
  ·try simp only [I] at c2
   refine qQ<|F O<|A O<|G<|o<|X O ?_
   rw [wR (zDs hp (by omega) (by omega))]
theorem base_Stmt_step (a:St) (ih:∀x,x∈a.Body->x.wt<=4294967296->∀y,Pur cfg 95 [vSt x,vSt y] (vB (decide (x=y)))) (ha:a.wt<=4294967296) (b:St):
    Pur cfg 95 [vSt a,vSt b] (vB (decide (a=b))):=by
 refine zT Tryz.func95 O Tryz.ntmps95 Tryz.results95 O ?_
 intro z hz
 have hw:=St.wt_eq a
 have hbl:=kP a.Body
 refine F O<|zX O O (qN O O) ?_
 rintro _ _ ⟨b1,rfl,rfl⟩
 refine zX O O (qN O O) ?_
 rintro _ _ ⟨b2,rfl,rfl⟩
 refine A O<|G<|F O<|zH O zAm<|zM one3 (R 1 O) O<|zH O zAm<|zM one3 (R 0 O) O<|yF O<|A O<|rL0 O (fun g1_5=>zE O zAo O) O<|B 11 O (fun g1_5=>zF O one9 O (R 1 O) O) O<|rL0 O (fun g1_5=>zE O zAo O) O<|B 13 O (fun g1_5=>zF O one9 O (R 0 O) O) O<|rLz [(12,_),(14,_)] O gv1 ⟨O,O,O,O,T⟩ (fun g1_5=>yV O O O) O<|yS O (fun h=>h)<|A O<|rL0 O (fun g1_12=>zE O zAl O) O<|B 18 O (fun g1_12=>zF O one3 O (R 1 O) O) O<|rL0 O (fun g1_12=>zE O zAl O) O<|B 20 O (fun g1_12=>zF O one3 O (R 0 O) O) O<|rLz [(19,_),(21,_)] O gv1 ⟨O,O,O,O,T⟩ (fun g1_12=>yL O O O) O<|yS O (fun h=>h)<|A O<|rL0 O (fun g1_19=>zE O zFw O) O<|B 25 O (fun g1_19=>zF O one3 O (R 1 O) O) O<|rL0 O (fun g1_19=>zE O zFw O) O<|B 27 O (fun g1_19=>zF O one3 O (R 0 O) O) O<|rLz [(26,_),(28,_)] O gv1 ⟨O,O,O,O,T⟩ (fun g1_19=>yL O O O) O<|yS O (fun h=>h)<|A O<|rL0 O (fun g1_26=>zE O zPx O) O<|B 32 O (fun g1_26=>zF O one3 O (R 1 O) O) O<|rL0 O (fun g1_26=>zE O zPx O) O<|B 34 O (fun g1_26=>zF O one3 O (R 0 O) O) O<|rLz [(33,_),(35,_)] O gv1 ⟨O,O,O,O,T⟩ (fun g1_26=>yL O O O) O<|yS O (fun h=>h)<|A O<|rL0 O (fun g1_33=>zE O zDm O) O<|B 39 O (fun g1_33=>zF O wQ O (R 1 O) O) O<|rL0 O (fun g1_33=>zE O zDm O) O<|B 41 O (fun g1_33=>zF O wQ O (R 0 O) O) O<|rLz [(40,_),(42,_)] O gv1 ⟨O,O,O,O,T⟩ (fun g1_33=>qM O ok140 (zQc a.Idx b.Idx (by omega) (by omega)) ⟨H,O,H,O,T⟩) O<|yS O (fun h=>h)<|A O<|rL0 O (fun g1_40=>zE O zBd O) O<|B 46 O (fun g1_40=>zZ O kC O (R 1 O) O) O<|rL0 O (fun g1_40=>zE O zBd O) O<|B 48 O (fun g1_40=>zZ O kC O (R 0 O) O) O<|rLz [(47,_),(49,_)] O gv1 ⟨O,O,O,O,T⟩ (fun g1_40=>qM O ok141 (base_Expr a.E b.E (by omega)) ⟨H,O,H,O,T⟩) O<|yS O (fun h=>h)<|A O<|rL0 O (fun g1_47=>zE O kM O) O<|B 53 O (fun g1_47=>zF O kQ O (R 1 O) O) O<|rL0 O (fun g1_47=>zE O kM O) O<|B 55 O (fun g1_47=>zF O kQ O (R 0 O) O) O<|rLz [(54,_),(56,_)] O gv1 ⟨O,O,O,O,T⟩ (fun g1_47=>qM O ok43 (zOa a.Body b.Body (fun x hx y=>ih x hx (by have:=yE hx;omega) y) (by omega)) ⟨H,O,H,O,T⟩) O<|yS O (fun h=>h)<|A O<|G<|o<|X O ?_
 exact congrArg vB (st_eq a b)
theorem base_Stmt (a b:St) (ha:a.wt<=4294967296):Pur cfg 95 [vSt a,vSt b] (vB (decide (a=b))):=by
  induction a using St.ind generalizing b with
  |_ a ih=>exact base_Stmt_step a (fun x hx h y=>ih x hx y h) ha b
theorem base_Stmts (a b:List St) (ha:stsWt a<=4294967296):Pur cfg 43 [vSts a,vSts b] (vB (decide (a=b))):=
  zOa a b (fun x hx y=>base_Stmt x y (by have:=yE hx;omega)) (by have:=kP a;omega)
theorem base_Nest (a b:Ns) (ha:a.Ok):
    Pur cfg 14 [vNs a,vNs b] (vB (decide (a=b))):=by
 refine zT Tryz.func14 O Tryz.ntmps14 Tryz.results14 O ?_
 intro z hz
 have hab:=ha.bufs
 have hbw:=ha.body
 refine F O<|zX O O (qN O O) ?_
 rintro _ _ ⟨b1,rfl,rfl⟩
 refine zX O O (qN O O) ?_
 rintro _ _ ⟨b2,rfl,rfl⟩
 refine A O<|G<|zJ<|F O<|zH O zAr<|zM zEi (R 1 O) O<|qC O el22<|zH O zAr<|zM zEi (R 0 O) O<|qC O el22<|yN O<|G<|zD O (fun c1=>?_) (fun c1=>?_)
 ·try simp only [I] at c1
  refine F O<|A O<|G<|o<|X O ?_
  rw [yQ (fun h=>c1 (by rw [h]))]
 ·try simp only [I] at c1
  refine zK<|zJ<|F O<|A O<|G<|zR<|zY ⟨[(5,.c _),(2,.c _),(3,.c _)],[_,_]⟩ (Weak.mk [true,true] ⟨H,H,H,T⟩ O)<|qK 1 0 O O (Nat) (fun k=>[(5,vI k)]) (fun k=>[]) (fun k=>k<=a.Bufs.length/\(a.Bufs.take k=b.Bufs.take k)) (fun k=>a.Bufs.length-k) ⟨0,⟨by omega,O⟩,Weak.mk [true,true] ⟨H,H,H,T⟩ O⟩ ?_
  rintro k ⟨hk,hp⟩
  refine zJ<|F O<|A O<|zH O zAr<|zM zEi (R 1 O) O<|qC O el22<|yD O<|G<|zD O (fun c2=>?_) (fun c2=>?_)
  ·try simp only [I] at c2
   obtain ⟨x,hx⟩:=qV a.Bufs k (by omega)
   obtain ⟨y,hy⟩:=qV b.Bufs k (by omega)
   refine zK<|zJ<|zR<|zJ<|kH 13 2 [⟨0,.q []⟩,⟨1,.q [3]⟩,⟨2,.q []⟩,⟨3,.q []⟩,⟨4,.q []⟩,⟨5,.q []⟩,⟨6,.q [2]⟩,⟨7,.q []⟩,⟨8,.q []⟩,⟨9,.q []⟩,⟨10,.f 1⟩,⟨11,.f 0⟩,⟨12,.g 1 []⟩] mixed (by kernel_rfl) (by kernel_rfl) O O O<|t O<|t O<|t O<|t O<|t O<|t O<|t O<|t O<|t O<|t O<|zNl O O (zEj (qE [none,none,none,none,none,none,some 1,none] O zr65 O)) ⟨_,_,0,O,O⟩<|zNl O O (zEj (qE [none,none,none,none,none,none,some 1,none] O zr65 O)) ⟨_,_,0,O,O⟩<|t O<|zAz<|v O (by decide) O O (zE O zAr O)<|v O (by decide) O O (zF O zEi O (R 0 O) O)<|v O (by decide) O O (w O O)<|v O (by decide) O O (qG O el22 O O (by omega) (Q (by assumption)))<|v O (by decide) O O (zZ O zMa O qA O)<|v O (by decide) O O (zE O zAr O)<|v O (by decide) O O (zF O zEi O (R 0 O) O)<|v O (by decide) O O (w O O)<|v O (by decide) O O (qG O el22 O O (by omega) (Q (by assumption)))<|v O (by decide) O O (zZ O zMa O qA O)<|zMk O O ?_
   rintro _ _ ⟨b3,rfl,rfl⟩
   refine zMk O O ?_
   rintro _ _ ⟨b4,rfl,rfl⟩
   refine sq_v0 O O (by decide) O O O (yU O sz65 O O O (zEd 0 O O)) O<|zAv O<|Y 0 sz65 O<|G<|F O<|zH O zLi<|zM one9 (R 1 O) O<|zH O zLi<|zM one9 (R 0 O) O<|zU O (zAp O O O)<|A O<|rL0 O (fun g7_5=>zE O zJv O) O<|B 38 O (fun g7_5=>zZ O yR O (R 1 O) O) O<|rL0 O (fun g7_5=>zE O zJv O) O<|B 40 O (fun g7_5=>zZ O yR O (R 0 O) O) O<|rLz [(39,_),(41,_)] O gv1 ⟨O,O,O,O,T⟩ (fun g7_5=>zBj O fl38 O O O) O<|r_or O (fun h=>(lzf h))<|A O<|rL0 O (fun g7_12=>zE O zPw O) O<|B 45 O (fun g7_12=>zF O one3 O (R 1 O) O) O<|rL0 O (fun g7_12=>zE O zPw O) O<|B 47 O (fun g7_12=>zF O one3 O (R 0 O) O) O<|rLz [(46,_),(48,_)] O gv1 ⟨O,O,O,O,T⟩ (fun g7_12=>kR O O O) O<|r_or O (fun h=>(lzf h))<|A O<|rL0 O (fun g7_19=>zE O zLh O) O<|B 52 O (fun g7_19=>zF O zGo O (R 1 O) O) O<|rL0 O (fun g7_19=>zE O zLh O) O<|B 54 O (fun g7_19=>zF O zGo O (R 0 O) O) O<|rLz [(53,_),(55,_)] O gv1 ⟨O,O,O,O,T⟩ (fun g7_19=>qM O ok36 (base_Ints x.Dims y.Dims (ha.dims x (qB hx))) ⟨H,O,H,O,T⟩) O<|B 56 O (fun g7_19=>kX O O) O<|r_or O (fun h=>(lzf h))<|G<|zD O (fun c3=>?_) (fun c3=>?_)
   ·have c3:(!decide (x.Name=y.Name)|| !litsEq [cI x.T.Kind,cI x.T.Bits,cI x.T.Frac,cI x.T.Round,cI x.T.Over] [cI y.T.Kind,cI y.T.Bits,cI y.T.Frac,cI y.T.Round,cI y.T.Over]|| !decide (x.Use=y.Use)|| !decide (x.Dims=y.Dims))=true:=c3
    rw [bf_ne] at c3
    have c3:¬x=y:=by simpa using c3
    refine F O<|A O<|G<|o<|X O ?_
    rw [yQ (fun h=>zFf hx hy c3 (by rw [h]))]
   ·have c3:(!decide (x.Name=y.Name)|| !litsEq [cI x.T.Kind,cI x.T.Bits,cI x.T.Frac,cI x.T.Round,cI x.T.Over] [cI y.T.Kind,cI y.T.Bits,cI y.T.Frac,cI y.T.Round,cI y.T.Over]|| !decide (x.Use=y.Use)|| !decide (x.Dims=y.Dims))=false:=by first|exact c3|simpa using c3
    rw [bf_ne] at c3
    have c3:x=y:=by simpa using c3
    refine zK<|zQ O<|A O<|qJ O ⟨by omega,by omega⟩<|A O<|G ?_
    refine ⟨k+1,⟨by omega,zBq hx hy hp c3⟩,(by omega),Weak.mk [false,false,true,true] ⟨H,H,H,T⟩ O⟩
  ·try simp only [I] at c2
   refine qQ<|F O<|zH O zAd<|zM kQ (R 1 O) O<|zH O zAd<|zM kQ (R 0 O) O<|qI O ok43 (base_Stmts a.Body b.Body (by omega)) ⟨H,O,H,O,T⟩<|A O<|G<|o<|X O ?_
   have hbe:=zDs hp (by omega) (by omega)
   exact congrArg vB (decide_eq_decide.2 (by rw [Ns.eq_iff];simp [hbe]))
theorem lin_SubstR (l:Lf) (s:ByteArray) (u:Lf) (hl:l.L.length<=4294967296) (ht:u.L.length<=4294967296) (hrl:l.rng) (hrt:u.rng):Pur cfg 109 [vLin l,vS s,vLin u] (.tup [vLin (substR l s u).1,vI (substR l s u).2]):=by
  have h:=lin_Substitute l s u hl ht hrl hrt
  rw [subst_eq hrl] at h;exact h
end Go.W
