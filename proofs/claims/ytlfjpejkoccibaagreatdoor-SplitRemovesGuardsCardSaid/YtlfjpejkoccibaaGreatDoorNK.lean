/-
  Walks: what functions of the program compute. Printed by wip/gen/mk2.py.
  Conditions: none.
-/
import Derived.Test.YtlfjpejkoccibaaGreatDoorNJ
set_option linter.unusedSimpArgs false
set_option linter.unusedVariables false
set_option maxRecDepth 10000
namespace Go.W
open Go Go.Eng Go.Proofs Go.L41 Go.Br
attribute [local irreducible] AWP RWP TD finQ
theorem ok43:callOk Tryz.prog 43=true:=by kernel_rfl
theorem ok95:callOk Tryz.prog 95=true:=by kernel_rfl
theorem zMm (a b:List St) (hE:∀x,x∈a->∀y,Pur cfg 95 [vSt x,vSt y] (vB (decide (x=y)))) (ha:a.length<=4294967296):
    Pur cfg 43 [vSts a,vSts b] (vB (decide (a=b))):=by
 refine zR Tryz.func43 O Tryz.ntmps43 Tryz.results43 O ?_
 intro z hz
 refine G O<|F O<|I<|zJ<|G O<|F O<|qB O K<|F O<|qB O K<|yR O<|I<|zF O (fun c1=>?_) (fun c1=>?_)
 ·try simp only [R] at c1
  refine G O<|F O<|I<|o<|X O ?_
  rw [yJ (fun h=>c1 (by rw [h]))]
 ·try simp only [R] at c1
  refine zI<|zJ<|G O<|F O<|I<|zQ<|zW ⟨[(5,.c _),(0,.c _),(1,.c _)],[]⟩ (Weak.mk [] ⟨H,H,H,T⟩ O)<|qK 1 0 O O (Nat) (fun k=>[(5,vI k)]) (fun k=>[]) (fun k=>k<=a.length/\(a.take k=b.take k)) (fun k=>a.length-k) ⟨0,⟨by omega,O⟩,Weak.mk [] ⟨H,H,H,T⟩ O⟩ ?_
  rintro k ⟨hk,hp⟩
  refine zJ<|G O<|F O<|F O<|qB O K<|yH O<|I<|zF O (fun c2=>?_) (fun c2=>?_)
  ·try simp only [R] at c2
   obtain ⟨x,hx⟩:=qW a k (by omega)
   obtain ⟨y,hy⟩:=qW b k (by omega)
   refine zI<|zJ<|zQ<|zJ<|qX 10 mixed (by kernel_rfl) O O<|M O O (zN O O)<|M O O (zN O O)<|M O O (qD O K O O (by omega) (wJ hx))<|M O O (zY O zBx O qA O)<|M O O (zN O O)<|M O O (zN O O)<|M O O (qD O K O O (by omega) (wJ hy))<|M O O (zY O zBx O qA O)<|M O O (qL O ok95 (hE x (zZ hx) y) ⟨H,O,H,O,T⟩)<|M O O (kV O O)<|kB<|I<|zF O (fun c3=>?_) (fun c3=>?_)
   ·try simp only [R] at c3
    refine G O<|F O<|I<|o<|X O ?_
    rw [yJ (zEh hx hy c3)]
   ·try simp only [R] at c3
    refine zI<|zS O<|F O<|qH O ⟨by omega,by omega⟩<|F O<|I ?_
    refine ⟨k+1,⟨by omega,zBc hx hy hp c3⟩,(by omega),Weak.mk [] ⟨H,H,H,T⟩ O⟩
  ·try simp only [R] at c2
   refine qN<|G O<|F O<|I<|o<|X O ?_
   rw [wM (zDd hp (by omega) (by omega))]
theorem base_Stmt_step (a:St) (ih:∀x,x∈a.Body->x.wt<=4294967296->∀y,Pur cfg 95 [vSt x,vSt y] (vB (decide (x=y)))) (ha:a.wt<=4294967296) (b:St):
    Pur cfg 95 [vSt a,vSt b] (vB (decide (a=b))):=by
 refine zR Tryz.func95 O Tryz.ntmps95 Tryz.results95 O ?_
 intro z hz
 have hw:=St.wt_eq a
 have hbl:=kN a.Body
 refine G O<|zU O O (qM O O) ?_
 rintro _ _ ⟨b1,rfl,rfl⟩
 refine zU O O (qM O O) ?_
 rintro _ _ ⟨b2,rfl,rfl⟩
 refine F O<|I<|G O<|zH O zAb<|zK J (Y 1 O) O<|zH O zAb<|zK J (Y 0 O) O<|yE O<|F O<|rL0 O (fun g1_5=>zD O zAf O) O<|B 11 O (fun g1_5=>Q O one9 O (Y 1 O) O) O<|rL0 O (fun g1_5=>zD O zAf O) O<|B 13 O (fun g1_5=>Q O one9 O (Y 0 O) O) O<|rLz [(12,_),(14,_)] O gv1 ⟨O,O,O,O,T⟩ (fun g1_5=>yU O O O) O<|yQ O (fun h=>h)<|F O<|rL0 O (fun g1_12=>zD O zAd O) O<|B 18 O (fun g1_12=>Q O J O (Y 1 O) O) O<|rL0 O (fun g1_12=>zD O zAd O) O<|B 20 O (fun g1_12=>Q O J O (Y 0 O) O) O<|rLz [(19,_),(21,_)] O gv1 ⟨O,O,O,O,T⟩ (fun g1_12=>yG O O O) O<|yQ O (fun h=>h)<|F O<|rL0 O (fun g1_19=>zD O zHd O) O<|B 25 O (fun g1_19=>Q O J O (Y 1 O) O) O<|rL0 O (fun g1_19=>zD O zHd O) O<|B 27 O (fun g1_19=>Q O J O (Y 0 O) O) O<|rLz [(26,_),(28,_)] O gv1 ⟨O,O,O,O,T⟩ (fun g1_19=>yG O O O) O<|yQ O (fun h=>h)<|F O<|rL0 O (fun g1_26=>zD O zOk O) O<|B 32 O (fun g1_26=>Q O J O (Y 1 O) O) O<|rL0 O (fun g1_26=>zD O zOk O) O<|B 34 O (fun g1_26=>Q O J O (Y 0 O) O) O<|rLz [(33,_),(35,_)] O gv1 ⟨O,O,O,O,T⟩ (fun g1_26=>yG O O O) O<|yQ O (fun h=>h)<|F O<|rL0 O (fun g1_33=>zD O zDt O) O<|B 39 O (fun g1_33=>Q O wR O (Y 1 O) O) O<|rL0 O (fun g1_33=>zD O zDt O) O<|B 41 O (fun g1_33=>Q O wR O (Y 0 O) O) O<|rLz [(40,_),(42,_)] O gv1 ⟨O,O,O,O,T⟩ (fun g1_33=>qL O ok140 (zOp a.Idx b.Idx (by omega) (by omega)) ⟨H,O,H,O,T⟩) O<|yQ O (fun h=>h)<|F O<|rL0 O (fun g1_40=>zD O zAp O) O<|B 46 O (fun g1_40=>zY O yX O (Y 1 O) O) O<|rL0 O (fun g1_40=>zD O zAp O) O<|B 48 O (fun g1_40=>zY O yX O (Y 0 O) O) O<|rLz [(47,_),(49,_)] O gv1 ⟨O,O,O,O,T⟩ (fun g1_40=>qL O ok141 (base_Expr a.E b.E (by omega)) ⟨H,O,H,O,T⟩) O<|yQ O (fun h=>h)<|F O<|rL0 O (fun g1_47=>zD O kP O) O<|B 53 O (fun g1_47=>Q O kT O (Y 1 O) O) O<|rL0 O (fun g1_47=>zD O kP O) O<|B 55 O (fun g1_47=>Q O kT O (Y 0 O) O) O<|rLz [(54,_),(56,_)] O gv1 ⟨O,O,O,O,T⟩ (fun g1_47=>qL O ok43 (zMm a.Body b.Body (fun x hx y=>ih x hx (by have:=yI hx;omega) y) (by omega)) ⟨H,O,H,O,T⟩) O<|yQ O (fun h=>h)<|F O<|I<|o<|X O ?_
 exact congrArg vB (st_eq a b)
theorem base_Stmt (a b:St) (ha:a.wt<=4294967296):Pur cfg 95 [vSt a,vSt b] (vB (decide (a=b))):=by
  induction a using St.ind generalizing b with
  |_ a ih=>exact base_Stmt_step a (fun x hx h y=>ih x hx y h) ha b
theorem base_Stmts (a b:List St) (ha:stsWt a<=4294967296):Pur cfg 43 [vSts a,vSts b] (vB (decide (a=b))):=
  zMm a b (fun x hx y=>base_Stmt x y (by have:=yI hx;omega)) (by have:=kN a;omega)
theorem base_Nest (a b:Ns) (ha:a.Ok):
    Pur cfg 14 [vNs a,vNs b] (vB (decide (a=b))):=by
 refine zR Tryz.func14 O Tryz.ntmps14 Tryz.results14 O ?_
 intro z hz
 have hab:=ha.bufs
 have hbw:=ha.body
 refine G O<|zU O O (qM O O) ?_
 rintro _ _ ⟨b1,rfl,rfl⟩
 refine zU O O (qM O O) ?_
 rintro _ _ ⟨b2,rfl,rfl⟩
 refine F O<|I<|zJ<|G O<|zH O zAg<|zK zDm (Y 1 O) O<|qB O el22<|zH O zAg<|zK zDm (Y 0 O) O<|qB O el22<|yR O<|I<|zF O (fun c1=>?_) (fun c1=>?_)
 ·try simp only [R] at c1
  refine G O<|F O<|I<|o<|X O ?_
  rw [yJ (fun h=>c1 (by rw [h]))]
 ·try simp only [R] at c1
  refine zI<|zJ<|G O<|F O<|I<|zQ<|zW ⟨[(5,.c _),(2,.c _),(3,.c _)],[_,_]⟩ (Weak.mk [true,true] ⟨H,H,H,T⟩ O)<|qK 1 0 O O (Nat) (fun k=>[(5,vI k)]) (fun k=>[]) (fun k=>k<=a.Bufs.length/\(a.Bufs.take k=b.Bufs.take k)) (fun k=>a.Bufs.length-k) ⟨0,⟨by omega,O⟩,Weak.mk [true,true] ⟨H,H,H,T⟩ O⟩ ?_
  rintro k ⟨hk,hp⟩
  refine zJ<|G O<|F O<|zH O zAg<|zK zDm (Y 1 O) O<|qB O el22<|yH O<|I<|zF O (fun c2=>?_) (fun c2=>?_)
  ·try simp only [R] at c2
   obtain ⟨x,hx⟩:=qW a.Bufs k (by omega)
   obtain ⟨y,hy⟩:=qW b.Bufs k (by omega)
   refine zI<|zJ<|zQ<|zJ<|kJ 13 2 [⟨0,.q []⟩,⟨1,.q [3]⟩,⟨2,.q []⟩,⟨3,.q []⟩,⟨4,.q []⟩,⟨5,.q []⟩,⟨6,.q [2]⟩,⟨7,.q []⟩,⟨8,.q []⟩,⟨9,.q []⟩,⟨10,.f 1⟩,⟨11,.f 0⟩,⟨12,.g 1 []⟩] mixed (by kernel_rfl) (by kernel_rfl) O O O<|t O<|t O<|t O<|t O<|t O<|t O<|t O<|t O<|t O<|t O<|zLz O O (zDn (qE [none,none,none,none,none,none,some 1,none] O zr65 O)) ⟨_,_,0,O,O⟩<|zLz O O (zDn (qE [none,none,none,none,none,none,some 1,none] O zr65 O)) ⟨_,_,0,O,O⟩<|t O<|zBj<|v O (by decide) O O (zD O zAg O)<|v O (by decide) O O (Q O zDm O (Y 0 O) O)<|v O (by decide) O O (zN O O)<|v O (by decide) O O (qD O el22 O O (by omega) (N (by assumption)))<|v O (by decide) O O (zY O zKu O qA O)<|v O (by decide) O O (zD O zAg O)<|v O (by decide) O O (Q O zDm O (Y 0 O) O)<|v O (by decide) O O (zN O O)<|v O (by decide) O O (qD O el22 O O (by omega) (N (by assumption)))<|v O (by decide) O O (zY O zKu O qA O)<|zLd O O ?_
   rintro _ _ ⟨b3,rfl,rfl⟩
   refine zLd O O ?_
   rintro _ _ ⟨b4,rfl,rfl⟩
   refine sq_v0 O O (by decide) O O O (yV O sz65 O O O (zFf 0 O O)) O<|zBd O<|D 0 sz65 O<|I<|G O<|zH O zKa<|zK one9 (Y 1 O) O<|zH O zKa<|zK one9 (Y 0 O) O<|zX O (zBb O O O)<|F O<|rL0 O (fun g7_5=>zD O zIr O) O<|B 38 O (fun g7_5=>zY O yK O (Y 1 O) O) O<|rL0 O (fun g7_5=>zD O zIr O) O<|B 40 O (fun g7_5=>zY O yK O (Y 0 O) O) O<|rLz [(39,_),(41,_)] O gv1 ⟨O,O,O,O,T⟩ (fun g7_5=>zAu O fl38 O O O) O<|r_or O (fun h=>(lzf h))<|F O<|rL0 O (fun g7_12=>zD O zOj O) O<|B 45 O (fun g7_12=>Q O J O (Y 1 O) O) O<|rL0 O (fun g7_12=>zD O zOj O) O<|B 47 O (fun g7_12=>Q O J O (Y 0 O) O) O<|rLz [(46,_),(48,_)] O gv1 ⟨O,O,O,O,T⟩ (fun g7_12=>kH O O O) O<|r_or O (fun h=>(lzf h))<|F O<|rL0 O (fun g7_19=>zD O zJz O) O<|B 52 O (fun g7_19=>Q O zFm O (Y 1 O) O) O<|rL0 O (fun g7_19=>zD O zJz O) O<|B 54 O (fun g7_19=>Q O zFm O (Y 0 O) O) O<|rLz [(53,_),(55,_)] O gv1 ⟨O,O,O,O,T⟩ (fun g7_19=>qL O ok36 (base_Ints x.Dims y.Dims (ha.dims x (zZ hx))) ⟨H,O,H,O,T⟩) O<|B 56 O (fun g7_19=>kV O O) O<|r_or O (fun h=>(lzf h))<|I<|zF O (fun c3=>?_) (fun c3=>?_)
   ·have c3:(!decide (x.Name=y.Name)|| !litsEq [cI x.T.Kind,cI x.T.Bits,cI x.T.Frac,cI x.T.Round,cI x.T.Over] [cI y.T.Kind,cI y.T.Bits,cI y.T.Frac,cI y.T.Round,cI y.T.Over]|| !decide (x.Use=y.Use)|| !decide (x.Dims=y.Dims))=true:=c3
    rw [bf_ne] at c3
    have c3:¬x=y:=by simpa using c3
    refine G O<|F O<|I<|o<|X O ?_
    rw [yJ (fun h=>zEh hx hy c3 (by rw [h]))]
   ·have c3:(!decide (x.Name=y.Name)|| !litsEq [cI x.T.Kind,cI x.T.Bits,cI x.T.Frac,cI x.T.Round,cI x.T.Over] [cI y.T.Kind,cI y.T.Bits,cI y.T.Frac,cI y.T.Round,cI y.T.Over]|| !decide (x.Use=y.Use)|| !decide (x.Dims=y.Dims))=false:=by first|exact c3|simpa using c3
    rw [bf_ne] at c3
    have c3:x=y:=by simpa using c3
    refine zI<|zS O<|F O<|qH O ⟨by omega,by omega⟩<|F O<|I ?_
    refine ⟨k+1,⟨by omega,zBc hx hy hp c3⟩,(by omega),Weak.mk [false,false,true,true] ⟨H,H,H,T⟩ O⟩
  ·try simp only [R] at c2
   refine qN<|G O<|zH O zAc<|zK kT (Y 1 O) O<|zH O zAc<|zK kT (Y 0 O) O<|qJ O ok43 (base_Stmts a.Body b.Body (by omega)) ⟨H,O,H,O,T⟩<|F O<|I<|o<|X O ?_
   have hbe:=zDd hp (by omega) (by omega)
   exact congrArg vB (decide_eq_decide.2 (by rw [Ns.eq_iff];simp [hbe]))
theorem lin_SubstR (l:Lf) (s:ByteArray) (u:Lf) (hl:l.L.length<=4294967296) (ht:u.L.length<=4294967296) (hrl:l.rng) (hrt:u.rng):Pur cfg 109 [vLin l,vS s,vLin u] (.tup [vLin (substR l s u).1,vI (substR l s u).2]):=by
  have h:=lin_Substitute l s u hl ht hrl hrt
  rw [subst_eq hrl] at h;exact h
end Go.W
