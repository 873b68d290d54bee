/-
  Walks: what functions of the program compute. Printed by wip/gen/mk2.py.
  Conditions: none.
-/
import Derived.Test.YtlfjpejkoccibaaGreatDoorNJ
set_option linter.unusedSimpArgs false
set_option linter.unusedVariables false
set_option maxRecDepth 10000
namespace Go.W
open Go Go.Eng Go.Proofs Go.L41 Go.Br
attribute [local irreducible] AWP RWP TD finQ
theorem ok43:callOk Tryz.prog 43=true:=by kernel_rfl
theorem ok95:callOk Tryz.prog 95=true:=by kernel_rfl
theorem zLi (a b:List St) (hE:∀x,x∈a->∀y,Pur cfg 95 [vSt x,vSt y] (vB (decide (x=y)))) (ha:a.length<=4294967296):
    Pur cfg 43 [vSts a,vSts b] (vB (decide (a=b))):=by
 refine zQ Tryz.func43 O Tryz.ntmps43 Tryz.results43 O ?_
 intro z hz
 refine F O<|A O<|H<|zI<|F O<|A O<|qB O K<|A O<|qB O K<|yP O<|H<|zD O (fun c1=>?_) (fun c1=>?_)
 ·try simp only [I] at c1
  refine F O<|A O<|H<|o<|X O ?_
  rw [yL (fun h=>c1 (by rw [h]))]
 ·try simp only [I] at c1
  refine zH<|zI<|F O<|A O<|H<|zS<|zV ⟨[(5,.c _),(0,.c _),(1,.c _)],[]⟩ (Weak.mk [] ⟨G,G,G,T⟩ O)<|qO 1 0 O O (Nat) (fun k=>[(5,vI k)]) (fun k=>[]) (fun k=>k<=a.length/\(a.take k=b.take k)) (fun k=>a.length-k) ⟨0,⟨by omega,O⟩,Weak.mk [] ⟨G,G,G,T⟩ O⟩ ?_
  rintro k ⟨hk,hp⟩
  refine zI<|F O<|A O<|A O<|qB O K<|yN O<|H<|zD O (fun c2=>?_) (fun c2=>?_)
  ·try simp only [I] at c2
   obtain ⟨x,hx⟩:=qZ a k (by omega)
   obtain ⟨y,hy⟩:=qZ b k (by omega)
   refine zH<|zI<|zS<|zI<|qY 10 mixed (by kernel_rfl) O O<|Y O O (w O O)<|Y O O (w O O)<|Y O O (qE O K O O (by omega) (kZ hx))<|Y O O (zX O zBw O qA O)<|Y O O (w O O)<|Y O O (w O O)<|Y O O (qE O K O O (by omega) (kZ hy))<|Y O O (zX O zBw O qA O)<|Y O O (qI O ok95 (hE x (zZ hx) y) ⟨G,O,G,O,T⟩)<|Y O O (wC O O)<|kH<|H<|zD O (fun c3=>?_) (fun c3=>?_)
   ·try simp only [I] at c3
    refine F O<|A O<|H<|o<|X O ?_
    rw [yL (zDs hx hy c3)]
   ·try simp only [I] at c3
    refine zH<|zT O<|A O<|qK O ⟨by omega,by omega⟩<|A O<|H ?_
    refine ⟨k+1,⟨by omega,zAl hx hy hp c3⟩,(by omega),Weak.mk [] ⟨G,G,G,T⟩ O⟩
  ·try simp only [I] at c2
   refine qQ<|F O<|A O<|H<|o<|X O ?_
   rw [wQ (zCr hp (by omega) (by omega))]
theorem base_Stmt_step (a:St) (ih:∀x,x∈a.Body->x.wt<=4294967296->∀y,Pur cfg 95 [vSt x,vSt y] (vB (decide (x=y)))) (ha:a.wt<=4294967296) (b:St):
    Pur cfg 95 [vSt a,vSt b] (vB (decide (a=b))):=by
 refine zQ Tryz.func95 O Tryz.ntmps95 Tryz.results95 O ?_
 intro z hz
 have hw:=St.wt_eq a
 have hbl:=kP a.Body
 refine F O<|zU O O (qL O O) ?_
 rintro _ _ ⟨b1,rfl,rfl⟩
 refine zU O O (qL O O) ?_
 rintro _ _ ⟨b2,rfl,rfl⟩
 refine A O<|H<|F O<|zJ O zBu<|zK J (R 1 O) O<|zJ O zBu<|zK J (R 0 O) O<|yZ O<|A O<|M O (fun g1_5=>zE O zBt O) O<|B 11 O (fun g1_5=>Q O one9 O (R 1 O) O) O<|M O (fun g1_5=>zE O zBt O) O<|B 13 O (fun g1_5=>Q O one9 O (R 0 O) O) O<|rLz [(12,_),(14,_)] O gv1 ⟨O,O,O,O,T⟩ (fun g1_5=>yM O O O) O<|kD O (fun h=>h)<|A O<|M O (fun g1_12=>zE O zAi O) O<|B 18 O (fun g1_12=>Q O J O (R 1 O) O) O<|M O (fun g1_12=>zE O zAi O) O<|B 20 O (fun g1_12=>Q O J O (R 0 O) O) O<|rLz [(19,_),(21,_)] O gv1 ⟨O,O,O,O,T⟩ (fun g1_12=>yX O O O) O<|kD O (fun h=>h)<|A O<|M O (fun g1_19=>zE O zKs O) O<|B 25 O (fun g1_19=>Q O J O (R 1 O) O) O<|M O (fun g1_19=>zE O zKs O) O<|B 27 O (fun g1_19=>Q O J O (R 0 O) O) O<|rLz [(26,_),(28,_)] O gv1 ⟨O,O,O,O,T⟩ (fun g1_19=>yX O O O) O<|kD O (fun h=>h)<|A O<|M O (fun g1_26=>zE O fd46_4 O) O<|B 32 O (fun g1_26=>Q O J O (R 1 O) O) O<|M O (fun g1_26=>zE O fd46_4 O) O<|B 34 O (fun g1_26=>Q O J O (R 0 O) O) O<|rLz [(33,_),(35,_)] O gv1 ⟨O,O,O,O,T⟩ (fun g1_26=>yX O O O) O<|kD O (fun h=>h)<|A O<|M O (fun g1_33=>zE O zEc O) O<|B 39 O (fun g1_33=>Q O zBn O (R 1 O) O) O<|M O (fun g1_33=>zE O zEc O) O<|B 41 O (fun g1_33=>Q O zBn O (R 0 O) O) O<|rLz [(40,_),(42,_)] O gv1 ⟨O,O,O,O,T⟩ (fun g1_33=>qI O ok140 (zNc a.Idx b.Idx (by omega) (by omega)) ⟨G,O,G,O,T⟩) O<|kD O (fun h=>h)<|A O<|M O (fun g1_40=>zE O zCf O) O<|B 46 O (fun g1_40=>zX O kL O (R 1 O) O) O<|M O (fun g1_40=>zE O zCf O) O<|B 48 O (fun g1_40=>zX O kL O (R 0 O) O) O<|rLz [(47,_),(49,_)] O gv1 ⟨O,O,O,O,T⟩ (fun g1_40=>qI O ok141 (base_Expr a.E b.E (by omega)) ⟨G,O,G,O,T⟩) O<|kD O (fun h=>h)<|A O<|M O (fun g1_47=>zE O kN O) O<|B 53 O (fun g1_47=>Q O kM O (R 1 O) O) O<|M O (fun g1_47=>zE O kN O) O<|B 55 O (fun g1_47=>Q O kM O (R 0 O) O) O<|rLz [(54,_),(56,_)] O gv1 ⟨O,O,O,O,T⟩ (fun g1_47=>qI O ok43 (zLi a.Body b.Body (fun x hx y=>ih x hx (by have:=yG hx;omega) y) (by omega)) ⟨G,O,G,O,T⟩) O<|kD O (fun h=>h)<|A O<|H<|o<|X O ?_
 exact congrArg vB (st_eq a b)
theorem base_Stmt (a b:St) (ha:a.wt<=4294967296):Pur cfg 95 [vSt a,vSt b] (vB (decide (a=b))):=by
  induction a using St.ind generalizing b with
  |_ a ih=>exact base_Stmt_step a (fun x hx h y=>ih x hx y h) ha b
theorem base_Stmts (a b:List St) (ha:stsWt a<=4294967296):Pur cfg 43 [vSts a,vSts b] (vB (decide (a=b))):=
  zLi a b (fun x hx y=>base_Stmt x y (by have:=yG hx;omega)) (by have:=kP a;omega)
theorem base_Nest (a b:Ns) (ha:a.Ok):
    Pur cfg 14 [vNs a,vNs b] (vB (decide (a=b))):=by
 refine zQ Tryz.func14 O Tryz.ntmps14 Tryz.results14 O ?_
 intro z hz
 have hab:=ha.bufs
 have hbw:=ha.body
 refine F O<|zU O O (qL O O) ?_
 rintro _ _ ⟨b1,rfl,rfl⟩
 refine zU O O (qL O O) ?_
 rintro _ _ ⟨b2,rfl,rfl⟩
 refine A O<|H<|zI<|F O<|zJ O zBh<|zK zFo (R 1 O) O<|qB O el22<|zJ O zBh<|zK zFo (R 0 O) O<|qB O el22<|yP O<|H<|zD O (fun c1=>?_) (fun c1=>?_)
 ·try simp only [I] at c1
  refine F O<|A O<|H<|o<|X O ?_
  rw [yL (fun h=>c1 (by rw [h]))]
 ·try simp only [I] at c1
  refine zH<|zI<|F O<|A O<|H<|zS<|zV ⟨[(5,.c _),(2,.c _),(3,.c _)],[_,_]⟩ (Weak.mk [true,true] ⟨G,G,G,T⟩ O)<|qO 1 0 O O (Nat) (fun k=>[(5,vI k)]) (fun k=>[]) (fun k=>k<=a.Bufs.length/\(a.Bufs.take k=b.Bufs.take k)) (fun k=>a.Bufs.length-k) ⟨0,⟨by omega,O⟩,Weak.mk [true,true] ⟨G,G,G,T⟩ O⟩ ?_
  rintro k ⟨hk,hp⟩
  refine zI<|F O<|A O<|zJ O zBh<|zK zFo (R 1 O) O<|qB O el22<|yN O<|H<|zD O (fun c2=>?_) (fun c2=>?_)
  ·try simp only [I] at c2
   obtain ⟨x,hx⟩:=qZ a.Bufs k (by omega)
   obtain ⟨y,hy⟩:=qZ b.Bufs k (by omega)
   refine zH<|zI<|zS<|zI<|kS 13 2 [⟨0,.q []⟩,⟨1,.q [3]⟩,⟨2,.q []⟩,⟨3,.q []⟩,⟨4,.q []⟩,⟨5,.q []⟩,⟨6,.q [2]⟩,⟨7,.q []⟩,⟨8,.q []⟩,⟨9,.q []⟩,⟨10,.f 1⟩,⟨11,.f 0⟩,⟨12,.g 1 []⟩] mixed (by kernel_rfl) (by kernel_rfl) O O O<|t O<|t O<|t O<|t O<|t O<|t O<|t O<|t O<|t O<|t O<|fx_fresh O O (zHg (qC [none,none,none,none,none,none,some 1,none] O zr65 O)) ⟨_,_,0,O,O⟩<|fx_fresh O O (zHg (qC [none,none,none,none,none,none,some 1,none] O zr65 O)) ⟨_,_,0,O,O⟩<|t O<|zDg<|qF O (by decide) O O (zE O zBh O)<|qF O (by decide) O O (Q O zFo O (R 0 O) O)<|qF O (by decide) O O (w O O)<|qF O (by decide) O O (qE O el22 O O (by omega) (v (by assumption)))<|qF O (by decide) O O (zX O zRl O qA O)<|qF O (by decide) O O (zE O zBh O)<|qF O (by decide) O O (Q O zFo O (R 0 O) O)<|qF O (by decide) O O (w O O)<|qF O (by decide) O O (qE O el22 O O (by omega) (v (by assumption)))<|qF O (by decide) O O (zX O zRl O qA O)<|sq_fresh O O ?_
   rintro _ _ ⟨b3,rfl,rfl⟩
   refine sq_fresh O O ?_
   rintro _ _ ⟨b4,rfl,rfl⟩
   refine sq_v0 O O (by decide) O O O (yO O sz65 O O O (zIk 0 O O)) O<|zDf O<|D 0 sz65 O<|H<|F O<|zJ O fd65_0<|zK one9 (R 1 O) O<|zJ O fd65_0<|zK one9 (R 0 O) O<|zR O (zCw O O O)<|A O<|M O (fun g7_5=>zE O fd65_1 O) O<|B 38 O (fun g7_5=>zX O yR O (R 1 O) O) O<|M O (fun g7_5=>zE O fd65_1 O) O<|B 40 O (fun g7_5=>zX O yR O (R 0 O) O) O<|rLz [(39,_),(41,_)] O gv1 ⟨O,O,O,O,T⟩ (fun g7_5=>zCi O fl38 O O O) O<|j O (fun h=>(lzf h))<|A O<|M O (fun g7_12=>zE O fd65_3 O) O<|B 45 O (fun g7_12=>Q O J O (R 1 O) O) O<|M O (fun g7_12=>zE O fd65_3 O) O<|B 47 O (fun g7_12=>Q O J O (R 0 O) O) O<|rLz [(46,_),(48,_)] O gv1 ⟨O,O,O,O,T⟩ (fun g7_12=>kT O O O) O<|j O (fun h=>(lzf h))<|A O<|M O (fun g7_19=>zE O zQm O) O<|B 52 O (fun g7_19=>Q O zIg O (R 1 O) O) O<|M O (fun g7_19=>zE O zQm O) O<|B 54 O (fun g7_19=>Q O zIg O (R 0 O) O) O<|rLz [(53,_),(55,_)] O gv1 ⟨O,O,O,O,T⟩ (fun g7_19=>qI O ok36 (base_Ints x.Dims y.Dims (ha.dims x (zZ hx))) ⟨G,O,G,O,T⟩) O<|B 56 O (fun g7_19=>wC O O) O<|j O (fun h=>(lzf h))<|H<|zD O (fun c3=>?_) (fun c3=>?_)
   ·have c3:(!decide (x.Name=y.Name)|| !litsEq [cI x.T.Kind,cI x.T.Bits,cI x.T.Frac,cI x.T.Round,cI x.T.Over] [cI y.T.Kind,cI y.T.Bits,cI y.T.Frac,cI y.T.Round,cI y.T.Over]|| !decide (x.Use=y.Use)|| !decide (x.Dims=y.Dims))=true:=c3
    rw [bf_ne] at c3
    have c3:¬x=y:=by simpa using c3
    refine F O<|A O<|H<|o<|X O ?_
    rw [yL (fun h=>zDs hx hy c3 (by rw [h]))]
   ·have c3:(!decide (x.Name=y.Name)|| !litsEq [cI x.T.Kind,cI x.T.Bits,cI x.T.Frac,cI x.T.Round,cI x.T.Over] [cI y.T.Kind,cI y.T.Bits,cI y.T.Frac,cI y.T.Round,cI y.T.Over]|| !decide (x.Use=y.Use)|| !decide (x.Dims=y.Dims))=false:=by first|exact c3|simpa using c3
    rw [bf_ne] at c3
    have c3:x=y:=by simpa using c3
    refine zH<|zT O<|A O<|qK O ⟨by omega,by omega⟩<|A O<|H ?_
    refine ⟨k+1,⟨by omega,zAl hx hy hp c3⟩,(by omega),Weak.mk [false,false,true,true] ⟨G,G,G,T⟩ O⟩
  ·try simp only [I] at c2
   refine qQ<|F O<|zJ O wO<|zK kM (R 1 O) O<|zJ O wO<|zK kM (R 0 O) O<|qG O ok43 (base_Stmts a.Body b.Body (by omega)) ⟨G,O,G,O,T⟩<|A O<|H<|o<|X O ?_
   have hbe:=zCr hp (by omega) (by omega)
   exact congrArg vB (decide_eq_decide.2 (by rw [Ns.eq_iff];simp [hbe]))
theorem lin_SubstR (l:Lf) (s:ByteArray) (u:Lf) (hl:l.L.length<=4294967296) (ht:u.L.length<=4294967296) (hrl:l.rng) (hrt:u.rng):Pur cfg 109 [vLin l,vS s,vLin u] (.tup [vLin (substR l s u).1,vI (substR l s u).2]):=by
  have h:=lin_Substitute l s u hl ht hrl hrt
  rw [subst_eq hrl] at h;exact h
end Go.W
