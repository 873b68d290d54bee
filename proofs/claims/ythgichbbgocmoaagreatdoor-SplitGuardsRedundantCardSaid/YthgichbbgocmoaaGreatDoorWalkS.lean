/-
  What functions compute.
  What functions compute.
  What functions compute.
  What functions compute.
  What functions compute.
  What functions compute.
  Conditions: none.
-/
import Derived.Test.YthgichbbgocmoaaGreatDoorWalkR
import Derived.Test.YthgichbbgocmoaaGreatDoorPlain3
set_option linter.unusedSimpArgs false
set_option linter.unusedVariables false
section
set_option maxRecDepth 10000
namespace Go.W
open Go Go.Eng Go.Proofs Go.L41 Go.Br
attribute [local irreducible] AWP RWP TD fH
theorem repR_wt {n:Ns} {way:List Int} {q:List St}:bC (pP n way q).Body<=bC n.Body+bC q:=by
  unfold pP
  split
  · next h=>exact replL_wt (way_of h).2
  · show bC []<=_;rw [bC];omega
theorem repR_ok {n:Ns} {way:List Int} {q:List St} (hn:n.Ok) (h:bC n.Body+bC q<=2000000):(pP n way q).Ok:=by
  have hw:=repR_wt (n:=n) (way:=way) (q:=q)
  have h2:∀b,b∈(pP n way q).Bufs->b∈n.Bufs:=by
    unfold pP;intro b hb
    split at hb
    · exact hb
    · cases hb
  refine ⟨?_,fun b hb=>hn.dims b (h2 b hb),by have:=hn.body;omega⟩
  unfold pP
  split
  · exact hn.bufs
  · show (0:Nat)<=_;omega
theorem ok35:bA Tryz.prog 35=true:=by kernel_rfl
theorem ok93:bA Tryz.prog 93=true:=by kernel_rfl
theorem zSa (n:Ns) (way:List Int) (q:List St) (hn:n.Ok) (hl:bC n.Body<=2000000) (hq:bC q<=2000000) (hw:way.length<=1073741824):
    Pur cfg 61 [vNs n,vIs way,bU q] (.tup [vNs (pP n way q),vB (atT n.Body way).2]):=by
 refine zR Tryz.func61 O Tryz.ntmps61 Tryz.results61 O ?_
 intro z hz
 have hql:=kX q
 refine G O<|zV O O (qJ O O) ?_
 rintro _ _ ⟨b1,rfl,rfl⟩
 refine zV O O (qH [some 8,some 20] O zr25 O) ?_
 rintro _ _ ⟨b2,rfl,rfl⟩
 refine A O<|Y<|zJ<|G O<|zD O zAi<|zI kU (J 1 O) O<|A O<|qD O ok83 (zMh n.Body way zA) ⟨R,O,R,O,T⟩<|qB O D<|yE O<|Y<|zE O (fun c1=>?_) (fun c1=>?_)
 ·try simp only [sx] at c1
  have he:fM n.Body way=[]:=List.eq_nil_of_length_eq_zero zA
  have ha:=at_none he
  refine G O<|yF [some 8,some 20] O zr25 pl25<|rStR 0 sz25 O<|A O<|Y<|zH<|fin2 (zP kE O (J 0 O) O) (rs_c O) ?_
  rw [show pP n way q=⟨[],[]⟩ from if_neg (by rw [ha];simp),ha];rfl
 ·try simp only [sx] at c1
  have hne:fM n.Body way≠[]:=fun h=>c1 (by rw [h];rfl)
  have hok:=at_some hne
  obtain ⟨hwn,hwo⟩:=way_of hok
  refine zK<|G O<|zM kE (J 1 O) O<|zV O O (zNz O ok35 (loopnest_CopyC way hwn n hn hwo) ⟨R,O,T⟩) ?_
  rintro _ _ ⟨ch,rfl,rfl⟩
  refine zV O O (qH [some 8,some 20] O zr25 O) ?_
  rintro _ _ ⟨b3,rfl,rfl⟩
  refine rStR 0 sz25 O<|Y<|zJ<|qU 5 mixed uC O O<|zN O O (zG O zAi O)<|zN O O (zF O kU O (J 0 O) O)<|zN O O (zO O O)<|zN O O (zO O O)<|zN O O (qG O ok74 (zDm q zA) ⟨R,O,T⟩)<|yP<|zV O O (zEn [1] O ok93 (replaceC way hwn ch n.Body q hwo zA zA) ⟨R,O,R,O,R,O,T⟩ O) ?_
  rintro _ _ ⟨_,⟨sv9,rfl,rfl⟩,rfl⟩
  refine zD O zAi<|rStR 0 sz23 O<|Y<|zJ<|zY _ (yT 1 O (regs':=[(23,_)]) (μ':=[_,_,_]) ⟨FLe.sl,T⟩ ⟨EFle.row (ds:=[_,_]) ⟨.inl O,.inr ⟨O,O⟩,T⟩,EFle.refl _,EFle.refl _,T⟩)<|zT O<|zM kE (J 0 O) O<|rStR 1 sz25 O<|A O<|Y<|zH<|fin2 (zP kE O (J 1 O) O) (rs_c O) ?_
  rw [show pP n way q=eM n way q from if_pos hok,hok];rfl
end Go.W
end
section
set_option maxRecDepth 10000
namespace Go.W
open Go Go.Eng Go.Proofs Go.L41 Go.Br
attribute [local irreducible] AWP RWP TD fH
theorem locT_no {n:Ns} {s:ByteArray} (h:¬jH n s=0):gO n s=([],zSt,jH n s):=if_neg h
theorem locT_yes {n:Ns} {s:ByteArray} (h:jH n s=0):gO n s=(mD n s,(atT n.Body (mD n s)).1,0):=if_pos h
theorem locE_1 {n:Ns} {s:ByteArray} (h:¬(bJ n).2=0):jH n s=(bJ n).2:=if_neg h
theorem locE_2 {n:Ns} {s:ByteArray} (h:(bJ n).2=0) (h2:(lG n.Body s).isSome=false):jH n s=19:=by unfold jH;rw [if_pos h,if_neg (by rw [h2];simp)]
theorem locE_3 {n:Ns} {s:ByteArray} (h:(bJ n).2=0) (h2:(lG n.Body s).isSome=true):jH n s=0:=by unfold jH;rw [if_pos h,if_pos h2]
theorem locT_e (n:Ns) (s:ByteArray):(gO n s).2.2=jH n s:=by
  by_cases h:jH n s=0
  · rw [locT_yes h,h]
  · rw [locT_no h]
theorem locT_w {n:Ns} {s:ByteArray} (h:jH n s=0):(gO n s).1=mD n s:=by rw [locT_yes h]
theorem zSg (n:Ns) (s:ByteArray):(mD n s).length<=bY n.Body:=by unfold mD;rw [findN_fnd];exact fndL_getD _ _ _
theorem locT_wt (n:Ns) (s:ByteArray):bC (gO n s).2.1.Body<=bC n.Body+2:=by
  unfold gO
  split
  · have h1:=atT_wt (l:=n.Body) (way:=mD n s)
    have h2:=St.body_wt (atT n.Body (mD n s)).1
    show bC (atT n.Body (mD n s)).1.Body<=_
    omega
  · show bC zSt.Body<=_
    rw [show zSt.Body=[] from rfl,bC];omega
theorem zEx_rng:zEx.allF Lf.rng:=fun x hx l hl=>by
  have hx':x∈[zEx]:=hx
  obtain rfl:=List.mem_singleton.1 hx'
  have hl':l∈[(⟨0,[]⟩:Lf)]:=hl
  obtain rfl:=List.mem_singleton.1 hl'
  exact zJl
theorem zSt_all:zSt.allF Lf.rng:=by
  unfold zSt
  rw [St.allF,bS]
  exact ⟨fun x hx=>(by cases hx),zEx_rng,T⟩
theorem atF_all:∀{way:List Int} {l:List St} {s:St},bS Lf.rng l->s.allF Lf.rng->(atF way l s).1.allF Lf.rng
  |[],_,_,_,h=>by rw [atF];exact h
  |i::r,l,s,hl,hs=>by
    rw [atF]
    split
    · next h=>
      have h1:=wO hl _ (stD_mem h)
      exact atF_all (St.allF_eq h1).2.2 h1
    · exact zSt_all
theorem locT_rng {n:Ns} {s:ByteArray} (h:bS Lf.rng n.Body):bS Lf.rng (gO n s).2.1.Body:=by
  have h1:(gO n s).2.1.allF Lf.rng:=by
    unfold gO
    split
    · show (atT n.Body (mD n s)).1.allF Lf.rng
      unfold atT
      split
      · exact zSt_all
      · exact atF_all h zSt_all
    · exact zSt_all
  exact (St.allF_eq h1).2.2
theorem add_rng (a b:Lf):(fX a b).1.rng/\(fX a b).1.L.length<=a.L.length+b.L.length:=by
  unfold fX
  split
  · unfold rU
    split
    · next h=>exact ⟨⟨h.1,fun m hm=>sum_rng hm⟩,Nat.le_trans (zSo _) (zQj _ _)⟩
    · exact ⟨zJl,Nat.zero_le _⟩
  · exact ⟨zJl,Nat.zero_le _⟩
theorem zHu (s:ByteArray):(jJ s).rng/\(jJ s).L.length<=1:=by
  unfold jJ
  cases bD s
  · exact ⟨zJl,Nat.zero_le _⟩
  · exact ⟨vrL_rng s,Nat.le_refl _⟩
theorem formT_rng (by_:Int) (a b:ByteArray):(lF by_ a b).rng/\(lF by_ a b).L.length<=2:=by
  have h1:=add_rng (bF (jJ a) by_).1 (jJ b)
  have h2:=zNp (jJ a) by_
  have h3:=zHu a
  have h4:=zHu b
  exact ⟨h1.1,by show (fX _ _).1.L.length<=2;omega⟩
theorem peelF_rng (many:Int) (a:ByteArray):(pC many a).rng/\(pC many a).L.length<=1:=by
  have h1:=add_rng (jJ a) ⟨many,[]⟩
  have h3:=zHu a
  have h5:(⟨many,[]⟩:Lf).L.length=0:=rfl
  exact ⟨h1.1,by show (fX _ _).1.L.length<=1;omega⟩
theorem ok33:bA Tryz.prog 33=true:=by kernel_rfl
theorem ok44:bA Tryz.prog 44=true:=by kernel_rfl
theorem ok45:bA Tryz.prog 45=true:=by kernel_rfl
theorem ok61:bA Tryz.prog 61=true:=by kernel_rfl
theorem zHz (n:Ns) (s:ByteArray) (hn:n.Ok):
    Pur cfg 18 [vNs n,vS s] (vB (pT n s)):=by
 refine zR Tryz.func18 O Tryz.ntmps18 Tryz.results18 O ?_
 intro z hz
 have hnb:=hn.body
 refine G O<|zV O O (qJ O O) ?_
 rintro _ _ ⟨b1,rfl,rfl⟩
 refine A O<|Y<|zJ<|G O<|zM kE (J 0 O) O<|A O<|qD O ok50 (zAg n s hn) ⟨R,O,R,O,T⟩<|qO O<|yH O<|qR O<|zV O O (qH [none,none,none,none,none,none,some 1,none] O zr94 O) ?_
 rintro _ _ ⟨b2,rfl,rfl⟩
 refine rStR 0 sz94 O<|A O<|Y<|G O<|A O<|Y<|zE O (fun c1=>?_) (fun c1=>?_)
 ·try simp only [sx] at c1
  refine G O<|A O<|Y<|zH<|zS O ?_
  exact congrArg vB (by unfold pT;simp [c1])
 ·try simp only [sx] at c1
  refine zK<|G O<|zM kE (J 1 O) O<|A O<|qD O ok44 (zOg n s zA) ⟨R,O,R,O,T⟩<|qO O<|qR O<|qR O<|A O<|A O<|Y<|G O<|A O<|A O<|Y<|zH<|zS O ?_
  exact congrArg vB (by unfold pT;simp [c1])
theorem zJq (n:Ns) (s:ByteArray) (hn:n.Ok):
    Pur cfg 16 [vNs n,vS s] (.tup [vIs (gO n s).1,vSt (gO n s).2.1,vI (gO n s).2.2]):=by
 refine zR Tryz.func16 O Tryz.ntmps16 Tryz.results16 O ?_
 intro z hz
 have hnb:=hn.body
 have hwl:=zSg n s
 have hwN:=zGs n.Body
 refine G O<|zV O O (qJ O O) ?_
 rintro _ _ ⟨b1,rfl,rfl⟩
 refine yI 1 O<|zV O O (qH [none,none,none,none,none,some 4,none,none,none,none,none,none,none,none,none,none,some 2,some 4,some 13,some 20] O zr56 O) ?_
 rintro _ _ ⟨b2,rfl,rfl⟩
 refine A O<|Y<|zJ<|G O<|zM kE (J 1 O) O<|qD O ok33 (zDy n hn) ⟨R,O,T⟩<|qO O<|qR O<|qR O<|A O<|A O<|Y<|G O<|A O<|yK O<|Y<|zE O (fun c1=>?_) (fun c1=>?_)
 ·try simp only [sx] at c1
  refine G O<|yF [none,none,none,none,none,some 4,none,none,none,none,none,none,none,none,none,none,some 2,some 4,some 13,some 20] O zr56 pl56<|A O<|yI 1 O<|rStR 0 sz56 O<|A O<|Y<|zH<|fin3 (rs_c O) (zP zDh O (J 0 O) O) (rs_c O) ?_
  rw [locT_no (by rw [locE_1 c1];exact c1),locE_1 c1];rfl
 ·try simp only [sx] at c1
  refine zK<|G O<|zM kE (J 1 O) O<|A O<|qD O ok44 (show Pur cfg 44 [vNs n,vS s] (.tup [vIs (mD n s),vB (lG n.Body s).isSome]) from zOg n s zA) ⟨R,O,R,O,T⟩<|qO O<|qR O<|qR O<|A O<|A O<|Y<|zJ<|G O<|A O<|kN O<|Y<|zE O (fun c2=>?_) (fun c2=>?_)
  ·try simp only [sx] at c2
   have c2:(lG n.Body s).isSome=false:=by simpa using c2
   refine G O<|yF [none,none,none,none,none,some 4,none,none,none,none,none,none,none,none,none,none,some 2,some 4,some 13,some 20] O zr56 pl56<|yI 1 O<|rStR 0 sz56 O<|A O<|Y<|zH<|fin3 (rs_c O) (zP zDh O (J 0 O) O) (rs_c O) ?_
   rw [locT_no (by rw [locE_2 c1 c2];decide),locE_2 c1 c2];rfl
  ·try simp only [sx] at c2
   have c2:(lG n.Body s).isSome=true:=by simpa using c2
   refine zK<|G O<|zM kE (J 1 O) O<|A O<|qD O ok45 (loopnest_At n (mD n s) zA zA) ⟨R,O,R,O,T⟩<|qO O<|yH O<|qR O<|zV O O (qH [none,none,none,none,none,some 4,none,none,none,none,none,none,none,none,none,none,some 2,some 4,some 13,some 20] O zr56 O) ?_
   rintro _ _ ⟨b3,rfl,rfl⟩
   refine rStR 0 sz56 O<|A O<|Y<|zJ<|qU 3 mixed uC O O<|zN O O (zO O O)<|zN O O (zU O zDh O (J 0 O) O)<|zN O O (qX O O)<|yP<|rStR 1 sz56 O<|A O<|Y<|zH<|fin3 (rs_c O) (zP zDh O (J 1 O) O) (rs_c O) ?_
   rw [locT_yes (locE_3 c1 c2)];rfl
theorem zGj (n:Ns) (way:List Int) (q:List St) (hn:n.Ok) (hl:bC n.Body+bC q<=2000000) (hw:way.length<=1073741824):
    Pur cfg 25 [vNs n,vIs way,bU q] (.tup [vNs (tL n way q).1,vI (tL n way q).2]):=by
 refine zR Tryz.func25 O Tryz.ntmps25 Tryz.results25 O ?_
 intro z hz
 have hrok:=repR_ok (way:=way) hn hl
 refine G O<|zV O O (qJ O O) ?_
 rintro _ _ ⟨b1,rfl,rfl⟩
 refine zV O O (qH [some 8,some 20] O zr25 O) ?_
 rintro _ _ ⟨b2,rfl,rfl⟩
 refine A O<|Y<|G O<|zM kE (J 1 O) O<|A O<|A O<|qD O ok61 (zSa n way q hn zA zA hw) ⟨R,O,R,O,R,O,T⟩<|qO O<|yH O<|qR O<|zV O O (qH [some 8,some 20] O zr25 O) ?_
 rintro _ _ ⟨b3,rfl,rfl⟩
 refine rStR 0 sz25 O<|A O<|Y<|zJ<|G O<|zM kE (J 0 O) O<|qD O ok33 (zDy (pP n way q) hrok) ⟨R,O,T⟩<|qO O<|qR O<|qR O<|A O<|A O<|Y<|G O<|A O<|yK O<|Y<|zE O (fun c1=>?_) (fun c1=>?_)
 ·try simp only [sx] at c1
  refine G O<|yF [some 8,some 20] O zr25 pl25<|A O<|rStR 1 sz25 O<|A O<|Y<|zH<|fin2 (zP kE O (J 1 O) O) (rs_c O) ?_
  rw [show tL n way q=(zNs,(bJ (pP n way q)).2) from if_neg c1];rfl
 ·try simp only [sx] at c1
  refine zK<|G O<|zM kE (J 0 O) O<|qD O ok35 (zOh (pP n way q) hrok) ⟨R,O,T⟩<|rStR 1 sz25 O<|A O<|Y<|zH<|fin2 (zP kE O (J 1 O) O) (rs_c O) ?_
  rw [show tL n way q=(pP n way q,0) from if_pos c1];rfl
theorem zUk (l:Lf):
    Pur cfg 23 [dF l] (vE (sF l)):=by
 refine zR Tryz.func23 O Tryz.ntmps23 Tryz.results23 O ?_
 intro z hz
 refine G O<|zV O O (qJ O O) ?_
 rintro _ _ ⟨b1,rfl,rfl⟩
 refine zV O O (qH [none,none,none,none,none,none,none,none,none,none,some 2,some 4,some 13] O zr54 O) ?_
 rintro _ _ ⟨b2,rfl,rfl⟩
 refine Y<|G O<|zM kP (J 1 O) O<|yF [none,none,none,none,none,none,none,none,none,none,none,some 4,some 13] O zr54 pl54<|rStR 0 sz54 O<|Y<|zH<|fin1 (zP yX O (J 0 O) O) ?_
 rfl
end Go.W
end
section
set_option maxRecDepth 10000
namespace Go.W
open Go Go.Eng Go.Proofs Go.L41 Go.Br
attribute [local irreducible] AWP RWP TD fH
theorem splE_1 {n:Ns} {s:St} {loop:ByteArray} {by_:Int} {outer inner:ByteArray} (h:by_<1∨s.Many<by_):sS n s loop by_ outer inner=1:=if_pos h
theorem splE_2 {n:Ns} {s:St} {loop:ByteArray} {by_:Int} {outer inner:ByteArray} (h:¬(by_<1∨s.Many<by_)) (h2:(!bD outer|| !bD inner)=true):sS n s loop by_ outer inner=7:=by unfold sS;rw [if_neg h,if_pos h2]
theorem splE_3 {n:Ns} {s:St} {loop:ByteArray} {by_:Int} {outer inner:ByteArray} (h:¬(by_<1∨s.Many<by_)) (h2:(!bD outer|| !bD inner)=false) (h3:eB n loop outer inner=true):sS n s loop by_ outer inner=8:=by unfold sS;rw [if_neg h,if_neg (by rw [h2];simp),if_pos h3]
theorem splE_4 {n:Ns} {s:St} {loop:ByteArray} {by_:Int} {outer inner:ByteArray} (h:¬(by_<1∨s.Many<by_)) (h2:(!bD outer|| !bD inner)=false) (h3:eB n loop outer inner=false):sS n s loop by_ outer inner=jM (sbT loop (lF by_ outer inner) s.Body):=by unfold sS;rw [if_neg h,if_neg (by rw [h2];simp),if_neg (by rw [h3];simp)]
theorem splitT_0 {n:Ns} {loop:ByteArray} {by_:Int} {outer inner:ByteArray} (h:¬jH n loop=0):nK n loop by_ outer inner=(zNs,jH n loop):=if_neg h
theorem zSs {n:Ns} {s:St} {loop:ByteArray} {by_:Int} {outer inner:ByteArray} {e:Int} (hs:(gO n loop).2.1=s) (h:jH n loop=0) (he:sS n s loop by_ outer inner=e) (h0:¬e=0):nK n loop by_ outer inner=(zNs,e):=by unfold nK;rw [if_pos h,hs,he,if_neg h0]
theorem splitT_2 {n:Ns} {s:St} {loop:ByteArray} {by_:Int} {outer inner:ByteArray} (hs:(gO n loop).2.1=s) (h:jH n loop=0) (he:sS n s loop by_ outer inner=0):nK n loop by_ outer inner=tL n (mD n loop) [tF s by_ outer inner (lF by_ outer inner) (lK (sbT loop (lF by_ outer inner) s.Body))]:=by unfold nK;rw [if_pos h,hs,if_pos he]
theorem peelE_1 {n:Ns} {s:St} {loop:ByteArray} {many:Int} {rest:ByteArray} (h:¬dH s.Body=[]):nE n s loop many rest=19:=if_neg h
theorem peelE_2 {n:Ns} {s:St} {loop:ByteArray} {many:Int} {rest:ByteArray} (h:dH s.Body=[]) (h2:many<1∨s.Many<=many):nE n s loop many rest=1:=by unfold nE;rw [if_pos h,if_pos h2]
theorem peelE_3 {n:Ns} {s:St} {loop:ByteArray} {many:Int} {rest:ByteArray} (h:dH s.Body=[]) (h2:¬(many<1∨s.Many<=many)) (h3:bD rest=false):nE n s loop many rest=7:=by unfold nE;rw [if_pos h,if_neg h2,if_pos h3]
theorem peelE_4 {n:Ns} {s:St} {loop:ByteArray} {many:Int} {rest:ByteArray} (h:dH s.Body=[]) (h2:¬(many<1∨s.Many<=many)) (h3:bD rest=true) (h4:pT n rest=true):nE n s loop many rest=8:=by unfold nE;rw [if_pos h,if_neg h2,if_neg (by rw [h3];simp),if_pos h4]
theorem peelE_5 {n:Ns} {s:St} {loop:ByteArray} {many:Int} {rest:ByteArray} (h:dH s.Body=[]) (h2:¬(many<1∨s.Many<=many)) (h3:bD rest=true) (h4:pT n rest=false):nE n s loop many rest=jM (sbT loop (pC many rest) s.Body):=by unfold nE;rw [if_pos h,if_neg h2,if_neg (by rw [h3];simp),if_neg (by rw [h4];simp)]
theorem peelT_0 {n:Ns} {loop:ByteArray} {many:Int} {rest:ByteArray} (h:¬jH n loop=0):rW n loop many rest=(zNs,jH n loop):=if_neg h
theorem zVh {n:Ns} {s:St} {loop:ByteArray} {many:Int} {rest:ByteArray} {e:Int} (hs:(gO n loop).2.1=s) (h:jH n loop=0) (he:nE n s loop many rest=e) (h0:¬e=0):rW n loop many rest=(zNs,e):=by unfold rW;rw [if_pos h,hs,he,if_neg h0]
theorem peelT_2 {n:Ns} {s:St} {loop:ByteArray} {many:Int} {rest:ByteArray} (hs:(gO n loop).2.1=s) (h:jH n loop=0) (he:nE n s loop many rest=0):rW n loop many rest=tL n (mD n loop) [xE s many,lJ rest (w64 (s.Many-many)) s.Mark (lK (sbT loop (pC many rest) s.Body))]:=by unfold rW;rw [if_pos h,hs,if_pos he]
theorem zPz (nm:ByteArray) (many pF:Int) (b:List St):(lJ nm many pF b).cells=[cI 1,cS nm,cI many,cI pF,cI 0,.sl 4 [],cI 0,cS (bs []),cI 0,cI 0,cI 0,cI 0,cI 0,cI 0,cI 0,cI 0,.sl 2 [],.sl 4 [],.sl 13 [],.sl 20 (b.map St.cells)]:=by rw [St.cells_eq];rfl
theorem sIf_cs (f:Lf) (m:Int) (b:List St):(sIf (ltE f m) b).cells=[cI 4,cS (bs []),cI 0,cI 0,cI 0,.sl 4 [],cI 13,cS (bs []),cI 0,cI 0,cI 0,cI 0,cI 0,cI 0,cI 0,cI 0,.sl 2 [],.sl 4 [],.sl 13 [(sF f).cs,(sF ⟨m,[]⟩).cs],.sl 20 (b.map St.cells)]:=by
  have h:[sF f,sF ⟨m,[]⟩].map Ex.cells=[(sF f).cs,(sF ⟨m,[]⟩).cs]:=by simp only [List.map_cons,List.map_nil,Ex.cells_eq]
  rw [St.cells_eq,←h];rfl
theorem splS_y {s:St} {by_:Int} (o i:ByteArray) (f:Lf) (b:List St) (h:Int.tmod s.Many by_=0):bU [tF s by_ o i f b]=.c (.sl 20 [[cI 1,cS o,cI (w64 (Int.tdiv (w64 (w64 (s.Many+by_)-1)) by_)),cI s.Mark,cI 0,.sl 4 [],cI 0,cS (bs []),cI 0,cI 0,cI 0,cI 0,cI 0,cI 0,cI 0,cI 0,.sl 2 [],.sl 4 [],.sl 13 [],.sl 20 [[cI 1,cS i,cI by_,cI 0,cI 0,.sl 4 [],cI 0,cS (bs []),cI 0,cI 0,cI 0,cI 0,cI 0,cI 0,cI 0,cI 0,.sl 2 [],.sl 4 [],.sl 13 [],.sl 20 (b.map St.cells)]]]]):=by
  unfold tF cO
  rw [if_pos h]
  show V.c (C.sl 20 [(lJ _ _ _ _).cells])=_
  rw [zPz]
  show V.c (C.sl 20 [[cI 1,_,_,_,_,_,_,_,_,_,_,_,_,_,_,_,_,_,_,.sl 20 [(lJ _ _ _ _).cells]]])=_
  rw [zPz]
theorem splS_n {s:St} {by_:Int} (o i:ByteArray) (f:Lf) (b:List St) (h:¬Int.tmod s.Many by_=0):bU [tF s by_ o i f b]=.c (.sl 20 [[cI 1,cS o,cI (w64 (Int.tdiv (w64 (w64 (s.Many+by_)-1)) by_)),cI s.Mark,cI 0,.sl 4 [],cI 0,cS (bs []),cI 0,cI 0,cI 0,cI 0,cI 0,cI 0,cI 0,cI 0,.sl 2 [],.sl 4 [],.sl 13 [],.sl 20 [[cI 1,cS i,cI by_,cI 0,cI 0,.sl 4 [],cI 0,cS (bs []),cI 0,cI 0,cI 0,cI 0,cI 0,cI 0,cI 0,cI 0,.sl 2 [],.sl 4 [],.sl 13 [],.sl 20 [[cI 4,cS (bs []),cI 0,cI 0,cI 0,.sl 4 [],cI 13,cS (bs []),cI 0,cI 0,cI 0,cI 0,cI 0,cI 0,cI 0,cI 0,.sl 2 [],.sl 4 [],.sl 13 [(sF f).cs,(sF ⟨s.Many,[]⟩).cs],.sl 20 (b.map St.cells)]]]]]]):=by
  unfold tF cO
  rw [if_neg h]
  show V.c (C.sl 20 [(lJ _ _ _ _).cells])=_
  rw [zPz]
  show V.c (C.sl 20 [[cI 1,_,_,_,_,_,_,_,_,_,_,_,_,_,_,_,_,_,_,.sl 20 [(lJ _ _ _ _).cells]]])=_
  rw [zPz]
  show V.c (C.sl 20 [[cI 1,_,_,_,_,_,_,_,_,_,_,_,_,_,_,_,_,_,_,.sl 20 [[cI 1,_,_,_,_,_,_,_,_,_,_,_,_,_,_,_,_,_,_,.sl 20 [(sIf _ _).cells]]]]])=_
  rw [sIf_cs]
theorem peelS_x (s:St) (many m2:Int) (rest:ByteArray) (b:List St):bU [xE s many,lJ rest m2 s.Mark b]=.c (.sl 20 [[cI s.Op,cS s.Name,cI many,cI s.Mark,cI s.Fold,.sl 4 (s.Idx.map Ix.cells),cI s.E.Op,cS s.E.Name,cI s.E.Val.N,cI s.E.Val.D,cI s.E.Ty.Kind,cI s.E.Ty.Bits,cI s.E.Ty.Frac,cI s.E.Ty.Round,cI s.E.Ty.Over,cI s.E.Lin.K,.sl 2 (s.E.Lin.L.map Mono.cells),.sl 4 (s.E.Idx.map Ix.cells),.sl 13 (s.E.Args.map Ex.cells),.sl 20 (s.Body.map St.cells)],[cI 1,cS rest,cI m2,cI s.Mark,cI 0,.sl 4 [],cI 0,cS (bs []),cI 0,cI 0,cI 0,cI 0,cI 0,cI 0,cI 0,cI 0,.sl 2 [],.sl 4 [],.sl 13 [],.sl 20 (b.map St.cells)]]):=by
  show V.c (C.sl 20 [(xE s many).cells,(lJ _ _ _ _).cells])=_
  rw [zPz,St.cells_eq];rfl
theorem zEx_wt:zEx.wt=1:=by simp [zEx,Ex.wt,dL,dY]
theorem sFor_wt (nm:ByteArray) (many pF:Int) (b:List St):(lJ nm many pF b).wt=2+bC b:=by
  have h:=St.wt_eq (lJ nm many pF b)
  simp only [lJ,St.E,St.Idx,St.Body,dL,List.length_nil,zEx_wt] at h⊢
  omega
theorem splS_wt (s:St) (by_:Int) (o i:ByteArray) (f:Lf) (b:List St):bC [tF s by_ o i f b]<=bC b+f.L.length+12:=by
  have h1:bC (cO s by_ f b)<=bC b+f.L.length+6:=by
    unfold cO
    split
    · omega
    · have h:=St.wt_eq (sIf (ltE f s.Many) b)
      have h2:(ltE f s.Many).wt=3+f.L.length:=by simp [ltE,sF,Ex.wt,dL,dY];omega
      simp only [sIf,St.E,St.Idx,St.Body,dL,List.length_nil,h2] at h
      simp only [bC,sIf];omega
  unfold tF
  simp only [bC,sFor_wt];omega
theorem peelS_wt (s:St) (many m2:Int) (rest:ByteArray) (b:List St):bC [xE s many,lJ rest m2 s.Mark b]<=s.wt+bC b+4:=by
  have h:(xE s many).wt=s.wt:=by cases s;simp only [xE,St.wt,St.Op,St.Name,St.Many,St.Mark,St.Fold,St.Idx,St.E,St.Body]
  simp only [bC,sFor_wt,h];omega
theorem locS_wt (n:Ns) (s:ByteArray):(gO n s).2.1.wt<=bC n.Body+2:=by
  unfold gO
  split
  · exact atT_wt
  · show zSt.wt<=_
    have h:=St.wt_eq zSt
    simp only [zSt,St.E,St.Idx,St.Body,dL,bC,List.length_nil,zEx_wt] at h⊢
    omega
theorem loopsL_app:∀a b:List St,dH (a++b)=dH a++dH b
  |[],b=>rfl
  |x::r,b=>by rw [List.cons_append,dH,dH,loopsL_app r b,List.append_assoc]
theorem loops_next {l:List St} {k:Nat} {x:St} (h:l[k]? =some x) (h1:dH (l.take k)=[]) (h2:¬x.Op=1) (h3:dH x.Body=[]):dH (l.take (k+1))=[]:=by
  rw [loopsL_next h,h1,sZ,if_neg h2,h3];rfl
theorem loops_at {l:List St} {k:Nat} {x:St} (h:l[k]? =some x) (h2:x.Op=1∨¬dH x.Body=[]):¬dH l=[]:=by
  intro h0
  have e:l=l.take k++x::l.drop (k+1):=by rw [←qP h,List.take_append_drop]
  rw [e,loopsL_app,dH,loopsS_eq] at h0
  simp only [List.append_eq_nil_iff] at h0
  rcases h2 with h2|h2
  · have h3:=h0.2.1.1
    rw [sZ,if_pos h2] at h3;cases h3
  · exact h2 h0.2.1.2
theorem ok16:bA Tryz.prog 16=true:=by kernel_rfl
theorem ok18:bA Tryz.prog 18=true:=by kernel_rfl
theorem ok20:bA Tryz.prog 20=true:=by kernel_rfl
theorem ok22:bA Tryz.prog 22=true:=by kernel_rfl
theorem ok23:bA Tryz.prog 23=true:=by kernel_rfl
theorem ok24:bA Tryz.prog 24=true:=by kernel_rfl
theorem ok25:bA Tryz.prog 25=true:=by kernel_rfl
theorem ok29:bA Tryz.prog 29=true:=by kernel_rfl
theorem zHd (l:List St) (ih:∀s,s∈l->Pur cfg 29 [bU s.Body] (vB (!decide (dH s.Body=[])))) (hl:bC l<=1000000000):
    Pur cfg 29 [bU l] (vB (!decide (dH l=[]))):=by
 refine zR Tryz.func29 O Tryz.ntmps29 Tryz.results29 O ?_
 intro z hz
 have hll:=kX l
 refine G O<|A O<|Y<|zJ<|G O<|A O<|qB O D<|A O<|Y<|zQ<|zY ⟨[(7,.c _),(5,.c _),(6,.c _)],[]⟩ (Weak.mk [] ⟨R,R,R,T⟩ O)<|qK 1 0 O O (Nat) (fun k=>[(7,vI k)]) (fun k=>[]) (fun k=>k<=l.length/\(dH (l.take k)=[])) (fun k=>l.length-k) ⟨0,⟨zA,O⟩,Weak.mk [] ⟨R,R,R,T⟩ O⟩ ?_
 rintro k ⟨hk,hp⟩
 refine G O<|yG O<|Y<|zJ<|zE O (fun c1=>?_) (fun c1=>?_)
 ·try simp only [sx] at c1
  obtain ⟨x,hx⟩:=qY l k zA
  refine zK<|zJ<|zQ<|G O<|qC O D zA (wJ hx)<|zM zDh zZ O<|zV O O (qH [none,none,none,none,none,some 4,none,none,none,none,none,none,none,none,none,none,some 2,some 4,some 13,some 20] O zr56 O) ?_
  rintro _ _ ⟨b1,rfl,rfl⟩
  refine rStR 0 sz56 O<|Y<|G O<|zD O zAm<|zI one3 (J 0 O) O<|yE O<|A O<|rL0 O (fun g4_3=>zG O kV O) O<|rL1 15 O (fun g4_3=>zF O kU O (J 0 O) O) O<|rL1 16 O (fun g4_3=>qG O ok29 (ih x (qA hx)) ⟨R,O,T⟩) O<|r_or O (fun h=>(lzf h))<|Y<|zE O (fun c2=>?_) (fun c2=>?_)
  ·have c2:x.Op=1∨¬dH x.Body=[]:=by simpa using c2
   refine G O<|A O<|Y<|zH<|zS O ?_
   rw [qW (loops_at hx c2)];rfl
  ·have c2:¬x.Op=1/\dH x.Body=[]:=by simpa using c2
   refine zK<|zT O<|qI O ⟨zA,zA⟩<|A O<|Y ?_
   refine ⟨k+1,⟨zA,loops_next hx hp c2.1 c2.2⟩,zA,Weak.mk [false] ⟨R,R,R,T⟩ O⟩
 ·try simp only [sx] at c1
  refine qN<|G O<|A O<|Y<|zH<|zS O ?_
  rw [yV zA] at hp;rw [wR hp];rfl
theorem zPx (s:St) (hl:bC s.Body<=1000000000):Pur cfg 29 [bU s.Body] (vB (!decide (dH s.Body=[]))):=by
  induction s using St.ind with
  |_ s ih=>exact zHd s.Body (fun a ha=>ih a ha (by have:=yU ha;have:=St.body_wt a;omega)) hl
theorem split_looped (l:List St) (hl:bC l<=1000000000):Pur cfg 29 [bU l] (vB (!decide (dH l=[]))):=
  zHd l (fun s hs=>zPx s (by have:=yU hs;have:=St.body_wt s;omega)) hl
theorem zUl (n:Ns) (loop:ByteArray) (by_:Int) (outer inner:ByteArray) (hn:n.Ok) (hl:bC n.Body<=1000) (hr:bS Lf.rng n.Body) (hb:r64 by_):
    Pur cfg 7 [vNs n,vS loop,vI by_,vS outer,vS inner] (.tup [vNs (nK n loop by_ outer inner).1,vI (nK n loop by_ outer inner).2]):=by
 refine zR Tryz.func7 O Tryz.ntmps7 Tryz.results7 O ?_
 intro z hz
 obtain ⟨s,hs0⟩:∃s,(gO n loop).2.1=s:=⟨_,rfl⟩
 have hlw:=locT_wt n loop
 have hlr:=locT_rng (s:=loop) hr
 rw [hs0] at hlw hlr
 have hwl:=zSg n loop
 have hwN:=zGs n.Body
 obtain ⟨hfr,hfl⟩:=formT_rng by_ outer inner
 obtain ⟨hvo,hvol⟩:=zHu outer
 obtain ⟨hvi,hvil⟩:=zHu inner
 obtain ⟨hsc,hscl⟩:=zNp (jJ outer) by_
 have hbw:=sbT_wt (s:=loop) (u:=lF by_ outer inner) (l:=s.Body) zA
 refine G O<|zV O O (qJ O O) ?_
 rintro _ _ ⟨b1,rfl,rfl⟩
 refine zV O O (qH [some 8,some 20] O zr25 O) ?_
 rintro _ _ ⟨b2,rfl,rfl⟩
 refine A O<|Y<|G O<|zM kE (J 1 O) O<|A O<|qD O ok16 (show Pur cfg 16 [vNs n,vS loop] (.tup [vIs (gO n loop).1,vSt s,vI (jH n loop)]) by have h:=zJq n loop hn;rw [locT_e,hs0] at h;exact h) ⟨R,O,R,O,T⟩<|qO O<|qR O<|yH O<|qR O<|zV O O (qH [none,none,none,none,none,some 4,none,none,none,none,none,none,none,none,none,none,some 2,some 4,some 13,some 20] O zr56 O) ?_
 rintro _ _ ⟨b3,rfl,rfl⟩
 refine A O<|rStR 0 sz56 O<|A O<|Y<|zJ<|zQ<|G O<|A O<|yK O<|A O<|Y<|zE O (fun c1=>?_) (fun c1=>?_)
 ·try simp only [sx] at c1
  refine G O<|yF [some 8,some 20] O zr25 pl25<|A O<|rStR 1 sz25 O<|A O<|Y<|zH<|fin2 (zP kE O (J 1 O) O) (rs_c O) ?_
  rw [splitT_0 c1];rfl
 ·try simp only [sx] at c1
  refine G O<|A O<|yG O<|A O<|rL0 O (fun g4_2=>zO O O) O<|rL0 O (fun g4_2=>zG O zAp O) O<|rL1 39 O (fun g4_2=>zF O one3 O (J 0 O) O) O<|rLz [(38,_),(40,_)] O B ⟨O,O,O,O,T⟩ (fun g4_2=>yC O O O) O<|r_or O (fun h=>(lzf h))<|A O<|Y<|zE O (fun c2=>?_) (fun c2=>?_)
  ·try simp only [sx] at c2
   refine G O<|yF [some 8,some 20] O zr25 pl25<|rStR 1 sz25 O<|A O<|Y<|zH<|fin2 (zP kE O (J 1 O) O) (rs_c O) ?_
   rw [zSs hs0 c1 (splE_1 c2) zB];rfl
  ·try simp only [sx] at c2
   have c2:¬(by_<1∨s.Many<by_):=by omega
   refine G O<|A O<|qD O ok17 (zBa _) ⟨R,O,T⟩<|kN O<|A O<|rL0 O (fun g6_3=>zO O O) O<|rL1 49 O (fun g6_3=>qG O ok17 (zBa _) ⟨R,O,T⟩) O<|rL1 50 O (fun g6_3=>kJ O O) O<|r_or O (fun h=>(lzf h))<|A O<|Y<|zE O (fun c3=>?_) (fun c3=>?_)
   ·have c3:(!bD outer|| !bD inner)=true:=c3
    refine G O<|yF [some 8,some 20] O zr25 pl25<|rStR 1 sz25 O<|A O<|Y<|zH<|fin2 (zP kE O (J 1 O) O) (rs_c O) ?_
    rw [zSs hs0 c1 (splE_2 c2 c3) zB];rfl
   ·have c3:(!bD outer|| !bD inner)=false:=c3
    refine G O<|A O<|A O<|wL O<|A O<|rL0 O (fun g8_3=>zO O O) O<|rL0 O (fun g8_3=>zO O O) O<|rLz [(59,_),(60,_)] O B ⟨O,O,O,O,T⟩ (fun g8_3=>zBj O O O) O<|rL1 61 O (fun g8_3=>zO O O) O<|rLz [] O gv2 T (fun g8_7=>zU O kE O (J 2 O) O) O<|rLz [] O gv2 T (fun g8_7=>zO O O) O<|rLz [(63,_),(64,_)] O gv2 ⟨O,O,O,O,T⟩ (fun g8_7=>qG O ok18 (zHz _ _ zA) ⟨R,O,R,O,T⟩) O<|rL1 62 O (fun g8_3=>kZ O O O (fun h=>kC uB h) O) O<|r_or O (fun h=>(lzf h))<|A O<|rL0 O (fun g8_13=>zO O O) O<|rL0 O (fun g8_13=>zO O O) O<|rLz [(69,_),(70,_)] O B ⟨O,O,O,O,T⟩ (fun g8_13=>zBj O O O) O<|rL1 71 O (fun g8_13=>zO O O) O<|rLz [] O gv2 T (fun g8_17=>zU O kE O (J 2 O) O) O<|rLz [] O gv2 T (fun g8_17=>zO O O) O<|rLz [(73,_),(74,_)] O gv2 ⟨O,O,O,O,T⟩ (fun g8_17=>qG O ok18 (zHz _ _ zA) ⟨R,O,R,O,T⟩) O<|rL1 72 O (fun g8_13=>kZ O O O (fun h=>kC uB h) O) O<|r_or O (fun h=>(lzf h))<|A O<|Y<|zE O (fun c4=>?_) (fun c4=>?_)
    ·have c4:eB n loop outer inner=true:=c4
     refine G O<|yF [some 8,some 20] O zr25 pl25<|rStR 1 sz25 O<|A O<|Y<|zH<|fin2 (zP kE O (J 1 O) O) (rs_c O) ?_
     rw [zSs hs0 c1 (splE_3 c2 c3 c4) zB];rfl
    ·have c4:eB n loop outer inner=false:=c4
     refine zK<|G O<|A O<|qD O ok20 (lin_Var _) ⟨R,O,T⟩<|A O<|qD O ok19 (zVx (jJ outer) by_ zA hvo hb) ⟨R,O,R,O,T⟩<|qO O<|yH O<|qR O<|zV O O (qH [none,some 2] O zr51 O) ?_
     rintro _ _ ⟨b4,rfl,rfl⟩
     refine rStR 0 sz51 O<|A O<|Y<|zJ<|kI 9 1 [⟨0,.q [1]⟩,⟨1,.q []⟩,⟨2,.q []⟩,⟨3,.q []⟩,⟨4,.q []⟩,⟨5,.q []⟩,⟨6,.q []⟩,⟨7,.e 0 []⟩,⟨8,.e 0 []⟩] mixed uC uC O O O<|zX O<|zX O<|zX O<|zX O<|zX O<|zX O<|zX O<|zX O<|zX O<|zBb<|qF O zB O O (zU O kP O (J 0 O) O)<|qF O zB O O (zO O O)<|qF O zB O O (qG O ok20 (lin_Var _) ⟨R,O,T⟩)<|qF O zB O O (qG O ok21 (show Pur cfg 21 [dF (bF (jJ outer) by_).1,dF (jJ inner)] (.tup [dF (lF by_ outer inner),vI (fX (bF (jJ outer) by_).1 (jJ inner)).2]) from lin_Add (bF (jJ outer) by_).1 (jJ inner) zA zA hsc hvi) ⟨R,O,R,O,T⟩)<|qF O zB O O (kH O O)<|qF O zB O O (wE O O O)<|qF O zB O O (wD O O O)<|zJf O O zB O O (qH [none,some 2] O zr51 O) ?_
     rintro _ _ ⟨b5,rfl,rfl⟩
     refine ⟨_,O,?_⟩
     refine zFr O O zB O O (yL O sz51 O O O (zFf 0 O O)) ?_
     rintro _ _ ⟨rfl,rfl⟩
     refine ⟨_,O,?_⟩
     refine zAx O<|A O<|Y<|G O<|zD O kV<|zI kU (J 2 O) O<|A O<|zM kP (J 0 O) O<|qD O ok22 (zBh s.Body loop (lF by_ outer inner) zA hfr zA hlr) ⟨R,O,R,O,R,O,T⟩<|qO O<|qR O<|qR O<|A O<|A O<|Y<|zJ<|G O<|A O<|yK O<|Y<|zE O (fun c5=>?_) (fun c5=>?_)
     ·try simp only [sx] at c5
      refine G O<|yF [some 8,some 20] O zr25 pl25<|A O<|rStR 3 sz25 O<|A O<|Y<|zH<|fin2 (zP kE O (J 3 O) O) (rs_c O) ?_
      rw [zSs hs0 c1 (splE_4 c2 c3 c4) c5];rfl
     ·try simp only [sx] at c5
      refine zK<|zJ<|G O<|zD O zAp<|zI one3 (J 2 O) O<|A O<|zW O (zMz O O O zA)<|yK O<|Y<|zE O (fun c6=>?_) (fun c6=>?_)
      ·try simp only [sx] at c6
       refine zJ<|kI 9 1 [⟨0,.q [1]⟩,⟨1,.q []⟩,⟨2,.q []⟩,⟨3,.q [3]⟩,⟨4,.q []⟩,⟨5,.q []⟩,⟨6,.q []⟩,⟨7,.q []⟩,⟨8,.f 0⟩] mixed uC uC O O O<|zX O<|zX O<|zX O<|zX O<|zX O<|zX O<|zX O<|zX O<|zOo O O (zEq (qH [none,none,none,none,none,none,none,none,none,none,some 2,some 4,some 13] O zr54 O)) ⟨_,_,0,O,O⟩<|zBb<|qF O zB O O (zU O kP O (J 0 O) O)<|qF O zB O O (qG O ok23 (zUk _) ⟨R,O,T⟩)<|qF O zB O O (zG O zAp O)<|qF O zB O O (zF O one3 O (J 0 O) O)<|qF O zB O O (qG O ok24 (zVy _) ⟨R,O,T⟩)<|qF O zB O O (qG O ok23 (zUk _) ⟨R,O,T⟩)<|qF O zB O O (qZ O el52 zr54 O O O O)<|qF O zB O O (zFo [none,none,none,none,none,none,none,none,none,none,some 2,some 4,none] O zr54 pl54 O O)<|zNl O O ?_
       rintro _ _ ⟨b6,rfl,rfl⟩
       refine zAx O<|rStR 0 sz54 O<|Y<|zT O<|zM yX (J 0 O) O<|A O<|yF [none,none,none,none,none,some 4,none,none,none,none,none,none,none,none,none,none,none,none,none,none] O zr56 pl56<|zW O (qZ O D zr56 O O O O)<|A O<|Y<|G O<|A O<|A O<|A O<|yF [none,none,none,none,none,some 4,none,none,none,none,none,none,none,none,none,none,some 2,some 4,some 13,none] O zr56 pl56<|zV O O (qH [none,none,none,none,none,some 4,none,none,none,none,none,none,none,none,none,none,some 2,some 4,some 13,some 20] O zr56 O) ?_
       rintro _ _ ⟨b7,rfl,rfl⟩
       refine rStR 0 sz56 O<|Y<|zJ<|qU 19 mixed uC O O<|zN O O (zU O kE O (J 6 O) O)<|zN O O (zO O O)<|zN O O (zO O O)<|zN O O (zG O zAp O)<|zN O O (zF O one3 O (J 4 O) O)<|zN O O (zO O O)<|zN O O (zKy O O O)<|zN O O (zMy O O O)<|zN O O (zO O O)<|zN O O (zIs O O O zA)<|zN O O (zG O zJc O)<|zN O O (zF O one3 O (J 4 O) O)<|zN O O (zU O zDh O (J 0 O) O)<|zN O O (qZ O D zr56 O O O O)<|zN O O (zFo [none,none,none,none,none,some 4,none,none,none,none,none,none,none,none,none,none,some 2,some 4,some 13,none] O zr56 pl56 O O)<|zN O O (qZ O D zr56 O O O O) ?_
       refine zN O O (qG O ok25 (zGj n (mD n loop) [tF s by_ outer inner (lF by_ outer inner) (lK (sbT loop (lF by_ outer inner) s.Body))] hn (by have:=splS_wt s by_ outer inner (lF by_ outer inner) (lK (sbT loop (lF by_ outer inner) s.Body));omega) zA) ⟨R,O,VLe.of_eq (congrArg vIs (locT_w c1)),O,VLe.of_eq (by first|exact (splS_y outer inner _ _ (by simpa using c6)).symm|exact (splS_n outer inner _ _ (by simpa using c6)).symm),O,T⟩)<|zN O O (wE O O O)<|zN O O (wD O O O)<|yP<|rStR 5 sz25 O<|A O<|Y<|zH<|fin2 (zP kE O (J 5 O) O) (rs_c O) ?_
       rw [splitT_2 hs0 c1 ((splE_4 c2 c3 c4).trans c5)];rfl
      ·try simp only [sx] at c6
       refine zK<|G O<|A O<|A O<|A O<|yF [none,none,none,none,none,some 4,none,none,none,none,none,none,none,none,none,none,some 2,some 4,some 13,none] O zr56 pl56<|zV O O (qH [none,none,none,none,none,some 4,none,none,none,none,none,none,none,none,none,none,some 2,some 4,some 13,some 20] O zr56 O) ?_
       rintro _ _ ⟨b8,rfl,rfl⟩
       refine rStR 0 sz56 O<|Y<|zJ<|qU 19 mixed uC O O<|zN O O (zU O kE O (J 5 O) O)<|zN O O (zO O O)<|zN O O (zO O O)<|zN O O (zG O zAp O)<|zN O O (zF O one3 O (J 3 O) O)<|zN O O (zO O O)<|zN O O (zKy O O O)<|zN O O (zMy O O O)<|zN O O (zO O O)<|zN O O (zIs O O O zA)<|zN O O (zG O zJc O)<|zN O O (zF O one3 O (J 3 O) O)<|zN O O (zU O zDh O (J 0 O) O)<|zN O O (qZ O D zr56 O O O O)<|zN O O (zFo [none,none,none,none,none,some 4,none,none,none,none,none,none,none,none,none,none,some 2,some 4,some 13,none] O zr56 pl56 O O)<|zN O O (qZ O D zr56 O O O O) ?_
       refine zN O O (qG O ok25 (zGj n (mD n loop) [tF s by_ outer inner (lF by_ outer inner) (lK (sbT loop (lF by_ outer inner) s.Body))] hn (by have:=splS_wt s by_ outer inner (lF by_ outer inner) (lK (sbT loop (lF by_ outer inner) s.Body));omega) zA) ⟨R,O,VLe.of_eq (congrArg vIs (locT_w c1)),O,VLe.of_eq (by first|exact (splS_y outer inner _ _ (by simpa using c6)).symm|exact (splS_n outer inner _ _ (by simpa using c6)).symm),O,T⟩)<|zN O O (wE O O O)<|zN O O (wD O O O)<|yP<|rStR 4 sz25 O<|A O<|Y<|zH<|fin2 (zP kE O (J 4 O) O) (rs_c O) ?_
       rw [splitT_2 hs0 c1 ((splE_4 c2 c3 c4).trans c5)];rfl
theorem split_Peel (n:Ns) (loop:ByteArray) (many:Int) (rest:ByteArray) (hn:n.Ok) (hl:bC n.Body<=1000) (hr:bS Lf.rng n.Body) (hb:r64 many):
    Pur cfg 9 [vNs n,vS loop,vI many,vS rest] (.tup [vNs (rW n loop many rest).1,vI (rW n loop many rest).2]):=by
 refine zR Tryz.func9 O Tryz.ntmps9 Tryz.results9 O ?_
 intro z hz
 obtain ⟨s,hs0⟩:∃s,(gO n loop).2.1=s:=⟨_,rfl⟩
 have hlw:=locT_wt n loop
 have hlr:=locT_rng (s:=loop) hr
 rw [hs0] at hlw hlr
 have hwl:=zSg n loop
 have hwN:=zGs n.Body
 obtain ⟨hfr,hfl⟩:=peelF_rng many rest
 have hsw:=locS_wt n loop
 rw [hs0] at hsw
 obtain ⟨hvo,hvol⟩:=zHu rest
 have hbw:=sbT_wt (s:=loop) (u:=pC many rest) (l:=s.Body) zA
 refine G O<|zV O O (qJ O O) ?_
 rintro _ _ ⟨b1,rfl,rfl⟩
 refine zV O O (qH [some 8,some 20] O zr25 O) ?_
 rintro _ _ ⟨b2,rfl,rfl⟩
 refine A O<|Y<|G O<|zM kE (J 1 O) O<|A O<|qD O ok16 (show Pur cfg 16 [vNs n,vS loop] (.tup [vIs (gO n loop).1,vSt s,vI (jH n loop)]) by have h:=zJq n loop hn;rw [locT_e,hs0] at h;exact h) ⟨R,O,R,O,T⟩<|qO O<|qR O<|yH O<|qR O<|zV O O (qH [none,none,none,none,none,some 4,none,none,none,none,none,none,none,none,none,none,some 2,some 4,some 13,some 20] O zr56 O) ?_
 rintro _ _ ⟨b3,rfl,rfl⟩
 refine A O<|rStR 0 sz56 O<|A O<|Y<|zJ<|zQ<|G O<|A O<|yK O<|A O<|Y<|zE O (fun c1=>?_) (fun c1=>?_)
 ·try simp only [sx] at c1
  refine G O<|yF [some 8,some 20] O zr25 pl25<|A O<|rStR 1 sz25 O<|A O<|Y<|zH<|fin2 (zP kE O (J 1 O) O) (rs_c O) ?_
  rw [peelT_0 c1];rfl
 ·try simp only [sx] at c1
  refine G O<|zD O kV<|zI kU (J 0 O) O<|qD O ok29 (split_looped s.Body zA) ⟨R,O,T⟩<|A O<|Y<|zE O (fun c2=>?_) (fun c2=>?_)
  ·try simp only [sx] at c2
   have c2:¬dH s.Body=[]:=by simpa using c2
   refine G O<|yF [some 8,some 20] O zr25 pl25<|rStR 1 sz25 O<|A O<|Y<|zH<|fin2 (zP kE O (J 1 O) O) (rs_c O) ?_
   rw [zVh hs0 c1 (peelE_1 c2) zB];rfl
  ·try simp only [sx] at c2
   have c2:dH s.Body=[]:=by simpa using c2
   refine G O<|A O<|yG O<|A O<|rL0 O (fun g6_2=>zO O O) O<|rL0 O (fun g6_2=>zG O zAp O) O<|rL1 39 O (fun g6_2=>zF O one3 O (J 0 O) O) O<|rLz [(38,_),(40,_)] O B ⟨O,O,O,O,T⟩ (fun g6_2=>wF O O O) O<|r_or O (fun h=>(lzf h))<|A O<|Y<|zE O (fun c3=>?_) (fun c3=>?_)
   ·try simp only [sx] at c3
    refine G O<|yF [some 8,some 20] O zr25 pl25<|rStR 1 sz25 O<|A O<|Y<|zH<|fin2 (zP kE O (J 1 O) O) (rs_c O) ?_
    rw [zVh hs0 c1 (peelE_2 c2 c3) zB];rfl
   ·try simp only [sx] at c3
    have c3:¬(many<1∨s.Many<=many):=by omega
    refine G O<|A O<|qD O ok17 (zBa _) ⟨R,O,T⟩<|kN O<|A O<|Y<|zE O (fun c4=>?_) (fun c4=>?_)
    ·try simp only [sx] at c4
     have c4:bD rest=false:=by simpa using c4
     refine G O<|yF [some 8,some 20] O zr25 pl25<|rStR 1 sz25 O<|A O<|Y<|zH<|fin2 (zP kE O (J 1 O) O) (rs_c O) ?_
     rw [zVh hs0 c1 (peelE_3 c2 c3 c4) zB];rfl
    ·try simp only [sx] at c4
     have c4:bD rest=true:=by simpa using c4
     refine G O<|zM kE (J 2 O) O<|A O<|qD O ok18 (zHz _ _ zA) ⟨R,O,R,O,T⟩<|A O<|Y<|zE O (fun c5=>?_) (fun c5=>?_)
     ·try simp only [sx] at c5
      refine G O<|yF [some 8,some 20] O zr25 pl25<|rStR 1 sz25 O<|A O<|Y<|zH<|fin2 (zP kE O (J 1 O) O) (rs_c O) ?_
      rw [zVh hs0 c1 (peelE_4 c2 c3 c4 c5) zB];rfl
     ·try simp only [sx] at c5
      refine zK<|G O<|A O<|qD O ok20 (lin_Var _) ⟨R,O,T⟩<|A O<|qD O ok24 (zVy _) ⟨R,O,T⟩<|qD O ok21 (show Pur cfg 21 [dF (jJ rest),dF ⟨many,[]⟩] (.tup [dF (pC many rest),vI (fX (jJ rest) ⟨many,[]⟩).2]) from lin_Add (jJ rest) ⟨many,[]⟩ zA (by show 0<=_;omega) hvo ⟨hb,fun m hm=>by cases hm⟩) ⟨R,O,R,O,T⟩<|qO O<|yH O<|qR O<|zV O O (qH [none,some 2] O zr51 O) ?_
      rintro _ _ ⟨b4,rfl,rfl⟩
      refine rStR 0 sz51 O<|A O<|Y<|G O<|zD O kV<|zI kU (J 1 O) O<|A O<|zM kP (J 0 O) O<|qD O ok22 (zBh s.Body loop (pC many rest) zA hfr zA hlr) ⟨R,O,R,O,R,O,T⟩<|qO O<|qR O<|qR O<|A O<|A O<|Y<|zJ<|G O<|A O<|yK O<|Y<|zE O (fun c6=>?_) (fun c6=>?_)
      ·try simp only [sx] at c6
       refine G O<|yF [some 8,some 20] O zr25 pl25<|A O<|rStR 2 sz25 O<|A O<|Y<|zH<|fin2 (zP kE O (J 2 O) O) (rs_c O) ?_
       rw [zVh hs0 c1 (peelE_5 c2 c3 c4 c5) c6];rfl
      ·try simp only [sx] at c6
       refine zK<|G O<|A O<|zD O zAp<|zI one3 (J 1 O) O<|A O<|zW O (zMy O O O)<|zD O zJc<|zI one3 (J 1 O) O<|A O<|yF [none,none,none,none,none,some 4,none,none,none,none,none,none,none,none,none,none,some 2,some 4,some 13,none] O zr56 pl56<|zV O O (qH [none,none,none,none,none,some 4,none,none,none,none,none,none,none,none,none,none,some 2,some 4,some 13,some 20] O zr56 O) ?_
       rintro _ _ ⟨b5,rfl,rfl⟩
       refine rStR 0 sz56 O<|Y<|G O<|A O<|zD O zAp<|rStR 2 sz3 O<|Y<|G O<|zM kE (J 4 O) O<|A O<|zM zDh (J 2 O) O<|zM zDh (J 0 O) O<|zW O (qZ O D zr56 O O O O) ?_
       refine qD O ok25 (zGj n (mD n loop) [xE s many,lJ rest (w64 (s.Many-many)) s.Mark (lK (sbT loop (pC many rest) s.Body))] hn (by have:=peelS_wt s many (w64 (s.Many-many)) rest (lK (sbT loop (pC many rest) s.Body));omega) zA) ⟨R,O,VLe.of_eq (congrArg vIs (locT_w c1)),O,VLe.of_eq ((peelS_x s many _ rest _).symm),O,T⟩<|yH O<|qR O<|rStR 3 sz25 O<|A O<|Y<|zH<|fin2 (zP kE O (J 3 O) O) (rs_c O) ?_
       rw [peelT_2 hs0 c1 ((peelE_5 c2 c3 c4 c5).trans c6)];rfl
end Go.W
end
section
set_option maxRecDepth 10000
namespace Go.W
open Go Go.Eng Go.Proofs Go.L41 Go.Br
attribute [local irreducible] AWP RWP TD fH
theorem node_P {P:Lf->Prop} {e x:Ex} (h:e.allF P) (hx:x∈bW e):P x.Lin/\lY P x.Idx:=
  ⟨h x hx _ (by unfold dP;simp),fun y hy=>⟨h x hx _ (by unfold dP;exact List.mem_cons_of_mem _ (List.mem_flatMap.2 ⟨y,hy,uD⟩)),fun l hl=>h x hx _ (by unfold dP;exact List.mem_cons_of_mem _ (List.mem_flatMap.2 ⟨y,hy,by simp [hl]⟩))⟩⟩
theorem ev_ix1 {f:Lf->Bool} {i:List Ix} {k:Nat} {x:Ix} (h:i[k]? =some x) (c:(f x.Lin&&x.At.all f)=false):nG f i=false:=zLc h (p:=fun x:Ix=>f x.Lin&&x.At.all f) c
theorem ev_next {f:Lf->Bool} {i:List Ix} {k:Nat} {x:Ix} (h:i[k]? =some x) (hp:nG f (i.take k)=true) (c:f x.Lin=true) (c2:x.At.all f=true):nG f (i.take (k+1))=true:=by
  unfold nG at hp⊢
  rw [yQ h,List.all_append,hp];simp [c,c2]
theorem evL_app (f:Lf->Bool):∀a b:List St,evL f (a++b)=(evL f a&&evL f b)
  |[],b=>by rw [evL];rfl
  |x::r,b=>by rw [List.cons_append,evL,evL,evL_app f r b,Bool.and_assoc]
theorem evS_eq (f:Lf->Bool) (s:St):evS f s=(nG f s.Idx&&evL f s.Body&&cZ f s.E):=by cases s;rw [evS];rfl
theorem evL_next {f:Lf->Bool} {l:List St} {k:Nat} {s:St} (h:l[k]? =some s) (hp:evL f (l.take k)=true) (c:(!nG f s.Idx|| !evL f s.Body)=false) (d:cZ f s.E=true):evL f (l.take (k+1))=true:=by
  rw [←Bool.not_and] at c
  have c':(nG f s.Idx&&evL f s.Body)=true:=by simpa using c
  rw [yQ h,evL_app,hp,evL,evS_eq,c',d,evL];rfl
theorem evL_no {f:Lf->Bool} {l:List St} {k:Nat} {s:St} (h:l[k]? =some s) (c:evS f s=false):evL f l=false:=by
  have e:l=l.take k++s::l.drop (k+1):=by rw [←qP h,List.take_append_drop]
  rw [e,evL_app,evL,c];simp
theorem evS_1 {f:Lf->Bool} {s:St} (c:(!nG f s.Idx|| !evL f s.Body)=true):evS f s=false:=by
  rw [←Bool.not_and] at c
  rw [evS_eq]
  have c':(nG f s.Idx&&evL f s.Body)=false:=by rw [Bool.not_eq_true'] at c;exact c
  rw [c'];rfl
theorem ev_ret {f:Lf->Bool} {pre:List Ex} {x:Ex} (hi:(pre.all fun a=>f a.Lin&&nG f a.Idx)=true) (c:(!f x.Lin|| !nG f x.Idx)=true):((pre++[x]).all fun a=>f a.Lin&&nG f a.Idx)=false:=by
  rw [←Bool.not_and,Bool.not_eq_true'] at c
  rw [List.all_append,hi,List.all_cons,c];rfl
theorem evS_2 {f:Lf->Bool} {s:St} (c:cZ f s.E=false):evS f s=false:=by rw [evS_eq,c,Bool.and_false]
theorem linsWt_0 {g:Lf->Lf} (hg:∀l,(g l).L.length<=l.L.length):∀l:List Lf,fC (l.map g)<=fC l
  |[]=>by simp [fC]
  |x::r=>by rw [List.map_cons,fC,fC];have:=linsWt_0 hg r;have:=hg x;omega
theorem idxWt_0 {g:Lf->Lf} (hg:∀l,(g l).L.length<=l.L.length):∀l:List Ix,dL (l.map (gIx g))<=dL l
  |[]=>by simp [dL]
  |x::r=>by
    rw [List.map_cons,dL,dL]
    have h1:=idxWt_0 hg r
    have h2:(gIx g x).wt<=x.wt:=by
      unfold gIx Ix.wt
      have h3:=linsWt_0 hg x.At
      have h4:=hg x.Lin
      simp only [List.length_map];omega
    omega
mutual
theorem gSt_0 {g:Lf->Lf} {r:ByteArray->ByteArray} (hg:∀l,(g l).L.length<=l.L.length):∀s:St,(gSt g r s).wt<=s.wt
  |.mk o nm mn mk fo i e b=>by
    rw [gSt,St.wt,St.wt,List.length_map]
    have h1:=idxWt_0 hg i
    have h2:=wt_g (c:=0) (fun l=>by have:=hg l;omega) e
    have h3:=gSts_0 (r:=r) hg b
    omega
theorem gSts_0 {g:Lf->Lf} {r:ByteArray->ByteArray} (hg:∀l,(g l).L.length<=l.L.length):∀l:List St,bC (rM g r l)<=bC l
  |[]=>by rw [rM];simp [bC]
  |s::t=>by rw [rM,bC,bC];have:=gSt_0 (r:=r) hg s;have:=gSts_0 (r:=r) hg t;omega
end
theorem sbT0_wt {s:ByteArray} {l:List St}:bC (lK (sbT s ⟨0,[]⟩ l))<=bC l:=by
  cases h:sbT s ⟨0,[]⟩ l with
  |error y=>show bC []<=_;simp [bC]
  |ok a=>
    show bC a<=_
    rw [mSts_g h]
    exact gSts_0 (fun l=>by have:=substR_len l ⟨0,[]⟩ s;exact this) l
mutual
theorem sbS_rng {g:Lf->Lf} {r:ByteArray->ByteArray} (hg:∀l,l.rng->(g l).rng):∀s:St,s.allF Lf.rng->(gSt g r s).allF Lf.rng
  |.mk o nm mn mk fo i e b,h=>by
    rw [St.allF] at h
    rw [gSt,St.allF]
    refine ⟨fun x hx=>?_,allF_g fun x hx l hl=>hg _ (h.2.1 x hx l hl),sbL_rng hg b h.2.2⟩
    obtain ⟨y,hy,rfl⟩:=List.mem_map.1 hx
    refine ⟨hg _ (h.1 y hy).1,fun l hl=>?_⟩
    obtain ⟨k,hk,rfl⟩:=List.mem_map.1 hl
    exact hg _ ((h.1 y hy).2 k hk)
theorem sbL_rng {g:Lf->Lf} {r:ByteArray->ByteArray} (hg:∀l,l.rng->(g l).rng):∀l:List St,bS Lf.rng l->bS Lf.rng (rM g r l)
  |[],_=>by rw [rM,bS];trivial
  |s::t,h=>by
    rw [bS] at h
    rw [rM,bS]
    exact ⟨sbS_rng hg s h.1,sbL_rng hg t h.2⟩
end
theorem sbT_rng (s:ByteArray) (u:Lf) {l:List St} (h:bS Lf.rng l):bS Lf.rng (lK (sbT s u l)):=by
  cases c:sbT s u l with
  |error y=>show bS Lf.rng [];rw [bS];trivial
  |ok a=>
    show bS Lf.rng a
    rw [mSts_g c]
    exact sbL_rng (fun l hl=>substR_rng s hl) l h
theorem colE_1 {n:Ns} {s inn:St} {outer nm:ByteArray} (hi:s.Body.getD 0 zSt=inn) (h:¬(s.Body.length=1/\inn.Op=1)):pQ n s outer nm=19:=by unfold pQ;rw [hi,if_neg h]
theorem colE_2 {n:Ns} {s inn:St} {outer nm:ByteArray} (hi:s.Body.getD 0 zSt=inn) (h:s.Body.length=1/\inn.Op=1) (h2:bD nm=false):pQ n s outer nm=7:=by unfold pQ;rw [hi,if_pos h,if_pos h2]
theorem colE_3 {n:Ns} {s inn:St} {outer nm:ByteArray} (hi:s.Body.getD 0 zSt=inn) (h:s.Body.length=1/\inn.Op=1) (h2:bD nm=true) (h3:((!decide (nm=outer)&& !decide (nm=inn.Name))&&pT n nm)=true):pQ n s outer nm=8:=by unfold pQ;rw [hi,if_pos h,if_neg (by rw [h2];simp),if_pos h3]
theorem colE_4 {n:Ns} {s inn:St} {outer nm:ByteArray} (hi:s.Body.getD 0 zSt=inn) (h:s.Body.length=1/\inn.Op=1) (h2:bD nm=true) (h3:((!decide (nm=outer)&& !decide (nm=inn.Name))&&pT n nm)=false) (h4:w64 (Int.tdiv 65536 inn.Many)<s.Many):pQ n s outer nm=2:=by unfold pQ;rw [hi,if_pos h,if_neg (by rw [h2];simp),if_neg (by rw [h3];simp),if_pos h4]
theorem colE_5 {n:Ns} {s inn:St} {outer nm:ByteArray} (hi:s.Body.getD 0 zSt=inn) (h:s.Body.length=1/\inn.Op=1) (h2:bD nm=true) (h3:((!decide (nm=outer)&& !decide (nm=inn.Name))&&pT n nm)=false) (h4:¬w64 (Int.tdiv 65536 inn.Many)<s.Many) (h5:evL (xN outer inn.Name inn.Many) inn.Body=false):pQ n s outer nm=19:=by unfold pQ;rw [hi,if_pos h,if_neg (by rw [h2];simp),if_neg (by rw [h3];simp),if_neg h4,if_pos h5]
theorem colE_6 {n:Ns} {s inn:St} {outer nm:ByteArray} (hi:s.Body.getD 0 zSt=inn) (h:s.Body.length=1/\inn.Op=1) (h2:bD nm=true) (h3:((!decide (nm=outer)&& !decide (nm=inn.Name))&&pT n nm)=false) (h4:¬w64 (Int.tdiv 65536 inn.Many)<s.Many) (h5:evL (xN outer inn.Name inn.Many) inn.Body=true):
    pQ n s outer nm=if jM (sbT outer ⟨0,[]⟩ inn.Body)=0 then jM (sbT inn.Name (jJ nm) (lK (sbT outer ⟨0,[]⟩ inn.Body))) else jM (sbT outer ⟨0,[]⟩ inn.Body):=by unfold pQ;rw [hi,if_pos h,if_neg (by rw [h2];simp),if_neg (by rw [h3];simp),if_neg h4,if_neg (by rw [h5];simp)]
theorem colT_0 {n:Ns} {outer nm:ByteArray} (h:¬jH n outer=0):xF n outer nm=(zNs,jH n outer):=if_neg h
theorem zXg {n:Ns} {s:St} {outer nm:ByteArray} {e:Int} (hs:(gO n outer).2.1=s) (h:jH n outer=0) (he:pQ n s outer nm=e) (h0:¬e=0):xF n outer nm=(zNs,e):=by unfold xF;rw [if_pos h,hs,he,if_neg h0]
theorem colT_2 {n:Ns} {s:St} {outer nm:ByteArray} (hs:(gO n outer).2.1=s) (h:jH n outer=0) (he:pQ n s outer nm=0):xF n outer nm=tL n (mD n outer) [xT s outer nm]:=by unfold xF;rw [if_pos h,hs,if_pos he]
theorem colS_x {s inn:St} (hi:s.Body.getD 0 zSt=inn) (outer nm:ByteArray):bU [xT s outer nm]=.c (.sl 20 [[cI 1,cS nm,cI (w64 (s.Many*inn.Many)),cI s.Mark,cI 0,.sl 4 [],cI 0,cS (bs []),cI 0,cI 0,cI 0,cI 0,cI 0,cI 0,cI 0,cI 0,.sl 2 [],.sl 4 [],.sl 13 [],.sl 20 ((lK (sbT inn.Name (jJ nm) (lK (sbT outer ⟨0,[]⟩ inn.Body)))).map St.cells)]]):=by
  unfold xT
  rw [hi]
  show V.c (C.sl 20 [(lJ _ _ _ _).cells])=_
  rw [zPz]
theorem colS_wt {s inn:St} (hi:s.Body.getD 0 zSt=inn) (outer nm:ByteArray):bC [xT s outer nm]=bC (lK (sbT inn.Name (jJ nm) (lK (sbT outer ⟨0,[]⟩ inn.Body))))+2:=by
  unfold xT
  rw [hi]
  simp only [bC,sFor_wt];omega
theorem get_0 {l:List St} (h:0<l.length):l[0]? =some (l.getD 0 zSt):=by
  rw [List.getD_eq_getElem?_getD,List.getElem?_eq_getElem h];rfl
theorem ok30:bA Tryz.prog 30=true:=by kernel_rfl
theorem ok31:bA Tryz.prog 31=true:=by kernel_rfl
theorem ok32:bA Tryz.prog 32=true:=by kernel_rfl
theorem ok67:bA Tryz.prog 67=true:=by kernel_rfl
theorem one79:lX Tryz.prog 79=true:=by kernel_rfl
theorem one129:lX Tryz.prog 129=true:=by kernel_rfl
theorem sz129:(Tryz.prog.info? 129).map (·.size)=some 1:=by kernel_rfl
theorem zr2:fF Tryz.prog 2=some [(Value.int IntKind.i64 0)]:=by kernel_rfl
theorem zr129:fF Tryz.prog 129=some [Value.nilFunc]:=by kernel_rfl
theorem lin_Coeff (l:Lf) (s:ByteArray) (hl:l.L.length<=6000000000000):
    Pur cfg 32 [dF l,vS s] (vI (nS l.L s)):=by
 refine zR Tryz.func32 O Tryz.ntmps32 Tryz.results32 O ?_
 intro z hz
 refine G O<|zV O O (qJ O O) ?_
 rintro _ _ ⟨b1,rfl,rfl⟩
 refine A O<|Y<|zJ<|G O<|zD O wK<|zI zBl (J 0 O) O<|qB O N<|A O<|Y<|zQ<|zY ⟨[(10,.c _),(1,.c _),(8,.c _),(9,.c _)],[]⟩ (Weak.mk [false] ⟨R,R,R,R,T⟩ O)<|qK 1 0 O O (Nat) (fun k=>[(10,vI k)]) (fun k=>[]) (fun k=>k<=l.L.length/\(nS l.L s=nS (l.L.drop k) s)) (fun k=>l.L.length-k) ⟨0,⟨zA,O⟩,Weak.mk [] ⟨R,R,R,R,T⟩ O⟩ ?_
 rintro k ⟨hk,hp⟩
 refine G O<|yG O<|Y<|zJ<|zE O (fun c1=>?_) (fun c1=>?_)
 ·try simp only [sx] at c1
  obtain ⟨x,hx⟩:=qY l.L k zA
  refine zK<|zJ<|zQ<|G O<|qC O N zA (getm uB)<|zM zHt zZ O<|zV O O (qV O zJk) ?_
  rintro _ _ ⟨b2,rfl,rfl⟩
  refine rStR 0 sz109 O<|Y<|G O<|zD O zAa<|zI one9 (J 0 O) O<|A O<|wL O<|Y<|zE O (fun c2=>?_) (fun c2=>?_)
  ·try simp only [sx] at c2
   refine G O<|zD O zCo<|zI U (J 0 O) O<|A O<|Y<|zH<|zS O ?_
   rw [hp,qP hx,nS,if_pos c2]
  ·try simp only [sx] at c2
   refine zK<|zT O<|qI O ⟨zA,zA⟩<|A O<|Y ?_
   refine ⟨k+1,⟨zA,by rw [hp,qP hx,nS,if_neg c2]⟩,zA,Weak.mk [false] ⟨R,R,R,R,T⟩ O⟩
 ·try simp only [sx] at c1
  refine qN<|G O<|A O<|Y<|zH<|zS O ?_
  rw [hp,kK zA];rfl
theorem collapse_1 (outer:ByteArray) (many:Int) (inn:St) (l:Lf) (hm:1<=many) (hl:l.L.length<=6000000000000):
    Pur cfg 31 [dF l,.c (.iptr [cS outer]),.c (.iptr [cI many]),.c (.iptr inn.cs)] (vB (xN outer inn.Name many l)):=by
 refine zR Tryz.func31 O Tryz.ntmps31 Tryz.results31 O ?_
 intro z hz
 refine G O<|zV O O (qJ O O) ?_
 rintro _ _ ⟨b1,rfl,rfl⟩
 refine A O<|Y<|G O<|zM kP (J 0 O) O<|zI one9 zZ O<|qD O ok32 (lin_Coeff _ _ zA) ⟨R,O,R,O,T⟩<|A O<|Y<|zJ<|qU 15 mixed uC O O<|zN O O (zO O O)<|zN O O (zF O U O zZ O)<|zN O O (zMz O O O zA)<|zN O O (yM O O O)<|zN O O (zO O O)<|qL [] O O O O B T (fun g2_4=>zO O O) O<|qL [] O O O O B T (fun g2_4=>zF O U O zZ O) O<|qL [(15,_),(16,_)] O O O O B ⟨O,O,O,O,T⟩ (fun g2_4=>zIs O O O zA) O<|qL [] O O O O B T (fun g2_4=>zU O kP O (J 0 O) O) O<|qL [] O O O O B T (fun g2_4=>qM O zAh O) O<|qL [(19,_)] O O O O B ⟨O,O,T⟩ (fun g2_4=>zF O one9 O zZ O) O<|qL [(18,_),(20,_)] O O O O B ⟨O,O,O,O,T⟩ (fun g2_4=>qG O ok32 (lin_Coeff _ _ zA) ⟨R,O,R,O,T⟩) O<|qL [(17,_),(21,_)] O O O O B ⟨O,O,O,O,T⟩ (fun g2_4=>yM O O O) O<|zN O O (kZ O O O (fun h=>h) O)<|zN O O (qX O O)<|yP<|Y<|zH<|zS O ?_
 rfl
theorem every_1 (f:Lf->Bool) (c:C) (P:Lf->Prop) (hc:∀l,P l->FnPur cfg c [dF l] (vB (f l))) (i:List Ix) (hi:i.length<=4294967296) (hA:∀x,x∈i->x.At.length<=4294967296) (hP:lY P i):
    Pur cfg 67 [gR i,.c (.iptr [c])] (vB (nG f i)):=by
 refine zR Tryz.func67 O Tryz.ntmps67 Tryz.results67 O ?_
 intro z hz
 refine G O<|A O<|Y<|zJ<|G O<|A O<|qB O v<|A O<|Y<|zQ<|zY ⟨[(10,.c _),(1,.c _),(8,.c _),(9,.c _)],[]⟩ (Weak.mk [] ⟨R,R,R,R,T⟩ O)<|qK 1 0 O O (Nat) (fun k=>[(10,vI k)]) (fun k=>[]) (fun k=>k<=i.length/\(nG f (i.take k)=true)) (fun k=>i.length-k) ⟨0,⟨zA,O⟩,Weak.mk [] ⟨R,R,R,R,T⟩ O⟩ ?_
 rintro k ⟨hk,hp⟩
 refine G O<|yG O<|Y<|zJ<|zE O (fun c1=>?_) (fun c1=>?_)
 ·try simp only [sx] at c1
  obtain ⟨x,hx⟩:=qY i k zA
  have hAx:=hA x (qA hx)
  refine zK<|zJ<|zQ<|G O<|qC O v zA (getm uB)<|zM zPo zZ O<|zV O O (qH [none,some 2,none,some 2] O zr92 O) ?_
  rintro _ _ ⟨b1,rfl,rfl⟩
  refine rStR 0 sz92 O<|Y<|zJ<|G O<|zI one79 zZ O<|zD O zFh<|zM kP (J 0 O) O<|zW O (kS O O (hc x.Lin (hP x (qA hx)).1) ⟨R,O,T⟩)<|kN O<|Y<|zE O (fun c2=>?_) (fun c2=>?_)
  ·refine G O<|A O<|Y<|zH<|zS O ?_
   rw [ev_ix1 hx (by simp at c2;rw [c2];rfl)]
  ·refine zK<|G O<|zD O zAu<|zI zEo (J 0 O) O<|qB O el90<|A O<|Y<|zQ<|zY ⟨[(22,.c _),(1,.c _),(8,.c _),(9,.c _),(10,.c _),(20,.c _),(21,.c _)],[]⟩ (Weak.mk [false] ⟨R,R,R,R,R,R,R,T⟩ O)<|qK 1 0 O O (Nat) (fun j=>[(22,vI j)]) (fun j=>[]) (fun j=>j<=x.At.length/\((x.At.take j).all f=true)) (fun j=>x.At.length-j) ⟨0,⟨zA,O⟩,Weak.mk [] ⟨R,R,R,R,R,R,R,T⟩ O⟩ ?_
   rintro j ⟨hk,hq⟩
   refine G O<|yG O<|Y<|zJ<|zE O (fun c3=>?_) (fun c3=>?_)
   ·try simp only [sx] at c3
    obtain ⟨l,hl⟩:=qY x.At j zA
    refine zK<|zJ<|zQ<|G O<|qC O el90 zA (getm uB)<|zM kP zZ O<|zV O O (qH [none,some 2] O zr51 O) ?_
    rintro _ _ ⟨b2,rfl,rfl⟩
    refine rStR 0 sz51 O<|Y<|G O<|zI one79 zZ O<|zM kP (J 0 O) O<|zW O (kS O O (hc l ((hP x (qA hx)).2 l (qA hl))) ⟨R,O,T⟩)<|kN O<|Y<|zE O (fun c4=>?_) (fun c4=>?_)
    ·refine G O<|A O<|Y<|zH<|zS O ?_
     rw [ev_ix1 hx (by simp at c4;rw [zLc hl c4,Bool.and_false])]
    ·refine zK<|zT O<|qI O ⟨zA,zA⟩<|A O<|Y ?_
     refine ⟨j+1,⟨zA,by rw [yQ hl,List.all_append,hq];simpa using c4⟩,zA,Weak.mk [false] ⟨R,R,R,R,R,R,R,T⟩ O⟩
   ·try simp only [sx] at c3
    refine qN<|zT O<|qI O ⟨zA,zA⟩<|A O<|Y ?_
    refine ⟨k+1,⟨zA,ev_next hx hp (by simpa using c2) (by rw [yV zA] at hq;exact hq)⟩,zA,Weak.mk [] ⟨R,R,R,R,T⟩ O⟩
 ·try simp only [sx] at c1
  refine qN<|G O<|A O<|Y<|zH<|zS O ?_
  rw [yV zA] at hp;rw [hp]
theorem every_step (f:Lf->Bool) (c:C) (P:Lf->Prop) (hc:∀l,P l->FnPur cfg c [dF l] (vB (f l))) (l:List St) (ih:∀s,s∈l->Pur cfg 30 [bU s.Body,.c c] (vB (evL f s.Body))) (hP:bS P l) (hl:bC l<=1073741824):
    Pur cfg 30 [bU l,.c c] (vB (evL f l)):=by
 refine zR Tryz.func30 O Tryz.ntmps30 Tryz.results30 O ?_
 intro z hz
 have hll:=kX l
 refine G O<|zV O O (qJ O O) ?_
 rintro _ _ ⟨b1,rfl,rfl⟩
 refine yS _ (yW 0 O 3 _ PLe.ptr)<|zV O O (qV O zr4) ?_
 rintro _ _ ⟨b2,rfl,rfl⟩
 refine Y<|G O<|zW O (zEk O O O O O)<|zV O O (qV O zr129) ?_
 rintro _ _ ⟨b3,rfl,rfl⟩
 refine rStR 0 sz129 O<|yS _ (yW 0 O 5 _ PLe.ptr)<|Y<|zJ<|G O<|A O<|qB O D<|A O<|Y<|zQ<|zY ⟨[(12,.c _),(3,.c _),(4,.c _),(5,.c _),(10,.c _),(11,.c _)],[_]⟩ (Weak.mk [true] ⟨R,R,R,R,R,R,T⟩ O)<|qK 1 0 O O (Nat) (fun k=>[(12,vI k)]) (fun k=>[]) (fun k=>k<=l.length/\(evL f (l.take k)=true)) (fun k=>l.length-k) ⟨0,⟨zA,by rw [List.take_zero,evL]⟩,Weak.mk [true] ⟨R,R,R,R,R,R,T⟩ O⟩ ?_
 rintro k ⟨hk,hp⟩
 refine G O<|yG O<|Y<|zJ<|zE O (fun c1=>?_) (fun c1=>?_)
 ·try simp only [sx] at c1
  obtain ⟨s,hs⟩:=qY l k zA
  have hsw:=yU (qA hs)
  have hse:=St.wt_eq s
  have hPs:=St.allF_eq (wO hP s (qA hs))
  refine zK<|zJ<|zQ<|G O<|qC O D zA (wJ hs)<|zM zDh zZ O<|zV O O (qH [none,none,none,none,none,some 4,none,none,none,none,none,none,none,none,none,none,some 2,some 4,some 13,some 20] O zr56 O) ?_
  rintro _ _ ⟨b4,rfl,rfl⟩
  refine rStR 0 sz56 O<|Y<|zJ<|G O<|zI one129 zZ O<|zD O zEt<|zI wQ (J 0 O) O<|zW O (kS O O (show FnPur cfg (.fn (.func 67) [] [.iptr [c]]) [gR s.Idx] (vB (nG f s.Idx)) from FnPur.of_pur (first:=[]) (cap:=[.iptr [c]]) ok67 (every_1 f c P hc s.Idx zA (fun x hx=>by have:=zBn hx;rw [Ix.wt] at this;omega) hPs.1)) ⟨R,O,T⟩)<|kN O<|A O<|rL0 O (fun g5_5=>zG O kV O) O<|rL1 22 O (fun g5_5=>zF O kU O (J 0 O) O) O<|rL0 O (fun g5_5=>zF O one79 O zZ O) O<|rLz [(23,_),(24,_)] O B ⟨O,O,O,O,T⟩ (fun g5_5=>qG O ok30 (ih s (qA hs)) ⟨R,O,R,O,T⟩) O<|rL1 25 O (fun g5_5=>kJ O O) O<|r_or O (fun h=>(lzf h))<|Y<|zE O (fun c2=>?_) (fun c2=>?_)
  ·refine G O<|rStR 1 sz4 O<|Y<|zH<|fin1 (kY one4 O (J 1 O) O) ?_
   rw [evL_no hs (evS_1 c2)]
  ·refine zK<|G O<|zD O zBc<|zM yX (J 0 O) O<|qD O ok68 (zOs _) ⟨R,O,T⟩<|Y<|zQ<|zY _ (Weak.mem [false,true] O)<|zGg (ps:=[31]) hz 1 O O ok98 (zNe s.E zA) (fun _ _=>O) O (fun pre=>pre.all (fun a=>f a.Lin&&nG f a.Idx)=true) (fun pre=>[E.row b2 4 [.lit (.bool false)]]) (fun c pre=>(c=.ret/\pre.all (fun a=>f a.Lin&&nG f a.Idx)=false)) (fun c pre=>[E.row b2 4 [.lit (.bool false)]]) ⟨O,O⟩ ?_ ?_ ?_ ?_
   ·intro pre x suf hxs hi z hz
    have hxw:x.wt<=s.E.wt:=zFw s.E x (by rw [hxs];simp)
    have hxe:=Ex.wt_eq x
    refine zT O<|zV O O (qH [none,none,none,none,none,none,none,none,none,none,some 2,some 4,some 13] O zr54 O) ?_
    rintro _ _ ⟨b5,rfl,rfl⟩
    refine rStR 0 sz54 O<|Y ?_
    intro z hz
    refine zQ<|G O<|zI one79 zZ O<|zD O zDv<|zM kP (J 0 O) O<|zW O (kS O O (hc x.Lin (node_P hPs.2.1 (by rw [hxs];simp)).1) ⟨R,O,T⟩)<|kN O<|A O<|rL0 O (fun g9_5=>zF O one129 O zZ O) O<|rL0 O (fun g9_5=>zG O wI O) O<|rL1 39 O (fun g9_5=>zF O wQ O (J 0 O) O) O<|rLz [(38,_),(40,_)] O B ⟨O,O,O,O,T⟩ (fun g9_5=>kS O O (show FnPur cfg (.fn (.func 67) [] [.iptr [c]]) [gR x.Idx] (vB (nG f x.Idx)) from FnPur.of_pur (first:=[]) (cap:=[.iptr [c]]) ok67 (every_1 f c P hc x.Idx zA (fun y hy=>by have:=zBn hy;rw [Ix.wt] at this;omega) (node_P hPs.2.1 (by rw [hxs];simp)).2)) ⟨R,O,T⟩) O<|rL1 41 O (fun g9_5=>kJ O O) O<|r_or O (fun h=>(lzf h))<|Y<|zE O (fun c3=>?_) (fun c3=>?_)
    ·refine G O<|rStR 1 sz4 O<|Y<|zH ?_
     exact zCp (τ:=⟨[],_⟩) (Weak.mk [false,true] T O) ⟨⟨O,ev_ret hi c3⟩,O⟩
    ·refine zK ?_
     exact zCp (τ:=⟨[],_⟩) (Weak.mk [false,true] T O) ⟨(by simp at c3;simp only [List.all_append,hi,List.all_cons,List.all_nil,c3.1,c3.2,Bool.and_self]),O⟩
   ·intro hd
    refine zT O<|qI O ⟨zA,zA⟩<|A O<|Y ?_
    refine ⟨k+1,⟨zA,evL_next hs hp c2 hd⟩,zA,Weak.mk [true] ⟨R,R,R,R,R,R,T⟩ O⟩
   ·rintro pre x suf hxs hx
    rcases hx with ⟨hc,hx⟩
    clear hc
    repeat (first|refine zNi ?_|refine zLu ?_)
    refine fin1 (kY one4 O (J 0 O) O) ?_
    rw [evL_no hs (evS_2 (by unfold cZ;rw [hxs];exact all_app_no hx))]
   ·rintro i pre x suf hxs hx
    rcases hx with ⟨hc,hx⟩
    cases hc
 ·try simp only [sx] at c1
  refine qN<|G O<|rStR 0 sz4 O<|Y<|zH<|fin1 (kY one4 O (J 0 O) O) ?_
  rw [yV zA] at hp;rw [hp]
theorem every_body (f:Lf->Bool) (c:C) (P:Lf->Prop) (hc:∀l,P l->FnPur cfg c [dF l] (vB (f l))) (s:St) (hP:bS P s.Body) (hl:bC s.Body<=1073741824):Pur cfg 30 [bU s.Body,.c c] (vB (evL f s.Body)):=by
  induction s using St.ind with
  |_ s ih=>exact every_step f c P hc s.Body (fun a ha=>ih a ha (St.allF_eq (wO hP a ha)).2.2 (by have:=yU ha;have:=St.body_wt a;omega)) hP hl
theorem split_every (f:Lf->Bool) (c:C) (P:Lf->Prop) (hc:∀l,P l->FnPur cfg c [dF l] (vB (f l))) (l:List St) (hP:bS P l) (hl:bC l<=1073741824):Pur cfg 30 [bU l,.c c] (vB (evL f l)):=
  every_step f c P hc l (fun s hs=>every_body f c P hc s (St.allF_eq (wO hP s hs)).2.2 (by have:=yU hs;have:=St.body_wt s;omega)) hP hl
theorem split_Collapse (n:Ns) (outer nm:ByteArray) (hn:n.Ok) (hl:bC n.Body<=30000) (hr:bS Lf.rng n.Body) (hM:jH n outer=0->((gO n outer).2.1.Body.length=1/\((gO n outer).2.1.Body.getD 0 zSt).Op=1)->1<=((gO n outer).2.1.Body.getD 0 zSt).Many):
    Pur cfg 10 [vNs n,vS outer,vS nm] (.tup [vNs (xF n outer nm).1,vI (xF n outer nm).2]):=by
 refine zR Tryz.func10 O Tryz.ntmps10 Tryz.results10 O ?_
 intro z hz
 obtain ⟨s,hs0⟩:∃s,(gO n outer).2.1=s:=⟨_,rfl⟩
 have hlw:=locT_wt n outer
 have hlr:=locT_rng (s:=outer) hr
 rw [hs0] at hlw hlr
 have hwl:=zSg n outer
 have hwN:=zGs n.Body
 rw [hs0] at hM
 obtain ⟨inn,hi0⟩:∃x,s.Body.getD 0 zSt=x:=⟨_,rfl⟩
 rw [hi0] at hM
 obtain ⟨hvr,hvl⟩:=zHu nm
 refine G O<|zV O O (qJ O O) ?_
 rintro _ _ ⟨b1,rfl,rfl⟩
 refine zV O O (qJ O O) ?_
 rintro _ _ ⟨b2,rfl,rfl⟩
 refine yS _ (yW 0 O 4 _ PLe.ptr)<|zV O O (qH [some 8,some 20] O zr25 O) ?_
 rintro _ _ ⟨b3,rfl,rfl⟩
 refine A O<|Y<|G O<|zM kE (J 1 O) O<|zI one9 zZ O<|qD O ok16 (show Pur cfg 16 [vNs n,vS outer] (.tup [vIs (gO n outer).1,vSt s,vI (jH n outer)]) by have h:=zJq n outer hn;rw [locT_e,hs0] at h;exact h) ⟨R,O,R,O,T⟩<|qO O<|qR O<|yH O<|qR O<|zV O O (qH [none,none,none,none,none,some 4,none,none,none,none,none,none,none,none,none,none,some 2,some 4,some 13,some 20] O zr56 O) ?_
 rintro _ _ ⟨b4,rfl,rfl⟩
 refine A O<|rStR 0 sz56 O<|A O<|Y<|zJ<|G O<|A O<|yK O<|Y<|zE O (fun c1=>?_) (fun c1=>?_)
 ·try simp only [sx] at c1
  refine G O<|yF [some 8,some 20] O zr25 pl25<|A O<|rStR 1 sz25 O<|A O<|Y<|zH<|fin2 (zP kE O (J 1 O) O) (rs_c O) ?_
  rw [colT_0 c1];rfl
 ·try simp only [sx] at c1
  refine zK<|zJ<|G O<|zD O kV<|zI kU (J 0 O) O<|qB O D<|yK O<|A O<|rL0 O (fun g4_4=>zG O kV O) O<|rL1 31 O (fun g4_4=>zF O kU O (J 0 O) O) O<|rL1 32 O (fun g4_4=>qE O D O O (by simp only [Lz,cond_true,cond_false,Bool.and_eq_true,Bool.or_eq_true,Bool.not_eq_true',Bool.not_eq_false',Bool.or_eq_false_iff,Bool.and_eq_false_iff,decide_eq_true_eq,decide_eq_false_iff_not,Bool.not_eq_true,Bool.not_eq_false] at g4_4;omega) (wJ (get_0 (by simp only [Lz,cond_true,cond_false,Bool.and_eq_true,Bool.or_eq_true,Bool.not_eq_true',Bool.not_eq_false',Bool.or_eq_false_iff,Bool.and_eq_false_iff,decide_eq_true_eq,decide_eq_false_iff_not,Bool.not_eq_true,Bool.not_eq_false] at g4_4;omega)))) O<|rL1 33 O (fun g4_4=>qM O zAm O) O<|rL1 34 O (fun g4_4=>zF O one3 O zZ O) O<|rL1 35 O (fun g4_4=>kA O O O) O<|r_or O (fun h=>(lzf h))<|Y<|zE O (fun c2=>?_) (fun c2=>?_)
  ·have c2:¬(s.Body.length=1/\inn.Op=1):=by rintro ⟨h1,h2⟩;rw [←hi0] at h2;simp only [Bool.or_eq_true,Bool.not_eq_true',decide_eq_false_iff_not] at c2;omega
   refine G O<|yF [some 8,some 20] O zr25 pl25<|rStR 1 sz25 O<|A O<|Y<|zH<|fin2 (zP kE O (J 1 O) O) (rs_c O) ?_
   rw [zXg hs0 c1 (colE_1 hi0 c2) zB];rfl
  ·have c2:s.Body.length=1/\inn.Op=1:=by rw [←hi0];simp at c2⊢;exact ⟨zA,c2.2⟩
   have hM1:=hM c1 c2
   have hin:s.Body[0]? =some inn:=by rw [←hi0];exact get_0 zA
   have hiw:=yU (qA hin)
   have hib:=St.body_wt inn
   have hir:=(St.allF_eq (wO hlr inn (qA hin))).2.2
   have hb1:=sbT0_wt (s:=outer) (l:=inn.Body)
   have hb2:=sbT_wt (s:=inn.Name) (u:=jJ nm) (l:=lK (sbT outer ⟨0,[]⟩ inn.Body)) zA
   refine zK<|G O<|zD O kV<|zI kU (J 0 O) O<|qC O D zA (wJ hin)<|zM zDh zZ O<|zV O O (qH [none,none,none,none,none,some 4,none,none,none,none,none,none,none,none,none,none,some 2,some 4,some 13,some 20] O zr56 O) ?_
   rintro _ _ ⟨b5,rfl,rfl⟩
   refine rStR 0 sz56 O<|yS _ (yW 0 O 11 _ PLe.ptr)<|Y<|zJ<|zQ<|G O<|A O<|qD O ok17 (zBa _) ⟨R,O,T⟩<|kN O<|A O<|Y<|zE O (fun c3=>?_) (fun c3=>?_)
   ·try simp only [sx] at c3
    have c3:bD nm=false:=by simpa using c3
    refine G O<|yF [some 8,some 20] O zr25 pl25<|rStR 1 sz25 O<|A O<|Y<|zH<|fin2 (zP kE O (J 1 O) O) (rs_c O) ?_
    rw [zXg hs0 c1 (colE_2 hi0 c2 c3) zB];rfl
   ·try simp only [sx] at c3
    have c3:bD nm=true:=by simpa using c3
    refine G O<|A O<|zI one9 zZ O<|zW O (zBj O O O)<|A O<|rL0 O (fun g9_3=>zO O O) O<|rL0 O (fun g9_3=>qM O zAh O) O<|rL1 54 O (fun g9_3=>zF O one9 O zZ O) O<|rLz [(53,_),(55,_)] O B ⟨O,O,O,O,T⟩ (fun g9_3=>zBj O O O) O<|yR O (fun h=>h)<|A O<|rL0 O (fun g9_9=>zU O kE O (J 2 O) O) O<|rL0 O (fun g9_9=>zO O O) O<|rLz [(59,_),(60,_)] O B ⟨O,O,O,O,T⟩ (fun g9_9=>qG O ok18 (zHz _ _ zA) ⟨R,O,R,O,T⟩) O<|yR O (fun h=>h)<|A O<|Y<|zE O (fun c4=>?_) (fun c4=>?_)
    ·have c4:((!decide (nm=outer)&& !decide (nm=inn.Name))&&pT n nm)=true:=c4
     refine G O<|yF [some 8,some 20] O zr25 pl25<|rStR 1 sz25 O<|A O<|Y<|zH<|fin2 (zP kE O (J 1 O) O) (rs_c O) ?_
     rw [zXg hs0 c1 (colE_3 hi0 c2 c3 c4) zB];rfl
    ·have c4:((!decide (nm=outer)&& !decide (nm=inn.Name))&&pT n nm)=false:=c4
     refine zJ<|qU 7 mixed uC O O<|zN O O (zG O zAp O)<|zN O O (zF O one3 O (J 0 O) O)<|zN O O (qM O zAp O)<|zN O O (zF O one3 O zZ O)<|zN O O (zIs O O O zA)<|zN O O (yC O O O)<|zN O O (qX O O)<|yP<|Y<|zE O (fun c5=>?_) (fun c5=>?_)
     ·try simp only [sx] at c5
      refine G O<|yF [some 8,some 20] O zr25 pl25<|rStR 1 sz25 O<|A O<|Y<|zH<|fin2 (zP kE O (J 1 O) O) (rs_c O) ?_
      rw [zXg hs0 c1 (colE_4 hi0 c2 c3 c4 c5) zB];rfl
     ·try simp only [sx] at c5
      have c5:¬w64 (Int.tdiv 65536 inn.Many)<s.Many:=by show ¬(IntKind.i64.wrap (Int.tdiv 65536 inn.Many)<s.Many);omega
      refine zK<|G O<|qQ O zAp<|zI one3 zZ O<|zV O O (qV O zr2) ?_
      rintro _ _ ⟨b6,rfl,rfl⟩
      refine rStR 0 sz2 O<|yS _ (yW 0 O 12 _ PLe.ptr)<|Y<|G O<|qQ O kV<|zI kU zZ O<|zW O (zEk O O O O O)<|qD O ok30 (split_every (xN outer inn.Name inn.Many) _ (fun l=>l.L.length<=1073741824) (fun l hl=>FnPur.of_pur (first:=[]) (cap:=[.iptr [cS outer],.iptr [cI inn.Many],.iptr inn.cs]) ok31 (collapse_1 outer inn.Many inn l hM1 zA)) inn.Body (zJo zA) zA) ⟨R,O,R,O,T⟩<|A O<|Y<|zJ<|G O<|A O<|kN O<|Y<|zE O (fun c6=>?_) (fun c6=>?_)
      ·try simp only [sx] at c6
       have c6:evL (xN outer inn.Name inn.Many) inn.Body=false:=by simpa using c6
       refine G O<|yF [some 8,some 20] O zr25 pl25<|rStR 1 sz25 O<|A O<|Y<|zH<|fin2 (zP kE O (J 1 O) O) (rs_c O) ?_
       rw [zXg hs0 c1 (colE_5 hi0 c2 c3 c4 c5 c6) zB];rfl
      ·try simp only [sx] at c6
       have c6:evL (xN outer inn.Name inn.Many) inn.Body=true:=by simpa using c6
       refine zK<|zJ<|qU 10 mixed uC O O<|zN O O (qM O kV O)<|zN O O (zF O kU O zZ O)<|zN O O (zF O one9 O zZ O)<|zN O O (qG O ok24 (zVy _) ⟨R,O,T⟩)<|zN O O (qG O ok22 (zBh inn.Body outer ⟨0,[]⟩ (by show 0<=_;omega) zJl zA hir) ⟨R,O,R,O,R,O,T⟩)<|zN O O (kH O O)<|zN O O (wD O O O)<|zN O O (wD O O O)<|zN O O (qX O O)<|zN O O (qX O O)<|yP<|Y<|zJ<|G O<|A O<|yK O<|Y<|zE O (fun c7=>?_) (fun c7=>?_)
       ·try simp only [sx] at c7
        refine G O<|yF [some 8,some 20] O zr25 pl25<|A O<|rStR 1 sz25 O<|A O<|Y<|zH<|fin2 (zP kE O (J 1 O) O) (rs_c O) ?_
        rw [zXg hs0 c1 ((colE_6 hi0 c2 c3 c4 c5 c6).trans (if_neg c7)) c7];rfl
       ·try simp only [sx] at c7
        refine zK<|zJ<|qU 11 mixed uC O O<|zN O O (zO O O)<|zN O O (qM O zAh O)<|zN O O (zF O one9 O zZ O)<|zN O O (zO O O)<|zN O O (qG O ok20 (lin_Var _) ⟨R,O,T⟩)<|zN O O (qG O ok22 (zBh (lK (sbT outer ⟨0,[]⟩ inn.Body)) inn.Name (jJ nm) zA hvr zA (sbT_rng outer ⟨0,[]⟩ hir)) ⟨R,O,R,O,R,O,T⟩)<|zN O O (kH O O)<|zN O O (wD O O O)<|zN O O (wD O O O)<|zN O O (qX O O)<|zN O O (qX O O)<|yP<|Y<|zJ<|G O<|A O<|yK O<|Y<|zE O (fun c8=>?_) (fun c8=>?_)
        ·try simp only [sx] at c8
         refine G O<|yF [some 8,some 20] O zr25 pl25<|A O<|rStR 1 sz25 O<|A O<|Y<|zH<|fin2 (zP kE O (J 1 O) O) (rs_c O) ?_
         rw [zXg hs0 c1 ((colE_6 hi0 c2 c3 c4 c5 c6).trans (if_pos c7)) c8];rfl
        ·try simp only [sx] at c8
         refine zK<|G O<|zM kE (J 2 O) O<|A O<|A O<|zD O zAp<|zI one3 (J 0 O) O<|qQ O zAp<|zI one3 zZ O<|zW O (zWw O O O)<|zD O zJc<|zI one3 (J 0 O) O<|A O<|yF [none,none,none,none,none,some 4,none,none,none,none,none,none,none,none,none,none,some 2,some 4,some 13,none] O zr56 pl56<|zW O (qZ O D zr56 O O O O) ?_
         refine qD O ok25 (zGj n (mD n outer) [xT s outer nm] hn (by rw [colS_wt hi0];omega) zA) ⟨R,O,VLe.of_eq (congrArg vIs (locT_w c1)),O,VLe.of_eq ((colS_x hi0 outer nm).symm),O,T⟩<|yH O<|qR O<|rStR 1 sz25 O<|A O<|Y<|zH<|fin2 (zP kE O (J 1 O) O) (rs_c O) ?_
         rw [colT_2 hs0 c1 ((colE_6 hi0 c2 c3 c4 c5 c6).trans ((if_pos c7).trans c8))];rfl
end Go.W
end
section
set_option maxRecDepth 10000
namespace Go.W
open Go Go.Eng Go.Proofs Go.L41 Go.Br
attribute [local irreducible] AWP RWP TD fH
/-! Redundant guards. -/
abbrev MM:=List (ByteArray×Int)
def lM (a b c:Int):Int×Bool:=if c=0 then (a,true) else if w64 (Int.tdiv (w64 (b*c)) c)=b then (w64 (a+w64 (b*c)),decide (w64 (a+w64 (b*c))<a)) else (0,false)
def nB (m:MM):List Mono->Int->Bool->Int×Bool
  |[],lo,ok=>(lo,ok)
  |x::r,lo,ok=>if x.By<0/\ok=true then nB m r (lM lo x.By (w64 ((jA m x.Name).getD 0-1))).1 (lM lo x.By (w64 ((jA m x.Name).getD 0-1))).2 else nB m r lo ok
def pG (m:MM) (o:Int) (a b:Ex):Bool:=
  if (((!decide (o=13)&& !decide (o=14))|| !decide (a.Op=2))|| !decide (b.Op=2))=true then false
  else if (bF a.Lin (-1)).2=0 then
    (if (fX b.Lin (bF a.Lin (-1)).1).2=0 then
      (nB m (fX b.Lin (bF a.Lin (-1)).1).1.L (fX b.Lin (bF a.Lin (-1)).1).1.K true).2&&(decide (1<=(nB m (fX b.Lin (bF a.Lin (-1)).1).1.L (fX b.Lin (bF a.Lin (-1)).1).1.K true).1)||(decide ((nB m (fX b.Lin (bF a.Lin (-1)).1).1.L (fX b.Lin (bF a.Lin (-1)).1).1.K true).1=0)&&decide (o=14)))
    else false)
  else false
mutual
def nM (m:MM):Ex->Bool
  |.mk o _ _ _ _ _ A=>if o=16 then (cH m A).getD 0 false&&(cH m A).getD 1 false else pG m o (A.getD 0 zEx) (A.getD 1 zEx)
def cH (m:MM):List Ex->List Bool
  |[]=>[]
  |a::r=>nM m a::cH m r
end
theorem redL_map (m:MM):∀l:List Ex,cH m l=l.map (nM m)
  |[]=>by rw [cH];rfl
  |a::r=>by rw [cH,redL_map m r];rfl
theorem zNy {m:MM} {e a b:Ex} (h:e.Op=16) (ha:e.Args[0]? =some a) (hb:e.Args[1]? =some b):nM m e=(nM m a&&nM m b):=by
  cases e
  simp only [Ex.Op,Ex.Args] at h ha hb
  rw [nM,if_pos h,redL_map]
  simp [List.getD_eq_getElem?_getD,ha,hb]
theorem zAs {m:MM} {e a b:Ex} (h:¬e.Op=16) (ha:e.Args.getD 0 zEx=a) (hb:e.Args.getD 1 zEx=b):nM m e=pG m e.Op a b:=by
  cases e
  simp only [Ex.Op,Ex.Args] at h ha hb⊢
  rw [nM,if_neg h,ha,hb]
theorem exG {l:List Ex} {k:Nat} {x:Ex} (h:k<l.length) (h0:l.getD k zEx=x):l[k]? =some x:=by
  rw [←h0,List.getD_eq_getElem?_getD,List.getElem?_eq_getElem h];rfl
theorem zWd {m:MM} {o:Int} {a b:Ex} (h:(((!decide (o=13)&& !decide (o=14))|| !decide (a.Op=2))|| !decide (b.Op=2))=true):pG m o a b=false:=if_pos h
theorem zWc {m:MM} {o:Int} {a b:Ex} {sc:Lf×Int} (h:(((!decide (o=13)&& !decide (o=14))|| !decide (a.Op=2))|| !decide (b.Op=2))=false) (hs:bF a.Lin (-1)=sc) (c:¬sc.2=0):pG m o a b=false:=by
  unfold pG;rw [if_neg (by rw [h];simp),hs,if_neg c]
theorem zWb {m:MM} {o:Int} {a b:Ex} {sc d:Lf×Int} (h:(((!decide (o=13)&& !decide (o=14))|| !decide (a.Op=2))|| !decide (b.Op=2))=false) (hs:bF a.Lin (-1)=sc) (c:sc.2=0) (hd:fX b.Lin sc.1=d) (c2:¬d.2=0):pG m o a b=false:=by
  unfold pG;rw [if_neg (by rw [h];simp),hs,if_pos c,hd,if_neg c2]
theorem zWa {m:MM} {o:Int} {a b:Ex} {sc d:Lf×Int} {lo:Int} {ok:Bool} (h:(((!decide (o=13)&& !decide (o=14))|| !decide (a.Op=2))|| !decide (b.Op=2))=false) (hs:bF a.Lin (-1)=sc) (c:sc.2=0) (hd:fX b.Lin sc.1=d) (c2:d.2=0) (hR:nB m d.1.L d.1.K true=(lo,ok)):pG m o a b=(ok&&(decide (1<=lo)||(decide (lo=0)&&decide (o=14)))):=by
  unfold pG;rw [if_neg (by rw [h];simp),hs,if_pos c,hd,if_pos c2,hR]
def arE (e:Ex):Bool:=(bW e).all fun x=> !(decide (x.Op=13)||decide (x.Op=14)||decide (x.Op=16))||decide (2<=x.Args.length)
theorem zRa {e:Ex} (h:arE e=true) (ho:e.Op=13∨e.Op=14∨e.Op=16):2<=e.Args.length:=by
  have h1:=List.all_eq_true.1 h e (by rw [kT];simp)
  simp only [Bool.or_eq_true,Bool.not_eq_true',Bool.or_eq_false_iff,decide_eq_false_iff_not,decide_eq_true_eq] at h1
  omega
theorem arE_arg {e a:Ex} (h:arE e=true) (ha:a∈e.Args):arE a=true:=
  List.all_eq_true.2 fun x hx=>List.all_eq_true.1 h x (by rw [kT];exact List.mem_cons_of_mem _ (zEp ha hx))
theorem lowF_next {m:MM} {R:Int×Bool} {l:List Mono} {k:Nat} {x:Mono} {lo:Int} {ok:Bool} (h:l[k]? =some x) (hp:R=nB m (l.drop k) lo ok) (c:x.By<0/\ok=true):R=nB m (l.drop (k+1)) (lM lo x.By (w64 ((jA m x.Name).getD 0-1))).1 (lM lo x.By (w64 ((jA m x.Name).getD 0-1))).2:=by
  rw [hp,qP h,nB,if_pos c]
theorem lowF_skip {m:MM} {R:Int×Bool} {l:List Mono} {k:Nat} {x:Mono} {lo:Int} {ok:Bool} (h:l[k]? =some x) (hp:R=nB m (l.drop k) lo ok) (c:¬(x.By<0/\ok=true)):R=nB m (l.drop (k+1)) lo ok:=by
  rw [hp,qP h,nB,if_neg c]
theorem lowF_end {m:MM} {R:Int×Bool} {l:List Mono} {k:Nat} {lo:Int} {ok:Bool} (hp:R=nB m (l.drop k) lo ok) (c:¬k<l.length):R=(lo,ok):=by
  rw [hp,kK c,nB]
mutual
def lT:MM->St->(List St×Nat)×MM
  |m,.mk o nm mn mk fo i e b=>
    if o=4/\nM (bK (if o=1 then lL m nm mn else m) b).2 e=true then (((bK (if o=1 then lL m nm mn else m) b).1.1,(bK (if o=1 then lL m nm mn else m) b).1.2+1),(bK (if o=1 then lL m nm mn else m) b).2)
    else (([.mk o nm mn mk fo i e (bK (if o=1 then lL m nm mn else m) b).1.1],(bK (if o=1 then lL m nm mn else m) b).1.2),(bK (if o=1 then lL m nm mn else m) b).2)
def bK:MM->List St->(List St×Nat)×MM
  |m,[]=>(([],0),m)
  |m,s::r=>(((lT m s).1.1++(bK (lT m s).2 r).1.1,(lT m s).1.2+(bK (lT m s).2 r).1.2),(bK (lT m s).2 r).2)
end
theorem con_pre {X:Cfg} {f:FuncId} {args:List V} {μ μ':List E} {Q:V->List E->Prop} (e:μ=μ') (h:Con X f args μ' Q):Con X f args μ Q:=by rw [e];exact h
def mIn (m:MM) (s:St):MM:=if s.Op=1 then lL m s.Name s.Many else m
theorem zSj {m:MM} {s:St} (h:s.Op=4/\nM (bK (mIn m s) s.Body).2 s.E=true):lT m s=(((bK (mIn m s) s.Body).1.1,(bK (mIn m s) s.Body).1.2+1),(bK (mIn m s) s.Body).2):=by
  cases s;rw [lT];exact if_pos h
theorem zUf {m:MM} {s:St} (h:¬(s.Op=4/\nM (bK (mIn m s) s.Body).2 s.E=true)):lT m s=(([lB s (bK (mIn m s) s.Body).1.1],(bK (mIn m s) s.Body).1.2),(bK (mIn m s) s.Body).2):=by
  cases s;rw [lT];exact if_neg h
theorem ungL_app:∀(m:MM) (a b:List St),bK m (a++b)=(((bK m a).1.1++(bK (bK m a).2 b).1.1,(bK m a).1.2+(bK (bK m a).2 b).1.2),(bK (bK m a).2 b).2)
  |m,[],b=>by rw [List.nil_append,bK];simp
  |m,s::r,b=>by
    rw [List.cons_append,bK,ungL_app (lT m s).2 r b,bK]
    simp only [List.append_assoc,Nat.add_assoc]
theorem zEm {m:MM} {l:List St} {k:Nat} {s:St} (h:l[k]? =some s):bK m (l.take (k+1))=(((bK m (l.take k)).1.1++(lT (bK m (l.take k)).2 s).1.1,(bK m (l.take k)).1.2+(lT (bK m (l.take k)).2 s).1.2),(lT (bK m (l.take k)).2 s).2):=by
  rw [yQ h,ungL_app,bK,bK];simp
mutual
theorem ungS_bd:∀(m:MM) (s:St),(lT m s).1.2<=stN s/\bC (lT m s).1.1<=s.wt
  |m,.mk o nm mn mk fo i e b=>by
    rw [lT,stN]
    obtain ⟨h1,h2⟩:=zPu (if o=1 then lL m nm mn else m) b
    generalize (if o=1 then lL m nm mn else m)=m1 at *
    split
    · exact ⟨by show _+1<=_;omega,by show bC (bK m1 b).1.1<=_;rw [St.wt];omega⟩
    · refine ⟨by show (bK m1 b).1.2<=_;omega,?_⟩
      show bC [St.mk o nm mn mk fo i e (bK m1 b).1.1]<=_
      simp only [bC,St.wt];omega
theorem zPu:∀(m:MM) (l:List St),(bK m l).1.2<=bY l/\bC (bK m l).1.1<=bC l
  |m,[]=>by rw [bK];simp [bY,bC]
  |m,s::r=>by
    rw [bK,bY,bC]
    obtain ⟨h1,h2⟩:=ungS_bd m s
    obtain ⟨h3,h4⟩:=zPu (lT m s).2 r
    exact ⟨by show (lT m s).1.2+(bK (lT m s).2 r).1.2<=_;omega,by show bC ((lT m s).1.1++(bK (lT m s).2 r).1.1)<=_;rw [zNd];omega⟩
end
mutual
def gdS:St->Bool
  |.mk o _ _ _ _ _ e b=>(!decide (o=4)||arE e)&&gdL b
def gdL:List St->Bool
  |[]=>true
  |s::r=>gdS s&&gdL r
end
theorem gdL_mem:∀{l:List St} {s:St},gdL l=true->s∈l->gdS s=true
  |x::r,s,h,hs=>by
    rw [gdL,Bool.and_eq_true] at h
    rcases List.mem_cons.1 hs with rfl|hs
    · exact h.1
    · exact gdL_mem h.2 hs
theorem gdS_body {s:St} (h:gdS s=true):gdL s.Body=true:=by cases s;rw [gdS,Bool.and_eq_true] at h;exact h.2
theorem gdS_if:∀{s:St},gdS s=true->s.Op=4->arE s.E=true
  |.mk o nm mn mk fo i e b,h,ho=>by
    rw [gdS,Bool.and_eq_true] at h
    have h1:=h.1
    rw [show o=4 from ho] at h1
    have h2:arE e=true:=by simpa using h1
    exact h2
theorem takeWt (l:List St) (k:Nat):bC (l.take k)<=bC l:=by
  have h:=zNd (l.take k) (l.drop k)
  rw [List.take_append_drop] at h;omega
def pV (n:Ns):Ns×Int:=if (bJ n).2=0 then (⟨n.Bufs,(bK [] n.Body).1.1⟩,((bK [] n.Body).1.2:Nat)) else (zNs,0)
theorem remT_1 {n:Ns} (h:¬(bJ n).2=0):pV n=(zNs,0):=by unfold pV;rw [if_neg h]
theorem remT_2 {n:Ns} (h:(bJ n).2=0):pV n=((⟨n.Bufs,(bK [] n.Body).1.1⟩:Ns),(((bK [] n.Body).1.2:Nat):Int)):=by unfold pV;rw [if_pos h]
theorem ok34:bA Tryz.prog 34=true:=by kernel_rfl
theorem ok73:bA Tryz.prog 73=true:=by kernel_rfl
theorem ok105:bA Tryz.prog 105=true:=by kernel_rfl
theorem sm82:tO Tryz.prog 82=some (Value.int IntKind.i64 0):=by kernel_rfl
theorem split_plus (a b c:Int):
    Pur cfg 105 [vI a,vI b,vI c] (.tup [vI (lM a b c).1,vB (lM a b c).2]):=by
 refine zR Tryz.func105 O Tryz.ntmps105 Tryz.results105 O ?_
 intro z hz
 refine G O<|A O<|A O<|Y<|zJ<|G O<|A O<|yE O<|Y<|zE O (fun c1=>?_) (fun c1=>?_)
 ·try simp only [sx] at c1
  refine G O<|A O<|A O<|A O<|Y<|zH<|fin2 (rs_c O) (rs_c O) ?_
  rw [show lM a b c=(a,true) from if_pos c1]
 ·try simp only [sx] at c1
  refine zK<|G O<|A O<|A O<|zW O (zWw O O O)<|A O<|Y<|zJ<|G O<|A O<|A O<|zW O (zIs O O O c1)<|A O<|yK O<|Y<|zE O (fun c2=>?_) (fun c2=>?_)
  ·try simp only [sx] at c2
   refine G O<|A O<|A O<|Y<|zH<|fin2 (rs_c O) (rs_c O) ?_
   rw [show lM a b c=(0,false) by unfold lM;rw [if_neg c1];exact if_neg c2]
  ·try simp only [sx] at c2
   refine zK<|G O<|A O<|A O<|zW O (zKy O O O)<|A O<|A O<|zW O (zKy O O O)<|A O<|yG O<|A O<|A O<|Y<|zH<|fin2 (rs_c O) (rs_c O) ?_
   rw [show lM a b c=(w64 (a+w64 (b*c)),decide (w64 (a+w64 (b*c))<a)) by unfold lM;rw [if_neg c1];exact if_pos c2];rfl
theorem redundant_step (mb:Nat) (m:MM) (e:Ex) (ih:∀a,a∈e.Args->arE a=true->a.allF Lf.rng->a.wt<=1000000000->Con cfg 73 [vE a,.c (.lit (.map (some mb)))] [E.blk mb (MapR vI (m))] fun r μ'=>r=vB (nM m a)/\μ'=[E.blk mb (MapR vI (m))]) (har:arE e=true) (hr:e.allF Lf.rng) (he:e.wt<=1000000000):
    Con cfg 73 [vE e,.c (.lit (.map (some mb)))] [E.blk mb (MapR vI (m))] fun r μ'=>r=vB (nM m e)/\μ'=[E.blk mb (MapR vI (m))]:=by
 refine Con.drop<|zR Tryz.func73 O Tryz.ntmps73 Tryz.results73 O ?_
 intro z hz
 have hew:=Ex.wt_eq e
 obtain ⟨a,ha0⟩:∃x,e.Args.getD 0 zEx=x:=⟨_,rfl⟩
 obtain ⟨b,hb0⟩:∃x,e.Args.getD 1 zEx=x:=⟨_,rfl⟩
 obtain ⟨sc,hs0⟩:∃x,bF a.Lin (-1)=x:=⟨_,rfl⟩
 obtain ⟨d,hd0⟩:∃x,fX b.Lin sc.1=x:=⟨_,rfl⟩
 obtain ⟨hsr,hsl⟩:=zNp a.Lin (-1)
 rw [hs0] at hsr hsl
 have hdl:=(add_rng b.Lin sc.1).2
 rw [hd0] at hdl
 refine G O<|zV O O (qJ O O) ?_
 rintro _ _ ⟨b1,rfl,rfl⟩
 refine A O<|Y<|zJ<|G O<|zD O kO<|zI one3 (J 0 O) O<|yE O<|Y<|zE O (fun c1=>?_) (fun c1=>?_)
 ·try simp only [sx] at c1
  have h2:=zRa har (.inr (.inr c1))
  have ha:=exG (k:=0) zA ha0
  have hb:=exG (k:=1) zA hb0
  have haw:=Ex.arg_wt (qA ha)
  have hbw:=Ex.arg_wt (qA hb)
  refine G O<|zD O wA<|zI zAo (J 0 O) O<|qC O el52 zA (zCn ha)<|zM yX zZ O<|A O<|zW O (kG [1] O ok73 (ih a (qA ha) (arE_arg har (qA ha)) (Ex.allF_arg hr (qA ha)) zA) ⟨R,O,R,O,T⟩ O)<|A O<|rL0 O (fun g2_6=>zG O wA O) O<|rL1 22 O (fun g2_6=>zF O zAo O (J 0 O) O) O<|rL1 23 O (fun g2_6=>qE O el52 O O zA (zCn hb)) O<|rL1 24 O (fun g2_6=>zU O yX O zZ O) O<|rL0 O (fun g2_6=>zO O O) O<|rLz [(25,_),(26,_)] O B ⟨O,O,O,O,T⟩ (fun g2_6=>kG [1] O ok73 (ih b (qA hb) (arE_arg har (qA hb)) (Ex.allF_arg hr (qA hb)) zA) ⟨R,O,R,O,T⟩ O) O<|yR O (fun h=>h)<|A O<|Y<|zY _ (Weak.mem [false,true] O)<|zH<|zS O ?_
  first|exact ⟨congrArg vB (zNy c1 ha hb).symm,[],rfl⟩|exact ⟨congrArg vB (zNy c1 ha hb).symm,[_],rfl⟩|exact ⟨congrArg vB (zNy c1 ha hb).symm,[_,_],rfl⟩|exact ⟨congrArg vB (zNy c1 ha hb).symm,[_,_,_],rfl⟩|exact ⟨congrArg vB (zNy c1 ha hb).symm,[_,_,_,_],rfl⟩
 ·try simp only [sx] at c1
  refine zK<|zJ<|G O<|zD O kO<|zI one3 (J 0 O) O<|yK O<|A O<|rL0 O (fun g3_3=>zG O kO O) O<|rL1 33 O (fun g3_3=>zF O one3 O (J 0 O) O) O<|rL1 34 O (fun g3_3=>kA O O O) O<|yR O (fun h=>h)<|A O<|rL0 O (fun g3_8=>zG O wA O) O<|rL1 38 O (fun g3_8=>zF O zAo O (J 0 O) O) O<|rL1 39 O (fun g3_8=>qE O el52 O O (by have hq:=zRa har (by simp only [Lz,cond_true,cond_false,Bool.and_eq_true,Bool.or_eq_true,Bool.not_eq_true',Bool.not_eq_false',Bool.or_eq_false_iff,Bool.and_eq_false_iff,decide_eq_true_eq,decide_eq_false_iff_not,Bool.not_eq_true,Bool.not_eq_false] at g3_8;omega);omega) (zCn (exG (by have hq:=zRa har (by simp only [Lz,cond_true,cond_false,Bool.and_eq_true,Bool.or_eq_true,Bool.not_eq_true',Bool.not_eq_false',Bool.or_eq_false_iff,Bool.and_eq_false_iff,decide_eq_true_eq,decide_eq_false_iff_not,Bool.not_eq_true,Bool.not_eq_false] at g3_8;omega);omega) ha0))) O<|rL1 40 O (fun g3_8=>qM O kO O) O<|rL1 41 O (fun g3_8=>zF O one3 O zZ O) O<|rL1 42 O (fun g3_8=>kA O O O) O<|r_or O (fun h=>(lzf h))<|A O<|rL0 O (fun g3_16=>zG O wA O) O<|rL1 46 O (fun g3_16=>zF O zAo O (J 0 O) O) O<|rL1 47 O (fun g3_16=>qE O el52 O O (by have hq:=zRa har (by simp only [Lz,cond_true,cond_false,Bool.and_eq_true,Bool.or_eq_true,Bool.not_eq_true',Bool.not_eq_false',Bool.or_eq_false_iff,Bool.and_eq_false_iff,decide_eq_true_eq,decide_eq_false_iff_not,Bool.not_eq_true,Bool.not_eq_false] at g3_16;omega);omega) (zCn (exG (by have hq:=zRa har (by simp only [Lz,cond_true,cond_false,Bool.and_eq_true,Bool.or_eq_true,Bool.not_eq_true',Bool.not_eq_false',Bool.or_eq_false_iff,Bool.and_eq_false_iff,decide_eq_true_eq,decide_eq_false_iff_not,Bool.not_eq_true,Bool.not_eq_false] at g3_16;omega);omega) hb0))) O<|rL1 48 O (fun g3_16=>qM O kO O) O<|rL1 49 O (fun g3_16=>zF O one3 O zZ O) O<|rL1 50 O (fun g3_16=>kA O O O) O<|r_or O (fun h=>(lzf h))<|Y<|zE O (fun c2=>?_) (fun c2=>?_)
  ·refine G O<|A O<|Y<|zY _ (Weak.mem [false,true] O)<|zH<|zS O ?_
   first|exact ⟨congrArg vB ((zAs c1 ha0 hb0).trans (zWd c2)).symm,[],rfl⟩|exact ⟨congrArg vB ((zAs c1 ha0 hb0).trans (zWd c2)).symm,[_],rfl⟩|exact ⟨congrArg vB ((zAs c1 ha0 hb0).trans (zWd c2)).symm,[_,_],rfl⟩|exact ⟨congrArg vB ((zAs c1 ha0 hb0).trans (zWd c2)).symm,[_,_,_],rfl⟩|exact ⟨congrArg vB ((zAs c1 ha0 hb0).trans (zWd c2)).symm,[_,_,_,_],rfl⟩
  ·have h2:=zRa har (by simp only [Lz,cond_true,cond_false,Bool.and_eq_true,Bool.or_eq_true,Bool.not_eq_true',Bool.not_eq_false',Bool.or_eq_false_iff,Bool.and_eq_false_iff,decide_eq_true_eq,decide_eq_false_iff_not,Bool.not_eq_true,Bool.not_eq_false] at c2;omega)
   have ha:=exG (k:=0) zA ha0
   have hb:=exG (k:=1) zA hb0
   have haw:=Ex.arg_wt (qA ha)
   have hbw:=Ex.arg_wt (qA hb)
   have hae:=Ex.wt_eq a
   have hbe:=Ex.wt_eq b
   refine zK<|G O<|zD O wA<|zI zAo (J 0 O) O<|qC O el52 zA (zCn ha)<|qQ O zDv<|zM kP zZ O<|qD O ok19 (show Pur cfg 19 [dF a.Lin,vI (-1)] (.tup [dF sc.1,vI sc.2]) by rw [←hs0];exact zVx a.Lin (-1) zA (Ex.allF_lin (Ex.allF_arg hr (qA ha))) uH) ⟨R,O,R,O,T⟩<|qO O<|yH O<|qR O<|zV O O (qH [none,some 2] O zr51 O) ?_
   rintro _ _ ⟨b2,rfl,rfl⟩
   refine rStR 0 sz51 O<|A O<|Y<|zJ<|G O<|A O<|yK O<|Y<|zE O (fun c3=>?_) (fun c3=>?_)
   ·try simp only [sx] at c3
    refine G O<|A O<|Y<|zY _ (Weak.mem [false,false,true] O)<|zH<|zS O ?_
    first|exact ⟨congrArg vB ((zAs c1 ha0 hb0).trans (zWc c2 hs0 c3)).symm,[],rfl⟩|exact ⟨congrArg vB ((zAs c1 ha0 hb0).trans (zWc c2 hs0 c3)).symm,[_],rfl⟩|exact ⟨congrArg vB ((zAs c1 ha0 hb0).trans (zWc c2 hs0 c3)).symm,[_,_],rfl⟩|exact ⟨congrArg vB ((zAs c1 ha0 hb0).trans (zWc c2 hs0 c3)).symm,[_,_,_],rfl⟩|exact ⟨congrArg vB ((zAs c1 ha0 hb0).trans (zWc c2 hs0 c3)).symm,[_,_,_,_],rfl⟩
   ·try simp only [sx] at c3
    refine zK<|zJ<|kI 12 1 [⟨0,.q []⟩,⟨1,.q [2]⟩,⟨2,.q []⟩,⟨3,.q []⟩,⟨4,.q []⟩,⟨5,.q [1]⟩,⟨6,.q []⟩,⟨7,.q []⟩,⟨8,.q []⟩,⟨9,.q []⟩,⟨10,.e 0 []⟩,⟨11,.e 0 []⟩] mixed uC uC O O O<|zX O<|zX O<|zX O<|zX O<|zX O<|zX O<|zX O<|zX O<|zX O<|zX O<|zX O<|zX O<|zBb<|qF O zB O O (zG O wA O)<|qF O zB O O (zF O zAo O (J 0 O) O)<|qF O zB O O (qE O el52 O O zA (zCn hb))<|qF O zB O O (qM O zDv O)<|qF O zB O O (zU O kP O zZ O)<|qF O zB O O (zU O kP O (J 0 O) O)<|qF O zB O O (qG O ok21 (show Pur cfg 21 [dF b.Lin,dF sc.1] (.tup [dF d.1,vI d.2]) by rw [←hd0];exact lin_Add b.Lin sc.1 zA zA (Ex.allF_lin (Ex.allF_arg hr (qA hb))) hsr) ⟨R,O,R,O,T⟩)<|qF O zB O O (kH O O)<|qF O zB O O (wE O O O)<|qF O zB O O (wD O O O)<|zJf O O zB O O (qH [none,some 2] O zr51 O) ?_
    rintro _ _ ⟨b3,rfl,rfl⟩
    refine ⟨_,O,?_⟩
    refine zFr O O zB O O (yL O sz51 O O O (zFf 0 O O)) ?_
    rintro _ _ ⟨rfl,rfl⟩
    refine ⟨_,O,?_⟩
    refine zAx O<|A O<|Y<|zJ<|G O<|A O<|yK O<|Y<|zE O (fun c4=>?_) (fun c4=>?_)
    ·try simp only [sx] at c4
     refine G O<|A O<|Y<|zY _ (Weak.mem [false,false,false,true] O)<|zH<|zS O ?_
     first|exact ⟨congrArg vB ((zAs c1 ha0 hb0).trans (zWb c2 hs0 c3 hd0 c4)).symm,[],rfl⟩|exact ⟨congrArg vB ((zAs c1 ha0 hb0).trans (zWb c2 hs0 c3 hd0 c4)).symm,[_],rfl⟩|exact ⟨congrArg vB ((zAs c1 ha0 hb0).trans (zWb c2 hs0 c3 hd0 c4)).symm,[_,_],rfl⟩|exact ⟨congrArg vB ((zAs c1 ha0 hb0).trans (zWb c2 hs0 c3 hd0 c4)).symm,[_,_,_],rfl⟩|exact ⟨congrArg vB ((zAs c1 ha0 hb0).trans (zWb c2 hs0 c3 hd0 c4)).symm,[_,_,_,_],rfl⟩
    ·try simp only [sx] at c4
     refine zK<|G O<|zD O zEv<|zI U (J 0 O) O<|A O<|A O<|Y<|zJ<|G O<|zD O wK<|zI zBl (J 0 O) O<|qB O N<|A O<|Y<|zQ<|zY ⟨[(81,.c _),(8,.c _),(9,.c _),(1,.c _),(2,.c _),(79,.c _),(80,.c _)],[_,_]⟩ (Weak.mk [false,false,true,true] ⟨R,R,R,R,R,R,R,T⟩ O)<|qK 3 0 O O (Nat×Int×Bool) (fun ⟨k,lo,ok⟩=>[(81,vI k),(8,vI lo),(9,vB ok)]) (fun ⟨k,lo,ok⟩=>[]) (fun ⟨k,lo,ok⟩=>k<=d.1.L.length/\(nB m d.1.L d.1.K true=nB m (d.1.L.drop k) lo ok)) (fun ⟨k,lo,ok⟩=>d.1.L.length-k) ⟨⟨0,d.1.K,true⟩,⟨zA,O⟩,Weak.mk [true,true] ⟨R,R,R,R,R,R,R,T⟩ O⟩ ?_
     rintro ⟨k,lo,ok⟩ ⟨hk,hp⟩
     show AWP _ _ _ _ _ ⟨[(81,vI k),(8,vI lo),(9,vB ok)]++_,[]++_⟩
     refine G O<|yG O<|Y<|zJ<|zE O (fun c5=>?_) (fun c5=>?_)
     ·try simp only [sx] at c5
      obtain ⟨x,hx⟩:=qY d.1.L k zA
      refine zK<|zJ<|zQ<|G O<|qC O N zA (getm uB)<|zM zHt zZ O<|zV O O (qV O zJk) ?_
      rintro _ _ ⟨b4,rfl,rfl⟩
      refine rStR 0 sz109 O<|Y<|G O<|zD O zCo<|zI U (J 0 O) O<|yG O<|A O<|rL0 O (fun g15_3=>zO O O) O<|yR O (fun h=>h)<|Y<|zE O (fun c6=>?_) (fun c6=>?_)
      ·have c6:x.By<0/\ok=true:=by simpa using c6
       refine zT O<|A O<|zD O zCo<|zI U (J 0 O) O<|A O<|zD O zAa<|zI one9 (J 0 O) O<|zW O (det_lookup 2 (0:Int) O sm82 O O O (fun _ _=>CRep.lit _ O))<|zW O (zMy O O O)<|qD O ok105 (split_plus _ _ _) ⟨R,O,R,O,R,O,T⟩<|qO O<|qR O<|qR O<|A O<|A O<|Y<|zT O<|qI O ⟨zA,zA⟩<|A O<|Y ?_
       refine ⟨⟨k+1,(lM lo x.By (w64 ((jA m x.Name).getD 0-1))).1,(lM lo x.By (w64 ((jA m x.Name).getD 0-1))).2⟩,⟨zA,(by first|exact lowF_next hx hp c6|exact lowF_skip hx hp c6)⟩,(by show d.1.L.length-(k+1)<d.1.L.length-k;omega),Weak.mk [false,true,true] ⟨R,R,R,R,R,R,R,T⟩ O⟩
      ·have c6:¬(x.By<0/\ok=true):=by simpa using c6
       refine zK<|zT O<|qI O ⟨zA,zA⟩<|A O<|Y ?_
       refine ⟨⟨k+1,lo,ok⟩,⟨zA,(by first|exact lowF_next hx hp c6|exact lowF_skip hx hp c6)⟩,(by show d.1.L.length-(k+1)<d.1.L.length-k;omega),Weak.mk [false,true,true] ⟨R,R,R,R,R,R,R,T⟩ O⟩
     ·try simp only [sx] at c5
      have hR:=lowF_end hp zA
      refine qN<|G O<|A O<|A O<|rL0 O (fun g18_1=>zO O O) O<|rL1 106 O (fun g18_1=>wF O O O) O<|rL1 107 O (fun g18_1=>zO O O) O<|rLz [] O gv2 T (fun g18_4=>zO O O) O<|rLz [(109,_)] O gv2 ⟨O,O,T⟩ (fun g18_4=>yM O O O) O<|rLz [(110,_)] O gv2 ⟨O,O,T⟩ (fun g18_4=>zO O O) O<|rLz [] O gv2 T (fun g18_7=>zG O kO O) O<|rLz [(112,_)] O gv2 ⟨O,O,T⟩ (fun g18_7=>zF O one3 O (J 0 O) O) O<|rLz [(113,_)] O gv2 ⟨O,O,T⟩ (fun g18_7=>yM O O O) O<|rLz [(111,_)] O gv2 ⟨O,O,T⟩ (fun g18_4=>kZ O O O (fun h=>kC uB h) O) O<|rL1 108 O (fun g18_1=>zAn O O O O (fun h=>kC uB (lzf h))) O<|yR O (fun h=>h)<|A O<|Y<|zY _ (Weak.mem [false,true] O)<|zH<|zS O ?_
      first|exact ⟨congrArg vB ((zAs c1 ha0 hb0).trans (zWa c2 hs0 c3 hd0 c4 hR)).symm,[],rfl⟩|exact ⟨congrArg vB ((zAs c1 ha0 hb0).trans (zWa c2 hs0 c3 hd0 c4 hR)).symm,[_],rfl⟩|exact ⟨congrArg vB ((zAs c1 ha0 hb0).trans (zWa c2 hs0 c3 hd0 c4 hR)).symm,[_,_],rfl⟩|exact ⟨congrArg vB ((zAs c1 ha0 hb0).trans (zWa c2 hs0 c3 hd0 c4 hR)).symm,[_,_,_],rfl⟩|exact ⟨congrArg vB ((zAs c1 ha0 hb0).trans (zWa c2 hs0 c3 hd0 c4 hR)).symm,[_,_,_,_],rfl⟩
theorem zJp (mb:Nat) (m:MM) (e:Ex) (har:arE e=true) (hr:e.allF Lf.rng) (he:e.wt<=1000000000):Con cfg 73 [vE e,.c (.lit (.map (some mb)))] [E.blk mb (MapR vI (m))] fun r μ'=>r=vB (nM m e)/\μ'=[E.blk mb (MapR vI (m))]:=by
  induction e using Ex.ind with
  |_ e ih=>exact redundant_step mb m e ih har hr he
theorem zRe (mb:Nat) (l:List St) (ih:∀s,s∈l->∀m:MM,Con cfg 34 [bU s.Body,.c (.lit (.map (some mb)))] [E.blk mb (MapR vI (m))] fun r μ'=>r=.tup [bU (bK m s.Body).1.1,vI ((bK m s.Body).1.2:Nat)]/\μ'=[E.blk mb (MapR vI ((bK m s.Body).2))]) (hg:gdL l=true) (hr:bS Lf.rng l) (hl:bC l<=1000000) (m:MM):
    Con cfg 34 [bU l,.c (.lit (.map (some mb)))] [E.blk mb (MapR vI (m))] fun r μ'=>r=.tup [bU (bK m l).1.1,vI ((bK m l).1.2:Nat)]/\μ'=[E.blk mb (MapR vI ((bK m l).2))]:=by
 refine Con.drop<|zR Tryz.func34 O Tryz.ntmps34 Tryz.results34 O ?_
 intro z hz
 have hll:=kX l
 have hN:=zGs l
 refine G O<|yI 20 O<|A O<|Y<|G O<|A O<|yS _ (wC 56 20)<|Y<|G O<|A O<|Y<|zJ<|G O<|A O<|zW O (det_len_sl O D O)<|A O<|Y<|zQ<|zY ⟨[(14,.c _),(6,.c _),(7,.c _),(1,.c _),(12,.c _),(13,.c _)],[_,_]⟩ (Weak.mk [true,true] ⟨R,R,R,R,R,R,T⟩ O)<|qK 3 2 O O (Nat×Value) (fun ⟨k,sv⟩=>[(14,vI k),(6,.c (.lit sv)),(7,vI ((bK m (l.take k)).1.2:Nat))]) (fun ⟨k,sv⟩=>[E.vec sv 56 20 ((bK m (l.take k)).1.1.map St.cells),E.blk mb (MapR vI ((bK m (l.take k)).2))]) (fun ⟨k,sv⟩=>k<=l.length) (fun ⟨k,sv⟩=>l.length-k) ⟨⟨0,(.slice none 0 0)⟩,zA,Weak.mk [true,true] ⟨R,R,VLe.of_eq (by rw [List.take_zero,bK];rfl),R,R,R,T⟩ (by show [E.vec (.slice none 0 0) _ _ [],E.blk mb (MapR vI m)]=[E.vec _ _ _ ((bK m (l.take 0)).1.1.map St.cells),E.blk mb (MapR vI (bK m (l.take 0)).2)];rw [List.take_zero,bK];rfl)⟩ ?_
 rintro ⟨k,sv⟩ hk
 show AWP _ _ _ _ _ ⟨[(14,vI k),(6,.c (.lit sv)),(7,vI ((bK m (l.take k)).1.2:Nat))]++_,[E.vec sv 56 20 ((bK m (l.take k)).1.1.map St.cells),E.blk mb (MapR vI ((bK m (l.take k)).2))]++_⟩
 refine G O<|yG O<|Y<|zJ<|zE O (fun c1=>?_) (fun c1=>?_)
 ·try simp only [sx] at c1
  obtain ⟨s,hs⟩:=qY l k zA
  have hsw:=yU (qA hs)
  have hse:=St.wt_eq s
  have hPs:=St.allF_eq (wO hr s (qA hs))
  have hgs:=gdL_mem hg (qA hs)
  obtain ⟨hb1,hb2⟩:=zPu m (l.take k)
  obtain ⟨hb3,hb4⟩:=zPu (mIn (bK m (l.take k)).2 s) s.Body
  have hst:=stsN_take hs
  have hsN:=zIy s
  have hlx:=kX (bK m (l.take k)).1.1
  have hly:=kX (bK (mIn (bK m (l.take k)).2 s) s.Body).1.1
  have htk:=takeWt l k
  refine zK<|zJ<|zQ<|G O<|qC O D zA (wJ hs)<|zM zDh zZ O<|zV O O (qH [none,none,none,none,none,some 4,none,none,none,none,none,none,none,none,none,none,some 2,some 4,some 13,some 20] O zr56 O) ?_
  rintro _ _ ⟨b2,rfl,rfl⟩
  refine rStR 0 sz56 O<|Y<|zJ<|G O<|zD O zAm<|zI one3 (J 0 O) O<|yE O<|Y<|zE O (fun c2=>?_) (fun c2=>?_)
  ·try simp only [sx] at c2
   have hmi:mIn (bK m (l.take k)).2 s=lL (bK m (l.take k)).2 s.Name s.Many:=if_pos c2
   refine zT O<|A O<|zD O zAh<|zI one9 (J 0 O) O<|zD O zAp<|zI one3 (J 0 O) O<|kQ O O (det_mapput 2 s.Many O sm82 O O O (R) O)<|Y<|G O<|zD O kV<|zI kU (J 0 O) O<|A O<|zW O (zKx [2] O ok34 (con_pre (congrArg (fun q=>[E.blk mb (MapR vI q)]) hmi.symm) (ih s (qA hs) (mIn (bK m (l.take k)).2 s))) ⟨R,O,R,O,T⟩ O)<|qO O<|qR O<|qR O<|A O<|A O<|Y<|G O<|A O<|A O<|qI O ⟨zA,zA⟩<|A O<|Y<|zJ<|G O<|zD O zAm<|zI one3 (J 0 O) O<|yE O<|A O<|rL0 O (fun g10_3=>zG O zBc O) O<|rL1 40 O (fun g10_3=>zU O yX O (J 0 O) O) O<|rL0 O (fun g10_3=>zO O O) O<|rLz [(41,_),(42,_)] O B ⟨O,O,O,O,T⟩ (fun g10_3=>kG [2] O ok73 (zJp mb (bK (mIn (bK m (l.take k)).2 s) s.Body).2 s.E (gdS_if hgs (by simp only [Lz,cond_true,cond_false,Bool.and_eq_true,Bool.or_eq_true,Bool.not_eq_true',Bool.not_eq_false',Bool.or_eq_false_iff,Bool.and_eq_false_iff,decide_eq_true_eq,decide_eq_false_iff_not,Bool.not_eq_true,Bool.not_eq_false] at g10_3;omega)) hPs.2.1 zA) ⟨R,O,R,O,T⟩ O) O<|yR O (fun h=>h)<|Y<|zE O (fun c3=>?_) (fun c3=>?_)
   ·have hug:=zSj (m:=(bK m (l.take k)).2) (s:=s) (by simpa using c3)
    refine G O<|A O<|A O<|zV O O (yN 1 O D O O O zC zC) ?_
    rintro _ _ ⟨sv3,rfl,rfl⟩
    refine A O<|Y<|G O<|A O<|qI O ⟨zA,zA⟩<|A O<|Y<|qN<|zT O<|qI O ⟨zA,zA⟩<|A O<|Y ?_
    refine ⟨⟨k+1,sv3⟩,zA,(by show l.length-(k+1)<l.length-k;omega),Weak.mk [false,true,true] ⟨R,R,VLe.of_eq (by rw [zEm hs,hug];exact congrArg (fun n=>V.c (C.lit (.int .i64 n))) (by dsimp only;omega)),R,R,R,T⟩ (by have e:=zEm (m:=m) hs;rw [hug] at e;show _=[E.vec sv3 _ 20 ((bK m (l.take (k+1))).1.1.map St.cells),E.blk mb (MapR vI (bK m (l.take (k+1))).2)]++_;rw [e];simp only [List.map_append,List.map_cons,List.map_nil,St.cells_eq (lB _ _)];rfl)⟩
   ·have hug:=zUf (m:=(bK m (l.take k)).2) (s:=s) (by simpa using c3)
    refine zK<|G O<|A O<|zD O kV<|rStR 0 sz23 O<|Y<|zT O<|A O<|zM zDh (J 0 O) O<|zW O (qZ O D zr56 O O O O)<|zV O O (yN 1 O D O O O zC zC) ?_
    rintro _ _ ⟨sv4,rfl,rfl⟩
    refine A O<|Y<|zT O<|qI O ⟨zA,zA⟩<|A O<|Y ?_
    refine ⟨⟨k+1,sv4⟩,zA,(by show l.length-(k+1)<l.length-k;omega),Weak.mk [false,true,true] ⟨R,R,VLe.of_eq (by rw [zEm hs,hug];exact congrArg (fun n=>V.c (C.lit (.int .i64 n))) (by dsimp only;omega)),R,R,R,T⟩ (by have e:=zEm (m:=m) hs;rw [hug] at e;show _=[E.vec sv4 _ 20 ((bK m (l.take (k+1))).1.1.map St.cells),E.blk mb (MapR vI (bK m (l.take (k+1))).2)]++_;rw [e];simp only [List.map_append,List.map_cons,List.map_nil,St.cells_eq (lB _ _)];rfl)⟩
  ·try simp only [sx] at c2
   have hmi:mIn (bK m (l.take k)).2 s=(bK m (l.take k)).2:=if_neg c2
   refine zK<|G O<|zD O kV<|zI kU (J 0 O) O<|A O<|zW O (zKx [2] O ok34 (con_pre (congrArg (fun q=>[E.blk mb (MapR vI q)]) hmi.symm) (ih s (qA hs) (mIn (bK m (l.take k)).2 s))) ⟨R,O,R,O,T⟩ O)<|qO O<|qR O<|qR O<|A O<|A O<|Y<|G O<|A O<|A O<|qI O ⟨zA,zA⟩<|A O<|Y<|zJ<|G O<|zD O zAm<|zI one3 (J 0 O) O<|yE O<|A O<|rL0 O (fun g10_3=>zG O zBc O) O<|rL1 40 O (fun g10_3=>zU O yX O (J 0 O) O) O<|rL0 O (fun g10_3=>zO O O) O<|rLz [(41,_),(42,_)] O B ⟨O,O,O,O,T⟩ (fun g10_3=>kG [2] O ok73 (zJp mb (bK (mIn (bK m (l.take k)).2 s) s.Body).2 s.E (gdS_if hgs (by simp only [Lz,cond_true,cond_false,Bool.and_eq_true,Bool.or_eq_true,Bool.not_eq_true',Bool.not_eq_false',Bool.or_eq_false_iff,Bool.and_eq_false_iff,decide_eq_true_eq,decide_eq_false_iff_not,Bool.not_eq_true,Bool.not_eq_false] at g10_3;omega)) hPs.2.1 zA) ⟨R,O,R,O,T⟩ O) O<|yR O (fun h=>h)<|Y<|zE O (fun c3=>?_) (fun c3=>?_)
   ·have hug:=zSj (m:=(bK m (l.take k)).2) (s:=s) (by simpa using c3)
    refine G O<|A O<|A O<|zV O O (yN 1 O D O O O zC zC) ?_
    rintro _ _ ⟨sv5,rfl,rfl⟩
    refine A O<|Y<|G O<|A O<|qI O ⟨zA,zA⟩<|A O<|Y<|qN<|zT O<|qI O ⟨zA,zA⟩<|A O<|Y ?_
    refine ⟨⟨k+1,sv5⟩,zA,(by show l.length-(k+1)<l.length-k;omega),Weak.mk [false,true,true] ⟨R,R,VLe.of_eq (by rw [zEm hs,hug];exact congrArg (fun n=>V.c (C.lit (.int .i64 n))) (by dsimp only;omega)),R,R,R,T⟩ (by have e:=zEm (m:=m) hs;rw [hug] at e;show _=[E.vec sv5 _ 20 ((bK m (l.take (k+1))).1.1.map St.cells),E.blk mb (MapR vI (bK m (l.take (k+1))).2)]++_;rw [e];simp only [List.map_append,List.map_cons,List.map_nil,St.cells_eq (lB _ _)];rfl)⟩
   ·have hug:=zUf (m:=(bK m (l.take k)).2) (s:=s) (by simpa using c3)
    refine zK<|G O<|A O<|zD O kV<|rStR 0 sz23 O<|Y<|zT O<|A O<|zM zDh (J 0 O) O<|zW O (qZ O D zr56 O O O O)<|zV O O (yN 1 O D O O O zC zC) ?_
    rintro _ _ ⟨sv6,rfl,rfl⟩
    refine A O<|Y<|zT O<|qI O ⟨zA,zA⟩<|A O<|Y ?_
    refine ⟨⟨k+1,sv6⟩,zA,(by show l.length-(k+1)<l.length-k;omega),Weak.mk [false,true,true] ⟨R,R,VLe.of_eq (by rw [zEm hs,hug];exact congrArg (fun n=>V.c (C.lit (.int .i64 n))) (by dsimp only;omega)),R,R,R,T⟩ (by have e:=zEm (m:=m) hs;rw [hug] at e;show _=[E.vec sv6 _ 20 ((bK m (l.take (k+1))).1.1.map St.cells),E.blk mb (MapR vI (bK m (l.take (k+1))).2)]++_;rw [e];simp only [List.map_append,List.map_cons,List.map_nil,St.cells_eq (lB _ _)];rfl)⟩
 ·try simp only [sx] at c1
  refine qN<|G O<|A O<|A O<|A O<|A O<|Y<|zY _ (yT 0 O (regs':=[(6,_),(57,_),(4,_)]) (μ':=[_]) ⟨FLe.sl,FLe.sl,FLe.sl,T⟩ ⟨EFle.refl _,T⟩)<|zH<|fin2 (rs_c O) (rs_c O) ?_
  rw [yV (l:=l) (k:=k) zA]
  first|exact ⟨rfl,[],rfl⟩|exact ⟨rfl,[_],rfl⟩|exact ⟨rfl,[_,_],rfl⟩|exact ⟨rfl,[_,_,_],rfl⟩|exact ⟨rfl,[_,_,_,_],rfl⟩
theorem unguard_body (mb:Nat) (s:St) (hg:gdL s.Body=true) (hr:bS Lf.rng s.Body) (hl:bC s.Body<=1000000):∀m:MM,Con cfg 34 [bU s.Body,.c (.lit (.map (some mb)))] [E.blk mb (MapR vI (m))] fun r μ'=>r=.tup [bU (bK m s.Body).1.1,vI ((bK m s.Body).1.2:Nat)]/\μ'=[E.blk mb (MapR vI ((bK m s.Body).2))]:=by
  induction s using St.ind with
  |_ s ih=>exact zRe mb s.Body (fun a ha=>ih a ha (gdS_body (gdL_mem hg ha)) (St.allF_eq (wO hr a ha)).2.2 (by have:=yU ha;have:=St.body_wt a;omega)) hg hr hl
theorem split_unguard (mb:Nat) (l:List St) (hg:gdL l=true) (hr:bS Lf.rng l) (hl:bC l<=1000000) (m:MM):Con cfg 34 [bU l,.c (.lit (.map (some mb)))] [E.blk mb (MapR vI (m))] fun r μ'=>r=.tup [bU (bK m l).1.1,vI ((bK m l).1.2:Nat)]/\μ'=[E.blk mb (MapR vI ((bK m l).2))]:=
  zRe mb l (fun s hs=>unguard_body mb s (gdS_body (gdL_mem hg hs)) (St.allF_eq (wO hr s hs)).2.2 (by have:=yU hs;have:=St.body_wt s;omega)) hg hr hl m
theorem zDj (n:Ns) (hn:n.Ok) (hl:bC n.Body<=1000) (hr:bS Lf.rng n.Body) (hg:(bJ n).2=0->gdL n.Body=true):
    Pur cfg 11 [vNs n] (.tup [vNs (pV n).1,vI (pV n).2]):=by
 refine zR Tryz.func11 O Tryz.ntmps11 Tryz.results11 O ?_
 intro z hz
 obtain ⟨hu1,hu2⟩:=zPu [] n.Body
 have hok2:Ns.Ok ⟨n.Bufs,(bK [] n.Body).1.1⟩:=⟨hn.bufs,hn.dims,by show bC (bK [] n.Body).1.1<=_;omega⟩
 refine G O<|zV O O (qJ O O) ?_
 rintro _ _ ⟨b1,rfl,rfl⟩
 refine zV O O (qH [some 8,some 20] O zr25 O) ?_
 rintro _ _ ⟨b2,rfl,rfl⟩
 refine A O<|Y<|zJ<|G O<|zM kE (J 1 O) O<|qD O ok33 (zDy n hn) ⟨R,O,T⟩<|qO O<|qR O<|qR O<|A O<|A O<|Y<|G O<|A O<|yK O<|Y<|zE O (fun c1=>?_) (fun c1=>?_)
 ·try simp only [sx] at c1
  refine G O<|yF [some 8,some 20] O zr25 pl25<|rStR 0 sz25 O<|A O<|Y<|zH<|fin2 (zP kE O (J 0 O) O) (rs_c O) ?_
  rw [remT_1 c1];rfl
 ·try simp only [sx] at c1
  refine zK<|G O<|zD O zAi<|zI kU (J 1 O) O<|zV O O (ope_mkmap vI O O) ?_
  rintro _ _ ⟨b3,rfl,rfl⟩
  refine zV O O (zEn [0] O ok34 (split_unguard _ n.Body (hg c1) hr zA []) ⟨R,O,R,O,T⟩ O) ?_
  rintro _ _ ⟨_,⟨rfl,rfl⟩,rfl⟩
  refine qO O<|qR O<|qR O<|A O<|A O<|Y<|G O<|zD O zAj<|zI zDk (J 2 O) O<|A O<|qT O zr25 pl25<|qD O ok35 (zOh ⟨n.Bufs,(bK [] n.Body).1.1⟩ hok2) ⟨R,O,T⟩<|A O<|rStR 1 sz25 O<|A O<|Y<|zH<|fin2 (zP kE O (J 1 O) O) (rs_c O) ?_
  rw [remT_2 c1];rfl
end Go.W
end
section
set_option maxRecDepth 10000
namespace Go.W
open Go Go.Eng Go.Proofs Go.L41 Go.Br
attribute [local irreducible] AWP RWP TD fH
/-! The examples. -/
def nmI:ByteArray:=bs [105]
def nmO:ByteArray:=bs [111]
def nmK:ByteArray:=bs [107]
def nmP:ByteArray:=bs [112]
def exAf:Lf:=⟨0,[⟨bs [107],1⟩,⟨bs [111],2⟩]⟩
def iD:Lf:=⟨0,[⟨bs [107],1⟩,⟨bs [111],4⟩]⟩
def exCf:Lf:=⟨2,[⟨bs [112],1⟩]⟩
def sA1:St:=lJ nmK 2 0 [cpB exAf]
def sA:St:=lJ nmO 3 0 [sA1]
def sB2:St:=sIf (ltE iD 6) [cpB iD]
def sB1:St:=lJ nmK 4 0 [sB2]
def sB:St:=lJ nmO 2 0 [sB1]
def sC1:St:=lJ nmI 2 0 [cpB vI1]
def sC2:St:=lJ nmP 4 0 [cpB exCf]
def sG:St:=lJ nmI 6 0 [sIf (ltE vI1 5) [cpB vI1]]
theorem exA_eq:nK (cpy 6 0) nmI 2 nmO nmK=(cpN [sA],0):=by kernel_rfl
theorem exB_eq:nK (cpy 6 0) nmI 4 nmO nmK=(cpN [sB],0):=by kernel_rfl
theorem exC_eq:rW (cpy 6 0) nmI 2 nmP=(cpN [sC1,sC2],0):=by kernel_rfl
theorem exD_eq:xF (cpN [sA]) nmO nmI=(cpy 6 0,0):=by kernel_rfl
theorem exE_eq:pV (cpy 6 6)=(cpy 6 0,1):=by kernel_rfl
theorem exF_eq:pV (cpy 6 5)=(cpN [sG],0):=by kernel_rfl
theorem zXb {b:List St} (h:bC b<=1000):(cpN b).Ok:=by
  refine ⟨by show (2:Nat)<=4294967296;omega,fun x hx=>?_,by show bC b<=_;omega⟩
  simp only [cpN,List.mem_cons,List.not_mem_nil,or_false] at hx
  rcases hx with rfl|rfl<;>decide
theorem zQv:bC (cpy 6 0).Body<=1000/\bC (cpy 6 6).Body<=1000/\bC (cpy 6 5).Body<=1000/\bC [sA]<=1000:=by decide+kernel
def cQ (l:Lf):Bool:=decide (-9223372036854775808<=l.K)&&decide (l.K<=9223372036854775807)&&l.L.all fun m=>decide (-9223372036854775808<=m.By)&&decide (m.By<=9223372036854775807)
theorem rngB_ok {l:Lf} (h:cQ l=true):l.rng:=by
  simp only [cQ,Bool.and_eq_true,decide_eq_true_eq,List.all_eq_true] at h
  exact ⟨h.1,fun m hm=>h.2 m hm⟩
def ixB (x:Ix):Bool:=cQ x.Lin&&x.At.all cQ
def exRB (e:Ex):Bool:=(bW e).all fun x=>(dP x).all cQ
mutual
def eQ:St->Bool
  |.mk _ _ _ _ _ i e b=>i.all ixB&&exRB e&&xV b
def xV:List St->Bool
  |[]=>true
  |s::r=>eQ s&&xV r
end
mutual
theorem stRB_ok:∀s:St,eQ s=true->s.allF Lf.rng
  |.mk o nm mn mk fo i e b,h=>by
    rw [eQ,Bool.and_eq_true,Bool.and_eq_true] at h
    rw [St.allF]
    refine ⟨fun x hx=>?_,fun x hx l hl=>?_,zLg b h.2⟩
    · have h1:=List.all_eq_true.1 h.1.1 x hx
      rw [ixB,Bool.and_eq_true] at h1
      exact ⟨rngB_ok h1.1,fun l hl=>rngB_ok (List.all_eq_true.1 h1.2 l hl)⟩
    · exact rngB_ok (List.all_eq_true.1 (List.all_eq_true.1 h.1.2 x hx) l hl)
theorem zLg:∀l:List St,xV l=true->bS Lf.rng l
  |[],_=>by rw [bS];trivial
  |s::r,h=>by
    rw [xV,Bool.and_eq_true] at h
    rw [bS]
    exact ⟨stRB_ok s h.1,zLg r h.2⟩
end
theorem ex_rng:bS Lf.rng (cpy 6 0).Body/\bS Lf.rng (cpy 6 6).Body/\bS Lf.rng (cpy 6 5).Body/\bS Lf.rng [sA]:=
  ⟨zLg _ (by decide+kernel),zLg _ (by decide+kernel),zLg _ (by decide+kernel),zLg _ (by decide+kernel)⟩
theorem ok7:bA Tryz.prog 7=true:=by kernel_rfl
theorem ok9:bA Tryz.prog 9=true:=by kernel_rfl
theorem ok10:bA Tryz.prog 10=true:=by kernel_rfl
theorem ok11:bA Tryz.prog 11=true:=by kernel_rfl
theorem ok14:bA Tryz.prog 14=true:=by kernel_rfl
theorem ok15:bA Tryz.prog 15=true:=by kernel_rfl
theorem ok41:bA Tryz.prog 41=true:=by kernel_rfl
theorem pl92:fP Tryz.prog 92=some [(0,2),(2,1),(3,1)]:=by kernel_rfl
theorem zCg (many limit:Int):
    Pur cfg 14 [vI many,vI limit] (vNs (cpy many limit)):=by
 refine zR Tryz.func14 O Tryz.ntmps14 Tryz.results14 O ?_
 intro z hz
 refine G O<|zV O O (qH [some 8,some 20] O zr25 O) ?_
 rintro _ _ ⟨b1,rfl,rfl⟩
 refine Y<|G O<|qT O zr48 pl48<|zV O O (qV O zr48) ?_
 rintro _ _ ⟨b2,rfl,rfl⟩
 refine rStR 0 sz48 O<|Y<|G O<|qD O ok41 (show Pur cfg 41 [vS (bs [105])] (dF vI1) from zJe (bs [105])) ⟨R,O,T⟩<|yF [none,none,none,some 2] O zr92 pl92<|zW O (qZ O v zr92 O O O O)<|A O<|Y<|G O<|A O<|A O<|yF [none,none,none,none,none,none,none,none,none,none,some 2,none,some 13] O zr54 pl54<|yF [none,none,none,none,none,none,none,none,none,none,none,none,none,none,none,none,none,none,none,some 20] O zr56 pl56<|zW O (qZ O D zr56 O O O O)<|A O<|Y<|zJ<|G O<|A O<|zW O (yC O O O)<|Y<|zE O (fun c1=>?_) (fun c1=>?_)
 ·try simp only [sx] at c1
  refine zT O<|A O<|qD O ok41 (show Pur cfg 41 [vS (bs [105])] (dF vI1) from zJe (bs [105])) ⟨R,O,T⟩<|yF [none,none,none,none,none,none,none,none,none,none,none,some 4,some 13] O zr54 pl54<|A O<|yF [none,some 2] O zr51 pl51<|yF [none,none,none,none,none,none,none,none,none,none,none,some 4,some 13] O zr54 pl54<|zW O (qZ O el52 zr54 O O O O)<|yF [none,none,none,none,none,none,none,none,none,none,some 2,some 4,none] O zr54 pl54<|yF [none,none,none,none,none,some 4,none,none,none,none,none,none,none,none,none,none,none,none,none,none] O zr56 pl56<|zW O (qZ O D zr56 O O O O)<|A O<|Y<|G O<|zM yD (J 0 O) O<|zW O (qZ O el38 zr3 O O O O)<|qT O zr94 pl94<|zM yD (J 0 O) O<|zW O (qZ O el38 zr3 O O O O)<|qT O zr94 pl94<|zW O (qZ O el22 zr94 O O O O)<|A O<|A O<|yF [none,none,none,none,none,some 4,none,none,none,none,none,none,none,none,none,none,some 2,some 4,some 13,none] O zr56 pl56<|zW O (qZ O D zr56 O O O O)<|qT O zr25 pl25<|rStR 1 sz25 O<|Y<|zH<|fin1 (zP kE O (J 1 O) O) ?_
  rw [show cpy many limit=cpN [lJ (bs [105]) many 0 [sIf (ltE vI1 limit) [cpB vI1]]] by unfold cpy;rw [if_pos c1]];rfl
 ·try simp only [sx] at c1
  refine zK<|G O<|zM yD (J 0 O) O<|zW O (qZ O el38 zr3 O O O O)<|qT O zr94 pl94<|zM yD (J 0 O) O<|zW O (qZ O el38 zr3 O O O O)<|qT O zr94 pl94<|zW O (qZ O el22 zr94 O O O O)<|A O<|A O<|yF [none,none,none,none,none,some 4,none,none,none,none,none,none,none,none,none,none,some 2,some 4,some 13,none] O zr56 pl56<|zW O (qZ O D zr56 O O O O)<|qT O zr25 pl25<|rStR 1 sz25 O<|Y<|zH<|fin1 (zP kE O (J 1 O) O) ?_
  rw [show cpy many limit=cpN [lJ (bs [105]) many 0 [cpB vI1]] by unfold cpy;rw [if_neg zA]];rfl
theorem zGy  :
    Pur cfg 6 [] (vB true):=by
 refine zR Tryz.func6 O Tryz.ntmps6 Tryz.results6 O ?_
 intro z hz
 refine G O<|A O<|Y<|G O<|qD O ok14 (zCg _ _) ⟨R,O,R,O,T⟩<|qD O ok7 (show Pur cfg 7 [vNs (cpy 6 0),vS nmI,vI 2,vS nmO,vS nmK] (.tup [vNs (cpN [sA]),vI 0]) by have h:=zUl (cpy 6 0) nmI 2 nmO nmK (zXb zQv.1) zQv.1 ex_rng.1 uH;rw [exA_eq] at h;exact h) ⟨R,O,R,O,R,O,R,O,R,O,T⟩<|qO O<|yH O<|qR O<|zV O O (qH [some 8,some 20] O zr25 O) ?_
 rintro _ _ ⟨b1,rfl,rfl⟩
 refine rStR 0 sz25 O<|A O<|Y<|G O<|qD O ok14 (zCg _ _) ⟨R,O,R,O,T⟩<|qD O ok7 (show Pur cfg 7 [vNs (cpy 6 0),vS nmI,vI 4,vS nmO,vS nmK] (.tup [vNs (cpN [sB]),vI 0]) by have h:=zUl (cpy 6 0) nmI 4 nmO nmK (zXb zQv.1) zQv.1 ex_rng.1 uH;rw [exB_eq] at h;exact h) ⟨R,O,R,O,R,O,R,O,R,O,T⟩<|qO O<|yH O<|qR O<|zV O O (qH [some 8,some 20] O zr25 O) ?_
 rintro _ _ ⟨b2,rfl,rfl⟩
 refine rStR 0 sz25 O<|A O<|Y<|G O<|qD O ok14 (zCg _ _) ⟨R,O,R,O,T⟩<|qD O ok9 (show Pur cfg 9 [vNs (cpy 6 0),vS nmI,vI 2,vS nmP] (.tup [vNs (cpN [sC1,sC2]),vI 0]) by have h:=split_Peel (cpy 6 0) nmI 2 nmP (zXb zQv.1) zQv.1 ex_rng.1 uH;rw [exC_eq] at h;exact h) ⟨R,O,R,O,R,O,R,O,T⟩<|qO O<|yH O<|qR O<|zV O O (qH [some 8,some 20] O zr25 O) ?_
 rintro _ _ ⟨b3,rfl,rfl⟩
 refine rStR 0 sz25 O<|A O<|Y<|G O<|zM kE (J 2 O) O<|qD O ok10 (show Pur cfg 10 [vNs (cpN [sA]),vS nmO,vS nmI] (.tup [vNs (cpy 6 0),vI 0]) by have h:=split_Collapse (cpN [sA]) nmO nmI (zXb zQv.2.2.2) (Nat.le_trans zQv.2.2.2 zB) ex_rng.2.2.2 (fun _ _=>by decide+kernel);rw [exD_eq] at h;exact h) ⟨R,O,R,O,R,O,T⟩<|qO O<|yH O<|qR O<|zV O O (qH [some 8,some 20] O zr25 O) ?_
 rintro _ _ ⟨b4,rfl,rfl⟩
 refine rStR 0 sz25 O<|A O<|Y<|G O<|qD O ok14 (zCg _ _) ⟨R,O,R,O,T⟩<|qD O ok11 (show Pur cfg 11 [vNs (cpy 6 6)] (.tup [vNs (cpy 6 0),vI 1]) by have h:=zDj (cpy 6 6) (zXb zQv.2.1) zQv.2.1 ex_rng.2.1 (fun _=>by decide+kernel);rw [exE_eq] at h;exact h) ⟨R,O,T⟩<|qO O<|yH O<|qR O<|zV O O (qH [some 8,some 20] O zr25 O) ?_
 rintro _ _ ⟨b5,rfl,rfl⟩
 refine rStR 0 sz25 O<|A O<|Y<|G O<|qD O ok14 (zCg _ _) ⟨R,O,R,O,T⟩<|qD O ok11 (show Pur cfg 11 [vNs (cpy 6 5)] (.tup [vNs (cpN [sG]),vI 0]) by have h:=zDj (cpy 6 5) (zXb zQv.2.2.1) zQv.2.2.1 ex_rng.2.2.1 (fun _=>by decide+kernel);rw [exF_eq] at h;exact h) ⟨R,O,T⟩<|qO O<|yH O<|qR O<|zV O O (qH [some 8,some 20] O zr25 O) ?_
 rintro _ _ ⟨b6,rfl,rfl⟩
 refine rStR 0 sz25 O<|A O<|Y<|zJ<|G O<|A O<|yK O<|A O<|rL0 O (fun g7_2=>zO O O) O<|rL1 46 O (fun g7_2=>kA O O O) O<|r_or O (fun h=>(lzf h))<|A O<|rL0 O (fun g7_6=>zO O O) O<|rL1 50 O (fun g7_6=>kA O O O) O<|r_or O (fun h=>(lzf h))<|A O<|rL0 O (fun g7_10=>zO O O) O<|rL1 54 O (fun g7_10=>kA O O O) O<|r_or O (fun h=>(lzf h))<|A O<|rL0 O (fun g7_14=>zO O O) O<|rL1 58 O (fun g7_14=>kA O O O) O<|r_or O (fun h=>(lzf h))<|A O<|rL0 O (fun g7_18=>zO O O) O<|rL1 62 O (fun g7_18=>kA O O O) O<|r_or O (fun h=>(lzf h))<|A O<|rL0 O (fun g7_22=>zG O zAi O) O<|rL1 66 O (fun g7_22=>zF O kU O (J 5 O) O) O<|rL1 67 O (fun g7_22=>yJ O D O) O<|rL1 68 O (fun g7_22=>kA O O O) O<|r_or O (fun h=>(lzf h))<|A O<|rL0 O (fun g7_28=>zG O zAi O) O<|rL1 72 O (fun g7_28=>zF O kU O (J 4 O) O) O<|rL1 73 O (fun g7_28=>yJ O D O) O<|rL1 74 O (fun g7_28=>kA O O O) O<|r_or O (fun h=>(lzf h))<|A O<|rL0 O (fun g7_34=>zG O zAi O) O<|rL1 78 O (fun g7_34=>zF O kU O (J 3 O) O) O<|rL1 79 O (fun g7_34=>yJ O D O) O<|rL1 80 O (fun g7_34=>kA O O O) O<|r_or O (fun h=>(lzf h))<|Y<|zE O (fun c1=>?_) (fun c1=>?_)
 ·exact absurd c1 (by decide+kernel)
 ·refine zK<|zJ<|G O<|zD O zAi<|zI kU (J 5 O) O<|qC O D zB (wJ (x:=sA) O)<|qQ O zAp<|zI one3 zZ O<|yK O<|A O<|rL0 O (fun g9_6=>zG O zAi O) O<|rL1 90 O (fun g9_6=>zF O kU O (J 5 O) O) O<|rL1 91 O (fun g9_6=>qE O D O O zB (wJ (x:=sA) O)) O<|rL1 92 O (fun g9_6=>qM O kV O) O<|rL1 93 O (fun g9_6=>zF O kU O zZ O) O<|rL1 94 O (fun g9_6=>yJ O D O) O<|rL1 95 O (fun g9_6=>kA O O O) O<|r_or O (fun h=>(lzf h))<|A O<|rL0 O (fun g9_15=>zG O zAi O) O<|rL1 99 O (fun g9_15=>zF O kU O (J 5 O) O) O<|rL1 100 O (fun g9_15=>qE O D O O zB (wJ (x:=sA) O)) O<|rL1 101 O (fun g9_15=>qM O kV O) O<|rL1 102 O (fun g9_15=>zF O kU O zZ O) O<|rL1 103 O (fun g9_15=>qE O D O O zB (wJ (x:=sA1) O)) O<|rL1 104 O (fun g9_15=>qM O zAp O) O<|rL1 105 O (fun g9_15=>zF O one3 O zZ O) O<|rL1 106 O (fun g9_15=>kA O O O) O<|r_or O (fun h=>(lzf h))<|A O<|rL0 O (fun g9_26=>zG O zAi O) O<|rL1 110 O (fun g9_26=>zF O kU O (J 4 O) O) O<|rL1 111 O (fun g9_26=>qE O D O O zB (wJ (x:=sB) O)) O<|rL1 112 O (fun g9_26=>qM O kV O) O<|rL1 113 O (fun g9_26=>zF O kU O zZ O) O<|rL1 114 O (fun g9_26=>yJ O D O) O<|rL1 115 O (fun g9_26=>kA O O O) O<|r_or O (fun h=>(lzf h))<|A O<|rL0 O (fun g9_35=>zG O zAi O) O<|rL1 119 O (fun g9_35=>zF O kU O (J 4 O) O) O<|rL1 120 O (fun g9_35=>qE O D O O zB (wJ (x:=sB) O)) O<|rL1 121 O (fun g9_35=>qM O kV O) O<|rL1 122 O (fun g9_35=>zF O kU O zZ O) O<|rL1 123 O (fun g9_35=>qE O D O O zB (wJ (x:=sB1) O)) O<|rL1 124 O (fun g9_35=>qM O kV O) O<|rL1 125 O (fun g9_35=>zF O kU O zZ O) O<|rL1 126 O (fun g9_35=>yJ O D O) O<|rL1 127 O (fun g9_35=>kA O O O) O<|r_or O (fun h=>(lzf h))<|Y<|zE O (fun c2=>?_) (fun c2=>?_)
  ·exact absurd c2 (by decide+kernel)
  ·refine zK<|zJ<|qU 42 mixed uC O O<|zN O O (zG O zAi O)<|zN O O (zF O kU O (J 4 O) O)<|zN O O (qE O D O O zB (wJ (x:=sB) O))<|zN O O (qM O zAp O)<|zN O O (zF O one3 O zZ O)<|zN O O (yM O O O)<|zN O O (zO O O)<|qL [] O O O O B T (fun g11_6=>zG O zAi O) O<|qL [(137,_)] O O O O B ⟨O,O,T⟩ (fun g11_6=>zF O kU O (J 4 O) O) O<|qL [(138,_)] O O O O B ⟨O,O,T⟩ (fun g11_6=>qE O D O O zB (wJ (x:=sB) O)) O<|qL [(139,_)] O O O O B ⟨O,O,T⟩ (fun g11_6=>qM O kV O) O<|qL [(140,_)] O O O O B ⟨O,O,T⟩ (fun g11_6=>zF O kU O zZ O) O<|qL [(141,_)] O O O O B ⟨O,O,T⟩ (fun g11_6=>qE O D O O zB (wJ (x:=sB1) O)) O<|qL [(142,_)] O O O O B ⟨O,O,T⟩ (fun g11_6=>qM O kV O) O<|qL [(143,_)] O O O O B ⟨O,O,T⟩ (fun g11_6=>zF O kU O zZ O) O<|qL [(144,_)] O O O O B ⟨O,O,T⟩ (fun g11_6=>qE O D O O zB (wJ (x:=sB2) O)) O<|qL [(145,_)] O O O O B ⟨O,O,T⟩ (fun g11_6=>qM O zAm O) O<|qL [(146,_)] O O O O B ⟨O,O,T⟩ (fun g11_6=>zF O one3 O zZ O) O<|qL [(147,_)] O O O O B ⟨O,O,T⟩ (fun g11_6=>yM O O O) O<|zN O O (kZ O O O (fun h=>h) O)<|zN O O (zO O O)<|qL [] O O O O B T (fun g11_20=>zG O zAi O) O<|qL [(151,_)] O O O O B ⟨O,O,T⟩ (fun g11_20=>zF O kU O (J 3 O) O) O<|qL [(152,_)] O O O O B ⟨O,O,T⟩ (fun g11_20=>qE O D O O zB (wJ (x:=sC1) O)) O<|qL [(153,_)] O O O O B ⟨O,O,T⟩ (fun g11_20=>qM O zAp O) O<|qL [(154,_)] O O O O B ⟨O,O,T⟩ (fun g11_20=>zF O one3 O zZ O) O<|qL [(155,_)] O O O O B ⟨O,O,T⟩ (fun g11_20=>yM O O O) O<|zN O O (kZ O O O (fun h=>h) O)<|zN O O (zO O O)<|qL [] O O O O B T (fun g11_28=>zG O zAi O) O<|qL [(159,_)] O O O O B ⟨O,O,T⟩ (fun g11_28=>zF O kU O (J 3 O) O) O<|qL [(160,_)] O O O O B ⟨O,O,T⟩ (fun g11_28=>qE O D O O zB (wJ (x:=sC2) O)) O<|qL [(161,_)] O O O O B ⟨O,O,T⟩ (fun g11_28=>qM O zAp O) O<|qL [(162,_)] O O O O B ⟨O,O,T⟩ (fun g11_28=>zF O one3 O zZ O) O<|qL [(163,_)] O O O O B ⟨O,O,T⟩ (fun g11_28=>yM O O O) O<|zN O O (kZ O O O (fun h=>h) O)<|zN O O (zO O O)<|qL [] O O O O B T (fun g11_36=>zU O kE O (J 2 O) O) O<|qL [] O O O O B T (fun g11_36=>qG O ok14 (zCg _ _) ⟨R,O,R,O,T⟩) O<|qL [(167,_),(168,_)] O O O O B ⟨O,O,O,O,T⟩ (fun g11_36=>qG O ok15 (base_Nest (cpy 6 0) (cpy 6 0) (zXb zQv.1)) ⟨R,O,R,O,T⟩) O<|zN O O (kZ O O O (fun h=>h) O)<|zN O O (qX O O)<|yP<|Y<|zH<|zS O ?_
   exact congrArg vB (by rw [wR rfl];decide+kernel)
end Go.W
end
