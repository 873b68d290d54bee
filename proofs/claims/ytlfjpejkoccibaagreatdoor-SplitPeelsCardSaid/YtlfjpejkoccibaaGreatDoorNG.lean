/-
  Walks: what functions of the program compute. Printed by wip/gen/mk2.py.
  Conditions: none.
-/
import Derived.Test.YtlfjpejkoccibaaGreatDoorNF
import Derived.Test.YtlfjpejkoccibaaGreatDoorPlain2
import Derived.Test.YtlfjpejkoccibaaGreatDoorVK
import Derived.Test.YtlfjpejkoccibaaGreatDoorNE
set_option linter.unusedSimpArgs false
set_option linter.unusedVariables false
set_option maxRecDepth 10000
namespace Go.W
open Go Go.Eng Go.Proofs Go.L41 Go.Br
attribute [local irreducible] AWP RWP TD finQ
theorem ok76:callOk Tryz.prog 76=true:=by kernel_rfl
theorem ok151:callOk Tryz.prog 151=true:=by kernel_rfl
theorem pl46:placesT Tryz.prog 46=some [(0,1),(1,1),(2,1),(3,1),(4,1),(5,1),(6,13),(19,1)]:=by kernel_rfl
theorem sz23:(Tryz.prog.info? 23).map (·.size)=some 1:=by kernel_rfl
theorem base_Ints (a b:List Int) (ha:a.length<=17592186044416):
    Pur cfg 36 [vIs a,vIs b] (vB (decide (a=b))):=by
 refine zT Tryz.func36 O Tryz.ntmps36 Tryz.results36 O ?_
 intro z hz
 refine F O<|A O<|G<|zJ<|F O<|A O<|qC O K<|A O<|qC O K<|yN O<|G<|zD O (fun c1=>?_) (fun c1=>?_)
 ·try simp only [I] at c1
  refine F O<|A O<|G<|o<|X O ?_
  rw [yQ (fun h=>c1 (by rw [h]))]
 ·try simp only [I] at c1
  refine zK<|zJ<|F O<|A O<|G<|zR<|zY ⟨[(5,.c _),(0,.c _),(1,.c _)],[]⟩ (Weak.mk [] ⟨H,H,H,T⟩ O)<|qK 1 0 O O (Nat) (fun k=>[(5,vI k)]) (fun k=>[]) (fun k=>k<=a.length/\(a.take k=b.take k)) (fun k=>a.length-k) ⟨0,⟨by omega,O⟩,Weak.mk [] ⟨H,H,H,T⟩ O⟩ ?_
  rintro k ⟨hk,hp⟩
  refine zJ<|F O<|A O<|A O<|qC O K<|yD O<|G<|zD O (fun c2=>?_) (fun c2=>?_)
  ·try simp only [I] at c2
   obtain ⟨x,hx⟩:=qV a k (by omega)
   obtain ⟨y,hy⟩:=qV b k (by omega)
   refine zK<|zJ<|zR<|zJ<|qY 9 mixed (by kernel_rfl) O O<|M O O (w O O)<|M O O (w O O)<|M O O (qG O K O O (by omega) (Q (by assumption)))<|M O O (zF O one3 O qA O)<|M O O (w O O)<|M O O (w O O)<|M O O (qG O K O O (by omega) (Q (by assumption)))<|M O O (zF O one3 O qA O)<|M O O (kR O O O)<|kD<|G<|zD O (fun c3=>?_) (fun c3=>?_)
   ·try simp only [I] at c3
    refine F O<|A O<|G<|o<|X O ?_
    rw [yQ (zFf hx hy c3)]
   ·try simp only [I] at c3
    refine zK<|zQ O<|A O<|qJ O ⟨by omega,by omega⟩<|A O<|G ?_
    refine ⟨k+1,⟨by omega,zBq hx hy hp c3⟩,(by omega),Weak.mk [] ⟨H,H,H,T⟩ O⟩
  ·try simp only [I] at c2
   refine qQ<|F O<|A O<|G<|o<|X O ?_
   rw [wR (zDs hp (by omega) (by omega))]
theorem zJg (t:ByteArray) (l:List St) (hl:stsWt l<=536870912) (ih:∀s,s∈l->Pur cfg 76 [vSts s.Body,vS t] (.tup [vIs ((fndL t 0 s.Body).getD []),vB (fndL t 0 s.Body).isSome])):
    Pur cfg 76 [vSts l,vS t] (.tup [vIs ((fndL t 0 l).getD []),vB (fndL t 0 l).isSome]):=by
 refine zT Tryz.func76 O Tryz.ntmps76 Tryz.results76 O ?_
 intro z hz
 have hll:=kP l
 have hlN:=zCt l
 refine F O<|qZ 1 O<|A O<|G<|zJ<|F O<|A O<|G<|zR<|zY ⟨[(6,.c _),(0,.c _),(1,.c _)],[]⟩ (Weak.mk [] ⟨H,H,H,T⟩ O)<|qK 1 0 O O (Nat) (fun k=>[(6,vI k)]) (fun k=>[]) (fun k=>k<=l.length/\(fndL t 0 l=fndL t k (l.drop k))) (fun k=>l.length-k) ⟨0,⟨by omega,O⟩,Weak.mk [] ⟨H,H,H,T⟩ O⟩ ?_
 rintro k ⟨hk,hp⟩
 refine zJ<|F O<|A O<|A O<|qC O D<|yD O<|G<|zD O (fun c1=>?_) (fun c1=>?_)
 ·try simp only [I] at c1
  obtain ⟨s,hs⟩:=qV l k (by omega)
  have hsN:=zHd (qB hs)
  have hse:=zGi s
  have hgl:=fndL_getD t s.Body 0
  refine zK<|zJ<|zR<|zJ<|F O<|A O<|A O<|qD O D (by omega) (wG hs)<|qP O zAm<|zM one3 qA O<|yF O<|A O<|rL0 O (fun g4_6=>w O O) O<|rL0 O (fun g4_6=>w O O) O<|rLz [(22,_),(23,_)] O gv1 ⟨O,O,O,O,T⟩ (fun g4_6=>qG O D O O (by omega) (wG hs)) O<|B 24 O (fun g4_6=>qL O zAo O) O<|B 25 O (fun g4_6=>zF O one9 O qA O) O<|rL0 O (fun g4_6=>w O O) O<|rLz [(26,_),(27,_)] O gv1 ⟨O,O,O,O,T⟩ (fun g4_6=>yV O O O) O<|yS O (fun h=>h)<|G<|zD O (fun c2=>?_) (fun c2=>?_)
  ·refine F O<|A O<|yZ O K zr3<|A O<|A O<|G<|o<|p (J O) (J O) ?_
   rw [fnd_1 hs hp c2];rfl
  ·have c2:¬isLoop t s=true:=by rw [show isLoop t s=false from c2];simp
   refine zK<|F O<|A O<|A O<|qD O D (by omega) (wG hs)<|qP O kM<|zM kQ qA O<|A O<|qI O ok76 (ih s (qB hs)) ⟨H,O,H,O,T⟩<|qO O<|qU O<|qU O<|A O<|A O<|G<|F O<|A O<|G<|zD O (fun c3=>?_) (fun c3=>?_)
   ·try simp only [I] at c3
    refine F O<|A O<|zX O O (zCz O K zr3 O O O O) ?_
    rintro _ _ ⟨sv1,rfl,rfl⟩
    refine A O<|zX O O (qX 0 O K O O O (by simp only [List.length_map,List.length_append,List.length_cons,List.length_nil,List.length_take,List.length_drop];omega) (by simp only [List.length_map,List.length_append,List.length_cons,List.length_nil,List.length_take,List.length_drop];omega)) ?_
    rintro _ _ ⟨sv2,rfl,rfl⟩
    refine yI _ (yH 0 O (regs':=[(46,_)]) (μ':=[]) ⟨FLe.sl,T⟩ T)<|A O<|A O<|G<|o<|p (J O) (J O) ?_
    rw [fnd_2 hs hp c2 c3];rfl
   ·try simp only [I] at c3
    refine zK<|zQ O<|A O<|qJ O ⟨by omega,by omega⟩<|A O<|G ?_
    refine ⟨k+1,⟨by omega,fnd_0 hs hp c2 (by simpa using c3)⟩,(by omega),Weak.mk [] ⟨H,H,H,T⟩ O⟩
 ·try simp only [I] at c1
  refine qQ<|F O<|qZ 1 O<|A O<|G<|o<|p (J O) (J O) ?_
  rw [fndL_end hp (by omega)];rfl
theorem zTd (t:ByteArray) (s:St) (hl:stsWt s.Body<=536870912):Pur cfg 76 [vSts s.Body,vS t] (.tup [vIs ((fndL t 0 s.Body).getD []),vB (fndL t 0 s.Body).isSome]):=by
  induction s using St.ind with
  |_ s ih=>exact zJg t s.Body hl fun a ha=>ih a ha (by have:=yE ha;have:=St.body_wt a;omega)
theorem ref30_find (t:ByteArray) (l:List St) (hl:stsWt l<=536870912):Pur cfg 76 [vSts l,vS t] (.tup [vIs ((fndL t 0 l).getD []),vB (fndL t 0 l).isSome]):=
  zJg t l hl fun s hs=>zTd t s (by have:=yE hs;have:=St.body_wt s;omega)
theorem ref30_Find (n:Ns) (t:ByteArray) (hl:stsWt n.Body<=536870912):
    Pur cfg 28 [vNs n,vS t] (.tup [vIs ((findN n.Body t).getD []),vB (findN n.Body t).isSome]):=by
 refine zT Tryz.func28 O Tryz.ntmps28 Tryz.results28 O ?_
 intro z hz
 refine F O<|zX O O (qN O O) ?_
 rintro _ _ ⟨b1,rfl,rfl⟩
 refine qZ 1 O<|A O<|G<|F O<|zH O zAd<|zM kQ (R 0 O) O<|A O<|qI O ok76 (ref30_find t n.Body hl) ⟨H,O,H,O,T⟩<|qU O<|qU O<|A O<|A O<|G<|o<|p (J O) (J O) ?_
 rw [zNm]
theorem zFq (l:List St) (hl:stsWt l<=536870912) (ih:∀s,s∈l->OwnR cfg 151 [vSts s.Body] 9 1 (strRows (loopsL s.Body))):
    OwnR cfg 151 [vSts l] 9 1 (strRows (loopsL l)):=by
 refine zT Tryz.func151 O Tryz.ntmps151 Tryz.results151 O ?_
 intro z hz
 have hll:=kP l
 have hlN:=zCt l
 refine F O<|qZ 1 O<|G<|F O<|A O<|yI _ (kN 9 1)<|G<|zJ<|F O<|A O<|G<|zR<|zY ⟨[(4,.c _),(3,.c _),(0,.c _)],[_]⟩ (Weak.mk [true] ⟨H,H,H,T⟩ O)<|qK 2 1 O O (Nat×Value) (fun ⟨k,sv⟩=>[(4,vI k),(3,.c (.lit sv))]) (fun ⟨k,sv⟩=>[E.vec sv 9 1 (strRows (loopsL (l.take k)))]) (fun ⟨k,sv⟩=>k<=l.length) (fun ⟨k,sv⟩=>l.length-k) ⟨⟨0,(.slice none 0 0)⟩,(by omega),Weak.mk [true] ⟨H,H,H,T⟩ O⟩ ?_
 rintro ⟨k,sv⟩ hk
 show AWP _ _ _ _ _ ⟨[(4,vI k),(3,.c (.lit sv))]++_,[E.vec sv 9 1 (strRows (loopsL (l.take k)))]++_⟩
 refine zJ<|F O<|A O<|A O<|qC O D<|yD O<|G<|zD O (fun c1=>?_) (fun c1=>?_)
 ·try simp only [I] at c1
  obtain ⟨s,hs⟩:=qV l k (by omega)
  have hsN:=zHd (qB hs)
  have hse:=zGi s
  have hbl:=zGq s.Body
  have htl:=zGq (l.take k)
  have hst:=zSm hs
  refine zK<|zJ<|zR<|zJ<|F O<|A O<|A O<|qD O D (by omega) (wG hs)<|qP O zAm<|zM one3 qA O<|yF O<|G<|zD O (fun c2=>?_) (fun c2=>?_)
  ·try simp only [I] at c2
   refine zQ O<|A O<|A O<|A O<|qD O D (by omega) (wG hs)<|qP O zAo<|zM one9 qA O<|yZ O zCl zr9<|zX O O (qX 0 O zCl O O O (by simp only [List.length_map,List.length_append,List.length_cons,List.length_nil,List.length_take,List.length_drop];omega) (by simp only [List.length_map,List.length_append,List.length_cons,List.length_nil,List.length_take,List.length_drop];omega)) ?_
   rintro _ _ ⟨sv2,rfl,rfl⟩
   refine A O<|G<|zQ O<|A O<|A O<|A O<|qD O D (by omega) (wG hs)<|qP O kM<|zM kQ qA O<|qI O ok151 (OwnR.pur (ih s (qB hs))) ⟨H,O,T⟩<|zX O O (qX 0 O zCl O O O (by simp only [List.length_map,List.length_append,List.length_cons,List.length_nil,List.length_take,List.length_drop];omega) (by simp only [List.length_map,List.length_append,List.length_cons,List.length_nil,List.length_take,List.length_drop];omega)) ?_
   rintro _ _ ⟨sv3,rfl,rfl⟩
   refine A O<|G<|zQ O<|A O<|qJ O ⟨by omega,by omega⟩<|A O<|G ?_
   refine ⟨⟨k+1,sv3⟩,(by omega),(by show l.length-(k+1)<l.length-k;omega),Weak.mk [true] ⟨H,H,H,T⟩ (by exact zHo (by rw [zLv hs];first|(rw [show loopNm s=[s.Name] from if_pos c2];simp [strRows])|(rw [show loopNm s=[] from if_neg c2];simp [strRows])))⟩
  ·try simp only [I] at c2
   refine zK<|zQ O<|A O<|A O<|A O<|qD O D (by omega) (wG hs)<|qP O kM<|zM kQ qA O<|qI O ok151 (OwnR.pur (ih s (qB hs))) ⟨H,O,T⟩<|zX O O (qX 0 O zCl O O O (by simp only [List.length_map,List.length_append,List.length_cons,List.length_nil,List.length_take,List.length_drop];omega) (by simp only [List.length_map,List.length_append,List.length_cons,List.length_nil,List.length_take,List.length_drop];omega)) ?_
   rintro _ _ ⟨sv4,rfl,rfl⟩
   refine A O<|G<|zQ O<|A O<|qJ O ⟨by omega,by omega⟩<|A O<|G ?_
   refine ⟨⟨k+1,sv4⟩,(by omega),(by show l.length-(k+1)<l.length-k;omega),Weak.mk [true] ⟨H,H,H,T⟩ (by exact zHo (by rw [zLv hs];first|(rw [show loopNm s=[s.Name] from if_pos c2];simp [strRows])|(rw [show loopNm s=[] from if_neg c2];simp [strRows])))⟩
 ·try simp only [I] at c1
  refine qQ<|F O<|A O<|A O<|G<|o<|X O ?_
  rw [yO (l:=l) (k:=k) (by omega)]
  exact ⟨_,O,O⟩
theorem zMt (s:St) (hl:stsWt s.Body<=536870912):OwnR cfg 151 [vSts s.Body] 9 1 (strRows (loopsL s.Body)):=by
  induction s using St.ind with
  |_ s ih=>exact zFq s.Body hl fun a ha=>ih a ha (by have:=yE ha;have:=St.body_wt a;omega)
theorem ref30_loopsOf (l:List St) (hl:stsWt l<=536870912):OwnR cfg 151 [vSts l] 9 1 (strRows (loopsL l)):=
  zFq l hl fun s hs=>zMt s (by have:=yE hs;have:=St.body_wt s;omega)
theorem ref30_Loops (n:Ns) (hl:stsWt n.Body<=536870912):
    Pur cfg 116 [vNs n] (vSs (loopsL n.Body)):=by
 refine zT Tryz.func116 O Tryz.ntmps116 Tryz.results116 O ?_
 intro z hz
 refine F O<|zX O O (qN O O) ?_
 rintro _ _ ⟨b1,rfl,rfl⟩
 refine qZ 1 O<|G<|F O<|zH O zAd<|zM kQ (R 0 O) O<|qI O ok151 (OwnR.pur (ref30_loopsOf n.Body hl)) ⟨H,O,T⟩<|A O<|G<|o<|X O ?_
 exact O
theorem ref30_At (n:Ns) (way:List Int) (hw:way.length<=1073741824):
    Pur cfg 29 [vNs n,vIs way] (.tup [vSt (atT n.Body way).1,vB (atT n.Body way).2]):=by
 refine zT Tryz.func29 O Tryz.ntmps29 Tryz.results29 O ?_
 intro z hz
 refine F O<|zX O O (qN O O) ?_
 rintro _ _ ⟨b1,rfl,rfl⟩
 refine zX O O (qE [none,none,none,none,none,some 4,none,none,none,none,none,none,none,none,none,none,some 2,some 4,some 13,some 20] O j O) ?_
 rintro _ _ ⟨b2,rfl,rfl⟩
 refine A O<|G<|F O<|zH O zAd<|zM kQ (R 1 O) O<|A O<|G<|F O<|qT [none,none,none,none,none,some 4,none,none,none,none,none,none,none,none,none,none,some 2,some 4,some 13,some 20] O j pl46<|zX O O (qE [none,none,none,none,none,some 4,none,none,none,none,none,none,none,none,none,none,some 2,some 4,some 13,some 20] O j O) ?_
 rintro _ _ ⟨b3,rfl,rfl⟩
 refine Y 0 sz46 O<|G<|zJ<|F O<|A O<|G<|zR<|zY ⟨[(8,.c _),(6,.c _),(1,.c _),(4,.c _),(7,.c _)],[_,_]⟩ (Weak.mk [true,true,false] ⟨H,H,H,H,H,T⟩ O)<|qK 2 1 O O (Nat×List St×St) (fun ⟨k,lc,s0⟩=>[(8,vI k),(6,vSts lc)]) (fun ⟨k,lc,s0⟩=>[E.row b3 46 s0.cs]) (fun ⟨k,lc,s0⟩=>k<=way.length/\(atF way n.Body zSt=atF (way.drop k) lc s0)) (fun ⟨k,lc,s0⟩=>way.length-k) ⟨⟨0,n.Body,zSt⟩,⟨by omega,O⟩,Weak.mk [true,true] ⟨H,H,H,H,H,T⟩ O⟩ ?_
 rintro ⟨k,lc,s0⟩ ⟨hk,hp⟩
 show AWP _ _ _ _ _ ⟨[(8,vI k),(6,vSts lc)]++_,[E.row b3 46 s0.cs]++_⟩
 refine zJ<|F O<|A O<|A O<|qC O K<|yD O<|G<|zD O (fun c1=>?_) (fun c1=>?_)
 ·try simp only [I] at c1
  obtain ⟨i,hi⟩:=qV way k (by omega)
  refine zK<|zJ<|zR<|zJ<|F O<|A O<|A O<|qD O K (by omega) (Q (by assumption))<|zM one3 qA O<|yD O<|A O<|rL0 O (fun g6_5=>w O O) O<|rL0 O (fun g6_5=>w O O) O<|rLz [(24,_),(25,_)] O gv1 ⟨O,O,O,O,T⟩ (fun g6_5=>qG O K O O (by omega) (Q (by assumption))) O<|B 26 O (fun g6_5=>zF O one3 O qA O) O<|rL0 O (fun g6_5=>w O O) O<|B 28 O (fun g6_5=>yC O D O) O<|rLz [(27,_),(29,_)] O gv1 ⟨O,O,O,O,T⟩ (fun g6_5=>wH O O O) O<|r_or O (fun h=>(lzf h))<|G<|zD O (fun c2=>?_) (fun c2=>?_)
  ·try simp only [I] at c2
   refine F O<|qT [none,none,none,none,none,some 4,none,none,none,none,none,none,none,none,none,none,some 2,some 4,some 13,some 20] O j pl46<|Y 1 sz46 O<|A O<|G<|o<|p (zV zAt O (R 1 O) O) (J O) ?_
   have e:atT n.Body way=(zSt,false):=by unfold atT;split;rfl;exact atF_no hi hp (by omega)
   rw [e];rfl
  ·try simp only [I] at c2
   have hs:=zIs (l:=lc) (i:=i) (by omega)
   refine zK<|F O<|A O<|A O<|A O<|qD O K (by omega) (Q (by assumption))<|zM one3 qA O<|qD O D (by omega) (wG hs)<|zP zAt qA O<|Y 0 sz46 O<|G<|zQ O<|zH O kM<|zM kQ (R 0 O) O<|A O<|G<|zQ O<|A O<|qJ O ⟨by omega,by omega⟩<|A O<|G ?_
   refine ⟨⟨k+1,(lc.getD i.toNat zSt).Body,(lc.getD i.toNat zSt)⟩,⟨by omega,atF_next hi hp (by omega)⟩,(by show way.length-(k+1)<way.length-k;omega),Weak.mk [true,true] ⟨H,H,H,H,H,T⟩ O⟩
 ·try simp only [I] at c1
  have hwe:way=[]∨0<way.length:=by cases way;exact .inl rfl;exact .inr (by simp)
  refine qQ<|F O<|zP zAt (R 0 O) O<|A O<|qC O K<|zU O (yG O O O)<|Y 1 sz46 O<|A O<|G<|o<|p (zV zAt O (R 1 O) O) (J O) ?_
  have e:atT n.Body way=(s0,decide ((0:Int)<way.length)):=by
    unfold atT
    have e0:=atF_end hp (by omega)
    rcases hwe with h|h
    · subst h
      have e1:zSt=s0:=congrArg Prod.fst e0
      rw [if_pos rfl,e1];rfl
    · rw [if_neg (by intro h2;rw [h2] at h;simp at h),e0,decide_eq_true (by omega)]
  rw [e];rfl
end Go.W
