/-
  What functions compute.
  Conditions: none.
-/
import Derived.Test.YtlfjpejkoccibaaGreatDoorNF
import Derived.Test.YtlfjpejkoccibaaGreatDoorPlain2
import Derived.Test.YtlfjpejkoccibaaGreatDoorVK
import Derived.Test.YtlfjpejkoccibaaGreatDoorNE
set_option linter.unusedSimpArgs false
set_option linter.unusedVariables false
set_option maxRecDepth 10000
namespace Go.W
open Go Go.Eng Go.Proofs Go.L41 Go.Br
attribute [local irreducible] AWP RWP TD fH
theorem ok76:bA Tryz.prog 76=true:=by kernel_rfl
theorem ok151:bA Tryz.prog 151=true:=by kernel_rfl
theorem pl46:gG Tryz.prog 46=some [(0,1),(1,1),(2,1),(3,1),(4,1),(5,1),(6,13),(19,1)]:=by kernel_rfl
theorem sz23:(Tryz.prog.info? 23).map (·.size)=some 1:=by kernel_rfl
theorem base_Ints (a b:List Int) (ha:a.length<=17592186044416):
    Pur cfg 36 [vIs a,vIs b] (vB (decide (a=b))):=by
 refine zT Tryz.func36 O Tryz.ntmps36 Tryz.results36 O ?_
 intro z hz
 refine F O<|A O<|H<|zK<|F O<|A O<|qC O K<|A O<|qC O K<|yM O<|H<|zD O (fun c1=>?_) (fun c1=>?_)
 ·try simp only [I] at c1
  refine F O<|A O<|H<|o<|X O ?_
  rw [yO (fun h=>c1 (by rw [h]))]
 ·try simp only [I] at c1
  refine zM<|zK<|F O<|A O<|H<|zR<|zY ⟨[(5,.c _),(0,.c _),(1,.c _)],[]⟩ (Weak.mk [] ⟨G,G,G,T⟩ O)<|qK 1 0 O O (Nat) (fun k=>[(5,vI k)]) (fun k=>[]) (fun k=>k<=a.length/\(a.take k=b.take k)) (fun k=>a.length-k) ⟨0,⟨by omega,O⟩,Weak.mk [] ⟨G,G,G,T⟩ O⟩ ?_
  rintro k ⟨hk,hp⟩
  refine zK<|F O<|A O<|A O<|qC O K<|yD O<|H<|zD O (fun c2=>?_) (fun c2=>?_)
  ·try simp only [I] at c2
   obtain ⟨x,hx⟩:=qY a k (by omega)
   obtain ⟨y,hy⟩:=qY b k (by omega)
   refine zM<|zK<|zR<|zK<|qZ 9 mixed (by kernel_rfl) O O<|M O O (zN O O)<|M O O (zN O O)<|M O O (qF O K O O (by omega) (Q (by assumption)))<|M O O (zF O one3 O qA O)<|M O O (zN O O)<|M O O (zN O O)<|M O O (qF O K O O (by omega) (Q (by assumption)))<|M O O (zF O one3 O qA O)<|M O O (kN O O O)<|kE<|H<|zD O (fun c3=>?_) (fun c3=>?_)
   ·try simp only [I] at c3
    refine F O<|A O<|H<|o<|X O ?_
    rw [yO (zFq hx hy c3)]
   ·try simp only [I] at c3
    refine zM<|zQ O<|A O<|qJ O ⟨by omega,by omega⟩<|A O<|H ?_
    refine ⟨k+1,⟨by omega,zBv hx hy hp c3⟩,(by omega),Weak.mk [] ⟨G,G,G,T⟩ O⟩
  ·try simp only [I] at c2
   refine qQ<|F O<|A O<|H<|o<|X O ?_
   rw [wR (zDz hp (by omega) (by omega))]
theorem zJw (t:ByteArray) (l:List St) (hl:bC l<=536870912) (ih:∀s,s∈l->Pur cfg 76 [bM s.Body,vS t] (.tup [vIs ((gJ t 0 s.Body).getD []),vB (gJ t 0 s.Body).isSome])):
    Pur cfg 76 [bM l,vS t] (.tup [vIs ((gJ t 0 l).getD []),vB (gJ t 0 l).isSome]):=by
 refine zT Tryz.func76 O Tryz.ntmps76 Tryz.results76 O ?_
 intro z hz
 have hll:=kO l
 have hlN:=zCr l
 refine F O<|qX 1 O<|A O<|H<|zK<|F O<|A O<|H<|zR<|zY ⟨[(6,.c _),(0,.c _),(1,.c _)],[]⟩ (Weak.mk [] ⟨G,G,G,T⟩ O)<|qK 1 0 O O (Nat) (fun k=>[(6,vI k)]) (fun k=>[]) (fun k=>k<=l.length/\(gJ t 0 l=gJ t k (l.drop k))) (fun k=>l.length-k) ⟨0,⟨by omega,O⟩,Weak.mk [] ⟨G,G,G,T⟩ O⟩ ?_
 rintro k ⟨hk,hp⟩
 refine zK<|F O<|A O<|A O<|qC O D<|yD O<|H<|zD O (fun c1=>?_) (fun c1=>?_)
 ·try simp only [I] at c1
  obtain ⟨s,hs⟩:=qY l k (by omega)
  have hsN:=zHq (zZ hs)
  have hse:=zDi s
  have hgl:=fndL_getD t s.Body 0
  refine zM<|zK<|zR<|zK<|F O<|A O<|A O<|qD O D (by omega) (wD hs)<|qO O zAp<|zJ one3 qA O<|yF O<|A O<|rL0 O (fun g4_6=>zN O O) O<|rL0 O (fun g4_6=>zN O O) O<|rLz [(22,_),(23,_)] O gv1 ⟨O,O,O,O,T⟩ (fun g4_6=>qF O D O O (by omega) (wD hs)) O<|B 24 O (fun g4_6=>qL O zAj O) O<|B 25 O (fun g4_6=>zF O one9 O qA O) O<|rL0 O (fun g4_6=>zN O O) O<|rLz [(26,_),(27,_)] O gv1 ⟨O,O,O,O,T⟩ (fun g4_6=>yR O O O) O<|yQ O (fun h=>h)<|H<|zD O (fun c2=>?_) (fun c2=>?_)
  ·refine F O<|A O<|yV O K zr3<|A O<|A O<|H<|o<|w (J O) (J O) ?_
   rw [fnd_1 hs hp c2];rfl
  ·have c2:¬fX t s=true:=by rw [show fX t s=false from c2];simp
   refine zM<|F O<|A O<|A O<|qD O D (by omega) (wD hs)<|qO O kK<|zJ kP qA O<|A O<|qI O ok76 (ih s (zZ hs)) ⟨G,O,G,O,T⟩<|qP O<|qU O<|qU O<|A O<|A O<|H<|F O<|A O<|H<|zD O (fun c3=>?_) (fun c3=>?_)
   ·try simp only [I] at c3
    refine F O<|A O<|zV O O (zCe O K zr3 O O O O) ?_
    rintro _ _ ⟨sv1,rfl,rfl⟩
    refine A O<|zV O O (qV 0 O K O O O (by simp only [List.length_map,List.length_append,List.length_cons,List.length_nil,List.length_take,List.length_drop];omega) (by simp only [List.length_map,List.length_append,List.length_cons,List.length_nil,List.length_take,List.length_drop];omega)) ?_
    rintro _ _ ⟨sv2,rfl,rfl⟩
    refine yI _ (yK 0 O (regs':=[(46,_)]) (μ':=[]) ⟨FLe.sl,T⟩ T)<|A O<|A O<|H<|o<|w (J O) (J O) ?_
    rw [fnd_2 hs hp c2 c3];rfl
   ·try simp only [I] at c3
    refine zM<|zQ O<|A O<|qJ O ⟨by omega,by omega⟩<|A O<|H ?_
    refine ⟨k+1,⟨by omega,fnd_0 hs hp c2 (by simpa using c3)⟩,(by omega),Weak.mk [] ⟨G,G,G,T⟩ O⟩
 ·try simp only [I] at c1
  refine qQ<|F O<|qX 1 O<|A O<|H<|o<|w (J O) (J O) ?_
  rw [fndL_end hp (by omega)];rfl
theorem zUn (t:ByteArray) (s:St) (hl:bC s.Body<=536870912):Pur cfg 76 [bM s.Body,vS t] (.tup [vIs ((gJ t 0 s.Body).getD []),vB (gJ t 0 s.Body).isSome]):=by
  induction s using St.ind with
  |_ s ih=>exact zJw t s.Body hl fun a ha=>ih a ha (by have:=yC ha;have:=St.body_wt a;omega)
theorem ref30_find (t:ByteArray) (l:List St) (hl:bC l<=536870912):Pur cfg 76 [bM l,vS t] (.tup [vIs ((gJ t 0 l).getD []),vB (gJ t 0 l).isSome]):=
  zJw t l hl fun s hs=>zUn t s (by have:=yC hs;have:=St.body_wt s;omega)
theorem ref30_Find (n:Ns) (t:ByteArray) (hl:bC n.Body<=536870912):
    Pur cfg 28 [vNs n,vS t] (.tup [vIs ((dX n.Body t).getD []),vB (dX n.Body t).isSome]):=by
 refine zT Tryz.func28 O Tryz.ntmps28 Tryz.results28 O ?_
 intro z hz
 refine F O<|zV O O (qN O O) ?_
 rintro _ _ ⟨b1,rfl,rfl⟩
 refine qX 1 O<|A O<|H<|F O<|zG O zAd<|zJ kP (R 0 O) O<|A O<|qI O ok76 (ref30_find t n.Body hl) ⟨G,O,G,O,T⟩<|qU O<|qU O<|A O<|A O<|H<|o<|w (J O) (J O) ?_
 rw [zOr]
theorem zGb (l:List St) (hl:bC l<=536870912) (ih:∀s,s∈l->OwnR cfg 151 [bM s.Body] 9 1 (jZ (bE s.Body))):
    OwnR cfg 151 [bM l] 9 1 (jZ (bE l)):=by
 refine zT Tryz.func151 O Tryz.ntmps151 Tryz.results151 O ?_
 intro z hz
 have hll:=kO l
 have hlN:=zCr l
 refine F O<|qX 1 O<|H<|F O<|A O<|yI _ (kR 9 1)<|H<|zK<|F O<|A O<|H<|zR<|zY ⟨[(4,.c _),(3,.c _),(0,.c _)],[_]⟩ (Weak.mk [true] ⟨G,G,G,T⟩ O)<|qK 2 1 O O (Nat×Value) (fun ⟨k,sv⟩=>[(4,vI k),(3,.c (.lit sv))]) (fun ⟨k,sv⟩=>[E.vec sv 9 1 (jZ (bE (l.take k)))]) (fun ⟨k,sv⟩=>k<=l.length) (fun ⟨k,sv⟩=>l.length-k) ⟨⟨0,(.slice none 0 0)⟩,(by omega),Weak.mk [true] ⟨G,G,G,T⟩ O⟩ ?_
 rintro ⟨k,sv⟩ hk
 show AWP _ _ _ _ _ ⟨[(4,vI k),(3,.c (.lit sv))]++_,[E.vec sv 9 1 (jZ (bE (l.take k)))]++_⟩
 refine zK<|F O<|A O<|A O<|qC O D<|yD O<|H<|zD O (fun c1=>?_) (fun c1=>?_)
 ·try simp only [I] at c1
  obtain ⟨s,hs⟩:=qY l k (by omega)
  have hsN:=zHq (zZ hs)
  have hse:=zDi s
  have hbl:=zHc s.Body
  have htl:=zHc (l.take k)
  have hst:=zTu hs
  refine zM<|zK<|zR<|zK<|F O<|A O<|A O<|qD O D (by omega) (wD hs)<|qO O zAp<|zJ one3 qA O<|yF O<|H<|zD O (fun c2=>?_) (fun c2=>?_)
  ·try simp only [I] at c2
   refine zQ O<|A O<|A O<|A O<|qD O D (by omega) (wD hs)<|qO O zAj<|zJ one9 qA O<|yV O zGn zr9<|zV O O (qV 0 O zGn O O O (by simp only [List.length_map,List.length_append,List.length_cons,List.length_nil,List.length_take,List.length_drop];omega) (by simp only [List.length_map,List.length_append,List.length_cons,List.length_nil,List.length_take,List.length_drop];omega)) ?_
   rintro _ _ ⟨sv2,rfl,rfl⟩
   refine A O<|H<|zQ O<|A O<|A O<|A O<|qD O D (by omega) (wD hs)<|qO O kK<|zJ kP qA O<|qI O ok151 (OwnR.pur (ih s (zZ hs))) ⟨G,O,T⟩<|zV O O (qV 0 O zGn O O O (by simp only [List.length_map,List.length_append,List.length_cons,List.length_nil,List.length_take,List.length_drop];omega) (by simp only [List.length_map,List.length_append,List.length_cons,List.length_nil,List.length_take,List.length_drop];omega)) ?_
   rintro _ _ ⟨sv3,rfl,rfl⟩
   refine A O<|H<|zQ O<|A O<|qJ O ⟨by omega,by omega⟩<|A O<|H ?_
   refine ⟨⟨k+1,sv3⟩,(by omega),(by show l.length-(k+1)<l.length-k;omega),Weak.mk [true] ⟨G,G,G,T⟩ (by exact zCv (by rw [zMu hs];first|(rw [show gI s=[s.Name] from if_pos c2];simp [jZ])|(rw [show gI s=[] from if_neg c2];simp [jZ])))⟩
  ·try simp only [I] at c2
   refine zM<|zQ O<|A O<|A O<|A O<|qD O D (by omega) (wD hs)<|qO O kK<|zJ kP qA O<|qI O ok151 (OwnR.pur (ih s (zZ hs))) ⟨G,O,T⟩<|zV O O (qV 0 O zGn O O O (by simp only [List.length_map,List.length_append,List.length_cons,List.length_nil,List.length_take,List.length_drop];omega) (by simp only [List.length_map,List.length_append,List.length_cons,List.length_nil,List.length_take,List.length_drop];omega)) ?_
   rintro _ _ ⟨sv4,rfl,rfl⟩
   refine A O<|H<|zQ O<|A O<|qJ O ⟨by omega,by omega⟩<|A O<|H ?_
   refine ⟨⟨k+1,sv4⟩,(by omega),(by show l.length-(k+1)<l.length-k;omega),Weak.mk [true] ⟨G,G,G,T⟩ (by exact zCv (by rw [zMu hs];first|(rw [show gI s=[s.Name] from if_pos c2];simp [jZ])|(rw [show gI s=[] from if_neg c2];simp [jZ])))⟩
 ·try simp only [I] at c1
  refine qQ<|F O<|A O<|A O<|H<|o<|X O ?_
  rw [yU (l:=l) (k:=k) (by omega)]
  exact ⟨_,O,O⟩
theorem zNz (s:St) (hl:bC s.Body<=536870912):OwnR cfg 151 [bM s.Body] 9 1 (jZ (bE s.Body)):=by
  induction s using St.ind with
  |_ s ih=>exact zGb s.Body hl fun a ha=>ih a ha (by have:=yC ha;have:=St.body_wt a;omega)
theorem ref30_loopsOf (l:List St) (hl:bC l<=536870912):OwnR cfg 151 [bM l] 9 1 (jZ (bE l)):=
  zGb l hl fun s hs=>zNz s (by have:=yC hs;have:=St.body_wt s;omega)
theorem ref30_Loops (n:Ns) (hl:bC n.Body<=536870912):
    Pur cfg 116 [vNs n] (vSs (bE n.Body)):=by
 refine zT Tryz.func116 O Tryz.ntmps116 Tryz.results116 O ?_
 intro z hz
 refine F O<|zV O O (qN O O) ?_
 rintro _ _ ⟨b1,rfl,rfl⟩
 refine qX 1 O<|H<|F O<|zG O zAd<|zJ kP (R 0 O) O<|qI O ok151 (OwnR.pur (ref30_loopsOf n.Body hl)) ⟨G,O,T⟩<|A O<|H<|o<|X O ?_
 exact O
theorem ref30_At (n:Ns) (way:List Int) (hw:way.length<=1073741824):
    Pur cfg 29 [vNs n,vIs way] (.tup [vSt (atT n.Body way).1,vB (atT n.Body way).2]):=by
 refine zT Tryz.func29 O Tryz.ntmps29 Tryz.results29 O ?_
 intro z hz
 refine F O<|zV O O (qN O O) ?_
 rintro _ _ ⟨b1,rfl,rfl⟩
 refine zV O O (qE [none,none,none,none,none,some 4,none,none,none,none,none,none,none,none,none,none,some 2,some 4,some 13,some 20] O j O) ?_
 rintro _ _ ⟨b2,rfl,rfl⟩
 refine A O<|H<|F O<|zG O zAd<|zJ kP (R 1 O) O<|A O<|H<|F O<|qT [none,none,none,none,none,some 4,none,none,none,none,none,none,none,none,none,none,some 2,some 4,some 13,some 20] O j pl46<|zV O O (qE [none,none,none,none,none,some 4,none,none,none,none,none,none,none,none,none,none,some 2,some 4,some 13,some 20] O j O) ?_
 rintro _ _ ⟨b3,rfl,rfl⟩
 refine Y 0 sz46 O<|H<|zK<|F O<|A O<|H<|zR<|zY ⟨[(8,.c _),(6,.c _),(1,.c _),(4,.c _),(7,.c _)],[_,_]⟩ (Weak.mk [true,true,false] ⟨G,G,G,G,G,T⟩ O)<|qK 2 1 O O (Nat×List St×St) (fun ⟨k,lc,s0⟩=>[(8,vI k),(6,bM lc)]) (fun ⟨k,lc,s0⟩=>[E.row b3 46 s0.cs]) (fun ⟨k,lc,s0⟩=>k<=way.length/\(atF way n.Body zSt=atF (way.drop k) lc s0)) (fun ⟨k,lc,s0⟩=>way.length-k) ⟨⟨0,n.Body,zSt⟩,⟨by omega,O⟩,Weak.mk [true,true] ⟨G,G,G,G,G,T⟩ O⟩ ?_
 rintro ⟨k,lc,s0⟩ ⟨hk,hp⟩
 show AWP _ _ _ _ _ ⟨[(8,vI k),(6,bM lc)]++_,[E.row b3 46 s0.cs]++_⟩
 refine zK<|F O<|A O<|A O<|qC O K<|yD O<|H<|zD O (fun c1=>?_) (fun c1=>?_)
 ·try simp only [I] at c1
  obtain ⟨i,hi⟩:=qY way k (by omega)
  refine zM<|zK<|zR<|zK<|F O<|A O<|A O<|qD O K (by omega) (Q (by assumption))<|zJ one3 qA O<|yD O<|A O<|rL0 O (fun g6_5=>zN O O) O<|rL0 O (fun g6_5=>zN O O) O<|rLz [(24,_),(25,_)] O gv1 ⟨O,O,O,O,T⟩ (fun g6_5=>qF O K O O (by omega) (Q (by assumption))) O<|B 26 O (fun g6_5=>zF O one3 O qA O) O<|rL0 O (fun g6_5=>zN O O) O<|B 28 O (fun g6_5=>yB O D O) O<|rLz [(27,_),(29,_)] O gv1 ⟨O,O,O,O,T⟩ (fun g6_5=>wI O O O) O<|r_or O (fun h=>(lzf h))<|H<|zD O (fun c2=>?_) (fun c2=>?_)
  ·try simp only [I] at c2
   refine F O<|qT [none,none,none,none,none,some 4,none,none,none,none,none,none,none,none,none,none,some 2,some 4,some 13,some 20] O j pl46<|Y 1 sz46 O<|A O<|H<|o<|w (y zAv O (R 1 O) O) (J O) ?_
   have e:atT n.Body way=(zSt,false):=by unfold atT;split;rfl;exact atF_no hi hp (by omega)
   rw [e];rfl
  ·try simp only [I] at c2
   have hs:=zJk (l:=lc) (i:=i) (by omega)
   refine zM<|F O<|A O<|A O<|A O<|qD O K (by omega) (Q (by assumption))<|zJ one3 qA O<|qD O D (by omega) (wD hs)<|zP zAv qA O<|Y 0 sz46 O<|H<|zQ O<|zG O kK<|zJ kP (R 0 O) O<|A O<|H<|zQ O<|A O<|qJ O ⟨by omega,by omega⟩<|A O<|H ?_
   refine ⟨⟨k+1,(lc.getD i.toNat zSt).Body,(lc.getD i.toNat zSt)⟩,⟨by omega,atF_next hi hp (by omega)⟩,(by show way.length-(k+1)<way.length-k;omega),Weak.mk [true,true] ⟨G,G,G,G,G,T⟩ O⟩
 ·try simp only [I] at c1
  have hwe:way=[]∨0<way.length:=by cases way;exact .inl rfl;exact .inr (by simp)
  refine qQ<|F O<|zP zAv (R 0 O) O<|A O<|qC O K<|zU O (yG O O O)<|Y 1 sz46 O<|A O<|H<|o<|w (y zAv O (R 1 O) O) (J O) ?_
  have e:atT n.Body way=(s0,decide ((0:Int)<way.length)):=by
    unfold atT
    have e0:=atF_end hp (by omega)
    rcases hwe with h|h
    · subst h
      have e1:zSt=s0:=congrArg Prod.fst e0
      rw [if_pos rfl,e1];rfl
    · rw [if_neg (by intro h2;rw [h2] at h;simp at h),e0,decide_eq_true (by omega)]
  rw [e];rfl
end Go.W
