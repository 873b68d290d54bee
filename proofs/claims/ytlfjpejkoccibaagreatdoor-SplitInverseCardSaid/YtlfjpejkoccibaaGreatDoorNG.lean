/-
  Walks: what functions of the program compute. Printed by wip/gen/mk2.py.
  Conditions: none.
-/
import Derived.Test.YtlfjpejkoccibaaGreatDoorNF
import Derived.Test.YtlfjpejkoccibaaGreatDoorPlain2
import Derived.Test.YtlfjpejkoccibaaGreatDoorVK
import Derived.Test.YtlfjpejkoccibaaGreatDoorNE
set_option linter.unusedSimpArgs false
set_option linter.unusedVariables false
set_option maxRecDepth 10000
namespace Go.W
open Go Go.Eng Go.Proofs Go.L41 Go.Br
attribute [local irreducible] AWP RWP TD finQ
theorem ok76:callOk Tryz.prog 76=true:=by kernel_rfl
theorem pl46:placesT Tryz.prog 46=some [(0,1),(1,1),(2,1),(3,1),(4,1),(5,1),(6,13),(19,1)]:=by kernel_rfl
theorem sz23:(Tryz.prog.info? 23).map (·.size)=some 1:=by kernel_rfl
theorem base_Ints (a b:List Int) (ha:a.length<=17592186044416):
    Pur cfg 36 [vIs a,vIs b] (vB (decide (a=b))):=by
 refine zQ Tryz.func36 O Tryz.ntmps36 Tryz.results36 O ?_
 intro z hz
 refine F O<|A O<|H<|zI<|F O<|A O<|qB O L<|A O<|qB O L<|yP O<|H<|zD O (fun c1=>?_) (fun c1=>?_)
 ·try simp only [I] at c1
  refine F O<|A O<|H<|o<|X O ?_
  rw [yL (fun h=>c1 (by rw [h]))]
 ·try simp only [I] at c1
  refine zH<|zI<|F O<|A O<|H<|zS<|zV ⟨[(5,.c _),(0,.c _),(1,.c _)],[]⟩ (Weak.mk [] ⟨G,G,G,T⟩ O)<|qO 1 0 O O (Nat) (fun k=>[(5,vI k)]) (fun k=>[]) (fun k=>k<=a.length/\(a.take k=b.take k)) (fun k=>a.length-k) ⟨0,⟨by omega,O⟩,Weak.mk [] ⟨G,G,G,T⟩ O⟩ ?_
  rintro k ⟨hk,hp⟩
  refine zI<|F O<|A O<|A O<|qB O L<|yN O<|H<|zD O (fun c2=>?_) (fun c2=>?_)
  ·try simp only [I] at c2
   obtain ⟨x,hx⟩:=qZ a k (by omega)
   obtain ⟨y,hy⟩:=qZ b k (by omega)
   refine zH<|zI<|zS<|zI<|qY 9 mixed (by kernel_rfl) O O<|Y O O (w O O)<|Y O O (w O O)<|Y O O (qE O L O O (by omega) (v (by assumption)))<|Y O O (Q O J O qA O)<|Y O O (w O O)<|Y O O (w O O)<|Y O O (qE O L O O (by omega) (v (by assumption)))<|Y O O (Q O J O qA O)<|Y O O (kT O O O)<|kH<|H<|zD O (fun c3=>?_) (fun c3=>?_)
   ·try simp only [I] at c3
    refine F O<|A O<|H<|o<|X O ?_
    rw [yL (zDs hx hy c3)]
   ·try simp only [I] at c3
    refine zH<|zT O<|A O<|qK O ⟨by omega,by omega⟩<|A O<|H ?_
    refine ⟨k+1,⟨by omega,zAl hx hy hp c3⟩,(by omega),Weak.mk [] ⟨G,G,G,T⟩ O⟩
  ·try simp only [I] at c2
   refine qQ<|F O<|A O<|H<|o<|X O ?_
   rw [wQ (zCr hp (by omega) (by omega))]
theorem zGv (t:ByteArray) (l:List St) (hl:stsWt l<=536870912) (ih:∀s,s∈l->Pur cfg 76 [vSts s.Body,vS t] (.tup [vIs ((fndL t 0 s.Body).getD []),vB (fndL t 0 s.Body).isSome])):
    Pur cfg 76 [vSts l,vS t] (.tup [vIs ((fndL t 0 l).getD []),vB (fndL t 0 l).isSome]):=by
 refine zQ Tryz.func76 O Tryz.ntmps76 Tryz.results76 O ?_
 intro z hz
 have hll:=kP l
 have hlN:=zDq l
 refine F O<|qX 1 O<|A O<|H<|zI<|F O<|A O<|H<|zS<|zV ⟨[(6,.c _),(0,.c _),(1,.c _)],[]⟩ (Weak.mk [] ⟨G,G,G,T⟩ O)<|qO 1 0 O O (Nat) (fun k=>[(6,vI k)]) (fun k=>[]) (fun k=>k<=l.length/\(fndL t 0 l=fndL t k (l.drop k))) (fun k=>l.length-k) ⟨0,⟨by omega,O⟩,Weak.mk [] ⟨G,G,G,T⟩ O⟩ ?_
 rintro k ⟨hk,hp⟩
 refine zI<|F O<|A O<|A O<|qB O K<|yN O<|H<|zD O (fun c1=>?_) (fun c1=>?_)
 ·try simp only [I] at c1
  obtain ⟨s,hs⟩:=qZ l k (by omega)
  have hsN:=zNr (zZ hs)
  have hse:=zIl s
  have hgl:=fndL_getD t s.Body 0
  refine zH<|zI<|zS<|zI<|F O<|A O<|A O<|qD O K (by omega) (kZ hs)<|qS O zBu<|zK J qA O<|yZ O<|A O<|M O (fun g4_6=>w O O) O<|M O (fun g4_6=>w O O) O<|rLz [(22,_),(23,_)] O gv1 ⟨O,O,O,O,T⟩ (fun g4_6=>qE O K O O (by omega) (kZ hs)) O<|B 24 O (fun g4_6=>qJ O zBt O) O<|B 25 O (fun g4_6=>Q O one9 O qA O) O<|M O (fun g4_6=>w O O) O<|rLz [(26,_),(27,_)] O gv1 ⟨O,O,O,O,T⟩ (fun g4_6=>yM O O O) O<|kD O (fun h=>h)<|H<|zD O (fun c2=>?_) (fun c2=>?_)
  ·refine F O<|A O<|zR O (qW O L zr3 O O O O)<|A O<|A O<|H<|o<|p (N O) (N O) ?_
   rw [fnd_1 hs hp c2];rfl
  ·have c2:¬isLoop t s=true:=by rw [show isLoop t s=false from c2];simp
   refine zH<|F O<|A O<|A O<|qD O K (by omega) (kZ hs)<|qS O kN<|zK kM qA O<|A O<|qG O ok76 (ih s (zZ hs)) ⟨G,O,G,O,T⟩<|qN O<|qU O<|qU O<|A O<|A O<|H<|F O<|A O<|H<|zD O (fun c3=>?_) (fun c3=>?_)
   ·try simp only [I] at c3
    refine F O<|A O<|zU O O (zCm O L zr3 O O O O) ?_
    rintro _ _ ⟨sv1,rfl,rfl⟩
    refine A O<|zU O O (yU 0 O L O O O (by simp only [List.length_map,List.length_append,List.length_cons,List.length_nil,List.length_take,List.length_drop];omega) (by simp only [List.length_map,List.length_append,List.length_cons,List.length_nil,List.length_take,List.length_drop];omega)) ?_
    rintro _ _ ⟨sv2,rfl,rfl⟩
    refine yJ _ (yY 0 O (regs':=[(46,_)]) (μ':=[]) ⟨FLe.sl,T⟩ T)<|A O<|A O<|H<|o<|p (N O) (N O) ?_
    rw [fnd_2 hs hp c2 c3];rfl
   ·try simp only [I] at c3
    refine zH<|zT O<|A O<|qK O ⟨by omega,by omega⟩<|A O<|H ?_
    refine ⟨k+1,⟨by omega,fnd_0 hs hp c2 (by simpa using c3)⟩,(by omega),Weak.mk [] ⟨G,G,G,T⟩ O⟩
 ·try simp only [I] at c1
  refine qQ<|F O<|qX 1 O<|A O<|H<|o<|p (N O) (N O) ?_
  rw [fndL_end hp (by omega)];rfl
theorem zPf (t:ByteArray) (s:St) (hl:stsWt s.Body<=536870912):Pur cfg 76 [vSts s.Body,vS t] (.tup [vIs ((fndL t 0 s.Body).getD []),vB (fndL t 0 s.Body).isSome]):=by
  induction s using St.ind with
  |_ s ih=>exact zGv t s.Body hl fun a ha=>ih a ha (by have:=yG ha;have:=St.body_wt a;omega)
theorem ref30_find (t:ByteArray) (l:List St) (hl:stsWt l<=536870912):Pur cfg 76 [vSts l,vS t] (.tup [vIs ((fndL t 0 l).getD []),vB (fndL t 0 l).isSome]):=
  zGv t l hl fun s hs=>zPf t s (by have:=yG hs;have:=St.body_wt s;omega)
theorem ref30_Find (n:Ns) (t:ByteArray) (hl:stsWt n.Body<=536870912):
    Pur cfg 28 [vNs n,vS t] (.tup [vIs ((findN n.Body t).getD []),vB (findN n.Body t).isSome]):=by
 refine zQ Tryz.func28 O Tryz.ntmps28 Tryz.results28 O ?_
 intro z hz
 refine F O<|zU O O (qL O O) ?_
 rintro _ _ ⟨b1,rfl,rfl⟩
 refine qX 1 O<|A O<|H<|F O<|zJ O wO<|zK kM (R 0 O) O<|A O<|qG O ok76 (ref30_find t n.Body hl) ⟨G,O,G,O,T⟩<|qU O<|qU O<|A O<|A O<|H<|o<|p (N O) (N O) ?_
 rw [zEu]
theorem ref30_At (n:Ns) (way:List Int) (hw:way.length<=1073741824):
    Pur cfg 29 [vNs n,vIs way] (.tup [vSt (atT n.Body way).1,vB (atT n.Body way).2]):=by
 refine zQ Tryz.func29 O Tryz.ntmps29 Tryz.results29 O ?_
 intro z hz
 refine F O<|zU O O (qL O O) ?_
 rintro _ _ ⟨b1,rfl,rfl⟩
 refine zU O O (qC [none,none,none,none,none,some 4,none,none,none,none,none,none,none,none,none,none,some 2,some 4,some 13,some 20] O d O) ?_
 rintro _ _ ⟨b2,rfl,rfl⟩
 refine A O<|H<|F O<|zJ O wO<|zK kM (R 1 O) O<|A O<|H<|F O<|qV [none,none,none,none,none,some 4,none,none,none,none,none,none,none,none,none,none,some 2,some 4,some 13,some 20] O d pl46<|zU O O (qC [none,none,none,none,none,some 4,none,none,none,none,none,none,none,none,none,none,some 2,some 4,some 13,some 20] O d O) ?_
 rintro _ _ ⟨b3,rfl,rfl⟩
 refine D 0 sz46 O<|H<|zI<|F O<|A O<|H<|zS<|zV ⟨[(8,.c _),(6,.c _),(1,.c _),(4,.c _),(7,.c _)],[_,_]⟩ (Weak.mk [true,true,false] ⟨G,G,G,G,G,T⟩ O)<|qO 2 1 O O (Nat×List St×St) (fun ⟨k,lc,s0⟩=>[(8,vI k),(6,vSts lc)]) (fun ⟨k,lc,s0⟩=>[E.row b3 46 s0.cs]) (fun ⟨k,lc,s0⟩=>k<=way.length/\(atF way n.Body zSt=atF (way.drop k) lc s0)) (fun ⟨k,lc,s0⟩=>way.length-k) ⟨⟨0,n.Body,zSt⟩,⟨by omega,O⟩,Weak.mk [true,true] ⟨G,G,G,G,G,T⟩ O⟩ ?_
 rintro ⟨k,lc,s0⟩ ⟨hk,hp⟩
 show AWP _ _ _ _ _ ⟨[(8,vI k),(6,vSts lc)]++_,[E.row b3 46 s0.cs]++_⟩
 refine zI<|F O<|A O<|A O<|qB O L<|yN O<|H<|zD O (fun c1=>?_) (fun c1=>?_)
 ·try simp only [I] at c1
  obtain ⟨i,hi⟩:=qZ way k (by omega)
  refine zH<|zI<|zS<|zI<|F O<|A O<|A O<|qD O L (by omega) (v (by assumption))<|zK J qA O<|yN O<|A O<|M O (fun g6_5=>w O O) O<|M O (fun g6_5=>w O O) O<|rLz [(24,_),(25,_)] O gv1 ⟨O,O,O,O,T⟩ (fun g6_5=>qE O L O O (by omega) (v (by assumption))) O<|B 26 O (fun g6_5=>Q O J O qA O) O<|M O (fun g6_5=>w O O) O<|B 28 O (fun g6_5=>yE O K O) O<|rLz [(27,_),(29,_)] O gv1 ⟨O,O,O,O,T⟩ (fun g6_5=>wK O O O) O<|j O (fun h=>(lzf h))<|H<|zD O (fun c2=>?_) (fun c2=>?_)
  ·try simp only [I] at c2
   refine F O<|qV [none,none,none,none,none,some 4,none,none,none,none,none,none,none,none,none,none,some 2,some 4,some 13,some 20] O d pl46<|D 1 sz46 O<|A O<|H<|o<|p (y zBw O (R 1 O) O) (N O) ?_
   have e:atT n.Body way=(zSt,false):=by unfold atT;split;rfl;exact atF_no hi hp (by omega)
   rw [e];rfl
  ·try simp only [I] at c2
   have hs:=zLs (l:=lc) (i:=i) (by omega)
   refine zH<|F O<|A O<|A O<|A O<|qD O L (by omega) (v (by assumption))<|zK J qA O<|qD O K (by omega) (kZ hs)<|zO zBw qA O<|D 0 sz46 O<|H<|zT O<|zJ O kN<|zK kM (R 0 O) O<|A O<|H<|zT O<|A O<|qK O ⟨by omega,by omega⟩<|A O<|H ?_
   refine ⟨⟨k+1,(lc.getD i.toNat zSt).Body,(lc.getD i.toNat zSt)⟩,⟨by omega,atF_next hi hp (by omega)⟩,(by show way.length-(k+1)<way.length-k;omega),Weak.mk [true,true] ⟨G,G,G,G,G,T⟩ O⟩
 ·try simp only [I] at c1
  have hwe:way=[]∨0<way.length:=by cases way;exact .inl rfl;exact .inr (by simp)
  refine qQ<|F O<|zO zBw (R 0 O) O<|A O<|qB O L<|zR O (yW O O O)<|D 1 sz46 O<|A O<|H<|o<|p (y zBw O (R 1 O) O) (N O) ?_
  have e:atT n.Body way=(s0,decide ((0:Int)<way.length)):=by
    unfold atT
    have e0:=atF_end hp (by omega)
    rcases hwe with h|h
    · subst h
      have e1:zSt=s0:=congrArg Prod.fst e0
      rw [if_pos rfl,e1];rfl
    · rw [if_neg (by intro h2;rw [h2] at h;simp at h),e0,decide_eq_true (by omega)]
  rw [e];rfl
end Go.W
