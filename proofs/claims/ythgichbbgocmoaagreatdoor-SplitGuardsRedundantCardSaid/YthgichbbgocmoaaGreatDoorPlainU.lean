/-
  The guards that the program removes are those that the reference removes (36.4),in plain Lean.
  Redundant guards hold wherever they can be evaluated,so a run that succeeds ends with the same memory without them (36.5),in plain Lean.
  What the walk of a run needs: places of elements,memory that fits a nest,operands of valid expressions,in plain Lean.
  Steps of a run,case by case,as the walk of the reference's run needs them; the law on redundant guards,in plain Lean.
  Conditions: none.
-/
import Derived.Test.YthgichbbgocmoaaGreatDoorWalkS
import Derived.Test.YthgichbbgocmoaaGreatDoorPlain3
import Derived.Test.YthgichbbgocmoaaGreatDoorPlain2
import Derived.Test.YthgichbbgocmoaaGreatDoorPlainT
import Derived.Test.YthgichbbgocmoaaGreatDoorPlain
set_option linter.unusedSimpArgs false
set_option linter.unusedVariables false
section
set_option maxRecDepth 10000
namespace Go.W
open Go Go.Eng Go.Proofs Go.L41 Go.Br
/-! The reference's removal of guards. -/
def mL (A:List Bd) (s:ByteArray):Int:=A.foldl (fun v d=>if d.Name=s then d.Val else v) 0
theorem valB_app (A:List Bd) (z:Bd) (s:ByteArray):mL (A++[z]) s=if z.Name=s then z.Val else mL A s:=by
  unfold mL;rw [List.foldl_append];rfl
def rH (A:List Bd):List Mono->Int->Int×Bool
  |[],lo=>(lo,true)
  |x::r,lo=>if 0<x.By then rH A r lo else if (bM x.By (w64 (mL A x.Name-1))).2=true/\(mC lo (bM x.By (w64 (mL A x.Name-1))).1).2=true then rH A r (mC lo (bM x.By (w64 (mL A x.Name-1))).1).1 else (0,false)
def vU (A:List Bd) (o:Int) (a b:Ex):Bool:=
  if (((!decide (o=13)&& !decide (o=14))|| !decide (a.Op=2))|| !decide (b.Op=2))=true then false
  else if (bF a.Lin (-1)).2=0/\(fX b.Lin (bF a.Lin (-1)).1).2=0 then
    (rH A (fX b.Lin (bF a.Lin (-1)).1).1.L (fX b.Lin (bF a.Lin (-1)).1).1.K).2&&(decide (1<=(rH A (fX b.Lin (bF a.Lin (-1)).1).1.L (fX b.Lin (bF a.Lin (-1)).1).1.K).1)||(decide ((rH A (fX b.Lin (bF a.Lin (-1)).1).1.L (fX b.Lin (bF a.Lin (-1)).1).1.K).1=0)&&decide (o=14)))
  else false
mutual
def nL (A:List Bd):Ex->Bool
  |.mk o _ _ _ _ _ Q=>if o=16 then (tP A Q).getD 0 false&&(tP A Q).getD 1 false else vU A o (Q.getD 0 zEx) (Q.getD 1 zEx)
def tP (A:List Bd):List Ex->List Bool
  |[]=>[]
  |a::r=>nL A a::tP A r
end
theorem zVg (A:List Bd):∀l:List Ex,tP A l=l.map (nL A)
  |[]=>by rw [tP];rfl
  |a::r=>by rw [tP,zVg A r];rfl
theorem plusT_r (x y:Int):r64 (mC x y).1:=by
  unfold mC
  split
  · next h=>exact h
  · show r64 0;unfold r64;omega
mutual
def pK:List Bd->St->List St×Nat
  |A,.mk o nm mn mk fo i e b=>
    if o=4/\nL A e=true then ((fT (if o=1 then A++[⟨nm,mn⟩] else A) b).1,(fT (if o=1 then A++[⟨nm,mn⟩] else A) b).2+1)
    else ([.mk o nm mn mk fo i e (fT (if o=1 then A++[⟨nm,mn⟩] else A) b).1],(fT (if o=1 then A++[⟨nm,mn⟩] else A) b).2)
def fT:List Bd->List St->List St×Nat
  |_,[]=>([],0)
  |A,s::r=>((pK A s).1++(fT A r).1,(pK A s).2+(fT A r).2)
end
def nT (A:List Bd) (s:St):List Bd:=if s.Op=1 then A++[⟨s.Name,s.Many⟩] else A
theorem zPd {A:List Bd} {s:St} (h:s.Op=4/\nL A s.E=true):pK A s=((fT (nT A s) s.Body).1,(fT (nT A s) s.Body).2+1):=by
  cases s;rw [pK];exact if_pos h
theorem zLb {A:List Bd} {s:St} (h:¬(s.Op=4/\nL A s.E=true)):pK A s=([lB s (fT (nT A s) s.Body).1],(fT (nT A s) s.Body).2):=by
  cases s;rw [pK];exact if_neg h
def cR (n:Ns):Ns×Int:=if (bJ n).2=0 then (⟨n.Bufs,(fT [] n.Body).1⟩,((fT [] n.Body).2:Nat)) else (zNs,0)
theorem remR_1 {n:Ns} (h:¬(bJ n).2=0):cR n=(zNs,0):=by unfold cR;rw [if_neg h]
theorem remR_2 {n:Ns} (h:(bJ n).2=0):cR n=((⟨n.Bufs,(fT [] n.Body).1⟩:Ns),(((fT [] n.Body).2:Nat):Int)):=by unfold cR;rw [if_pos h]
end Go.W
end
section
set_option maxRecDepth 10000
namespace Go.W
open Go Go.Eng Go.Proofs Go.L41 Go.Br
theorem mget_put' {m:MM} (k s:ByteArray) (a:Int):jA (lL m k a) s=if k=s then some a else jA m s:=by
  induction m with
  |nil=>rfl
  |cons x r ih=>
    obtain ⟨k',b⟩:=x
    rw [lL]
    by_cases c:k'=k
    · rw [if_pos c,jA,jA,c]
      by_cases d:k=s
      · rw [if_pos d,if_pos d]
      · rw [if_neg d,if_neg d,if_neg d]
    · rw [if_neg c,jA,ih,jA]
      by_cases d:k'=s
      · rw [if_pos d,if_pos d,if_neg (fun e=>c (d.trans e.symm))]
      · rw [if_neg d,if_neg d]
/-! ## Sums that may be too large -/
theorem times_over {b c q:Int} (hb:r64 b) (hq:q=b*c) (hc:0<c) (hc2:c<=65535) (h:¬r64 q):¬w64 (Int.tdiv (w64 q) c)=b:=by
  intro e
  rw [hq] at e h
  exact h (tdiv_back hb uH zA zA e)
theorem plus_yes {lo b c:Int} (hb:r64 b) (hn:b<0) (hlo:r64 lo) (hc:0<=c) (hc2:c<=65535) (h:(bM b c).2=true/\(mC lo (bM b c).1).2=true):lM lo b c=((mC lo (bM b c).1).1,true):=by
  by_cases c0:c=0
  · subst c0
    have e:bM b 0=(0,true):=by unfold bM;rw [Int.mul_zero,if_pos uH]
    rw [e] at h⊢
    rw [plusT_1 h.2]
    unfold lM
    rw [if_pos rfl];simp
  · obtain ⟨q,hq⟩:∃q,q=b*c:=⟨_,rfl⟩
    have hq0:q<0:=by rw [hq];exact Int.mul_neg_of_neg_of_pos hn zA
    have hr:r64 q:=by
      by_cases k:r64 q
      · exact k
      · rw [hq] at k;unfold bM at h;rw [if_neg k] at h;cases h.1
    have e:bM b c=(q,true):=by unfold bM;rw [←hq,if_pos hr]
    rw [e] at h⊢
    rw [plusT_1 h.2]
    have hs:r64 (lo+q):=by have:=h.2;rw [plusT_2] at this;simpa using this
    unfold lM
    rw [if_neg c0,←hq,zIx hr,if_pos (by rw [hq,Int.mul_tdiv_cancel b c0,zIx hb]),zIx hs]
    rw [decide_eq_true zA]
theorem plus_no {lo b c:Int} (hb:r64 b) (hn:b<0) (hlo:r64 lo) (hc:0<=c) (hc2:c<=65535) (h:¬((bM b c).2=true/\(mC lo (bM b c).1).2=true)):(lM lo b c).2=false:=by
  by_cases c0:c=0
  · subst c0
    have e:bM b 0=(0,true):=by unfold bM;rw [Int.mul_zero,if_pos uH]
    rw [e] at h
    exact absurd ⟨O,by rw [plusT_2];simpa using hlo⟩ h
  · obtain ⟨q,hq⟩:∃q,q=b*c:=⟨_,rfl⟩
    have hq0:q<0:=by rw [hq];exact Int.mul_neg_of_neg_of_pos hn zA
    unfold lM
    rw [if_neg c0,←hq]
    by_cases hr:r64 q
    · have e:bM b c=(q,true):=by unfold bM;rw [←hq,if_pos hr]
      rw [e,plusT_2] at h
      have hs:¬r64 (lo+q):=fun k=>h ⟨rfl,by simpa using k⟩
      rw [zIx hr,if_pos (by rw [hq,Int.mul_tdiv_cancel b c0,zIx hb])]
      show decide (w64 (lo+q)<lo)=false
      rw [decide_eq_false_iff_not,zUb]
      unfold r64 at *
      omega
    · rw [if_neg (times_over hb hq zA hc2 hr)]
theorem lowF_false (m:MM):∀(l:List Mono) (lo:Int),nB m l lo false=(lo,false)
  |[],lo=>rfl
  |x::r,lo=>by rw [nB,if_neg uD,lowF_false m r lo]
def scM (m:MM) (A:List Bd) (t:ByteArray):Prop:=jA m t=some (mL A t)/\1<=mL A t/\mL A t<=65536
theorem low_eq {m:MM} {A:List Bd}:∀(l:List Mono) (lo:Int),r64 lo->(∀x,x∈l->r64 x.By)->(∀x,x∈l->scM m A x.Name)->(nB m l lo true).2=(rH A l lo).2/\((rH A l lo).2=true->(nB m l lo true).1=(rH A l lo).1)
  |[],lo,_,_,_=>⟨rfl,fun _=>rfl⟩
  |x::r,lo,hlo,hb,hs=>by
    have ih:=fun lo' (h:r64 lo')=>low_eq (m:=m) (A:=A) r lo' h (fun y hy=>hb y (by simp [hy])) (fun y hy=>hs y (by simp [hy]))
    have hbx:=hb x uD
    obtain ⟨h1,h2,h3⟩:=hs x uD
    rw [nB,rH]
    by_cases c:0<x.By
    · rw [if_neg zA,if_pos c];exact ih lo hlo
    · rw [if_neg c]
      have e:w64 ((jA m x.Name).getD 0-1)=w64 (mL A x.Name-1):=by rw [h1];rfl
      have e2:w64 (mL A x.Name-1)=mL A x.Name-1:=zIx uH
      by_cases c0:x.By=0
      · rw [if_neg zA]
        have e3:bM x.By (w64 (mL A x.Name-1))=(0,true):=by rw [c0];unfold bM;rw [Int.zero_mul,if_pos uH]
        have e4:mC lo 0=(lo,true):=by unfold mC;rw [Int.add_zero,if_pos hlo]
        rw [e3,e4,if_pos ⟨rfl,rfl⟩]
        exact ih lo hlo
      · rw [if_pos ⟨zA,rfl⟩,e,e2]
        by_cases k:(bM x.By (mL A x.Name-1)).2=true/\(mC lo (bM x.By (mL A x.Name-1)).1).2=true
        · rw [if_pos k,plus_yes hbx zA hlo zA zA k]
          exact ih _ (plusT_r _ _)
        · rw [if_neg k,plus_no hbx zA hlo zA zA k,lowF_false]
          exact ⟨O,fun h=>by cases h⟩
/-! ## Names of sums -/
theorem zOm {sc:List ByteArray} {l:Lf} (h:gN sc l=true) {x:Mono} (hx:x∈l.L):dD sc x.Name=true:=by
  unfold gN at h;exact List.all_eq_true.1 h x hx
theorem zL_in (sc:List ByteArray):gN sc zL=true:=rfl
theorem scale_in {sc:List ByteArray} {l:Lf} (h:gN sc l=true) (b:Int):gN sc (bF l b).1=true:=by
  unfold bF
  split
  · split
    · exact zL_in sc
    · split
      · unfold gN jQ
        rw [List.all_eq_true]
        intro y hy
        obtain ⟨x,hx,rfl⟩:=List.mem_map.1 hy
        show dD sc x.Name=true
        exact zOm h hx
      · exact zL_in sc
  · exact zL_in sc
theorem add_in {sc:List ByteArray} {a b:Lf} (ha:gN sc a=true) (hb:gN sc b=true):gN sc (fX a b).1=true:=by
  unfold fX
  split
  · unfold rU
    split
    · unfold gN
      rw [List.all_eq_true]
      intro y hy
      unfold nZ at hy
      obtain ⟨t,ht,e⟩:=List.mem_filterMap.1 hy
      split at e
      · cases e
      · injection e with e
        rw [←e]
        rcases zDw _ _ _ (Nat.le_refl _) t ht with ⟨x,hx,k⟩|⟨x,hx,k⟩
        · show dD sc t.1=true;rw [←k];exact zOm ha hx
        · show dD sc t.1=true;rw [←k];exact zOm hb hx
    · exact zL_in sc
  · exact zL_in sc
/-! ## Conditions -/
theorem leaf_eq {m:MM} {A:List Bd} {sc:List ByteArray} (hI:∀t,dD sc t=true->scM m A t) (o:Int) {a b:Ex} (ha:gN sc a.Lin=true) (hb:gN sc b.Lin=true):pG m o a b=vU A o a b:=by
  unfold pG vU
  by_cases c:(((!decide (o=13)&& !decide (o=14))|| !decide (a.Op=2))|| !decide (b.Op=2))=true
  · rw [if_pos c,if_pos c]
  · rw [if_neg c,if_neg c]
    by_cases c1:(bF a.Lin (-1)).2=0
    · by_cases c2:(fX b.Lin (bF a.Lin (-1)).1).2=0
      · rw [if_pos c1,if_pos c2,if_pos ⟨c1,c2⟩]
        have hd:=add_in hb (scale_in ha (-1))
        obtain ⟨hdr,_⟩:=add_rng b.Lin (bF a.Lin (-1)).1
        generalize (fX b.Lin (bF a.Lin (-1)).1).1=d at *
        obtain ⟨h1,h2⟩:=low_eq (m:=m) (A:=A) d.L d.K hdr.1 hdr.2 (fun x hx=>hI _ (zOm hd hx))
        rw [h1]
        cases k:(rH A d.L d.K).2 with
        |false=>rfl
        |true=>rw [h2 k]
      · rw [if_pos c1,if_neg c2,if_neg (fun h=>c2 h.2)]
    · rw [if_neg c1,if_neg (fun h=>c1 h.1)]
theorem getD_in {P:Ex->Prop} {l:List Ex} (h:∀a,a∈l->P a) (hz:P zEx) (k:Nat):P (l.getD k zEx):=by
  rw [List.getD_eq_getElem?_getD]
  cases e:l[k]? with
  |none=>exact hz
  |some a=>exact h a (qA e)
theorem red_eq {m:MM} {A:List Bd} {sc:List ByteArray} (hI:∀t,dD sc t=true->scM m A t) (e:Ex):(∀x,x∈bW e->gN sc x.Lin=true)->nM m e=nL A e:=by
  induction e using Ex.ind with
  |_ e ih=>
    intro h
    have ha:∀a,a∈e.Args->gN sc a.Lin=true:=fun a ha=>h a (by rw [kT];exact List.mem_cons_of_mem _ (zEp ha (by rw [kT];simp)))
    have hm:e.Args.map (nM m)=e.Args.map (nL A):=List.map_congr_left fun a ha=>ih a ha fun x hx=>h x (by rw [kT];exact List.mem_cons_of_mem _ (zEp ha hx))
    cases e with
    |mk o n v t l i Q=>
      rw [nM,nL,redL_map,zVg]
      simp only [Ex.Args] at hm ha
      rw [hm,leaf_eq hI o (getD_in (P:=fun a=>gN sc a.Lin=true) ha rfl 0) (getD_in (P:=fun a=>gN sc a.Lin=true) ha rfl 1)]
/-! ## Statements -/
theorem stE_syn {B:List Bf} {U sc:List ByteArray} {s:St} (h:stE B U sc s=0):fG s=true:=by
  cases c:fG s with
  |true=>rfl
  |false=>rw [stE_5 c] at h;cases h
theorem zSq {B:List Bf} {U sc:List ByteArray} {s:St} (h:stE B U sc s=0) (ho:s.Op=1):dD U s.Name=false/\1<=s.Many/\s.Many<=65536:=by
  obtain ⟨_,_,h1,h2,_⟩:=loop_facts h ho
  rw [stE_l (stE_syn h) ho] at h
  unfold nF at h
  refine ⟨?_,h1,h2⟩
  cases k:dD U s.Name with
  |false=>rfl
  |true=>
    exfalso
    by_cases q:bD s.Name=true
    · rw [if_pos q,if_pos (.inr k)] at h;exact absurd h zB
    · rw [if_neg q] at h;exact absurd h zB
theorem zSr {B:List Bf} {U sc:List ByteArray} {s:St} (h:stE B U sc s=0) (ho:s.Op=4):fY s.E=0/\dG B sc (bW s.E)=0:=by
  have hs:=stE_syn h
  unfold stE at h
  rw [if_pos hs,if_neg zA,if_pos ho] at h
  unfold ifE at h
  split at h
  · next c=>
    by_cases h1:fY s.E=0
    · refine ⟨h1,?_⟩
      by_cases h2:dG B sc (bW s.E)=0
      · exact h2
      · rw [zWo h1 h2] at c;exact absurd c h2
    · rw [zWp h1] at c;exact absurd c h1
  · next c=>exact absurd h c
theorem nodes_in {B:List Bf} {sc:List ByteArray} {e:Ex} (h:dG B sc (bW e)=0):∀x,x∈bW e->gN sc x.Lin=true:=fun x hx=>by
  have h1:=zQg.1 h x hx
  unfold jG at h1
  split at h1
  · next c=>unfold lD at c;rw [Bool.and_eq_true] at c;exact c.1
  · cases h1
theorem ungS_2 (m:MM) (s:St):(lT m s).2=(bK (mIn m s) s.Body).2:=by
  by_cases h:s.Op=4/\nM (bK (mIn m s) s.Body).2 s.E=true
  · rw [zSj h]
  · rw [zUf h]
theorem hasB_nextU {U:List ByteArray} (s:St) {t:ByteArray} (h:dD U t=true):dD (gE U s) t=true:=by
  unfold gE;split
  · rw [zTc,h,Bool.true_or]
  · exact h
theorem zHp {B:List Bf} {U sc:List ByteArray} {here:List Int} {s:St} (h:(gV B U sc here s).E=0):stE B U sc s=0/\gV B U sc here s=bP B (gE U s) (gE sc s) here 0 s.Body:=by
  by_cases c:stE B U sc s=0
  · exact ⟨c,zXi c⟩
  · rw [chkS_no c] at h;exact absurd h c
theorem zEf {B:List Bf} {U sc:List ByteArray} {way:List Int} {i:Int} {s:St} {r:List St} (h:(bP B U sc way i (s::r)).E=0):(gV B U sc (way++[i]) s).E=0/\bP B U sc way i (s::r)=bP B (gV B U sc (way++[i]) s).U sc way (i+1) r:=by
  rw [bP] at h⊢
  by_cases c:(gV B U sc (way++[i]) s).E=0
  · rw [if_pos c];exact ⟨c,rfl⟩
  · rw [if_neg c] at h;exact absurd h c
mutual
theorem ungS_fr (B:List Bf):∀(s:St) (U sc:List ByteArray) (here:List Int) (m:MM),(gV B U sc here s).E=0->∀t,dD U t=true->dD (gV B U sc here s).U t=true/\jA (lT m s).2 t=jA m t
  |.mk o nm mn mk fo i e b,U,sc,here,m,h,t,ht=>by
    obtain ⟨h1,h2⟩:=zHp h
    rw [h2] at h⊢
    rw [ungS_2]
    obtain ⟨h3,h4⟩:=ungL_fr B b _ _ here 0 (mIn m (.mk o nm mn mk fo i e b)) h t (hasB_nextU _ ht)
    refine ⟨h3,h4.trans ?_⟩
    unfold mIn
    split
    · next c=>
      rw [mget_put',if_neg (fun k=>?_)]
      have:=(zSq h1 c).1
      rw [k,ht] at this;cases this
    · rfl
theorem ungL_fr (B:List Bf):∀(l:List St) (U sc:List ByteArray) (way:List Int) (i:Int) (m:MM),(bP B U sc way i l).E=0->∀t,dD U t=true->dD (bP B U sc way i l).U t=true/\jA (bK m l).2 t=jA m t
  |[],U,sc,way,i,m,h,t,ht=>by rw [bP,bK];exact ⟨ht,rfl⟩
  |s::r,U,sc,way,i,m,h,t,ht=>by
    obtain ⟨h1,h2⟩:=zEf h
    rw [h2] at h⊢
    obtain ⟨h3,h4⟩:=ungS_fr B s U sc _ m h1 t ht
    obtain ⟨h5,h6⟩:=ungL_fr B r _ sc way (i+1) (lT m s).2 h t h3
    rw [bK]
    exact ⟨h5,h6.trans h4⟩
end
structure InvM (m:MM) (A:List Bd) (sc U:List ByteArray):Prop where
  val:∀t,dD sc t=true->scM m A t
  sub:∀t,dD sc t=true->dD U t=true
theorem inv_in {B:List Bf} {m:MM} {A:List Bd} {sc U:List ByteArray} {s:St} (h:InvM m A sc U) (hs:stE B U sc s=0):InvM (mIn m s) (nT A s) (gE sc s) (gE U s):=by
  unfold mIn nT gE
  by_cases c:s.Op=1
  · rw [if_pos c,if_pos c,if_pos c,if_pos c]
    obtain ⟨h1,h2,h3⟩:=zSq hs c
    refine ⟨fun t ht=>?_,fun t ht=>?_⟩
    · unfold scM
      rw [mget_put',valB_app]
      by_cases k:s.Name=t
      · rw [if_pos k,if_pos k];exact ⟨rfl,h2,h3⟩
      · rw [if_neg k,if_neg k]
        rw [zTc,hasB_cons,decide_eq_false k] at ht
        exact h.val t (by simpa [dD] using ht)
    · rw [zTc,Bool.or_eq_true] at ht⊢
      rcases ht with ht|ht
      · exact .inl (h.sub t ht)
      · exact .inr ht
  · rw [if_neg c,if_neg c,if_neg c,if_neg c];exact h
mutual
theorem ungS_clr (B:List Bf):∀(s:St) (U sc:List ByteArray) (here:List Int) (m:MM) (A:List Bd),(gV B U sc here s).E=0->InvM m A sc U->(lT m s).1=pK A s
  |.mk o nm mn mk fo i e b,U,sc,here,m,A,h,hI=>by
    obtain ⟨h1,h2⟩:=zHp h
    rw [h2] at h
    have ih:=ungL_clr B b _ _ here 0 (mIn m (.mk o nm mn mk fo i e b)) (nT A (.mk o nm mn mk fo i e b)) h (inv_in hI h1)
    by_cases ho:o=4
    · have em:mIn m (.mk o nm mn mk fo i e b)=m:=if_neg (by show ¬o=1;omega)
      have eU:gE U (.mk o nm mn mk fo i e b)=U:=if_neg (by show ¬o=1;omega)
      have es:gE sc (.mk o nm mn mk fo i e b)=sc:=if_neg (by show ¬o=1;omega)
      have fr:=ungL_fr B b _ _ here 0 m h
      rw [eU] at fr
      have hg:nM (bK (mIn m (.mk o nm mn mk fo i e b)) b).2 e=nL A e:=red_eq (sc:=sc) (fun t ht=>by
        have:=hI.val t ht
        unfold scM at this⊢
        rw [em,(fr t (hI.sub t ht)).2];exact this) e (nodes_in (zSr h1 ho).2)
      by_cases hr:nL A e=true
      · rw [zSj (s:=.mk o nm mn mk fo i e b) ⟨ho,hg.trans hr⟩,zPd (s:=.mk o nm mn mk fo i e b) ⟨ho,hr⟩]
        show ((bK _ b).1.1,(bK _ b).1.2+1)=_
        rw [ih];rfl
      · rw [zUf (s:=.mk o nm mn mk fo i e b) (fun k=>hr (hg.symm.trans k.2)),zLb (s:=.mk o nm mn mk fo i e b) (fun k=>hr k.2)]
        show ([lB _ (bK _ b).1.1],(bK _ b).1.2)=_
        rw [ih];rfl
    · rw [zUf (s:=.mk o nm mn mk fo i e b) (fun k=>ho k.1),zLb (s:=.mk o nm mn mk fo i e b) (fun k=>ho k.1)]
      show ([lB _ (bK _ b).1.1],(bK _ b).1.2)=_
      rw [ih];rfl
theorem ungL_clr (B:List Bf):∀(l:List St) (U sc:List ByteArray) (way:List Int) (i:Int) (m:MM) (A:List Bd),(bP B U sc way i l).E=0->InvM m A sc U->(bK m l).1=fT A l
  |[],U,sc,way,i,m,A,h,hI=>by rw [bK,fT]
  |s::r,U,sc,way,i,m,A,h,hI=>by
    obtain ⟨h1,h2⟩:=zEf h
    rw [h2] at h
    have fr:=ungS_fr B s U sc _ m h1
    rw [bK,fT,ungS_clr B s U sc _ m A h1 hI,ungL_clr B r _ sc way (i+1) (lT m s).2 A h ⟨fun t ht=>by
      have:=hI.val t ht
      unfold scM at this⊢
      rw [(fr t (hI.sub t ht)).2];exact this,fun t ht=>(fr t (hI.sub t ht)).1⟩]
end
theorem rem_eq {n:Ns} (h:(bJ n).2=0):(bK [] n.Body).1=fT [] n.Body:=
  ungL_clr n.Bufs n.Body [] [] [] 0 [] [] (zMl h).2.2.2 ⟨fun t ht=>by simp [dD] at ht,fun t ht=>by simp [dD] at ht⟩
theorem rem_is (n:Ns):pV n=cR n:=by
  by_cases h:(bJ n).2=0
  · rw [remT_2 h,remR_2 h,rem_eq h]
  · rw [remT_1 h,remR_1 h]
/-! ## The conditions of a valid nest have two operands -/
theorem zTi:∀{l:List Ex},jD l=0->∀x,x∈l->bZ x=0
  |y::r,h,x,hx=>by
    rw [jD] at h
    by_cases c:bZ y=0
    · rw [decide_eq_true c,cond_true] at h
      rcases List.mem_cons.1 hx with rfl|hx
      · exact c
      · exact zTi h x hx
    · rw [decide_eq_false c,cond_false] at h;exact absurd h c
theorem valid_ar {e:Ex} (h:fY e=0):arE e=true:=by
  unfold arE
  rw [List.all_eq_true]
  intro x hx
  have h1:=zTi (zDa h) x hx
  obtain ⟨_,_,h2,_⟩:=zGn h1
  unfold mS at h2
  rw [Bool.and_eq_true] at h2
  have h3:(x.Args.length:Int)=bL x.Op:=by
    have:=h2.1
    simp only [Bool.not_eq_true',Bool.or_eq_false_iff,Bool.not_eq_false',decide_eq_true_eq] at this
    exact this.1
  by_cases c:x.Op=13∨x.Op=14∨x.Op=16
  · have h4:bL x.Op=2:=by unfold bL;rw [if_neg zA,if_neg zA,if_neg zA]
    have h5:2<=x.Args.length:=by omega
    simp [h5]
  · have:¬x.Op=13/\¬x.Op=14/\¬x.Op=16:=⟨fun k=>c (.inl k),fun k=>c (.inr (.inl k)),fun k=>c (.inr (.inr k))⟩
    simp [this.1,this.2.1,this.2.2]
mutual
theorem gdS_ok {B:List Bf}:∀(s:St),mP (fun s=>∃U sc,stE B U sc s=0) s->gdS s=true
  |.mk o nm mn mk fo i e b,h=>by
    rw [mP] at h
    obtain ⟨⟨U,sc,h1⟩,h2⟩:=h
    rw [gdS,gdL_ok b h2,Bool.and_true]
    by_cases c:o=4
    · have e1:arE e=true:=valid_ar (zSr h1 c).1
      rw [e1,Bool.or_true]
    · simp [c]
theorem gdL_ok {B:List Bf}:∀(l:List St),dQ (fun s=>∃U sc,stE B U sc s=0) l->gdL l=true
  |[],_=>by rw [gdL]
  |s::r,h=>by
    rw [dQ] at h
    rw [gdL,gdS_ok s h.1,gdL_ok r h.2];rfl
end
theorem gd_valid {n:Ns} (h:(bJ n).2=0):gdL n.Body=true:=gdL_ok n.Body (valid_all h)
end Go.W
end
section
set_option maxRecDepth 10000
namespace Go.W
open Go Go.Eng Go.Proofs Go.L41 Go.Br
/-! ## Bounds -/
def eH (env A:List Bd) (t:ByteArray):Prop:=0<=vlE env t/\vlE env t<=mL A t-1/\mL A t<=65536
def cL (env A:List Bd) (sc:List ByteArray):Prop:=∀t,dD sc t=true->eH env A t
theorem zSn {x y:Int} (h:(bM x y).2=true):(bM x y).1=x*y:=by
  unfold bM at h⊢
  split at h
  · next c=>rw [if_pos c]
  · cases h
theorem low_vl {A env:List Bd}:∀(l:List Mono) (lo:Int),(rH A l lo).2=true->(∀x,x∈l->eH env A x.Name)->(rH A l lo).1<=lo+smM env l
  |[],lo,_,_=>by rw [rH,smM];show lo<=lo+0;omega
  |x::r,lo,h,hb=>by
    obtain ⟨b1,b2,b3⟩:=hb x uD
    have hr:∀y,y∈r->eH env A y.Name:=fun y hy=>hb y (List.mem_cons_of_mem _ hy)
    rw [rH] at h⊢
    rw [smM]
    by_cases c:0<x.By
    · rw [if_pos c] at h⊢
      have ih:=low_vl r lo h hr
      have:0<=x.By*vlE env x.Name:=Int.mul_nonneg zA b1
      omega
    · rw [if_neg c] at h⊢
      have e:w64 (mL A x.Name-1)=mL A x.Name-1:=zIx uH
      rw [e] at h⊢
      by_cases k:(bM x.By (mL A x.Name-1)).2=true/\(mC lo (bM x.By (mL A x.Name-1)).1).2=true
      · rw [if_pos k] at h⊢
        have ih:=low_vl r _ h hr
        rw [plusT_1 k.2,zSn k.1] at ih⊢
        have hm:x.By*(mL A x.Name-1)<=x.By*vlE env x.Name:=Int.mul_le_mul_of_nonpos_left zA zA
        omega
      · rw [if_neg k] at h;cases h
/-! ## Conditions -/
theorem idx_val {mem:List Nmd} {env:List Bd} {a:Ex} (h:a.Op=2) (he:(evE mem env a).v.E=0):
    (evE mem env a).v=⟨⟨vlL env a.Lin,1⟩,iTy,0⟩/\ -2147483647<=vlL env a.Lin/\vlL env a.Lin<=2147483647:=by
  have e0:(evE mem env a).v=lE mem env a:=by
    rw [evE_eq];show nY mem env a _=_;unfold nY;rw [if_pos zA]
  rw [e0] at he⊢
  unfold lE at he⊢
  rw [if_neg zA,if_pos h] at he⊢
  by_cases c:(dE a.Lin env).2=0
  · rw [if_neg (fun k=>k c)] at he⊢
    rw [evalT_vl c] at he⊢
    by_cases c2:2147483647<vlL env a.Lin∨vlL env a.Lin< -2147483647
    · rw [if_pos c2] at he;cases he
    · rw [if_neg c2];exact ⟨rfl,zA,zA⟩
  · rw [if_pos c] at he;exact absurd he c
theorem idx_cmp {x y:Int} (h1: -2147483647<=x/\x<=2147483647) (h2: -2147483647<=y/\y<=2147483647):rO iTy ⟨x,1⟩ ⟨y,1⟩=rZ x y:=by
  have e:∀z:Int,-2147483647<=z/\z<=2147483647->(bV iTy&&bI iTy ⟨z,1⟩)=true:=fun z hz=>by
    show (decide ((1:Int)=1)&&dV z)=true
    unfold dV
    rw [decide_eq_true hz.1,decide_eq_true hz.2];rfl
  unfold rO
  rw [e x h1,e y h2,Bool.and_self,cond_true,Int.mul_one,Int.mul_one]
theorem zTd {α β:Type} (f:α->β):∀(l:List α) (k:Nat) (x:α) (d:β),l[k]? =some x->(l.map f).getD k d=f x:=by
  intro l k x d h
  rw [List.getD_eq_getElem?_getD,List.getElem?_map,h];rfl
theorem getD_op {l:List Ex} {k:Nat} {o:Int} (h:(l.getD k zEx).Op=o) (ho:¬o=0):l[k]? =some (l.getD k zEx):=by
  rw [List.getD_eq_getElem?_getD] at h⊢
  cases e:l[k]? with
  |none=>rw [e] at h;exact absurd h.symm ho
  |some x=>rfl
theorem leaf_hold {mem:List Nmd} {env A:List Bd} {sc:List ByteArray} {e:Ex} (hI:cL env A sc) (hs:∀x,x∈e.Args->gN sc x.Lin=true)
    (hl:vU A e.Op (e.Args.getD 0 zEx) (e.Args.getD 1 zEx)=true) (he:(evE mem env e).h.2=0):(evE mem env e).h.1=true:=by
  unfold vU at hl
  split at hl
  · cases hl
  · next c=>
    simp only [Bool.or_eq_true,Bool.and_eq_true,Bool.not_eq_true',decide_eq_false_iff_not,not_or,not_and,Decidable.not_not] at c
    obtain ⟨⟨c1,ca⟩,cb⟩:=c
    have ga:=getD_op ca zB
    have gb:=getD_op cb zB
    split at hl
    · next k=>
      generalize e.Args.getD 0 zEx=a at *
      generalize e.Args.getD 1 zEx=b at *
      have h0:evE mem env e=⟨nY mem env e (e.Args.map (evE mem env)),rL e (e.Args.map (evE mem env))⟩:=evE_eq mem env e
      rw [h0] at he⊢
      dsimp only at he⊢
      unfold rL at he⊢
      rw [zTd _ _ _ _ _ ga,zTd _ _ _ _ _ gb] at he⊢
      have ho:e.Op=13∨e.Op=14:=by by_cases q:e.Op=13;exact .inl q;exact .inr (c1 q)
      rw [if_neg zA] at he⊢
      by_cases ea:(evE mem env a).v.E=0
      · rw [if_neg (fun q=>q ea)] at he⊢
        by_cases eb:(evE mem env b).v.E=0
        · rw [if_neg (fun q=>q eb)] at he⊢
          obtain ⟨va,a1,a2⟩:=idx_val ca ea
          obtain ⟨vb,b1,b2⟩:=idx_val cb eb
          rw [va,vb] at he⊢
          rw [if_neg (fun q=>q rfl)]
          dsimp only
          rw [idx_cmp ⟨a1,a2⟩ ⟨b1,b2⟩]
          have hd:vlL env (fX b.Lin (bF a.Lin (-1)).1).1=vlL env b.Lin-vlL env a.Lin:=by
            have h1:bF a.Lin (-1)=((bF a.Lin (-1)).1,0):=Prod.ext rfl k.1
            have h2:fX b.Lin (bF a.Lin (-1)).1=((fX b.Lin (bF a.Lin (-1)).1).1,0):=Prod.ext rfl k.2
            rw [add_vl h2,scale_vl h1];omega
          have hin:gN sc (fX b.Lin (bF a.Lin (-1)).1).1=true:=add_in (hs b (qA gb)) (scale_in (hs a (qA ga)) (-1))
          generalize (fX b.Lin (bF a.Lin (-1)).1).1=d at *
          rw [Bool.and_eq_true] at hl
          have hlow:=low_vl d.L d.K hl.1 fun x hx=>hI _ (zOm hin hx)
          have hl2:=hl.2
          rw [Bool.or_eq_true,Bool.and_eq_true,decide_eq_true_eq,decide_eq_true_eq,decide_eq_true_eq] at hl2
          have hv:d.K+smM env d.L=vlL env b.Lin-vlL env a.Lin:=hd
          unfold rZ
          by_cases q:vlL env a.Lin<vlL env b.Lin
          · rw [decide_eq_true q,cond_true,decide_eq_false (show ¬e.Op=15 by omega)];rfl
          · have q2:vlL env a.Lin=vlL env b.Lin:=by omega
            have q3:¬e.Op=13:=by omega
            rw [decide_eq_false q,cond_false,decide_eq_false (show ¬vlL env b.Lin<vlL env a.Lin by omega),cond_false,decide_eq_false q3];rfl
        · rw [if_pos eb] at he;exact absurd he eb
      · rw [if_pos ea] at he;exact absurd he ea
    · cases hl
theorem red_hold {mem:List Nmd} {env A:List Bd} {sc:List ByteArray} (hI:cL env A sc) (e:Ex):(∀x,x∈bW e->gN sc x.Lin=true)->nL A e=true->(evE mem env e).h.2=0->(evE mem env e).h.1=true:=by
  induction e using Ex.ind with
  |_ e ih=>
    intro h hr he
    have ha:∀a,a∈e.Args->a∈bW e:=fun a ha=>by rw [kT];exact List.mem_cons_of_mem _ (zEp ha (by rw [kT];simp))
    have hn:∀a,a∈e.Args->∀x,x∈bW a->gN sc x.Lin=true:=fun a ha x hx=>h x (by rw [kT];exact List.mem_cons_of_mem _ (zEp ha hx))
    by_cases o:e.Op=16
    · have hr2:((e.Args.map (nL A)).getD 0 false&&(e.Args.map (nL A)).getD 1 false)=true:=by
        cases e with
        |mk o' n v t l i Q=>rw [nL,if_pos (show o'=16 from o),zVg] at hr;exact hr
      rw [Bool.and_eq_true,List.getD_eq_getElem?_getD,List.getD_eq_getElem?_getD,List.getElem?_map,List.getElem?_map] at hr2
      cases g0:e.Args[0]? with
      |none=>rw [g0] at hr2;cases hr2.1
      |some a=>
        cases g1:e.Args[1]? with
        |none=>rw [g1] at hr2;cases hr2.2
        |some b=>
          rw [g0,g1] at hr2
          have h0:evE mem env e=⟨nY mem env e (e.Args.map (evE mem env)),rL e (e.Args.map (evE mem env))⟩:=evE_eq mem env e
          rw [h0] at he⊢
          dsimp only at he⊢
          unfold rL at he⊢
          rw [zTd _ _ _ _ _ g0,zTd _ _ _ _ _ g1] at he⊢
          rw [if_pos zA] at he⊢
          by_cases ea:(evE mem env a).h.2=0
          · rw [if_neg (fun q=>q.elim (fun q=>q ea) zA)] at he⊢
            by_cases eb:(evE mem env b).h.2=0
            · rw [if_neg (fun q=>q eb)]
              rw [ih a (qA g0) (hn a (qA g0)) hr2.1 ea,ih b (qA g1) (hn b (qA g1)) hr2.2 eb,decide_eq_true o];rfl
            · rw [if_pos eb] at he;exact absurd he eb
          · rw [if_pos (.inl ea)] at he;exact absurd he ea
    · refine leaf_hold hI (fun x hx=>h x (ha x hx)) ?_ he
      cases e with
      |mk o' n v t l i Q=>rw [nL,if_neg (show ¬o'=16 from o)] at hr;exact hr
/-! ## Runs -/
theorem runL_err {f:Int}:∀{l:List St} {env:List Bd} {s:Rs},¬s.E=0->gJ f l env s=s
  |[],env,s,h=>by rw [gJ]
  |x::r,env,s,h=>by rw [gJ,if_pos h]
theorem runL_app (f:Int):∀(a b:List St) (env:List Bd) (s:Rs),gJ f (a++b) env s=gJ f b env (gJ f a env s)
  |[],b,env,s=>by rw [List.nil_append,gJ]
  |x::r,b,env,s=>by
    rw [List.cons_append,gJ,gJ]
    by_cases h:s.E=0
    · rw [if_neg (fun k=>k h),if_neg (fun k=>k h),runL_app f r b]
    · rw [if_pos h,if_pos h,runL_err h]
theorem runL_one (f:Int) (x:St) (env:List Bd) (s:Rs) (h:s.E=0):gJ f [x] env s=gX f x env s:=by
  rw [gJ,if_neg (fun k=>k h),gJ]
def Nxt (a b:Rs):Prop:=b.Mem=a.Mem/\b.E=0/\b.N<=a.N
theorem step_ok {f:Int} {s:Rs} (h:(dU f s).E=0) (hs:s.E=0):dU f s=⟨s.Mem,s.N+1,0⟩/\s.N<f:=by
  unfold dU at h⊢
  by_cases c:f<=s.N
  · rw [if_pos c] at h;cases h
  · rw [if_neg c,hs];exact ⟨rfl,zA⟩
theorem step_go {f:Int} {s:Rs} (hs:s.E=0) (h:s.N<f):dU f s=⟨s.Mem,s.N+1,0⟩:=by
  unfold dU;rw [if_neg zA,hs]
theorem store_eq (s:Rs) (env:List Bd) (x:St):gD s env x=⟨(gD ⟨s.Mem,0,0⟩ env x).Mem,s.N,(gD ⟨s.Mem,0,0⟩ env x).E⟩:=by
  unfold gD
  dsimp only
  split
  · rfl
  · split
    · rfl
    · split
      · split<;>rfl
      · rfl
theorem store_setB (s:Rs) (env:List Bd) (x:St) (b:List St):gD s env (lB x b)=gD s env x:=by cases x;rfl
theorem vlE_cons (t:ByteArray) (n:ByteArray) (k:Int) (env:List Bd):vlE (⟨n,k⟩::env) t=if n=t then k else vlE env t:=by
  unfold vlE;rw [nD];by_cases c:n=t
  · rw [if_pos c,if_pos c];rfl
  · rw [if_neg c,if_neg c]
theorem inv_turn {env A:List Bd} {sc:List ByteArray} {n:ByteArray} {m:Int} {k:Nat} (h:cL env A sc) (hk:(k:Int)<m) (hm:m<=65536):cL (⟨n,k⟩::env) (A++[⟨n,m⟩]) (sc++[n]):=fun t ht=>by
  unfold eH
  rw [vlE_cons,valB_app]
  by_cases c:n=t
  · rw [if_pos c,if_pos c];dsimp only;omega
  · rw [if_neg c,if_neg c]
    rw [zTc,hasB_cons,decide_eq_false c] at ht
    exact h t (by simpa [dD] using ht)
theorem fold_err {f:Int} {nm:ByteArray} {env:List Bd} {g:List Bd->Rs->Rs}:∀(l:List Nat) {s:Rs},¬s.E=0->l.foldl (hY f nm env g) s=s
  |[],s,h=>rfl
  |k::r,s,h=>by
    have e:hY f nm env g s k=s:=by unfold hY;rw [if_pos h]
    rw [List.foldl_cons,e];exact fold_err r h
theorem fold_sim {f f':Int} (hf:f<=f') {nm:ByteArray} {env:List Bd} {g g':List Bd->Rs->Rs}:∀(l:List Nat) {a b:Rs},
    (∀k,k∈l->∀{a b:Rs},a.E=0->Nxt a b->(g (⟨nm,k⟩::env) a).E=0->Nxt (g (⟨nm,k⟩::env) a) (g' (⟨nm,k⟩::env) b))->a.E=0->Nxt a b->(l.foldl (hY f nm env g) a).E=0->Nxt (l.foldl (hY f nm env g) a) (l.foldl (hY f' nm env g') b)
  |[],a,b,_,_,h,_=>h
  |k::r,a,b,hg,ha,h,he=>by
    rw [List.foldl_cons] at he⊢
    rw [List.foldl_cons]
    by_cases c:(hY f nm env g a k).E=0
    · refine fold_sim hf r (fun j hj=>hg j (List.mem_cons_of_mem _ hj)) c ?_ he
      obtain ⟨h1,h2,h3⟩:=h
      have ea:hY f nm env g a k=if ¬(dU f a).E=0 then dU f a else g (⟨nm,k⟩::env) (dU f a):=by unfold hY;rw [if_neg (fun q=>q ha)]
      have eb:hY f' nm env g' b k=if ¬(dU f' b).E=0 then dU f' b else g' (⟨nm,k⟩::env) (dU f' b):=by unfold hY;rw [if_neg (fun q=>q h2)]
      rw [ea] at c⊢
      rw [eb]
      by_cases d:(dU f a).E=0
      · obtain ⟨d1,d2⟩:=step_ok d ha
        rw [if_neg (fun q=>q d)] at c⊢
        rw [step_go h2 (show b.N<f' by omega),if_neg (fun q=>q rfl)]
        rw [d1] at c⊢
        exact hg k uD O ⟨h1,O,by dsimp only;omega⟩ c
      · rw [if_pos d] at c;exact absurd c d
    · rw [fold_err r c] at he;exact absurd he c
mutual
theorem runS_clr {B:List Bf} {f f':Int} (hf:f<=f'):∀(s:St) (U sc:List ByteArray) (here:List Int) (env A:List Bd) (a b:Rs),(gV B U sc here s).E=0->cL env A sc->a.E=0->Nxt a b->(gX f s env a).E=0->Nxt (gX f s env a) (gJ f' (pK A s).1 env b)
  |.mk o nm mn mk fo i e bd,U,sc,here,env,A,a,b,h,hI,ha,hn,he=>by
    obtain ⟨h1,h2⟩:=zHp h
    rw [h2] at h
    obtain ⟨n1,n2,n3⟩:=hn
    have eS:∀l,lB (.mk o nm mn mk fo i e bd) l=.mk o nm mn mk fo i e l:=fun l=>rfl
    rw [gX] at he⊢
    by_cases o1:o=1
    · rw [if_pos o1] at he⊢
      obtain ⟨_,m1,m2⟩:=zSq h1 o1
      simp only [St.Many] at m1 m2
      have eb:nT A (.mk o nm mn mk fo i e bd)=A++[⟨nm,mn⟩]:=if_pos o1
      have es:gE sc (.mk o nm mn mk fo i e bd)=sc++[nm]:=if_pos o1
      rw [es] at h
      rw [zLb (s:=.mk o nm mn mk fo i e bd) (fun k=>by have:=k.1;simp only [St.Op] at this;omega),eb,runL_one _ _ _ _ n2,eS,gX]
      rw [if_pos o1]
      refine fold_sim hf (List.range mn.toNat) (fun k hk a' b' ha' hn' he'=>?_) ha ⟨n1,n2,n3⟩ he
      have hk2:(k:Int)<mn:=by have:=List.mem_range.1 hk;omega
      exact zNv hf bd _ _ here 0 _ _ a' b' h (inv_turn hI hk2 m2) ha' hn' he'
    · rw [if_neg o1] at he⊢
      by_cases d:(dU f a).E=0
      · obtain ⟨d1,d2⟩:=step_ok d ha
        rw [if_neg (fun q=>q d)] at he⊢
        rw [d1] at he⊢
        have es:gE sc (.mk o nm mn mk fo i e bd)=sc:=if_neg o1
        have eb:nT A (.mk o nm mn mk fo i e bd)=A:=if_neg o1
        by_cases o4:o=4
        · rw [if_pos o4] at he⊢
          rw [es] at h
          by_cases c:(evE a.Mem env e).h.2=0
          · rw [if_neg (fun q=>q c)] at he⊢
            by_cases r:nL A e=true
            · have hh:(evE a.Mem env e).h.1=true:=red_hold hI e (nodes_in (zSr h1 o4).2) r c
              rw [if_pos hh] at he⊢
              rw [zPd (s:=.mk o nm mn mk fo i e bd) ⟨o4,r⟩,eb]
              exact zNv hf bd _ _ here 0 env A _ b h hI O ⟨n1,n2,by dsimp only;omega⟩ he
            · rw [zLb (s:=.mk o nm mn mk fo i e bd) (fun k=>r k.2),eb,runL_one _ _ _ _ n2,eS,gX]
              rw [if_neg o1,step_go n2 (show b.N<f' by omega),if_neg (show ¬ ¬((⟨b.Mem,b.N+1,0⟩:Rs).E=0) from fun q=>q rfl),if_pos o4,n1,if_neg (show ¬ ¬(evE a.Mem env e).h.2=0 from fun q=>q c)]
              by_cases hh:(evE a.Mem env e).h.1=true
              · rw [if_pos hh] at he⊢
                rw [if_pos hh]
                exact zNv hf bd _ _ here 0 env A _ _ h hI O ⟨O,O,by dsimp only;omega⟩ he
              · rw [if_neg hh] at he⊢
                rw [if_neg hh]
                exact ⟨O,O,by dsimp only;omega⟩
          · rw [if_pos c] at he;exact absurd he c
        · rw [if_neg o4] at he⊢
          rw [zLb (s:=.mk o nm mn mk fo i e bd) (fun k=>o4 k.1),runL_one _ _ _ _ n2,eS,gX]
          rw [if_neg o1,step_go n2 (show b.N<f' by omega),if_neg (show ¬ ¬((⟨b.Mem,b.N+1,0⟩:Rs).E=0) from fun q=>q rfl),if_neg o4,n1]
          have e1:=store_eq ⟨a.Mem,a.N+1,0⟩ env (.mk o nm mn mk fo i e bd)
          have e2:=store_eq ⟨a.Mem,b.N+1,0⟩ env (lB (.mk o nm mn mk fo i e bd) (fT (nT A (.mk o nm mn mk fo i e bd)) bd).1)
          rw [store_setB] at e2
          rw [e1] at he⊢
          show Nxt _ (gD ⟨a.Mem,b.N+1,0⟩ env (lB (.mk o nm mn mk fo i e bd) (fT (nT A (.mk o nm mn mk fo i e bd)) bd).1))
          rw [store_setB,e2]
          exact ⟨O,he,by dsimp only;omega⟩
      · rw [if_pos d] at he;exact absurd he d
theorem zNv {B:List Bf} {f f':Int} (hf:f<=f'):∀(l:List St) (U sc:List ByteArray) (way:List Int) (i:Int) (env A:List Bd) (a b:Rs),(bP B U sc way i l).E=0->cL env A sc->a.E=0->Nxt a b->(gJ f l env a).E=0->Nxt (gJ f l env a) (gJ f' (fT A l).1 env b)
  |[],U,sc,way,i,env,A,a,b,h,hI,ha,hn,he=>by rw [fT,gJ,gJ];exact hn
  |s::r,U,sc,way,i,env,A,a,b,h,hI,ha,hn,he=>by
    obtain ⟨h1,h2⟩:=zEf h
    rw [h2] at h
    rw [gJ,if_neg (fun q=>q ha)] at he⊢
    rw [fT]
    dsimp only
    rw [runL_app]
    by_cases c:(gX f s env a).E=0
    · exact zNv hf r _ sc way _ env A _ _ h hI c (runS_clr hf s U sc _ env A a b h1 hI ha hn c) he
    · rw [runL_err c] at he;exact absurd he c
end
/-! ## The nest without redundant guards is valid -/
theorem stE_setB {B:List Bf} {U sc:List ByteArray} {s:St} {b:List St} (hb:s.Body=[]->b=[]) (h:stE B U sc s=0):stE B U sc (lB s b)=0:=by
  have hs:=stE_syn h
  have h2:fG (lB s b)=true:=by
    cases s with
    |mk o nm mn mk fo i e bd=>
      unfold fG jC at hs⊢
      simp only [lB,St.Op,St.Name,St.Many,St.Mark,St.Fold,St.Idx,St.E,St.Body] at hs hb⊢
      rw [Bool.and_eq_true] at hs⊢
      refine ⟨hs.1,?_⟩
      have h3:=hs.2
      rw [Bool.or_eq_true] at h3⊢
      rcases h3 with h3|h3
      · exact .inl h3
      · right
        have h4:=of_decide_eq_true h3
        refine decide_eq_true ?_
        show ((b.length:Nat):Int)=0
        rw [hb (List.length_eq_zero_iff.1 (by have h5:((bd.length:Nat):Int)=0:=h4;omega))];rfl
  unfold stE at h⊢
  rw [if_pos hs] at h
  rw [if_pos h2]
  cases s;exact h
theorem chkL_E {B:List Bf}:∀(l:List St) (U sc:List ByteArray) (w w':List Int) (i j:Int),(bP B U sc w i l).E=0->(bP B U sc w' j l).E=0/\(bP B U sc w' j l).U=(bP B U sc w i l).U:=by
  suffices hS:∀s:St,∀(U sc:List ByteArray) (w w':List Int),(gV B U sc w s).E=0->(gV B U sc w' s).E=0/\(gV B U sc w' s).U=(gV B U sc w s).U by
    intro l
    induction l with
    |nil=>intro U sc w w' i j _;rw [bP,bP];exact ⟨rfl,rfl⟩
    |cons s r ih=>
      intro U sc w w' i j h
      obtain ⟨h1,h2⟩:=zEf h
      obtain ⟨q1,q2⟩:=hS s U sc _ (w'++[j]) h1
      rw [h2] at h⊢
      have e:bP B U sc w' j (s::r)=bP B (gV B U sc (w'++[j]) s).U sc w' (j+1) r:=by rw [bP,if_pos q1]
      rw [e,q2]
      exact ih _ sc w w' _ _ h
  intro s
  induction s using St.ind with
  |_ s ih=>
    intro U sc w w' h
    obtain ⟨h1,h2⟩:=zHp h
    rw [h2] at h⊢
    rw [zXi h1]
    have hL:∀(l:List St),(∀x,x∈l->x∈s.Body)->∀(U sc:List ByteArray) (i j:Int),(bP B U sc w i l).E=0->(bP B U sc w' j l).E=0/\(bP B U sc w' j l).U=(bP B U sc w i l).U:=by
      intro l
      induction l with
      |nil=>intro _ U sc i j _;rw [bP,bP];exact ⟨rfl,rfl⟩
      |cons x r ihl=>
        intro hx U sc i j h
        obtain ⟨h1,h2⟩:=zEf h
        obtain ⟨q1,q2⟩:=ih x (hx x uD) U sc _ (w'++[j]) h1
        rw [h2] at h⊢
        have e:bP B U sc w' j (x::r)=bP B (gV B U sc (w'++[j]) x).U sc w' (j+1) r:=by rw [bP,if_pos q1]
        rw [e,q2]
        exact ihl (fun y hy=>hx y (List.mem_cons_of_mem _ hy)) _ sc _ _ h
    exact hL s.Body (fun x hx=>hx) _ _ _ _ h
theorem zXj {B:List Bf}:∀(a b:List St) (U sc:List ByteArray) (w:List Int) (i:Int),(bP B U sc w i a).E=0->(bP B (bP B U sc w i a).U sc w i b).E=0->(bP B U sc w i (a++b)).E=0/\(bP B U sc w i (a++b)).U=(bP B (bP B U sc w i a).U sc w i b).U
  |[],b,U,sc,w,i,h1,h2=>by rw [bP] at h2⊢;exact ⟨h2,rfl⟩
  |s::r,b,U,sc,w,i,h1,h2=>by
    obtain ⟨p1,p2⟩:=zEf h1
    rw [p2] at h1 h2⊢
    have e:bP B U sc w i (s::r++b)=bP B (gV B U sc (w++[i]) s).U sc w (i+1) (r++b):=by rw [List.cons_append,bP,if_pos p1]
    obtain ⟨q1,q2⟩:=chkL_E b _ sc w w i (i+1) h2
    rw [e]
    obtain ⟨z1,z2⟩:=zXj r b _ sc w (i+1) h1 q1
    exact ⟨z1,z2.trans q2⟩
mutual
theorem clrS_chk (B:List Bf):∀(s:St) (U sc:List ByteArray) (here w:List Int) (i:Int) (A:List Bd),(gV B U sc here s).E=0->(bP B U sc w i (pK A s).1).E=0/\(bP B U sc w i (pK A s).1).U=(gV B U sc here s).U
  |.mk o nm mn mk fo ix e b,U,sc,here,w,i,A,h=>by
    obtain ⟨h1,h2⟩:=zHp h
    rw [h2] at h⊢
    by_cases r:o=4/\nL A e=true
    · have eU:gE U (.mk o nm mn mk fo ix e b)=U:=if_neg (by show ¬o=1;omega)
      have es:gE sc (.mk o nm mn mk fo ix e b)=sc:=if_neg (by show ¬o=1;omega)
      rw [zPd (s:=.mk o nm mn mk fo ix e b) r]
      rw [eU,es] at h⊢
      exact zTp B b U sc here w 0 i _ h
    · have eq:(pK A (.mk o nm mn mk fo ix e b)).1=[lB (.mk o nm mn mk fo ix e b) (fT (nT A (.mk o nm mn mk fo ix e b)) b).1]:=congrArg Prod.fst (zLb (s:=.mk o nm mn mk fo ix e b) r)
      rw [eq]
      have h3:stE B U sc (lB (.mk o nm mn mk fo ix e b) (fT (nT A (.mk o nm mn mk fo ix e b)) b).1)=0:=stE_setB (fun hb=>by
        obtain rfl:b=[]:=hb
        rw [fT]) h1
      obtain ⟨q1,q2⟩:=zTp B b (gE U (.mk o nm mn mk fo ix e b)) (gE sc (.mk o nm mn mk fo ix e b)) here (w++[i]) 0 0 (nT A (.mk o nm mn mk fo ix e b)) h
      have e1:gV B U sc (w++[i]) (lB (.mk o nm mn mk fo ix e b) (fT (nT A (.mk o nm mn mk fo ix e b)) b).1)=bP B (gE U (.mk o nm mn mk fo ix e b)) (gE sc (.mk o nm mn mk fo ix e b)) (w++[i]) 0 (fT (nT A (.mk o nm mn mk fo ix e b)) b).1:=zXi h3
      rw [bP,e1,if_pos q1,bP]
      exact ⟨O,q2⟩
theorem zTp (B:List Bf):∀(l:List St) (U sc:List ByteArray) (way w:List Int) (i j:Int) (A:List Bd),(bP B U sc way i l).E=0->(bP B U sc w j (fT A l).1).E=0/\(bP B U sc w j (fT A l).1).U=(bP B U sc way i l).U
  |[],U,sc,way,w,i,j,A,h=>by rw [fT,bP,bP];exact ⟨rfl,rfl⟩
  |s::r,U,sc,way,w,i,j,A,h=>by
    obtain ⟨h1,h2⟩:=zEf h
    rw [h2] at h⊢
    obtain ⟨p1,p2⟩:=clrS_chk B s U sc _ w j A h1
    rw [fT]
    dsimp only
    rw [←p2] at h⊢
    obtain ⟨q1,q2⟩:=zTp B r _ sc way w (i+1) j A h
    obtain ⟨z1,z2⟩:=zXj (pK A s).1 (fT A r).1 U sc w j p1 q1
    exact ⟨z1,z2.trans q2⟩
end
theorem zTv:∀(n:Nat) (l:List St),bN n l=true->bN (n+1) l=true
  |0,l,h=>by
    cases l with
    |nil=>rfl
    |cons x r=>cases h
  |n+1,l,h=>by
    rw [bN,List.all_eq_true] at h⊢
    exact fun s hs=>zTv n s.Body (h s hs)
theorem within_app {n:Nat} {a b:List St} (ha:bN n a=true) (hb:bN n b=true):bN n (a++b)=true:=by
  cases n with
  |zero=>
    cases a with
    |nil=>exact hb
    |cons x r=>cases ha
  |succ n=>
    rw [bN] at ha hb⊢
    rw [List.all_append,ha,hb];rfl
mutual
theorem clrS_size:∀(s:St) (A:List Bd),bY (pK A s).1<=stN s/\∀n,bN n s.Body=true->bN (n+1) (pK A s).1=true
  |.mk o nm mn mk fo ix e b,A=>by
    by_cases r:o=4/\nL A e=true
    · rw [zPd (s:=.mk o nm mn mk fo ix e b) r,stN]
      obtain ⟨h1,h2⟩:=zPe b (nT A (.mk o nm mn mk fo ix e b))
      exact ⟨by show bY (fT _ b).1<=_;omega,fun n hn=>zTv n _ (h2 n hn)⟩
    · rw [zLb (s:=.mk o nm mn mk fo ix e b) r,stN]
      obtain ⟨h1,h2⟩:=zPe b (nT A (.mk o nm mn mk fo ix e b))
      refine ⟨?_,fun n hn=>?_⟩
      · show stN (lB _ (fT _ b).1)+0<=_
        rw [setB_n];omega
      · show (bN n (fT _ b).1&&true)=true
        rw [h2 n hn];rfl
theorem zPe:∀(l:List St) (A:List Bd),bY (fT A l).1<=bY l/\∀n,bN n l=true->bN n (fT A l).1=true
  |[],A=>by rw [fT];exact ⟨Nat.le_refl _,fun n h=>h⟩
  |s::r,A=>by
    rw [fT,bY]
    obtain ⟨h1,h2⟩:=clrS_size s A
    obtain ⟨h3,h4⟩:=zPe r A
    refine ⟨?_,fun n hn=>?_⟩
    · show bY ((pK A s).1++(fT A r).1)<=_
      rw [zHy];omega
    · cases n with
      |zero=>cases hn
      |succ n=>
        rw [bN,List.all_cons,Bool.and_eq_true] at hn
        exact within_app (h2 n hn.1) (h4 (n+1) hn.2)
end
theorem clr_valid {n:Ns} (h:(bJ n).2=0):(bJ ⟨n.Bufs,(fT [] n.Body).1⟩).2=0:=by
  obtain ⟨v1,v2,v3,v4,v5⟩:=valid_bufs h
  obtain ⟨s1,s2⟩:=zPe n.Body []
  have hN:jZ (fT [] n.Body).1 2000<=2000:=Nat.le_trans (numB_le _ _) (by have:=numB_ok v4;omega)
  rw [zNf (n:=⟨n.Bufs,(fT [] n.Body).1⟩) (s2 40 v3) (by dsimp only;omega) v1]
  exact (zTp n.Bufs n.Body [] [] [] [] 0 0 [] v5).1
end Go.W
end
section
namespace Go.Br
open Go Go.Eng Go.L41
abbrev vGt (g:Gt):V:=.agg [cI g.V.N,cI g.V.D,cI g.T.Kind,cI g.T.Bits,cI g.T.Frac,cI g.T.Round,cI g.T.Over,cI g.E]
abbrev vRs (s:Rs) (f:Int):V:=.agg [.sl 8 (s.Mem.map Nmd.cells),cI s.N,cI f,cI s.E]
/-! ## Tensors for reading -/
theorem ten_9 {mem:List Nmd} {s:ByteArray} (h:(dM mem s).isSome=false):fK mem s=(zTn,9):=by unfold fK;rw [fnd_none h]
theorem ten_1 {mem:List Nmd} {s:ByteArray} {t:Tn} (h:dM mem s=some t) (h1:¬gS t=0):fK mem s=(zTn,1):=by unfold fK;rw [h];exact if_neg h1
theorem ten_0 {mem:List Nmd} {s:ByteArray} {t:Tn} (h:dM mem s=some t) (h1:gS t=0):fK mem s=(t,0):=by unfold fK;rw [h];exact if_pos h1
theorem tn_dims {t:Tn} (h:gS t=0):bR t.Dims=0:=by
  unfold gS at h
  split at h
  · split at h
    · next h2=>exact h2
    · next h2=>exact absurd h h2
  · cases h
theorem ten_ok {mem:List Nmd} {s:ByteArray} (h:(fK mem s).2=0):gS (fK mem s).1=0/\∃x,x∈mem/\x.T=(fK mem s).1:=by
  cases e:dM mem s with
  |none=>rw [ten_9 (by rw [e];rfl)] at h;cases h
  |some t=>
    by_cases h1:gS t=0
    · rw [ten_0 e h1];exact ⟨h1,zOp e⟩
    · rw [ten_1 e h1] at h;cases h
/-! ## Places -/
theorem plc_e {L:List (Int×Int)} {D:List Int} {a:Int} {i:Nat} {x:Int×Int} (h:L[i]? =some x) (he:¬x.2=0):lC a (L.drop i) D=(0,x.2):=by
  obtain ⟨n,e⟩:=x
  rw [qP h,lC,if_pos he]
theorem plc_b {L:List (Int×Int)} {D:List Int} {a m:Int} {i:Nat} {x:Int×Int} (h:L[i]? =some x) (he:x.2=0) (hd:D[i]? =some m) (hb:x.1<0∨m<=x.1):lC a (L.drop i) (D.drop i)=(0,12):=by
  obtain ⟨n,e⟩:=x
  rw [qP h,qP hd,lC,if_neg (fun k=>k he),if_pos (by exact hb)]
theorem plc_n {L:List (Int×Int)} {D:List Int} {a m:Int} {i:Nat} {x:Int×Int} (h:L[i]? =some x) (he:x.2=0) (hd:D[i]? =some m) (hb:¬(x.1<0∨m<=x.1)):lC a (L.drop i) (D.drop i)=lC (a*m+x.1) (L.drop (i+1)) (D.drop (i+1)):=by
  obtain ⟨n,e⟩:=x
  rw [qP h,qP hd,lC,if_neg (fun k=>k he),if_neg (by exact hb)];rfl
theorem plc_end {L:List (Int×Int)} {D:List Int} {a:Int} {i:Nat} (h:L.length<=i):lC a (L.drop i) D=(a,0):=by rw [List.drop_eq_nil_of_le h,lC]
theorem plc_mul {a s m n:Int} (h0:0<=a) (h1:a<s) (hn:0<=n) (hm:n<m):0<=a*m+n/\a*m+n<s*m/\a*m<s*m/\0<=a*m:=by
  have e1:0<=a*m:=Int.mul_nonneg h0 zA
  have e2:(a+1)*m<=s*m:=Int.mul_le_mul_of_nonneg_right zA zA
  rw [Int.add_mul,Int.one_mul] at e2
  omega
theorem plc_bd:∀(L:List (Int×Int)) (D:List Int) (a s t:Int),D.all mZ=true->bG s D=some t->1<=s->s<=4096->0<=a->a<s->L.length=D.length->(lC a L D).2=0->0<=(lC a L D).1/\(lC a L D).1<t
  |[],[],a,s,t,_,hs,_,_,h0,h1,_,_=>by
    rw [bG] at hs
    injection hs with hs
    rw [lC];exact ⟨h0,by dsimp only;omega⟩
  |[],m::r,a,s,t,_,_,_,_,_,_,hl,_=>by simp at hl
  |x::r,[],a,s,t,_,_,_,_,_,_,hl,_=>by simp at hl
  |(n,e)::L,m::D,a,s,t,hp,hs,h1,h4,h0,ha,hl,he=>by
    rw [List.all_cons,Bool.and_eq_true] at hp
    have hm:1<=m:=by simpa [mZ] using hp.1
    rw [bG] at hs
    rw [lC] at he⊢
    by_cases c:e=0
    · rw [if_neg (fun k=>k c)] at he⊢
      by_cases b:n<0∨(m::D).headD 0<=n
      · rw [if_pos b] at he;cases he
      · rw [if_neg b] at he⊢
        split at hs
        · cases hs
        · next ho=>
          have b':¬(n<0∨m<=n):=b
          obtain ⟨q1,q2,_⟩:=plc_mul h0 ha (show 0<=n by omega) (show n<m by omega)
          have hms:=zBv h1 hm
          exact plc_bd L D (a*m+n) (s*m) t hp.2 hs zA zA q1 q2 (by simpa using hl) he
    · rw [if_pos c] at he;exact absurd he c
theorem ixv_at {mem:List Nmd} {env:List Bd}:∀{l:List Ix} {D:List Int} {i:Nat} {x:Ix} {m:Int},l[i]? =some x->D[i]? =some m->(tY mem env l D)[i]? =some (mH mem env x m)
  |y::r,d::D,0,x,m,h,hd=>by
    injection h with h;injection hd with hd;subst h hd;rfl
  |y::r,d::D,i+1,x,m,h,hd=>by
    rw [tY];exact ixv_at (l:=r) (D:=D) h hd
theorem ixv_len {mem:List Nmd} {env:List Bd}:∀(l:List Ix) (D:List Int),(tY mem env l D).length=l.length
  |[],D=>rfl
  |x::r,D=>by rw [tY,List.length_cons,ixv_len,List.length_cons]
theorem plcV_bd {mem:List Nmd} {env:List Bd} {t:Tn} {l:List Ix} (hd:bR t.Dims=0) (h:(gY mem env t l).2=0):0<=(gY mem env t l).1/\(gY mem env t l).1<fD t.Dims:=by
  obtain ⟨_,hp,s,hs,h1,h2⟩:=zEw hd
  unfold gY at h⊢
  split at h
  · next c=>
    rw [if_pos c,zEb hd hs]
    exact plc_bd _ _ 0 1 s hp hs zB zB zB zB (by rw [ixv_len];exact c) h
  · cases h
theorem plcA_bd {env:List Bd} {t:Tn} {l:List Lf} (hd:bR t.Dims=0) (hl:l.length=t.Dims.length) (h:(lC 0 (l.map fun f=>dE f env) t.Dims).2=0):0<=(lC 0 (l.map fun f=>dE f env) t.Dims).1/\(lC 0 (l.map fun f=>dE f env) t.Dims).1<fD t.Dims:=by
  obtain ⟨_,hp,s,hs,h1,h2⟩:=zEw hd
  rw [zEb hd hs]
  exact plc_bd _ _ 0 1 s hp hs zB zB zB zB (by rw [List.length_map];exact hl) h
theorem atT_some {t:Tn} {k:Int} (h0:0<=k) (h:k<t.Vals.length):t.Vals[k.toNat]? =some (t.Vals.getD k.toNat zVl):=by
  rw [List.getD_eq_getElem?_getD,List.getElem?_eq_getElem (show k.toNat<t.Vals.length by omega)];rfl
/-! ## Indices -/
theorem idx_l {mem:List Nmd} {env:List Bd} {x:Ix} {d:Int} (h:x.From=bs []):mH mem env x d=dE x.Lin env:=by unfold mH;rw [if_pos h]
theorem idx_t {mem:List Nmd} {env:List Bd} {x:Ix} {d:Int} (h:¬x.From=bs []) (h1:¬(fK mem x.From).2=0):mH mem env x d=(0,(fK mem x.From).2):=by unfold mH;rw [if_neg h,if_pos h1]
theorem idx_10 {mem:List Nmd} {env:List Bd} {x:Ix} {d:Int} (h:¬x.From=bs []) (h1:(fK mem x.From).2=0) (h2:¬(fK mem x.From).1.T.Kind=3):mH mem env x d=(0,10):=by
  unfold mH;rw [if_neg h,if_neg (fun k=>k h1),if_pos h2]
theorem idx_11 {mem:List Nmd} {env:List Bd} {x:Ix} {d:Int} (h:¬x.From=bs []) (h1:(fK mem x.From).2=0) (h2:(fK mem x.From).1.T.Kind=3) (h3:¬x.At.length=(fK mem x.From).1.Dims.length):mH mem env x d=(0,11):=by
  unfold mH;rw [if_neg h,if_neg (fun k=>k h1),if_neg (fun k=>k h2),if_pos h3]
theorem idx_p {mem:List Nmd} {env:List Bd} {x:Ix} {d:Int} (h:¬x.From=bs []) (h1:(fK mem x.From).2=0) (h2:(fK mem x.From).1.T.Kind=3) (h3:x.At.length=(fK mem x.From).1.Dims.length) {q:Int×Int}
    (h4:lC 0 (x.At.map fun f=>dE f env) (fK mem x.From).1.Dims=q) (h5:¬q.2=0):mH mem env x d=(0,q.2):=by
  unfold mH;rw [if_neg h,if_neg (fun k=>k h1),if_neg (fun k=>k h2),if_neg (fun k=>k h3),h4,if_pos h5]
theorem idx_0 {mem:List Nmd} {env:List Bd} {x:Ix} {d:Int} (h:¬x.From=bs []) (h1:(fK mem x.From).2=0) (h2:(fK mem x.From).1.T.Kind=3) (h3:x.At.length=(fK mem x.From).1.Dims.length) {a:Int}
    (h4:lC 0 (x.At.map fun f=>dE f env) (fK mem x.From).1.Dims=(a,0)):mH mem env x d=(max 0 (min (d-1) ((fK mem x.From).1.Vals.getD a.toNat zVl).N),0):=by
  unfold mH;rw [if_neg h,if_neg (fun k=>k h1),if_neg (fun k=>k h2),if_neg (fun k=>k h3),h4,if_neg (fun k=>k rfl)]
/-! ## Values -/
theorem val_leaf {mem:List Nmd} {env:List Bd} {e:Ex} (h:e.Op<=3):(evE mem env e).v=lE mem env e:=by rw [evE_eq];show nY mem env e _=_;unfold nY;rw [if_pos h]
theorem conds_at {op:Int}:∀{l:List Ex} {i:Int},gA op i l=true->∀(k:Nat) (a:Ex),l[k]? =some a->bE a=fU op (i+k)
  |b::r,i,h,0,a,ha=>by
    injection ha with ha;subst ha
    rw [gA,Bool.and_eq_true] at h
    have:=h.1
    rw [beq_iff_eq] at this
    rw [this];simp
  |b::r,i,h,k+1,a,ha=>by
    rw [gA,Bool.and_eq_true] at h
    have:=conds_at h.2 k a ha
    rw [this];congr 1;omega
theorem arg_cond {e:Ex} (h:dJ e=0) {k:Nat} {a:Ex} (ha:e.Args[k]? =some a):bE a=fU e.Op k:=by
  have ht:=(zGn (zBo h)).2.2.2.1
  unfold jP at ht
  rw [Bool.and_eq_true] at ht
  have:=conds_at ht.2 k a ha
  rw [this];congr 1;omega
theorem op_rng {e:Ex} (h:dJ e=0):1<=e.Op/\e.Op<=18:=by
  have hs:=(zGn (zBo h)).1
  unfold jS at hs
  simp only [Bool.and_eq_true,Bool.not_eq_true',Bool.or_eq_false_iff,decide_eq_false_iff_not] at hs
  omega
structure MmOk (B:List Bf) (mem:List Nmd):Prop where
  len:mem.length<=4294967296
  fit:∀x,x∈mem->x.T.Dims.length<=17592186044416/\x.T.Vals.length<=1048576
  has:∀s,dS B s=true->∃t,dM mem s=some t/\bR t.Dims=0/\(t.Vals.length:Int)=fD t.Dims
  uni:∀x,x∈mem->dM mem x.Name=some x.T
def vK (n s:ByteArray) (k:Nat) (v:Vl) (t:Tn):Tn:=if s=n then ⟨t.T,t.Dims,t.Vals.set k v⟩ else t
theorem fnd_wr {n s:ByteArray} {k:Nat} {v:Vl}:∀mem:List Nmd,dM (fV mem n k v) s=(dM mem s).map (vK n s k v)
  |[]=>rfl
  |x::r=>by
    have ih:=fnd_wr (n:=n) (s:=s) (k:=k) (v:=v) r
    show dM ((if x.Name=n then ⟨x.Name,⟨x.T.T,x.T.Dims,x.T.Vals.set k v⟩⟩ else x)::fV r n k v) s=Option.map _ (if x.Name=s then some x.T else dM r s)
    by_cases d:x.Name=n
    · rw [if_pos d]
      show (if x.Name=s then some (⟨x.T.T,x.T.Dims,x.T.Vals.set k v⟩:Tn) else dM (fV r n k v) s)=_
      by_cases c:x.Name=s
      · rw [if_pos c,if_pos c,Option.map_some,vK,if_pos (c.symm.trans d)]
      · rw [if_neg c,if_neg c,ih]
    · rw [if_neg d]
      show (if x.Name=s then some x.T else dM (fV r n k v) s)=_
      by_cases c:x.Name=s
      · rw [if_pos c,if_pos c,Option.map_some,vK,if_neg (fun e=>d (c.trans e))]
      · rw [if_neg c,if_neg c,ih]
theorem MmOk.write {B:List Bf} {mem:List Nmd} (h:MmOk B mem) (n:ByteArray) (k:Nat) (v:Vl):MmOk B (fV mem n k v):=by
  refine ⟨by unfold fV;rw [List.length_map];exact h.len,fun x hx=>?_,fun s hs=>?_,fun x hx=>?_⟩
  · unfold fV at hx
    obtain ⟨y,hy,rfl⟩:=List.mem_map.1 hx
    have:=h.fit y hy
    split
    · exact ⟨this.1,by rw [List.length_set];exact this.2⟩
    · exact this
  · obtain ⟨t,h1,h2,h3⟩:=h.has s hs
    refine ⟨vK n s k v t,by rw [fnd_wr,h1];rfl,?_,?_⟩
    · unfold vK;split
      · exact h2
      · exact h2
    · unfold vK;split
      · show ((t.Vals.set k v).length:Int)=_;rw [List.length_set];exact h3
      · exact h3
  · unfold fV at hx
    obtain ⟨y,hy,rfl⟩:=List.mem_map.1 hx
    have hu:=h.uni y hy
    by_cases c:y.Name=n
    · rw [if_pos c]
      show dM (fV mem n k v) y.Name=_
      rw [fnd_wr,hu,Option.map_some];unfold vK;rw [if_pos c]
    · rw [if_neg c,fnd_wr,hu,Option.map_some];unfold vK;rw [if_neg c]
theorem atV_row {l:List Vl} {k:Int} (h0:0<=k) (h:k<l.length):([]++l.map Vl.cells)[k.toNat]? =some (l.getD k.toNat zVl).cells:=by
  rw [List.nil_append,List.getElem?_map,List.getD_eq_getElem?_getD,List.getElem?_eq_getElem (show k.toNat<l.length by omega)];rfl
theorem write_next {mem:List Nmd} {n:ByteArray} {a k:Nat} {v:Vl} {x:Nmd} (h:mem[k]? =some x):(fV (mem.take (k+1)) n a v).map Nmd.cells=(fV (mem.take k) n a v).map Nmd.cells++[(if x.Name=n then (⟨x.Name,⟨x.T.T,x.T.Dims,x.T.Vals.set a v⟩⟩:Nmd) else x).cells]:=by
  unfold fV;rw [yQ h,List.map_append,List.map_append,List.map_singleton,List.map_singleton]
/-! ## Bounds of what is evaluated -/
def FB (f:Lf):Prop:=f.L.length<=5864062014805/\f.rng
def IxB (x:Ix):Prop:=FB x.Lin/\(∀f,f∈x.At->FB f)/\x.At.length<=17592186044416
def ExB (e:Ex):Prop:=FB e.Lin/\(∀x,x∈e.Idx->IxB x)/\e.Idx.length<=17592186044416
def ExA (e:Ex):Prop:=∀x,x∈bW e->ExB x
theorem ExA.self {e:Ex} (h:ExA e):ExB e:=h e (by rw [kT];simp)
theorem ExA.arg {e a:Ex} (h:ExA e) (ha:a∈e.Args):ExA a:=fun x hx=>h x (by rw [kT];exact List.mem_cons_of_mem _ (zEp ha hx))
/-! ## Places and leaves,case by case -/
theorem plcV_11 {mem:List Nmd} {env:List Bd} {t:Tn} {l:List Ix} (h:¬(l.length:Int)=t.Dims.length):gY mem env t l=(0,11):=by unfold gY;rw [if_neg zA]
theorem plcV_is {mem:List Nmd} {env:List Bd} {t:Tn} {l:List Ix} (h:(l.length:Int)=t.Dims.length):gY mem env t l=lC 0 (tY mem env l t.Dims) t.Dims:=by unfold gY;rw [if_pos zA]
theorem leaf_1 {mem:List Nmd} {env:List Bd} {e:Ex} (h:e.Op=1):lE mem env e=⟨e.Val,e.Ty,0⟩:=by unfold lE;rw [if_pos h]
theorem leaf_2e {mem:List Nmd} {env:List Bd} {e:Ex} (h:e.Op=2) (h2:¬(dE e.Lin env).2=0):lE mem env e=pH (dE e.Lin env).2:=by unfold lE;rw [if_neg zA,if_pos h,if_pos h2]
theorem leaf_2r {mem:List Nmd} {env:List Bd} {e:Ex} (h:e.Op=2) (h2:(dE e.Lin env).2=0) (h3:2147483647<(dE e.Lin env).1∨(dE e.Lin env).1< -2147483647):lE mem env e=pH 3:=by
  unfold lE;rw [if_neg zA,if_pos h,if_neg (fun k=>k h2),if_pos h3]
theorem leaf_2 {mem:List Nmd} {env:List Bd} {e:Ex} (h:e.Op=2) (h2:(dE e.Lin env).2=0) (h3:¬(2147483647<(dE e.Lin env).1∨(dE e.Lin env).1< -2147483647)):lE mem env e=⟨⟨(dE e.Lin env).1,1⟩,iTy,0⟩:=by
  unfold lE;rw [if_neg zA,if_pos h,if_neg (fun k=>k h2),if_neg h3]
theorem leaf_3t {mem:List Nmd} {env:List Bd} {e:Ex} (h:¬e.Op=1) (h':¬e.Op=2) (h2:¬(fK mem e.Name).2=0):lE mem env e=pH (fK mem e.Name).2:=by unfold lE;rw [if_neg h,if_neg h',if_pos h2]
theorem leaf_3p {mem:List Nmd} {env:List Bd} {e:Ex} (h:¬e.Op=1) (h':¬e.Op=2) (h2:(fK mem e.Name).2=0) (h3:¬(gY mem env (fK mem e.Name).1 e.Idx).2=0):lE mem env e=pH (gY mem env (fK mem e.Name).1 e.Idx).2:=by
  unfold lE;rw [if_neg h,if_neg h',if_neg (fun k=>k h2),if_pos h3]
theorem leaf_3 {mem:List Nmd} {env:List Bd} {e:Ex} (h:¬e.Op=1) (h':¬e.Op=2) (h2:(fK mem e.Name).2=0) (h3:(gY mem env (fK mem e.Name).1 e.Idx).2=0):lE mem env e=⟨(fK mem e.Name).1.Vals.getD (gY mem env (fK mem e.Name).1 e.Idx).1.toNat zVl,(fK mem e.Name).1.T,0⟩:=by
  unfold lE;rw [if_neg h,if_neg h',if_neg (fun k=>k h2),if_neg (fun k=>k h3)]
/-! ## Values,case by case -/
theorem zAz {mem:List Nmd} {env:List Bd} {l:List Ex} {k:Nat} {a:Ex} (h:l[k]? =some a):(l.map (evE mem env)).getD k zVH=evE mem env a:=by rw [List.getD_eq_getElem?_getD,List.getElem?_map,h];rfl
theorem zRd (mem:List Nmd) (env:List Bd) (e:Ex):(evE mem env e).v=nY mem env e (e.Args.map (evE mem env)):=by rw [evE_eq]
theorem zWg (mem:List Nmd) (env:List Bd) (e:Ex):(evE mem env e).h=rL e (e.Args.map (evE mem env)):=by rw [evE_eq]
theorem val_a {mem:List Nmd} {env:List Bd} {e a:Ex} (h1:¬e.Op<=3) (h2:¬e.Op=11) (ha:e.Args[0]? =some a) (h3:¬(evE mem env a).v.E=0):(evE mem env e).v=(evE mem env a).v:=by
  rw [zRd];unfold nY;rw [if_neg h1,if_neg h2,zAz ha,if_pos h3]
theorem val_ce {mem:List Nmd} {env:List Bd} {e a:Ex} (h2:e.Op=12) (ha:e.Args[0]? =some a) (h3:(evE mem env a).v.E=0) (h4:¬(nR (evE mem env a).v.T e.Ty (evE mem env a).v.V).2=0):(evE mem env e).v=pH (nR (evE mem env a).v.T e.Ty (evE mem env a).v.V).2:=by
  rw [zRd];unfold nY;rw [if_neg zA,if_neg zA,zAz ha,if_neg (fun k=>k h3),if_pos h2,if_pos h4]
theorem val_c {mem:List Nmd} {env:List Bd} {e a:Ex} (h2:e.Op=12) (ha:e.Args[0]? =some a) (h3:(evE mem env a).v.E=0) (h4:(nR (evE mem env a).v.T e.Ty (evE mem env a).v.V).2=0):(evE mem env e).v=⟨(nR (evE mem env a).v.T e.Ty (evE mem env a).v.V).1,e.Ty,0⟩:=by
  rw [zRd];unfold nY;rw [if_neg zA,if_neg zA,zAz ha,if_neg (fun k=>k h3),if_pos h2,if_neg (fun k=>k h4)]
theorem val_b {mem:List Nmd} {env:List Bd} {e a b:Ex} (h1:¬e.Op<=3) (h2:¬e.Op=11) (h5:¬e.Op=12) (ha:e.Args[0]? =some a) (h3:(evE mem env a).v.E=0) (hb:e.Args[if e.Op=8 then 0 else 1]? =some b) (h4:¬(evE mem env b).v.E=0):(evE mem env e).v=(evE mem env b).v:=by
  rw [zRd];unfold nY;rw [if_neg h1,if_neg h2,zAz ha,if_neg (fun k=>k h3),if_neg h5,zAz hb,if_pos h4]
theorem val_t {mem:List Nmd} {env:List Bd} {e a b:Ex} (h1:¬e.Op<=3) (h2:¬e.Op=11) (h5:¬e.Op=12) (ha:e.Args[0]? =some a) (h3:(evE mem env a).v.E=0) (hb:e.Args[if e.Op=8 then 0 else 1]? =some b) (h4:(evE mem env b).v.E=0)
    (h6:¬(evE mem env a).v.T=(evE mem env b).v.T):(evE mem env e).v=pH 10:=by
  rw [zRd];unfold nY;rw [if_neg h1,if_neg h2,zAz ha,if_neg (fun k=>k h3),if_neg h5,zAz hb,if_neg (fun k=>k h4),if_pos h6]
theorem val_oe {mem:List Nmd} {env:List Bd} {e a b:Ex} (h1:¬e.Op<=3) (h2:¬e.Op=11) (h5:¬e.Op=12) (ha:e.Args[0]? =some a) (h3:(evE mem env a).v.E=0) (hb:e.Args[if e.Op=8 then 0 else 1]? =some b) (h4:(evE mem env b).v.E=0)
    (h6:(evE mem env a).v.T=(evE mem env b).v.T) (h7:¬(mA e.Op (evE mem env a).v.T (evE mem env a).v.V (evE mem env b).v.V).2=0):(evE mem env e).v=pH (mA e.Op (evE mem env a).v.T (evE mem env a).v.V (evE mem env b).v.V).2:=by
  rw [zRd];unfold nY;rw [if_neg h1,if_neg h2,zAz ha,if_neg (fun k=>k h3),if_neg h5,zAz hb,if_neg (fun k=>k h4),if_neg (fun k=>k h6),if_pos h7]
theorem val_o {mem:List Nmd} {env:List Bd} {e a b:Ex} (h1:¬e.Op<=3) (h2:¬e.Op=11) (h5:¬e.Op=12) (ha:e.Args[0]? =some a) (h3:(evE mem env a).v.E=0) (hb:e.Args[if e.Op=8 then 0 else 1]? =some b) (h4:(evE mem env b).v.E=0)
    (h6:(evE mem env a).v.T=(evE mem env b).v.T) (h7:(mA e.Op (evE mem env a).v.T (evE mem env a).v.V (evE mem env b).v.V).2=0):(evE mem env e).v=⟨(mA e.Op (evE mem env a).v.T (evE mem env a).v.V (evE mem env b).v.V).1,(evE mem env a).v.T,0⟩:=by
  rw [zRd];unfold nY;rw [if_neg h1,if_neg h2,zAz ha,if_neg (fun k=>k h3),if_neg h5,zAz hb,if_neg (fun k=>k h4),if_neg (fun k=>k h6),if_neg (fun k=>k h7)]
theorem hld_n {mem:List Nmd} {env:List Bd} {e a:Ex} (h1:16<=e.Op) (ha:e.Args[0]? =some a) (h:¬(evE mem env a).h.2=0∨e.Op=18):(evE mem env e).h=(decide ((evE mem env a).h.2=0)&& !(evE mem env a).h.1,(evE mem env a).h.2):=by
  rw [zWg];unfold rL;rw [if_pos h1,zAz ha,if_pos h]
theorem hld_b {mem:List Nmd} {env:List Bd} {e a b:Ex} (h1:16<=e.Op) (ha:e.Args[0]? =some a) (h:¬(¬(evE mem env a).h.2=0∨e.Op=18)) (hb:e.Args[1]? =some b) (h2:¬(evE mem env b).h.2=0):(evE mem env e).h=(false,(evE mem env b).h.2):=by
  rw [zWg];unfold rL;rw [if_pos h1,zAz ha,if_neg h,zAz hb,if_pos h2]
theorem hld_o {mem:List Nmd} {env:List Bd} {e a b:Ex} (h1:16<=e.Op) (ha:e.Args[0]? =some a) (h:¬(¬(evE mem env a).h.2=0∨e.Op=18)) (hb:e.Args[1]? =some b) (h2:(evE mem env b).h.2=0):
    (evE mem env e).h=((decide (e.Op=16)&&(evE mem env a).h.1&&(evE mem env b).h.1)||(decide (e.Op=17)&&((evE mem env a).h.1||(evE mem env b).h.1)),0):=by
  rw [zWg];unfold rL;rw [if_pos h1,zAz ha,if_neg h,zAz hb,if_neg (fun k=>k h2)]
theorem hld_c {mem:List Nmd} {env:List Bd} {e a:Ex} (h1:¬16<=e.Op) (ha:e.Args[0]? =some a) (h:¬(evE mem env a).v.E=0):(evE mem env e).h=(false,(evE mem env a).v.E):=by
  rw [zWg];unfold rL;rw [if_neg h1,zAz ha,if_pos h]
theorem hld_d {mem:List Nmd} {env:List Bd} {e a b:Ex} (h1:¬16<=e.Op) (ha:e.Args[0]? =some a) (h:(evE mem env a).v.E=0) (hb:e.Args[1]? =some b) (h2:¬(evE mem env b).v.E=0):(evE mem env e).h=(false,(evE mem env b).v.E):=by
  rw [zWg];unfold rL;rw [if_neg h1,zAz ha,if_neg (fun k=>k h),zAz hb,if_pos h2]
theorem hld_t {mem:List Nmd} {env:List Bd} {e a b:Ex} (h1:¬16<=e.Op) (ha:e.Args[0]? =some a) (h:(evE mem env a).v.E=0) (hb:e.Args[1]? =some b) (h2:(evE mem env b).v.E=0) (h3:¬(evE mem env a).v.T=(evE mem env b).v.T):(evE mem env e).h=(false,10):=by
  rw [zWg];unfold rL;rw [if_neg h1,zAz ha,if_neg (fun k=>k h),zAz hb,if_neg (fun k=>k h2),if_pos h3]
theorem hld_v {mem:List Nmd} {env:List Bd} {e a b:Ex} (h1:¬16<=e.Op) (ha:e.Args[0]? =some a) (h:(evE mem env a).v.E=0) (hb:e.Args[1]? =some b) (h2:(evE mem env b).v.E=0) (h3:(evE mem env a).v.T=(evE mem env b).v.T):
    (evE mem env e).h=((decide (rO (evE mem env a).v.T (evE mem env a).v.V (evE mem env b).v.V<0)&& !decide (e.Op=15))||(decide (rO (evE mem env a).v.T (evE mem env a).v.V (evE mem env b).v.V=0)&& !decide (e.Op=13)),0):=by
  rw [zWg];unfold rL;rw [if_neg h1,zAz ha,if_neg (fun k=>k h),zAz hb,if_neg (fun k=>k h2),if_neg (fun k=>k h3)]
/-! ## Operands -/
theorem arg_0 {e:Ex} (h:dJ e=0) (h4:4<=e.Op):∃a,e.Args[((0:Int)).toNat]? =some a/\e.Args[0]? =some a/\a∈e.Args/\dJ a=0/\bE a=fU e.Op 0:=by
  have hr:=op_rng h
  have hl:=zVp (zBo h)
  have hn:1<=bL e.Op:=by unfold bL;split;omega;split;omega;split<;>omega
  have hlt:0<e.Args.length:=by omega
  have hg:e.Args[0]? =some e.Args[0]:=List.getElem?_eq_getElem hlt
  exact ⟨e.Args[0],hg,hg,List.getElem_mem hlt,zHi h (List.getElem_mem hlt),arg_cond h hg⟩
theorem arg_1 {e:Ex} (h:dJ e=0) (hn:2<=bL e.Op):∃a,e.Args[((1:Int)).toNat]? =some a/\e.Args[1]? =some a/\a∈e.Args/\dJ a=0/\bE a=fU e.Op 1:=by
  have hl:=zVp (zBo h)
  have hlt:1<e.Args.length:=by omega
  have hg:e.Args[1]? =some e.Args[1]:=List.getElem?_eq_getElem hlt
  exact ⟨e.Args[1],hg,hg,List.getElem_mem hlt,zHi h (List.getElem_mem hlt),arg_cond h hg⟩
theorem arg_2 {e:Ex} (h:dJ e=0) (ho:e.Op=11):∃a,e.Args[((2:Int)).toNat]? =some a/\e.Args[2]? =some a/\a∈e.Args/\dJ a=0/\bE a=fU e.Op 2:=by
  have hl:=zVp (zBo h)
  rw [ho,show bL 11=3 from rfl] at hl
  have hlt:2<e.Args.length:=by omega
  have hg:e.Args[2]? =some e.Args[2]:=List.getElem?_eq_getElem hlt
  exact ⟨e.Args[2],hg,hg,List.getElem_mem hlt,zHi h (List.getElem_mem hlt),arg_cond h hg⟩
theorem val_i {mem:List Nmd} {env:List Bd} {e a b c:Ex} (h:e.Op=11) (ha:e.Args[0]? =some a) (hb:e.Args[1]? =some b) (hc:e.Args[2]? =some c):(evE mem env e).v=if ¬(evE mem env a).h.2=0 then pH (evE mem env a).h.2 else if (evE mem env a).h.1=true then (evE mem env b).v else (evE mem env c).v:=by
  rw [zRd];unfold nY;rw [if_neg zA,if_pos h,zAz ha,zAz hb,zAz hc]
theorem nArgs_2 {o:Int} (h1:¬o<=3) (h2:¬o=8) (h3:¬o=12) (h4:¬o=18):2<=bL o:=by
  unfold bL;rw [if_neg zA,if_neg zA];split<;>omega
theorem want_v {o:Int} {k:Int} (h1:¬o=11) (h2:o<=15):fU o k=false:=by
  unfold fU;rw [decide_eq_false h1,decide_eq_false (show ¬o=16 by omega),decide_eq_false (show ¬o=17 by omega),decide_eq_false (show ¬o=18 by omega)];rfl
theorem want_c {o:Int} {k:Int} (h:16<=o) (h2:o<=18):fU o k=true:=by
  unfold fU
  rcases (by omega:o=16∨o=17∨o=18) with rfl|rfl|rfl<;>simp
theorem cond_no {e:Ex} (h:bE e=false) (hp:dJ e=0):e.Op<=12:=by
  have:=op_rng hp
  unfold bE at h
  rw [Bool.and_eq_false_iff,decide_eq_false_iff_not,decide_eq_false_iff_not] at h
  omega
theorem cond_yes {e:Ex} (h:bE e=true):13<=e.Op/\e.Op<=18:=by
  unfold bE at h
  rw [Bool.and_eq_true,decide_eq_true_eq,decide_eq_true_eq] at h
  exact h
/-! ## Runs,as the reference makes them -/
theorem reduce_is {fold:Int} {t:Ty} {a b:Vl} (h:¬(fold<1∨5<fold)) (h2:bV t=true) (h3:bI t a=true) (h4:bI t b=true):rQ fold t a b=mA (sC fold) t a b:=by
  unfold rQ;rw [if_neg h,if_neg (by rw [h2];simp),if_neg (by rw [h3,h4];simp)]
def jY (mem:List Nmd):List Bf->Int
  |[]=>0
  |b::r=>if gT mem b=0 then jY mem r else gT mem b
def nN (mem:List Nmd) (b:Bf):Nmd:=⟨b.Name,(dM mem b.Name).getD zTn⟩
theorem prv_next {mem:List Nmd} {l:List Bf} {k:Nat} {b:Bf} (h:l[k]? =some b) (hp:jY mem l=jY mem (l.drop k)) (he:gT mem b=0):jY mem l=jY mem (l.drop (k+1)):=by rw [hp,qP h,jY,if_pos he]
theorem prv_bad {mem:List Nmd} {l:List Bf} {k:Nat} {b:Bf} (h:l[k]? =some b) (hp:jY mem l=jY mem (l.drop k)) (he:¬gT mem b=0):jY mem l=gT mem b:=by rw [hp,qP h,jY,if_neg he]
theorem prv_end {mem:List Nmd} {l:List Bf} {k:Nat} (h:l.length<=k) (hp:jY mem l=jY mem (l.drop k)):jY mem l=0:=by rw [hp,List.drop_eq_nil_of_le h];rfl
theorem prv_mem {mem:List Nmd}:∀{l:List Bf},jY mem l=0->∀b,b∈l->gT mem b=0
  |a::r,h,b,hb=>by
    rw [jY] at h
    by_cases c:gT mem a=0
    · rw [if_pos c] at h
      rcases List.mem_cons.1 hb with rfl|hb
      · exact c
      · exact prv_mem h b hb
    · rw [if_neg c] at h;exact absurd h c
def sJ (n:Ns) (mem:List Nmd) (f:Int):Rs:=gJ f n.Body [] ⟨n.Bufs.map (nN mem),0,0⟩
def rnN (n:Ns) (mem:List Nmd) (f:Int):List Nmd×Int×Int:=
  if ¬(bJ n).2=0 then ([],0,(bJ n).2) else if f<0∨1048576<f then ([],0,1) else if ¬jY mem n.Bufs=0 then ([],0,jY mem n.Bufs) else
  if ¬(sJ n mem f).E=0 then ([],0,(sJ n mem f).E) else ((sJ n mem f).Mem,(sJ n mem f).N,0)
theorem run_1 {n:Ns} {mem:List Nmd} {f:Int} (h:¬(bJ n).2=0):rnN n mem f=([],0,(bJ n).2):=by unfold rnN;rw [if_pos h]
theorem run_2 {n:Ns} {mem:List Nmd} {f:Int} (h:(bJ n).2=0) (h2:f<0∨1048576<f):rnN n mem f=([],0,1):=by unfold rnN;rw [if_neg (fun k=>k h),if_pos h2]
theorem run_3 {n:Ns} {mem:List Nmd} {f:Int} (h:(bJ n).2=0) (h2:¬(f<0∨1048576<f)) (h3:¬jY mem n.Bufs=0):rnN n mem f=([],0,jY mem n.Bufs):=by unfold rnN;rw [if_neg (fun k=>k h),if_neg h2,if_pos h3]
theorem run_4 {n:Ns} {mem:List Nmd} {f:Int} (h:(bJ n).2=0) (h2:¬(f<0∨1048576<f)) (h3:jY mem n.Bufs=0) (h4:¬(sJ n mem f).E=0):rnN n mem f=([],0,(sJ n mem f).E):=by
  unfold rnN;rw [if_neg (fun k=>k h),if_neg h2,if_neg (fun k=>k h3),if_pos h4]
theorem run_0 {n:Ns} {mem:List Nmd} {f:Int} (h:(bJ n).2=0) (h2:¬(f<0∨1048576<f)) (h3:jY mem n.Bufs=0) (h4:(sJ n mem f).E=0):rnN n mem f=((sJ n mem f).Mem,(sJ n mem f).N,0):=by
  unfold rnN;rw [if_neg (fun k=>k h),if_neg h2,if_neg (fun k=>k h3),if_neg (fun k=>k h4)]
structure StC (B:List Bf) (s:St):Prop where
  loop:s.Op=1->1<=s.Many/\s.Many<=65536
  cond:s.Op=4->dJ s.E=0/\bE s.E=true
  sto:¬s.Op=1->¬s.Op=4->dJ s.E=0/\bE s.E=false/\dS B s.Name=true
  ex:ExA s.E
  ix:∀x,x∈s.Idx->IxB x
  len:s.Idx.length<=17592186044416
end Go.Br
end
section
namespace Go.W
open Go Go.Eng Go.Proofs Go.L41 Go.Br
/-! ## Stores -/
theorem sto_e {s:Rs} {env:List Bd} {x:St} (h:¬(evE s.Mem env x.E).v.E=0):gD s env x=⟨s.Mem,s.N,(evE s.Mem env x.E).v.E⟩:=by unfold gD;rw [if_pos h]
theorem sto_p {s:Rs} {env:List Bd} {x:St} {t:Tn} (h0:(evE s.Mem env x.E).v.E=0) (ht:dM s.Mem x.Name=some t) (h:¬(gY s.Mem env t x.Idx).2=0):gD s env x=⟨s.Mem,s.N,(gY s.Mem env t x.Idx).2⟩:=by
  unfold gD;rw [ht];simp only [Option.getD_some];rw [if_neg (fun k=>k h0),if_pos h]
theorem sto_f {s:Rs} {env:List Bd} {x:St} {t:Tn} (h0:(evE s.Mem env x.E).v.E=0) (ht:dM s.Mem x.Name=some t) (h:(gY s.Mem env t x.Idx).2=0) (h3:x.Op=3) {r:Vl×Int}
    (hr:rQ x.Fold t.T (t.Vals.getD (gY s.Mem env t x.Idx).1.toNat zVl) (evE s.Mem env x.E).v.V=r) (h4:¬r.2=0):gD s env x=⟨s.Mem,s.N,r.2⟩:=by
  subst hr
  unfold gD;rw [ht];simp only [Option.getD_some];rw [if_neg (fun k=>k h0),if_neg (fun k=>k h),if_pos h3,if_pos h4]
theorem sto_r {s:Rs} {env:List Bd} {x:St} {t:Tn} (h0:(evE s.Mem env x.E).v.E=0) (ht:dM s.Mem x.Name=some t) (h:(gY s.Mem env t x.Idx).2=0) (h3:x.Op=3) {r:Vl×Int}
    (hr:rQ x.Fold t.T (t.Vals.getD (gY s.Mem env t x.Idx).1.toNat zVl) (evE s.Mem env x.E).v.V=r) (h4:r.2=0):gD s env x=⟨fV s.Mem x.Name (gY s.Mem env t x.Idx).1.toNat r.1,s.N,0⟩:=by
  subst hr
  unfold gD;rw [ht];simp only [Option.getD_some];rw [if_neg (fun k=>k h0),if_neg (fun k=>k h),if_pos h3,if_neg (fun k=>k h4)]
theorem sto_s {s:Rs} {env:List Bd} {x:St} {t:Tn} (h0:(evE s.Mem env x.E).v.E=0) (ht:dM s.Mem x.Name=some t) (h:(gY s.Mem env t x.Idx).2=0) (h3:¬x.Op=3):gD s env x=⟨fV s.Mem x.Name (gY s.Mem env t x.Idx).1.toNat (evE s.Mem env x.E).v.V,s.N,0⟩:=by
  unfold gD;rw [ht];simp only [Option.getD_some];rw [if_neg (fun k=>k h0),if_neg (fun k=>k h),if_neg h3]
/-! ## Statements -/
theorem run_loop {f:Int} {x:St} {env:List Bd} {t:Rs} (ho:x.Op=1):gX f x env t=(List.range x.Many.toNat).foldl (hY f x.Name env (gJ f x.Body)) t:=by rw [zQb,if_pos ho]
theorem run_stop {f:Int} {x:St} {env:List Bd} {t:Rs} (ho:¬x.Op=1) (h:¬(dU f t).E=0):gX f x env t=dU f t:=by rw [zQb,if_neg ho,if_pos h]
theorem run_ife {f:Int} {x:St} {env:List Bd} {t:Rs} (ho:x.Op=4) (hs:dU f t=⟨t.Mem,t.N+1,0⟩) (h:¬(evE t.Mem env x.E).h.2=0):gX f x env t=⟨t.Mem,t.N+1,(evE t.Mem env x.E).h.2⟩:=by
  rw [zQb,if_neg zA,hs,if_neg (show ¬ ¬((⟨t.Mem,t.N+1,0⟩:Rs).E=0) from fun k=>k rfl),if_pos ho,if_pos h]
theorem run_ift {f:Int} {x:St} {env:List Bd} {t:Rs} (ho:x.Op=4) (hs:dU f t=⟨t.Mem,t.N+1,0⟩) (h:(evE t.Mem env x.E).h.2=0) (h2:(evE t.Mem env x.E).h.1=true):gX f x env t=gJ f x.Body env ⟨t.Mem,t.N+1,0⟩:=by
  rw [zQb,if_neg zA,hs,if_neg (show ¬ ¬((⟨t.Mem,t.N+1,0⟩:Rs).E=0) from fun k=>k rfl),if_pos ho,if_neg (fun k=>k h),if_pos h2]
theorem run_iff {f:Int} {x:St} {env:List Bd} {t:Rs} (ho:x.Op=4) (hs:dU f t=⟨t.Mem,t.N+1,0⟩) (h2:(evE t.Mem env x.E).h.1=false):gX f x env t=⟨t.Mem,t.N+1,(evE t.Mem env x.E).h.2⟩:=by
  by_cases h:(evE t.Mem env x.E).h.2=0
  · rw [zQb,if_neg zA,hs,if_neg (show ¬ ¬((⟨t.Mem,t.N+1,0⟩:Rs).E=0) from fun k=>k rfl),if_pos ho,if_neg (fun k=>k h),if_neg (by rw [h2];simp),h]
  · exact run_ife ho hs h
theorem run_sto {f:Int} {x:St} {env:List Bd} {t:Rs} (ho:¬x.Op=1) (ho4:¬x.Op=4) (hs:dU f t=⟨t.Mem,t.N+1,0⟩):gX f x env t=gD ⟨t.Mem,t.N+1,0⟩ env x:=by
  rw [zQb,if_neg ho,hs,if_neg (show ¬ ¬((⟨t.Mem,t.N+1,0⟩:Rs).E=0) from fun k=>k rfl),if_neg ho4]
theorem zNr {f:Int} {l:List St} {env:List Bd} {t:Rs} {k:Nat} {x:St} (hx:l[k]? =some x) (h:t.E=0):gJ f (l.drop k) env t=gJ f (l.drop (k+1)) env (gX f x env t):=by
  rw [qP hx,gJ,if_neg (fun q=>q h)]
theorem run_end {f:Int} {l:List St} {env:List Bd} {t:Rs} {k:Nat} (h:l.length<=k∨¬t.E=0):gJ f (l.drop k) env t=t:=by
  rcases h with h|h
  · rw [List.drop_eq_nil_of_le h,gJ]
  · exact runL_err h
theorem fold_nx {α:Type} {F:α->Nat->α} {s:α} (j:Nat):(List.range (j+1)).foldl F s=F ((List.range j).foldl F s) j:=by rw [List.range_succ,List.foldl_append];rfl
theorem fold_stop {f:Int} {nm:ByteArray} {env:List Bd} {g:List Bd->Rs->Rs} {t:Rs} {j m:Nat} (hj:j<=m) (h:m<=j∨¬((List.range j).foldl (hY f nm env g) t).E=0):(List.range m).foldl (hY f nm env g) t=(List.range j).foldl (hY f nm env g) t:=by
  obtain ⟨d,rfl⟩:∃d,m=j+d:=⟨m-j,zA⟩
  rcases h with h|h
  · obtain rfl:d=0:=by omega
    rfl
  · rw [List.range_add,List.foldl_append,fold_err _ h]
theorem turn_go {f:Int} {nm:ByteArray} {env:List Bd} {g:List Bd->Rs->Rs} {r:Rs} {j:Nat} (h:r.E=0) (hs:dU f r=⟨r.Mem,r.N+1,0⟩):hY f nm env g r j=g (⟨nm,(j:Int)⟩::env) ⟨r.Mem,r.N+1,0⟩:=by
  unfold hY;rw [if_neg (fun q=>q h),hs,if_neg (show ¬ ¬((⟨r.Mem,r.N+1,0⟩:Rs).E=0) from fun k=>k rfl)]
theorem turn_no {f:Int} {nm:ByteArray} {env:List Bd} {g:List Bd->Rs->Rs} {r:Rs} {j:Nat} (h:r.E=0) (hs:¬(dU f r).E=0):hY f nm env g r j=dU f r:=by
  unfold hY;rw [if_neg (fun q=>q h),if_pos hs]
/-! ## What stays true -/
structure RI (B:List Bf) (f:Int) (s:Rs):Prop where
  mem:MmOk B s.Mem
  n0:0<=s.N
  n1:s.N<=f
theorem RI.step {B:List Bf} {f:Int} {s:Rs} (h:RI B f s):RI B f (dU f s):=by
  unfold dU
  split
  · exact ⟨h.mem,h.n0,h.n1⟩
  · exact ⟨h.mem,by have:=h.n0;dsimp only;omega,by dsimp only;omega⟩
theorem RI.sto {B:List Bf} {f:Int} {s:Rs} (h:RI B f s) (env:List Bd) (x:St):RI B f (gD s env x):=by
  unfold gD
  split
  · exact ⟨h.mem,h.n0,h.n1⟩
  · split
    · exact ⟨h.mem,h.n0,h.n1⟩
    · split
      · split
        · exact ⟨h.mem,h.n0,h.n1⟩
        · exact ⟨h.mem.write _ _ _,h.n0,h.n1⟩
      · exact ⟨h.mem.write _ _ _,h.n0,h.n1⟩
theorem RI.fold {B:List Bf} {f:Int} {nm:ByteArray} {env:List Bd} {g:List Bd->Rs->Rs} (hg:∀env s,RI B f s->RI B f (g env s)):∀(l:List Nat) {s:Rs},RI B f s->RI B f (l.foldl (hY f nm env g) s)
  |[],s,h=>h
  |k::r,s,h=>by
    rw [List.foldl_cons]
    refine RI.fold hg r ?_
    unfold hY
    split
    · exact h
    · split
      · exact h.step
      · exact hg _ _ h.step
mutual
theorem zLj {B:List Bf} {f:Int}:∀(x:St) (env:List Bd) (s:Rs),RI B f s->RI B f (gX f x env s)
  |.mk o nm mn mk fo i e b,env,s,h=>by
    rw [gX]
    split
    · exact RI.fold (fun env s h=>zNu b env s h) _ h
    · split
      · exact h.step
      · split
        · split
          · exact ⟨h.mem,h.step.n0,h.step.n1⟩
          · split
            · exact zNu b env _ h.step
            · exact h.step
        · exact h.step.sto _ _
theorem zNu {B:List Bf} {f:Int}:∀(l:List St) (env:List Bd) (s:Rs),RI B f s->RI B f (gJ f l env s)
  |[],env,s,h=>by rw [gJ];exact h
  |x::r,env,s,h=>by
    rw [gJ]
    split
    · exact h
    · exact zNu r env _ (zLj x env s h)
end
/-! ## What a valid nest gives -/
theorem prv_ok {n:Ns} {mem:List Nmd} (hn:n.Ok) (h:jY mem n.Bufs=0):MmOk n.Bufs (n.Bufs.map (nN mem)) where
  len:=by rw [List.length_map];exact hn.bufs
  fit:=fun x hx=>by
    obtain ⟨b,hb,rfl⟩:=List.mem_map.1 hx
    obtain ⟨t,e1,e2,e3,e4⟩:=must_inv (prv_mem h b hb)
    have hv:=tn_len e2
    have hd:=zKw t.Dims
    have h6:=(zEw (tn_dims e2)).1
    unfold nN
    rw [e1]
    exact ⟨by show t.Dims.length<=_;omega,by show t.Vals.length<=_;omega⟩
  has:=fun s hs=>by
    have key:∀l:List Bf,(∀b,b∈l->gT mem b=0)->dS l s=true->∃t,dM (l.map (nN mem)) s=some t/\bR t.Dims=0/\(t.Vals.length:Int)=fD t.Dims:=by
      intro l
      induction l with
      |nil=>intro _ q;cases q
      |cons b r ih=>
        intro hb hs
        obtain ⟨t,e1,e2,e3,e4⟩:=must_inv (hb b uD)
        rw [List.map_cons,dM]
        by_cases c:b.Name=s
        · rw [if_pos (show (nN mem b).Name=s from c)]
          refine ⟨t,?_,tn_dims e2,tn_len e2⟩
          unfold nN;rw [e1];rfl
        · rw [if_neg (show ¬(nN mem b).Name=s from c)]
          refine ih (fun y hy=>hb y (List.mem_cons_of_mem _ hy)) ?_
          unfold dS at hs⊢
          rw [List.any_cons,decide_eq_false c,Bool.false_or] at hs
          exact hs
    exact key n.Bufs (prv_mem h) hs
  uni:=fun x hx=>by
    have key:∀(l:List Bf) (b:Bf),b∈l->dM (l.map (nN mem)) b.Name=some ((dM mem b.Name).getD zTn):=by
      intro l
      induction l with
      |nil=>intro b hb;cases hb
      |cons a r ih=>
        intro b hb
        rw [List.map_cons,dM]
        by_cases c:a.Name=b.Name
        · rw [if_pos (show (nN mem a).Name=b.Name from c)]
          show some ((dM mem a.Name).getD zTn)=_
          rw [c]
        · rw [if_neg (show ¬(nN mem a).Name=b.Name from c)]
          rcases List.mem_cons.1 hb with rfl|hb
          · exact absurd rfl c
          · exact ih b hb
    obtain ⟨b,hb,rfl⟩:=List.mem_map.1 hx
    exact key n.Bufs b hb
theorem FB_zero:FB ⟨0,[]⟩:=⟨Nat.zero_le _,zrng⟩
theorem exA_zero:ExA zEx:=fun x hx=>by
  rw [kT] at hx
  obtain rfl:x=zEx:=by simpa [zEx,Ex.Args,bO] using hx
  exact ⟨FB_zero,fun y hy=>(by cases hy),Nat.zero_le _⟩
theorem zIh {e:Ex} (h:bZ e=0):e.Idx.length<=6/\∀x,x∈e.Idx->x.At.length<=6:=by
  have hr:=(zGn h).2.2.1
  unfold mS at hr
  rw [Bool.and_eq_true,Bool.not_eq_true',Bool.or_eq_false_iff,decide_eq_false_iff_not] at hr
  have h2:¬(6:Int)<e.Idx.length:=hr.1.2
  refine ⟨zA,fun x hx=>?_⟩
  have h3:=List.all_eq_true.1 hr.2 x hx
  unfold tH at h3
  rw [Bool.not_eq_true'] at h3
  have h4:=of_decide_eq_false h3
  omega
theorem exA_of {e:Ex} (hp:dJ e=0) (hf:e.allF FB):ExA e:=fun x hx=>by
  obtain ⟨r1,r2⟩:=zIh (zTi hp x hx)
  have hx':∀l,l∈dP x->FB l:=fun l hl=>hf x hx l hl
  exact ⟨hx' _ (by unfold dP;simp),fun y hy=>⟨hx' _ (by unfold dP;exact List.mem_cons_of_mem _ (List.mem_flatMap.2 ⟨y,hy,uD⟩)),fun f hf=>hx' _ (by unfold dP;exact List.mem_cons_of_mem _ (List.mem_flatMap.2 ⟨y,hy,by simp [hf]⟩)),by have:=r2 y hy;omega⟩,zA⟩
theorem stC_of {B:List Bf} {U sc:List ByteArray} {s:St} (h:stE B U sc s=0) (hi:lY FB s.Idx) (he:s.E.allF FB):StC B s:=by
  have hs:fG s=true:=stE_syn h
  obtain ⟨s1,s2⟩:=syn_parts hs
  by_cases h1:s.Op=1
  · have hI:s.Idx=[]:=s1 (by unfold jC;rw [decide_eq_false zA,decide_eq_false zA];rfl)
    exact ⟨fun _=>(zSq h h1).2,fun k=>by omega,fun k=>absurd h1 k,by rw [s2 h1];exact exA_zero,fun x hx=>(by rw [hI] at hx;cases hx),by rw [hI];exact Nat.zero_le _⟩
  · by_cases h4:s.Op=4
    · have hI:s.Idx=[]:=s1 (by unfold jC;rw [decide_eq_false zA,decide_eq_false zA];rfl)
      have hc:=zSr h h4
      have hic:bE s.E=true:=by
        rw [stE_i hs h4] at h
        cases c:bE s.E with
        |true=>rfl
        |false=>
          by_cases k1:(dK B sc s.E).2=0
          · rw [ifE_10 k1 c] at h;cases h
          · rw [ifE_x k1] at h;exact absurd h k1
      exact ⟨fun k=>absurd k h1,fun _=>⟨zDa hc.1,hic⟩,fun _ k=>absurd h4 k,exA_of (zDa hc.1) he,fun x hx=>(by rw [hI] at hx;cases hx),by rw [hI];exact Nat.zero_le _⟩
    · rw [stE_s hs h1 h4] at h
      have k1:(dK B sc (rdE s)).2=0:=by
        by_cases c:(dK B sc (rdE s)).2=0
        · exact c
        · rw [storeE_1 c] at h;exact absurd h c
      have k2:¬((gU B s.Name).Use=1∨(s.Op=3/\(s.Fold<1∨4<s.Fold))):=fun c=>by rw [zSp k1 c] at h;cases h
      have k3:(dK B sc s.E).2=0:=by
        by_cases c:(dK B sc s.E).2=0
        · exact c
        · rw [storeE_2 k1 k2 c] at h;exact absurd h c
      have k4:¬(bE s.E=true∨¬(dK B sc s.E).1=(gU B s.Name).T):=fun c=>by rw [zUh k1 k2 k3 c] at h;cases h
      have hp:=zDa (zMx k3).1
      have hr:=zDa (zMx k1).1
      have hself:rdE s∈bW (rdE s):=by rw [kT];simp
      have hn:=zQg.1 (zMx k1).2 (rdE s) hself
      have hB:dS B s.Name=true:=by
        cases c:dS B s.Name with
        |true=>rfl
        |false=>
          cases d:lD sc (rdE s) with
          |true=>rw [nodeN_n d rfl c] at hn;cases hn
          |false=>rw [nodeN_9 d] at hn;cases hn
      obtain ⟨r1,r2⟩:=zIh (zTi hr (rdE s) hself)
      have r1':s.Idx.length<=6:=r1
      have hcn:bE s.E=false:=by
        cases c:bE s.E with
        |true=>exact absurd (.inl c) k4
        |false=>rfl
      exact ⟨fun k=>absurd k h1,fun k=>absurd k h4,fun _ _=>⟨hp,hcn,hB⟩,exA_of hp he,fun x hx=>⟨(hi x hx).1,(hi x hx).2,by have:=r2 x hx;omega⟩,zA⟩
mutual
theorem stAll_C {B:List Bf}:∀s:St,mP (fun s=>∃U sc,stE B U sc s=0) s->s.allF FB->mP (StC B) s
  |.mk o nm mn mk fo i e b,h,hf=>by
    rw [mP] at h⊢
    rw [St.allF] at hf
    obtain ⟨⟨U,sc,h1⟩,h2⟩:=h
    exact ⟨stC_of h1 hf.1 hf.2.1,stsAll_C b h2 hf.2.2⟩
theorem stsAll_C {B:List Bf}:∀l:List St,dQ (fun s=>∃U sc,stE B U sc s=0) l->bS FB l->dQ (StC B) l
  |[],_,_=>by rw [dQ];trivial
  |s::r,h,hf=>by
    rw [dQ] at h⊢
    rw [bS] at hf
    exact ⟨stAll_C s h.1 hf.1,stsAll_C r h.2 hf.2⟩
end
theorem allSs_impR {P Q:Lf->Prop} (hPQ:∀l,P l->Q l) {l:List St} (h:bS P l):bS Q l:=by
  have:∀s:St,s.allF P->s.allF Q:=by
    intro s
    induction s using St.ind with
    |_ s ih=>
      intro hs
      cases s with
      |mk o nm mn mk fo i e b=>
        rw [St.allF] at hs⊢
        exact ⟨fun x hx=>⟨hPQ _ (hs.1 x hx).1,fun y hy=>hPQ _ ((hs.1 x hx).2 y hy)⟩,fun x hx y hy=>hPQ _ (hs.2.1 x hx y hy),zPm fun a ha=>ih a ha (wO hs.2.2 a ha)⟩
  exact zPm fun s hs=>this s (wO h s hs)
theorem valid_C {n:Ns} (h:(bJ n).2=0) (hr:bS Lf.rng n.Body) (hw:bC n.Body<=1000000):dQ (StC n.Bufs) n.Body:=by
  have hf:bS FB n.Body:=allSs_impR (fun l hl=>⟨Nat.le_trans hl.1 zB,hl.2⟩) (zPn n.Body (zJo hw) hr)
  exact stsAll_C n.Body (valid_all h) hf
/-! ## The law on redundant guards -/
theorem grd_law {n:Ns} {mem:List Nmd} (hv:(bJ n).2=0) (h:(rnN n mem 20000).2.2=0):(rnN n mem 20000).2.2=(rnN ⟨n.Bufs,(fT [] n.Body).1⟩ mem 60000).2.2/\(rnN n mem 20000).1=(rnN ⟨n.Bufs,(fT [] n.Body).1⟩ mem 60000).1:=by
  have hv2:=clr_valid hv
  have hf:¬((20000:Int)<0∨(1048576:Int)<20000):=by decide
  have hf2:¬((60000:Int)<0∨(1048576:Int)<60000):=by decide
  by_cases h3:jY mem n.Bufs=0
  · by_cases h4:(sJ n mem 20000).E=0
    · obtain ⟨e1,e2,e3⟩:=zNv (B:=n.Bufs) (f:=20000) (f':=60000) zB n.Body [] [] [] 0 [] [] ⟨n.Bufs.map (nN mem),0,0⟩ ⟨n.Bufs.map (nN mem),0,0⟩ (zMl hv).2.2.2 (fun t ht=>by simp [dD] at ht) rfl ⟨rfl,rfl,Int.le_refl _⟩ h4
      rw [run_0 hv hf h3 h4,run_0 (n:=⟨n.Bufs,(fT [] n.Body).1⟩) hv2 hf2 h3 e2]
      exact ⟨O,e1.symm⟩
    · rw [run_4 hv hf h3 h4] at h;exact absurd h h4
  · rw [run_3 hv hf h3] at h;exact absurd h h3
theorem stC_setB {B:List Bf} {s:St} (h:StC B s) (b:List St):StC B (lB s b):=⟨h.loop,h.cond,h.sto,h.ex,h.ix,h.len⟩
theorem stsAll_app {P:St->Prop}:∀{a b:List St},dQ P a->dQ P b->dQ P (a++b)
  |[],b,_,h=>h
  |x::r,b,h1,h2=>by
    rw [dQ] at h1
    rw [List.cons_append,dQ]
    exact ⟨h1.1,stsAll_app h1.2 h2⟩
mutual
theorem clrS_C {B:List Bf}:∀(s:St) (A:List Bd),mP (StC B) s->dQ (StC B) (pK A s).1
  |.mk o nm mn mk fo i e b,A,h=>by
    rw [mP] at h
    by_cases r:o=4/\nL A e=true
    · rw [zPd (s:=.mk o nm mn mk fo i e b) r];exact clrL_C b _ h.2
    · have eq:(pK A (.mk o nm mn mk fo i e b)).1=[.mk o nm mn mk fo i e (fT (nT A (.mk o nm mn mk fo i e b)) b).1]:=congrArg Prod.fst (zLb (s:=.mk o nm mn mk fo i e b) r)
      rw [eq,dQ,mP,dQ]
      exact ⟨⟨stC_setB h.1 _,clrL_C b _ h.2⟩,T⟩
theorem clrL_C {B:List Bf}:∀(l:List St) (A:List Bd),dQ (StC B) l->dQ (StC B) (fT A l).1
  |[],A,h=>by rw [fT];exact h
  |s::r,A,h=>by
    rw [dQ] at h
    rw [fT]
    exact stsAll_app (clrS_C s A h.1) (clrL_C r A h.2)
end
theorem rem_wt {n:Ns} (hn:n.Ok) (hw:bC n.Body<=900000):(pV n).1.Ok/\bC (pV n).1.Body<=900000:=by
  unfold pV
  split
  · have h1:=(zPu [] n.Body).2
    have h2:=hn.body
    exact ⟨⟨hn.bufs,hn.dims,by show bC (bK [] n.Body).1.1<=_;omega⟩,by show bC (bK [] n.Body).1.1<=_;omega⟩
  · exact ⟨⟨by show 0<=_;omega,fun b hb=>(by cases hb),by show bC []<=_;rw [bC];omega⟩,Nat.zero_le _⟩
theorem rem_eqN {n:Ns} (hv:(bJ n).2=0):(pV n).1=⟨n.Bufs,(fT [] n.Body).1⟩:=by rw [rem_is,remR_2 hv]
theorem run_fit {n:Ns} {mem:List Nmd} {f:Int} (hn:n.Ok):(rnN n mem f).1.length<=140737488355328/\∀x,x∈(rnN n mem f).1->x.T.Dims.length<=17592186044416/\x.T.Vals.length<=140737488355328:=by
  unfold rnN
  split
  · exact ⟨Nat.zero_le _,fun x hx=>(by cases hx)⟩
  · split
    · exact ⟨Nat.zero_le _,fun x hx=>(by cases hx)⟩
    · next hf=>
      split
      · exact ⟨Nat.zero_le _,fun x hx=>(by cases hx)⟩
      · next hp=>
        split
        · exact ⟨Nat.zero_le _,fun x hx=>(by cases hx)⟩
        · have hR:RI n.Bufs f (sJ n mem f):=zNu n.Body [] _ ⟨prv_ok hn (Decidable.not_not.1 hp),Int.le_refl _,by show (0:Int)<=f;omega⟩
          exact ⟨Nat.le_trans hR.mem.len zB,fun x hx=>⟨(hR.mem.fit x hx).1,Nat.le_trans (hR.mem.fit x hx).2 zB⟩⟩
end Go.W
end
