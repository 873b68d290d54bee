/-
  The guards that the program removes are those that the reference removes (36.4),in plain Lean.
  Conditions: none.
-/
import Derived.Test.YtlfjpejkoccibaaGreatDoorPK
set_option linter.unusedSimpArgs false
set_option linter.unusedVariables false
set_option maxRecDepth 10000
namespace Go.W
open Go Go.Eng Go.Proofs Go.L41 Go.Br
theorem mget_put' {m:MM} (k s:ByteArray) (a:Int):mget (mput m k a) s=if k=s then some a else mget m s:=by
  induction m with
  |nil=>rfl
  |cons x r ih=>
    obtain ⟨k',b⟩:=x
    rw [mput]
    by_cases c:k'=k
    · rw [if_pos c,mget,mget,c]
      by_cases d:k=s
      · rw [if_pos d,if_pos d]
      · rw [if_neg d,if_neg d,if_neg d]
    · rw [if_neg c,mget,ih,mget]
      by_cases d:k'=s
      · rw [if_pos d,if_pos d,if_neg (fun e=>c (d.trans e.symm))]
      · rw [if_neg d,if_neg d]
/-! ## Sums that may be too large -/
theorem times_over {b c q:Int} (hb:r64 b) (hq:q=b*c) (hc:0<c) (hc2:c<=65535) (h:¬r64 q):¬w64 (Int.tdiv (w64 q) c)=b:=by
  intro e
  rw [hq] at e h
  exact h (tdiv_back hb (by unfold r64;omega) (by omega) (by omega) e)
theorem plus_yes {lo b c:Int} (hb:r64 b) (hn:b<0) (hlo:r64 lo) (hc:0<=c) (hc2:c<=65535) (h:(timesT b c).2=true/\(plusT lo (timesT b c).1).2=true):plusP lo b c=((plusT lo (timesT b c).1).1,true):=by
  by_cases c0:c=0
  · subst c0
    have e:timesT b 0=(0,true):=by unfold timesT;rw [Int.mul_zero,if_pos (by unfold r64;omega)]
    rw [e] at h⊢
    rw [plusT_1 h.2]
    unfold plusP
    rw [if_pos rfl];simp
  · obtain ⟨q,hq⟩:∃q,q=b*c:=⟨_,rfl⟩
    have hq0:q<0:=by rw [hq];exact Int.mul_neg_of_neg_of_pos hn (by omega)
    have hr:r64 q:=by
      by_cases k:r64 q
      · exact k
      · rw [hq] at k;unfold timesT at h;rw [if_neg k] at h;cases h.1
    have e:timesT b c=(q,true):=by unfold timesT;rw [←hq,if_pos hr]
    rw [e] at h⊢
    rw [plusT_1 h.2]
    have hs:r64 (lo+q):=by have:=h.2;rw [zGh] at this;simpa using this
    unfold plusP
    rw [if_neg c0,←hq,zGy hr,if_pos (by rw [hq,Int.mul_tdiv_cancel b c0,zGy hb]),zGy hs]
    rw [decide_eq_true (by omega)]
theorem plus_no {lo b c:Int} (hb:r64 b) (hn:b<0) (hlo:r64 lo) (hc:0<=c) (hc2:c<=65535) (h:¬((timesT b c).2=true/\(plusT lo (timesT b c).1).2=true)):(plusP lo b c).2=false:=by
  by_cases c0:c=0
  · subst c0
    have e:timesT b 0=(0,true):=by unfold timesT;rw [Int.mul_zero,if_pos (by unfold r64;omega)]
    rw [e] at h
    exact absurd ⟨O,by rw [zGh];simpa using hlo⟩ h
  · obtain ⟨q,hq⟩:∃q,q=b*c:=⟨_,rfl⟩
    have hq0:q<0:=by rw [hq];exact Int.mul_neg_of_neg_of_pos hn (by omega)
    unfold plusP
    rw [if_neg c0,←hq]
    by_cases hr:r64 q
    · have e:timesT b c=(q,true):=by unfold timesT;rw [←hq,if_pos hr]
      rw [e,zGh] at h
      have hs:¬r64 (lo+q):=fun k=>h ⟨rfl,by simpa using k⟩
      rw [zGy hr,if_pos (by rw [hq,Int.mul_tdiv_cancel b c0,zGy hb])]
      show decide (w64 (lo+q)<lo)=false
      rw [decide_eq_false_iff_not,zHn]
      unfold r64 at *
      omega
    · rw [if_neg (times_over hb hq (by omega) hc2 hr)]
theorem lowF_false (m:MM):∀(l:List Mono) (lo:Int),lowF m l lo false=(lo,false)
  |[],lo=>rfl
  |x::r,lo=>by rw [lowF,if_neg (by simp),lowF_false m r lo]
def scM (m:MM) (A:List Bd) (t:ByteArray):Prop:=mget m t=some (valB A t)/\1<=valB A t/\valB A t<=65536
theorem low_eq {m:MM} {A:List Bd}:∀(l:List Mono) (lo:Int),r64 lo->(∀x,x∈l->r64 x.By)->(∀x,x∈l->scM m A x.Name)->(lowF m l lo true).2=(lowR A l lo).2/\((lowR A l lo).2=true->(lowF m l lo true).1=(lowR A l lo).1)
  |[],lo,_,_,_=>⟨rfl,fun _=>rfl⟩
  |x::r,lo,hlo,hb,hs=>by
    have ih:=fun lo' (h:r64 lo')=>low_eq (m:=m) (A:=A) r lo' h (fun y hy=>hb y (by simp [hy])) (fun y hy=>hs y (by simp [hy]))
    have hbx:=hb x (by simp)
    obtain ⟨h1,h2,h3⟩:=hs x (by simp)
    rw [lowF,lowR]
    by_cases c:0<x.By
    · rw [if_neg (by omega),if_pos c];exact ih lo hlo
    · rw [if_neg c]
      have e:w64 ((mget m x.Name).getD 0-1)=w64 (valB A x.Name-1):=by rw [h1];rfl
      have e2:w64 (valB A x.Name-1)=valB A x.Name-1:=zGy (by unfold r64;omega)
      by_cases c0:x.By=0
      · rw [if_neg (by omega)]
        have e3:timesT x.By (w64 (valB A x.Name-1))=(0,true):=by rw [c0];unfold timesT;rw [Int.zero_mul,if_pos (by unfold r64;omega)]
        have e4:plusT lo 0=(lo,true):=by unfold plusT;rw [Int.add_zero,if_pos hlo]
        rw [e3,e4,if_pos ⟨rfl,rfl⟩]
        exact ih lo hlo
      · rw [if_pos ⟨by omega,rfl⟩,e,e2]
        by_cases k:(timesT x.By (valB A x.Name-1)).2=true/\(plusT lo (timesT x.By (valB A x.Name-1)).1).2=true
        · rw [if_pos k,plus_yes hbx (by omega) hlo (by omega) (by omega) k]
          exact ih _ (plusT_r _ _)
        · rw [if_neg k,plus_no hbx (by omega) hlo (by omega) (by omega) k,lowF_false]
          exact ⟨O,fun h=>by cases h⟩
/-! ## Names of sums -/
theorem zPq {sc:List ByteArray} {l:Lf} (h:inSc sc l=true) {x:Mono} (hx:x∈l.L):hasB sc x.Name=true:=by
  unfold inSc at h;exact List.all_eq_true.1 h x hx
theorem zL_in (sc:List ByteArray):inSc sc zL=true:=rfl
theorem scale_in {sc:List ByteArray} {l:Lf} (h:inSc sc l=true) (b:Int):inSc sc (scaleL l b).1=true:=by
  unfold scaleL
  split
  · split
    · exact zL_in sc
    · split
      · unfold inSc scaleM
        rw [List.all_eq_true]
        intro y hy
        obtain ⟨x,hx,rfl⟩:=List.mem_map.1 hy
        show hasB sc x.Name=true
        exact zPq h hx
      · exact zL_in sc
  · exact zL_in sc
theorem add_in {sc:List ByteArray} {a b:Lf} (ha:inSc sc a=true) (hb:inSc sc b=true):inSc sc (addL a b).1=true:=by
  unfold addL
  split
  · unfold addT
    split
    · unfold inSc
      rw [List.all_eq_true]
      intro y hy
      unfold sumW at hy
      obtain ⟨t,ht,e⟩:=List.mem_filterMap.1 hy
      split at e
      · cases e
      · injection e with e
        rw [←e]
        rcases zCc _ _ _ (Nat.le_refl _) t ht with ⟨x,hx,k⟩|⟨x,hx,k⟩
        · show hasB sc t.1=true;rw [←k];exact zPq ha hx
        · show hasB sc t.1=true;rw [←k];exact zPq hb hx
    · exact zL_in sc
  · exact zL_in sc
/-! ## Conditions -/
theorem leaf_eq {m:MM} {A:List Bd} {sc:List ByteArray} (hI:∀t,hasB sc t=true->scM m A t) (o:Int) {a b:Ex} (ha:inSc sc a.Lin=true) (hb:inSc sc b.Lin=true):leafP m o a b=leafR A o a b:=by
  unfold leafP leafR
  by_cases c:(((!decide (o=13)&& !decide (o=14))|| !decide (a.Op=2))|| !decide (b.Op=2))=true
  · rw [if_pos c,if_pos c]
  · rw [if_neg c,if_neg c]
    by_cases c1:(scaleL a.Lin (-1)).2=0
    · by_cases c2:(addL b.Lin (scaleL a.Lin (-1)).1).2=0
      · rw [if_pos c1,if_pos c2,if_pos ⟨c1,c2⟩]
        have hd:=add_in hb (scale_in ha (-1))
        obtain ⟨hdr,_⟩:=zTt b.Lin (scaleL a.Lin (-1)).1
        generalize (addL b.Lin (scaleL a.Lin (-1)).1).1=d at *
        obtain ⟨h1,h2⟩:=low_eq (m:=m) (A:=A) d.L d.K hdr.1 hdr.2 (fun x hx=>hI _ (zPq hd hx))
        rw [h1]
        cases k:(lowR A d.L d.K).2 with
        |false=>rfl
        |true=>rw [h2 k]
      · rw [if_pos c1,if_neg c2,if_neg (fun h=>c2 h.2)]
    · rw [if_neg c1,if_neg (fun h=>c1 h.1)]
theorem getD_in {P:Ex->Prop} {l:List Ex} (h:∀a,a∈l->P a) (hz:P zEx) (k:Nat):P (l.getD k zEx):=by
  rw [List.getD_eq_getElem?_getD]
  cases e:l[k]? with
  |none=>exact hz
  |some a=>exact h a (zZ e)
theorem red_eq {m:MM} {A:List Bd} {sc:List ByteArray} (hI:∀t,hasB sc t=true->scM m A t) (e:Ex):(∀x,x∈nodes e->inSc sc x.Lin=true)->redP m e=redR A e:=by
  induction e using Ex.ind with
  |_ e ih=>
    intro h
    have ha:∀a,a∈e.Args->inSc sc a.Lin=true:=fun a ha=>h a (by rw [wH];exact List.mem_cons_of_mem _ (zIj ha (by rw [wH];simp)))
    have hm:e.Args.map (redP m)=e.Args.map (redR A):=List.map_congr_left fun a ha=>ih a ha fun x hx=>h x (by rw [wH];exact List.mem_cons_of_mem _ (zIj ha hx))
    cases e with
    |mk o n v t l i Q=>
      rw [redP,redR,redL_map,zRp]
      simp only [Ex.Args] at hm ha
      rw [hm,leaf_eq hI o (getD_in (P:=fun a=>inSc sc a.Lin=true) ha rfl 0) (getD_in (P:=fun a=>inSc sc a.Lin=true) ha rfl 1)]
/-! ## Statements -/
theorem stE_syn {B:List Bf} {U sc:List ByteArray} {s:St} (h:stE B U sc s=0):synSt s=true:=by
  cases c:synSt s with
  |true=>rfl
  |false=>rw [stE_5 c] at h;cases h
theorem stE_loop {B:List Bf} {U sc:List ByteArray} {s:St} (h:stE B U sc s=0) (ho:s.Op=1):hasB U s.Name=false/\1<=s.Many/\s.Many<=65536:=by
  obtain ⟨_,_,h1,h2,_⟩:=loop_facts h ho
  rw [stE_l (stE_syn h) ho] at h
  unfold loopE at h
  refine ⟨?_,h1,h2⟩
  cases k:hasB U s.Name with
  |false=>rfl
  |true=>
    exfalso
    by_cases q:isNameB s.Name=true
    · rw [if_pos q,if_pos (.inr k)] at h;exact absurd h (by decide)
    · rw [if_neg q] at h;exact absurd h (by decide)
theorem stE_cond {B:List Bf} {U sc:List ByteArray} {s:St} (h:stE B U sc s=0) (ho:s.Op=4):validE s.E=0/\nodesN B sc (nodes s.E)=0:=by
  have hs:=stE_syn h
  unfold stE at h
  rw [if_pos hs,if_neg (by omega),if_pos ho] at h
  unfold ifE at h
  split at h
  · next c=>
    by_cases h1:validE s.E=0
    · refine ⟨h1,?_⟩
      by_cases h2:nodesN B sc (nodes s.E)=0
      · exact h2
      · rw [exprT_2 h1 h2] at c;exact absurd c h2
    · rw [exprT_1 h1] at c;exact absurd c h1
  · next c=>exact absurd h c
theorem nodes_in {B:List Bf} {sc:List ByteArray} {e:Ex} (h:nodesN B sc (nodes e)=0):∀x,x∈nodes e->inSc sc x.Lin=true:=fun x hx=>by
  have h1:=nodesN_all.1 h x hx
  unfold nodeN at h1
  split at h1
  · next c=>unfold nodeSc at c;rw [Bool.and_eq_true] at c;exact c.1
  · cases h1
theorem ungS_2 (m:MM) (s:St):(ungS m s).2=(ungL (mIn m s) s.Body).2:=by
  by_cases h:s.Op=4/\redP (ungL (mIn m s) s.Body).2 s.E=true
  · rw [zPd h]
  · rw [zQq h]
theorem hasB_nextU {U:List ByteArray} (s:St) {t:ByteArray} (h:hasB U t=true):hasB (nextU U s) t=true:=by
  unfold nextU;split
  · rw [hasB_app,h,Bool.true_or]
  · exact h
theorem chkS_parts {B:List Bf} {U sc:List ByteArray} {here:List Int} {s:St} (h:(chkS B U sc here s).E=0):stE B U sc s=0/\chkS B U sc here s=chkL B (nextU U s) (nextU sc s) here 0 s.Body:=by
  by_cases c:stE B U sc s=0
  · exact ⟨c,chkS_in c⟩
  · rw [chkS_no c] at h;exact absurd h c
theorem chkL_parts {B:List Bf} {U sc:List ByteArray} {way:List Int} {i:Int} {s:St} {r:List St} (h:(chkL B U sc way i (s::r)).E=0):(chkS B U sc (way++[i]) s).E=0/\chkL B U sc way i (s::r)=chkL B (chkS B U sc (way++[i]) s).U sc way (i+1) r:=by
  rw [chkL] at h⊢
  by_cases c:(chkS B U sc (way++[i]) s).E=0
  · rw [if_pos c];exact ⟨c,rfl⟩
  · rw [if_neg c] at h;exact absurd h c
mutual
theorem ungS_fr (B:List Bf):∀(s:St) (U sc:List ByteArray) (here:List Int) (m:MM),(chkS B U sc here s).E=0->∀t,hasB U t=true->hasB (chkS B U sc here s).U t=true/\mget (ungS m s).2 t=mget m t
  |.mk o nm mn mk fo i e b,U,sc,here,m,h,t,ht=>by
    obtain ⟨h1,h2⟩:=chkS_parts h
    rw [h2] at h⊢
    rw [ungS_2]
    obtain ⟨h3,h4⟩:=ungL_fr B b _ _ here 0 (mIn m (.mk o nm mn mk fo i e b)) h t (hasB_nextU _ ht)
    refine ⟨h3,h4.trans ?_⟩
    unfold mIn
    split
    · next c=>
      rw [mget_put',if_neg (fun k=>?_)]
      have:=(stE_loop h1 c).1
      rw [k,ht] at this;cases this
    · rfl
theorem ungL_fr (B:List Bf):∀(l:List St) (U sc:List ByteArray) (way:List Int) (i:Int) (m:MM),(chkL B U sc way i l).E=0->∀t,hasB U t=true->hasB (chkL B U sc way i l).U t=true/\mget (ungL m l).2 t=mget m t
  |[],U,sc,way,i,m,h,t,ht=>by rw [chkL,ungL];exact ⟨ht,rfl⟩
  |s::r,U,sc,way,i,m,h,t,ht=>by
    obtain ⟨h1,h2⟩:=chkL_parts h
    rw [h2] at h⊢
    obtain ⟨h3,h4⟩:=ungS_fr B s U sc _ m h1 t ht
    obtain ⟨h5,h6⟩:=ungL_fr B r _ sc way (i+1) (ungS m s).2 h t h3
    rw [ungL]
    exact ⟨h5,h6.trans h4⟩
end
structure InvM (m:MM) (A:List Bd) (sc U:List ByteArray):Prop where
  val:∀t,hasB sc t=true->scM m A t
  sub:∀t,hasB sc t=true->hasB U t=true
theorem inv_in {B:List Bf} {m:MM} {A:List Bd} {sc U:List ByteArray} {s:St} (h:InvM m A sc U) (hs:stE B U sc s=0):InvM (mIn m s) (bdIn A s) (nextU sc s) (nextU U s):=by
  unfold mIn bdIn nextU
  by_cases c:s.Op=1
  · rw [if_pos c,if_pos c,if_pos c,if_pos c]
    obtain ⟨h1,h2,h3⟩:=stE_loop hs c
    refine ⟨fun t ht=>?_,fun t ht=>?_⟩
    · unfold scM
      rw [mget_put',valB_app]
      by_cases k:s.Name=t
      · rw [if_pos k,if_pos k];exact ⟨rfl,h2,h3⟩
      · rw [if_neg k,if_neg k]
        rw [hasB_app,zFp,decide_eq_false k] at ht
        exact h.val t (by simpa [hasB] using ht)
    · rw [hasB_app,Bool.or_eq_true] at ht⊢
      rcases ht with ht|ht
      · exact .inl (h.sub t ht)
      · exact .inr ht
  · rw [if_neg c,if_neg c,if_neg c,if_neg c];exact h
mutual
theorem ungS_clr (B:List Bf):∀(s:St) (U sc:List ByteArray) (here:List Int) (m:MM) (A:List Bd),(chkS B U sc here s).E=0->InvM m A sc U->(ungS m s).1=clrS A s
  |.mk o nm mn mk fo i e b,U,sc,here,m,A,h,hI=>by
    obtain ⟨h1,h2⟩:=chkS_parts h
    rw [h2] at h
    have ih:=ungL_clr B b _ _ here 0 (mIn m (.mk o nm mn mk fo i e b)) (bdIn A (.mk o nm mn mk fo i e b)) h (inv_in hI h1)
    by_cases ho:o=4
    · have em:mIn m (.mk o nm mn mk fo i e b)=m:=if_neg (by show ¬o=1;omega)
      have eU:nextU U (.mk o nm mn mk fo i e b)=U:=if_neg (by show ¬o=1;omega)
      have es:nextU sc (.mk o nm mn mk fo i e b)=sc:=if_neg (by show ¬o=1;omega)
      have fr:=ungL_fr B b _ _ here 0 m h
      rw [eU] at fr
      have hg:redP (ungL (mIn m (.mk o nm mn mk fo i e b)) b).2 e=redR A e:=red_eq (sc:=sc) (fun t ht=>by
        have:=hI.val t ht
        unfold scM at this⊢
        rw [em,(fr t (hI.sub t ht)).2];exact this) e (nodes_in (stE_cond h1 ho).2)
      by_cases hr:redR A e=true
      · rw [zPd (s:=.mk o nm mn mk fo i e b) ⟨ho,hg.trans hr⟩,clrS_yes (s:=.mk o nm mn mk fo i e b) ⟨ho,hr⟩]
        show ((ungL _ b).1.1,(ungL _ b).1.2+1)=_
        rw [ih];rfl
      · rw [zQq (s:=.mk o nm mn mk fo i e b) (fun k=>hr (hg.symm.trans k.2)),clrS_no (s:=.mk o nm mn mk fo i e b) (fun k=>hr k.2)]
        show ([setB _ (ungL _ b).1.1],(ungL _ b).1.2)=_
        rw [ih];rfl
    · rw [zQq (s:=.mk o nm mn mk fo i e b) (fun k=>ho k.1),clrS_no (s:=.mk o nm mn mk fo i e b) (fun k=>ho k.1)]
      show ([setB _ (ungL _ b).1.1],(ungL _ b).1.2)=_
      rw [ih];rfl
theorem ungL_clr (B:List Bf):∀(l:List St) (U sc:List ByteArray) (way:List Int) (i:Int) (m:MM) (A:List Bd),(chkL B U sc way i l).E=0->InvM m A sc U->(ungL m l).1=clrL A l
  |[],U,sc,way,i,m,A,h,hI=>by rw [ungL,clrL]
  |s::r,U,sc,way,i,m,A,h,hI=>by
    obtain ⟨h1,h2⟩:=chkL_parts h
    rw [h2] at h
    have fr:=ungS_fr B s U sc _ m h1
    rw [ungL,clrL,ungS_clr B s U sc _ m A h1 hI,ungL_clr B r _ sc way (i+1) (ungS m s).2 A h ⟨fun t ht=>by
      have:=hI.val t ht
      unfold scM at this⊢
      rw [(fr t (hI.sub t ht)).2];exact this,fun t ht=>(fr t (hI.sub t ht)).1⟩]
end
theorem rem_eq {n:Ns} (h:(validN n).2=0):(ungL [] n.Body).1=clrL [] n.Body:=
  ungL_clr n.Bufs n.Body [] [] [] 0 [] [] (zQn h).2.2.2 ⟨fun t ht=>by simp [hasB] at ht,fun t ht=>by simp [hasB] at ht⟩
theorem rem_is (n:Ns):remT n=remR n:=by
  by_cases h:(validN n).2=0
  · rw [remT_2 h,remR_2 h,rem_eq h]
  · rw [remT_1 h,remR_1 h]
/-! ## The conditions of a valid nest have two operands -/
theorem errs_all:∀{l:List Ex},errsL l=0->∀x,x∈l->nodeErr x=0
  |y::r,h,x,hx=>by
    rw [errsL] at h
    by_cases c:nodeErr y=0
    · rw [decide_eq_true c,cond_true] at h
      rcases List.mem_cons.1 hx with rfl|hx
      · exact c
      · exact errs_all h x hx
    · rw [decide_eq_false c,cond_false] at h;exact absurd h c
theorem valid_ar {e:Ex} (h:validE e=0):arE e=true:=by
  unfold arE
  rw [List.all_eq_true]
  intro x hx
  have h1:=errs_all (zIz h) x hx
  obtain ⟨_,_,h2,_⟩:=zPn h1
  unfold rankE at h2
  rw [Bool.and_eq_true] at h2
  have h3:(x.Args.length:Int)=nArgs x.Op:=by
    have:=h2.1
    simp only [Bool.not_eq_true',Bool.or_eq_false_iff,Bool.not_eq_false',decide_eq_true_eq] at this
    exact this.1
  by_cases c:x.Op=13∨x.Op=14∨x.Op=16
  · have h4:nArgs x.Op=2:=by unfold nArgs;rw [if_neg (by omega),if_neg (by omega),if_neg (by omega)]
    have h5:2<=x.Args.length:=by omega
    simp [h5]
  · have:¬x.Op=13/\¬x.Op=14/\¬x.Op=16:=⟨fun k=>c (.inl k),fun k=>c (.inr (.inl k)),fun k=>c (.inr (.inr k))⟩
    simp [this.1,this.2.1,this.2.2]
mutual
theorem gdS_ok {B:List Bf}:∀(s:St),stAll (fun s=>∃U sc,stE B U sc s=0) s->gdS s=true
  |.mk o nm mn mk fo i e b,h=>by
    rw [stAll] at h
    obtain ⟨⟨U,sc,h1⟩,h2⟩:=h
    rw [gdS,gdL_ok b h2,Bool.and_true]
    by_cases c:o=4
    · have e1:arE e=true:=valid_ar (stE_cond h1 c).1
      rw [e1,Bool.or_true]
    · simp [c]
theorem gdL_ok {B:List Bf}:∀(l:List St),stsAll (fun s=>∃U sc,stE B U sc s=0) l->gdL l=true
  |[],_=>by rw [gdL]
  |s::r,h=>by
    rw [stsAll] at h
    rw [gdL,gdS_ok s h.1,gdL_ok r h.2];rfl
end
theorem gd_valid {n:Ns} (h:(validN n).2=0):gdL n.Body=true:=gdL_ok n.Body (valid_all h)
end Go.W
