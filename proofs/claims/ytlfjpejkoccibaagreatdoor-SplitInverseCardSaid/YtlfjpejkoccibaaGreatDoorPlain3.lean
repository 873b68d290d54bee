/-
  Forms by their coefficients; a loop split by a divisor and collapsed again,form by form and statement by statement (36.5).
  A loop split by a divisor and collapsed again: the nest as a whole (36.5).
  Split by a divisor,collapsed again: the nest as it was (36.5).
  Conditions: none.
-/
import Derived.Test.YtlfjpejkoccibaaGreatDoorPlain2
set_option linter.unusedSimpArgs false
set_option linter.unusedVariables false
section
set_option maxRecDepth 10000
namespace Go.Br
open Go Go.Eng Go.L41
/-! ## Coefficients -/
theorem zEz:∀{l:List Mono} {s:ByteArray},(∀m,m∈l->m.Name≠s)->coeffL l s=0
 |[],_,_=>rfl
 |x::r,s,h=>by rw [coeffL,if_neg (h x (by simp))];exact zEz fun m hm=>h m (by simp [hm])
theorem coeff_mem:∀{p:Option ByteArray} {l:List Mono} {m:Mono},monosOk p l=true->m∈l->coeffL l m.Name=m.By
 |p,x::r,m,h,hm=>by
  simp only [monosOk,Bool.and_eq_true] at h
  rcases List.mem_cons.1 hm with rfl|hm
  ·exact hd_c _ _
  ·rw [tl_c (zCn h.2 m hm)];exact coeff_mem h.2 hm
theorem last_coeff {p:Option ByteArray} {l:List Mono} (s:ByteArray) (h:monosOk p l=true):lastBy l s=coeffL l s:=by
 by_cases c:lastBy l s=0
 ·rw [c,zEz (last_zero h c)]
 ·obtain ⟨m,hm,e1,e2⟩:=lastBy_mem c
  have:=coeff_mem h hm
  rw [e1] at this
  rw [this,e2]
theorem lin_ext:∀{p q:Option ByteArray} {a b:List Mono},monosOk p a=true->monosOk q b=true->(∀t,coeffL a t=coeffL b t)->a=b
 |_,_,[],[],_,_,_=>rfl
 |_,_,x::r,[],ha,_,h=>by
  have:=h x.Name
  rw [hd_c] at this
  simp only [monosOk,Bool.and_eq_true,Bool.not_eq_true',decide_eq_false_iff_not] at ha
  exact absurd this ha.1.1.2
 |_,_,[],y::s,_,hb,h=>by
  have:=h y.Name
  rw [hd_c] at this
  simp only [monosOk,Bool.and_eq_true,Bool.not_eq_true',decide_eq_false_iff_not] at hb
  exact absurd this.symm hb.1.1.2
 |p,q,x::r,y::s,ha,hb,h=>by
  simp only [monosOk,Bool.and_eq_true,Bool.not_eq_true',decide_eq_false_iff_not] at ha hb
  have ax:=zCn ha.2
  have ay:=zCn hb.2
  have e:x.Name=y.Name:=by
   apply zJs
   ·cases k:strLt x.Name y.Name with
    |false=>rfl
    |true=>
     have h1:=h x.Name
     rw [hd_c,zHz (l:=y::s) (fun m hm=>by
      rcases List.mem_cons.1 hm with rfl|hm
      ·exact k
      ·exact zCl k (ay m hm))] at h1
     exact absurd h1 ha.1.1.2
   ·cases k:strLt y.Name x.Name with
    |false=>rfl
    |true=>
     have h1:=h y.Name
     rw [hd_c,zHz (l:=x::r) (fun m hm=>by
      rcases List.mem_cons.1 hm with rfl|hm
      ·exact k
      ·exact zCl k (ax m hm))] at h1
     exact absurd h1.symm hb.1.1.2
  have e2:x.By=y.By:=by
   have h1:=h x.Name
   rw [hd_c,e,hd_c] at h1;exact h1
  have e3:r=s:=lin_ext ha.2 hb.2 fun t=>by
   by_cases k:x.Name=t
   ·subst k
    rw [zHz ax]
    rw [e] at *
    rw [zHz ay]
   ·have h1:=h t
    rw [coeffL,if_neg k,coeffL,if_neg (e ▸ k)] at h1;exact h1
  cases x;cases y
  simp only at e e2
  rw [e,e2,e3]
def nmT (ts:List Tr):List ByteArray:=ts.map (·.1)
theorem nmT_cons (t:Tr) (r:List Tr):nmT (t::r)=t.1::nmT r:=rfl
theorem sum_coeff {f:ByteArray->Int}:∀{ts:List Tr},ascN (nmT ts)->(∀t,t∈ts->trV t=f t.1/\r64 (trV t))->∀n,coeffL (sumW ts) n=if hasB (nmT ts) n=true then f n else 0
 |[],_,_,n=>rfl
 |t::r,ha,h,n=>by
  rw [nmT_cons] at ha⊢
  obtain ⟨h1,h2⟩:=List.pairwise_cons.1 ha
  have ih:=sum_coeff (f:=f) (ts:=r) h2 (fun u hu=>h u (by simp [hu])) n
  obtain ⟨e1,e2⟩:=h t (by simp)
  have es:sumW (t::r)=(if w64 (trV t)=0 then [] else [⟨t.1,w64 (trV t)⟩])++sumW r:=by
   unfold sumW;rw [List.filterMap_cons];by_cases c:w64 (trV t)=0<;>simp [c]
  rw [es,zJn e2,zKp]
  by_cases c:trV t=0
  ·rw [if_pos c,List.nil_append,ih]
   by_cases k:t.1=n
   ·have hn:¬hasB (nmT r) n=true:=fun k2=>by
     have:=h1 _ (hasB_mem.1 k2);rw [k,strLt_irr] at this;cases this
    rw [if_neg hn,decide_eq_true k,Bool.true_or,if_pos rfl,←k,←e1,c]
   ·rw [decide_eq_false k,Bool.false_or]
  ·rw [if_neg c,List.singleton_append,coeffL]
   by_cases k:t.1=n
   ·rw [if_pos k,decide_eq_true k,Bool.true_or,if_pos rfl,←k];exact e1
   ·rw [if_neg k,ih,decide_eq_false k,Bool.false_or]
theorem zLx (s n:ByteArray):∀l:List Mono,coeffL (l.filter fun m=> !decide (m.Name=s)) n=if n=s then 0 else coeffL l n
 |[]=>by simp [coeffL]
 |x::r=>by
  have ih:=zLx s n r
  rw [List.filter_cons]
  by_cases c:x.Name=s
  ·rw [if_neg (by simp [c]),ih]
   by_cases k:n=s
   ·rw [if_pos k,if_pos k]
   ·rw [if_neg k,if_neg k,coeffL,if_neg (fun e=>k (e.symm.trans c))]
  ·rw [if_pos (by simp [c]),coeffL,coeffL,ih]
   by_cases k:x.Name=n
   ·rw [if_pos k,if_pos k,if_neg (fun e=>c (k.trans e))]
   ·rw [if_neg k,if_neg k]
theorem addT_coeff {a b:List Mono} {k c:Int} (ha:monosOk none a=true) (hb:monosOk none b=true) (h:(addT k (mulT c (mergeL a b))).2=0):
  (addT k (mulT c (mergeL a b))).1.K=k/\∀n,coeffL (addT k (mulT c (mergeL a b))).1.L n=coeffL a n+coeffL b n*c:=by
 unfold addT at h⊢
 split at h
 ·next hc=>
  rw [if_pos hc]
  refine ⟨rfl,fun n=>?_⟩
  have hm:=zAo _ none a b (Nat.le_refl _) ha hb
  have hs:=sum_coeff (f:=fun n=>coeffL a n+coeffL b n*c) (trs_asc (mul_asc c (wS _ none _ _ (Nat.le_refl _) ha hb))) (fun t ht=>by
   have h1:=List.all_eq_true.1 hc.2 t ht
   unfold trOk at h1
   refine ⟨?_,by simpa using h1⟩
   unfold mulT at ht
   obtain ⟨u,hu,rfl⟩:=List.mem_map.1 ht
   obtain ⟨e1,e2⟩:=hm u hu
   show u.2.1+u.2.2*c=_
   rw [e1,e2]) n
  show coeffL (sumW (mulT c (mergeL a b))) n=_
  rw [hs]
  split
  ·rfl
  ·next hn=>
   have no:∀m,m∈a∨m∈b->m.Name≠n:=fun m hm' e=>by
    obtain ⟨t,ht,et⟩:=zEq _ a b (Nat.le_refl _) m hm'
    apply hn
    exact hasB_mem.2 (List.mem_map.2 ⟨(t.1,t.2.1,t.2.2*c),List.mem_map.2 ⟨t,ht,rfl⟩,by show t.1=n;rw [et,e]⟩)
   rw [zEz (fun m hm'=>no m (.inl hm')),zEz (fun m hm'=>no m (.inr hm'))]
   simp
 ·exact absurd h (by decide)
theorem zOv {l to_:Lf} {s:ByteArray} (h1:linOk l=true) (h2:linOk to_=true) (h3:isNameB s=true) (h:(substR l s to_).2=0):
  (substR l s to_).1.K=l.K+to_.K*coeffL l.L s/\∀n,coeffL (substR l s to_).1.L n=(if n=s then 0 else coeffL l.L n)+coeffL to_.L n*coeffL l.L s:=by
 have hl:=last_coeff s h1
 unfold substR at h⊢
 rw [if_pos ⟨h1,h2,h3⟩] at h⊢
 rw [hl] at h⊢
 by_cases c:coeffL l.L s=0
 ·rw [if_pos c] at h⊢
  refine ⟨by rw [c];simp,fun n=>?_⟩
  rw [c,Int.mul_zero,Int.add_zero]
  split
  ·next e=>rw [e];exact c
  ·rfl
 ·rw [if_neg c] at h⊢
  by_cases d:r64 (to_.K*coeffL l.L s)/\scaleOk (coeffL l.L s) to_.L=true
  ·rw [if_pos d] at h⊢
   obtain ⟨k1,k2⟩:=addT_coeff (zDd _ h1) h2 h
   refine ⟨k1,fun n=>?_⟩
   have k3:=k2 n
   rw [zLx] at k3
   exact k3
  ·rw [if_neg d] at h;exact absurd h (by decide)
theorem sub_fits {l to_:Lf} {s:ByteArray} (h1:linOk l=true) (h2:linOk to_=true) (h3:isNameB s=true) (hk:r64 (to_.K*coeffL l.L s)) (hs:scaleOk (coeffL l.L s) to_.L=true) (hK:r64 (l.K+to_.K*coeffL l.L s))
  (hc:∀n,r64 ((if n=s then 0 else coeffL l.L n)+coeffL to_.L n*coeffL l.L s)):(substR l s to_).2=0:=by
 have hl:=last_coeff s h1
 unfold substR
 rw [if_pos ⟨h1,h2,h3⟩,hl]
 by_cases c:coeffL l.L s=0
 ·rw [if_pos c]
 ·rw [if_neg c,if_pos ⟨hk,hs⟩]
  unfold addT
  have hall:(mulT (coeffL l.L s) (mergeL (restL l s).L to_.L)).all trOk=true:=by
   rw [List.all_eq_true]
   intro t ht
   unfold mulT at ht
   obtain ⟨u,hu,rfl⟩:=List.mem_map.1 ht
   obtain ⟨e1,e2⟩:=zAo _ none _ _ (Nat.le_refl _) (zDd _ h1) h2 u hu
   unfold trOk
   rw [decide_eq_true_eq]
   show r64 (u.2.1+u.2.2*_)
   rw [e1,e2]
   have:=hc u.1
   rw [←zLx] at this
   exact this
  rw [if_pos ⟨hK,hall⟩]
/-! ## The form of a split loop -/
theorem zOp {a:ByteArray} (h:isNameB a=true):varL a=⟨0,[⟨a,1⟩]⟩:=by unfold varL;rw [h];rfl
theorem var_ok {a:ByteArray} (h:isNameB a=true) {k:Int} (hk:k≠0):linOk ⟨0,[⟨a,k⟩]⟩=true:=by
 unfold linOk;simp [monosOk,h,ltO,hk]
theorem zGx (a n:ByteArray) (k:Int):coeffL [⟨a,k⟩] n=if n=a then k else 0:=by
 rw [coeffL]
 by_cases c:a=n
 ·rw [if_pos c,if_pos c.symm]
 ·rw [if_neg c,if_neg (fun e=>c e.symm)];rfl
theorem mulT_one (l:List Tr):mulT 1 l=l:=by
 unfold mulT
 have:(fun t:Tr=>(t.1,t.2.1,t.2.2*1))=id:=by funext t;simp
 rw [this,List.map_id]
theorem form_coeff {by_:Int} {o i:ByteArray} (ho:isNameB o=true) (hi:isNameB i=true) (hb:1<=by_) (hb2:by_<=65536) (hne:o≠i):
  linOk (formT by_ o i)=true/\(formT by_ o i).K=0/\∀n,coeffL (formT by_ o i).L n=(if n=o then by_ else 0)+(if n=i then 1 else 0):=by
 have h1:linOk ⟨0,[⟨o,by_⟩]⟩=true:=var_ok ho (by omega)
 have h2:linOk ⟨0,[⟨i,1⟩]⟩=true:=var_ok hi (by omega)
 unfold formT
 rw [scale_var ho (by unfold r64;omega) (by omega),zOp hi]
 unfold addL
 rw [if_pos ⟨h1,h2⟩]
 have hz:(addT (0+0) (mulT 1 (mergeL [⟨o,by_⟩] [⟨i,1⟩]))).2=0:=by
  unfold addT
  have hall:(mulT 1 (mergeL [⟨o,by_⟩] [⟨i,1⟩])).all trOk=true:=by
   rw [mulT_one,List.all_eq_true]
   intro t ht
   obtain ⟨e1,e2⟩:=zAo _ none _ _ (Nat.le_refl _) h1 h2 t ht
   unfold trOk
   rw [decide_eq_true_eq]
   show r64 (t.2.1+t.2.2)
   rw [e1,e2,zGx,zGx]
   unfold r64
   split<;>split<;>omega
  rw [if_pos ⟨by unfold r64;omega,hall⟩]
 obtain ⟨k1,k2⟩:=addT_coeff h1 h2 hz
 have k3:linOk (addT (0+0) (mulT 1 (mergeL [⟨o,by_⟩] [⟨i,1⟩]))).1=true:=by
  unfold addT
  split
  ·exact sum_asc (mul_asc _ (wS _ none _ _ (Nat.le_refl _) h1 h2))
  ·rfl
 rw [mulT_one] at k1 k2 k3
 refine ⟨k3,k1,fun n=>?_⟩
 have:=k2 n
 rw [zGx,zGx,Int.mul_one] at this
 exact this
/-! ## A form there and back -/
structure InvF (loop outer inner:ByteArray) (f:Lf) (l:Lf):Prop where
 ok:linOk l=true
 rng:l.rng
 fits:(substR l loop f).2=0
 no_o:outer≠loop->coeffL l.L outer=0
 no_i:inner≠loop->coeffL l.L inner=0
theorem zRd {p:Option ByteArray} {l:List Mono} (h:∀m,m∈l->r64 m.By) (n:ByteArray):r64 (coeffL l n):=by
 induction l with
 |nil=>unfold r64;simp [coeffL]
 |cons x r ih=>
  rw [coeffL]
  split
  ·exact h x (by simp)
  ·exact ih fun m hm=>h m (by simp [hm])
theorem inv_form {loop outer inner:ByteArray} {by_:Int} (hl:isNameB loop=true) (ho:isNameB outer=true) (hi:isNameB inner=true) (hb:1<=by_) (hb2:by_<=65536) (hne:outer≠inner) {l:Lf} (h:InvF loop outer inner (formT by_ outer inner) l):
  linC outer inner by_ (substR l loop (formT by_ outer inner)).1=true/\(substR (substR l loop (formT by_ outer inner)).1 outer ⟨0,[]⟩).2=0/\
  (substR (substR (substR l loop (formT by_ outer inner)).1 outer ⟨0,[]⟩).1 inner (varL loop)).2=0/\(substR (substR (substR l loop (formT by_ outer inner)).1 outer ⟨0,[]⟩).1 inner (varL loop)).1=l:=by
 obtain ⟨f1,f2,f3⟩:=form_coeff ho hi hb hb2 hne
 obtain ⟨a1,a2⟩:=zOv h.ok f1 hl h.fits
 have a3:=zOu h.ok f1 hl h.fits
 have a4:(substR l loop (formT by_ outer inner)).1.rng:=zHs loop h.rng
 generalize (substR l loop (formT by_ outer inner)).1=r1 at *
 rw [f2,Int.zero_mul,Int.add_zero] at a1
 obtain ⟨c,hc⟩:∃c,coeffL l.L loop=c:=⟨_,rfl⟩
 have cr:r64 c:=by rw [←hc];exact zRd (p:=none) h.rng.2 _
 have A:∀n,coeffL r1.L n=(if n=loop then 0 else coeffL l.L n)+((if n=outer then by_ else 0)+(if n=inner then 1 else 0))*c:=fun n=>by rw [a2 n,f3 n,hc]
 have Ao:coeffL r1.L outer=by_*c:=by
  have e0:(if outer=inner then 1 else 0)=(0:Int):=if_neg hne
  rw [A,e0,if_pos (rfl:outer=outer),Int.add_zero]
  split
  ·rw [Int.zero_add]
  ·next k=>rw [h.no_o k,Int.zero_add]
 have Ai:coeffL r1.L inner=c:=by
  have e0:(if inner=outer then by_ else 0)=0:=if_neg fun e=>hne e.symm
  rw [A,e0,if_pos (rfl:inner=inner),Int.zero_add,Int.one_mul]
  split
  ·rw [Int.zero_add]
  ·next k=>rw [h.no_i k,Int.zero_add]
 have z1:linOk (⟨0,[]⟩:Lf)=true:=rfl
 have e2:(substR r1 outer ⟨0,[]⟩).2=0:=by
  refine sub_fits a3 z1 ho (by show r64 (0*_);rw [Int.zero_mul];unfold r64;omega) rfl (by show r64 (_+0*_);rw [Int.zero_mul,Int.add_zero];exact a4.1) fun n=>?_
  show r64 (_+0*_)
  rw [Int.zero_mul,Int.add_zero]
  split
  ·unfold r64;omega
  ·exact zRd (p:=none) a4.2 n
 obtain ⟨b1,b2⟩:=zOv a3 z1 ho e2
 have b3:=zOu a3 z1 ho e2
 have b4:(substR r1 outer ⟨0,[]⟩).1.rng:=zHs outer a4
 refine ⟨?_,e2,?_⟩
 ·unfold linC
  rw [Ao,Ai,Int.mul_tmod_right,Int.mul_tdiv_cancel_left c (by omega),zJn cr]
  simp
 generalize (substR r1 outer ⟨0,[]⟩).1=r2 at *
 have b1':r2.K=l.K:=by rw [b1,a1];show _+0*_=_;rw [Int.zero_mul,Int.add_zero]
 have B:∀n,coeffL r2.L n=if n=outer then 0 else coeffL r1.L n:=fun n=>by
  rw [b2 n];show _+0*_=_;rw [Int.zero_mul,Int.add_zero]
 have Bi:coeffL r2.L inner=c:=by rw [B,if_neg (fun e=>hne e.symm),Ai]
 have v1:linOk (varL loop)=true:=by rw [zOp hl];exact var_ok hl (by omega)
 have C:∀n,(if n=inner then 0 else coeffL r2.L n)+coeffL (varL loop).L n*coeffL r2.L inner=coeffL l.L n:=fun n=>by
  rw [Bi,zOp hl]
  show _+coeffL [⟨loop,1⟩] n*c=_
  rw [zGx]
  by_cases k1:n=inner
  ·rw [if_pos k1]
   by_cases k2:n=loop
   ·rw [if_pos k2,k2,hc];omega
   ·rw [if_neg k2,k1,h.no_i (fun e=>k2 (k1.trans e))];omega
  ·rw [if_neg k1,B]
   by_cases k3:n=outer
   ·rw [if_pos k3]
    by_cases k2:n=loop
    ·rw [if_pos k2,k2,hc];omega
    ·rw [if_neg k2,k3,h.no_o (fun e=>k2 (k3.trans e))];omega
   ·rw [if_neg k3,A,if_neg k3,if_neg k1]
    by_cases k2:n=loop
    ·rw [if_pos k2,if_pos k2,k2,hc];omega
    ·rw [if_neg k2,if_neg k2];omega
 have vK:(varL loop).K=0:=by rw [zOp hl]
 have e3:(substR r2 inner (varL loop)).2=0:=by
  refine sub_fits b3 v1 hi (by rw [vK,Int.zero_mul];unfold r64;omega) ?_ (by rw [vK,Int.zero_mul,Int.add_zero];exact b4.1) fun n=>?_
  ·rw [Bi,zOp hl]
   show (decide (r64 (1*c))&&true)=true
   rw [Int.one_mul,decide_eq_true cr];rfl
  ·rw [C n];exact zRd (p:=none) h.rng.2 n
 obtain ⟨d1,d2⟩:=zOv b3 v1 hi e3
 have d3:=zOu b3 v1 hi e3
 refine ⟨e3,?_⟩
 generalize (substR r2 inner (varL loop)).1=r3 at *
 have hL:r3.L=l.L:=lin_ext d3 h.ok fun n=>by rw [d2 n,C n]
 have hK:r3.K=l.K:=by rw [d1,vK,Int.zero_mul,Int.add_zero,b1']
 cases r3;cases l
 simp only at hL hK
 rw [hL,hK]
/-! ## Statements,form by form -/
mutual
theorem mSt_all {f:Lf->Lf×Int} {r:ByteArray->ByteArray}:∀{s:St},s.allF (fun l=>(f l).2=0)->mSt f r s=.ok (gSt (fun l=>(f l).1) r s)
 |.mk o nm mn mk fo i e b,h=>by
  rw [St.allF] at h
  have h1:mIxs f i=.ok (i.map (gIx fun l=>(f l).1)):=by
   rw [zMd (g:=fun x=>((f x).1,0)) fun x hx=>⟨by rw [←(h.1 x hx).1],fun y hy=>by rw [←(h.1 x hx).2 y hy]⟩]
   exact mIxs_sure _ i
  have h2:mEx f e=.ok (gEx (fun l=>(f l).1) e):=by
   rw [mEx_congr (P:=fun l=>(f l).2=0) (g:=fun x=>((f x).1,0)) (fun x hx=>by rw [←hx]) e h.2.1]
   exact mEx_sure _ e
  rw [mSt,h1,h2,gSt]
  simp only [zNz h.2.2]
theorem zNz {f:Lf->Lf×Int} {r:ByteArray->ByteArray}:∀{l:List St},allSs (fun l=>(f l).2=0) l->mSts f r l=.ok (gSts (fun l=>(f l).1) r l)
 |[],_=>by rw [mSts,gSts]
 |s::t,h=>by
  rw [allSs] at h
  rw [mSts,mSt_all h.1,gSts]
  simp only [zNz h.2]
end
mutual
theorem mSt_no {f:Lf->Lf×Int} {r:ByteArray->ByteArray}:∀{s s':St},mSt f r s=.ok s'->s.allF fun l=>(f l).2=0
 |.mk o nm mn mk fo i e b,s',h=>by
  rw [mSt] at h
  cases h1:mIxs f i with
  |error y=>rw [h1] at h;cases h
  |ok a=>
   cases h2:mEx f e with
   |error y=>rw [h1,h2] at h;cases h
   |ok d=>
    cases h3:mSts f r b with
    |error y=>rw [h1,h2] at h;simp only [h3] at h;cases h
    |ok t=>
     rw [St.allF]
     exact ⟨(mIxs_g h1).2,(mEx_g h2).2,mSts_nos h3⟩
theorem mSts_nos {f:Lf->Lf×Int} {r:ByteArray->ByteArray}:∀{l l':List St},mSts f r l=.ok l'->allSs (fun l=>(f l).2=0) l
 |[],l',h=>by rw [allSs];trivial
 |x::t,l',h=>by
  rw [mSts] at h
  cases h1:mSt f r x with
  |error y=>rw [h1] at h;cases h
  |ok a=>
   cases h2:mSts f r t with
   |error y=>rw [h1] at h;simp only [h2] at h;cases h
   |ok d=>rw [allSs];exact ⟨mSt_no h1,mSts_nos h2⟩
end
mutual
theorem gSt_all {P:Lf->Prop} {g:Lf->Lf} {r:ByteArray->ByteArray}:∀{s:St},s.allF (fun l=>P (g l))->(gSt g r s).allF P
 |.mk o nm mn mk fo i e b,h=>by
  rw [St.allF] at h
  rw [gSt,St.allF]
  refine ⟨fun x hx=>?_,allF_g h.2.1,zFv h.2.2⟩
  obtain ⟨y,hy,rfl⟩:=List.mem_map.1 hx
  refine ⟨(h.1 y hy).1,fun l hl=>?_⟩
  obtain ⟨z,hz,rfl⟩:=List.mem_map.1 (show l∈y.At.map g from hl)
  exact (h.1 y hy).2 z hz
theorem zFv {P:Lf->Prop} {g:Lf->Lf} {r:ByteArray->ByteArray}:∀{l:List St},allSs (fun l=>P (g l)) l->allSs P (gSts g r l)
 |[],_=>by rw [gSts,allSs];trivial
 |s::t,h=>by rw [allSs] at h;rw [gSts,allSs];exact ⟨gSt_all h.1,zFv h.2⟩
end
theorem zAs {P Q:Lf->Prop} (hPQ:∀l,P l->Q l) {l:List St} (h:allSs P l):allSs Q l:=by
 have:∀s:St,s.allF P->s.allF Q:=by
  intro s
  induction s using St.ind with
  |_ s ih=>
   intro hs
   cases s with
   |mk o nm mn mk fo i e b=>
    rw [St.allF] at hs⊢
    exact ⟨fun x hx=>⟨hPQ _ (hs.1 x hx).1,fun y hy=>hPQ _ ((hs.1 x hx).2 y hy)⟩,fun x hx y hy=>hPQ _ (hs.2.1 x hx y hy),zIc fun a ha=>ih a ha (kJ hs.2.2 a ha)⟩
 exact zIc fun s hs=>this s (kJ h s hs)
mutual
theorem gSt_gSt {g g':Lf->Lf}:∀s:St,gSt g' (fun x=>x) (gSt g (fun x=>x) s)=gSt (fun l=>g' (g l)) (fun x=>x) s
 |.mk o nm mn mk fo i e b=>by
  rw [gSt,gSt,gSt,gEx_gEx,zKq b]
  congr 1
  ·split<;>rfl
  ·rw [List.map_map];congr 1;funext x;exact gIx_gIx g g' x
theorem zKq {g g':Lf->Lf}:∀l:List St,gSts g' (fun x=>x) (gSts g (fun x=>x) l)=gSts (fun l=>g' (g l)) (fun x=>x) l
 |[]=>by rw [gSts,gSts,gSts]
 |s::t=>by rw [gSts,gSts,gSts,gSt_gSt s,zKq t]
end
mutual
theorem gSt_same {g:Lf->Lf}:∀s:St,s.allF (fun l=>g l=l)->gSt g (fun x=>x) s=s
 |.mk o nm mn mk fo i e b,h=>by
  rw [St.allF] at h
  rw [gSt,gEx_id e h.2.1,gIxs_id h.1,zQi b h.2.2]
  simp
theorem zQi {g:Lf->Lf}:∀l:List St,allSs (fun l=>g l=l) l->gSts g (fun x=>x) l=l
 |[],_=>by rw [gSts]
 |s::t,h=>by rw [allSs] at h;rw [gSts,gSt_same s h.1,zQi t h.2]
end
theorem ixEv_of {f:Lf->Bool} {i:List Ix} (h:ixsAll (fun l=>f l=true) i):ixEv f i=true:=by
 unfold ixEv
 rw [List.all_eq_true]
 intro x hx
 rw [(h x hx).1,Bool.true_and,List.all_eq_true]
 exact (h x hx).2
mutual
theorem evS_of {f:Lf->Bool}:∀{s:St},s.allF (fun l=>f l=true)->evS f s=true
 |.mk o nm mn mk fo i e b,h=>by
  rw [St.allF] at h
  rw [evS,ixEv_of h.1,evL_of h.2.2]
  show exEv f e=true
  unfold exEv
  rw [List.all_eq_true]
  intro a ha
  have h1:=h.2.1 a ha
  rw [h1 a.Lin (by unfold formsL;simp),Bool.true_and]
  exact ixEv_of fun x hx=>⟨h1 _ (by unfold formsL;exact List.mem_cons_of_mem _ (List.mem_flatMap.2 ⟨x,hx,by simp⟩)),fun l hl=>h1 _ (by unfold formsL;exact List.mem_cons_of_mem _ (List.mem_flatMap.2 ⟨x,hx,by simp [hl]⟩))⟩
theorem evL_of {f:Lf->Bool}:∀{l:List St},allSs (fun l=>f l=true) l->evL f l=true
 |[],_=>by rw [evL]
 |s::t,h=>by rw [allSs] at h;rw [evL,evS_of h.1,evL_of h.2];rfl
end
theorem inv_body {loop outer inner:ByteArray} {by_:Int} (hl:isNameB loop=true) (ho:isNameB outer=true) (hi:isNameB inner=true) (hb:1<=by_) (hb2:by_<=65536) (hne:outer≠inner) {b b1:List St}
  (h:allSs (fun l=>linOk l=true/\l.rng/\(outer≠loop->coeffL l.L outer=0)/\(inner≠loop->coeffL l.L inner=0)) b) (hs:sbT loop (formT by_ outer inner) b=.ok b1):
  evL (linC outer inner by_) b1=true/\∃b2,sbT outer ⟨0,[]⟩ b1=.ok b2/\sbT inner (varL loop) b2=.ok b:=by
 have h0:=mSts_nos hs
 have hI:allSs (fun l=>InvF loop outer inner (formT by_ outer inner) l) b:=zAs (fun l k=>⟨k.1.1,k.1.2.1,k.2,k.1.2.2.1,k.1.2.2.2⟩) (zFd b h h0)
 have hg:=zMu hs
 have F:=fun (l:Lf) (k:InvF loop outer inner (formT by_ outer inner) l)=>inv_form hl ho hi hb hb2 hne k
 refine ⟨?_,gSts (fun l=>(substR l outer ⟨0,[]⟩).1) (fun x=>x) b1,?_,?_⟩
 ·rw [hg]
  exact evL_of (zFv (zAs (fun l k=>(F l k).1) hI))
 ·rw [hg]
  exact zNz (zFv (zAs (fun l k=>(F l k).2.1) hI))
 ·rw [hg]
  have e:sbT inner (varL loop) (gSts (fun l=>(substR l outer ⟨0,[]⟩).1) (fun x=>x) (gSts (fun l=>(sbF loop (formT by_ outer inner) l).1) (fun x=>x) b))=.ok (gSts (fun l=>(substR l inner (varL loop)).1) (fun x=>x) (gSts (fun l=>(substR l outer ⟨0,[]⟩).1) (fun x=>x) (gSts (fun l=>(sbF loop (formT by_ outer inner) l).1) (fun x=>x) b))):=
   zNz (zFv (zFv (zAs (fun l k=>(F l k).2.2.1) hI)))
  rw [e,zKq,zKq,zQi b (zAs (fun l k=>(F l k).2.2.2) hI)]
end Go.Br
end
section
set_option maxRecDepth 10000
namespace Go.Br
open Go Go.Eng Go.L41
/-! ## Names in scope -/
theorem zEs {sc sc':List ByteArray} (h:∀t,hasB sc t=true->hasB sc' t=true) {l:Lf} (k:inSc sc l=true):inSc sc' l=true:=by
 unfold inSc at *
 rw [List.all_eq_true] at *
 exact fun m hm=>h _ (k m hm)
theorem nodes_sc {B:List Bf} {sc:List ByteArray} {e:Ex} (h:nodesN B sc (nodes e)=0):e.allF (fun l=>inSc sc l=true):=fun x hx l hl=>by
 have h1:=nodesN_all.1 h x hx
 unfold nodeN at h1
 split at h1
 ·next c=>
  unfold nodeSc at c
  rw [Bool.and_eq_true] at c
  unfold formsL at hl
  rcases List.mem_cons.1 hl with rfl|hl
  ·exact c.1
  ·obtain ⟨y,hy,hl⟩:=List.mem_flatMap.1 hl
   have h2:=List.all_eq_true.1 c.2 y hy
   unfold ixSc at h2
   rw [Bool.and_eq_true] at h2
   rcases List.mem_cons.1 hl with rfl|hl
   ·exact h2.1
   ·exact List.all_eq_true.1 h2.2 l hl
 ·cases h1
theorem stE_sc {B:List Bf} {U sc:List ByteArray} {s:St} (h:stE B U sc s=0):ixsAll (fun l=>inSc sc l=true) s.Idx/\s.E.allF (fun l=>inSc sc l=true):=by
 have hs:synSt s=true:=by
  cases c:synSt s with
  |true=>rfl
  |false=>rw [stE_5 c] at h;cases h
 obtain ⟨s1,s2⟩:=syn_parts hs
 have nil:∀{i:List Ix},i=[]->ixsAll (fun l=>inSc sc l=true) i:=fun e x hx=>by rw [e] at hx;cases hx
 by_cases h1:s.Op=1
 ·refine ⟨nil (s1 ?_),by rw [s2 h1];exact zOj rfl⟩
  unfold isSto;rw [decide_eq_false (by omega),decide_eq_false (by omega)];rfl
 ·by_cases h4:s.Op=4
  ·rw [stE_i hs h4] at h
   have k1:(exprT B sc s.E).2=0:=by
    by_cases c:(exprT B sc s.E).2=0
    ·exact c
    ·rw [ifE_x c] at h;exact absurd h c
   refine ⟨nil (s1 ?_),nodes_sc (zCq k1).2⟩
   unfold isSto;rw [decide_eq_false (by omega),decide_eq_false (by omega)];rfl
  ·rw [stE_s hs h1 h4] at h
   have k1:(exprT B sc (rdE s)).2=0:=by
    by_cases c:(exprT B sc (rdE s)).2=0
    ·exact c
    ·rw [storeE_1 c] at h;exact absurd h c
   have k2:¬((bufD B s.Name).Use=1∨(s.Op=3/\(s.Fold<1∨4<s.Fold))):=fun c=>by rw [zNt k1 c] at h;cases h
   have k3:(exprT B sc s.E).2=0:=by
    by_cases c:(exprT B sc s.E).2=0
    ·exact c
    ·rw [storeE_2 k1 k2 c] at h;exact absurd h c
   refine ⟨fun x hx=>?_,nodes_sc (zCq k3).2⟩
   have:=nodes_sc (zCq k1).2 (rdE s) (by rw [kV];simp)
   have hx':x∈(rdE s).Idx:=hx
   exact ⟨this _ (ix_in hx').1,fun l hl=>this _ ((ix_in hx').2 l hl)⟩
theorem allF_imp {P Q:Lf->Prop} (hPQ:∀l,P l->Q l) {e:Ex} (h:e.allF P):e.allF Q:=fun x hx l hl=>hPQ l (h x hx l hl)
theorem chk_parts {B:List Bf} {U sc:List ByteArray} {here:List Int} {s:St} (h:(chkS B U sc here s).E=0):stE B U sc s=0/\chkS B U sc here s=chkL B (nextU U s) (nextU sc s) here 0 s.Body:=by
 by_cases c:stE B U sc s=0
 ·exact ⟨c,chkS_in c⟩
 ·rw [chkS_no c] at h;exact absurd h c
theorem chk_rest {B:List Bf} {U sc:List ByteArray} {way:List Int} {i:Int} {s:St} {r:List St} (h:(chkL B U sc way i (s::r)).E=0):(chkS B U sc (way++[i]) s).E=0/\chkL B U sc way i (s::r)=chkL B (chkS B U sc (way++[i]) s).U sc way (i+1) r:=by
 rw [chkL] at h⊢
 by_cases c:(chkS B U sc (way++[i]) s).E=0
 ·rw [if_pos c];exact ⟨c,rfl⟩
 ·rw [if_neg c] at h;exact absurd h c
mutual
theorem chkS_sc {B:List Bf}:∀(s:St) (U sc:List ByteArray) (here:List Int),(chkS B U sc here s).E=0->s.allF (fun l=>inSc (sc++loopsS s) l=true)
 |.mk o nm mn mk fo i e b,U,sc,here,h=>by
  obtain ⟨h0,h2⟩:=chk_parts h
  rw [h2] at h
  obtain ⟨h3,h4⟩:=stE_sc h0
  have h5:=chkL_sc b _ _ _ _ h
  have m1:∀t,hasB sc t=true->hasB (sc++loopsS (.mk o nm mn mk fo i e b)) t=true:=fun t ht=>by rw [zAk,ht,Bool.true_or]
  have m2:∀t,hasB (nextU sc (.mk o nm mn mk fo i e b)++loopsL b) t=true->hasB (sc++loopsS (.mk o nm mn mk fo i e b)) t=true:=fun t ht=>by
   rw [loopsS]
   unfold nextU at ht
   unfold loopNm
   split at ht
   ·next c=>rw [if_pos c,←List.append_assoc];exact ht
   ·next c=>rw [if_neg c,List.nil_append];exact ht
  rw [St.allF]
  exact ⟨fun x hx=>⟨zEs m1 (h3 x hx).1,fun y hy=>zEs m1 ((h3 x hx).2 y hy)⟩,allF_imp (fun l=>zEs m1) h4,zAs (fun l=>zEs m2) h5⟩
theorem chkL_sc {B:List Bf}:∀(l:List St) (U sc:List ByteArray) (way:List Int) (i:Int),(chkL B U sc way i l).E=0->allSs (fun f=>inSc (sc++loopsL l) f=true) l
 |[],_,_,_,_,_=>by rw [allSs];trivial
 |s::r,U,sc,way,i,h=>by
  obtain ⟨h1,h2⟩:=chk_rest h
  rw [h2] at h
  have k1:=chkS_sc s _ _ _ h1
  have k2:=chkL_sc r _ _ _ _ h
  have m1:∀t,hasB (sc++loopsS s) t=true->hasB (sc++loopsL (s::r)) t=true:=fun t ht=>by
   rw [zAk] at ht⊢
   rw [loopsL,zAk]
   revert ht;cases hasB sc t<;>cases hasB (loopsS s) t<;>simp
  have m2:∀t,hasB (sc++loopsL r) t=true->hasB (sc++loopsL (s::r)) t=true:=fun t ht=>by
   rw [zAk] at ht⊢
   rw [loopsL,zAk]
   revert ht;cases hasB sc t<;>cases hasB (loopsL r) t<;>simp
  rw [allSs]
  refine ⟨?_,zAs (fun l=>zEs m2) k2⟩
  have k3:allSs (fun f=>inSc (sc++loopsS s) f=true) [s]:=by rw [allSs];exact ⟨k1,by rw [allSs];trivial⟩
  have k4:=zAs (Q:=fun f=>inSc (sc++loopsL (s::r)) f=true) (fun l=>zEs m1) k3
  rw [allSs] at k4
  exact k4.1
end
theorem valid_sc {n:Ns} (h:(validN n).2=0):allSs (fun l=>inSc (loopsL n.Body) l=true) n.Body:=chkL_sc n.Body [] [] [] 0 (zFf h).2.2.2
theorem coeff_out {sc:List ByteArray} {l:Lf} {s:ByteArray} (h:inSc sc l=true) (hs:hasB sc s=false):coeffL l.L s=0:=zEz fun m hm e=>by
 unfold inSc at h
 have:=List.all_eq_true.1 h m hm
 rw [e,hs] at this;cases this
theorem atF_allF {P:Lf->Prop}:∀{way:List Int} {l:List St} {s:St},allSs P l->s.allF P->(atF way l s).2=true->(atF way l s).1.allF P
 |[],_,_,_,h,_=>by rw [atF];exact h
 |i::r,l,s,hl,hs,h=>by
  rw [atF] at h⊢
  by_cases c:0<=i/\i<l.length
  ·rw [if_pos c] at h⊢
   have h1:=kJ hl _ (zLr c)
   exact atF_allF (St.allF_eq h1).2.2 h1 h
  ·rw [if_neg c] at h;cases h
/-! ## Unique names -/
def cntB (t:ByteArray) (l:List ByteArray):Nat:=l.countP fun x=>decide (x=t)
theorem zCy (t:ByteArray) (a b:List ByteArray):cntB t (a++b)=cntB t a+cntB t b:=List.countP_append
theorem cnt_no {t:ByteArray}:∀{l:List ByteArray},cntB t l=0->hasB l t=false
 |[],_=>rfl
 |x::r,h=>by
  unfold cntB at h
  rw [List.countP_cons] at h
  have hr:cntB t r=0:=by unfold cntB;omega
  rw [zKp,cnt_no hr,Bool.or_false]
  by_cases c:x=t
  ·rw [if_pos (decide_eq_true c)] at h;omega
  ·exact decide_eq_false c
theorem zOe (t x:ByteArray):cntB t [x]=if x=t then 1 else 0:=by
 unfold cntB
 by_cases c:x=t<;>simp [c]
theorem fresh_1 {B:List Bf} {U sc:List ByteArray} {s:St} (h:stE B U sc s=0) (ho:s.Op=1):hasB U s.Name=false:=by
 have hs:synSt s=true:=by
  cases c:synSt s with
  |true=>rfl
  |false=>rw [stE_5 c] at h;cases h
 rw [stE_l hs ho] at h
 unfold loopE at h
 cases k:hasB U s.Name with
 |false=>rfl
 |true=>
  split at h
  ·rw [if_pos (.inr k)] at h;cases h
  ·cases h
mutual
theorem chkS_u {B:List Bf}:∀(s:St) (U sc:List ByteArray) (here:List Int),(chkS B U sc here s).E=0->∀t,(hasB U t=true->cntB t (loopsS s)=0/\hasB (chkS B U sc here s).U t=true)/\cntB t (loopsS s)<=1/\(0<cntB t (loopsS s)->hasB (chkS B U sc here s).U t=true)
 |.mk o nm mn mk fo i e b,U,sc,here,h,t=>by
  obtain ⟨h0,h2⟩:=chk_parts h
  rw [h2] at h⊢
  obtain ⟨i1,i2,i3⟩:=chkL_u b _ _ _ _ h t
  rw [loopsS,zCy]
  unfold loopNm
  by_cases c:o=1
  ·have hf:=fresh_1 h0 c
   have hn:nextU U (.mk o nm mn mk fo i e b)=U++[nm]:=if_pos c
   rw [hn] at i1 i3
   rw [hn]
   rw [if_pos (show (St.mk o nm mn mk fo i e b).Op=1 from c),zOe]
   by_cases k:nm=t
   ·have ht:hasB (U++[nm]) t=true:=by rw [zAk,k];simp [hasB]
    obtain ⟨j1,j2⟩:=i1 ht
    have e1:(if (St.mk o nm mn mk fo i e b).Name=t then 1 else 0)=1:=if_pos k
    rw [e1,show cntB t (loopsL b)=0 from j1]
    refine ⟨fun hU=>?_,by omega,fun _=>j2⟩
    have:hasB U nm=false:=hf
    rw [k,hU] at this;cases this
   ·have e1:(if (St.mk o nm mn mk fo i e b).Name=t then 1 else 0)=0:=if_neg k
    rw [e1,Nat.zero_add]
    exact ⟨fun hU=>i1 (by rw [zAk,hU,Bool.true_or]),i2,i3⟩
  ·have hn:nextU U (.mk o nm mn mk fo i e b)=U:=if_neg c
   rw [hn] at i1 i3
   rw [hn]
   rw [if_neg (show ¬(St.mk o nm mn mk fo i e b).Op=1 from c),show cntB t []=0 from rfl,Nat.zero_add]
   exact ⟨i1,i2,i3⟩
theorem chkL_u {B:List Bf}:∀(l:List St) (U sc:List ByteArray) (way:List Int) (i:Int),(chkL B U sc way i l).E=0->∀t,(hasB U t=true->cntB t (loopsL l)=0/\hasB (chkL B U sc way i l).U t=true)/\cntB t (loopsL l)<=1/\(0<cntB t (loopsL l)->hasB (chkL B U sc way i l).U t=true)
 |[],U,sc,way,i,h,t=>by
  rw [loopsL,chkL]
  exact ⟨fun hU=>⟨rfl,hU⟩,by show 0<=1;omega,fun k=>absurd k (by show ¬0<0;omega)⟩
 |s::r,U,sc,way,i,h,t=>by
  obtain ⟨h1,h2⟩:=chk_rest h
  rw [h2] at h⊢
  obtain ⟨a1,a2,a3⟩:=chkS_u s _ _ _ h1 t
  obtain ⟨b1,b2,b3⟩:=chkL_u r _ _ _ _ h t
  rw [loopsL,zCy]
  refine ⟨fun hU=>?_,?_,fun k=>?_⟩
  ·obtain ⟨j1,j2⟩:=a1 hU
   obtain ⟨j3,j4⟩:=b1 j2
   exact ⟨by omega,j4⟩
  ·by_cases c:0<cntB t (loopsS s)
   ·have:=(b1 (a3 c)).1;omega
   ·omega
  ·by_cases c:0<cntB t (loopsS s)
   ·exact (b1 (a3 c)).2
   ·exact b3 (by omega)
end
theorem valid_cnt {n:Ns} (h:(validN n).2=0) (t:ByteArray):cntB t (loopsL n.Body)<=1:=(chkL_u n.Body [] [] [] 0 (zFf h).2.2.2 t).2.1
/-! ## A statement replaced twice -/
theorem zAt:∀a b:List St,loopsL (a++b)=loopsL a++loopsL b
 |[],b=>by rw [loopsL];rfl
 |s::r,b=>by rw [List.cons_append,loopsL,loopsL,zAt r b,List.append_assoc]
theorem zEr (s:St):loopsL [s]=loopsS s:=by rw [loopsL,loopsL,List.append_nil]
theorem replL_cnt (t:ByteArray):∀{way:List Int} {l q:List St} {s:St},way≠[]->(atF way l s).2=true->cntB t (loopsL (replL way l q))+cntB t (loopsS (atF way l s).1)=cntB t (loopsL l)+cntB t (loopsL q)
 |[],_,_,_,h,_=>absurd rfl h
 |i::p,l,q,s,_,h=>by
  rw [atF] at h⊢
  by_cases c:0<=i/\i<l.length
  ·rw [if_pos c] at h⊢
   have hc:=congrArg (fun l=>cntB t (loopsL l)) (cut_at c)
   simp only [zAt,zCy,zEr] at hc
   by_cases hp:p=[]
   ·subst hp;rw [zBz,atF];simp only [zAt,zCy];omega
   ·have ih:=replL_cnt t (q:=q) hp h
    rw [zDk hp]
    simp only [zAt,zCy,zEr]
    have e1:=zCa (l.getD i.toNat zSt)
    have e2:loopsS (setB (l.getD i.toNat zSt) (replL p (l.getD i.toNat zSt).Body q))=loopNm (l.getD i.toNat zSt)++loopsL (replL p (l.getD i.toNat zSt).Body q):=zCa _
    rw [e2,zCy]
    rw [e1,zCy] at hc
    omega
  ·rw [if_neg c] at h;cases h
theorem put_at {l:List St} {i:Int} (c:0<=i/\i<l.length) (x:St):(l.take i.toNat++[x]++l.drop (i.toNat+1)).length=l.length/\(l.take i.toNat++[x]++l.drop (i.toNat+1)).getD i.toNat zSt=x/\
  (l.take i.toNat++[x]++l.drop (i.toNat+1)).take i.toNat=l.take i.toNat/\(l.take i.toNat++[x]++l.drop (i.toNat+1)).drop (i.toNat+1)=l.drop (i.toNat+1):=by
 have hl:(l.take i.toNat).length=i.toNat:=by rw [List.length_take];omega
 refine ⟨by simp only [List.length_append,List.length_cons,List.length_nil,List.length_drop,hl];omega,?_,?_,?_⟩
 ·rw [List.getD_eq_getElem?_getD,List.append_assoc,List.getElem?_append_right (by omega),hl,Nat.sub_self];rfl
 ·rw [List.append_assoc,List.take_append_of_le_length (by omega),List.take_of_length_le (by omega)]
 ·have:(l.take i.toNat++[x]).length=i.toNat+1:=by rw [List.length_append,hl];rfl
  rw [List.drop_append_of_le_length (by omega),List.drop_of_length_le (by omega),List.nil_append]
theorem replL_at:∀{way:List Int} {l:List St} {s s' x:St},way≠[]->(atF way l s).2=true->atF way (replL way l [x]) s'=(x,true)
 |[],_,_,_,_,h,_=>absurd rfl h
 |i::p,l,s,s',x,_,h=>by
  rw [atF] at h
  by_cases c:0<=i/\i<l.length
  ·rw [if_pos c] at h
   by_cases hp:p=[]
   ·subst hp
    obtain ⟨k1,k2,_,_⟩:=put_at c x
    rw [zBz,atF,if_pos (by rw [k1];exact c),k2,atF]
   ·obtain ⟨k1,k2,_,_⟩:=put_at c (setB (l.getD i.toNat zSt) (replL p (l.getD i.toNat zSt).Body [x]))
    rw [zDk hp,atF,if_pos (by rw [k1];exact c),k2]
    exact replL_at hp h
  ·rw [if_neg c] at h;cases h
theorem replL_two:∀{way:List Int} {l:List St} {s x y:St},way≠[]->(atF way l s).2=true->replL way (replL way l [x]) [y]=replL way l [y]
 |[],_,_,_,_,h,_=>absurd rfl h
 |i::p,l,s,x,y,_,h=>by
  rw [atF] at h
  by_cases c:0<=i/\i<l.length
  ·rw [if_pos c] at h
   by_cases hp:p=[]
   ·subst hp
    obtain ⟨_,_,k3,k4⟩:=put_at c x
    rw [zBz,zBz,k3,k4,zBz]
   ·obtain ⟨_,k2,k3,k4⟩:=put_at c (setB (l.getD i.toNat zSt) (replL p (l.getD i.toNat zSt).Body [x]))
    rw [zDk hp l [x],zDk hp,k2,k3,k4,zDk hp l [y]]
    have ih:=replL_two (x:=x) (y:=y) hp h
    show _++[setB _ (replL p (replL p (l.getD i.toNat zSt).Body [x]) [y])]++_=_
    rw [ih];rfl
  ·rw [if_neg c] at h;cases h
/-! ## The loop found again -/
theorem isLoop_no {t:ByteArray} {s:St} (h:hasB (loopsS s) t=false):isLoop t s=false:=by
 rw [zCa,zAk,Bool.or_eq_false_iff] at h
 unfold isLoop
 by_cases c:s.Op=1
 ·have:=h.1
  unfold loopNm at this
  rw [if_pos c,zKp,Bool.or_eq_false_iff] at this
  rw [this.1,Bool.and_false]
 ·rw [decide_eq_false c,Bool.false_and]
mutual
theorem fndS_no {t:ByteArray}:∀{s:St},hasB (loopsS s) t=false->fndS t s=none
 |.mk o nm mn mk fo i e b,h=>by
  have h1:=isLoop_no h
  rw [loopsS,zAk,Bool.or_eq_false_iff] at h
  rw [fndS,if_neg (by rw [h1];simp)]
  exact fndL_no h.2 0
theorem fndL_no {t:ByteArray}:∀{l:List St},hasB (loopsL l) t=false->∀i,fndL t i l=none
 |[],_,i=>by rw [fndL]
 |s::r,h,i=>by
  rw [loopsL,zAk,Bool.or_eq_false_iff] at h
  rw [fndL,fndS_no h.1]
  exact fndL_no h.2 (i+1)
end
theorem fnd_cut (t:ByteArray):∀(l:List St) (i:Int) (w:List Int),fndL t i l=some w->∃(j:Nat) (p:List Int),w=(i+(j:Int))::p/\j<l.length/\(∀i',fndL t i' (l.take j)=none)/\fndS t (l.getD j zSt)=some p
 |[],i,w,h=>by rw [fndL] at h;cases h
 |s::r,i,w,h=>by
  rw [fndL] at h
  cases c:fndS t s with
  |some u=>
   rw [c] at h
   injection h with h
   exact ⟨0,u,by rw [←h];simp,by simp,fun i'=>by rw [List.take_zero,fndL],c⟩
  |none=>
   rw [c] at h
   obtain ⟨j,p,h1,h2,h3,h4⟩:=fnd_cut t r (i+1) w h
   refine ⟨j+1,p,by rw [h1];congr 1;omega,by simp;omega,fun i'=>?_,h4⟩
   rw [List.take_succ_cons,fndL,c]
   exact h3 (i'+1)
theorem fnd_back {t:ByteArray} {y:St} {b:List St} {p:List Int} (hy:fndS t y=some p):∀(a:List St) (i:Int),(∀i',fndL t i' a=none)->fndL t i (a++y::b)=some ((i+(a.length:Int))::p)
 |[],i,_=>by rw [List.nil_append,fndL,hy];simp
 |s::r,i,h=>by
  have h0:=h 0
  rw [fndL] at h0
  cases c:fndS t s with
  |some u=>rw [c] at h0;cases h0
  |none=>
   have hr:∀i',fndL t i' r=none:=fun i'=>by
    have:=h (i'-1)
    rw [fndL,c] at this
    have e:i'-1+1=i':=by omega
    rw [e] at this;exact this
   rw [List.cons_append,fndL,c]
   show fndL t (i+1) (r++y::b)=_
   rw [fnd_back hy r (i+1) hr,List.length_cons]
   congr 2;omega
theorem fnd_repl {t t':ByteArray} {x:St} (hx:isLoop t' x=true):∀(way:List Int) (l:List St),fndL t 0 l=some way->(t'=t∨hasB (loopsL l) t'=false)->fndL t' 0 (replL way l [x])=some way
 |[],l,h,_=>absurd rfl (fndL_ne t l 0 [] h)
 |i::p,l,h,ho=>by
  obtain ⟨j,q,e,hj,h1,h2⟩:=fnd_cut t l 0 _ h
  injection e with e1 e2
  subst e2
  have hi:i.toNat=j:=by omega
  have hij:i=(j:Int):=by omega
  have hlen:(l.take j).length=j:=by rw [List.length_take];omega
  have hmem:l.getD j zSt∈l:=by rw [List.getD_eq_getElem?_getD,List.getElem?_eq_getElem hj];exact List.getElem_mem hj
  have hsub:t'=t∨(hasB (loopsL (l.take j)) t'=false/\hasB (loopsS (l.getD j zSt)) t'=false):=by
   rcases ho with ho|ho
   ·exact .inl ho
   ·right
    have hc:=cut_at (l:=l) (i:=(j:Int)) ⟨by omega,by omega⟩
    rw [←hc,zAt,zAt,zEr,zAk,zAk,Bool.or_eq_false_iff,Bool.or_eq_false_iff] at ho
    exact ho.1
  have hnone:∀i',fndL t' i' (l.take j)=none:=by
   rcases hsub with rfl|⟨k,_⟩
   ·exact h1
   ·exact fndL_no k
  by_cases hp:p=[]
  ·subst hp
   have hs:fndS t' x=some []:=by rw [zJf,if_pos hx]
   rw [zBz,hi,List.append_assoc,List.singleton_append,fnd_back hs _ _ hnone,hlen,hij]
   congr 2;omega
  ·have hb:isLoop t (l.getD j zSt)=false:=by
    cases k:isLoop t (l.getD j zSt) with
    |false=>rfl
    |true=>rw [zJf,if_pos k] at h2;injection h2 with h2;exact absurd h2.symm hp
   have hb':isLoop t' (l.getD j zSt)=false:=by
    rcases hsub with rfl|⟨_,k⟩
    ·exact hb
    ·exact isLoop_no k
   rw [zJf,if_neg (by rw [hb];simp)] at h2
   have ih:=fnd_repl hx p (l.getD j zSt).Body h2 (by
    rcases hsub with k|⟨_,k⟩
    ·exact .inl k
    ·rw [zCa,zAk,Bool.or_eq_false_iff] at k;exact .inr k.2)
   have hs:fndS t' (setB (l.getD j zSt) (replL p (l.getD j zSt).Body [x]))=some p:=by
    rw [zJf,if_neg]
    ·exact ih
    ·have:isLoop t' (setB (l.getD j zSt) (replL p (l.getD j zSt).Body [x]))=isLoop t' (l.getD j zSt):=rfl
     rw [this,hb'];simp
   rw [zDk hp,hi,List.append_assoc,List.singleton_append,fnd_back hs _ _ hnone,hlen,hij]
   congr 2;omega
end Go.Br
end
section
set_option maxRecDepth 10000
namespace Go.Br
open Go Go.Eng Go.L41
mutual
theorem loopsS_same (g:Lf->Lf):∀s:St,loopsS (gSt g (fun x=>x) s)=loopsS s
 |.mk o nm mn mk fo i e b=>by
  rw [gSt,loopsS,loopsS,zJd g b]
  congr 1
  unfold loopNm
  show (if o=1 then [if o=1 then nm else nm] else [])=if o=1 then [nm] else []
  split<;>rfl
theorem zJd (g:Lf->Lf):∀l:List St,loopsL (gSts g (fun x=>x) l)=loopsL l
 |[]=>by rw [gSts]
 |s::r=>by rw [gSts,loopsL,loopsL,loopsS_same g s,zJd g r]
end
theorem trips {m b:Int} (hb:1<=b) (hm:b<=m) (hm2:m<=65536) (h:Int.tmod m b=0):
  ∃q,w64 (Int.tdiv (w64 (w64 (m+b)-1)) b)=q/\w64 (q*b)=m/\¬w64 (Int.tdiv 65536 b)<q:=by
 rw [Int.tmod_eq_emod_of_nonneg (by omega)] at h
 obtain ⟨d,hd⟩:∃d,m/b=d:=⟨_,rfl⟩
 have e:m=b*d:=by
  have:=Int.mul_ediv_add_emod m b
  rw [h,hd] at this;omega
 have d0:0<=d:=by rw [←hd];exact Int.ediv_nonneg (by omega) (by omega)
 have d1:d<=b*d:=by have:=Int.mul_le_mul_of_nonneg_right hb d0;omega
 refine ⟨d,?_,?_,?_⟩
 ·rw [zJn (n:=m+b) (by unfold r64;omega),zJn (n:=m+b-1) (by unfold r64;omega),Int.tdiv_eq_ediv_of_nonneg (by omega)]
  have k:m+b-1=(b-1)+b*d:=by omega
  rw [k,Int.add_mul_ediv_left _ _ (by omega),Int.ediv_eq_zero_of_lt (by omega) (by omega),Int.zero_add]
  exact zJn (by unfold r64;omega)
 ·rw [Int.mul_comm,←e];exact zJn (by unfold r64;omega)
 ·rw [Int.tdiv_eq_ediv_of_nonneg (by omega)]
  have k1:d<=65536/b:=Int.le_ediv_of_mul_le (by omega) (by rw [Int.mul_comm];omega)
  have k2:(65536:Int)/b<=65536:=Int.ediv_le_self _ (by omega)
  rw [zJn (by unfold r64;omega)]
  omega
theorem takN_no {n:Ns} {t:ByteArray} (h:takN n t=false):hasB (loopsL n.Body) t=false:=by
 unfold takN at h
 rw [Bool.or_eq_false_iff,find_has] at h
 exact h.2
theorem loop_self {s:St} {t:ByteArray} (h1:s.Op=1) (h2:s.Name=t) (h3:s.Fold=0) (h4:s.Idx=[]) (h5:s.E=zEx):sFor t s.Many s.Mark s.Body=s:=by
 cases s
 simp only [St.Op,St.Name,St.Fold,St.Idx,St.E] at h1 h2 h3 h4 h5
 subst h1;subst h2;subst h3;subst h4;subst h5
 rfl
theorem zLk {P:Lf->Prop} (h:P ⟨0,[]⟩):zSt.allF P:=by
 unfold zSt
 rw [St.allF]
 exact ⟨fun x hx=>(by cases hx),zOj h,by rw [allSs];trivial⟩
theorem getD_all {P:Lf->Prop} {l:List St} (hz:P ⟨0,[]⟩) (h:allSs P l) (k:Nat):(l.getD k zSt).allF P:=by
 rw [List.getD_eq_getElem?_getD]
 cases e:l[k]? with
 |none=>exact zLk hz
 |some a=>exact kJ h a (zZ e)
theorem replL_all {P:Lf->Prop} (hz:P ⟨0,[]⟩):∀{way:List Int} {l q:List St},allSs P l->allSs P q->allSs P (replL way l q)
 |[],l,q,h,_=>by rw [replL];exact h
 |i::p,l,q,hl,hq=>by
  rw [replL]
  refine zIc fun s hs=>?_
  rcases List.mem_append.1 hs with hs|hs
  ·rcases List.mem_append.1 hs with hs|hs
   ·exact kJ hl s (List.mem_of_mem_take hs)
   ·split at hs
    ·exact kJ hq s hs
    ·rw [List.mem_singleton] at hs
     obtain ⟨h1,h2,h3⟩:=St.allF_eq (getD_all hz hl i.toNat)
     rw [hs]
     unfold setB
     rw [St.allF]
     exact ⟨h1,h2,replL_all hz h3 hq⟩
  ·exact kJ hl s (List.mem_of_mem_drop hs)
theorem sFor_all {P:Lf->Prop} (hz:P ⟨0,[]⟩) {nm:ByteArray} {many mark:Int} {b:List St} (h:allSs P b):(sFor nm many mark b).allF P:=by
 unfold sFor
 rw [St.allF]
 exact ⟨fun x hx=>(by cases hx),zOj hz,h⟩
theorem one_all {P:Lf->Prop} {s:St} (h:s.allF P):allSs P [s]:=by rw [allSs];exact ⟨h,by rw [allSs];trivial⟩
theorem many_ok {n:Ns} {t:ByteArray} (h:locE n t=0) (h2:(locT n t).2.1.Body.length=1/\((locT n t).2.1.Body.getD 0 zSt).Op=1):1<=((locT n t).2.1.Body.getD 0 zSt).Many:=by
 have hv:(validN n).2=0:=by
  by_cases c:(validN n).2=0
  ·exact c
  ·unfold locE at h;rw [if_neg c] at h;exact h
 have hf:(findN n.Body t).isSome=true:=by
  cases c:(findN n.Body t).isSome with
  |true=>rfl
  |false=>unfold locE at h;rw [if_pos hv,c] at h;exact absurd h (by decide)
 have hl:(locT n t).2.1=(atT n.Body (wayF n t)).1:=by unfold locT;rw [if_pos h]
 rw [hl] at h2⊢
 have h3:=(zJu (atT_stAll (valid_all hv) (found_loop hv hf).1)).2
 generalize (atT n.Body (wayF n t)).1.Body=b at *
 have hm:b.getD 0 zSt∈b:=by
  rw [List.getD_eq_getElem?_getD,List.getElem?_eq_getElem (by omega)]
  exact List.getElem_mem _
 obtain ⟨U,sc,h4⟩:=(zJu (zHu h3 _ hm)).1
 exact (loop_facts h4 h2.2).2.2.1
theorem inv_law {n:Ns} {loop:ByteArray} {by_:Int} {outer inner:ByteArray} (hr:allSs Lf.rng n.Body) (h:(splitT n loop by_ outer inner).2=0):
  (validN n).2=0/\(findN n.Body loop).isSome=true/\1<=by_/\by_<=(atT n.Body (wayF n loop)).1.Many/\(atT n.Body (wayF n loop)).2=true/\(atT n.Body (wayF n loop)).1.Many<=65536/\(Int.tmod (atT n.Body (wayF n loop)).1.Many by_=0->allSs Lf.rng (splitT n loop by_ outer inner).1.Body/\colT (splitT n loop by_ outer inner).1 outer loop=(n,0)):=by
 have h0:locE n loop=0:=by
  by_cases c:locE n loop=0
  ·exact c
  ·unfold splitT at h;rw [if_neg c] at h;exact h
 have hv:(validN n).2=0:=by
  by_cases c:(validN n).2=0
  ·exact c
  ·unfold locE at h0;rw [if_neg c] at h0;exact h0
 have hf:(findN n.Body loop).isSome=true:=by
  cases c:(findN n.Body loop).isSome with
  |true=>rfl
  |false=>unfold locE at h0;rw [if_pos hv,c] at h0;exact absurd h0 (by decide)
 have hl:(locT n loop).2.1=(atT n.Body (wayF n loop)).1:=by unfold locT;rw [if_pos h0]
 obtain ⟨q1,q2,q3,q4,q5,q6,q7,q8,q9,q10⟩:=found_loop hv hf
 obtain ⟨w,hw⟩:=Option.isSome_iff_exists.1 hf
 have ew:wayF n loop=w:=by unfold wayF;rw [hw];rfl
 rw [ew] at hl q1 q2 q3 q6 q7 q8 q9 q10⊢
 have hne:w≠[]:=findN_ne hw
 have hat:atT n.Body w=atF w n.Body zSt:=by unfold atT;rw [if_neg hne]
 obtain ⟨s,hs0⟩:∃s,(atT n.Body w).1=s:=⟨_,rfl⟩
 have q1F:(atF w n.Body zSt).2=true:=by rw [←hat];exact q1
 have sF:(atF w n.Body zSt).1=s:=by rw [←hat];exact hs0
 rw [hs0] at hl q2 q3 q6 q7 q8 q9 q10⊢
 have hspl:splitT n loop by_ outer inner=if splE n s loop by_ outer inner=0 then finT n w [splS s by_ outer inner (formT by_ outer inner) (outS (sbT loop (formT by_ outer inner) s.Body))] else (zNs,splE n s loop by_ outer inner):=by
  unfold splitT;rw [if_pos h0,hl,ew]
 have hs:splE n s loop by_ outer inner=0:=by
  by_cases c:splE n s loop by_ outer inner=0
  ·exact c
  ·rw [hspl,if_neg c] at h;exact h
 rw [if_pos hs] at hspl
 have k1:¬(by_<1∨s.Many<by_):=fun c=>by unfold splE at hs;rw [if_pos c] at hs;exact absurd hs (by decide)
 have k2:¬(!isNameB outer|| !isNameB inner)=true:=fun c=>by unfold splE at hs;rw [if_neg k1,if_pos c] at hs;exact absurd hs (by decide)
 have k3:¬dupT n loop outer inner=true:=fun c=>by unfold splE at hs;rw [if_neg k1,if_neg k2,if_pos c] at hs;exact absurd hs (by decide)
 have k4:errE (sbT loop (formT by_ outer inner) s.Body)=0:=by unfold splE at hs;rwa [if_neg k1,if_neg k2,if_neg k3] at hs
 refine ⟨hv,hf,by omega,by omega,q1,q7,fun hdiv=>?_⟩
 have ho:isNameB outer=true:=by revert k2;cases isNameB outer<;>simp
 have hi:isNameB inner=true:=by revert k2;cases isNameB inner<;>simp
 unfold dupT at k3
 rw [Bool.not_eq_true,Bool.or_eq_false_iff,Bool.or_eq_false_iff,decide_eq_false_iff_not] at k3
 obtain ⟨⟨hoi,k5⟩,k6⟩:=k3
 have no_o:outer≠loop->hasB (loopsL n.Body) outer=false:=fun c=>takN_no (by rw [decide_eq_false c] at k5;simpa using k5)
 have no_i:inner≠loop->hasB (loopsL n.Body) inner=false:=fun c=>takN_no (by rw [decide_eq_false c] at k6;simpa using k6)
 obtain ⟨b1,hb1⟩:=mSts_0 (f:=sbF loop (formT by_ outer inner)) (g:=fun x=>x) (l:=s.Body) k4
 have hb1':sbT loop (formT by_ outer inner) s.Body=.ok b1:=hb1
 have hall:allSs (fun l=>linOk l=true/\l.rng/\(outer≠loop->coeffL l.L outer=0)/\(inner≠loop->coeffL l.L inner=0)) n.Body:=
  zAs (fun l k=>⟨k.1.1,k.1.2,fun c=>coeff_out k.2 (no_o c),fun c=>coeff_out k.2 (no_i c)⟩) (zFd _ (zFd _ (chkL_lin n.Body [] [] [] 0 (zFf hv).2.2.2) hr) (valid_sc hv))
 have hz:zSt.allF (fun l=>linOk l=true/\l.rng/\(outer≠loop->coeffL l.L outer=0)/\(inner≠loop->coeffL l.L inner=0)):=by
  unfold zSt
  rw [St.allF]
  refine ⟨fun x hx=>(by cases hx),?_,by rw [allSs];trivial⟩
  exact zOj (P:=fun l=>linOk l=true/\l.rng/\(outer≠loop->coeffL l.L outer=0)/\(inner≠loop->coeffL l.L inner=0)) ⟨rfl,zrng,fun _=>rfl,fun _=>rfl⟩
 have hsA:=atF_allF hall hz q1F
 rw [sF] at hsA
 obtain ⟨r1,b2,r2,r3⟩:=inv_body q5 ho hi (by omega) (by omega) hoi (St.allF_eq hsA).2.2 hb1'
 obtain ⟨q,t1,t2,t3⟩:=trips (m:=s.Many) (b:=by_) (by omega) (by omega) q7 hdiv
 obtain ⟨X,hX⟩:∃X,sFor outer q s.Mark [sFor inner by_ 0 b1]=X:=⟨_,rfl⟩
 have eX:splS s by_ outer inner (formT by_ outer inner) (outS (sbT loop (formT by_ outer inner) s.Body))=X:=by
  rw [hb1',←hX]
  unfold splS splB
  rw [if_pos hdiv,t1];rfl
 rw [eX] at hspl
 have hfin:(validN (repR n w [X])).2=0:=by
  by_cases c:(validN (repR n w [X])).2=0
  ·exact c
  ·rw [hspl] at h;unfold finT at h;rw [if_neg c] at h;exact h
 have hm:(splitT n loop by_ outer inner).1=⟨n.Bufs,replL w n.Body [X]⟩:=by
  rw [hspl];unfold finT;rw [if_pos hfin];unfold repR;rw [if_pos q1];rfl
 have eM:repR n w [X]=⟨n.Bufs,replL w n.Body [X]⟩:=by unfold repR;rw [if_pos q1];rfl
 rw [eM] at hfin
 rw [hm]
 obtain ⟨M,hM⟩:∃M:Ns,(⟨n.Bufs,replL w n.Body [X]⟩:Ns)=M:=⟨_,rfl⟩
 have MB:M.Body=replL w n.Body [X]:=by rw [←hM]
 have MU:M.Bufs=n.Bufs:=by rw [←hM]
 rw [hM] at hfin⊢
 have hfM:findN M.Body outer=some w:=by
  rw [zEu,MB]
  rw [zEu] at hw
  refine fnd_repl ?_ w n.Body hw ?_
  ·rw [←hX];unfold isLoop;exact (Bool.and_eq_true _ _).mpr ⟨rfl,decide_eq_true rfl⟩
  ·by_cases c:outer=loop
   ·exact .inl c
   ·exact .inr (no_o c)
 have hMr:allSs Lf.rng M.Body:=by
  have hsr:allSs Lf.rng s.Body:=zAs (fun l k=>k.2.1) (St.allF_eq hsA).2.2
  have hg:=zMu hb1
  have hbr:allSs Lf.rng b1:=by rw [hg];exact zFv (zAs (fun l k=>zHs loop k) hsr)
  rw [MB,←hX]
  exact replL_all zrng hr (one_all (sFor_all zrng (one_all (sFor_all zrng hbr))))
 refine ⟨hMr,?_⟩
 have hlM:locE M outer=0:=by unfold locE;rw [if_pos hfin,hfM];rfl
 have hwM:wayF M outer=w:=by unfold wayF;rw [hfM];rfl
 have haM:atT M.Body w=(X,true):=by unfold atT;rw [if_neg hne,MB];exact replL_at hne q1F
 have hTM:(locT M outer).2.1=X:=by unfold locT;rw [if_pos hlM,hwM,haM]
 have hno:((!decide (loop=outer)&& !decide (loop=inner))&&takN M loop)=false:=by
  by_cases c1:loop=outer
  ·simp [c1]
  ·by_cases c2:loop=inner
   ·simp [c2]
   ·have:takN M loop=false:=by
     unfold takN
     rw [find_has,MU,q4,MB,Bool.false_or]
     apply cnt_no
     have hc:=replL_cnt loop (q:=[X]) hne q1F
     have hu:=valid_cnt hv loop
     rw [sF,zCa s,zCy] at hc
     have e1:loopNm s=[loop]:=by unfold loopNm;rw [if_pos q2,q3]
     have e2:loopsL [X]=[outer]++([inner]++loopsL s.Body):=by
      have hg:=zMu hb1
      rw [zEr,←hX,←zJd (fun l=>(sbF loop (formT by_ outer inner) l).1) s.Body,←hg]
      rw [zCa]
      show [outer]++loopsL [sFor inner by_ 0 b1]=_
      rw [zEr,zCa];rfl
     rw [e1,e2,zCy,zCy,zOe,zOe,zOe,if_pos rfl,if_neg (fun e=>c1 e.symm),if_neg (fun e=>c2 e.symm)] at hc
     omega
    rw [this,Bool.and_false]
 have hcE:colE M X outer loop=0:=by
  unfold colE
  have X1:X.Body=[sFor inner by_ 0 b1]:=by rw [←hX];rfl
  have X2:X.Body.getD 0 zSt=sFor inner by_ 0 b1:=by rw [X1];rfl
  have X3:X.Many=q:=by rw [←hX];rfl
  have Y1:(sFor inner by_ 0 b1).Op=1:=rfl
  have Y2:(sFor inner by_ 0 b1).Name=inner:=rfl
  have Y3:(sFor inner by_ 0 b1).Many=by_:=rfl
  have Y4:(sFor inner by_ 0 b1).Body=b1:=rfl
  rw [X2,X3,Y1,Y2,Y3,Y4,if_pos ⟨by rw [X1];rfl,rfl⟩,if_neg (by rw [q5];simp),if_neg (by rw [hno];simp),if_neg t3,if_neg (by rw [r1];simp),r2]
  show (if (0:Int)=0 then errE (sbT inner (varL loop) b2) else 0)=0
  rw [if_pos rfl,r3];rfl
 have hcS:colS X outer loop=s:=by
  unfold colS
  have X1:X.Body=[sFor inner by_ 0 b1]:=by rw [←hX];rfl
  have X2:X.Body.getD 0 zSt=sFor inner by_ 0 b1:=by rw [X1];rfl
  have X3:X.Many=q:=by rw [←hX];rfl
  have X4:X.Mark=s.Mark:=by rw [←hX];rfl
  have Y2:(sFor inner by_ 0 b1).Name=inner:=rfl
  have Y3:(sFor inner by_ 0 b1).Many=by_:=rfl
  have Y4:(sFor inner by_ 0 b1).Body=b1:=rfl
  rw [X2,X3,X4,Y2,Y3,Y4,r2,t2]
  show sFor loop s.Many s.Mark (outS (sbT inner (varL loop) b2))=s
  rw [r3]
  exact loop_self q2 q3 q8 q9 q10
 have hback:repR M w [s]=n:=by
  unfold repR
  rw [haM,if_pos rfl]
  unfold replN
  rw [MU,MB,replL_two hne q1F,←sF,replL_self hne q1F]
 unfold colT
 rw [if_pos hlM,hTM,if_pos hcE,hwM,hcS]
 unfold finT
 rw [hback,if_pos hv]
end Go.Br
end
