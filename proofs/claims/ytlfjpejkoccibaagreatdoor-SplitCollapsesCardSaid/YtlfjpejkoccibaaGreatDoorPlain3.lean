/-
  Forms by their coefficients; a loop split by a divisor and collapsed again,form by form and statement by statement (36.5).
  A loop split by a divisor and collapsed again: the nest as a whole (36.5).
  Split by a divisor,collapsed again: the nest as it was (36.5).
  Two perfectly nested loops made one: no form overflows,and the nest stays valid (36.2).
  Collapse always ends in a valid nest once its arguments are accepted; the reference's tests say the same (36.2).
  Conditions: none.
-/
import Derived.Test.YtlfjpejkoccibaaGreatDoorPlain2
set_option linter.unusedSimpArgs false
set_option linter.unusedVariables false
section
set_option maxRecDepth 10000
namespace Go.Br
open Go Go.Eng Go.L41
/-! ## Coefficients -/
theorem zFi:∀{l:List Mono} {s:ByteArray},(∀m,m∈l->m.Name≠s)->bF l s=0
 |[],_,_=>rfl
 |x::r,s,h=>by rw [bF,if_neg (h x (by simp))];exact zFi fun m hm=>h m (by simp [hm])
theorem zWs:∀{p:Option ByteArray} {l:List Mono} {m:Mono},bL p l=true->m∈l->bF l m.Name=m.By
 |p,x::r,m,h,hm=>by
  simp only [bL,Bool.and_eq_true] at h
  rcases List.mem_cons.1 hm with rfl|hm
  ·exact hd_c _ _
  ·rw [tl_c (zIb h.2 m hm)];exact zWs h.2 hm
theorem last_coeff {p:Option ByteArray} {l:List Mono} (s:ByteArray) (h:bL p l=true):bS l s=bF l s:=by
 by_cases c:bS l s=0
 ·rw [c,zFi (last_zero h c)]
 ·obtain ⟨m,hm,e1,e2⟩:=lastBy_mem c
  have:=zWs h hm
  rw [e1] at this
  rw [this,e2]
def nmT (ts:List Tr):List ByteArray:=ts.map (·.1)
theorem nmT_cons (t:Tr) (r:List Tr):nmT (t::r)=t.1::nmT r:=rfl
theorem sum_coeff {f:ByteArray->Int}:∀{ts:List Tr},xR (nmT ts)->(∀t,t∈ts->trV t=f t.1/\r64 (trV t))->∀n,bF (lM ts) n=if bK (nmT ts) n=true then f n else 0
 |[],_,_,n=>rfl
 |t::r,ha,h,n=>by
  rw [nmT_cons] at ha⊢
  obtain ⟨h1,h2⟩:=List.pairwise_cons.1 ha
  have ih:=sum_coeff (f:=f) (ts:=r) h2 (fun u hu=>h u (by simp [hu])) n
  obtain ⟨e1,e2⟩:=h t (by simp)
  have es:lM (t::r)=(if w64 (trV t)=0 then [] else [⟨t.1,w64 (trV t)⟩])++lM r:=by
   unfold lM;rw [List.filterMap_cons];by_cases c:w64 (trV t)=0<;>simp [c]
  rw [es,zJe e2,zKl]
  by_cases c:trV t=0
  ·rw [if_pos c,List.nil_append,ih]
   by_cases k:t.1=n
   ·have hn:¬bK (nmT r) n=true:=fun k2=>by
     have:=h1 _ (hasB_mem.1 k2);rw [k,zGs] at this;cases this
    rw [if_neg hn,decide_eq_true k,Bool.true_or,if_pos rfl,←k,←e1,c]
   ·rw [decide_eq_false k,Bool.false_or]
  ·rw [if_neg c,List.singleton_append,bF]
   by_cases k:t.1=n
   ·rw [if_pos k,decide_eq_true k,Bool.true_or,if_pos rfl,←k];exact e1
   ·rw [if_neg k,ih,decide_eq_false k,Bool.false_or]
theorem zPx (s n:ByteArray):∀l:List Mono,bF (l.filter fun m=> !decide (m.Name=s)) n=if n=s then 0 else bF l n
 |[]=>by simp [bF]
 |x::r=>by
  have ih:=zPx s n r
  rw [List.filter_cons]
  by_cases c:x.Name=s
  ·rw [if_neg (by simp [c]),ih]
   by_cases k:n=s
   ·rw [if_pos k,if_pos k]
   ·rw [if_neg k,if_neg k,bF,if_neg (fun e=>k (e.symm.trans c))]
  ·rw [if_pos (by simp [c]),bF,bF,ih]
   by_cases k:x.Name=n
   ·rw [if_pos k,if_pos k,if_neg (fun e=>c (k.trans e))]
   ·rw [if_neg k,if_neg k]
theorem addT_coeff {a b:List Mono} {k c:Int} (ha:bL none a=true) (hb:bL none b=true) (h:(lT k (jW c (bG a b))).2=0):
  (lT k (jW c (bG a b))).1.K=k/\∀n,bF (lT k (jW c (bG a b))).1.L n=bF a n+bF b n*c:=by
 unfold lT at h⊢
 split at h
 ·next hc=>
  rw [if_pos hc]
  refine ⟨rfl,fun n=>?_⟩
  have hm:=zCu _ none a b (Nat.le_refl _) ha hb
  have hs:=sum_coeff (f:=fun n=>bF a n+bF b n*c) (trs_asc (mul_asc c (zBm _ none _ _ (Nat.le_refl _) ha hb))) (fun t ht=>by
   have h1:=List.all_eq_true.1 hc.2 t ht
   unfold sU at h1
   refine ⟨?_,by simpa using h1⟩
   unfold jW at ht
   obtain ⟨u,hu,rfl⟩:=List.mem_map.1 ht
   obtain ⟨e1,e2⟩:=hm u hu
   show u.2.1+u.2.2*c=_
   rw [e1,e2]) n
  show bF (lM (jW c (bG a b))) n=_
  rw [hs]
  split
  ·rfl
  ·next hn=>
   have no:∀m,m∈a∨m∈b->m.Name≠n:=fun m hm' e=>by
    obtain ⟨t,ht,et⟩:=zHb _ a b (Nat.le_refl _) m hm'
    apply hn
    exact hasB_mem.2 (List.mem_map.2 ⟨(t.1,t.2.1,t.2.2*c),List.mem_map.2 ⟨t,ht,rfl⟩,by show t.1=n;rw [et,e]⟩)
   rw [zFi (fun m hm'=>no m (.inl hm')),zFi (fun m hm'=>no m (.inr hm'))]
   simp
 ·exact absurd h (by decide)
theorem sub_coeff {l to_:Lf} {s:ByteArray} (h1:bJ l=true) (h2:bJ to_=true) (h3:bD s=true) (h:(bI l s to_).2=0):
  (bI l s to_).1.K=l.K+to_.K*bF l.L s/\∀n,bF (bI l s to_).1.L n=(if n=s then 0 else bF l.L n)+bF to_.L n*bF l.L s:=by
 have hl:=last_coeff s h1
 unfold bI at h⊢
 rw [if_pos ⟨h1,h2,h3⟩] at h⊢
 rw [hl] at h⊢
 by_cases c:bF l.L s=0
 ·rw [if_pos c] at h⊢
  refine ⟨by rw [c];simp,fun n=>?_⟩
  rw [c,Int.mul_zero,Int.add_zero]
  split
  ·next e=>rw [e];exact c
  ·rfl
 ·rw [if_neg c] at h⊢
  by_cases d:r64 (to_.K*bF l.L s)/\fT (bF l.L s) to_.L=true
  ·rw [if_pos d] at h⊢
   obtain ⟨k1,k2⟩:=addT_coeff (zEl _ h1) h2 h
   refine ⟨k1,fun n=>?_⟩
   have k3:=k2 n
   rw [zPx] at k3
   exact k3
  ·rw [if_neg d] at h;exact absurd h (by decide)
theorem sub_fits {l to_:Lf} {s:ByteArray} (h1:bJ l=true) (h2:bJ to_=true) (h3:bD s=true) (hk:r64 (to_.K*bF l.L s)) (hs:fT (bF l.L s) to_.L=true) (hK:r64 (l.K+to_.K*bF l.L s))
  (hc:∀n,r64 ((if n=s then 0 else bF l.L n)+bF to_.L n*bF l.L s)):(bI l s to_).2=0:=by
 have hl:=last_coeff s h1
 unfold bI
 rw [if_pos ⟨h1,h2,h3⟩,hl]
 by_cases c:bF l.L s=0
 ·rw [if_pos c]
 ·rw [if_neg c,if_pos ⟨hk,hs⟩]
  unfold lT
  have hall:(jW (bF l.L s) (bG (lQ l s).L to_.L)).all sU=true:=by
   rw [List.all_eq_true]
   intro t ht
   unfold jW at ht
   obtain ⟨u,hu,rfl⟩:=List.mem_map.1 ht
   obtain ⟨e1,e2⟩:=zCu _ none _ _ (Nat.le_refl _) (zEl _ h1) h2 u hu
   unfold sU
   rw [decide_eq_true_eq]
   show r64 (u.2.1+u.2.2*_)
   rw [e1,e2]
   have:=hc u.1
   rw [←zPx] at this
   exact this
  rw [if_pos ⟨hK,hall⟩]
/-! ## The form of a split loop -/
theorem zTp {a:ByteArray} (h:bD a=true):fL a=⟨0,[⟨a,1⟩]⟩:=by unfold fL;rw [h];rfl
theorem var_ok {a:ByteArray} (h:bD a=true) {k:Int} (hk:k≠0):bJ ⟨0,[⟨a,k⟩]⟩=true:=by
 unfold bJ;simp [bL,h,ltO,hk]
theorem one_coeff (a n:ByteArray) (k:Int):bF [⟨a,k⟩] n=if n=a then k else 0:=by
 rw [bF]
 by_cases c:a=n
 ·rw [if_pos c,if_pos c.symm]
 ·rw [if_neg c,if_neg (fun e=>c e.symm)];rfl
structure InvF (loop outer inner:ByteArray) (f:Lf) (l:Lf):Prop where
 ok:bJ l=true
 rng:l.rng
 fits:(bI l loop f).2=0
 no_o:outer≠loop->bF l.L outer=0
 no_i:inner≠loop->bF l.L inner=0
theorem zKu {p:Option ByteArray} {l:List Mono} (h:∀m,m∈l->r64 m.By) (n:ByteArray):r64 (bF l n):=by
 induction l with
 |nil=>unfold r64;simp [bF]
 |cons x r ih=>
  rw [bF]
  split
  ·exact h x (by simp)
  ·exact ih fun m hm=>h m (by simp [hm])
mutual
theorem mSt_all {f:Lf->Lf×Int} {r:ByteArray->ByteArray}:∀{s:St},s.allF (fun l=>(f l).2=0)->mSt f r s=.ok (gSt (fun l=>(f l).1) r s)
 |.mk o nm mn mk fo i e b,h=>by
  rw [St.allF] at h
  have h1:dL f i=.ok (i.map (gIx fun l=>(f l).1)):=by
   rw [zQf (g:=fun x=>((f x).1,0)) fun x hx=>⟨by rw [←(h.1 x hx).1],fun y hy=>by rw [←(h.1 x hx).2 y hy]⟩]
   exact mIxs_sure _ i
  have h2:mEx f e=.ok (gEx (fun l=>(f l).1) e):=by
   rw [mEx_congr (P:=fun l=>(f l).2=0) (g:=fun x=>((f x).1,0)) (fun x hx=>by rw [←hx]) e h.2.1]
   exact mEx_sure _ e
  rw [mSt,h1,h2,gSt]
  simp only [zSj h.2.2]
theorem zSj {f:Lf->Lf×Int} {r:ByteArray->ByteArray}:∀{l:List St},bH (fun l=>(f l).2=0) l->fW f r l=.ok (fD (fun l=>(f l).1) r l)
 |[],_=>by rw [fW,fD]
 |s::t,h=>by
  rw [bH] at h
  rw [fW,mSt_all h.1,fD]
  simp only [zSj h.2]
end
mutual
theorem gSt_all {P:Lf->Prop} {g:Lf->Lf} {r:ByteArray->ByteArray}:∀{s:St},s.allF (fun l=>P (g l))->(gSt g r s).allF P
 |.mk o nm mn mk fo i e b,h=>by
  rw [St.allF] at h
  rw [gSt,St.allF]
  refine ⟨fun x hx=>?_,allF_g h.2.1,gSts_all h.2.2⟩
  obtain ⟨y,hy,rfl⟩:=List.mem_map.1 hx
  refine ⟨(h.1 y hy).1,fun l hl=>?_⟩
  obtain ⟨z,hz,rfl⟩:=List.mem_map.1 (show l∈y.At.map g from hl)
  exact (h.1 y hy).2 z hz
theorem gSts_all {P:Lf->Prop} {g:Lf->Lf} {r:ByteArray->ByteArray}:∀{l:List St},bH (fun l=>P (g l)) l->bH P (fD g r l)
 |[],_=>by rw [fD,bH];trivial
 |s::t,h=>by rw [bH] at h;rw [fD,bH];exact ⟨gSt_all h.1,gSts_all h.2⟩
end
theorem zEr {P Q:Lf->Prop} (hPQ:∀l,P l->Q l) {l:List St} (h:bH P l):bH Q l:=by
 have:∀s:St,s.allF P->s.allF Q:=by
  intro s
  induction s using St.ind with
  |_ s ih=>
   intro hs
   cases s with
   |mk o nm mn mk fo i e b=>
    rw [St.allF] at hs⊢
    exact ⟨fun x hx=>⟨hPQ _ (hs.1 x hx).1,fun y hy=>hPQ _ ((hs.1 x hx).2 y hy)⟩,fun x hx y hy=>hPQ _ (hs.2.1 x hx y hy),zPj fun a ha=>ih a ha (kY hs.2.2 a ha)⟩
 exact zPj fun s hs=>this s (kY h s hs)
mutual
theorem gSt_gSt {g g':Lf->Lf}:∀s:St,gSt g' (fun x=>x) (gSt g (fun x=>x) s)=gSt (fun l=>g' (g l)) (fun x=>x) s
 |.mk o nm mn mk fo i e b=>by
  rw [gSt,gSt,gSt,gEx_gEx,zVx b]
  congr 1
  ·split<;>rfl
  ·rw [List.map_map];congr 1;funext x;exact gIx_gIx g g' x
theorem zVx {g g':Lf->Lf}:∀l:List St,fD g' (fun x=>x) (fD g (fun x=>x) l)=fD (fun l=>g' (g l)) (fun x=>x) l
 |[]=>by rw [fD,fD,fD]
 |s::t=>by rw [fD,fD,fD,gSt_gSt s,zVx t]
end
mutual
theorem gSt_same {g:Lf->Lf}:∀s:St,s.allF (fun l=>g l=l)->gSt g (fun x=>x) s=s
 |.mk o nm mn mk fo i e b,h=>by
  rw [St.allF] at h
  rw [gSt,gEx_id e h.2.1,gIxs_id h.1,zVw b h.2.2]
  simp
theorem zVw {g:Lf->Lf}:∀l:List St,bH (fun l=>g l=l) l->fD g (fun x=>x) l=l
 |[],_=>by rw [fD]
 |s::t,h=>by rw [bH] at h;rw [fD,gSt_same s h.1,zVw t h.2]
end
theorem ixEv_of {f:Lf->Bool} {i:List Ix} (h:gN (fun l=>f l=true) i):jX f i=true:=by
 unfold jX
 rw [List.all_eq_true]
 intro x hx
 rw [(h x hx).1,Bool.true_and,List.all_eq_true]
 exact (h x hx).2
mutual
theorem evS_of {f:Lf->Bool}:∀{s:St},s.allF (fun l=>f l=true)->evS f s=true
 |.mk o nm mn mk fo i e b,h=>by
  rw [St.allF] at h
  rw [evS,ixEv_of h.1,evL_of h.2.2]
  show rX f e=true
  unfold rX
  rw [List.all_eq_true]
  intro a ha
  have h1:=h.2.1 a ha
  rw [h1 a.Lin (by unfold bQ;simp),Bool.true_and]
  exact ixEv_of fun x hx=>⟨h1 _ (by unfold bQ;exact List.mem_cons_of_mem _ (List.mem_flatMap.2 ⟨x,hx,by simp⟩)),fun l hl=>h1 _ (by unfold bQ;exact List.mem_cons_of_mem _ (List.mem_flatMap.2 ⟨x,hx,by simp [hl]⟩))⟩
theorem evL_of {f:Lf->Bool}:∀{l:List St},bH (fun l=>f l=true) l->evL f l=true
 |[],_=>by rw [evL]
 |s::t,h=>by rw [bH] at h;rw [evL,evS_of h.1,evL_of h.2];rfl
end
end Go.Br
end
section
set_option maxRecDepth 10000
namespace Go.Br
open Go Go.Eng Go.L41
/-! ## Names in scope -/
theorem zHe {sc sc':List ByteArray} (h:∀t,bK sc t=true->bK sc' t=true) {l:Lf} (k:gS sc l=true):gS sc' l=true:=by
 unfold gS at *
 rw [List.all_eq_true] at *
 exact fun m hm=>h _ (k m hm)
theorem nodes_sc {B:List Bf} {sc:List ByteArray} {e:Ex} (h:dK B sc (dG e)=0):e.allF (fun l=>gS sc l=true):=fun x hx l hl=>by
 have h1:=zLj.1 h x hx
 unfold gP at h1
 split at h1
 ·next c=>
  unfold hC at c
  rw [Bool.and_eq_true] at c
  unfold bQ at hl
  rcases List.mem_cons.1 hl with rfl|hl
  ·exact c.1
  ·obtain ⟨y,hy,hl⟩:=List.mem_flatMap.1 hl
   have h2:=List.all_eq_true.1 c.2 y hy
   unfold sL at h2
   rw [Bool.and_eq_true] at h2
   rcases List.mem_cons.1 hl with rfl|hl
   ·exact h2.1
   ·exact List.all_eq_true.1 h2.2 l hl
 ·cases h1
theorem stE_sc {B:List Bf} {U sc:List ByteArray} {s:St} (h:stE B U sc s=0):gN (fun l=>gS sc l=true) s.Idx/\s.E.allF (fun l=>gS sc l=true):=by
 have hs:dN s=true:=by
  cases c:dN s with
  |true=>rfl
  |false=>rw [stE_5 c] at h;cases h
 obtain ⟨s1,s2⟩:=syn_parts hs
 have nil:∀{i:List Ix},i=[]->gN (fun l=>gS sc l=true) i:=fun e x hx=>by rw [e] at hx;cases hx
 by_cases h1:s.Op=1
 ·refine ⟨nil (s1 ?_),by rw [s2 h1];exact zEx_all rfl⟩
  unfold gE;rw [decide_eq_false (by omega),decide_eq_false (by omega)];rfl
 ·by_cases h4:s.Op=4
  ·rw [zTx hs h4] at h
   have k1:(bW B sc s.E).2=0:=by
    by_cases c:(bW B sc s.E).2=0
    ·exact c
    ·rw [ifE_x c] at h;exact absurd h c
   refine ⟨nil (s1 ?_),nodes_sc (zCz k1).2⟩
   unfold gE;rw [decide_eq_false (by omega),decide_eq_false (by omega)];rfl
  ·rw [stE_s hs h1 h4] at h
   have k1:(bW B sc (rdE s)).2=0:=by
    by_cases c:(bW B sc (rdE s)).2=0
    ·exact c
    ·rw [zNl c] at h;exact absurd h c
   have k2:¬((gH B s.Name).Use=1∨(s.Op=3/\(s.Fold<1∨4<s.Fold))):=fun c=>by rw [zLh k1 c] at h;cases h
   have k3:(bW B sc s.E).2=0:=by
    by_cases c:(bW B sc s.E).2=0
    ·exact c
    ·rw [zNk k1 k2 c] at h;exact absurd h c
   refine ⟨fun x hx=>?_,nodes_sc (zCz k3).2⟩
   have:=nodes_sc (zCz k1).2 (rdE s) (by rw [wE];simp)
   have hx':x∈(rdE s).Idx:=hx
   exact ⟨this _ (ix_in hx').1,fun l hl=>this _ ((ix_in hx').2 l hl)⟩
theorem allF_imp {P Q:Lf->Prop} (hPQ:∀l,P l->Q l) {e:Ex} (h:e.allF P):e.allF Q:=fun x hx l hl=>hPQ l (h x hx l hl)
theorem zFv {B:List Bf} {U sc:List ByteArray} {here:List Int} {s:St} (h:(fC B U sc here s).E=0):stE B U sc s=0/\fC B U sc here s=bR B (fQ U s) (fQ sc s) here 0 s.Body:=by
 by_cases c:stE B U sc s=0
 ·exact ⟨c,zKx c⟩
 ·rw [chkS_no c] at h;exact absurd h c
theorem zPc {B:List Bf} {U sc:List ByteArray} {way:List Int} {i:Int} {s:St} {r:List St} (h:(bR B U sc way i (s::r)).E=0):(fC B U sc (way++[i]) s).E=0/\bR B U sc way i (s::r)=bR B (fC B U sc (way++[i]) s).U sc way (i+1) r:=by
 rw [bR] at h⊢
 by_cases c:(fC B U sc (way++[i]) s).E=0
 ·rw [if_pos c];exact ⟨c,rfl⟩
 ·rw [if_neg c] at h;exact absurd h c
mutual
theorem chkS_sc {B:List Bf}:∀(s:St) (U sc:List ByteArray) (here:List Int),(fC B U sc here s).E=0->s.allF (fun l=>gS (sc++dS s) l=true)
 |.mk o nm mn mk fo i e b,U,sc,here,h=>by
  obtain ⟨h0,h2⟩:=zFv h
  rw [h2] at h
  obtain ⟨h3,h4⟩:=stE_sc h0
  have h5:=chkL_sc b _ _ _ _ h
  have m1:∀t,bK sc t=true->bK (sc++dS (.mk o nm mn mk fo i e b)) t=true:=fun t ht=>by rw [zAg,ht,Bool.true_or]
  have m2:∀t,bK (fQ sc (.mk o nm mn mk fo i e b)++bE b) t=true->bK (sc++dS (.mk o nm mn mk fo i e b)) t=true:=fun t ht=>by
   rw [dS]
   unfold fQ at ht
   unfold gI
   split at ht
   ·next c=>rw [if_pos c,←List.append_assoc];exact ht
   ·next c=>rw [if_neg c,List.nil_append];exact ht
  rw [St.allF]
  exact ⟨fun x hx=>⟨zHe m1 (h3 x hx).1,fun y hy=>zHe m1 ((h3 x hx).2 y hy)⟩,allF_imp (fun l=>zHe m1) h4,zEr (fun l=>zHe m2) h5⟩
theorem chkL_sc {B:List Bf}:∀(l:List St) (U sc:List ByteArray) (way:List Int) (i:Int),(bR B U sc way i l).E=0->bH (fun f=>gS (sc++bE l) f=true) l
 |[],_,_,_,_,_=>by rw [bH];trivial
 |s::r,U,sc,way,i,h=>by
  obtain ⟨h1,h2⟩:=zPc h
  rw [h2] at h
  have k1:=chkS_sc s _ _ _ h1
  have k2:=chkL_sc r _ _ _ _ h
  have m1:∀t,bK (sc++dS s) t=true->bK (sc++bE (s::r)) t=true:=fun t ht=>by
   rw [zAg] at ht⊢
   rw [bE,zAg]
   revert ht;cases bK sc t<;>cases bK (dS s) t<;>simp
  have m2:∀t,bK (sc++bE r) t=true->bK (sc++bE (s::r)) t=true:=fun t ht=>by
   rw [zAg] at ht⊢
   rw [bE,zAg]
   revert ht;cases bK sc t<;>cases bK (bE r) t<;>simp
  rw [bH]
  refine ⟨?_,zEr (fun l=>zHe m2) k2⟩
  have k3:bH (fun f=>gS (sc++dS s) f=true) [s]:=by rw [bH];exact ⟨k1,by rw [bH];trivial⟩
  have k4:=zEr (Q:=fun f=>gS (sc++bE (s::r)) f=true) (fun l=>zHe m1) k3
  rw [bH] at k4
  exact k4.1
end
theorem valid_sc {n:Ns} (h:(dO n).2=0):bH (fun l=>gS (bE n.Body) l=true) n.Body:=chkL_sc n.Body [] [] [] 0 (zFj h).2.2.2
theorem coeff_out {sc:List ByteArray} {l:Lf} {s:ByteArray} (h:gS sc l=true) (hs:bK sc s=false):bF l.L s=0:=zFi fun m hm e=>by
 unfold gS at h
 have:=List.all_eq_true.1 h m hm
 rw [e,hs] at this;cases this
theorem atF_allF {P:Lf->Prop}:∀{way:List Int} {l:List St} {s:St},bH P l->s.allF P->(atF way l s).2=true->(atF way l s).1.allF P
 |[],_,_,_,h,_=>by rw [atF];exact h
 |i::r,l,s,hl,hs,h=>by
  rw [atF] at h⊢
  by_cases c:0<=i/\i<l.length
  ·rw [if_pos c] at h⊢
   have h1:=kY hl _ (zMm c)
   exact atF_allF (St.allF_eq h1).2.2 h1 h
  ·rw [if_neg c] at h;cases h
/-! ## Unique names -/
def fR (t:ByteArray) (l:List ByteArray):Nat:=l.countP fun x=>decide (x=t)
theorem zAw (t:ByteArray) (a b:List ByteArray):fR t (a++b)=fR t a+fR t b:=List.countP_append
theorem zSx (t x:ByteArray):fR t [x]=if x=t then 1 else 0:=by
 unfold fR
 by_cases c:x=t<;>simp [c]
theorem fresh_1 {B:List Bf} {U sc:List ByteArray} {s:St} (h:stE B U sc s=0) (ho:s.Op=1):bK U s.Name=false:=by
 have hs:dN s=true:=by
  cases c:dN s with
  |true=>rfl
  |false=>rw [stE_5 c] at h;cases h
 rw [zPr hs ho] at h
 unfold lY at h
 cases k:bK U s.Name with
 |false=>rfl
 |true=>
  split at h
  ·rw [if_pos (.inr k)] at h;cases h
  ·cases h
mutual
theorem chkS_u {B:List Bf}:∀(s:St) (U sc:List ByteArray) (here:List Int),(fC B U sc here s).E=0->∀t,(bK U t=true->fR t (dS s)=0/\bK (fC B U sc here s).U t=true)/\fR t (dS s)<=1/\(0<fR t (dS s)->bK (fC B U sc here s).U t=true)
 |.mk o nm mn mk fo i e b,U,sc,here,h,t=>by
  obtain ⟨h0,h2⟩:=zFv h
  rw [h2] at h⊢
  obtain ⟨i1,i2,i3⟩:=chkL_u b _ _ _ _ h t
  rw [dS,zAw]
  unfold gI
  by_cases c:o=1
  ·have hf:=fresh_1 h0 c
   have hn:fQ U (.mk o nm mn mk fo i e b)=U++[nm]:=if_pos c
   rw [hn] at i1 i3
   rw [hn]
   rw [if_pos (show (St.mk o nm mn mk fo i e b).Op=1 from c),zSx]
   by_cases k:nm=t
   ·have ht:bK (U++[nm]) t=true:=by rw [zAg,k];simp [bK]
    obtain ⟨j1,j2⟩:=i1 ht
    have e1:(if (St.mk o nm mn mk fo i e b).Name=t then 1 else 0)=1:=if_pos k
    rw [e1,show fR t (bE b)=0 from j1]
    refine ⟨fun hU=>?_,by omega,fun _=>j2⟩
    have:bK U nm=false:=hf
    rw [k,hU] at this;cases this
   ·have e1:(if (St.mk o nm mn mk fo i e b).Name=t then 1 else 0)=0:=if_neg k
    rw [e1,Nat.zero_add]
    exact ⟨fun hU=>i1 (by rw [zAg,hU,Bool.true_or]),i2,i3⟩
  ·have hn:fQ U (.mk o nm mn mk fo i e b)=U:=if_neg c
   rw [hn] at i1 i3
   rw [hn]
   rw [if_neg (show ¬(St.mk o nm mn mk fo i e b).Op=1 from c),show fR t []=0 from rfl,Nat.zero_add]
   exact ⟨i1,i2,i3⟩
theorem chkL_u {B:List Bf}:∀(l:List St) (U sc:List ByteArray) (way:List Int) (i:Int),(bR B U sc way i l).E=0->∀t,(bK U t=true->fR t (bE l)=0/\bK (bR B U sc way i l).U t=true)/\fR t (bE l)<=1/\(0<fR t (bE l)->bK (bR B U sc way i l).U t=true)
 |[],U,sc,way,i,h,t=>by
  rw [bE,bR]
  exact ⟨fun hU=>⟨rfl,hU⟩,by show 0<=1;omega,fun k=>absurd k (by show ¬0<0;omega)⟩
 |s::r,U,sc,way,i,h,t=>by
  obtain ⟨h1,h2⟩:=zPc h
  rw [h2] at h⊢
  obtain ⟨a1,a2,a3⟩:=chkS_u s _ _ _ h1 t
  obtain ⟨b1,b2,b3⟩:=chkL_u r _ _ _ _ h t
  rw [bE,zAw]
  refine ⟨fun hU=>?_,?_,fun k=>?_⟩
  ·obtain ⟨j1,j2⟩:=a1 hU
   obtain ⟨j3,j4⟩:=b1 j2
   exact ⟨by omega,j4⟩
  ·by_cases c:0<fR t (dS s)
   ·have:=(b1 (a3 c)).1;omega
   ·omega
  ·by_cases c:0<fR t (dS s)
   ·exact (b1 (a3 c)).2
   ·exact b3 (by omega)
end
theorem valid_cnt {n:Ns} (h:(dO n).2=0) (t:ByteArray):fR t (bE n.Body)<=1:=(chkL_u n.Body [] [] [] 0 (zFj h).2.2.2 t).2.1
/-! ## A statement replaced twice -/
theorem zDb:∀a b:List St,bE (a++b)=bE a++bE b
 |[],b=>by rw [bE];rfl
 |s::r,b=>by rw [List.cons_append,bE,bE,zDb r b,List.append_assoc]
theorem zLl (s:St):bE [s]=dS s:=by rw [bE,bE,List.append_nil]
theorem zNw (t:ByteArray):∀{way:List Int} {l q:List St} {s:St},way≠[]->(atF way l s).2=true->fR t (bE (fY way l q))+fR t (dS (atF way l s).1)=fR t (bE l)+fR t (bE q)
 |[],_,_,_,h,_=>absurd rfl h
 |i::p,l,q,s,_,h=>by
  rw [atF] at h⊢
  by_cases c:0<=i/\i<l.length
  ·rw [if_pos c] at h⊢
   have hc:=congrArg (fun l=>fR t (bE l)) (cut_at c)
   simp only [zDb,zAw,zLl] at hc
   by_cases hp:p=[]
   ·subst hp;rw [zEh,atF];simp only [zDb,zAw];omega
   ·have ih:=zNw t (q:=q) hp h
    rw [zGa hp]
    simp only [zDb,zAw,zLl]
    have e1:=zEm (l.getD i.toNat zSt)
    have e2:dS (mN (l.getD i.toNat zSt) (fY p (l.getD i.toNat zSt).Body q))=gI (l.getD i.toNat zSt)++bE (fY p (l.getD i.toNat zSt).Body q):=zEm _
    rw [e2,zAw]
    rw [e1,zAw] at hc
    omega
  ·rw [if_neg c] at h;cases h
end Go.Br
end
section
set_option maxRecDepth 10000
namespace Go.Br
open Go Go.Eng Go.L41
theorem takN_no {n:Ns} {t:ByteArray} (h:lG n t=false):bK (bE n.Body) t=false:=by
 unfold lG at h
 rw [Bool.or_eq_false_iff,find_has] at h
 exact h.2
theorem zJb {P:Lf->Prop} (h:P ⟨0,[]⟩):zSt.allF P:=by
 unfold zSt
 rw [St.allF]
 exact ⟨fun x hx=>(by cases hx),zEx_all h,by rw [bH];trivial⟩
theorem many_ok {n:Ns} {t:ByteArray} (h:gO n t=0) (h2:(fM n t).2.1.Body.length=1/\((fM n t).2.1.Body.getD 0 zSt).Op=1):1<=((fM n t).2.1.Body.getD 0 zSt).Many:=by
 have hv:(dO n).2=0:=by
  by_cases c:(dO n).2=0
  ·exact c
  ·unfold gO at h;rw [if_neg c] at h;exact h
 have hf:(dX n.Body t).isSome=true:=by
  cases c:(dX n.Body t).isSome with
  |true=>rfl
  |false=>unfold gO at h;rw [if_pos hv,c] at h;exact absurd h (by decide)
 have hl:(fM n t).2.1=(atT n.Body (fV n t)).1:=by unfold fM;rw [if_pos h]
 rw [hl] at h2⊢
 have h3:=(zFa (zPh (zNf hv) (zLq hv hf).1)).2
 generalize (atT n.Body (fV n t)).1.Body=b at *
 have hm:b.getD 0 zSt∈b:=by
  rw [List.getD_eq_getElem?_getD,List.getElem?_eq_getElem (by omega)]
  exact List.getElem_mem _
 obtain ⟨U,sc,h4⟩:=(zFa (zFd h3 _ hm)).1
 exact (zLm h4 h2.2).2.2.1
end Go.Br
end
section
set_option maxRecDepth 10000
namespace Go.Br
open Go Go.Eng Go.L41
/-! ## One form -/
structure ColF (outer inn nm:ByteArray) (l:Lf):Prop where
 ok:bJ l=true
 rng:l.rng
 no:nm≠outer->nm≠inn->bF l.L nm=0
def pG (outer inn nm:ByteArray) (l:Lf):Lf:=(bI (bI l outer ⟨0,[]⟩).1 inn (fL nm)).1
theorem in_coeff {l:List Mono} {n:ByteArray} (h:bF l n≠0):∃m,m∈l/\m.Name=n:=by
 by_cases c:∃m,m∈l/\m.Name=n
 ·exact c
 ·exact absurd (zFi fun m hm e=>c ⟨m,hm,e⟩) h
theorem zSw {outer inn nm:ByteArray} (ho:bD outer=true) (hi:bD inn=true) (hn:bD nm=true) {l:Lf} (h:ColF outer inn nm l):
  (bI l outer ⟨0,[]⟩).2=0/\(bI (bI l outer ⟨0,[]⟩).1 inn (fL nm)).2=0/\bJ (pG outer inn nm l)=true/\
  ∀m,m∈(pG outer inn nm l).L->m.Name=nm∨(m.Name≠outer/\m.Name≠inn/\∃x,x∈l.L/\x.Name=m.Name):=by
 have z1:bJ (⟨0,[]⟩:Lf)=true:=rfl
 have e2:(bI l outer ⟨0,[]⟩).2=0:=by
  refine sub_fits h.ok z1 ho (by show r64 (0*_);rw [Int.zero_mul];unfold r64;omega) rfl (by show r64 (_+0*_);rw [Int.zero_mul,Int.add_zero];exact h.rng.1) fun n=>?_
  show r64 (_+0*_)
  rw [Int.zero_mul,Int.add_zero]
  split
  ·unfold r64;omega
  ·exact zKu (p:=none) h.rng.2 n
 obtain ⟨b1,b2⟩:=sub_coeff h.ok z1 ho e2
 have b3:=substR_ok h.ok z1 ho e2
 have b4:(bI l outer ⟨0,[]⟩).1.rng:=substR_rng outer h.rng
 unfold pG
 generalize (bI l outer ⟨0,[]⟩).1=r2 at *
 have B:∀n,bF r2.L n=if n=outer then 0 else bF l.L n:=fun n=>by
  rw [b2 n];show _+0*_=_;rw [Int.zero_mul,Int.add_zero]
 have v1:bJ (fL nm)=true:=by rw [zTp hn];exact var_ok hn (by omega)
 have vK:(fL nm).K=0:=by rw [zTp hn]
 have vL:∀n,bF (fL nm).L n=if n=nm then 1 else 0:=fun n=>by rw [zTp hn];exact one_coeff nm n 1
 have no2:nm≠inn->bF r2.L nm=0:=fun c=>by
  rw [B]
  by_cases k:nm=outer
  ·rw [if_pos k]
  ·rw [if_neg k];exact h.no k c
 have cr:∀n,r64 (bF r2.L n):=fun n=>zKu (p:=none) b4.2 n
 have C:∀n,(if n=inn then 0 else bF r2.L n)+bF (fL nm).L n*bF r2.L inn=if n=nm then bF r2.L inn else (if n=inn then 0 else bF r2.L n):=fun n=>by
  rw [vL]
  by_cases k:n=nm
  ·rw [if_pos k,if_pos k,Int.one_mul]
   by_cases k2:n=inn
   ·rw [if_pos k2,Int.zero_add]
   ·rw [if_neg k2,k,no2 (fun e=>k2 (k.trans e)),Int.zero_add]
  ·rw [if_neg k,if_neg k,Int.zero_mul,Int.add_zero]
 have e3:(bI r2 inn (fL nm)).2=0:=by
  refine sub_fits b3 v1 hi (by rw [vK,Int.zero_mul];unfold r64;omega) ?_ (by rw [vK,Int.zero_mul,Int.add_zero];exact b4.1) fun n=>?_
  ·rw [zTp hn]
   show (decide (r64 (1*bF r2.L inn))&&true)=true
   rw [Int.one_mul,decide_eq_true (cr inn)];rfl
  ·rw [C n]
   split
   ·exact cr inn
   ·split
    ·unfold r64;omega
    ·exact cr n
 obtain ⟨d1,d2⟩:=sub_coeff b3 v1 hi e3
 have d3:=substR_ok b3 v1 hi e3
 refine ⟨e2,e3,d3,fun m hm=>?_⟩
 generalize (bI r2 inn (fL nm)).1=r3 at *
 have h1:bF r3.L m.Name≠0:=by
  rw [zWs d3 hm];exact (zHa d3 m hm).1
 rw [d2,C] at h1
 by_cases k:m.Name=nm
 ·exact .inl k
 ·rw [if_neg k] at h1
  by_cases k2:m.Name=inn
  ·rw [if_pos k2] at h1;exact absurd rfl h1
  ·rw [if_neg k2,B] at h1
   by_cases k3:m.Name=outer
   ·rw [if_pos k3] at h1;exact absurd rfl h1
   ·rw [if_neg k3] at h1
    exact .inr ⟨k3,k2,in_coeff h1⟩
theorem colG_zero {outer inn nm:ByteArray} (ho:bD outer=true) (hi:bD inn=true) (hn:bD nm=true):pG outer inn nm ⟨0,[]⟩=⟨0,[]⟩:=by
 have v1:bJ (fL nm)=true:=by rw [zTp hn];exact var_ok hn (by omega)
 unfold pG
 rw [zRz ⟨rfl,ho⟩,zRz ⟨v1,hi⟩]
theorem col_body {outer inn nm:ByteArray} (ho:bD outer=true) (hi:bD inn=true) (hn:bD nm=true) {b:List St} (h:bH (ColF outer inn nm) b):
  ∃b1,sbT outer ⟨0,[]⟩ b=.ok b1/\sbT inn (fL nm) b1=.ok (fD (pG outer inn nm) (fun x=>x) b):=by
 refine ⟨fD (fun l=>(bI l outer ⟨0,[]⟩).1) (fun x=>x) b,?_,?_⟩
 ·exact zSj (f:=sbF outer ⟨0,[]⟩) (zEr (fun l k=>(zSw ho hi hn k).1) h)
 ·have h2:=zSj (f:=sbF inn (fL nm)) (r:=fun x=>x) (l:=fD (fun l=>(bI l outer ⟨0,[]⟩).1) (fun x=>x) b) (gSts_all (zEr (fun l k=>(zSw ho hi hn k).2.1) h))
  rw [zVx] at h2
  exact h2
/-! ## Statements form by form,in other scopes -/
structure MapOk (g:Lf->Lf) (P:Lf->Prop) (R:List ByteArray->List ByteArray->Prop):Prop where
 zero:g ⟨0,[]⟩=⟨0,[]⟩
 pz:P ⟨0,[]⟩
 ok:∀l,P l->bJ l=true->bJ (g l)=true
 sc:∀l,P l->∀sc sc',R sc sc'->gS sc l=true->gS sc' (g l)=true
 up:∀sc sc' x,R sc sc'->R (sc++[x]) (sc'++[x])
section
variable {B:List Bf} {g:Lf->Lf} {P:Lf->Prop} {R:List ByteArray->List ByteArray->Prop} {sc sc':List ByteArray}
theorem nodeN_x (M:MapOk g P R) (hR:R sc sc') {e:Ex} (hP:∀l,l∈bQ e->P l) (h:gP B sc e=0):gP B sc' (gEx g e)=0:=by
 have hs:hC sc e=true:=by
  cases c:hC sc e with
  |true=>rfl
  |false=>rw [nodeN_9 c] at h;cases h
 have hs2:hC sc' (gEx g e)=true:=by
  rw [zEv]
  unfold hC at hs⊢
  rw [Bool.and_eq_true] at hs⊢
  refine ⟨M.sc _ (hP _ (lin_in e)) _ _ hR hs.1,?_⟩
  show (e.Idx.map (gIx g)).all _=true
  rw [List.all_map,List.all_eq_true]
  intro x hx
  have h2:=List.all_eq_true.1 hs.2 x hx
  unfold sL at h2
  rw [Bool.and_eq_true] at h2
  have h3:=ix_in hx
  show sL sc' (gIx g x)=true
  unfold sL gIx
  rw [Bool.and_eq_true]
  refine ⟨M.sc _ (hP _ h3.1) _ _ hR h2.1,?_⟩
  show (x.At.map g).all _=true
  rw [List.all_map,List.all_eq_true]
  intro l hl
  exact M.sc _ (hP _ (h3.2 l hl)) _ _ hR (List.all_eq_true.1 h2.2 l hl)
 have h':=h
 unfold gP at h'⊢
 rw [if_pos hs] at h'
 rw [if_pos hs2,zEv]
 show (if e.Op=3 then (if dM B e.Name=true then (if (gH B e.Name).Dims.length=(e.Idx.map (gIx g)).length then lE B (e.Idx.map (gIx g)) else 11) else 9) else 0)=0
 rw [List.length_map,gath_g];exact h'
theorem exprT_x (M:MapOk g P R) (hR:R sc sc') {e:Ex} (hP:e.allF P) (h:(bW B sc e).2=0):bW B sc' (gEx g e)=bW B sc e:=by
 obtain ⟨h1,h2⟩:=zCz h
 have hl:=zNe h1
 have k1:fP (gEx g e)=0:=valid_g M.zero (fun x hx l hx2=>M.ok l (hP x hx l hx2) (hl x hx l hx2)) h1
 have k2:dK B sc' (dG (gEx g e))=0:=by
  rw [zVa,zLj]
  intro y hy
  obtain ⟨x,hx,rfl⟩:=List.mem_map.1 hy
  exact nodeN_x M hR (fun l hl2=>hP x hx l hl2) (zLj.1 h2 x hx)
 rw [zWf k1 k2,zWf h1 h2,nodeT_g]
theorem rdE_all (pz:P ⟨0,[]⟩) {s:St} (h:gN P s.Idx):(rdE s).allF P:=by
 refine zPz (fun l hl=>?_) (fun a ha=>by cases ha)
 unfold bQ at hl
 rcases List.mem_cons.1 hl with rfl|hl
 ·exact pz
 ·obtain ⟨x,hx,hl⟩:=List.mem_flatMap.1 hl
  have:=h x hx
  rcases List.mem_cons.1 hl with rfl|hl
  ·exact this.1
  ·exact this.2 l hl
theorem syn_of {U:List ByteArray} {s:St} (h:stE B U sc s=0):dN s=true:=by
 cases c:dN s with
 |true=>rfl
 |false=>rw [stE_5 c] at h;cases h
theorem stE_x (M:MapOk g P R) (hR:R sc sc') {U U':List ByteArray} {s:St} (hU:s.Op=1->bK U' s.Name=true->bK U s.Name=true) (hI:gN P s.Idx) (hE:s.E.allF P) (h:stE B U sc s=0):
  stE B U' sc' (gSt g (fun x=>x) s)=0:=by
 have hs:=syn_of h
 have hs2:=syn_g (r:=fun x=>x) M.zero hs
 have op:(gSt g (fun x=>x) s).Op=s.Op:=by rw [zRc];rfl
 have nm:(gSt g (fun x=>x) s).Name=s.Name:=by
  rw [zRc]
  show (if s.Op=1 then s.Name else s.Name)=s.Name
  split<;>rfl
 by_cases h1:s.Op=1
 ·rw [zPr hs h1] at h
  rw [zPr hs2 (by rw [op];exact h1)]
  have mn:(gSt g (fun x=>x) s).Many=s.Many:=by rw [zRc];rfl
  have mk:(gSt g (fun x=>x) s).Mark=s.Mark:=by rw [zRc];rfl
  have hnm:bD s.Name=true:=by
   cases c:bD s.Name with
   |true=>rfl
   |false=>rw [loopE_7 c] at h;cases h
  have hno:¬(dM B s.Name=true∨bK U s.Name=true):=fun c=>by rw [loopE_8 hnm c] at h;cases h
  have hran:¬(s.Many<1∨65536<s.Many∨s.Mark<0∨3<s.Mark):=fun c=>by rw [loopE_1 hnm hno c] at h;cases h
  refine loopE_0 (by rw [nm];exact hnm) ?_ (by rw [mn,mk];exact hran)
  rw [nm]
  rintro (c|c)
  ·exact hno (.inl c)
  ·exact hno (.inr (hU h1 c))
 ·have eE:(gSt g (fun x=>x) s).E=gEx g s.E:=by rw [zRc];rfl
  by_cases h4:s.Op=4
  ·rw [zTx hs h4] at h
   rw [zTx hs2 (by rw [op];exact h4)]
   have k1:(bW B sc s.E).2=0:=by
    by_cases c:(bW B sc s.E).2=0
    ·exact c
    ·rw [ifE_x c] at h;exact absurd h c
   have k2:bV s.E=true:=by
    cases c:bV s.E with
    |true=>rfl
    |false=>rw [ifE_10 k1 c] at h;cases h
   have k3:=exprT_x M hR hE k1
   exact ifE_0 (by rw [eE,k3];exact k1) (by rw [eE,isCond_g];exact k2)
  ·rw [stE_s hs h1 h4] at h
   rw [stE_s hs2 (by rw [op];exact h1) (by rw [op];exact h4)]
   have fo:(gSt g (fun x=>x) s).Fold=s.Fold:=by rw [zRc];rfl
   have k1:(bW B sc (rdE s)).2=0:=by
    by_cases c:(bW B sc (rdE s)).2=0
    ·exact c
    ·rw [zNl c] at h;exact absurd h c
   have k2:¬((gH B s.Name).Use=1∨(s.Op=3/\(s.Fold<1∨4<s.Fold))):=fun c=>by rw [zLh k1 c] at h;cases h
   have k3:(bW B sc s.E).2=0:=by
    by_cases c:(bW B sc s.E).2=0
    ·exact c
    ·rw [zNk k1 k2 c] at h;exact absurd h c
   have k4:¬(bV s.E=true∨¬(bW B sc s.E).1=(gH B s.Name).T):=fun c=>by rw [zTw k1 k2 k3 c] at h;cases h
   have e1:=exprT_x M hR (rdE_all M.pz hI) k1
   rw [←rdE_g (r:=fun x=>x) M.zero h1] at e1
   have e2:=exprT_x M hR hE k3
   exact storeE_0 (by rw [e1];exact k1) (by rw [nm,op,fo];exact k2) (by rw [eE,e2];exact k3) (by rw [eE,e2,isCond_g,nm];exact k4)
end
def pI (nm:ByteArray) (U U':List ByteArray):Prop:=∀x,x≠nm->bK U' x=true->bK U x=true
theorem subU_next {nm:ByteArray} {U U':List ByteArray} {s:St} (h:pI nm U U'):pI nm (fQ U s) (fQ U' s):=fun x hx k=>by
 by_cases c:s.Op=1
 ·rw [wW c] at k⊢
  rw [zAg] at k⊢
  cases c2:bK U' x with
  |true=>rw [h x hx c2,Bool.true_or]
  |false=>rw [c2,Bool.false_or] at k;rw [k,Bool.or_true]
 ·rw [zGg c] at k⊢;exact h x hx k
theorem cnt_name {s:St} {nm:ByteArray} (h:fR nm (gI s)=0) (ho:s.Op=1):s.Name≠nm:=fun e=>by
 unfold gI at h
 rw [if_pos ho,zSx,if_pos e] at h
 cases h
theorem nextU_gx {U:List ByteArray} {g:Lf->Lf} {s:St}:fQ U (gSt g (fun x=>x) s)=fQ U s:=by
 cases s with
 |mk o nm mn mk fo i e b=>
  rw [gSt]
  unfold fQ
  show (if o=1 then U++[if o=1 then nm else nm] else U)=(if o=1 then U++[nm] else U)
  by_cases h:o=1
  ·rw [if_pos h,if_pos h,if_pos h]
  ·rw [if_neg h,if_neg h]
section
variable {B:List Bf} {g:Lf->Lf} {P:Lf->Prop} {R:List ByteArray->List ByteArray->Prop} {nm:ByteArray}
theorem R_next (M:MapOk g P R) {sc sc':List ByteArray} (h:R sc sc') (s:St):R (fQ sc s) (fQ sc' s):=by
 by_cases c:s.Op=1
 ·rw [wW c,wW c];exact M.up _ _ _ h
 ·rw [zGg c,zGg c];exact h
mutual
theorem chkS_x (M:MapOk g P R):∀(s:St) (U sc U' sc':List ByteArray) (here here':List Int),s.allF P->fR nm (dS s)=0->pI nm U U'->R sc sc'->(fC B U sc here s).E=0->
  (fC B U' sc' here' (gSt g (fun x=>x) s)).E=0/\pI nm (fC B U sc here s).U (fC B U' sc' here' (gSt g (fun x=>x) s)).U
 |.mk o n1 mn mk fo i e b,U,sc,U',sc',here,here',hP,hc,hU,hR,h=>by
  obtain ⟨p1,p2,p3⟩:=St.allF_eq hP
  rw [dS,zAw] at hc
  obtain ⟨h0,h2⟩:=zFv h
  have h1:=stE_x M hR (U':=U') (fun ho k=>hU _ (cnt_name (by omega) ho) k) p1 p2 h0
  rw [h2] at h⊢
  rw [zKx h1,nextU_gx,nextU_gx]
  have:=chkL_x M b (fQ U (.mk o n1 mn mk fo i e b)) (fQ sc (.mk o n1 mn mk fo i e b)) (fQ U' (.mk o n1 mn mk fo i e b)) (fQ sc' (.mk o n1 mn mk fo i e b)) here here' 0 0 p3 (by omega) (subU_next hU) (R_next M hR _) h
  rw [gSt]
  exact this
theorem chkL_x (M:MapOk g P R):∀(l:List St) (U sc U' sc':List ByteArray) (way way':List Int) (i i':Int),bH P l->fR nm (bE l)=0->pI nm U U'->R sc sc'->(bR B U sc way i l).E=0->
  (bR B U' sc' way' i' (fD g (fun x=>x) l)).E=0/\pI nm (bR B U sc way i l).U (bR B U' sc' way' i' (fD g (fun x=>x) l)).U
 |[],U,sc,U',sc',way,way',i,i',_,_,hU,_,h=>by rw [fD,bR,bR];exact ⟨rfl,hU⟩
 |s::r,U,sc,U',sc',way,way',i,i',hP,hc,hU,hR,h=>by
  rw [bH] at hP
  rw [bE,zAw] at hc
  obtain ⟨h1,h2⟩:=zPc h
  obtain ⟨k1,k2⟩:=chkS_x M s U sc U' sc' (way++[i]) (way'++[i']) hP.1 (by omega) hU hR h1
  rw [h2] at h⊢
  rw [fD,bR,if_pos k1]
  exact chkL_x M r _ sc _ sc' way way' (i+1) (i'+1) hP.2 (by omega) k2 hR h
end
end
theorem mapOk_id:MapOk (fun l=>l) (fun _=>True) Eq:=
 ⟨rfl,trivial,fun _ _ h=>h,fun l _ sc sc' e h=>e ▸ h,fun sc sc' x e=>by rw [e]⟩
mutual
theorem allT_S:∀s:St,s.allF (fun _=>True)
 |.mk o nm mn mk fo i e b=>by rw [St.allF];exact ⟨fun x hx=>⟨trivial,fun l hl=>trivial⟩,fun x hx l hl=>trivial,allT_L b⟩
theorem allT_L:∀l:List St,bH (fun _=>True) l
 |[]=>by rw [bH];trivial
 |s::r=>by rw [bH];exact ⟨allT_S s,allT_L r⟩
end
theorem gSts_idL (l:List St):fD (fun l=>l) (fun x=>x) l=l:=zVw l (zEr (fun l _=>rfl) (allT_L l))
theorem chkL_sub {B:List Bf} {nm:ByteArray} (l:List St) (U U' sc:List ByteArray) (way:List Int) (i:Int) (hc:fR nm (bE l)=0) (hU:pI nm U U') (h:(bR B U sc way i l).E=0):
  (bR B U' sc way i l).E=0/\pI nm (bR B U sc way i l).U (bR B U' sc way i l).U:=by
 have:=chkL_x (B:=B) (nm:=nm) mapOk_id l U sc U' sc way way i i (allT_L l) hc hU rfl h
 rw [gSts_idL] at this
 exact this
/-! ## One statement put in place of another -/
theorem chkL_cat (B:List Bf):∀(a b:List St) (U sc:List ByteArray) (way:List Int) (i:Int),bR B U sc way i (a++b)=if (bR B U sc way i a).E=0 then bR B (bR B U sc way i a).U sc way (i+(a.length:Int)) b else bR B U sc way i a
 |[],b,U,sc,way,i=>by rw [List.nil_append,bR,if_pos rfl];simp
 |s::r,b,U,sc,way,i=>by
  rw [List.cons_append,bR,bR]
  by_cases c:(fC B U sc (way++[i]) s).E=0
  ·rw [if_pos c,if_pos c,chkL_cat B r b,List.length_cons]
   have e:i+1+(r.length:Int)=i+((r.length+1:Nat):Int):=by omega
   rw [e]
  ·rw [if_neg c,if_neg c,if_neg c]
theorem cat_parts {B:List Bf} {a b:List St} {U sc:List ByteArray} {way:List Int} {i:Int} (h:(bR B U sc way i (a++b)).E=0):(bR B U sc way i a).E=0/\bR B U sc way i (a++b)=bR B (bR B U sc way i a).U sc way (i+(a.length:Int)) b:=by
 rw [chkL_cat] at h⊢
 by_cases c:(bR B U sc way i a).E=0
 ·rw [if_pos c];exact ⟨c,rfl⟩
 ·rw [if_neg c] at h;exact absurd h c
theorem cat_join {B:List Bf} {a b:List St} {U sc:List ByteArray} {way:List Int} {i:Int} (h:(bR B U sc way i a).E=0):bR B U sc way i (a++b)=bR B (bR B U sc way i a).U sc way (i+(a.length:Int)) b:=by
 rw [chkL_cat,if_pos h]
theorem one_is {B:List Bf} {s:St} {U sc:List ByteArray} {way:List Int} {i:Int} (h:(fC B U sc (way++[i]) s).E=0):bR B U sc way i [s]=⟨(fC B U sc (way++[i]) s).U,[],0⟩:=by
 rw [bR,if_pos h,bR]
theorem one_parts {B:List Bf} {s:St} {U sc:List ByteArray} {way:List Int} {i:Int} (h:(bR B U sc way i [s]).E=0):(fC B U sc (way++[i]) s).E=0:=(zPc h).1
theorem no_next {U:List ByteArray} {t:ByteArray} {s:St} (h:bK U t=false) (hc:fR t (gI s)=0):bK (fQ U s) t=false:=by
 by_cases c:s.Op=1
 ·rw [wW c,zAg,h]
  show (decide (s.Name=t)||false)=false
  rw [decide_eq_false (cnt_name hc c)];rfl
 ·rw [zGg c];exact h
mutual
theorem chkS_no_t {B:List Bf} {t:ByteArray}:∀(s:St) (U sc:List ByteArray) (here:List Int),(fC B U sc here s).E=0->bK U t=false->fR t (dS s)=0->bK (fC B U sc here s).U t=false
 |.mk o n1 mn mk fo i e b,U,sc,here,h,hU,hc=>by
  obtain ⟨h0,h2⟩:=zFv h
  rw [dS,zAw] at hc
  rw [h2] at h⊢
  exact zWu b _ _ _ _ h (no_next hU (by omega)) (by show fR t (bE b)=0;omega)
theorem zWu {B:List Bf} {t:ByteArray}:∀(l:List St) (U sc:List ByteArray) (way:List Int) (i:Int),(bR B U sc way i l).E=0->bK U t=false->fR t (bE l)=0->bK (bR B U sc way i l).U t=false
 |[],U,sc,way,i,h,hU,hc=>by rw [bR];exact hU
 |s::r,U,sc,way,i,h,hU,hc=>by
  obtain ⟨h1,h2⟩:=zPc h
  rw [bE,zAw] at hc
  rw [h2] at h⊢
  exact zWu r _ _ _ _ h (chkS_no_t s _ _ _ h1 hU (by omega)) (by omega)
end
theorem stE_setB {B:List Bf} {U sc:List ByteArray} {y:St} (Z:List St) (h:stE B U sc y=0) (hb:y.Body≠[]):stE B U sc (mN y Z)=0:=by
 have hs:=syn_of h
 have hi:gE y=false:=by
  cases c:gE y with
  |false=>rfl
  |true=>
   unfold dN at hs
   rw [c] at hs
   simp only [Bool.and_eq_true,Bool.not_true,Bool.false_or,decide_eq_true_eq] at hs
   exact absurd (List.eq_nil_of_length_eq_zero (by omega)) hb
 have hs2:dN (mN y Z)=true:=by
  have e:gE (mN y Z)=false:=hi
  unfold dN at hs⊢
  rw [hi] at hs
  rw [e]
  exact hs
 by_cases h1:y.Op=1
 ·rw [zPr hs h1] at h
  rw [zPr hs2 h1];exact h
 ·by_cases h4:y.Op=4
  ·rw [zTx hs h4] at h
   rw [zTx hs2 h4];exact h
  ·exfalso
   unfold dN at hs
   rw [hi,decide_eq_false h1,decide_eq_false h4] at hs
   simp at hs
theorem chkL_repl {B:List Bf} {nm:ByteArray} {s X:St} (hX:∀U sc here,bK U nm=false->(fC B U sc here s).E=0->(fC B U sc here X).E=0/\pI nm (fC B U sc here s).U (fC B U sc here X).U):
  ∀(way:List Int) (l:List St) (s0:St) (U sc:List ByteArray) (w:List Int) (i:Int),way≠[]->atF way l s0=(s,true)->fR nm (bE l)=fR nm (dS s)->bK U nm=false->(bR B U sc w i l).E=0->
   (bR B U sc w i (fY way l [X])).E=0/\pI nm (bR B U sc w i l).U (bR B U sc w i (fY way l [X])).U
 |[],_,_,_,_,_,_,h,_,_,_,_=>absurd rfl h
 |j::p,l,s0,U,sc,w,i,_,hat,hcn,hU,h=>by
  rw [atF] at hat
  by_cases c:0<=j/\j<l.length
  ·rw [if_pos c] at hat
   obtain ⟨y,hy⟩:∃y,l.getD j.toNat zSt=y:=⟨_,rfl⟩
   have hc:=cut_at c
   rw [hy] at hat hc
   have hcnt:=congrArg (fun l=>fR nm (bE l)) hc
   simp only [zDb,zAw,zLl] at hcnt
   have hsub:fR nm (dS s)<=fR nm (dS y):=by
    by_cases hp:p=[]
    ·subst hp;rw [atF] at hat;injection hat with e1 e2;rw [e1];exact Nat.le_refl _
    ·have:=zNw nm (q:=[]) (l:=y.Body) (s:=y) hp (by rw [hat])
     rw [hat] at this
     dsimp only at this
     rw [zEm y,zAw]
     have e0:fR nm (bE [])=0:=rfl
     omega
   rw [←hc] at h
   obtain ⟨h1,h2⟩:=cat_parts h
   have h3:=h
   rw [h2] at h3
   obtain ⟨a1,a2⟩:=cat_parts h1
   have a3:=h1
   rw [a2] at a3
   have a4:=one_parts a3
   have hlen:(l.take j.toNat).length=j.toNat:=by rw [List.length_take];omega
   have hUa:=zWu (t:=nm) _ _ _ _ _ a1 hU (by omega)
   obtain ⟨Y,hY,k1,k2⟩:∃Y,fY (j::p) l [X]=l.take j.toNat++[Y]++l.drop (j.toNat+1)/\
     (fC B (bR B U sc w i (l.take j.toNat)).U sc (w++[i+((l.take j.toNat).length:Int)]) Y).E=0/\
     pI nm (fC B (bR B U sc w i (l.take j.toNat)).U sc (w++[i+((l.take j.toNat).length:Int)]) y).U (fC B (bR B U sc w i (l.take j.toNat)).U sc (w++[i+((l.take j.toNat).length:Int)]) Y).U:=by
    by_cases hp:p=[]
    ·subst hp
     rw [atF] at hat
     injection hat with e1 e2
     rw [e1] at a4⊢
     obtain ⟨k1,k2⟩:=hX _ _ _ hUa a4
     exact ⟨X,zEh j l [X],k1,k2⟩
    ·obtain ⟨b0,b2⟩:=zFv a4
     have hb:y.Body≠[]:=fun e=>by
      rw [e] at hat
      cases p with
      |nil=>exact hp rfl
      |cons q r=>rw [atF,if_neg (by simp)] at hat;injection hat with _ e2;cases e2
     have hb1:=stE_setB (fY p y.Body [X]) b0 hb
     have b3:=a4
     rw [b2] at b3
     have hyc:fR nm (bE y.Body)+fR nm (gI y)=fR nm (dS y):=by rw [zEm y,zAw];omega
     have hin:fR nm (dS s)<=fR nm (bE y.Body):=by
      have:=zNw nm (q:=[]) (l:=y.Body) (s:=y) hp (by rw [hat])
      rw [hat] at this
      dsimp only at this
      have e0:fR nm (bE [])=0:=rfl
      omega
     obtain ⟨k1,k2⟩:=chkL_repl hX p y.Body y (fQ _ y) (fQ sc y) _ 0 hp hat (by omega) (no_next hUa (by omega)) b3
     refine ⟨mN y (fY p y.Body [X]),by rw [zGa hp,hy],?_,?_⟩
     ·rw [zKx hb1];exact k1
     ·rw [zKx hb1,b2];exact k2
   rw [hY]
   have m1:=one_is k1
   have m2:=one_is a4
   have n1:(bR B U sc w i (l.take j.toNat++[Y])).E=0:=by rw [cat_join a1,m1]
   rw [cat_join n1]
   rw [a2,m2] at h2 h3
   rw [cat_join a1,m1]
   have q:=chkL_sub (B:=B) (nm:=nm) (l.drop (j.toNat+1)) _ _ sc w (i+((l.take j.toNat++[y]).length:Int)) (by omega) k2 h3
   have el:(l.take j.toNat++[Y]).length=(l.take j.toNat++[y]).length:=by simp
   rw [el]
   refine ⟨q.1,?_⟩
   rw [←hc]
   have hc2:l.take j.toNat++[y]++l.drop (j.toNat+1)=l:=hc
   rw [hc2]
   rw [hc2] at h2
   rw [h2]
   exact q.2
  ·rw [if_neg c] at hat;injection hat with _ e;cases e
/-! ## Depth and number -/
theorem within_up:∀(n:Nat) (l:List St),bP n l=true->bP (n+1) l=true
 |0,l,h=>by
  cases l with
  |nil=>rfl
  |cons s r=>cases h
 |n+1,l,h=>by
  rw [bP,List.all_eq_true] at h⊢
  exact fun s hs=>within_up n s.Body (h s hs)
theorem zTj {s X:St} (hX:∀k,bP k s.Body=true->bP k X.Body=true):∀(n:Nat) (way:List Int) (l:List St) (s0:St),way≠[]->atF way l s0=(s,true)->bP n l=true->bP n (fY way l [X])=true
 |n,[],_,_,h,_,_=>absurd rfl h
 |0,j::p,l,s0,_,hat,h=>by
  rw [atF] at hat
  by_cases c:0<=j/\j<l.length
  ·cases l with
   |nil=>simp at c;omega
   |cons a r=>cases h
  ·rw [if_neg c] at hat;injection hat with _ e;cases e
 |n+1,j::p,l,s0,_,hat,h=>by
  rw [atF] at hat
  by_cases c:0<=j/\j<l.length
  ·rw [if_pos c] at hat
   rw [bP,List.all_eq_true] at h
   have key:∀Y:St,bP n Y.Body=true->bP (n+1) (l.take j.toNat++[Y]++l.drop (j.toNat+1))=true:=fun Y hY=>by
    rw [bP,List.all_eq_true]
    intro a ha
    rcases List.mem_append.1 ha with ha|ha
    ·rcases List.mem_append.1 ha with ha|ha
     ·exact h a (List.mem_of_mem_take ha)
     ·rw [List.mem_singleton] at ha;rw [ha];exact hY
    ·exact h a (List.mem_of_mem_drop ha)
   have hm:=h _ (zMm c)
   by_cases hp:p=[]
   ·subst hp
    rw [atF] at hat
    injection hat with e1 e2
    rw [zEh]
    exact key X (hX n (by rw [←e1];exact hm))
   ·rw [zGa hp]
    exact key _ (zTj hX n p _ _ hp hat hm)
  ·rw [if_neg c] at hat;injection hat with _ e;cases e
mutual
theorem stN_g (g:Lf->Lf) (r:ByteArray->ByteArray):∀s:St,stN (gSt g r s)=stN s
 |.mk o nm mn mk fo i e b=>by rw [gSt,stN,stN,stsN_g g r b]
theorem stsN_g (g:Lf->Lf) (r:ByteArray->ByteArray):∀l:List St,bN (fD g r l)=bN l
 |[]=>by rw [fD]
 |s::t=>by rw [fD,bN,bN,stN_g g r s,stsN_g g r t]
end
end Go.Br
end
section
set_option maxRecDepth 10000
namespace Go.Br
open Go Go.Eng Go.L41
theorem no_cnt {t:ByteArray}:∀{l:List ByteArray},bK l t=false->fR t l=0
 |[],_=>rfl
 |x::r,h=>by
  rw [zKl,Bool.or_eq_false_iff] at h
  have ih:=no_cnt h.2
  have hx:¬x=t:=of_decide_eq_false h.1
  unfold fR at ih⊢
  rw [List.countP_cons,ih,if_neg (by rw [decide_eq_false hx];simp)]
def colR (outer inn nm:ByteArray) (sc sc':List ByteArray):Prop:=bK sc' nm=true/\∀x,x≠outer->x≠inn->bK sc x=true->bK sc' x=true
theorem col_map {outer inn nm:ByteArray} (ho:bD outer=true) (hi:bD inn=true) (hn:bD nm=true):MapOk (pG outer inn nm) (ColF outer inn nm) (colR outer inn nm) where
 zero:=colG_zero ho hi hn
 pz:=⟨rfl,zrng,fun _ _=>rfl⟩
 ok:=fun l h _=>(zSw ho hi hn h).2.2.1
 sc:=fun l h sc sc' hR hs=>by
  unfold gS at *
  rw [List.all_eq_true] at *
  intro m hm
  rcases (zSw ho hi hn h).2.2.2 m hm with k|⟨k1,k2,x,hx,k3⟩
  ·rw [k];exact hR.1
  ·exact hR.2 _ k1 k2 (by rw [←k3];exact hs x hx)
 up:=fun sc sc' x h=>by
  refine ⟨by rw [zAg,h.1,Bool.true_or],fun y h1 h2 h3=>?_⟩
  rw [zAg] at h3⊢
  cases c:bK sc y with
  |true=>rw [h.2 y h1 h2 c,Bool.true_or]
  |false=>rw [c,Bool.false_or] at h3;rw [h3,Bool.or_true]
theorem mark_ok {B:List Bf} {U sc:List ByteArray} {s:St} (h:stE B U sc s=0) (ho:s.Op=1):0<=s.Mark/\s.Mark<=3:=by
 rw [zPr (syn_of h) ho] at h
 unfold lY at h
 split at h
 ·split at h
  ·cases h
  ·split at h
   ·cases h
   ·omega
 ·cases h
theorem sFor_E {B:List Bf} {U sc:List ByteArray} {nm:ByteArray} {many lJ:Int} {b:List St} (hn:bD nm=true) (hB:dM B nm=false) (hU:bK U nm=false) (h1:1<=many) (h2:many<=65536) (h3:0<=lJ) (h4:lJ<=3):stE B U sc (gU nm many lJ b)=0:=by
 rw [zPr (by unfold gU dN gE jY;simp [St.Op,St.Name,St.Many,St.Mark,St.Fold,St.Idx,St.E,St.Body]) rfl]
 refine loopE_0 hn ?_ ?_
 ·rintro (c|c)
  ·rw [show (gU nm many lJ b).Name=nm from rfl,hB] at c;cases c
  ·rw [show (gU nm many lJ b).Name=nm from rfl,hU] at c;cases c
 ·show ¬(many<1∨65536<many∨lJ<0∨3<lJ)
  omega
theorem col_chk {B:List Bf} {nm:ByteArray} {s inn:St} (hs:s.Op=1) (hb:s.Body=[inn]) (hi:inn.Op=1) (ho:bD s.Name=true) (hii:bD inn.Name=true) (hn:bD nm=true) (hB:dM B nm=false)
  (hP:bH (ColF s.Name inn.Name nm) inn.Body) (hc:fR nm (bE inn.Body)=0) {many:Int} (h1:1<=many) (h2:many<=65536) (U sc:List ByteArray) (here:List Int) (hU:bK U nm=false) (h:(fC B U sc here s).E=0):
  (fC B U sc here (gU nm many s.Mark (fD (pG s.Name inn.Name nm) (fun x=>x) inn.Body))).E=0/\pI nm (fC B U sc here s).U (fC B U sc here (gU nm many s.Mark (fD (pG s.Name inn.Name nm) (fun x=>x) inn.Body))).U:=by
 obtain ⟨a0,a2⟩:=zFv h
 have a3:=h
 rw [a2,hb,wW hs,wW hs] at a3
 have a4:=one_parts a3
 obtain ⟨b0,b2⟩:=zFv a4
 have b3:=a4
 rw [b2,wW hi,wW hi] at b3
 obtain ⟨m1,m2⟩:=mark_ok a0 hs
 have x0:=sFor_E (B:=B) (U:=U) (sc:=sc) (b:=fD (pG s.Name inn.Name nm) (fun x=>x) inn.Body) hn hB hU h1 h2 m1 m2
 have xU:∀V,fQ V (gU nm many s.Mark (fD (pG s.Name inn.Name nm) (fun x=>x) inn.Body))=V++[nm]:=fun V=>wW rfl
 have xB:(gU nm many s.Mark (fD (pG s.Name inn.Name nm) (fun x=>x) inn.Body)).Body=fD (pG s.Name inn.Name nm) (fun x=>x) inn.Body:=rfl
 have key:=chkL_x (B:=B) (nm:=nm) (col_map ho hii hn) inn.Body _ _ (U++[nm]) (sc++[nm]) _ here 0 0 hP hc (by
  intro x hx k
  rw [zAg] at k
  cases c:bK U x with
  |true=>rw [zAg,zAg,c,Bool.true_or,Bool.true_or]
  |false=>
   rw [c,Bool.false_or] at k
   have:nm=x:=by
    rw [show bK [nm] x=(decide (nm=x)||false) from rfl,Bool.or_false] at k
    exact of_decide_eq_true k
   exact absurd this.symm hx) (by
  refine ⟨by rw [zAg];simp [bK],fun x k1 k2 k3=>?_⟩
  rw [zAg,zAg] at k3
  rw [zAg]
  have e1:bK [s.Name] x=false:=by
   have n1:¬s.Name=x:=fun e=>k1 e.symm
   simp [bK,n1]
  have e2:bK [inn.Name] x=false:=by
   have n1:¬inn.Name=x:=fun e=>k2 e.symm
   simp [bK,n1]
  rw [e1,e2,Bool.or_false,Bool.or_false] at k3
  rw [k3,Bool.true_or]) b3
 rw [zKx x0,xU,xU,xB]
 refine ⟨key.1,?_⟩
 have e:(fC B U sc here s).U=(bR B (U++[s.Name]++[inn.Name]) (sc++[s.Name]++[inn.Name]) (here++[0]) 0 inn.Body).U:=by
  rw [a2,hb,wW hs,wW hs,one_is a4,b2,wW hi,wW hi]
 rw [e]
 exact key.2
theorem prod_le {a b:Int} (ha:1<=a) (hb:1<=b) (hb2:b<=65536) (h:¬w64 (Int.tdiv 65536 b)<a):1<=a*b/\a*b<=65536/\w64 (a*b)=a*b:=by
 rw [Int.tdiv_eq_ediv_of_nonneg (by omega)] at h
 have k2:(65536:Int)/b<=65536:=Int.ediv_le_self _ (by omega)
 have k0:0<=(65536:Int)/b:=Int.ediv_nonneg (by omega) (by omega)
 rw [zJe (by unfold r64;omega)] at h
 have h3:a*b<=65536:=Int.mul_le_of_le_ediv (by omega) (by omega)
 have h4:1*b<=a*b:=Int.mul_le_mul_of_nonneg_right ha (by omega)
 exact ⟨by omega,h3,zJe (by unfold r64;omega)⟩
theorem valid_of {n:Ns} (h1:bP 40 n.Body=true) (h2:bN n.Body<=2000) (h3:n.Bufs.length<=128) (h4:dP [] n.Bufs=0) (h5:(bR n.Bufs [] [] [] 0 n.Body).E=0):(dO n).2=0:=by
 rw [zNg h1 (by rw [numB_eqN h2];omega) h4]
 exact h5
theorem one_body {s inn:St} (h:s.Body.length=1) (hi:s.Body.getD 0 zSt=inn):s.Body=[inn]:=by
 cases e:s.Body with
 |nil=>rw [e] at h;cases h
 |cons a r=>
  rw [e] at h hi
  have hr:r=[]:=by simpa using h
  have:a=inn:=hi
  rw [hr,this]
theorem col_fin {n:Ns} {outer nm:ByteArray} {s inn:St} (hr:bH Lf.rng n.Body) (hv:(dO n).2=0) (hf:(dX n.Body outer).isSome=true) (hs0:(atT n.Body (fV n outer)).1=s) (hi0:s.Body.getD 0 zSt=inn) (h1:s.Body.length=1/\inn.Op=1) (hn:bD nm=true)
  (hd:((!decide (nm=outer)&& !decide (nm=inn.Name))&&lG n nm)=false) (hm:¬w64 (Int.tdiv 65536 inn.Many)<s.Many):
  dZ (sbT outer ⟨0,[]⟩ inn.Body)=0/\dZ (sbT inn.Name (fL nm) (gQ (sbT outer ⟨0,[]⟩ inn.Body)))=0/\pE n (fV n outer) [pV s outer nm]=(lU n (fV n outer) [pV s outer nm],0):=by
 obtain ⟨q1,q2,q3,q4,q5,q6,q7,q8,q9,q10⟩:=zLq hv hf
 obtain ⟨w,hw⟩:=Option.isSome_iff_exists.1 hf
 have ew:fV n outer=w:=by unfold fV;rw [hw];rfl
 rw [ew] at hs0 q1 q2 q3 q6 q7 q8 q9 q10⊢
 have hne:w≠[]:=findN_ne hw
 have hat:atT n.Body w=atF w n.Body zSt:=by unfold atT;rw [if_neg hne]
 have q1F:(atF w n.Body zSt).2=true:=by rw [←hat];exact q1
 have sF:(atF w n.Body zSt).1=s:=by rw [←hat];exact hs0
 have hall3:=zFa (zPh (zNf hv) q1)
 rw [hs0] at q2 q3 q6 q7 q8 q9 q10 hall3
 have hb:=one_body h1.1 hi0
 obtain ⟨Ui,sci,hin⟩:∃U sc,stE n.Bufs U sc inn=0:=(zFa (zFd hall3.2 inn (by rw [hb];simp))).1
 obtain ⟨i1,i2,i3,i4,_⟩:=zLm hin h1.2
 have hnot:nm≠outer->nm≠inn.Name->lG n nm=false:=fun c1 c2=>by
  rw [decide_eq_false c1,decide_eq_false c2] at hd;simpa using hd
 have hall:bH (ColF outer inn.Name nm) n.Body:=
  zEr (fun l k=>⟨k.1.1,k.1.2,fun c1 c2=>coeff_out k.2 (takN_no (hnot c1 c2))⟩) (zKz _ (zKz _ (chkL_lin n.Body [] [] [] 0 (zFj hv).2.2.2) hr) (valid_sc hv))
 have hz:zSt.allF (ColF outer inn.Name nm):=zJb ⟨rfl,zrng,fun _ _=>rfl⟩
 have hsA:=atF_allF hall hz q1F
 rw [sF] at hsA
 have hiA:inn.allF (ColF outer inn.Name nm):=kY (St.allF_eq hsA).2.2 inn (by rw [hb];simp)
 have hbA:=(St.allF_eq hiA).2.2
 obtain ⟨b1,t1,t2⟩:=col_body q5 i1 hn hbA
 have hcw:=zNw nm (q:=[]) hne q1F
 have hu:=valid_cnt hv nm
 rw [sF] at hcw
 have e0:fR nm (bE [])=0:=rfl
 have hcs:fR nm (dS s)=fR nm [outer]+(fR nm [inn.Name]+fR nm (bE inn.Body)):=by
  rw [zEm s,hb,zLl,zEm inn,zAw,zAw]
  unfold gI
  rw [if_pos q2,if_pos h1.2,q3]
 rw [zSx,zSx] at hcs
 have hcnt:fR nm (bE inn.Body)=0/\fR nm (bE n.Body)=fR nm (dS s):=by
  by_cases c1:outer=nm
  ·rw [if_pos c1] at hcs;omega
  ·by_cases c2:inn.Name=nm
   ·rw [if_pos c2] at hcs;omega
   ·have:=no_cnt (takN_no (hnot (fun e=>c1 e.symm) (fun e=>c2 e.symm)));omega
 have hBn:dM n.Bufs nm=false:=by
  by_cases c1:nm=outer
  ·rw [c1];exact q4
  ·by_cases c2:nm=inn.Name
   ·rw [c2];exact i2
   ·have:=hnot c1 c2
    unfold lG at this
    rw [Bool.or_eq_false_iff] at this
    exact this.1
 obtain ⟨p1,p2,p3⟩:=prod_le q6 i3 i4 hm
 obtain ⟨X,hX⟩:∃X,gU nm (s.Many*inn.Many) s.Mark (fD (pG outer inn.Name nm) (fun x=>x) inn.Body)=X:=⟨_,rfl⟩
 have eX:pV s outer nm=X:=by
  unfold pV
  rw [hi0,t1]
  show gU nm (w64 (s.Many*inn.Many)) s.Mark (gQ (sbT inn.Name (fL nm) b1))=X
  rw [t2,p3,←hX];rfl
 rw [t1]
 refine ⟨rfl,by show dZ (sbT inn.Name (fL nm) b1)=0;rw [t2];rfl,?_⟩
 rw [eX]
 have hrep:lU n w [X]=⟨n.Bufs,fY w n.Body [X]⟩:=by unfold lU;rw [if_pos q1];rfl
 obtain ⟨v1,v2,v3,v4⟩:=zFj hv
 have hatF:atF w n.Body zSt=(s,true):=Prod.ext sF q1F
 have hval:(dO ⟨n.Bufs,fY w n.Body [X]⟩).2=0:=by
  refine valid_of ?_ ?_ (by show n.Bufs.length<=128;omega) v3 ?_
  ·refine zTj (fun k hk=>?_) 40 w n.Body zSt hne hatF v1
   rw [hb] at hk
   cases k with
   |zero=>cases hk
   |succ k=>
    rw [bP,List.all_cons,Bool.and_eq_true] at hk
    rw [←hX]
    show bP (k+1) (fD _ _ inn.Body)=true
    rw [within_g]
    exact within_up k _ hk.1
  ·have hN:bN n.Body<=2000:=by
    have:=numB_ok (l:=n.Body) (m:=2000) (by omega);omega
   have hr2:=replL_n (q:=[X]) hne q1F
   rw [sF,zDi s,hb] at hr2
   have k1:bN [inn]=1+bN inn.Body:=by rw [bN,bN,zDi];omega
   have k2:bN [X]=1+bN inn.Body:=by
    rw [bN,bN,zDi,←hX]
    show 1+bN (fD _ _ inn.Body)+0=_
    rw [stsN_g];omega
   show bN (fY w n.Body [X])<=2000
   omega
  ·have hXc:∀U sc here,bK U nm=false->(fC n.Bufs U sc here s).E=0->(fC n.Bufs U sc here X).E=0/\pI nm (fC n.Bufs U sc here s).U (fC n.Bufs U sc here X).U:=fun U sc here hU h=>by
    have:=col_chk (B:=n.Bufs) (nm:=nm) q2 hb h1.2 (by rw [q3];exact q5) i1 hn hBn (by rw [q3];exact hbA) hcnt.1 p1 p2 U sc here hU h
    rw [q3,hX] at this
    exact this
   exact (chkL_repl hXc w n.Body zSt [] [] [] 0 hne hatF hcnt.2 rfl v4).1
 unfold pE
 rw [hrep,if_pos hval]
/-! ## The reference's tests -/
theorem takR_two {n:Ns} {t u:ByteArray} (ht:dM n.Bufs t=false) (hu:dM n.Bufs u=false) (s:ByteArray):vD n s [t,u]=((!decide (s=t)&& !decide (s=u))&&lG n s):=by
 unfold vD lG
 rw [find_has,zKl,zKl]
 by_cases c:s=t
 ·subst c
  rw [ht];simp
 ·by_cases d:s=u
  ·subst d
   rw [hu];simp
  ·have h1:¬t=s:=fun e=>c e.symm
   have h2:¬u=s:=fun e=>d e.symm
   simp [c,d,h1,h2,bK]
def rL (a b:ByteArray) (many:Int) (l:Lf):Bool:=(dI (bF l.L b) many).2&&decide ((dI (bF l.L b) many).1=bF l.L a)
theorem linR_is {a b:ByteArray} {many:Int} {l:Lf} (hl:l.rng) (h1:1<=many):rL a b many l=pS a b many l:=by
 have ra:r64 (bF l.L a):=zKu (p:=none) hl.2 a
 have rb:r64 (bF l.L b):=zKu (p:=none) hl.2 b
 unfold rL pS dI
 generalize bF l.L a=x at *
 generalize bF l.L b=y at *
 rw [Bool.eq_iff_iff]
 simp only [Bool.and_eq_true,decide_eq_true_eq]
 constructor
 ·rintro ⟨h2,h3⟩
  split at h2
  ·next hr=>
   rw [if_pos hr] at h3
   have h3:y*many=x:=h3
   subst h3
   exact ⟨Int.mul_tmod_left y many,by rw [Int.mul_tdiv_cancel y (by omega)];exact zJe rb⟩
  ·cases h2
 ·rintro ⟨h2,h3⟩
  have hx:many*Int.tdiv x many=x:=by
   have:=Int.mul_tdiv_add_tmod x many
   rw [h2,Int.add_zero] at this;exact this
  have hrg:r64 (Int.tdiv x many):=by
   have h4:(Int.tdiv x many).natAbs<=x.natAbs:=by
    rw [Int.natAbs_tdiv]
    exact Nat.div_le_self _ _
   unfold r64 at *
   by_cases hq:0<Int.tdiv x many
   ·have:=Int.mul_pos (show 0<many by omega) hq
    omega
   ·omega
  rw [zJe hrg] at h3
  subst h3
  rw [Int.mul_comm] at hx
  rw [hx,if_pos ra]
  exact ⟨rfl,rfl⟩
theorem linR_zero (a b:ByteArray) (many:Int):rL a b many ⟨0,[]⟩=true:=by
 unfold rL
 show ((dI 0 many).2&&decide ((dI 0 many).1=0))=true
 unfold dI
 rw [Int.zero_mul,if_pos (by unfold r64;omega)];rfl
/-! ## The list of all forms -/
def fmE (e:Ex):List Lf:=(dG e).flatMap bQ
def fmL (l:List Ex):List Lf:=(bO l).flatMap bQ
theorem fmE_eq (e:Ex):fmE e=bQ e++fmL e.Args:=by unfold fmE fmL;rw [wE,List.flatMap_cons]
theorem fmL_next {l:List Ex} {k:Nat} {x:Ex} (h:l[k]? =some x):fmL (l.take (k+1))=fmL (l.take k)++fmE x:=by
 unfold fmL fmE
 rw [yL h,zFb,List.flatMap_append]
 rw [bO,bO,List.append_nil]
def fmX (i:List Ix):List Lf:=i.flatMap fun x=>x.Lin::x.At
theorem fmX_next {l:List Ix} {k:Nat} {x:Ix} (h:l[k]? =some x):fmX (l.take (k+1))=fmX (l.take k)++[x.Lin]++x.At:=by
 unfold fmX
 rw [yL h,List.flatMap_append];simp
mutual
def lnS:St->List Lf
 |.mk _ _ _ _ _ i e b=>fmE (rdZ i)++fmE e++lnL b
def lnL:List St->List Lf
 |[]=>[]
 |s::r=>lnS s++lnL r
end
theorem lnS_eq (s:St):lnS s=fmE (rdZ s.Idx)++fmE s.E++lnL s.Body:=by cases s;rw [lnS];rfl
theorem lnL_app:∀a b:List St,lnL (a++b)=lnL a++lnL b
 |[],b=>by rw [lnL];rfl
 |s::r,b=>by rw [List.cons_append,lnL,lnL,lnL_app r b,List.append_assoc]
theorem lnL_next {l:List St} {k:Nat} {s:St} (h:l[k]? =some s):lnL (l.take (k+1))=lnL (l.take k)++lnS s:=by
 rw [yL h,lnL_app,lnL,lnL,List.append_nil]
theorem fmX_all (f:Lf->Bool):∀i:List Ix,(fmX i).all f=jX f i
 |[]=>rfl
 |x::r=>by
  have ih:=fmX_all f r
  unfold fmX jX at *
  rw [List.flatMap_cons,List.all_append,ih,List.all_cons,List.all_cons]
theorem forms_all (f:Lf->Bool) (e:Ex):(bQ e).all f=(f e.Lin&&jX f e.Idx):=by
 have:=fmX_all f e.Idx
 unfold bQ fmX at *
 rw [List.all_cons,this]
theorem flat_all {α:Type} (f:Lf->Bool) (g:α->List Lf):∀l:List α,(l.flatMap g).all f=l.all fun x=>(g x).all f
 |[]=>rfl
 |x::r=>by rw [List.flatMap_cons,List.all_append,flat_all f g r,List.all_cons]
theorem fmE_all (f:Lf->Bool) (e:Ex):(fmE e).all f=rX f e:=by
 unfold fmE rX
 rw [flat_all]
 congr 1
 funext x
 exact forms_all f x
theorem rdZ_all (f:Lf->Bool) (hz:f ⟨0,[]⟩=true) (i:List Ix):(fmE (rdZ i)).all f=jX f i:=by
 rw [fmE_eq,show fmL (rdZ i).Args=[] from rfl,List.append_nil,forms_all,show (rdZ i).Lin=⟨0,[]⟩ from rfl,hz,Bool.true_and];rfl
mutual
theorem lnS_all (f:Lf->Bool) (hz:f ⟨0,[]⟩=true):∀s:St,(lnS s).all f=evS f s
 |.mk o nm mn mk fo i e b=>by
  rw [lnS,evS,List.all_append,List.all_append,rdZ_all f hz,fmE_all,lnL_all f hz b]
  cases jX f i<;>cases rX f e<;>cases evL f b<;>rfl
theorem lnL_all (f:Lf->Bool) (hz:f ⟨0,[]⟩=true):∀l:List St,(lnL l).all f=evL f l
 |[]=>by rw [lnL,evL];rfl
 |s::r=>by rw [lnL,evL,List.all_append,lnS_all f hz s,lnL_all f hz r]
end
/-! ## Lengths -/
theorem fmX_len:∀i:List Ix,(fmX i).length<=i.length+dH i
 |[]=>by simp [fmX]
 |x::r=>by
  have ih:=fmX_len r
  unfold fmX at *
  rw [List.flatMap_cons,List.length_append,List.length_cons,List.length_cons,dH]
  have:x.At.length<=x.wt:=by unfold Ix.wt;omega
  omega
theorem forms_len (e:Ex):(bQ e).length<=1+e.Idx.length+dH e.Idx:=by
 have:=fmX_len e.Idx
 unfold bQ fmX at *
 rw [List.length_cons];omega
mutual
theorem fmE_len:∀e:Ex,(fmE e).length<=2*e.wt
 |.mk o nm v t l i qs=>by
  have h1:=forms_len (.mk o nm v t l i qs)
  have h2:=fmL_len qs
  have h3:=Ex.wt_eq (.mk o nm v t l i qs)
  rw [fmE_eq,List.length_append]
  simp only [Ex.Idx,Ex.Args,Ex.Lin] at *
  omega
theorem fmL_len:∀l:List Ex,(fmL l).length<=2*dR l
 |[]=>by simp [fmL,bO]
 |a::r=>by
  have h1:=fmE_len a
  have h2:=fmL_len r
  unfold fmL fmE at *
  rw [bO,List.flatMap_append,List.length_append,dR];omega
end
mutual
theorem lnS_len:∀s:St,(lnS s).length<=4*s.wt
 |.mk o nm mn mk fo i e b=>by
  have h1:=fmE_len (rdZ i)
  have h2:=fmE_len e
  have h3:=lnL_len b
  have h4:=rdZ_wt i
  have h5:=St.wt_eq (.mk o nm mn mk fo i e b)
  rw [lnS,List.length_append,List.length_append]
  simp only [St.Idx,St.E,St.Body] at *
  omega
theorem lnL_len:∀l:List St,(lnL l).length<=4*bC l
 |[]=>by simp [lnL]
 |s::r=>by
  have h1:=lnS_len s
  have h2:=lnL_len r
  rw [lnL,List.length_append,bC];omega
end
end Go.Br
end
