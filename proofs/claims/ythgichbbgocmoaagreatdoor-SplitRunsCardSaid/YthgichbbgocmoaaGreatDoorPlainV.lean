/-
  Forms by their coefficients; a loop split by a divisor and collapsed again,form by form and statement by statement (36.5).
  And what the laws need besides.
  Conditions: none.
-/
import Derived.Test.YthgichbbgocmoaaGreatDoorPlain3
import Derived.Test.YthgichbbgocmoaaGreatDoorPlainU
import Derived.Test.YthgichbbgocmoaaGreatDoorPlain2
import Derived.Test.YthgichbbgocmoaaGreatDoorWalkS
set_option linter.unusedSimpArgs false
set_option linter.unusedVariables false
set_option linter.defProp false
section
set_option maxRecDepth 10000
namespace Go.Br
open Go Go.Eng Go.L41
/-! ## Coefficients -/
def zGg:∀{l:List Mono} {s:lr},(∀m,m∈l->m.Name≠s)->bF l s=0
  |[],_,_=>rfl
  |x::r,s,h=>by rw [bF,aa (h x uD)];exact zGg fun m hm=>h m (by simp [hm])
def zZo:∀{p:Option lr} {l:List Mono} {m:Mono},bK p l=true->m∈l->bF l m.Name=m.By
  |p,x::r,m,h,hm=>by
    simp only [bK,ae] at h
    rcases af.1 hm with rfl|hm
    · exact hd_c _ _
    · rw [tl_c (zGs h.2 m hm)];exact zZo h.2 hm
def zNc {p:Option lr} {l:List Mono} (s:lr) (h:bK p l=true):bH l s=bF l s:=by
  by_cases c:bH l s=0
  · rw [c,zGg (zQj h c)]
  · obtain ⟨m,hm,e1,e2⟩:=lastBy_mem c
    have:=zZo h hm
    rw [e1] at this
    rw [this,e2]
def nmT (ts:List Tr):List lr:=ts.map (·.1)
def nmT_cons (t:Tr) (r:List Tr):nmT (t::r)=t.1::nmT r:=rfl
def sum_coeff {f:lr->Int}:∀{ts:List Tr},iG (nmT ts)->(∀t,t∈ts->trV t=f t.1/\r64 (trV t))->∀n,bF (mG ts) n=if bP (nmT ts) n=true then f n else 0
  |[],_,_,n=>rfl
  |t::r,ha,h,n=>by
    rw [nmT_cons] at ha⊢
    obtain ⟨h1,h2⟩:=kw.1 ha
    have ih:=sum_coeff (f:=f) (ts:=r) h2 (fun u hu=>h u (by simp [hu])) n
    obtain ⟨e1,e2⟩:=h t uD
    have es:mG (t::r)=(if w64 (trV t)=0 then [] else [⟨t.1,w64 (trV t)⟩])++mG r:=by
      unfold mG;rw [cu];by_cases c:w64 (trV t)=0<;>simp [c]
    rw [es,zIb e2,zIp]
    by_cases c:trV t=0
    · rw [ab c,lNa,ih]
      by_cases k:t.1=n
      · have hn:¬bP (nmT r) n=true:=fun k2=>by
          have:=h1 _ (hasB_mem.1 k2);rw [k,zWg] at this;cases this
        rw [aa hn,aw k,Bool.true_or,ab rfl,←k,←e1,c]
      · rw [aB k,eu]
    · rw [aa c,List.singleton_append,bF]
      by_cases k:t.1=n
      · rw [ab k,aw k,Bool.true_or,ab rfl,←k];exact e1
      · rw [aa k,ih,aB k,eu]
def zMs (s n:lr):∀l:List Mono,bF (l.filter fun m=> !decide (m.Name=s)) n=if n=s then 0 else bF l n
  |[]=>by simp [bF]
  |x::r=>by
    have ih:=zMs s n r
    rw [iu]
    by_cases c:x.Name=s
    · rw [aa (by simp [c]),ih]
      by_cases k:n=s
      · rw [ab k,ab k]
      · rw [aa k,aa k,bF,aa (fun e=>k (e.symm.trans c))]
    · rw [ab (by simp [c]),bF,bF,ih]
      by_cases k:x.Name=n
      · rw [ab k,ab k,aa (fun e=>c (k.trans e))]
      · rw [aa k,aa k]
def addT_coeff {a b:List Mono} {k c:Int} (ha:bK none a=true) (hb:bK none b=true) (h:(nA k (nP c (bM a b))).2=0):
    (nA k (nP c (bM a b))).1.K=k/\∀n,bF (nA k (nP c (bM a b))).1.L n=bF a n+bF b n*c:=by
  unfold nA at h⊢
  split at h
  · next hc=>
    rw [ab hc]
    refine ⟨O,fun n=>?_⟩
    have hm:=zCg _ none a b (aH _) ha hb
    have hs:=sum_coeff (f:=fun n=>bF a n+bF b n*c) (trs_asc (mul_asc c (zAz _ none _ _ (aH _) ha hb))) (fun t ht=>by
      have h1:=ax.1 hc.2 t ht
      unfold tD at h1
      refine ⟨?_,by simpa using h1⟩
      unfold nP at ht
      obtain ⟨u,hu,rfl⟩:=bq.1 ht
      obtain ⟨e1,e2⟩:=hm u hu
      show u.2.1+u.2.2*c=_
      rw [e1,e2]) n
    show bF (mG (nP c (bM a b))) n=_
    rw [hs]
    split
    · rfl
    · next hn=>
      have no:∀m,m∈a∨m∈b->m.Name≠n:=fun m hm' e=>by
        obtain ⟨t,ht,et⟩:=zIm _ a b (aH _) m hm'
        apply hn
        exact hasB_mem.2 (bq.2 ⟨(t.1,t.2.1,t.2.2*c),bq.2 ⟨t,ht,O⟩,by show t.1=n;rw [et,e]⟩)
      rw [zGg (fun m hm'=>no m (.inl hm')),zGg (fun m hm'=>no m (.inr hm'))]
      simp
  · exact absurd h zB
def sub_coeff {l to_:Lf} {s:lr} (h1:bI l=true) (h2:bI to_=true) (h3:bB s=true) (h:(bS l s to_).2=0):
    (bS l s to_).1.K=l.K+to_.K*bF l.L s/\∀n,bF (bS l s to_).1.L n=(if n=s then 0 else bF l.L n)+bF to_.L n*bF l.L s:=by
  have hl:=zNc s h1
  unfold bS at h⊢
  rw [ab ⟨h1,h2,h3⟩] at h⊢
  rw [hl] at h⊢
  by_cases c:bF l.L s=0
  · rw [ab c] at h⊢
    refine ⟨by rw [c];simp,fun n=>?_⟩
    rw [c,Int.mul_zero,eh]
    split
    · next e=>rw [e];exact c
    · rfl
  · rw [aa c] at h⊢
    by_cases d:r64 (to_.K*bF l.L s)/\gJ (bF l.L s) to_.L=true
    · rw [ab d] at h⊢
      obtain ⟨k1,k2⟩:=addT_coeff (zDs _ h1) h2 h
      refine ⟨k1,fun n=>?_⟩
      have k3:=k2 n
      rw [zMs] at k3
      exact k3
    · rw [aa d] at h;exact absurd h zB
def sub_fits {l to_:Lf} {s:lr} (h1:bI l=true) (h2:bI to_=true) (h3:bB s=true) (hk:r64 (to_.K*bF l.L s)) (hs:gJ (bF l.L s) to_.L=true) (hK:r64 (l.K+to_.K*bF l.L s))
    (hc:∀n,r64 ((if n=s then 0 else bF l.L n)+bF to_.L n*bF l.L s)):(bS l s to_).2=0:=by
  have hl:=zNc s h1
  unfold bS
  rw [ab ⟨h1,h2,h3⟩,hl]
  by_cases c:bF l.L s=0
  · rw [ab c]
  · rw [aa c,ab ⟨hk,hs⟩]
    unfold nA
    have hall:(nP (bF l.L s) (bM (mH l s).L to_.L)).all tD=true:=by
      rw [lAe]
      intro t ht
      unfold nP at ht
      obtain ⟨u,hu,rfl⟩:=bq.1 ht
      obtain ⟨e1,e2⟩:=zCg _ none _ _ (aH _) (zDs _ h1) h2 u hu
      unfold tD
      rw [ah]
      show r64 (u.2.1+u.2.2*_)
      rw [e1,e2]
      have:=hc u.1
      rw [←zMs] at this
      exact this
    rw [ab ⟨hK,hall⟩]
/-! ## The form of a split loop -/
def zKt {a:lr} (h:bB a=true):fY a=⟨0,[⟨a,1⟩]⟩:=by unfold fY;rw [h];rfl
def var_ok {a:lr} (h:bB a=true) {k:Int} (hk:k≠0):bI ⟨0,[⟨a,k⟩]⟩=true:=by
  unfold bI;simp [bK,h,ltO,hk]
def zPy (a n:lr) (k:Int):bF [⟨a,k⟩] n=if n=a then k else 0:=by
  rw [bF]
  by_cases c:a=n
  · rw [ab c,ab c.symm]
  · rw [aa c,aa (fun e=>c e.symm)];rfl
structure InvF (loop outer inner:lr) (f:Lf) (l:Lf):Prop where
  ok:bI l=true
  rng:l.rng
  fits:(bS l loop f).2=0
  no_o:outer≠loop->bF l.L outer=0
  no_i:inner≠loop->bF l.L inner=0
def zZn {p:Option lr} {l:List Mono} (h:∀m,m∈l->r64 m.By) (n:lr):r64 (bF l n):=by
  induction l with
  |nil=>unfold r64;simp [bF]
  |cons x r ih=>
    rw [bF]
    split
    · exact h x uD
    · exact ih fun m hm=>h m (by simp [hm])
mutual
def mSt_all {f:Lf->Lf×Int} {r:lr->lr}:∀{s:St},s.allF (fun l=>(f l).2=0)->mSt f r s=.ok (gSt (fun l=>(f l).1) r s)
  |.mk o nm mn mk fo i e b,h=>by
    rw [St.allF] at h
    have h1:fF f i=.ok (i.map (gIx fun l=>(f l).1)):=by
      rw [zSm (g:=fun x=>((f x).1,0)) fun x hx=>⟨by rw [←(h.1 x hx).1],fun y hy=>by rw [←(h.1 x hx).2 y hy]⟩]
      exact mIxs_sure _ i
    have h2:mEx f e=.ok (gEx (fun l=>(f l).1) e):=by
      rw [mEx_congr (P:=fun l=>(f l).2=0) (g:=fun x=>((f x).1,0)) (fun x hx=>by rw [←hx]) e h.2.1]
      exact mEx_sure _ e
    rw [mSt,h1,h2,gSt]
    simp only [zVc h.2.2]
def zVc {f:Lf->Lf×Int} {r:lr->lr}:∀{l:List St},bE (fun l=>(f l).2=0) l->fT f r l=.ok (gX (fun l=>(f l).1) r l)
  |[],_=>by rw [fT,gX]
  |s::t,h=>by
    rw [bE] at h
    rw [fT,mSt_all h.1,gX]
    simp only [zVc h.2]
end
mutual
def mSt_no {f:Lf->Lf×Int} {r:lr->lr}:∀{s s':St},mSt f r s=.ok s'->s.allF fun l=>(f l).2=0
  |.mk o nm mn mk fo i e b,s',h=>by
    rw [mSt] at h
    cases h1:fF f i with
    |error y=>rw [h1] at h;cases h
    |ok a=>
      cases h2:mEx f e with
      |error y=>rw [h1,h2] at h;cases h
      |ok d=>
        cases h3:fT f r b with
        |error y=>rw [h1,h2] at h;simp only [h3] at h;cases h
        |ok t=>
          rw [St.allF]
          exact ⟨(mIxs_g h1).2,(mEx_g h2).2,mSts_nos h3⟩
def mSts_nos {f:Lf->Lf×Int} {r:lr->lr}:∀{l l':List St},fT f r l=.ok l'->bE (fun l=>(f l).2=0) l
  |[],l',h=>by rw [bE];trivial
  |x::t,l',h=>by
    rw [fT] at h
    cases h1:mSt f r x with
    |error y=>rw [h1] at h;cases h
    |ok a=>
      cases h2:fT f r t with
      |error y=>rw [h1] at h;simp only [h2] at h;cases h
      |ok d=>rw [bE];exact ⟨mSt_no h1,mSts_nos h2⟩
end
mutual
def gSt_all {P:Lf->Prop} {g:Lf->Lf} {r:lr->lr}:∀{s:St},s.allF (fun l=>P (g l))->(gSt g r s).allF P
  |.mk o nm mn mk fo i e b,h=>by
    rw [St.allF] at h
    rw [gSt,St.allF]
    refine ⟨fun x hx=>?_,allF_g h.2.1,zQo h.2.2⟩
    obtain ⟨y,hy,rfl⟩:=bq.1 hx
    refine ⟨(h.1 y hy).1,fun l hl=>?_⟩
    obtain ⟨z,hz,rfl⟩:=bq.1 (show l∈y.At.map g from hl)
    exact (h.1 y hy).2 z hz
def zQo {P:Lf->Prop} {g:Lf->Lf} {r:lr->lr}:∀{l:List St},bE (fun l=>P (g l)) l->bE P (gX g r l)
  |[],_=>by rw [gX,bE];trivial
  |s::t,h=>by rw [bE] at h;rw [gX,bE];exact ⟨gSt_all h.1,zQo h.2⟩
end
def zEg {P Q:Lf->Prop} (hPQ:∀l,P l->Q l) {l:List St} (h:bE P l):bE Q l:=by
  exact m7
mutual
def gSt_gSt {g g':Lf->Lf}:∀s:St,gSt g' (fun x=>x) (gSt g (fun x=>x) s)=gSt (fun l=>g' (g l)) (fun x=>x) s
  |.mk o nm mn mk fo i e b=>by
    rw [gSt,gSt,gSt,gEx_gEx,zYm b]
    congr 1
    · split<;>rfl
    · rw [iz];congr 1;funext x;exact gIx_gIx g g' x
def zYm {g g':Lf->Lf}:∀l:List St,gX g' (fun x=>x) (gX g (fun x=>x) l)=gX (fun l=>g' (g l)) (fun x=>x) l
  |[]=>by rw [gX,gX,gX]
  |s::t=>by rw [gX,gX,gX,gSt_gSt s,zYm t]
end
end Go.Br
end
section
set_option maxRecDepth 10000
namespace Go.Br
open Go Go.Eng Go.L41
variable {sc:List lr}
/-! ## Names in scope -/
def zIo {sc':List lr} (h:∀t,bP sc t=true->bP sc' t=true) {l:Lf} (k:gS sc l=true):gS sc' l=true:=by
  unfold gS at *
  rw [lAe] at *
  exact fun m hm=>h _ (k m hm)
variable {B:List Bf}
def nodes_sc {e:Ex} (h:dL B sc (dI e)=0):e.allF (fun l=>gS sc l=true):=fun x hx l hl=>by
  have h1:=zMx.1 h x hx
  unfold jQ at h1
  split at h1
  · next c=>
    unfold lQ at c
    rw [ae] at c
    unfold dC at hl
    exact v10
  · cases h1
variable {s:St}
def stE_sc {U:List lr} (h:stE B U sc s=0):gK (fun l=>gS sc l=true) s.Idx/\s.E.allF (fun l=>gS sc l=true):=by
  have hs:dW s=true:=by
    cases c:dW s with
    |true=>rfl
    |false=>rw [stE_5 c] at h;cases h
  obtain ⟨s1,s2⟩:=zPf hs
  have nil:∀{i:List Ix},i=[]->gK (fun l=>gS sc l=true) i:=fun e x hx=>by rw [e] at hx;cases hx
  by_cases h1:s.Op=1
  · refine ⟨nil (s1 ?_),by rw [s2 h1];exact zVt rfl⟩
    exact l9
  · by_cases h4:s.Op=4
    · rw [stE_i hs h4] at h
      have k1:(bT B sc s.E).2=0:=by
        by_cases c:(bT B sc s.E).2=0
        · exact c
        · rw [ifE_x c] at h;exact absurd h c
      refine ⟨nil (s1 ?_),nodes_sc (zAv k1).2⟩
      exact l9
    · rw [stE_s hs h1 h4] at h
      have k1:(bT B sc (rdE s)).2=0:=by
        by_cases c:(bT B sc (rdE s)).2=0
        · exact c
        · rw [zMq c] at h;exact absurd h c
      have k2:¬((jA B s.Name).Use=1∨(s.Op=3/\(s.Fold<1∨4<s.Fold))):=fun c=>by rw [zJd k1 c] at h;cases h
      have k3:(bT B sc s.E).2=0:=by
        by_cases c:(bT B sc s.E).2=0
        · exact c
        · rw [zMp k1 k2 c] at h;exact absurd h c
      refine ⟨fun x hx=>?_,nodes_sc (zAv k3).2⟩
      have:=nodes_sc (zAv k1).2 (rdE s) (by rw [wC];simp)
      have hx':x∈(rdE s).Idx:=hx
      exact ⟨this _ (ix_in hx').1,fun l hl=>this _ ((ix_in hx').2 l hl)⟩
def allF_imp {P Q:Lf->Prop} (hPQ:∀l,P l->Q l) {e:Ex} (h:e.allF P):e.allF Q:=fun x hx l hl=>hPQ l (h x hx l hl)
def chk_parts {U:List lr} {here:List Int} (h:(jB B U sc here s).E=0):stE B U sc s=0/\jB B U sc here s=dH B (fZ U s) (fZ sc s) here 0 s.Body:=by
  by_cases c:stE B U sc s=0
  · exact ⟨c,zZr c⟩
  · rw [zZq c] at h;exact absurd h c
def chk_rest {U:List lr} {way:List Int} {i:Int} {r:List St} (h:(dH B U sc way i (s::r)).E=0):(jB B U sc (way++[i]) s).E=0/\dH B U sc way i (s::r)=dH B (jB B U sc (way++[i]) s).U sc way (i+1) r:=by
  rw [dH] at h⊢
  by_cases c:(jB B U sc (way++[i]) s).E=0
  · rw [ab c];exact ⟨c,rfl⟩
  · rw [aa c] at h;exact absurd h c
mutual
def chkS_sc {B:List Bf}:∀(s:St) (U sc:List lr) (here:List Int),(jB B U sc here s).E=0->s.allF (fun l=>gS (sc++fU s) l=true)
  |.mk o nm mn mk fo i e b,U,sc,here,h=>by
    obtain ⟨h0,h2⟩:=chk_parts h
    rw [h2] at h
    obtain ⟨h3,h4⟩:=stE_sc h0
    have h5:=chkL_sc b _ _ _ _ h
    have m1:∀t,bP sc t=true->bP (sc++fU (.mk o nm mn mk fo i e b)) t=true:=fun t ht=>by rw [zCq,ht,Bool.true_or]
    have m2:∀t,bP (fZ sc (.mk o nm mn mk fo i e b)++bG b) t=true->bP (sc++fU (.mk o nm mn mk fo i e b)) t=true:=fun t ht=>by
      rw [fU]
      unfold fZ at ht
      unfold mX
      split at ht
      · next c=>rw [ab c,←lAa];exact ht
      · next c=>rw [aa c,lNa];exact ht
    rw [St.allF]
    exact ⟨fun x hx=>⟨zIo m1 (h3 x hx).1,fun y hy=>zIo m1 ((h3 x hx).2 y hy)⟩,allF_imp (fun l=>zIo m1) h4,zEg (fun l=>zIo m2) h5⟩
def chkL_sc {B:List Bf}:∀(l:List St) (U sc:List lr) (way:List Int) (i:Int),(dH B U sc way i l).E=0->bE (fun f=>gS (sc++bG l) f=true) l
  |[],_,_,_,_,_=>by rw [bE];trivial
  |s::r,U,sc,way,i,h=>by
    obtain ⟨h1,h2⟩:=chk_rest h
    rw [h2] at h
    have k1:=chkS_sc s _ _ _ h1
    have k2:=chkL_sc r _ _ _ _ h
    have m1:∀t,bP (sc++fU s) t=true->bP (sc++bG (s::r)) t=true:=fun t ht=>by
      rw [zCq] at ht⊢
      rw [bG,zCq]
      revert ht;cases bP sc t<;>cases bP (fU s) t<;>simp
    have m2:∀t,bP (sc++bG r) t=true->bP (sc++bG (s::r)) t=true:=fun t ht=>by
      rw [zCq] at ht⊢
      rw [bG,zCq]
      revert ht;cases bP sc t<;>cases bP (bG r) t<;>simp
    rw [bE]
    refine ⟨?_,zEg (fun l=>zIo m2) k2⟩
    have k3:bE (fun f=>gS (sc++fU s) f=true) [s]:=by rw [bE];exact ⟨k1,by rw [bE];trivial⟩
    have k4:=zEg (Q:=fun f=>gS (sc++bG (s::r)) f=true) (fun l=>zIo m1) k3
    rw [bE] at k4
    exact k4.1
end
def valid_sc {n:Ns} (h:(bL n).2=0):bE (fun l=>gS (bG n.Body) l=true) n.Body:=chkL_sc n.Body [] [] [] 0 (zGi h).2.2.2
def coeff_out {l:Lf} {s:lr} (h:gS sc l=true) (hs:bP sc s=false):bF l.L s=0:=zGg fun m hm e=>by
  unfold gS at h
  have:=ax.1 h m hm
  rw [e,hs] at this;cases this
def atF_allF {P:Lf->Prop}:∀{way:List Int} {l:List St} {s:St},bE P l->s.allF P->(atF way l s).2=true->(atF way l s).1.allF P
  |[],_,_,_,h,_=>by rw [atF];exact h
  |i::r,l,s,hl,hs,h=>by
    rw [atF] at h⊢
    by_cases c:0<=i/\i<l.length
    · rw [ab c] at h⊢
      have h1:=kR hl _ (zRx c)
      exact atF_allF (St.allF_eq h1).2.2 h1 h
    · rw [aa c] at h;cases h
/-! ## Unique names -/
def pW (t:lr) (l:List lr):Nat:=l.countP fun x=>decide (x=t)
def cntB_app (t:lr) (a b:List lr):pW t (a++b)=pW t a+pW t b:=List.countP_append
def cntB_one (t x:lr):pW t [x]=if x=t then 1 else 0:=by
  unfold pW
  by_cases c:x=t<;>simp [c]
def zSy {U:List lr} (h:stE B U sc s=0) (ho:s.Op=1):bP U s.Name=false:=by
  have hs:dW s=true:=by
    cases c:dW s with
    |true=>rfl
    |false=>rw [stE_5 c] at h;cases h
  rw [stE_l hs ho] at h
  unfold nH at h
  cases k:bP U s.Name with
  |false=>rfl
  |true=>
    split at h
    · rw [ab (.inr k)] at h;cases h
    · cases h
mutual
def chkS_u {B:List Bf}:∀(s:St) (U sc:List lr) (here:List Int),(jB B U sc here s).E=0->∀t,(bP U t=true->pW t (fU s)=0/\bP (jB B U sc here s).U t=true)/\pW t (fU s)<=1/\(0<pW t (fU s)->bP (jB B U sc here s).U t=true)
  |.mk o nm mn mk fo i e b,U,sc,here,h,t=>by
    obtain ⟨h0,h2⟩:=chk_parts h
    rw [h2] at h⊢
    obtain ⟨i1,i2,i3⟩:=zRg b _ _ _ _ h t
    rw [fU,cntB_app]
    unfold mX
    by_cases c:o=1
    · have hf:=zSy h0 c
      have hn:fZ U (.mk o nm mn mk fo i e b)=U++[nm]:=ab c
      rw [hn] at i1 i3
      rw [hn]
      rw [ab (show (St.mk o nm mn mk fo i e b).Op=1 from c),cntB_one]
      by_cases k:nm=t
      · have ht:bP (U++[nm]) t=true:=by rw [zCq,k];simp [bP]
        obtain ⟨j1,j2⟩:=i1 ht
        have e1:(if (St.mk o nm mn mk fo i e b).Name=t then 1 else 0)=1:=ab k
        rw [e1,show pW t (bG b)=0 from j1]
        refine ⟨fun hU=>?_,zA,fun _=>j2⟩
        have:bP U nm=false:=hf
        rw [k,hU] at this;cases this
      · have e1:(if (St.mk o nm mn mk fo i e b).Name=t then 1 else 0)=0:=aa k
        rw [e1,bt]
        exact ⟨fun hU=>i1 (by rw [zCq,hU,Bool.true_or]),i2,i3⟩
    · have hn:fZ U (.mk o nm mn mk fo i e b)=U:=aa c
      rw [hn] at i1 i3
      rw [hn]
      rw [aa (show ¬(St.mk o nm mn mk fo i e b).Op=1 from c),show pW t []=0 from rfl,bt]
      exact ⟨i1,i2,i3⟩
def zRg {B:List Bf}:∀(l:List St) (U sc:List lr) (way:List Int) (i:Int),(dH B U sc way i l).E=0->∀t,(bP U t=true->pW t (bG l)=0/\bP (dH B U sc way i l).U t=true)/\pW t (bG l)<=1/\(0<pW t (bG l)->bP (dH B U sc way i l).U t=true)
  |[],U,sc,way,i,h,t=>by
    rw [bG,dH]
    exact ⟨fun hU=>⟨O,hU⟩,by show 0<=1;omega,fun k=>absurd k (by show ¬0<0;omega)⟩
  |s::r,U,sc,way,i,h,t=>by
    obtain ⟨h1,h2⟩:=chk_rest h
    rw [h2] at h⊢
    obtain ⟨a1,a2,a3⟩:=chkS_u s _ _ _ h1 t
    obtain ⟨b1,b2,b3⟩:=zRg r _ _ _ _ h t
    rw [bG,cntB_app]
    refine ⟨fun hU=>?_,?_,fun k=>?_⟩
    · obtain ⟨j1,j2⟩:=a1 hU
      obtain ⟨j3,j4⟩:=b1 j2
      exact ⟨zA,j4⟩
    · by_cases c:0<pW t (fU s)
      · have:=(b1 (a3 c)).1;omega
      · omega
    · by_cases c:0<pW t (fU s)
      · exact (b1 (a3 c)).2
      · exact b3 zA
end
def zNa:∀a b:List St,bG (a++b)=bG a++bG b
  |[],b=>by rw [bG];rfl
  |s::r,b=>by rw [lCa,bG,bG,zNa r b,lAa]
def loopsL_one (s:St):bG [s]=fU s:=by rw [bG,bG,lAn]
end Go.Br
end
section
set_option maxRecDepth 10000
namespace Go.Br
open Go Go.Eng Go.L41
mutual
def loopsS_same (g:Lf->Lf):∀s:St,fU (gSt g (fun x=>x) s)=fU s
  |.mk o nm mn mk fo i e b=>by
    rw [gSt,fU,fU,zJu g b]
    congr 1
    unfold mX
    show (if o=1 then [if o=1 then nm else nm] else [])=if o=1 then [nm] else []
    split<;>rfl
def zJu (g:Lf->Lf):∀l:List St,bG (gX g (fun x=>x) l)=bG l
  |[]=>by rw [gX]
  |s::r=>by rw [gX,bG,bG,loopsS_same g s,zJu g r]
end
def takN_no {n:Ns} {t:lr} (h:nS n t=false):bP (bG n.Body) t=false:=by
  unfold nS at h
  rw [al,find_has] at h
  exact h.2
variable {P:Lf->Prop}
def zRo (h:P ⟨0,[]⟩):zSt.allF P:=by
  unfold zSt
  rw [St.allF]
  exact ⟨fun x hx=>(by cases hx),zVt h,by rw [bE];trivial⟩
def getD_all {l:List St} (hz:P ⟨0,[]⟩) (h:bE P l) (k:Nat):(l.getD k zSt).allF P:=by
  rw [aT]
  cases e:l[k]? with
  |none=>exact zRo hz
  |some a=>exact kR h a (qA e)
def replL_all {P:Lf->Prop} (hz:P ⟨0,[]⟩):∀{way:List Int} {l q:List St},bE P l->bE P q->bE P (jI way l q)
  |[],l,q,h,_=>by rw [jI];exact h
  |i::p,l,q,hl,hq=>by
    rw [jI]
    refine zHs fun s hs=>?_
    rcases aq.1 hs with hs|hs
    · rcases aq.1 hs with hs|hs
      · exact kR hl s (ec hs)
      · split at hs
        · exact kR hq s hs
        · rw [aO] at hs
          obtain ⟨h1,h2,h3⟩:=St.allF_eq (getD_all hz hl i.toNat)
          rw [hs]
          unfold pJ
          rw [St.allF]
          exact ⟨h1,h2,replL_all hz h3 hq⟩
    · exact kR hl s (lMd hs)
def zUx (hz:P ⟨0,[]⟩) {nm:lr} {many pC:Int} {b:List St} (h:bE P b):(gQ nm many pC b).allF P:=by
  unfold gQ
  rw [St.allF]
  exact ⟨fun x hx=>(by cases hx),zVt hz,h⟩
def zXj {s:St} (h:s.allF P):bE P [s]:=by rw [bE];exact ⟨h,by rw [bE];trivial⟩
def many_ok {n:Ns} {t:lr} (h:gO n t=0) (h2:(gH n t).2.1.Body.length=1/\((gH n t).2.1.Body.getD 0 zSt).Op=1):1<=((gH n t).2.1.Body.getD 0 zSt).Many:=by
  have hv:(bL n).2=0:=by
    by_cases c:(bL n).2=0
    · exact c
    · unfold gO at h;rw [aa c] at h;exact h
  have hf:(jC n.Body t).isSome=true:=by
    cases c:(jC n.Body t).isSome with
    |true=>rfl
    |false=>unfold gO at h;rw [ab hv,c] at h;exact absurd h zB
  have hl:(gH n t).2.1=(atT n.Body (jK n t)).1:=by unfold gH;rw [ab h]
  rw [hl] at h2⊢
  have h3:=(zEw (zZy (zPb hv) (found_loop hv hf).1)).2
  generalize (atT n.Body (jK n t)).1.Body=b at *
  have hm:b.getD 0 zSt∈b:=by
    rw [aT,ak zA]
    exact dw _
  obtain ⟨U,sc,h4⟩:=(zEw (zDo h3 _ hm)).1
  exact (zNb h4 h2.2).2.2.1
end Go.Br
end
section
set_option maxRecDepth 10000
namespace Go.Br
open Go Go.Eng Go.L41
/-! ## One form -/
structure ColF (outer inn nm:lr) (l:Lf):Prop where
  ok:bI l=true
  rng:l.rng
  no:nm≠outer->nm≠inn->bF l.L nm=0
def tY (outer inn nm:lr) (l:Lf):Lf:=(bS (bS l outer ⟨0,[]⟩).1 inn (fY nm)).1
def in_coeff {l:List Mono} {n:lr} (h:bF l n≠0):∃m,m∈l/\m.Name=n:=by
  by_cases c:∃m,m∈l/\m.Name=n
  · exact c
  · exact absurd (zGg fun m hm e=>c ⟨m,hm,e⟩) h
def col_form {outer inn nm:lr} (ho:bB outer=true) (hi:bB inn=true) (hn:bB nm=true) {l:Lf} (h:ColF outer inn nm l):
    (bS l outer ⟨0,[]⟩).2=0/\(bS (bS l outer ⟨0,[]⟩).1 inn (fY nm)).2=0/\bI (tY outer inn nm l)=true/\
    ∀m,m∈(tY outer inn nm l).L->m.Name=nm∨(m.Name≠outer/\m.Name≠inn/\∃x,x∈l.L/\x.Name=m.Name):=by
  have z1:bI (⟨0,[]⟩:Lf)=true:=rfl
  have e2:(bS l outer ⟨0,[]⟩).2=0:=by
    refine sub_fits h.ok z1 ho (by show r64 (0*_);rw [dy];unfold r64;omega) O (by show r64 (_+0*_);rw [dy,eh];exact h.rng.1) fun n=>?_
    show r64 (_+0*_)
    rw [dy,eh]
    split
    · unfold r64;omega
    · exact zZn (p:=none) h.rng.2 n
  obtain ⟨b1,b2⟩:=sub_coeff h.ok z1 ho e2
  have b3:=zPg h.ok z1 ho e2
  have b4:(bS l outer ⟨0,[]⟩).1.rng:=zId outer h.rng
  unfold tY
  generalize (bS l outer ⟨0,[]⟩).1=r2 at *
  have B:∀n,bF r2.L n=if n=outer then 0 else bF l.L n:=fun n=>by
    rw [b2 n];show _+0*_=_;rw [dy,eh]
  have v1:bI (fY nm)=true:=by rw [zKt hn];exact var_ok hn zA
  have vK:(fY nm).K=0:=by rw [zKt hn]
  have vL:∀n,bF (fY nm).L n=if n=nm then 1 else 0:=fun n=>by rw [zKt hn];exact zPy nm n 1
  have no2:nm≠inn->bF r2.L nm=0:=fun c=>by
    rw [B]
    by_cases k:nm=outer
    · rw [ab k]
    · rw [aa k];exact h.no k c
  have cr:∀n,r64 (bF r2.L n):=fun n=>zZn (p:=none) b4.2 n
  have C:∀n,(if n=inn then 0 else bF r2.L n)+bF (fY nm).L n*bF r2.L inn=if n=nm then bF r2.L inn else (if n=inn then 0 else bF r2.L n):=fun n=>by
    rw [vL]
    by_cases k:n=nm
    · rw [ab k,ab k,gu]
      by_cases k2:n=inn
      · rw [ab k2,fi]
      · rw [aa k2,k,no2 (fun e=>k2 (k.trans e)),fi]
    · rw [aa k,aa k,dy,eh]
  have e3:(bS r2 inn (fY nm)).2=0:=by
    refine sub_fits b3 v1 hi (by rw [vK,dy];unfold r64;omega) ?_ (by rw [vK,dy,eh];exact b4.1) fun n=>?_
    · rw [zKt hn]
      show (decide (r64 (1*bF r2.L inn))&&true)=true
      rw [gu,aw (cr inn)];rfl
    · rw [C n]
      split
      · exact cr inn
      · split
        · unfold r64;omega
        · exact cr n
  obtain ⟨d1,d2⟩:=sub_coeff b3 v1 hi e3
  have d3:=zPg b3 v1 hi e3
  refine ⟨e2,e3,d3,fun m hm=>?_⟩
  generalize (bS r2 inn (fY nm)).1=r3 at *
  have h1:bF r3.L m.Name≠0:=by
    rw [zZo d3 hm];exact (zMz d3 m hm).1
  rw [d2,C] at h1
  by_cases k:m.Name=nm
  · exact .inl k
  · rw [aa k] at h1
    by_cases k2:m.Name=inn
    · rw [ab k2] at h1;exact absurd rfl h1
    · rw [aa k2,B] at h1
      by_cases k3:m.Name=outer
      · rw [ab k3] at h1;exact absurd rfl h1
      · rw [aa k3] at h1
        exact .inr ⟨k3,k2,in_coeff h1⟩
def col_body {outer inn nm:lr} (ho:bB outer=true) (hi:bB inn=true) (hn:bB nm=true) {b:List St} (h:bE (ColF outer inn nm) b):
    ∃b1,sbT outer ⟨0,[]⟩ b=.ok b1/\sbT inn (fY nm) b1=.ok (gX (tY outer inn nm) (fun x=>x) b):=by
  refine ⟨gX (fun l=>(bS l outer ⟨0,[]⟩).1) (fun x=>x) b,?_,?_⟩
  · exact zVc (f:=sbF outer ⟨0,[]⟩) (zEg (fun l k=>(col_form ho hi hn k).1) h)
  · have h2:=zVc (f:=sbF inn (fY nm)) (r:=fun x=>x) (l:=gX (fun l=>(bS l outer ⟨0,[]⟩).1) (fun x=>x) b) (zQo (zEg (fun l k=>(col_form ho hi hn k).2.1) h))
    rw [zYm] at h2
    exact h2
/-! ## Statements form by form,in other scopes -/
structure MapOk (g:Lf->Lf) (P:Lf->Prop) (R:List lr->List lr->Prop):Prop where
  zero:g ⟨0,[]⟩=⟨0,[]⟩
  pz:P ⟨0,[]⟩
  ok:∀l,P l->bI l=true->bI (g l)=true
  sc:∀l,P l->∀sc sc',R sc sc'->gS sc l=true->gS sc' (g l)=true
  up:∀sc sc' x,R sc sc'->R (sc++[x]) (sc'++[x])
section
variable {B:List Bf} {g:Lf->Lf} {P:Lf->Prop} {R:List lr->List lr->Prop} {sc sc':List lr}
end
section
variable {B:List Bf} {g:Lf->Lf} {P:Lf->Prop} {R:List lr->List lr->Prop} {nm:lr}
end
def chkL_cat (B:List Bf):∀(a b:List St) (U sc:List lr) (way:List Int) (i:Int),dH B U sc way i (a++b)=if (dH B U sc way i a).E=0 then dH B (dH B U sc way i a).U sc way (i+(a.length:Int)) b else dH B U sc way i a
  |[],b,U,sc,way,i=>by rw [lNa,dH,ab rfl];simp
  |s::r,b,U,sc,way,i=>by
    rw [lCa,dH,dH]
    by_cases c:(jB B U sc (way++[i]) s).E=0
    · rw [ab c,ab c,chkL_cat B r b,lLc]
      have e:i+1+(r.length:Int)=i+((r.length+1:Nat):Int):=by omega
      rw [e]
    · rw [aa c,aa c,aa c]
def zIu {B:List Bf} {a b:List St} {U sc:List lr} {way:List Int} {i:Int} (h:(dH B U sc way i (a++b)).E=0):(dH B U sc way i a).E=0/\dH B U sc way i (a++b)=dH B (dH B U sc way i a).U sc way (i+(a.length:Int)) b:=by
  rw [chkL_cat] at h⊢
  by_cases c:(dH B U sc way i a).E=0
  · rw [ab c];exact ⟨c,rfl⟩
  · rw [aa c] at h;exact absurd h c
end Go.Br
end
section
set_option maxRecDepth 10000
namespace Go.Br
open Go Go.Eng Go.L41
def prod_le {a b:Int} (ha:1<=a) (hb:1<=b) (hb2:b<=65536) (h:¬w64 (Int.tdiv 65536 b)<a):1<=a*b/\a*b<=65536/\w64 (a*b)=a*b:=by
  rw [fx zA] at h
  have k2:(65536:Int)/b<=65536:=Int.ediv_le_self _ zA
  have k0:0<=(65536:Int)/b:=Int.ediv_nonneg zA zA
  rw [zIb uH] at h
  have h3:a*b<=65536:=Int.mul_le_of_le_ediv zA zA
  have h4:1*b<=a*b:=Int.mul_le_mul_of_nonneg_right ha zA
  exact ⟨zA,h3,zIb uH⟩
def one_body {s inn:St} (h:s.Body.length=1) (hi:s.Body.getD 0 zSt=inn):s.Body=[inn]:=by
  cases e:s.Body with
  |nil=>rw [e] at h;cases h
  |cons a r=>
    rw [e] at h hi
    have hr:r=[]:=by simpa using h
    have:a=inn:=hi
    rw [hr,this]
def fmX (i:List Ix):List Lf:=i.flatMap fun x=>x.Lin::x.At
def fmX_all (f:Lf->Bool):∀i:List Ix,(fmX i).all f=mS f i
  |[]=>rfl
  |x::r=>by
    have ih:=fmX_all f r
    unfold fmX mS at *
    rw [cg,bx,ih,aW,aW]
def forms_all (f:Lf->Bool) (e:Ex):(dC e).all f=(f e.Lin&&mS f e.Idx):=by
  have:=fmX_all f e.Idx
  unfold dC fmX at *
  rw [aW,this]
end Go.Br
end
section
set_option maxRecDepth 10000
namespace Go.W
open Go Go.Eng Go.Proofs Go.L41 Go.Br
structure Gs where
  Mem:List Nmd
  E:Int
def jX (nm:lr) (env:List Bd) (b:List Bd->Gs->Gs) (s:Gs) (k:Nat):Gs:=if ¬s.E=0 then s else b (⟨nm,(k:Int)⟩::env) s
mutual
def goS:St->List Bd->Gs->Gs
  |.mk o nm mn mk fo i e b,env,s=>
    if o=1 then (List.range mn.toNat).foldl (jX nm env fun env' s'=>goL b env' s') s else
    if o=4 then (if ¬(evE s.Mem env e).h.2=0 then ⟨s.Mem,(evE s.Mem env e).h.2⟩ else if (evE s.Mem env e).h.1=true then goL b env s else s) else
    ⟨(fR ⟨s.Mem,0,0⟩ env (.mk o nm mn mk fo i e b)).Mem,(fR ⟨s.Mem,0,0⟩ env (.mk o nm mn mk fo i e b)).E⟩
def goL:List St->List Bd->Gs->Gs
  |[],_,s=>s
  |x::r,env,s=>if ¬s.E=0 then s else goL r env (goS x env s)
end
def mR (s:Rs):Gs:=⟨s.Mem,s.E⟩
def zYk:∀{l:List St} {env:List Bd} {s:Gs},¬s.E=0->goL l env s=s
  |[],env,s,h=>by rw [goL]
  |x::r,env,s,h=>by rw [goL,ab h]
def zYl:∀(a b:List St) (env:List Bd) (s:Gs),goL (a++b) env s=goL b env (goL a env s)
  |[],b,env,s=>by rw [lNa,goL]
  |x::r,b,env,s=>by
    rw [lCa,goL,goL]
    by_cases h:s.E=0
    · rw [aa (fun k=>k h),aa (fun k=>k h),zYl r b]
    · rw [ab h,ab h,zYk h]
def zLw (x:St) (env:List Bd) (s:Gs) (h:s.E=0):goL [x] env s=goS x env s:=by rw [goL,aa (fun k=>k h),goL]
def fold_go {f:Int} {nm:lr} {env:List Bd} {b:List Bd->Rs->Rs} {g:List Bd->Gs->Gs} (h:∀(env:List Bd) (s:Rs),s.E=0->(b env s).E=14∨mR (b env s)=g env (mR s)):
    ∀(l:List Nat) (s:Rs),(l.foldl (jN f nm env b) s).E=14∨mR (l.foldl (jN f nm env b) s)=l.foldl (jX nm env g) (mR s)
  |[],s=>.inr rfl
  |k::r,s=>by
    rw [bi,bi]
    by_cases c:s.E=0
    · by_cases d:(fA f s).E=0
      · obtain ⟨d1,d2⟩:=step_ok d c
        have e1:jN f nm env b s k=b (⟨nm,k⟩::env) ⟨s.Mem,s.N+1,0⟩:=by
          unfold jN;rw [aa (fun q=>q c),aa (fun q=>q d),d1]
        have e2:jX nm env g (mR s) k=g (⟨nm,k⟩::env) (mR s):=by
          unfold jX;rw [aa (fun q=>q (show (mR s).E=0 from c))]
        rw [e1,e2]
        have e3:mR ⟨s.Mem,s.N+1,0⟩=mR s:=by unfold mR;rw [c]
        rcases h (⟨nm,k⟩::env) ⟨s.Mem,s.N+1,0⟩ rfl with q|q
        · rw [zVh r (by rw [q];decide)];exact .inl q
        · rw [e3] at q;rw [←q];exact fold_go h r _
      · have e1:jN f nm env b s k=fA f s:=by unfold jN;rw [aa (fun q=>q c),ab d]
        rw [e1,zVh r d]
        left
        unfold fA at d⊢
        by_cases q:f<=s.N
        · rw [ab q]
        · rw [aa q] at d;exact absurd c d
    · have e1:jN f nm env b s k=s:=by unfold jN;rw [ab c]
      have e2:jX nm env g (mR s) k=mR s:=by unfold jX;rw [ab (show ¬(mR s).E=0 from c)]
      rw [e1,e2];exact fold_go h r s
def step_14 {f:Int} {s:Rs} (hs:s.E=0) (h:¬(fA f s).E=0):(fA f s).E=14:=by
  unfold fA at h⊢
  by_cases q:f<=s.N
  · rw [ab q]
  · rw [aa q] at h;exact absurd hs h
mutual
def run_goS (f:Int):∀(x:St) (env:List Bd) (s:Rs),s.E=0->(jT f x env s).E=14∨mR (jT f x env s)=goS x env (mR s)
  |.mk o nm mn mk fo i e b,env,s,hs=>by
    rw [jT,goS]
    by_cases o1:o=1
    · rw [ab o1,ab o1]
      exact fold_go (fun env s h=>run_goL f b env s h) _ s
    · rw [aa o1,aa o1]
      by_cases d:(fA f s).E=0
      · obtain ⟨d1,d2⟩:=step_ok d hs
        rw [aa (show ¬ ¬(fA f s).E=0 from fun q=>q d),d1]
        have e3:mR ⟨s.Mem,s.N+1,0⟩=mR s:=by unfold mR;rw [hs]
        have eM:(mR s).Mem=s.Mem:=rfl
        by_cases o4:o=4
        · rw [ab o4,ab o4,eM]
          by_cases c:(evE s.Mem env e).h.2=0
          · rw [aa (show ¬ ¬(evE s.Mem env e).h.2=0 from fun q=>q c),aa (show ¬ ¬(evE s.Mem env e).h.2=0 from fun q=>q c)]
            by_cases hh:(evE s.Mem env e).h.1=true
            · rw [ab hh,ab hh,←e3];exact run_goL f b env _ rfl
            · rw [aa hh,aa hh];exact .inr e3
          · rw [ab c,ab c];exact .inr rfl
        · rw [aa o4,aa o4,eM,store_eq ⟨s.Mem,s.N+1,0⟩];exact .inr rfl
      · rw [ab d];exact .inl (step_14 hs d)
def run_goL (f:Int):∀(l:List St) (env:List Bd) (s:Rs),s.E=0->(lI f l env s).E=14∨mR (lI f l env s)=goL l env (mR s)
  |[],env,s,hs=>by rw [lI,goL];exact .inr rfl
  |x::r,env,s,hs=>by
    rw [lI,goL,aa (show ¬ ¬s.E=0 from fun q=>q hs),aa (show ¬ ¬(mR s).E=0 from fun q=>q hs)]
    rcases run_goS f x env s hs with q|q
    · rw [runL_err (by rw [q];decide)];exact .inl q
    · by_cases c:(jT f x env s).E=0
      · rw [←q];exact run_goL f r env _ c
      · rw [runL_err c,←q,zYk (show ¬(mR (jT f x env s)).E=0 from c)];exact .inr rfl
end
/-! ## Loops one behind the other -/
def fold_mul {α:Type} (F:α->Nat->α) (b:Nat):∀(q:Nat) (s:α),(List.range q).foldl (fun s o=>(List.range b).foldl (fun s k=>F s (o*b+k)) s) s=(List.range (q*b)).foldl F s
  |0,s=>by rw [iW];rfl
  |q+1,s=>by
    rw [ey,dm,fold_mul F b q s,ej,Nat.one_mul,List.range_add,dm,List.foldl_map];rfl
def fold_more {α:Type} (F:α->Nat->α) (m:Nat):∀(d:Nat) (s:α),(∀s i,m<=i->F s i=s)->(List.range (m+d)).foldl F s=(List.range m).foldl F s
  |0,s,_=>rfl
  |d+1,s,h=>by rw [←gg,ey,dm,fold_more F m d s h,bi,List.foldl_nil,h _ _ (jc _ _)]
def fold_two {α:Type} (F:α->Nat->α) (a b:Nat) (s:α):(List.range (a+b)).foldl F s=(List.range b).foldl (fun s k=>F s (a+k)) ((List.range a).foldl F s):=by
  rw [List.range_add,dm,List.foldl_map]
def zEa {α:Type} {F G:α->Nat->α}:∀(l:List Nat) (s:α),(∀s k,k∈l->F s k=G s k)->l.foldl F s=l.foldl G s
  |[],s,_=>rfl
  |k::r,s,h=>by rw [bi,bi,h s k uD];exact zEa r _ fun s j hj=>h s j (au _ hj)
/-! ## Other forms,other bindings -/
def EqF (g:Lf->Lf) (env env':List Bd) (l:Lf):Prop:=bY (g l) env'=bY l env
variable {env' env:List Bd} {g:Lf->Lf}
def ixv_map {mem:List Nmd} {x:Ix} {d:Int} (h1:EqF g env env' x.Lin) (h2:∀l,l∈x.At->EqF g env env' l):mJ mem env' (gIx g x) d=mJ mem env x d:=by
  have e:(x.At.map g).map (fun f=>bY f env')=x.At.map fun f=>bY f env:=by
    rw [iz];exact gx fun l hl=>h2 l hl
  unfold mJ gIx
  dsimp only
  rw [e,lLm,show bY (g x.Lin) env'=bY x.Lin env from h1]
def ixsv_map {g:Lf->Lf} {env env':List Bd} {mem:List Nmd}:∀{l:List Ix} {D:List Int},gK (EqF g env env') l->sH mem env' (l.map (gIx g)) D=sH mem env l D
  |[],D,_=>rfl
  |x::r,D,h=>by
    rw [aK,sH,sH,ixv_map (h x uD).1 (h x uD).2,ixsv_map fun y hy=>h y (au _ hy)]
def plcv_map {mem:List Nmd} {l:List Ix} {t:Tn} (h:gK (EqF g env env') l):gR mem env' t (l.map (gIx g))=gR mem env t l:=by
  unfold gR;rw [lLm,ixsv_map h]
def leaf_map {mem:List Nmd} {e:Ex} (h1:EqF g env env' e.Lin) (h2:gK (EqF g env env') e.Idx):lR mem env' (gEx g e)=lR mem env e:=by
  cases e with
  |mk o n v t l i Q=>
    have h1':bY (g l) env'=bY l env:=h1
    have h2':∀t,gR mem env' t (i.map (gIx g))=gR mem env t i:=fun t=>plcv_map h2
    rw [gEx]
    unfold lR
    simp only [Ex.Op,Ex.Val,Ex.Ty,Ex.Lin,Ex.Name,Ex.Idx]
    simp only [h2',h1'];rfl
def ev_map {mem:List Nmd} (e:Ex):e.allF (EqF g env env')->evE mem env' (gEx g e)=evE mem env e:=by
  induction e using Ex.ind with
  |_ e ih=>
    intro h
    have hl:=leaf_map (mem:=mem) (Ex.allF_lin h) (ixsAll_of h)
    have hA:(gEx g e).Args.map (evE mem env')=e.Args.map (evE mem env):=by
      rw [gEx_eq];show (e.Args.map (gEx g)).map (evE mem env')=_
      rw [iz];exact gx fun a ha=>ih a ha (Ex.allF_arg h ha)
    have ho:(gEx g e).Op=e.Op:=by rw [gEx_eq];rfl
    have ht:(gEx g e).Ty=e.Ty:=by rw [gEx_eq];rfl
    rw [evE_eq,evE_eq mem env e,hA]
    have h1:rB mem env' (gEx g e) (e.Args.map (evE mem env))=rB mem env e (e.Args.map (evE mem env)):=by
      unfold rB;rw [ho,ht,hl]
    have h2:sI (gEx g e) (e.Args.map (evE mem env))=sI e (e.Args.map (evE mem env)):=by
      unfold sI;rw [ho]
    rw [h1,h2]
def store_map {s:Rs} {x:St} (hi:gK (EqF g env env') x.Idx) (he:x.E.allF (EqF g env env')):fR s env' (gSt g (fun n=>n) x)=fR s env x:=by
  cases x with
  |mk o nm mn mk fo i e b=>
    have he':evE s.Mem env' (gEx g e)=evE s.Mem env e:=ev_map e he
    have hi':∀t,gR s.Mem env' t (i.map (gIx g))=gR s.Mem env t i:=fun t=>plcv_map hi
    rw [gSt]
    unfold fR
    simp only [St.Op,St.Name,St.Idx,St.E,St.Fold,ite_self]
    simp only [he',hi'];rfl
end Go.W
end
section
set_option maxRecDepth 10000
namespace Go.W
open Go Go.Eng Go.Proofs Go.L41 Go.Br
variable {env:List Bd} {l:Lf}
def zIr (h:bI l=true) (hb:∀m,m∈l.L->(jW env m.Name).isSome=true):
    bY l env=if-(9223372036854775808:Int)<=vlL env l/\vlL env l<=9223372036854775807 then (vlL env l,0) else (0,3):=by
  unfold bY
  rw [ab (show dY l=0 by unfold dY;rw [h];rfl),evM_all hb];rfl
def sm_eq {env env':List Bd}:∀{l:List Mono},(∀m,m∈l->vlE env' m.Name=vlE env m.Name)->smM env' l=smM env l
  |[],_=>rfl
  |m::r,h=>by rw [smM,smM,h m uD,sm_eq fun x hx=>h x (au _ hx)]
def last_from {s:lr}:∀{r:List Mono} {c:Int},(∀m,m∈r->m.Name≠s)->r.foldl (fun by_ (m:Mono)=>if m.Name=s then m.By else by_) c=c
  |[],c,_=>rfl
  |m::r,c,h=>by rw [bi,aa (h m uD)];exact last_from fun x hx=>h x (au _ hx)
variable {s:lr}
def last_cons {m:Mono} {r:List Mono} (h:m.Name≠s):bH (m::r) s=bH r s:=by unfold bH;rw [bi,aa h]
def monos_tail {p:Option lr} {m:Mono} {r:List Mono} (h:bK p (m::r)=true):bK (some m.Name) r=true:=by
  rw [bK] at h
  simp only [ae] at h
  exact h.2
def zRz {env env':List Bd} {s:lr}:∀{p:Option lr} {L:List Mono},bK p L=true->(∀m,m∈L->m.Name≠s->vlE env' m.Name=vlE env m.Name)->
    smM env L=smM env' (L.filter fun m=> !decide (m.Name=s))+bH L s*vlE env s
  |p,[],_,_=>by rw [List.filter_nil,smM,smM];show (0:Int)=0+0*_;rw [dy];rfl
  |p,m::r,h,hb=>by
    have ht:=monos_tail h
    by_cases c:m.Name=s
    · have hn:∀x,x∈r->x.Name≠s:=fun x hx e=>by
        have:=zGs ht x hx
        rw [c,e,zWg] at this;cases this
      have hf:(m::r).filter (fun m=> !decide (m.Name=s))=r:=by
        rw [iu,aa (by rw [aw c];simp)]
        exact List.filter_eq_self.2 fun x hx=>by rw [aB (hn x hx)];rfl
      have hl:bH (m::r) s=m.By:=by unfold bH;rw [bi,ab c];exact last_from hn
      rw [hf,hl,smM,sm_eq (env:=env) (env':=env') fun x hx=>hb x (au _ hx) (hn x hx),c]
      exact Int.add_comm _ _
    · rw [iu,ab (by rw [aB c];rfl),smM,smM,last_cons c,zRz ht fun x hx=>hb x (au _ hx),hb m uD c]
      rw [Int.add_assoc]
def smT_mul (env:List Bd) (c:Int) (a b:List Mono):smT env (nP c (bM a b))=smM env a+smM env b*c:=by
  rw [←zCh c (a.length+b.length) a b (aH _),bM,zJf env _ _ _ (aH _),sm_scale]
variable {env':List Bd} {u:Lf}
def sub_vl (h1:bI l=true) (h2:bI u=true) (h3:bB s=true) (h:(bS l s u).2=0) (hb:∀m,m∈l.L->m.Name≠s->vlE env' m.Name=vlE env m.Name) (hu:vlL env' u=vlE env s):vlL env' (bS l s u).1=vlL env l:=by
  by_cases c:bH l.L s=0
  · rw [zWf ⟨h1,h2,h3⟩ c]
    have hn:=zQj h1 c
    unfold vlL;dsimp only
    rw [sm_eq fun m hm=>hb m hm (hn m hm)]
  · by_cases c5:r64 (u.K*bH l.L s)/\gJ (bH l.L s) u.L=true
    · have e:=substR_yes ⟨h1,h2,h3⟩ c c5
      rw [e] at h
      rw [e]
      have e2:nA (l.K+u.K*bH l.L s) (nP (bH l.L s) (bM (mH l s).L u.L))=((nA (l.K+u.K*bH l.L s) (nP (bH l.L s) (bM (mH l s).L u.L))).1,0):=kh rfl h
      rw [addT_vl e2,smT_mul]
      have e3:=zRz (env:=env) (env':=env') (s:=s) h1 hb
      have e4:(mH l s).L=l.L.filter fun m=> !decide (m.Name=s):=rfl
      unfold vlL at hu⊢
      rw [e3,←hu,e4,Int.mul_add]
      have e5:u.K*bH l.L s=bH l.L s*u.K:=Int.mul_comm _ _
      have e6:smM env' u.L*bH l.L s=bH l.L s*smM env' u.L:=Int.mul_comm _ _
      omega
    · exact v29
def sub_nm (h1:bI l=true) (h2:bI u=true) (h3:bB s=true) (h:(bS l s u).2=0) {m:Mono} (hm:m∈(bS l s u).1.L):
    (∃x,x∈l.L/\x.Name≠s/\x.Name=m.Name)∨∃x,x∈u.L/\x.Name=m.Name:=by
  by_cases c:bH l.L s=0
  · rw [zWf ⟨h1,h2,h3⟩ c] at hm
    exact .inl ⟨m,hm,zQj h1 c m hm,O⟩
  · by_cases c5:r64 (u.K*bH l.L s)/\gJ (bH l.L s) u.L=true
    · rw [substR_yes ⟨h1,h2,h3⟩ c c5] at hm
      unfold nA at hm
      split at hm
      · obtain ⟨t,ht,e⟩:=sum_names hm
        obtain ⟨t0,ht0,rfl⟩:=bq.1 ht
        rcases zDi _ _ _ (aH _) t0 ht0 with ⟨x,hx,k⟩|⟨x,hx,k⟩
        · obtain ⟨hx1,hx2⟩:=jl.1 hx
          exact .inl ⟨x,hx1,by simpa using hx2,k.trans e⟩
        · exact .inr ⟨x,hx,k.trans e⟩
      · cases hm
    · exact v29
structure RelE (s:lr) (u:Lf) (env env':List Bd) (sc:List lr):Prop where
  bnd:∀t,bP sc t=true->(jW env t).isSome=true
  old:∀t,bP sc t=true->t≠s->jW env' t=jW env t
  new:∀m,m∈u.L->(jW env' m.Name).isSome=true
  val:vlL env' u=vlE env s
def eqF_sub {sc:List lr} (hR:RelE s u env env' sc) (h2:bI u=true) (h3:bB s=true) (h1:bI l=true) (hs:gS sc l=true) (h:(bS l s u).2=0):
    EqF (fun l=>(bS l s u).1) env env' l:=by
  have hi:∀m,m∈l.L->bP sc m.Name=true:=fun m hm=>inSc_mem hs hm
  have hv:=sub_vl h1 h2 h3 h (env:=env) (env':=env') (fun m hm k=>by unfold vlE;rw [hR.old _ (hi m hm) k]) hR.val
  unfold EqF
  dsimp only
  rw [zIr h1 fun m hm=>hR.bnd _ (hi m hm),zIr (zPg h1 h2 h3 h) fun m hm=>?_,hv]
  rcases sub_nm h1 h2 h3 h hm with ⟨x,hx,k,e⟩|⟨x,hx,e⟩
  · rw [←e,hR.old _ (hi x hx) k];exact hR.bnd _ (hi x hx)
  · rw [←e];exact hR.new x hx
def wN (t n:lr) (k:Int) (env:List Bd):jW (⟨n,k⟩::env) t=if n=t then some k else jW env t:=rfl
def vlL_cons {n:lr} {k:Int} (h:∀m,m∈u.L->m.Name≠n):vlL (⟨n,k⟩::env) u=vlL env u:=by
  unfold vlL
  rw [sm_eq (env:=env) (env':=⟨n,k⟩::env) fun m hm=>by rw [wO,aa fun e=>h m hm e.symm]]
def RelE.turn {sc:List lr} (h:RelE s u env env' sc) {n:lr} {k:Int} (hn:n≠s) (hu:∀m,m∈u.L->m.Name≠n):RelE s u (⟨n,k⟩::env) (⟨n,k⟩::env') (sc++[n]) where
  bnd:=fun t ht=>by
    rw [wN]
    by_cases c:n=t
    · rw [ab c];rfl
    · rw [aa c]
      rw [zCq,zIp,aB c] at ht
      exact h.bnd t (by simpa [bP] using ht)
  old:=fun t ht hts=>by
    rw [wN,wN]
    by_cases c:n=t
    · rw [ab c,ab c]
    · rw [aa c,aa c]
      rw [zCq,zIp,aB c] at ht
      exact h.old t (by simpa [bP] using ht) hts
  new:=fun m hm=>by
    rw [wN,aa fun e=>hu m hm e.symm];exact h.new m hm
  val:=by rw [vlL_cons hu,wO,aa hn];exact h.val
end Go.W
end
section
set_option maxRecDepth 10000
namespace Go.W
open Go Go.Eng Go.Proofs Go.L41 Go.Br
def exprT_in {B:List Bf} {sc:List lr} {e:Ex} (h:(bT B sc e).2=0):e.allF (fun l=>gS sc l=true):=by
  have hn:=zMx.1 (zAv h).2
  intro x hx l hl
  have h1:=hn x hx
  unfold jQ at h1
  split at h1
  · next c=>
    unfold lQ at c
    rw [ae] at c
    rw [dC] at hl
    exact v10
  · cases h1
def stE_in {B:List Bf} {U sc:List lr} {s:St} (h:stE B U sc s=0):gK (fun l=>gS sc l=true) s.Idx/\s.E.allF (fun l=>gS sc l=true):=by
  have hs:dW s=true:=stE_syn h
  obtain ⟨s1,s2⟩:=zPf hs
  have nil:∀{i:List Ix},i=[]->gK (fun l=>gS sc l=true) i:=fun e x hx=>by rw [e] at hx;cases hx
  by_cases h1:s.Op=1
  · refine ⟨nil (s1 ?_),by rw [s2 h1];exact zVt rfl⟩
    exact l9
  · by_cases h4:s.Op=4
    · rw [stE_i hs h4] at h
      have k1:(bT B sc s.E).2=0:=by
        by_cases c:(bT B sc s.E).2=0
        · exact c
        · rw [ifE_x c] at h;exact absurd h c
      refine ⟨nil (s1 ?_),exprT_in k1⟩
      exact l9
    · rw [stE_s hs h1 h4] at h
      have k1:(bT B sc (rdE s)).2=0:=by
        by_cases c:(bT B sc (rdE s)).2=0
        · exact c
        · rw [zMq c] at h;exact absurd h c
      have k2:¬((jA B s.Name).Use=1∨(s.Op=3/\(s.Fold<1∨4<s.Fold))):=fun c=>by rw [zJd k1 c] at h;cases h
      have k3:(bT B sc s.E).2=0:=by
        by_cases c:(bT B sc s.E).2=0
        · exact c
        · rw [zMp k1 k2 c] at h;exact absurd h c
      have h5:=exprT_in k1
      exact ⟨fun x hx=>⟨Ex.allF_ix h5 (show x∈(rdE s).Idx from hx),fun l hl=>Ex.allF_at h5 (show x∈(rdE s).Idx from hx) hl⟩,exprT_in k3⟩
structure RelOk (R:List Bd->List Bd->List lr->Prop) (g:Lf->Lf) (P:Lf->Prop) (N:lr->Prop):Prop where
  eq:∀{env env':List Bd} {sc:List lr} {l:Lf},R env env' sc->bI l=true->gS sc l=true->P l->EqF g env env' l
  turn:∀{env env':List Bd} {sc:List lr} {n:lr} {k:Int},R env env' sc->N n->R (⟨n,k⟩::env) (⟨n,k⟩::env') (sc++[n])
def gSt_idn (g:Lf->Lf) (o:Int) (nm:lr) (mn mk fo:Int) (i:List Ix) (e:Ex) (b:List St):gSt g (fun n=>n) (.mk o nm mn mk fo i e b)=.mk o nm mn mk fo (i.map (gIx g)) (gEx g e) (gX g (fun n=>n) b):=by
  rw [gSt];simp only [ite_self]
mutual
def goS_map {B:List Bf} {R:List Bd->List Bd->List lr->Prop} {g:Lf->Lf} {P:Lf->Prop} {N:lr->Prop} (M:RelOk R g P N):∀(x:St) (U sc:List lr) (here:List Int) (env env':List Bd) (t:Gs),(jB B U sc here x).E=0->R env env' sc->
    x.allF P->(∀n,n∈fU x->N n)->goS (gSt g (fun n=>n) x) env' t=goS x env t
  |.mk o nm mn mk fo i e b,U,sc,here,env,env',t,h,hR,hA,hL=>by
    obtain ⟨p1,p2⟩:=zBd h
    rw [p2] at h
    obtain ⟨l1,l2⟩:=stE_lin p1
    obtain ⟨i1,i2⟩:=stE_in p1
    rw [St.allF] at hA
    obtain ⟨a1,a2,a3⟩:=hA
    have hi:gK (EqF g env env') i:=fun x hx=>⟨M.eq hR (l1 x hx).1 (i1 x hx).1 (a1 x hx).1,fun l hl=>M.eq hR ((l1 x hx).2 l hl) ((i1 x hx).2 l hl) ((a1 x hx).2 l hl)⟩
    have he:e.allF (EqF g env env'):=fun x hx l hl=>M.eq hR (l2 x hx l hl) (i2 x hx l hl) (a2 x hx l hl)
    have hst:=fun s0:Rs=>store_map (s:=s0) (x:=.mk o nm mn mk fo i e b) hi he
    rw [gSt_idn] at hst⊢
    rw [fU] at hL
    rw [goS,goS]
    by_cases o1:o=1
    · rw [ab o1,ab o1]
      have hnm:=hL nm (aq.2 (.inl (by unfold mX;rw [ab (show (St.mk o nm mn mk fo i e b).Op=1 from o1)];exact aO.2 rfl)))
      have es:fZ sc (.mk o nm mn mk fo i e b)=sc++[nm]:=ab o1
      rw [es] at h
      refine zEa _ _ fun t' k hk=>?_
      unfold jX
      by_cases c:t'.E=0
      · rw [aa (fun q=>q c),aa (fun q=>q c)]
        exact zSx M b _ _ here 0 _ _ t' h (M.turn hR hnm) a3 fun n hn=>hL n (aq.2 (.inr hn))
      · rw [ab c,ab c]
    · rw [aa o1,aa o1]
      have es:fZ sc (.mk o nm mn mk fo i e b)=sc:=aa o1
      rw [es] at h
      by_cases o4:o=4
      · rw [ab o4,ab o4,ev_map e he]
        by_cases c:(evE t.Mem env e).h.2=0
        · rw [aa (show ¬ ¬(evE t.Mem env e).h.2=0 from fun q=>q c),aa (show ¬ ¬(evE t.Mem env e).h.2=0 from fun q=>q c)]
          by_cases d:(evE t.Mem env e).h.1=true
          · rw [ab d,ab d]
            exact zSx M b _ _ here 0 _ _ t h hR a3 fun n hn=>hL n (aq.2 (.inr hn))
          · rw [aa d,aa d]
        · rw [ab c,ab c]
      · rw [aa o4,aa o4,hst]
def zSx {B:List Bf} {R:List Bd->List Bd->List lr->Prop} {g:Lf->Lf} {P:Lf->Prop} {N:lr->Prop} (M:RelOk R g P N):∀(l:List St) (U sc:List lr) (way:List Int) (i:Int) (env env':List Bd) (t:Gs),(dH B U sc way i l).E=0->R env env' sc->
    bE P l->(∀n,n∈bG l->N n)->goL (gX g (fun n=>n) l) env' t=goL l env t
  |[],U,sc,way,i,env,env',t,h,hR,hA,hL=>by rw [gX,goL,goL]
  |x::r,U,sc,way,i,env,env',t,h,hR,hA,hL=>by
    obtain ⟨p1,p2⟩:=zCr h
    rw [p2] at h
    rw [bE] at hA
    rw [bG] at hL
    rw [gX,goL,goL]
    by_cases c:t.E=0
    · rw [aa (show ¬ ¬t.E=0 from fun q=>q c),aa (show ¬ ¬t.E=0 from fun q=>q c),goS_map M x U sc _ env env' t p1 hR hA.1 fun n hn=>hL n (aq.2 (.inl hn))]
      exact zSx M r _ sc way _ env env' _ h hR hA.2 fun n hn=>hL n (aq.2 (.inr hn))
    · rw [ab c,ab c]
end
/-! ## A form in place of a name -/
def rel_sub {s:lr} {u:Lf} (h2:bI u=true) (h3:bB s=true):RelOk (RelE s u) (fun l=>(bS l s u).1) (fun l=>(bS l s u).2=0) (fun n=>n≠s/\∀m,m∈u.L->m.Name≠n) where
  eq:=fun hR h1 hs h=>eqF_sub hR h2 h3 h1 hs h
  turn:=fun hR hn=>hR.turn hn.1 hn.2
end Go.W
end
section
set_option maxRecDepth 10000
namespace Go.W
open Go Go.Eng Go.Proofs Go.L41 Go.Br
def BndE (env:List Bd) (sc:List lr):Prop:=∀t,bP sc t=true->(jW env t).isSome=true
variable {env:List Bd} {sc:List lr}
def BndE.turn (h:BndE env sc) (n:lr) (k:Int):BndE (⟨n,k⟩::env) (sc++[n]):=fun t ht=>by
  rw [wN]
  by_cases c:n=t
  · rw [ab c];rfl
  · rw [aa c]
    rw [zCq,zIp,aB c] at ht
    exact h t (by simpa [bP] using ht)
def SubN (sc U:List lr):Prop:=∀t,bP sc t=true->bP U t=true
def SubN.app {U:List lr} (h:SubN sc U) (n:lr):SubN (sc++[n]) (U++[n]):=fun t ht=>by
  rw [zCq] at ht⊢
  rw [aI] at ht⊢
  rcases ht with ht|ht
  · exact .inl (h t ht)
  · exact .inr ht
def goS_body {y:St} {b':List St} {t:Gs} (h1:y.Op=1->∀(k:Nat) (t:Gs),goL b' (⟨y.Name,(k:Int)⟩::env) t=goL y.Body (⟨y.Name,(k:Int)⟩::env) t) (h2:¬y.Op=1->∀t:Gs,goL b' env t=goL y.Body env t):goS (pJ y b') env t=goS y env t:=by
  cases y with
  |mk o nm mn mk fo i e b=>
    show goS (.mk o nm mn mk fo i e b') env t=_
    rw [goS,goS]
    by_cases o1:o=1
    · rw [ab o1,ab o1]
      refine zEa _ _ fun t' k hk=>?_
      unfold jX
      dsimp only
      rw [show goL b' (⟨nm,(k:Int)⟩::env) t'=goL b (⟨nm,(k:Int)⟩::env) t' from h1 o1 k t']
    · rw [aa o1,aa o1,show goL b' env t=goL b env t from h2 o1 t]
      have e:fR ⟨t.Mem,0,0⟩ env (.mk o nm mn mk fo i e b')=fR ⟨t.Mem,0,0⟩ env (.mk o nm mn mk fo i e b):=rfl
      rw [e]
def vF (B:List Bf) (s:St) (q:List St):Prop:=∀(U sc:List lr) (here way:List Int) (i:Int) (env:List Bd) (t:Gs),(jB B U sc here s).E=0->(dH B U sc way i q).E=0->BndE env sc->SubN sc U->t.E=0->goL q env t=goS s env t
def goL_mid {a q d:List St} {s:St} {t:Gs} (h:∀t:Gs,t.E=0->goL q env t=goS s env t):goL (a++q++d) env t=goL (a++[s]++d) env t:=by
  rw [zYl,zYl,zYl,zYl]
  congr 1
  by_cases c:(goL a env t).E=0
  · rw [h _ c,zLw s env _ c]
  · rw [zYk c,zYk c]
def sub_up {B:List Bf} {a:List St} {U:List lr} {way:List Int} {i:Int} (h:(dH B U sc way i a).E=0) (hs:SubN sc U):SubN sc (dH B U sc way i a).U:=fun t ht=>((zRg a U sc way i h t).1 (hs t ht)).2
def goL_repl {B:List Bf} {s:St} {q:List St} (hX:vF B s q):∀(p:List Int) (l:List St) (s0:St) (U sc:List lr) (way:List Int) (i:Int) (env:List Bd) (t:Gs),p≠[]->atF p l s0=(s,true)->
    (dH B U sc way i l).E=0->(dH B U sc way i (jI p l q)).E=0->BndE env sc->SubN sc U->goL (jI p l q) env t=goL l env t
  |[],l,s0,U,sc,way,i,env,t,hp,ha,h1,h2,hb,hu=>absurd rfl hp
  |j::p,l,s0,U,sc,way,i,env,t,hp,ha,h1,h2,hb,hu=>by
    rw [atF] at ha
    by_cases c:0<=j/\j<l.length
    · rw [ab c] at ha
      have hl:=cut_at c
      rw [lAa] at hl
      rw [←hl] at h1
      obtain ⟨a1,a2⟩:=zIu h1
      rw [a2] at h1
      obtain ⟨b1,b2⟩:=zIu h1
      have hs1:=(zCr b1).1
      have hu':=sub_up a1 hu
      by_cases e:p=[]
      · subst e
        rw [atF] at ha
        have hs:l.getD j.toNat zSt=s:=ag Prod.fst ha
        rw [zPu,lAa] at h2
        obtain ⟨_,d2⟩:=zIu h2
        rw [d2] at h2
        have h3:=(zIu h2).1
        rw [zPu]
        rw [hs] at hs1
        have:=goL_mid (a:=l.take j.toNat) (q:=q) (d:=l.drop (j.toNat+1)) (s:=s) (env:=env) (t:=t) fun t' ht'=>hX _ sc _ _ _ env t' hs1 h3 hb hu' ht'
        rw [this,←hs,cut_at c]
      · rw [zUy e,lAa] at h2
        obtain ⟨_,d2⟩:=zIu h2
        rw [d2] at h2
        have h3:=(zCr (zIu h2).1).1
        obtain ⟨k1,k2⟩:=zBd hs1
        obtain ⟨m1,m2⟩:=zBd h3
        rw [k2] at hs1
        rw [m2] at h3
        rw [zUy e]
        have:=goL_mid (a:=l.take j.toNat) (q:=[pJ (l.getD j.toNat zSt) (jI p (l.getD j.toNat zSt).Body q)]) (d:=l.drop (j.toNat+1)) (s:=l.getD j.toNat zSt) (env:=env) (t:=t) fun t' ht'=>by
          rw [zLw _ _ _ ht']
          obtain ⟨y,hy⟩:∃y,y=l.getD j.toNat zSt:=⟨_,rfl⟩
          rw [←hy] at ha hs1 h3 k1⊢
          have hn:∀V:List lr,fZ V (pJ y (jI p y.Body q))=fZ V y:=fun V=>by cases y;rfl
          have hbd:(pJ y (jI p y.Body q)).Body=jI p y.Body q:=by cases y;rfl
          rw [hn,hn,hbd] at h3
          refine goS_body (fun ho k t=>?_) fun ho t=>?_
          · have e1:∀V,fZ V y=V++[y.Name]:=fun V=>ab ho
            rw [e1,e1] at hs1 h3
            exact goL_repl hX p y.Body y _ _ _ _ _ t e ha hs1 h3 (hb.turn _ _) (hu'.app _)
          · have e1:∀V,fZ V y=V:=fun V=>aa ho
            rw [e1,e1] at hs1 h3
            exact goL_repl hX p y.Body y _ _ _ _ _ t e ha hs1 h3 hb hu'
        rw [this,cut_at c]
    · rw [aa c] at ha;exact absurd (ag Prod.snd ha) uD
end Go.W
end
section
set_option maxRecDepth 10000
namespace Go.W
open Go Go.Eng Go.Proofs Go.L41 Go.Br
/-! ## Sums of two forms -/
def add_facts {a b:Lf} (h1:bI a=true) (h2:bI b=true) (hk:r64 (a.K+b.K)) (hc:∀n,r64 (bF a.L n+bF b.L n)):
    (∀env,vlL env (jM a b).1=vlL env a+vlL env b)/\bI (jM a b).1=true/\∀m,m∈(jM a b).1.L->(∃x,x∈a.L/\x.Name=m.Name)∨∃x,x∈b.L/\x.Name=m.Name:=by
  have hall:(bM a.L b.L).all tD=true:=by
    rw [lAe]
    intro t ht
    obtain ⟨e1,e2⟩:=zCg _ none a.L b.L (aH _) h1 h2 t ht
    unfold tD
    rw [ah]
    show r64 (t.2.1+t.2.2)
    rw [e1,e2];exact hc _
  have e:jM a b=(⟨a.K+b.K,mG (bM a.L b.L)⟩,0):=by
    unfold jM nA
    rw [ab ⟨h1,h2⟩,ab ⟨hk,hall⟩]
  refine ⟨fun env=>add_vl (kh O (by rw [e])),?_,fun m hm=>?_⟩
  · rw [e];exact sum_asc (zAz _ none _ _ (aH _) h1 h2)
  · rw [e] at hm
    obtain ⟨t,ht,k⟩:=sum_names hm
    rcases zDi _ _ _ (aH _) t ht with ⟨x,hx,q⟩|⟨x,hx,q⟩
    · exact .inl ⟨x,hx,q.trans k⟩
    · exact .inr ⟨x,hx,q.trans k⟩
def vl_one (env:List Bd) (a:lr) (k:Int):vlL env ⟨0,[⟨a,k⟩]⟩=k*vlE env a:=by
  show 0+(k*vlE env a+0)=_;omega
def form_facts {by_:Int} {o i:lr} (ho:bB o=true) (hi:bB i=true) (hb:1<=by_) (hb2:by_<=65536):
    bI (gE by_ o i)=true/\(∀env,vlL env (gE by_ o i)=by_*vlE env o+vlE env i)/\∀m,m∈(gE by_ o i).L->m.Name=o∨m.Name=i:=by
  unfold gE
  rw [scale_var ho uH zA,zKt hi]
  obtain ⟨f1,f2,f3⟩:=add_facts (a:=⟨0,[⟨o,by_⟩]⟩) (b:=⟨0,[⟨i,1⟩]⟩) (var_ok ho zA) (var_ok hi zA) (by show r64 (0+0);unfold r64;omega) (fun n=>by
    rw [zPy,zPy];unfold r64;split<;>split<;>omega)
  refine ⟨f2,fun env=>?_,fun m hm=>?_⟩
  · rw [f1 env,vl_one,vl_one];omega
  · rcases f3 m hm with ⟨x,hx,e⟩|⟨x,hx,e⟩
    · rw [aO] at hx;rw [hx] at e;exact .inl e.symm
    · rw [aO] at hx;rw [hx] at e;exact .inr e.symm
def peel_facts {many:Int} {i:lr} (hi:bB i=true) (hb:r64 many):
    bI (jZ many i)=true/\(∀env,vlL env (jZ many i)=many+vlE env i)/\∀m,m∈(jZ many i).L->m.Name=i:=by
  unfold jZ
  rw [zKt hi]
  obtain ⟨f1,f2,f3⟩:=add_facts (a:=⟨0,[⟨i,1⟩]⟩) (b:=⟨many,[]⟩) (var_ok hi zA) rfl (by show r64 (0+many);rw [fi];exact hb) (fun n=>by
    rw [zPy,show bF [] n=0 from rfl];unfold r64;split<;>omega)
  refine ⟨f2,fun env=>?_,fun m hm=>?_⟩
  · rw [f1 env,vl_one];show 1*vlE env i+(many+0)=_;omega
  · rcases f3 m hm with ⟨x,hx,e⟩|⟨x,hx,e⟩
    · rw [aO] at hx;rw [hx] at e;exact e.symm
    · cases hx
/-! ## A guard -/
def const_ev (m:Int) (env:List Bd) (h:r64 m):bY ⟨m,[]⟩ env=(m,0):=by
  rw [zIr rfl fun x hx=>by cases hx]
  have e:vlL env ⟨m,[]⟩=m:=by show m+0=m;omega
  unfold r64 at h
  rw [e,ab zA]
variable {env:List Bd}
def idxL_val {mem:List Nmd} {f:Lf} {v:Int} (h:bY f env=(v,0)) (h1: -2147483647<=v) (h2:v<=2147483647):(evE mem env (nQ f)).v=⟨⟨v,1⟩,iTy,0⟩:=by
  have e1:(nQ f).Op=2:=rfl
  have e2:(nQ f).Lin=f:=rfl
  rw [val_leaf (by rw [e1];decide),leaf_2 e1 (by rw [e2,h]) (by rw [e2,h];dsimp only;omega),e2,h]
def int_ok {v:Int} (h1: -2147483647<=v) (h2:v<=2147483647):bQ iTy ⟨v,1⟩=true:=by
  show (decide ((1:Int)=1)&&dX v)=true
  unfold dX
  rw [aw h1,aw h2];rfl
def lt_hold {mem:List Nmd} {f:Lf} {v m:Int} (h:bY f env=(v,0)) (h1: -2147483647<=v) (h2:v<=2147483647) (h3:0<=m) (h4:m<=65536):(evE mem env (ltE f m)).h=(decide (v<m),0):=by
  have ha:=idxL_val (mem:=mem) h h1 h2
  have hb:=idxL_val (mem:=mem) (const_ev m env uH) zA zA
  have e1:(ltE f m).Op=13:=rfl
  rw [hld_v (a:=nQ f) (b:=nQ ⟨m,[]⟩) (by rw [e1];decide) rfl (by rw [ha]) rfl (by rw [hb]) (by rw [ha,hb]),ha,hb,e1]
  have e2:sC iTy ⟨v,1⟩ ⟨m,1⟩=sP v m:=by
    unfold sC
    rw [int_ok h1 h2,int_ok (v:=m) zA zA,Int.mul_one,Int.mul_one];rfl
  dsimp only
  rw [e2]
  unfold sP
  by_cases c:v<m
  · rw [aw c];rfl
  · rw [aB c]
    by_cases d:m<v
    · rw [aw d];rfl
    · rw [aB d];rfl
variable {t:Gs}
/-! ## Loops -/
def zGa {s:St} (h:s.Op=1):goS s env t=(List.range s.Many.toNat).foldl (jX s.Name env (goL s.Body)) t:=by
  cases s with
  |mk o nm mn mk fo i e b=>
    have h':o=1:=h
    rw [goS,ab h'];rfl
def goS_if {e:Ex} {b:List St} {v:Bool} (h:(evE t.Mem env e).h=(v,0)):goS (sIf e b) env t=if v=true then goL b env t else t:=by
  show goS (.mk 4 (bs []) 0 0 0 [] e b) env t=_
  rw [goS,aa zB,ab rfl,h,aa (fun k=>k rfl)]
def zEu {nm:lr} {g:List Bd->Gs->Gs} {k:Nat} (h:¬t.E=0):jX nm env g t k=t:=by unfold jX;rw [ab h]
def zHh {nm:lr} {g:List Bd->Gs->Gs} {k:Nat} (h:t.E=0):jX nm env g t k=g (⟨nm,(k:Int)⟩::env) t:=by unfold jX;rw [aa (fun q=>q h)]
def fold_id {α:Type} {F:α->Nat->α} {s:α} (h:∀k,F s k=s):∀l:List Nat,l.foldl F s=s
  |[]=>rfl
  |k::r=>by rw [bi,h k];exact fold_id h r
def cnt_ne {t:lr} {l:List lr} (h:pW t l=0):∀n,n∈l->n≠t:=fun n hn e=>by
  unfold pW at h
  rw [List.countP_eq_zero] at h
  exact h n hn (by simp [e])
def zAk {l:List lr} {x t:lr}:bP (l++[x]) t=(bP l t||decide (x=t)):=by
  rw [zCq,zIp];simp [bP]
def trip_up {m b:Int} (hb:1<=b) (hm:b<=m) (hm2:m<=65536):∃q:Nat,w64 (Int.tdiv (w64 (w64 (m+b)-1)) b)=q/\m<=q*b/\(q:Int)*b<=m+b/\(Int.tmod m b=0->(q:Int)*b=m):=by
  have e0:w64 (Int.tdiv (w64 (w64 (m+b)-1)) b)=(m+b-1)/b:=by
    rw [zIb (n:=m+b) uH,zIb (n:=m+b-1) uH,fx zA]
    have k0:0<=(m+b-1)/b:=Int.ediv_nonneg zA zA
    have k1:(m+b-1)/b<=m+b-1:=Int.ediv_le_self _ zA
    exact zIb uH
  obtain ⟨d,hd⟩:∃d,(m+b-1)/b=d:=⟨_,rfl⟩
  have d0:0<=d:=by rw [←hd];exact Int.ediv_nonneg zA zA
  have e1:=Int.mul_ediv_add_emod (m+b-1) b
  have e2:=Int.emod_lt_of_pos (m+b-1) (show 0<b by omega)
  rw [hd] at e1
  have e3:d*b=b*d:=Int.mul_comm _ _
  have e4:((d.toNat:Nat):Int)=d:=by omega
  have e5:=Int.emod_nonneg (m+b-1) (show b≠0 by omega)
  refine ⟨d.toNat,by rw [e0,hd,e4],by rw [e4];omega,by rw [e4];omega,fun h=>?_⟩
  rw [e4]
  rw [Int.tmod_eq_emod_of_nonneg zA] at h
  obtain ⟨c,hc⟩:∃c,m/b=c:=⟨_,rfl⟩
  have e5:m=b*c:=by
    have:=Int.mul_ediv_add_emod m b
    rw [h,hc] at this;omega
  have k:m+b-1=(b-1)+b*c:=by omega
  rw [k,Int.add_mul_ediv_left _ _ zA,Int.ediv_eq_zero_of_lt zA zA,fi] at hd
  rw [←hd,Int.mul_comm,←e5]
end Go.W
end
section
set_option maxRecDepth 10000
namespace Go.W
open Go Go.Eng Go.Proofs Go.L41 Go.Br
def has_no {U:List lr} {sc:List lr} (hu:SubN sc U) {t x:lr} (ht:bP sc t=true) (hx:bP U x=false):x≠t:=fun e=>by
  have:=hu t ht;rw [←e,hx] at this;cases this
def zNk {s:lr} {u:Lf} {b b1:List St} (h:sbT s u b=.ok b1):b1=gX (fun l=>(bS l s u).1) (fun x=>x) b/\bE (fun l=>(bS l s u).2=0) b/\bG b1=bG b:=by
  have e:b1=gX (fun l=>(bS l s u).1) (fun x=>x) b:=mSts_g h
  exact ⟨e,mSts_nos h,by rw [e,zJu]⟩
def loops_if {e:Ex} {b:List St}:bG [sIf e b]=bG b:=by
  rw [loopsL_one]
  show fU (.mk 4 (bs []) 0 0 0 [] e b)=_
  rw [fU];rfl
def alike_split {B:List Bf} {s:St} {loop outer inner:lr} {by_:Int} {b1:List St} (q1:s.Op=1) (q2:s.Name=loop) (hl:bB loop=true) (ho:bB outer=true) (hi:bB inner=true) (hb1:1<=by_) (hb2:by_<=s.Many) (hm:s.Many<=65536)
    (hk:sbT loop (gE by_ outer inner) s.Body=.ok b1):vF B s [rP s by_ outer inner (gE by_ outer inner) b1]:=by
  intro U sc here way i env t h1 h2 hb hu ht
  obtain ⟨f1,f2,f3⟩:=form_facts (by_:=by_) ho hi hb1 zA
  obtain ⟨q,hq1,hq2,hq4,hq3⟩:=trip_up hb1 hb2 hm
  obtain ⟨g1,g2,g3⟩:=zNk hk
  obtain ⟨f,hf⟩:∃f,f=gE by_ outer inner:=⟨_,rfl⟩
  rw [←hf] at f1 f2 f3 g1 g2 hk⊢h2
  obtain ⟨Z,hZ⟩:∃Z,Z=vH s by_ f b1:=⟨_,rfl⟩
  have eX:rP s by_ outer inner f b1=gQ outer q s.Mark [gQ inner by_ 0 Z]:=by unfold rP;rw [hq1,hZ]
  rw [eX] at h2⊢
  have x1:=(zCr h2).1
  obtain ⟨x2,x3⟩:=zBd x1
  rw [x3] at x1
  have n1:∀V,fZ V (gQ outer q s.Mark [gQ inner by_ 0 Z])=V++[outer]:=fun V=>ab rfl
  rw [n1,n1] at x1
  have y1:=(zCr x1).1
  obtain ⟨y2,y3⟩:=zBd y1
  rw [y3] at y1
  have n2:∀V,fZ V (gQ inner by_ 0 Z)=V++[inner]:=fun V=>ab rfl
  rw [n2,n2] at y1
  have u1:bP U outer=false:=zSy x2 rfl
  have u2:bP (U++[outer]) inner=false:=zSy y2 rfl
  rw [zAk,al,aj] at u2
  obtain ⟨u2,u3⟩:=u2
  have lz:bG Z=bG s.Body:=by
    rw [←g3,hZ];unfold vH;split
    · rfl
    · exact loops_if
  have c1:=cnt_ne ((zRg _ _ _ _ _ y1 outer).1 (by rw [zAk,zAk];simp)).1
  have c2:=cnt_ne ((zRg _ _ _ _ _ y1 inner).1 (by rw [zAk];simp)).1
  rw [show (gQ inner by_ 0 Z).Body=Z from rfl,lz] at c1 c2
  obtain ⟨z1,z2⟩:=zBd h1
  rw [z2] at h1
  have n3:∀V,fZ V s=V++[loop]:=fun V=>by rw [←q2];exact ab q1
  rw [n3,n3] at h1
  have c3:=cnt_ne ((zRg _ _ _ _ _ h1 loop).1 (by rw [zAk];simp)).1
  have e3:((by_.toNat:Nat):Int)=by_:=by omega
  have hval:∀o k:Nat,by_*(o:Int)+(k:Int)=((o*by_.toNat+k:Nat):Int):=fun o k=>by
    rw [jn,gj,e3,Int.mul_comm]
  have hin:∀o k:Nat,vlL (⟨inner,(k:Int)⟩::⟨outer,(o:Int)⟩::env) f=((o*by_.toNat+k:Nat):Int):=fun o k=>by
    rw [f2,wO,wO,wO,aa (fun k=>u3 k.symm),ab rfl,ab rfl,hval]
  have hnew:∀(o k:Nat) m,m∈f.L->(jW (⟨inner,(k:Int)⟩::⟨outer,(o:Int)⟩::env) m.Name).isSome=true:=fun o k m hm=>by
    rw [wN,wN]
    rcases f3 m hm with e|e
    · rw [e,aa (fun k=>u3 k.symm),ab rfl];rfl
    · rw [e,ab rfl];rfl
  have turn:∀(o k:Nat) (t:Gs),goL b1 (⟨inner,(k:Int)⟩::⟨outer,(o:Int)⟩::env) t=goL s.Body (⟨loop,((o*by_.toNat+k:Nat):Int)⟩::env) t:=fun o k t=>by
    have hR:RelE loop f (⟨loop,((o*by_.toNat+k:Nat):Int)⟩::env) (⟨inner,(k:Int)⟩::⟨outer,(o:Int)⟩::env) (sc++[loop]):=by
      refine ⟨hb.turn _ _,fun x hx hne=>?_,hnew o k,?_⟩
      · rw [zAk,aB (fun e=>hne e.symm),gi] at hx
        rw [wN,wN,wN,aa (has_no hu hx u2),aa (has_no hu hx u1),aa fun e=>hne e.symm]
      · rw [hin,wO,ab rfl]
    rw [g1]
    exact zSx (rel_sub f1 hl) s.Body _ _ _ _ _ _ t h1 hR g2 fun n hn=>⟨c3 n hn,fun m hm=>by
      rcases f3 m hm with e|e
      · rw [e];exact fun k=>c1 n hn k.symm
      · rw [e];exact fun k=>c2 n hn k.symm⟩
  obtain ⟨F,hF⟩:∃F:Gs->Nat->Gs,F=jX loop env (goL s.Body):=⟨_,rfl⟩
  obtain ⟨G,hG⟩:∃G:Gs->Nat->Gs,G=fun (t:Gs) (k:Nat)=>if (k:Int)<s.Many then F t k else t:=⟨_,rfl⟩
  have Gerr:∀(t:Gs) (k:Nat),¬t.E=0->G t k=t:=fun t k h=>by
    rw [hG,hF];dsimp only;rw [zEu h];split<;>rfl
  have inn:∀(o:Nat),o<q->∀(t:Gs) (k:Nat),k<by_.toNat->jX inner (⟨outer,(o:Int)⟩::env) (goL Z) t k=G t (o*by_.toNat+k):=fun o hoq t k hk=>by
    by_cases c:t.E=0
    · have e2:(o+1)*by_.toNat<=q*by_.toNat:=dc _ hoq
      rw [ej,Nat.one_mul] at e2
      have e4:((q*by_.toNat:Nat):Int)=q*by_:=by rw [gj,e3]
      have hev:bY f (⟨inner,(k:Int)⟩::⟨outer,(o:Int)⟩::env)=(((o*by_.toNat+k:Nat):Int),0):=by
        rw [zIr f1 (hnew o k),hin,ab zA]
      rw [zHh c,hG,hF]
      dsimp only
      rw [zHh c,hZ]
      unfold vH
      by_cases d:Int.tmod s.Many by_=0
      · rw [ab d,turn]
        have e1:=hq3 d
        rw [ab zA]
      · rw [aa d,zLw _ _ _ c,goS_if (lt_hold hev zA zA zA hm)]
        by_cases e:((o*by_.toNat+k:Nat):Int)<s.Many
        · rw [ab (aw e),ab e,turn]
        · rw [aa (by simpa using e),aa e]
    · rw [zEu c,Gerr t _ c]
  have outr:∀(t:Gs) (o:Nat),o∈List.range q->jX outer env (goL [gQ inner by_ 0 Z]) t o=(List.range by_.toNat).foldl (fun t k=>G t (o*by_.toNat+k)) t:=fun t o hoq=>by
    by_cases c:t.E=0
    · rw [zHh c,zLw _ _ _ c,zGa rfl]
      exact zEa _ _ fun t' k hk=>inn o (cn.1 hoq) t' k (cn.1 hk)
    · rw [zEu c,fold_id (F:=fun t k=>G t (o*by_.toNat+k)) fun k=>Gerr t _ c]
  rw [zLw _ _ _ ht,zGa rfl,zGa q1,q2,←hF]
  show (List.range ((q:Int)).toNat).foldl (jX outer env (goL [gQ inner by_ 0 Z])) t=_
  rw [dq,zEa _ _ outr,fold_mul G]
  have e4:((q*by_.toNat:Nat):Int)=q*by_:=by rw [gj,e3]
  obtain ⟨d,hd⟩:∃d,q*by_.toNat=s.Many.toNat+d:=⟨q*by_.toNat-s.Many.toNat,zA⟩
  rw [hd,fold_more G _ d t fun t k hk=>by rw [hG];dsimp only;rw [aa zA]]
  exact zEa _ _ fun t k hk=>by
    have:=cn.1 hk
    rw [hG];dsimp only;rw [ab zA]
end Go.W
end
section
set_option maxRecDepth 10000
namespace Go.W
open Go Go.Eng Go.Proofs Go.L41 Go.Br
variable {B:List Bf} {s:St}
def up_no {U sc:List lr} {here:List Int} {x:lr} (h:(jB B U sc here s).E=0) (hx:bP (jB B U sc here s).U x=false):bP U x=false:=by
  cases c:bP U x with
  |false=>rfl
  |true=>rw [((chkS_u s U sc here h x).1 c).2] at hx;cases hx
def alike_peel {loop rest:lr} {many:Int} {b1:List St} (q1:s.Op=1) (q2:s.Name=loop) (hl:bB loop=true) (hr:bB rest=true) (hm1:1<=many) (hm2:many<s.Many) (hm:s.Many<=65536) (hL:bG s.Body=[]) (hk:sbT loop (jZ many rest) s.Body=.ok b1):vF B s [sK s many,gQ rest (w64 (s.Many-many)) s.Mark b1]:=by
  intro U sc here way i env t h1 h2 hb hu ht
  obtain ⟨f1,f2,f3⟩:=peel_facts (many:=many) hr uH
  obtain ⟨g1,g2,g3⟩:=zNk hk
  obtain ⟨f,hf⟩:∃f,f=jZ many rest:=⟨_,rfl⟩
  rw [←hf] at f1 f2 f3 g1 g2
  rw [zIb (n:=s.Many-many) uH] at h2⊢
  obtain ⟨x1,x2⟩:=zCr h2
  rw [x2] at h2
  have u1:=zSy (zBd (zCr h2).1).1 rfl
  have u2:bP U rest=false:=up_no x1 u1
  obtain ⟨z1,z2⟩:=zBd h1
  rw [z2] at h1
  have n3:∀V,fZ V s=V++[loop]:=fun V=>by rw [←q2];exact ab q1
  rw [n3,n3] at h1
  have turn:∀(j:Nat) (t:Gs),goL b1 (⟨rest,(j:Int)⟩::env) t=goL s.Body (⟨loop,((many.toNat+j:Nat):Int)⟩::env) t:=fun j t=>by
    have hR:RelE loop f (⟨loop,((many.toNat+j:Nat):Int)⟩::env) (⟨rest,(j:Int)⟩::env) (sc++[loop]):=by
      refine ⟨hb.turn _ _,fun x hx hne=>?_,fun m hm=>?_,?_⟩
      · rw [zAk,aB (fun e=>hne e.symm),gi] at hx
        rw [wN,wN,aa (has_no hu hx u2),aa fun e=>hne e.symm]
      · rw [f3 m hm,wN,ab rfl];rfl
      · rw [f2,wO,wO,ab rfl,ab rfl];omega
    rw [g1]
    exact zSx (rel_sub f1 hl) s.Body _ _ _ _ _ _ t h1 hR g2 fun n hn=>by rw [hL] at hn;cases hn
  obtain ⟨F,hF⟩:∃F:Gs->Nat->Gs,F=jX loop env (goL s.Body):=⟨_,rfl⟩
  have outr:∀(t:Gs) (j:Nat),j∈List.range (s.Many-many).toNat->jX rest env (goL b1) t j=F t (many.toNat+j):=fun t j _=>by
    by_cases c:t.E=0
    · rw [hF,zHh c,zHh c,turn]
    · rw [hF,zEu c,zEu c]
  have e1:(sK s many).Op=1:=q1
  have e2:goS (sK s many) env t=(List.range many.toNat).foldl F t:=by
    rw [zGa e1,hF]
    show (List.range many.toNat).foldl (jX s.Name env (goL s.Body)) t=_
    rw [q2]
  have e3:∀t1:Gs,goL [gQ rest (s.Many-many) s.Mark b1] env t1=(List.range (s.Many-many).toNat).foldl (fun t j=>F t (many.toNat+j)) t1:=fun t1=>by
    by_cases c:t1.E=0
    · rw [zLw _ _ _ c,zGa rfl]
      exact zEa _ _ outr
    · rw [zYk c,fold_id (F:=fun t j=>F t (many.toNat+j)) fun k=>by rw [hF];exact zEu c]
  rw [goL,aa (show ¬ ¬t.E=0 from fun q=>q ht),e2,e3,←fold_two,zGa q1,q2,←hF]
  rw [show many.toNat+(s.Many-many).toNat=s.Many.toNat by omega]
/-! ## Collapsed loops -/
structure RelC (outer inn nm:lr) (M:Int) (env env':List Bd) (sc:List lr):Prop where
  bnd:BndE env sc
  old:∀t,bP sc t=true->t≠outer->t≠inn->jW env' t=jW env t
  new:(jW env' nm).isSome=true
  val:vlE env' nm=M*vlE env outer+vlE env inn
def vlE_eq {env env':List Bd} {t:lr} (h:jW env' t=jW env t):vlE env' t=vlE env t:=by unfold vlE;rw [h]
def rel_col {outer inn nm:lr} {M:Int} (ho:bB outer=true) (hi:bB inn=true) (hn:bB nm=true) (hne:outer≠inn):
    RelOk (RelC outer inn nm M) (tY outer inn nm) (fun l=>ColF outer inn nm l/\bF l.L outer=bF l.L inn*M) (fun n=>n≠outer/\n≠inn/\n≠nm) where
  eq:=fun {env env' sc l} hR h1 hs hP=>by
    obtain ⟨hC,hco⟩:=hP
    obtain ⟨c1,c2,c3,c4⟩:=col_form ho hi hn hC
    have hin:∀m,m∈l.L->bP sc m.Name=true:=fun m hm=>inSc_mem hs hm
    have v1:bI (fY nm)=true:=by rw [zKt hn];exact var_ok hn zA
    have z1:bI (⟨0,[]⟩:Lf)=true:=rfl
    have b3:=zPg h1 z1 ho c1
    obtain ⟨E1,hE1⟩:∃E1,E1=(⟨inn,vlE env' nm⟩::env':List Bd):=⟨_,rfl⟩
    obtain ⟨E0,hE0⟩:∃E0,E0=(⟨outer,0⟩::E1:List Bd):=⟨_,rfl⟩
    have k1:vlL env' (tY outer inn nm l)=vlL E1 (bS l outer ⟨0,[]⟩).1:=sub_vl b3 v1 hi c2 (fun m hm k=>by rw [hE1,wO,aa fun e=>k e.symm]) (by rw [zKt hn,vl_one,hE1,wO,ab rfl,gu])
    have k2:vlL E1 (bS l outer ⟨0,[]⟩).1=vlL E0 l:=sub_vl h1 z1 ho c1 (fun m hm k=>by rw [hE0,wO,aa fun e=>k e.symm]) (by rw [hE0,wO,ab rfl];rfl)
    have hL':=zDs (fun m:Mono=> !decide (m.Name=outer)) (p:=none) h1
    have s1:=zRz (env:=E0) (env':=E1) (s:=outer) h1 fun m hm k=>by rw [hE0,wO,aa fun e=>k e.symm]
    have s2:=zRz (env:=E1) (env':=env') (s:=inn) hL' fun m hm k=>by rw [hE1,wO,aa fun e=>k e.symm]
    have s3:=zRz (env:=env) (env':=env) (s:=outer) h1 fun m hm k=>rfl
    have s4:=zRz (env:=env) (env':=env') (s:=inn) hL' fun m hm k=>by
      obtain ⟨m1,m2⟩:=jl.1 hm
      exact vlE_eq (hR.old _ (hin m m1) (by simpa using m2) k)
    have hci:bH (l.L.filter fun m=> !decide (m.Name=outer)) inn=bF l.L inn:=by
      rw [zNc inn hL',zMs,aa fun e=>hne e.symm]
    have hcu:bH l.L outer=bF l.L inn*M:=by rw [zNc outer h1,hco]
    have w1:vlE E0 outer=0:=by rw [hE0,wO,ab rfl]
    have w2:vlE E1 inn=M*vlE env outer+vlE env inn:=by rw [hE1,wO,ab rfl,hR.val]
    have hv:vlL env' (tY outer inn nm l)=vlL env l:=by
      rw [k1,k2]
      unfold vlL
      rw [s1,s2,s3,s4,hci,hcu,w1,w2,Int.mul_zero,Int.mul_add,Int.mul_assoc]
      omega
    unfold EqF
    rw [zIr h1 fun m hm=>hR.bnd _ (hin m hm),zIr c3 fun m hm=>?_,hv]
    rcases c4 m hm with e|⟨k1,k2,x,hx,e⟩
    · rw [e];exact hR.new
    · rw [hR.old _ (by rw [←e];exact hin x hx) k1 k2,←e];exact hR.bnd _ (hin x hx)
  turn:=fun {env env' sc n k} hR hN=>by
    obtain ⟨d1,d2,d3⟩:=hN
    refine ⟨hR.bnd.turn _ _,fun t ht t1 t2=>?_,?_,?_⟩
    · rw [wN,wN]
      by_cases c:n=t
      · rw [ab c,ab c]
      · rw [aa c,aa c]
        rw [zAk,aB c,gi] at ht
        exact hR.old t ht t1 t2
    · rw [wN,aa d3];exact hR.new
    · rw [wO,wO,wO,aa d1,aa d2,aa d3];exact hR.val
def alike_col {inn:St} {outer nm:lr} (q1:s.Op=1) (q2:s.Name=outer) (hb0:s.Body=[inn]) (i1:inn.Op=1) (ho:bB outer=true) (hi:bB inn.Name=true) (hn:bB nm=true) (m1:1<=s.Many) (m2:1<=inn.Many) (hP:bE (fun l=>ColF outer inn.Name nm l/\bF l.L outer=bF l.L inn.Name*inn.Many) inn.Body):vF B s [gQ nm (s.Many*inn.Many) s.Mark (gX (tY outer inn.Name nm) (fun x=>x) inn.Body)]:=by
  intro U sc here way i env t h1 h2 hb hu ht
  obtain ⟨b2,hb2⟩:∃b2,b2=gX (tY outer inn.Name nm) (fun x=>x) inn.Body:=⟨_,rfl⟩
  rw [←hb2] at h2⊢
  have l2:bG b2=bG inn.Body:=by rw [hb2,zJu]
  obtain ⟨z1,z2⟩:=zBd h1
  rw [z2] at h1
  have n3:∀V,fZ V s=V++[outer]:=fun V=>by rw [←q2];exact ab q1
  rw [n3,n3,hb0] at h1
  have y1:=(zCr h1).1
  obtain ⟨y2,y3⟩:=zBd y1
  rw [y3] at y1
  have n4:∀V,fZ V inn=V++[inn.Name]:=fun V=>ab i1
  rw [n4,n4] at y1
  have u2:bP (U++[outer]) inn.Name=false:=zSy y2 i1
  rw [zAk,al,aj] at u2
  obtain ⟨_,u3⟩:=u2
  have c1:=cnt_ne ((zRg _ _ _ _ _ y1 outer).1 (by rw [zAk,zAk];simp)).1
  have c2:=cnt_ne ((zRg _ _ _ _ _ y1 inn.Name).1 (by rw [zAk];simp)).1
  have x1:=(zCr h2).1
  obtain ⟨x2,x3⟩:=zBd x1
  rw [x3] at x1
  have n1:∀V,fZ V (gQ nm (s.Many*inn.Many) s.Mark b2)=V++[nm]:=fun V=>ab rfl
  rw [n1,n1] at x1
  have u1:bP U nm=false:=zSy x2 rfl
  have c3:=cnt_ne ((zRg _ _ _ _ _ x1 nm).1 (by rw [zAk];simp)).1
  rw [show (gQ nm (s.Many*inn.Many) s.Mark b2).Body=b2 from rfl,l2] at c3
  have e3:((inn.Many.toNat:Nat):Int)=inn.Many:=by omega
  have turn:∀(o k:Nat) (t:Gs),goL b2 (⟨nm,((o*inn.Many.toNat+k:Nat):Int)⟩::env) t=goL inn.Body (⟨inn.Name,(k:Int)⟩::⟨outer,(o:Int)⟩::env) t:=fun o k t=>by
    have hR:RelC outer inn.Name nm inn.Many (⟨inn.Name,(k:Int)⟩::⟨outer,(o:Int)⟩::env) (⟨nm,((o*inn.Many.toNat+k:Nat):Int)⟩::env) (sc++[outer]++[inn.Name]):=by
      refine ⟨(hb.turn _ _).turn _ _,fun x hx t1 t2=>?_,?_,?_⟩
      · rw [zAk,zAk,aB (fun e=>t1 e.symm),aB (fun e=>t2 e.symm),gi,gi] at hx
        rw [wN,wN,wN,aa (has_no hu hx u1),aa fun e=>t2 e.symm,aa fun e=>t1 e.symm]
      · rw [wN,ab rfl];rfl
      · rw [wO,ab rfl,wO,aa (fun e=>u3 e.symm),wO,ab rfl,wO,ab rfl,jn,gj,e3,Int.mul_comm]
    rw [hb2]
    exact zSx (rel_col ho hi hn u3) inn.Body _ _ _ _ _ _ t y1 hR hP fun n hn=>⟨c1 n hn,c2 n hn,c3 n hn⟩
  obtain ⟨G,hG⟩:∃G:Gs->Nat->Gs,G=jX nm env (goL b2):=⟨_,rfl⟩
  have outr:∀(t:Gs) (o:Nat),o∈List.range s.Many.toNat->jX outer env (goL [inn]) t o=(List.range inn.Many.toNat).foldl (fun t k=>G t (o*inn.Many.toNat+k)) t:=fun t o _=>by
    by_cases c:t.E=0
    · rw [zHh c,zLw _ _ _ c,zGa i1]
      refine zEa _ _ fun t' k _=>?_
      by_cases d:t'.E=0
      · rw [hG,zHh d,zHh d,turn]
      · rw [hG,zEu d,zEu d]
    · rw [zEu c,fold_id (F:=fun t k=>G t (o*inn.Many.toNat+k)) fun k=>by rw [hG];exact zEu c]
  rw [zLw _ _ _ ht,zGa rfl,zGa q1,q2,hb0,zEa _ _ outr,fold_mul G]
  show (List.range (s.Many*inn.Many).toNat).foldl (jX nm env (goL b2)) t=_
  rw [Int.toNat_mul zA zA,hG]
end Go.W
end
section
set_option maxRecDepth 10000
namespace Go.W
open Go Go.Eng Go.Proofs Go.L41 Go.Br
structure LikeN (n m:Ns):Prop where
  ok:m.Ok
  wt:bD m.Body<=900000
  rng:bE Lf.rng m.Body
  val:(bL m).2=0
  bufs:m.Bufs=n.Bufs
  run:∀t:Gs,goL m.Body [] t=goL n.Body [] t
def end_go (n:Ns) (mem:List Nmd) (f:Int):(nV n mem f).E=14∨mR (nV n mem f)=goL n.Body [] ⟨n.Bufs.map (pA mem),0⟩:=run_goL f n.Body [] ⟨n.Bufs.map (pA mem),0,0⟩ rfl
variable {n:Ns}
def like_same {m:Ns} (hv:(bL n).2=0) (h:LikeN n m) (mem:List Nmd) (h1:¬(rnN n mem 20000).2.2=14) (h2:¬(rnN m mem 60000).2.2=14):(rnN n mem 20000).2.2=(rnN m mem 60000).2.2/\(rnN n mem 20000).1=(rnN m mem 60000).1:=by
  have hf:¬((20000:Int)<0∨(1048576:Int)<20000):=by decide
  have hf2:¬((60000:Int)<0∨(1048576:Int)<60000):=by decide
  by_cases h3:lP mem n.Bufs=0
  · have h3':lP mem m.Bufs=0:=by rw [h.bufs];exact h3
    have eA:¬(nV n mem 20000).E=14:=fun c=>by rw [run_4 hv hf h3 (by rw [c];decide)] at h1;exact h1 c
    have eB:¬(nV m mem 60000).E=14:=fun c=>by rw [run_4 h.val hf2 h3' (by rw [c];decide)] at h2;exact h2 c
    have gA:=(end_go n mem 20000).resolve_left eA
    have gB:=(end_go m mem 60000).resolve_left eB
    rw [h.run,h.bufs,←gA] at gB
    have e1:(nV m mem 60000).Mem=(nV n mem 20000).Mem:=ag Gs.Mem gB
    have e2:(nV m mem 60000).E=(nV n mem 20000).E:=ag Gs.E gB
    by_cases c:(nV n mem 20000).E=0
    · rw [run_0 hv hf h3 c,run_0 h.val hf2 h3' (by rw [e2];exact c)]
      exact ⟨O,e1.symm⟩
    · rw [run_4 hv hf h3 c,run_4 h.val hf2 h3' (by rw [e2];exact c)]
      exact ⟨e2.symm,O⟩
  · rw [run_3 hv hf h3,run_3 h.val hf2 (by rw [h.bufs];exact h3),h.bufs]
    exact ⟨O,O⟩
/-! ## A found loop -/
structure LocN (n:Ns) (loop:lr) (w:List Int) (s:St):Prop where
  val:(bL n).2=0
  fnd:(jC n.Body loop).isSome=true
  way:jK n loop=w
  ne:w≠[]
  atF:atF w n.Body zSt=(s,true)
  atT:atT n.Body w=(s,true)
  loc:(gH n loop).2.1=s
  op:s.Op=1
  nm:s.Name=loop
  nmB:bB loop=true
  m1:1<=s.Many
  m2:s.Many<=65536
variable {loop:lr}
def loc_is (h0:gO n loop=0):∃w s,LocN n loop w s:=by
  have hv:(bL n).2=0:=by
    by_cases c:(bL n).2=0
    · exact c
    · unfold gO at h0;rw [aa c] at h0;exact h0
  have hf:(jC n.Body loop).isSome=true:=by
    cases c:(jC n.Body loop).isSome with
    |true=>rfl
    |false=>unfold gO at h0;rw [ab hv,c] at h0;exact absurd h0 zB
  have hl:(gH n loop).2.1=(Br.atT n.Body (jK n loop)).1:=by unfold gH;rw [ab h0]
  obtain ⟨q1,q2,q3,q4,q5,q6,q7,q8,q9,q10⟩:=found_loop hv hf
  obtain ⟨w,hw⟩:=fa.1 hf
  have ew:jK n loop=w:=by unfold jK;rw [hw];rfl
  rw [ew] at hl q1 q2 q3 q6 q7
  have hne:w≠[]:=findN_ne hw
  have hat:Br.atT n.Body w=Br.atF w n.Body zSt:=by unfold Br.atT;rw [aa hne]
  exact ⟨w,(Br.atT n.Body w).1,hv,hf,ew,hne,by rw [←hat];exact kh rfl q1,kh O q1,hl,q2,q3,q5,q6,q7⟩
variable {w:List Int} {s:St}
def fin_like {q:List St} (L:LocN n loop w s) (hn:n.Ok) (hr:bE Lf.rng n.Body) (hq:bE Lf.rng q) (hw:bD n.Body+bD q<=900000) (hX:vF n.Bufs s q) (h:(pL n w q).2=0):LikeN n (pL n w q).1:=by
  have hrep:mQ n w q=⟨n.Bufs,jI w n.Body q⟩:=by unfold mQ;rw [ab (by rw [L.atT])];rfl
  have hfin:(bL (mQ n w q)).2=0:=by
    by_cases c:(bL (mQ n w q)).2=0
    · exact c
    · unfold pL at h;rw [aa c] at h;exact h
  have e:pL n w q=(mQ n w q,0):=by unfold pL;rw [ab hfin]
  rw [e]
  have hwt:=repR_wt (n:=n) (way:=w) (q:=q)
  have hok:=repR_ok (n:=n) (way:=w) (q:=q) hn zA
  refine ⟨hok,by show bD (mQ n w q).Body<=_;omega,?_,hfin,by rw [hrep],fun t=>?_⟩
  · show bE Lf.rng (mQ n w q).Body
    rw [hrep]
    exact replL_all zrng hr hq
  · show goL (mQ n w q).Body [] t=_
    rw [hrep] at hfin⊢
    exact goL_repl hX w n.Body zSt [] [] [] 0 [] t L.ne L.atF (zGi L.val).2.2.2 (zGi hfin).2.2.2 (fun t ht=>by simp [bP] at ht) (fun t ht=>ht)
variable {P:Lf->Prop}
def loc_all (L:LocN n loop w s) (hz:P ⟨0,[]⟩) (h:bE P n.Body):s.allF P:=by
  have:=atF_allF h (Br.zRo hz) (show (Br.atF w n.Body zSt).2=true by rw [L.atF])
  rw [L.atF] at this
  exact this
def loc_wt (L:LocN n loop w s):s.wt<=bD n.Body+2/\bD s.Body<=bD n.Body+2:=by
  have h1:=locT_wt n loop
  have h2:=locS_wt n loop
  rw [L.loc] at h1 h2
  exact ⟨h2,h1⟩
def sub_all {s:lr} {u:Lf} {b:List St} (h:bE Lf.rng b):bE Lf.rng (gX (fun l=>(bS l s u).1) (fun x=>x) b):=zQo (zEg (fun l k=>zId s k) h)
def sIf_all {e:Ex} {b:List St} (he:e.allF P) (h:bE P b):(sIf e b).allF P:=by
  show (St.mk 4 (bs []) 0 0 0 [] e b).allF P
  rw [St.allF]
  exact ⟨fun x hx=>(by cases hx),he,h⟩
def idxL_all {f:Lf} (h:P f):(nQ f).allF P:=by
  refine zMw (fun l hl=>?_) (fun a ha=>by cases ha)
  unfold dC at hl
  have:l=f:=by simpa [nQ,Ex.Lin,Ex.Idx] using hl
  rw [this];exact h
def ltE_all {f:Lf} {m:Int} (hz:P ⟨0,[]⟩) (h:P f) (hm:P ⟨m,[]⟩):(ltE f m).allF P:=by
  refine zMw (fun l hl=>?_) (fun a ha=>?_)
  · unfold dC at hl
    have:l=⟨0,[]⟩:=by simpa [ltE,Ex.Lin,Ex.Idx] using hl
    rw [this];exact hz
  · have:a=nQ f∨a=nQ ⟨m,[]⟩:=by simpa [ltE,Ex.Args] using ha
    rcases this with rfl|rfl
    · exact idxL_all h
    · exact idxL_all hm
variable {outer:lr}
/-! ## The three laws -/
def split_like {by_:Int} {inner:lr} (hn:n.Ok) (hr:bE Lf.rng n.Body) (hw:bD n.Body<=300) (h:(lG n loop by_ outer inner).2=0):(bL n).2=0/\LikeN n (lG n loop by_ outer inner).1:=by
  have h0:gO n loop=0:=by
    by_cases c:gO n loop=0
    · exact c
    · unfold lG at h;rw [aa c] at h;exact h
  obtain ⟨w,s,L⟩:=loc_is h0
  have hspl:lG n loop by_ outer inner=if nZ n s loop by_ outer inner=0 then pL n w [rP s by_ outer inner (gE by_ outer inner) (jU (sbT loop (gE by_ outer inner) s.Body))] else (zNs,nZ n s loop by_ outer inner):=by
    unfold lG;rw [ab h0,L.loc,L.way]
  have hs:nZ n s loop by_ outer inner=0:=by
    by_cases c:nZ n s loop by_ outer inner=0
    · exact c
    · rw [hspl,aa c] at h;exact h
  rw [ab hs] at hspl
  have k1:¬(by_<1∨s.Many<by_):=fun c=>by unfold nZ at hs;rw [ab c] at hs;exact absurd hs zB
  have k2:¬(!bB outer|| !bB inner)=true:=fun c=>by unfold nZ at hs;rw [aa k1,ab c] at hs;exact absurd hs zB
  have k3:¬cN n loop outer inner=true:=fun c=>by unfold nZ at hs;rw [aa k1,aa k2,ab c] at hs;exact absurd hs zB
  have k4:jV (sbT loop (gE by_ outer inner) s.Body)=0:=by unfold nZ at hs;rwa [aa k1,aa k2,aa k3] at hs
  have ho:bB outer=true:=by revert k2;cases bB outer<;>simp
  have hi:bB inner=true:=by revert k2;cases bB inner<;>simp
  obtain ⟨b1,hb1⟩:=mSts_0 (f:=sbF loop (gE by_ outer inner)) (g:=fun x=>x) (l:=s.Body) k4
  have hb1':sbT loop (gE by_ outer inner) s.Body=.ok b1:=hb1
  rw [hspl] at h⊢
  have hfr:=formT_rng by_ outer inner
  have hw1:=splS_wt s by_ outer inner (gE by_ outer inner) (jU (sbT loop (gE by_ outer inner) s.Body))
  have hw2:=zWs (s:=loop) (u:=gE by_ outer inner) (l:=s.Body) zA
  have hw3:=(loc_wt L).2
  rw [hb1'] at h hw1 hw2⊢
  have eo:jU (.ok b1)=b1:=rfl
  rw [eo] at h hw1 hw2⊢
  have hA:=(St.allF_eq (loc_all L zrng hr)).2.2
  have hbr:bE Lf.rng b1:=by rw [(zNk hb1').1];exact sub_all hA
  have m1:=L.m1
  have m2:=L.m2
  refine ⟨L.val,fin_like L hn hr (zXj (zUx zrng (zXj (zUx zrng ?_)))) zA (alike_split L.op L.nm L.nmB ho hi zA zA L.m2 hb1') h⟩
  unfold vH
  split
  · exact hbr
  · exact zXj (sIf_all (ltE_all zrng hfr.1 ⟨by show r64 s.Many;unfold r64;omega,fun m hm=>by cases hm⟩) hbr)
def peel_like {many:Int} {rest:lr} (hn:n.Ok) (hr:bE Lf.rng n.Body) (hw:bD n.Body<=300) (h:(mV n loop many rest).2=0):(bL n).2=0/\LikeN n (mV n loop many rest).1:=by
  have h0:gO n loop=0:=by
    by_cases c:gO n loop=0
    · exact c
    · unfold mV at h;rw [aa c] at h;exact h
  obtain ⟨w,s,L⟩:=loc_is h0
  have hspl:mV n loop many rest=if lC n s loop many rest=0 then pL n w [sK s many,gQ rest (w64 (s.Many-many)) s.Mark (jU (sbT loop (jZ many rest) s.Body))] else (zNs,lC n s loop many rest):=by
    unfold mV;rw [ab h0,L.loc,L.way]
  have hs:lC n s loop many rest=0:=by
    by_cases c:lC n s loop many rest=0
    · exact c
    · rw [hspl,aa c] at h;exact h
  rw [ab hs] at hspl
  have k0:bG s.Body=[]:=by
    by_cases c:bG s.Body=[]
    · exact c
    · unfold lC at hs;rw [aa c] at hs;exact absurd hs zB
  have k1:¬(many<1∨s.Many<=many):=fun c=>by unfold lC at hs;rw [ab k0,ab c] at hs;exact absurd hs zB
  have k2:¬bB rest=false:=fun c=>by unfold lC at hs;rw [ab k0,aa k1,ab c] at hs;exact absurd hs zB
  have k3:¬nS n rest=true:=fun c=>by unfold lC at hs;rw [ab k0,aa k1,aa k2,ab c] at hs;exact absurd hs zB
  have k4:jV (sbT loop (jZ many rest) s.Body)=0:=by unfold lC at hs;rwa [ab k0,aa k1,aa k2,aa k3] at hs
  have ho:bB rest=true:=by revert k2;cases bB rest<;>simp
  obtain ⟨b1,hb1⟩:=mSts_0 (f:=sbF loop (jZ many rest)) (g:=fun x=>x) (l:=s.Body) k4
  have hb1':sbT loop (jZ many rest) s.Body=.ok b1:=hb1
  rw [hspl] at h⊢
  have hfr:=peelF_rng many rest
  have hw1:=peelS_wt s many (w64 (s.Many-many)) rest (jU (sbT loop (jZ many rest) s.Body))
  have hw2:=zWs (s:=loop) (u:=jZ many rest) (l:=s.Body) zA
  have hw3:=loc_wt L
  rw [hb1'] at h hw1 hw2⊢
  have eo:jU (.ok b1)=b1:=rfl
  rw [eo] at h hw1 hw2⊢
  have hA:=loc_all L zrng hr
  have hbr:bE Lf.rng b1:=by rw [(zNk hb1').1];exact sub_all (St.allF_eq hA).2.2
  have m1:=L.m1
  have m2:=L.m2
  have hcut:(sK s many).allF Lf.rng:=by
    obtain ⟨a1,a2,a3⟩:=St.allF_eq hA
    show (St.mk s.Op s.Name many s.Mark s.Fold s.Idx s.E s.Body).allF Lf.rng
    rw [St.allF];exact ⟨a1,a2,a3⟩
  refine ⟨L.val,fin_like L hn hr ?_ zA (alike_peel L.op L.nm L.nmB ho zA zA L.m2 k0 hb1') h⟩
  rw [bE]
  exact ⟨hcut,zXj (zUx zrng hbr)⟩
def ixEv_un {f:Lf->Bool} {i:List Ix} (h:mS f i=true):gK (fun l=>f l=true) i:=fun x hx=>by
  have:=ax.1 h x hx
  rw [ae] at this
  exact ⟨this.1,fun l hl=>ax.1 this.2 l hl⟩
def exEv_un {f:Lf->Bool} {e:Ex} (h:cM f e=true):e.allF (fun l=>f l=true):=fun x hx l hl=>by
  have:=ax.1 h x hx
  rw [←forms_all] at this
  exact ax.1 this l hl
mutual
def evS_un {f:Lf->Bool}:∀{s:St},evS f s=true->s.allF (fun l=>f l=true)
  |.mk o nm mn mk fo i e b,h=>by
    rw [evS,ae,ae] at h
    rw [St.allF]
    exact ⟨ixEv_un h.1.1,exEv_un h.2,evL_un h.1.2⟩
def evL_un {f:Lf->Bool}:∀{l:List St},evL f l=true->bE (fun l=>f l=true) l
  |[],_=>by rw [bE];trivial
  |s::r,h=>by
    rw [evL,ae] at h
    rw [bE]
    exact ⟨evS_un h.1,evL_un h.2⟩
end
def lin_co {inn:lr} {M:Int} {l:Lf} (hl:l.rng) (hM:1<=M) (h:tL outer inn M l=true):bF l.L outer=bF l.L inn*M:=by
  unfold tL at h
  rw [ae,ah,ah] at h
  obtain ⟨h1,h2⟩:=h
  have hc:=zZn (p:=none) hl.2 outer
  have e:=Int.mul_tdiv_add_tmod (bF l.L outer) M
  rw [h1,eh] at e
  obtain ⟨d,hd⟩:∃d,Int.tdiv (bF l.L outer) M=d:=⟨_,rfl⟩
  rw [hd] at e h2
  have hr:r64 d:=by
    unfold r64 at hc⊢
    rw [←e] at hc
    by_cases c:0<=d
    · have:=Int.mul_le_mul_of_nonneg_right hM c;omega
    · have:=Int.mul_le_mul_of_nonneg_right hM (show 0<= -d by omega)
      have e9:M* -d= -(M*d):=Int.mul_neg _ _
      omega
  rw [zIb hr] at h2
  rw [←h2,←e,Int.mul_comm]
def col_like {nm:lr} (hn:n.Ok) (hr:bE Lf.rng n.Body) (hw:bD n.Body<=300) (h:(rK n outer nm).2=0):(bL n).2=0/\LikeN n (rK n outer nm).1:=by
  have h0:gO n outer=0:=by
    by_cases c:gO n outer=0
    · exact c
    · unfold rK at h;rw [aa c] at h;exact h
  obtain ⟨w,s,L⟩:=loc_is h0
  have hspl:rK n outer nm=if nR n s outer nm=0 then pL n w [tX s outer nm] else (zNs,nR n s outer nm):=by
    unfold rK;rw [ab h0,L.loc,L.way]
  have hs:nR n s outer nm=0:=by
    by_cases c:nR n s outer nm=0
    · exact c
    · rw [hspl,aa c] at h;exact h
  rw [ab hs] at hspl
  obtain ⟨inn,hi0⟩:∃inn,s.Body.getD 0 zSt=inn:=⟨_,rfl⟩
  unfold nR at hs
  rw [hi0] at hs
  have k0:s.Body.length=1/\inn.Op=1:=by
    by_cases c:s.Body.length=1/\inn.Op=1
    · exact c
    · rw [aa c] at hs;exact absurd hs zB
  rw [ab k0] at hs
  have k1:¬bB nm=false:=fun c=>by rw [ab c] at hs;exact absurd hs zB
  rw [aa k1] at hs
  have k2:¬((!decide (nm=outer)&& !decide (nm=inn.Name))&&nS n nm)=true:=fun c=>by rw [ab c] at hs;exact absurd hs zB
  rw [aa k2] at hs
  have k3:¬w64 (Int.tdiv 65536 inn.Many)<s.Many:=fun c=>by rw [ab c] at hs;exact absurd hs zB
  rw [aa k3] at hs
  have k4:¬evL (tL outer inn.Name inn.Many) inn.Body=false:=fun c=>by rw [ab c] at hs;exact absurd hs zB
  have hnm:bB nm=true:=by revert k1;cases bB nm<;>simp
  have hb:=one_body k0.1 hi0
  have hall3:=zEw (zZy (zPb L.val) (show (Br.atT n.Body w).2=true by rw [L.atT]))
  rw [L.atT] at hall3
  obtain ⟨Ui,sci,hin⟩:∃U sc,stE n.Bufs U sc inn=0:=(zEw (zDo hall3.2 inn (by rw [hb];simp))).1
  obtain ⟨i1,i2,i3,i4,_⟩:=zNb hin k0.2
  have hnot:nm≠outer->nm≠inn.Name->nS n nm=false:=fun c1 c2=>by
    rw [aB c1,aB c2] at k2;simpa using k2
  have hall:bE (ColF outer inn.Name nm) n.Body:=
    zEg (fun l k=>⟨k.1.1,k.1.2,fun c1 c2=>coeff_out k.2 (takN_no (hnot c1 c2))⟩) (zHd _ (zHd _ (chkL_lin n.Body [] [] [] 0 (zGi L.val).2.2.2) hr) (valid_sc L.val))
  have hsA:=loc_all L (P:=ColF outer inn.Name nm) ⟨rfl,zrng,fun _ _=>rfl⟩ hall
  have hiA:inn.allF (ColF outer inn.Name nm):=kR (St.allF_eq hsA).2.2 inn (by rw [hb];simp)
  have hbA:=(St.allF_eq hiA).2.2
  obtain ⟨b1,t1,t2⟩:=col_body L.nmB i1 hnm hbA
  have hP:bE (fun l=>ColF outer inn.Name nm l/\bF l.L outer=bF l.L inn.Name*inn.Many) inn.Body:=
    zEg (fun l k=>⟨k.1,lin_co k.1.rng i3 k.2⟩) (zHd _ hbA (evL_un (by revert k4;cases evL (tL outer inn.Name inn.Many) inn.Body<;>simp)))
  obtain ⟨p1,p2,p3⟩:=prod_le L.m1 i3 i4 k3
  have eX:tX s outer nm=gQ nm (s.Many*inn.Many) s.Mark (gX (tY outer inn.Name nm) (fun x=>x) inn.Body):=by
    unfold tX
    rw [hi0,t1]
    show gQ nm (w64 (s.Many*inn.Many)) s.Mark (jU (sbT inn.Name (fY nm) b1))=_
    rw [t2,p3];rfl
  have hw0:=colS_wt hi0 outer nm
  have hw1:=zWs (s:=inn.Name) (u:=fY nm) (l:=jU (sbT outer ⟨0,[]⟩ inn.Body)) (by have:=(zHg nm).2;omega)
  have hw2:=zWs (s:=outer) (u:=⟨0,[]⟩) (l:=inn.Body) (by show 0<=20;omega)
  have hw3:=(loc_wt L).2
  rw [hb] at hw3
  have hw4:bD inn.Body<=bD [inn]:=by
    have h8:=St.body_wt inn
    have h9:=yS (show inn∈[inn] by simp)
    omega
  rw [hspl] at h⊢
  refine ⟨L.val,fin_like L hn hr ?_ zA ?_ h⟩
  · rw [eX]
    exact zXj (zUx zrng (zQo (zEg (fun l k=>zId inn.Name (zId outer k.rng)) hbA)))
  · rw [eX]
    exact alike_col L.op L.nm hb k0.2 L.nmB i1 hnm L.m1 i3 hP
end Go.W
end
