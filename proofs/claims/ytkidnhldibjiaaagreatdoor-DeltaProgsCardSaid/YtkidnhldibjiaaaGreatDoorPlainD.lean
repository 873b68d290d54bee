/-
  Layer 22 over whole programs,in plain Lean: both ways to go through the definitions.
  Types of expressions whose forms are exchanged.
  Names of substituted forms,of the form that a condition gives.
  A definition without one of its axes has the type that it had.
  What layer 22 makes of a valid program is valid.
  What layer 22 makes of a valid program is valid: definition by definition.
  What layer 22 makes of a valid program is valid: the whole program.
  How many monomials the forms of a valid definition have.
  Weights by the number of forms.
  How the count grows by a step of layer 22.
  Layer 22 over whole programs: what stays small on the way.
  Conditions: none.
-/
import Derived.Test.YtkidnhldibjiaaaGreatDoorPlain2
import Derived.Test.YtkidnhldibjiaaaGreatDoorPlain3
set_option linter.unusedSimpArgs false
set_option linter.unusedVariables false
section
namespace Go.Br
open Go Go.Eng Go.L41
theorem cut_len {α:Type} {l:List α} {n:Nat} (h:n<l.length):(l.take n++l.drop (n+1)).length+1=l.length:=by
 rw [List.length_append,List.length_take,List.length_drop];omega
theorem idxOf_lt {α:Type} {p:α->Bool}:∀{l:List α},0<=dI p l->(dI p l).toNat<l.length
 |[],h=>by rw [dI] at h;omega
 |x::r,h=>by
  rw [dI] at h⊢
  cases c:p x with
  |true=>simp
  |false=>
   rw [c,cond_false] at h
   rw [cond_false]
   by_cases c2:dI p r= -1
   ·rw [decide_eq_true c2,cond_true] at h;omega
   ·rw [decide_eq_false c2,cond_false] at h⊢
    have h1:=zPg p r
    have:=idxOf_lt (p:=p) (l:=r) (by omega)
    rw [List.length_cons];omega
theorem chain_red {d x:Df} {s:ByteArray} (h:dN d s=some x):x.Red.length+1=d.Red.length:=by
 unfold dN at h
 split at h
 ·next c=>
  have hn:(axN s d.Red).toNat<d.Red.length:=idxOf_lt c.2.1
  unfold nW at h
  split at h
  ·cases h
  ·rw [Option.map_eq_some_iff] at h
   obtain ⟨w,_,rfl⟩:=h
   exact cut_len hn
 ·cases h
theorem dfD_red {d:Df} {s:ByteArray} (h:(dfD d s).2=true):(dfD d s).1.Red.length+1=d.Red.length:=by
 unfold dfD at h⊢
 cases c:dN d s with
 |none=>rw [c] at h;cases h
 |some x=>
  rw [c] at h
  simp only at h⊢
  by_cases hv:bP x.Body=0
  ·rw [if_pos hv];exact chain_red c
  ·rw [if_neg hv] at h;cases h
/-! ## A definition as far as it goes -/
def nN (d:Df):List Ax->Option Df
 |[]=>none
 |a::r=>if (dfD d a.Name).2=true then some (dfD d a.Name).1 else nN d r
def jS (d:Df):Option Df:=nN d d.Red
theorem tryA_yes {d:Df} {l:List Ax} {k:Nat} {a:Ax} {R:Option Df} (h:l[k]? =some a) (hp:R=nN d (l.drop k)) (c:(dfD d a.Name).2=true):R=some (dfD d a.Name).1:=by
 rw [hp,qR h,nN,if_pos c]
theorem tryA_no {d:Df} {l:List Ax} {k:Nat} {a:Ax} {R:Option Df} (h:l[k]? =some a) (hp:R=nN d (l.drop k)) (c:(dfD d a.Name).2=false):R=nN d (l.drop (k+1)):=by
 rw [hp,qR h,nN,if_neg (by rw [c];simp)]
theorem tryA_end {d:Df} {l:List Ax} {k:Nat} {R:Option Df} (hp:R=nN d (l.drop k)) (c:¬k<l.length):R=none:=by
 rw [hp,wB c,nN]
theorem tryA_is {d x:Df}:∀{l:List Ax},nN d l=some x->∃a,a∈l/\(dfD d a.Name).2=true/\x=(dfD d a.Name).1
 |[],h=>by rw [nN] at h;cases h
 |a::r,h=>by
  rw [nN] at h
  by_cases c:(dfD d a.Name).2=true
  ·rw [if_pos c] at h;injection h with h;exact ⟨a,by simp,c,h.symm⟩
  ·rw [if_neg c] at h
   obtain ⟨b,hb,h1⟩:=tryA_is h
   exact ⟨b,by simp [hb],h1⟩
theorem tryD_red {d x:Df} (h:jS d=some x):x.Red.length+1=d.Red.length:=by
 obtain ⟨a,_,h1,rfl⟩:=tryA_is h
 exact dfD_red h1
def clo:Nat->Df->Df×Nat
 |0,d=>(d,0)
 |k+1,d=>match jS d with
  |none=>(d,0)
  |some x=>((clo k x).1,(clo k x).2+1)
def clD (d:Df):Df×Nat:=clo d.Red.length d
theorem clD_none {d:Df} (h:jS d=none):clD d=(d,0):=by
 unfold clD
 cases d.Red.length with
 |zero=>rfl
 |succ k=>rw [clo,h]
theorem clD_some {d x:Df} (h:jS d=some x):clD d=((clD x).1,(clD x).2+1):=by
 unfold clD
 rw [←tryD_red h,clo,h]
theorem clo_done:∀(k:Nat) (d:Df),d.Red.length<=k->jS (clo k d).1=none
 |0,d,h=>by
  rw [clo]
  cases c:jS d with
  |none=>rfl
  |some x=>have:=tryD_red c;omega
 |k+1,d,h=>by
  rw [clo]
  cases c:jS d with
  |none=>exact c
  |some x=>exact clo_done k x (by have:=tryD_red c;omega)
theorem clD_done (d:Df):jS (clD d).1=none:=clo_done _ d (Nat.le_refl _)
/-! ## All definitions -/
def jP (L:List Df):Nat:=(L.map fun d=>(clD d).2).sum
def jQ (L:List Df):List Df:=L.map fun d=>(clD d).1
theorem set_cls {L:List Df} {i:Nat} {d x:Df} (h:L[i]? =some d) (ht:jS d=some x):jQ (L.set i x)=jQ L/\jP (L.set i x)+1=jP L:=by
 unfold jQ jP
 induction L generalizing i with
 |nil=>cases h
 |cons y r ih=>
  cases i with
  |zero=>
   simp only [List.getElem?_cons_zero,Option.some.injEq] at h
   subst h
   rw [List.set_cons_zero,List.map_cons,List.map_cons,List.map_cons,List.map_cons,List.sum_cons,List.sum_cons,clD_some ht]
   exact ⟨rfl,by omega⟩
  |succ i=>
   obtain ⟨h1,h2⟩:=ih (by simpa using h)
   rw [List.set_cons_succ,List.map_cons,List.map_cons,List.map_cons,List.map_cons,List.sum_cons,List.sum_cons,h1]
   exact ⟨rfl,by omega⟩
theorem end_cls {L:List Df} (h:∀d,d∈L->jS d=none):jQ L=L/\jP L=0:=by
 unfold jQ jP
 induction L with
 |nil=>exact ⟨rfl,rfl⟩
 |cons y r ih=>
  obtain ⟨h1,h2⟩:=ih fun d hd=>h d (by simp [hd])
  rw [List.map_cons,List.map_cons,List.sum_cons,h1,h2,clD_none (h y (by simp))]
  exact ⟨rfl,rfl⟩
theorem cls_done (L:List Df):jQ (jQ L)=jQ L/\jP (jQ L)=0:=end_cls fun d hd=>by
 obtain ⟨x,_,rfl⟩:=List.mem_map.1 hd
 exact clD_done x
def gN (p:Pg):Pg×Nat:=if (dR p).2=0 then (⟨p.Sizes,p.Where,p.Params,jQ p.Defs,p.Outs⟩,jP p.Defs) else (p,0)
theorem delP_twice {p:Pg} (h:(dR p).2=0) (h2:(dR (gN p).1).2=0):gN (gN p).1=((gN p).1,0):=by
 have e:(gN p).1=⟨p.Sizes,p.Where,p.Params,jQ p.Defs,p.Outs⟩:=by unfold gN;rw [if_pos h]
 rw [e] at h2⊢
 conv=>lhs;unfold gN
 rw [if_pos h2]
 show ((⟨p.Sizes,p.Where,p.Params,jQ (jQ p.Defs),p.Outs⟩:Pg),jP (jQ p.Defs))=_
 rw [(cls_done p.Defs).1,(cls_done p.Defs).2]
end Go.Br
end
section
namespace Go.Br
open Go Go.Eng Go.L41
section
variable {n:En} {k k':ByteArray->Bool} {g:Lf->Lf} {P:Lf->Prop}
theorem zLq {l:Lf} (h:knL k l.L=true):jI k l=0:=by unfold jI;rw [h];rfl
theorem formsK_yes {l:List Lf} (h:∀x,x∈l->knL k x.L=true):gW k l=0:=by
 unfold gW;rw [List.all_eq_true.2 h];rfl
theorem indexK_map (hk:∀l,P l->knL k l.L=true->knL k' (g l).L=true) {x:Ix} (h1:P x.Lin) (h2:∀l,l∈x.At->P l) (h:dD n k x=0):dD n k' (gIx g x)=0:=by
 unfold dD at h⊢
 show (bif decide (x.From=bs []) then jI k' (g x.Lin) else bif !(n.find x.From).ok then 9 else bif !decide ((n.find x.From).ty.Kind=3) then 10 else bif !decide ((x.At.map g).length=(n.find x.From).dims.length) then 11 else gW k' (x.At.map g))=0
 rw [List.length_map]
 by_cases c:x.From=bs []
 ·rw [decide_eq_true c,cond_true] at h⊢
  exact zLq (hk _ h1 (zIr h))
 ·rw [decide_eq_false c,cond_false] at h⊢
  cases c1:(n.find x.From).ok with
  |false=>rw [c1] at h;cases h
  |true=>
   rw [c1,Bool.not_true,cond_false] at h
   rw [Bool.not_true,cond_false]
   by_cases c2:(n.find x.From).ty.Kind=3
   ·rw [decide_eq_true c2,Bool.not_true,cond_false] at h⊢
    by_cases c3:x.At.length=(n.find x.From).dims.length
    ·rw [decide_eq_true c3,Bool.not_true,cond_false] at h⊢
     refine formsK_yes fun y hy=>?_
     obtain ⟨l,hl,rfl⟩:=List.mem_map.1 hy
     exact hk _ (h2 l hl) (formsK_of h l hl)
    ·rw [decide_eq_false c3,Bool.not_false,cond_true] at h;cases h
   ·rw [decide_eq_false c2,Bool.not_false,cond_true] at h;cases h
theorem indexL_yes:∀l:List Ix,(∀x,x∈l->dD n k x=0)->dU n k l=0
 |[],_=>by rw [dU]
 |x::r,h=>by rw [dU,decide_eq_true (h x (by simp)),cond_true];exact indexL_yes r fun y hy=>h y (by simp [hy])
theorem readK_map (hk:∀l,P l->knL k l.L=true->knL k' (g l).L=true) {e:Ex} (h1:∀x,x∈e.Idx->P x.Lin/\∀l,l∈x.At->P l) (h:(gF n k e).2=0):gF n k' (gEx g e)=gF n k e:=by
 obtain ⟨h2,h3,h4⟩:=readK_of h
 have h5:dU n k' (e.Idx.map (gIx g))=0:=indexL_yes _ fun y hy=>by
  obtain ⟨x,hx,rfl⟩:=List.mem_map.1 hy
  exact indexK_map hk (h1 x hx).1 (h1 x hx).2 (zKa _ h4 x hx)
 rw [zMu h2 h3 h4]
 rw [zOd]
 exact zMu (e:=.mk e.Op e.Name e.Val e.Ty (g e.Lin) (e.Idx.map (gIx g)) (e.Args.map (gEx g))) h2 (by show (e.Idx.map _).length=_;rw [List.length_map];exact h3) h5
theorem ofN_map (hk:∀l,P l->knL k l.L=true->knL k' (g l).L=true) {e:Ex} {tys:List Ty} (h0:P e.Lin) (h1:∀x,x∈e.Idx->P x.Lin/\∀l,l∈x.At->P l) (h:(ofN n k e tys).2=0):ofN n k' (gEx g e) tys=ofN n k e tys:=by
 have hop:(gEx g e).Op=e.Op:=by rw [zOd];rfl
 have hty:(gEx g e).Ty=e.Ty:=by rw [zOd];rfl
 have hln:(gEx g e).Lin=g e.Lin:=by rw [zOd];rfl
 by_cases c1:e.Op=1∨e.Op=12
 ·unfold ofN;rw [hop,if_pos c1,if_pos c1,hty]
 ·by_cases c2:e.Op=2
  ·unfold ofN at h⊢
   rw [if_neg c1,if_pos c2] at h
   rw [hop,if_neg c1,if_neg c1,if_pos c2,if_pos c2,hln,zLq (hk _ h0 (zIr h)),zLq (zIr h)]
  ·by_cases c3:e.Op=3
   ·unfold ofN at h⊢
    rw [if_neg c1,if_neg c2,if_pos c3] at h
    rw [hop,if_neg c1,if_neg c1,if_neg c2,if_neg c2,if_pos c3,if_pos c3]
    exact readK_map hk h1 h
   ·unfold ofN
    rw [hop,if_neg c1,if_neg c1,if_neg c2,if_neg c2,if_neg c3,if_neg c3]
theorem nodeL_map:∀l:List Ex,(∀a,a∈l->(bE (ofN n k) a).2=0->bE (ofN n k') (gEx g a)=bE (ofN n k) a)->(bF (ofN n k) l).2=0->bF (ofN n k') (l.map (gEx g))=bF (ofN n k) l
 |[],_,_=>rfl
 |a::r,h,h2=>by
  obtain ⟨h3,h4,_⟩:=zGd h2
  rw [List.map_cons,bF,bF,h a (by simp) h3,nodeL_map r (fun b hb=>h b (by simp [hb])) h4]
theorem nodeT_map (hk:∀l,P l->knL k l.L=true->knL k' (g l).L=true) (e:Ex):e.allF P->(bE (ofN n k) e).2=0->bE (ofN n k') (gEx g e)=bE (ofN n k) e:=by
 induction e using Ex.ind with
 |_ e ih=>
  intro hP h
  obtain ⟨h1,h2⟩:=zEj h
  have h3:=nodeL_map (n:=n) (k:=k) (k':=k') (g:=g) e.Args (fun a ha=>ih a ha (Ex.allF_arg hP ha)) h1
  have ha:(gEx g e).Args=e.Args.map (gEx g):=by rw [zOd];rfl
  rw [zEa,ha,h3,if_pos h1,h2]
  rw [h2] at h
  exact ofN_map hk (Ex.allF_lin hP) (fun x hx=>⟨Ex.allF_ix hP hx,fun l hl=>Ex.allF_at hP hx hl⟩) h
end
end Go.Br
end
section
namespace Go.Br
open Go Go.Eng Go.L41
theorem zIm:∀(a b:List Mono) (t:Tr),t∈bH a b->(∃m,m∈a/\m.Name=t.1)∨∃m,m∈b/\m.Name=t.1
 |[],[],t,h=>by rw [zNh] at h;cases h
 |a::ar,[],t,h=>by
  rw [zLi] at h
  rcases List.mem_cons.1 h with rfl|h
  ·exact .inl ⟨a,by simp,rfl⟩
  ·rcases zIm ar [] t h with ⟨m,hm,e⟩|⟨m,hm,e⟩
   ·exact .inl ⟨m,by simp [hm],e⟩
   ·cases hm
 |[],b::br,t,h=>by
  rw [zLh] at h
  rcases List.mem_cons.1 h with rfl|h
  ·exact .inr ⟨b,by simp,rfl⟩
  ·rcases zIm [] br t h with ⟨m,hm,e⟩|⟨m,hm,e⟩
   ·cases hm
   ·exact .inr ⟨m,by simp [hm],e⟩
 |a::ar,b::br,t,h=>by
  rw [zEb] at h
  cases c:bY a.Name b.Name with
  |true=>
   rw [c,cond_true] at h
   rcases List.mem_cons.1 h with rfl|h
   ·exact .inl ⟨a,by simp,rfl⟩
   ·rcases zIm ar (b::br) t h with ⟨m,hm,e⟩|h
    ·exact .inl ⟨m,by simp [hm],e⟩
    ·exact .inr h
  |false=>
   rw [c,cond_false] at h
   cases c2:bY b.Name a.Name with
   |true=>
    rw [c2,cond_true] at h
    rcases List.mem_cons.1 h with rfl|h
    ·exact .inr ⟨b,by simp,rfl⟩
    ·rcases zIm (a::ar) br t h with h|⟨m,hm,e⟩
     ·exact .inl h
     ·exact .inr ⟨m,by simp [hm],e⟩
   |false=>
    rw [c2,cond_false] at h
    rcases List.mem_cons.1 h with rfl|h
    ·exact .inl ⟨a,by simp,rfl⟩
    ·rcases zIm ar br t h with ⟨m,hm,e⟩|⟨m,hm,e⟩
     ·exact .inl ⟨m,by simp [hm],e⟩
     ·exact .inr ⟨m,by simp [hm],e⟩
termination_by a b=>a.length+b.length
theorem addT_names {k:Int} {ts:List Tr} {m:Mono} (h:m∈(mZ k ts).1.L):∃t,t∈ts/\t.1=m.Name:=by
 unfold mZ at h
 split at h
 ·have h:m∈mK ts:=h
  unfold mK at h
  obtain ⟨t,ht,e⟩:=List.mem_filterMap.1 h
  split at e
  ·cases e
  ·injection e with e;exact ⟨t,ht,by rw [←e]⟩
 ·cases h
theorem sub_names {l tt:Lf} {s:ByteArray} (hs:bU l.L s=0->∀m,m∈l.L->m.Name≠s) {m:Mono} (h:m∈(bO l s tt).1.L):(∃x,x∈l.L/\x.Name=m.Name/\x.Name≠s)∨∃x,x∈tt.L/\x.Name=m.Name:=by
 unfold bO at h
 split at h
 ·split at h
  ·next c=>exact .inl ⟨m,h,rfl,hs c m h⟩
  ·split at h
   ·obtain ⟨t,ht,e⟩:=addT_names h
    unfold mN at ht
    obtain ⟨u,hu,rfl⟩:=List.mem_map.1 ht
    rcases zIm _ _ u hu with ⟨x,hx,e2⟩|⟨x,hx,e2⟩
    ·have h3:=List.mem_filter.1 hx
     exact .inl ⟨x,h3.1,by rw [e2];exact e,by simpa using h3.2⟩
    ·exact .inr ⟨x,hx,by rw [e2];exact e⟩
   ·cases h
 ·cases h
theorem solve_names {c:Ex} {s:ByteArray}:(∀m,m∈(bX c s).1.L->m.Name≠s)/\((bX c s).1=zL∨(∃i,i<2/\((bT c i).Op=2/\(bX c s).1=(bT c i).Lin))∨(bX c s).1.L=[]):=by
 have key:∀b:Ex,(∀m,m∈(lE b s).1.L->m.Name≠s)/\((lE b s).1=zL∨(b.Op=2/\(lE b s).1=b.Lin)∨(lE b s).1.L=[]):=by
  intro b
  unfold lE
  cases c1:(!(dJ b).2||gM (dJ b).1.L s) with
  |true=>rw [cond_true];exact ⟨fun m hm=>(by cases hm),.inl rfl⟩
  |false=>
   rw [cond_false]
   rw [Bool.or_eq_false_iff] at c1
   refine ⟨fun m hm e=>?_,?_⟩
   ·have:gM (dJ b).1.L s=true:=List.any_eq_true.2 ⟨m,hm,by simp [e]⟩
    rw [c1.2] at this;cases this
   ·unfold dJ
    by_cases h:b.Op=2
    ·rw [decide_eq_true h,cond_true];exact .inr (.inl ⟨h,rfl⟩)
    ·rw [decide_eq_false h,cond_false]
     by_cases h2:(decide (b.Op=1)&&decide (b.Ty.Kind=3))=true
     ·rw [h2,cond_true];exact .inr (.inr rfl)
     ·rw [Bool.not_eq_true] at h2;rw [h2,cond_false];exact .inl rfl
 have hz:(∀m,m∈zL.L->m.Name≠s):=fun m hm=>by cases hm
 unfold bX
 cases (decide (bP c=0)&&decide (c.Op=15)) with
 |false=>exact ⟨hz,.inl rfl⟩
 |true=>
  rw [cond_true]
  unfold fK
  cases bD s with
  |false=>exact ⟨hz,.inl rfl⟩
  |true=>
   rw [cond_true]
   cases isV (bT c 0) s with
   |true=>
    rw [cond_true]
    obtain ⟨h1,h2⟩:=key (bT c 1)
    exact ⟨h1,h2.imp id fun h=>h.imp (fun h=>⟨1,by omega,h⟩) id⟩
   |false=>
    rw [cond_false]
    cases isV (bT c 1) s with
    |true=>
     rw [cond_true]
     obtain ⟨h1,h2⟩:=key (bT c 0)
     exact ⟨h1,h2.imp id fun h=>h.imp (fun h=>⟨0,by omega,h⟩) id⟩
    |false=>exact ⟨hz,.inl rfl⟩
end Go.Br
end
section
namespace Go.Br
open Go Go.Eng Go.L41
theorem nodes_typed {N:Ex->List Ty->Ty×Int} (e:Ex):(bE N e).2=0->∀x,x∈dE e->(bE N x).2=0:=by
 induction e using Ex.ind with
 |_ e ih=>
  intro h x hx
  rw [kZ] at hx
  rcases List.mem_cons.1 hx with rfl|hx
  ·exact h
  ·have h1:=zIl _ (zEj h).1
   have:∀l:List Ex,(∀a,a∈l->a∈e.Args)->x∈bK l->(bE N x).2=0:=by
    intro l
    induction l with
    |nil=>intro _ hx;rw [bK] at hx;cases hx
    |cons a r ihr=>
     intro hl hx
     rw [bK] at hx
     rcases List.mem_append.1 hx with hx|hx
     ·exact ih a (hl a (by simp)) (h1 a (hl a (by simp))) x hx
     ·exact ihr (fun b hb=>hl b (by simp [hb])) hx
   exact this e.Args (fun a ha=>ha) hx
theorem nodeL_two {N:Ex->List Ty->Ty×Int} {a b:Ex} {s t:Ty} (ha:bE N a=(s,0)) (hb:bE N b=(t,0)):bF N [a,b]=([s,t],0):=by
 simp [bF,ha,hb]
theorem nodeL_three {N:Ex->List Ty->Ty×Int} {a b c:Ex} {s t u:Ty} (ha:bE N a=(s,0)) (hb:bE N b=(t,0)) (hc:bE N c=(u,0)):bF N [a,b,c]=([s,t,u],0):=by
 simp [bF,ha,hb,hc]
section
variable {n:En} {k:ByteArray->Bool}
theorem zRt {f:Lf} (h:knL k f.L=true):bE (ofN n k) (gR f)=(iTy,0):=by
 rw [zEa]
 show (if (bF (ofN n k) []).2=0 then ofN n k (gR f) (bF (ofN n k) []).1 else _)=_
 rw [bF,if_pos rfl]
 unfold ofN
 rw [if_neg (by show ¬((2:Int)=1∨(2:Int)=12);omega),if_pos (show (gR f).Op=2 from rfl)]
 show (iTy,jI k f)=_
 rw [zLq h]
theorem cmp_typed {o:Int} {a b:Ex} (ho:o=13∨o=14) (ha:bE (ofN n k) a=(iTy,0)) (hb:bE (ofN n k) b=(iTy,0)):bE (ofN n k) (bV o [a,b])=(zTy,0):=by
 rw [zEa]
 show (if (bF (ofN n k) [a,b]).2=0 then ofN n k (bV o [a,b]) (bF (ofN n k) [a,b]).1 else _)=_
 rw [nodeL_two ha hb,if_pos rfl]
 unfold ofN
 have e:(bV o [a,b]).Op=o:=rfl
 rw [e,if_neg (by omega),if_neg (by omega),if_neg (by omega),if_neg (by omega),if_neg (by omega),if_neg (by omega),if_pos (by omega)]
 simp [fJ,gB]
theorem zPx {z:Ex} (h1:z.Op=1) (h2:z.Args=[]):bE (ofN n k) z=(z.Ty,0):=by
 rw [zEa,h2,bF,if_pos rfl]
 unfold ofN
 rw [if_pos (.inl h1)]
theorem inside_typed {g m:Lf} (hg:knL k g.L=true) (hm:knL k m.L=true):(bE (ofN n k) (dO g m)).2=0:=by
 unfold dO
 have h1:=cmp_typed (n:=n) (k:=k) (o:=14) (.inr rfl) (zPx (z:=zeroE) rfl rfl) (zRt hg)
 have h2:=cmp_typed (n:=n) (k:=k) (o:=13) (.inl rfl) (zRt hg) (zRt hm)
 rw [zEa]
 show (if (bF (ofN n k) [bV 14 [zeroE,gR g],bV 13 [gR g,gR m]]).2=0 then ofN n k (bV 16 [bV 14 [zeroE,gR g],bV 13 [gR g,gR m]]) (bF (ofN n k) [bV 14 [zeroE,gR g],bV 13 [gR g,gR m]]).1 else _).2=0
 rw [nodeL_two h1 h2,if_pos rfl]
 unfold ofN
 have e:(bV 16 [bV 14 [zeroE,gR g],bV 13 [gR g,gR m]]).Op=16:=rfl
 rw [e,if_neg (by omega),if_neg (by omega),if_neg (by omega),if_neg (by omega),if_neg (by omega),if_pos (by omega)]
theorem if_typed {c w z:Ex} {T:Ty} (hc:(bE (ofN n k) c).2=0) (hw:bE (ofN n k) w=(T,0)) (hz:bE (ofN n k) z=(T,0)):bE (ofN n k) (bV 11 [c,w,z])=(T,0):=by
 rw [zEa]
 show (if (bF (ofN n k) [c,w,z]).2=0 then ofN n k (bV 11 [c,w,z]) (bF (ofN n k) [c,w,z]).1 else _)=_
 rw [nodeL_three (s:=(bE (ofN n k) c).1) (by rw [←hc]) hw hz,if_pos rfl]
 unfold ofN
 have e:(bV 11 [c,w,z]).Op=11:=rfl
 rw [e,if_neg (by omega),if_neg (by omega),if_neg (by omega),if_neg (by omega),if_pos rfl]
 simp [fJ,gB]
theorem zMw {f:Lf->Lf×Int} {l:List Ex} {c:Int} {z:Ex} {T:Ty} (hz:bE (ofN n k) z=(T,0)) (hl:∀x,x∈l->∀y,mEx f x=.ok y->(bE (ofN n k) y).2=0):∀(j:Nat) (w w':Ex),j<=l.length->bE (ofN n k) w=(T,0)->jZ f l c z j w=some w'->bE (ofN n k) w'=(T,0)
 |0,w,w',_,hw,h=>by rw [jZ] at h;injection h with h;rw [←h];exact hw
 |j+1,w,w',hj,hw,h=>by
  rw [jZ] at h
  split at h
  ·exact zMw hz hl j w w' (by omega) hw h
  ·cases hm:mEx f (nG l j) with
   |error y=>rw [hm] at h;cases h
   |ok y=>
    rw [hm] at h
    exact zMw hz hl j _ w' (by omega) (if_typed (hl _ (zX (zLn (by omega))) y hm) hw hz) h
end
end Go.Br
end
section
namespace Go.Br
open Go Go.Eng Go.L41
theorem argN_in {e:Ex} {i:Nat} (h:i<e.Args.length):bT e i∈e.Args:=by
 unfold bT
 rw [List.getD_eq_getElem?_getD,List.getElem?_eq_getElem h]
 exact List.getElem_mem h
theorem zNu {e:Ex} (h:bP e=0) (ho:e.Op=11):e.Args=[bT e 0,bT e 1,bT e 2]:=by
 have h1:=(zDl (zGi (wS h) e (by rw [kZ];exact List.mem_cons_self))).2.2.1
 unfold lW at h1
 simp only [Bool.and_eq_true,Bool.not_eq_true',Bool.or_eq_false_iff,Bool.not_eq_false',decide_eq_true_eq] at h1
 have h2:e.Args.length=3:=by
  have:=h1.1.1
  rw [ho] at this
  have h3:bN 11=3:=by decide
  omega
 unfold bT
 match hA:e.Args,h2 with
 |[a,b,c],_=>rfl
theorem args_none {e:Ex} (h:bS e=0) (ho:e.Op=1):e.Args=[]:=by
 have h1:=(zDl h).2.2.1
 unfold lW at h1
 simp only [Bool.and_eq_true,Bool.not_eq_true',Bool.or_eq_false_iff,Bool.not_eq_false',decide_eq_true_eq] at h1
 have:=h1.1.1
 rw [ho] at this
 have h3:bN 1=0:=by decide
 exact List.eq_nil_of_length_eq_zero (by omega)
theorem zPh {e:Ex} (h:(bC e).ok=true):bP e=0/\e.Op=11/\(bT e 2).Op=1/\(bC e).conds=gA (bT e 0)/\(bC e).val=bT e 1:=by
 unfold bC at h⊢
 cases c:(decide (bP e=0)&&decide (e.Op=11)) with
 |false=>rw [c] at h;cases h
 |true=>
  rw [c,cond_true] at h
  rw [cond_true]
  unfold lN at h⊢
  cases c2:(decide ((bT e 2).Op=1)&&decide ((bT e 2).Val=lC (bT e 2).Ty)) with
  |false=>rw [c2] at h;cases h
  |true=>
   rw [Bool.and_eq_true,decide_eq_true_eq,decide_eq_true_eq] at c c2
   exact ⟨c.1,c.2,c2.1,rfl,rfl⟩
theorem sel_mem {d:Df} {n:Nat} {s:ByteArray} {l:List Ex}:gG d n s l=zL∨∃c,c∈l/\gG d n s l=(bX c s).1:=by
 unfold gG
 cases h:l.find? (lL d n s) with
 |none=>exact .inl rfl
 |some c=>exact .inr ⟨c,List.mem_of_find?_eq_some h,rfl⟩
theorem chain_typed {n:En} {d x:Df} {s:ByteArray} (hT:fM n (bQ d) d.Body=(d.T,0)) (hsz:∀a,a∈d.Red->knL (bR n.sz) a.Size.L=true) (h:dN d s=some x) (hv:bP x.Body=0):
  x.Name=d.Name/\x.T=d.T/\x.Dims=d.Dims/\(∃i,i<d.Red.length/\x.Red=d.Red.take i++d.Red.drop (i+1))/\(x.Fold=if x.Red=[] then 0 else d.Fold)/\d.Fold=1/\fM n (bQ x) x.Body=(d.T,0):=by
 obtain ⟨hvd,hic,hnd⟩:=zKs (by rw [hT]:(fM n (bQ d) d.Body).2=0)
 unfold dN at h
 split at h
 ·next c=>
  obtain ⟨c1,c2,c3,c4⟩:=c
  obtain ⟨_,g2,g3,g4,g5⟩:=zPh c3
  have hn:(axN s d.Red).toNat<d.Red.length:=idxOf_lt c2
  have hnm:=(axN_lt (s:=s) (l:=d.Red) (n:=(axN s d.Red).toNat) (by omega)).2
  unfold nW at h
  cases hm:mEx (SR s (gG d (axN s d.Red).toNat s (bC d.Body).conds)) (bC d.Body).val with
  |error y=>rw [hm] at h;cases h
  |ok w=>
   rw [hm] at h
   simp only at h
   rw [Option.map_eq_some_iff] at h
   obtain ⟨w',hp,rfl⟩:=h
   refine ⟨rfl,rfl,rfl,⟨_,hn,rfl⟩,rfl,c1,?_⟩
   generalize hi:(axN s d.Red).toNat=i at *
   generalize hg:gG d i s (bC d.Body).conds=g at *
   have hk0:∀t,t≠s->knB n.sz (bQ d) t=true->knB n.sz (bQ (nC d i g w' (mI d))) t=true:=by
    intro t ht h0
    unfold knB at h0⊢
    rw [Bool.or_eq_true] at h0⊢
    rcases h0 with h0|h0
    ·refine .inl (zIq.2 ?_)
     have h0:=zIq.1 h0
     unfold bQ at h0⊢
     rcases List.mem_append.1 h0 with h0|h0
     ·exact List.mem_append_left _ h0
     ·refine List.mem_append_right _ ?_
      obtain ⟨a,ha,rfl⟩:=List.mem_map.1 h0
      refine List.mem_map.2 ⟨a,?_,rfl⟩
      show a∈d.Red.take i++d.Red.drop (i+1)
      have hsplit:d.Red=d.Red.take i++axA d.Red i::d.Red.drop (i+1):=by
       rw [←qR (zKk hn),List.take_append_drop]
      rw [hsplit] at ha
      rcases List.mem_append.1 ha with ha|ha
      ·exact List.mem_append_left _ ha
      ·rcases List.mem_cons.1 ha with rfl|ha
       ·exact absurd hnm ht
       ·exact List.mem_append_right _ ha
    ·exact .inr h0
   have hargs:=zNu hvd g2
   have hA:=zEj hnd
   rw [hargs] at hA
   obtain ⟨t0,r0,q0⟩:=zGd hA.1
   obtain ⟨t1,r1,q1⟩:=zGd r0
   obtain ⟨t2,_,q2⟩:=zGd r1
   have hbT:bE (ofN n (knB n.sz (bQ d))) d.Body=(d.T,0):=by
    have h1:=hT
    unfold fM lF at h1
    rw [if_pos hvd,if_neg (by rw [hic];simp),if_pos hnd] at h1
    injection h1 with h3 _
    exact Prod.ext h3 hnd
   have hty:(bE (ofN n (knB n.sz (bQ d))) (bT d.Body 1)).1=d.T/\(bE (ofN n (knB n.sz (bQ d))) (bT d.Body 2)).1=d.T:=by
    have h1:=hA.2.symm.trans hbT
    rw [q0,q1,q2,bF] at h1
    unfold ofN at h1
    rw [g2,if_neg (by omega),if_neg (by omega),if_neg (by omega),if_neg (by omega),if_pos rfl] at h1
    have e1:(bE (ofN n (knB n.sz (bQ d))) (bT d.Body 1)).1=d.T:=congrArg Prod.fst h1
    have e2:gB (bE (ofN n (knB n.sz (bQ d))) (bT d.Body 1)).1 (bE (ofN n (knB n.sz (bQ d))) (bT d.Body 2)).1=0:=congrArg Prod.snd h1
    refine ⟨e1,?_⟩
    unfold gB at e2
    by_cases c5:(bE (ofN n (knB n.sz (bQ d))) (bT d.Body 1)).1=(bE (ofN n (knB n.sz (bQ d))) (bT d.Body 2)).1
    ·rw [←c5];exact e1
    ·rw [decide_eq_false c5] at e2;cases e2
   generalize hK:knB n.sz (bQ (nC d i g w' (mI d)))=K' at hk0
   have in0:bT d.Body 0∈d.Body.Args:=by rw [hargs];simp
   have in1:bT d.Body 1∈d.Body.Args:=by rw [hargs];simp
   have in2:bT d.Body 2∈d.Body.Args:=by rw [hargs];simp
   have hlin:=valid_lin hvd
   have hcn:∀c,c∈(bC d.Body).conds->c∈dE (bT d.Body 0):=fun c hc=>zNq _ c (by rw [←g4];exact hc)
   have hct:∀c,c∈(bC d.Body).conds->(bE (ofN n (knB n.sz (bQ d))) c).2=0:=fun c hc=>nodes_typed _ t0 c (hcn c hc)
   have hgk:knL K' g.L=true:=by
    rcases sel_mem (d:=d) (n:=i) (s:=s) (l:=(bC d.Body).conds) with hz|⟨c,hc,he⟩
    ·rw [←hg,hz];rfl
    ·rw [hg] at he
     obtain ⟨n1,n2⟩:=solve_names (c:=c) (s:=s)
     rw [←he] at n1 n2
     rcases n2 with n2|⟨j,hj,ho,hl⟩|n2
     ·rw [n2];rfl
     ·have hjl:j<c.Args.length:=by
       rcases Nat.lt_or_ge j c.Args.length with h1|h1
       ·exact h1
       ·unfold bT at ho
        rw [List.getD_eq_getElem?_getD,List.getElem?_eq_none h1] at ho
        exact absurd ho (by decide)
      have h1:=zIl _ (zEj (hct c hc)).1 _ (argN_in hjl)
      have h2:=zEj h1
      rw [h2.2] at h1
      unfold ofN at h1
      rw [ho,if_neg (by omega),if_pos rfl] at h1
      refine List.all_eq_true.2 fun m hm=>hk0 _ (n1 m hm) ?_
      rw [hl] at hm
      exact zJy (zIr h1) m hm
     ·rw [n2];rfl
   have hsub:∀e,e∈dE d.Body->(bE (ofN n (knB n.sz (bQ d))) e).2=0->∀y,mEx (SR s g) e=.ok y->bE (ofN n K') y=bE (ofN n (knB n.sz (bQ d))) e:=by
    intro e he ht y hy
    obtain ⟨rfl,_⟩:=mEx_g hy
    refine nodeT_map (P:=fun l=>bJ l=true) (fun l hl hk=>?_) e (allF_node hlin he) ht
    refine List.all_eq_true.2 fun m hm=>?_
    rcases sub_names (l:=l) (tt:=g) (s:=s) (fun h0=>last_zero hl h0) hm with ⟨x,hx,e1,e2⟩|⟨x,hx,e1⟩
    ·rw [←e1];exact hk0 _ e2 (zJy hk x hx)
    ·rw [←e1];exact zJy hgk x hx
   have hw:bE (ofN n K') w=(d.T,0):=by
    rw [hsub _ (zPq in1) t1 w (by rw [←g5];exact hm)]
    exact Prod.ext hty.1 t1
   have hz:bE (ofN n K') (mI d)=(d.T,0):=by
    have hn2:=args_none (zGi (wS hvd) _ (zPq in2)) g3
    have h1:=zPx (n:=n) (k:=knB n.sz (bQ d)) g3 hn2
    rw [show mI d=bT d.Body 2 from rfl,zPx g3 hn2,←hty.2,h1]
   have hw':=zMw hz (fun x hx y hy=>by rw [hsub x (zRf (zPq in0) x (hcn x hx)) (hct x hx) y hy];exact hct x hx) _ w w' (Nat.le_refl _) hw hp
   have hms:knL K' (axA d.Red i).Size.L=true:=List.all_eq_true.2 fun m hm=>by
    rw [←hK]
    unfold knB
    rw [Bool.or_eq_true]
    exact .inr (zJy (hsz _ (zX (zKk hn))) m hm)
   have hall:bE (ofN n K') (nC d i g w' (mI d)).Body=(d.T,0):=if_typed (inside_typed hgk hms) hw' hz
   unfold fM lF
   rw [hK,if_pos hv,if_neg (by show ¬gE (bV 11 _)=true;unfold gE;show ¬(decide ((13:Int)<=11)&&_)=true;simp),hall,if_pos rfl]
 ·cases h
end Go.Br
end
section
namespace Go.Br
open Go Go.Eng Go.L41
theorem nameR_iff {s:ByteArray} {t:List ByteArray}:dH s t=0↔bD s=true/\s ∉ t:=by
 unfold dH
 by_cases c:bD s=true
 ·rw [if_pos c]
  by_cases d:bR t s=true
  ·rw [if_pos d];exact ⟨(fun h=>by cases h),fun h=>absurd (zIq.1 d) h.2⟩
  ·rw [if_neg d];exact ⟨fun _=>⟨c,fun h=>d (zIq.2 h)⟩,fun _=>rfl⟩
 ·rw [if_neg c];exact ⟨(fun h=>by cases h),fun h=>absurd h.1 c⟩
theorem zMd {sz:List ByteArray}:∀(l:List Ax) (t:List ByteArray),gI sz t l=0↔(∀a,a∈l->bD a.Name=true/\fU a.Size sz=0/\a.Name ∉ t)/\(l.map Ax.Name).Nodup
 |[],t=>⟨fun _=>⟨fun a ha=>(by cases ha),List.nodup_nil⟩,fun _=>by rw [gI]⟩
 |x::r,t=>by
  rw [gI]
  constructor
  ·intro h
   by_cases c:dH x.Name t=0
   ·rw [if_pos c] at h
    by_cases c2:fU x.Size sz=0
    ·rw [if_pos c2] at h
     obtain ⟨h1,h2⟩:=(zMd r _).1 h
     obtain ⟨n1,n2⟩:=nameR_iff.1 c
     refine ⟨fun a ha=>?_,?_⟩
     ·rcases List.mem_cons.1 ha with rfl|ha
      ·exact ⟨n1,c2,n2⟩
      ·exact ⟨(h1 a ha).1,(h1 a ha).2.1,fun hm=>(h1 a ha).2.2 (List.mem_append_left _ hm)⟩
     ·rw [List.map_cons,List.nodup_cons]
      refine ⟨fun hm=>?_,h2⟩
      obtain ⟨a,ha,e⟩:=List.mem_map.1 hm
      exact (h1 a ha).2.2 (by rw [e];simp)
    ·rw [if_neg c2] at h;exact absurd h c2
   ·rw [if_neg c] at h;exact absurd h c
  ·rintro ⟨h1,h2⟩
   rw [List.map_cons,List.nodup_cons] at h2
   have hx:=h1 x (by simp)
   rw [if_pos (nameR_iff.2 ⟨hx.1,hx.2.2⟩),if_pos hx.2.1]
   refine (zMd r _).2 ⟨fun a ha=>?_,h2.2⟩
   have:=h1 a (by simp [ha])
   refine ⟨this.1,this.2.1,fun hm=>?_⟩
   rcases List.mem_append.1 hm with hm|hm
   ·exact this.2.2 hm
   ·rw [List.mem_singleton] at hm
    exact h2.1 (by rw [←hm];exact List.mem_map.2 ⟨a,ha,rfl⟩)
theorem formR_kn {l:Lf} {sz:List ByteArray} (h:fU l sz=0):knL (bR sz) l.L=true:=by
 unfold fU at h
 split at h
 ·split at h
  ·assumption
  ·cases h
 ·cases h
theorem step_valid {n:En} {d:Df} {t:List ByteArray} {s:ByteArray} (h:gX n d t=0) (hs:(dfD d s).2=true):gX n (dfD d s).1 t=0/\(dfD d s).1.Name=d.Name/\(dfD d s).1.T=d.T/\(dfD d s).1.Dims=d.Dims:=by
 have h1:dH d.Name t=0:=Decidable.byContradiction fun c=>by rw [zSs c] at h;exact c h
 have h2:dW d.T=true:=by
  cases c:dW d.T with
  |true=>rfl
  |false=>rw [zKh h1 c] at h;cases h
 have h3:¬(6<d.Dims.length∨6<d.Red.length):=fun c=>by rw [zKg h1 h2 c] at h;cases h
 have h4:=defR_axes h
 have hT:=(defR_of h).2
 have hA:=(zMd _ _).1 h4
 unfold dfD at hs⊢
 cases c:dN d s with
 |none=>rw [c] at hs;cases hs
 |some x=>
  rw [c] at hs
  simp only at hs⊢
  by_cases hv:bP x.Body=0
  ·rw [if_pos hv]
   obtain ⟨e1,e2,e3,⟨i,hi,e4⟩,e5,e6,e7⟩:=chain_typed hT (fun a ha=>formR_kn (hA.1 a (List.mem_append_right _ ha)).2.1) c hv
   show gX n x t=0/\_
   refine ⟨?_,e1,e2,e3⟩
   have hlen:x.Red.length+1=d.Red.length:=by rw [e4];exact cut_len hi
   have hsub:(d.Dims++x.Red).Sublist (d.Dims++d.Red):=by
    refine List.Sublist.append (List.Sublist.refl _) ?_
    rw [e4]
    conv=>rhs;rw [show d.Red=d.Red.take i++d.Red.drop i from (List.take_append_drop i d.Red).symm]
    exact List.Sublist.append (List.Sublist.refl _) (List.drop_sublist_drop_left _ (by omega))
   have hax:gI n.sz n.sz (x.Dims++x.Red)=0:=by
    rw [e3]
    exact (zMd _ _).2 ⟨fun a ha=>hA.1 a (hsub.subset ha),hA.2.sublist (hsub.map _)⟩
   have hf:lZ x=0:=by
    unfold lZ
    rw [e5,e6]
    by_cases hr:x.Red=[]
    ·rw [if_pos hr,hr];simp
    ·rw [if_neg hr]
     have:¬x.Red.length=0:=fun h=>hr (List.eq_nil_of_length_eq_zero h)
     simp [this]
   rw [zSr (by rw [e1];exact h1) (by rw [e2];exact h2) (by rw [e3];omega),if_pos hax,if_pos hf,←typeT_R,e7]
   unfold mJ
   rw [if_pos rfl,if_pos e2.symm]
  ·rw [if_neg hv] at hs;cases hs
theorem clo_valid {n:En} {t:List ByteArray}:∀(k:Nat) (d:Df),gX n d t=0->gX n (clo k d).1 t=0/\(clo k d).1.Name=d.Name/\(clo k d).1.T=d.T/\(clo k d).1.Dims=d.Dims
 |0,d,h=>⟨h,rfl,rfl,rfl⟩
 |k+1,d,h=>by
  rw [clo]
  cases c:jS d with
  |none=>exact ⟨h,rfl,rfl,rfl⟩
  |some x=>
   obtain ⟨a,_,h1,rfl⟩:=tryA_is c
   obtain ⟨h2,h3,h4,h5⟩:=step_valid h h1
   obtain ⟨k1,k2,k3,k4⟩:=clo_valid k _ h2
   exact ⟨k1,k2.trans h3,k3.trans h4,k4.trans h5⟩
theorem clD_valid {n:En} {t:List ByteArray} {d:Df} (h:gX n d t=0):gX n (clD d).1 t=0/\(clD d).1.Name=d.Name/\(clD d).1.T=d.T/\(clD d).1.Dims=d.Dims:=clo_valid _ d h
end Go.Br
end
section
namespace Go.Br
open Go Go.Eng Go.L41
def rD (f:Df->Df) (l:List Df):Prop:=∀d,d∈l->(f d).Name=d.Name/\(f d).T=d.T/\(f d).Dims=d.Dims
theorem findD_map {f:Df->Df} (s:ByteArray):∀{l:List Df},rD f l->gP s (l.map f)=gP s l
 |[],_=>rfl
 |x::r,h=>by
  obtain ⟨h1,h2,h3⟩:=h x (by simp)
  rw [List.map_cons,gP,gP,h1,h2,h3,findD_map s fun d hd=>h d (by simp [hd])]
theorem zRx {f:Df->Df} (s:ByteArray) {l:List Df} (h:rD f l):∀pm:List Pm,gO s (l.map f) pm=gO s l pm
 |[]=>by rw [gO,gO,findD_map s h]
 |x::r=>by rw [gO,gO,zRx s h r]
theorem more_map {f:Df->Df} {sz:List ByteArray} {pm:List Pm} {l:List Df} (h:rD f l):rI ⟨sz,pm,l⟩ ⟨sz,pm,l.map f⟩:=fun s _=>zRx s h pm
theorem defR_map {f:Df->Df} {sz:List ByteArray} {pm:List Pm} {b:List Df} {d:Df} {t:List ByteArray} (hb:rD f b) (h:gX ⟨sz,pm,b⟩ d t=0):gX ⟨sz,pm,b.map f⟩ d t=0:=by
 have h1:dH d.Name t=0:=Decidable.byContradiction fun c=>by rw [zSs c] at h;exact c h
 have h2:dW d.T=true:=by
  cases c:dW d.T with
  |true=>rfl
  |false=>rw [zKh h1 c] at h;cases h
 have h3:¬(6<d.Dims.length∨6<d.Red.length):=fun c=>by rw [zKg h1 h2 c] at h;cases h
 have hT:=(defR_of h).2
 have h4:=defR_axes h
 rw [zSr h1 h2 h3] at h⊢
 rw [if_pos h4] at h
 rw [if_pos (show gI sz sz (d.Dims++d.Red)=0 from h4)]
 have h5:lZ d=0:=Decidable.byContradiction fun c=>by rw [if_neg c] at h;exact c h
 rw [if_pos h5,←typeT_R,typeT_more (more_map hb) rfl (by rw [hT]),hT]
 unfold mJ
 rw [if_pos rfl,if_pos rfl]
theorem outsR_find {a b:En} (h:∀s,b.find s=a.find s):∀(l:List ByteArray) (k:Int) (seen:List ByteArray),jV b k seen l=jV a k seen l
 |[],_,_=>rfl
 |s::r,k,seen=>by rw [jV,jV,h s,outsR_find h r]
theorem defsR_map {p q:Pg} {f:Df->Df} (hs:q.Sizes=p.Sizes) (hp:q.Params=p.Params) (ho:∀k,jV q.en k [] q.Outs=jV p.en k [] p.Outs) (hf:∀n t d,gX n d t=0->gX n (f d) t=0):
  ∀(l:List Df) (k:Int) (t:List ByteArray) (b:List Df),rD f b->rD f l->(jB p k t b l).2=0->(jB q k t (b.map f) (l.map f)).2=0
 |[],k,t,b,_,_,h=>by
  rw [jB] at h
  rw [List.map_nil,jB,ho];exact h
 |d::r,k,t,b,hb,hl,h=>by
  rw [jB] at h
  by_cases c:gX ⟨p.Sizes,p.Params,b⟩ d t=0
  ·rw [if_pos c] at h
   have h1:=hf _ _ _ (defR_map hb c)
   rw [List.map_cons,jB,hs,hp,if_pos h1,(hl d (by simp)).1]
   have:=defsR_map hs hp ho hf r (k+1) (t++[d.Name]) (b++[d]) (fun x hx=>by
    rcases List.mem_append.1 hx with hx|hx
    ·exact hb x hx
    ·rw [List.mem_singleton] at hx;rw [hx];exact hl d (by simp)) (fun x hx=>hl x (by simp [hx])) h
   simpa using this
  ·rw [if_neg c] at h;exact absurd h c
theorem delP_valid {p:Pg} (h:(dR p).2=0):(dR (gN p).1).2=0:=by
 have e:(gN p).1=⟨p.Sizes,p.Where,p.Params,jQ p.Defs,p.Outs⟩:=by unfold gN;rw [if_pos h]
 rw [e]
 rw [zKp] at h⊢
 obtain ⟨h1,h2,h3,h4⟩:=validR_of h
 obtain ⟨a',h5,h6⟩:=zNa p ⟨p.Sizes,p.Where,p.Params,jQ p.Defs,p.Outs⟩ rfl p.Params _ _ h4
 have hat:=defsR_at p p.Defs _ _ _ h5
 have hk:rD (fun d=>(clD d).1) p.Defs:=fun d hd=>by
  obtain ⟨i,hi⟩:=List.getElem?_of_mem hd
  exact (clD_valid (hat i d hi)).2
 have hfind:∀s,En.find (Pg.en ⟨p.Sizes,p.Where,p.Params,jQ p.Defs,p.Outs⟩) s=p.en.find s:=fun s=>zRx s hk p.Params
 have h7:=defsR_map (p:=p) (q:=⟨p.Sizes,p.Where,p.Params,jQ p.Defs,p.Outs⟩) (f:=fun d=>(clD d).1) rfl rfl (fun k=>outsR_find hfind p.Outs k []) (fun n t d h=>(clD_valid h).1) p.Defs a' _ [] (fun x hx=>by cases hx) hk h5
 unfold jE
 have hl:dG ⟨p.Sizes,p.Where,p.Params,jQ p.Defs,p.Outs⟩:=by
  obtain ⟨k1,k2,k3,k4,k5⟩:=h1
  exact ⟨k1,k2,by show (p.Defs.map _).length<=64;rw [List.length_map];exact k3,k4,k5⟩
 rw [if_pos hl,if_pos h2,if_pos h3,h6]
 exact h7
theorem delP_again {p:Pg} (h:(dR p).2=0):gN (gN p).1=((gN p).1,0):=delP_twice h (delP_valid h)
end Go.Br
end
section
namespace Go.Br
open Go Go.Eng Go.L41
theorem form_names {l:Lf} {L:List ByteArray} (h:bJ l=true) (hm:∀m,m∈l.L->m.Name∈L):l.L.length<=L.length:=by
 have:=nodup_len (asc_nodup (monos_asc h)) (L:=L) fun s hs=>by
  obtain ⟨m,hm2,rfl⟩:=List.mem_map.1 hs
  exact hm m hm2
 rwa [List.length_map] at this
theorem typed_small {n:En} {vars:List ByteArray} {e:Ex} (h:(fM n vars e).2=0):e.allF fun l=>l.L.length<=vars.length+n.sz.length:=by
 have h1:=valid_lin (zKs h).1
 have h2:=typed_known h
 intro x hx l hl
 have:=form_names (L:=vars++n.sz) (h1 x hx l hl) fun m hm=>by
  have hk:=h2 x hx l hl m hm
  unfold knB at hk
  rw [Bool.or_eq_true] at hk
  rcases hk with hk|hk
  ·exact List.mem_append_left _ (zIq.1 hk)
  ·exact List.mem_append_right _ (zIq.1 hk)
 rwa [List.length_append] at this
theorem defR_small {n:En} {d:Df} {t:List ByteArray} (h:gX n d t=0):d.Body.allF fun l=>l.L.length<=12+n.sz.length:=by
 have h1:dH d.Name t=0:=Decidable.byContradiction fun c=>by rw [zSs c] at h;exact c h
 have h2:dW d.T=true:=by
  cases c:dW d.T with
  |true=>rfl
  |false=>rw [zKh h1 c] at h;cases h
 have h3:¬(6<d.Dims.length∨6<d.Red.length):=fun c=>by rw [zKg h1 h2 c] at h;cases h
 have hT:=(defR_of h).2
 have:=typed_small (n:=n) (vars:=bQ d) (e:=d.Body) (by rw [hT])
 intro x hx l hl
 have h4:=this x hx l hl
 rw [namesD_len] at h4
 omega
end Go.Br
end
section
namespace Go.Br
open Go Go.Eng Go.L41
theorem ixCnt_map (g:Lf->Lf):∀l:List Ix,hY (l.map (gIx g))=hY l
 |[]=>rfl
 |x::r=>by
  rw [List.map_cons,hY,hY,ixCnt_map g r]
  show (x.At.map g).length+_=_
  rw [List.length_map]
theorem cnt_g (g:Lf->Lf) (e:Ex):(gEx g e).cnt=e.cnt:=by
 induction e using Ex.ind with
 |_ e ih=>
  have:∀l:List Ex,(∀a,a∈l->(gEx g a).cnt=a.cnt)->fX (l.map (gEx g))=fX l:=by
   intro l
   induction l with
   |nil=>intro _;rfl
   |cons a r ihr=>
    intro h
    rw [List.map_cons,fX,fX,h a (by simp),ihr fun b hb=>h b (by simp [hb])]
  rw [zOd,Ex.cnt,Ex.cnt_eq e,List.length_map,ixCnt_map,this e.Args ih]
theorem lins_le {B:Nat}:∀l:List Lf,(∀x,x∈l->x.L.length<=B)->dS l<=B*l.length
 |[],_=>by rw [dS];exact Nat.zero_le _
 |x::r,h=>by
  have h1:=lins_le r fun y hy=>h y (by simp [hy])
  have h2:=h x (by simp)
  rw [dS,List.length_cons,Nat.mul_add];omega
theorem ixs_le {B:Nat}:∀l:List Ix,(∀x,x∈l->x.Lin.L.length<=B/\∀y,y∈x.At->y.L.length<=B)->fH l<=B*l.length+(B+1)*hY l
 |[],_=>by rw [fH];exact Nat.zero_le _
 |x::r,h=>by
  have h1:=ixs_le r fun y hy=>h y (by simp [hy])
  obtain ⟨h2,h3⟩:=h x (by simp)
  have h4:=lins_le x.At h3
  rw [fH,hY,List.length_cons]
  unfold Ix.wt
  have h5:(B+1)*(x.At.length+hY r)=B*x.At.length+x.At.length+(B+1)*hY r:=by
   rw [Nat.mul_add,Nat.add_mul,Nat.one_mul]
  have h6:B*(r.length+1)=B*r.length+B:=by rw [Nat.mul_add,Nat.mul_one]
  omega
theorem wt_cnt {B:Nat} (e:Ex):(e.allF fun l=>l.L.length<=B)->e.wt<=(B+1)*e.cnt:=by
 induction e using Ex.ind with
 |_ e ih=>
  intro h
  have h1:=Ex.allF_lin h
  have h2:=ixs_le e.Idx fun x hx=>⟨Ex.allF_ix h hx,fun y hy=>Ex.allF_at h hx hy⟩
  have h3:∀l:List Ex,(∀a,a∈l->a∈e.Args)->bL l<=(B+1)*fX l:=by
   intro l
   induction l with
   |nil=>intro _;exact Nat.zero_le _
   |cons a r ihr=>
    intro hl
    have k1:=ih a (hl a (by simp)) (Ex.allF_arg h (hl a (by simp)))
    have k2:=ihr fun b hb=>hl b (by simp [hb])
    rw [bL,fX,Nat.mul_add];omega
  have h4:=h3 e.Args fun a ha=>ha
  rw [Ex.wt_eq,Ex.cnt_eq,Nat.mul_add,Nat.mul_add,Nat.mul_add,Nat.mul_one]
  have h5:(B+1)*e.Idx.length=B*e.Idx.length+e.Idx.length:=by rw [Nat.add_mul,Nat.one_mul]
  have h1':e.Lin.L.length<=B:=h1
  omega
end Go.Br
end
section
namespace Go.Br
open Go Go.Eng Go.L41
theorem cntL_app:∀a b:List Ex,fX (a++b)=fX a+fX b
 |[],b=>by rw [List.nil_append,fX,Nat.zero_add]
 |x::r,b=>by rw [List.cons_append,fX,fX,cntL_app r b];omega
theorem cntLlen:∀l:List Ex,l.length<=fX l
 |[]=>Nat.zero_le _
 |x::r=>by rw [fX,List.length_cons];have:=Ex.cnt_pos x;have:=cntLlen r;omega
theorem if_cnt (c w z:Ex):(bV 11 [c,w,z]).cnt=1+c.cnt+w.cnt+z.cnt:=by
 rw [Ex.cnt_eq]
 show 1+0+hY []+fX [c,w,z]=_
 simp only [hY,fX];omega
mutual
theorem conj_cnt:∀e:Ex,fX (gA e)<=e.cnt
 |.mk o n v t l i r=>by
  rw [gA,Ex.cnt]
  cases decide (o=16) with
  |true=>rw [cond_true];have:=conjL_cnt r;omega
  |false=>rw [cond_false,fX,fX,Ex.cnt];omega
theorem conjL_cnt:∀l:List Ex,fX (lP l)<=fX l
 |[]=>by rw [lP];exact Nat.le_refl _
 |a::r=>by
  rw [lP,cntL_app,fX]
  have:=conj_cnt a
  have:=conjL_cnt r
  omega
end
theorem putW_cnt {s:ByteArray} {g:Lf} {l:List Ex} {c:Int} {z:Ex}:∀(k:Nat) (w w':Ex),k<=l.length->jZ (SR s g) l c z k w=some w'->w'.cnt<=w.cnt+fX (l.take k)+k*(1+z.cnt)
 |0,w,w',_,h=>by rw [jZ] at h;injection h with h;rw [←h];omega
 |k+1,w,w',hk,h=>by
  have ht:fX (l.take (k+1))=fX (l.take k)+(nG l k).cnt:=by
   rw [qT (zLn (by omega)),cntL_app,fX,fX];omega
  rw [jZ] at h
  rw [ht,Nat.add_mul,Nat.one_mul]
  split at h
  ·have:=putW_cnt k w w' (by omega) h
   omega
  ·cases hm:mEx (SR s g) (nG l k) with
   |error y=>rw [hm] at h;cases h
   |ok y=>
    rw [hm] at h
    have h1:=putW_cnt k _ w' (by omega) h
    have h2:y.cnt=(nG l k).cnt:=by rw [(mEx_g hm).1,cnt_g]
    rw [if_cnt,h2] at h1
    omega
theorem val_cnt {z:Ex} (h:bS z=0) (ho:z.Op=1):z.cnt=1:=by
 have hs:=(zDl h).1
 unfold gT at hs
 simp only [Bool.and_eq_true,Bool.not_eq_true',Bool.and_eq_false_iff,Bool.or_eq_false_iff,Bool.not_eq_false',decide_eq_true_eq,decide_eq_false_iff_not,List.all_eq_true] at hs
 obtain ⟨⟨_,h5⟩,_⟩:=hs
 have hi:z.Idx=[]:=by
  rcases h5 with h5|h5
  ·omega
  ·exact List.eq_nil_of_length_eq_zero (by have:=h5.2;omega)
 rw [Ex.cnt_eq,hi,args_none h ho]
 simp [hY,fX]
end Go.Br
end
section
namespace Go.Br
open Go Go.Eng Go.L41
theorem SR_cnt {s:ByteArray} {g:Lf} {x:Ex} (h:lT (mEx (SR s g) x)=0):(lD (mEx (SR s g) x)).cnt=x.cnt:=by
 obtain ⟨y,hy⟩:=zSh h (mEx_ne x)
 rw [hy];show y.cnt=_;rw [(mEx_g hy).1,cnt_g]
theorem body_okW {g n:Lf} {w z:Ex} (hg:g.L.length<=50000) (hn:n.L.length<=3000000000000) (hw:w.wt<=2600000000000) (hc:w.cnt<=2000000000) (hz:z.wt<=50000):(bV 11 [dO g n,w,z]).allF (fun l=>l.L.length<=5864062014805)/\(bV 11 [dO g n,w,z]).cnt<=4294967296:=by
 refine ⟨allF_body (Nat.zero_le _) (by omega) (by omega) (zIf (allF_wt hw) fun l h=>by omega) (zIf (allF_wt hz) fun l h=>by omega),?_⟩
 rw [cnt_body]
 have:=z.cnt_le;omega
theorem putW_rng {s:ByteArray} {g:Lf} {l:List Ex} {c:Int} {z:Ex} (hl:∀x,x∈l->x.allF Lf.rng) (hz:z.allF Lf.rng):∀(k:Nat) (w w':Ex),k<=l.length->w.allF Lf.rng->jZ (SR s g) l c z k w=some w'->w'.allF Lf.rng
 |0,w,w',_,hw,h=>by rw [jZ] at h;injection h with h;rw [←h];exact hw
 |k+1,w,w',hk,hw,h=>by
  rw [jZ] at h
  split at h
  ·exact putW_rng hl hz k w w' (by omega) hw h
  ·cases hm:mEx (SR s g) (nG l k) with
   |error y=>rw [hm] at h;cases h
   |ok y=>
    rw [hm] at h
    have hx:=hl _ (zX (zLn (l:=l) (i:=k) (by omega)))
    have hy:y.allF Lf.rng:=by rw [(mEx_g hm).1];exact allF_g (zIf hx fun l hl=>substR_rng s hl)
    refine putW_rng hl hz k _ w' (by omega) (zGm zDx fun a ha=>?_) h
    simp only [List.mem_cons,List.not_mem_nil,or_false] at ha
    rcases ha with rfl|rfl|rfl
    ·exact hy
    ·exact hw
    ·exact hz
theorem conj_inside (g n:Lf):(gA (dO g n)).length=2:=by
 unfold dO bV zeroE gR
 simp [gA,lP]
theorem conds_two {c w z:Ex} {g n:Lf} (hc:c=dO g n):(bC (bV 11 [c,w,z])).conds.length<=2:=by
 unfold bC
 cases decide (bP (bV 11 [c,w,z])=0)&&decide ((bV 11 [c,w,z]).Op=11) with
 |false=>exact Nat.zero_le _
 |true=>
  rw [cond_true]
  unfold lN
  cases decide ((bT (bV 11 [c,w,z]) 2).Op=1)&&decide ((bT (bV 11 [c,w,z]) 2).Val=lC (bT (bV 11 [c,w,z]) 2).Ty) with
  |false=>exact Nat.zero_le _
  |true=>
   rw [cond_true]
   show (gA c).length<=2
   rw [hc,conj_inside]
   exact Nat.le_refl _
theorem chain_cntW {d x:Df} {s:ByteArray} (h:dN d s=some x):x.Body.cnt+2*(bC x.Body).conds.length+13*x.Red.length<=d.Body.cnt+2*(bC d.Body).conds.length+13*d.Red.length:=by
 have hr:=chain_red h
 unfold dN at h
 split at h
 ·next c=>
  obtain ⟨c1,c2,c3,c4⟩:=c
  obtain ⟨hvd,g2,g3,g4,g5⟩:=zPh c3
  have hargs:=zNu hvd g2
  have in2:bT d.Body 2∈d.Body.Args:=by rw [hargs];simp
  have hz:=val_cnt (zGi (wS hvd) _ (zPq in2)) g3
  unfold nW at h
  cases hm:mEx (SR s (gG d (axN s d.Red).toNat s (bC d.Body).conds)) (bC d.Body).val with
  |error y=>rw [hm] at h;cases h
  |ok w=>
   rw [hm] at h
   simp only at h
   rw [Option.map_eq_some_iff] at h
   obtain ⟨w',hp,rfl⟩:=h
   have h1:=putW_cnt _ w w' (Nat.le_refl _) hp
   rw [List.take_length] at h1
   have h2:w.cnt=(bT d.Body 1).cnt:=by rw [(mEx_g hm).1,cnt_g,g5]
   have h3:=conj_cnt (bT d.Body 0)
   rw [←g4] at h3
   have h5:d.Body.cnt=1+d.Body.Idx.length+hY d.Body.Idx+((bT d.Body 0).cnt+((bT d.Body 1).cnt+(bT d.Body 2).cnt)):=by
    have:=Ex.cnt_eq d.Body
    rw [hargs] at this
    simpa [fX] using this
   have h6:(mI d).cnt=1:=hz
   have h7:=conds_two (c:=dO (gG d (axN s d.Red).toNat s (bC d.Body).conds) (axA d.Red (axN s d.Red).toNat).Size) (w:=w') (z:=mI d) rfl
   have h8:(nC d (axN s d.Red).toNat (gG d (axN s d.Red).toNat s (bC d.Body).conds) w' (mI d)).Body.cnt=8+w'.cnt+(mI d).cnt:=cnt_body _ _ _ _
   have h7:(bC (nC d (axN s d.Red).toNat (gG d (axN s d.Red).toNat s (bC d.Body).conds) w' (mI d)).Body).conds.length<=2:=h7
   rw [h6] at h1 h8
   omega
 ·cases h
theorem chain_rng {d x:Df} {s:ByteArray} (hP:d.Body.allF Lf.rng) (hA:∀a,a∈d.Red->a.Size.rng) (h:dN d s=some x):x.Body.allF Lf.rng/\x.Dims=d.Dims/\∀a,a∈x.Red->a∈d.Red:=by
 unfold dN at h
 split at h
 ·next c=>
  obtain ⟨c1,c2,c3,c4⟩:=c
  obtain ⟨n,hn⟩:∃n:Nat,axN s d.Red=n:=⟨(axN s d.Red).toNat,by omega⟩
  obtain ⟨hn2,hn3⟩:=axN_lt hn
  rw [hn,Int.toNat_natCast] at h
  obtain ⟨q1,q2,q3,q4,q5⟩:=zKb c3 hP (Nat.le_refl _)
  obtain ⟨g1,g2,g3⟩:=gSel_ok (d:=d) (n:=n) (s:=s) q1
  obtain ⟨_,k2,_,_,_⟩:=zPh c3
  unfold nW at h
  cases hm:mEx (SR s (gG d n s (bC d.Body).conds)) (bC d.Body).val with
  |error y=>rw [hm] at h;cases h
  |ok w=>
   rw [hm] at h
   simp only at h
   rw [Option.map_eq_some_iff] at h
   obtain ⟨w',hp,rfl⟩:=h
   have hw:w.allF Lf.rng:=by rw [(mEx_g hm).1];exact allF_g (zIf q2.1 fun l hl=>substR_rng s hl)
   have hz:(mI d).allF Lf.rng:=Ex.allF_arg hP (zX q5)
   refine ⟨allF_body zDx g2 (hA _ (zX (zKk hn2))) (putW_rng (fun x hx=>(q1 x hx).1) hz _ w w' (Nat.le_refl _) hw hp) hz,rfl,fun a ha=>mem_rem ha⟩
 ·cases h
structure Dl (d:Df):Prop where
 val:∃(n:En) (t:List ByteArray),n.sz.length<=12/\gX n d t=0
 dims:d.Dims.length<=12
 red:d.Red.length<=12
 fd:∀a,a∈d.Dims->a.Size.L.length<=20
 fr:∀a,a∈d.Red->a.Size.L.length<=20/\a.Size.rng
 rng:d.Body.allF Lf.rng
 cnt:d.Body.cnt+2*(bC d.Body).conds.length+13*d.Red.length<=1000
theorem Dl.step {d:Df} {s:ByteArray} (h:Dl d) (hs:(dfD d s).2=true):Dl (dfD d s).1:=by
 obtain ⟨n,t,hn,hv⟩:=h.val
 have h1:=step_valid hv hs
 have hr:=dfD_red hs
 unfold dfD at hs hr h1⊢
 cases c:dN d s with
 |none=>rw [c] at hs;cases hs
 |some x=>
  rw [c] at hs hr h1
  simp only at hs hr h1⊢
  by_cases hx:bP x.Body=0
  ·rw [if_pos hx] at h1 hr⊢
   obtain ⟨k1,k2,k3⟩:=chain_rng h.rng (fun a ha=>(h.fr a ha).2) c
   have k4:=chain_cntW c
   have h2:=h.cnt
   have h3:=h.red
   exact ⟨⟨n,t,hn,h1.1⟩,by show x.Dims.length<=12;rw [k2];exact h.dims,by show x.Red.length<=12;simp only at hr;omega,fun a ha=>h.fd a (by rw [←k2];exact ha),fun a ha=>h.fr a (k3 a ha),k1,by show x.Body.cnt+2*(bC x.Body).conds.length+13*x.Red.length<=1000;omega⟩
  ·rw [if_neg hx] at hs;cases hs
theorem Dl.wt {d:Df} (h:Dl d):d.Body.wt<=25000:=by
 obtain ⟨n,t,hn,hv⟩:=h.val
 have h1:=wt_cnt d.Body (B:=24) (zIf (defR_small hv) fun l hl=>by omega)
 have h2:=h.cnt
 omega
theorem Dl.conds {d:Df} (h:Dl d):(bC d.Body).conds.length<=500:=by have:=h.cnt;omega
theorem Dl.try {d x:Df} (h:Dl d) (c:jS d=some x):Dl x:=by
 obtain ⟨a,_,h1,rfl⟩:=tryA_is c
 exact h.step h1
theorem Dl.clo:∀(k:Nat) {d:Df},Dl d->Dl (clo k d).1
 |0,d,h=>h
 |k+1,d,h=>by
  rw [Go.Br.clo]
  cases c:jS d with
  |none=>exact h
  |some x=>exact Dl.clo k (h.try c)
theorem Dl.clD {d:Df} (h:Dl d):Dl (clD d).1:=Dl.clo _ h
theorem Dl.ok {d:Df} (h:Dl d):d.Dims.length<=1073741824/\d.Red.length<=1073741824/\(∀a,a∈d.Dims->a.Size.L.length<=5864062014805)/\(∀a,a∈d.Red->a.Size.L.length<=5864062014805)/\d.Body.wt<=4294967296:=
 ⟨by have:=h.dims;omega,by have:=h.red;omega,fun a ha=>by have:=h.fd a ha;omega,fun a ha=>by have:=(h.fr a ha).1;omega,by have:=h.wt;omega⟩
theorem dl_of {p:Pg} (hS:p.Short) (hR:∀d,d∈p.Defs->d.Body.allF Lf.rng/\∀a,a∈d.Red->a.Size.rng) (h:(dR p).2=0):∀d,d∈p.Defs->Dl d:=by
 intro d hd
 have hv:=h
 rw [zKp] at hv
 obtain ⟨h1,h2,h3,h4⟩:=validR_of hv
 obtain ⟨a',h5,h6⟩:=zNa p p rfl p.Params _ _ h4
 have hat:=defsR_at p p.Defs _ _ _ h5
 obtain ⟨i,hi⟩:=List.getElem?_of_mem hd
 have hdv:=hat i d hi
 obtain ⟨k1,k2,k3,k4,k5⟩:=hS.ds d hd
 have h6:¬(6<d.Dims.length∨6<d.Red.length):=fun c=>by
  have e1:dH d.Name _=0:=Decidable.byContradiction fun c=>by rw [zSs c] at hdv;exact c hdv
  have e2:dW d.T=true:=by
   cases c:dW d.T with
   |true=>rfl
   |false=>rw [zKh e1 c] at hdv;cases hdv
  rw [zKg e1 e2 c] at hdv;cases hdv
 have hc1:=d.Body.cnt_le
 have hc2:(bC d.Body).conds.length<=d.Body.cnt:=by
  cases hg:(bC d.Body).ok with
  |true=>
   obtain ⟨hvd,g2,g3,g4,g5⟩:=zPh hg
   have:=cntLlen (bC d.Body).conds
   have h3:=conj_cnt (bT d.Body 0)
   rw [←g4] at h3
   have hargs:=zNu hvd g2
   have h5:d.Body.cnt=1+d.Body.Idx.length+hY d.Body.Idx+((bT d.Body 0).cnt+((bT d.Body 1).cnt+(bT d.Body 2).cnt)):=by
    have:=Ex.cnt_eq d.Body
    rw [hargs] at this
    simpa [fX] using this
   omega
  |false=>
   have:(bC d.Body).conds=[]:=by
    unfold bC at hg⊢
    cases c:decide (bP d.Body=0)&&decide (d.Body.Op=11) with
    |false=>rfl
    |true=>
     rw [c,cond_true] at hg
     rw [cond_true]
     unfold lN at hg⊢
     cases c2:decide ((bT d.Body 2).Op=1)&&decide ((bT d.Body 2).Val=lC (bT d.Body 2).Ty) with
     |false=>rfl
     |true=>rw [c2,cond_true] at hg;cases hg
   rw [this];exact Nat.zero_le _
 exact ⟨⟨_,_,hS.sizes,hdv⟩,k1,k2,k3,fun a ha=>⟨k4 a ha,(hR d hd).2 a ha⟩,(hR d hd).1,by omega⟩
theorem delP_ok {p:Pg} (hS:p.Short) (hR:∀d,d∈p.Defs->d.Body.allF Lf.rng/\∀a,a∈d.Red->a.Size.rng):(gN p).1.Ok:=by
 have hP:=hS.ok
 unfold gN
 by_cases c:(dR p).2=0
 ·rw [if_pos c]
  have hD:=dl_of hS hR c
  refine ⟨hP.sizes,hP.wh,hP.params,by show (p.Defs.map _).length<=_;rw [List.length_map];exact hP.defs,hP.outs,hP.whs,hP.ps,fun d hd=>?_⟩
  obtain ⟨x,hx,rfl⟩:=List.mem_map.1 hd
  exact (hD x hx).clD.ok
 ·rw [if_neg c];exact hP
/-! ## For the walks -/
theorem none_next {L:List Df} {i:Nat} {d:Df} (hq:∀e,e∈L.take i->jS e=none) (hd:L[i]? =some d) (h:jS d=none):∀e,e∈L.take (i+1)->jS e=none:=by
 intro e he
 rw [qT hd] at he
 rcases List.mem_append.1 he with he|he
 ·exact hq e he
 ·rw [List.mem_singleton] at he;rw [he];exact h
theorem clo_le:∀(k:Nat) (d:Df),(clo k d).2<=k
 |0,d=>Nat.le_refl _
 |k+1,d=>by
  rw [clo]
  cases jS d with
  |none=>exact Nat.zero_le _
  |some x=>have:=clo_le k x;simp only;omega
theorem cntD_le:∀{L:List Df},(∀d,d∈L->Dl d)->jP L<=12*L.length
 |[],_=>Nat.zero_le _
 |d::r,h=>by
  have h1:=cntD_le (L:=r) fun x hx=>h x (by simp [hx])
  have h2:=clo_le d.Red.length d
  have h3:=(h d (by simp)).red
  unfold jP at h1⊢
  unfold clD at h1⊢
  rw [List.map_cons,List.sum_cons,List.length_cons]
  omega
theorem delP_is {p:Pg} {L:List Df} {n:Nat} (h:(dR p).2=0) (h1:jQ L=jQ p.Defs) (h2:n+jP L=jP p.Defs) (h3:∀e,e∈L->jS e=none):gN p=(⟨p.Sizes,p.Where,p.Params,L,p.Outs⟩,n):=by
 obtain ⟨e1,e2⟩:=end_cls h3
 unfold gN
 rw [if_pos h,←h1,e1]
 rw [e2] at h2
 rw [show jP p.Defs=n by omega]
theorem delP_bad {p:Pg} (h:¬(dR p).2=0):gN p=(p,0):=if_neg h
theorem dl_set {L:List Df} {i:Nat} {x:Df} (h:∀d,d∈L->Dl d) (hx:Dl x):∀d,d∈L.set i x->Dl d:=by
 intro d hd
 rcases List.mem_or_eq_of_mem_set hd with hd|rfl
 ·exact h d hd
 ·exact hx
theorem take_setD {L:List Df} {i:Nat} {x:Df}:(L.set i x).take i=L.take i:=List.take_set_of_le (Nat.le_refl i)
theorem dfR_is {d:Df} {s:ByteArray} (h:(dfR d s).2=true):(dfR d s).1=(dfD d s).1/\(dfD d s).2=true:=by
 obtain ⟨_,h2,_⟩:=def_eq (d:=d) (s:=s)
 have:=h2 h
 rw [this];exact ⟨rfl,h⟩
theorem dfR_no {d:Df} {s:ByteArray} (h:(dfR d s).2=false):(dfD d s).2=false:=by
 obtain ⟨h1,_,_⟩:=def_eq (d:=d) (s:=s)
 rw [h1];exact h
theorem rf_end {K M:List Df} {q m j i:Nat} {d x e:Df} {ah:Bool} (h0:K=M/\q=m/\j<=d.Red.length/\jS d=nN d (d.Red.drop j)) (hd:M[i]? =some d) (hx:K[i]? =some x) (he:K[i]? =some e) (ha:ah=false) (c:(x.Red.length:Int)<=j∨ah=true):jS e=none:=by
 obtain ⟨h1,h2,h3,h4⟩:=h0
 have hxd:d=x:=Option.some.inj (hd.symm.trans (by rw [←h1];exact hx))
 have hxe:x=e:=Option.some.inj (hx.symm.trans he)
 subst hxe hxd
 exact tryA_end h4 (by rcases c with c|c;omega;rw [ha] at c;cases c)
theorem rf_dec {K M:List Df} {q m j:Nat} {d:Df} {ag ah:Bool} (c:ag=true) (h0:ah=false->K=M/\q=m/\j<=d.Red.length/\jS d=nN d (d.Red.drop j)) (h1:ah=true->jP K<jP M):2*jP K+(if ah=true then 1 else 0)<2*jP M+(if ag=true then 1 else 0):=by
 rw [if_pos c]
 cases ah with
 |true=>have:=h1 rfl;rw [if_pos rfl];omega
 |false=>rw [(h0 rfl).1];simp
theorem delP_len (p:Pg) (h:p.Defs.length<=12):(gN p).1.Defs.length<=12:=by
 unfold gN
 by_cases c:(dR p).2=0
 ·rw [if_pos c];show (p.Defs.map _).length<=12;rw [List.length_map];exact h
 ·rw [if_neg c];exact h
theorem delP_dl {p:Pg} (hS:p.Short) (hR:∀d,d∈p.Defs->d.Body.allF Lf.rng/\∀a,a∈d.Red->a.Size.rng) (h:(dR p).2=0):∀d,d∈(gN p).1.Defs->Dl d:=by
 have hD:=dl_of hS hR h
 unfold gN
 rw [if_pos h]
 intro d hd
 obtain ⟨x,hx,rfl⟩:=List.mem_map.1 hd
 exact (hD x hx).clD
end Go.Br
end
