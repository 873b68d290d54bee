/-
  Small programs and few names; the bounds of a program with tangents; the chapter's example.
  Numerals,and the first number that is free.
  Repeated subexpressions in plain Lean: occurrences,classes,replacing.
  Extraction of repeated subexpressions in plain Lean: the first definition of a class,the best class,the new definition.
  Definitions that repeat an earlier one,in plain Lean: forms with names exchanged.
  Definitions that repeat an earlier one,in plain Lean: expressions and definitions; the merging of definitions.
  What a valid program's definitions have: axes of different names,none of them a size; forms over axes and sizes alone.
  Merging of definitions in plain Lean: the whole loop.
  Bounds along the extraction of repeated subexpressions.
  The reference's pairs are the program's; extraction and merging as a whole; the chapter's examples.
  Bounds along the merging of definitions.
  What the walks over repeated subexpressions need: cells of classes,parts of a walk,sizes.
  rI of what the walks over repeated subexpressions need: searching a list of classes,names in use,the definitions behind an extraction.
  Names in use,the best class step by step,the definitions behind an extraction,extraction step by step.
  Duplicates and merging,as the walks need them: exchanged names by a table,definitions compared,pairs,what is left.
  The reference's comparison of definitions,as the walks need it.
  Conditions: none.
-/
import Derived.Test.YtkidnhldibjiaaaGreatDoorPlain2
import Derived.Lib.ItoaNum
set_option linter.unusedSimpArgs false
set_option linter.unusedVariables false
section
namespace Go.Br
open Go Go.Eng Go.L41
structure Pg.Frm (p:Pg):Prop where
 whs:∀c,c∈p.Where->c.Lin.L.length<=5864062014805
 ps:∀x,x∈p.Params->∀l,l∈x.Dims->l.L.length<=5864062014805
 ds:∀d,d∈p.Defs->(∀a,a∈d.Dims->a.Size.L.length<=5864062014805)/\∀a,a∈d.Red->a.Size.L.length<=5864062014805
structure Pg.Sm (p:Pg):Prop where
 sizes:p.Sizes.length<=80
 wh:p.Where.length<=80
 params:p.Params.length<=40
 defs:p.Defs.length<=40
 outs:p.Outs.length<=40
 frm:p.Frm
 ps:∀x,x∈p.Params->x.Dims.length<=1500
 ds:∀d,d∈p.Defs->d.Dims.length<=1500/\d.Red.length<=1500/\d.Body.wt<=1500
theorem Pg.Sm.ok {p:Pg} (h:p.Sm):p.Ok:=
 ⟨Nat.le_trans h.sizes (by decide),Nat.le_trans h.wh (by decide),Nat.le_trans h.params (by decide),Nat.le_trans h.defs (by decide),Nat.le_trans h.outs (by decide),h.frm.whs,
  fun x hx=>⟨Nat.le_trans (h.ps x hx) (by decide),h.frm.ps x hx⟩,
  fun d hd=>⟨Nat.le_trans (h.ds d hd).1 (by decide),Nat.le_trans (h.ds d hd).2.1 (by decide),(h.frm.ds d hd).1,(h.frm.ds d hd).2,Nat.le_trans (h.ds d hd).2.2 (by decide)⟩⟩
/-! ## What the loop over the definitions makes is small -/
theorem Pg.Sm.df {p:Pg} (h:p.Sm) {d:Df} (hd:d∈p.Defs):d.Dims.length<=1500/\d.Red.length<=1500/\(∀a,a∈d.Dims->a.Size.L.length<=5864062014805)/\(∀a,a∈d.Red->a.Size.L.length<=5864062014805)/\d.Body.wt<=1500:=
 ⟨(h.ds d hd).1,(h.ds d hd).2.1,(h.frm.ds d hd).1,(h.frm.ds d hd).2,(h.ds d hd).2.2⟩
end Go.Br
end
section
namespace Go.Br
open Go Go.Eng Go.L41
/-! ## Numerals -/
def tZ (n:Nat):ByteArray:=⟨(Lib.decDigits n).toArray⟩
theorem nodup_len {α:Type} [DecidableEq α]:∀{l L:List α},l.Nodup->(∀x,x∈l->x∈L)->l.length<=L.length
 |[],_,_,_=>by simp
 |x::r,L,h,hs=>by
  rw [List.nodup_cons] at h
  have hx:=hs x (by simp)
  have:=nodup_len (l:=r) (L:=L.erase x) h.2 fun y hy=>by
   have hne:y≠x:=fun e=>h.1 (e ▸ hy)
   exact (List.mem_erase_of_ne hne).2 (hs y (by simp [hy]))
  rw [List.length_erase_of_mem hx] at this
  have:=List.length_pos_of_mem hx
  rw [List.length_cons];omega
end Go.Br
end
section
namespace Go.Br
open Go Go.Eng Go.L41
/-! ## Occurrences -/
def tM (d:Df) (e:Ex):List Ax:=(d.Dims++d.Red).filter fun a=>bR (xD e) a.Name
def pK (d:Df) (e:Ex):Bool:=decide (3<e.Op)&& !gE e&&decide ((tM d e).length<=6)
def sP {α:Type} (o:Int) (l:List α):List α:=if o=11 then l.take 1 else l
theorem visA_map {α β:Type} (f:α->β) (o:Int) (l:List α):sP o (l.map f)=(sP o l).map f:=by
 unfold sP;split
 ·rw [List.map_take]
 ·rfl
theorem visA_mem {α:Type} {o:Int} {l:List α} {x:α} (h:x∈sP o l):x∈l:=by
 unfold sP at h;split at h
 ·exact List.mem_of_mem_take h
 ·exact h
mutual
def sI (d:Df):Ex->List Ex
 |.mk o n v t l i q=>(if pK d (.mk o n v t l i q)=true then [.mk o n v t l i q] else [])++(sP o (tV d q)).flatten
def tV (d:Df):List Ex->List (List Ex)
 |[]=>[]
 |a::r=>sI d a::tV d r
end
theorem occL_map (d:Df):∀l,tV d l=l.map (sI d)
 |[]=>by rw [tV];rfl
 |a::r=>by rw [tV,occL_map d r];rfl
theorem occE_eq (d:Df) (e:Ex):sI d e=(if pK d e=true then [e] else [])++((sP e.Op e.Args).map (sI d)).flatten:=by
 cases e;rw [sI,occL_map,visA_map];rfl
theorem occ_elig {d:Df} {e x:Ex} (h:x∈sI d e):pK d x=true:=by
 induction e using Ex.ind with
 |_ e ih=>
  rw [occE_eq] at h
  rcases List.mem_append.1 h with h|h
  ·by_cases c:pK d e=true
   ·rw [if_pos c,List.mem_singleton] at h;rw [h];exact c
   ·rw [if_neg c] at h;cases h
  ·obtain ⟨l,hl,hx⟩:=List.mem_flatten.1 h
   obtain ⟨a,ha,rfl⟩:=List.mem_map.1 hl
   exact ih a (visA_mem ha) hx
theorem occ_node {d:Df} {e x:Ex} (h:x∈sI d e):x∈dE e:=by
 induction e using Ex.ind with
 |_ e ih=>
  rw [occE_eq] at h
  rcases List.mem_append.1 h with h|h
  ·by_cases c:pK d e=true
   ·rw [if_pos c,List.mem_singleton] at h;rw [h,kZ];exact List.mem_cons_self
   ·rw [if_neg c] at h;cases h
  ·obtain ⟨l,hl,hx⟩:=List.mem_flatten.1 h
   obtain ⟨a,ha,rfl⟩:=List.mem_map.1 hl
   rw [kZ]
   exact List.mem_cons_of_mem _ (zHu (visA_mem ha) (ih a (visA_mem ha) hx))
/-! ## Classes -/
structure Cl where
 e:Ex
 axes:List Ax
 first:Nat
 n:Nat
 deriving DecidableEq
def hitC (x:Ex) (a:List Ax) (c:Cl):Bool:=decide (c.e=x)&&decide (c.axes=a)
def tT:List Cl->Nat->Ex->List Ax->List Cl
 |[],k,x,a=>[⟨x,a,k,1⟩]
 |c::r,k,x,a=>if hitC x a c=true then { c with n:=c.n+1 }::r else c::tT r k x a
def xF (d:Df) (k:Nat) (l:List Cl) (xs:List Ex):List Cl:=xs.foldl (fun l x=>tT l k x (tM d x)) l
def vA:List Df->Nat->List Cl->List Cl
 |[],_,l=>l
 |d::r,k,l=>vA r (k+1) (xF d k l (sI d d.Body))
structure Cl.Ok (c:Cl) (D:List Df):Prop where
 op:3<c.e.Op
 cond:gE c.e=false
 axes:c.axes.length<=6
 n:1<=c.n
 first:∃d,D[c.first]? =some d/\c.e∈dE d.Body/\c.axes=tM d c.e
theorem putC_ok {D:List Df} {l:List Cl} {k:Nat} {d:Df} {x:Ex} (hl:∀c,c∈l->c.Ok D) (hd:D[k]? =some d) (hx:pK d x=true) (hm:x∈dE d.Body):∀c,c∈tT l k x (tM d x)->c.Ok D:=by
 unfold pK at hx
 simp only [Bool.and_eq_true,decide_eq_true_eq,Bool.not_eq_true'] at hx
 induction l with
 |nil=>
  intro c hc
  rw [tT,List.mem_singleton] at hc
  subst hc
  exact ⟨hx.1.1,hx.1.2,hx.2,Nat.le_refl 1,d,hd,hm,rfl⟩
 |cons y r ih=>
  intro c hc
  rw [tT] at hc
  have hy:=hl y (by simp)
  split at hc
  ·rcases List.mem_cons.1 hc with rfl|hc
   ·exact ⟨hy.op,hy.cond,hy.axes,by show 1<=y.n+1;omega,hy.first⟩
   ·exact hl c (by simp [hc])
  ·rcases List.mem_cons.1 hc with rfl|hc
   ·exact hy
   ·exact ih (fun c h=>hl c (by simp [h])) c hc
theorem addX_ok {D:List Df} {k:Nat} {d:Df} (hd:D[k]? =some d):∀(xs:List Ex) (l:List Cl),(∀c,c∈l->c.Ok D)->(∀x,x∈xs->pK d x=true/\x∈dE d.Body)->∀c,c∈xF d k l xs->c.Ok D
 |[],l,hl,_=>hl
 |x::r,l,hl,hx=>by
  unfold xF
  rw [List.foldl_cons]
  exact addX_ok hd r _ (putC_ok hl hd (hx x (by simp)).1 (hx x (by simp)).2) fun y hy=>hx y (by simp [hy])
theorem clsG_ok {D:List Df}:∀(r:List Df) (k:Nat) (l:List Cl),D.drop k=r->(∀c,c∈l->c.Ok D)->∀c,c∈vA r k l->c.Ok D
 |[],k,l,_,hl=>by rw [vA];exact hl
 |d::r,k,l,h,hl=>by
  rw [vA]
  have hk:k<D.length:=by
   have:=congrArg List.length h
   rw [List.length_drop,List.length_cons] at this;omega
  have hd:D[k]? =some d:=by
   have:=List.getElem?_drop (xs:=D) (i:=k) (j:=0)
   rw [h] at this;simpa using this.symm
  refine clsG_ok r (k+1) _ ?_ (addX_ok hd _ _ hl fun x hx=>⟨occ_elig hx,occ_node hx⟩)
  rw [qR hd] at h
  injection h
def xM (D:List Df):List Cl:=vA D 0 []
theorem clsP_ok (D:List Df):∀c,c∈xM D->c.Ok D:=clsG_ok D 0 [] rfl fun c hc=>by cases hc
mutual
def mS (d:Df) (c:Cl) (y:Ex):Ex->Ex
 |.mk o n v t l i q=>if (Ex.mk o n v t l i q)=c.e/\tM d (.mk o n v t l i q)=c.axes then y else .mk o n v t l i (if o=11 then (pD d c y q).take 1++q.drop 1 else pD d c y q)
def pD (d:Df) (c:Cl) (y:Ex):List Ex->List Ex
 |[]=>[]
 |a::r=>mS d c y a::pD d c y r
end
theorem zMp (d:Df) (c:Cl) (y:Ex):∀l,pD d c y l=l.map (mS d c y)
 |[]=>by rw [pD];rfl
 |a::r=>by rw [pD,zMp d c y r];rfl
def pQ (e:Ex) (q:List Ex):Ex:=.mk e.Op e.Name e.Val e.Ty e.Lin e.Idx q
def pI (d:Df) (c:Cl) (y:Ex) (o:Int) (i:Nat) (a:Ex):Ex:=if ¬o=11∨i=0 then mS d c y a else a
def lV (d:Df) (c:Cl) (y:Ex) (o:Int):Nat->List Ex->List Ex
 |_,[]=>[]
 |i,a::r=>pI d c y o i a::lV d c y o (i+1) r
theorem replQ_all (d:Df) (c:Cl) (y:Ex) {o:Int} (h:¬o=11):∀(l:List Ex) (i:Nat),lV d c y o i l=l.map (mS d c y)
 |[],i=>rfl
 |a::r,i=>by rw [lV,replQ_all d c y h r,pI,if_pos (.inl h)];rfl
theorem replQ_none (d:Df) (c:Cl) (y:Ex):∀(l:List Ex) (i:Nat),0<i->lV d c y 11 i l=l
 |[],i,_=>rfl
 |a::r,i,h=>by rw [lV,replQ_none d c y r (i+1) (by omega),pI,if_neg (by omega)]
theorem replX_eq (d:Df) (c:Cl) (y e:Ex):mS d c y e=if e=c.e/\tM d e=c.axes then y else pQ e (lV d c y e.Op 0 e.Args):=by
 cases e with
 |mk o n v t l i q=>
  rw [mS]
  split
  ·rfl
  ·unfold pQ
   congr 1
   show _=lV d c y o 0 q
   by_cases h:o=11
   ·rw [if_pos h,h,zMp]
    cases q with
    |nil=>rfl
    |cons a r=>rw [lV,replQ_none d c y r 1 (by decide),pI,if_pos (.inr rfl)];simp
   ·rw [if_neg h,zMp,replQ_all d c y h]
def Ex.ops (e:Ex):Prop:=∀x,x∈dE e->1<=x.Op
end Go.Br
end
section
namespace Go.Br
open Go Go.Eng Go.L41
/-! ## A class begins with its first occurrence -/
def tNm (k:Nat):ByteArray:=bs [116]++tZ k
def xG (p:Pg):List ByteArray:=p.Sizes++p.Params.map Pm.Name++p.Defs.flatMap fun d=>d.Name::bQ d
def frsK (L:List ByteArray):Nat:=((List.range (L.length+1)).find? fun k=> !bR L (tNm k)).getD 0
def xK (p:Pg):ByteArray:=tNm (frsK (xG p))
def vV (p:Pg) (c:Cl):Df:=⟨xK p,(fM p.en (bQ (p.Defs.getD c.first ⟨bs [],zTy,[],[],0,zEx⟩)) c.e).1,c.axes,[],0,c.e⟩
def tK (p:Pg) (c:Cl):Ex:=.mk 3 (xK p) ⟨0,0⟩ zTy ⟨0,[]⟩ (c.axes.map fun a=>⟨lR a.Name,bs [],[]⟩) []
def vW (p:Pg) (c:Cl) (d:Df):Df:=⟨d.Name,d.T,d.Dims,d.Red,d.Fold,mS d c (tK p c) d.Body⟩
def xL (p:Pg) (c:Cl):Pg:=⟨p.Sizes,p.Where,p.Params,p.Defs.take c.first++vV p c::(p.Defs.drop c.first).map (vW p c),p.Outs⟩
theorem extP_len {p:Pg} {c:Cl}:(xL p c).Defs.length=p.Defs.length+1:=by
 show (p.Defs.take c.first++vV p c::(p.Defs.drop c.first).map (vW p c)).length=_
 simp only [List.length_append,List.length_cons,List.length_map,List.length_take,List.length_drop];omega
end Go.Br
end
section
namespace Go.Br
open Go Go.Eng Go.L41
/-! ## Ascending monomials -/
def xN (l:List Mono):Prop:=l.Pairwise fun a b=>bY a.Name b.Name=true
theorem monos_asc:∀{p:Option ByteArray} {l:List Mono},dC p l=true->xN l
 |_,[],_=>List.Pairwise.nil
 |p,x::r,h=>by
  simp only [dC,Bool.and_eq_true] at h
  exact List.Pairwise.cons (fun m hm=>zRj h.2 m hm) (monos_asc h.2)
theorem asc_ne {x y:ByteArray} (h:bY x y=true):x≠y:=by rintro rfl;rw [zHm] at h;cases h
theorem asc_nodup {l:List Mono} (h:xN l):(l.map Mono.Name).Nodup:=by
 unfold List.Nodup
 rw [List.pairwise_map]
 exact h.imp fun h=>asc_ne h
end Go.Br
end
section
namespace Go.Br
open Go Go.Eng Go.L41
section
variable {A B:List ByteArray}
def xH (A B:List ByteArray) (l:Lf):Prop:=bJ l=true/\∀m,m∈l.L->m.Name ∉ B->m.Name ∉ A
end
/-! ## Definitions -/
theorem namesD_len (d:Df):(bQ d).length=d.Dims.length+d.Red.length:=by unfold bQ;simp
structure twnOk (a b:Df):Prop where
 na:(bQ a).Nodup
 nb:(bQ b).Nodup
 fa:a.Body.allF fun l=>bJ l=true
 fb:b.Body.allF (xH (bQ a) (bQ b))
end Go.Br
end
section
namespace Go.Br
open Go Go.Eng Go.L41
theorem defR_axes {n:En} {d:Df} {t:List ByteArray} (h:gX n d t=0):gI n.sz n.sz (d.Dims++d.Red)=0:=by
 have h1:dH d.Name t=0:=Decidable.byContradiction fun c=>by rw [zSs c] at h;exact c h
 have h2:dW d.T=true:=by
  cases c:dW d.T with
  |true=>rfl
  |false=>rw [zKh h1 c] at h;cases h
 have h3:¬(6<d.Dims.length∨6<d.Red.length):=fun c=>by rw [zKg h1 h2 c] at h;cases h
 rw [zSr h1 h2 h3] at h
 exact Decidable.byContradiction fun c=>by rw [if_neg c] at h;exact c h
theorem zJy {k:ByteArray->Bool} {l:List Mono} (h:knL k l=true):∀m,m∈l->k m.Name=true:=fun m hm=>List.all_eq_true.1 h m hm
theorem zIr {k:ByteArray->Bool} {l:Lf} (h:jI k l=0):knL k l.L=true:=by
 unfold jI at h
 cases c:knL k l.L with
 |true=>rfl
 |false=>rw [c] at h;cases h
theorem formsK_of {k:ByteArray->Bool} {l:List Lf} (h:gW k l=0):∀x,x∈l->knL k x.L=true:=by
 unfold gW at h
 cases c:l.all (fun x=>knL k x.L) with
 |true=>exact List.all_eq_true.1 c
 |false=>rw [c] at h;cases h
theorem zeroL_L {l:Lf} (h:nA l=true):l.L=[]:=by
 unfold nA at h
 simp only [Bool.and_eq_true,decide_eq_true_eq] at h
 exact List.eq_nil_of_length_eq_zero (by omega)
theorem zKa {n:En} {k:ByteArray->Bool}:∀l:List Ix,dU n k l=0->∀x,x∈l->dD n k x=0
 |[],_,x,hx=>by cases hx
 |y::r,h,x,hx=>by
  rw [dU] at h
  by_cases c:dD n k y=0
  ·rw [decide_eq_true c,cond_true] at h
   rcases List.mem_cons.1 hx with rfl|hx
   ·exact c
   ·exact zKa r h x hx
  ·rw [decide_eq_false c,cond_false] at h;exact absurd h c
theorem indexK_of {n:En} {k:ByteArray->Bool} {x:Ix} (hw:jK x=true) (h:dD n k x=0):∀l,l∈x.Lin::x.At->∀m,m∈l.L->k m.Name=true:=by
 unfold jK at hw
 unfold dD at h
 by_cases c:x.From=bs []
 ·rw [decide_eq_true c,cond_true] at hw h
  have hA:x.At=[]:=List.eq_nil_of_length_eq_zero (by have:=of_decide_eq_true hw;omega)
  intro l hl
  rw [hA,List.mem_singleton] at hl
  subst hl
  exact zJy (zIr h)
 ·rw [decide_eq_false c,cond_false] at hw h
  cases c1:(n.find x.From).ok with
  |false=>rw [c1] at h;cases h
  |true=>
   rw [c1,Bool.not_true,cond_false] at h
   by_cases c2:(n.find x.From).ty.Kind=3
   ·rw [decide_eq_true c2,Bool.not_true,cond_false] at h
    by_cases c3:x.At.length=(n.find x.From).dims.length
    ·rw [decide_eq_true c3,Bool.not_true,cond_false] at h
     intro l hl m hm
     rcases List.mem_cons.1 hl with rfl|hl
     ·rw [zeroL_L hw] at hm;cases hm
     ·exact zJy (formsK_of h l hl) m hm
    ·rw [decide_eq_false c3,Bool.not_false,cond_true] at h;cases h
   ·rw [decide_eq_false c2,Bool.not_false,cond_true] at h;cases h
theorem node_known {n:En} {k:ByteArray->Bool} {e:Ex} {tys:List Ty} (hs:gT e=true) (h:(ofN n k e tys).2=0):∀l,l∈dL e->∀m,m∈l.L->k m.Name=true:=by
 unfold gT at hs
 simp only [Bool.and_eq_true,Bool.not_eq_true',Bool.and_eq_false_iff,Bool.or_eq_false_iff,Bool.not_eq_false',decide_eq_true_eq,decide_eq_false_iff_not,List.all_eq_true] at hs
 obtain ⟨⟨⟨⟨⟨_,_⟩,_⟩,h4⟩,h5⟩,h6⟩:=hs
 intro l hl m hm
 unfold dL at hl
 rcases List.mem_cons.1 hl with rfl|hl
 ·by_cases c:e.Op=2
  ·unfold ofN at h
   rw [if_neg (by omega),if_pos c] at h
   exact zJy (zIr h) m hm
  ·rcases h4 with h4|h4
   ·exact absurd h4 c
   ·rw [zeroL_L h4] at hm;cases hm
 ·obtain ⟨x,hx,hlx⟩:=List.mem_flatMap.1 hl
  have h3:e.Op=3:=by
   rcases h5 with h5|h5
   ·exact h5
   ·have:=List.length_pos_of_mem hx
    exact absurd (show (0:Int)<e.Idx.length by omega) (by simpa using h5.2)
  unfold ofN at h
  rw [if_neg (by omega),if_neg (by omega),if_pos h3] at h
  exact indexK_of (h6 x hx) (zKa _ (readK_of h).2.2 x hx) l hlx m hm
theorem zIl {N:Ex->List Ty->Ty×Int}:∀l:List Ex,(bF N l).2=0->∀a,a∈l->(bE N a).2=0
 |[],_,a,ha=>by cases ha
 |x::r,h,a,ha=>by
  obtain ⟨h1,h2,_⟩:=zGd h
  rcases List.mem_cons.1 ha with rfl|ha
  ·exact h1
  ·exact zIl r h2 a ha
theorem tree_known {n:En} {k:ByteArray->Bool} (e:Ex):(∀x,x∈dE e->bS x=0)->(bE (ofN n k) e).2=0->e.allF fun l=>∀m,m∈l.L->k m.Name=true:=by
 induction e using Ex.ind with
 |_ e ih=>
  intro hn h
  obtain ⟨h1,h2⟩:=zEj h
  rw [h2] at h
  exact zGc (node_known (zDl (hn e (by rw [kZ];exact List.mem_cons_self))).1 h) fun a ha=>
   ih a ha (fun x hx=>hn x (by rw [kZ];exact List.mem_cons_of_mem _ (zHu ha hx))) (zIl _ h1 a ha)
theorem typed_known {n:En} {vars:List ByteArray} {e:Ex} (h:(fM n vars e).2=0):e.allF fun l=>∀m,m∈l.L->knB n.sz vars m.Name=true:=by
 obtain ⟨h1,_,h3⟩:=zKs h
 exact tree_known e (zGi (wS h1)) h3
end Go.Br
end
section
namespace Go.Br
open Go Go.Eng Go.L41
/-! ## The reference's renaming of a tensor -/
end Go.Br
end
section
namespace Go.Br
open Go Go.Eng Go.L41
def Ex.sz (e:Ex):Nat:=(dE e).length
def szQ (l:List Ex):Nat:=(bK l).length
theorem sz_eq (e:Ex):e.sz=1+szQ e.Args:=by unfold Ex.sz szQ;rw [kZ,List.length_cons];omega
theorem zPa (a:Ex) (r:List Ex):szQ (a::r)=a.sz+szQ r:=by unfold szQ Ex.sz;rw [bK,List.length_append]
theorem sz_pos (e:Ex):1<=e.sz:=by rw [sz_eq];omega
theorem setArgs_args (e:Ex) (q:List Ex):(pQ e q).Args=q:=rfl
theorem setArgs_wt (e:Ex) (q:List Ex):(pQ e q).wt+bL e.Args=e.wt+bL q:=by
 rw [Ex.wt_eq,Ex.wt_eq e];show 1+e.Lin.L.length+e.Idx.length+fH e.Idx+bL q+bL e.Args=_;omega
section
variable {d:Df} {c:Cl} {y:Ex}
theorem replQ_sz {o:Int} (hy:y.sz=1):∀(l:List Ex) (i:Nat),(∀a,a∈l->(mS d c y a).sz<=a.sz)->szQ (lV d c y o i l)<=szQ l
 |[],i,_=>Nat.le_refl _
 |a::r,i,h=>by
  rw [lV,zPa,zPa]
  have h1:=replQ_sz (o:=o) hy r (i+1) fun x hx=>h x (by simp [hx])
  have h2:(pI d c y o i a).sz<=a.sz:=by
   unfold pI;split
   ·exact h a (by simp)
   ·exact Nat.le_refl _
  omega
theorem repl_sz (hy:y.sz=1) (e:Ex):(mS d c y e).sz<=e.sz:=by
 induction e using Ex.ind with
 |_ e ih=>
  rw [replX_eq]
  split
  ·rw [hy];exact sz_pos e
  ·rw [sz_eq,sz_eq e,setArgs_args]
   have:=replQ_sz (d:=d) (c:=c) (o:=e.Op) hy e.Args 0 ih
   omega
theorem replQ_wt {o:Int}:∀(l:List Ex) (i:Nat),(∀a,a∈l->(mS d c y a).wt<=a.wt+y.wt*a.sz)->bL (lV d c y o i l)<=bL l+y.wt*szQ l
 |[],i,_=>by rw [lV];exact Nat.le_add_right _ _
 |a::r,i,h=>by
  rw [lV,zPa,bL,bL,Nat.mul_add]
  have h1:=replQ_wt (o:=o) r (i+1) fun x hx=>h x (by simp [hx])
  have h2:(pI d c y o i a).wt<=a.wt+y.wt*a.sz:=by
   unfold pI;split
   ·exact h a (by simp)
   ·exact Nat.le_add_right _ _
  omega
theorem repl_wt (e:Ex):(mS d c y e).wt<=e.wt+y.wt*e.sz:=by
 induction e using Ex.ind with
 |_ e ih=>
  rw [replX_eq]
  split
  ·have:=Nat.mul_le_mul_left y.wt (sz_pos e)
   omega
  ·have h:=replQ_wt (d:=d) (c:=c) (o:=e.Op) e.Args 0 ih
   have h1:=setArgs_wt e (lV d c y e.Op 0 e.Args)
   rw [sz_eq e,Nat.mul_add]
   omega
end
theorem newR_sz (p:Pg) (c:Cl):(tK p c).sz=1:=by rw [sz_eq];rfl
theorem varL_len (s:ByteArray):(lR s).L.length<=1:=by unfold lR;cases bD s<;>simp
theorem vars_wt:∀l:List Ax,fH (l.map fun a=>(⟨lR a.Name,bs [],[]⟩:Ix))<=l.length
 |[]=>Nat.le_refl _
 |a::r=>by
  rw [List.map_cons,fH,List.length_cons]
  have h1:=vars_wt r
  have h2:=varL_len a.Name
  have h3:(⟨lR a.Name,bs [],[]⟩:Ix).wt=(lR a.Name).L.length:=by unfold Ix.wt;rfl
  omega
theorem newR_wt (p:Pg) (c:Cl):(tK p c).wt<=1+2*c.axes.length:=by
 rw [Ex.wt_eq]
 have:=vars_wt c.axes
 show 1+0+(c.axes.map _).length+fH (c.axes.map _)+bL []<=_
 rw [List.length_map,bL];omega
structure xtD (k:Nat) (d:Df):Prop where
 dims:d.Dims.length<=1500
 red:d.Red.length<=1500
 fd:∀a,a∈d.Dims->a.Size.L.length<=5864062014805
 fr:∀a,a∈d.Red->a.Size.L.length<=5864062014805
 sz:d.Body.sz<=1500
 wt:d.Body.wt<=1500+19500*k
structure Pg.Xt (k:Nat) (p:Pg):Prop where
 sizes:p.Sizes.length<=80
 wh:p.Where.length<=80
 params:p.Params.length<=40
 outs:p.Outs.length<=40
 defs:p.Defs.length<=40+k
 whs:∀c,c∈p.Where->c.Lin.L.length<=5864062014805
 ps:∀x,x∈p.Params->x.Dims.length<=1500/\∀l,l∈x.Dims->l.L.length<=5864062014805
 ds:∀d,d∈p.Defs->xtD k d
theorem Pg.Xt.ok {p:Pg} {k:Nat} (h:p.Xt k) (hk:k<=64):p.Ok:=
 ⟨Nat.le_trans h.sizes (by decide),Nat.le_trans h.wh (by decide),Nat.le_trans h.params (by decide),by have:=h.defs;omega,Nat.le_trans h.outs (by decide),h.whs,
  fun x hx=>⟨Nat.le_trans (h.ps x hx).1 (by decide),(h.ps x hx).2⟩,
  fun d hd=>⟨by have:=(h.ds d hd).dims;omega,by have:=(h.ds d hd).red;omega,(h.ds d hd).fd,(h.ds d hd).fr,by have:=(h.ds d hd).wt;omega⟩⟩
theorem node_sz {e x:Ex} (h:x∈dE e):x.sz<=e.sz:=by
 induction e using Ex.ind with
 |_ e ih=>
  rw [kZ] at h
  rcases List.mem_cons.1 h with rfl|h
  ·exact Nat.le_refl _
  ·have:∀l:List Ex,(∀a,a∈l->a∈e.Args)->x∈bK l->x.sz<=szQ l:=by
    intro l
    induction l with
    |nil=>intro _ hx;rw [bK] at hx;cases hx
    |cons a r ihr=>
     intro hl hx
     rw [bK] at hx
     rw [zPa]
     rcases List.mem_append.1 hx with hx|hx
     ·have:=ih a (hl a (by simp)) hx;omega
     ·have:=ihr (fun b hb=>hl b (by simp [hb])) hx;omega
   have:=this e.Args (fun a ha=>ha) h
   rw [sz_eq e];omega
theorem Pg.Xt.step {p:Pg} {k:Nat} {c:Cl} (h:p.Xt k) (hc:c∈xM p.Defs):(xL p c).Xt (k+1):=by
 have hk:=clsP_ok _ c hc
 obtain ⟨d0,hd0,hn0,ha0⟩:=hk.first
 have h0:=h.ds d0 (zX hd0)
 have hy:=newR_wt p c
 have hax:=hk.axes
 refine ⟨h.sizes,h.wh,h.params,h.outs,by rw [extP_len];have:=h.defs;omega,h.whs,h.ps,fun d hd=>?_⟩
 have hd:d∈p.Defs.take c.first++vV p c::(p.Defs.drop c.first).map (vW p c):=hd
 rcases List.mem_append.1 hd with hd|hd
 ·have:=h.ds d (List.mem_of_mem_take hd)
  exact ⟨this.dims,this.red,this.fd,this.fr,this.sz,by have:=this.wt;omega⟩
 ·rcases List.mem_cons.1 hd with rfl|hd
  ·refine ⟨by show c.axes.length<=_;omega,by show 0<=_;omega,(fun a ha=>?_),(fun a ha=>by cases ha),Nat.le_trans (node_sz hn0) h0.sz,by have:=zDc _ _ hn0;have:=h0.wt;show c.e.wt<=_;omega⟩
   have ha:a∈c.axes:=ha
   rw [ha0] at ha
   have hm:=(List.mem_filter.1 ha).1
   rcases List.mem_append.1 hm with hm|hm
   ·exact h0.fd a hm
   ·exact h0.fr a hm
  ·obtain ⟨x,hx,rfl⟩:=List.mem_map.1 hd
   have h1:=h.ds x (List.mem_of_mem_drop hx)
   refine ⟨h1.dims,h1.red,h1.fd,h1.fr,Nat.le_trans (repl_sz (newR_sz p c) _) h1.sz,?_⟩
   have h2:=repl_wt (d:=x) (c:=c) (y:=tK p c) x.Body
   have h3:=Nat.mul_le_mul (show (tK p c).wt<=13 by omega) h1.sz
   have h4:=h1.wt
   show (mS x c (tK p c) x.Body).wt<=_
   omega
end Go.Br
end
section
set_option maxRecDepth 10000
namespace Go.Br
open Go Go.Eng Go.L41
/-! ## The reference's pairs -/
end Go.Br
end
section
namespace Go.Br
open Go Go.Eng Go.L41
end Go.Br
end
section
namespace Go.Br
open Go Go.Eng Go.L41
def Cl.cells (c:Cl):List C:=[cI c.e.Op,cS c.e.Name,cI c.e.Val.N,cI c.e.Val.D,cI c.e.Ty.Kind,cI c.e.Ty.Bits,cI c.e.Ty.Frac,cI c.e.Ty.Round,cI c.e.Ty.Over,cI c.e.Lin.K,.sl 2 (c.e.Lin.L.map Mono.cells),.sl 4 (c.e.Idx.map Ix.cells),.sl 13 (c.e.Args.map Ex.cells),.sl 3 (c.axes.map Ax.cells),cI c.first,cI c.n]
end Go.Br
end
section
namespace Go.Br
open Go Go.Eng Go.L41
end Go.Br
end
section
namespace Go.Br
open Go Go.Eng Go.L41
/-! ## Names in use -/
end Go.Br
end
section
namespace Go.Br
open Go Go.Eng Go.L41
end Go.Br
end
section
namespace Go.Br
open Go Go.Eng Go.L41
section
variable {A B:List ByteArray}
end
/-! ## Duplicates -/
end Go.Br
end
