/-
  Small programs and few names; the bounds of a program with tangents; the chapter's example.
  Numerals,and the first number that is free.
  Repeated subexpressions in plain Lean: occurrences,classes,replacing.
  Extraction of repeated subexpressions in plain Lean: the first definition of a class,the best class,the new definition.
  Definitions that repeat an earlier one,in plain Lean: forms with names exchanged.
  Definitions that repeat an earlier one,in plain Lean: expressions and definitions; the merging of definitions.
  What a valid program's definitions have: axes of different names,none of them a size; forms over axes and sizes alone.
  Merging of definitions in plain Lean: the whole loop.
  Bounds along the extraction of repeated subexpressions.
  The reference's pairs are the program's; extraction and merging as a whole; the chapter's examples.
  Bounds along the merging of definitions.
  What the walks over repeated subexpressions need: cells of classes,parts of a walk,sizes.
  More of what the walks over repeated subexpressions need: searching a list of classes,names in use,the definitions behind an extraction.
  Names in use,the best class step by step,the definitions behind an extraction,extraction step by step.
  Duplicates and merging,as the walks need them: exchanged names by a table,definitions compared,pairs,what is left.
  The reference's comparison of definitions,as the walks need it.
  Conditions: none.
-/
import Derived.Test.YtkidnhldibjiaaaGreatDoorPlain2
import Derived.Lib.ItoaNum
set_option linter.unusedSimpArgs false
set_option linter.unusedVariables false
section
namespace Go.Br
open Go Go.Eng Go.L41
def dWt (d:Df):Nat:=d.Dims.length+d.Red.length+weighE d.Body 1500
def smD:List Df->Nat->Nat
 |[],n=>n
 |d::r,n=>if n<=1500 then smD r (n+dWt d) else n
def smP:List Pm->Nat->Nat
 |[],n=>n
 |x::r,n=>if n<=1500 then smP r (n+x.Dims.length) else n
def lensP (p:Pg):Bool:=((((!decide (40<p.Params.length)&& !decide (40<p.Defs.length))&& !decide (40<p.Outs.length))&& !decide (80<p.Sizes.length))&& !decide (80<p.Where.length))
def smlP (p:Pg):Bool:=lensP p&&decide (smP p.Params (smD p.Defs 0)<=1500)
theorem smD_ge:∀(l:List Df) (n:Nat),n<=smD l n
 |[],n=>Nat.le_refl _
 |d::r,n=>by
  rw [smD]
  split
  ·have:=smD_ge r (n+dWt d);omega
  ·exact Nat.le_refl _
theorem smP_ge:∀(l:List Pm) (n:Nat),n<=smP l n
 |[],n=>Nat.le_refl _
 |d::r,n=>by
  rw [smP]
  split
  ·have:=smP_ge r (n+d.Dims.length);omega
  ·exact Nat.le_refl _
theorem smD_all:∀(l:List Df) (n:Nat),smD l n<=1500->∀d,d∈l->dWt d<=1500
 |x::r,n,h,d,hd=>by
  rw [smD] at h
  by_cases c:n<=1500
  ·rw [if_pos c] at h
   rcases List.mem_cons.1 hd with rfl|hd
   ·have:=smD_ge r (n+dWt d);omega
   ·exact smD_all r _ h d hd
  ·rw [if_neg c] at h;exact absurd h c
theorem smP_all:∀(l:List Pm) (n:Nat),smP l n<=1500->∀d,d∈l->d.Dims.length<=1500
 |x::r,n,h,d,hd=>by
  rw [smP] at h
  by_cases c:n<=1500
  ·rw [if_pos c] at h
   rcases List.mem_cons.1 hd with rfl|hd
   ·have:=smP_ge r (n+d.Dims.length);omega
   ·exact smP_all r _ h d hd
  ·rw [if_neg c] at h;exact absurd h c
theorem smD_next {l:List Df} {k n N:Nat} {d:Df} (h:l[k]? =some d) (hp:N=smD (l.drop k) n) (c:n<=1500):N=smD (l.drop (k+1)) (n+dWt d):=by
 rw [hp,qI h,smD,if_pos c]
theorem smD_end {l:List Df} {k n N:Nat} (hp:N=smD (l.drop k) n) (c:¬(k<l.length/\n<=1500)):N=n:=by
 rw [hp]
 by_cases h:k<l.length
 ·obtain ⟨x,hx⟩:=qP l k h
  rw [qI hx,smD,if_neg (fun d=>c ⟨h,d⟩)]
 ·rw [kB h,smD]
theorem smP_next {l:List Pm} {k n N:Nat} {d:Pm} (h:l[k]? =some d) (hp:N=smP (l.drop k) n) (c:n<=1500):N=smP (l.drop (k+1)) (n+d.Dims.length):=by
 rw [hp,qI h,smP,if_pos c]
theorem smP_end {l:List Pm} {k n N:Nat} (hp:N=smP (l.drop k) n) (c:¬(k<l.length/\n<=1500)):N=n:=by
 rw [hp]
 by_cases h:k<l.length
 ·obtain ⟨x,hx⟩:=qP l k h
  rw [qI hx,smP,if_neg (fun d=>c ⟨h,d⟩)]
 ·rw [kB h,smP]
structure Pg.Frm (p:Pg):Prop where
 whs:∀c,c∈p.Where->c.Lin.L.length<=5864062014805
 ps:∀x,x∈p.Params->∀l,l∈x.Dims->l.L.length<=5864062014805
 ds:∀d,d∈p.Defs->(∀a,a∈d.Dims->a.Size.L.length<=5864062014805)/\∀a,a∈d.Red->a.Size.L.length<=5864062014805
structure Pg.Sm (p:Pg):Prop where
 sizes:p.Sizes.length<=80
 wh:p.Where.length<=80
 params:p.Params.length<=40
 defs:p.Defs.length<=40
 outs:p.Outs.length<=40
 frm:p.Frm
 ps:∀x,x∈p.Params->x.Dims.length<=1500
 ds:∀d,d∈p.Defs->d.Dims.length<=1500/\d.Red.length<=1500/\d.Body.wt<=1500
theorem sml_is {p:Pg} (h:smlP p=true) (hf:p.Frm):p.Sm:=by
 unfold smlP lensP at h
 simp only [Bool.and_eq_true,Bool.not_eq_true',decide_eq_false_iff_not,decide_eq_true_eq] at h
 obtain ⟨⟨⟨⟨⟨h1,h2⟩,h3⟩,h4⟩,h5⟩,h6⟩:=h
 refine ⟨by omega,by omega,by omega,by omega,by omega,hf,smP_all _ _ h6,fun d hd=>?_⟩
 have h7:=smD_all p.Defs 0 (Nat.le_trans (smP_ge _ _) h6) d hd
 unfold dWt at h7
 have:=weighE_wt d.Body 1500 (by omega)
 exact ⟨by omega,by omega,by omega⟩
theorem Pg.Sm.ok {p:Pg} (h:p.Sm):p.Ok:=
 ⟨Nat.le_trans h.sizes (by decide),Nat.le_trans h.wh (by decide),Nat.le_trans h.params (by decide),Nat.le_trans h.defs (by decide),Nat.le_trans h.outs (by decide),h.frm.whs,
  fun x hx=>⟨Nat.le_trans (h.ps x hx) (by decide),h.frm.ps x hx⟩,
  fun d hd=>⟨Nat.le_trans (h.ds d hd).1 (by decide),Nat.le_trans (h.ds d hd).2.1 (by decide),(h.frm.ds d hd).1,(h.frm.ds d hd).2,Nat.le_trans (h.ds d hd).2.2 (by decide)⟩⟩
/-! ## What the loop over the definitions makes is small -/
theorem Pg.Sm.df {p:Pg} (h:p.Sm) {d:Df} (hd:d∈p.Defs):d.Dims.length<=1500/\d.Red.length<=1500/\(∀a,a∈d.Dims->a.Size.L.length<=5864062014805)/\(∀a,a∈d.Red->a.Size.L.length<=5864062014805)/\d.Body.wt<=1500:=
 ⟨(h.ds d hd).1,(h.ds d hd).2.1,(h.frm.ds d hd).1,(h.frm.ds d hd).2,(h.ds d hd).2.2⟩
end Go.Br
end
section
namespace Go.Br
open Go Go.Eng Go.L41
/-! ## Numerals -/
def decB (n:Nat):ByteArray:=⟨(Lib.decDigits n).toArray⟩
def valD (l:List UInt8):Nat:=l.foldl (fun a c=>a*10+(c.toNat-48)) 0
theorem byte_dig {n:Nat} (h:n<10):(UInt8.ofNat (48+n)).toNat=48+n:=by
 rw [UInt8.toNat_ofNat'];omega
theorem dec_big {u:Nat} (h:¬u<10):Lib.decDigits u=Lib.decDigits (u/10)++[UInt8.ofNat (48+u%10)]:=by rw [Lib.decDigits,dif_neg h]
theorem valD_dec (u:Nat):valD (Lib.decDigits u)=u:=by
 induction u using Nat.strongRecOn with
 |_ u ih=>
  by_cases h:u<10
  ·rw [Lib.decDigits_one h]
   unfold valD
   simp only [List.foldl_cons,List.foldl_nil]
   rw [byte_dig h];omega
  ·rw [dec_big h]
   unfold valD at *
   rw [List.foldl_append,ih (u/10) (by omega)]
   simp only [List.foldl_cons,List.foldl_nil]
   rw [byte_dig (by omega)];omega
theorem decB_inj {j k:Nat} (h:decB j=decB k):j=k:=by
 unfold decB at h
 have h:=congrArg (fun b:ByteArray=>valD b.data.toList) h
 have h:valD (Lib.decDigits j)=valD (Lib.decDigits k):=h
 rw [valD_dec,valD_dec] at h;exact h
theorem nDig_le:∀(k u:Nat),1<=k->u<10^k->Lib.nDigits u<=k
 |0,u,h,_=>by omega
 |k+1,u,_,h=>by
  by_cases h1:u<10
  ·rw [Lib.nDigits_small h1];omega
  ·rw [Lib.nDigits_big h1]
   by_cases hk:k=0
   ·subst hk;omega
   ·have:=nDig_le k (u/10) (by omega) (by rw [Nat.pow_succ] at h;omega)
    omega
theorem decB_size {n:Nat} (h:n<10^19):(decB n).size<=19:=by
 have:(decB n).size=(Lib.decDigits n).length:=by unfold decB;simp [ByteArray.size]
 rw [this,Lib.decDigits_length]
 exact nDig_le 19 n (by omega) h
theorem app_left {a b c:ByteArray} (h:a++b=a++c):b=c:=by
 have:=congrArg (fun x:ByteArray=>x.data.toList) h
 simp only [ByteArray.data_append,Array.toList_append] at this
 have:=List.append_cancel_left this
 apply ByteArray.ext
 exact Array.toList_inj.1 this
theorem zOp {α:Type} [DecidableEq α]:∀{l L:List α},l.Nodup->(∀x,x∈l->x∈L)->l.length<=L.length
 |[],_,_,_=>by simp
 |x::r,L,h,hs=>by
  rw [List.nodup_cons] at h
  have hx:=hs x (by simp)
  have:=zOp (l:=r) (L:=L.erase x) h.2 fun y hy=>by
   have hne:y≠x:=fun e=>h.1 (e ▸ hy)
   exact (List.mem_erase_of_ne hne).2 (hs y (by simp [hy]))
  rw [List.length_erase_of_mem hx] at this
  have:=List.length_pos_of_mem hx
  rw [List.length_cons];omega
end Go.Br
end
section
namespace Go.Br
open Go Go.Eng Go.L41
/-! ## Occurrences -/
def axsN (d:Df) (e:Ex):List Ax:=(d.Dims++d.Red).filter fun a=>hasB (indexW e) a.Name
theorem axsN_T (d:Df) (e:Ex):axsN d e=(d.Dims++d.Red).filter fun a=>hasB (indexT e) a.Name:=by
 unfold axsN
 exact List.filter_congr fun a _=>by rw [indexW_has,indexT_has]
def eligT (d:Df) (e:Ex):Bool:=decide (3<e.Op)&& !isCond e&&decide ((axsN d e).length<=6)
def eligR (d:Df) (e:Ex):Bool:= !(((decide (e.Op=1)||decide (e.Op=2))||decide (e.Op=3))||isCond e)&&decide ((axsN d e).length<=6)
theorem elig_eq {d:Df} {e:Ex} (h:1<=e.Op):eligR d e=eligT d e:=by
 unfold eligR eligT
 congr 1
 by_cases c:3<e.Op
 ·rw [decide_eq_true c,decide_eq_false (show ¬e.Op=1 by omega),decide_eq_false (show ¬e.Op=2 by omega),decide_eq_false (show ¬e.Op=3 by omega)];rfl
 ·rw [decide_eq_false c]
  have:(decide (e.Op=1)||decide (e.Op=2))||decide (e.Op=3)=true:=by simp;omega
  simp [this]
  omega
def visA {α:Type} (o:Int) (l:List α):List α:=if o=11 then l.take 1 else l
theorem visA_map {α β:Type} (f:α->β) (o:Int) (l:List α):visA o (l.map f)=(visA o l).map f:=by
 unfold visA;split
 ·rw [List.map_take]
 ·rfl
theorem zMn {α:Type} {o:Int} {l:List α} {x:α} (h:x∈visA o l):x∈l:=by
 unfold visA at h;split at h
 ·exact List.mem_of_mem_take h
 ·exact h
mutual
def occE (d:Df):Ex->List Ex
 |.mk o n v t l i q=>(if eligT d (.mk o n v t l i q)=true then [.mk o n v t l i q] else [])++(visA o (occL d q)).flatten
def occL (d:Df):List Ex->List (List Ex)
 |[]=>[]
 |a::r=>occE d a::occL d r
end
theorem occL_map (d:Df):∀l,occL d l=l.map (occE d)
 |[]=>by rw [occL];rfl
 |a::r=>by rw [occL,occL_map d r];rfl
theorem zOn (d:Df) (e:Ex):occE d e=(if eligT d e=true then [e] else [])++((visA e.Op e.Args).map (occE d)).flatten:=by
 cases e;rw [occE,occL_map,visA_map];rfl
theorem zMx {d:Df} {e x:Ex} (h:x∈occE d e):eligT d x=true:=by
 induction e using Ex.ind with
 |_ e ih=>
  rw [zOn] at h
  rcases List.mem_append.1 h with h|h
  ·by_cases c:eligT d e=true
   ·rw [if_pos c,List.mem_singleton] at h;rw [h];exact c
   ·rw [if_neg c] at h;cases h
  ·obtain ⟨l,hl,hx⟩:=List.mem_flatten.1 h
   obtain ⟨a,ha,rfl⟩:=List.mem_map.1 hl
   exact ih a (zMn ha) hx
theorem zMw {d:Df} {e x:Ex} (h:x∈occE d e):x∈nodes e:=by
 induction e using Ex.ind with
 |_ e ih=>
  rw [zOn] at h
  rcases List.mem_append.1 h with h|h
  ·by_cases c:eligT d e=true
   ·rw [if_pos c,List.mem_singleton] at h;rw [h,kH];exact List.mem_cons_self
   ·rw [if_neg c] at h;cases h
  ·obtain ⟨l,hl,hx⟩:=List.mem_flatten.1 h
   obtain ⟨a,ha,rfl⟩:=List.mem_map.1 hl
   rw [kH]
   exact List.mem_cons_of_mem _ (zFy (zMn ha) (ih a (zMn ha) hx))
/-! ## Classes -/
structure Cl where
 e:Ex
 axes:List Ax
 first:Nat
 n:Nat
 deriving DecidableEq
def hitC (x:Ex) (a:List Ax) (c:Cl):Bool:=decide (c.e=x)&&decide (c.axes=a)
def putC:List Cl->Nat->Ex->List Ax->List Cl
 |[],k,x,a=>[⟨x,a,k,1⟩]
 |c::r,k,x,a=>if hitC x a c=true then { c with n:=c.n+1 }::r else c::putC r k x a
theorem putC_at {l:List Cl} {i k:Nat} {c:Cl} {x:Ex} {a:List Ax} (h:l[i]? =some c) (hc:hitC x a c=true) (hn:(l.take i).any (hitC x a)=false):putC l k x a=l.set i { c with n:=c.n+1 }:=by
 induction l generalizing i with
 |nil=>cases h
 |cons y r ih=>
  cases i with
  |zero=>simp only [List.getElem?_cons_zero,Option.some.injEq] at h;subst h;rw [putC,if_pos hc];rfl
  |succ i=>
   rw [List.take_succ_cons,List.any_cons,Bool.or_eq_false_iff] at hn
   rw [putC,if_neg (by rw [hn.1];simp),ih (by simpa using h) hn.2];rfl
theorem putC_new {l:List Cl} {k:Nat} {x:Ex} {a:List Ax} (hn:l.any (hitC x a)=false):putC l k x a=l++[⟨x,a,k,1⟩]:=by
 induction l with
 |nil=>rfl
 |cons y r ih=>
  rw [List.any_cons,Bool.or_eq_false_iff] at hn
  rw [putC,if_neg (by rw [hn.1];simp),ih hn.2];rfl
def addX (d:Df) (k:Nat) (l:List Cl) (xs:List Ex):List Cl:=xs.foldl (fun l x=>putC l k x (axsN d x)) l
theorem zNf (d:Df) (k:Nat) (l:List Cl) (xs ys:List Ex):addX d k l (xs++ys)=addX d k (addX d k l xs) ys:=by unfold addX;rw [List.foldl_append]
def clsG:List Df->Nat->List Cl->List Cl
 |[],_,l=>l
 |d::r,k,l=>clsG r (k+1) (addX d k l (occE d d.Body))
theorem clsG_next {D:List Df} {k:Nat} {d:Df} {l R:List Cl} (h:D[k]? =some d) (hp:R=clsG (D.drop k) k l):R=clsG (D.drop (k+1)) (k+1) (addX d k l (occE d d.Body)):=by
 rw [hp,qI h,clsG]
theorem clsG_end {D:List Df} {k:Nat} {l R:List Cl} (hp:R=clsG (D.drop k) k l) (c:¬k<D.length):R=l:=by
 rw [hp,kB c,clsG]
structure Cl.Ok (c:Cl) (D:List Df):Prop where
 op:3<c.e.Op
 cond:isCond c.e=false
 axes:c.axes.length<=6
 n:1<=c.n
 first:∃d,D[c.first]? =some d/\c.e∈nodes d.Body/\c.axes=axsN d c.e
theorem putC_ok {D:List Df} {l:List Cl} {k:Nat} {d:Df} {x:Ex} (hl:∀c,c∈l->c.Ok D) (hd:D[k]? =some d) (hx:eligT d x=true) (hm:x∈nodes d.Body):∀c,c∈putC l k x (axsN d x)->c.Ok D:=by
 unfold eligT at hx
 simp only [Bool.and_eq_true,decide_eq_true_eq,Bool.not_eq_true'] at hx
 induction l with
 |nil=>
  intro c hc
  rw [putC,List.mem_singleton] at hc
  subst hc
  exact ⟨hx.1.1,hx.1.2,hx.2,Nat.le_refl 1,d,hd,hm,rfl⟩
 |cons y r ih=>
  intro c hc
  rw [putC] at hc
  have hy:=hl y (by simp)
  split at hc
  ·rcases List.mem_cons.1 hc with rfl|hc
   ·exact ⟨hy.op,hy.cond,hy.axes,by show 1<=y.n+1;omega,hy.first⟩
   ·exact hl c (by simp [hc])
  ·rcases List.mem_cons.1 hc with rfl|hc
   ·exact hy
   ·exact ih (fun c h=>hl c (by simp [h])) c hc
theorem addX_ok {D:List Df} {k:Nat} {d:Df} (hd:D[k]? =some d):∀(xs:List Ex) (l:List Cl),(∀c,c∈l->c.Ok D)->(∀x,x∈xs->eligT d x=true/\x∈nodes d.Body)->∀c,c∈addX d k l xs->c.Ok D
 |[],l,hl,_=>hl
 |x::r,l,hl,hx=>by
  unfold addX
  rw [List.foldl_cons]
  exact addX_ok hd r _ (putC_ok hl hd (hx x (by simp)).1 (hx x (by simp)).2) fun y hy=>hx y (by simp [hy])
theorem clsG_ok {D:List Df}:∀(r:List Df) (k:Nat) (l:List Cl),D.drop k=r->(∀c,c∈l->c.Ok D)->∀c,c∈clsG r k l->c.Ok D
 |[],k,l,_,hl=>by rw [clsG];exact hl
 |d::r,k,l,h,hl=>by
  rw [clsG]
  have hk:k<D.length:=by
   have:=congrArg List.length h
   rw [List.length_drop,List.length_cons] at this;omega
  have hd:D[k]? =some d:=by
   have:=List.getElem?_drop (xs:=D) (i:=k) (j:=0)
   rw [h] at this;simpa using this.symm
  refine clsG_ok r (k+1) _ ?_ (addX_ok hd _ _ hl fun x hx=>⟨zMx hx,zMw hx⟩)
  rw [qI hd] at h
  injection h
def clsP (D:List Df):List Cl:=clsG D 0 []
theorem clsP_ok (D:List Df):∀c,c∈clsP D->c.Ok D:=clsG_ok D 0 [] rfl fun c hc=>by cases hc
def repC (D:List Df):List Cl:=(clsP D).filter fun c=>decide (2<=c.n)
/-! ## Replacing -/
mutual
def replX (d:Df) (c:Cl) (y:Ex):Ex->Ex
 |.mk o n v t l i q=>if (Ex.mk o n v t l i q)=c.e/\axsN d (.mk o n v t l i q)=c.axes then y else .mk o n v t l i (if o=11 then (replXs d c y q).take 1++q.drop 1 else replXs d c y q)
def replXs (d:Df) (c:Cl) (y:Ex):List Ex->List Ex
 |[]=>[]
 |a::r=>replX d c y a::replXs d c y r
end
theorem zKk (d:Df) (c:Cl) (y:Ex):∀l,replXs d c y l=l.map (replX d c y)
 |[]=>by rw [replXs];rfl
 |a::r=>by rw [replXs,zKk d c y r];rfl
def setArgs (e:Ex) (q:List Ex):Ex:=.mk e.Op e.Name e.Val e.Ty e.Lin e.Idx q
def replA (d:Df) (c:Cl) (y:Ex) (o:Int) (i:Nat) (a:Ex):Ex:=if ¬o=11∨i=0 then replX d c y a else a
def replQ (d:Df) (c:Cl) (y:Ex) (o:Int):Nat->List Ex->List Ex
 |_,[]=>[]
 |i,a::r=>replA d c y o i a::replQ d c y o (i+1) r
theorem replQ_all (d:Df) (c:Cl) (y:Ex) {o:Int} (h:¬o=11):∀(l:List Ex) (i:Nat),replQ d c y o i l=l.map (replX d c y)
 |[],i=>rfl
 |a::r,i=>by rw [replQ,replQ_all d c y h r,replA,if_pos (.inl h)];rfl
theorem replQ_none (d:Df) (c:Cl) (y:Ex):∀(l:List Ex) (i:Nat),0<i->replQ d c y 11 i l=l
 |[],i,_=>rfl
 |a::r,i,h=>by rw [replQ,replQ_none d c y r (i+1) (by omega),replA,if_neg (by omega)]
theorem zMv (d:Df) (c:Cl) (y e:Ex):replX d c y e=if e=c.e/\axsN d e=c.axes then y else setArgs e (replQ d c y e.Op 0 e.Args):=by
 cases e with
 |mk o n v t l i q=>
  rw [replX]
  split
  ·rfl
  ·unfold setArgs
   congr 1
   show _=replQ d c y o 0 q
   by_cases h:o=11
   ·rw [if_pos h,h,zKk]
    cases q with
    |nil=>rfl
    |cons a r=>rw [replQ,replQ_none d c y r 1 (by decide),replA,if_pos (.inr rfl)];simp
   ·rw [if_neg h,zKk,replQ_all d c y h]
theorem replQ_next {d:Df} {c:Cl} {y a:Ex} {o:Int} {l:List Ex} {k:Nat} (h:l[k]? =some a) (pre:List Ex) (R:List Ex) (hp:R=pre++replQ d c y o k (l.drop k)):R=(pre++[replA d c y o k a])++replQ d c y o (k+1) (l.drop (k+1)):=by
 rw [hp,qI h,replQ,List.append_assoc];rfl
theorem replQ_end {d:Df} {c:Cl} {y:Ex} {o:Int} {l:List Ex} {k:Nat} (pre R:List Ex) (hp:R=pre++replQ d c y o k (l.drop k)) (h:¬k<l.length):R=pre:=by
 rw [hp,kB h,replQ,List.append_nil]
theorem hit_elig {d:Df} {c:Cl} {D:List Df} {e:Ex} (hc:c.Ok D) (h:e=c.e/\axsN d e=c.axes):eligT d e=true:=by
 unfold eligT
 rw [h.2,h.1,hc.cond,decide_eq_true hc.op,decide_eq_true hc.axes];rfl
/-! ## All operators are named ones -/
def Ex.ops (e:Ex):Prop:=∀x,x∈nodes e->1<=x.Op
theorem ops_arg {e a:Ex} (h:e.ops) (ha:a∈e.Args):a.ops:=fun x hx=>h x (by rw [kH];exact List.mem_cons_of_mem _ (zFy ha hx))
theorem ops_top {e:Ex} (h:e.ops):1<=e.Op:=h e (by rw [kH];exact List.mem_cons_self)
end Go.Br
end
section
namespace Go.Br
open Go Go.Eng Go.L41
/-! ## A class begins with its first occurrence -/
def zCl:Cl:=⟨zEx,[],0,0⟩
def bstS (b:Cl×Nat) (c:Cl):Cl×Nat:=if 2<=c.n/\b.2<szT c.e then (c,szT c.e) else b
def bstP (l:List Cl):Cl×Nat:=l.foldl bstS (zCl,0)
def bstR (b c:Cl):Cl:=if szT b.e<szT c.e then c else b
theorem szT_pos (e:Ex):0<szT e:=by
 have:0<(nodes e).length:=by rw [kH];simp
 unfold szT;omega
theorem zLk:∀(l:List Cl) (b:Cl×Nat),l.foldl bstS b=(l.filter fun c=>decide (2<=c.n)).foldl bstS b
 |[],b=>rfl
 |c::r,b=>by
  rw [List.foldl_cons]
  by_cases h:2<=c.n
  ·rw [List.filter_cons_of_pos (by simpa using h),List.foldl_cons,zLk r]
  ·rw [List.filter_cons_of_neg (by simpa using h),show bstS b c=b by unfold bstS;rw [if_neg (fun hh=>h hh.1)],zLk r]
theorem bst_run:∀(l:List Cl) (b:Cl),(∀c,c∈l->2<=c.n)->l.foldl bstS (b,szT b.e)=(l.foldl bstR b,szT (l.foldl bstR b).e)
 |[],b,_=>rfl
 |c::r,b,h=>by
  rw [List.foldl_cons,List.foldl_cons]
  have h2:=h c (by simp)
  by_cases hs:szT b.e<szT c.e
  ·rw [show bstS (b,szT b.e) c=(c,szT c.e) by unfold bstS;rw [if_pos ⟨h2,hs⟩],show bstR b c=c by unfold bstR;rw [if_pos hs]]
   exact bst_run r c fun c hc=>h c (by simp [hc])
  ·rw [show bstS (b,szT b.e) c=(b,szT b.e) by unfold bstS;rw [if_neg (fun hh=>hs hh.2)],show bstR b c=b by unfold bstR;rw [if_neg hs]]
   exact bst_run r b fun c hc=>h c (by simp [hc])
theorem best_eq {D:List Df}:(repC D=[]/\bstP (clsP D)=(zCl,0))∨∃c r,repC D=c::r/\bstP (clsP D)=((repC D).foldl bstR c,szT ((repC D).foldl bstR c).e):=by
 have hf:bstP (clsP D)=(repC D).foldl bstS (zCl,0):=zLk _ _
 have h2:∀c,c∈repC D->2<=c.n:=fun c hc=>by have:=(List.mem_filter.1 hc).2;simpa using this
 cases hr:repC D with
 |nil=>left;rw [hf,hr];exact ⟨rfl,rfl⟩
 |cons c r=>
  right
  refine ⟨c,r,rfl,?_⟩
  rw [hr] at h2
  rw [hf,hr,List.foldl_cons,List.foldl_cons,show bstS (zCl,0) c=(c,szT c.e) by unfold bstS;rw [if_pos ⟨h2 c (by simp),szT_pos c.e⟩],show bstR c c=c by unfold bstR;rw [if_neg (by omega)]]
  exact bst_run r c fun c hc=>h2 c (by simp [hc])
theorem bstR_mem:∀(l:List Cl) (b:Cl),l.foldl bstR b=b∨l.foldl bstR b∈l
 |[],b=>.inl rfl
 |c::r,b=>by
  rw [List.foldl_cons]
  rcases bstR_mem r (bstR b c) with h|h
  ·rw [h];unfold bstR;split
   ·exact .inr (by simp)
   ·exact .inl rfl
  ·exact .inr (by simp [h])
/-! ## A name for the new definition -/
def tNm (k:Nat):ByteArray:=bs [116]++decB k
theorem tNm_inj {j k:Nat} (h:tNm j=tNm k):j=k:=decB_inj (app_left h)
def usedL (p:Pg):List ByteArray:=p.Sizes++p.Params.map Pm.Name++p.Defs.flatMap fun d=>d.Name::namesD d
theorem tNm_lt {L:List ByteArray} {k:Nat} (h:∀j,j<k->hasB L (tNm j)=true):k<=L.length:=by
 have:=zOp (l:=(List.range k).map tNm) (L:=L) ?_ ?_
 ·simpa using this
 ·exact List.Pairwise.map _ (fun a b hab h=>hab (tNm_inj h)) List.nodup_range
 ·intro x hx
  obtain ⟨j,hj,rfl⟩:=List.mem_map.1 hx
  exact zGz.1 (h j (List.mem_range.1 hj))
def frsK (L:List ByteArray):Nat:=((List.range (L.length+1)).find? fun k=> !hasB L (tNm k)).getD 0
def frsT (p:Pg):ByteArray:=tNm (frsK (usedL p))
theorem frs_end {L:List ByteArray} {k:Nat} (h:∀j,j<k->hasB L (tNm j)=true) (hk:hasB L (tNm k)=false):frsK L=k:=by
 have hl:=tNm_lt h
 unfold frsK
 have:(List.range (L.length+1)).find? (fun k=> !hasB L (tNm k))=some k:=by
  rw [List.find?_range_eq_some]
  exact ⟨by simp [hk],by simp;omega,fun j hj=>by simp [h j hj]⟩
 rw [this];rfl
/-! ## One step -/
def newD (p:Pg) (c:Cl):Df:=⟨frsT p,(typeT p.en (namesD (p.Defs.getD c.first ⟨bs [],zTy,[],[],0,zEx⟩)) c.e).1,c.axes,[],0,c.e⟩
def newR (p:Pg) (c:Cl):Ex:=.mk 3 (frsT p) ⟨0,0⟩ zTy ⟨0,[]⟩ (c.axes.map fun a=>⟨varL a.Name,bs [],[]⟩) []
def newB (p:Pg) (c:Cl) (d:Df):Df:=⟨d.Name,d.T,d.Dims,d.Red,d.Fold,replX d c (newR p c) d.Body⟩
def extP (p:Pg) (c:Cl):Pg:=⟨p.Sizes,p.Where,p.Params,p.Defs.take c.first++newD p c::(p.Defs.drop c.first).map (newB p c),p.Outs⟩
theorem extP_len {p:Pg} {c:Cl}:(extP p c).Defs.length=p.Defs.length+1:=by
 show (p.Defs.take c.first++newD p c::(p.Defs.drop c.first).map (newB p c)).length=_
 simp only [List.length_append,List.length_cons,List.length_map,List.length_take,List.length_drop];omega
def exG:Nat->Pg->Pg×Nat
 |0,p=>(p,0)
 |k+1,p=>if 64<=p.Defs.length∨repC p.Defs=[] then (p,0) else ((exG k (extP p (bstP (clsP p.Defs)).1)).1,(exG k (extP p (bstP (clsP p.Defs)).1)).2+1)
end Go.Br
end
section
namespace Go.Br
open Go Go.Eng Go.L41
/-! ## Ascending monomials -/
def ascM (l:List Mono):Prop:=l.Pairwise fun a b=>strLt a.Name b.Name=true
theorem zJh:∀{p:Option ByteArray} {l:List Mono},monosOk p l=true->ascM l
 |_,[],_=>List.Pairwise.nil
 |p,x::r,h=>by
  simp only [monosOk,Bool.and_eq_true] at h
  exact List.Pairwise.cons (fun m hm=>zOv h.2 m hm) (zJh h.2)
theorem asc_ne {x y:ByteArray} (h:strLt x y=true):x≠y:=by rintro rfl;rw [zNq] at h;cases h
theorem asc_not {x y:ByteArray} (h:strLt x y=true):strLt y x=false:=by
 cases k:strLt y x with
 |false=>rfl
 |true=>have:=zDf h k;rw [zNq] at this;cases this
theorem asc_ext:∀{a b:List Mono},ascM a->ascM b->(∀m,m∈a↔m∈b)->a=b
 |[],[],_,_,_=>rfl
 |[],y::s,_,_,h=>by have:=(h y).2 (by simp);cases this
 |x::r,[],_,_,h=>by have:=(h x).1 (by simp);cases this
 |x::r,y::s,ha,hb,h=>by
  unfold ascM at ha hb
  rw [List.pairwise_cons] at ha hb
  have hxy:x=y:=by
   rcases List.mem_cons.1 ((h x).1 (by simp)) with e|e
   ·exact e
   ·rcases List.mem_cons.1 ((h y).2 (by simp)) with e2|e2
    ·exact e2.symm
    ·have h1:=hb.1 x e
     have h2:=ha.1 y e2
     rw [asc_not h1] at h2;cases h2
  subst hxy
  rw [asc_ext (a:=r) (b:=s) ha.2 hb.2 fun m=>?_]
  constructor
  ·intro hm
   rcases List.mem_cons.1 ((h m).1 (by simp [hm])) with e|e
   ·subst e;exact absurd rfl (asc_ne (ha.1 m hm))
   ·exact e
  ·intro hm
   rcases List.mem_cons.1 ((h m).2 (by simp [hm])) with e|e
   ·subst e;exact absurd rfl (asc_ne (hb.1 m hm))
   ·exact e
theorem asc_nodup {l:List Mono} (h:ascM l):(l.map Mono.Name).Nodup:=by
 unfold List.Nodup
 rw [List.pairwise_map]
 exact h.imp fun h=>asc_ne h
theorem nodup_sub {α:Type} [DecidableEq α] {l L:List α} (h:l.Nodup) (hs:∀x,x∈l->x∈L) (hl:L.length<=l.length):∀x,x∈L->x∈l:=fun x hx=>Decidable.byContradiction fun hn=>by
 have:=zOp (l:=x::l) (L:=L) (List.nodup_cons.2 ⟨hn,h⟩) fun y hy=>by
  rcases List.mem_cons.1 hy with rfl|hy
  ·exact hx
  ·exact hs y hy
 rw [List.length_cons] at this;omega
def sortM (l:List Mono):List Mono:=l.mergeSort fun a b=> !strLt b.Name a.Name
theorem zIy {l:List Mono} {m:Mono}:m∈sortM l↔m∈l:=(List.mergeSort_perm l _).mem_iff
theorem zIz (l:List Mono):(sortM l).length=l.length:=(List.mergeSort_perm l _).length_eq
theorem sortM_asc {l:List Mono} (h:(l.map Mono.Name).Nodup):ascM (sortM l):=by
 have h1:(sortM l).Pairwise fun a b=>(!strLt b.Name a.Name)=true:=by
  apply List.pairwise_mergeSort
  ·intro a b c hab hbc
   simp only [Bool.not_eq_true'] at hab hbc⊢
   cases k:strLt c.Name a.Name with
   |false=>rfl
   |true=>
    cases k2:strLt c.Name b.Name with
    |true=>rw [k2] at hbc;cases hbc
    |false=>
     cases k3:strLt b.Name c.Name with
     |true=>have:=zDf k3 k;rw [this] at hab;cases hab
     |false=>have e:=zIw k2 k3;rw [←e,k] at hab;cases hab
  ·intro a b
   cases k:strLt b.Name a.Name with
   |false=>simp
   |true=>simp [asc_not k]
 have h2:((sortM l).map Mono.Name).Nodup:=((List.mergeSort_perm l _).map Mono.Name).nodup_iff.2 h
 unfold List.Nodup at h2
 rw [List.pairwise_map] at h2
 unfold ascM
 refine (h1.and h2).imp fun {a b} hh=>?_
 cases k:strLt a.Name b.Name with
 |true=>rfl
 |false=>exact absurd (zIw k (by simpa using hh.1)) hh.2
/-! ## Names exchanged -/
def ixB (A:List ByteArray) (s:ByteArray):Int:=idxOf (fun x=>decide (x=s)) A
def renB (A B:List ByteArray) (s:ByteArray):ByteArray:=if 0<=ixB B s then A.getD (ixB B s).toNat (bs []) else s
theorem ixB_no {A:List ByteArray} {s:ByteArray} (h:s ∉ A):ixB A s= -1:=zBm (by rw [List.any_eq_false];intro x hx hh;exact h (by simpa using (show x=s by simpa using hh) ▸ hx))
theorem ixB_at {A:List ByteArray} {k:Nat} {s:ByteArray} (hn:A.Nodup) (h:A[k]? =some s):ixB A s=(k:Nat):=by
 refine zCx h (by simp) ?_
 rw [List.any_eq_false]
 intro x hx hh
 have e:x=s:=by simpa using hh
 subst e
 obtain ⟨j,hj,hj2⟩:=List.mem_iff_getElem.1 hx
 rw [List.length_take] at hj
 have hk:k<A.length:=by
  rcases Nat.lt_or_ge k A.length with h1|h1
  ·exact h1
  ·rw [List.getElem?_eq_none h1] at h;cases h
 rw [List.getElem_take] at hj2
 rw [List.getElem?_eq_getElem hk] at h
 injection h with h
 exact (List.pairwise_iff_getElem.1 hn) j k (by omega) hk (by omega) (by rw [hj2,h])
theorem mem_ix {A:List ByteArray} {s:ByteArray} (h:s∈A):∃k:Nat,A[k]? =some s:=List.getElem?_of_mem h
theorem renB_no {A B:List ByteArray} {s:ByteArray} (h:s ∉ B):renB A B s=s:=by unfold renB;rw [ixB_no h,if_neg (by decide)]
theorem renB_at {A B:List ByteArray} {k:Nat} {s t:ByteArray} (hB:B.Nodup) (h:B[k]? =some s) (hA:A[k]? =some t):renB A B s=t:=by
 unfold renB
 rw [ixB_at hB h,if_pos (by omega)]
 simp [hA]
theorem zEz {α:Type} {l:List α} {k:Nat} {x:α} (h:l[k]? =some x):k<l.length:=by
 rcases Nat.lt_or_ge k l.length with h1|h1
 ·exact h1
 ·rw [List.getElem?_eq_none h1] at h;cases h
theorem zGr {A B:List ByteArray} (hA:A.Nodup) (hB:B.Nodup) (hl:A.length=B.length) {s:ByteArray} (h:s ∉ B->s ∉ A):renB B A (renB A B s)=s:=by
 by_cases c:s∈B
 ·obtain ⟨k,hk⟩:=mem_ix c
  have hkl:=zEz hk
  have ha:A[k]? =some (A[k]'(by omega)):=List.getElem?_eq_getElem (by omega)
  rw [renB_at hB hk ha,renB_at hA ha hk]
 ·rw [renB_no c,renB_no (h c)]
def mtcM (g:List Mono) (A B:List ByteArray) (m:Mono):Bool:=if 0<=ixB A m.Name then decide (coeffL g (B.getD (ixB A m.Name).toNat (bs []))=m.By) else if 0<=ixB B m.Name then false else decide (coeffL g m.Name=m.By)
theorem mtcM_iff {g:List Mono} {A B:List ByteArray} {m:Mono} (hA:A.Nodup):mtcM g A B m=true↔(m.Name∈B->m.Name∈A)/\coeffL g (renB B A m.Name)=m.By:=by
 unfold mtcM renB
 by_cases c:m.Name∈A
 ·obtain ⟨k,hk⟩:=mem_ix c
  rw [ixB_at hA hk,if_pos (by omega),if_pos (by omega)]
  simp [c]
 ·have hn:¬(0:Int)<= -1:=by decide
  rw [ixB_no c]
  simp only [hn,if_false]
  by_cases d:m.Name∈B
  ·obtain ⟨k,hk⟩:=mem_ix d
   have h0:0<=ixB B m.Name:=by
    have:=idxOf_any (fun x=>decide (x=m.Name)) B
    rw [show B.any (fun x=>decide (x=m.Name))=true from List.any_eq_true.2 ⟨_,d,by simp⟩] at this
    exact of_decide_eq_true this
   rw [if_pos h0];simp [c,d]
  ·rw [ixB_no d]
   simp only [hn,if_false]
   simp [c,d]
def renF (A B:List ByteArray) (l:Lf):Lf:=⟨l.K,sortM (l.L.map fun m=>⟨renB A B m.Name,m.By⟩)⟩
def mtcF (f g:Lf) (A B:List ByteArray):Bool:=decide (f.K=g.K)&&decide (f.L.length=g.L.length)&&f.L.all (mtcM g.L A B)
theorem coeff_in:∀{l:List Mono} {s:ByteArray},¬coeffL l s=0->∃m,m∈l/\m.Name=s/\m.By=coeffL l s
 |[],s,h=>absurd rfl h
 |x::r,s,h=>by
  rw [coeffL] at h⊢
  by_cases c:x.Name=s
  ·rw [if_pos c];exact ⟨x,by simp,c,rfl⟩
  ·rw [if_neg c] at h⊢
   obtain ⟨m,hm,h1⟩:=coeff_in h
   exact ⟨m,by simp [hm],h1⟩
theorem coeff_of:∀{l:List Mono} {m:Mono},(l.map Mono.Name).Nodup->m∈l->coeffL l m.Name=m.By
 |x::r,m,h,hm=>by
  rw [List.map_cons,List.nodup_cons] at h
  rcases List.mem_cons.1 hm with rfl|hm
  ·rw [coeffL,if_pos rfl]
  ·rw [coeffL,if_neg (fun e:x.Name=m.Name=>h.1 (by rw [e];exact List.mem_map.2 ⟨m,hm,rfl⟩)),coeff_of h.2 hm]
theorem mono_by:∀{p:Option ByteArray} {l:List Mono} {m:Mono},monosOk p l=true->m∈l->¬m.By=0
 |p,x::r,m,h,hm=>by
  simp only [monosOk,Bool.and_eq_true,Bool.not_eq_true',decide_eq_false_iff_not] at h
  rcases List.mem_cons.1 hm with rfl|hm
  ·exact h.1.1.2
  ·exact mono_by h.2 hm
theorem mtc_eq {f g:Lf} {A B:List ByteArray} (hf:linOk f=true) (hg:linOk g=true) (hA:A.Nodup) (hB:B.Nodup) (hl:A.length=B.length) (hd:∀m,m∈g.L->m.Name ∉ B->m.Name ∉ A):mtcF f g A B=decide (f=renF A B g):=by
 have hgn:=asc_nodup (zJh hg)
 have hfa:=zJh hf
 have hfn:f.L.Nodup:=by
  have:=asc_nodup hfa
  unfold List.Nodup at this⊢
  rw [List.pairwise_map] at this
  exact this.imp fun h e=>h (by rw [e])
 have hMn:((g.L.map fun m=>(⟨renB A B m.Name,m.By⟩:Mono)).map Mono.Name).Nodup:=by
  rw [List.map_map]
  unfold List.Nodup at hgn⊢
  rw [List.pairwise_map] at hgn⊢
  refine hgn.imp_of_mem fun {a b} ha hb h e=>h ?_
  have e:renB A B a.Name=renB A B b.Name:=e
  rw [←zGr hA hB hl (hd a ha),←zGr hA hB hl (hd b hb),e]
 rw [Bool.eq_iff_iff,decide_eq_true_eq]
 unfold mtcF
 simp only [Bool.and_eq_true,decide_eq_true_eq,List.all_eq_true]
 constructor
 ·rintro ⟨⟨hK,hL⟩,hm⟩
  have hsub:∀m,m∈f.L->m∈g.L.map fun m=>(⟨renB A B m.Name,m.By⟩:Mono):=by
   intro m hmf
   obtain ⟨h1,h2⟩:=(mtcM_iff hA).1 (hm m hmf)
   obtain ⟨m',hm',e1,e2⟩:=coeff_in (l:=g.L) (s:=renB B A m.Name) (by rw [h2];exact mono_by hf hmf)
   refine List.mem_map.2 ⟨m',hm',?_⟩
   have e3:renB A B m'.Name=m.Name:=by
    rw [e1]
    exact zGr hB hA hl.symm fun h3 h4=>h3 (h1 h4)
   rw [e3,e2,h2]
  have hsup:=nodup_sub hfn hsub (by rw [List.length_map,hL];exact Nat.le_refl _)
  cases f with
  |mk K L=>
   unfold renF
   simp only at hK hL hsub hsup hfa⊢
   rw [hK,asc_ext hfa (sortM_asc hMn) fun m=>⟨fun h=>zIy.2 (hsub m h),fun h=>hsup m (zIy.1 h)⟩]
 ·intro e
  subst e
  refine ⟨⟨rfl,by show (sortM _).length=_;rw [zIz,List.length_map]⟩,fun m hm=>?_⟩
  obtain ⟨m',hm',rfl⟩:=List.mem_map.1 (zIy.1 hm)
  refine (mtcM_iff hA).2 ⟨fun h=>?_,?_⟩
  ·show renB A B m'.Name∈A
   have h:renB A B m'.Name∈B:=h
   by_cases c:m'.Name∈B
   ·obtain ⟨k,hk⟩:=mem_ix c
    have hkl:=zEz hk
    have ha:A[k]? =some (A[k]'(by omega)):=List.getElem?_eq_getElem (by omega)
    rw [renB_at hB hk ha]
    exact List.getElem_mem _
   ·rw [renB_no c] at h;exact absurd h c
  ·show coeffL g.L (renB B A (renB A B m'.Name))=m'.By
   rw [zGr hA hB hl (hd m' hm')]
   exact coeff_of hgn hm'
end Go.Br
end
section
namespace Go.Br
open Go Go.Eng Go.L41
def all2 {α β:Type} (p:α->β->Bool):List α->List β->Bool
 |[],[]=>true
 |a::r,b::s=>p a b&&all2 p r s
 |[],_::_=>false
 |_::_,[]=>false
theorem zJy {α:Type} [DecidableEq α] {p:α->α->Bool} {g:α->α}:∀{a b:List α},(∀x,x∈a->∀y,y∈b->p x y=decide (x=g y))->all2 p a b=decide (a=b.map g)
 |[],[],_=>rfl
 |[],y::s,_=>by rw [all2];simp
 |x::r,[],_=>by rw [all2];simp
 |x::r,y::s,h=>by
  rw [all2,h x (by simp) y (by simp),zJy (a:=r) (b:=s) fun x hx y hy=>h x (by simp [hx]) y (by simp [hy]),List.map_cons]
  by_cases c:x=g y<;>by_cases d:r=s.map g<;>simp [c,d]
theorem all2_len {α β:Type} {p:α->β->Bool}:∀{a:List α} {b:List β},¬a.length=b.length->all2 p a b=false
 |[],[],h=>absurd rfl h
 |[],y::s,_=>by rw [all2]
 |x::r,[],_=>by rw [all2]
 |x::r,y::s,h=>by rw [all2,all2_len (a:=r) (b:=s) (fun e=>h (by rw [List.length_cons,List.length_cons,e])),Bool.and_false]
theorem all2_next {α β:Type} {p:α->β->Bool} {a:List α} {b:List β} {k:Nat} {x:α} {y:β} (ha:a[k]? =some x) (hb:b[k]? =some y) (R:Bool) (hp:R=all2 p (a.drop k) (b.drop k)) (h:p x y=true):R=all2 p (a.drop (k+1)) (b.drop (k+1)):=by
 rw [hp,qI ha,qI hb,all2,h,Bool.true_and]
theorem all2_no {α β:Type} {p:α->β->Bool} {a:List α} {b:List β} {k:Nat} {x:α} {y:β} (ha:a[k]? =some x) (hb:b[k]? =some y) (R:Bool) (hp:R=all2 p (a.drop k) (b.drop k)) (h:p x y=false):R=false:=by
 rw [hp,qI ha,qI hb,all2,h,Bool.false_and]
theorem all2_end {α β:Type} {p:α->β->Bool} {a:List α} {b:List β} {k:Nat} (R:Bool) (hp:R=all2 p (a.drop k) (b.drop k)) (hl:a.length=b.length) (h:¬k<a.length):R=true:=by
 rw [hp,kB h,kB (l:=b) (by omega),all2]
/-! ## Expressions -/
def simI (A B:List ByteArray) (x y:Ix):Bool:=decide (x.From=y.From)&&mtcF x.Lin y.Lin A B&&all2 (fun f g=>mtcF f g A B) x.At y.At
mutual
def simE (A B:List ByteArray):Ex->Ex->Bool
 |.mk o n v t l i q,y=>(decide (o=y.Op)&&decide (n=y.Name)&&decide (v=y.Val)&&decide (t=y.Ty)&&mtcF l y.Lin A B)&&all2 (simI A B) i y.Idx&&simQ A B q y.Args
def simQ (A B:List ByteArray):List Ex->List Ex->Bool
 |[],[]=>true
 |a::r,b::s=>simE A B a b&&simQ A B r s
 |[],_::_=>false
 |_::_,[]=>false
end
theorem simQ_all2 (A B:List ByteArray):∀a b,simQ A B a b=all2 (simE A B) a b
 |[],[]=>by rw [simQ];rfl
 |a::r,b::s=>by rw [simQ,simQ_all2 A B r s];rfl
 |[],_::_=>by rw [simQ];rfl
 |_::_,[]=>by rw [simQ];rfl
theorem simE_eq (A B:List ByteArray) (x y:Ex):simE A B x y=((decide (x.Op=y.Op)&&decide (x.Name=y.Name)&&decide (x.Val=y.Val)&&decide (x.Ty=y.Ty)&&mtcF x.Lin y.Lin A B)&&all2 (simI A B) x.Idx y.Idx&&all2 (simE A B) x.Args y.Args):=by
 cases x;rw [simE,simQ_all2];rfl
section
variable {A B:List ByteArray}
def swpOk (A B:List ByteArray) (l:Lf):Prop:=linOk l=true/\∀m,m∈l.L->m.Name ∉ B->m.Name ∉ A
theorem simI_eq (hA:A.Nodup) (hB:B.Nodup) (hl:A.length=B.length) {x y:Ix} (hx:linOk x.Lin=true/\∀l,l∈x.At->linOk l=true) (hy:swpOk A B y.Lin/\∀l,l∈y.At->swpOk A B l):simI A B x y=decide (x=gIx (renF A B) y):=by
 unfold simI
 rw [mtc_eq hx.1 hy.1.1 hA hB hl hy.1.2,zJy (g:=renF A B) fun f hf g hg=>mtc_eq (hx.2 f hf) (hy.2 g hg).1 hA hB hl (hy.2 g hg).2]
 rw [Bool.eq_iff_iff]
 cases x
 unfold gIx
 simp only [Bool.and_eq_true,decide_eq_true_eq,Ix.mk.injEq]
 constructor
 ·rintro ⟨⟨h1,h2⟩,h3⟩;exact ⟨h2,h1,h3⟩
 ·rintro ⟨h1,h2,h3⟩;exact ⟨⟨h2,h1⟩,h3⟩
theorem sim_eq (hA:A.Nodup) (hB:B.Nodup) (hl:A.length=B.length) (x:Ex):(x.allF fun l=>linOk l=true)->∀y:Ex,y.allF (swpOk A B)->simE A B x y=decide (x=gEx (renF A B) y):=by
 induction x using Ex.ind with
 |_ x ih=>
  intro hx y hy
  rw [simE_eq,mtc_eq (Ex.allF_lin hx) (Ex.allF_lin hy).1 hA hB hl (Ex.allF_lin hy).2,
   zJy (g:=gIx (renF A B)) fun i hi j hj=>simI_eq hA hB hl ⟨Ex.allF_ix hx hi,fun l h=>Ex.allF_at hx hi h⟩ ⟨Ex.allF_ix hy hj,fun l h=>Ex.allF_at hy hj h⟩,
   zJy (g:=gEx (renF A B)) fun a ha b hb=>ih a ha (Ex.allF_arg hx ha) b (Ex.allF_arg hy hb)]
  rw [Bool.eq_iff_iff,decide_eq_true_eq,gEx_eq,Ex.eq_iff]
  simp only [Bool.and_eq_true,decide_eq_true_eq]
  constructor
  ·rintro ⟨⟨⟨⟨⟨⟨h1,h2⟩,h3⟩,h4⟩,h5⟩,h6⟩,h7⟩;exact ⟨h1,h2,h3,h4,h5,h6,h7⟩
  ·rintro ⟨h1,h2,h3,h4,h5,h6,h7⟩;exact ⟨⟨⟨⟨⟨⟨h1,h2⟩,h3⟩,h4⟩,h5⟩,h6⟩,h7⟩
end
/-! ## Definitions -/
def szsT (a b:List Ax):Bool:=all2 (fun x y:Ax=>decide (x.Size=y.Size)) a b
theorem zMs {a b:List Ax} (h:szsT a b=true):a.length=b.length:=Decidable.byContradiction fun c=>by
 unfold szsT at h;rw [all2_len c] at h;cases h
def twnT (a b:Df):Bool:=(decide (a.T=b.T)&&decide (a.Fold=b.Fold)&&szsT a.Dims b.Dims&&szsT a.Red b.Red)&&decide (a.Body=gEx (renF (namesD a) (namesD b)) b.Body)
def twnR (a b:Df):Bool:=(decide (a.T=b.T)&&decide (a.Fold=b.Fold)&&szsT a.Dims b.Dims&&szsT a.Red b.Red)&&simE (namesD a) (namesD b) a.Body b.Body
theorem zAs (d:Df):(namesD d).length=d.Dims.length+d.Red.length:=by unfold namesD;simp
structure twnOk (a b:Df):Prop where
 na:(namesD a).Nodup
 nb:(namesD b).Nodup
 fa:a.Body.allF fun l=>linOk l=true
 fb:b.Body.allF (swpOk (namesD a) (namesD b))
theorem twn_eq {a b:Df} (h:twnOk a b):twnR a b=twnT a b:=by
 unfold twnR twnT
 by_cases c:(decide (a.T=b.T)&&decide (a.Fold=b.Fold)&&szsT a.Dims b.Dims&&szsT a.Red b.Red)=true
 ·rw [c,Bool.true_and,Bool.true_and]
  simp only [Bool.and_eq_true] at c
  exact sim_eq h.na h.nb (by rw [zAs,zAs,zMs c.1.2,zMs c.2]) _ h.fa _ h.fb
 ·rw [Bool.not_eq_true] at c
  rw [c,Bool.false_and,Bool.false_and]
def dup1 (D:List Df) (d:Df):List (ByteArray×ByteArray):=match D.find? fun x=>twnT x d with
 |some x=>[(x.Name,d.Name)]
 |none=>[]
def dupG (D:List Df):List Df->List (ByteArray×ByteArray)
 |[]=>[]
 |d::r=>dup1 D d++dupG (D++[d]) r
def dupP (D:List Df):List (ByteArray×ByteArray):=dupG [] D
/-! ## One definition for two -/
def redX (s t:ByteArray) (x:Ix):Ix:=⟨x.Lin,if x.From=s then t else x.From,x.At⟩
mutual
def redE (s t:ByteArray):Ex->Ex
 |.mk o n v ty l i q=>.mk o (if o=3/\n=s then t else n) v ty l (i.map (redX s t)) (redL s t q)
def redL (s t:ByteArray):List Ex->List Ex
 |[]=>[]
 |a::r=>redE s t a::redL s t r
end
theorem redL_map (s t:ByteArray):∀l,redL s t l=l.map (redE s t)
 |[]=>by rw [redL];rfl
 |a::r=>by rw [redL,redL_map s t r];rfl
theorem redE_eq (s t:ByteArray) (e:Ex):redE s t e=.mk e.Op (if e.Op=3/\e.Name=s then t else e.Name) e.Val e.Ty e.Lin (e.Idx.map (redX s t)) (e.Args.map (redE s t)):=by
 cases e;rw [redE,redL_map];rfl
def redD (s t:ByteArray) (d:Df):Df:=⟨d.Name,d.T,d.Dims,d.Red,d.Fold,redE s t d.Body⟩
def mrgS (p:Pg) (q:ByteArray×ByteArray):Pg:=⟨p.Sizes,p.Where,p.Params,(p.Defs.filter fun d=> !decide (d.Name=q.2)).map (redD q.2 q.1),p.Outs⟩
end Go.Br
end
section
namespace Go.Br
open Go Go.Eng Go.L41
theorem nameR_not {s:ByteArray} {t:List ByteArray} (h:nameR s t=0):s ∉ t:=fun hm=>by
 unfold nameR at h
 by_cases c:isNameB s=true
 ·rw [if_pos c,if_pos (zGz.2 hm)] at h;cases h
 ·rw [if_neg c] at h;cases h
theorem axesR_of {sz:List ByteArray}:∀(l:List Ax) (t:List ByteArray),axesR sz t l=0->(l.map Ax.Name).Nodup/\∀a,a∈l->a.Name ∉ t
 |[],t,_=>⟨List.nodup_nil,fun a ha=>by cases ha⟩
 |x::r,t,h=>by
  rw [axesR] at h
  by_cases c:nameR x.Name t=0
  ·rw [if_pos c] at h
   by_cases c2:formR x.Size sz=0
   ·rw [if_pos c2] at h
    obtain ⟨h1,h2⟩:=axesR_of r _ h
    refine ⟨?_,fun a ha=>?_⟩
    ·rw [List.map_cons,List.nodup_cons]
     refine ⟨fun hm=>?_,h1⟩
     obtain ⟨a,ha,e⟩:=List.mem_map.1 hm
     exact h2 a ha (by rw [e];simp)
    ·rcases List.mem_cons.1 ha with rfl|ha
     ·exact nameR_not c
     ·exact fun hm=>h2 a ha (List.mem_append_left _ hm)
   ·rw [if_neg c2] at h;exact absurd h c2
  ·rw [if_neg c] at h;exact absurd h c
theorem defR_axes {n:En} {d:Df} {t:List ByteArray} (h:defR n d t=0):axesR n.sz n.sz (d.Dims++d.Red)=0:=by
 have h1:nameR d.Name t=0:=Decidable.byContradiction fun c=>by rw [defR_1 c] at h;exact c h
 have h2:tyOk d.T=true:=by
  cases c:tyOk d.T with
  |true=>rfl
  |false=>rw [defR_10 h1 c] at h;cases h
 have h3:¬(6<d.Dims.length∨6<d.Red.length):=fun c=>by rw [defR_11 h1 h2 c] at h;cases h
 rw [defR_ok h1 h2 h3] at h
 exact Decidable.byContradiction fun c=>by rw [if_neg c] at h;exact c h
theorem knL_mem {k:ByteArray->Bool} {l:List Mono} (h:knL k l=true):∀m,m∈l->k m.Name=true:=fun m hm=>List.all_eq_true.1 h m hm
theorem formK_of {k:ByteArray->Bool} {l:Lf} (h:formK k l=0):knL k l.L=true:=by
 unfold formK at h
 cases c:knL k l.L with
 |true=>rfl
 |false=>rw [c] at h;cases h
theorem formsK_of {k:ByteArray->Bool} {l:List Lf} (h:formsK k l=0):∀x,x∈l->knL k x.L=true:=by
 unfold formsK at h
 cases c:l.all (fun x=>knL k x.L) with
 |true=>exact List.all_eq_true.1 c
 |false=>rw [c] at h;cases h
theorem zeroL_L {l:Lf} (h:zeroL l=true):l.L=[]:=by
 unfold zeroL at h
 simp only [Bool.and_eq_true,decide_eq_true_eq] at h
 exact List.eq_nil_of_length_eq_zero (by omega)
theorem zPf {n:En} {k:ByteArray->Bool}:∀l:List Ix,indexL n k l=0->∀x,x∈l->indexK n k x=0
 |[],_,x,hx=>by cases hx
 |y::r,h,x,hx=>by
  rw [indexL] at h
  by_cases c:indexK n k y=0
  ·rw [decide_eq_true c,cond_true] at h
   rcases List.mem_cons.1 hx with rfl|hx
   ·exact c
   ·exact zPf r h x hx
  ·rw [decide_eq_false c,cond_false] at h;exact absurd h c
theorem indexK_of {n:En} {k:ByteArray->Bool} {x:Ix} (hw:wellIx x=true) (h:indexK n k x=0):∀l,l∈x.Lin::x.At->∀m,m∈l.L->k m.Name=true:=by
 unfold wellIx at hw
 unfold indexK at h
 by_cases c:x.From=bs []
 ·rw [decide_eq_true c,cond_true] at hw h
  have hA:x.At=[]:=List.eq_nil_of_length_eq_zero (by have:=of_decide_eq_true hw;omega)
  intro l hl
  rw [hA,List.mem_singleton] at hl
  subst hl
  exact knL_mem (formK_of h)
 ·rw [decide_eq_false c,cond_false] at hw h
  cases c1:(n.find x.From).ok with
  |false=>rw [c1] at h;cases h
  |true=>
   rw [c1,Bool.not_true,cond_false] at h
   by_cases c2:(n.find x.From).ty.Kind=3
   ·rw [decide_eq_true c2,Bool.not_true,cond_false] at h
    by_cases c3:x.At.length=(n.find x.From).dims.length
    ·rw [decide_eq_true c3,Bool.not_true,cond_false] at h
     intro l hl m hm
     rcases List.mem_cons.1 hl with rfl|hl
     ·rw [zeroL_L hw] at hm;cases hm
     ·exact knL_mem (formsK_of h l hl) m hm
    ·rw [decide_eq_false c3,Bool.not_false,cond_true] at h;cases h
   ·rw [decide_eq_false c2,Bool.not_false,cond_true] at h;cases h
theorem node_known {n:En} {k:ByteArray->Bool} {e:Ex} {tys:List Ty} (hs:synOk e=true) (h:(ofN n k e tys).2=0):∀l,l∈formsL e->∀m,m∈l.L->k m.Name=true:=by
 unfold synOk at hs
 simp only [Bool.and_eq_true,Bool.not_eq_true',Bool.and_eq_false_iff,Bool.or_eq_false_iff,Bool.not_eq_false',decide_eq_true_eq,decide_eq_false_iff_not,List.all_eq_true] at hs
 obtain ⟨⟨⟨⟨⟨_,_⟩,_⟩,h4⟩,h5⟩,h6⟩:=hs
 intro l hl m hm
 unfold formsL at hl
 rcases List.mem_cons.1 hl with rfl|hl
 ·by_cases c:e.Op=2
  ·unfold ofN at h
   rw [if_neg (by omega),if_pos c] at h
   exact knL_mem (formK_of h) m hm
  ·rcases h4 with h4|h4
   ·exact absurd h4 c
   ·rw [zeroL_L h4] at hm;cases hm
 ·obtain ⟨x,hx,hlx⟩:=List.mem_flatMap.1 hl
  have h3:e.Op=3:=by
   rcases h5 with h5|h5
   ·exact h5
   ·have:=List.length_pos_of_mem hx
    exact absurd (show (0:Int)<e.Idx.length by omega) (by simpa using h5.2)
  unfold ofN at h
  rw [if_neg (by omega),if_neg (by omega),if_pos h3] at h
  exact indexK_of (h6 x hx) (zPf _ (readK_of h).2.2 x hx) l hlx m hm
theorem nodeL_each {N:Ex->List Ty->Ty×Int}:∀l:List Ex,(nodeL N l).2=0->∀a,a∈l->(nodeT N a).2=0
 |[],_,a,ha=>by cases ha
 |x::r,h,a,ha=>by
  obtain ⟨h1,h2,_⟩:=nodeL_cons h
  rcases List.mem_cons.1 ha with rfl|ha
  ·exact h1
  ·exact nodeL_each r h2 a ha
theorem tree_known {n:En} {k:ByteArray->Bool} (e:Ex):(∀x,x∈nodes e->nodeErr x=0)->(nodeT (ofN n k) e).2=0->e.allF fun l=>∀m,m∈l.L->k m.Name=true:=by
 induction e using Ex.ind with
 |_ e ih=>
  intro hn h
  obtain ⟨h1,h2⟩:=nodeT_args h
  rw [h2] at h
  exact nodes_allF (node_known (zJg (hn e (by rw [kH];exact List.mem_cons_self))).1 h) fun a ha=>
   ih a ha (fun x hx=>hn x (by rw [kH];exact List.mem_cons_of_mem _ (zFy ha hx))) (nodeL_each _ h1 a ha)
theorem typed_known {n:En} {vars:List ByteArray} {e:Ex} (h:(typeT n vars e).2=0):e.allF fun l=>∀m,m∈l.L->knB n.sz vars m.Name=true:=by
 obtain ⟨h1,_,h3⟩:=zEb h
 exact tree_known e (zGi (zBy h1)) h3
theorem zKf {p:Pg} (h:(validM p).2=0):∀d,d∈p.Defs->(namesD d).Nodup/\∀s,s∈namesD d->s ∉ p.Sizes:=by
 rw [zMo] at h
 obtain ⟨a',h5,_⟩:=zKr p p rfl p.Params _ _ (validR_of h).2.2.2
 intro d hd
 obtain ⟨i,hi⟩:=List.getElem?_of_mem hd
 have h1:=defR_axes (defsR_at p p.Defs _ _ _ h5 i d hi)
 obtain ⟨h2,h3⟩:=axesR_of _ _ h1
 have e:namesD d=(d.Dims++d.Red).map Ax.Name:=by unfold namesD;rw [List.map_append]
 rw [e]
 refine ⟨h2,fun s hs=>?_⟩
 obtain ⟨a,ha,rfl⟩:=List.mem_map.1 hs
 exact h3 a ha
theorem valid_twn {p:Pg} (h:(validM p).2=0) {a b:Df} (ha:a∈p.Defs) (hb:b∈p.Defs):twnOk a b:=by
 have ta:=(zOh h (List.getElem?_of_mem ha).choose_spec).1
 have tb:=(zOh h (List.getElem?_of_mem hb).choose_spec).1
 have va:=valid_lin (zEb (by rw [ta])).1
 have vb:=valid_lin (zEb (by rw [tb])).1
 have kb:=typed_known (n:=p.en) (vars:=namesD b) (e:=b.Body) (by rw [tb])
 refine ⟨(zKf h a ha).1,(zKf h b hb).1,va,fun x hx l hl=>⟨vb x hx l hl,fun m hm hn hin=>?_⟩⟩
 have hk:=kb x hx l hl m hm
 unfold knB at hk
 rw [Bool.or_eq_true] at hk
 rcases hk with hk|hk
 ·exact hn (zGz.1 hk)
 ·exact (zKf h a ha).2 _ hin (zGz.1 hk)
end Go.Br
end
section
namespace Go.Br
open Go Go.Eng Go.L41
/-! ## The reference's renaming of a tensor -/
theorem dupG_mem:∀{l D:List Df} {q:ByteArray×ByteArray},q∈dupG D l->∃x d,x∈D++l/\d∈l/\twnT x d=true/\q=(x.Name,d.Name)
 |[],_,q,h=>by rw [dupG] at h;cases h
 |d::r,D,q,h=>by
  rw [dupG] at h
  rcases List.mem_append.1 h with h|h
  ·unfold dup1 at h
   cases c:D.find? (fun x=>twnT x d) with
   |none=>rw [c] at h;cases h
   |some x=>
    rw [c] at h
    simp only [List.mem_singleton] at h
    exact ⟨x,d,List.mem_append_left _ (List.mem_of_find?_eq_some c),by simp,List.find?_some (p:=fun x=>twnT x d) c,h⟩
  ·obtain ⟨x,y,hx,hy,h1,h2⟩:=dupG_mem h
   exact ⟨x,y,by simpa using hx,by simp [hy],h1,h2⟩
theorem dupG_next {D:List Df} {k:Nat} {d:Df} {R pre:List (ByteArray×ByteArray)} (h:D[k]? =some d) (hp:R=pre++dupG (D.take k) (D.drop k)):R=(pre++dup1 (D.take k) d)++dupG (D.take (k+1)) (D.drop (k+1)):=by
 rw [hp,qI h,dupG,qM h,List.append_assoc]
theorem dupG_end {D:List Df} {k:Nat} {R pre:List (ByteArray×ByteArray)} (hp:R=pre++dupG (D.take k) (D.drop k)) (h:¬k<D.length):R=pre:=by
 rw [hp,kB h,dupG,List.append_nil]
def prsV (p:Pg):List (ByteArray×ByteArray):=if (validM p).2=0 then dupP p.Defs else []
def pckV (p:Pg):Option (ByteArray×ByteArray):=(prsV p).find? fun q=> !hasB p.Outs q.2
theorem pck_mem {p:Pg} {q:ByteArray×ByteArray} (h:pckV p=some q):(validM p).2=0/\hasB p.Outs q.2=false/\∃x d,x∈p.Defs/\d∈p.Defs/\q=(x.Name,d.Name):=by
 unfold pckV at h
 have h1:=List.mem_of_find?_eq_some h
 have h2:=List.find?_some h
 unfold prsV at h1
 by_cases c:(validM p).2=0
 ·rw [if_pos c] at h1
  obtain ⟨x,d,hx,hd,_,e⟩:=dupG_mem h1
  exact ⟨c,by simpa using h2,x,d,by simpa using hx,hd,e⟩
 ·rw [if_neg c] at h1;cases h1
theorem valid_names {p:Pg} (h:(validM p).2=0):(p.Defs.map Df.Name).Nodup:=by
 unfold List.Nodup
 rw [List.pairwise_map,List.pairwise_iff_getElem]
 intro i j hi hj hij e
 have h1:=(zOh h (List.getElem?_eq_getElem hi)).2.1
 have h2:=(zOh h (List.getElem?_eq_getElem hj)).2.1
 rw [e,h2] at h1;omega
theorem filter_one:∀{l:List Df} {d:Df},(l.map Df.Name).Nodup->d∈l->(l.filter fun x=> !decide (x.Name=d.Name)).length+1=l.length
 |x::r,d,h,hd=>by
  rw [List.map_cons,List.nodup_cons] at h
  rcases List.mem_cons.1 hd with rfl|hd
  ·rw [List.filter_cons_of_neg (by simp),List.filter_eq_self.2 fun y hy=>by
    have:¬y.Name=d.Name:=fun e=>h.1 (by rw [←e];exact List.mem_map.2 ⟨y,hy,rfl⟩)
    simp [this]]
   rfl
  ·have:¬x.Name=d.Name:=fun e=>h.1 (by rw [e];exact List.mem_map.2 ⟨d,hd,rfl⟩)
   rw [List.filter_cons_of_pos (by simp [this]),List.length_cons,List.length_cons,filter_one h.2 hd]
theorem mrgS_len {p:Pg} {q:ByteArray×ByteArray} (h:pckV p=some q):(mrgS p q).Defs.length+1=p.Defs.length:=by
 obtain ⟨hv,_,x,d,_,hd,rfl⟩:=pck_mem h
 show ((p.Defs.filter fun y=> !decide (y.Name=d.Name)).map (redD d.Name x.Name)).length+1=_
 rw [List.length_map,filter_one (valid_names hv) hd]
/-! ## The loop -/
def mrgG:Nat->Pg->Pg×Nat
 |0,p=>(p,0)
 |k+1,p=>match pckV p with
  |none=>(p,0)
  |some q=>((mrgG k (mrgS p q)).1,(mrgG k (mrgS p q)).2+1)
def mrgP (p:Pg):Pg×Nat:=mrgG p.Defs.length p
theorem mrgP_next {p:Pg} {q:ByteArray×ByteArray} (h:pckV p=some q):mrgP p=((mrgP (mrgS p q)).1,(mrgP (mrgS p q)).2+1):=by
 have:=mrgS_len h
 unfold mrgP
 rw [show p.Defs.length=(mrgS p q).Defs.length+1 by omega,mrgG,h]
theorem mrgP_end {p:Pg} (h:pckV p=none):mrgP p=(p,0):=by
 unfold mrgP
 cases c:p.Defs.length with
 |zero=>rfl
 |succ n=>rw [mrgG,h]
end Go.Br
end
section
namespace Go.Br
open Go Go.Eng Go.L41
def Ex.sz (e:Ex):Nat:=(nodes e).length
def szQ (l:List Ex):Nat:=(nodesL l).length
theorem sz_eq (e:Ex):e.sz=1+szQ e.Args:=by unfold Ex.sz szQ;rw [kH,List.length_cons];omega
theorem zCc (a:Ex) (r:List Ex):szQ (a::r)=a.sz+szQ r:=by unfold szQ Ex.sz;rw [nodesL,List.length_append]
theorem sz_pos (e:Ex):1<=e.sz:=by rw [sz_eq];omega
theorem setArgs_args (e:Ex) (q:List Ex):(setArgs e q).Args=q:=rfl
theorem setArgs_wt (e:Ex) (q:List Ex):(setArgs e q).wt+argsWt e.Args=e.wt+argsWt q:=by
 rw [Ex.wt_eq,Ex.wt_eq e];show 1+e.Lin.L.length+e.Idx.length+idxWt e.Idx+argsWt q+argsWt e.Args=_;omega
section
variable {d:Df} {c:Cl} {y:Ex}
theorem replQ_sz {o:Int} (hy:y.sz=1):∀(l:List Ex) (i:Nat),(∀a,a∈l->(replX d c y a).sz<=a.sz)->szQ (replQ d c y o i l)<=szQ l
 |[],i,_=>Nat.le_refl _
 |a::r,i,h=>by
  rw [replQ,zCc,zCc]
  have h1:=replQ_sz (o:=o) hy r (i+1) fun x hx=>h x (by simp [hx])
  have h2:(replA d c y o i a).sz<=a.sz:=by
   unfold replA;split
   ·exact h a (by simp)
   ·exact Nat.le_refl _
  omega
theorem repl_sz (hy:y.sz=1) (e:Ex):(replX d c y e).sz<=e.sz:=by
 induction e using Ex.ind with
 |_ e ih=>
  rw [zMv]
  split
  ·rw [hy];exact sz_pos e
  ·rw [sz_eq,sz_eq e,setArgs_args]
   have:=replQ_sz (d:=d) (c:=c) (o:=e.Op) hy e.Args 0 ih
   omega
theorem replQ_wt {o:Int}:∀(l:List Ex) (i:Nat),(∀a,a∈l->(replX d c y a).wt<=a.wt+y.wt*a.sz)->argsWt (replQ d c y o i l)<=argsWt l+y.wt*szQ l
 |[],i,_=>by rw [replQ];exact Nat.le_add_right _ _
 |a::r,i,h=>by
  rw [replQ,zCc,argsWt,argsWt,Nat.mul_add]
  have h1:=replQ_wt (o:=o) r (i+1) fun x hx=>h x (by simp [hx])
  have h2:(replA d c y o i a).wt<=a.wt+y.wt*a.sz:=by
   unfold replA;split
   ·exact h a (by simp)
   ·exact Nat.le_add_right _ _
  omega
theorem repl_wt (e:Ex):(replX d c y e).wt<=e.wt+y.wt*e.sz:=by
 induction e using Ex.ind with
 |_ e ih=>
  rw [zMv]
  split
  ·have:=Nat.mul_le_mul_left y.wt (sz_pos e)
   omega
  ·have h:=replQ_wt (d:=d) (c:=c) (o:=e.Op) e.Args 0 ih
   have h1:=setArgs_wt e (replQ d c y e.Op 0 e.Args)
   rw [sz_eq e,Nat.mul_add]
   omega
end
theorem newR_sz (p:Pg) (c:Cl):(newR p c).sz=1:=by rw [sz_eq];rfl
theorem varL_len (s:ByteArray):(varL s).L.length<=1:=by unfold varL;cases isNameB s<;>simp
theorem vars_wt:∀l:List Ax,idxWt (l.map fun a=>(⟨varL a.Name,bs [],[]⟩:Ix))<=l.length
 |[]=>Nat.le_refl _
 |a::r=>by
  rw [List.map_cons,idxWt,List.length_cons]
  have h1:=vars_wt r
  have h2:=varL_len a.Name
  have h3:(⟨varL a.Name,bs [],[]⟩:Ix).wt=(varL a.Name).L.length:=by unfold Ix.wt;rfl
  omega
theorem newR_wt (p:Pg) (c:Cl):(newR p c).wt<=1+2*c.axes.length:=by
 rw [Ex.wt_eq]
 have:=vars_wt c.axes
 show 1+0+(c.axes.map _).length+idxWt (c.axes.map _)+argsWt []<=_
 rw [List.length_map,argsWt];omega
structure xtD (k:Nat) (d:Df):Prop where
 dims:d.Dims.length<=1500
 red:d.Red.length<=1500
 fd:∀a,a∈d.Dims->a.Size.L.length<=5864062014805
 fr:∀a,a∈d.Red->a.Size.L.length<=5864062014805
 sz:d.Body.sz<=1500
 wt:d.Body.wt<=1500+19500*k
structure Pg.Xt (k:Nat) (p:Pg):Prop where
 sizes:p.Sizes.length<=80
 wh:p.Where.length<=80
 params:p.Params.length<=40
 outs:p.Outs.length<=40
 defs:p.Defs.length<=40+k
 whs:∀c,c∈p.Where->c.Lin.L.length<=5864062014805
 ps:∀x,x∈p.Params->x.Dims.length<=1500/\∀l,l∈x.Dims->l.L.length<=5864062014805
 ds:∀d,d∈p.Defs->xtD k d
theorem sz_wt (e:Ex):e.sz<=e.wt:=by
 induction e using Ex.ind with
 |_ e ih=>
  have:∀l:List Ex,(∀a,a∈l->a.sz<=a.wt)->szQ l<=argsWt l:=by
   intro l
   induction l with
   |nil=>intro _;exact Nat.le_refl _
   |cons a r ihr=>
    intro h
    rw [zCc,argsWt]
    have h1:=h a (by simp)
    have h2:=ihr fun b hb=>h b (by simp [hb])
    omega
  have:=this e.Args ih
  rw [sz_eq,Ex.wt_eq];omega
theorem Pg.Sm.xt {p:Pg} (h:p.Sm):p.Xt 0:=
 ⟨h.sizes,h.wh,h.params,h.outs,h.defs,h.frm.whs,fun x hx=>⟨h.ps x hx,h.frm.ps x hx⟩,fun d hd=>
  ⟨(h.ds d hd).1,(h.ds d hd).2.1,(h.frm.ds d hd).1,(h.frm.ds d hd).2,Nat.le_trans (sz_wt _) (h.ds d hd).2.2,(h.ds d hd).2.2⟩⟩
theorem Pg.Xt.ok {p:Pg} {k:Nat} (h:p.Xt k) (hk:k<=64):p.Ok:=
 ⟨Nat.le_trans h.sizes (by decide),Nat.le_trans h.wh (by decide),Nat.le_trans h.params (by decide),by have:=h.defs;omega,Nat.le_trans h.outs (by decide),h.whs,
  fun x hx=>⟨Nat.le_trans (h.ps x hx).1 (by decide),(h.ps x hx).2⟩,
  fun d hd=>⟨by have:=(h.ds d hd).dims;omega,by have:=(h.ds d hd).red;omega,(h.ds d hd).fd,(h.ds d hd).fr,by have:=(h.ds d hd).wt;omega⟩⟩
theorem node_sz {e x:Ex} (h:x∈nodes e):x.sz<=e.sz:=by
 induction e using Ex.ind with
 |_ e ih=>
  rw [kH] at h
  rcases List.mem_cons.1 h with rfl|h
  ·exact Nat.le_refl _
  ·have:∀l:List Ex,(∀a,a∈l->a∈e.Args)->x∈nodesL l->x.sz<=szQ l:=by
    intro l
    induction l with
    |nil=>intro _ hx;rw [nodesL] at hx;cases hx
    |cons a r ihr=>
     intro hl hx
     rw [nodesL] at hx
     rw [zCc]
     rcases List.mem_append.1 hx with hx|hx
     ·have:=ih a (hl a (by simp)) hx;omega
     ·have:=ihr (fun b hb=>hl b (by simp [hb])) hx;omega
   have:=this e.Args (fun a ha=>ha) h
   rw [sz_eq e];omega
theorem Pg.Xt.step {p:Pg} {k:Nat} {c:Cl} (h:p.Xt k) (hc:c∈clsP p.Defs):(extP p c).Xt (k+1):=by
 have hk:=clsP_ok _ c hc
 obtain ⟨d0,hd0,hn0,ha0⟩:=hk.first
 have h0:=h.ds d0 (zW hd0)
 have hy:=newR_wt p c
 have hax:=hk.axes
 refine ⟨h.sizes,h.wh,h.params,h.outs,by rw [extP_len];have:=h.defs;omega,h.whs,h.ps,fun d hd=>?_⟩
 have hd:d∈p.Defs.take c.first++newD p c::(p.Defs.drop c.first).map (newB p c):=hd
 rcases List.mem_append.1 hd with hd|hd
 ·have:=h.ds d (List.mem_of_mem_take hd)
  exact ⟨this.dims,this.red,this.fd,this.fr,this.sz,by have:=this.wt;omega⟩
 ·rcases List.mem_cons.1 hd with rfl|hd
  ·refine ⟨by show c.axes.length<=_;omega,by show 0<=_;omega,(fun a ha=>?_),(fun a ha=>by cases ha),Nat.le_trans (node_sz hn0) h0.sz,by have:=zAo _ _ hn0;have:=h0.wt;show c.e.wt<=_;omega⟩
   have ha:a∈c.axes:=ha
   rw [ha0] at ha
   have hm:=(List.mem_filter.1 ha).1
   rcases List.mem_append.1 hm with hm|hm
   ·exact h0.fd a hm
   ·exact h0.fr a hm
  ·obtain ⟨x,hx,rfl⟩:=List.mem_map.1 hd
   have h1:=h.ds x (List.mem_of_mem_drop hx)
   refine ⟨h1.dims,h1.red,h1.fd,h1.fr,Nat.le_trans (repl_sz (newR_sz p c) _) h1.sz,?_⟩
   have h2:=repl_wt (d:=x) (c:=c) (y:=newR p c) x.Body
   have h3:=Nat.mul_le_mul (show (newR p c).wt<=13 by omega) h1.sz
   have h4:=h1.wt
   show (replX x c (newR p c) x.Body).wt<=_
   omega
end Go.Br
end
section
set_option maxRecDepth 10000
namespace Go.Br
open Go Go.Eng Go.L41
/-! ## The reference's pairs -/
def dup1R (D:List Df) (d:Df):List (ByteArray×ByteArray):=match D.find? fun x=>twnR x d with
 |some x=>[(x.Name,d.Name)]
 |none=>[]
def dupGR (D:List Df):List Df->List (ByteArray×ByteArray)
 |[]=>[]
 |d::r=>dup1R D d++dupGR (D++[d]) r
theorem find_congr {α:Type} {p q:α->Bool}:∀{l:List α},(∀x,x∈l->p x=q x)->l.find? p=l.find? q
 |[],_=>rfl
 |a::r,h=>by
  rw [List.find?_cons,List.find?_cons,h a (by simp),find_congr (l:=r) fun x hx=>h x (by simp [hx])]
theorem dupGR_eq:∀(l D:List Df),(∀a b,a∈D++l->b∈D++l->twnR a b=twnT a b)->dupGR D l=dupG D l
 |[],D,_=>rfl
 |d::r,D,h=>by
  rw [dupGR,dupG,dupGR_eq r (D++[d]) fun a b ha hb=>h a b (by simpa using ha) (by simpa using hb)]
  congr 1
  unfold dup1R dup1
  rw [find_congr fun x hx=>h x d (List.mem_append_left _ hx) (by simp)]
  first|done|(cases D.find? (fun x=>twnT x d)<;>rfl)
theorem dupP_R {p:Pg} (h:(validM p).2=0):dupGR [] p.Defs=dupP p.Defs:=
 dupGR_eq p.Defs [] fun a b ha hb=>twn_eq (valid_twn h (by simpa using ha) (by simpa using hb))
theorem prsV_R {p:Pg}:prsV p=if (validM p).2=0 then dupGR [] p.Defs else []:=by
 unfold prsV
 split
 ·next h=>rw [dupP_R h]
 ·rfl
/-! ## Extraction as a whole -/
def xtrP (most:Int) (p:Pg):Pg×Nat:=if (validM p).2=0 then exG most.toNat p else (p,0)
def rdX2 (s i:ByteArray):Ex:=.mk 3 s ⟨0,0⟩ ⟨0,0,0,0,0⟩ ⟨0,[]⟩ [⟨⟨0,[⟨i,1⟩]⟩,bs [],[]⟩] []
def ndX (o:Int) (q:List Ex):Ex:=.mk o (bs []) ⟨0,0⟩ ⟨0,0,0,0,0⟩ ⟨0,[]⟩ [] q
def lnN:Lf:=⟨0,[⟨bs [110],1⟩]⟩
def dfX (s i:ByteArray) (x:Ex):Df:=⟨s,⟨1,0,0,0,0⟩,[⟨i,lnN⟩],[],0,x⟩
def pgX (l:List Df):Pg:=⟨[bs [110]],[],[⟨bs [97],⟨1,0,0,0,0⟩,[lnN]⟩,⟨bs [99],⟨1,0,0,0,0⟩,[lnN]⟩],l,[bs [98]]⟩
def smX:Ex:=ndX 4 [rdX2 (bs [97]) (bs [105]),rdX2 (bs [99]) (bs [105])]
def x1P:Pg:=pgX [dfX (bs [98]) (bs [105]) (ndX 6 [smX,smX])]
def x1Q:Pg:=pgX [dfX (bs [116,48]) (bs [105]) smX,dfX (bs [98]) (bs [105]) (ndX 6 [rdX2 (bs [116,48]) (bs [105]),rdX2 (bs [116,48]) (bs [105])])]
def ngX (i:UInt8):Ex:=ndX 8 [rdX2 (bs [97]) (bs [i])]
def x2P:Pg:=pgX [dfX (bs [117]) (bs [105]) (ngX 105),dfX (bs [118]) (bs [106]) (ngX 106),dfX (bs [98]) (bs [105]) (ndX 4 [rdX2 (bs [117]) (bs [105]),rdX2 (bs [118]) (bs [105])])]
def x2Q:Pg:=pgX [dfX (bs [117]) (bs [105]) (ngX 105),dfX (bs [98]) (bs [105]) (ndX 4 [rdX2 (bs [117]) (bs [105]),rdX2 (bs [117]) (bs [105])])]
theorem x2_pairs:pckV x2P=some (bs [117],bs [118]):=by
 unfold pckV;rw [prsV_R];decide+kernel
theorem x2_step:mrgS x2P (bs [117],bs [118])=x2Q:=by decide+kernel
theorem x2_end:pckV x2Q=none:=by unfold pckV;rw [prsV_R];decide+kernel
theorem x2_merge:mrgP x2P=(x2Q,1):=by rw [mrgP_next x2_pairs,x2_step,mrgP_end x2_end]
def x1C:Cl:=⟨smX,[⟨bs [105],lnN⟩],0,2⟩
theorem x1_best:(bstP (clsP x1P.Defs)).1=x1C:=by decide+kernel
theorem tNm_0:tNm 0=bs [116,48]:=by
 unfold tNm decB
 rw [Lib.decDigits_one (by decide)]
 decide+kernel
theorem x1_fresh:frsT x1P=bs [116,48]:=by
 unfold frsT
 rw [frs_end (k:=0) (fun j h=>absurd h (Nat.not_lt_zero j)) (by rw [tNm_0];decide+kernel),tNm_0]
theorem x1_step:extP x1P x1C=x1Q:=by
 unfold extP newB newD newR
 rw [x1_fresh]
 decide+kernel
theorem x1_done:repC x1Q.Defs=[]:=by decide+kernel
theorem x1_extract:xtrP 5 x1P=(x1Q,1):=by
 unfold xtrP
 rw [if_pos (by decide+kernel),show (5:Int).toNat=4+1 from rfl,exG,if_neg (by decide+kernel),x1_best,x1_step,show (4:Nat)=3+1 from rfl,exG,if_pos (.inr x1_done)]
theorem x1_rep:(repC x1P.Defs).map (fun c=>(c.e,c.n))=[(smX,2)]:=by decide+kernel
end Go.Br
end
section
namespace Go.Br
open Go Go.Eng Go.L41
theorem zPg {g:Ix->Ix} (h:∀x,(g x).wt=x.wt):∀l:List Ix,idxWt (l.map g)=idxWt l
 |[]=>rfl
 |x::r=>by rw [List.map_cons,idxWt,idxWt,h,zPg h r]
theorem redX_wt (s t:ByteArray) (x:Ix):(redX s t x).wt=x.wt:=rfl
theorem zLn {g:Ex->Ex}:∀l:List Ex,(∀a,a∈l->(g a).wt=a.wt)->argsWt (l.map g)=argsWt l
 |[],_=>rfl
 |a::r,h=>by rw [List.map_cons,argsWt,argsWt,h a (by simp),zLn r fun b hb=>h b (by simp [hb])]
theorem redE_wt (s t:ByteArray) (e:Ex):(redE s t e).wt=e.wt:=by
 induction e using Ex.ind with
 |_ e ih=>
  rw [redE_eq,Ex.wt,Ex.wt_eq e,List.length_map,zPg (redX_wt s t),zLn _ ih]
theorem szQ_map {g:Ex->Ex}:∀l:List Ex,(∀a,a∈l->(g a).sz=a.sz)->szQ (l.map g)=szQ l
 |[],_=>rfl
 |a::r,h=>by rw [List.map_cons,zCc,zCc,h a (by simp),szQ_map r fun b hb=>h b (by simp [hb])]
theorem redE_sz (s t:ByteArray) (e:Ex):(redE s t e).sz=e.sz:=by
 induction e using Ex.ind with
 |_ e ih=>
  rw [sz_eq,sz_eq e,redE_eq]
  show 1+szQ (e.Args.map _)=_
  rw [szQ_map _ ih]
theorem linsWt_map {g:Lf->Lf} (h:∀l,(g l).L.length=l.L.length):∀l:List Lf,linsWt (l.map g)=linsWt l
 |[]=>rfl
 |x::r=>by rw [List.map_cons,linsWt,linsWt,h,linsWt_map h r]
theorem renF_len (A B:List ByteArray) (l:Lf):(renF A B l).L.length=l.L.length:=by
 show (sortM _).length=_
 rw [zIz,List.length_map]
theorem gIx_wt {g:Lf->Lf} (h:∀l,(g l).L.length=l.L.length) (x:Ix):(gIx g x).wt=x.wt:=by
 unfold Ix.wt gIx
 simp only [h,List.length_map,linsWt_map h]
theorem gEx_wt {g:Lf->Lf} (h:∀l,(g l).L.length=l.L.length) (e:Ex):(gEx g e).wt=e.wt:=by
 induction e using Ex.ind with
 |_ e ih=>
  rw [gEx_eq,Ex.wt,Ex.wt_eq e,List.length_map,zPg (gIx_wt h),zLn _ ih,h]
theorem Pg.Xt.mrg {p:Pg} {k:Nat} (h:p.Xt k) (q:ByteArray×ByteArray):(mrgS p q).Xt k:=by
 refine ⟨h.sizes,h.wh,h.params,h.outs,?_,h.whs,h.ps,fun d hd=>?_⟩
 ·show ((p.Defs.filter _).map _).length<=_
  rw [List.length_map]
  have h1:=List.length_filter_le (fun d:Df=> !decide (d.Name=q.2)) p.Defs
  have:=h.defs;omega
 ·obtain ⟨x,hx,rfl⟩:=List.mem_map.1 hd
  have h1:=h.ds x (List.mem_filter.1 hx).1
  exact ⟨h1.dims,h1.red,h1.fd,h1.fr,by show (redE _ _ x.Body).sz<=_;rw [redE_sz];exact h1.sz,by show (redE _ _ x.Body).wt<=_;rw [redE_wt];exact h1.wt⟩
end Go.Br
end
section
namespace Go.Br
open Go Go.Eng Go.L41
def Cl.cells (c:Cl):List C:=[cI c.e.Op,cS c.e.Name,cI c.e.Val.N,cI c.e.Val.D,cI c.e.Ty.Kind,cI c.e.Ty.Bits,cI c.e.Ty.Frac,cI c.e.Ty.Round,cI c.e.Ty.Over,cI c.e.Lin.K,.sl 2 (c.e.Lin.L.map Mono.cells),.sl 4 (c.e.Idx.map Ix.cells),.sl 13 (c.e.Args.map Ex.cells),.sl 3 (c.axes.map Ax.cells),cI c.first,cI c.n]
def Cl.rcells (c:Cl):List C:=[cI c.e.Op,cS c.e.Name,cI c.e.Val.N,cI c.e.Val.D,cI c.e.Ty.Kind,cI c.e.Ty.Bits,cI c.e.Ty.Frac,cI c.e.Ty.Round,cI c.e.Ty.Over,cI c.e.Lin.K,.sl 2 (c.e.Lin.L.map Mono.cells),.sl 4 (c.e.Idx.map Ix.cells),.sl 13 (c.e.Args.map Ex.cells),cI c.n,cI c.first,.sl 3 (c.axes.map Ax.cells)]
def Cl.dcells (c:Cl):List C:=[cI c.e.Op,cS c.e.Name,cI c.e.Val.N,cI c.e.Val.D,cI c.e.Ty.Kind,cI c.e.Ty.Bits,cI c.e.Ty.Frac,cI c.e.Ty.Round,cI c.e.Ty.Over,cI c.e.Lin.K,.sl 2 (c.e.Lin.L.map Mono.cells),.sl 4 (c.e.Idx.map Ix.cells),.sl 13 (c.e.Args.map Ex.cells),cI c.n]
abbrev vCl (c:Cl):V:=.agg c.cells
theorem visA_yes {α:Type} {o:Int} {l:List α} {k:Nat} {x:α} (h:l[k]? =some x) (c:¬o=11∨(k:Int)=0):visA o (l.take (k+1))=visA o (l.take k)++[x]:=by
 unfold visA
 by_cases ho:o=11
 ·obtain rfl:k=0:=by omega
  rw [if_pos ho,if_pos ho,qM h];simp
 ·rw [if_neg ho,if_neg ho,qM h]
theorem visA_no {α:Type} {o:Int} {l:List α} {k:Nat} {x:α} (h:l[k]? =some x) (c:o=11/\¬(k:Int)=0):visA o (l.take (k+1))=visA o (l.take k):=by
 obtain ⟨ho,hk⟩:=c
 have hk:k≠0:=fun h=>hk (by omega)
 unfold visA
 rw [if_pos ho,if_pos ho,List.take_take,List.take_take,show min 1 (k+1)=1 by omega,show min 1 k=1 by omega]
theorem visA_pre {α:Type} (o:Int) (l:List α) (k:Nat):∃r,visA o l=visA o (l.take k)++r:=by
 unfold visA
 by_cases ho:o=11
 ·rw [if_pos ho,if_pos ho]
  cases k with
  |zero=>exact ⟨l.take 1,by simp⟩
  |succ k=>exact ⟨[],by rw [List.take_take,show min 1 (k+1)=1 by omega,List.append_nil]⟩
 ·rw [if_neg ho,if_neg ho];exact ⟨l.drop k,(List.take_append_drop k l).symm⟩
def headX (d:Df) (e:Ex):List Ex:=if eligT d e=true then [e] else []
def visP (d:Df) (e:Ex) (k:Nat):List Ex:=headX d e++((visA e.Op (e.Args.take k)).map (occE d)).flatten
theorem zDz (d:Df) (e:Ex):visP d e 0=headX d e:=by
 unfold visP visA;simp
theorem zEt {d:Df} {e x:Ex} {k:Nat} (h:e.Args[k]? =some x) (c:¬e.Op=11∨(k:Int)=0):visP d e (k+1)=visP d e k++occE d x:=by
 unfold visP;rw [visA_yes h c];simp
theorem zNl {d:Df} {e x:Ex} {k:Nat} (h:e.Args[k]? =some x) (c:e.Op=11/\¬(k:Int)=0):visP d e (k+1)=visP d e k:=by
 unfold visP;rw [visA_no h c]
theorem zIp {d:Df} {e:Ex} {k:Nat} (h:¬k<e.Args.length):visP d e k=occE d e:=by
 unfold visP headX;rw [qS h,zOn]
theorem zMm (d:Df) (e:Ex) (k:Nat):∃r,occE d e=visP d e k++r:=by
 obtain ⟨r,hr⟩:=visA_pre e.Op e.Args k
 refine ⟨(r.map (occE d)).flatten,?_⟩
 rw [zOn,hr,List.map_append,List.flatten_append,←List.append_assoc];rfl
theorem vis_head {d:Df} {e:Ex} {T pre suf:List Ex} (hT:T=pre++occE d e++suf) (h:eligT d e=true):∃s,T=pre++e::s:=by
 obtain ⟨r,hr⟩:=zMm d e 0
 rw [zDz,show headX d e=[e] from if_pos h] at hr
 exact ⟨r++suf,by rw [hT,hr];simp⟩
theorem vis_step {d:Df} {e x:Ex} {T pre suf:List Ex} {k:Nat} (hT:T=pre++occE d e++suf) (h:e.Args[k]? =some x) (c:¬e.Op=11∨(k:Int)=0):∃s,T=(pre++visP d e k)++occE d x++s:=by
 obtain ⟨r,hr⟩:=zMm d e (k+1)
 rw [zEt h c] at hr
 exact ⟨r++suf,by rw [hT,hr];simp⟩
theorem occ_len (d:Df) (e:Ex):(occE d e).length<=e.sz:=by
 induction e using Ex.ind with
 |_ e ih=>
  have:∀l:List Ex,(∀a,a∈l->(occE d a).length<=a.sz)->((l.map (occE d)).flatten).length<=szQ l:=by
   intro l
   induction l with
   |nil=>intro _;exact Nat.zero_le _
   |cons a r ihr=>
    intro h
    rw [List.map_cons,List.flatten_cons,List.length_append,zCc]
    have h1:=h a (by simp)
    have h2:=ihr fun b hb=>h b (by simp [hb])
    omega
  have h1:=this (visA e.Op e.Args) fun a ha=>ih a (zMn ha)
  have h2:szQ (visA e.Op e.Args)<=szQ e.Args:=by
   unfold visA
   split
   ·cases e.Args with
    |nil=>exact Nat.le_refl _
    |cons a r=>rw [List.take_succ_cons,List.take_zero,zCc,zCc];show a.sz+szQ []<=_;unfold szQ;rw [nodesL];simp
   ·exact Nat.le_refl _
  rw [zOn,List.length_append,sz_eq]
  split
  ·simp only [List.length_cons,List.length_nil];omega
  ·simp only [List.length_nil];omega
theorem occ_wt {d:Df} {e x:Ex} (h:x∈occE d e):x.wt<=e.wt:=zAo _ _ (zMw h)
/-! ## Axes -/
theorem axs_eq {a b:List Ax}:all2 (fun x y:Ax=>decide (x.Name=y.Name)&&decide (x.Size=y.Size)) a b=decide (a=b):=by
 rw [zJy (g:=id) (fun x _ y _=>by
  rw [←Bool.decide_and];exact decide_eq_decide.2 ⟨fun h=>by cases x;cases y;simp only at h;rw [h.1,h.2];rfl,fun h=>by rw [h];exact ⟨rfl,rfl⟩⟩),List.map_id]
def axF (d:Df) (e:Ex) (k j:Nat):List Ax:=((([d.Dims,d.Red].take k).flatten)++(([d.Dims,d.Red].getD k []).take j)).filter fun a=>hasB (indexT e) a.Name
theorem axF_yes {d:Df} {e:Ex} {k j:Nat} {l:List Ax} {x:Ax} (hl:[d.Dims,d.Red][k]? =some l) (h:l[j]? =some x) (c:hasB (indexT e) x.Name=true):axF d e k (j+1)=axF d e k j++[x]:=by
 unfold axF
 rw [List.getD_eq_getElem?_getD,hl,Option.getD_some,qM h,←List.append_assoc,List.filter_append,List.filter_cons_of_pos (by exact c)];rfl
theorem axF_no {d:Df} {e:Ex} {k j:Nat} {l:List Ax} {x:Ax} (hl:[d.Dims,d.Red][k]? =some l) (h:l[j]? =some x) (c:hasB (indexT e) x.Name=false):axF d e k (j+1)=axF d e k j:=by
 unfold axF
 rw [List.getD_eq_getElem?_getD,hl,Option.getD_some,qM h,←List.append_assoc,List.filter_append,List.filter_cons_of_neg (by rw [c];simp)];simp
theorem axF_up {d:Df} {e:Ex} {k j:Nat} {l:List Ax} (hl:[d.Dims,d.Red][k]? =some l) (c:¬j<l.length):axF d e (k+1) 0=axF d e k j:=by
 unfold axF
 rw [List.getD_eq_getElem?_getD (l:=[d.Dims,d.Red]) (i:=k),hl,Option.getD_some,qS c,qM hl];simp
theorem axF_end {d:Df} {e:Ex} {k:Nat} (c:¬k<2):axF d e k 0=axsN d e:=by
 rw [axsN_T];unfold axF
 rw [qS (by simpa using c)];simp
theorem axF_len (d:Df) (e:Ex) (k j:Nat):(axF d e k j).length<=2*(d.Dims.length+d.Red.length):=by
 unfold axF
 refine Nat.le_trans (List.length_filter_le _ _) ?_
 rw [List.length_append,List.length_take]
 have h1:(([d.Dims,d.Red].take k).flatten).length<=d.Dims.length+d.Red.length:=by
  match k with
  |0=>simp
  |1=>simp
  |k+2=>simp
 have h2:([d.Dims,d.Red].getD k []).length<=d.Dims.length+d.Red.length:=by
  match k with
  |0=>simp
  |1=>simp
  |k+2=>simp
 omega
theorem axsN_len (d:Df) (e:Ex):(axsN d e).length<=d.Dims.length+d.Red.length:=by
 unfold axsN
 refine Nat.le_trans (List.length_filter_le _ _) ?_
 rw [List.length_append];exact Nat.le_refl _
theorem axsN_mem {d:Df} {e:Ex} {a:Ax} (h:a∈axsN d e):a∈d.Dims∨a∈d.Red:=List.mem_append.1 (List.mem_filter.1 h).1
def axG (l:List Ax) (e:Ex):List Ax:=l.filter fun a=>hasB (indexW e) a.Name
theorem axG_yes {e:Ex} {l:List Ax} {k:Nat} {x:Ax} (h:l[k]? =some x) (c:hasB (indexW e) x.Name=true):axG (l.take (k+1)) e=axG (l.take k) e++[x]:=by
 unfold axG;rw [qM h,List.filter_append,List.filter_cons_of_pos (by exact c)];rfl
theorem axG_no {e:Ex} {l:List Ax} {k:Nat} {x:Ax} (h:l[k]? =some x) (c:hasB (indexW e) x.Name=false):axG (l.take (k+1)) e=axG (l.take k) e:=by
 unfold axG;rw [qM h,List.filter_append,List.filter_cons_of_neg (by rw [c];simp)];simp
theorem axG_len (l:List Ax) (e:Ex):(axG l e).length<=l.length:=List.length_filter_le _ _
theorem axG_two (d:Df) (e:Ex):axG d.Dims e++axG d.Red e=axsN d e:=by unfold axG axsN;rw [List.filter_append]
/-! ## Lists -/
theorem idx_le {α:Type} {p:α->Bool} {l:List α} (h:0<=idxOf p l):∃i x,idxOf p l=(i:Nat)/\l[i]? =some x/\p x=true/\(l.take i).any p=false:=by
 obtain ⟨i,hi⟩:∃i:Nat,idxOf p l=i:=⟨(idxOf p l).toNat,by omega⟩
 rcases Bool.eq_false_or_eq_true (l.any p) with ha|ha
 ·obtain ⟨x,hx,hp⟩:=List.any_eq_true.1 ha
  have:∀l:List α,l.any p=true->∃i x,l[i]? =some x/\p x=true/\(l.take i).any p=false:=by
   intro l
   induction l with
   |nil=>intro h;cases h
   |cons y r ih=>
    intro h
    by_cases hy:p y=true
    ·exact ⟨0,y,rfl,hy,rfl⟩
    ·rw [List.any_cons,Bool.eq_false_iff.2 hy,Bool.false_or] at h
     obtain ⟨i,z,h1,h2,h3⟩:=ih h
     exact ⟨i+1,z,by simpa using h1,h2,by rw [List.take_succ_cons,List.any_cons,h3,Bool.or_false];exact Bool.eq_false_iff.2 hy⟩
  obtain ⟨j,z,h1,h2,h3⟩:=this l ha
  exact ⟨j,z,zCx h1 h2 h3,h1,h2,h3⟩
 ·rw [zBm ha] at h;exact absurd h (by decide)
theorem idx_lt {α:Type} {p:α->Bool} {l:List α} (h:idxOf p l<0):l.any p=false:=by
 refine Bool.eq_false_iff.2 fun ha=>?_
 obtain ⟨x,hx,hp⟩:=List.any_eq_true.1 ha
 have:∀l:List α,l.any p=true->∃i x,l[i]? =some x/\p x=true/\(l.take i).any p=false:=by
  intro l
  induction l with
  |nil=>intro h;cases h
  |cons y r ih=>
   intro h
   by_cases hy:p y=true
   ·exact ⟨0,y,rfl,hy,rfl⟩
   ·rw [List.any_cons,Bool.eq_false_iff.2 hy,Bool.false_or] at h
    obtain ⟨i,z,h1,h2,h3⟩:=ih h
    exact ⟨i+1,z,by simpa using h1,h2,by rw [List.take_succ_cons,List.any_cons,h3,Bool.or_false];exact Bool.eq_false_iff.2 hy⟩
 obtain ⟨j,z,h1,h2,h3⟩:=this l ha
 rw [zCx h1 h2 h3] at h;omega
theorem zOf {l:List Cl} {k:Nat} {x:Ex} {a:List Ax} {f:Cl->List C} (hn:l.any (hitC x a)=false):(putC l k x a).map f=l.map f++[f ⟨x,a,k,1⟩]:=by rw [putC_new hn,List.map_append];rfl
theorem put_at_map {l:List Cl} {i k:Nat} {c:Cl} {x:Ex} {a:List Ax} {f:Cl->List C} (h:l[i]? =some c) (hc:hitC x a c=true) (hn:(l.take i).any (hitC x a)=false):(putC l k x a).map f=(l.map f).set i (f { c with n:=c.n+1 }):=by rw [putC_at h hc hn,List.map_set]
theorem set_lst {α:Type} (l:List α) (x y:α):(l++[x]).set l.length y=l++[y]:=by simp
theorem get_lst {α:Type} (l:List α) (x:α):(l++[x])[l.length]? =some x:=by simp
theorem addX_one (d:Df) (k:Nat) (l:List Cl) (pre:List Ex) (x:Ex):addX d k l (pre++[x])=putC (addX d k l pre) k x (axsN d x):=by rw [zNf];rfl
/-! ## Bounds -/
def clN:List Cl->Nat
 |[]=>0
 |c::r=>c.n+clN r
theorem clN_mem {l:List Cl} {c:Cl} (h:c∈l):c.n<=clN l:=by
 induction l with
 |nil=>cases h
 |cons y r ih=>
  rw [clN]
  rcases List.mem_cons.1 h with rfl|h
  ·omega
  ·have:=ih h;omega
theorem clN_len {l:List Cl} (h:∀c,c∈l->1<=c.n):l.length<=clN l:=by
 induction l with
 |nil=>exact Nat.le_refl _
 |cons y r ih=>
  rw [clN,List.length_cons]
  have h1:=h y (by simp)
  have h2:=ih fun c hc=>h c (by simp [hc])
  omega
theorem clN_put (l:List Cl) (k:Nat) (x:Ex) (a:List Ax):clN (putC l k x a)=clN l+1:=by
 induction l with
 |nil=>rfl
 |cons y r ih=>
  rw [putC]
  split
  ·simp only [clN];omega
  ·simp only [clN,ih];omega
theorem zIl (d:Df) (k:Nat):∀(xs:List Ex) (l:List Cl),clN (addX d k l xs)=clN l+xs.length
 |[],l=>rfl
 |x::r,l=>by
  have h:=zIl d k r (putC l k x (axsN d x))
  rw [clN_put] at h
  unfold addX at h⊢
  rw [List.foldl_cons,h,List.length_cons];omega
theorem cl_df {p:Pg} {j k:Nat} {d:Df} (hX:p.Xt j) (hj:j<=64) (hd:p.Defs[k]? =some d):d.Dims.length<=1000000/\d.Red.length<=1000000/\d.Body.wt<=2000000:=by
 have h:=hX.ds d (zW hd)
 have h1:=h.dims
 have h2:=h.red
 have h3:=h.wt
 exact ⟨by omega,by omega,by omega⟩
theorem cl_wt {p:Pg} {j k:Nat} {d:Df} {x:Ex} {pre suf:List Ex} (hX:p.Xt j) (hj:j<=64) (hd:p.Defs[k]? =some d) (hT:occE d d.Body=pre++x::suf):x.wt<=2000000:=by
 have h:=(cl_df hX hj hd).2.2
 have hx:x∈occE d d.Body:=by rw [hT];simp
 have:=occ_wt hx
 omega
theorem xt_len {p:Pg} {j k:Nat} {d:Df} (hX:p.Xt j) (hj:j<=64) (hd:p.Defs[k]? =some d):k<104:=by
 have h1:=zEz hd
 have h2:=hX.defs
 omega
theorem cl_len {p:Pg} {j k:Nat} {d:Df} {x:Ex} {pre suf:List Ex} {L:List Cl} (hX:p.Xt j) (hj:j<=64) (hd:p.Defs[k]? =some d) (hT:occE d d.Body=pre++x::suf) (hL:clN L<=1500*k):clN (addX d k L pre)<=1000000:=by
 have h1:=zIl d k pre L
 have h2:=occ_len d d.Body
 have h3:=(hX.ds d (zW hd)).sz
 have h4:=xt_len hX hj hd
 rw [hT,List.length_append] at h2
 omega
theorem cl_bd {p:Pg} {j:Nat} {c:Cl} (hX:p.Xt j) (hj:j<=64) (hc:c.Ok p.Defs):1<=c.n/\c.e.wt<=2000000/\c.axes.length<=1000000/\∀a,a∈c.axes->a.Size.L.length<=5864062014805:=by
 obtain ⟨d,hd,hn,ha⟩:=hc.first
 have h:=cl_df hX hj hd
 have h1:=zAo _ _ hn
 have h2:=hc.axes
 refine ⟨hc.n,by omega,by omega,fun a haa=>?_⟩
 rw [ha] at haa
 have h3:=hX.ds d (zW hd)
 rcases axsN_mem haa with h4|h4
 ·exact h3.fd a h4
 ·exact h3.fr a h4
theorem cl_okn {p:Pg} {k:Nat} {d:Df} {L:List Cl} (hd:p.Defs[k]? =some d) (hLo:∀c,c∈L->c.Ok p.Defs):∀c,c∈addX d k L (occE d d.Body)->c.Ok p.Defs:=addX_ok hd _ _ hLo fun x hx=>⟨zMx hx,zMw hx⟩
theorem cl_all {p:Pg} {j k:Nat} {d:Df} {x:Ex} {pre suf:List Ex} {L:List Cl} (hX:p.Xt j) (hj:j<=64) (hd:p.Defs[k]? =some d) (hT:occE d d.Body=pre++x::suf) (hLo:∀c,c∈L->c.Ok p.Defs):∀c,c∈addX d k L pre->1<=c.n/\c.e.wt<=2000000/\c.axes.length<=1000000/\∀a,a∈c.axes->a.Size.L.length<=5864062014805:=fun c hc=>
 cl_bd hX hj (addX_ok hd _ _ hLo (fun y hy=>by
  have hm:y∈occE d d.Body:=by rw [hT];simp [hy]
  exact ⟨zMx hm,zMw hm⟩) c hc)
theorem cl_next {p:Pg} {j k:Nat} {d:Df} {L:List Cl} (hX:p.Xt j) (hd:p.Defs[k]? =some d) (hL:clN L<=1500*k):clN (addX d k L (occE d d.Body))<=1500*(k+1):=by
 have h1:=zIl d k (occE d d.Body) L
 have h2:=occ_len d d.Body
 have h3:=(hX.ds d (zW hd)).sz
 omega
theorem clsG_N {p:Pg} {j:Nat} (hX:p.Xt j):∀(r:List Df) (k:Nat) (l:List Cl),(∀d,d∈r->d∈p.Defs)->clN l<=1500*k->clN (clsG r k l)<=1500*(k+r.length)
 |[],k,l,_,h=>by rw [clsG];simpa using h
 |d::r,k,l,hr,h=>by
  rw [clsG,List.length_cons,show k+(r.length+1)=(k+1)+r.length by omega]
  refine clsG_N hX r (k+1) _ (fun d hd=>hr d (by simp [hd])) ?_
  have h1:=zIl d k (occE d d.Body) l
  have h2:=occ_len d d.Body
  have h3:=(hX.ds d (hr d (by simp))).sz
  omega
theorem cls_N {p:Pg} {j:Nat} (hX:p.Xt j) (hj:j<=64):clN (clsP p.Defs)<=1000000:=by
 have h1:=clsG_N hX p.Defs 0 [] (fun d h=>h) (Nat.zero_le _)
 have h2:=hX.defs
 unfold clsP
 omega
theorem cls_bd {p:Pg} {j:Nat} (hX:p.Xt j) (hj:j<=64):∀c,c∈clsP p.Defs->1<=c.n/\c.e.wt<=2000000/\c.axes.length<=1000000/\∀a,a∈c.axes->a.Size.L.length<=5864062014805:=fun c hc=>cl_bd hX hj (clsP_ok _ c hc)
theorem cls_len {p:Pg} {j:Nat} (hX:p.Xt j) (hj:j<=64):(clsP p.Defs).length<=1000000:=Nat.le_trans (clN_len fun c hc=>(cls_bd hX hj c hc).1) (cls_N hX hj)
theorem axL_len {d:Df} {k:Nat} {l:List Ax} (h:[d.Dims,d.Red][k]? =some l):l.length<=d.Dims.length+d.Red.length:=by
 rcases List.mem_cons.1 (zW h) with rfl|h
 ·omega
 ·rw [List.mem_singleton.1 h];omega
def repF (l:List Cl):List Cl:=l.filter fun c=>decide (2<=c.n)
theorem repF_yes {l:List Cl} {k:Nat} {c:Cl} (h:l[k]? =some c) (hc:(2:Int)<=c.n):repF (l.take (k+1))=repF (l.take k)++[c]:=by
 unfold repF
 rw [qM h,List.filter_append];simp;omega
theorem repF_no {l:List Cl} {k:Nat} {c:Cl} (h:l[k]? =some c) (hc:(c.n:Int)<2):repF (l.take (k+1))=repF (l.take k):=by
 unfold repF
 rw [qM h,List.filter_append];simp;omega
theorem repF_len (l:List Cl):(repF l).length<=l.length:=List.length_filter_le _ _
theorem repF_all (D:List Df):repF (clsP D)=repC D:=rfl
def cndP (p:Pg):List Cl:=if (validM p).2=0 then repC p.Defs else []
theorem cndP_no {p:Pg} (h:¬(validM p).2=0):cndP p=[]:=if_neg h
theorem cndP_ok {p:Pg} (h:(validM p).2=0):cndP p=repF (clsP p.Defs):=if_pos h
theorem eligR_no {d:Df} {e:Ex} (h:(((decide (e.Op=1)||decide (e.Op=2))||decide (e.Op=3))||isCond e)=true):eligR d e=false:=by unfold eligR;rw [h];rfl
theorem eligR_yes {d:Df} {e:Ex} (h:(((decide (e.Op=1)||decide (e.Op=2))||decide (e.Op=3))||isCond e)=false):eligR d e=decide ((axsN d e).length<=6):=by unfold eligR;rw [h];rfl
end Go.Br
end
section
namespace Go.Br
open Go Go.Eng Go.L41
def Cl.Bd (c:Cl):Prop:=1<=c.n/\c.e.wt<=2000000/\c.axes.length<=1000000/\∀a,a∈c.axes->a.Size.L.length<=5864062014805
theorem clG {L:List Cl} {j:Nat} (h:j<L.length):L[j]? =some (L.getD j zCl):=by
 rw [List.getD_eq_getElem?_getD,List.getElem?_eq_getElem h];rfl
theorem clG_mem {L:List Cl} {j:Nat} (h:j<L.length):L.getD j zCl∈L:=zW (clG h)
theorem srch_on {L:List Cl} {x:Ex} {a:List Ax} {j:Nat} {n:Int} (h:(decide ((j:Int)<n)&& !(decide ((L.getD j zCl).e=x)&&decide ((L.getD j zCl).axes=a)))=true) (hn:n=L.length:=by simp):j<L.length/\hitC x a (L.getD j zCl)=false:=by
 simp only [Bool.and_eq_true,Bool.not_eq_true',decide_eq_true_eq] at h
 exact ⟨by omega,h.2⟩
theorem srch_off {L:List Cl} {x:Ex} {a:List Ax} {j:Nat} {n:Int} (h:(decide ((j:Int)<n)&& !(decide ((L.getD j zCl).e=x)&&decide ((L.getD j zCl).axes=a)))=false) (hn:n=L.length:=by simp):j<L.length->hitC x a (L.getD j zCl)=true:=fun hj=>by
 rw [decide_eq_true (show (j:Int)<n by omega),Bool.true_and,Bool.not_eq_false'] at h
 exact h
theorem get_lst2 {α β:Type} {f:α->β} {l:List α} {x:β} {j:Nat} (h:j=l.length):(l.map f++[x])[j]? =some x:=by
 rw [h,←List.length_map (f:=f)];exact get_lst _ _
theorem set_lst2 {α β:Type} {f:α->β} {l:List α} {x y:β} {j:Nat} (h:j=l.length):(l.map f++[x]).set j y=l.map f++[y]:=by
 rw [h,←List.length_map (f:=f)];exact set_lst _ _ _
theorem putC_bd {L:List Cl} {k:Nat} {x:Ex} {a:List Ax} (hL:∀c,c∈L->c.Bd) (hx:(⟨x,a,k,1⟩:Cl).Bd):∀c,c∈putC L k x a->c.Bd:=by
 induction L with
 |nil=>intro c hc;rw [putC,List.mem_singleton] at hc;rw [hc];exact hx
 |cons y r ih=>
  intro c hc
  rw [putC] at hc
  have hy:=hL y (by simp)
  split at hc
  ·rcases List.mem_cons.1 hc with rfl|hc
   ·exact ⟨by show 1<=y.n+1;omega,hy.2⟩
   ·exact hL c (by simp [hc])
  ·rcases List.mem_cons.1 hc with rfl|hc
   ·exact hy
   ·exact ih (fun c h=>hL c (by simp [h])) c hc
theorem addX_bd {d:Df} {k:Nat} (h1:d.Dims.length<=1000000) (h2:d.Red.length<=1000000) (h3:∀a,a∈d.Dims->a.Size.L.length<=5864062014805) (h4:∀a,a∈d.Red->a.Size.L.length<=5864062014805) {L:List Cl} (hL:∀c,c∈L->c.Bd):∀{xs:List Ex},(∀x,x∈xs->x.wt<=2000000/\(axsN d x).length<=6)->∀c,c∈addX d k L xs->c.Bd:=by
 intro xs
 induction xs generalizing L with
 |nil=>intro _;exact hL
 |cons x r ih=>
  intro hx
  unfold addX
  rw [List.foldl_cons]
  refine ih (putC_bd hL ⟨Nat.le_refl 1,(hx x (by simp)).1,Nat.le_trans (hx x (by simp)).2 (by decide),fun a ha=>?_⟩) fun y hy=>hx y (by simp [hy])
  rcases axsN_mem ha with h|h
  ·exact h3 a h
  ·exact h4 a h
theorem visP_mem {d:Df} {x z:Ex} {i:Nat} (h:z∈visP d x i):z∈occE d x:=by
 obtain ⟨r,hr⟩:=zMm d x i
 rw [hr];simp [h]
theorem vis_wt {d:Df} {x z:Ex} {i:Nat} (hx:x.wt<=2000000) (h:z∈visP d x i):z.wt<=2000000/\(axsN d z).length<=6:=by
 have hm:=visP_mem h
 have h1:=occ_wt hm
 have h2:=zMx hm
 unfold eligT at h2
 simp only [Bool.and_eq_true,decide_eq_true_eq] at h2
 exact ⟨by omega,h2.2⟩
theorem zKd {d:Df} {x y:Ex} {i:Nat} (h:x.Args[i]? =some y) (c:¬x.Op=11∨(i:Int)=0):(visP d x i).length+(occE d y).length<=(occE d x).length:=by
 obtain ⟨r,hr⟩:=zMm d x (i+1)
 rw [zEt h c] at hr
 rw [hr];simp only [List.length_append];omega
theorem rep_len {p:Pg} {j:Nat} (hX:p.Xt j) (hj:j<=64):(repC p.Defs).length<=1000000:=Nat.le_trans (repF_len (clsP p.Defs)) (cls_len hX hj)
end Go.Br
end
section
namespace Go.Br
open Go Go.Eng Go.L41
/-! ## Names in use -/
def usedK (p:Pg) (k:Nat):List ByteArray:=p.Sizes++p.Params.map Pm.Name++(p.Defs.take k).flatMap fun d=>d.Name::namesD d
theorem usedK_next {p:Pg} {k:Nat} {d:Df} (h:p.Defs[k]? =some d):usedK p (k+1)=(usedK p k++[d.Name])++namesD d:=by
 unfold usedK;rw [qM h,List.flatMap_append];simp
theorem usedK_end {p:Pg} {k:Nat} (h:¬k<p.Defs.length):usedK p k=usedL p:=by unfold usedK usedL;rw [qS h]
theorem usedK_len {p:Pg} {j k:Nat} (hX:p.Xt j) (hk:k<=p.Defs.length):(usedK p k).length<=120+3001*k:=by
 have h1:=hX.sizes
 have h2:=hX.params
 have:∀l:List Df,(∀d,d∈l->d∈p.Defs)->(l.flatMap fun d=>d.Name::namesD d).length<=3001*l.length:=by
  intro l
  induction l with
  |nil=>intro _;exact Nat.zero_le _
  |cons d r ih=>
   intro h
   rw [List.flatMap_cons,List.length_append,List.length_cons,List.length_cons]
   have h3:=ih fun d hd=>h d (by simp [hd])
   have h4:=hX.ds d (h d (by simp))
   have h5:=h4.dims
   have h6:=h4.red
   have h7:=zAs d
   omega
 have h3:=this (p.Defs.take k) fun d hd=>List.mem_of_mem_take hd
 rw [List.length_take] at h3
 unfold usedK
 rw [List.length_append,List.length_append,List.length_map]
 have:3001*min k p.Defs.length<=3001*k:=Nat.mul_le_mul_left _ (by omega)
 omega
theorem usedL_len {p:Pg} {j:Nat} (hX:p.Xt j) (hj:j<=64):(usedL p).length<=1000000:=by
 rw [←usedK_end (k:=p.Defs.length) (by omega)]
 have h1:=usedK_len hX (Nat.le_refl p.Defs.length)
 have h2:=hX.defs
 have:3001*p.Defs.length<=3001*104:=Nat.mul_le_mul_left _ (by omega)
 omega
theorem tNm_up {L:List ByteArray} {k:Nat} (h:∀i,i<k->hasB L (tNm i)=true) (hk:hasB L (tNm k)=true):∀i,i<k+1->hasB L (tNm i)=true:=fun i hi=>by
 by_cases c:i<k
 ·exact h i c
 ·rw [show i=k by omega];exact hk
/-! ## The best class -/
theorem bst_next {l:List Cl} {k:Nat} {c:Cl} {b R:Cl×Nat} (h:l[k]? =some c) (hp:R=(l.drop k).foldl bstS b):R=(l.drop (k+1)).foldl bstS (bstS b c):=by
 rw [hp,qI h,List.foldl_cons]
theorem bst_end {l:List Cl} {k:Nat} {b R:Cl×Nat} (hp:R=(l.drop k).foldl bstS b) (h:¬k<l.length):R=b:=by
 rw [hp,kB h];rfl
theorem bst_none {D:List Df} (h:¬0<(bstP (clsP D)).2):repC D=[]:=by
 rcases best_eq (D:=D) with ⟨h1,_⟩|⟨c,r,h1,h2⟩
 ·exact h1
 ·rw [h2] at h;exact absurd (szT_pos _) h
theorem bst_some {D:List Df} (h:0<(bstP (clsP D)).2):¬repC D=[]/\(bstP (clsP D)).1∈clsP D:=by
 rcases best_eq (D:=D) with ⟨h1,h2⟩|⟨c,r,h1,h2⟩
 ·rw [h2] at h;exact absurd h (by decide)
 ·refine ⟨by rw [h1];simp,?_⟩
  rw [h2]
  have hin:∀x,x∈repC D->x∈clsP D:=fun x hx=>(List.mem_filter.1 hx).1
  rcases bstR_mem (repC D) c with h3|h3
  ·show (repC D).foldl bstR c∈_
   rw [h3];exact hin c (by rw [h1];simp)
  ·exact hin _ h3
theorem rep_bd {p:Pg} {j:Nat} {c:Cl} (hX:p.Xt j) (hj:j<=64) (hc:c∈repC p.Defs):1<=c.n/\c.e.wt<=2000000/\c.axes.length<=1000000/\∀a,a∈c.axes->a.Size.L.length<=5864062014805:=cls_bd hX hj c (List.mem_filter.1 hc).1
def exdP (p:Pg) (c:Cl) (k:Nat):List Df:=p.Defs.take c.first++newD p c::((p.Defs.drop c.first).take k).map (newB p c)
theorem exdP_next {p:Pg} {c:Cl} {k:Nat} {d:Df} (h:(p.Defs.drop c.first)[k]? =some d):exdP p c (k+1)=exdP p c k++[newB p c d]:=by
 unfold exdP;rw [qM h,List.map_append];simp
theorem exdP_end {p:Pg} {c:Cl} {k:Nat} (h:¬k<(p.Defs.drop c.first).length):exdP p c k=(extP p c).Defs:=by
 unfold exdP;rw [qS h];rfl
theorem exdP_len (p:Pg) (c:Cl) (k:Nat):(exdP p c k).length<=p.Defs.length+1:=by
 unfold exdP
 simp only [List.length_append,List.length_cons,List.length_map,List.length_take,List.length_drop];omega
theorem exG_full {k:Nat} {p:Pg} (h:64<=p.Defs.length):exG k p=(p,0):=by
 cases k with
 |zero=>rw [exG]
 |succ k=>rw [exG,if_pos (.inl h)]
theorem exG_none {k:Nat} {p:Pg} (h:repC p.Defs=[]):exG k p=(p,0):=by
 cases k with
 |zero=>rw [exG]
 |succ k=>rw [exG,if_pos (.inr h)]
theorem exG_go {most:Int} {n:Nat} {q:Pg} {R:Pg×Nat} (hp:R=((exG (most.toNat-n) q).1,(exG (most.toNat-n) q).2+n)) (h1:(n:Int)<most) (h2:q.Defs.length<64) (h3:¬repC q.Defs=[]):R=((exG (most.toNat-(n+1)) (extP q (bstP (clsP q.Defs)).1)).1,(exG (most.toNat-(n+1)) (extP q (bstP (clsP q.Defs)).1)).2+(n+1)):=by
 rw [hp,show most.toNat-n=(most.toNat-(n+1))+1 by omega,exG,if_neg (by rintro (h|h);omega;exact h3 h)]
 simp only [Prod.mk.injEq,true_and];omega
theorem exG_stop {most:Int} {n:Nat} {q:Pg} {R:Pg×Nat} (hp:R=((exG (most.toNat-n) q).1,(exG (most.toNat-n) q).2+n)) (h:¬((n:Int)<most/\(q.Defs.length:Int)<64)):R=(q,n):=by
 by_cases c:(n:Int)<most
 ·rw [hp,exG_full (by omega)];simp
 ·rw [hp,show most.toNat-n=0 by omega,exG];simp
theorem exG_stop2 {most:Int} {n:Nat} {q:Pg} {R:Pg×Nat} (hp:R=((exG (most.toNat-n) q).1,(exG (most.toNat-n) q).2+n)) (h:repC q.Defs=[]):R=(q,n):=by
 rw [hp,exG_none h];simp
theorem xtr_no {most:Int} {p:Pg} (h:¬(validM p).2=0):xtrP most p=(p,0):=if_neg h
theorem xtr_ok {most:Int} {p:Pg} (h:(validM p).2=0):xtrP most p=((exG (most.toNat-0) p).1,(exG (most.toNat-0) p).2+0):=if_pos h
theorem cl_first {p:Pg} {c:Cl} (hc:c∈clsP p.Defs):c.first<p.Defs.length:=by
 obtain ⟨d,hd,_⟩:=(clsP_ok _ c hc).first
 exact zEz hd
theorem dfG {p:Pg} {k:Nat} (h:k<p.Defs.length):p.Defs[k]? =some (p.Defs.getD k ⟨bs [],zTy,[],[],0,zEx⟩):=by
 rw [List.getD_eq_getElem?_getD,List.getElem?_eq_getElem h];rfl
end Go.Br
end
section
namespace Go.Br
open Go Go.Eng Go.L41
abbrev SmM:Type:=List (ByteArray×ByteArray)
theorem mgetS_put (m:SmM) (k s a:ByteArray):mget (mput m k a) s=if k=s then some a else mget m s:=by
 induction m with
 |nil=>rfl
 |cons q r ih=>
  obtain ⟨k',b⟩:=q
  rw [mput]
  split
  ·next h=>subst h;simp only [mget];split<;>rfl
  ·next h=>
   simp only [mget]
   rw [ih]
   split
   ·next h2=>subst h2;rw [if_neg (fun e=>h e.symm)]
   ·rfl
def mapAB (A B:List ByteArray) (k:Nat):SmM:=((B.zip A).take k).foldl (fun m q=>mput m q.1 q.2) []
theorem mapAB_next {A B:List ByteArray} {k:Nat} {s t:ByteArray} (hB:B[k]? =some s) (hA:A[k]? =some t):mapAB A B (k+1)=mput (mapAB A B k) s t:=by
 unfold mapAB
 rw [qM (x:=(s,t)) (by rw [List.getElem?_zip_eq_some];exact ⟨hB,hA⟩),List.foldl_append];rfl
theorem foldS_get (s:ByteArray):∀(l:SmM) (m:SmM),(l.map Prod.fst).Nodup->mget (l.foldl (fun m q=>mput m q.1 q.2) m) s=(match l.find? fun q=>decide (q.1=s) with|some q=>some q.2|none=>mget m s)
 |[],m,_=>rfl
 |q::r,m,h=>by
  rw [List.foldl_cons,foldS_get s r _ (by rw [List.map_cons,List.nodup_cons] at h;exact h.2),List.find?_cons]
  rw [List.map_cons,List.nodup_cons] at h
  by_cases c:q.1=s
  ·have hn:r.find? (fun q=>decide (q.1=s))=none:=by
    rw [List.find?_eq_none]
    intro x hx hh
    exact h.1 (by rw [c,←of_decide_eq_true hh];exact List.mem_map_of_mem hx)
   rw [hn,decide_eq_true c,mgetS_put,if_pos c]
  ·rw [decide_eq_false c,mgetS_put,if_neg c]
theorem mapAB_end {A B:List ByteArray} (hB:B.Nodup) (hl:A.length=B.length) {k:Nat} (hk:¬k<B.length) (s:ByteArray):(mget (mapAB A B k) s).getD s=renB A B s:=by
 unfold mapAB
 rw [qS (by rw [List.length_zip];omega),foldS_get s _ _ (by rw [List.map_fst_zip (by omega)];exact hB)]
 by_cases c:s∈B
 ·obtain ⟨i,hi⟩:=List.getElem?_of_mem c
  have hiB:=zEz hi
  have hA:A[i]? =some (A[i]'(by omega)):=List.getElem?_eq_getElem (by omega)
  rw [renB_at hB hi hA]
  cases hf:(B.zip A).find? (fun q=>decide (q.1=s)) with
  |none=>
   rw [List.find?_eq_none] at hf
   exact absurd (by simp:decide (s=s)=true) (hf (s,A[i]'(by omega)) (by rw [List.mem_iff_getElem?];exact ⟨i,by rw [List.getElem?_zip_eq_some];exact ⟨hi,hA⟩⟩))
  |some q=>
   have h1:=List.find?_some hf
   have h2:=List.mem_of_find?_eq_some hf
   obtain ⟨j,hj⟩:=List.getElem?_of_mem h2
   rw [List.getElem?_zip_eq_some] at hj
   have e1:q.1=s:=of_decide_eq_true h1
   have hjB:=zEz hj.1
   have e2:j=i:=by
    have e3:=ixB_at hB hi
    have e4:=ixB_at (s:=s) hB (e1 ▸ hj.1)
    omega
   subst e2
   rw [hA] at hj
   exact (Option.some.inj hj.2).symm
 ·rw [renB_no c]
  cases hf:(B.zip A).find? (fun q=>decide (q.1=s)) with
  |none=>rfl
  |some q=>
   have h1:=List.find?_some hf
   have h2:=List.mem_of_find?_eq_some hf
   exact absurd (by rw [←of_decide_eq_true h1];exact (List.of_mem_zip h2).1) c
theorem ren_nodup {A B:List ByteArray} {l:Lf} (hA:A.Nodup) (hB:B.Nodup) (hl:A.length=B.length) (h:swpOk A B l):((l.L.map fun x=>(⟨renB A B x.Name,x.By⟩:Mono)).map Mono.Name).Nodup:=by
 have h1:=zJh (p:=none) (l:=l.L) (by have:=h.1;unfold linOk at this;exact this)
 unfold List.Nodup
 rw [List.map_map,List.pairwise_map]
 refine (List.Pairwise.and_mem.1 h1).imp fun {a b} hh e=>?_
 obtain ⟨ha,hb,hlt⟩:=hh
 have e:renB A B a.Name=renB A B b.Name:=e
 have e1:=zGr hA hB hl (h.2 a ha)
 have e2:=zGr hA hB hl (h.2 b hb)
 rw [e,e2] at e1
 exact asc_ne hlt e1.symm
/-! ## Definitions compared -/
theorem ty_ne (a b:Ty):(!litsEq [cI a.Kind,cI a.Bits,cI a.Frac,cI a.Round,cI a.Over] [cI b.Kind,cI b.Bits,cI b.Frac,cI b.Round,cI b.Over])= !decide (a=b):=by
 rw [litsEq_ty]
theorem twn_no {a b:Df} (h:(((!decide (a.T=b.T)|| !decide (a.Fold=b.Fold))|| !szsT a.Dims b.Dims)|| !szsT a.Red b.Red)=true):twnT a b=false:=Bool.eq_false_iff.2 fun hh=>by
 unfold twnT at hh
 simp only [Bool.and_eq_true] at hh
 obtain ⟨⟨⟨⟨h1,h2⟩,h3⟩,h4⟩,_⟩:=hh
 rw [h1,h2,h3,h4] at h
 cases h
theorem twn_on {a b:Df} (h:(((!decide (a.T=b.T)|| !decide (a.Fold=b.Fold))|| !szsT a.Dims b.Dims)|| !szsT a.Red b.Red)=false):szsT a.Dims b.Dims=true/\szsT a.Red b.Red=true/\twnT a b=decide (a.Body=gEx (renF (namesD a) (namesD b)) b.Body):=by
 unfold twnT
 cases hT:decide (a.T=b.T)<;>cases hF:decide (a.Fold=b.Fold)<;>cases hD:szsT a.Dims b.Dims<;>cases hR:szsT a.Red b.Red<;>rw [hT,hF,hD,hR] at h<;>simp at h⊢
/-! ## Pairs -/
def pairC (q:ByteArray×ByteArray):List C:=[cS q.1,cS q.2]
theorem dup1_at {D:List Df} {d x:Df} {i:Nat} (h1:D[i]? =some x) (h2:twnT x d=true) (h3:(D.take i).any (fun y=>twnT y d)=false):dup1 D d=[(x.Name,d.Name)]:=by
 unfold dup1
 have:∀(D:List Df) (i:Nat),D[i]? =some x->(D.take i).any (fun y=>twnT y d)=false->D.find? (fun y=>twnT y d)=some x:=by
  intro D
  induction D with
  |nil=>intro i h;cases h
  |cons y r ih=>
   intro i h hn
   cases i with
   |zero=>simp only [List.getElem?_cons_zero,Option.some.injEq] at h;subst h;rw [List.find?_cons,h2]
   |succ i=>
    rw [List.take_succ_cons,List.any_cons,Bool.or_eq_false_iff] at hn
    rw [List.find?_cons,hn.1,ih i (by simpa using h) hn.2]
 rw [this D i h1 h3]
theorem dup1_none {D:List Df} {d:Df} (h:D.any (fun y=>twnT y d)=false):dup1 D d=[]:=by
 unfold dup1
 rw [show D.find? (fun y=>twnT y d)=none by
  rw [List.find?_eq_none]
  intro x hx hh
  rw [List.any_eq_false] at h
  exact h x hx hh]
theorem dup1_len (D:List Df) (d:Df):(dup1 D d).length<=1:=by
 unfold dup1
 split<;>simp
theorem prs_no {p:Pg} (h:¬(validM p).2=0):prsV p=[]:=if_neg h
theorem prs_ok {p:Pg} (h:(validM p).2=0):prsV p=dupG [] p.Defs:=if_pos h
theorem dupG_len:∀(l D:List Df),(dupG D l).length<=l.length
 |[],D=>by rw [dupG];simp
 |d::r,D=>by
  rw [dupG,List.length_append,List.length_cons]
  have h1:=dup1_len D d
  have h2:=dupG_len r (D++[d])
  omega
theorem prs_len (p:Pg):(prsV p).length<=p.Defs.length:=by
 unfold prsV
 split
 ·exact dupG_len _ _
 ·exact Nat.zero_le _
theorem find_at8 {α:Type} {p:α->Bool} {l:List α} {i:Nat} {x:α} (h1:l[i]? =some x) (h2:p x=true) (h3:(l.take i).any p=false):l.find? p=some x:=by
 induction l generalizing i with
 |nil=>cases h1
 |cons y r ih=>
  cases i with
  |zero=>simp only [List.getElem?_cons_zero,Option.some.injEq] at h1;subst h1;rw [List.find?_cons,h2]
  |succ i=>
   rw [List.take_succ_cons,List.any_cons,Bool.or_eq_false_iff] at h3
   rw [List.find?_cons,h3.1,ih (by simpa using h1) h3.2]
theorem find_no8 {α:Type} {p:α->Bool} {l:List α} (h:l.any p=false):l.find? p=none:=by
 rw [List.find?_eq_none]
 intro x hx hh
 rw [List.any_eq_false] at h
 exact h x hx hh
/-! ## What is left of the definitions -/
def mrgK (p:Pg) (q:ByteArray×ByteArray) (k:Nat):List Df:=((p.Defs.take k).filter fun d=> !decide (d.Name=q.2)).map (redD q.2 q.1)
theorem mrgK_yes {p:Pg} {q:ByteArray×ByteArray} {k:Nat} {d:Df} (h:p.Defs[k]? =some d) (c:¬d.Name=q.2):mrgK p q (k+1)=mrgK p q k++[redD q.2 q.1 d]:=by
 unfold mrgK;rw [qM h,List.filter_append,List.map_append];simp [c]
theorem mrgK_no {p:Pg} {q:ByteArray×ByteArray} {k:Nat} {d:Df} (h:p.Defs[k]? =some d) (c:d.Name=q.2):mrgK p q (k+1)=mrgK p q k:=by
 unfold mrgK;rw [qM h,List.filter_append,List.map_append];simp [c]
theorem mrgK_end {p:Pg} {q:ByteArray×ByteArray} {k:Nat} (h:¬k<p.Defs.length):mrgK p q k=(mrgS p q).Defs:=by
 unfold mrgK;rw [qS h];rfl
theorem mrgK_len (p:Pg) (q:ByteArray×ByteArray) (k:Nat):(mrgK p q k).length<=k:=by
 unfold mrgK
 rw [List.length_map]
 exact Nat.le_trans (List.length_filter_le _ _) (List.length_take_le _ _)
theorem mrg_step {p q:Pg} {n:Nat} {R:Pg×Nat} {z:ByteArray×ByteArray} (hp:R=((mrgP q).1,(mrgP q).2+n)) (h:pckV q=some z):R=((mrgP (mrgS q z)).1,(mrgP (mrgS q z)).2+(n+1)):=by
 rw [hp,mrgP_next h]
 simp only [Prod.mk.injEq,true_and];omega
theorem mrg_stop {p q:Pg} {n:Nat} {R:Pg×Nat} (hp:R=((mrgP q).1,(mrgP q).2+n)) (h:pckV q=none):R=(q,n):=by
 rw [hp,mrgP_end h];simp
end Go.Br
end
section
namespace Go.Br
open Go Go.Eng Go.L41
section
variable {A B:List ByteArray}
end
/-! ## Duplicates -/
theorem ops_valid {p:Pg} (h:(validM p).2=0):∀d,d∈p.Defs->d.Body.ops:=fun d hd x hx=>by
 obtain ⟨k,hk⟩:=List.getElem?_of_mem hd
 have hv:=(zEb (e:=d.Body) (by rw [(zOh h hk).1])).1
 exact (node_op (zGi (zBy hv) x hx)).1
end Go.Br
end
