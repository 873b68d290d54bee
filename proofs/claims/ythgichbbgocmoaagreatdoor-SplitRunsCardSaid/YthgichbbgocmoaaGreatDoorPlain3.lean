/-
  Loop nests,in plain Lean: buffers,statements,and the cells that hold them.
  And what the laws need besides.
  Conditions: none.
-/
import Derived.Test.YthgichbbgocmoaaGreatDoorPlain
import Derived.Test.YthgichbbgocmoaaGreatDoorNames
import Derived.Test.YthgichbbgocmoaaGreatDoorPlain2
set_option linter.unusedSimpArgs false
set_option linter.unusedVariables false
set_option linter.defProp false
section
namespace Go.Br
open Go Go.Eng Go.L41
structure Bf where
 Name:lr
 T:Ty
 Dims:List Int
 Use:Int
 deriving DecidableEq
inductive St where
 |mk (op:Int) (name:lr) (many pC fold:Int) (idx:List Ix) (ex:Ex) (body:List St)
namespace St
def Op:St->Int|mk x _ _ _ _ _ _ _=>x
def Name:St->lr|mk _ x _ _ _ _ _ _=>x
def Many:St->Int|mk _ _ x _ _ _ _ _=>x
def Mark:St->Int|mk _ _ _ x _ _ _ _=>x
def Fold:St->Int|mk _ _ _ _ x _ _ _=>x
def Idx:St->List Ix|mk _ _ _ _ _ x _ _=>x
def E:St->Ex|mk _ _ _ _ _ _ x _=>x
def Body:St->List St|mk _ _ _ _ _ _ _ x=>x
def eta (s:St):s=mk s.Op s.Name s.Many s.Mark s.Fold s.Idx s.E s.Body:=by cases s;rfl
def ind {P:St->Prop} (h:∀s:St,(∀a,a∈s.Body->P a)->P s) (s:St):P s:=
 St.rec (motive_1:=P) (motive_2:=fun l=>∀a,a∈l->P a) (fun o n m k f i e b ih=>h (mk o n m k f i e b) ih) (fun a h=>by cases h)
  (fun x l hx hl a ha=>by rcases af.1 ha with rfl|ha;exact hx;exact hl a ha) s
end St
structure Ns where
 Bufs:List Bf
 Body:List St
def Bf.cells (b:Bf):List C:=[cS b.Name,cI b.T.Kind,cI b.T.Bits,cI b.T.Frac,cI b.T.Round,cI b.T.Over,.sl 1 (b.Dims.map fun n=>[cI n]),cI b.Use]
mutual
def St.cells:St->List C
 |.mk o n m k f i e b=>[cI o,cS n,cI m,cI k,cI f,.sl 4 (i.map Ix.cells)]++e.cs++[.sl 20 (rO b)]
def rO:List St->List (List C)
 |[]=>[]
 |s::r=>s.cells::rO r
end
def zWj (l:List St):rO l=l.map St.cells:=by
 induction l with
 |nil=>rfl
 |cons s r ih=>rw [rO,ih];rfl
def St.cs (s:St):List C:=[cI s.Op,cS s.Name,cI s.Many,cI s.Mark,cI s.Fold,.sl 4 (s.Idx.map Ix.cells),
 cI s.E.Op,cS s.E.Name,cI s.E.Val.N,cI s.E.Val.D,cI s.E.Ty.Kind,cI s.E.Ty.Bits,cI s.E.Ty.Frac,cI s.E.Ty.Round,cI s.E.Ty.Over,cI s.E.Lin.K,.sl 2 (s.E.Lin.L.map Mono.cells),.sl 4 (s.E.Idx.map Ix.cells),.sl 13 (s.E.Args.map Ex.cells),.sl 20 (s.Body.map St.cells)]
def St.cells_eq (s:St):s.cells=s.cs:=by
 cases s;rw [St.cells,zWj];rfl
def Ns.cells (n:Ns):List C:=[.sl 8 (n.Bufs.map Bf.cells),.sl 20 (n.Body.map St.cells)]
abbrev vBf (b:Bf):V:=.agg b.cells
abbrev vSt (s:St):V:=.agg s.cs
abbrev dA (l:List St):V:=.c (.sl 20 (l.map St.cells))
abbrev vNs (n:Ns):V:=.agg n.cells
abbrev vIs (l:List Int):V:=.c (.sl 1 (l.map fun n=>[cI n]))
abbrev eS (l:List Bf):V:=.c (.sl 8 (l.map Bf.cells))
variable {k:Nat}
def zFo {α:Type} {p:α->Bool} {l:List α} {x:α} (h:l[k]? =some x) (hp:(l.take k).all p=true) (hx:p x=true):(l.take (k+1)).all p=true:=by
 rw [yR h,bx,hp];simp [hx]
variable {l:List St}
def wL {x:St} (h:l[k]? =some x):(l.map St.cells)[k]? =some x.cs:=by
 rw [getm h,St.cells_eq]
/-! ## Sizes -/
mutual
def St.wt:St->Nat
 |.mk _ _ _ _ _ i e b=>1+e.wt+i.length+dO i+bD b
def bD:List St->Nat
 |[]=>0
 |s::r=>s.wt+bD r
end
def St.wt_eq (s:St):s.wt=1+s.E.wt+s.Idx.length+dO s.Idx+bD s.Body:=by cases s;rw [St.wt];rfl
def kY (l:List St):l.length<=bD l:=by
 induction l with
 |nil=>simp [bD]
 |cons y r ih=>rw [bD,lLc];have:=y.wt_eq;omega
def yS {a:St} (h:a∈l):a.wt<=bD l:=by
 induction l with
 |nil=>cases h
 |cons x r ih=>
  rw [bD]
  exact v12
def St.wt_pos (s:St):1<=s.wt:=by rw [St.wt_eq];omega
def St.body_wt (s:St):bD s.Body<s.wt:=by rw [St.wt_eq s];omega
variable {s:St}
def St.parts {B:Nat} (h:s.wt<=B):s.E.wt<=B/\s.Idx.length<=B/\dO s.Idx<=B/\s.Body.length<=B/\bD s.Body<=B:=by
 rw [St.wt_eq] at h
 have:=kY s.Body
 omega
def rdE (s:St):Ex:=.mk 3 s.Name ⟨0,0⟩ ⟨0,0,0,0,0⟩ ⟨0,[]⟩ s.Idx []
def rdE_wt (s:St):(rdE s).wt<=s.wt+1:=by
 rw [Ex.wt_eq,St.wt_eq];simp only [rdE,Ex.Lin,Ex.Idx,Ex.Args,fC,lLn];omega
/-! ## Shapes (11.1) -/
def nN (n:Int):Bool:=decide (1<=n)
def bN:Int->List Int->Option Int
 |s,[]=>some s
 |s,n::r=>if 4096<s*n then none else bN (s*n) r
def bX (d:List Int):Int:=if 6<d.length then 2 else if d.all nN=true then (if (bN 1 d).isSome=true then 0 else 2) else 1
def fJ (d:List Int):Int:=if bX d=0 then (bN 1 d).getD 0 else 0
variable {d:List Int}
def zYy (h:6<d.length):bX d=2:=by unfold bX;rw [ab h]
variable {n:Int}
def dims_neg (h:¬6<d.length) (hn:d[k]? =some n) (h2:n<1):bX d=1:=by
 unfold bX
 rw [aa h,aa (by rw [zMk hn (p:=nN) (by unfold nN;exact aB zA)];simp)]
def zQw (h:¬6<d.length) (h1:d.all nN=true) (h2:bN 1 d=none):bX d=2:=by
 unfold bX;rw [aa h,ab h1,h2];rfl
def dims_ok {s:Int} (h:¬6<d.length) (h1:d.all nN=true) (h2:bN 1 d=some s):bX d=0:=by
 unfold bX;rw [aa h,ab h1,h2];rfl
def zGm {s:Int} (h:d[k]? =some n) (hs:bN 1 d=bN s (d.drop k)) (h2:¬4096<s*n):bN 1 d=bN (s*n) (d.drop (k+1)):=by
 rw [hs,qQ h,bN,aa h2]
def zLe {s:Int} (h:d[k]? =some n) (hs:bN 1 d=bN s (d.drop k)) (h2:4096<s*n):bN 1 d=none:=by
 rw [hs,qQ h,bN,ab h2]
def zLf {s:Int} (hs:bN 1 d=bN s (d.drop k)) (h:¬k<d.length):bN 1 d=some s:=by
 rw [hs,kL h];rfl
def quo_lt {s:Int} (h:1<=s):Int.tdiv 4096 s<n↔4096<s*n:=by
 rw [fx zA,Int.ediv_lt_iff_lt_mul zA,Int.mul_comm]
def quo_wrap {s:Int} (h:1<=s):IntKind.i64.wrap (Int.tdiv 4096 s)=Int.tdiv 4096 s:=by
 have h1:Int.tdiv 4096 s=4096/s:=fx zA
 have h2:0<=(4096:Int)/s:=Int.ediv_nonneg zA zA
 have h3:(4096:Int)/s<=4096:=Int.ediv_le_self _ zA
 exact zDf ⟨zA,zA⟩
def quo_t {s:Int} (h:1<=s) (c:IntKind.i64.wrap (Int.tdiv 4096 s)<n):4096<s*n:=by rw [quo_wrap h] at c;exact (quo_lt h).1 c
def quo_f {s:Int} (h:1<=s) (c:¬IntKind.i64.wrap (Int.tdiv 4096 s)<n):¬4096<s*n:=by rw [quo_wrap h] at c;exact fun k=>c ((quo_lt h).2 k)
def zCb (h:d.all nN=true) (hn:d[k]? =some n):1<=n:=by
 have:=(ax.1 h) n (qA hn)
 simpa [nN] using this
def zCc {s:Int} (h:1<=s) (h2:1<=n):1<=s*n/\n<=s*n:=by
 have h3:1*n<=s*n:=Int.mul_le_mul_of_nonneg_right h zA
 omega
def zWq:∀{d:List Int} {s t:Int},1<=s->s<=4096->d.all nN=true->bN s d=some t->1<=t/\t<=4096
 |[],s,t,h,h2,_,h3=>by simp only [bN,ap] at h3;omega
 |n::r,s,t,h,h2,hp,h3=>by
  rw [bN] at h3
  simp only [aW,ae] at hp
  have hn:1<=n:=by simpa [nN] using hp.1
  split at h3
  ·cases h3
  ·rename_i h4
   exact zWq (zCc h hn).1 zA hp.2 h3
def zFm (h:bX d=0):d.length<=6/\d.all nN=true/\∃s,bN 1 d=some s/\1<=s/\s<=4096:=by
 unfold bX at h
 split at h
 ·cases h
 ·rename_i h6
  split at h
  ·rename_i hp
   split at h
   ·rename_i hs
    obtain ⟨s,hs⟩:=fa.1 hs
    have:=zWq zA zA hp hs
    exact ⟨zA,hp,s,hs,this.1,this.2⟩
   ·cases h
  ·cases h
def zEp {s:Int} (h:bX d=0) (hs:bN 1 d=some s):fJ d=s:=by unfold fJ;rw [ab h,hs];rfl
def dimsSize_no (h:¬bX d=0):fJ d=0:=by unfold fJ;rw [aa h]
def zPl {s t:Int} (h:d[k]? =some n) (hs:bN 1 d=bN s (d.drop k)) (ht:bN 1 d=some t):¬4096<s*n:=by
 intro h2
 rw [zLe h hs h2] at ht;cases ht
/-! ## Buffers -/
def zBf:Bf:=⟨bs [],zTy,[],0⟩
def dU (l:List Bf) (s:lr):Bool:=l.any fun b=>decide (b.Name=s)
def jA:List Bf->lr->Bf
 |[],_=>zBf
 |b::r,s=>if b.Name=s then b else jA r s
variable {b:Bf}
def bufD_at {l:List Bf} {s:lr} (h:l[k]? =some b) (hb:b.Name=s):jA (l.drop k) s=b:=by rw [qQ h,jA,ab hb]
def bufD_next {l:List Bf} {s:lr} (h:l[k]? =some b) (hb:¬b.Name=s):jA (l.drop k) s=jA (l.drop (k+1)) s:=by rw [qQ h,jA,aa hb]
def hasBf_at {l:List Bf} {s:lr} (h:l[k]? =some b) (hb:b.Name=s):dU l s=true:=by
 unfold dU;rw [fe];exact ⟨b,qA h,aw hb⟩
def zSw {l:List Bf} {s:lr} (h:l[k]? =some b) (hp:dU (l.take k) s=false) (hb:¬b.Name=s):dU (l.take (k+1)) s=false:=by
 unfold dU at *;rw [yR h,fm,hp];simp [hb]
def hasBf_lt {l:List Bf} {j:Nat} {s:lr} (h:l[j]? =some b) (hj:j<k) (hb:b.Name=s):dU (l.take k) s=true:=by
 have:(l.take k)[j]? =some b:=by rw [bp];simp [hj,h]
 exact hasBf_at this hb
def bufD_no:∀{l:List Bf} {s:lr},dU l s=false->jA l s=zBf
 |[],_,_=>rfl
 |b::r,s,h=>by
  simp only [dU,ep,al,aj] at h
  rw [jA,aa h.1];exact bufD_no h.2
def lS (seen:List Bf) (b:Bf):Int:=
 if bB b.Name=true then (if dU seen b.Name=true then 8 else if dD b.T=true then (if bX b.Dims=0 then (if b.Use<1∨3<b.Use then 1 else 0) else bX b.Dims) else 10) else 7
def dM:List Bf->List Bf->Int
 |_,[]=>0
 |seen,b::r=>if lS seen b=0 then dM (seen++[b]) r else lS seen b
variable {seen:List Bf}
def bfErr_7 (h:bB b.Name=false):lS seen b=7:=by unfold lS;rw [aa (by rw [h];simp)]
def bfErr_8 (h:bB b.Name=true) (h2:dU seen b.Name=true):lS seen b=8:=by unfold lS;rw [ab h,ab h2]
def zVr (h:bB b.Name=true) (h2:dU seen b.Name=false) (h3:dD b.T=false):lS seen b=10:=by unfold lS;rw [ab h,aa (by rw [h2];simp),aa (by rw [h3];simp)]
def bfErr_d (h:bB b.Name=true) (h2:dU seen b.Name=false) (h3:dD b.T=true) (h4:¬bX b.Dims=0):lS seen b=bX b.Dims:=by unfold lS;rw [ab h,aa (by rw [h2];simp),ab h3,aa h4]
def bfErr_u (h:bB b.Name=true) (h2:dU seen b.Name=false) (h3:dD b.T=true) (h4:bX b.Dims=0) (h5:b.Use<1∨3<b.Use):lS seen b=1:=by unfold lS;rw [ab h,aa (by rw [h2];simp),ab h3,ab h4,ab h5]
def bfErr_0 (h:bB b.Name=true) (h2:dU seen b.Name=false) (h3:dD b.T=true) (h4:bX b.Dims=0) (h5:¬(b.Use<1∨3<b.Use)):lS seen b=0:=by unfold lS;rw [ab h,aa (by rw [h2];simp),ab h3,ab h4,aa h5]
def zTw {l:List Bf} (h:l[k]? =some b) (hp:dM [] l=dM (l.take k) (l.drop k)) (hb:lS (l.take k) b=0):dM [] l=dM (l.take (k+1)) (l.drop (k+1)):=by
 rw [hp,qQ h,dM,ab hb,yR h]
def zBx {l:List Bf} (h:l[k]? =some b) (hp:dM [] l=dM (l.take k) (l.drop k)) (hb:¬lS (l.take k) b=0):dM [] l=lS (l.take k) b:=by
 rw [hp,qQ h,dM,aa hb]
def zZu {l:List Bf} (hp:dM [] l=dM (l.take k) (l.drop k)) (h:¬k<l.length):dM [] l=0:=by
 rw [hp,kL h];rfl
/-! ## Depth and number of statements -/
def dR:Nat->List St->Bool
 |0,l=>l.isEmpty
 |n+1,l=>l.all fun s=>dR n s.Body
def mZ:Nat->List St->Int
 |0,_=>0
 |n+1,l=>l.foldl (fun d s=>max d (1+mZ n s.Body)) 0
def depF_ge {f:St->Int}:∀(l:List St) (d:Int),d<=l.foldl (fun d s=>max d (1+f s)) d
 |[],d=>Int.le_refl _
 |x::r,d=>by have:=depF_ge (f:=f) r (max d (1+f x));rw [bi];omega
def zVm {f:St->Int} {m:Int}:∀(l:List St) (d:Int),l.foldl (fun d s=>max d (1+f s)) d<=m↔d<=m/\∀s,s∈l->1+f s<=m
 |[],d=>by simp
 |x::r,d=>by
  rw [bi,zVm r]
  constructor
  ·rintro ⟨h1,h2⟩
   refine ⟨zA,fun s hs=>?_⟩
   rcases af.1 hs with rfl|hs
   ·omega
   ·exact h2 s hs
  ·rintro ⟨h1,h2⟩
   have:=h2 x uD
   exact ⟨zA,fun s hs=>h2 s (by simp [hs])⟩
def zKd:∀(n:Nat) (l:List St),mZ (n+1) l<=n↔dR n l=true
 |0,l=>by
  rw [mZ,zVm]
  cases l with
  |nil=>simp [dR]
  |cons x r=>
   simp only [dR,List.isEmpty_cons,iR,iff_false,not_and]
   intro _ h
   have:=h x uD
   simp only [mZ] at this;omega
 |n+1,l=>by
  rw [mZ,zVm,dR,lAe]
  constructor
  ·rintro ⟨_,h⟩ s hs
   have:=h s hs
   exact (zKd n s.Body).1 zA
  ·intro h
   refine ⟨zA,fun s hs=>?_⟩
   have:=(zKd n s.Body).2 (h s hs)
   omega
def depS_le:∀(n:Nat) (l:List St),0<=mZ n l/\mZ n l<=n
 |0,l=>by simp [mZ]
 |n+1,l=>by
  rw [mZ]
  refine ⟨depF_ge l 0,(zVm l 0).2 ⟨zA,fun s _=>?_⟩⟩
  have:=depS_le n s.Body;omega
mutual
def stN:St->Nat
 |.mk _ _ _ _ _ _ _ b=>1+dJ b
def dJ:List St->Nat
 |[]=>0
 |s::r=>stN s+dJ r
end
def sY (n:Nat) (l:List St):Bool:=dR n l
def withinG_eq (n:Nat) (l:List St):sY n l=dR n l:=rfl
def withinG_next {n:Nat} (h:l[k]? =some s) (hp:sY n (l.take k)=true) (hn:1<=n) (hs:dR (n-1) s.Body=true):sY n (l.take (k+1))=true:=by
 obtain ⟨m,rfl⟩:∃m,n=m+1:=⟨n-1,zA⟩
 exact zFo h hp hs
def within_no {n:Nat} {x:Int} (h:l[k]? =some s) (hx:x=n) (c:(decide (x<1)|| !dR (n-1) s.Body)=true):dR n l=false:=by
 cases n with
 |zero=>cases l with
  |nil=>simp at h
  |cons a r=>rfl
 |succ n=>
  have:dR n s.Body=false:=by
   rw [aI] at c
   rcases c with c|c
   ·rw [ah] at c;omega
   ·simpa using c
  exact zMk h this
def within_yes {n:Nat} {x:Int} (hx:x=n) (c:(decide (x<1)|| !dR (n-1) s.Body)=false):1<=n/\dR (n-1) s.Body=true:=by
 rw [al] at c
 refine ⟨?_,by simpa using c.2⟩
 have:=c.1;rw [aj] at this;omega
def depS_next {n:Nat} (h:l[k]? =some s) (hn:1<=n):mZ n (l.take (k+1))=max (mZ n (l.take k)) (1+mZ (n-1) s.Body):=by
 obtain ⟨m,rfl⟩:∃m,n=m+1:=⟨n-1,zA⟩
 rw [yR h,mZ,dm];rfl
def depS_stop {n:Nat} {x d:Int} (hx:x=n) (hd:d=mZ n (l.take k)) (c:l.length<=k∨x<=0):d=mZ n l:=by
 by_cases h0:n=0
 ·subst h0;rw [hd];rfl
 ·rw [hd,yW zA]
def zKx (s:St):stN s=1+dJ s.Body:=by cases s;rw [stN];rfl
def zOh:∀(a b:List St),dJ (a++b)=dJ a+dJ b
 |[],b=>by simp [dJ]
 |x::r,b=>by rw [lCa,dJ,dJ,zOh r b];omega
def zEv:∀l:List St,l.length<=dJ l
 |[]=>by simp [dJ]
 |x::r=>by have:=zEv r;have:=zKx x;rw [dJ,lLc];omega
mutual
def stN_wt:∀s:St,stN s<=s.wt
 |.mk o n m k f i e b=>by rw [stN,St.wt];have:=zHt b;omega
def zHt:∀l:List St,dJ l<=bD l
 |[]=>by simp [dJ,bD]
 |s::r=>by rw [dJ,bD];have:=stN_wt s;have:=zHt r;omega
end
mutual
def tK:St->Nat->Nat
 |.mk _ _ _ _ _ _ _ b,m=>mW b m b.length
def mW:List St->Nat->Nat->Nat
 |[],_,n=>n
 |s::r,m,n=>if n<=m then mW r m (n+tK s (m-n)) else n
end
def lV (l:List St) (m:Nat):Nat:=mW l m l.length
def numS_eq (s:St) (m:Nat):tK s m=lV s.Body m:=by cases s;rw [tK];rfl
mutual
def numS_le:∀(s:St) (m:Nat),tK s m<=stN s-1
 |.mk _ _ _ _ _ _ _ b,m=>by
  rw [tK,stN]
  have h1:=numL_le b m b.length
  have h2:=zEv b
  omega
def numL_le:∀(l:List St) (m n:Nat),mW l m n<=n+(dJ l-l.length)
 |[],m,n=>by simp [mW]
 |s::r,m,n=>by
  rw [mW]
  have h3:=zEv r
  have h4:=zKx s
  split
  ·have h1:=numL_le r m (n+tK s (m-n))
   have h2:=numS_le s (m-n)
   rw [dJ,lLc];omega
  ·rw [dJ,lLc];omega
end
def numB_le (l:List St) (m:Nat):lV l m<=dJ l:=by
 have h1:=numL_le l m l.length
 have h2:=zEv l
 unfold lV;omega
def numL_ge:∀(l:List St) (m n:Nat),n<=mW l m n
 |[],m,n=>by rw [mW];omega
 |s::r,m,n=>by
  rw [mW];split
  ·have:=numL_ge r m (n+tK s (m-n));omega
  ·omega
mutual
def numS_ok:∀(s:St) (m:Nat),tK s m<=m->tK s m=stN s-1
 |.mk _ _ _ _ _ _ _ b,m,h=>by
  rw [tK] at h⊢
  rw [stN,numL_ok b m _ h]
  have:=zEv b;omega
def numL_ok:∀(l:List St) (m n:Nat),mW l m n<=m->mW l m n=n+(dJ l-l.length)
 |[],m,n,h=>by simp [mW,dJ]
 |s::r,m,n,h=>by
  have h3:=zEv r
  have h4:=zKx s
  by_cases hn:n<=m
  ·rw [mW,ab hn] at h⊢
   have h5:=numL_ge r m (n+tK s (m-n))
   have h6:=numS_ok s (m-n) zA
   rw [numL_ok r m _ h,h6,dJ,lLc];omega
  ·rw [mW,aa hn] at h;omega
end
variable {m:Nat}
def numB_ok (h:lV l m<=m):dJ l=lV l m:=by
 have h2:=zEv l
 unfold lV at *
 rw [numL_ok l m _ h];omega
def num_next {n N:Nat} (h:l[k]? =some s) (hp:N=mW (l.drop k) m n) (hn:n<=m):N=mW (l.drop (k+1)) m (n+lV s.Body (m-n)):=by
 rw [hp,qQ h,mW,ab hn,numS_eq]
def num_end {n N:Nat} (hp:N=mW (l.drop k) m n) (h:l.length<=k∨m<n):n=N:=by
 rw [hp]
 by_cases hk:k<l.length
 ·obtain ⟨a,ha⟩:=qZ l k hk
  rw [qQ ha,mW,aa zA]
 ·rw [kL hk,mW]
def zPh (h:s∈l):stN s<=dJ l:=by
 induction l with
 |nil=>cases h
 |cons x r ih=>
  rw [dJ]
  exact v12
def stsN_drop (h:l[k]? =some s):dJ (l.drop k)=stN s+dJ (l.drop (k+1)):=by rw [qQ h,dJ]
def num_sum {n:Nat} (h:l[k]? =some s) (hp:lV l m=mW (l.drop k) m n) (hn:n<=m):n+lV s.Body (m-n)<=n+dJ l:=by
 have h1:=numB_le s.Body (m-n)
 have h2:dJ l=dJ (l.take k)+(stN s+dJ (l.drop (k+1))):=by
  rw [←dJ,←qQ h,←zOh,aM]
 have:=zKx s
 omega
/-! ## Names of a node -/
def gS (sc:List lr) (l:Lf):Bool:=l.L.all fun m=>bP sc m.Name
def xT (sc:List lr) (x:Ix):Bool:=gS sc x.Lin&&x.At.all (gS sc)
def lQ (sc:List lr) (e:Ex):Bool:=gS sc e.Lin&&e.Idx.all (xT sc)
def mY (B:List Bf) (x:Ix):Int:=
 if x.From=bs [] then 0 else if dU B x.From=true then (if (jA B x.From).T.Kind=3 then (if (jA B x.From).Dims.length=x.At.length then 0 else 11) else 10) else 9
def pH (B:List Bf):List Ix->Int
 |[]=>0
 |x::r=>if mY B x=0 then pH B r else mY B x
def jQ (B:List Bf) (sc:List lr) (e:Ex):Int:=
 if lQ sc e=true then (if e.Op=3 then (if dU B e.Name=true then (if (jA B e.Name).Dims.length=e.Idx.length then pH B e.Idx else 11) else 9) else 0) else 9
def dL (B:List Bf) (sc:List lr):List Ex->Int
 |[]=>0
 |e::r=>if jQ B sc e=0 then dL B sc r else jQ B sc e
variable {B:List Bf} {x:Ix}
def gathE_0 (h:x.From=bs []):mY B x=0:=by unfold mY;rw [ab h]
def gathE_9 (h:¬x.From=bs []) (h1:dU B x.From=false):mY B x=9:=by unfold mY;rw [aa h,aa (by rw [h1];simp)]
def zVg (h:¬x.From=bs []) (h1:dU B x.From=true) (h2:¬(jA B x.From).T.Kind=3):mY B x=10:=by unfold mY;rw [aa h,ab h1,aa h2]
def zVf (h:¬x.From=bs []) (h1:dU B x.From=true) (h2:(jA B x.From).T.Kind=3) (h3:¬(jA B x.From).Dims.length=x.At.length):mY B x=11:=by unfold mY;rw [aa h,ab h1,ab h2,aa h3]
def zVe (h:¬x.From=bs []) (h1:dU B x.From=true) (h2:(jA B x.From).T.Kind=3) (h3:(jA B x.From).Dims.length=x.At.length):mY B x=0:=by unfold mY;rw [aa h,ab h1,ab h2,ab h3]
def zNf {l:List Ix} (h:l[k]? =some x) (hx:mY B x=0):pH B (l.drop k)=pH B (l.drop (k+1)):=by rw [qQ h,pH,ab hx]
def zNe {l:List Ix} (h:l[k]? =some x) (hx:¬mY B x=0):pH B (l.drop k)=mY B x:=by rw [qQ h,pH,aa hx]
variable {sc:List lr} {e:Ex}
def nodeN_9 (h:lQ sc e=false):jQ B sc e=9:=by unfold jQ;rw [aa (by rw [h];simp)]
def nodeN_o (h:lQ sc e=true) (h1:¬e.Op=3):jQ B sc e=0:=by unfold jQ;rw [ab h,aa h1]
def nodeN_n (h:lQ sc e=true) (h1:e.Op=3) (h2:dU B e.Name=false):jQ B sc e=9:=by unfold jQ;rw [ab h,ab h1,aa (by rw [h2];simp)]
def nodeN_r (h:lQ sc e=true) (h1:e.Op=3) (h2:dU B e.Name=true) (h3:¬(jA B e.Name).Dims.length=e.Idx.length):jQ B sc e=11:=by unfold jQ;rw [ab h,ab h1,ab h2,aa h3]
def zLp (h:lQ sc e=true) (h1:e.Op=3) (h2:dU B e.Name=true) (h3:(jA B e.Name).Dims.length=e.Idx.length):jQ B sc e=pH B e.Idx:=by unfold jQ;rw [ab h,ab h1,ab h2,ab h3]
def zJq (B:List Bf) (sc:List lr):∀(a b:List Ex),dL B sc (a++b)=if dL B sc a=0 then dL B sc b else dL B sc a
 |[],b=>by simp [dL]
 |x::r,b=>by
  rw [lCa,dL,dL,zJq B sc r b]
  by_cases h:jQ B sc x=0
  ·rw [ab h,ab h]
  ·rw [aa h,aa h,aa h]
def zSh {pre:List Ex} {x:Ex} (h:dL B sc pre=0):dL B sc (pre++[x])=jQ B sc x:=by
 rw [zJq,ab h,dL,dL]
 by_cases hx:jQ B sc x=0
 ·rw [ab hx,hx]
 ·rw [aa hx]
def nodesN_pre {pre suf:List Ex} {x:Ex} (h:¬dL B sc (pre++[x])=0):dL B sc (pre++x::suf)=dL B sc (pre++[x]):=by
 rw [show pre++x::suf=(pre++[x])++suf by simp,zJq,aa h]
def nodesN_at {l:List Ex} {x:Ex} (h:l[k]? =some x) (hx:jQ B sc x=0):dL B sc (l.drop k)=dL B sc (l.drop (k+1)):=by rw [qQ h,dL,ab hx]
def nodesN_no {l:List Ex} {x:Ex} (h:l[k]? =some x) (hx:¬jQ B sc x=0):dL B sc (l.drop k)=jQ B sc x:=by rw [qQ h,dL,aa hx]
/-! ## Types -/
def tyF (B:List Bf) (e:Ex) (l:List Ty):Ty×Int:=
 if e.Op=1∨e.Op=12 then (e.Ty,0) else
 if e.Op=2 then (iTy,0) else
 if e.Op=3 then ((jA B e.Name).T,0) else
 if e.Op=8 then (dZ l 0,0) else
 if e.Op=16∨e.Op=17∨e.Op=18 then (zTy,0) else
 if dZ l (l.length-2)=dZ l (l.length-1) then (if bJ e=true then (zTy,0) else (dZ l (l.length-1),0)) else (zTy,10)
def zCo {l:List Ty} (h:e.Op=1∨e.Op=12):tyF B e l=(e.Ty,0):=by unfold tyF;rw [ab h]
def zCw {l:List Ty} (h:e.Op=2):tyF B e l=(iTy,0):=by unfold tyF;rw [aa zA,ab h]
def zCn {l:List Ty} (h:e.Op=3):tyF B e l=((jA B e.Name).T,0):=by unfold tyF;rw [aa zA,aa zA,ab h]
def zCv {l:List Ty} (h:e.Op=8):tyF B e l=(dZ l 0,0):=by unfold tyF;rw [aa zA,aa zA,aa zA,ab h]
def wZ {l:List Ty} (h:e.Op=16∨e.Op=17∨e.Op=18):tyF B e l=(zTy,0):=by unfold tyF;rw [aa zA,aa zA,aa zA,aa zA,ab h]
abbrev lD (o:Int):Prop:=o=1∨o=12∨o=2∨o=3∨o=8∨o=16∨o=17∨o=18
def tyF_o {l:List Ty} (h:¬lD e.Op):tyF B e l=if dZ l (l.length-2)=dZ l (l.length-1) then (if bJ e=true then (zTy,0) else (dZ l (l.length-1),0)) else (zTy,10):=by
 unfold lD at h;unfold tyF;rw [aa zA,aa zA,aa zA,aa zA,aa zA]
def zAa {l:List Ty} (h:¬lD e.Op) (h2:¬dZ l (l.length-2)=dZ l (l.length-1)):tyF B e l=(zTy,10):=by rw [tyF_o h,aa h2]
def zCu {l:List Ty} (h:¬lD e.Op) (h2:dZ l (l.length-2)=dZ l (l.length-1)) (h3:bJ e=true):tyF B e l=(zTy,0):=by rw [tyF_o h,ab h2,ab h3]
def zCm {l:List Ty} (h:¬lD e.Op) (h2:dZ l (l.length-2)=dZ l (l.length-1)) (h3:bJ e=false):tyF B e l=(dZ l (l.length-1),0):=by rw [tyF_o h,ab h2,aa (by rw [h3];simp)]
def tyF_zero {l:List Ty} (h:¬(tyF B e l).2=0):(tyF B e l).1=zTy:=by
 unfold tyF at h⊢
 repeat' split at h<;>first|exact absurd rfl h|skip
 all_goals simp_all
def nodeT_zero (h:¬(fH (tyF B) e).2=0):(fH (tyF B) e).1=zTy:=by
 rw [zVa] at h⊢
 split
 ·rename_i c
  rw [ab c] at h
  exact tyF_zero h
 ·rfl
def jO:List Ex->List Ty->List Ty
 |[],_=>[]
 |_::_,[]=>[]
 |a::r,t::ts=>if bJ a=true then jO r ts else t::jO r ts
def kiF (B:List Bf) (e:Ex) (l:List Ty):Ty×Int:=
 if l.length=2/\¬dZ l 0=dZ l 1 then (zTy,10) else
 if e.Op=1∨e.Op=12 then (e.Ty,0) else
 if e.Op=2 then (iTy,0) else
 if e.Op=3 then ((jA B e.Name).T,0) else
 if bJ e=true then (zTy,0) else (dZ l 0,0)
def kiN (B:List Bf) (e:Ex) (l:List Ty):Ty×Int:=kiF B e (jO e.Args l)
def zIn {l:List Ty} (h:l.length=2) (h2:¬dZ l 0=dZ l 1):kiF B e l=(zTy,10):=by unfold kiF;rw [ab ⟨h,h2⟩]
def zSr {l:List Ty} (h:¬(l.length=2/\¬dZ l 0=dZ l 1)) (h1:e.Op=1∨e.Op=12):kiF B e l=(e.Ty,0):=by unfold kiF;rw [aa h,ab h1]
def zUj {l:List Ty} (h:¬(l.length=2/\¬dZ l 0=dZ l 1)) (h1:e.Op=2):kiF B e l=(iTy,0):=by unfold kiF;rw [aa h,aa zA,ab h1]
def zUi {l:List Ty} (h:¬(l.length=2/\¬dZ l 0=dZ l 1)) (h1:e.Op=3):kiF B e l=((jA B e.Name).T,0):=by unfold kiF;rw [aa h,aa zA,aa zA,ab h1]
def zQl {l:List Ty} (h:¬(l.length=2/\¬dZ l 0=dZ l 1)) (h1:bJ e=true):kiF B e l=(zTy,0):=by
 have:13<=e.Op:=by unfold bJ at h1;simp at h1;omega
 unfold kiF
 by_cases h12:e.Op=1∨e.Op=12
 ·omega
 ·rw [aa h,aa h12,aa zA,aa zA,ab h1]
def zQk {l:List Ty} (h:¬(l.length=2/\¬dZ l 0=dZ l 1)) (h1:¬(e.Op=1∨e.Op=12∨e.Op=2∨e.Op=3)) (h2:bJ e=false):kiF B e l=(dZ l 0,0):=by
 unfold kiF;rw [aa h,aa zA,aa zA,aa zA,aa (by rw [h2];simp)]
def zXl:∀{arg_:List Ex} {ts:List Ty} {a:Ex} {t:Ty},arg_.length=ts.length->jO (arg_++[a]) (ts++[t])=jO arg_ ts++(if bJ a=true then [] else [t])
 |[],[],a,t,_=>by simp only [lNa,jO]
 |x::r,y::s,a,t,h=>by
  simp only [lCa,jO]
  rw [zXl (arg_:=r) (ts:=s) (by simpa using h)]
  split<;>rfl
 |[],_::_,_,_,h=>by simp at h
 |_::_,[],_,_,h=>by simp at h
def conds_ok (h:dN e=0):gL e.Op 0 e.Args=true:=by
 have:=(zHn (zBv h)).2.2.2.1
 simp only [lF,ae] at this
 exact this.2
def ty_ki {l:List Ty} (h:dN e=0) (hl:l.length=e.Args.length):tyF B e l=kiN B e l:=by
 have hr:=zJn h
 have hc:=conds_ok h
 obtain ⟨o1,o2⟩:=node_op (zBv h)
 have hle:l.length=(bR e.Op).toNat:=by omega
 unfold kiN
 generalize hA:e.Args=A at hr hc hl
 have hcond:bJ e=true↔13<=e.Op:=by unfold bJ;simp;omega
 unfold bR at hr
 by_cases c0:e.Op=1∨e.Op=2∨e.Op=3
 ·rw [ab c0] at hr
  match A,l,hr,hl with
  |[],[],_,_=>
   have hn:¬(([]:List Ty).length=2/\¬dZ [] 0=dZ [] 1):=by simp
   rcases c0 with c|c|c
   ·rw [zCo (.inl c)];exact (zSr hn (.inl c)).symm
   ·rw [zCw c];exact (zUj hn c).symm
   ·rw [zCn c];exact (zUi hn c).symm
  |_::_,_,hr,_=>simp at hr;omega
 rw [aa c0] at hr
 by_cases c1:e.Op=8∨e.Op=12∨e.Op=18
 ·rw [ab c1] at hr
  match A,l,hr,hl with
  |[a],[t],_,_=>
   simp only [gL,bv,ff] at hc
   rcases c1 with c|c|c
   ·have ha:bJ a=false:=by rw [hc];simp [gD,c]
    rw [zCv c,jO,aa (by rw [ha];simp),jO,zQk uD zA (by cases hx:bJ e;rfl;exact absurd (hcond.1 hx) zA)]
   ·have ha:bJ a=false:=by rw [hc];simp [gD,c]
    rw [zCo (.inr c),jO,aa (by rw [ha];simp),jO,zSr uD (.inr c)]
   ·have ha:bJ a=true:=by rw [hc];simp [gD,c]
    rw [wZ zA,jO,ab ha,jO,zQl uD (hcond.2 zA)]
  |[],_,hr,_=>simp at hr
  |_::_::_,_,hr,_=>simp at hr;omega
 rw [aa c1] at hr
 by_cases c11:e.Op=11
 ·rw [ab c11] at hr
  match A,l,hr,hl with
  |[a,b,c],[s,t,u],_,_=>
   simp only [gL,bv,ae,ff] at hc
   have ha:bJ a=true:=by rw [hc.1];simp [gD,c11]
   have hb:bJ b=false:=by rw [hc.2.1];simp [gD,c11]
   have hd:bJ c=false:=by rw [hc.2.2];simp [gD,c11]
   have hec:bJ e=false:=by cases hx:bJ e;rfl;exact absurd (hcond.1 hx) zA
   rw [jO,ab ha,jO,aa (by rw [hb];simp),jO,aa (by rw [hd];simp),jO]
   by_cases q:t=u
   ·subst q
    rw [zCm (by unfold lD;omega) rfl hec,zQk (by simp [dZ]) zA hec];rfl
   ·rw [zAa (e:=e) (l:=[s,t,u]) (by unfold lD;omega) q,zIn (l:=[t,u]) rfl q]
  |[],_,hr,_=>simp at hr
  |[_],_,hr,_=>simp at hr
  |[_,_],_,hr,_=>simp at hr
  |_::_::_::_::_,_,hr,_=>simp at hr;omega
 rw [aa c11] at hr
 match A,l,hr,hl with
 |[a,b],[t,u],_,_=>
  simp only [gL,bv,ae,ff] at hc
  by_cases c16:e.Op=16∨e.Op=17
  ·have ha:bJ a=true:=by rw [hc.1];rcases c16 with c|c<;>simp [gD,c]
   have hb:bJ b=true:=by rw [hc.2];rcases c16 with c|c<;>simp [gD,c]
   rw [wZ zA,jO,ab ha,jO,ab hb,jO,zQl uD (hcond.2 zA)]
  ·have w:∀i,gD e.Op i=false:=fun i=>by unfold gD;simp;omega
   have ha:bJ a=false:=by rw [hc.1,w]
   have hb:bJ b=false:=by rw [hc.2,w]
   rw [jO,aa (by rw [ha];simp),jO,aa (by rw [hb];simp),jO]
   by_cases q:t=u
   ·subst q
    by_cases ce:bJ e=true
    ·rw [zCu (by unfold lD;omega) rfl ce,zQl (by simp [dZ]) ce]
    ·have ce':bJ e=false:=by simpa using ce
     rw [zCm (by unfold lD;omega) rfl ce',zQk (by simp [dZ]) zA ce'];rfl
   ·rw [zAa (e:=e) (l:=[t,u]) (by unfold lD;omega) q,zIn (l:=[t,u]) rfl q]
 |[],_,hr,_=>simp at hr
 |[_],_,hr,_=>simp at hr
 |_::_::_::_,_,hr,_=>simp at hr;omega
mutual
def nodeT_ki (B:List Bf):∀e:Ex,dN e=0->fH (tyF B) e=fH (kiN B) e
 |.mk o nm v t l i arg_,h=>by
  have h3:=nodeL_ki B arg_ fun a ha=>zIj h ha
  rw [fH,fH,←h3]
  by_cases c:(bW (tyF B) arg_).2=0
  ·rw [ab c,ab c]
   exact ty_ki h (zIl _ _ c)
  ·rw [aa c,aa c]
def nodeL_ki (B:List Bf):∀l:List Ex,(∀a,a∈l->dN a=0)->bW (tyF B) l=bW (kiN B) l
 |[],_=>rfl
 |a::r,h=>by
  rw [bW,bW,←nodeT_ki B a (h a uD),←nodeL_ki B r fun x hx=>h x (by simp [hx])]
end
def bT (B:List Bf) (sc:List lr) (e:Ex):Ty×Int:=
 if gI e=0 then (if dL B sc (dI e)=0 then fH (tyF B) e else (zTy,dL B sc (dI e))) else (zTy,gI e)
def zYv (h:¬gI e=0):bT B sc e=(zTy,gI e):=by unfold bT;rw [aa h]
def zYu (h:gI e=0) (h2:¬dL B sc (dI e)=0):bT B sc e=(zTy,dL B sc (dI e)):=by unfold bT;rw [ab h,aa h2]
def exprT_3 (h:gI e=0) (h2:dL B sc (dI e)=0):bT B sc e=fH (tyF B) e:=by unfold bT;rw [ab h,ab h2]
def exprT_k (h:gI e=0) (h2:dL B sc (dI e)=0):bT B sc e=fH (kiN B) e:=by rw [exprT_3 h h2];exact nodeT_ki B e (zDn h)
def exprT_rd (h:(bT B sc (rdE s)).2=0):(bT B sc (rdE s)).1=(jA B s.Name).T:=by
 by_cases h1:gI (rdE s)=0
 ·by_cases h2:dL B sc (dI (rdE s))=0
  ·rw [exprT_3 h1 h2,zVa]
   have:bW (tyF B) (rdE s).Args=([],0):=rfl
   rw [this,ab rfl,zCn rfl];rfl
  ·rw [zYu h1 h2] at h;exact absurd h h2
 ·rw [zYv h1] at h;exact absurd h h1
/-! ## Statements -/
def pU (e:Ex):Bool:=decide (e=zEx)
def hY (s:St):Bool:=decide (s.Op=2)||decide (s.Op=3)
def dW (s:St):Bool:=
 (decide (s.Op=1)||hY s||decide (s.Op=4))&& !(decide (s.Op=4)&& !decide (s.Name=bs []))&& !(!decide (s.Op=1)&&(!decide (s.Many=0)|| !decide (s.Mark=0)))&&
 !(!decide (s.Op=3)&& !decide (s.Fold=0))&& !(!hY s&&decide ((0:Int)<s.Idx.length))&& !(decide (s.Op=1)&& !pU s.E)&&(!hY s||decide ((s.Body.length:Int)=0))
def syn_1 (c:((!decide (s.Op=1)&& !(decide (s.Op=2)||decide (s.Op=3)))&& !decide (s.Op=4))=true):false=dW s:=by
 unfold dW hY
 simp only [ae,ao,al] at c
 simp only [c.1.1,c.1.2.1,c.1.2.2,c.2,Bool.or_self,aZ]
def syn_2 (c:(decide (s.Op=4)&& !decide (s.Name=bs []))=true):false=dW s:=by
 exact v19
def syn_3 (c:(!decide (s.Op=1)&&(!decide (s.Many=0)|| !decide (s.Mark=0)))=true):false=dW s:=by
 exact v19
def syn_4 (c:(!decide (s.Op=3)&& !decide (s.Fold=0))=true):false=dW s:=by
 exact v19
def syn_5 (c:(!hY s&&decide ((0:Int)<s.Idx.length))=true):false=dW s:=by
 exact v19
def syn_6 (c:(decide (s.Op=1)&& !pU s.E)=true):false=dW s:=by
 exact v19
def syn_7 (c1:((!decide (s.Op=1)&& !hY s)&& !decide (s.Op=4))=false) (c2:(decide (s.Op=4)&& !decide (s.Name=bs []))=false) (c3:(!decide (s.Op=1)&&(!decide (s.Many=0)|| !decide (s.Mark=0)))=false) (c4:(!decide (s.Op=3)&& !decide (s.Fold=0))=false) (c5:(!hY s&&decide ((0:Int)<s.Idx.length))=false) (c6:(decide (s.Op=1)&& !pU s.E)=false):(!hY s||decide ((s.Body.length:Int)=0))=dW s:=by
 have h1:(decide (s.Op=1)||hY s||decide (s.Op=4))=true:=by
  revert c1;cases decide (s.Op=1)<;>cases hY s<;>cases decide (s.Op=4)<;>simp
 unfold dW
 simp only [h1,c2,c3,c4,c5,c6,ca,aL]
def nH (B:List Bf) (U:List lr) (s:St):Int:=
 if bB s.Name=true then (if dU B s.Name=true∨bP U s.Name=true then 8 else if s.Many<1∨65536<s.Many∨s.Mark<0∨3<s.Mark then 1 else 0) else 7
def ifE (B:List Bf) (sc:List lr) (s:St):Int:=if (bT B sc s.E).2=0 then (if bJ s.E=true then 0 else 10) else (bT B sc s.E).2
def lO (B:List Bf) (sc:List lr) (s:St):Int:=
 if (bT B sc (rdE s)).2=0 then (if (jA B s.Name).Use=1∨(s.Op=3/\(s.Fold<1∨4<s.Fold)) then 1 else
  if (bT B sc s.E).2=0 then (if bJ s.E=true∨¬(bT B sc s.E).1=(jA B s.Name).T then 10 else 0) else (bT B sc s.E).2) else (bT B sc (rdE s)).2
def stE (B:List Bf) (U sc:List lr) (s:St):Int:=
 if dW s=true then (if s.Op=1 then nH B U s else if s.Op=4 then ifE B sc s else lO B sc s) else 5
structure Ck where
 U:List lr
 W:List Int
 E:Int
def fZ (U:List lr) (s:St):List lr:=if s.Op=1 then U++[s.Name] else U
mutual
def jB (B:List Bf):List lr->List lr->List Int->St->Ck
 |U,sc,here,.mk o nm mn mk fo i e b=>if stE B U sc (.mk o nm mn mk fo i e b)=0 then dH B (fZ U (.mk o nm mn mk fo i e b)) (fZ sc (.mk o nm mn mk fo i e b)) here 0 b else ⟨[],here,stE B U sc (.mk o nm mn mk fo i e b)⟩
def dH (B:List Bf):List lr->List lr->List Int->Int->List St->Ck
 |U,_,_,_,[]=>⟨U,[],0⟩
 |U,sc,way,i,s::r=>if (jB B U sc (way++[i]) s).E=0 then dH B (jB B U sc (way++[i]) s).U sc way (i+1) r else jB B U sc (way++[i]) s
end
def chkS_eq (B:List Bf) (U sc:List lr) (here:List Int) (s:St):jB B U sc here s=if stE B U sc s=0 then dH B (fZ U s) (fZ sc s) here 0 s.Body else ⟨[],here,stE B U sc s⟩:=by cases s;rw [jB];rfl
def zZq {U:List lr} {here:List Int} (h:¬stE B U sc s=0):jB B U sc here s=⟨[],here,stE B U sc s⟩:=by rw [chkS_eq,aa h]
def zZr {U:List lr} {here:List Int} (h:stE B U sc s=0):jB B U sc here s=dH B (fZ U s) (fZ sc s) here 0 s.Body:=by rw [chkS_eq,ab h]
variable {way:List Int} {R:Ck}
def zRh {U:List lr} (h:l[k]? =some s) (hp:R=dH B U sc way k (l.drop k)) (hx:(jB B U sc (way++[(k:Int)]) s).E=0):R=dH B (jB B U sc (way++[(k:Int)]) s).U sc way ((k+1:Nat):Int) (l.drop (k+1)):=by
 rw [hp,qQ h,dH,ab hx];rfl
def zFt {U:List lr} (h:l[k]? =some s) (hp:R=dH B U sc way k (l.drop k)) (hx:¬(jB B U sc (way++[(k:Int)]) s).E=0):R=jB B U sc (way++[(k:Int)]) s:=by
 rw [hp,qQ h,dH,aa hx]
def zVp {U:List lr} (hp:R=dH B U sc way k (l.drop k)) (h:¬k<l.length):R=⟨U,[],0⟩:=by
 rw [hp,kL h,dH]
def chkL_ok:∀{B:List Bf} {l:List St} {U sc:List lr} {way:List Int} {i:Int},(dH B U sc way i l).E=0->(dH B U sc way i l).W=[]
 |B,[],U,sc,way,i,_=>by rw [dH]
 |B,s::r,U,sc,way,i,h=>by
  rw [dH] at h⊢
  by_cases c:(jB B U sc (way++[i]) s).E=0
  ·rw [ab c] at h⊢;exact chkL_ok h
  ·rw [aa c] at h;exact absurd h c
mutual
def chkS_len (B:List Bf):∀(s:St) (U sc:List lr) (here:List Int),(jB B U sc here s).U.length<=U.length+stN s
 |.mk o nm mn mk fo i e b,U,sc,here=>by
  rw [jB,stN]
  split
  ·have h1:=chkL_len B b (fZ U (.mk o nm mn mk fo i e b)) (fZ sc (.mk o nm mn mk fo i e b)) here 0
   have h2:(fZ U (.mk o nm mn mk fo i e b)).length<=U.length+1:=by unfold fZ;split<;>simp
   omega
  ·simp
def chkL_len (B:List Bf):∀(l:List St) (U sc:List lr) (way:List Int) (i:Int),(dH B U sc way i l).U.length<=U.length+dJ l
 |[],U,sc,way,i=>by rw [dH];simp
 |s::r,U,sc,way,i=>by
  rw [dH,dJ]
  have h1:=chkS_len B s U sc (way++[i])
  split
  ·have h2:=chkL_len B r (jB B U sc (way++[i]) s).U sc way (i+1)
   omega
  ·omega
end
def zQb {U:List lr} (h:s.Op=1):fZ U s=U++[s.Name]:=by unfold fZ;rw [ab h]
def zVb {U:List lr} (h:¬s.Op=1):fZ U s=U:=by unfold fZ;rw [aa h]
def scAll_next {S:List lr} {f:Lf} {l:List Ix} (h:l[k]? =some x):((gS S f&&(l.take k).all (xT S))&&gS S x.Lin&&x.At.all (gS S))=(gS S f&&(l.take (k+1)).all (xT S)):=by
 rw [yR h,bx]
 simp only [aW,fh,bv,xT,ij]
variable {c:Bool}
def st10_t {a b:Ty} (h:(c|| !bZ [cI a.Kind,cI a.Bits,cI a.Frac,cI a.Round,cI a.Over] [cI b.Kind,cI b.Bits,cI b.Frac,cI b.Round,cI b.Over])=true):c=true∨¬a=b:=by
 rw [zWe,aI] at h
 rcases h with h|h
 ·exact .inl h
 ·exact .inr (by simpa using h)
def st10_f {a b:Ty} (h:(c|| !bZ [cI a.Kind,cI a.Bits,cI a.Frac,cI a.Round,cI a.Over] [cI b.Kind,cI b.Bits,cI b.Frac,cI b.Round,cI b.Over])=false):¬(c=true∨¬a=b):=by
 rw [zWe,al] at h
 rw [h.1]
 rintro (k|k)
 ·cases k
 ·exact k (by simpa using h.2)
def zMq (h:¬(bT B sc (rdE s)).2=0):lO B sc s=(bT B sc (rdE s)).2:=by unfold lO;rw [aa h]
def zJd (h:(bT B sc (rdE s)).2=0) (h2:(jA B s.Name).Use=1∨(s.Op=3/\(s.Fold<1∨4<s.Fold))):lO B sc s=1:=by unfold lO;rw [ab h,ab h2]
def zMp (h:(bT B sc (rdE s)).2=0) (h2:¬((jA B s.Name).Use=1∨(s.Op=3/\(s.Fold<1∨4<s.Fold)))) (h3:¬(bT B sc s.E).2=0):lO B sc s=(bT B sc s.E).2:=by unfold lO;rw [ab h,aa h2,aa h3]
def zWh (h:(bT B sc (rdE s)).2=0) (h2:¬((jA B s.Name).Use=1∨(s.Op=3/\(s.Fold<1∨4<s.Fold)))) (h3:(bT B sc s.E).2=0) (h4:bJ s.E=true∨¬(bT B sc s.E).1=(jA B s.Name).T):lO B sc s=10:=by unfold lO;rw [ab h,aa h2,ab h3,ab h4]
def storeE_0 (h:(bT B sc (rdE s)).2=0) (h2:¬((jA B s.Name).Use=1∨(s.Op=3/\(s.Fold<1∨4<s.Fold)))) (h3:(bT B sc s.E).2=0) (h4:¬(bJ s.E=true∨¬(bT B sc s.E).1=(jA B s.Name).T)):lO B sc s=0:=by unfold lO;rw [ab h,aa h2,ab h3,aa h4]
def loopE_7 {U:List lr} (h:bB s.Name=false):nH B U s=7:=by unfold nH;rw [aa (by rw [h];simp)]
def loopE_8 {U:List lr} (h:bB s.Name=true) (h2:dU B s.Name=true∨bP U s.Name=true):nH B U s=8:=by unfold nH;rw [ab h,ab h2]
def loopE_1 {U:List lr} (h:bB s.Name=true) (h2:¬(dU B s.Name=true∨bP U s.Name=true)) (h3:s.Many<1∨65536<s.Many∨s.Mark<0∨3<s.Mark):nH B U s=1:=by unfold nH;rw [ab h,aa h2,ab h3]
def loopE_0 {U:List lr} (h:bB s.Name=true) (h2:¬(dU B s.Name=true∨bP U s.Name=true)) (h3:¬(s.Many<1∨65536<s.Many∨s.Mark<0∨3<s.Mark)):nH B U s=0:=by unfold nH;rw [ab h,aa h2,aa h3]
def ifE_x (h:¬(bT B sc s.E).2=0):ifE B sc s=(bT B sc s.E).2:=by unfold ifE;rw [aa h]
def ifE_10 (h:(bT B sc s.E).2=0) (h2:bJ s.E=false):ifE B sc s=10:=by unfold ifE;rw [ab h,aa (by rw [h2];simp)]
def ifE_0 (h:(bT B sc s.E).2=0) (h2:bJ s.E=true):ifE B sc s=0:=by unfold ifE;rw [ab h,ab h2]
def stE_5 {U:List lr} (h:dW s=false):stE B U sc s=5:=by unfold stE;rw [aa (by rw [h];simp)]
def stE_l {U:List lr} (h:dW s=true) (h2:s.Op=1):stE B U sc s=nH B U s:=by unfold stE;rw [ab h,ab h2]
def stE_i {U:List lr} (h:dW s=true) (h2:s.Op=4):stE B U sc s=ifE B sc s:=by unfold stE;rw [ab h,aa zA,ab h2]
def stE_s {U:List lr} (h:dW s=true) (h2:¬s.Op=1) (h3:¬s.Op=4):stE B U sc s=lO B sc s:=by unfold stE;rw [ab h,aa h2,aa h3]
def bL (n:Ns):List Int×Int:=
 if dR 40 n.Body=true then (if 2000<lV n.Body 2000∨128<n.Bufs.length then ([],2) else if dM [] n.Bufs=0 then ((dH n.Bufs [] [] [] 0 n.Body).W,(dH n.Bufs [] [] [] 0 n.Body).E) else ([],dM [] n.Bufs)) else ([],13)
def zWb {n:Ns} (h:dR 40 n.Body=false):bL n=([],13):=by unfold bL;rw [aa (by rw [h];simp)]
def validN_2 {n:Ns} (h:dR 40 n.Body=true) (h2:2000<lV n.Body 2000∨128<n.Bufs.length):bL n=([],2):=by unfold bL;rw [ab h,ab h2]
def validN_b {n:Ns} (h:dR 40 n.Body=true) (h2:¬(2000<lV n.Body 2000∨128<n.Bufs.length)) (h3:¬dM [] n.Bufs=0):bL n=([],dM [] n.Bufs):=by unfold bL;rw [ab h,aa h2,aa h3]
def zUp {n:Ns} (h:dR 40 n.Body=true) (h2:¬(2000<lV n.Body 2000∨128<n.Bufs.length)) (h3:dM [] n.Bufs=0):bL n=((dH n.Bufs [] [] [] 0 n.Body).W,(dH n.Bufs [] [] [] 0 n.Body).E):=by unfold bL;rw [ab h,aa h2,ab h3]
structure Ns.Ok (n:Ns):Prop where
 bufs:n.Bufs.length<=4294967296
 dims:∀b,b∈n.Bufs->b.Dims.length<=17592186044416
 body:bD n.Body<=536870912
def rY (i:List Ix):Ex:=.mk 0 (bs []) ⟨0,0⟩ ⟨0,0,0,0,0⟩ ⟨0,[]⟩ i []
def idxE_wt (i:List Ix):(rY i).wt=1+i.length+dO i:=by
 rw [Ex.wt_eq];simp only [rY,Ex.Lin,Ex.Idx,Ex.Args,fC,lLn];omega
mutual
def nJ:St->Nat->Nat
 |.mk _ _ _ _ _ _ _ b,m=>fV b m b.length
def fV:List St->Nat->Nat->Nat
 |[],_,n=>n
 |s::r,m,n=>if n<=m then fV r m (n+gG s.E m+gG (rY s.Idx) m+nJ s (m-n)) else n
end
def lM (l:List St) (m:Nat):Nat:=fV l m l.length
def weighS_eq (s:St) (m:Nat):nJ s m=lM s.Body m:=by cases s;rw [nJ];rfl
def weighSs_ge:∀(l:List St) (m n:Nat),n<=fV l m n
 |[],m,n=>by rw [fV];omega
 |s::r,m,n=>by
  rw [fV];split
  ·have:=weighSs_ge r m (n+gG s.E m+gG (rY s.Idx) m+nJ s (m-n));omega
  ·omega
mutual
def weighS_wt:∀(s:St) (m:Nat),nJ s m<=m->bD s.Body<=nJ s m
 |.mk _ _ _ _ _ _ _ b,m,h=>by
  rw [nJ] at h⊢
  have:=zRp b m _ h
  have:=kY b
  simp only [St.Body];omega
def zRp:∀(l:List St) (m n:Nat),fV l m n<=m->n+(bD l-l.length)<=fV l m n
 |[],m,n,h=>by simp [fV,bD]
 |s::r,m,n,h=>by
  by_cases hn:n<=m
  ·rw [fV,ab hn] at h⊢
   have h1:=weighSs_ge r m (n+gG s.E m+gG (rY s.Idx) m+nJ s (m-n))
   have h2:=zRp r m _ h
   have h3:=zVx s.E m zA
   have h4:=zVx (rY s.Idx) m zA
   have h5:=weighS_wt s (m-n) zA
   have h6:=kY r
   rw [idxE_wt] at h4
   rw [bD,lLc,St.wt_eq];omega
  ·rw [fV,aa hn] at h;omega
end
def weighB_wt (h:lM l m<=m):bD l<=lM l m:=by
 unfold lM at *
 have:=zRp l m _ h
 have:=kY l
 omega
mutual
def St.fit:St->Prop
 |.mk _ _ _ _ _ i e b=>i.length<=140737488355328/\(∀x,x∈i->x.fit)/\e.fit/\b.length<=140737488355328/\rJ b
def rJ:List St->Prop
 |[]=>True
 |s::r=>s.fit/\rJ r
end
def zVi (h:rJ l):∀a,a∈l->a.fit:=by
 induction l with
 |nil=>intro a ha;cases ha
 |cons x r ih=>
  intro a ha
  rw [rJ] at h
  rcases af.1 ha with rfl|ha
  ·exact h.1
  ·exact ih h.2 a ha
def fitS_of (h:∀a,a∈l->a.fit):rJ l:=by
 induction l with
 |nil=>rw [rJ];trivial
 |cons x r ih=>rw [rJ];exact ⟨h x uD,ih fun a ha=>h a (by simp [ha])⟩
def St.fit_eq (h:s.fit):s.Idx.length<=140737488355328/\(∀x,x∈s.Idx->x.fit)/\s.E.fit/\s.Body.length<=140737488355328/\rJ s.Body:=by
 cases s with
 |mk o n m k f i e b=>rw [St.fit] at h;exact h
def idxE_fit {i:List Ix} (h1:i.length<=140737488355328) (h2:∀x,x∈i->x.fit):(rY i).fit:=by
 unfold rY;rw [Ex.fit];exact ⟨uD,h1,uD,h2,trivial⟩
abbrev wB (m:Nat):Nat:=140737488355328+m*1125899906857624
mutual
def weighS_le:∀(s:St) (m:Nat),s.fit->m<=5000->nJ s m<=wB m
 |.mk o nm k f mn i e b,m,h,hm=>by
  rw [St.fit] at h
  obtain ⟨_,_,_,h1,h2⟩:=h
  rw [nJ]
  exact weighSs_le b m _ h2 hm (fun hb=>by cases b;exact absurd rfl hb;simp) (by unfold wB;omega)
def weighSs_le:∀(l:List St) (m n:Nat),rJ l->m<=5000->(l≠[]->1<=n)->n<=wB m->fV l m n<=wB m
 |[],m,n,_,_,_,h=>by rw [fV];exact h
 |s::r,m,n,hf,hm,h1,h=>by
  rw [rJ] at hf
  rw [fV]
  have h1:=h1 uD
  obtain ⟨f1,f2,f3,_,_⟩:=St.fit_eq hf.1
  split
  ·rename_i hn
   have h3:=weighS_le s (m-n) hf.1 zA
   have h4:=zIa s.E m f3
   have h5:=zIa (rY s.Idx) m (idxE_fit f1 f2)
   refine weighSs_le r m _ hf.2 hm (fun _=>by omega) ?_
   unfold wB at *
   omega
  ·exact h
end
def weighSs_end {n:Nat} {N:Nat} {x:Int} (hp:N=fV (l.drop k) m n) (hx:x=m) (h:l.length<=k∨x<n):n=N:=by
 rw [hp]
 by_cases hk:k<l.length
 ·obtain ⟨a,ha⟩:=qZ l k hk
  rw [qQ ha,fV,aa zA]
 ·rw [kL hk,fV]
def weighSs_next {n:Nat} {N:Nat} (hs:l[k]? =some s) (hp:N=fV (l.drop k) m n) (h:n<=m):N=fV (l.drop (k+1)) m (n+gG s.E m+gG (rY s.Idx) m+lM s.Body (m-n)):=by
 rw [hp,qQ hs,fV,ab h,weighS_eq]
def weigh_lt {n:Nat} (hs:l[k]? =some s) (hf:rJ l) (hm:m<=5000) (hn:n<=m) (h1:1<=n):n+gG s.E m+gG (rY s.Idx) m+lM s.Body (m-n)<=wB m:=by
 have hs':=zVi hf s (qA hs)
 obtain ⟨f1,f2,f3,f4,f5⟩:=St.fit_eq hs'
 have h3:=weighS_le s (m-n) hs' zA
 rw [weighS_eq] at h3
 have h4:=zIa s.E m f3
 have h5:=zIa (rY s.Idx) m (idxE_fit f1 f2)
 unfold wB at *
 omega
/-! ## What the laws of layers 30,36 and 41 take for small -/
structure Ns.Fit (n:Ns):Prop where
 bufs:n.Bufs.length<=140737488355328
 dims:∀b,b∈n.Bufs->b.Dims.length<=17592186044416
 len:n.Body.length<=140737488355328
 body:rJ n.Body
def Ns.Fit.ok {n:Ns} (h:n.Fit) (hm:m<=5000) (hb:n.Bufs.length<=150) (hw:lM n.Body m<=m):n.Ok:=
 ⟨zA,h.dims,by have:=weighB_wt hw;omega⟩
/-! ## For the reference's check -/
structure Bd where
 Name:lr
 Val:Int
 deriving DecidableEq
def Bd.cells (x:Bd):List C:=[cS x.Name,cI x.Val]
def any_hasB (bd:List Bd) (s:lr):(bd.any fun d=>decide (d.Name=s))=bP (bd.map Bd.Name) s:=by
 unfold bP;rw [List.any_map];rfl
def any_step {bd:List Bd} {i:Nat} {d:Bd} {s:lr} (h:bd[i]? =some d):(((bd.take i).any fun d=>decide (d.Name=s))||decide (d.Name=s))=(bd.take (i+1)).any fun d=>decide (d.Name=s):=by
 rw [yR h,fm];simp
def bound_no {l:List Lf} {j:Nat} {x:Lf} {m:Mono} (h:l[k]? =some x) (hm:x.L[j]? =some m) (c:bP sc m.Name=false):l.all (gS sc)=false:=by
 have:gS sc x=false:=zMk hm (p:=fun y:Mono=>bP sc y.Name) c
 exact zMk h this
def ixs_len (l:List Ix) (k:Nat):((l.take k).flatMap ixF).length<=l.length+dO l:=by
 have h1:∀l:List Ix,(l.flatMap ixF).length<=l.length+dO l:=by
  intro l
  induction l with
  |nil=>simp
  |cons x r ih=>
   rw [cg,lLa,dO,Ix.wt,lLc]
   simp only [ixF,lLc];omega
 have h2:=h1 (l.take k)
 have h3:dO (l.take k)<=dO l:=by
  have:∀(l:List Ix) (k:Nat),dO (l.take k)<=dO l:=by
   intro l
   induction l with
   |nil=>intro k;simp [dO]
   |cons x r ih=>intro k;cases k with
    |zero=>simp [dO]
    |succ k=>rw [aF,dO,dO];have:=ih k;omega
  exact this l k
 have h4:=List.length_take_le' k l
 omega
def node_sc (sc:List lr) (e:Ex):([e.Lin].all (gS sc)&&(e.Idx.flatMap ixF).all (gS sc))=lQ sc e:=by
 unfold lQ
 congr 1
 ·simp
 ·rw [List.all_flatMap];rfl
def node_sc_f (c:(![e.Lin].all (gS sc)|| !(e.Idx.flatMap ixF).all (gS sc))=true):lQ sc e=false:=by
 rw [←Bool.not_and,node_sc] at c;simpa using c
def node_sc_t (c:(![e.Lin].all (gS sc)|| !(e.Idx.flatMap ixF).all (gS sc))=false):lQ sc e=true:=by
 rw [←Bool.not_and,node_sc] at c;simpa using c
def nonC_len:∀(arg_:List Ex) (ts:List Ty),(jO arg_ ts).length<=arg_.length
 |[],_=>by simp [jO]
 |_::_,[]=>by simp [jO]
 |a::r,t::ts=>by
  have:=nonC_len r ts
  rw [jO];split<;>simp<;>omega
def ki10_t {l:List Ty} (c:(decide (((l.map tyC).length:Int)=2)&& !bZ [cI (dZ l 0).Kind,cI (dZ l 0).Bits,cI (dZ l 0).Frac,cI (dZ l 0).Round,cI (dZ l 0).Over] [cI (dZ l 1).Kind,cI (dZ l 1).Bits,cI (dZ l 1).Frac,cI (dZ l 1).Round,cI (dZ l 1).Over])=true):l.length=2/\¬dZ l 0=dZ l 1:=by
 rw [ae,ah,lLm] at c
 exact ⟨zA,zJa c.2⟩
def ki10_f {l:List Ty} (c:(decide (((l.map tyC).length:Int)=2)&& !bZ [cI (dZ l 0).Kind,cI (dZ l 0).Bits,cI (dZ l 0).Frac,cI (dZ l 0).Round,cI (dZ l 0).Over] [cI (dZ l 1).Kind,cI (dZ l 1).Bits,cI (dZ l 1).Frac,cI (dZ l 1).Round,cI (dZ l 1).Over])=false):¬(l.length=2/\¬dZ l 0=dZ l 1):=by
 rintro ⟨h1,h2⟩
 rw [bm,aj,lLm] at c
 rcases c with c|c
 ·omega
 ·exact h2 (zJb c)
def ki_one {l:List Ty} (h:dN e=0) (hl:l.length=e.Args.length) (h1:¬(e.Op=1∨e.Op=12∨e.Op=2∨e.Op=3)) (h2:bJ e=false):1<=(jO e.Args l).length:=by
 have hr:=zJn h
 have hc:=conds_ok h
 obtain ⟨o1,o2⟩:=node_op (zBv h)
 have h13:e.Op<13:=by
  unfold bJ at h2
  simp only [bm,aj] at h2
  omega
 generalize e.Args=A at hr hc hl
 have w:∀i,(e.Op=11->i≠0)->gD e.Op i=false:=fun i hi=>by
  unfold gD;simp only [al,bm,aj]
  by_cases h11:e.Op=11
  ·have:=hi h11;omega
  ·omega
 unfold bR at hr
 match A,l,hl with
 |[],_,_=>
  exfalso
  simp only [lLn] at hr
  split at hr
  ·omega
  ·split at hr
   ·simp at hr
   ·split at hr<;>simp at hr
 |[a],[t],_=>
  simp only [gL,bv,ff] at hc
  have h11:e.Op≠11:=by rintro h11;rw [h11] at hr;simp at hr
  rw [w 0 (fun h=>absurd h h11)] at hc
  rw [jO,aa (by rw [hc];simp)];simp
 |a::b::r,t::u::s,_=>
  simp only [gL,ae,ff] at hc
  have hb:=hc.2.1
  rw [w (0+1) (fun _=>by omega)] at hb
  rw [jO]
  split
  ·rw [jO,aa (by rw [hb];simp)];simp
  ·simp
 |[_],[],hl=>simp at hl
 |[_],_::_::_,hl=>simp at hl
 |_::_::_,[],hl=>simp at hl
 |_::_::_,[_],hl=>simp at hl
def map_bd {bd:List Bd}:(bd++[(⟨s.Name,s.Many⟩:Bd)]).map Bd.Name=bd.map Bd.Name++[s.Name]:=by simp
def pln_1 (c:((!decide (s.Op=1)&& !decide (s.Op=4))&& !hY s)=true):false=dW s:=by
 unfold dW
 simp only [ae,ao] at c
 simp only [c.1.1,c.1.2,c.2,Bool.or_self,aZ]
def pln_2 (c:(((!decide (s.Op=1)&&(!decide (s.Many=0)|| !decide (s.Mark=0)))||(!decide (s.Op=3)&& !decide (s.Fold=0)))||(decide (s.Op=4)&& !decide (s.Name=bs [])))=true):false=dW s:=by
 rw [aI,aI] at c
 rcases c with (c|c)|c
 ·exact syn_3 c
 ·exact syn_4 c
 ·exact syn_2 c
def pln_3 (c:((!hY s&&decide ((0:Int)<s.Idx.length))||(hY s&&decide ((0:Int)<s.Body.length)))=true):false=dW s:=by
 rw [aI] at c
 rcases c with c|c
 ·exact syn_5 c
 ·unfold dW
  rw [ae,ah] at c
  have:decide ((s.Body.length:Int)=0)=false:=aB zA
  simp only [c.1,this,bf,Bool.or_self,co]
def pln_4 (c1:((!decide (s.Op=1)&& !decide (s.Op=4))&& !hY s)=false) (c2:(((!decide (s.Op=1)&&(!decide (s.Many=0)|| !decide (s.Mark=0)))||(!decide (s.Op=3)&& !decide (s.Fold=0)))||(decide (s.Op=4)&& !decide (s.Name=bs [])))=false) (c3:((!hY s&&decide ((0:Int)<s.Idx.length))||(hY s&&decide ((0:Int)<s.Body.length)))=false):(!decide (s.Op=1)||decide (s.E=zEx))=dW s:=by
 rw [al,al] at c2
 rw [al] at c3
 have h1:(decide (s.Op=1)||hY s||decide (s.Op=4))=true:=by
  revert c1;cases decide (s.Op=1)<;>cases hY s<;>cases decide (s.Op=4)<;>simp
 have h7:(!hY s||decide ((s.Body.length:Int)=0))=true:=by
  have h:=c3.2
  rw [bm,aj] at h
  rcases h with h|h
  ·rw [h];rfl
  ·rw [show decide ((s.Body.length:Int)=0)=true from aw zA,Bool.or_true]
 unfold dW pU
 simp only [h1,c2.1.1,c2.1.2,c2.2,c3.1,h7,ca,aL,bv,Bool.not_and,Bool.not_not]
def st3_t {a b:Ty} (h:(decide (n=0)&&(c|| !bZ [cI a.Kind,cI a.Bits,cI a.Frac,cI a.Round,cI a.Over] [cI b.Kind,cI b.Bits,cI b.Frac,cI b.Round,cI b.Over]))=true):n=0/\(c=true∨¬a=b):=by
 rw [ae,ah] at h
 exact ⟨h.1,st10_t h.2⟩
def st3_f {a b:Ty} (h:(decide (n=0)&&(c|| !bZ [cI a.Kind,cI a.Bits,cI a.Frac,cI a.Round,cI a.Over] [cI b.Kind,cI b.Bits,cI b.Frac,cI b.Round,cI b.Over]))=false):n=0->¬(c=true∨¬a=b):=by
 intro h0
 rw [aw h0,aL] at h
 exact st10_f h
def st_fin (h:(bT B sc (rdE s)).2=0) (h2:¬((jA B s.Name).Use=1∨(s.Op=3/\(s.Fold<1∨4<s.Fold)))) (h3:(bT B sc s.E).2=0->¬(bJ s.E=true∨¬(bT B sc s.E).1=(jA B s.Name).T)):lO B sc s=(bT B sc s.E).2:=by
 by_cases h4:(bT B sc s.E).2=0
 ·rw [storeE_0 h h2 h4 (h3 h4),h4]
 ·exact zMp h h2 h4
def if_t (c:(decide ((bT B sc s.E).2=0)&& !bJ s.E)=true):ifE B sc s=10:=by
 rw [ae,ah] at c
 exact ifE_10 c.1 (by simpa using c.2)
def if_fin (c:(decide ((bT B sc s.E).2=0)&& !bJ s.E)=false):ifE B sc s=(bT B sc s.E).2:=by
 by_cases h:(bT B sc s.E).2=0
 ·rw [aw h,aL] at c
  rw [ifE_0 h (by simpa using c),h]
 ·exact ifE_x h
def within_f (c:40<mZ 41 l):dR 40 l=false:=by
 cases h:dR 40 l with
 |false=>rfl
 |true=>have h2:mZ 41 l<=40:=(zKd 40 l).2 h;omega
def within_t (c:mZ 41 l<=40):dR 40 l=true:=(zKd 40 l).1 c
end Go.Br
end
section
namespace Go.L41
open Go Go.Eng
structure Lifetime where
 Name:lr
 From:Int
 To:Int
 Size:Int
def Lifetime.cells (x:Lifetime):List C:=[cS x.Name,cI x.From,cI x.To,cI x.Size]
abbrev vL (x:Lifetime):V:=.agg x.cells
def eD (p:Int) (y:Lifetime):Bool:=decide (y.From<=p)&&decide (p<=y.To)
def cnt (l:List Lifetime) (p:Int):Int:=((l.filter (eD p)).length:Int)
def cnt_le (l:List Lifetime) (p:Int):0<=cnt l p/\cnt l p<=l.length:=by
 unfold cnt
 have:=fu (eD p) l
 omega
end Go.L41
end
section
namespace Go.Br
open Go Go.Eng Go.L41
def zCq (a b:List lr) (s:lr):bP (a++b) s=(bP a s||bP b s):=by simp [bP,fm]
structure Sp where
 From:Int
 To:Int
def valid_bufs {n:Ns} (h:(bL n).2=0):dM [] n.Bufs=0/\n.Bufs.length<=128/\dR 40 n.Body=true/\lV n.Body 2000<=2000/\(dH n.Bufs [] [] [] 0 n.Body).E=0:=by
 unfold bL at h
 by_cases h1:dR 40 n.Body=true
 ·rw [ab h1] at h
  by_cases h2:2000<lV n.Body 2000∨128<n.Bufs.length
  ·rw [ab h2] at h;cases h
  ·rw [aa h2] at h
   by_cases h3:dM [] n.Bufs=0
   ·rw [ab h3] at h;exact ⟨h3,zA,h1,zA,h⟩
   ·rw [aa h3] at h;exact absurd h h3
 ·rw [aa h1] at h;cases h
/-! ## Statements in preorder,with their paths -/
mutual
def tI (here:List Int):St->List (St×List Int)
 |.mk o nm mn mk fo i e b=>(.mk o nm mn mk fo i e b,here)::gN here 0 b
def gN (way:List Int):Int->List St->List (St×List Int)
 |_,[]=>[]
 |i,s::r=>tI (way++[i]) s++gN way (i+1) r
end
def preS_eq (here:List Int) (s:St):tI here s=(s,here)::gN here 0 s.Body:=by cases s;rw [tI];rfl
def zOo (way:List Int):∀(a b:List St) (i:Int),gN way i (a++b)=gN way i a++gN way (i+a.length) b
 |[],b,i=>by simp [gN]
 |x::r,b,i=>by
  rw [lCa,gN,gN,zOo way r b,lAa,lLc]
  rw [show i+1+(r.length:Int)=i+((r.length+1:Nat):Int) by omega]
variable {l:List St} {way:List Int} {k:Nat} {s:St}
def preL_next (h:l[k]? =some s):gN way 0 (l.take (k+1))=gN way 0 (l.take k)++tI (way++[(k:Int)]) s:=by
 have hk:=(ai.1 h).1
 rw [yR h,zOo,aG,bw zA,fi]
 simp [gN]
def preL_at (h:l[k]? =some s):gN way 0 l=gN way 0 (l.take k)++(tI (way++[(k:Int)]) s++gN way ((k:Int)+1) (l.drop (k+1))):=by
 have hk:=(ai.1 h).1
 have e:l=l.take k++s::l.drop (k+1):=by rw [←qQ h,aM]
 have e2:=ag (gN way 0) e
 rw [zOo,aG,bw zA,fi,gN] at e2
 exact e2
def pre_at1 (h:l[k]? =some s):gN way 0 l=gN way 0 (l.take k)++(s,way++[(k:Int)])::(gN (way++[(k:Int)]) 0 s.Body++gN way ((k:Int)+1) (l.drop (k+1))):=by
 rw [preL_at h,preS_eq];rfl
variable {pre suf:List (St×List Int)} {x:St×List Int}
def pre_at2 (h:l[k]? =some s) (hx:gN (way++[(k:Int)]) 0 s.Body=pre++x::suf):gN way 0 l=(gN way 0 (l.take k)++(s,way++[(k:Int)])::pre)++x::(suf++gN way ((k:Int)+1) (l.drop (k+1))):=by
 rw [pre_at1 h,hx];simp
mutual
def preS_len (here:List Int):∀s:St,(tI here s).length=stN s
 |.mk o nm mn mk fo i e b=>by rw [tI,stN,lLc,zUz here b];omega
def zUz (way:List Int):∀(l:List St) (i:Int),(gN way i l).length=dJ l
 |[],i=>by rw [gN,dJ];rfl
 |s::r,i=>by rw [gN,dJ,lLa,preS_len,zUz way r]
end
def stsN_take (h:l[k]? =some s):dJ (l.take k)+(1+dJ s.Body)<=dJ l:=by
 have h2:dJ l=dJ (l.take k)+(stN s+dJ (l.drop (k+1))):=by
  rw [←dJ,←qQ h,←zOh,aM]
 have:=zKx s
 omega
def mX (s:St):List lr:=if s.Op=1 then [s.Name] else []
def pR (l:List (St×List Int)):List lr:=l.flatMap fun x=>mX x.1
mutual
def fU:St->List lr
 |.mk o nm mn mk fo i e b=>mX (.mk o nm mn mk fo i e b)++bG b
def bG:List St->List lr
 |[]=>[]
 |s::r=>fU s++bG r
end
def loopsS_eq (s:St):fU s=mX s++bG s.Body:=by cases s;rw [fU];rfl
def loopsA_append (a b:List (St×List Int)):pR (a++b)=pR a++pR b:=by unfold pR;rw [ef]
mutual
def loopsA_S (here:List Int):∀s:St,pR (tI here s)=fU s
 |.mk o nm mn mk fo i e b=>by
  rw [tI,fU,←loopsA_L here b 0];rfl
def loopsA_L (way:List Int):∀(l:List St) (i:Int),pR (gN way i l)=bG l
 |[],i=>by rw [gN,bG];rfl
 |s::r,i=>by rw [gN,bG,loopsA_append,loopsA_S,loopsA_L way r]
end
def loopsL_next (h:l[k]? =some s):bG (l.take (k+1))=bG (l.take k)++(mX s++bG s.Body):=by
 have:∀a b:List St,bG (a++b)=bG a++bG b:=by
  intro a b
  induction a with
  |nil=>rw [bG];rfl
  |cons x r ih=>rw [lCa,bG,bG,ih,lAa]
 rw [yR h,this,bG,bG,lAn,loopsS_eq]
def jP (t:lr) (s:St):Bool:=decide (s.Op=1)&&decide (s.Name=t)
def sJ (t:lr) (x:St×List Int):Bool:=jP t x.1
def mP (t:lr) (l:List (St×List Int)):Option (List Int):=(l.find? (sJ t)).map (·.2)
def jC (l:List St) (t:lr):Option (List Int):=mP t (gN [] 0 l)
variable {t:lr}
def findA_none {l:List (St×List Int)} (h:l.any (sJ t)=false):mP t l=none:=by
 unfold mP
 rw [kx.2 (fun x hx hh=>by
  rw [io] at h
  exact h x hx hh)];rfl
def findA_some (h:pre.any (sJ t)=false) (hx:sJ t x=true):mP t (pre++x::suf)=some x.2:=by
 unfold mP
 rw [List.find?_append,kx.2 (fun y hy hh=>by
  rw [io] at h
  exact h y hy hh),List.find?_cons_of_pos hx];rfl
def any_one (h:pre.any (sJ t)=false) (hx:sJ t x=false):(pre++[x]).any (sJ t)=false:=by
 rw [fm,h];simp [hx]
mutual
def tN (t:lr):St->Option (List Int)
 |.mk o nm mn mk fo i e b=>if jP t (.mk o nm mn mk fo i e b)=true then some [] else pK t 0 b
def pK (t:lr):Int->List St->Option (List Int)
 |_,[]=>none
 |i,s::r=>match tN t s with|some w=>some (i::w)|none=>pK t (i+1) r
end
def findA_append (t:lr) (a b:List (St×List Int)):mP t (a++b)=match mP t a with|some w=>some w|none=>mP t b:=by
 unfold mP
 rw [List.find?_append]
 cases List.find? (sJ t) a<;>rfl
mutual
def fndS_find (t:lr):∀(s:St) (here:List Int),mP t (tI here s)=(tN t s).map (here++ ·)
 |.mk o nm mn mk fo i e b,here=>by
  rw [tI,tN]
  by_cases h:jP t (.mk o nm mn mk fo i e b)=true
  ·rw [ab h,mP,List.find?_cons_of_pos (by exact h)];simp
  ·rw [aa h]
   have:mP t ((.mk o nm mn mk fo i e b,here)::gN here 0 b)=mP t (gN here 0 b):=by
    unfold mP;rw [List.find?_cons_of_neg (by exact h)]
   rw [this,zYo t b here 0]
def zYo (t:lr):∀(l:List St) (way:List Int) (i:Int),mP t (gN way i l)=(pK t i l).map (way++ ·)
 |[],way,i=>by rw [gN,pK];rfl
 |s::r,way,i=>by
  rw [gN,pK,findA_append,fndS_find t s,zYo t r]
  cases tN t s<;>simp
end
def zYp (l:List St) (t:lr):jC l t=pK t 0 l:=by
 unfold jC;rw [zYo];cases pK t 0 l<;>simp
def fndL_ne (t:lr):∀(l:List St) (i:Int) (u:List Int),pK t i l=some u->u≠[]
 |[],i,u,h=>by rw [pK] at h;cases h
 |s::r,i,u,h=>by
  rw [pK] at h
  cases c:tN t s with
  |some w=>rw [c] at h;simp only [ap] at h;rw [←h];simp
  |none=>rw [c] at h;exact fndL_ne t r (i+1) u h
mutual
def fndS_len (t:lr):∀(s:St) (w:List Int),tN t s=some w->w.length+1<=stN s
 |.mk o nm mn mk fo i e b,w,h=>by
  rw [tN] at h
  split at h
  ·simp only [ap] at h;rw [←h,stN];simp
  ·rw [stN];have:=fndL_len t b 0 w h;omega
def fndL_len (t:lr):∀(l:List St) (i:Int) (w:List Int),pK t i l=some w->w.length<=dJ l
 |[],i,w,h=>by rw [pK] at h;cases h
 |s::r,i,w,h=>by
  rw [pK] at h
  rw [dJ]
  cases c:tN t s with
  |some u=>rw [c] at h;simp only [ap] at h;rw [←h,lLc];have:=fndS_len t s u c;omega
  |none=>rw [c] at h;have:=fndL_len t r (i+1) w h;omega
end
def fndL_getD (t:lr) (l:List St) (i:Int):((pK t i l).getD []).length<=dJ l:=by
 cases h:pK t i l with
 |none=>simp
 |some w=>exact fndL_len t l i w h
def findN_ne {u:List Int} (h:jC l t=some u):u≠[]:=by rw [zYp] at h;exact fndL_ne t l 0 u h
mutual
def mSt (f:Lf->Lf×Int) (g:lr->lr):St->Except Int St
 |.mk o nm mn mk fo i e b=>match fF f i with
  |.error y=>.error y
  |.ok i'=>match mEx f e with
   |.error y=>.error y
   |.ok e'=>match fT f g b with
    |.error y=>.error y
    |.ok b'=>.ok (.mk o (if o=1 then g nm else nm) mn mk fo i' e' b')
def fT (f:Lf->Lf×Int) (g:lr->lr):List St->Except Int (List St)
 |[]=>.ok []
 |s::r=>match mSt f g s with
  |.error y=>.error y
  |.ok s'=>match fT f g r with
   |.error y=>.error y
   |.ok r'=>.ok (s'::r')
end
def mSt_eq (f:Lf->Lf×Int) (g:lr->lr) (s:St):mSt f g s=match fF f s.Idx with
  |.error y=>.error y
  |.ok i'=>match mEx f s.E with
   |.error y=>.error y
   |.ok e'=>match fT f g s.Body with
    |.error y=>.error y
    |.ok b'=>.ok (.mk s.Op (if s.Op=1 then g s.Name else s.Name) s.Many s.Mark s.Fold i' e' b'):=by cases s;rw [mSt];rfl
variable {f:Lf->Lf×Int} {g:lr->lr} {c:Int}
def mSt_e1 (h:fF f s.Idx=.error c):mSt f g s=.error c:=by rw [mSt_eq,h]
variable {i:List Ix}
def mSt_e2 (h:fF f s.Idx=.ok i) (h2:mEx f s.E=.error c):mSt f g s=.error c:=by rw [mSt_eq,h];simp only [h2]
variable {e:Ex}
def mSt_e3 (h:fF f s.Idx=.ok i) (h2:mEx f s.E=.ok e) (h3:fT f g s.Body=.error c):mSt f g s=.error c:=by rw [mSt_eq,h];simp only [h2,h3]
def mSt_ok {b:List St} (h:fF f s.Idx=.ok i) (h2:mEx f s.E=.ok e) (h3:fT f g s.Body=.ok b):mSt f g s=.ok (.mk s.Op (if s.Op=1 then g s.Name else s.Name) s.Many s.Mark s.Fold i e b):=by rw [mSt_eq,h];simp only [h2,h3]
mutual
def mSt_ne {f:Lf->Lf×Int} {g:lr->lr}:∀s:St,mSt f g s≠ .error 0
 |.mk o nm mn mk fo i e b=>by
  rw [mSt]
  cases h1:fF f i with
  |error y=>intro h;cases h;exact zXs h1
  |ok a=>
   cases h2:mEx f e with
   |error y=>intro h;simp only at h;cases h;exact mEx_ne e h2
   |ok a=>
    cases h3:fT f g b with
    |error y=>intro h;simp only at h;cases h;exact mSts_ne b h3
    |ok a=>simp
def mSts_ne {f:Lf->Lf×Int} {g:lr->lr}:∀l:List St,fT f g l≠ .error 0
 |[]=>by simp [fT]
 |x::r=>by
  rw [fT]
  cases h1:mSt f g x with
  |error y=>intro h;cases h;exact mSt_ne x h1
  |ok a=>
   cases h2:fT f g r with
   |error y=>intro h;simp only at h;cases h;exact mSts_ne r h2
   |ok a=>simp
end
def jU:Except Int (List St)->List St
 |.ok l=>l
 |.error _=>[]
variable {done:List St}
def mSts_next {x y:St} (h:l[k]? =some x) (hp:fT f g l=dS done (fT f g (l.drop k))) (hx:mSt f g x=.ok y):fT f g l=dS (done++[y]) (fT f g (l.drop (k+1))):=by
 rw [hp,qQ h,fT,hx]
 cases fT f g (l.drop (k+1))<;>simp [dS,lY]
def zSl {x:St} (h:l[k]? =some x) (hp:fT f g l=dS done (fT f g (l.drop k))) (hx:mSt f g x=.error c):fT f g l=.error c:=by
 rw [hp,qQ h,fT,hx];rfl
def mSts_end (hp:fT f g l=dS done (fT f g (l.drop k))) (h:¬k<l.length):fT f g l=.ok done:=by
 rw [hp,kL h];simp [fT,dS,lY]
mutual
def mSt_id:∀s:St,mSt idF (fun x=>x) s=.ok s
 |.mk o nm mn mk fo i e b=>by
  rw [mSt,mIxs_id,mEx_id];simp only [mSts_id b]
  by_cases h:o=1
  ·rw [ab h]
  ·rw [aa h]
def mSts_id:∀l:List St,fT idF (fun x=>x) l=.ok l
 |[]=>by rw [fT]
 |x::r=>by rw [fT,mSt_id x,mSts_id r]
end
def gK (P:Lf->Prop) (i:List Ix):Prop:=∀x,x∈i->P x.Lin/\∀l,l∈x.At->P l
mutual
def St.allF (P:Lf->Prop):St->Prop
 |.mk _ _ _ _ _ i e b=>gK P i/\e.allF P/\bE P b
def bE (P:Lf->Prop):List St->Prop
 |[]=>True
 |s::r=>s.allF P/\bE P r
end
variable {P:Lf->Prop}
def St.allF_eq (h:s.allF P):gK P s.Idx/\s.E.allF P/\bE P s.Body:=by cases s;rw [St.allF] at h;exact h
def kR {P:Lf->Prop}:∀{l:List St},bE P l->∀s,s∈l->s.allF P
 |[],_,s,hs=>by cases hs
 |x::r,h,s,hs=>by
  rw [bE] at h
  rcases af.1 hs with rfl|hs
  ·exact h.1
  ·exact kR h.2 s hs
def zHs {P:Lf->Prop}:∀{l:List St},(∀s,s∈l->s.allF P)->bE P l
 |[],_=>by rw [bE];trivial
 |x::r,h=>by rw [bE];exact ⟨h x uD,zHs fun s hs=>h s (by simp [hs])⟩
def zSt:St:=.mk 0 (bs []) 0 0 0 [] zEx []
def trl:List Int->List St->List St->List St
 |[],_,out=>out
 |i::r,l,out=>if 0<=i/\i<l.length then trl r (l.getD i.toNat zSt).Body (out++[l.getD i.toNat zSt]) else []
def fQ (l:List St) (way:List Int):List St:=trl way l []
variable {out R:List St}
def trl_next {i:Int} (h:way[k]? =some i) (hp:R=trl (way.drop k) l out) (hi:0<=i/\i<l.length):R=trl (way.drop (k+1)) (l.getD i.toNat zSt).Body (out++[l.getD i.toNat zSt]):=by
 rw [hp,qQ h,trl,ab hi]
def trl_no {i:Int} (h:way[k]? =some i) (hp:R=trl (way.drop k) l out) (hi:¬(0<=i/\i<l.length)):R=[]:=by
 rw [hp,qQ h,trl,aa hi]
def trl_end (hp:R=trl (way.drop k) l out) (h:¬k<way.length):R=out:=by
 rw [hp,kL h,trl]
def zWi {i:Int} (h:0<=i/\i<l.length):l[i.toNat]? =some (l.getD i.toNat zSt):=by
 have:i.toNat<l.length:=by omega
 rw [ak this,List.getD,ak this];rfl
def zRx {i:Int} (h:0<=i/\i<l.length):l.getD i.toNat zSt∈l:=qA (zWi h)
def atF:List Int->List St->St->St×Bool
 |[],_,s=>(s,true)
 |i::r,l,_=>if 0<=i/\i<l.length then atF r (l.getD i.toNat zSt).Body (l.getD i.toNat zSt) else (zSt,false)
def atT (l:List St) (way:List Int):St×Bool:=if way=[] then (zSt,false) else atF way l zSt
def trl_atF:∀(way:List Int) (l out:List St) (s:St),out≠[]->out.getLast? =some s->(trl way l out=[]/\(atF way l s).2=false/\atF way l s=(zSt,false))∨(trl way l out≠[]/\(trl way l out).getLast? =some (atF way l s).1/\(atF way l s).2=true)
 |[],l,out,s,h,h2=>.inr ⟨h,h2,rfl⟩
 |i::r,l,out,s,h,h2=>by
  rw [trl,atF]
  by_cases hi:0<=i/\i<l.length
  ·rw [ab hi,ab hi]
   exact trl_atF r _ _ _ uD uD
  ·rw [aa hi,aa hi];exact .inl ⟨rfl,rfl,rfl⟩
def trail_at (l:List St) (way:List Int):(fQ l way=[]/\atT l way=(zSt,false))∨(fQ l way≠[]/\(fQ l way).getLast? =some (atT l way).1/\(atT l way).2=true):=by
 unfold fQ atT
 cases way with
 |nil=>exact .inl ⟨rfl,ab rfl⟩
 |cons i r=>
  rw [aa uD,trl,atF]
  by_cases hi:0<=i/\i<l.length
  ·rw [ab hi,ab hi]
   rcases trl_atF r (l.getD i.toNat zSt).Body ([]++[l.getD i.toNat zSt]) (l.getD i.toNat zSt) uD uD with ⟨h1,h2,h3⟩|h
   ·exact .inl ⟨h1,h3⟩
   ·exact .inr h
  ·rw [aa hi,aa hi];exact .inl ⟨rfl,rfl⟩
def trl_len:∀(way:List Int) (l out:List St),(trl way l out).length<=out.length+way.length
 |[],l,out=>by simp [trl]
 |i::r,l,out=>by
  rw [trl];split
  ·have:=trl_len r (l.getD i.toNat zSt).Body (out++[l.getD i.toNat zSt])
   simp only [lLa,lLc,lLn] at this⊢;omega
  ·simp
def rE:List Int->List St->Prop
 |[],_=>True
 |i::r,l=>(0<=i/\i<l.length)/\rE r (l.getD i.toNat zSt).Body
def way_at {l0:List St}:∀{way:List Int} {l:List St} {s:St},(atF way l s).2=true->rE way l
 |[],_,_,_=>trivial
 |i::r,l,s,h=>by
  rw [atF] at h
  by_cases hi:0<=i/\i<l.length
  ·rw [ab hi] at h;exact ⟨hi,way_at (l0:=l0) h⟩
  ·rw [aa hi] at h;cases h
def way_of (h:(atT l way).2=true):way≠[]/\rE way l:=by
 unfold atT at h
 by_cases hw:way=[]
 ·rw [ab hw] at h;cases h
 ·rw [aa hw] at h;exact ⟨hw,way_at (l0:=l) h⟩
def at_some (h:fQ l way≠[]):(atT l way).2=true:=by
 rcases trail_at l way with ⟨h1,_⟩|⟨_,_,h1⟩
 ·exact absurd h1 h
 ·exact h1
def at_none (h:fQ l way=[]):atT l way=(zSt,false):=by
 rcases trail_at l way with ⟨_,h1⟩|⟨h1,_⟩
 ·exact h1
 ·exact absurd h h1
def at_last (h:fQ l way≠[]):(fQ l way).drop ((fQ l way).length-1)=[(atT l way).1]:=by
 rcases trail_at l way with ⟨h1,_⟩|⟨_,h2,_⟩
 ·exact absurd h1 h
 ·have hl:0<(fQ l way).length:=List.length_pos_iff.2 h
  have hg:(fQ l way)[(fQ l way).length-1]? =some (atT l way).1:=by rw [←List.getLast?_eq_getElem?];exact h2
  rw [qQ hg,show (fQ l way).length-1+1=(fQ l way).length by omega,iv]
def atF_le:∀{way:List Int} {l:List St} {s:St} {B:Nat},bD l<=B->s.wt<=B->(atF way l s).1.wt<=B+2
 |[],l,s,B,_,h=>by rw [atF];show s.wt<=_;omega
 |i::r,l,s,B,h,h2=>by
  rw [atF]
  split
  ·rename_i hi
   have h1:=yS (zRx hi)
   have h2:=St.body_wt (l.getD i.toNat zSt)
   exact atF_le zA zA
  ·show zSt.wt<=_
   have:zSt.wt=2:=by decide
   omega
def atF_le' {B: Nat} (h : bD l ≤ B) : (atF way l zSt).1.wt ≤ B + 2:= by
  cases way with
  | nil => show zSt.wt ≤ _; have : zSt.wt = 2:= by decide
           omega
  | cons i r =>
    rw [atF]
    split
    · rename_i hi
      have h1 := yS (zRx hi)
      have h2 := St.body_wt (l.getD i.toNat zSt)
      exact atF_le zA zA
    · show zSt.wt ≤ _
      have : zSt.wt = 2:= by decide
      omega
def zSt_wt:zSt.wt=2:=by decide
def atT_wt:(atT l way).1.wt<=bD l+2:=by
 unfold atT
 split
 ·show zSt.wt<=_;rw [zSt_wt];omega
 ·exact atF_le' (aH _)
/-! ## Sets of names -/
/-! ## One form: a name for a name -/
def vrL (t:lr):Lf:=⟨0,[⟨t,1⟩]⟩
mutual
def gSt (g:Lf->Lf) (r:lr->lr):St->St
 |.mk o nm mn mk fo i e b=>.mk o (if o=1 then r nm else nm) mn mk fo (i.map (gIx g)) (gEx g e) (gX g r b)
def gX (g:Lf->Lf) (r:lr->lr):List St->List St
 |[]=>[]
 |s::t=>gSt g r s::gX g r t
end
def mIxs_sure (g:Lf->Lf) (i:List Ix):fF (fun l=>(g l,0)) i=.ok (i.map (gIx g)):=by
 cases h:fF (fun l=>(g l,0)) i with
 |error c=>
  obtain ⟨x,_,hx⟩:=mIxs_er h
  have:c=0:=hx.symm
  subst this
  exact absurd h zXs
 |ok a=>rw [(mIxs_g h).1]
def mEx_sure (g:Lf->Lf) (e:Ex):mEx (fun l=>(g l,0)) e=.ok (gEx g e):=by
 cases h:mEx (fun l=>(g l,0)) e with
 |error c=>
  have:c=0:=mEx_er (P:=fun c=>c=0) e (fun _ _ _ _=>rfl) c h
  subst this
  exact absurd h (mEx_ne e)
 |ok a=>rw [(mEx_g h).1]
def zMx {B:List Bf} {sc:List lr}:∀{l:List Ex},dL B sc l=0↔∀x,x∈l->jQ B sc x=0
 |[]=>by simp [dL]
 |x::r=>by
  rw [dL]
  by_cases h:jQ B sc x=0
  ·rw [ab h,zMx (l:=r)];simp [h]
  ·rw [aa h];simp [h]
def ix_in {x:Ix} (h:x∈e.Idx):x.Lin∈dC e/\∀l,l∈x.At->l∈dC e:=by
 unfold dC
 refine ⟨au _ (cf.2 ⟨x,h,uD⟩),fun l hl=>au _ (cf.2 ⟨x,h,by simp [hl]⟩)⟩
def zAv {B:List Bf} {sc:List lr} (h:(bT B sc e).2=0):gI e=0/\dL B sc (dI e)=0:=by
 by_cases h1:gI e=0
 ·by_cases h2:dL B sc (dI e)=0
  ·exact ⟨h1,h2⟩
  ·rw [zYu h1 h2] at h;exact absurd h h2
 ·rw [zYv h1] at h;exact absurd h h1
def zGi {n:Ns} (h:(bL n).2=0):dR 40 n.Body=true/\¬(2000<lV n.Body 2000∨128<n.Bufs.length)/\dM [] n.Bufs=0/\(dH n.Bufs [] [] [] 0 n.Body).E=0:=by
 have h1:dR 40 n.Body=true:=by
  cases c:dR 40 n.Body with
  |true=>rfl
  |false=>rw [zWb c] at h;cases h
 have h2:¬(2000<lV n.Body 2000∨128<n.Bufs.length):=fun c=>by rw [validN_2 h1 c] at h;cases h
 have h3:dM [] n.Bufs=0:=by
  by_cases c:dM [] n.Bufs=0
  ·exact c
  ·rw [validN_b h1 h2 c] at h;exact absurd h c
 rw [zUp h1 h2 h3] at h
 exact ⟨h1,h2,h3,h⟩
def gIx_gIx (g g':Lf->Lf) (x:Ix):gIx g' (gIx g x)=gIx (fun l=>g' (g l)) x:=by
 unfold gIx;simp [iz,Function.comp_def]
mutual
def gEx_gEx (g g':Lf->Lf):∀e:Ex,gEx g' (gEx g e)=gEx (fun l=>g' (g l)) e
 |.mk o n v t l i a=>by
  rw [gEx,gEx,gEx,gExs_gExs g g' a,iz]
  congr 1
  exact gx fun x _=>gIx_gIx g g' x
def gExs_gExs (g g':Lf->Lf):∀l:List Ex,rD g' (rD g l)=rD (fun l=>g' (g l)) l
 |[]=>by rw [rD,rD,rD]
 |a::r=>by rw [rD,rD,rD,gEx_gEx g g' a,gExs_gExs g g' r]
end
def ixsAll_and {Q:Lf->Prop} (h1:gK P i) (h2:gK Q i):gK (fun l=>P l/\Q l) i:=fun x hx=>⟨⟨(h1 x hx).1,(h2 x hx).1⟩,fun l hl=>⟨(h1 x hx).2 l hl,(h2 x hx).2 l hl⟩⟩
def zPf (h:dW s=true):(hY s=false->s.Idx=[])/\(s.Op=1->s.E=zEx):=by
 unfold dW at h
 simp only [ae] at h
 obtain ⟨⟨⟨⟨⟨⟨h1,h2⟩,h3⟩,h4⟩,h5⟩,h6⟩,h7⟩:=h
 constructor
 ·intro hs
  rw [hs] at h5
  have:¬(0:Int)<s.Idx.length:=by simpa using h5
  exact aV zA
 ·intro ho
  rw [aw ho] at h6
  have:pU s.E=true:=by simpa using h6
  unfold pU at this
  simpa using this
def zVt (h:P ⟨0,[]⟩):zEx.allF P:=by
 refine zMw (fun l hl=>?_) (fun a ha=>by cases ha)
 unfold dC at hl
 rcases af.1 hl with rfl|hl
 ·exact h
 ·cases hl
def stE_lin {B:List Bf} {U sc:List lr} (h:stE B U sc s=0):gK (fun l=>bI l=true) s.Idx/\s.E.allF (fun l=>bI l=true):=by
 have hs:dW s=true:=by
  cases c:dW s with
  |true=>rfl
  |false=>rw [stE_5 c] at h;cases h
 obtain ⟨s1,s2⟩:=zPf hs
 have nil:∀{i:List Ix},i=[]->gK (fun l=>bI l=true) i:=fun e x hx=>by rw [e] at hx;cases hx
 by_cases h1:s.Op=1
 ·refine ⟨nil (s1 ?_),by rw [s2 h1];exact zVt rfl⟩
  exact l9
 ·by_cases h4:s.Op=4
  ·rw [stE_i hs h4] at h
   have k1:(bT B sc s.E).2=0:=by
    by_cases c:(bT B sc s.E).2=0
    ·exact c
    ·rw [ifE_x c] at h;exact absurd h c
   refine ⟨nil (s1 ?_),zWa (zAv k1).1⟩
   exact l9
  ·rw [stE_s hs h1 h4] at h
   have k1:(bT B sc (rdE s)).2=0:=by
    by_cases c:(bT B sc (rdE s)).2=0
    ·exact c
    ·rw [zMq c] at h;exact absurd h c
   have k2:¬((jA B s.Name).Use=1∨(s.Op=3/\(s.Fold<1∨4<s.Fold))):=fun c=>by rw [zJd k1 c] at h;cases h
   have k3:(bT B sc s.E).2=0:=by
    by_cases c:(bT B sc s.E).2=0
    ·exact c
    ·rw [zMp k1 k2 c] at h;exact absurd h c
   refine ⟨fun x hx=>?_,zWa (zAv k3).1⟩
   have:=zWa (zAv k1).1 (rdE s) (by rw [wC];simp)
   have hx':x∈(rdE s).Idx:=hx
   exact ⟨this _ (ix_in hx').1,fun l hl=>this _ ((ix_in hx').2 l hl)⟩
mutual
def chkS_lin {B:List Bf}:∀(s:St) (U sc:List lr) (here:List Int),(jB B U sc here s).E=0->s.allF (fun l=>bI l=true)
 |.mk o nm mn mk fo i e b,U,sc,here,h=>by
  have h0:stE B U sc (.mk o nm mn mk fo i e b)=0:=by
   by_cases c:stE B U sc (.mk o nm mn mk fo i e b)=0
   ·exact c
   ·rw [zZq c] at h;exact absurd h c
  have h1:=stE_lin h0
  rw [zZr h0] at h
  rw [St.allF]
  exact ⟨h1.1,h1.2,chkL_lin b _ _ _ _ h⟩
def chkL_lin {B:List Bf}:∀(l:List St) (U sc:List lr) (way:List Int) (i:Int),(dH B U sc way i l).E=0->bE (fun l=>bI l=true) l
 |[],_,_,_,_,_=>by rw [bE];trivial
 |s::r,U,sc,way,i,h=>by
  have h0:(jB B U sc (way++[i]) s).E=0:=by
   by_cases c:(jB B U sc (way++[i]) s).E=0
   ·exact c
   ·rw [dH,aa c] at h;exact absurd h c
  rw [dH,ab h0] at h
  rw [bE]
  exact ⟨chkS_lin s _ _ _ h0,chkL_lin r _ _ _ _ h⟩
end
/-! ## A name that is not in use -/
mutual
def allF_and {P Q:Lf->Prop}:∀s:St,s.allF P->s.allF Q->s.allF (fun l=>P l/\Q l)
 |.mk o nm mn mk fo i e b,h1,h2=>by
  rw [St.allF] at h1 h2⊢
  exact ⟨ixsAll_and h1.1 h2.1,fun x hx l hl=>⟨h1.2.1 x hx l hl,h2.2.1 x hx l hl⟩,zHd b h1.2.2 h2.2.2⟩
def zHd {P Q:Lf->Prop}:∀l:List St,bE P l->bE Q l->bE (fun l=>P l/\Q l) l
 |[],_,_=>by rw [bE];trivial
 |s::r,h1,h2=>by
  rw [bE] at h1 h2⊢
  exact ⟨allF_and s h1.1 h2.1,zHd r h1.2 h2.2⟩
end
def iE:Except Int (List Ix)->List Ix
 |.ok l=>l
 |.error _=>[]
def mIxs_0 (h:jV (fF f i)=0):∃a,fF f i=.ok a:=errE_ok h zXs
def mEx_0 (h:jV (mEx f e)=0):∃a,mEx f e=.ok a:=errE_ok h (mEx_ne e)
def mSts_0 (h:jV (fT f g l)=0):∃a,fT f g l=.ok a:=errE_ok h (mSts_ne l)
def err_is {α:Type} {x:Except Int α} (h:¬jV x=0):x=.error (jV x):=by
 cases x with
 |ok a=>exact absurd rfl h
 |error c=>rfl
def mIxs_err (h:¬jV (fF f i)=0):fF f i=.error (jV (fF f i)):=err_is h
def mEx_err (h:¬jV (mEx f e)=0):mEx f e=.error (jV (mEx f e)):=err_is h
def mSts_err (h:¬jV (fT f g l)=0):fT f g l=.error (jV (fT f g l)):=err_is h
def ixsAll_of (h:e.allF P):gK P e.Idx:=fun x hx=>⟨Ex.allF_ix h hx,fun l hl=>Ex.allF_at h hx hl⟩
def mid_getS {A:List (List C)} {x:St} (hA:A.length=k) (h:l[k]? =some x):(A++(l.drop k).map St.cells)[k]? =some x.cs:=by
 rw [mid_get hA h,St.cells_eq]
mutual
def st_short {B:Nat}:∀s:St,s.wt<=B->s.allF (fun l=>l.L.length<=B)
 |.mk o nm mn mk fo i e b,h=>by
  rw [St.allF]
  rw [St.wt] at h
  refine ⟨fun x hx=>?_,fun x hx l hl=>forms_wt (cc (zGq e x hx) zA) hl,zRw b zA⟩
  have:=zBu hx
  rw [Ix.wt] at this
  exact ⟨zA,fun l hl=>by have:=zEn hl;omega⟩
def zRw {B:Nat}:∀l:List St,bD l<=B->bE (fun l=>l.L.length<=B) l
 |[],_=>by rw [bE];trivial
 |s::r,h=>by
  rw [bD] at h
  rw [bE]
  exact ⟨st_short s zA,zRw r zA⟩
end
def zKw {B:Nat} (h:bD l<=B):bE (fun l=>l.L.length<=B) l:=zRw l h
/-! ## What renaming keeps -/
def vrL_rng (t:lr):(vrL t).rng:=⟨by show r64 0;unfold r64;omega,fun m hm=>by
 simp only [vrL,aO] at hm;subst hm;show r64 1;unfold r64;omega⟩
end Go.Br
end
section
set_option maxRecDepth 100000
namespace Go.Br
open Go Go.Eng Go.L41
noncomputable instance:DecidableEq St:=fun _ _=>Classical.propDecidable _
noncomputable instance:DecidableEq Ns:=fun _ _=>Classical.propDecidable _
def St.eq_iff {a b:St}:a=b↔a.Op=b.Op/\a.Name=b.Name/\a.Many=b.Many/\a.Mark=b.Mark/\a.Fold=b.Fold/\a.Idx=b.Idx/\a.E=b.E/\a.Body=b.Body:=by
 constructor
 ·rintro rfl;exact ⟨rfl,rfl,rfl,rfl,rfl,rfl,rfl,rfl⟩
 ·rintro ⟨h1,h2,h3,h4,h5,h6,h7,h8⟩
  rw [St.eta a,St.eta b,h1,h2,h3,h4,h5,h6,h7,h8]
def st_eq (a b:St):(((((((decide (a.Op=b.Op)&&decide (a.Name=b.Name))&&decide (a.Many=b.Many))&&decide (a.Mark=b.Mark))&&decide (a.Fold=b.Fold))&&decide (a.Idx=b.Idx))&&decide (a.E=b.E))&&decide (a.Body=b.Body))=decide (a=b):=by
 rw [bz]
 simp only [ae,ah,St.eq_iff]
 constructor
 ·rintro ⟨⟨⟨⟨⟨⟨⟨h1,h2⟩,h3⟩,h4⟩,h5⟩,h6⟩,h7⟩,h8⟩;exact ⟨h1,h2,h3,h4,h5,h6,h7,h8⟩
 ·rintro ⟨h1,h2,h3,h4,h5,h6,h7,h8⟩;exact ⟨⟨⟨⟨⟨⟨⟨h1,h2⟩,h3⟩,h4⟩,h5⟩,h6⟩,h7⟩,h8⟩
def bf_ne (x y:Bf):(((!decide (x.Name=y.Name)|| !bZ [cI x.T.Kind,cI x.T.Bits,cI x.T.Frac,cI x.T.Round,cI x.T.Over] [cI y.T.Kind,cI y.T.Bits,cI y.T.Frac,cI y.T.Round,cI y.T.Over])|| !decide (x.Use=y.Use))|| !decide (x.Dims=y.Dims))= !decide (x=y):=by
 rw [litsEq_ty,←Bool.not_and,←Bool.not_and,←Bool.not_and]
 congr 1
 rw [bz]
 simp only [ae,ah]
 cases x;cases y;simp only [Bf.mk.injEq]
 constructor
 ·rintro ⟨⟨⟨h1,h2⟩,h3⟩,h4⟩;exact ⟨h1,h2,h4,h3⟩
 ·rintro ⟨h1,h2,h3,h4⟩;exact ⟨⟨⟨h1,h2⟩,h4⟩,h3⟩
def Ns.eq_iff {a b:Ns}:a=b↔a.Bufs=b.Bufs/\a.Body=b.Body:=by
 constructor
 ·rintro rfl;exact ⟨rfl,rfl⟩
 ·rintro ⟨h1,h2⟩;cases a;cases b;simp_all
end Go.Br
end
section
namespace Go.Br
open Go Go.Eng Go.L41
def sub_zero {s:lr} {u:Lf} (h:bI u=true/\bB s=true):bS ⟨0,[]⟩ s u=(⟨0,[]⟩,0):=by
 unfold bS;rw [ab ⟨rfl,h.1,h.2⟩];rfl
abbrev sbF (s:lr) (u:Lf):Lf->Lf×Int:=fun l=>bS l s u
def sbT (s:lr) (u:Lf) (l:List St):Except Int (List St):=fT (sbF s u) (fun x=>x) l
def zrng:Lf.rng ⟨0,[]⟩:=⟨by show r64 0;unfold r64;omega,fun m hm=>by cases hm⟩
mutual
def mSt_g {f:Lf->Lf×Int} {r:lr->lr}:∀{s s':St},mSt f r s=.ok s'->s'=gSt (fun l=>(f l).1) r s
 |.mk o nm mn mk fo i e b,s',h=>by
  rw [mSt] at h
  cases h1:fF f i with
  |error y=>rw [h1] at h;cases h
  |ok a=>
   cases h2:mEx f e with
   |error y=>rw [h1,h2] at h;cases h
   |ok d=>
    cases h3:fT f r b with
    |error y=>rw [h1,h2] at h;simp only [h3] at h;cases h
    |ok t=>
     rw [h1,h2] at h;simp only [h3] at h
     injection h with h
     rw [←h,gSt,(mIxs_g h1).1,(mEx_g h2).1,mSts_g h3]
def mSts_g {f:Lf->Lf×Int} {r:lr->lr}:∀{l l':List St},fT f r l=.ok l'->l'=gX (fun l=>(f l).1) r l
 |[],l',h=>by rw [fT] at h;injection h with h;rw [←h,gX]
 |x::t,l',h=>by
  rw [fT] at h
  cases h1:mSt f r x with
  |error y=>rw [h1] at h;cases h
  |ok a=>
   cases h2:fT f r t with
   |error y=>rw [h1] at h;simp only [h2] at h;cases h
   |ok d=>
    rw [h1] at h;simp only [h2] at h
    injection h with h
    rw [←h,gX,mSt_g h1,mSts_g h2]
end
def linsWt_20 {g:Lf->Lf} (hg:∀l,(g l).L.length<=l.L.length+20):∀l:List Lf,fI (l.map g)<=fI l+20*l.length
 |[]=>by simp [fI]
 |x::r=>by rw [aK,fI,fI,lLc];have:=linsWt_20 hg r;have:=hg x;omega
def idxWt_20 {g:Lf->Lf} (hg:∀l,(g l).L.length<=l.L.length+20):∀l:List Ix,dO (l.map (gIx g))<=21*dO l+20*l.length
 |[]=>by simp [dO]
 |x::r=>by
  rw [aK,dO,dO,lLc]
  have h1:=idxWt_20 hg r
  have h2:(gIx g x).wt<=21*x.wt+20:=by
   unfold gIx Ix.wt
   have h3:=linsWt_20 hg x.At
   have h4:=hg x.Lin
   simp only [lLm];omega
  omega
mutual
def gSt_20 {g:Lf->Lf} {r:lr->lr} (hg:∀l,(g l).L.length<=l.L.length+20):∀s:St,(gSt g r s).wt<=41*s.wt
 |.mk o nm mn mk fo i e b=>by
  rw [gSt,St.wt,St.wt,lLm]
  have h1:=idxWt_20 hg i
  have h2:=wt_g hg e
  have h3:=gSts_20 (r:=r) hg b
  omega
def gSts_20 {g:Lf->Lf} {r:lr->lr} (hg:∀l,(g l).L.length<=l.L.length+20):∀l:List St,bD (gX g r l)<=41*bD l
 |[]=>by rw [gX];simp [bD]
 |s::t=>by rw [gX,bD,bD];have:=gSt_20 (r:=r) hg s;have:=gSts_20 (r:=r) hg t;omega
end
def zWs {s:lr} {u:Lf} {l:List St} (hu:u.L.length<=20):bD (jU (sbT s u l))<=41*bD l:=by
 cases h:sbT s u l with
 |error y=>show bD []<=_;simp [bD]
 |ok a=>
  show bD a<=_
  rw [mSts_g h]
  exact gSts_20 (fun l=>by have:=substR_len l u s;show (bS l s u).1.L.length<=_;omega) l
def pJ (s:St) (b:List St):St:=.mk s.Op s.Name s.Many s.Mark s.Fold s.Idx s.E b
def setB_self (s:St):pJ s s.Body=s:=by cases s;rfl
def jI:List Int->List St->List St->List St
 |[],l,_=>l
 |i::p,l,q=>l.take i.toNat++(if p=[] then q else [pJ (l.getD i.toNat zSt) (jI p (l.getD i.toNat zSt).Body q)])++l.drop (i.toNat+1)
def zPu (i:Int) (l q:List St):jI [i] l q=l.take i.toNat++q++l.drop (i.toNat+1):=by rw [jI,ab rfl]
def zUy {i:Int} {p:List Int} (h:p≠[]) (l q:List St):jI (i::p) l q=l.take i.toNat++[pJ (l.getD i.toNat zSt) (jI p (l.getD i.toNat zSt).Body q)]++l.drop (i.toNat+1):=by rw [jI,aa h]
def cut_at {l:List St} {i:Int} (h:0<=i/\i<l.length):l.take i.toNat++[l.getD i.toNat zSt]++l.drop (i.toNat+1)=l:=by
 have hg:=zWi h
 rw [lAa,List.singleton_append,←qQ hg,aM]
def zOz:∀a b:List St,bD (a++b)=bD a+bD b
 |[],b=>by simp [bD]
 |x::r,b=>by rw [lCa,bD,bD,zOz r b];omega
def setB_wt (s:St) (b:List St):(pJ s b).wt+bD s.Body=s.wt+bD b:=by
 have h1:=St.wt_eq s
 have h2:=St.wt_eq (pJ s b)
 simp only [pJ,St.Idx,St.E,St.Body] at h1 h2⊢
 omega
def replL_wt:∀{way:List Int} {l q:List St},rE way l->bD (jI way l q)<=bD l+bD q
 |[],l,q,_=>by rw [jI];omega
 |i::p,l,q,h=>by
  have hc:=ag bD (cut_at h.1)
  rw [zOz,zOz,bD,bD] at hc
  by_cases hp:p=[]
  ·subst hp;rw [zPu,zOz,zOz];omega
  ·have ih:=replL_wt (q:=q) h.2
   have hb:=setB_wt (l.getD i.toNat zSt) (jI p (l.getD i.toNat zSt).Body q)
   rw [zUy hp,zOz,zOz,bD,bD]
   omega
def eN (n:Ns) (way:List Int) (q:List St):Ns:=⟨n.Bufs,jI way n.Body q⟩
def mQ (n:Ns) (way:List Int) (q:List St):Ns:=if (atT n.Body way).2=true then eN n way q else ⟨[],[]⟩
end Go.Br
end
section
set_option maxRecDepth 100000
namespace Go.Br
open Go Go.Eng Go.L41
def zNs:Ns:=⟨[],[]⟩
def nS (n:Ns) (s:lr):Bool:=dU n.Bufs s||(jC n.Body s).isSome
def jK (n:Ns) (s:lr):List Int:=(jC n.Body s).getD []
def gO (n:Ns) (s:lr):Int:=if (bL n).2=0 then (if (jC n.Body s).isSome=true then 0 else 19) else (bL n).2
def gH (n:Ns) (s:lr):List Int×St×Int:=if gO n s=0 then (jK n s,(atT n.Body (jK n s)).1,0) else ([],zSt,gO n s)
def pL (n:Ns) (way:List Int) (q:List St):Ns×Int:=if (bL (mQ n way q)).2=0 then (mQ n way q,0) else (zNs,(bL (mQ n way q)).2)
def gQ (nm:lr) (many pC:Int) (b:List St):St:=.mk 1 nm many pC 0 [] zEx b
def sIf (e:Ex) (b:List St):St:=.mk 4 (bs []) 0 0 0 [] e b
def nQ (l:Lf):Ex:=.mk 2 (bs []) ⟨0,0⟩ ⟨0,0,0,0,0⟩ l [] []
def ltE (f:Lf) (m:Int):Ex:=.mk 13 (bs []) ⟨0,0⟩ ⟨0,0,0,0,0⟩ ⟨0,[]⟩ [] [nQ f,nQ ⟨m,[]⟩]
def gE (by_:Int) (a b:lr):Lf:=(jM (dG (fY a) by_).1 (fY b)).1
def vH (s:St) (by_:Int) (f:Lf) (b:List St):List St:=if Int.tmod s.Many by_=0 then b else [sIf (ltE f s.Many) b]
def rP (s:St) (by_:Int) (outer inner:lr) (f:Lf) (b:List St):St:=gQ outer (w64 (Int.tdiv (w64 (w64 (s.Many+by_)-1)) by_)) s.Mark [gQ inner by_ 0 (vH s by_ f b)]
def cN (n:Ns) (loop outer inner:lr):Bool:=decide (outer=inner)||(!decide (outer=loop)&&nS n outer)||(!decide (inner=loop)&&nS n inner)
def nZ (n:Ns) (s:St) (loop:lr) (by_:Int) (outer inner:lr):Int:=
 if by_<1∨s.Many<by_ then 1 else if (!bB outer|| !bB inner)=true then 7 else if cN n loop outer inner=true then 8 else jV (sbT loop (gE by_ outer inner) s.Body)
def lG (n:Ns) (loop:lr) (by_:Int) (outer inner:lr):Ns×Int:=
  if gO n loop=0 then
    (if nZ n (gH n loop).2.1 loop by_ outer inner=0 then pL n (jK n loop) [rP (gH n loop).2.1 by_ outer inner (gE by_ outer inner) (jU (sbT loop (gE by_ outer inner) (gH n loop).2.1.Body))]
     else (zNs,nZ n (gH n loop).2.1 loop by_ outer inner))
  else (zNs,gO n loop)
/-! ## Peeling -/
def jZ (many:Int) (rest:lr):Lf:=(jM (fY rest) ⟨many,[]⟩).1
def lC (n:Ns) (s:St) (loop:lr) (many:Int) (rest:lr):Int:=
 if bG s.Body=[] then (if many<1∨s.Many<=many then 1 else if bB rest=false then 7 else if nS n rest=true then 8 else jV (sbT loop (jZ many rest) s.Body)) else 19
def sK (s:St) (many:Int):St:=.mk s.Op s.Name many s.Mark s.Fold s.Idx s.E s.Body
def mV (n:Ns) (loop:lr) (many:Int) (rest:lr):Ns×Int:=
  if gO n loop=0 then
    (if lC n (gH n loop).2.1 loop many rest=0 then pL n (jK n loop) [sK (gH n loop).2.1 many,gQ rest (w64 ((gH n loop).2.1.Many-many)) (gH n loop).2.1.Mark (jU (sbT loop (jZ many rest) (gH n loop).2.1.Body))]
     else (zNs,lC n (gH n loop).2.1 loop many rest))
  else (zNs,gO n loop)
/-! ## Collapsing -/
def mS (f:Lf->Bool) (i:List Ix):Bool:=i.all fun x=>f x.Lin&&x.At.all f
def cM (f:Lf->Bool) (e:Ex):Bool:=(dI e).all fun a=>f a.Lin&&mS f a.Idx
mutual
def evS (f:Lf->Bool):St->Bool
 |.mk _ _ _ _ _ i e b=>mS f i&&evL f b&&cM f e
def evL (f:Lf->Bool):List St->Bool
 |[]=>true
 |s::r=>evS f s&&evL f r
end
def tL (a b:lr) (many:Int) (l:Lf):Bool:=decide (Int.tmod (bF l.L a) many=0)&&decide (w64 (Int.tdiv (bF l.L a) many)=bF l.L b)
def nR (n:Ns) (s:St) (outer nm:lr):Int:=
  if s.Body.length=1/\(s.Body.getD 0 zSt).Op=1 then
    (if bB nm=false then 7 else if ((!decide (nm=outer)&& !decide (nm=(s.Body.getD 0 zSt).Name))&&nS n nm)=true then 8
     else if w64 (Int.tdiv 65536 (s.Body.getD 0 zSt).Many)<s.Many then 2
     else if evL (tL outer (s.Body.getD 0 zSt).Name (s.Body.getD 0 zSt).Many) (s.Body.getD 0 zSt).Body=false then 19
     else if jV (sbT outer ⟨0,[]⟩ (s.Body.getD 0 zSt).Body)=0 then jV (sbT (s.Body.getD 0 zSt).Name (fY nm) (jU (sbT outer ⟨0,[]⟩ (s.Body.getD 0 zSt).Body))) else jV (sbT outer ⟨0,[]⟩ (s.Body.getD 0 zSt).Body)) else 19
def tX (s:St) (outer nm:lr):St:=gQ nm (w64 (s.Many*(s.Body.getD 0 zSt).Many)) s.Mark (jU (sbT (s.Body.getD 0 zSt).Name (fY nm) (jU (sbT outer ⟨0,[]⟩ (s.Body.getD 0 zSt).Body))))
def rK (n:Ns) (outer nm:lr):Ns×Int:=
 if gO n outer=0 then (if nR n (gH n outer).2.1 outer nm=0 then pL n (jK n outer) [tX (gH n outer).2.1 outer nm] else (zNs,nR n (gH n outer).2.1 outer nm)) else (zNs,gO n outer)
/-! ## The examples -/
def cpI (l:Lf):Ix:=⟨l,bs [],[]⟩
def cpB (l:Lf):St:=.mk 2 (bs [99]) 0 0 0 [cpI l] (.mk 3 (bs [97]) ⟨0,0⟩ ⟨0,0,0,0,0⟩ ⟨0,[]⟩ [cpI l] []) []
def cpT:Ty:=⟨3,0,0,0,0⟩
def cpN (b:List St):Ns:=⟨[⟨bs [97],cpT,[8],1⟩,⟨bs [99],cpT,[8],2⟩],b⟩
def vI1:Lf:=⟨0,[⟨bs [105],1⟩]⟩
def cpy (many limit:Int):Ns:=cpN [gQ (bs [105]) many 0 (if 0<limit then [sIf (ltE vI1 limit) [cpB vI1]] else [cpB vI1])]
end Go.Br
end
section
namespace Go.Br
open Go Go.Eng Go.L41
def iG (l:List lr):Prop:=l.Pairwise fun x y=>dQ x y=true
def strLt_ne {a b:lr} (h:dQ a b=true):a≠b:=by rintro rfl;rw [zWg] at h;cases h
def coeff_gt {q:lr} {l:List Mono} (h:∀m,m∈l->dQ q m.Name=true):bF l q=0:=by
 induction l with
 |nil=>rfl
 |cons x r ih=>
  rw [bF,aa (fun e=>strLt_ne (h x (dv ..)) e.symm)]
  exact ih fun m hm=>h m (au _ hm)
def zGj:∀{q:lr} {l:List Tr},lZ (some q) l=true->∀t,t∈l->dQ q t.1=true
 |_,[],_,t,h=>by cases h
 |q,x::r,h,t,ht=>by
  simp only [lZ,ae,ltO] at h
  rcases af.1 ht with rfl|ht
  ·exact h.1.2
  ·exact zJc h.1.2 (zGj h.2 t ht)
def trs_asc:∀{p:Option lr} {l:List Tr},lZ p l=true->iG (l.map (·.1))
 |_,[],_=>List.Pairwise.nil
 |p,x::r,h=>by
  simp only [lZ,ae] at h
  refine kw.2 ⟨fun y hy=>?_,trs_asc h.2⟩
  obtain ⟨t,ht,rfl⟩:=bq.1 hy
  exact zGj h.2 t ht
def hd_c (x:Mono) (r:List Mono):bF (x::r) x.Name=x.By:=by rw [bF,ab rfl]
variable {t:lr}
def tl_c {x:Mono} {r:List Mono} (h:dQ x.Name t=true):bF (x::r) t=bF r t:=by rw [bF,aa (strLt_ne h)]
def mono_wk {p:Option lr} {q:lr} {y:Mono} {s:List Mono} (h:bK p (y::s)=true) (k:dQ q y.Name=true):bK (some q) (y::s)=true:=by
 simp only [bK,ae] at h⊢
 exact ⟨⟨h.1.1,k⟩,h.2⟩
def zGt {p:Option lr} {y:Mono} {s:List Mono} (h:bK p (y::s)=true):bK (some y.Name) s=true:=by
 simp only [bK,ae] at h
 exact h.2
def zCg:∀(n:Nat) (p:Option lr) (a b:List Mono),a.length+b.length<=n->bK p a=true->bK p b=true->∀t,t∈bM a b->t.2.1=bF a t.1/\t.2.2=bF b t.1
 |_,p,[],[],_,_,_,t,ht=>by rw [zSj] at ht;cases ht
 |0,_,_::_,_,h,_,_,_,_=>by simp at h
 |0,_,[],_::_,h,_,_,_,_=>by simp at h
 |n+1,p,x::r,[],h,ha,hb,t,ht=>by
  have hn:r.length+([]:List Mono).length<=n:=by simp at h⊢;omega
  rw [zJs] at ht
  rcases af.1 ht with rfl|ht
  ·exact ⟨(hd_c x r).symm,rfl⟩
  ·have h1:=zGj (zAz n (some x.Name) r [] hn (zGt ha) rfl) t ht
   rw [tl_c h1]
   exact zCg n (some x.Name) r [] hn (zGt ha) rfl t ht
 |n+1,p,[],y::s,h,ha,hb,t,ht=>by
  have hn:([]:List Mono).length+s.length<=n:=by simp at h⊢;omega
  rw [zJr] at ht
  rcases af.1 ht with rfl|ht
  ·exact ⟨rfl,(hd_c y s).symm⟩
  ·have h1:=zGj (zAz n (some y.Name) [] s hn rfl (zGt hb)) t ht
   rw [tl_c h1]
   exact zCg n (some y.Name) [] s hn rfl (zGt hb) t ht
 |n+1,p,x::r,y::s,h,ha,hb,t,ht=>by
  have h':r.length+1+(s.length+1)<=n+1:=by simpa using h
  rw [zFz] at ht
  cases c:dQ x.Name y.Name with
  |true=>
   rw [c,ay] at ht
   have hw:=mono_wk hb c
   have hn:r.length+(y::s).length<=n:=by simp;omega
   rcases af.1 ht with rfl|ht
   ·exact ⟨(hd_c x r).symm,(coeff_gt (zGs hw)).symm⟩
   ·have h1:=zGj (zAz n (some x.Name) r (y::s) hn (zGt ha) hw) t ht
    rw [tl_c h1]
    exact zCg n (some x.Name) r (y::s) hn (zGt ha) hw t ht
  |false=>
   rw [c,az] at ht
   cases d:dQ y.Name x.Name with
   |true=>
    rw [d,ay] at ht
    have hw:=mono_wk ha d
    have hn:(x::r).length+s.length<=n:=by simp;omega
    rcases af.1 ht with rfl|ht
    ·exact ⟨(coeff_gt (zGs hw)).symm,(hd_c y s).symm⟩
    ·have h1:=zGj (zAz n (some y.Name) (x::r) s hn hw (zGt hb)) t ht
     rw [tl_c (x:=y) h1]
     exact zCg n (some y.Name) (x::r) s hn hw (zGt hb) t ht
   |false=>
    rw [d,az] at ht
    have e:=zPi c d
    have hn:r.length+s.length<=n:=by omega
    rcases af.1 ht with rfl|ht
    ·exact ⟨(hd_c x r).symm,by show y.By=bF (y::s) x.Name;rw [e];exact (hd_c y s).symm⟩
    ·have hs:bK (some x.Name) s=true:=by rw [e];exact zGt hb
     have h1:=zGj (zAz n (some x.Name) r s hn (zGt ha) hs) t ht
     rw [tl_c h1,tl_c (x:=y) (by rw [←e];exact h1)]
     exact zCg n (some x.Name) r s hn (zGt ha) hs t ht
def zIm:∀(n:Nat) (a b:List Mono),a.length+b.length<=n->∀m,m∈a∨m∈b->∃t,t∈bM a b/\t.1=m.Name
 |_,[],[],_,m,hm=>by rcases hm with hm|hm<;>cases hm
 |0,_::_,_,h,_,_=>by simp at h
 |0,[],_::_,h,_,_=>by simp at h
 |n+1,x::r,[],h,m,hm=>by
  rw [zJs]
  rcases hm with hm|hm
  ·rcases af.1 hm with rfl|hm
   ·exact ⟨_,dv ..,rfl⟩
   ·obtain ⟨t,h1,h2⟩:=zIm n r [] (by simp at h⊢;omega) m (.inl hm)
    exact ⟨t,au _ h1,h2⟩
  ·cases hm
 |n+1,[],y::s,h,m,hm=>by
  rw [zJr]
  rcases hm with hm|hm
  ·cases hm
  ·rcases af.1 hm with rfl|hm
   ·exact ⟨_,dv ..,rfl⟩
   ·obtain ⟨t,h1,h2⟩:=zIm n [] s (by simp at h⊢;omega) m (.inr hm)
    exact ⟨t,au _ h1,h2⟩
 |n+1,x::r,y::s,h,m,hm=>by
  have h':r.length+1+(s.length+1)<=n+1:=by simpa using h
  rw [zFz]
  cases c:dQ x.Name y.Name with
  |true=>
   rw [ay]
   have go:(m∈r∨m∈y::s)->∃t,t∈(x.Name,x.By,(0:Int))::bM r (y::s)/\t.1=m.Name:=fun hq=>by
    obtain ⟨t,h1,h2⟩:=zIm n r (y::s) uE m hq
    exact ⟨t,au _ h1,h2⟩
   rcases hm with hm|hm
   ·rcases af.1 hm with rfl|hm
    ·exact ⟨_,dv ..,rfl⟩
    ·exact go (.inl hm)
   ·exact go (.inr hm)
  |false=>
   rw [az]
   cases d:dQ y.Name x.Name with
   |true=>
    rw [ay]
    have go:(m∈x::r∨m∈s)->∃t,t∈(y.Name,(0:Int),y.By)::bM (x::r) s/\t.1=m.Name:=fun hq=>by
     obtain ⟨t,h1,h2⟩:=zIm n (x::r) s uE m hq
     exact ⟨t,au _ h1,h2⟩
    rcases hm with hm|hm
    ·exact go (.inl hm)
    ·rcases af.1 hm with rfl|hm
     ·exact ⟨_,dv ..,rfl⟩
     ·exact go (.inr hm)
   |false=>
    rw [az]
    have e:=zPi c d
    have go:(m∈r∨m∈s)->∃t,t∈(x.Name,x.By,y.By)::bM r s/\t.1=m.Name:=fun hq=>by
     obtain ⟨t,h1,h2⟩:=zIm n r s zA m hq
     exact ⟨t,au _ h1,h2⟩
    rcases hm with hm|hm
    ·rcases af.1 hm with rfl|hm
     ·exact ⟨_,dv ..,rfl⟩
     ·exact go (.inl hm)
    ·rcases af.1 hm with rfl|hm
     ·exact ⟨_,dv ..,e⟩
     ·exact go (.inr hm)
mutual
def pG (P:St->Prop):St->Prop
 |.mk o nm mn mk fo i e b=>P (.mk o nm mn mk fo i e b)/\gM P b
def gM (P:St->Prop):List St->Prop
 |[]=>True
 |s::r=>pG P s/\gM P r
end
def zEw {P:St->Prop} {s:St} (h:pG P s):P s/\gM P s.Body:=by cases s;rw [pG] at h;exact h
def zDo {P:St->Prop}:∀{l:List St},gM P l->∀s,s∈l->pG P s
 |[],_,s,hs=>by cases hs
 |x::r,h,s,hs=>by
  rw [gM] at h
  rcases af.1 hs with rfl|hs
  ·exact h.1
  ·exact zDo h.2 s hs
mutual
def chkS_all (B:List Bf):∀(s:St) (U sc:List lr) (here:List Int),(jB B U sc here s).E=0->pG (fun s=>∃U sc,stE B U sc s=0) s
 |.mk o nm mn mk fo i e b,U,sc,here,h=>by
  rw [jB] at h
  rw [pG]
  split at h
  ·next c=>exact ⟨⟨U,sc,c⟩,chkL_all B b _ _ _ _ h⟩
  ·next c=>exact absurd h c
def chkL_all (B:List Bf):∀(l:List St) (U sc:List lr) (way:List Int) (i:Int),(dH B U sc way i l).E=0->gM (fun s=>∃U sc,stE B U sc s=0) l
 |[],_,_,_,_,_=>by rw [gM];trivial
 |s::r,U,sc,way,i,h=>by
  rw [dH] at h
  rw [gM]
  split at h
  ·next c=>exact ⟨chkS_all B s _ _ _ c,chkL_all B r _ _ _ _ h⟩
  ·next c=>exact absurd h c
end
def zPb {n:Ns} (h:(bL n).2=0):gM (fun s=>∃U sc,stE n.Bufs U sc s=0) n.Body:=chkL_all n.Bufs n.Body [] [] [] 0 (zGi h).2.2.2
def atF_stAll {P:St->Prop}:∀{way:List Int} {l:List St} {s:St},gM P l->pG P s->(atF way l s).2=true->pG P (atF way l s).1
 |[],_,_,_,h,_=>by rw [atF];exact h
 |i::r,l,s,hl,hs,h=>by
  rw [atF] at h⊢
  by_cases c:0<=i/\i<l.length
  ·rw [ab c] at h⊢
   have h1:=zDo hl _ (zRx c)
   exact atF_stAll (zEw h1).2 h1 h
  ·rw [aa c] at h;cases h
def zZy {P:St->Prop} {l:List St} {way:List Int} (hl:gM P l) (h:(atT l way).2=true):pG P (atT l way).1:=by
 unfold atT at h⊢
 by_cases hw:way=[]
 ·rw [ab hw] at h;cases h
 ·rw [aa hw] at h⊢
  cases way with
  |nil=>exact absurd rfl hw
  |cons i r=>
   rw [atF] at h⊢
   by_cases c:0<=i/\i<l.length
   ·rw [ab c] at h⊢
    have h1:=zDo hl _ (zRx c)
    exact atF_stAll (zEw h1).2 h1 h
   ·rw [aa c] at h;cases h
/-! ## The loop that is found -/
mutual
def fndS_at (t:lr):∀(s:St) (w:List Int),tN t s=some w->(w=[]/\jP t s=true)∨(w≠[]/\∀s0,(atF w s.Body s0).2=true/\jP t (atF w s.Body s0).1=true)
 |.mk o nm mn mk fo i e b,w,h=>by
  rw [tN] at h
  split at h
  ·next c=>injection h with h;exact .inl ⟨h.symm,c⟩
  ·next c=>
   obtain ⟨j,rest,rfl,hj,h1,h2⟩:=fndL_at t b 0 w h
   refine .inr ⟨uD,fun s0=>?_⟩
   show (atF ((0+(j:Int))::rest) b s0).2=true/\jP t (atF ((0+(j:Int))::rest) b s0).1=true
   rw [atF,ab ⟨zA,zA⟩,show (0+(j:Int)).toNat=j by omega]
   exact ⟨h1,h2⟩
def fndL_at (t:lr):∀(l:List St) (i:Int) (w:List Int),pK t i l=some w->∃(j:Nat) (rest:List Int),w=(i+(j:Int))::rest/\j<l.length/\(atF rest (l.getD j zSt).Body (l.getD j zSt)).2=true/\jP t (atF rest (l.getD j zSt).Body (l.getD j zSt)).1=true
 |[],i,w,h=>by rw [pK] at h;cases h
 |s::r,i,w,h=>by
  rw [pK] at h
  cases c:tN t s with
  |some u=>
   rw [c] at h
   injection h with h
   refine ⟨0,u,by rw [←h];simp,uD,?_⟩
   show (atF u s.Body s).2=true/\jP t (atF u s.Body s).1=true
   rcases fndS_at t s u c with ⟨rfl,h1⟩|⟨_,h1⟩
   ·rw [atF];exact ⟨rfl,h1⟩
   ·exact h1 s
  |none=>
   rw [c] at h
   obtain ⟨j,rest,h1,h2,h3⟩:=fndL_at t r (i+1) w h
   refine ⟨j+1,rest,?_,uE,h3⟩
   rw [h1]
   congr 1
   omega
end
def found_at {l:List St} {w:List Int} (h:jC l t=some w):(atT l w).2=true/\jP t (atT l w).1=true:=by
 rw [zYp] at h
 obtain ⟨j,rest,rfl,hj,h1,h2⟩:=fndL_at t l 0 w h
 unfold atT
 rw [aa uD,atF,ab ⟨zA,zA⟩,show (0+(j:Int)).toNat=j by omega]
 exact ⟨h1,h2⟩
def any_hit (t:lr):∀L:List (St×List Int),L.any (sJ t)=bP (pR L) t
 |[]=>rfl
 |x::r=>by
  rw [ep,any_hit t r]
  unfold pR
  rw [cg,zCq]
  congr 1
  unfold sJ jP mX
  by_cases c:x.1.Op=1
  ·rw [ab c,zIp];simp [c,bP]
  ·rw [aa c];simp [c,bP]
def find_has (l:List St) (t:lr):(jC l t).isSome=bP (bG l) t:=by
 rw [←loopsA_L [] l 0,←any_hit]
 unfold jC mP
 rw [Option.isSome_map,bz,List.find?_isSome,fe]
/-! ## What it is -/
def zNb {B:List Bf} {U sc:List lr} {s:St} (h:stE B U sc s=0) (ho:s.Op=1):bB s.Name=true/\dU B s.Name=false/\1<=s.Many/\s.Many<=65536/\s.Fold=0/\s.Idx=[]/\s.E=zEx:=by
 have hs:dW s=true:=by
  cases c:dW s with
  |true=>rfl
  |false=>rw [stE_5 c] at h;cases h
 rw [stE_l hs ho] at h
 unfold nH at h
 by_cases c1:bB s.Name=true
 ·rw [ab c1] at h
  by_cases c2:dU B s.Name=true∨bP U s.Name=true
  ·rw [ab c2] at h;cases h
  ·rw [aa c2] at h
   by_cases c3:s.Many<1∨65536<s.Many∨s.Mark<0∨3<s.Mark
   ·rw [ab c3] at h;cases h
   ·have c4:dU B s.Name=false:=by
     cases k:dU B s.Name with
     |false=>rfl
     |true=>exact absurd (.inl k) c2
    unfold dW hY at hs
    simp only [ho,ae,aI,ao,bm,ah,aj,al,fj,pU] at hs
    obtain ⟨⟨⟨⟨⟨_,_⟩,h4⟩,h5⟩,h6⟩,_⟩:=hs
    refine ⟨c1,c4,zA,zA,?_,?_,?_⟩
    ·rcases h4 with h4|h4
     ·exact absurd h4 zB
     ·exact h4
    ·rcases h5 with h5|h5
     ·exact absurd h5 zB
     ·exact aV zA
    ·rcases h6 with h6|h6
     ·exact absurd trivial h6
     ·exact h6
 ·rw [aa c1] at h;cases h
def found_loop {n:Ns} (h:(bL n).2=0) (hf:(jC n.Body t).isSome=true):(atT n.Body (jK n t)).2=true/\(atT n.Body (jK n t)).1.Op=1/\(atT n.Body (jK n t)).1.Name=t/\dU n.Bufs t=false/\bB t=true/\1<=(atT n.Body (jK n t)).1.Many/\(atT n.Body (jK n t)).1.Many<=65536/\(atT n.Body (jK n t)).1.Fold=0/\(atT n.Body (jK n t)).1.Idx=[]/\(atT n.Body (jK n t)).1.E=zEx:=by
 obtain ⟨w,hw⟩:=fa.1 hf
 have e:jK n t=w:=by unfold jK;rw [hw];rfl
 rw [e]
 obtain ⟨h1,h2⟩:=found_at hw
 unfold jP at h2
 simp only [ae,ah] at h2
 obtain ⟨U,sc,h3⟩:=(zEw (zZy (zPb h) h1)).1
 obtain ⟨k1,k2,k3,k4,k5,k6,k7⟩:=zNb h3 h2.1
 rw [h2.2] at k1 k2
 exact ⟨h1,h2.1,h2.2,k2,k1,k3,k4,k5,k6,k7⟩
/-! ## Names that are taken -/
def scale_var {a:lr} {by_:Int} (h:bB a=true) (hb:r64 by_) (h0:by_≠0):dG (fY a) by_=(⟨0,[⟨a,by_⟩]⟩,0):=by
 have hv:fY a=⟨0,[⟨a,1⟩]⟩:=by unfold fY;rw [h];rfl
 have hl:bI (fY a)=true:=by rw [hv];unfold bI;simp [bK,h,ltO]
 unfold dG
 rw [ab hl,aa h0,hv]
 have:r64 ((⟨0,[⟨a,1⟩]⟩:Lf).K*by_)/\gJ by_ (⟨0,[⟨a,1⟩]⟩:Lf).L=true:=by
  refine ⟨by show r64 (0*by_);rw [dy];unfold r64;omega,?_⟩
  simp [gJ,hb]
 rw [ab this]
 simp [lH]
end Go.Br
end
