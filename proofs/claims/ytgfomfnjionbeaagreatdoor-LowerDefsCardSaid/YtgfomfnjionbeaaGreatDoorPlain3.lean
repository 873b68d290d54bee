/-
  Loop nests,in plain Lean: buffers,statements,and the cells that hold them.
  And what the laws need besides.
  Conditions: none.
-/
import Derived.Test.YtgfomfnjionbeaaGreatDoorPlain
import Derived.Test.YtgfomfnjionbeaaGreatDoorNames
import Derived.Test.YtgfomfnjionbeaaGreatDoorPlain2
set_option linter.unusedSimpArgs false
set_option linter.unusedVariables false
set_option linter.defProp false
section
namespace Go.Br
open Go Go.Eng Go.L41
structure Bf where
 Name:nn
 T:Ty
 Dims:List Int
 Use:Int
 deriving DecidableEq
inductive St where
 |mk (op:Int) (name:nn) (many xA fold:Int) (idx:List Ix) (ex:Ex) (body:List St)
namespace St
def Op:St->Int|mk x _ _ _ _ _ _ _=>x
def Name:St->nn|mk _ x _ _ _ _ _ _=>x
def Many:St->Int|mk _ _ x _ _ _ _ _=>x
def Mark:St->Int|mk _ _ _ x _ _ _ _=>x
def Fold:St->Int|mk _ _ _ _ x _ _ _=>x
def Idx:St->List Ix|mk _ _ _ _ _ x _ _=>x
def E:St->Ex|mk _ _ _ _ _ _ x _=>x
def Body:St->List St|mk _ _ _ _ _ _ _ x=>x
def eta (s:St):s=mk s.Op s.Name s.Many s.Mark s.Fold s.Idx s.E s.Body:=by cases s;rfl
def ind {P:St->Prop} (h:∀s:St,(∀a,a∈s.Body->P a)->P s) (s:St):P s:=
 St.rec (motive_1:=P) (motive_2:=fun l=>∀a,a∈l->P a) (fun o n m k f i e b ih=>h (mk o n m k f i e b) ih) (fun a h=>by cases h)
  (fun x l hx hl a ha=>by rcases ag.1 ha with rfl|ha;exact hx;exact hl a ha) s
end St
structure Ns where
 Bufs:List Bf
 Body:List St
def Bf.cells (b:Bf):List C:=[cS b.Name,cI b.T.Kind,cI b.T.Bits,cI b.T.Frac,cI b.T.Round,cI b.T.Over,.sl 1 (b.Dims.map fun n=>[cI n]),cI b.Use]
mutual
def St.cells:St->List C
 |.mk o n m k f i e b=>[cI o,cS n,cI m,cI k,cI f,.sl 4 (i.map Ix.cells)]++e.cs++[.sl 20 (rY b)]
def rY:List St->List (List C)
 |[]=>[]
 |s::r=>s.cells::rY r
end
def stCellsL_eq (l:List St):rY l=l.map St.cells:=by
 induction l with
 |nil=>rfl
 |cons s r ih=>rw [rY,ih];rfl
def St.cs (s:St):List C:=[cI s.Op,cS s.Name,cI s.Many,cI s.Mark,cI s.Fold,.sl 4 (s.Idx.map Ix.cells),
 cI s.E.Op,cS s.E.Name,cI s.E.Val.N,cI s.E.Val.D,cI s.E.Ty.Kind,cI s.E.Ty.Bits,cI s.E.Ty.Frac,cI s.E.Ty.Round,cI s.E.Ty.Over,cI s.E.Lin.K,.sl 2 (s.E.Lin.L.map Mono.cells),.sl 4 (s.E.Idx.map Ix.cells),.sl 13 (s.E.Args.map Ex.cells),.sl 20 (s.Body.map St.cells)]
def St.cells_eq (s:St):s.cells=s.cs:=by
 cases s;rw [St.cells,stCellsL_eq];rfl
def Ns.cells (n:Ns):List C:=[.sl 8 (n.Bufs.map Bf.cells),.sl 20 (n.Body.map St.cells)]
abbrev vBf (b:Bf):V:=.agg b.cells
abbrev vSt (s:St):V:=.agg s.cs
abbrev gJ (l:List St):V:=.c (.sl 20 (l.map St.cells))
abbrev vNs (n:Ns):V:=.agg n.cells
abbrev vIs (l:List Int):V:=.c (.sl 1 (l.map fun n=>[cI n]))
abbrev iM (l:List Bf):V:=.c (.sl 8 (l.map Bf.cells))
variable {k:Nat}
def allP_next {α:Type} {p:α->Bool} {l:List α} {x:α} (h:l[k]? =some x) (hp:(l.take k).all p=true) (hx:p x=true):(l.take (k+1)).all p=true:=by
 rw [yA h,ce,hp];simp [hx]
variable {l:List St}
def zGo {x:St} (h:l[k]? =some x):(l.map St.cells)[k]? =some x.cs:=by
 rw [getm h,St.cells_eq]
/-! ## Sizes -/
mutual
def St.wt:St->Nat
 |.mk _ _ _ _ _ i e b=>1+e.wt+i.length+fC i+bS b
def bS:List St->Nat
 |[]=>0
 |s::r=>s.wt+bS r
end
def St.wt_eq (s:St):s.wt=1+s.E.wt+s.Idx.length+fC s.Idx+bS s.Body:=by cases s;rw [St.wt];rfl
def zCi (l:List St):l.length<=bS l:=by
 induction l with
 |nil=>simp [bS]
 |cons y r ih=>rw [bS,lLc];have:=y.wt_eq;omega
def zCu {a:St} (h:a∈l):a.wt<=bS l:=by
 induction l with
 |nil=>cases h
 |cons x r ih=>
  rw [bS]
  exact v34
def St.wt_pos (s:St):1<=s.wt:=by rw [St.wt_eq];omega
def zLf:∀(a b:List St),bS (a++b)=bS a+bS b
 |[],b=>by simp [bS]
 |x::r,b=>by rw [lCa,bS,bS,zLf r b];omega
def St.body_wt (s:St):bS s.Body<s.wt:=by rw [St.wt_eq s];omega
variable {s:St}
def St.parts {B:Nat} (h:s.wt<=B):s.E.wt<=B/\s.Idx.length<=B/\fC s.Idx<=B/\s.Body.length<=B/\bS s.Body<=B:=by
 rw [St.wt_eq] at h
 have:=zCi s.Body
 omega
def rdE (s:St):Ex:=.mk 3 s.Name ⟨0,0⟩ ⟨0,0,0,0,0⟩ ⟨0,[]⟩ s.Idx []
def rdE_wt (s:St):(rdE s).wt<=s.wt+1:=by
 rw [Ex.wt_eq,St.wt_eq];simp only [rdE,Ex.Lin,Ex.Idx,Ex.Args,dX,lLn];omega
/-! ## Shapes (11.1) -/
def vA (n:Int):Bool:=decide (1<=n)
def bP:Int->List Int->Option Int
 |s,[]=>some s
 |s,n::r=>if 4096<s*n then none else bP (s*n) r
def jE (d:List Int):Int:=if 6<d.length then 2 else if d.all vA=true then (if (bP 1 d).isSome=true then 0 else 2) else 1
variable {d:List Int}
def dims_long (h:6<d.length):jE d=2:=by unfold jE;rw [ab h]
variable {n:Int}
def dims_neg (h:¬6<d.length) (hn:d[k]? =some n) (h2:n<1):jE d=1:=by
 unfold jE
 rw [aa h,aa (by rw [zYh hn (p:=vA) (by unfold vA;exact am zB)];simp)]
def dims_over (h:¬6<d.length) (h1:d.all vA=true) (h2:bP 1 d=none):jE d=2:=by
 unfold jE;rw [aa h,ab h1,h2];rfl
def dims_ok {s:Int} (h:¬6<d.length) (h1:d.all vA=true) (h2:bP 1 d=some s):jE d=0:=by
 unfold jE;rw [aa h,ab h1,h2];rfl
def size_next {s:Int} (h:d[k]? =some n) (hs:bP 1 d=bP s (d.drop k)) (h2:¬4096<s*n):bP 1 d=bP (s*n) (d.drop (k+1)):=by
 rw [hs,qJ h,bP,aa h2]
def size_over {s:Int} (h:d[k]? =some n) (hs:bP 1 d=bP s (d.drop k)) (h2:4096<s*n):bP 1 d=none:=by
 rw [hs,qJ h,bP,ab h2]
def size_done {s:Int} (hs:bP 1 d=bP s (d.drop k)) (h:¬k<d.length):bP 1 d=some s:=by
 rw [hs,kL h];rfl
def quo_lt {s:Int} (h:1<=s):Int.tdiv 4096 s<n↔4096<s*n:=by
 rw [kq zB,Int.ediv_lt_iff_lt_mul zB,Int.mul_comm]
def quo_wrap {s:Int} (h:1<=s):IntKind.i64.wrap (Int.tdiv 4096 s)=Int.tdiv 4096 s:=by
 have h1:Int.tdiv 4096 s=4096/s:=kq zB
 have h2:0<=(4096:Int)/s:=Int.ediv_nonneg zB zB
 have h3:(4096:Int)/s<=4096:=Int.ediv_le_self _ zB
 exact zJh ⟨zB,zB⟩
def quo_t {s:Int} (h:1<=s) (c:IntKind.i64.wrap (Int.tdiv 4096 s)<n):4096<s*n:=by rw [quo_wrap h] at c;exact (quo_lt h).1 c
def quo_f {s:Int} (h:1<=s) (c:¬IntKind.i64.wrap (Int.tdiv 4096 s)<n):¬4096<s*n:=by rw [quo_wrap h] at c;exact fun k=>c ((quo_lt h).2 k)
def posI_get (h:d.all vA=true) (hn:d[k]? =some n):1<=n:=by
 have:=(aT.1 h) n (qD hn)
 simpa [vA] using this
def mul_pos1 {s:Int} (h:1<=s) (h2:1<=n):1<=s*n/\n<=s*n:=by
 have h3:1*n<=s*n:=Int.mul_le_mul_of_nonneg_right h zB
 omega
def zBf:Bf:=⟨bs [],zTy,[],0⟩
def gN (l:List Bf) (s:nn):Bool:=l.any fun b=>decide (b.Name=s)
def lE:List Bf->nn->Bf
 |[],_=>zBf
 |b::r,s=>if b.Name=s then b else lE r s
variable {b:Bf}
def bufD_at {l:List Bf} {s:nn} (h:l[k]? =some b) (hb:b.Name=s):lE (l.drop k) s=b:=by rw [qJ h,lE,ab hb]
def bufD_next {l:List Bf} {s:nn} (h:l[k]? =some b) (hb:¬b.Name=s):lE (l.drop k) s=lE (l.drop (k+1)) s:=by rw [qJ h,lE,aa hb]
def hasBf_at {l:List Bf} {s:nn} (h:l[k]? =some b) (hb:b.Name=s):gN l s=true:=by
 unfold gN;rw [dm];exact ⟨b,qD h,al hb⟩
def hasBf_next {l:List Bf} {s:nn} (h:l[k]? =some b) (hp:gN (l.take k) s=false) (hb:¬b.Name=s):gN (l.take (k+1)) s=false:=by
 unfold gN at *;rw [yA h,gb,hp];simp [hb]
def bufD_no:∀{l:List Bf} {s:nn},gN l s=false->lE l s=zBf
 |[],_,_=>rfl
 |b::r,s,h=>by
  simp only [gN,ed,aC,aw] at h
  rw [lE,aa h.1];exact bufD_no h.2
def mQ (seen:List Bf) (b:Bf):Int:=
 if bB b.Name=true then (if gN seen b.Name=true then 8 else if dJ b.T=true then (if jE b.Dims=0 then (if b.Use<1∨3<b.Use then 1 else 0) else jE b.Dims) else 10) else 7
def fN:List Bf->List Bf->Int
 |_,[]=>0
 |seen,b::r=>if mQ seen b=0 then fN (seen++[b]) r else mQ seen b
variable {seen:List Bf}
def bfErr_7 (h:bB b.Name=false):mQ seen b=7:=by unfold mQ;rw [aa (by rw [h];simp)]
def bfErr_8 (h:bB b.Name=true) (h2:gN seen b.Name=true):mQ seen b=8:=by unfold mQ;rw [ab h,ab h2]
def bfErr_10 (h:bB b.Name=true) (h2:gN seen b.Name=false) (h3:dJ b.T=false):mQ seen b=10:=by unfold mQ;rw [ab h,aa (by rw [h2];simp),aa (by rw [h3];simp)]
def bfErr_d (h:bB b.Name=true) (h2:gN seen b.Name=false) (h3:dJ b.T=true) (h4:¬jE b.Dims=0):mQ seen b=jE b.Dims:=by unfold mQ;rw [ab h,aa (by rw [h2];simp),ab h3,aa h4]
def bfErr_u (h:bB b.Name=true) (h2:gN seen b.Name=false) (h3:dJ b.T=true) (h4:jE b.Dims=0) (h5:b.Use<1∨3<b.Use):mQ seen b=1:=by unfold mQ;rw [ab h,aa (by rw [h2];simp),ab h3,ab h4,ab h5]
def bfErr_0 (h:bB b.Name=true) (h2:gN seen b.Name=false) (h3:dJ b.T=true) (h4:jE b.Dims=0) (h5:¬(b.Use<1∨3<b.Use)):mQ seen b=0:=by unfold mQ;rw [ab h,aa (by rw [h2];simp),ab h3,ab h4,aa h5]
def bufsErr_next {l:List Bf} (h:l[k]? =some b) (hp:fN [] l=fN (l.take k) (l.drop k)) (hb:mQ (l.take k) b=0):fN [] l=fN (l.take (k+1)) (l.drop (k+1)):=by
 rw [hp,qJ h,fN,ab hb,yA h]
def zJe {l:List Bf} (h:l[k]? =some b) (hp:fN [] l=fN (l.take k) (l.drop k)) (hb:¬mQ (l.take k) b=0):fN [] l=mQ (l.take k) b:=by
 rw [hp,qJ h,fN,aa hb]
def bufsErr_end {l:List Bf} (hp:fN [] l=fN (l.take k) (l.drop k)) (h:¬k<l.length):fN [] l=0:=by
 rw [hp,kL h];rfl
/-! ## Depth and number of statements -/
def gM:Nat->List St->Bool
 |0,l=>l.isEmpty
 |n+1,l=>l.all fun s=>gM n s.Body
mutual
def stN:St->Nat
 |.mk _ _ _ _ _ _ _ b=>1+gD b
def gD:List St->Nat
 |[]=>0
 |s::r=>stN s+gD r
end
def sY (n:Nat) (l:List St):Bool:=gM n l
def withinG_eq (n:Nat) (l:List St):sY n l=gM n l:=rfl
def withinG_next {n:Nat} (h:l[k]? =some s) (hp:sY n (l.take k)=true) (hn:1<=n) (hs:gM (n-1) s.Body=true):sY n (l.take (k+1))=true:=by
 obtain ⟨m,rfl⟩:∃m,n=m+1:=⟨n-1,zB⟩
 exact allP_next h hp hs
def within_no {n:Nat} {x:Int} (h:l[k]? =some s) (hx:x=n) (c:(decide (x<1)|| !gM (n-1) s.Body)=true):gM n l=false:=by
 cases n with
 |zero=>cases l with
  |nil=>simp at h
  |cons a r=>rfl
 |succ n=>
  have:gM n s.Body=false:=by
   rw [aE] at c
   rcases c with c|c
   ·rw [aj] at c;omega
   ·simpa using c
  exact zYh h this
def within_yes {n:Nat} {x:Int} (hx:x=n) (c:(decide (x<1)|| !gM (n-1) s.Body)=false):1<=n/\gM (n-1) s.Body=true:=by
 rw [aC] at c
 refine ⟨?_,by simpa using c.2⟩
 have:=c.1;rw [aw] at this;omega
def stN_eq (s:St):stN s=1+gD s.Body:=by cases s;rw [stN];rfl
def zVd:∀(a b:List St),gD (a++b)=gD a+gD b
 |[],b=>by simp [gD]
 |x::r,b=>by rw [lCa,gD,gD,zVd r b];omega
def zHu:∀l:List St,l.length<=gD l
 |[]=>by simp [gD]
 |x::r=>by have:=zHu r;have:=stN_eq x;rw [gD,lLc];omega
mutual
def stN_wt:∀s:St,stN s<=s.wt
 |.mk o n m k f i e b=>by rw [stN,St.wt];have:=stsN_wt b;omega
def stsN_wt:∀l:List St,gD l<=bS l
 |[]=>by simp [gD,bS]
 |s::r=>by rw [gD,bS];have:=stN_wt s;have:=stsN_wt r;omega
end
mutual
def tK:St->Nat->Nat
 |.mk _ _ _ _ _ _ _ b,m=>nM b m b.length
def nM:List St->Nat->Nat->Nat
 |[],_,n=>n
 |s::r,m,n=>if n<=m then nM r m (n+tK s (m-n)) else n
end
def pI (l:List St) (m:Nat):Nat:=nM l m l.length
def numS_eq (s:St) (m:Nat):tK s m=pI s.Body m:=by cases s;rw [tK];rfl
mutual
def numS_le:∀(s:St) (m:Nat),tK s m<=stN s-1
 |.mk _ _ _ _ _ _ _ b,m=>by
  rw [tK,stN]
  have h1:=numL_le b m b.length
  have h2:=zHu b
  omega
def numL_le:∀(l:List St) (m n:Nat),nM l m n<=n+(gD l-l.length)
 |[],m,n=>by simp [nM]
 |s::r,m,n=>by
  rw [nM]
  have h3:=zHu r
  have h4:=stN_eq s
  split
  ·have h1:=numL_le r m (n+tK s (m-n))
   have h2:=numS_le s (m-n)
   rw [gD,lLc];omega
  ·rw [gD,lLc];omega
end
def numB_le (l:List St) (m:Nat):pI l m<=gD l:=by
 have h1:=numL_le l m l.length
 have h2:=zHu l
 unfold pI;omega
def numL_ge:∀(l:List St) (m n:Nat),n<=nM l m n
 |[],m,n=>by rw [nM];omega
 |s::r,m,n=>by
  rw [nM];split
  ·have:=numL_ge r m (n+tK s (m-n));omega
  ·omega
mutual
def numS_ok:∀(s:St) (m:Nat),tK s m<=m->tK s m=stN s-1
 |.mk _ _ _ _ _ _ _ b,m,h=>by
  rw [tK] at h⊢
  rw [stN,numL_ok b m _ h]
  have:=zHu b;omega
def numL_ok:∀(l:List St) (m n:Nat),nM l m n<=m->nM l m n=n+(gD l-l.length)
 |[],m,n,h=>by simp [nM,gD]
 |s::r,m,n,h=>by
  have h3:=zHu r
  have h4:=stN_eq s
  by_cases hn:n<=m
  ·rw [nM,ab hn] at h⊢
   have h5:=numL_ge r m (n+tK s (m-n))
   have h6:=numS_ok s (m-n) zB
   rw [numL_ok r m _ h,h6,gD,lLc];omega
  ·rw [nM,aa hn] at h;omega
end
variable {m:Nat}
def numB_ok (h:pI l m<=m):gD l=pI l m:=by
 have h2:=zHu l
 unfold pI at *
 rw [numL_ok l m _ h];omega
def num_next {n N:Nat} (h:l[k]? =some s) (hp:N=nM (l.drop k) m n) (hn:n<=m):N=nM (l.drop (k+1)) m (n+pI s.Body (m-n)):=by
 rw [hp,qJ h,nM,ab hn,numS_eq]
def num_end {n N:Nat} (hp:N=nM (l.drop k) m n) (h:l.length<=k∨m<n):n=N:=by
 rw [hp]
 by_cases hk:k<l.length
 ·obtain ⟨a,ha⟩:=qX l k hk
  rw [qJ ha,nM,aa zB]
 ·rw [kL hk,nM]
def stsN_mem (h:s∈l):stN s<=gD l:=by
 induction l with
 |nil=>cases h
 |cons x r ih=>
  rw [gD]
  exact v34
def stsN_drop (h:l[k]? =some s):gD (l.drop k)=stN s+gD (l.drop (k+1)):=by rw [qJ h,gD]
def num_sum {n:Nat} (h:l[k]? =some s) (hp:pI l m=nM (l.drop k) m n) (hn:n<=m):n+pI s.Body (m-n)<=n+gD l:=by
 have h1:=numB_le s.Body (m-n)
 have h2:gD l=gD (l.take k)+(stN s+gD (l.drop (k+1))):=by
  rw [←gD,←qJ h,←zVd,aZ]
 have:=stN_eq s
 omega
/-! ## Names of a node -/
def tO (sc:List nn) (l:Lf):Bool:=l.L.all fun m=>bQ sc m.Name
def eP (sc:List nn) (x:Ix):Bool:=tO sc x.Lin&&x.At.all (tO sc)
def pX (sc:List nn) (e:Ex):Bool:=tO sc e.Lin&&e.Idx.all (eP sc)
def nG (B:List Bf) (x:Ix):Int:=
 if x.From=bs [] then 0 else if gN B x.From=true then (if (lE B x.From).T.Kind=3 then (if (lE B x.From).Dims.length=x.At.length then 0 else 11) else 10) else 9
def rL (B:List Bf):List Ix->Int
 |[]=>0
 |x::r=>if nG B x=0 then rL B r else nG B x
def mX (B:List Bf) (sc:List nn) (e:Ex):Int:=
 if pX sc e=true then (if e.Op=3 then (if gN B e.Name=true then (if (lE B e.Name).Dims.length=e.Idx.length then rL B e.Idx else 11) else 9) else 0) else 9
def gA (B:List Bf) (sc:List nn):List Ex->Int
 |[]=>0
 |e::r=>if mX B sc e=0 then gA B sc r else mX B sc e
variable {B:List Bf} {x:Ix}
def gathE_0 (h:x.From=bs []):nG B x=0:=by unfold nG;rw [ab h]
def gathE_9 (h:¬x.From=bs []) (h1:gN B x.From=false):nG B x=9:=by unfold nG;rw [aa h,aa (by rw [h1];simp)]
def gathE_10 (h:¬x.From=bs []) (h1:gN B x.From=true) (h2:¬(lE B x.From).T.Kind=3):nG B x=10:=by unfold nG;rw [aa h,ab h1,aa h2]
def gathE_11 (h:¬x.From=bs []) (h1:gN B x.From=true) (h2:(lE B x.From).T.Kind=3) (h3:¬(lE B x.From).Dims.length=x.At.length):nG B x=11:=by unfold nG;rw [aa h,ab h1,ab h2,aa h3]
def gathE_ok (h:¬x.From=bs []) (h1:gN B x.From=true) (h2:(lE B x.From).T.Kind=3) (h3:(lE B x.From).Dims.length=x.At.length):nG B x=0:=by unfold nG;rw [aa h,ab h1,ab h2,ab h3]
def gathL_next {l:List Ix} (h:l[k]? =some x) (hx:nG B x=0):rL B (l.drop k)=rL B (l.drop (k+1)):=by rw [qJ h,rL,ab hx]
def gathL_no {l:List Ix} (h:l[k]? =some x) (hx:¬nG B x=0):rL B (l.drop k)=nG B x:=by rw [qJ h,rL,aa hx]
variable {sc:List nn} {e:Ex}
def nodeN_9 (h:pX sc e=false):mX B sc e=9:=by unfold mX;rw [aa (by rw [h];simp)]
def nodeN_o (h:pX sc e=true) (h1:¬e.Op=3):mX B sc e=0:=by unfold mX;rw [ab h,aa h1]
def nodeN_n (h:pX sc e=true) (h1:e.Op=3) (h2:gN B e.Name=false):mX B sc e=9:=by unfold mX;rw [ab h,ab h1,aa (by rw [h2];simp)]
def nodeN_r (h:pX sc e=true) (h1:e.Op=3) (h2:gN B e.Name=true) (h3:¬(lE B e.Name).Dims.length=e.Idx.length):mX B sc e=11:=by unfold mX;rw [ab h,ab h1,ab h2,aa h3]
def nodeN_g (h:pX sc e=true) (h1:e.Op=3) (h2:gN B e.Name=true) (h3:(lE B e.Name).Dims.length=e.Idx.length):mX B sc e=rL B e.Idx:=by unfold mX;rw [ab h,ab h1,ab h2,ab h3]
def zJr (B:List Bf) (sc:List nn):∀(a b:List Ex),gA B sc (a++b)=if gA B sc a=0 then gA B sc b else gA B sc a
 |[],b=>by simp [gA]
 |x::r,b=>by
  rw [lCa,gA,gA,zJr B sc r b]
  by_cases h:mX B sc x=0
  ·rw [ab h,ab h]
  ·rw [aa h,aa h,aa h]
def zRp {pre:List Ex} {x:Ex} (h:gA B sc pre=0):gA B sc (pre++[x])=mX B sc x:=by
 rw [zJr,ab h,gA,gA]
 by_cases hx:mX B sc x=0
 ·rw [ab hx,hx]
 ·rw [aa hx]
def nodesN_pre {pre suf:List Ex} {x:Ex} (h:¬gA B sc (pre++[x])=0):gA B sc (pre++x::suf)=gA B sc (pre++[x]):=by
 rw [show pre++x::suf=(pre++[x])++suf by simp,zJr,aa h]
def tyF (B:List Bf) (e:Ex) (l:List Ty):Ty×Int:=
 if e.Op=1∨e.Op=12 then (e.Ty,0) else
 if e.Op=2 then (iTy,0) else
 if e.Op=3 then ((lE B e.Name).T,0) else
 if e.Op=8 then (dP l 0,0) else
 if e.Op=16∨e.Op=17∨e.Op=18 then (zTy,0) else
 if dP l (l.length-2)=dP l (l.length-1) then (if fS e=true then (zTy,0) else (dP l (l.length-1),0)) else (zTy,10)
def zDo {l:List Ty} (h:e.Op=1∨e.Op=12):tyF B e l=(e.Ty,0):=by unfold tyF;rw [ab h]
def zDn {l:List Ty} (h:e.Op=2):tyF B e l=(iTy,0):=by unfold tyF;rw [aa zB,ab h]
def zDi {l:List Ty} (h:e.Op=3):tyF B e l=((lE B e.Name).T,0):=by unfold tyF;rw [aa zB,aa zB,ab h]
def zDm {l:List Ty} (h:e.Op=8):tyF B e l=(dP l 0,0):=by unfold tyF;rw [aa zB,aa zB,aa zB,ab h]
def zAr {l:List Ty} (h:e.Op=16∨e.Op=17∨e.Op=18):tyF B e l=(zTy,0):=by unfold tyF;rw [aa zB,aa zB,aa zB,aa zB,ab h]
abbrev mO (o:Int):Prop:=o=1∨o=12∨o=2∨o=3∨o=8∨o=16∨o=17∨o=18
def tyF_o {l:List Ty} (h:¬mO e.Op):tyF B e l=if dP l (l.length-2)=dP l (l.length-1) then (if fS e=true then (zTy,0) else (dP l (l.length-1),0)) else (zTy,10):=by
 unfold mO at h;unfold tyF;rw [aa zB,aa zB,aa zB,aa zB,aa zB]
def zAs {l:List Ty} (h:¬mO e.Op) (h2:¬dP l (l.length-2)=dP l (l.length-1)):tyF B e l=(zTy,10):=by rw [tyF_o h,aa h2]
def zDl {l:List Ty} (h:¬mO e.Op) (h2:dP l (l.length-2)=dP l (l.length-1)) (h3:fS e=true):tyF B e l=(zTy,0):=by rw [tyF_o h,ab h2,ab h3]
def zDk {l:List Ty} (h:¬mO e.Op) (h2:dP l (l.length-2)=dP l (l.length-1)) (h3:fS e=false):tyF B e l=(dP l (l.length-1),0):=by rw [tyF_o h,ab h2,aa (by rw [h3];simp)]
def tyF_zero {l:List Ty} (h:¬(tyF B e l).2=0):(tyF B e l).1=zTy:=by
 unfold tyF at h⊢
 repeat' split at h<;>first|exact absurd rfl h|skip
 all_goals simp_all
def nodeT_zero (h:¬(bR (tyF B) e).2=0):(bR (tyF B) e).1=zTy:=by
 rw [zMy] at h⊢
 split
 ·rename_i c
  rw [ab c] at h
  exact tyF_zero h
 ·rfl
def fZ (B:List Bf) (sc:List nn) (e:Ex):Ty×Int:=
 if dO e=0 then (if gA B sc (dQ e)=0 then bR (tyF B) e else (zTy,gA B sc (dQ e))) else (zTy,dO e)
def exprT_1 (h:¬dO e=0):fZ B sc e=(zTy,dO e):=by unfold fZ;rw [aa h]
def exprT_2 (h:dO e=0) (h2:¬gA B sc (dQ e)=0):fZ B sc e=(zTy,gA B sc (dQ e)):=by unfold fZ;rw [ab h,aa h2]
def exprT_3 (h:dO e=0) (h2:gA B sc (dQ e)=0):fZ B sc e=bR (tyF B) e:=by unfold fZ;rw [ab h,ab h2]
def exprT_rd (h:(fZ B sc (rdE s)).2=0):(fZ B sc (rdE s)).1=(lE B s.Name).T:=by
 by_cases h1:dO (rdE s)=0
 ·by_cases h2:gA B sc (dQ (rdE s))=0
  ·rw [exprT_3 h1 h2,zMy]
   have:bJ (tyF B) (rdE s).Args=([],0):=rfl
   rw [this,ab rfl,zDi rfl];rfl
  ·rw [exprT_2 h1 h2] at h;exact absurd h h2
 ·rw [exprT_1 h1] at h;exact absurd h h1
/-! ## Statements -/
def xF (e:Ex):Bool:=decide (e=zEx)
def rK (s:St):Bool:=decide (s.Op=2)||decide (s.Op=3)
def lK (s:St):Bool:=
 (decide (s.Op=1)||rK s||decide (s.Op=4))&& !(decide (s.Op=4)&& !decide (s.Name=bs []))&& !(!decide (s.Op=1)&&(!decide (s.Many=0)|| !decide (s.Mark=0)))&&
 !(!decide (s.Op=3)&& !decide (s.Fold=0))&& !(!rK s&&decide ((0:Int)<s.Idx.length))&& !(decide (s.Op=1)&& !xF s.E)&&(!rK s||decide ((s.Body.length:Int)=0))
def syn_1 (c:((!decide (s.Op=1)&& !(decide (s.Op=2)||decide (s.Op=3)))&& !decide (s.Op=4))=true):false=lK s:=by
 unfold lK rK
 simp only [ae,az,aC] at c
 simp only [c.1.1,c.1.2.1,c.1.2.2,c.2,Bool.or_self,bj]
def syn_2 (c:(decide (s.Op=4)&& !decide (s.Name=bs []))=true):false=lK s:=by
 exact v43
def syn_3 (c:(!decide (s.Op=1)&&(!decide (s.Many=0)|| !decide (s.Mark=0)))=true):false=lK s:=by
 exact v43
def syn_4 (c:(!decide (s.Op=3)&& !decide (s.Fold=0))=true):false=lK s:=by
 exact v43
def syn_5 (c:(!rK s&&decide ((0:Int)<s.Idx.length))=true):false=lK s:=by
 exact v43
def syn_6 (c:(decide (s.Op=1)&& !xF s.E)=true):false=lK s:=by
 exact v43
def syn_7 (c1:((!decide (s.Op=1)&& !rK s)&& !decide (s.Op=4))=false) (c2:(decide (s.Op=4)&& !decide (s.Name=bs []))=false) (c3:(!decide (s.Op=1)&&(!decide (s.Many=0)|| !decide (s.Mark=0)))=false) (c4:(!decide (s.Op=3)&& !decide (s.Fold=0))=false) (c5:(!rK s&&decide ((0:Int)<s.Idx.length))=false) (c6:(decide (s.Op=1)&& !xF s.E)=false):(!rK s||decide ((s.Body.length:Int)=0))=lK s:=by
 have h1:(decide (s.Op=1)||rK s||decide (s.Op=4))=true:=by
  revert c1;cases decide (s.Op=1)<;>cases rK s<;>cases decide (s.Op=4)<;>simp
 unfold lK
 simp only [h1,c2,c3,c4,c5,c6,cf,aQ]
def pY (B:List Bf) (U:List nn) (s:St):Int:=
 if bB s.Name=true then (if gN B s.Name=true∨bQ U s.Name=true then 8 else if s.Many<1∨65536<s.Many∨s.Mark<0∨3<s.Mark then 1 else 0) else 7
def ifE (B:List Bf) (sc:List nn) (s:St):Int:=if (fZ B sc s.E).2=0 then (if fS s.E=true then 0 else 10) else (fZ B sc s.E).2
def mH (B:List Bf) (sc:List nn) (s:St):Int:=
 if (fZ B sc (rdE s)).2=0 then (if (lE B s.Name).Use=1∨(s.Op=3/\(s.Fold<1∨4<s.Fold)) then 1 else
  if (fZ B sc s.E).2=0 then (if fS s.E=true∨¬(fZ B sc s.E).1=(lE B s.Name).T then 10 else 0) else (fZ B sc s.E).2) else (fZ B sc (rdE s)).2
def stE (B:List Bf) (U sc:List nn) (s:St):Int:=
 if lK s=true then (if s.Op=1 then pY B U s else if s.Op=4 then ifE B sc s else mH B sc s) else 5
structure Ck where
 U:List nn
 W:List Int
 E:Int
def nO (U:List nn) (s:St):List nn:=if s.Op=1 then U++[s.Name] else U
mutual
def rA (B:List Bf):List nn->List nn->List Int->St->Ck
 |U,sc,here,.mk o nm mn mk fo i e b=>if stE B U sc (.mk o nm mn mk fo i e b)=0 then gP B (nO U (.mk o nm mn mk fo i e b)) (nO sc (.mk o nm mn mk fo i e b)) here 0 b else ⟨[],here,stE B U sc (.mk o nm mn mk fo i e b)⟩
def gP (B:List Bf):List nn->List nn->List Int->Int->List St->Ck
 |U,_,_,_,[]=>⟨U,[],0⟩
 |U,sc,way,i,s::r=>if (rA B U sc (way++[i]) s).E=0 then gP B (rA B U sc (way++[i]) s).U sc way (i+1) r else rA B U sc (way++[i]) s
end
def chkS_eq (B:List Bf) (U sc:List nn) (here:List Int) (s:St):rA B U sc here s=if stE B U sc s=0 then gP B (nO U s) (nO sc s) here 0 s.Body else ⟨[],here,stE B U sc s⟩:=by cases s;rw [rA];rfl
def chkS_no {U:List nn} {here:List Int} (h:¬stE B U sc s=0):rA B U sc here s=⟨[],here,stE B U sc s⟩:=by rw [chkS_eq,aa h]
def chkS_in {U:List nn} {here:List Int} (h:stE B U sc s=0):rA B U sc here s=gP B (nO U s) (nO sc s) here 0 s.Body:=by rw [chkS_eq,ab h]
variable {way:List Int} {R:Ck}
def chkL_next {U:List nn} (h:l[k]? =some s) (hp:R=gP B U sc way k (l.drop k)) (hx:(rA B U sc (way++[(k:Int)]) s).E=0):R=gP B (rA B U sc (way++[(k:Int)]) s).U sc way ((k+1:Nat):Int) (l.drop (k+1)):=by
 rw [hp,qJ h,gP,ab hx];rfl
def zKj {U:List nn} (h:l[k]? =some s) (hp:R=gP B U sc way k (l.drop k)) (hx:¬(rA B U sc (way++[(k:Int)]) s).E=0):R=rA B U sc (way++[(k:Int)]) s:=by
 rw [hp,qJ h,gP,aa hx]
def chkL_end {U:List nn} (hp:R=gP B U sc way k (l.drop k)) (h:¬k<l.length):R=⟨U,[],0⟩:=by
 rw [hp,kL h,gP]
def chkL_ok:∀{B:List Bf} {l:List St} {U sc:List nn} {way:List Int} {i:Int},(gP B U sc way i l).E=0->(gP B U sc way i l).W=[]
 |B,[],U,sc,way,i,_=>by rw [gP]
 |B,s::r,U,sc,way,i,h=>by
  rw [gP] at h⊢
  by_cases c:(rA B U sc (way++[i]) s).E=0
  ·rw [ab c] at h⊢;exact chkL_ok h
  ·rw [aa c] at h;exact absurd h c
mutual
def chkS_len (B:List Bf):∀(s:St) (U sc:List nn) (here:List Int),(rA B U sc here s).U.length<=U.length+stN s
 |.mk o nm mn mk fo i e b,U,sc,here=>by
  rw [rA,stN]
  split
  ·have h1:=chkL_len B b (nO U (.mk o nm mn mk fo i e b)) (nO sc (.mk o nm mn mk fo i e b)) here 0
   have h2:(nO U (.mk o nm mn mk fo i e b)).length<=U.length+1:=by unfold nO;split<;>simp
   omega
  ·simp
def chkL_len (B:List Bf):∀(l:List St) (U sc:List nn) (way:List Int) (i:Int),(gP B U sc way i l).U.length<=U.length+gD l
 |[],U,sc,way,i=>by rw [gP];simp
 |s::r,U,sc,way,i=>by
  rw [gP,gD]
  have h1:=chkS_len B s U sc (way++[i])
  split
  ·have h2:=chkL_len B r (rA B U sc (way++[i]) s).U sc way (i+1)
   omega
  ·omega
end
def nextU_yes {U:List nn} (h:s.Op=1):nO U s=U++[s.Name]:=by unfold nO;rw [ab h]
def nextU_no {U:List nn} (h:¬s.Op=1):nO U s=U:=by unfold nO;rw [aa h]
def scAll_next {S:List nn} {f:Lf} {l:List Ix} (h:l[k]? =some x):((tO S f&&(l.take k).all (eP S))&&tO S x.Lin&&x.At.all (tO S))=(tO S f&&(l.take (k+1)).all (eP S)):=by
 rw [yA h,ce]
 simp only [bi,e8,ck,eP,jj]
def st10_t {c:Bool} {a b:Ty} (h:(c|| !dN [cI a.Kind,cI a.Bits,cI a.Frac,cI a.Round,cI a.Over] [cI b.Kind,cI b.Bits,cI b.Frac,cI b.Round,cI b.Over])=true):c=true∨¬a=b:=by
 rw [tyC_eq,aE] at h
 rcases h with h|h
 ·exact .inl h
 ·exact .inr (by simpa using h)
def st10_f {c:Bool} {a b:Ty} (h:(c|| !dN [cI a.Kind,cI a.Bits,cI a.Frac,cI a.Round,cI a.Over] [cI b.Kind,cI b.Bits,cI b.Frac,cI b.Round,cI b.Over])=false):¬(c=true∨¬a=b):=by
 rw [tyC_eq,aC] at h
 rw [h.1]
 rintro (k|k)
 ·cases k
 ·exact k (by simpa using h.2)
def storeE_1 (h:¬(fZ B sc (rdE s)).2=0):mH B sc s=(fZ B sc (rdE s)).2:=by unfold mH;rw [aa h]
def storeE_u (h:(fZ B sc (rdE s)).2=0) (h2:(lE B s.Name).Use=1∨(s.Op=3/\(s.Fold<1∨4<s.Fold))):mH B sc s=1:=by unfold mH;rw [ab h,ab h2]
def storeE_2 (h:(fZ B sc (rdE s)).2=0) (h2:¬((lE B s.Name).Use=1∨(s.Op=3/\(s.Fold<1∨4<s.Fold)))) (h3:¬(fZ B sc s.E).2=0):mH B sc s=(fZ B sc s.E).2:=by unfold mH;rw [ab h,aa h2,aa h3]
def storeE_10 (h:(fZ B sc (rdE s)).2=0) (h2:¬((lE B s.Name).Use=1∨(s.Op=3/\(s.Fold<1∨4<s.Fold)))) (h3:(fZ B sc s.E).2=0) (h4:fS s.E=true∨¬(fZ B sc s.E).1=(lE B s.Name).T):mH B sc s=10:=by unfold mH;rw [ab h,aa h2,ab h3,ab h4]
def storeE_0 (h:(fZ B sc (rdE s)).2=0) (h2:¬((lE B s.Name).Use=1∨(s.Op=3/\(s.Fold<1∨4<s.Fold)))) (h3:(fZ B sc s.E).2=0) (h4:¬(fS s.E=true∨¬(fZ B sc s.E).1=(lE B s.Name).T)):mH B sc s=0:=by unfold mH;rw [ab h,aa h2,ab h3,aa h4]
def loopE_7 {U:List nn} (h:bB s.Name=false):pY B U s=7:=by unfold pY;rw [aa (by rw [h];simp)]
def loopE_8 {U:List nn} (h:bB s.Name=true) (h2:gN B s.Name=true∨bQ U s.Name=true):pY B U s=8:=by unfold pY;rw [ab h,ab h2]
def loopE_1 {U:List nn} (h:bB s.Name=true) (h2:¬(gN B s.Name=true∨bQ U s.Name=true)) (h3:s.Many<1∨65536<s.Many∨s.Mark<0∨3<s.Mark):pY B U s=1:=by unfold pY;rw [ab h,aa h2,ab h3]
def loopE_0 {U:List nn} (h:bB s.Name=true) (h2:¬(gN B s.Name=true∨bQ U s.Name=true)) (h3:¬(s.Many<1∨65536<s.Many∨s.Mark<0∨3<s.Mark)):pY B U s=0:=by unfold pY;rw [ab h,aa h2,aa h3]
def ifE_x (h:¬(fZ B sc s.E).2=0):ifE B sc s=(fZ B sc s.E).2:=by unfold ifE;rw [aa h]
def ifE_10 (h:(fZ B sc s.E).2=0) (h2:fS s.E=false):ifE B sc s=10:=by unfold ifE;rw [ab h,aa (by rw [h2];simp)]
def ifE_0 (h:(fZ B sc s.E).2=0) (h2:fS s.E=true):ifE B sc s=0:=by unfold ifE;rw [ab h,ab h2]
def stE_5 {U:List nn} (h:lK s=false):stE B U sc s=5:=by unfold stE;rw [aa (by rw [h];simp)]
def stE_l {U:List nn} (h:lK s=true) (h2:s.Op=1):stE B U sc s=pY B U s:=by unfold stE;rw [ab h,ab h2]
def stE_i {U:List nn} (h:lK s=true) (h2:s.Op=4):stE B U sc s=ifE B sc s:=by unfold stE;rw [ab h,aa zB,ab h2]
def stE_s {U:List nn} (h:lK s=true) (h2:¬s.Op=1) (h3:¬s.Op=4):stE B U sc s=mH B sc s:=by unfold stE;rw [ab h,aa h2,aa h3]
def jX (n:Ns):List Int×Int:=
 if gM 40 n.Body=true then (if 2000<pI n.Body 2000∨128<n.Bufs.length then ([],2) else if fN [] n.Bufs=0 then ((gP n.Bufs [] [] [] 0 n.Body).W,(gP n.Bufs [] [] [] 0 n.Body).E) else ([],fN [] n.Bufs)) else ([],13)
def validN_13 {n:Ns} (h:gM 40 n.Body=false):jX n=([],13):=by unfold jX;rw [aa (by rw [h];simp)]
def validN_2 {n:Ns} (h:gM 40 n.Body=true) (h2:2000<pI n.Body 2000∨128<n.Bufs.length):jX n=([],2):=by unfold jX;rw [ab h,ab h2]
def validN_b {n:Ns} (h:gM 40 n.Body=true) (h2:¬(2000<pI n.Body 2000∨128<n.Bufs.length)) (h3:¬fN [] n.Bufs=0):jX n=([],fN [] n.Bufs):=by unfold jX;rw [ab h,aa h2,aa h3]
def validN_c {n:Ns} (h:gM 40 n.Body=true) (h2:¬(2000<pI n.Body 2000∨128<n.Bufs.length)) (h3:fN [] n.Bufs=0):jX n=((gP n.Bufs [] [] [] 0 n.Body).W,(gP n.Bufs [] [] [] 0 n.Body).E):=by unfold jX;rw [ab h,aa h2,ab h3]
structure Ns.Ok (n:Ns):Prop where
 bufs:n.Bufs.length<=4294967296
 dims:∀b,b∈n.Bufs->b.Dims.length<=17592186044416
 body:bS n.Body<=536870912
def eB (i:List Ix):Ex:=.mk 0 (bs []) ⟨0,0⟩ ⟨0,0,0,0,0⟩ ⟨0,[]⟩ i []
def idxE_wt (i:List Ix):(eB i).wt=1+i.length+fC i:=by
 rw [Ex.wt_eq];simp only [eB,Ex.Lin,Ex.Idx,Ex.Args,dX,lLn];omega
mutual
def sH:St->Nat->Nat
 |.mk _ _ _ _ _ _ _ b,m=>lP b m b.length
def lP:List St->Nat->Nat->Nat
 |[],_,n=>n
 |s::r,m,n=>if n<=m then lP r m (n+gW s.E m+gW (eB s.Idx) m+sH s (m-n)) else n
end
def vN (l:List St) (m:Nat):Nat:=lP l m l.length
def weighSs_ge:∀(l:List St) (m n:Nat),n<=lP l m n
 |[],m,n=>by rw [lP];omega
 |s::r,m,n=>by
  rw [lP];split
  ·have:=weighSs_ge r m (n+gW s.E m+gW (eB s.Idx) m+sH s (m-n));omega
  ·omega
mutual
def weighS_wt:∀(s:St) (m:Nat),sH s m<=m->bS s.Body<=sH s m
 |.mk _ _ _ _ _ _ _ b,m,h=>by
  rw [sH] at h⊢
  have:=zQq b m _ h
  have:=zCi b
  simp only [St.Body];omega
def zQq:∀(l:List St) (m n:Nat),lP l m n<=m->n+(bS l-l.length)<=lP l m n
 |[],m,n,h=>by simp [lP,bS]
 |s::r,m,n,h=>by
  by_cases hn:n<=m
  ·rw [lP,ab hn] at h⊢
   have h1:=weighSs_ge r m (n+gW s.E m+gW (eB s.Idx) m+sH s (m-n))
   have h2:=zQq r m _ h
   have h3:=zOp s.E m zB
   have h4:=zOp (eB s.Idx) m zB
   have h5:=weighS_wt s (m-n) zB
   have h6:=zCi r
   rw [idxE_wt] at h4
   rw [bS,lLc,St.wt_eq];omega
  ·rw [lP,aa hn] at h;omega
end
def weighB_wt (h:vN l m<=m):bS l<=vN l m:=by
 unfold vN at *
 have:=zQq l m _ h
 have:=zCi l
 omega
mutual
def St.fit:St->Prop
 |.mk _ _ _ _ _ i e b=>i.length<=140737488355328/\(∀x,x∈i->x.fit)/\e.fit/\b.length<=140737488355328/\iC b
def iC:List St->Prop
 |[]=>True
 |s::r=>s.fit/\iC r
end
def St.fit_eq (h:s.fit):s.Idx.length<=140737488355328/\(∀x,x∈s.Idx->x.fit)/\s.E.fit/\s.Body.length<=140737488355328/\iC s.Body:=by
 cases s with
 |mk o n m k f i e b=>rw [St.fit] at h;exact h
structure Ns.Fit (n:Ns):Prop where
 bufs:n.Bufs.length<=140737488355328
 dims:∀b,b∈n.Bufs->b.Dims.length<=17592186044416
 len:n.Body.length<=140737488355328
 body:iC n.Body
def Ns.Fit.ok {n:Ns} (h:n.Fit) (hm:m<=5000) (hb:n.Bufs.length<=150) (hw:vN n.Body m<=m):n.Ok:=
 ⟨zB,h.dims,by have:=weighB_wt hw;omega⟩
/-! ## For the reference's check -/
structure Bd where
 Name:nn
 Val:Int
 deriving DecidableEq
def Bd.cells (x:Bd):List C:=[cS x.Name,cI x.Val]
end Go.Br
end
section
namespace Go.L41
open Go Go.Eng
structure Lifetime where
 Name:nn
 From:Int
 To:Int
 Size:Int
def Lifetime.cells (x:Lifetime):List C:=[cS x.Name,cI x.From,cI x.To,cI x.Size]
abbrev vL (x:Lifetime):V:=.agg x.cells
def cZ (a b:Lifetime):Bool:=decide (a.From<=b.To)&&decide (b.From<=a.To)
def eT (p:Int) (y:Lifetime):Bool:=decide (y.From<=p)&&decide (p<=y.To)
def cnt (l:List Lifetime) (p:Int):Int:=((l.filter (eT p)).length:Int)
def cnt_le (l:List Lifetime) (p:Int):0<=cnt l p/\cnt l p<=l.length:=by
 unfold cnt
 have:=dt (eT p) l
 omega
def iL (l:List Lifetime) (x:Lifetime) (j:Nat):Bool:=(l.take j).all fun y=>cZ x y
def iK (l:List Lifetime) (k:Nat):Bool:=(List.range k).all fun i=>iL l (l.getD i ⟨ByteArray.empty,0,0,0⟩) i
def pair_all {l:List Lifetime} (h:iK l l.length=true) {i j:Nat} {x y:Lifetime} (hi:l[i]? =some x) (hj:l[j]? =some y) (hij:j<i):cZ x y=true:=by
 have hlt:=(af.1 hi).1
 unfold iK at h
 rw [lAe] at h
 have h1:=h i (cr.2 hlt)
 have e:l.getD i ⟨ByteArray.empty,0,0,0⟩=x:=by simp [List.getD,hi]
 rw [e] at h1
 unfold iL at h1
 rw [lAe] at h1
 have hjl:=(af.1 hj).1
 exact h1 y (ku.2 ⟨j,zB,(af.1 hj).2⟩)
end Go.L41
end
section
namespace Go.Br
open Go Go.Eng Go.L41
structure Sp where
 From:Int
 To:Int
/-! ## Statements in preorder,with their paths -/
mutual
def mSt (f:Lf->Lf×Int) (g:nn->nn):St->Except Int St
 |.mk o nm mn mk fo i e b=>match dM f i with
  |.error y=>.error y
  |.ok i'=>match mEx f e with
   |.error y=>.error y
   |.ok e'=>match gS f g b with
    |.error y=>.error y
    |.ok b'=>.ok (.mk o (if o=1 then g nm else nm) mn mk fo i' e' b')
def gS (f:Lf->Lf×Int) (g:nn->nn):List St->Except Int (List St)
 |[]=>.ok []
 |s::r=>match mSt f g s with
  |.error y=>.error y
  |.ok s'=>match gS f g r with
   |.error y=>.error y
   |.ok r'=>.ok (s'::r')
end
def mSt_eq (f:Lf->Lf×Int) (g:nn->nn) (s:St):mSt f g s=match dM f s.Idx with
  |.error y=>.error y
  |.ok i'=>match mEx f s.E with
   |.error y=>.error y
   |.ok e'=>match gS f g s.Body with
    |.error y=>.error y
    |.ok b'=>.ok (.mk s.Op (if s.Op=1 then g s.Name else s.Name) s.Many s.Mark s.Fold i' e' b'):=by cases s;rw [mSt];rfl
variable {f:Lf->Lf×Int} {g:nn->nn} {s:St} {c:Int}
def mSt_e1 (h:dM f s.Idx=.error c):mSt f g s=.error c:=by rw [mSt_eq,h]
variable {i:List Ix}
def mSt_e2 (h:dM f s.Idx=.ok i) (h2:mEx f s.E=.error c):mSt f g s=.error c:=by rw [mSt_eq,h];simp only [h2]
variable {e:Ex}
def mSt_e3 (h:dM f s.Idx=.ok i) (h2:mEx f s.E=.ok e) (h3:gS f g s.Body=.error c):mSt f g s=.error c:=by rw [mSt_eq,h];simp only [h2,h3]
def mSt_ok {b:List St} (h:dM f s.Idx=.ok i) (h2:mEx f s.E=.ok e) (h3:gS f g s.Body=.ok b):mSt f g s=.ok (.mk s.Op (if s.Op=1 then g s.Name else s.Name) s.Many s.Mark s.Fold i e b):=by rw [mSt_eq,h];simp only [h2,h3]
mutual
def mSt_ne {f:Lf->Lf×Int} {g:nn->nn}:∀s:St,mSt f g s≠ .error 0
 |.mk o nm mn mk fo i e b=>by
  rw [mSt]
  cases h1:dM f i with
  |error y=>intro h;cases h;exact mIxs_ne h1
  |ok a=>
   cases h2:mEx f e with
   |error y=>intro h;simp only at h;cases h;exact mEx_ne e h2
   |ok a=>
    cases h3:gS f g b with
    |error y=>intro h;simp only at h;cases h;exact mSts_ne b h3
    |ok a=>simp
def mSts_ne {f:Lf->Lf×Int} {g:nn->nn}:∀l:List St,gS f g l≠ .error 0
 |[]=>by simp [gS]
 |x::r=>by
  rw [gS]
  cases h1:mSt f g x with
  |error y=>intro h;cases h;exact mSt_ne x h1
  |ok a=>
   cases h2:gS f g r with
   |error y=>intro h;simp only at h;cases h;exact mSts_ne r h2
   |ok a=>simp
end
def eW:Except Int (List St)->List St
 |.ok l=>l
 |.error _=>[]
variable {l done:List St} {k:Nat} {x:St}
def mSts_next {y:St} (h:l[k]? =some x) (hp:gS f g l=bW done (gS f g (l.drop k))) (hx:mSt f g x=.ok y):gS f g l=bW (done++[y]) (gS f g (l.drop (k+1))):=by
 rw [hp,qJ h,gS,hx]
 cases gS f g (l.drop (k+1))<;>simp [bW,lZ]
def zRt (h:l[k]? =some x) (hp:gS f g l=bW done (gS f g (l.drop k))) (hx:mSt f g x=.error c):gS f g l=.error c:=by
 rw [hp,qJ h,gS,hx];rfl
def mSts_end (hp:gS f g l=bW done (gS f g (l.drop k))) (h:¬k<l.length):gS f g l=.ok done:=by
 rw [hp,kL h];simp [gS,bW,lZ]
mutual
def mSt_id:∀s:St,mSt idF (fun x=>x) s=.ok s
 |.mk o nm mn mk fo i e b=>by
  rw [mSt,mIxs_id,mEx_id];simp only [mSts_id b]
  by_cases h:o=1
  ·rw [ab h]
  ·rw [aa h]
def mSts_id:∀l:List St,gS idF (fun x=>x) l=.ok l
 |[]=>by rw [gS]
 |x::r=>by rw [gS,mSt_id x,mSts_id r]
end
def xB (P:Lf->Prop) (i:List Ix):Prop:=∀x,x∈i->P x.Lin/\∀l,l∈x.At->P l
mutual
def St.allF (P:Lf->Prop):St->Prop
 |.mk _ _ _ _ _ i e b=>xB P i/\e.allF P/\pQ P b
def pQ (P:Lf->Prop):List St->Prop
 |[]=>True
 |s::r=>s.allF P/\pQ P r
end
def St.allF_eq {P:Lf->Prop} (h:s.allF P):xB P s.Idx/\s.E.allF P/\pQ P s.Body:=by cases s;rw [St.allF] at h;exact h
def zQp {P:Lf->Prop}:∀{l:List St},pQ P l->∀s,s∈l->s.allF P
 |[],_,s,hs=>by cases hs
 |x::r,h,s,hs=>by
  rw [pQ] at h
  rcases ag.1 hs with rfl|hs
  ·exact h.1
  ·exact zQp h.2 s hs
/-! ## Sets of names -/
/-! ## One form: a name for a name -/
def vrL (t:nn):Lf:=⟨0,[⟨t,1⟩]⟩
variable {t:nn}
def vrL_ok (h:bB t=true):bG (vrL t)=true:=by show (bB t&&_&&_&&_)=true;rw [h];rfl
def mW (f t:nn) (l:Lf):Lf:=if (bO l f (vrL t)).2=0 then (bO l f (vrL t)).1 else l
def zLy:∀(n:Nat) (a b:List Mono),a.length+b.length<=n->(∀x,x∈a->∀y,y∈b->x.Name≠y.Name)->∀t,t∈bE a b↔(∃m,m∈a/\t=(m.Name,m.By,0))∨∃m,m∈b/\t=(m.Name,0,m.By)
 |_,[],[],_,_,t=>by rw [zGv];simp
 |0,_::_,_,h,_,_=>by simp at h
 |0,[],_::_,h,_,_=>by simp at h
 |n+1,x::r,[],h,hd,t=>by
  rw [zFo,lMc,zLy n r [] (by simp at h⊢;omega) (fun _ _ _ hy=>by cases hy) t]
  simp
 |n+1,[],y::s,h,hd,t=>by
  rw [zFn,lMc,zLy n [] s (by simp at h⊢;omega) (fun _ hx=>by cases hx) t]
  simp
 |n+1,x::r,y::s,h,hd,t=>by
  rw [zCs]
  cases h1:bF x.Name y.Name with
  |true=>
   rw [aD,lMc,zLy n r (y::s) (by simp at h⊢;omega) (fun a ha b hb=>hd a (by simp [ha]) b hb) t]
   simp only [lMc,mz,or_assoc]
  |false=>
   rw [av]
   cases h2:bF y.Name x.Name with
   |true=>
    rw [aD,lMc,zLy n (x::r) s (by simp at h⊢;omega) (fun a ha b hb=>hd a ha b (by simp [hb])) t]
    simp only [lMc,mz]
    constructor
    ·rintro (h|h|h)
     ·exact .inr (.inl h)
     ·exact .inl h
     ·exact .inr (.inr h)
    ·rintro (h|h|h)
     ·exact .inr (.inl h)
     ·exact .inl h
     ·exact .inr (.inr h)
   |false=>exact absurd (zBr h1 h2) (hd x uF y uF)
def sum_mem {ts:List Tr} {m:Mono}:m∈lI ts↔∃u,u∈ts/\w64 (trV u)≠0/\m=⟨u.1,w64 (trV u)⟩:=by
 unfold lI
 rw [ip]
 constructor
 ·rintro ⟨u,hu,e⟩
  by_cases c:w64 (trV u)=0
  ·rw [ab c] at e;cases e
  ·rw [aa c] at e;injection e with e;exact ⟨u,hu,c,e.symm⟩
 ·rintro ⟨u,hu,c,e⟩
  exact ⟨u,hu,by rw [aa c,e]⟩
def ren_sum {a:List Mono} {b:Int} (ha:∀m,m∈a->m.Name≠t/\m.By≠0/\r64 m.By) (hb:b≠0) (hr:r64 b):
  (mB b (bE a [⟨t,1⟩])).all sO=true/\∀m,m∈lI (mB b (bE a [⟨t,1⟩]))↔m∈a∨m=⟨t,b⟩:=by
 have key:∀u,u∈mB b (bE a [⟨t,1⟩])↔(∃m,m∈a/\u=(m.Name,m.By,0))∨u=(t,0,b):=by
  intro u
  unfold mB
  rw [aX]
  have hm:=zLy _ a [⟨t,1⟩] (aA _) (fun x hx y hy=>by
   rw [aR] at hy;subst hy;exact (ha x hx).1)
  constructor
  ·rintro ⟨v,hv,rfl⟩
   rcases (hm v).1 hv with ⟨m,h1,rfl⟩|⟨m,h1,rfl⟩
   ·exact .inl ⟨m,h1,uF⟩
   ·rw [aR] at h1;subst h1;exact .inr uF
  ·rintro (⟨m,h1,rfl⟩|rfl)
   ·exact ⟨(m.Name,m.By,0),(hm _).2 (.inl ⟨m,h1,rfl⟩),uF⟩
   ·exact ⟨(t,0,1),(hm _).2 (.inr ⟨_,aR.2 rfl,rfl⟩),uF⟩
 have v1:∀m:Mono,trV (m.Name,m.By,0)=m.By:=fun m=>by simp [trV]
 have v2:trV (t,0,b)=b:=by simp [trV]
 constructor
 ·rw [lAe]
  intro u hu
  unfold sO
  rcases (key u).1 hu with ⟨m,h1,rfl⟩|rfl
  ·rw [v1];exact al (ha m h1).2.2
  ·rw [v2];exact al hr
 ·intro m
  rw [sum_mem]
  constructor
  ·rintro ⟨u,hu,h1,rfl⟩
   rcases (key u).1 hu with ⟨x,h2,rfl⟩|rfl
   ·rw [v1,zIo (ha x h2).2.2];exact .inl h2
   ·rw [v2,zIo hr];exact .inr rfl
  ·rintro (h1|rfl)
   ·exact ⟨_,(key _).2 (.inl ⟨m,h1,rfl⟩),by rw [v1,zIo (ha m h1).2.2];exact (ha m h1).2.1,by rw [v1,zIo (ha m h1).2.2]⟩
   ·exact ⟨_,(key _).2 (.inr rfl),by rw [v2,zIo hr];exact hb,by rw [v2,zIo hr]⟩
def monos_uniq:∀{p:Option nn} {l:List Mono},bM p l=true->∀x,x∈l->∀y,y∈l->x.Name=y.Name->x=y
 |_,[],_,x,hx,_,_,_=>by cases hx
 |p,z::r,h,x,hx,y,hy,e=>by
  simp only [bM,ae] at h
  have haft:=zHg h.2
  rcases ag.1 hx with e1|hx1
  ·rcases ag.1 hy with e2|hy1
   ·rw [e1,e2]
   ·have:=haft y hy1;rw [←e,e1,zCj] at this;cases this
  ·rcases ag.1 hy with e2|hy1
   ·have:=haft x hx1;rw [e,e2,zCj] at this;cases this
   ·exact monos_uniq h.2 x hx1 y hy1 e
def softR_form {l:Lf} {f:nn} (h1:bG l=true) (hf:bB f=true) (ht:bB t=true) (hr:l.rng) (hn:¬eC l t):
  (mW f t l).K=l.K/\bG (mW f t l)=true/\(mW f t l).rng/\∀m,m∈(mW f t l).L↔(m∈l.L/\m.Name≠f)∨(m.Name=t/\⟨f,m.By⟩∈l.L):=by
 have h2:=vrL_ok ht
 by_cases c:bN l.L f=0
 ·have e:bO l f (vrL t)=(l,0):=by unfold bO;rw [ab ⟨h1,h2,hf⟩,ab c]
  have e2:mW f t l=l:=by unfold mW;rw [e];rfl
  rw [e2]
  refine ⟨rfl,h1,hr,fun m=>⟨fun hm=>.inl ⟨hm,zPr h1 c m hm⟩,?_⟩⟩
  rintro (h|⟨_,h⟩)
  ·exact h.1
  ·exact absurd rfl (zPr h1 c _ h)
 ·have hb:=zPs hr f
  obtain ⟨g1,g2⟩:=ren_sum (a:=(lS l f).L) (t:=t) (b:=bN l.L f) (fun m hm=>by
   have hm':=da.1 hm
   exact ⟨fun e=>hn ⟨m,hm'.1,e⟩,(zGt h1 m hm'.1).1,hr.2 m hm'.1⟩) c hb
  have e:bO l f (vrL t)=(⟨l.K,lI (mB (bN l.L f) (bE (lS l f).L [⟨t,1⟩]))⟩,0):=by
   exact v18
  have e2:mW f t l=⟨l.K,lI (mB (bN l.L f) (bE (lS l f).L [⟨t,1⟩]))⟩:=by unfold mW;rw [e];rfl
  have h3:=substR_ok h1 h2 hf (by rw [e])
  rw [e] at h3
  obtain ⟨m0,q1,q2,q3⟩:=lastBy_mem c
  rw [e2]
  refine ⟨rfl,h3,⟨hr.1,fun m hm=>sum_rng hm⟩,fun m=>?_⟩
  show m∈lI _↔_
  rw [g2 m]
  constructor
  ·rintro (h|rfl)
   ·have hm':=da.1 h
    exact .inl ⟨hm'.1,by simpa using hm'.2⟩
   ·refine .inr ⟨rfl,?_⟩
    have:(⟨f,bN l.L f⟩:Mono)=m0:=by cases m0;simp_all
    rw [this];exact q1
  ·rintro (⟨h,h'⟩|⟨h,h'⟩)
   ·exact .inl (da.2 ⟨h,by simpa using h'⟩)
   ·refine .inr ?_
    have:=monos_uniq h1 _ h' _ q1 q2.symm
    have e4:m.By=bN l.L f:=by rw [←q3,←this]
    cases m;simp_all
def lin_in (e:Ex):e.Lin∈dD e:=by unfold dD;simp
def ix_in {x:Ix} (h:x∈e.Idx):x.Lin∈dD e/\∀l,l∈x.At->l∈dD e:=by
 unfold dD
 refine ⟨aJ _ (dg.2 ⟨x,h,uF⟩),fun l hl=>aJ _ (dg.2 ⟨x,h,by simp [hl]⟩)⟩
def gIx_id {g:Lf->Lf} {x:Ix} (h1:g x.Lin=x.Lin) (h2:∀l,l∈x.At->g l=l):gIx g x=x:=by
 unfold gIx
 rw [h1,show x.At.map g=x.At from by
  rw [dn (g:=id) (fun l hl=>h2 l hl)];simp]
def gIxs_id {g:Lf->Lf} {l:List Ix} (h:∀x,x∈l->g x.Lin=x.Lin/\∀y,y∈x.At->g y=y):l.map (gIx g)=l:=by
 rw [show l.map (gIx g)=l.map id from dn fun x hx=>gIx_id (h x hx).1 (h x hx).2];simp
def gEx_id {g:Lf->Lf}:∀e:Ex,e.allF (fun l=>g l=l)->gEx g e=e:=by
 intro e
 induction e using Ex.ind with
 |_ e ih=>
  intro h
  have h0:∀l,l∈dD e->g l=l:=h e (by rw [zAl];simp)
  have hA:e.Args.map (gEx g)=e.Args:=by
   rw [dn (g:=id) (fun a ha=>ih a ha fun x hx l hl=>h x (by
    rw [zAl]
    refine aJ _ ?_
    have:∀l:List Ex,a∈l->x∈dQ a->x∈bV l:=by
     intro l
     induction l with
     |nil=>intro h;cases h
     |cons b r ih2=>
      intro hm hx
      rw [bV]
      rcases ag.1 hm with rfl|hm
      ·exact dy _ hx
      ·exact dh _ (ih2 hm hx)
    exact this e.Args ha hx) l hl)];simp
  rw [zSv,h0 _ (lin_in e),gIxs_id (fun x hx=>⟨h0 _ (ix_in hx).1,fun y hy=>h0 _ ((ix_in hx).2 y hy)⟩),hA]
  cases e;rfl
def gIx_gIx (g g':Lf->Lf) (x:Ix):gIx g' (gIx g x)=gIx (fun l=>g' (g l)) x:=by
 unfold gIx;simp [fq,mu]
mutual
def gEx_gEx (g g':Lf->Lf):∀e:Ex,gEx g' (gEx g e)=gEx (fun l=>g' (g l)) e
 |.mk o n v t l i a=>by
  rw [gEx,gEx,gEx,gExs_gExs g g' a,fq]
  congr 1
  exact dn fun x _=>gIx_gIx g g' x
def gExs_gExs (g g':Lf->Lf):∀l:List Ex,rI g' (rI g l)=rI (fun l=>g' (g l)) l
 |[]=>by rw [rI,rI,rI]
 |a::r=>by rw [rI,rI,rI,gEx_gEx g g' a,gExs_gExs g g' r]
end
def oA:Except Int (List Ix)->List Ix
 |.ok l=>l
 |.error _=>[]
def mIxs_0 (h:gG (dM f i)=0):∃a,dM f i=.ok a:=zXn h mIxs_ne
def mEx_0 (h:gG (mEx f e)=0):∃a,mEx f e=.ok a:=zXn h (mEx_ne e)
def mSts_0 (h:gG (gS f g l)=0):∃a,gS f g l=.ok a:=zXn h (mSts_ne l)
def err_is {α:Type} {x:Except Int α} (h:¬gG x=0):x=.error (gG x):=by
 cases x with
 |ok a=>exact absurd rfl h
 |error c=>rfl
def mIxs_err (h:¬gG (dM f i)=0):dM f i=.error (gG (dM f i)):=err_is h
def mEx_err (h:¬gG (mEx f e)=0):mEx f e=.error (gG (mEx f e)):=err_is h
def mSts_err (h:¬gG (gS f g l)=0):gS f g l=.error (gG (gS f g l)):=err_is h
def ixsAll_of {P:Lf->Prop} (h:e.allF P):xB P e.Idx:=fun x hx=>⟨Ex.allF_ix h hx,fun l hl=>Ex.allF_at h hx hl⟩
def mid_getS {A:List (List C)} (hA:A.length=k) (h:l[k]? =some x):(A++(l.drop k).map St.cells)[k]? =some x.cs:=by
 rw [zRs hA h,St.cells_eq]
mutual
def st_short {B:Nat}:∀s:St,s.wt<=B->s.allF (fun l=>l.L.length<=B)
 |.mk o nm mn mk fo i e b,h=>by
  rw [St.allF]
  rw [St.wt] at h
  refine ⟨fun x hx=>?_,fun x hx l hl=>forms_wt (aL (zJs e x hx) zB) hl,zQw b zB⟩
  have:=zDs hx
  rw [Ix.wt] at this
  exact ⟨zB,fun l hl=>by have:=zBw hl;omega⟩
def zQw {B:Nat}:∀l:List St,bS l<=B->pQ (fun l=>l.L.length<=B) l
 |[],_=>by rw [pQ];trivial
 |s::r,h=>by
  rw [bS] at h
  rw [pQ]
  exact ⟨st_short s zB,zQw r zB⟩
end
def sts_short {B:Nat} (h:bS l<=B):pQ (fun l=>l.L.length<=B) l:=zQw l h
/-! ## What renaming keeps -/
end Go.Br
end
