/-
  Loop nests,in plain Lean: buffers,statements,and the cells that hold them.
  And what the laws need besides.
  Conditions: none.
-/
import Derived.Test.YtgfomfnjionbeaaGreatDoorPlain
import Derived.Test.YtgfomfnjionbeaaGreatDoorNames
import Derived.Test.YtgfomfnjionbeaaGreatDoorPlain2
set_option linter.unusedSimpArgs false
set_option linter.unusedVariables false
set_option linter.defProp false
section
namespace Go.Br
open Go Go.Eng Go.L41
structure Bf where
 Name:nq
 T:Ty
 Dims:List Int
 Use:Int
 deriving DecidableEq
inductive St where
 |mk (op:Int) (name:nq) (many xC fold:Int) (idx:List Ix) (ex:Ex) (body:List St)
namespace St
def Op:St->Int|mk x _ _ _ _ _ _ _=>x
def Name:St->nq|mk _ x _ _ _ _ _ _=>x
def Many:St->Int|mk _ _ x _ _ _ _ _=>x
def Mark:St->Int|mk _ _ _ x _ _ _ _=>x
def Fold:St->Int|mk _ _ _ _ x _ _ _=>x
def Idx:St->List Ix|mk _ _ _ _ _ x _ _=>x
def E:St->Ex|mk _ _ _ _ _ _ x _=>x
def Body:St->List St|mk _ _ _ _ _ _ _ x=>x
def eta (s:St):s=mk s.Op s.Name s.Many s.Mark s.Fold s.Idx s.E s.Body:=by cases s;rfl
def ind {P:St->Prop} (h:∀s:St,(∀a,a∈s.Body->P a)->P s) (s:St):P s:=
 St.rec (motive_1:=P) (motive_2:=λl=>∀a,a∈l->P a) (λo n m k f i e b ih=>h (mk o n m k f i e b) ih) (λa h=>by cases h)
  (λx l hx hl a ha=>by rcases ag.1 ha with rfl|ha;exact hx;exact hl a ha) s
end St
structure Ns where
 Bufs:List Bf
 Body:List St
def Bf.cells (b:Bf):List C:=[cS b.Name,cI b.T.Kind,cI b.T.Bits,cI b.T.Frac,cI b.T.Round,cI b.T.Over,.sl 1 (b.Dims.map λn=>[cI n]),cI b.Use]
mutual
def St.cells:St->List C
 |.mk o n m k f i e b=>[cI o,cS n,cI m,cI k,cI f,.sl 4 (i.map Ix.cells)]++e.cs++[.sl 20 (sD b)]
def sD:List St->List (List C)
 |[]=>[]
 |s::r=>s.cells::sD r
end
def GC (l:List St):sD l=l.map St.cells:=by
 induction l with
 |nil=>rfl
 |cons s r ih=>rw [sD,ih];rfl
def St.cs (s:St):List C:=[cI s.Op,cS s.Name,cI s.Many,cI s.Mark,cI s.Fold,.sl 4 (s.Idx.map Ix.cells),
 cI s.E.Op,cS s.E.Name,cI s.E.Val.N,cI s.E.Val.D,cI s.E.Ty.Kind,cI s.E.Ty.Bits,cI s.E.Ty.Frac,cI s.E.Ty.Round,cI s.E.Ty.Over,cI s.E.Lin.K,.sl 2 (s.E.Lin.L.map Mono.cells),.sl 4 (s.E.Idx.map Ix.cells),.sl 13 (s.E.Args.map Ex.cells),.sl 20 (s.Body.map St.cells)]
def St.cells_eq (s:St):s.cells=s.cs:=by
 cases s;rw [St.cells,GC];rfl
def Ns.cells (n:Ns):List C:=[.sl 8 (n.Bufs.map Bf.cells),.sl 20 (n.Body.map St.cells)]
abbrev ZA (b:Bf):V:=.agg b.cells
abbrev GT (s:St):V:=.agg s.cs
abbrev fL (l:List St):V:=.c (.sl 20 (l.map St.cells))
abbrev va (n:Ns):V:=.agg n.cells
abbrev ss (l:List Int):V:=.c (.sl 1 (l.map λn=>[cI n]))
abbrev iO (l:List Bf):V:=.c (.sl 8 (l.map Bf.cells))
variable {k:Nat}
def zNp {α:Type} {p:α->Bool} {l:List α} {x:α} (h:l[k]? =some x) (hp:(l.take k).all p=true) (hx:p x=true):(l.take (k+1)).all p=true:=by
 rw [yB h,cj,hp];simp [hx]
variable {l:List St}
def ta {x:St} (h:l[k]? =some x):(l.map St.cells)[k]? =some x.cs:=by
 rw [oI h,St.cells_eq]
/-! ## Sizes -/
mutual
def St.wt:St->Nat
 |.mk _ _ _ _ _ i e b=>1+e.wt+i.length+dI i+bR b
def bR:List St->Nat
 |[]=>0
 |s::r=>s.wt+bR r
end
def St.wt_eq (s:St):s.wt=1+s.E.wt+s.Idx.length+dI s.Idx+bR s.Body:=by cases s;rw [St.wt];rfl
def G9 (l:List St):l.length<=bR l:=by
 induction l with
 |nil=>simp [bR]
 |cons y r ih=>rw [bR,pw];have:=y.wt_eq;omega
def Og {a:St} (h:a∈l):a.wt<=bR l:=by
 induction l with
 |nil=>cases h
 |cons x r ih=>
  rw [bR]
  exact v43
def St.wt_pos (s:St):1<=s.wt:=by rw [St.wt_eq];omega
def zLy:∀(a b:List St),bR (a++b)=bR a+bR b
 |[],b=>by simp [bR]
 |x::r,b=>by rw [xn,bR,bR,zLy r b];omega
def St.body_wt (s:St):bR s.Body<s.wt:=by rw [St.wt_eq s];omega
variable {s:St}
def St.parts {B:Nat} (h:s.wt<=B):s.E.wt<=B/\s.Idx.length<=B/\dI s.Idx<=B/\s.Body.length<=B/\bR s.Body<=B:=by
 rw [St.wt_eq] at h
 have:=G9 s.Body
 omega
def D7 (s:St):Ex:=.mk 3 s.Name ⟨0,0⟩ ⟨0,0,0,0,0⟩ ⟨0,[]⟩ s.Idx []
def Q3 (s:St):(D7 s).wt<=s.wt+1:=by
 rw [Ex.wt_eq,St.wt_eq];simp only [D7,Ex.Lin,Ex.Idx,Ex.Args,dX,qw];omega
/-! ## Shapes (11.1) -/
def sM (n:Int):Bool:=decide (1<=n)
def bM:Int->List Int->Option Int
 |s,[]=>some s
 |s,n::r=>if 4096<s*n then none else bM (s*n) r
def gZ (d:List Int):Int:=if 6<d.length then 2 else if d.all sM=true then (if (bM 1 d).isSome=true then 0 else 2) else 1
variable {d:List Int}
def AW (h:6<d.length):gZ d=2:=by unfold gZ;rw [ab h]
variable {n:Int}
def EH (h:¬6<d.length) (hn:d[k]? =some n) (h2:n<1):gZ d=1:=by
 unfold gZ
 rw [aa h,aa (by rw [VY hn (p:=sM) (by unfold sM;exact am zB)];simp)]
def qAb (h:¬6<d.length) (h1:d.all sM=true) (h2:bM 1 d=none):gZ d=2:=by
 unfold gZ;rw [aa h,ab h1,h2];rfl
def Kg {s:Int} (h:¬6<d.length) (h1:d.all sM=true) (h2:bM 1 d=some s):gZ d=0:=by
 unfold gZ;rw [aa h,ab h1,h2];rfl
def BN {s:Int} (h:d[k]? =some n) (hs:bM 1 d=bM s (d.drop k)) (h2:¬4096<s*n):bM 1 d=bM (s*n) (d.drop (k+1)):=by
 rw [hs,qN h,bM,aa h2]
def zXm {s:Int} (h:d[k]? =some n) (hs:bM 1 d=bM s (d.drop k)) (h2:4096<s*n):bM 1 d=none:=by
 rw [hs,qN h,bM,ab h2]
def BM {s:Int} (hs:bM 1 d=bM s (d.drop k)) (h:¬k<d.length):bM 1 d=some s:=by
 rw [hs,kN h];rfl
def Q2 {s:Int} (h:1<=s):Int.tdiv 4096 s<n↔4096<s*n:=by
 rw [kv zB,Int.ediv_lt_iff_lt_mul zB,Int.mul_comm]
def FW {s:Int} (h:1<=s):IntKind.i64.wrap (Int.tdiv 4096 s)=Int.tdiv 4096 s:=by
 have h1:Int.tdiv 4096 s=4096/s:=kv zB
 have h2:0<=(4096:Int)/s:=Int.ediv_nonneg zB zB
 have h3:(4096:Int)/s<=4096:=Int.ediv_le_self _ zB
 exact VO ⟨zB,zB⟩
def quo_t {s:Int} (h:1<=s) (c:IntKind.i64.wrap (Int.tdiv 4096 s)<n):4096<s*n:=by rw [FW h] at c;exact (Q2 h).1 c
def quo_f {s:Int} (h:1<=s) (c:¬IntKind.i64.wrap (Int.tdiv 4096 s)<n):¬4096<s*n:=by rw [FW h] at c;exact λk=>c ((Q2 h).2 k)
def zNv (h:d.all sM=true) (hn:d[k]? =some n):1<=n:=by
 have:=(aT.1 h) n (qD hn)
 simpa [sM] using this
def zQv {s:Int} (h:1<=s) (h2:1<=n):1<=s*n/\n<=s*n:=by
 have h3:1*n<=s*n:=Int.mul_le_mul_of_nonneg_right h zB
 omega
def zBf:Bf:=⟨bs [],px,[],0⟩
def gB (l:List Bf) (s:nq):Bool:=l.any λb=>decide (b.Name=s)
def jK:List Bf->nq->Bf
 |[],_=>zBf
 |b::r,s=>if b.Name=s then b else jK r s
variable {b:Bf}
def JN {l:List Bf} {s:nq} (h:l[k]? =some b) (hb:b.Name=s):jK (l.drop k) s=b:=by rw [qN h,jK,ab hb]
def AN {l:List Bf} {s:nq} (h:l[k]? =some b) (hb:¬b.Name=s):jK (l.drop k) s=jK (l.drop (k+1)) s:=by rw [qN h,jK,aa hb]
def xf {l:List Bf} {s:nq} (h:l[k]? =some b) (hb:b.Name=s):gB l s=true:=by
 unfold gB;rw [cn];exact ⟨b,qD h,al hb⟩
def zTo {l:List Bf} {s:nq} (h:l[k]? =some b) (hp:gB (l.take k) s=false) (hb:¬b.Name=s):gB (l.take (k+1)) s=false:=by
 unfold gB at *;rw [yB h,fj,hp];simp [hb]
def PK {l:List Bf} {j:Nat} {s:nq} (h:l[j]? =some b) (hj:j<k) (hb:b.Name=s):gB (l.take k) s=true:=by
 have:(l.take k)[j]? =some b:=by rw [az];simp [hj,h]
 exact xf this hb
def JO:∀{l:List Bf} {s:nq},gB l s=false->jK l s=zBf
 |[],_,_=>rfl
 |b::r,s,h=>by
  simp only [gB,ef,ax,ao] at h
  rw [jK,aa h.1];exact JO h.2
def nA (seen:List Bf) (b:Bf):Int:=
 if bB b.Name=true then (if gB seen b.Name=true then 8 else if dO b.T=true then (if gZ b.Dims=0 then (if b.Use<1∨3<b.Use then 1 else 0) else gZ b.Dims) else 10) else 7
def fF:List Bf->List Bf->Int
 |_,[]=>0
 |seen,b::r=>if nA seen b=0 then fF (seen++[b]) r else nA seen b
variable {seen:List Bf}
def ut (h:bB b.Name=false):nA seen b=7:=by unfold nA;rw [aa WQ]
def uu (h:bB b.Name=true) (h2:gB seen b.Name=true):nA seen b=8:=by unfold nA;rw [ab h,ab h2]
def zWr (h:bB b.Name=true) (h2:gB seen b.Name=false) (h3:dO b.T=false):nA seen b=10:=by unfold nA;rw [ab h,aa Ca,aa xJ3]
def uv (h:bB b.Name=true) (h2:gB seen b.Name=false) (h3:dO b.T=true) (h4:¬gZ b.Dims=0):nA seen b=gZ b.Dims:=by unfold nA;rw [ab h,aa Ca,ab h3,aa h4]
def uw (h:bB b.Name=true) (h2:gB seen b.Name=false) (h3:dO b.T=true) (h4:gZ b.Dims=0) (h5:b.Use<1∨3<b.Use):nA seen b=1:=by unfold nA;rw [ab h,aa Ca,ab h3,ab h4,ab h5]
def JL (h:bB b.Name=true) (h2:gB seen b.Name=false) (h3:dO b.T=true) (h4:gZ b.Dims=0) (h5:¬(b.Use<1∨3<b.Use)):nA seen b=0:=by unfold nA;rw [ab h,aa Ca,ab h3,ab h4,aa h5]
def zUt {l:List Bf} (h:l[k]? =some b) (hp:fF [] l=fF (l.take k) (l.drop k)) (hb:nA (l.take k) b=0):fF [] l=fF (l.take (k+1)) (l.drop (k+1)):=by
 rw [hp,qN h,fF,ab hb,yB h]
def SX {l:List Bf} (h:l[k]? =some b) (hp:fF [] l=fF (l.take k) (l.drop k)) (hb:¬nA (l.take k) b=0):fF [] l=nA (l.take k) b:=by
 rw [hp,qN h,fF,aa hb]
def qAr {l:List Bf} (hp:fF [] l=fF (l.take k) (l.drop k)) (h:¬k<l.length):fF [] l=0:=by
 rw [hp,kN h];rfl
/-! ## Depth and number of statements -/
def fC:Nat->List St->Bool
 |0,l=>l.isEmpty
 |n+1,l=>l.all λs=>fC n s.Body
def nT:Nat->List St->Int
 |0,_=>0
 |n+1,l=>l.foldl (λd s=>max d (1+nT n s.Body)) 0
def J4 {f:St->Int}:∀(l:List St) (d:Int),d<=l.foldl (λd s=>max d (1+f s)) d
 |[],d=>Int.le_refl _
 |x::r,d=>by have:=J4 (f:=f) r (max d (1+f x));rw [cp];omega
def zWk {f:St->Int} {m:Int}:∀(l:List St) (d:Int),l.foldl (λd s=>max d (1+f s)) d<=m↔d<=m/\∀s,s∈l->1+f s<=m
 |[],d=>by simp
 |x::r,d=>by
  rw [cp,zWk r]
  constructor
  ·rintro ⟨h1,h2⟩
   refine ⟨zB,λs hs=>?_⟩
   rcases ag.1 hs with rfl|hs
   ·omega
   ·exact h2 s hs
  ·rintro ⟨h1,h2⟩
   have:=h2 x uF
   exact ⟨zB,λs hs=>h2 s (by simp [hs])⟩
def zLb:∀(n:Nat) (l:List St),nT (n+1) l<=n↔fC n l=true
 |0,l=>by
  rw [nT,zWk]
  cases l with
  |nil=>simp [fC]
  |cons x r=>
   simp only [fC,List.isEmpty_cons,gk,iff_false,not_and]
   intro _ h
   have:=h x uF
   simp only [nT] at this;omega
 |n+1,l=>by
  rw [nT,zWk,fC,rl]
  constructor
  ·rintro ⟨_,h⟩ s hs
   have:=h s hs
   exact (zLb n s.Body).1 zB
  ·intro h
   refine ⟨zB,λs hs=>?_⟩
   have:=(zLb n s.Body).2 (h s hs)
   omega
def J6:∀(n:Nat) (l:List St),0<=nT n l/\nT n l<=n
 |0,l=>by simp [nT]
 |n+1,l=>by
  rw [nT]
  refine ⟨J4 l 0,(zWk l 0).2 ⟨zB,λs _=>?_⟩⟩
  have:=J6 n s.Body;omega
mutual
def LD:St->Nat
 |.mk _ _ _ _ _ _ _ b=>1+fG b
def fG:List St->Nat
 |[]=>0
 |s::r=>LD s+fG r
end
def tB (n:Nat) (l:List St):Bool:=fC n l
def JB (n:Nat) (l:List St):tB n l=fC n l:=rfl
def D0 {n:Nat} (h:l[k]? =some s) (hp:tB n (l.take k)=true) (hn:1<=n) (hs:fC (n-1) s.Body=true):tB n (l.take (k+1))=true:=by
 obtain ⟨m,rfl⟩:∃m,n=m+1:=⟨n-1,zB⟩
 exact zNp h hp hs
def Od {n:Nat} {x:Int} (h:l[k]? =some s) (hx:x=n) (c:(decide (x<1)|| !fC (n-1) s.Body)=true):fC n l=false:=by
 cases n with
 |zero=>cases l with
  |nil=>simp at h
  |cons a r=>rfl
 |succ n=>
  have:fC n s.Body=false:=by
   rw [aD] at c
   rcases c with c|c
   ·rw [aj] at c;omega
   ·simpa using c
  exact VY h this
def JC {n:Nat} {x:Int} (hx:x=n) (c:(decide (x<1)|| !fC (n-1) s.Body)=false):1<=n/\fC (n-1) s.Body=true:=by
 rw [ax] at c
 refine ⟨?_,by simpa using c.2⟩
 have:=c.1;rw [ao] at this;omega
def Me {n:Nat} (h:l[k]? =some s) (hn:1<=n):nT n (l.take (k+1))=max (nT n (l.take k)) (1+nT (n-1) s.Body):=by
 obtain ⟨m,rfl⟩:∃m,n=m+1:=⟨n-1,zB⟩
 rw [yB h,nT,du];rfl
def Mf {n:Nat} {x d:Int} (hx:x=n) (hd:d=nT n (l.take k)) (c:l.length<=k∨x<=0):d=nT n l:=by
 by_cases h0:n=0
 ·subst h0;rw [hd];rfl
 ·rw [hd,yG zB]
def Xi (s:St):LD s=1+fG s.Body:=by cases s;rw [LD];rfl
def zXg:∀(a b:List St),fG (a++b)=fG a+fG b
 |[],b=>by simp [fG]
 |x::r,b=>by rw [xn,fG,fG,zXg r b];omega
def VK:∀l:List St,l.length<=fG l
 |[]=>by simp [fG]
 |x::r=>by have:=VK r;have:=Xi x;rw [fG,pw];omega
mutual
def Zm:∀s:St,LD s<=s.wt
 |.mk o n m k f i e b=>by rw [LD,St.wt];have:=u6 b;omega
def u6:∀l:List St,fG l<=bR l
 |[]=>by simp [fG,bR]
 |s::r=>by rw [fG,bR];have:=Zm s;have:=u6 r;omega
end
mutual
def tN:St->Nat->Nat
 |.mk _ _ _ _ _ _ _ b,m=>nP b m b.length
def nP:List St->Nat->Nat->Nat
 |[],_,n=>n
 |s::r,m,n=>if n<=m then nP r m (n+tN s (m-n)) else n
end
def nD (l:List St) (m:Nat):Nat:=nP l m l.length
def Uy (s:St) (m:Nat):tN s m=nD s.Body m:=by cases s;rw [tN];rfl
mutual
def Uz:∀(s:St) (m:Nat),tN s m<=LD s-1
 |.mk _ _ _ _ _ _ _ b,m=>by
  rw [tN,LD]
  have h1:=Dr b m b.length
  have h2:=VK b
  omega
def Dr:∀(l:List St) (m n:Nat),nP l m n<=n+(fG l-l.length)
 |[],m,n=>by simp [nP]
 |s::r,m,n=>by
  rw [nP]
  have h3:=VK r
  have h4:=Xi s
  split
  ·have h1:=Dr r m (n+tN s (m-n))
   have h2:=Uz s (m-n)
   rw [fG,pw];omega
  ·rw [fG,pw];omega
end
def Dq (l:List St) (m:Nat):nD l m<=fG l:=by
 have h1:=Dr l m l.length
 have h2:=VK l
 unfold nD;omega
def K8:∀(l:List St) (m n:Nat),n<=nP l m n
 |[],m,n=>by rw [nP];omega
 |s::r,m,n=>by
  rw [nP];split
  ·have:=K8 r m (n+tN s (m-n));omega
  ·omega
mutual
def UA:∀(s:St) (m:Nat),tN s m<=m->tN s m=LD s-1
 |.mk _ _ _ _ _ _ _ b,m,h=>by
  rw [tN] at h⊢
  rw [LD,Dt b m _ h]
  have:=VK b;omega
def Dt:∀(l:List St) (m n:Nat),nP l m n<=m->nP l m n=n+(fG l-l.length)
 |[],m,n,h=>by simp [nP,fG]
 |s::r,m,n,h=>by
  have h3:=VK r
  have h4:=Xi s
  by_cases hn:n<=m
  ·rw [nP,ab hn] at h⊢
   have h5:=K8 r m (n+tN s (m-n))
   have h6:=UA s (m-n) zB
   rw [Dt r m _ h,h6,fG,pw];omega
  ·rw [nP,aa hn] at h;omega
end
variable {m:Nat}
def K7 (h:nD l m<=m):fG l=nD l m:=by
 have h2:=VK l
 unfold nD at *
 rw [Dt l m _ h];omega
def FL {n N:Nat} (h:l[k]? =some s) (hp:N=nP (l.drop k) m n) (hn:n<=m):N=nP (l.drop (k+1)) m (n+nD s.Body (m-n)):=by
 rw [hp,qN h,nP,ab hn,Uy]
def UB {n N:Nat} (hp:N=nP (l.drop k) m n) (h:l.length<=k∨m<n):n=N:=by
 rw [hp]
 by_cases hk:k<l.length
 ·obtain ⟨a,ha⟩:=qX l k hk
  rw [qN ha,nP,aa zB]
 ·rw [kN hk,nP]
def zVo (h:s∈l):LD s<=fG l:=by
 induction l with
 |nil=>cases h
 |cons x r ih=>
  rw [fG]
  exact v43
def BS (h:l[k]? =some s):fG (l.drop k)=LD s+fG (l.drop (k+1)):=by rw [qN h,fG]
def K9 {n:Nat} (h:l[k]? =some s) (hp:nD l m=nP (l.drop k) m n) (hn:n<=m):n+nD s.Body (m-n)<=n+fG l:=by
 have h1:=Dq s.Body (m-n)
 have h2:fG l=fG (l.take k)+(LD s+fG (l.drop (k+1))):=by
  rw [<-fG,<-qN h,<-zXg,aZ]
 have:=Xi s
 omega
/-! ## Names of a node -/
def nU (sc:List nq) (l:Lf):Bool:=l.L.all λm=>bQ sc m.Name
def eR (sc:List nq) (x:Ix):Bool:=nU sc x.Lin&&x.At.all (nU sc)
def nE (sc:List nq) (e:Ex):Bool:=nU sc e.Lin&&e.Idx.all (eR sc)
def nR (B:List Bf) (x:Ix):Int:=
 if x.From=bs [] then 0 else if gB B x.From=true then (if (jK B x.From).T.Kind=3 then (if (jK B x.From).Dims.length=x.At.length then 0 else 11) else 10) else 9
def pW (B:List Bf):List Ix->Int
 |[]=>0
 |x::r=>if nR B x=0 then pW B r else nR B x
def lS (B:List Bf) (sc:List nq) (e:Ex):Int:=
 if nE sc e=true then (if e.Op=3 then (if gB B e.Name=true then (if (jK B e.Name).Dims.length=e.Idx.length then pW B e.Idx else 11) else 9) else 0) else 9
def dU (B:List Bf) (sc:List nq):List Ex->Int
 |[]=>0
 |e::r=>if lS B sc e=0 then dU B sc r else lS B sc e
variable {B:List Bf} {x:Ix}
def uR (h:x.From=bs []):nR B x=0:=by unfold nR;rw [ab h]
def uS (h:¬x.From=bs []) (h1:gB B x.From=false):nR B x=9:=by unfold nR;rw [aa h,aa (by rw [h1];simp)]
def zWb (h:¬x.From=bs []) (h1:gB B x.From=true) (h2:¬(jK B x.From).T.Kind=3):nR B x=10:=by unfold nR;rw [aa h,ab h1,aa h2]
def zWa (h:¬x.From=bs []) (h1:gB B x.From=true) (h2:(jK B x.From).T.Kind=3) (h3:¬(jK B x.From).Dims.length=x.At.length):nR B x=11:=by unfold nR;rw [aa h,ab h1,ab h2,aa h3]
def zVz (h:¬x.From=bs []) (h1:gB B x.From=true) (h2:(jK B x.From).T.Kind=3) (h3:(jK B x.From).Dims.length=x.At.length):nR B x=0:=by unfold nR;rw [aa h,ab h1,ab h2,ab h3]
def zOc {l:List Ix} (h:l[k]? =some x) (hx:nR B x=0):pW B (l.drop k)=pW B (l.drop (k+1)):=by rw [qN h,pW,ab hx]
def zOb {l:List Ix} (h:l[k]? =some x) (hx:¬nR B x=0):pW B (l.drop k)=nR B x:=by rw [qN h,pW,aa hx]
variable {sc:List nq} {e:Ex}
def K1 (h:nE sc e=false):lS B sc e=9:=by unfold lS;rw [aa WQ]
def K3 (h:nE sc e=true) (h1:¬e.Op=3):lS B sc e=0:=by unfold lS;rw [ab h,aa h1]
def K2 (h:nE sc e=true) (h1:e.Op=3) (h2:gB B e.Name=false):lS B sc e=9:=by unfold lS;rw [ab h,ab h1,aa Ca]
def K4 (h:nE sc e=true) (h1:e.Op=3) (h2:gB B e.Name=true) (h3:¬(jK B e.Name).Dims.length=e.Idx.length):lS B sc e=11:=by unfold lS;rw [ab h,ab h1,ab h2,aa h3]
def Xd (h:nE sc e=true) (h1:e.Op=3) (h2:gB B e.Name=true) (h3:(jK B e.Name).Dims.length=e.Idx.length):lS B sc e=pW B e.Idx:=by unfold lS;rw [ab h,ab h1,ab h2,ab h3]
def zKo (B:List Bf) (sc:List nq):∀(a b:List Ex),dU B sc (a++b)=if dU B sc a=0 then dU B sc b else dU B sc a
 |[],b=>by simp [dU]
 |x::r,b=>by
  rw [xn,dU,dU,zKo B sc r b]
  by_cases h:lS B sc x=0
  ·rw [ab h,ab h]
  ·rw [aa h,aa h,aa h]
def zTa {pre:List Ex} {x:Ex} (h:dU B sc pre=0):dU B sc (pre++[x])=lS B sc x:=by
 rw [zKo,ab h,dU,dU]
 by_cases hx:lS B sc x=0
 ·rw [ab hx,hx]
 ·rw [aa hx]
def yj {pre suf:List Ex} {x:Ex} (h:¬dU B sc (pre++[x])=0):dU B sc (pre++x::suf)=dU B sc (pre++[x]):=by
 rw [show pre++x::suf=(pre++[x])++suf by simp,zKo,aa h]
def Nd {l:List Ex} {x:Ex} (h:l[k]? =some x) (hx:lS B sc x=0):dU B sc (l.drop k)=dU B sc (l.drop (k+1)):=by rw [qN h,dU,ab hx]
def BE {l:List Ex} {x:Ex} (h:l[k]? =some x) (hx:¬lS B sc x=0):dU B sc (l.drop k)=lS B sc x:=by rw [qN h,dU,aa hx]
/-! ## Types -/
def qx (B:List Bf) (e:Ex) (l:List Ty):Ty×Int:=
 if e.Op=1∨e.Op=12 then (e.Ty,0) else
 if e.Op=2 then (Wf,0) else
 if e.Op=3 then ((jK B e.Name).T,0) else
 if e.Op=8 then (bU l 0,0) else
 if e.Op=16∨e.Op=17∨e.Op=18 then (px,0) else
 if bU l (l.length-2)=bU l (l.length-1) then (if bV e=true then (px,0) else (bU l (l.length-1),0)) else (px,10)
def zDx {l:List Ty} (h:e.Op=1∨e.Op=12):qx B e l=(e.Ty,0):=by unfold qx;rw [ab h]
def zEg {l:List Ty} (h:e.Op=2):qx B e l=(Wf,0):=by unfold qx;rw [aa zB,ab h]
def zDw {l:List Ty} (h:e.Op=3):qx B e l=((jK B e.Name).T,0):=by unfold qx;rw [aa zB,aa zB,ab h]
def zEf {l:List Ty} (h:e.Op=8):qx B e l=(bU l 0,0):=by unfold qx;rw [aa zB,aa zB,aa zB,ab h]
def zAu {l:List Ty} (h:e.Op=16∨e.Op=17∨e.Op=18):qx B e l=(px,0):=by unfold qx;rw [aa zB,aa zB,aa zB,aa zB,ab h]
abbrev lB (o:Int):Prop:=o=1∨o=12∨o=2∨o=3∨o=8∨o=16∨o=17∨o=18
def RT {l:List Ty} (h:¬lB e.Op):qx B e l=if bU l (l.length-2)=bU l (l.length-1) then (if bV e=true then (px,0) else (bU l (l.length-1),0)) else (px,10):=by
 unfold lB at h;unfold qx;rw [aa zB,aa zB,aa zB,aa zB,aa zB]
def zAv {l:List Ty} (h:¬lB e.Op) (h2:¬bU l (l.length-2)=bU l (l.length-1)):qx B e l=(px,10):=by rw [RT h,aa h2]
def zEe {l:List Ty} (h:¬lB e.Op) (h2:bU l (l.length-2)=bU l (l.length-1)) (h3:bV e=true):qx B e l=(px,0):=by rw [RT h,ab h2,ab h3]
def zDv {l:List Ty} (h:¬lB e.Op) (h2:bU l (l.length-2)=bU l (l.length-1)) (h3:bV e=false):qx B e l=(bU l (l.length-1),0):=by rw [RT h,ab h2,aa xJ3]
def RU {l:List Ty} (h:¬(qx B e l).2=0):(qx B e l).1=px:=by
 unfold qx at h⊢
 repeat' split at h<;>first|exact absurd rfl h|skip
 all_goals simp_all
def Iz (h:¬(bP (qx B) e).2=0):(bP (qx B) e).1=px:=by
 rw [zNy] at h⊢
 split
 ·rename_i c
  rw [ab c] at h
  exact RU h
 ·rfl
def jP:List Ex->List Ty->List Ty
 |[],_=>[]
 |_::_,[]=>[]
 |a::r,t::ts=>if bV a=true then jP r ts else t::jP r ts
def H5 (B:List Bf) (e:Ex) (l:List Ty):Ty×Int:=
 if l.length=2/\¬bU l 0=bU l 1 then (px,10) else
 if e.Op=1∨e.Op=12 then (e.Ty,0) else
 if e.Op=2 then (Wf,0) else
 if e.Op=3 then ((jK B e.Name).T,0) else
 if bV e=true then (px,0) else (bU l 0,0)
def Bm (B:List Bf) (e:Ex) (l:List Ty):Ty×Int:=H5 B e (jP e.Args l)
def zJw {l:List Ty} (h:l.length=2) (h2:¬bU l 0=bU l 1):H5 B e l=(px,10):=by unfold H5;rw [ab ⟨h,h2⟩]
def zTn {l:List Ty} (h:¬(l.length=2/\¬bU l 0=bU l 1)) (h1:e.Op=1∨e.Op=12):H5 B e l=(e.Ty,0):=by unfold H5;rw [aa h,ab h1]
def zVc {l:List Ty} (h:¬(l.length=2/\¬bU l 0=bU l 1)) (h1:e.Op=2):H5 B e l=(Wf,0):=by unfold H5;rw [aa h,aa zB,ab h1]
def zVb {l:List Ty} (h:¬(l.length=2/\¬bU l 0=bU l 1)) (h1:e.Op=3):H5 B e l=((jK B e.Name).T,0):=by unfold H5;rw [aa h,aa zB,aa zB,ab h1]
def zRb {l:List Ty} (h:¬(l.length=2/\¬bU l 0=bU l 1)) (h1:bV e=true):H5 B e l=(px,0):=by
 have:13<=e.Op:=by unfold bV at h1;simp at h1;omega
 unfold H5
 by_cases h12:e.Op=1∨e.Op=12
 ·omega
 ·rw [aa h,aa h12,aa zB,aa zB,ab h1]
def zRa {l:List Ty} (h:¬(l.length=2/\¬bU l 0=bU l 1)) (h1:¬(e.Op=1∨e.Op=12∨e.Op=2∨e.Op=3)) (h2:bV e=false):H5 B e l=(bU l 0,0):=by
 unfold H5;rw [aa h,aa zB,aa zB,aa zB,aa Ca]
def zYh:∀{arg_:List Ex} {ts:List Ty} {a:Ex} {t:Ty},arg_.length=ts.length->jP (arg_++[a]) (ts++[t])=jP arg_ ts++(if bV a=true then [] else [t])
 |[],[],a,t,_=>by simp only [D6,jP]
 |x::r,y::s,a,t,h=>by
  simp only [xn,jP]
  rw [zYh (arg_:=r) (ts:=s) tk]
  split<;>rfl
 |[],_::_,_,_,h=>by simp at h
 |_::_,[],_,_,h=>by simp at h
def Et (h:fJ e=0):hY e.Op 0 e.Args=true:=by
 have:=(zNx (zHq h)).2.2.2.1
 simp only [lO,ae] at this
 exact this.2
def ty_ki {l:List Ty} (h:fJ e=0) (hl:l.length=e.Args.length):qx B e l=Bm B e l:=by
 have hr:=zQn h
 have hc:=Et h
 obtain ⟨o1,o2⟩:=Dp (zHq h)
 have hle:l.length=(bW e.Op).toNat:=by omega
 unfold Bm
 generalize hA:e.Args=A at hr hc hl
 have hcond:bV e=true↔13<=e.Op:=by unfold bV;simp;omega
 unfold bW at hr
 by_cases c0:e.Op=1∨e.Op=2∨e.Op=3
 ·rw [ab c0] at hr
  match A,l,hr,hl with
  |[],[],_,_=>
   have hn:¬(([]:List Ty).length=2/\¬bU [] 0=bU [] 1):=by simp
   rcases c0 with c|c|c
   ·rw [zDx (.inl c)];exact (zTn hn (.inl c)).symm
   ·rw [zEg c];exact (zVc hn c).symm
   ·rw [zDw c];exact (zVb hn c).symm
  |_::_,_,hr,_=>simp at hr;omega
 rw [aa c0] at hr
 by_cases c1:e.Op=8∨e.Op=12∨e.Op=18
 ·rw [ab c1] at hr
  match A,l,hr,hl with
  |[a],[t],_,_=>
   simp only [hY,bq,fu] at hc
   rcases c1 with c|c|c
   ·have ha:bV a=false:=by rw [hc];simp [jL,c]
    rw [zEf c,jP,aa (by rw [ha];simp),jP,zRa uF zB (by cases hx:bV e;rfl;exact absurd (hcond.1 hx) zB)]
   ·have ha:bV a=false:=by rw [hc];simp [jL,c]
    rw [zDx (.inr c),jP,aa (by rw [ha];simp),jP,zTn uF (.inr c)]
   ·have ha:bV a=true:=by rw [hc];simp [jL,c]
    rw [zAu zB,jP,ab ha,jP,zRb uF (hcond.2 zB)]
  |[],_,hr,_=>simp at hr
  |_::_::_,_,hr,_=>simp at hr;omega
 rw [aa c1] at hr
 by_cases c11:e.Op=11
 ·rw [ab c11] at hr
  match A,l,hr,hl with
  |[a,b,c],[s,t,u],_,_=>
   simp only [hY,bq,ae,fu] at hc
   have ha:bV a=true:=by rw [hc.1];simp [jL,c11]
   have hb:bV b=false:=by rw [hc.2.1];simp [jL,c11]
   have hd:bV c=false:=by rw [hc.2.2];simp [jL,c11]
   have hec:bV e=false:=by cases hx:bV e;rfl;exact absurd (hcond.1 hx) zB
   rw [jP,ab ha,jP,aa (by rw [hb];simp),jP,aa (by rw [hd];simp),jP]
   by_cases q:t=u
   ·subst q
    rw [zDv xK2 rfl hec,zRa (by simp [bU]) zB hec];rfl
   ·rw [zAv (e:=e) (l:=[s,t,u]) xK2 q,zJw (l:=[t,u]) rfl q]
  |[],_,hr,_=>simp at hr
  |[_],_,hr,_=>simp at hr
  |[_,_],_,hr,_=>simp at hr
  |_::_::_::_::_,_,hr,_=>simp at hr;omega
 rw [aa c11] at hr
 match A,l,hr,hl with
 |[a,b],[t,u],_,_=>
  simp only [hY,bq,ae,fu] at hc
  by_cases c16:e.Op=16∨e.Op=17
  ·have ha:bV a=true:=by rw [hc.1];rcases c16 with c|c<;>simp [jL,c]
   have hb:bV b=true:=by rw [hc.2];rcases c16 with c|c<;>simp [jL,c]
   rw [zAu zB,jP,ab ha,jP,ab hb,jP,zRb uF (hcond.2 zB)]
  ·have w:∀i,jL e.Op i=false:=λi=>by unfold jL;simp;omega
   have ha:bV a=false:=by rw [hc.1,w]
   have hb:bV b=false:=by rw [hc.2,w]
   rw [jP,aa (by rw [ha];simp),jP,aa (by rw [hb];simp),jP]
   by_cases q:t=u
   ·subst q
    by_cases ce:bV e=true
    ·rw [zEe xK2 rfl ce,zRb (by simp [bU]) ce]
    ·have ce':bV e=false:=by simpa using ce
     rw [zDv xK2 rfl ce',zRa (by simp [bU]) zB ce'];rfl
   ·rw [zAv (e:=e) (l:=[t,u]) xK2 q,zJw (l:=[t,u]) rfl q]
 |[],_,hr,_=>simp at hr
 |[_],_,hr,_=>simp at hr
 |_::_::_::_,_,hr,_=>simp at hr;omega
mutual
def FG (B:List Bf):∀e:Ex,fJ e=0->bP (qx B) e=bP (Bm B) e
 |.mk o nm v t l i arg_,h=>by
  have h3:=FF B arg_ λa ha=>zJq h ha
  rw [bP,bP,<-h3]
  by_cases c:(bG (qx B) arg_).2=0
  ·rw [ab c,ab c]
   exact ty_ki h (SY _ _ c)
  ·rw [aa c,aa c]
def FF (B:List Bf):∀l:List Ex,(∀a,a∈l->fJ a=0)->bG (qx B) l=bG (Bm B) l
 |[],_=>rfl
 |a::r,h=>by
  rw [bG,bG,<-FG B a (h a uF),<-FF B r λx hx=>h x G7]
end
def dS (B:List Bf) (sc:List nq) (e:Ex):Ty×Int:=
 if dT e=0 then (if dU B sc (dE e)=0 then bP (qx B) e else (px,dU B sc (dE e))) else (px,dT e)
def CH (h:¬dT e=0):dS B sc e=(px,dT e):=by unfold dS;rw [aa h]
def CI (h:dT e=0) (h2:¬dU B sc (dE e)=0):dS B sc e=(px,dU B sc (dE e)):=by unfold dS;rw [ab h,aa h2]
def CJ (h:dT e=0) (h2:dU B sc (dE e)=0):dS B sc e=bP (qx B) e:=by unfold dS;rw [ab h,ab h2]
def TM (h:dT e=0) (h2:dU B sc (dE e)=0):dS B sc e=bP (Bm B) e:=by rw [CJ h h2];exact FG B e (VG h)
def Py (h:(dS B sc (D7 s)).2=0):(dS B sc (D7 s)).1=(jK B s.Name).T:=by
 by_cases h1:dT (D7 s)=0
 ·by_cases h2:dU B sc (dE (D7 s))=0
  ·rw [CJ h1 h2,zNy]
   have:bG (qx B) (D7 s).Args=([],0):=rfl
   rw [this,ab rfl,zDw rfl];rfl
  ·rw [CI h1 h2] at h;exact absurd h h2
 ·rw [CH h1] at h;exact absurd h h1
/-! ## Statements -/
def tS (e:Ex):Bool:=decide (e=zEx)
def mB (s:St):Bool:=decide (s.Op=2)||decide (s.Op=3)
def gT (s:St):Bool:=
 (decide (s.Op=1)||mB s||decide (s.Op=4))&& !(decide (s.Op=4)&& !decide (s.Name=bs []))&& !(!decide (s.Op=1)&&(!decide (s.Many=0)|| !decide (s.Mark=0)))&&
 !(!decide (s.Op=3)&& !decide (s.Fold=0))&& !(!mB s&&decide ((0:Int)<s.Idx.length))&& !(decide (s.Op=1)&& !tS s.E)&&(!mB s||decide ((s.Body.length:Int)=0))
def syn_1 (c:((!decide (s.Op=1)&& !(decide (s.Op=2)||decide (s.Op=3)))&& !decide (s.Op=4))=true):false=gT s:=by
 unfold gT mB
 simp only [ae,aA,ax] at c
 simp only [c.1.1,c.1.2.1,c.1.2.2,c.2,Bool.or_self,bf]
def WD (c:(decide (s.Op=4)&& !decide (s.Name=bs []))=true):false=gT s:=by
 exact v57
def WE (c:(!decide (s.Op=1)&&(!decide (s.Many=0)|| !decide (s.Mark=0)))=true):false=gT s:=by
 exact v57
def WF (c:(!decide (s.Op=3)&& !decide (s.Fold=0))=true):false=gT s:=by
 exact v57
def WG (c:(!mB s&&decide ((0:Int)<s.Idx.length))=true):false=gT s:=by
 exact v57
def syn_6 (c:(decide (s.Op=1)&& !tS s.E)=true):false=gT s:=by
 exact v57
def syn_7 (c1:((!decide (s.Op=1)&& !mB s)&& !decide (s.Op=4))=false) (c2:(decide (s.Op=4)&& !decide (s.Name=bs []))=false) (c3:(!decide (s.Op=1)&&(!decide (s.Many=0)|| !decide (s.Mark=0)))=false) (c4:(!decide (s.Op=3)&& !decide (s.Fold=0))=false) (c5:(!mB s&&decide ((0:Int)<s.Idx.length))=false) (c6:(decide (s.Op=1)&& !tS s.E)=false):(!mB s||decide ((s.Body.length:Int)=0))=gT s:=by
 have h1:(decide (s.Op=1)||mB s||decide (s.Op=4))=true:=by
  revert c1;cases decide (s.Op=1)<;>cases mB s<;>cases decide (s.Op=4)<;>simp
 unfold gT
 simp only [h1,c2,c3,c4,c5,c6,cf,aM]
def rG (B:List Bf) (U:List nq) (s:St):Int:=
 if bB s.Name=true then (if gB B s.Name=true∨bQ U s.Name=true then 8 else if s.Many<1∨65536<s.Many∨s.Mark<0∨3<s.Mark then 1 else 0) else 7
def SL (B:List Bf) (sc:List nq) (s:St):Int:=if (dS B sc s.E).2=0 then (if bV s.E=true then 0 else 10) else (dS B sc s.E).2
def lQ (B:List Bf) (sc:List nq) (s:St):Int:=
 if (dS B sc (D7 s)).2=0 then (if (jK B s.Name).Use=1∨(s.Op=3/\(s.Fold<1∨4<s.Fold)) then 1 else
  if (dS B sc s.E).2=0 then (if bV s.E=true∨¬(dS B sc s.E).1=(jK B s.Name).T then 10 else 0) else (dS B sc s.E).2) else (dS B sc (D7 s)).2
def GD (B:List Bf) (U sc:List nq) (s:St):Int:=
 if gT s=true then (if s.Op=1 then rG B U s else if s.Op=4 then SL B sc s else lQ B sc s) else 5
structure Ck where
 U:List nq
 W:List Int
 E:Int
def nW (U:List nq) (s:St):List nq:=if s.Op=1 then U++[s.Name] else U
mutual
def pT (B:List Bf):List nq->List nq->List Int->St->Ck
 |U,sc,here,.mk o nm mn mk fo i e b=>if GD B U sc (.mk o nm mn mk fo i e b)=0 then gG B (nW U (.mk o nm mn mk fo i e b)) (nW sc (.mk o nm mn mk fo i e b)) here 0 b else ⟨[],here,GD B U sc (.mk o nm mn mk fo i e b)⟩
def gG (B:List Bf):List nq->List nq->List Int->Int->List St->Ck
 |U,_,_,_,[]=>⟨U,[],0⟩
 |U,sc,way,i,s::r=>if (pT B U sc (way++[i]) s).E=0 then gG B (pT B U sc (way++[i]) s).U sc way (i+1) r else pT B U sc (way++[i]) s
end
def JQ (B:List Bf) (U sc:List nq) (here:List Int) (s:St):pT B U sc here s=if GD B U sc s=0 then gG B (nW U s) (nW sc s) here 0 s.Body else ⟨[],here,GD B U sc s⟩:=by cases s;rw [pT];rfl
def JS {U:List nq} {here:List Int} (h:¬GD B U sc s=0):pT B U sc here s=⟨[],here,GD B U sc s⟩:=by rw [JQ,aa h]
def JR {U:List nq} {here:List Int} (h:GD B U sc s=0):pT B U sc here s=gG B (nW U s) (nW sc s) here 0 s.Body:=by rw [JQ,ab h]
variable {way:List Int} {R:Ck}
def zRr {U:List nq} (h:l[k]? =some s) (hp:R=gG B U sc way k (l.drop k)) (hx:(pT B U sc (way++[(k:Int)]) s).E=0):R=gG B (pT B U sc (way++[(k:Int)]) s).U sc way ((k+1:Nat):Int) (l.drop (k+1)):=by
 rw [hp,qN h,gG,ab hx];rfl
def W9 {U:List nq} (h:l[k]? =some s) (hp:R=gG B U sc way k (l.drop k)) (hx:¬(pT B U sc (way++[(k:Int)]) s).E=0):R=pT B U sc (way++[(k:Int)]) s:=by
 rw [hp,qN h,gG,aa hx]
def zWo {U:List nq} (hp:R=gG B U sc way k (l.drop k)) (h:¬k<l.length):R=⟨U,[],0⟩:=by
 rw [hp,kN h,gG]
def JP:∀{B:List Bf} {l:List St} {U sc:List nq} {way:List Int} {i:Int},(gG B U sc way i l).E=0->(gG B U sc way i l).W=[]
 |B,[],U,sc,way,i,_=>by rw [gG]
 |B,s::r,U,sc,way,i,h=>by
  rw [gG] at h⊢
  by_cases c:(pT B U sc (way++[i]) s).E=0
  ·rw [ab c] at h⊢;exact JP h
  ·rw [aa c] at h;exact absurd h c
mutual
def vw (B:List Bf):∀(s:St) (U sc:List nq) (here:List Int),(pT B U sc here s).U.length<=U.length+LD s
 |.mk o nm mn mk fo i e b,U,sc,here=>by
  rw [pT,LD]
  split
  ·have h1:=Ep B b (nW U (.mk o nm mn mk fo i e b)) (nW sc (.mk o nm mn mk fo i e b)) here 0
   have h2:(nW U (.mk o nm mn mk fo i e b)).length<=U.length+1:=by unfold nW;split<;>simp
   omega
  ·simp
def Ep (B:List Bf):∀(l:List St) (U sc:List nq) (way:List Int) (i:Int),(gG B U sc way i l).U.length<=U.length+fG l
 |[],U,sc,way,i=>by rw [gG];simp
 |s::r,U,sc,way,i=>by
  rw [gG,fG]
  have h1:=vw B s U sc (way++[i])
  split
  ·have h2:=Ep B r (pT B U sc (way++[i]) s).U sc way (i+1)
   omega
  ·omega
end
def zQt {U:List nq} (h:s.Op=1):nW U s=U++[s.Name]:=by unfold nW;rw [ab h]
def zVv {U:List nq} (h:¬s.Op=1):nW U s=U:=by unfold nW;rw [aa h]
def I9 {S:List nq} {f:Lf} {l:List Ix} (h:l[k]? =some x):((nU S f&&(l.take k).all (eR S))&&nU S x.Lin&&x.At.all (nU S))=(nU S f&&(l.take (k+1)).all (eR S)):=by
 rw [yB h,cj]
 simp only [bm,fc,bq,eR,jn]
variable {c:Bool}
def RE {a b:Ty} (h:(c|| !dG [cI a.Kind,cI a.Bits,cI a.Frac,cI a.Round,cI a.Over] [cI b.Kind,cI b.Bits,cI b.Frac,cI b.Round,cI b.Over])=true):c=true∨¬a=b:=by
 rw [DW,aD] at h
 rcases h with h|h
 ·exact .inl h
 ·exact .inr tk
def RD {a b:Ty} (h:(c|| !dG [cI a.Kind,cI a.Bits,cI a.Frac,cI a.Round,cI a.Over] [cI b.Kind,cI b.Bits,cI b.Frac,cI b.Round,cI b.Over])=false):¬(c=true∨¬a=b):=by
 rw [DW,ax] at h
 rw [h.1]
 rintro (k|k)
 ·cases k
 ·exact k (by simpa using h.2)
def GH (h:¬(dS B sc (D7 s)).2=0):lQ B sc s=(dS B sc (D7 s)).2:=by unfold lQ;rw [aa h]
def zd (h:(dS B sc (D7 s)).2=0) (h2:(jK B s.Name).Use=1∨(s.Op=3/\(s.Fold<1∨4<s.Fold))):lQ B sc s=1:=by unfold lQ;rw [ab h,ab h2]
def GI (h:(dS B sc (D7 s)).2=0) (h2:¬((jK B s.Name).Use=1∨(s.Op=3/\(s.Fold<1∨4<s.Fold)))) (h3:¬(dS B sc s.E).2=0):lQ B sc s=(dS B sc s.E).2:=by unfold lQ;rw [ab h,aa h2,aa h3]
def BR (h:(dS B sc (D7 s)).2=0) (h2:¬((jK B s.Name).Use=1∨(s.Op=3/\(s.Fold<1∨4<s.Fold)))) (h3:(dS B sc s.E).2=0) (h4:bV s.E=true∨¬(dS B sc s.E).1=(jK B s.Name).T):lQ B sc s=10:=by unfold lQ;rw [ab h,aa h2,ab h3,ab h4]
def GG (h:(dS B sc (D7 s)).2=0) (h2:¬((jK B s.Name).Use=1∨(s.Op=3/\(s.Fold<1∨4<s.Fold)))) (h3:(dS B sc s.E).2=0) (h4:¬(bV s.E=true∨¬(dS B sc s.E).1=(jK B s.Name).T)):lQ B sc s=0:=by unfold lQ;rw [ab h,aa h2,ab h3,aa h4]
def KI {U:List nq} (h:bB s.Name=false):rG B U s=7:=by unfold rG;rw [aa WQ]
def KJ {U:List nq} (h:bB s.Name=true) (h2:gB B s.Name=true∨bQ U s.Name=true):rG B U s=8:=by unfold rG;rw [ab h,ab h2]
def KH {U:List nq} (h:bB s.Name=true) (h2:¬(gB B s.Name=true∨bQ U s.Name=true)) (h3:s.Many<1∨65536<s.Many∨s.Mark<0∨3<s.Mark):rG B U s=1:=by unfold rG;rw [ab h,aa h2,ab h3]
def KG {U:List nq} (h:bB s.Name=true) (h2:¬(gB B s.Name=true∨bQ U s.Name=true)) (h3:¬(s.Many<1∨65536<s.Many∨s.Mark<0∨3<s.Mark)):rG B U s=0:=by unfold rG;rw [ab h,aa h2,aa h3]
def Wh (h:¬(dS B sc s.E).2=0):SL B sc s=(dS B sc s.E).2:=by unfold SL;rw [aa h]
def PQ (h:(dS B sc s.E).2=0) (h2:bV s.E=false):SL B sc s=10:=by unfold SL;rw [ab h,aa Ca]
def Wg (h:(dS B sc s.E).2=0) (h2:bV s.E=true):SL B sc s=0:=by unfold SL;rw [ab h,ab h2]
def WA {U:List nq} (h:gT s=false):GD B U sc s=5:=by unfold GD;rw [aa WQ]
def GF {U:List nq} (h:gT s=true) (h2:s.Op=1):GD B U sc s=rG B U s:=by unfold GD;rw [ab h,ab h2]
def GE {U:List nq} (h:gT s=true) (h2:s.Op=4):GD B U sc s=SL B sc s:=by unfold GD;rw [ab h,aa zB,ab h2]
def WB {U:List nq} (h:gT s=true) (h2:¬s.Op=1) (h3:¬s.Op=4):GD B U sc s=lQ B sc s:=by unfold GD;rw [ab h,aa h2,aa h3]
def jF (n:Ns):List Int×Int:=
 if fC 40 n.Body=true then (if 2000<nD n.Body 2000∨128<n.Bufs.length then ([],2) else if fF [] n.Bufs=0 then ((gG n.Bufs [] [] [] 0 n.Body).W,(gG n.Bufs [] [] [] 0 n.Body).E) else ([],fF [] n.Bufs)) else ([],13)
def B3 {n:Ns} (h:fC 40 n.Body=false):jF n=([],13):=by unfold jF;rw [aa WQ]
def GU {n:Ns} (h:fC 40 n.Body=true) (h2:2000<nD n.Body 2000∨128<n.Bufs.length):jF n=([],2):=by unfold jF;rw [ab h,ab h2]
def GV {n:Ns} (h:fC 40 n.Body=true) (h2:¬(2000<nD n.Body 2000∨128<n.Bufs.length)) (h3:¬fF [] n.Bufs=0):jF n=([],fF [] n.Bufs):=by unfold jF;rw [ab h,aa h2,aa h3]
def zp {n:Ns} (h:fC 40 n.Body=true) (h2:¬(2000<nD n.Body 2000∨128<n.Bufs.length)) (h3:fF [] n.Bufs=0):jF n=((gG n.Bufs [] [] [] 0 n.Body).W,(gG n.Bufs [] [] [] 0 n.Body).E):=by unfold jF;rw [ab h,aa h2,ab h3]
structure Ns.Ok (n:Ns):Prop where
 bufs:n.Bufs.length<=4294967296
 dims:∀b,b∈n.Bufs->b.Dims.length<=17592186044416
 body:bR n.Body<=536870912
def eD (i:List Ix):Ex:=.mk 0 (bs []) ⟨0,0⟩ ⟨0,0,0,0,0⟩ ⟨0,[]⟩ i []
def T2 (i:List Ix):(eD i).wt=1+i.length+dI i:=by
 rw [Ex.wt_eq];simp only [eD,Ex.Lin,Ex.Idx,Ex.Args,dX,qw];omega
mutual
def sK:St->Nat->Nat
 |.mk _ _ _ _ _ _ _ b,m=>lX b m b.length
def lX:List St->Nat->Nat->Nat
 |[],_,n=>n
 |s::r,m,n=>if n<=m then lX r m (n+jA s.E m+jA (eD s.Idx) m+sK s (m-n)) else n
end
def vQ (l:List St) (m:Nat):Nat:=lX l m l.length
def zy:∀(l:List St) (m n:Nat),n<=lX l m n
 |[],m,n=>by rw [lX];omega
 |s::r,m,n=>by
  rw [lX];split
  ·have:=zy r m (n+jA s.E m+jA (eD s.Idx) m+sK s (m-n));omega
  ·omega
mutual
def Oc:∀(s:St) (m:Nat),sK s m<=m->bR s.Body<=sK s m
 |.mk _ _ _ _ _ _ _ b,m,h=>by
  rw [sK] at h⊢
  have:=zSa b m _ h
  have:=G9 b
  simp only [St.Body];omega
def zSa:∀(l:List St) (m n:Nat),lX l m n<=m->n+(bR l-l.length)<=lX l m n
 |[],m,n,h=>by simp [lX,bR]
 |s::r,m,n,h=>by
  by_cases hn:n<=m
  ·rw [lX,ab hn] at h⊢
   have h1:=zy r m (n+jA s.E m+jA (eD s.Idx) m+sK s (m-n))
   have h2:=zSa r m _ h
   have h3:=zPx s.E m zB
   have h4:=zPx (eD s.Idx) m zB
   have h5:=Oc s (m-n) zB
   have h6:=G9 r
   rw [T2] at h4
   rw [bR,pw,St.wt_eq];omega
  ·rw [lX,aa hn] at h;omega
end
def Oa (h:vQ l m<=m):bR l<=vQ l m:=by
 unfold vQ at *
 have:=zSa l m _ h
 have:=G9 l
 omega
mutual
def St.fit:St->Prop
 |.mk _ _ _ _ _ i e b=>i.length<=140737488355328/\(∀x,x∈i->x.fit)/\e.fit/\b.length<=140737488355328/\iE b
def iE:List St->Prop
 |[]=>True
 |s::r=>s.fit/\iE r
end
def St.fit_eq (h:s.fit):s.Idx.length<=140737488355328/\(∀x,x∈s.Idx->x.fit)/\s.E.fit/\s.Body.length<=140737488355328/\iE s.Body:=by
 cases s with
 |mk o n m k f i e b=>rw [St.fit] at h;exact h
structure Ns.Fit (n:Ns):Prop where
 bufs:n.Bufs.length<=140737488355328
 dims:∀b,b∈n.Bufs->b.Dims.length<=17592186044416
 len:n.Body.length<=140737488355328
 body:iE n.Body
def Ns.Fit.ok {n:Ns} (h:n.Fit) (hm:m<=5000) (hb:n.Bufs.length<=150) (hw:vQ n.Body m<=m):n.Ok:=
 ⟨zB,h.dims,by have:=Oa hw;omega⟩
/-! ## For the reference's check -/
structure Bd where
 Name:nq
 Val:Int
 deriving DecidableEq
def Bd.cells (x:Bd):List C:=[cS x.Name,cI x.Val]
def ON (bd:List Bd) (s:nq):(bd.any λd=>decide (d.Name=s))=bQ (bd.map Bd.Name) s:=by
 unfold bQ;rw [List.any_map];rfl
def OO {bd:List Bd} {i:Nat} {d:Bd} {s:nq} (h:bd[i]? =some d):(((bd.take i).any λd=>decide (d.Name=s))||decide (d.Name=s))=(bd.take (i+1)).any λd=>decide (d.Name=s):=by
 rw [yB h,fj];simp
def OY {l:List Lf} {j:Nat} {x:Lf} {m:Mono} (h:l[k]? =some x) (hm:x.L[j]? =some m) (c:bQ sc m.Name=false):l.all (nU sc)=false:=by
 have:nU sc x=false:=VY hm (p:=λy:Mono=>bQ sc y.Name) c
 exact VY h this
def Kz (l:List Ix) (k:Nat):((l.take k).flatMap sr).length<=l.length+dI l:=by
 have h1:∀l:List Ix,(l.flatMap sr).length<=l.length+dI l:=by
  intro l
  induction l with
  |nil=>simp
  |cons x r ih=>
   rw [cc,qp,dI,Ix.wt,pw]
   simp only [sr,pw];omega
 have h2:=h1 (l.take k)
 have h3:dI (l.take k)<=dI l:=by
  have:∀(l:List Ix) (k:Nat),dI (l.take k)<=dI l:=by
   intro l
   induction l with
   |nil=>intro k;simp [dI]
   |cons x r ih=>intro k;cases k with
    |zero=>simp [dI]
    |succ k=>rw [av,dI,dI];have:=ih k;omega
  exact this l k
 have h4:=List.length_take_le' k l
 omega
def K5 (sc:List nq) (e:Ex):([e.Lin].all (nU sc)&&(e.Idx.flatMap sr).all (nU sc))=nE sc e:=by
 unfold nE
 congr 1
 ·simp
 ·rw [List.all_flatMap];rfl
def Nb (c:(![e.Lin].all (nU sc)|| !(e.Idx.flatMap sr).all (nU sc))=true):nE sc e=false:=by
 rw [<-Bool.not_and,K5] at c;simpa using c
def Nc (c:(![e.Lin].all (nU sc)|| !(e.Idx.flatMap sr).all (nU sc))=false):nE sc e=true:=by
 rw [<-Bool.not_and,K5] at c;simpa using c
def FJ:∀(arg_:List Ex) (ts:List Ty),(jP arg_ ts).length<=arg_.length
 |[],_=>by simp [jP]
 |_::_,[]=>by simp [jP]
 |a::r,t::ts=>by
  have:=FJ r ts
  rw [jP];split<;>simp<;>omega
def Yq {l:List Ty} (c:(decide (((l.map zl).length:Int)=2)&& !dG [cI (bU l 0).Kind,cI (bU l 0).Bits,cI (bU l 0).Frac,cI (bU l 0).Round,cI (bU l 0).Over] [cI (bU l 1).Kind,cI (bU l 1).Bits,cI (bU l 1).Frac,cI (bU l 1).Round,cI (bU l 1).Over])=true):l.length=2/\¬bU l 0=bU l 1:=by
 rw [ae,aj,pc] at c
 exact ⟨zB,Z0 c.2⟩
def Yp {l:List Ty} (c:(decide (((l.map zl).length:Int)=2)&& !dG [cI (bU l 0).Kind,cI (bU l 0).Bits,cI (bU l 0).Frac,cI (bU l 0).Round,cI (bU l 0).Over] [cI (bU l 1).Kind,cI (bU l 1).Bits,cI (bU l 1).Frac,cI (bU l 1).Round,cI (bU l 1).Over])=false):¬(l.length=2/\¬bU l 0=bU l 1):=by
 rintro ⟨h1,h2⟩
 rw [bk,ao,pc] at c
 rcases c with c|c
 ·omega
 ·exact h2 (WY c)
def Yr {l:List Ty} (h:fJ e=0) (hl:l.length=e.Args.length) (h1:¬(e.Op=1∨e.Op=12∨e.Op=2∨e.Op=3)) (h2:bV e=false):1<=(jP e.Args l).length:=by
 have hr:=zQn h
 have hc:=Et h
 obtain ⟨o1,o2⟩:=Dp (zHq h)
 have h13:e.Op<13:=by
  unfold bV at h2
  simp only [bk,ao] at h2
  omega
 generalize e.Args=A at hr hc hl
 have w:∀i,(e.Op=11->i≠0)->jL e.Op i=false:=λi hi=>by
  unfold jL;simp only [ax,bk,ao]
  by_cases h11:e.Op=11
  ·have:=hi h11;omega
  ·omega
 unfold bW at hr
 match A,l,hl with
 |[],_,_=>
  exfalso
  simp only [qw] at hr
  split at hr
  ·omega
  ·split at hr
   ·simp at hr
   ·split at hr<;>simp at hr
 |[a],[t],_=>
  simp only [hY,bq,fu] at hc
  have h11:e.Op≠11:=by rintro h11;rw [h11] at hr;simp at hr
  rw [w 0 (λh=>absurd h h11)] at hc
  rw [jP,aa (by rw [hc];simp)];simp
 |a::b::r,t::u::s,_=>
  simp only [hY,ae,fu] at hc
  have hb:=hc.2.1
  rw [w (0+1) (λ_=>by omega)] at hb
  rw [jP]
  split
  ·rw [jP,aa (by rw [hb];simp)];simp
  ·simp
 |[_],[],hl=>simp at hl
 |[_],_::_::_,hl=>simp at hl
 |_::_::_,[],hl=>simp at hl
 |_::_::_,[_],hl=>simp at hl
def YM {bd:List Bd}:(bd++[(⟨s.Name,s.Many⟩:Bd)]).map Bd.Name=bd.map Bd.Name++[s.Name]:=by simp
def pln_1 (c:((!decide (s.Op=1)&& !decide (s.Op=4))&& !mB s)=true):false=gT s:=by
 unfold gT
 simp only [ae,aA] at c
 simp only [c.1.1,c.1.2,c.2,Bool.or_self,bf]
def pln_2 (c:(((!decide (s.Op=1)&&(!decide (s.Many=0)|| !decide (s.Mark=0)))||(!decide (s.Op=3)&& !decide (s.Fold=0)))||(decide (s.Op=4)&& !decide (s.Name=bs [])))=true):false=gT s:=by
 rw [aD,aD] at c
 rcases c with (c|c)|c
 ·exact WE c
 ·exact WF c
 ·exact WD c
def pln_3 (c:((!mB s&&decide ((0:Int)<s.Idx.length))||(mB s&&decide ((0:Int)<s.Body.length)))=true):false=gT s:=by
 rw [aD] at c
 rcases c with c|c
 ·exact WG c
 ·unfold gT
  rw [ae,aj] at c
  have:decide ((s.Body.length:Int)=0)=false:=am zB
  simp only [c.1,this,aU,Bool.or_self,dj]
def pln_4 (c1:((!decide (s.Op=1)&& !decide (s.Op=4))&& !mB s)=false) (c2:(((!decide (s.Op=1)&&(!decide (s.Many=0)|| !decide (s.Mark=0)))||(!decide (s.Op=3)&& !decide (s.Fold=0)))||(decide (s.Op=4)&& !decide (s.Name=bs [])))=false) (c3:((!mB s&&decide ((0:Int)<s.Idx.length))||(mB s&&decide ((0:Int)<s.Body.length)))=false):(!decide (s.Op=1)||decide (s.E=zEx))=gT s:=by
 rw [ax,ax] at c2
 rw [ax] at c3
 have h1:(decide (s.Op=1)||mB s||decide (s.Op=4))=true:=by
  revert c1;cases decide (s.Op=1)<;>cases mB s<;>cases decide (s.Op=4)<;>simp
 have h7:(!mB s||decide ((s.Body.length:Int)=0))=true:=by
  have h:=c3.2
  rw [bk,ao] at h
  rcases h with h|h
  ·rw [h];rfl
  ·rw [show decide ((s.Body.length:Int)=0)=true from al zB,Bool.or_true]
 unfold gT tS
 simp only [h1,c2.1.1,c2.1.2,c2.2,c3.1,h7,cf,aM,bq,Bool.not_and,Bool.not_not]
def st3_t {a b:Ty} (h:(decide (n=0)&&(c|| !dG [cI a.Kind,cI a.Bits,cI a.Frac,cI a.Round,cI a.Over] [cI b.Kind,cI b.Bits,cI b.Frac,cI b.Round,cI b.Over]))=true):n=0/\(c=true∨¬a=b):=by
 rw [ae,aj] at h
 exact ⟨h.1,RE h.2⟩
def st3_f {a b:Ty} (h:(decide (n=0)&&(c|| !dG [cI a.Kind,cI a.Bits,cI a.Frac,cI a.Round,cI a.Over] [cI b.Kind,cI b.Bits,cI b.Frac,cI b.Round,cI b.Over]))=false):n=0->¬(c=true∨¬a=b):=by
 intro h0
 rw [al h0,aM] at h
 exact RD h
def Zn (h:(dS B sc (D7 s)).2=0) (h2:¬((jK B s.Name).Use=1∨(s.Op=3/\(s.Fold<1∨4<s.Fold)))) (h3:(dS B sc s.E).2=0->¬(bV s.E=true∨¬(dS B sc s.E).1=(jK B s.Name).T)):lQ B sc s=(dS B sc s.E).2:=by
 by_cases h4:(dS B sc s.E).2=0
 ·rw [GG h h2 h4 (h3 h4),h4]
 ·exact GI h h2 h4
def if_t (c:(decide ((dS B sc s.E).2=0)&& !bV s.E)=true):SL B sc s=10:=by
 rw [ae,aj] at c
 exact PQ c.1 (by simpa using c.2)
def Yl (c:(decide ((dS B sc s.E).2=0)&& !bV s.E)=false):SL B sc s=(dS B sc s.E).2:=by
 by_cases h:(dS B sc s.E).2=0
 ·rw [al h,aM] at c
  rw [Wg h xJ0,h]
 ·exact Wh h
def Se (c:40<nT 41 l):fC 40 l=false:=by
 cases h:fC 40 l with
 |false=>rfl
 |true=>have h2:nT 41 l<=40:=(zLb 40 l).2 h;omega
def Sf (c:nT 41 l<=40):fC 40 l=true:=(zLb 40 l).1 c
end Go.Br
end
section
namespace Go.L41
open Go Go.Eng
structure Lifetime where
 Name:nq
 From:Int
 To:Int
 Size:Int
def Lifetime.cells (x:Lifetime):List C:=[cS x.Name,cI x.From,cI x.To,cI x.Size]
abbrev vL (x:Lifetime):V:=.agg x.cells
def eB (a b:Lifetime):Bool:=decide (a.From<=b.To)&&decide (b.From<=a.To)
def eV (p:Int) (y:Lifetime):Bool:=decide (y.From<=p)&&decide (p<=y.To)
def cnt (l:List Lifetime) (p:Int):Int:=((l.filter (eV p)).length:Int)
def cnt_le (l:List Lifetime) (p:Int):0<=cnt l p/\cnt l p<=l.length:=by
 unfold cnt
 have:=dw (eV p) l
 omega
def iN (l:List Lifetime) (x:Lifetime) (j:Nat):Bool:=(l.take j).all λy=>eB x y
def iM (l:List Lifetime) (k:Nat):Bool:=(List.range k).all λi=>iN l (l.getD i ⟨ByteArray.empty,0,0,0⟩) i
def yp {l:List Lifetime} (h:iM l l.length=true) {i j:Nat} {x y:Lifetime} (hi:l[i]? =some x) (hj:l[j]? =some y) (hij:j<i):eB x y=true:=by
 have hlt:=(af.1 hi).1
 unfold iM at h
 rw [rl] at h
 have h1:=h i (cw.2 hlt)
 have e:l.getD i ⟨ByteArray.empty,0,0,0⟩=x:=by simp [List.getD,hi]
 rw [e] at h1
 unfold iN at h1
 rw [rl] at h1
 have hjl:=(af.1 hj).1
 exact h1 y (kx.2 ⟨j,zB,(af.1 hj).2⟩)
end Go.L41
end
section
namespace Go.Br
open Go Go.Eng Go.L41
structure Sp where
 From:Int
 To:Int
/-! ## Statements in preorder,with their paths -/
mutual
def KT (f:Lf->Lf×Int) (g:nq->nq):St->Except Int St
 |.mk o nm mn mk fo i e b=>match dR f i with
  |.error y=>.error y
  |.ok i'=>match pj f e with
   |.error y=>.error y
   |.ok e'=>match gV f g b with
    |.error y=>.error y
    |.ok b'=>.ok (.mk o (if o=1 then g nm else nm) mn mk fo i' e' b')
def gV (f:Lf->Lf×Int) (g:nq->nq):List St->Except Int (List St)
 |[]=>.ok []
 |s::r=>match KT f g s with
  |.error y=>.error y
  |.ok s'=>match gV f g r with
   |.error y=>.error y
   |.ok r'=>.ok (s'::r')
end
def Dc (f:Lf->Lf×Int) (g:nq->nq) (s:St):KT f g s=match dR f s.Idx with
  |.error y=>.error y
  |.ok i'=>match pj f s.E with
   |.error y=>.error y
   |.ok e'=>match gV f g s.Body with
    |.error y=>.error y
    |.ok b'=>.ok (.mk s.Op (if s.Op=1 then g s.Name else s.Name) s.Many s.Mark s.Fold i' e' b'):=by cases s;rw [KT];rfl
variable {f:Lf->Lf×Int} {g:nq->nq} {s:St} {c:Int}
def Qt (h:dR f s.Idx=.error c):KT f g s=.error c:=by rw [Dc,h]
variable {i:List Ix}
def YG (h:dR f s.Idx=.ok i) (h2:pj f s.E=.error c):KT f g s=.error c:=by rw [Dc,h];simp only [h2]
variable {e:Ex}
def YH (h:dR f s.Idx=.ok i) (h2:pj f s.E=.ok e) (h3:gV f g s.Body=.error c):KT f g s=.error c:=by rw [Dc,h];simp only [h2,h3]
def YK {b:List St} (h:dR f s.Idx=.ok i) (h2:pj f s.E=.ok e) (h3:gV f g s.Body=.ok b):KT f g s=.ok (.mk s.Op (if s.Op=1 then g s.Name else s.Name) s.Many s.Mark s.Fold i e b):=by rw [Dc,h];simp only [h2,h3]
mutual
def YJ {f:Lf->Lf×Int} {g:nq->nq}:∀s:St,KT f g s≠ .error 0
 |.mk o nm mn mk fo i e b=>by
  rw [KT]
  cases h1:dR f i with
  |error y=>intro h;cases h;exact uW h1
  |ok a=>
   cases h2:pj f e with
   |error y=>intro h;simp only at h;cases h;exact tv e h2
   |ok a=>
    cases h3:gV f g b with
    |error y=>intro h;simp only at h;cases h;exact De b h3
    |ok a=>simp
def De {f:Lf->Lf×Int} {g:nq->nq}:∀l:List St,gV f g l≠ .error 0
 |[]=>by simp [gV]
 |x::r=>by
  rw [gV]
  cases h1:KT f g x with
  |error y=>intro h;cases h;exact YJ x h1
  |ok a=>
   cases h2:gV f g r with
   |error y=>intro h;simp only at h;cases h;exact De r h2
   |ok a=>simp
end
def eY:Except Int (List St)->List St
 |.ok l=>l
 |.error _=>[]
variable {l done:List St} {k:Nat} {x:St}
def MY {y:St} (h:l[k]? =some x) (hp:gV f g l=bY done (gV f g (l.drop k))) (hx:KT f g x=.ok y):gV f g l=bY (done++[y]) (gV f g (l.drop (k+1))):=by
 rw [hp,qN h,gV,hx]
 cases gV f g (l.drop (k+1))<;>simp [bY,mI]
def zTe (h:l[k]? =some x) (hp:gV f g l=bY done (gV f g (l.drop k))) (hx:KT f g x=.error c):gV f g l=.error c:=by
 rw [hp,qN h,gV,hx];rfl
def Qu (hp:gV f g l=bY done (gV f g (l.drop k))) (h:¬k<l.length):gV f g l=.ok done:=by
 rw [hp,kN h];simp [gV,bY,mI]
mutual
def YI:∀s:St,KT SK (λx=>x) s=.ok s
 |.mk o nm mn mk fo i e b=>by
  rw [KT,Db,Qn];simp only [Dd b]
  by_cases h:o=1
  ·rw [ab h]
  ·rw [aa h]
def Dd:∀l:List St,gV SK (λx=>x) l=.ok l
 |[]=>by rw [gV]
 |x::r=>by rw [gV,YI x,Dd r]
end
def xE (P:Lf->Prop) (i:List Ix):Prop:=∀x,x∈i->P x.Lin/\∀l,l∈x.At->P l
mutual
def St.allF (P:Lf->Prop):St->Prop
 |.mk _ _ _ _ _ i e b=>xE P i/\e.allF P/\pY P b
def pY (P:Lf->Prop):List St->Prop
 |[]=>True
 |s::r=>s.allF P/\pY P r
end
def St.allF_eq {P:Lf->Prop} (h:s.allF P):xE P s.Idx/\s.E.allF P/\pY P s.Body:=by cases s;rw [St.allF] at h;exact h
def zRz {P:Lf->Prop}:∀{l:List St},pY P l->∀s,s∈l->s.allF P
 |[],_,s,hs=>by cases hs
 |x::r,h,s,hs=>by
  rw [pY] at h
  rcases ag.1 hs with rfl|hs
  ·exact h.1
  ·exact zRz h.2 s hs
/-! ## Sets of names -/
/-! ## One form: a name for a name -/
def N7 (t:nq):Lf:=⟨0,[⟨t,1⟩]⟩
variable {t:nq}
def R6 (h:bB t=true):bI (N7 t)=true:=by show (bB t&&_&&_&&_)=true;rw [h];rfl
def nH (f t:nq) (l:Lf):Lf:=if (bS l f (N7 t)).2=0 then (bS l f (N7 t)).1 else l
def zMu:∀(n:Nat) (a b:List Mono),a.length+b.length<=n->(∀x,x∈a->∀y,y∈b->x.Name≠y.Name)->∀t,t∈bE a b↔(∃m,m∈a/\t=(m.Name,m.By,0))∨∃m,m∈b/\t=(m.Name,0,m.By)
 |_,[],[],_,_,t=>by rw [zHt];simp
 |0,_::_,_,h,_,_=>by simp at h
 |0,[],_::_,h,_,_=>by simp at h
 |n+1,x::r,[],h,hd,t=>by
  rw [S2,rp,zMu n r [] Cb (λ_ _ _ hy=>by cases hy) t]
  simp
 |n+1,[],y::s,h,hd,t=>by
  rw [S0,rp,zMu n [] s Cb (λ_ hx=>by cases hx) t]
  simp
 |n+1,x::r,y::s,h,hd,t=>by
  rw [LX]
  cases h1:bF x.Name y.Name with
  |true=>
   rw [aB,rp,zMu n r (y::s) Cb (λa ha b hb=>hd a (by simp [ha]) b hb) t]
   simp only [rp,nf,or_assoc]
  |false=>
   rw [aw]
   cases h2:bF y.Name x.Name with
   |true=>
    rw [aB,rp,zMu n (x::r) s Cb (λa ha b hb=>hd a ha b Vx) t]
    simp only [rp,nf]
    constructor
    ·rintro (h|h|h)
     ·exact .inr (.inl h)
     ·exact .inl h
     ·exact .inr (.inr h)
    ·rintro (h|h|h)
     ·exact .inr (.inl h)
     ·exact .inl h
     ·exact .inr (.inr h)
   |false=>exact absurd (Oi h1 h2) (hd x uF y uF)
def Vf {ts:List Tr} {m:Mono}:m∈lP ts↔∃u,u∈ts/\rh (ti u)≠0/\m=⟨u.1,rh (ti u)⟩:=by
 unfold lP
 rw [iw]
 constructor
 ·rintro ⟨u,hu,e⟩
  by_cases c:rh (ti u)=0
  ·rw [ab c] at e;cases e
  ·rw [aa c] at e;injection e with e;exact ⟨u,hu,c,e.symm⟩
 ·rintro ⟨u,hu,c,e⟩
  exact ⟨u,hu,by rw [aa c,e]⟩
def Lm {a:List Mono} {b:Int} (ha:∀m,m∈a->m.Name≠t/\m.By≠0/\oQ m.By) (hb:b≠0) (hr:oQ b):
  (mK b (bE a [⟨t,1⟩])).all sR=true/\∀m,m∈lP (mK b (bE a [⟨t,1⟩]))↔m∈a∨m=⟨t,b⟩:=by
 have key:∀u,u∈mK b (bE a [⟨t,1⟩])↔(∃m,m∈a/\u=(m.Name,m.By,0))∨u=(t,0,b):=by
  intro u
  unfold mK
  rw [aY]
  have hm:=zMu _ a [⟨t,1⟩] (aC _) (λx hx y hy=>by
   rw [aR] at hy;subst hy;exact (ha x hx).1)
  constructor
  ·rintro ⟨v,hv,rfl⟩
   rcases (hm v).1 hv with ⟨m,h1,rfl⟩|⟨m,h1,rfl⟩
   ·exact .inl ⟨m,h1,uF⟩
   ·rw [aR] at h1;subst h1;exact .inr uF
  ·rintro (⟨m,h1,rfl⟩|rfl)
   ·exact ⟨(m.Name,m.By,0),(hm _).2 (.inl ⟨m,h1,rfl⟩),uF⟩
   ·exact ⟨(t,0,1),(hm _).2 (.inr ⟨_,aR.2 rfl,rfl⟩),uF⟩
 have v1:∀m:Mono,ti (m.Name,m.By,0)=m.By:=λm=>by simp [ti]
 have v2:ti (t,0,b)=b:=by simp [ti]
 constructor
 ·rw [rl]
  intro u hu
  unfold sR
  rcases (key u).1 hu with ⟨m,h1,rfl⟩|rfl
  ·rw [v1];exact al (ha m h1).2.2
  ·rw [v2];exact al hr
 ·intro m
  rw [Vf]
  constructor
  ·rintro ⟨u,hu,h1,rfl⟩
   rcases (key u).1 hu with ⟨x,h2,rfl⟩|rfl
   ·rw [v1,Om (ha x h2).2.2];exact .inl h2
   ·rw [v2,Om hr];exact .inr rfl
  ·rintro (h1|rfl)
   ·exact ⟨_,(key _).2 (.inl ⟨m,h1,rfl⟩),by rw [v1,Om (ha m h1).2.2];exact (ha m h1).2.1,by rw [v1,Om (ha m h1).2.2]⟩
   ·exact ⟨_,(key _).2 (.inr rfl),by rw [v2,Om hr];exact hb,by rw [v2,Om hr]⟩
def yb:∀{p:Option nq} {l:List Mono},bN p l=true->∀x,x∈l->∀y,y∈l->x.Name=y.Name->x=y
 |_,[],_,x,hx,_,_,_=>by cases hx
 |p,z::r,h,x,hx,y,hy,e=>by
  simp only [bN,ae] at h
  have haft:=zIf h.2
  rcases ag.1 hx with e1|hx1
  ·rcases ag.1 hy with e2|hy1
   ·rw [e1,e2]
   ·have:=haft y hy1;rw [<-e,e1,OA] at this;cases this
  ·rcases ag.1 hy with e2|hy1
   ·have:=haft x hx1;rw [e,e2,OA] at this;cases this
   ·exact yb h.2 x hx1 y hy1 e
def Je {l:Lf} {f:nq} (h1:bI l=true) (hf:bB f=true) (ht:bB t=true) (hr:l.rng) (hn:¬eE l t):
  (nH f t l).K=l.K/\bI (nH f t l)=true/\(nH f t l).rng/\∀m,m∈(nH f t l).L↔(m∈l.L/\m.Name≠f)∨(m.Name=t/\⟨f,m.By⟩∈l.L):=by
 have h2:=R6 ht
 by_cases c:bO l.L f=0
 ·have e:bS l f (N7 t)=(l,0):=by unfold bS;rw [ab ⟨h1,h2,hf⟩,ab c]
  have e2:nH f t l=l:=by unfold nH;rw [e];rfl
  rw [e2]
  refine ⟨rfl,h1,hr,λm=>⟨λhm=>.inl ⟨hm,zQy h1 c m hm⟩,?_⟩⟩
  rintro (h|⟨_,h⟩)
  ·exact h.1
  ·exact absurd rfl (zQy h1 c _ h)
 ·have hb:=zQz hr f
  obtain ⟨g1,g2⟩:=Lm (a:=(lZ l f).L) (t:=t) (b:=bO l.L f) (λm hm=>by
   have hm':=dg.1 hm
   exact ⟨λe=>hn ⟨m,hm'.1,e⟩,(zHr h1 m hm'.1).1,hr.2 m hm'.1⟩) c hb
  have e:bS l f (N7 t)=(⟨l.K,lP (mK (bO l.L f) (bE (lZ l f).L [⟨t,1⟩]))⟩,0):=by
   exact v27
  have e2:nH f t l=⟨l.K,lP (mK (bO l.L f) (bE (lZ l f).L [⟨t,1⟩]))⟩:=by unfold nH;rw [e];rfl
  have h3:=BT h1 h2 hf (by rw [e])
  rw [e] at h3
  obtain ⟨m0,q1,q2,q3⟩:=H6 c
  rw [e2]
  refine ⟨rfl,h3,⟨hr.1,λm hm=>DS hm⟩,λm=>?_⟩
  show m∈lP _↔_
  rw [g2 m]
  constructor
  ·rintro (h|rfl)
   ·have hm':=dg.1 h
    exact .inl ⟨hm'.1,by simpa using hm'.2⟩
   ·refine .inr ⟨rfl,?_⟩
    have:(⟨f,bO l.L f⟩:Mono)=m0:=by cases m0;simp_all
    rw [this];exact q1
  ·rintro (⟨h,h'⟩|⟨h,h'⟩)
   ·exact .inl (dg.2 ⟨h,by simpa using h'⟩)
   ·refine .inr ?_
    have:=yb h1 _ h' _ q1 q2.symm
    have e4:m.By=bO l.L f:=by rw [<-q3,<-this]
    cases m;simp_all
def Yy (e:Ex):e.Lin∈dH e:=by unfold dH;simp
def Wk {x:Ix} (h:x∈e.Idx):x.Lin∈dH e/\∀l,l∈x.At->l∈dH e:=by
 unfold dH
 refine ⟨aH _ (dm.2 ⟨x,h,uF⟩),λl hl=>aH _ (dm.2 ⟨x,h,by simp [hl]⟩)⟩
def Yh {g:Lf->Lf} {x:Ix} (h1:g x.Lin=x.Lin) (h2:∀l,l∈x.At->g l=l):xc g x=x:=by
 unfold xc
 rw [h1,show x.At.map g=x.At from by
  rw [dr (g:=id) (λl hl=>h2 l hl)];simp]
def T1 {g:Lf->Lf} {l:List Ix} (h:∀x,x∈l->g x.Lin=x.Lin/\∀y,y∈x.At->g y=y):l.map (xc g)=l:=by
 rw [show l.map (xc g)=l.map id from dr λx hx=>Yh (h x hx).1 (h x hx).2];simp
def Yg {g:Lf->Lf}:∀e:Ex,e.allF (λl=>g l=l)->qh g e=e:=by
 intro e
 induction e using Ex.ind with
 |_ e ih=>
  intro h
  have h0:∀l,l∈dH e->g l=l:=h e ZM
  have hA:e.Args.map (qh g)=e.Args:=by
   rw [dr (g:=id) (λa ha=>ih a ha λx hx l hl=>h x (by
    rw [G8]
    refine aH _ ?_
    have:∀l:List Ex,a∈l->x∈dE a->x∈bT l:=by
     intro l
     induction l with
     |nil=>intro h;cases h
     |cons b r ih2=>
      intro hm hx
      rw [bT]
      rcases ag.1 hm with rfl|hm
      ·exact d7 _ hx
      ·exact dp _ (ih2 hm hx)
    exact this e.Args ha hx) l hl)];simp
  rw [Xj,h0 _ (Yy e),T1 (λx hx=>⟨h0 _ (Wk hx).1,λy hy=>h0 _ ((Wk hx).2 y hy)⟩),hA]
  cases e;rfl
def T0 (g g':Lf->Lf) (x:Ix):xc g' (xc g x)=xc (λl=>g' (g l)) x:=by
 unfold xc;simp [fx,my]
mutual
def Kt (g g':Lf->Lf):∀e:Ex,qh g' (qh g e)=qh (λl=>g' (g l)) e
 |.mk o n v t l i a=>by
  rw [qh,qh,qh,Bb g g' a,fx]
  congr 1
  exact dr λx _=>T0 g g' x
def Bb (g g':Lf->Lf):∀l:List Ex,rP g' (rP g l)=rP (λl=>g' (g l)) l
 |[]=>by rw [rP,rP,rP]
 |a::r=>by rw [rP,rP,rP,Kt g g' a,Bb g g' r]
end
def oC:Except Int (List Ix)->List Ix
 |.ok l=>l
 |.error _=>[]
def Qq (h:gM (dR f i)=0):∃a,dR f i=.ok a:=zZz h uW
def Ql (h:gM (pj f e)=0):∃a,pj f e=.ok a:=zZz h (tv e)
def YL (h:gM (gV f g l)=0):∃a,gV f g l=.ok a:=zZz h (De l)
def HO {α:Type} {x:Except Int α} (h:¬gM x=0):x=.error (gM x):=by
 cases x with
 |ok a=>exact absurd rfl h
 |error c=>rfl
def x8 (h:¬gM (dR f i)=0):dR f i=.error (gM (dR f i)):=HO h
def Ue (h:¬gM (pj f e)=0):pj f e=.error (gM (pj f e)):=HO h
def Qv (h:¬gM (gV f g l)=0):gV f g l=.error (gM (gV f g l)):=HO h
def MF {P:Lf->Prop} (h:e.allF P):xE P e.Idx:=λx hx=>⟨Ex.allF_ix h hx,λl hl=>Ex.allF_at h hx hl⟩
def Fz {A:List (List C)} (hA:A.length=k) (h:l[k]? =some x):(A++(l.drop k).map St.cells)[k]? =some x.cs:=by
 rw [zTd hA h,St.cells_eq]
mutual
def RG {B:Nat}:∀s:St,s.wt<=B->s.allF (λl=>l.L.length<=B)
 |.mk o nm mn mk fo i e b,h=>by
  rw [St.allF]
  rw [St.wt] at h
  refine ⟨λx hx=>?_,λx hx l hl=>zWc (aL (zId e x hx) zB) hl,zSg b zB⟩
  have:=Ss hx
  rw [Ix.wt] at this
  exact ⟨zB,λl hl=>by have:=Sr hl;omega⟩
def zSg {B:Nat}:∀l:List St,bR l<=B->pY (λl=>l.L.length<=B) l
 |[],_=>by rw [pY];trivial
 |s::r,h=>by
  rw [bR] at h
  rw [pY]
  exact ⟨RG s zB,zSg r zB⟩
end
def NT {B:Nat} (h:bR l<=B):pY (λl=>l.L.length<=B) l:=zSg l h
/-! ## What renaming keeps -/
end Go.Br
end
