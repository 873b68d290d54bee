/-
  The program's data,in plain Lean: linear forms,indices,expressions; and the cells that hold them.
  And what the laws need besides.
  Conditions: none.
-/
import Derived.Test.YtgfomfnjionbeaaGreatDoorEngY
import Derived.Test.YtgfomfnjionbeaaGreatDoorNames
import Derived.Test.YtgfomfnjionbeaaGreatDoorEngZ
import Derived.Test.YtgfomfnjionbeaaGreatDoorCfg
import Derived.Lib.Bytealg
set_option linter.unusedSimpArgs false
set_option linter.unusedVariables false
set_option linter.defProp false
section
namespace Go.Br
open Go Go.Eng Go.L41
structure Mono where
 Name:nq
 By:Int
 deriving DecidableEq
structure Lf where
 K:Int
 L:List Mono
 deriving DecidableEq
structure Vl where
 N:Int
 D:Int
 deriving DecidableEq
structure Ty where
 Kind:Int
 Bits:Int
 Frac:Int
 Round:Int
 Over:Int
 deriving DecidableEq
structure Ix where
 Lin:Lf
 From:nq
 At:List Lf
 deriving DecidableEq
inductive Ex where
 |mk (op:Int) (name:nq) (val:Vl) (ty:Ty) (lin:Lf) (idx:List Ix) (args:List Ex)
namespace Ex
def Op:Ex->Int|mk o _ _ _ _ _ _=>o
def Name:Ex->nq|mk _ x _ _ _ _ _=>x
def Val:Ex->Vl|mk _ _ x _ _ _ _=>x
def Ty:Ex->Br.Ty|mk _ _ _ x _ _ _=>x
def Lin:Ex->Lf|mk _ _ _ _ x _ _=>x
def Idx:Ex->List Ix|mk _ _ _ _ _ x _=>x
def Args:Ex->List Ex|mk _ _ _ _ _ _ x=>x
def eta (e:Ex):e=mk e.Op e.Name e.Val e.Ty e.Lin e.Idx e.Args:=by cases e;rfl
def ind {P:Ex->Prop} (h:∀e:Ex,(∀a,a∈e.Args->P a)->P e) (e:Ex):P e:=
 Ex.rec (motive_1:=P) (motive_2:=λl=>∀a,a∈l->P a) (λo n v t l i arg_ ih=>h (mk o n v t l i arg_) ih) (λa h=>by cases h)
  (λx l hx hl a ha=>by rcases ag.1 ha with rfl|ha;exact hx;exact hl a ha) e
end Ex
mutual
def Ex.eqB:Ex->Ex->Bool
 |.mk o n v t l i arg_,.mk o' n' v' t' l' i' bs=>decide (o=o')&&decide (n=n')&&decide (v=v')&&decide (t=t')&&decide (l=l')&&decide (i=i')&&cP arg_ bs
def cP:List Ex->List Ex->Bool
 |[],[]=>true
 |a::arg_,b::bs=>Ex.eqB a b&&cP arg_ bs
 |_,_=>false
end
mutual
def Ex.eqB_iff:∀a b:Ex,Ex.eqB a b=true↔a=b
 |.mk o n v t l i arg_,.mk o' n' v' t' l' i' bs=>by
  simp only [Ex.eqB,ae,aj,EJ arg_ bs,Ex.mk.injEq]
  constructor
  ·rintro ⟨⟨⟨⟨⟨⟨h1,h2⟩,h3⟩,h4⟩,h5⟩,h6⟩,h7⟩;exact ⟨h1,h2,h3,h4,h5,h6,h7⟩
  ·rintro ⟨h1,h2,h3,h4,h5,h6,h7⟩;exact ⟨⟨⟨⟨⟨⟨h1,h2⟩,h3⟩,h4⟩,h5⟩,h6⟩,h7⟩
def EJ:∀a b:List Ex,cP a b=true↔a=b
 |[],[]=>by simp [cP]
 |a::arg_,b::bs=>by simp only [cP,ae,Ex.eqB_iff a b,EJ arg_ bs,dh]
 |[],_::_=>by simp [cP]
 |_::_,[]=>by simp [cP]
end
instance:DecidableEq Ex:=λa b=>decidable_of_iff _ (Ex.eqB_iff a b)
def Ex.eq_iff (a b:Ex):a=b↔a.Op=b.Op/\a.Name=b.Name/\a.Val=b.Val/\a.Ty=b.Ty/\a.Lin=b.Lin/\a.Idx=b.Idx/\a.Args=b.Args:=by
 cases a;cases b;simp only [Ex.mk.injEq];rfl
def Mono.cells (x:Mono):List C:=[cS x.Name,cI x.By]
def Lf.cells (x:Lf):List C:=[cI x.K,.sl 2 (x.L.map Mono.cells)]
def Ix.cells (x:Ix):List C:=[cI x.Lin.K,.sl 2 (x.Lin.L.map Mono.cells),cS x.From,.sl 2 (x.At.map Lf.cells)]
def Vl.cells (v:Vl):List C:=[cI v.N,cI v.D]
mutual
def Ex.cells:Ex->List C
 |.mk o n v t l i arg_=>[cI o,cS n,cI v.N,cI v.D,cI t.Kind,cI t.Bits,cI t.Frac,cI t.Round,cI t.Over,cI l.K,.sl 2 (l.L.map Mono.cells),.sl 4 (i.map Ix.cells),.sl 13 (xK arg_)]
def xK:List Ex->List (List C)
 |[]=>[]
 |e::r=>e.cells::xK r
end
def AP (l:List Ex):xK l=l.map Ex.cells:=by
 induction l with
 |nil=>rfl
 |cons e r ih=>rw [xK,ih];rfl
def Ex.cs (e:Ex):List C:=[cI e.Op,cS e.Name,cI e.Val.N,cI e.Val.D,cI e.Ty.Kind,cI e.Ty.Bits,cI e.Ty.Frac,cI e.Ty.Round,cI e.Ty.Over,cI e.Lin.K,.sl 2 (e.Lin.L.map Mono.cells),.sl 4 (e.Idx.map Ix.cells),.sl 13 (e.Args.map Ex.cells)]
def Ex.cells_eq (e:Ex):e.cells=e.cs:=by
 cases e;rw [Ex.cells,AP];rfl
abbrev tG (x:Mono):V:=.agg x.cells
abbrev cG (l:List Mono):V:=.c (.sl 2 (l.map Mono.cells))
abbrev dF (x:Lf):V:=.agg x.cells
abbrev mL (l:List Lf):V:=.c (.sl 2 (l.map Lf.cells))
abbrev jW (x:Ix):V:=.agg x.cells
abbrev mX (l:List Ix):V:=.c (.sl 4 (l.map Ix.cells))
abbrev vE (x:Ex):V:=.agg x.cs
abbrev vEs (l:List Ex):V:=.c (.sl 13 (l.map Ex.cells))
abbrev rq (t:Ty):V:=.agg [cI t.Kind,cI t.Bits,cI t.Frac,cI t.Round,cI t.Over]
abbrev tZ (v:Vl):V:=.agg [cI v.N,cI v.D]
abbrev sL (n:Int):V:=.c (.lit (.int .u64 n))
variable {k:Nat}
def Aa {l:List Ex} {x:Ex} (h:l[k]? =some x):(l.map Ex.cells)[k]? =some x.cs:=by
 rw [oI h,Ex.cells_eq]
def fY:List Lf->Nat
 |[]=>0
 |l::r=>l.L.length+fY r
def Ix.wt (x:Ix):Nat:=x.Lin.L.length+x.At.length+fY x.At
def dI:List Ix->Nat
 |[]=>0
 |x::r=>x.wt+dI r
mutual
def Ex.wt:Ex->Nat
 |.mk _ _ _ _ l i arg_=>1+l.L.length+i.length+dI i+dX arg_
def dX:List Ex->Nat
 |[]=>0
 |e::r=>e.wt+dX r
end
def Ex.wt_eq (e:Ex):e.wt=1+e.Lin.L.length+e.Idx.length+dI e.Idx+dX e.Args:=by cases e;rw [Ex.wt];rfl
def Ex.wt_pos (e:Ex):1<=e.wt:=by rw [Ex.wt_eq];omega
variable {a:Ex}
def Hr {l:List Ex} (h:a∈l):a.wt+(l.length-1)<=dX l:=by
 induction l with
 |nil=>cases h
 |cons x r ih=>
  rw [dX]
  rcases ag.1 h with rfl|h
  ·have:r.length<=dX r:=by
    clear ih h
    induction r with
    |nil=>simp [dX]
    |cons y r ih=>rw [dX,pw];have:=y.wt_pos;omega
   simp;omega
  ·have:=ih h
   have:=x.wt_pos
   have:0<r.length:=je h
   simp;omega
def Hq (l:List Ex):l.length<=dX l:=by
 induction l with
 |nil=>simp [dX]
 |cons y r ih=>rw [dX,pw];have:=y.wt_pos;omega
def Sr {l:List Lf} {a:Lf} (h:a∈l):a.L.length<=fY l:=by
 induction l with
 |nil=>cases h
 |cons x r ih=>
  rw [fY]
  exact v43
def Ss {l:List Ix} {a:Ix} (h:a∈l):a.wt<=dI l:=by
 induction l with
 |nil=>cases h
 |cons x r ih=>
  rw [dI]
  exact v43
variable {e:Ex} {B:Nat}
def Ex.parts (h:e.wt<=B):e.Lin.L.length<=B/\e.Idx.length<=B/\e.Args.length<=B:=by
 rw [Ex.wt_eq] at h
 have:=Hq e.Args
 omega
def Ex.arg_wt (h:a∈e.Args):a.wt<e.wt:=by
 rw [Ex.wt_eq e]
 have:=Hr h
 omega
variable {x:Ix}
def Ex.idx_wt (h:x∈e.Idx):x.Lin.L.length<=e.wt/\x.At.length<=e.wt/\fY x.At<=e.wt:=by
 rw [Ex.wt_eq e]
 have:=Ss h
 unfold Ix.wt at this
 omega
variable {α:Type} {l:List α}
def qN {x:α} (h:l[k]? =some x):l.drop k=x::l.drop (k+1):=by
 have hk:k<l.length:=(af.1 h).1
 rw [ed hk]
 rw [ak hk] at h
 simp at h
 rw [h]
def kN (h:¬k<l.length):l.drop k=[]:=cl zB
variable {b:List α} {y:α}
def zDl {a:List α} {x:α} (hx:a[k]? =some x) (hy:b[k]? =some y) (h:a.take k=b.take k) (e:x=y):a.take (k+1)=b.take (k+1):=by
 rw [yB hx,yB hy,h,e]
def zGd {a:List α} (h:a.take k=b.take k) (h1:¬k<a.length) (h2:a.length=b.length):a=b:=by
 rw [yG h1,yG zB] at h
 exact h
def zIe {a:List α} {x:α} (hx:a[k]? =some x) (hy:b[k]? =some y) (h:¬x=y):¬a=b:=by
 rintro rfl
 rw [hx] at hy
 exact h (Option.some.inj hy)
def kH {p:Prop} [Decidable p] (h:¬p):decide p=false:=am h
def Hk {p:Prop} [Decidable p] (h:p):decide p=true:=al h
def qD {x:α} (h:l[k]? =some x):x∈l:=bw h
/-! ## Linear forms -/
def Wo:Option nq->nq->Bool
 |none,_=>true
 |some q,n=>bF q n
def bN:Option nq->List Mono->Bool
 |_,[]=>true
 |p,m::r=>bB m.Name&& !decide (m.By=0)&&Wo p m.Name&&bN (some m.Name) r
def bI (l:Lf):Bool:=bN none l.L
def dM (l:Lf):Int:=bif bI l then 0 else 1
def pv (l:List Mono) (k:Nat):Mono:=l.getD (k-1) ⟨bs [],0⟩
def pP (l:List Mono) (k:Nat):Option nq:=if k=0 then none else some (pv l k).Name
def eF (l:List Mono) (k:Nat) (x:Mono):Bool:=(!bB x.Name||decide (x.By=0))||(decide ((0:Int)<k)&& !bF (pv l k).Name x.Name)
def Q1 {f:Mono->α} {l:List Mono} (h0:0<k) (h:k<=l.length):(l.map f)[((k:Int)-1).toNat]? =some (f (pv l k)):=by
 have e:((k:Int)-1).toNat=k-1:=by omega
 have h1:k-1<l.length:=by omega
 rw [e,cg,ak h1]
 simp [pv,List.getD,ak h1]
def UP {l:List Mono} {x:Mono} (h:l[k]? =some x):pv l (k+1)=x:=by simp [pv,List.getD,h]
def zNz {l:List Mono} {x:Mono} (h:l[k]? =some x):bN (pP l k) (l.drop k)=(!eF l k x&&bN (pP l (k+1)) (l.drop (k+1))):=by
 rw [qN h,bN]
 have e:pP l (k+1)=some x.Name:=by simp [pP,UP h]
 rw [e]
 congr 1
 unfold eF pP Wo
 by_cases hk:k=0
 ·subst hk;simp
 ·have hk':(0:Int)<k:=by omega
  rw [aa hk,al hk']
  cases bB x.Name<;>cases decide (x.By=0)<;>simp
def BA {l:List Mono} (h:¬k<l.length):bN (pP l k) (l.drop k)=true:=by
 rw [kN h];cases pP l k<;>rfl
def dK (s:nq):Lf:=bif bB s then ⟨0,[⟨s,1⟩]⟩ else ⟨0,[]⟩
def dL:List Mono->nq->Int
 |[],_=>0
 |m::r,s=>if m.Name=s then m.By else dL r s
def fA {α:Type} (p:α->Bool):List α->Int
 |[]=> -1
 |x::r=>bif p x then 0 else (bif decide (fA p r= -1) then-1 else fA p r+1)
def E5 (p:α->Bool) (l:List α): -1<=fA p l:=by
 induction l with
 |nil=>simp [fA]
 |cons x r ih=>unfold fA;cases p x<;>simp;by_cases h:fA p r= -1<;>simp [h];omega
def zRd (p:α->Bool) (l:List α):decide (0<=fA p l)=l.any p:=by
 induction l with
 |nil=>rfl
 |cons x r ih=>
  have:=E5 p r
  unfold fA
  cases hp:p x
  ·simp only [aw,ef,hp,dq,<-ih]
   by_cases h:fA p r= -1
   ·simp [h]
   ·simp [h];omega
  ·simp [hp]
variable {p:α->Bool}
def zGk {x:α} (h:l[k]? =some x) (hp:p x=true) (hn:(l.take k).any p=false):fA p l=k:=by
 induction l generalizing k with
 |nil=>simp at h
 |cons y r ih=>
  cases k with
  |zero=>simp at h;subst h;simp [fA,hp]
  |succ k=>
   simp only [av,ef,ax] at hn
   have:=ih (k:=k) tk hn.2
   simp only [fA,hn.1,aw,this]
   have h2:¬((k:Int)= -1):=by omega
   simp [h2]
def zDz (hn:l.any p=false):fA p l= -1:=by
 induction l with
 |nil=>rfl
 |cons y r ih=>
  simp only [ef,ax] at hn
  simp [fA,hn.1,ih hn.2]
def ZW {x:α} (h:l[k]? =some x) (hn:(l.take k).any p=false) (hp:p x=false):(l.take (k+1)).any p=false:=by
 rw [yB h,fj,hn];simp [hp]
/-! ## Types and values -/
def dO (t:Ty):Bool:=
 ((decide (t.Kind=1)||decide (t.Kind=3))&&decide (t.Bits=0)&&decide (t.Frac=0)&&decide (t.Round=0)&&decide (t.Over=0))||
 (decide (t.Kind=2)&&decide (2<=t.Bits)&&decide (t.Bits<=31)&&decide (0<=t.Frac)&&decide (t.Frac<=30)&&decide (1<=t.Round)&&decide (t.Round<=4)&&(decide (t.Over=1)||decide (t.Over=2)))
def bZ (t:Ty):Int:=bif dO t then 0 else 10
def gQ (t:Ty):Bool:=decide (t.Kind=2)&&decide (2<=t.Bits)&&decide (t.Bits<=31)&&decide (0<=t.Frac)&&decide (t.Frac<=30)&&decide (1<=t.Round)&&decide (t.Round<=4)&&(decide (t.Over=1)||decide (t.Over=2))
def mY (b:Int):Int:=2^(b-1).toNat
def rQ (n:Int):Bool:=decide (-2147483647<=n)&&decide (n<=2147483647)
def jR (t:Ty) (v:Vl):Bool:=
 bif decide (t.Kind=2) then decide (v.D=1)&&decide (-mY t.Bits<=v.N)&&decide (v.N<mY t.Bits)
 else bif decide (t.Kind=3) then decide (v.D=1)&&rQ v.N
 else decide (1<=v.D)&&decide (v.D<=2147483647)&&rQ v.N&&decide (Int.gcd v.N v.D=1)
def rZ (t:Ty):Vl:=bif dO t then ⟨0,1⟩ else ⟨0,0⟩
def ZV {t:Ty} (h:t.Kind=2):dO t=gQ t:=by simp [dO,gQ,h]
def CT {b:Int} (h1:2<=b) (h2:b<=31):1<=mY b/\mY b<=1073741824:=by
 unfold mY
 have h3:(b-1).toNat<=30:=by omega
 have h4:(2:Int)^(b-1).toNat<=2^30:=by
  have:=jl (n:=2) zB h3
  exact_mod_cast this
 have h5:(1:Int)<=2^(b-1).toNat:=by
  have:=Nat.one_le_two_pow (n:=(b-1).toNat)
  exact_mod_cast this
 omega
/-! ## Conditions as the walks meet them -/
def Yz {a b:Lf} (h:a.K=b.K) (k:a.L=b.L):a=b:=by cases a;cases b;simp_all
def Uo {x y:Mono} (h:(!dG x.cells y.cells)=true):¬x=y:=by
 rintro rfl
 simp [dG,SJ,Mono.cells] at h
def Un {x y:Mono} (h:(!dG x.cells y.cells)=false):x=y:=by
 cases x;cases y
 simpa [dG,SJ,Mono.cells] using h
def xL (s:nq) (k:Nat):Int:=(s.data.toList.getD k 0).toNat
def xG (s:nq):Bool:=(((decide ((s.size:Int)<1)||decide ((16:Int)<s.size))||bQ fV s)||decide (xL s 0<97))||decide (122<xL s 0)
variable {s:nq}
def PL (h:xG s=true):bB s=false:=by
 unfold xG xL at h
 cases hn:bB s with
 |false=>rfl
 |true=>
  exfalso
  simp only [bB,ae,aj,aA] at hn
  obtain ⟨⟨⟨⟨h1,h2⟩,h3⟩,h4⟩,h5⟩:=hn
  have h6:s.data.toList.head? =some (s.data.toList.getD 0 0):=by rw [gu];exact S3 zB
  rw [h6] at h3
  simp only [kp,pQ,nX,ae,aj] at h3
  simp only [aD,aj,h5] at h
  rcases h with (((h|h)|h)|h)|h
  ·omega
  ·omega
  ·cases h
  ·omega
  ·omega
def Mv (h:xG s=false):1<=s.size/\s.size<=16/\bB s=s.data.toList.all gY:=by
 unfold xG xL at h
 simp only [ax,ao] at h
 obtain ⟨⟨⟨⟨h1,h2⟩,h3⟩,h4⟩,h5⟩:=h
 have h7:1<=s.size:=by omega
 refine ⟨h7,zB,?_⟩
 have h6:s.data.toList.head? =some (s.data.toList.getD 0 0):=by rw [gu];exact S3 zB
 unfold bB
 rw [h6,h3]
 have e1:decide (1<=s.size)=true:=by simp;omega
 have e2:decide (s.size<=16)=true:=by simp;omega
 have e3:pQ (s.data.toList.getD 0 0)=true:=by simp only [pQ,nX,ae,aj];omega
 simp only [e1,e2,kp,e3,aM,cf,bq]
def tC (n:Int):Bool:=((decide (n<97)||decide (122<n))&&(decide (n<48)||decide (57<n)))&& !decide (n=95)
def ym (c:UInt8):tC c.toNat= !gY c:=by
 unfold tC gY sJ nX xJ
 rw [cv]
 simp only [ae,aD,aA,ax,bk,aj,ao]
 omega
def Vu (hlt:k<s.size) (h:tC ((s.data.toList.getD k 0).toNat:Int)=true):s.data.toList.all gY=false:=by
 rw [ym] at h
 rw [fq]
 exact ⟨_,bw (S3 hlt),by simpa using h⟩
def Si (hlt:k<s.size) (hp:(s.data.toList.take k).all gY=true) (h:tC ((s.data.toList.getD k 0).toNat:Int)=false):(s.data.toList.take (k+1)).all gY=true:=by
 rw [ym] at h
 rw [zRx (S3 hlt),hp]
 simpa using h
def Sg (hp:(s.data.toList.take k).all gY=true) (h:¬k<s.size):s.data.toList.all gY=true:=by
 rw [aE uD] at hp
 exact hp
def vX (t:Ty):Bool:=decide (t.Bits=0)&&decide (t.Frac=0)&&decide (t.Round=0)&&decide (t.Over=0)
def Nn (t:Ty):dG [cI t.Kind,cI t.Bits,cI t.Frac,cI t.Round,cI t.Over] [cI t.Kind,.lit (.int .i64 0),.lit (.int .i64 0),.lit (.int .i64 0),.lit (.int .i64 0)]=vX t:=by
 simp [dG,SJ,vX,jn]
def tE (t:Ty):Bool:=((((!decide (t.Kind=2)||decide (t.Bits<2))||decide (31<t.Bits))||decide (t.Frac<0))||decide (30<t.Frac))|| !((decide (1<=t.Round)&&decide (t.Round<=4))&&(decide (t.Over=1)||decide (t.Over=2)))
def wU (t:Ty):tE t= !gQ t:=by
 unfold tE gQ
 rw [cv]
 simp only [ae,aD,aA,ax,bk,aj,ao]
 omega
def Ye {t:Ty} (h:tE t=true):gQ t=false:=by rw [wU] at h;simpa using h
def TT {t:Ty} (h:tE t=false):gQ t=true:=by rw [wU] at h;simpa using h
def WI {t:Ty} (h:(decide (t.Kind=1)||decide (t.Kind=3))=true):(((decide (t.Bits=0)&&decide (t.Frac=0))&&decide (t.Round=0))&&decide (t.Over=0))=dO t:=by
 unfold dO
 rw [h]
 have:decide (t.Kind=2)=false:=by
  simp only [aD,aj] at h
  simp;omega
 simp [this]
def type2 {t:Ty} (h:(decide (t.Kind=1)||decide (t.Kind=3))=false):(((((((decide (t.Kind=2)&&decide (2<=t.Bits))&&decide (t.Bits<=31))&&decide (0<=t.Frac))&&decide (t.Frac<=30))&&decide (1<=t.Round))&&decide (t.Round<=4))&&(decide (t.Over=1)||decide (t.Over=2)))=dO t:=by
 unfold dO
 rw [h]
 simp
def tyk1 {t:Ty} (h:t.Kind=1∨t.Kind=3):dO t=vX t:=by
 rw [<-WI (t:=t) tk];rfl
def tyk0 {t:Ty} (h1:¬t.Kind=1) (h3:¬t.Kind=3) (h2:¬t.Kind=2):dO t=false:=by
 simp [dO,h1,h2,h3]
def zNr {t:Ty} (h:¬bZ t=0):dO t=false:=by
 unfold bZ at h;cases ht:dO t<;>simp_all
def JF {t:Ty} (h:bZ t=0):dO t=true:=by
 unfold bZ at h;cases ht:dO t<;>simp_all
def zKc {n:Int} (h:0<=n/\n<=18446744073709551615):IntKind.u64.wrap n=n:=IntWalk.u64_in _ h
def zYq {b:Int} (h1:2<=b) (h2:b<=31):IntKind.i64.wrap (1*2^(min (IntKind.u64.wrap (b-1)).toNat IntKind.i64.bits))=mY b:=by
 rw [zKc zB]
 have h3:=CT h1 h2
 have h4:min (b-1).toNat IntKind.i64.bits=(b-1).toNat:=bg (by simp [IntKind.bits];omega)
 rw [h4,lx]
 exact VO ⟨by unfold mY at h3;omega,by unfold mY at h3;omega⟩
def QA {b:Int} (h1:2<=b) (h2:b<=31):IntKind.i64.wrap (-(IntKind.i64.wrap (1*2^(min (IntKind.u64.wrap (b-1)).toNat IntKind.i64.bits))))= -mY b:=by
 rw [zYq h1 h2]
 have:=CT h1 h2
 exact VO ⟨zB,zB⟩
def YN {b:Int} (h1:2<=b) (h2:b<=31):IntKind.i64.wrap (IntKind.i64.wrap (1*2^(min (IntKind.u64.wrap (b-1)).toNat IntKind.i64.bits))-1)=mY b-1:=by
 rw [zYq h1 h2]
 have:=CT h1 h2
 exact VO ⟨zB,zB⟩
def PD {t:Ty} (h:gQ t=true):2<=t.Bits/\t.Bits<=31:=by
 simp only [gQ,ae,aj] at h
 omega
def fxz {t:Ty} (h:(bif gQ t then (0:Int) else 10)=0):gQ t=true:=by cases ht:gQ t<;>simp_all
def fxn {t:Ty} (h:¬(bif gQ t then (0:Int) else 10)=0):gQ t=false:=by cases ht:gQ t<;>simp_all
def fxa {t:Ty} {p:Bool} (h:Lz (decide ((bif gQ t then (0:Int) else 10)=0)&&p) true=true):gQ t=true:=by
 simp only [Lz,aB,ae,aj] at h
 exact fxz h.1
def fxb {t:Ty} {p q:Bool} (h:Lz (decide ((bif gQ t then (0:Int) else 10)=0)&&p&&q) true=true):gQ t=true:=by
 simp only [Lz,aB,ae,aj] at h
 exact fxz h.1.1
def fixV (t:Ty) (v:Vl):(decide ((bif gQ t then (0:Int) else 10)=0)&&decide (v.D=1)&&decide (-mY t.Bits<=v.N)&&decide (v.N<=mY t.Bits-1))=(gQ t&&(decide (v.D=1)&&decide (-mY t.Bits<=v.N)&&decide (v.N<mY t.Bits))):=by
 have:decide (v.N<=mY t.Bits-1)=decide (v.N<mY t.Bits):=dk.2 zB
 rw [this]
 cases gQ t<;>simp
def Uf {n:Int} (h:n<0) (hn: -9223372036854775808<=n):IntKind.u64.wrap (-(IntKind.u64.wrap n))=n.natAbs:=by
 have e:IntKind.u64.wrap n=n+18446744073709551616:=by simp [IntKind.wrap,IntKind.bits,IntKind.signed];omega
 rw [e]
 simp [IntKind.wrap,IntKind.bits,IntKind.signed];omega
def Ug {n:Int} (h:¬n<0) (hn:n<=9223372036854775807):IntKind.u64.wrap n=n.natAbs:=by
 rw [zKc zB];omega
def E4 {x y:Nat} (h:¬y=0):Nat.gcd x y=Nat.gcd y (x%y):=by
 rw [Nat.gcd_comm x y,Nat.gcd_rec y x,Nat.gcd_comm]
def frV {v:Vl} (h:Lz (decide (1<=v.D)&&decide (v.D<=2147483647)&&rQ v.N) true=true):1<=v.D/\v.D<=2147483647/\ -9223372036854775808<=v.N/\v.N<=9223372036854775807:=by
 simp only [Lz,aB,ae,aj,rQ] at h
 omega
def u64_D {d:Int} (h1:1<=d) (h2:d<=2147483647):IntKind.u64.wrap d=d.natAbs:=by
 rw [zKc zB];omega
def Uj {n:Int} (h1: -2147483647<=n) (h2:n<=2147483647):max n (IntKind.i64.wrap (-n))=n.natAbs:=by
 rw [VO ⟨zB,zB⟩];omega
def vT (v:Vl):Bool:=((decide (2147483647<v.N)||decide (v.N< -2147483647))||decide (v.D<1))||decide (2147483647<v.D)
def ZC {v:Vl} (h:vT v=false): -2147483647<=v.N/\v.N<=2147483647/\1<=v.D/\v.D<=2147483647:=by
 simp only [vT,ax,ao] at h
 omega
def Vp {t:Ty} {v:Vl} (hk:¬t.Kind=2) (h:vT v=true):jR t v=false:=by
 unfold jR rQ
 rw [kH hk]
 simp only [vT,aD,aj] at h
 by_cases h3:t.Kind=3
 ·simp [h3];omega
 ·simp [h3];omega
def ZD {t:Ty} {v:Vl} (hk:t.Kind=2) (b1:2<=t.Bits) (b2:t.Bits<=31):(decide (v.D=1)&&decide (IntKind.i64.wrap (-(IntKind.i64.wrap (1*2^(min (t.Bits-1).toNat IntKind.i64.bits))))<=v.N)&&decide (v.N<IntKind.i64.wrap (1*2^(min (t.Bits-1).toNat IntKind.i64.bits))))=jR t v:=by
 have e:=zYq b1 b2
 have e':=QA b1 b2
 rw [zKc zB] at e e'
 rw [e',e,jR,hk]
 rfl
/-! ## Expressions -/
def bW (op:Int):Int:=if op=1∨op=2∨op=3 then 0 else if op=8∨op=12∨op=18 then 1 else if op=11 then 3 else 2
def bV (e:Ex):Bool:=decide (13<=e.Op)&&decide (e.Op<=18)
def jL (op i:Int):Bool:=(((decide (op=11)&&decide (i=0))||decide (op=16))||decide (op=17))||decide (op=18)
def rC (l:Lf):Bool:=decide (l.K=0)&&decide ((l.L.length:Int)=0)
def lW (x:Ix):Bool:=bif decide (x.From=bs []) then decide ((x.At.length:Int)=0) else rC x.Lin
def cF (v:Vl):Bool:=dG [cI v.N,cI v.D] [cI 0,cI 0]
def ty0 (t:Ty):Bool:=dG [cI t.Kind,cI t.Bits,cI t.Frac,cI t.Round,cI t.Over] [cI 0,cI 0,cI 0,cI 0,cI 0]
def jX (e:Ex):Bool:=
 !(decide (e.Op<1)||decide (18<e.Op))&& !(!decide (e.Op=1)&& !cF e.Val)&& !(!(decide (e.Op=1)||decide (e.Op=12))&& !ty0 e.Ty)&& !(!decide (e.Op=2)&& !rC e.Lin)&&
 !(!decide (e.Op=3)&&(!decide (e.Name=bs [])||decide ((0:Int)<e.Idx.length)))&&e.Idx.all lW
def vZ (x:Ix):Bool:= !(!decide (x.From=bs [])&& !bB x.From)
def pF (e:Ex):Bool:= !(decide (e.Op=3)&& !bB e.Name)&&e.Idx.all vZ
def vU (x:Ix):Bool:= !decide ((6:Int)<x.At.length)
def rD (e:Ex):Bool:= !(!decide ((e.Args.length:Int)=bW e.Op)||decide ((6:Int)<e.Idx.length))&&e.Idx.all vU
def hY (op i:Int):List Ex->Bool
 |[]=>true
 |a::r=>(bV a==jL op i)&&hY op (i+1) r
def lO (e:Ex):Bool:= !((decide (e.Op=1)||decide (e.Op=12))&& !dO e.Ty)&&hY e.Op 0 e.Args
def dH (e:Ex):List Lf:=e.Lin::e.Idx.flatMap λx=>x.Lin::x.At
def mD (e:Ex):Bool:= !(decide (e.Op=1)&& !jR e.Ty e.Val)&&(dH e).all bI
def dC (e:Ex):Int:=bif !jX e then 5 else bif !pF e then 7 else bif !rD e then 11 else bif !lO e then 10 else bif !mD e then 1 else 0
mutual
def dE:Ex->List Ex
 |.mk o n v t l i arg_=>.mk o n v t l i arg_::bT arg_
def bT:List Ex->List Ex
 |[]=>[]
 |e::r=>dE e++bT r
end
def G8 (e:Ex):dE e=e::bT e.Args:=by cases e;rw [dE];rfl
def zQs (a b:List Ex):bT (a++b)=bT a++bT b:=by
 induction a with
 |nil=>rfl
 |cons x r ih=>rw [xn,bT,bT,ih,tu]
def lC:List Ex->Int
 |[]=>0
 |e::r=>bif decide (dC e=0) then lC r else dC e
def zJa (a b:List Ex):lC (a++b)=bif decide (lC a=0) then lC b else lC a:=by
 induction a with
 |nil=>rfl
 |cons x r ih=>
  rw [xn,lC,lC,ih]
  by_cases h:dC x=0
  ·simp [h]
  ·simp [h]
def fJ (e:Ex):Int:=lC (dE e)
def tM (l:List Ex):Int:=lC (bT l)
def Xa (e:Ex):fJ e=bif decide (dC e=0) then tM e.Args else dC e:=by rw [fJ,G8,lC];rfl
def zSv (e:Ex) (r:List Ex):tM (e::r)=bif decide (fJ e=0) then tM r else fJ e:=by rw [tM,bT,zJa];rfl
def vK (f:Ex->Int) (d:Int):List Ex->Int
 |[]=>d
 |a::r=>vK f (max d (1+f a)) r
def mU:Nat->Ex->Int
 |0,_=>1
 |n+1,e=>vK (mU n) 1 e.Args
def J5 {f:Ex->Int} {n:Int} (h:∀a,1<=f a/\f a<=n):∀(l:List Ex) (d:Int),1<=d->d<=n+1->1<=vK f d l/\vK f d l<=n+1
 |[],d,h1,h2=>⟨h1,h2⟩
 |a::r,d,h1,h2=>by
  have:=h a
  exact J5 h r _ zB zB
def Cx:∀(n:Nat) (e:Ex),1<=mU n e/\mU n e<=n+1
 |0,e=>by simp [mU]
 |n+1,e=>by
  have:=J5 (n:=n+1) (Cx n) e.Args 1 zB zB
  rw [mU];omega
mutual
def vA:Ex->Nat->Nat
 |.mk _ _ _ _ _ _ arg_,most=>tJ arg_ most 1
def tJ:List Ex->Nat->Nat->Nat
 |[],_,n=>n
 |a::r,most,n=>if n<=most then tJ r most (n+vA a (most-n)) else n
end
def U9 (e:Ex) (m:Nat):vA e m=tJ e.Args m 1:=by cases e;rw [vA];rfl
mutual
def y8:∀(e:Ex) (m:Nat),vA e m=min (dE e).length (m+1)
 |.mk o n v t l i arg_,m=>by
  rw [vA,dE,Gu arg_ m 1 zB]
  simp;omega
def Gu:∀(l:List Ex) (m n:Nat),n<=m+1->tJ l m n=min (n+(bT l).length) (m+1)
 |[],m,n,h=>by simp [tJ,bT];omega
 |a::r,m,n,h=>by
  rw [tJ,bT,qp]
  split
  ·rename_i hn
   rw [y8 a (m-n),Gu r m _ zB]
   omega
  ·omega
end
def Zu (e:Ex):Nat:=min (dE e).length 2001
def dT (e:Ex):Int:=bif decide (40<mU 40 e) then 13 else bif decide ((2000:Int)<Zu e) then 2 else fJ e
def FI:∀e:Ex,(dE e).length<=e.wt:=by
 intro e
 induction e using Ex.ind with
 |_ e ih=>
  rw [G8,Ex.wt_eq]
  have:∀l:List Ex,(∀a,a∈l->(dE a).length<=a.wt)->(bT l).length<=dX l:=by
   intro l hl
   induction l with
   |nil=>simp [bT]
   |cons a r ihr=>
    rw [bT,dX,qp]
    have h1:=hl a uF
    have h2:=ihr λb hb=>hl b Vx
    omega
  have:=this e.Args ih
  simp;omega
def zId:∀(e x:Ex),x∈dE e->x.wt<=e.wt:=by
 intro e
 induction e using Ex.ind with
 |_ e ih=>
  intro x hx
  rw [G8] at hx
  rcases ag.1 hx with rfl|hx
  ·omega
  ·have:∀l:List Ex,(∀a,a∈l->a∈e.Args)->x∈bT l->x.wt<=e.wt:=by
    intro l hl hx
    induction l with
    |nil=>simp [bT] at hx
    |cons a r ihr=>
     rw [bT] at hx
     rcases aq.1 hx with h|h
     ·have h1:=ih a (hl a uF) x h
      have h2:=Ex.arg_wt (hl a uF)
      omega
     ·exact ihr (λb hb=>hl b Vx) h
   exact this e.Args (λa h=>h) hx
def zMo (l:List α) (p:α->Bool):(!l.any λx=> !p x)=l.all p:=by
 induction l with
 |nil=>rfl
 |cons x r ih=>simp only [ef,bm,<-ih];cases p x<;>simp
def zWt {x:α} (h:l[k]? =some x) (hp:l.all p=(l.drop k).all p) (hx:p x=true):l.all p=(l.drop (k+1)).all p:=by
 rw [hp,qN h,bm,hx];rfl
def VY {x:α} (h:l[k]? =some x) (hx:p x=false):l.all p=false:=by
 rw [fq];exact ⟨x,qD h,by simp [hx]⟩
def ur (hp:l.all p=(l.drop k).all p) (h:¬k<l.length):l.all p=true:=by
 rw [hp,kN h];rfl
def B0 (t:Ty):decide (bZ t=0)=dO t:=by unfold bZ;cases dO t<;>rfl
def zNa {l:Lf} (h:¬dM l=0):bI l=false:=by unfold dM at h;cases hl:bI l<;>simp_all
def zNb {l:Lf} (h:dM l=0):bI l=true:=by unfold dM at h;cases hl:bI l<;>simp_all
def QX {b:Bool} (h:((!decide (e.Op=1)&& !dG [cI e.Val.N,cI e.Val.D] [cI 0,cI 0])||((!decide (e.Op=1)&& !decide (e.Op=12))&& !dG [cI e.Ty.Kind,cI e.Ty.Bits,cI e.Ty.Frac,cI e.Ty.Round,cI e.Ty.Over] [cI 0,cI 0,cI 0,cI 0,cI 0]))=b):
  ((!decide (e.Op=1)&& !cF e.Val)||(!(decide (e.Op=1)||decide (e.Op=12))&& !ty0 e.Ty))=b:=by
 rw [<-h];unfold cF ty0;cases decide (e.Op=1)<;>simp
def QY {b:Bool} (h:((!decide (e.Op=2)&&(!decide (e.Lin.K=0)||decide ((0:Int)<e.Lin.L.length)))||(!decide (e.Op=3)&&(!decide (e.Name=bs [])||decide ((0:Int)<e.Idx.length))))=b):
  ((!decide (e.Op=2)&& !rC e.Lin)||(!decide (e.Op=3)&&(!decide (e.Name=bs [])||decide ((0:Int)<e.Idx.length))))=b:=by
 rw [<-h]
 have:(!rC e.Lin)=(!decide (e.Lin.K=0)||decide ((0:Int)<e.Lin.L.length)):=by
  unfold rC
  rw [Bool.not_and]
  congr 1
  exact v84
 rw [this]
def G2 {b:Bool} (h:((decide (x.From=bs [])&&decide ((0:Int)<x.At.length))||(!decide (x.From=bs [])&&(!decide (x.Lin.K=0)||decide ((0:Int)<x.Lin.L.length))))=b):(!lW x)=b:=by
 rw [<-h]
 unfold lW rC
 by_cases hf:x.From=bs []
 ·simp only [hf,jk,aB,aM,aU,bf,lf]
  exact v84
 ·simp only [hf,lh,aw,bf,cf,aM,dq,Bool.not_and]
  congr 1
  exact v84
def syn2 (h:((!decide (e.Op=1)&& !cF e.Val)||(!(decide (e.Op=1)||decide (e.Op=12))&& !ty0 e.Ty))=true):false=jX e:=by
 unfold jX
 rw [aD] at h
 rcases h with h|h<;>simp only [h,aU,dj,bf]
def syn3 (h:((!decide (e.Op=2)&& !rC e.Lin)||(!decide (e.Op=3)&&(!decide (e.Name=bs [])||decide ((0:Int)<e.Idx.length))))=true):false=jX e:=by
 unfold jX
 rw [aD] at h
 rcases h with h|h<;>simp only [h,aU,dj,bf]
def syn5 (h1:(decide (e.Op<1)||decide (18<e.Op))=false) (h2:((!decide (e.Op=1)&& !cF e.Val)||(!(decide (e.Op=1)||decide (e.Op=12))&& !ty0 e.Ty))=false) (h3:((!decide (e.Op=2)&& !rC e.Lin)||(!decide (e.Op=3)&&(!decide (e.Name=bs [])||decide ((0:Int)<e.Idx.length))))=false) (h4:e.Idx.all lW=true):true=jX e:=by
 unfold jX
 obtain ⟨a,b⟩:=ax.1 h2
 obtain ⟨c,d⟩:=ax.1 h3
 simp only [h1,a,b,c,d,h4,cf,Bool.and_self]
def HY (h:((decide (e.Op=1)&& !jR e.Ty e.Val)|| !bI e.Lin)=false):(dH e).all bI=((e.Idx.drop 0).flatMap λx=>x.Lin::x.At).all bI:=by
 obtain ⟨_,h2⟩:=ax.1 h
 rw [dH,bm,show bI e.Lin=true by simpa using h2];rfl
def TY (h:((decide (e.Op=1)&& !jR e.Ty e.Val)|| !bI e.Lin)=true):false=mD e:=by
 unfold mD dH
 rw [aD] at h
 rcases h with h|h
 ·simp only [h,aU,bf]
 ·rw [bm,show bI e.Lin=false by simpa using h];simp
def E1 {l:List Lf} (h:(dH e).all bI=l.all bI) (h2:l.all bI=false):false=mD e:=by
 unfold mD;rw [h,h2,dj]
def PE (h:((decide (e.Op=1)&& !jR e.Ty e.Val)|| !bI e.Lin)=false) (h2:(dH e).all bI=true):true=mD e:=by
 obtain ⟨h1,_⟩:=ax.1 h
 unfold mD;rw [h1,h2];rfl
def GS (h:lO e=true):e.Op=1->dO e.Ty=true:=by
 intro h1
 simp only [lO,h1,jk,Bool.true_or,aM,Bool.not_not,ae] at h
 exact h.1
variable {n:Nat}
def Mg (h:n≠0):mU n e=vK (mU (n-1)) 1 (e.Args.drop 0):=by
 cases n with
 |zero=>exact absurd rfl h
 |succ n=>rfl
def TC {l d:Int} (hl:l=n+1) (c:e.Args.length<=k∨l<=1) (h3:n≠0->mU n e=vK (mU (n-1)) d (e.Args.drop k)) (h4:n=0->d=1):d=mU n e:=by
 by_cases h0:n=0
 ·rw [h4 h0,h0];rfl
 ·rw [h3 h0,kN zB];rfl
def Va {l:List Ex} {m:Nat} {x:Int} (hl:x=m) (h:l.length<=k∨x<n):n=tJ (l.drop k) m n:=by
 by_cases hk:k<l.length
 ·obtain ⟨a,ha⟩:=qX l k hk
  rw [qN ha,tJ,aa zB]
 ·rw [kN hk,tJ]
abbrev sr (x:Ix):List Lf:=x.Lin::x.At
def xa (h:e.Idx[k]? =some x):dH e=(e.Lin::(e.Idx.take k).flatMap sr)++x.Lin::(x.At++(e.Idx.drop (k+1)).flatMap sr):=by
 have e1:e.Idx=e.Idx.take k++x::e.Idx.drop (k+1):=by rw [<-qN h,aZ]
 have e2:dH e=e.Lin::e.Idx.flatMap sr:=rfl
 have e3:e.Idx.flatMap sr=(e.Idx.take k++x::e.Idx.drop (k+1)).flatMap sr:=ai _ e1
 rw [e2,e3,dn,cc]
 simp [sr]
def A9 {j:Nat} {l:Lf} (h:e.Idx[k]? =some x) (hl:x.At[j]? =some l):dH e=((e.Lin::(e.Idx.take k).flatMap sr)++[x.Lin]++x.At.take j)++l::(x.At.drop (j+1)++(e.Idx.drop (k+1)).flatMap sr):=by
 rw [xa h]
 have e1:x.At=x.At.take j++l::x.At.drop (j+1):=by rw [<-qN hl,aZ]
 have e2:x.At++(e.Idx.drop (k+1)).flatMap sr=(x.At.take j++l::x.At.drop (j+1))++(e.Idx.drop (k+1)).flatMap sr:=ai (· ++(e.Idx.drop (k+1)).flatMap sr) e1
 rw [e2]
 simp
def H2 (h:e.Idx[k]? =some x):e.Lin::(e.Idx.take (k+1)).flatMap sr=(e.Lin::(e.Idx.take k).flatMap sr)++[x.Lin]++x.At:=by
 rw [yB h,dn];simp [sr]
variable {pre:List Ex}
def yl (h:e.Args[k]? =some a) {suf:List Ex} {x:Ex} (hx:dE a=pre++x::suf):dE e=(e::bT (e.Args.take k)++pre)++x::(suf++bT (e.Args.drop (k+1))):=by
 have e1:e.Args=e.Args.take k++a::e.Args.drop (k+1):=by rw [<-qN h,aZ]
 have e2:bT e.Args=bT (e.Args.take k)++(dE a++bT (e.Args.drop (k+1))):=by
  have:=ai bT e1
  rw [zQs,bT] at this
  exact this
 rw [G8,e2,hx]
 simp
def zYk {l:List Ex} (h:l[k]? =some a):bT (l.take (k+1))=bT (l.take k)++dE a:=by
 rw [yB h,zQs,bT,bT,rk]
def zWc {l:Lf} (he:e.wt<=B) (h:l∈dH e):l.L.length<=B:=by
 unfold dH at h
 rcases ag.1 h with rfl|h
 ·exact (e.parts he).1
 ·obtain ⟨x,hx,hl⟩:=dm.1 h
  have h1:=Ex.idx_wt hx
  rcases ag.1 hl with rfl|hl
  ·omega
  ·have:=Sr hl;omega
def Wu {b:Bool} (h:lO e=true) (c:(decide (e.Op=1)&& !(dO e.Ty&&jR e.Ty e.Val))=b):(decide (e.Op=1)&& !jR e.Ty e.Val)=b:=by
 rw [<-c]
 by_cases h1:e.Op=1
 ·rw [GS h h1];simp [h1]
 ·simp [h1]
def Hp {pre suf:List α} {x:α} (h:(pre++[x]).all p=false):(pre++x::suf).all p=false:=by
 rw [show pre++x::suf=(pre++[x])++suf by simp,cj,h];rfl
def EM {x:Ex} (h:lC pre=0) (c:¬dC x=0):lC (pre++[x])=dC x:=by
 rw [zJa,h,lC,kH c];rfl
def Pt {suf:List Ex} {x:Ex} (h:¬lC (pre++[x])=0):lC (pre++x::suf)=lC (pre++[x]):=by
 rw [show pre++x::suf=(pre++[x])++suf by simp,zJa,kH h];rfl
/-! ## Equality,part by part -/
def ix_eq (a b:Ix):((decide (a.From=b.From)&&decide (a.Lin=b.Lin))&&decide (a.At=b.At))=decide (a=b):=by
 rw [cv];simp only [ae,aj]
 cases a;cases b;simp only [Ix.mk.injEq]
 constructor
 ·rintro ⟨⟨h1,h2⟩,h3⟩;exact ⟨h2,h1,h3⟩
 ·rintro ⟨h1,h2,h3⟩;exact ⟨⟨h2,h1⟩,h3⟩
def H7 (a b:Vl):dG [cI a.N,cI a.D] [cI b.N,cI b.D]=decide (a=b):=by
 rw [cv];cases a;cases b;simp [dG,SJ]
def Bt (a b:Ty):dG [cI a.Kind,cI a.Bits,cI a.Frac,cI a.Round,cI a.Over] [cI b.Kind,cI b.Bits,cI b.Frac,cI b.Round,cI b.Over]=decide (a=b):=by
 rw [cv];cases a;cases b;simp [dG,SJ]
def ex_eq (a b:Ex):((((((decide (a.Op=b.Op)&&decide (a.Name=b.Name))&&dG [cI a.Val.N,cI a.Val.D] [cI b.Val.N,cI b.Val.D])&&dG [cI a.Ty.Kind,cI a.Ty.Bits,cI a.Ty.Frac,cI a.Ty.Round,cI a.Ty.Over] [cI b.Ty.Kind,cI b.Ty.Bits,cI b.Ty.Frac,cI b.Ty.Round,cI b.Ty.Over])&&decide (a.Lin=b.Lin))&&decide (a.Idx=b.Idx))&&decide (a.Args=b.Args))=decide (a=b):=by
 rw [H7,Bt,cv]
 simp only [ae,aj,Ex.eq_iff]
 constructor
 ·rintro ⟨⟨⟨⟨⟨⟨h1,h2⟩,h3⟩,h4⟩,h5⟩,h6⟩,h7⟩;exact ⟨h1,h2,h3,h4,h5,h6,h7⟩
 ·rintro ⟨h1,h2,h3,h4,h5,h6,h7⟩;exact ⟨⟨⟨⟨⟨⟨h1,h2⟩,h3⟩,h4⟩,h5⟩,h6⟩,h7⟩
/-! ## Weights -/
def gN (m n:Nat):List Lf->Nat
 |[]=>n
 |l::r=>if n<=m then gN m (n+l.L.length) r else n
def fN (m n:Nat):List Ix->Nat
 |[]=>n
 |x::r=>if n<=m then fN m (gN m (n+x.Lin.L.length+x.At.length) x.At) r else n
mutual
def jA:Ex->Nat->Nat
 |.mk _ _ _ _ l i arg_,m=>lE arg_ m (fN m (1+l.L.length+i.length) i)
def lE:List Ex->Nat->Nat->Nat
 |[],_,n=>n
 |a::r,m,n=>if n<=m then lE r m (n+jA a (m-n)) else n
end
def Ob (e:Ex) (m:Nat):jA e m=lE e.Args m (fN m (1+e.Lin.L.length+e.Idx.length) e.Idx):=by cases e;rw [jA];rfl
def Ix.fit (x:Ix):Prop:=x.Lin.L.length<=140737488355328/\x.At.length<=140737488355328/\∀l,l∈x.At->l.L.length<=140737488355328
mutual
def Ex.fit:Ex->Prop
 |.mk _ _ _ _ l i arg_=>l.L.length<=140737488355328/\i.length<=140737488355328/\arg_.length<=140737488355328/\(∀x,x∈i->x.fit)/\eU arg_
def eU:List Ex->Prop
 |[]=>True
 |a::r=>a.fit/\eU r
end
def PC {l:List Ex} (h:eU l):∀a,a∈l->a.fit:=by
 induction l with
 |nil=>intro a ha;cases ha
 |cons x r ih=>
  intro a ha
  rcases ag.1 ha with rfl|ha
  ·exact h.1
  ·exact ih h.2 a ha
def Ex.fit_eq (h:e.fit):e.Lin.L.length<=140737488355328/\e.Idx.length<=140737488355328/\e.Args.length<=140737488355328/\(∀x,x∈e.Idx->x.fit)/\∀a,a∈e.Args->a.fit:=by
 cases e with
 |mk o n v t l i arg_=>rw [Ex.fit] at h;exact ⟨h.1,h.2.1,h.2.2.1,h.2.2.2.1,PC h.2.2.2.2⟩
def zSb (m:Nat):∀(l:List Lf) (n:Nat),n<=gN m n l
 |[],n=>aC _
 |x::r,n=>by
  rw [gN];split
  ·have:=zSb m r (n+x.L.length);omega
  ·omega
def zWx (m:Nat):∀(l:List Ix) (n:Nat),n<=fN m n l
 |[],n=>aC _
 |x::r,n=>by
  rw [fN];split
  ·have h1:=zSb m x.At (n+x.Lin.L.length+x.At.length)
   have:=zWx m r (gN m (n+x.Lin.L.length+x.At.length) x.At);omega
  ·omega
def zWz (m:Nat):∀(l:List Lf) (n:Nat),gN m n l<=m->n+fY l<=gN m n l
 |[],n,_=>by simp [gN,fY]
 |y::r,n,h=>by
  have hn:n<=m:=aL (zSb m (y::r) n) h
  rw [gN,ab hn] at h⊢
  have:=zWz m r _ h
  rw [fY];omega
def zUe (m:Nat):∀(l:List Ix) (n:Nat),fN m n l<=m->n+dI l<=fN m n l
 |[],n,_=>by simp [fN,dI]
 |x::r,n,h=>by
  have hn:n<=m:=aL (zWx m (x::r) n) h
  rw [fN,ab hn] at h⊢
  have h1:=zUe m r _ h
  have h2:=zWz m x.At (n+x.Lin.L.length+x.At.length) zB
  rw [dI,Ix.wt];omega
mutual
def zPx:∀(e:Ex) (m:Nat),jA e m<=m->e.wt<=jA e m
 |.mk o n v t l i arg_,m,h=>by
  rw [jA] at h⊢
  have h1:=B7 arg_ m _ h
  have h2:=zUe m i (1+l.L.length+i.length) zB
  rw [Ex.wt];omega
def B7:∀(l:List Ex) (m n:Nat),lE l m n<=m->n+dX l<=lE l m n
 |[],m,n,h=>by simp [lE,dX]
 |a::r,m,n,h=>by
  by_cases hn:n<=m
  ·rw [lE,ab hn] at h⊢
   have h1:=B7 r m _ h
   have h2:=zPx a (m-n) zB
   rw [dX];omega
  ·rw [lE,aa hn] at h;omega
end
def zx {m:Nat}:∀(l:List Lf) (n B:Nat),(∀x,x∈l->x.L.length<=140737488355328)->n<=B->m+140737488355328<=B->gN m n l<=B
 |[],n,B,_,h,_=>by simpa [gN] using h
 |x::r,n,B,hx,h,hb=>by
  rw [gN];split
  ·have:=hx x uF
   exact zx r _ B (λy hy=>hx y Ac) zB hb
  ·exact h
def zWw {m:Nat}:∀(l:List Ix) (n B:Nat),(∀x,x∈l->x.fit)->n<=B->m+3*140737488355328<=B->fN m n l<=B
 |[],n,B,_,h,_=>by simpa [fN] using h
 |x::r,n,B,hx,h,hb=>by
  rw [fN];split
  ·obtain ⟨h1,h2,h3⟩:=hx x uF
   exact zWw r _ B (λy hy=>hx y Ac) (zx x.At _ B h3 zB zB) hb
  ·exact h
mutual
def zWy:∀(e:Ex) (m:Nat),e.fit->jA e m<=m+4*140737488355328
 |.mk o n v t l i arg_,m,h=>by
  rw [Ex.fit] at h
  obtain ⟨h1,h2,h3,h4,h5⟩:=h
  rw [jA]
  exact B6 arg_ m _ h5 (zWw i _ _ h4 zB zB)
def B6:∀(l:List Ex) (m n:Nat),eU l->n<=m+4*140737488355328->lE l m n<=m+4*140737488355328
 |[],m,n,_,h=>by simpa [lE] using h
 |a::r,m,n,hf,h=>by
  rw [lE];split
  ·have:=zWy a (m-n) hf.1
   exact B6 r m _ hf.2 zB
  ·exact h
end
def DY {m:Nat} {l:List Ix} {x:Int} (hx:x=m) (h:l.length<=k∨x<n):n=fN m n (l.drop k):=by
 by_cases hk:k<l.length
 ·obtain ⟨a,ha⟩:=qX l k hk
  rw [qN ha,fN,aa zB]
 ·rw [kN hk,fN]
def G1 {m:Nat} {l:List Lf} {x:Int} (hx:x=m) (h:l.length<=k∨x<n):n=gN m n (l.drop k):=by
 by_cases hk:k<l.length
 ·obtain ⟨a,ha⟩:=qX l k hk
  rw [qN ha,gN,aa zB]
 ·rw [kN hk,gN]
def JA {m:Nat} {l:List Ex} {x:Int} (hx:x=m) (h:l.length<=k∨x<n):n=lE (l.drop k) m n:=by
 by_cases hk:k<l.length
 ·obtain ⟨a,ha⟩:=qX l k hk
  rw [qN ha,lE,aa zB]
 ·rw [kN hk,lE]
/-! ## Forms mapped -/
def fE (f:Lf->Lf×Int) (l:Lf):Except Int Lf:=if (f l).2=0 then .ok (f l).1 else .error (f l).2
def dQ (f:Lf->Lf×Int):List Lf->Except Int (List Lf)
 |[]=>.ok []
 |l::r=>match fE f l with
  |.error x=>.error x
  |.ok l'=>match dQ f r with
   |.error x=>.error x
   |.ok r'=>.ok (l'::r')
def sq (f:Lf->Lf×Int) (x:Ix):Except Int Ix:=match fE f x.Lin with
 |.error y=>.error y
 |.ok l=>match dQ f x.At with
  |.error y=>.error y
  |.ok a=>.ok ⟨l,x.From,a⟩
def dR (f:Lf->Lf×Int):List Ix->Except Int (List Ix)
 |[]=>.ok []
 |x::r=>match sq f x with
  |.error y=>.error y
  |.ok x'=>match dR f r with
   |.error y=>.error y
   |.ok r'=>.ok (x'::r')
mutual
def pj (f:Lf->Lf×Int):Ex->Except Int Ex
 |.mk o n v t l i arg_=>match fE f l with
  |.error y=>.error y
  |.ok l'=>match dR f i with
   |.error y=>.error y
   |.ok i'=>match gH f arg_ with
    |.error y=>.error y
    |.ok as'=>.ok (.mk o n v t l' i' as')
def gH (f:Lf->Lf×Int):List Ex->Except Int (List Ex)
 |[]=>.ok []
 |a::r=>match pj f a with
  |.error y=>.error y
  |.ok a'=>match gH f r with
   |.error y=>.error y
   |.ok r'=>.ok (a'::r')
end
def zEx:Ex:=.mk 0 (bs []) ⟨0,0⟩ ⟨0,0,0,0,0⟩ ⟨0,[]⟩ [] []
def lG:Except Int Ex->Ex
 |.ok e=>e
 |.error _=>zEx
def gM:Except Int α->Int
 |.ok _=>0
 |.error x=>x
def mI {β:Type} (a:Except Int α) (g:α->β):Except Int β:=match a with
 |.error y=>.error y
 |.ok x=>.ok (g x)
def zYw (f:Lf->Lf×Int) (e:Ex):pj f e=match fE f e.Lin with
  |.error y=>.error y
  |.ok l'=>match dR f e.Idx with
   |.error y=>.error y
   |.ok i'=>match gH f e.Args with
    |.error y=>.error y
    |.ok as'=>.ok (.mk e.Op e.Name e.Val e.Ty l' i' as'):=by cases e;rw [pj];rfl
variable {f:Lf->Lf×Int}
def JG {l:Lf} (h:(f l).2=0):fE f l=.ok (f l).1:=ab h
def VX {l:Lf} (h:¬(f l).2=0):fE f l=.error (f l).2:=aa h
def bY (done:List α) (x:Except Int (List α)):Except Int (List α):=mI x (done++ ·)
def SU (x:Except Int (List α)):bY [] x=x:=by cases x<;>rfl
variable {done:List Lf}
def zTf {l:List Lf} {x:Lf} (h:l[k]? =some x) (hp:dQ f l=bY done (dQ f (l.drop k))) (hx:(f x).2=0):dQ f l=bY (done++[(f x).1]) (dQ f (l.drop (k+1))):=by
 rw [hp,qN h,dQ,JG hx]
 cases dQ f (l.drop (k+1))<;>simp [bY,mI]
def ya {l:List Lf} {x:Lf} (h:l[k]? =some x) (hp:dQ f l=bY done (dQ f (l.drop k))) (hx:¬(f x).2=0):dQ f l=.error (f x).2:=by
 rw [hp,qN h,dQ,VX hx];rfl
def zYr {l:List Lf} (hp:dQ f l=bY done (dQ f (l.drop k))) (h:¬k<l.length):dQ f l=.ok done:=by
 rw [hp,kN h];simp [dQ,bY,mI]
def zYu {l:List Ix} {y:Ix} {done:List Ix} (h:l[k]? =some x) (hp:dR f l=bY done (dR f (l.drop k))) (hx:sq f x=.ok y):dR f l=bY (done++[y]) (dR f (l.drop (k+1))):=by
 rw [hp,qN h,dR,hx]
 cases dR f (l.drop (k+1))<;>simp [bY,mI]
variable {c:Int}
def zYt {l:List Ix} {done:List Ix} (h:l[k]? =some x) (hp:dR f l=bY done (dR f (l.drop k))) (hx:sq f x=.error c):dR f l=.error c:=by
 rw [hp,qN h,dR,hx];rfl
def x7 {l:List Ix} {done:List Ix} (hp:dR f l=bY done (dR f (l.drop k))) (h:¬k<l.length):dR f l=.ok done:=by
 rw [hp,kN h];simp [dR,bY,mI]
def zZz {x:Except Int α} (h:gM x=0) (h2:x≠ .error 0):∃a,x=.ok a:=by
 cases x with
 |ok a=>exact ⟨a,rfl⟩
 |error y=>exact absurd (by rw [show y=0 from h]) h2
def Pz {l:Lf}:fE f l≠ .error 0:=by
 unfold fE;split
 ·simp
 ·rename_i h;intro hh;exact h (Except.error.inj hh)
def Fw {f:Lf->Lf×Int}:∀{l:List Lf},dQ f l≠ .error 0
 |[]=>by simp [dQ]
 |x::r=>by
  rw [dQ]
  cases h1:fE f x with
  |error y=>intro h;cases h;exact Pz h1
  |ok a=>
   cases h2:dQ f r with
   |error y=>intro h;cases h;exact Fw h2
   |ok a=>simp
def Qp:sq f x≠ .error 0:=by
 rw [sq]
 cases h1:fE f x.Lin with
 |error y=>intro h;cases h;exact Pz h1
 |ok a=>
  cases h2:dQ f x.At with
  |error y=>intro h;cases h;exact Fw h2
  |ok a=>simp
def uW {f:Lf->Lf×Int}:∀{l:List Ix},dR f l≠ .error 0
 |[]=>by simp [dR]
 |x::r=>by
  rw [dR]
  cases h1:sq f x with
  |error y=>intro h;cases h;exact Qp h1
  |ok a=>
   cases h2:dR f r with
   |error y=>intro h;cases h;exact uW h2
   |ok a=>simp
mutual
def tv {f:Lf->Lf×Int}:∀e:Ex,pj f e≠ .error 0
 |.mk o n v t l i arg_=>by
  rw [pj]
  cases h1:fE f l with
  |error y=>intro h;cases h;exact Pz h1
  |ok a=>
   cases h2:dR f i with
   |error y=>intro h;cases h;exact uW h2
   |ok a=>
    cases h3:gH f arg_ with
    |error y=>intro h;cases h;exact KQ arg_ h3
    |ok a=>simp
def KQ {f:Lf->Lf×Int}:∀l:List Ex,gH f l≠ .error 0
 |[]=>by simp [gH]
 |x::r=>by
  rw [gH]
  cases h1:pj f x with
  |error y=>intro h;cases h;exact tv x h1
  |ok a=>
   cases h2:gH f r with
   |error y=>intro h;cases h;exact KQ r h2
   |ok a=>simp
end
def zYv {l:List Ex} {x:Ex} {done:List Ex} (h:l[k]? =some x) (hp:gH f l=bY done (gH f (l.drop k))) (hx:gM (pj f x)=0):gH f l=bY (done++[lG (pj f x)]) (gH f (l.drop (k+1))):=by
 rw [hp,qN h,gH]
 obtain ⟨y,hy⟩:=zZz hx (tv x)
 rw [hy]
 cases gH f (l.drop (k+1))<;>simp [bY,mI,lG]
def Da {l:List Ex} {x:Ex} {done:List Ex} (h:l[k]? =some x) (hp:gH f l=bY done (gH f (l.drop k))) (hx:¬gM (pj f x)=0):gH f l=.error (gM (pj f x)):=by
 rw [hp,qN h,gH]
 cases hm:pj f x with
 |error y=>rfl
 |ok y=>rw [hm] at hx;exact absurd rfl hx
def x5 {l:List Ex} {done:List Ex} (hp:gH f l=bY done (gH f (l.drop k))) (h:¬k<l.length):gH f l=.ok done:=by
 rw [hp,kN h];simp [gH,bY,mI]
def SK (l:Lf):Lf×Int:=(l,0)
def Fv:∀l:List Lf,dQ SK l=.ok l
 |[]=>rfl
 |x::r=>by rw [dQ,JG rfl,Fv r];rfl
def YF (x:Ix):sq SK x=.ok x:=by rw [sq,JG rfl,Fv];rfl
def Db:∀l:List Ix,dR SK l=.ok l
 |[]=>rfl
 |x::r=>by rw [dR,YF,Db r]
mutual
def Qn:∀e:Ex,pj SK e=.ok e
 |.mk o n v t l i arg_=>by rw [pj,JG rfl,Db,KP arg_];rfl
def KP:∀l:List Ex,gH SK l=.ok l
 |[]=>by rw [gH]
 |x::r=>by rw [gH,Qn x,KP r]
end
variable {A:List (List C)}
/-! ## A row in the middle -/
def zTd {f:α->List C} {x:α} (hA:A.length=k) (h:l[k]? =some x):(A++(l.drop k).map f)[k]? =some (f x):=by
 rw [qN h,aG,da zB,hA];simp
def Xe {f:α->List C} (hA:A.length=k) (h:k<l.length):((k:Int)).toNat<(A++(l.drop k).map f).length:=by
 simp;omega
variable {r:List C}
def zMs {f:α->List C} {x:α} (hA:A.length=k) (h:l[k]? =some x):(A++(l.drop k).map f).set k r=(A++[r])++(l.drop (k+1)).map f:=by
 rw [qN h,aG,fm _ _ zB,hA];simp
def Qz {f:α->List C} {B:List (List C)} {l:List α} {r':List C} (hA:A.length=k):((A++[r])++B).set k r'=(A++[r'])++B:=by
 rw [tu,fm _ _ zB,hA];simp
def VN (h:k<A.length):(A.set k r)[k]? =some r:=by
 rw [bc h]
def Fy {l:List Ex} {x:Ex} (hA:A.length=k) (h:l[k]? =some x):(A++(l.drop k).map Ex.cells)[k]? =some x.cs:=by
 rw [zTd hA h,Ex.cells_eq]
def Qm (h:¬(f e.Lin).2=0):pj f e=.error (f e.Lin).2:=by rw [zYw,VX h]
def C9 (h:(f e.Lin).2=0) (h2:dR f e.Idx=.error c):pj f e=.error c:=by rw [zYw,JG h,h2]
def Ij {i:List Ix} (h:(f e.Lin).2=0) (h2:dR f e.Idx=.ok i) (h3:gH f e.Args=.error c):pj f e=.error c:=by rw [zYw,JG h,h2,h3]
def Ik {i:List Ix} {a:List Ex} (h:(f e.Lin).2=0) (h2:dR f e.Idx=.ok i) (h3:gH f e.Args=.ok a):pj f e=.ok (.mk e.Op e.Name e.Val e.Ty (f e.Lin).1 i a):=by rw [zYw,JG h,h2,h3]
def Il (h:¬(f x.Lin).2=0):sq f x=.error (f x.Lin).2:=by rw [sq,VX h]
def Im (h:(f x.Lin).2=0) (h2:dQ f x.At=.error c):sq f x=.error c:=by rw [sq,JG h,h2]
def In {a:List Lf} (h:(f x.Lin).2=0) (h2:dQ f x.At=.ok a):sq f x=.ok ⟨(f x.Lin).1,x.From,a⟩:=by rw [sq,JG h,h2]
def Ex.allF (P:Lf->Prop) (e:Ex):Prop:=∀x,x∈dE e->∀l,l∈dH x->P l
variable {P:Lf->Prop}
def Ex.allF_lin (h:e.allF P):P e.Lin:=h e ZM _ (by unfold dH;simp)
def Ex.allF_ix (h:e.allF P) (hx:x∈e.Idx):P x.Lin:=h e ZM _ (by unfold dH;exact aH _ (dm.2 ⟨x,hx,uF⟩))
def Ex.allF_at (h:e.allF P) (hx:x∈e.Idx) {l:Lf} (hl:l∈x.At):P l:=h e ZM _ (by unfold dH;exact aH _ (dm.2 ⟨x,hx,by simp [hl]⟩))
def zYj {a x:Ex}:∀{l:List Ex},a∈l->x∈dE a->x∈bT l
 |[],h,_=>by cases h
 |b::r,h,hx=>by
  rw [bT,aq]
  rcases ag.1 h with rfl|h
  ·exact .inl hx
  ·exact .inr (zYj h hx)
def Ex.allF_arg (h:e.allF P) (ha:a∈e.Args):a.allF P:=λx hx=>h x (by rw [G8];exact aH _ (zYj ha hx))
/-! ## Counts: all but the lengths of forms -/
def sQ:List Ix->Nat
 |[]=>0
 |x::r=>x.At.length+sQ r
mutual
def Ex.cnt:Ex->Nat
 |.mk _ _ _ _ _ i r=>1+i.length+sQ i+tW r
def tW:List Ex->Nat
 |[]=>0
 |e::r=>e.cnt+tW r
end
def Ex.cnt_eq (e:Ex):e.cnt=1+e.Idx.length+sQ e.Idx+tW e.Args:=by cases e;rw [Ex.cnt];rfl
def Ex.cnt_pos (e:Ex):1<=e.cnt:=by rw [Ex.cnt_eq];omega
def ME {l:List Ix} (h:x∈l):x.At.length<=sQ l:=by
 induction l with
 |nil=>cases h
 |cons a r ih=>
  rw [sQ]
  exact v43
def O6 (l:List Ex):l.length<=tW l:=by
 induction l with
 |nil=>simp [tW]
 |cons a r ih=>rw [tW,pw];have:=a.cnt_pos;omega
def O7 {l:List Ex} (h:a∈l):a.cnt<=tW l:=by
 induction l with
 |nil=>cases h
 |cons x r ih=>
  rw [tW]
  exact v43
def Ex.cparts (h:e.cnt<=B):e.Idx.length<=B/\e.Args.length<=B/\∀x,x∈e.Idx->x.At.length<=B:=by
 rw [Ex.cnt_eq] at h
 have:=O6 e.Args
 exact ⟨zB,zB,λx hx=>by have:=ME hx;omega⟩
def Ex.arg_cnt (h:a∈e.Args):a.cnt<e.cnt:=by
 rw [Ex.cnt_eq e];have:=O7 h;omega
def PY (l:List Ix):sQ l<=dI l:=by
 induction l with
 |nil=>simp [sQ]
 |cons x r ih=>rw [sQ,dI,Ix.wt];omega
def Ex.cnt_le (e:Ex):e.cnt<=e.wt:=by
 induction e using Ex.ind with
 |_ e ih=>
  rw [Ex.cnt_eq,Ex.wt_eq]
  have h1:=PY e.Idx
  have h2:∀l:List Ex,(∀a,a∈l->a.cnt<=a.wt)->tW l<=dX l:=by
   intro l
   induction l with
   |nil=>intro _;simp [tW]
   |cons a r ihr=>
    intro h
    rw [tW,dX]
    have:=h a uF
    have:=ihr λb hb=>h b Vx
    omega
  have:=h2 e.Args ih
  omega
def zRk {l:List Ex} (h:lC l=0):∀x,x∈l->dC x=0:=by
 induction l with
 |nil=>intro x hx;cases hx
 |cons y r ih=>
  intro x hx
  rw [lC] at h
  by_cases hy:dC y=0
  ·rw [Hk hy,aB] at h
   rcases ag.1 hx with rfl|hx
   ·exact hy
   ·exact ih h x hx
  ·rw [kH hy,aw] at h;exact absurd h hy
def zHq (h:fJ e=0):dC e=0:=zRk h e ZM
def zJq (h:fJ e=0) (ha:a∈e.Args):fJ a=0:=by
 have hn:=zHq h
 rw [Xa,Hk hn,aB] at h
 obtain ⟨k,hk⟩:=bh ha
 have:∀l:List Ex,tM l=0->a∈l->fJ a=0:=by
  intro l
  induction l with
  |nil=>intro _ h;cases h
  |cons y r ih=>
   intro h hm
   rw [zSv] at h
   by_cases hy:fJ y=0
   ·rw [Hk hy,aB] at h
    rcases ag.1 hm with rfl|hm
    ·exact hy
    ·exact ih h hm
   ·rw [kH hy,aw] at h;exact absurd h hy
 exact this _ h ha
def VG (h:dT e=0):fJ e=0:=by
 unfold dT at h
 by_cases h1:40<mU 40 e
 ·rw [Hk h1] at h;simp at h
 ·rw [kH h1,aw] at h
  by_cases h2:(2000:Int)<Zu e
  ·rw [Hk h2] at h;simp at h
  ·rwa [kH h2,aw] at h
def zNx (h:dC e=0):jX e=true/\pF e=true/\rD e=true/\lO e=true/\mD e=true:=by
 unfold dC at h
 cases h1:jX e<;>rw [h1] at h<;>simp at h
 cases h2:pF e<;>rw [h2] at h<;>simp at h
 cases h3:rD e<;>rw [h3] at h<;>simp at h
 cases h4:lO e<;>rw [h4] at h<;>simp at h
 cases h5:mD e<;>rw [h5] at h<;>simp at h
 simp
def zL:Lf:=⟨0,[]⟩
structure Cn where
 Lin:Lf
 Eq:Bool
 deriving DecidableEq
structure Ax where
 Name:nq
 Size:Lf
 deriving DecidableEq
structure Pm where
 Name:nq
 T:Ty
 Dims:List Lf
 deriving DecidableEq
structure Df where
 Name:nq
 T:Ty
 Dims:List Ax
 Red:List Ax
 Fold:Int
 Body:Ex
 deriving DecidableEq
structure Pg where
 Sizes:List nq
 Where:List Cn
 Params:List Pm
 Defs:List Df
 Outs:List nq
 deriving DecidableEq
def Cn.cells (x:Cn):List C:=[cI x.Lin.K,.sl 2 (x.Lin.L.map Mono.cells),cB x.Eq]
def Ax.cells (x:Ax):List C:=[cS x.Name,cI x.Size.K,.sl 2 (x.Size.L.map Mono.cells)]
def Pm.cells (x:Pm):List C:=[cS x.Name,cI x.T.Kind,cI x.T.Bits,cI x.T.Frac,cI x.T.Round,cI x.T.Over,.sl 2 (x.Dims.map Lf.cells)]
def Df.cells (x:Df):List C:=[cS x.Name,cI x.T.Kind,cI x.T.Bits,cI x.T.Frac,cI x.T.Round,cI x.T.Over,.sl 3 (x.Dims.map Ax.cells),.sl 3 (x.Red.map Ax.cells),cI x.Fold,
 cI x.Body.Op,cS x.Body.Name,cI x.Body.Val.N,cI x.Body.Val.D,cI x.Body.Ty.Kind,cI x.Body.Ty.Bits,cI x.Body.Ty.Frac,cI x.Body.Ty.Round,cI x.Body.Ty.Over,cI x.Body.Lin.K,.sl 2 (x.Body.Lin.L.map Mono.cells),.sl 4 (x.Body.Idx.map Ix.cells),.sl 13 (x.Body.Args.map Ex.cells)]
def Pg.cells (p:Pg):List C:=[.sl 1 (p.Sizes.map λs=>[cS s]),.sl 3 (p.Where.map Cn.cells),.sl 7 (p.Params.map Pm.cells),.sl 22 (p.Defs.map Df.cells),.sl 1 (p.Outs.map λs=>[cS s])]
abbrev vCn (x:Cn):V:=.agg x.cells
abbrev vPm (x:Pm):V:=.agg x.cells
abbrev SP (x:Df):V:=.agg x.cells
abbrev rf (x:Pg):V:=.agg x.cells
def sP (l:Lf):Prop:=l.L.length<=140737488355328
def Pm.fit (x:Pm):Prop:=x.Dims.length<=140737488355328/\∀l,l∈x.Dims->sP l
def Df.fit (d:Df):Prop:=d.Dims.length<=140737488355328/\d.Red.length<=140737488355328/\(∀a,a∈d.Dims->sP a.Size)/\(∀a,a∈d.Red->sP a.Size)/\d.Body.fit
structure Pg.Fit (p:Pg):Prop where
 sizes:p.Sizes.length<=140737488355328
 wh:p.Where.length<=140737488355328
 params:p.Params.length<=140737488355328
 defs:p.Defs.length<=140737488355328
 outs:p.Outs.length<=140737488355328
 whs:∀c,c∈p.Where->sP c.Lin
 ps:∀x,x∈p.Params->x.fit
 ds:∀d,d∈p.Defs->d.fit
def px:Ty:=⟨0,0,0,0,0⟩
def Wf:Ty:=⟨3,0,0,0,0⟩
/-! ## Find -/
structure Fd where
 ty:Ty
 dims:List Lf
 ok:Bool
def fI (s:nq):List Df->Fd
 |[]=>⟨px,[],false⟩
 |d::r=>bif decide (d.Name=s) then ⟨d.T,d.Dims.map Ax.Size,true⟩ else fI s r
def gC (s:nq) (ds:List Df):List Pm->Fd
 |[]=>fI s ds
 |x::r=>bif decide (x.Name=s) then ⟨x.T,x.Dims,true⟩ else gC s ds r
def pK (s:nq) (l:List Df):Int:=fA (λd=>decide (d.Name=s)) l
structure En where
 sz:List nq
 pm:List Pm
 df:List Df
def Pg.en (p:Pg):En:=⟨p.Sizes,p.Params,p.Defs⟩
def En.find (n:En) (s:nq):Fd:=gC s n.df n.pm
def bD (d:Df):List nq:=d.Dims.map Ax.Name++d.Red.map Ax.Name
/-! ## Types of expressions -/
def rc (k:nq->Bool) (l:List Mono):Bool:=l.all λm=>k m.Name
def nI (k:nq->Bool) (l:Lf):Int:=bif rc k l.L then 0 else 9
def mC (k:nq->Bool) (l:List Lf):Int:=bif l.all (λx=>rc k x.L) then 0 else 9
def dN (n:En) (k:nq->Bool) (x:Ix):Int:=
 bif decide (x.From=bs []) then nI k x.Lin else
 bif !(n.find x.From).ok then 9 else
 bif !decide ((n.find x.From).ty.Kind=3) then 10 else
 bif !decide (x.At.length=(n.find x.From).dims.length) then 11 else mC k x.At
def fS (n:En) (k:nq->Bool):List Ix->Int
 |[]=>0
 |x::r=>bif decide (dN n k x=0) then fS n k r else dN n k x
def lA (n:En) (k:nq->Bool) (e:Ex):Ty×Int:=
 bif !(n.find e.Name).ok then (px,9) else
 bif !decide (e.Idx.length=(n.find e.Name).dims.length) then (px,11) else
 bif decide (fS n k e.Idx=0) then ((n.find e.Name).ty,0) else (px,fS n k e.Idx)
def lN (a b:Ty):Int:=bif decide (a=b) then 0 else 10
def bU (l:List Ty) (i:Nat):Ty:=l.getD i px
def qd (n:En) (k:nq->Bool) (e:Ex) (l:List Ty):Ty×Int:=
 if e.Op=1∨e.Op=12 then (e.Ty,0) else
 if e.Op=2 then (Wf,nI k e.Lin) else
 if e.Op=3 then lA n k e else
 if e.Op=8 then (bU l 0,0) else
 if e.Op=11 then (bU l 1,lN (bU l 1) (bU l 2)) else
 if e.Op=16∨e.Op=17∨e.Op=18 then (px,0) else
 if e.Op=13∨e.Op=14∨e.Op=15 then (px,lN (bU l 0) (bU l 1)) else
 (bU l 0,lN (bU l 0) (bU l 1))
def gK (n:En) (k:nq->Bool) (e:Ex) (l:List Ty):Ty×Int:=
 if e.Op=1∨e.Op=12 then (e.Ty,0) else
 if e.Op=2 then (Wf,mC k [e.Lin]) else
 if e.Op=3 then lA n k e else
 if e.Op=11 then (if bU l 1=bU l 2 then (bU l 1,0) else (px,10)) else
 if e.Op=8 then (bU l 0,0) else
 if 16<=e.Op then (px,0) else
 if bU l 0=bU l 1 then (if 13<=e.Op then (px,0) else (bU l 0,0)) else (px,10)
mutual
def bP (N:Ex->List Ty->Ty×Int):Ex->Ty×Int
 |.mk o nm v t l i arg_=>if (bG N arg_).2=0 then N (.mk o nm v t l i arg_) (bG N arg_).1 else (px,(bG N arg_).2)
def bG (N:Ex->List Ty->Ty×Int):List Ex->List Ty×Int
 |[]=>([],0)
 |a::r=>if (bP N a).2=0 then (if (bG N r).2=0 then ((bP N a).1::(bG N r).1,0) else ([],(bG N r).2)) else ([],(bP N a).2)
end
def zNy (N:Ex->List Ty->Ty×Int) (e:Ex):bP N e=if (bG N e.Args).2=0 then N e (bG N e.Args).1 else (px,(bG N e.Args).2):=by
 cases e;rw [bP];rfl
def qt (sz vars:List nq) (s:nq):Bool:=bQ vars s||bQ sz s
def pB (N:Ex->List Ty->Ty×Int) (e:Ex):Ty×Int:=
 if dT e=0 then (if bV e=true then (px,10) else if (bP N e).2=0 then ((bP N e).1,0) else (px,(bP N e).2)) else (px,dT e)
def jB (n:En) (vars:List nq) (e:Ex):Ty×Int:=pB (qd n (qt n.sz vars)) e
def nG (n:En) (vars:List nq) (e:Ex):Ty×Int:=pB (gK n (qt n.sz vars)) e
def cZ (a b:Ty×Int):Prop:=a.2=b.2/\(a.2=0->a.1=b.1)
def Mp (k:nq->Bool) (l:Lf):mC k [l]=nI k l:=by simp [mC,nI]
def QK (n:En) (k:nq->Bool) (e:Ex) (l:List Ty) (h1:1<=e.Op) (h2:e.Op<=18):cZ (qd n k e l) (gK n k e l):=by
 unfold qd gK cZ
 rw [Mp]
 by_cases c1:e.Op=1∨e.Op=12
 ·simp [c1]
 by_cases c2:e.Op=2
 ·simp [c1,c2]
 by_cases c3:e.Op=3
 ·simp [c1,c2,c3]
 by_cases c8:e.Op=8
 ·simp [c8]
 by_cases c11:e.Op=11
 ·simp only [c11]
  by_cases h:bU l 1=bU l 2
  ·simp [h,lN]
  ·simp [h,lN]
 simp only [c1,c2,c3,c8,c11,gn]
 by_cases c16:16<=e.Op
 ·have:e.Op=16∨e.Op=17∨e.Op=18:=by omega
  simp [this,c16]
 ·have:¬(e.Op=16∨e.Op=17∨e.Op=18):=by omega
  simp only [this,c16,gn]
  by_cases c13:13<=e.Op
  ·have:e.Op=13∨e.Op=14∨e.Op=15:=by omega
   simp only [this,c13,ik]
   by_cases h:bU l 0=bU l 1<;>simp [h,lN]
  ·have:¬(e.Op=13∨e.Op=14∨e.Op=15):=by omega
   simp only [this,c13,gn]
   by_cases h:bU l 0=bU l 1<;>simp [h,lN]
def Dp (h:dC e=0):1<=e.Op/\e.Op<=18:=by
 have:=(zNx h).1
 simp only [jX,ae,aA,ax,ao] at this
 obtain ⟨⟨⟨⟨⟨⟨h1,h2⟩,_⟩,_⟩,_⟩,_⟩,_⟩:=this
 exact ⟨zB,zB⟩
mutual
def zYl (n:En) (k:nq->Bool):∀e:Ex,fJ e=0->cZ (bP (qd n k) e) (bP (gK n k) e)
 |.mk o nm v t l i arg_,h=>by
  obtain ⟨h1,h2⟩:=Dp (zHq h)
  obtain ⟨h3,h4⟩:=zYm n k arg_ λa ha=>zJq h ha
  rw [bP,bP,<-h3]
  by_cases c:(bG (qd n k) arg_).2=0
  ·rw [ab c,ab c,<-h4 c]
   exact QK n k _ _ h1 h2
  ·rw [aa c,aa c]
   exact ⟨rfl,λ_=>rfl⟩
def zYm (n:En) (k:nq->Bool):∀l:List Ex,(∀a,a∈l->fJ a=0)->(bG (qd n k) l).2=(bG (gK n k) l).2/\((bG (qd n k) l).2=0->(bG (qd n k) l).1=(bG (gK n k) l).1)
 |[],_=>⟨rfl,λ_=>rfl⟩
 |a::r,h=>by
  obtain ⟨h1,h2⟩:=zYl n k a (h a uF)
  obtain ⟨h3,h4⟩:=zYm n k r λx hx=>h x G7
  rw [bG,bG,<-h1,<-h3]
  by_cases c:(bP (qd n k) a).2=0
  ·rw [ab c,ab c]
   by_cases d:(bG (qd n k) r).2=0
   ·rw [ab d,ab d,h2 c,h4 d];exact ⟨rfl,λ_=>rfl⟩
   ·rw [aa d,aa d];exact ⟨rfl,λ_=>rfl⟩
  ·rw [aa c,aa c];exact ⟨rfl,λ_=>rfl⟩
end
def LK (n:En) (vars:List nq) (e:Ex):jB n vars e=nG n vars e:=by
 unfold jB nG pB
 by_cases h:dT e=0
 ·rw [ab h,ab h]
  by_cases c:bV e=true
  ·rw [ab c,ab c]
  ·rw [aa c,aa c]
   obtain ⟨h1,h2⟩:=zYl n (qt n.sz vars) e (VG h)
   rw [<-h1]
   by_cases d:(bP (qd n (qt n.sz vars)) e).2=0
   ·rw [ab d,ab d,h2 d]
   ·rw [aa d,aa d]
 ·rw [aa h,aa h]
/-! ## Validate,the reference -/
def dJ (s:nq) (taken:List nq):Int:=if bB s=true then (if bQ taken s=true then 8 else 0) else 7
def jE (l:Lf) (sz:List nq):Int:=if bI l=true then (if rc (bQ sz) l.L=true then 0 else 9) else 1
def nF (sz:List nq):List Lf->Int
 |[]=>0
 |l::r=>if jE l sz=0 then nF sz r else jE l sz
def jO (x:Pm) (sz taken:List nq):Int:=
 if dJ x.Name taken=0 then (if dO x.T=true then (if 6<x.Dims.length then 11 else nF sz x.Dims) else 10) else dJ x.Name taken
def jU (sz:List nq):List nq->List Ax->Int
 |_,[]=>0
 |taken,a::r=>if dJ a.Name taken=0 then (if jE a.Size sz=0 then jU sz (taken++[a.Name]) r else jE a.Size sz) else dJ a.Name taken
def pJ (d:Df):Int:=
 if d.Fold<0∨5<d.Fold then 1 else
 if (decide (d.Fold=0∨d.Fold=5) !=decide (d.Red.length=0))=true∨d.Fold=5/\d.Dims.length=0 then 11 else 0
def rU (t:Ty×Int) (d:Df):Int:=if t.2=0 then (if t.1=d.T then 0 else 10) else t.2
def nM (n:En) (d:Df) (taken:List nq):Int:=
 if dJ d.Name taken=0 then
  (if dO d.T=true then
   (if 6<d.Dims.length∨6<d.Red.length then 11 else
    (if jU n.sz n.sz (d.Dims++d.Red)=0 then (if pJ d=0 then rU (nG n (bD d) d.Body) d else pJ d) else jU n.sz n.sz (d.Dims++d.Red)))
   else 10)
 else dJ d.Name taken
def jG:List nq->List nq->Int
 |_,[]=>0
 |taken,s::r=>if dJ s taken=0 then jG (taken++[s]) r else dJ s taken
def dP (p:Pg):Prop:=p.Sizes.length<=64/\p.Params.length<=64/\p.Defs.length<=64/\p.Outs.length<=64/\p.Where.length<=256
instance (p:Pg):Decidable (dP p):=by unfold dP;infer_instance
def jV (sz:List nq):List Cn->Int
 |[]=>0
 |c::r=>if jE c.Lin sz=0 then jV sz r else jE c.Lin sz
def pU (n:En):Int->List nq->List nq->Int×Int
 |_,_,[]=>(0,0)
 |at_,seen,s::r=>if (n.find s).ok=true then (if bQ seen s=true then (at_,8) else pU n (at_+1) (seen++[s]) r) else (at_,9)
def nJ (p:Pg):Int->List nq->List Df->List Df->Int×Int
 |at_,_,_,[]=>pU p.en at_ [] p.Outs
 |at_,taken,before,d::r=>if nM ⟨p.Sizes,p.Params,before⟩ d taken=0 then nJ p (at_+1) (taken++[d.Name]) (before++[d]) r else (at_,nM ⟨p.Sizes,p.Params,before⟩ d taken)
def gA (p:Pg):Int->List nq->List Pm->Int×Int
 |at_,taken,[]=>nJ p at_ taken [] p.Defs
 |at_,taken,x::r=>if jO x p.Sizes taken=0 then gA p (at_+1) (taken++[x.Name]) r else (at_,jO x p.Sizes taken)
def lM (p:Pg):Int×Int:=
 if dP p then
  (if jG [] p.Sizes=0 then (if jV p.Sizes p.Where=0 then gA p 2 p.Sizes p.Params else (1,jV p.Sizes p.Where)) else (0,jG [] p.Sizes))
 else (0,2)
/-! ## Validate,the program: with a table of what each name is (1 a size,2 a tensor) -/
abbrev Kn:=List (nq×Int)
def gW (m:Kn) (s:nq):Int:=(fX m s).getD 0
def fT (m:Kn) (s:nq):Int:=if bB s=true then (if gW m s=0 then 0 else 8) else 7
def gD (m:Kn) (l:Lf):Int:=if bI l=true then (if rc (λs=>decide (gW m s=1)) l.L=true then 0 else 9) else 1
def lL (m:Kn):List Lf->Int
 |[]=>0
 |l::r=>if gD m l=0 then lL m r else gD m l
def jY (m:Kn) (x:Pm):Int:=
 if fT m x.Name=0 then (if dO x.T=true then (if 6<x.Dims.length then 11 else lL (fR m x.Name 2) x.Dims) else 10) else fT m x.Name
def mH (m:Kn):List nq->List Ax->Int
 |_,[]=>0
 |own,a::r=>if bB a.Name=true then (if bQ own a.Name=true∨gW m a.Name=1 then 8 else (if gD m a.Size=0 then mH m (own++[a.Name]) r else gD m a.Size)) else 7
def gR (d:Df):Int:=
 if d.Fold=0 then (if 0<d.Red.length then 11 else 0) else
 if d.Fold=1∨d.Fold=2∨d.Fold=3∨d.Fold=4 then (if d.Red.length=0 then 11 else 0) else
 if d.Fold=5 then (if 0<d.Red.length∨d.Dims.length=0 then 11 else 0) else 1
def rB (m:Kn) (n:En) (d:Df):Int:=
 if fT m d.Name=0 then
  (if dO d.T=true then
   (if 6<d.Dims.length∨6<d.Red.length then 11 else
    (if mH (fR m d.Name 2) [] (d.Dims++d.Red)=0 then (if gR d=0 then rU (jB n (bD d) d.Body) d else gR d) else mH (fR m d.Name 2) [] (d.Dims++d.Red)))
   else 10)
 else fT m d.Name
def jH:Kn->List nq->Int
 |_,[]=>0
 |m,s::r=>if fT m s=0 then jH (fR m s 1) r else fT m s
def xQ:Kn->List nq->Kn
 |m,[]=>m
 |m,s::r=>xQ (fR m s 1) r
def lD (m:Kn):List Cn->Int
 |[]=>0
 |c::r=>if gD m c.Lin=0 then lD m r else gD m c.Lin
def pV (m:Kn):Int->List nq->List nq->Int×Int
 |_,_,[]=>(0,0)
 |at_,seen,s::r=>if gW m s=2 then (if bQ seen s=true then (at_,8) else pV m (at_+1) (seen++[s]) r) else (at_,9)
def pX (p:Pg):Int->Kn->List Df->List Df->Int×Int
 |at_,m,_,[]=>pV m at_ [] p.Outs
 |at_,m,before,d::r=>if rB m ⟨p.Sizes,p.Params,before⟩ d=0 then pX p (at_+1) (fR m d.Name 2) (before++[d]) r else (at_,rB m ⟨p.Sizes,p.Params,before⟩ d)
def jZ (p:Pg):Int->Kn->List Pm->Int×Int
 |at_,m,[]=>pX p at_ m [] p.Defs
 |at_,m,x::r=>if jY m x=0 then jZ p (at_+1) (fR m x.Name 2) r else (at_,jY m x)
def bK (p:Pg):Int×Int:=
 if dP p then
  (if jH [] p.Sizes=0 then (if lD (xQ [] p.Sizes) p.Where=0 then jZ p 2 (xQ [] p.Sizes) p.Params else (1,lD (xQ [] p.Sizes) p.Where)) else (0,jH [] p.Sizes))
 else (0,2)
def SV (a b:List nq) (s:nq):bQ (a++b) s=(bQ a s||bQ b s):=by simp [bQ,fj]
def zOa (s t:nq):bQ [s] t=decide (s=t):=by simp [bQ]
def Is (m:Kn) (k s:nq) (a:Int):fX (fR m k a) s=if k=s then some a else fX m s:=by
 induction m with
 |nil=>simp [fR,fX]
 |cons x r ih=>
  exact v59
def zIn (m:Kn) (k s:nq) (a:Int):gW (fR m k a) s=if k=s then a else gW m s:=by
 unfold gW;rw [Is];by_cases h:k=s<;>simp [h]
structure Rel (m:Kn) (sz tn:List nq):Prop where
 one:∀s,gW m s=1↔bQ sz s=true
 two:∀s,gW m s=2↔bQ tn s=true
 zero:∀s,gW m s=0↔bQ (sz++tn) s=false
def Rel.nil:Rel [] [] []:=⟨λs=>by simp [gW,fX,bQ],λs=>by simp [gW,fX,bQ],λs=>by simp [gW,fX,bQ]⟩
variable {sz:List nq} {m:Kn}
def Rel.size (h:Rel m sz []) (h0:gW m s=0):Rel (fR m s 1) (sz++[s]) []:=by
 refine ⟨λt=>?_,λt=>?_,λt=>?_⟩
 ·rw [zIn,SV,zOa]
  by_cases e:s=t
  ·simp [e]
  ·simp [e,h.one t]
 ·rw [zIn]
  by_cases e:s=t
  ·simp [e,bQ]
  ·simp [e,h.two t]
 ·rw [zIn,rk,SV,zOa]
  by_cases e:s=t
  ·simp [e]
  ·have:=h.zero t
   rw [rk] at this
   simp [e,this]
variable {tn:List nq}
def Rel.tensor (h:Rel m sz tn) (h0:gW m s=0):Rel (fR m s 2) sz (tn++[s]):=by
 refine ⟨λt=>?_,λt=>?_,λt=>?_⟩
 ·rw [zIn]
  by_cases e:s=t
  ·subst e
   have h1:¬bQ sz s=true:=λk=>by have:=(h.one s).2 k;omega
   simp [h1]
  ·simp [e,h.one t]
 ·rw [zIn,SV,zOa]
  by_cases e:s=t
  ·simp [e]
  ·simp [e,h.two t]
 ·rw [zIn,SV,SV,zOa]
  by_cases e:s=t
  ·simp [e]
  ·have:=h.zero t
   rw [SV] at this
   simp [e,this]
def Dk (h:Rel m sz tn) (s:nq):fT m s=dJ s (sz++tn):=by
 unfold fT dJ
 by_cases h1:bB s=true
 ·rw [ab h1,ab h1]
  by_cases h2:gW m s=0
  ·rw [ab h2,aa (by rw [(h.zero s).1 h2];simp)]
  ·rw [aa h2,ab (by cases k:bQ (sz++tn) s;exact absurd ((h.zero s).2 k) h2;rfl)]
 ·rw [aa h1,aa h1]
def zJv (h:fT m s=0):gW m s=0:=by
 unfold fT at h
 by_cases h1:bB s=true
 ·rw [ab h1] at h
  by_cases h2:gW m s=0
  ·exact h2
  ·rw [aa h2] at h;cases h
 ·rw [aa h1] at h;cases h
def MG {k k':nq->Bool} (h:∀s,k s=k' s) (l:List Mono):rc k l=rc k' l:=by
 unfold rc;congr 1;funext m;exact h m.Name
def y9 (h:Rel m sz tn) (l:Lf):gD m l=jE l sz:=by
 unfold gD jE
 rw [MG (k':=bQ sz)]
 intro s
 rw [cv,aj];exact h.one s
def NL (h:Rel m sz tn) (l:List Lf):lL m l=nF sz l:=by
 induction l with
 |nil=>rfl
 |cons x r ih=>rw [lL,nF,y9 h,ih]
def FR (h:Rel m sz tn) (x:Pm):jY m x=jO x sz (sz++tn):=by
 unfold jY jO
 rw [<-Dk h]
 by_cases h1:fT m x.Name=0
 ·rw [ab h1,ab h1,NL (h.tensor (zJv h1))]
 ·rw [aa h1,aa h1]
def JJ {m:Kn} {sz tn:List nq} (h:Rel m sz tn):∀(l:List Ax) (own:List nq),mH m own l=jU sz (sz++own) l
 |[],own=>rfl
 |a::r,own=>by
  have ih:=JJ h r (own++[a.Name])
  rw [mH,jU,y9 h,ih,tu]
  unfold dJ
  by_cases h1:bB a.Name=true
  ·rw [ab h1,ab h1,SV]
   by_cases h2:bQ own a.Name=true∨gW m a.Name=1
   ·rw [ab h2]
    have h3:(bQ sz a.Name||bQ own a.Name)=true:=by
     rcases h2 with h2|h2
     ·simp [h2]
     ·simp [(h.one _).1 h2]
    rw [ab h3];rfl
   ·rw [aa h2]
    have h3:¬(bQ sz a.Name||bQ own a.Name)=true:=by
     intro h3
     rw [aD] at h3
     rcases h3 with h3|h3
     ·exact h2 (.inr ((h.one _).2 h3))
     ·exact h2 (.inl h3)
    rw [aa h3,ab rfl]
  ·rw [aa h1,aa h1];rfl
def TU (d:Df):gR d=pJ d:=by
 unfold gR pJ
 by_cases h0:d.Fold=0
 ·by_cases hr:d.Red.length=0<;>simp [h0,hr]<;>omega
 by_cases h5:d.Fold=5
 ·by_cases hr:d.Red.length=0
  ·by_cases hd:d.Dims.length=0<;>simp [h5,hr,hd]
  ·have:0<d.Red.length:=by omega
   simp [h5,hr,this]
 by_cases h1:d.Fold=1∨d.Fold=2∨d.Fold=3∨d.Fold=4
 ·have h2:¬(d.Fold<0∨5<d.Fold):=by omega
  by_cases hr:d.Red.length=0<;>simp [h0,h5,h1,h2,hr]
 ·have h2:d.Fold<0∨5<d.Fold:=by omega
  simp [h0,h5,h1,h2]
def O8 {n:En} (h:Rel m n.sz tn) (d:Df):rB m n d=nM n d (n.sz++tn):=by
 unfold rB nM
 rw [<-Dk h]
 by_cases h1:fT m d.Name=0
 ·rw [ab h1,ab h1,JJ (h.tensor (zJv h1)),rk,TU,LK]
 ·rw [aa h1,aa h1]
def AS {n:En} {d:Df} (h:rB m n d=0):fT m d.Name=0:=by
 unfold rB at h
 by_cases h1:fT m d.Name=0
 ·exact h1
 ·rw [aa h1] at h;exact absurd h h1
def zYe {x:Pm} (h:jY m x=0):fT m x.Name=0:=by
 unfold jY at h
 by_cases h1:fT m x.Name=0
 ·exact h1
 ·rw [aa h1] at h;exact absurd h h1
def Gw:∀(l:List nq) (m:Kn) (sz:List nq),Rel m sz []->jH m l=jG sz l/\(jH m l=0->Rel (xQ m l) (sz++l) [])
 |[],m,sz,h=>⟨rfl,λ_=>by rw [rk];exact h⟩
 |s::r,m,sz,h=>by
  have e:=Dk h s
  rw [rk] at e
  rw [jH,jG,<-e,xQ]
  by_cases h1:fT m s=0
  ·rw [ab h1,ab h1]
   obtain ⟨h2,h3⟩:=Gw r _ _ (h.size (zJv h1))
   exact ⟨h2,λk=>by have:=h3 k;rwa [tu] at this⟩
  ·rw [aa h1,aa h1];exact ⟨rfl,λk=>absurd k h1⟩
def Sd (h:Rel m sz tn) (l:List Cn):lD m l=jV sz l:=by
 induction l with
 |nil=>rfl
 |cons x r ih=>rw [lD,jV,y9 h,ih]
def ES (s:nq):∀l:List Df,(fI s l).ok=bQ (l.map Df.Name) s
 |[]=>rfl
 |d::r=>by
  rw [fI,aG,show d.Name::r.map Df.Name=[d.Name]++r.map Df.Name from rfl,SV,zOa,<-ES s r]
  by_cases h:d.Name=s<;>simp [h]
def EU (s:nq) (ds:List Df):∀l:List Pm,(gC s ds l).ok=(bQ (l.map Pm.Name) s||bQ (ds.map Df.Name) s)
 |[]=>by rw [gC,ES];simp [bQ]
 |x::r=>by
  rw [gC,aG,show x.Name::r.map Pm.Name=[x.Name]++r.map Pm.Name from rfl,SV,zOa]
  by_cases h:x.Name=s
  ·simp [h]
  ·simp [h,EU s ds r]
def Le {m:Kn} {n:En} (h:Rel m n.sz (n.pm.map Pm.Name++n.df.map Df.Name)):∀(l:List nq) (i:Int) (seen:List nq),pV m i seen l=pU n i seen l
 |[],i,seen=>rfl
 |s::r,i,seen=>by
  rw [pV,pU,Le h r]
  have e:gW m s=2↔(n.find s).ok=true:=by
   rw [h.two s,En.find,EU,SV]
  by_cases h2:gW m s=2
  ·rw [ab h2,ab (e.1 h2)]
  ·rw [aa h2,aa (λk=>h2 (e.2 k))]
def J3 (p:Pg):∀(l:List Df) (i:Int) (m:Kn) (before:List Df),p.Defs=before++l->Rel m p.Sizes (p.Params.map Pm.Name++before.map Df.Name)->
  pX p i m before l=nJ p i (p.Sizes++(p.Params.map Pm.Name++before.map Df.Name)) before l
 |[],i,m,before,hp,h=>by
  rw [rk] at hp
  subst hp
  rw [pX,nJ]
  exact Le (n:=p.en) h _ _ _
 |d::r,i,m,before,hp,h=>by
  rw [pX,nJ,O8 (n:=⟨p.Sizes,p.Params,before⟩) h]
  by_cases h1:nM ⟨p.Sizes,p.Params,before⟩ d (p.Sizes++(p.Params.map Pm.Name++before.map Df.Name))=0
  ·rw [ab h1,ab h1]
   have h2:rB m ⟨p.Sizes,p.Params,before⟩ d=0:=by rw [O8 (n:=⟨p.Sizes,p.Params,before⟩) h];exact h1
   have h3:=h.tensor (zJv (AS h2))
   have e:p.Params.map Pm.Name++before.map Df.Name++[d.Name]=p.Params.map Pm.Name++(before++[d]).map Df.Name:=by simp
   rw [e] at h3
   rw [J3 p r (i+1) _ (before++[d]) (by rw [hp];simp) h3,<-e,<-tu p.Sizes]
  ·rw [aa h1,aa h1]
def BI (p:Pg):∀(l:List Pm) (i:Int) (m:Kn) (before:List Pm),p.Params=before++l->Rel m p.Sizes (before.map Pm.Name)->
  jZ p i m l=gA p i (p.Sizes++before.map Pm.Name) l
 |[],i,m,before,hp,h=>by
  rw [rk] at hp
  subst hp
  rw [jZ,gA]
  have:=J3 p p.Defs i m [] rfl tk
  simpa using this
 |x::r,i,m,before,hp,h=>by
  rw [jZ,gA,FR h]
  by_cases h1:jO x p.Sizes (p.Sizes++before.map Pm.Name)=0
  ·rw [ab h1,ab h1]
   have h2:jY m x=0:=by rw [FR h];exact h1
   have h3:=h.tensor (zJv (zYe h2))
   have e:before.map Pm.Name++[x.Name]=(before++[x]).map Pm.Name:=by simp
   rw [e] at h3
   rw [BI p r (i+1) _ (before++[x]) (by rw [hp];simp) h3,<-e,tu]
  ·rw [aa h1,aa h1]
def Sw (p:Pg):bK p=lM p:=by
 unfold bK lM
 by_cases h:dP p
 ·rw [ab h,ab h]
  obtain ⟨h1,h2⟩:=Gw p.Sizes [] [] Rel.nil
  rw [<-h1]
  by_cases c:jH [] p.Sizes=0
  ·rw [ab c,ab c]
   have h3:=h2 c
   rw [D6] at h3
   rw [Sd h3]
   have h4:=BI p p.Params 2 (xQ [] p.Sizes) [] rfl (by simpa using h3)
   rw [bt,rk] at h4
   rw [h4]
  ·rw [aa c,aa c]
 ·rw [aa h,aa h]
def T5 {z v:List nq} {l:List Mono} {x:Mono} (h:l[k]? =some x) (hp:rc (qt z v) (l.take k)=true) (c:(!bQ v x.Name&& !bQ z x.Name)=false):rc (qt z v) (l.take (k+1))=true:=by
 unfold rc at *
 rw [yB h,cj,hp]
 simp only [bm,fc,bq,aM,qt]
 revert c;cases bQ v x.Name<;>cases bQ z x.Name<;>simp
def kn_no {z v:List nq} {l:List Mono} {x:Mono} (h:l[k]? =some x) (c:(!bQ v x.Name&& !bQ z x.Name)=true):rc (qt z v) l=false:=by
 unfold rc
 rw [fq]
 refine ⟨x,qD h,?_⟩
 unfold qt
 revert c;cases bQ v x.Name<;>cases bQ z x.Name<;>simp
def lT:List (List Ax)->Nat
 |[]=>0
 |l::r=>l.length+lT r
def zPe:∀(a b:List (List Ax)),lT (a++b)=lT a+lT b
 |[],b=>by simp [lT]
 |l::r,b=>by simp [lT,zPe r b];omega
def BZ:∀(a:List (List Ax)),lT a=a.flatten.length
 |[]=>rfl
 |l::r=>by simp [lT,BZ r]
variable {ls:List (List Ax)}
def GQ {x:List Ax} (h:ls[k]? =some x):lT (ls.take (k+1))=lT (ls.take k)+x.length:=by
 rw [yB h,zPe];simp [lT]
def Zx (ls:List (List Ax)) (k:Nat):lT (ls.take k)<=lT ls:=by
 have:lT ls=lT (ls.take k)+lT (ls.drop k):=by rw [<-zPe,aZ]
 omega
def LI {x:List Ax} (h:ls[k]? =some x):lT (ls.take k)+x.length<=lT ls:=by
 rw [<-GQ h];exact Zx _ _
def GP {x:List Ax} (h:ls[k]? =some x):(ls.take k).flatten.length+x.length<=lT ls:=by
 rw [<-BZ];exact LI h
structure Pg.Ok (p:Pg):Prop where
 sizes:p.Sizes.length<=4294967296
 wh:p.Where.length<=4294967296
 params:p.Params.length<=4294967296
 defs:p.Defs.length<=4294967296
 outs:p.Outs.length<=4294967296
 whs:∀c,c∈p.Where->c.Lin.L.length<=5864062014805
 ps:∀x,x∈p.Params->x.Dims.length<=4294967296/\∀l,l∈x.Dims->l.L.length<=5864062014805
 ds:∀d,d∈p.Defs->d.Dims.length<=1073741824/\d.Red.length<=1073741824/\(∀a,a∈d.Dims->a.Size.L.length<=5864062014805)/\(∀a,a∈d.Red->a.Size.L.length<=5864062014805)/\d.Body.wt<=4294967296
def Pg.Ok.take {p:Pg} (h:p.Ok) (k:Nat):Pg.Ok ⟨p.Sizes,p.Where,p.Params,p.Defs.take k,p.Outs⟩:=
 ⟨h.sizes,h.wh,h.params,by have:=h.defs;simp only [ap];omega,h.outs,h.whs,h.ps,λd hd=>h.ds d (e9 hd)⟩
def yf (d:Df):(d.Dims++d.Red).map (λa=>[cS a.Name])=(bD d).map λs=>[cS s]:=by
 simp [bD,ah,fx,my]
def P5 (p:Pg):(decide (max (max (max (p.Sizes.length:Int) p.Params.length) p.Defs.length) p.Outs.length<=64)&&decide ((p.Where.length:Int)<=256))=decide (dP p):=by
 unfold dP
 by_cases h:p.Sizes.length<=64/\p.Params.length<=64/\p.Defs.length<=64/\p.Outs.length<=64/\p.Where.length<=256
 ·rw [al h,ae]
  exact ⟨al zB,al zB⟩
 ·rw [am h,bk]
  by_cases h2:p.Where.length<=256
  ·exact .inl (am zB)
  ·exact .inr (am zB)
def zTm {x:α} (h:l[k]? =some x):k+1<=l.length:=(af.1 h).1
def vH (l:List Int) (k:Nat):Int:=(l.take k).foldl max (l.headD 0)
def M0 {l:List Int} {x:Int} (h:l[k]? =some x):max (vH l k) x=vH l (k+1):=by
 unfold vH;rw [yB h,du];rfl
def Qx {l:List Int} {x:Int} (h:l[0]? =some x):x=vH l 1:=by
 cases l with
 |nil=>simp at h
 |cons a r=>simp at h;subst h;simp [vH]
def nZ (t:Ty) (l:List Int):Int:=if dO t=true then (if 6<vH l l.length then 11 else 0) else 10
def RS {t:Ty} (h:¬bZ t=0):dO t=false:=by
 cases c:dO t
 ·rfl
 ·exact absurd (by simp [bZ,c]) h
def B1 {t:Ty} (h:bZ t=0):dO t=true:=by
 cases c:dO t
 ·simp [bZ,c] at h
 ·rfl
def Ev (t:Ty) (n:Nat):nZ t [(n:Int)]=if dO t=true then (if 6<n then 11 else 0) else 10:=by
 unfold nZ vH
 by_cases h:dO t=true
 ·simp only [ab h];by_cases h2:6<n
  ·rw [ab h2,ab uD]
  ·rw [aa h2,aa uD]
 ·simp only [aa h]
def Ew (t:Ty) (n m:Nat):nZ t [(n:Int),(m:Int)]=if dO t=true then (if 6<n∨6<m then 11 else 0) else 10:=by
 unfold nZ vH
 by_cases h:dO t=true
 ·simp only [ab h];by_cases h2:6<n∨6<m
  ·rw [ab h2,ab uD]
  ·rw [aa h2,aa uD]
 ·simp only [aa h]
end Go.Br
end
section
namespace Go.Br
open Go Go.Eng Go.L41
abbrev vP (b:Nat):V:=.c (.lit (.pointer (some ⟨b,0,none⟩)))
def jI (m:Kn) (s:nq) (k:Int):Kn:=if fT m s=0 then fR m s k else m
variable {m:Kn} {s:nq}
def BB (h:bB s=false):fT m s=7:=by unfold fT;rw [h];rfl
def BC (h:bB s=true) (h2:¬gW m s=0):fT m s=8:=by unfold fT;rw [h,ab rfl,aa h2]
def FB (h:bB s=true) (h2:gW m s=0):fT m s=0:=by unfold fT;rw [h,ab rfl,ab h2]
def FC {k n:Int} (h:fT m s=n) (hn:n≠0):m=jI m s k:=by unfold jI;rw [aa (by rw [h];exact hn)]
def zTc {k:Int} (h:fT m s=0):jI m s k=fR m s k:=by unfold jI;rw [ab h]
def zZd {l:Lf} (h:¬dM l=0):bI l=false:=by
 cases c:bI l
 ·rfl
 ·exact absurd (by simp [dM,c]) h
def Z5 {l:Lf} (h:dM l=0):bI l=true:=by
 cases c:bI l
 ·simp [dM,c] at h
 ·rfl
variable {k:Nat}
def Fe {f:nq->Bool} {l:List Mono} {x:Mono} (h:l[k]? =some x) (hp:rc f (l.take k)=true) (c:f x.Name=true):rc f (l.take (k+1))=true:=by
 unfold rc at *
 rw [yB h,cj,hp]
 simp [c]
def PZ {f:nq->Bool} {l:List Mono} {x:Mono} (h:l[k]? =some x) (c:f x.Name=false):rc f l=false:=by
 unfold rc
 rw [fq]
 exact ⟨x,qD h,by simp [c]⟩
def BO {l:Lf} (h:bI l=false):gD m l=1:=by unfold gD;rw [aa WQ]
def Rw {l:Lf} (h:bI l=true) (h2:rc (λs=>decide (gW m s=1)) l.L=false):gD m l=9:=by unfold gD;rw [ab h,aa Ca]
def Rx {l:Lf} (h:bI l=true) (h2:rc (λs=>decide (gW m s=1)) l.L=true):gD m l=0:=by unfold gD;rw [ab h,ab h2]
variable {l:List Lf}
def NM {x:Lf} (h:l[k]? =some x) (hs:gD m x=0):lL m (l.drop k)=lL m (l.drop (k+1)):=by rw [qN h,lL,ab hs]
def NN {x:Lf} (h:l[k]? =some x) (hs:¬gD m x=0):lL m (l.drop k)=gD m x:=by rw [qN h,lL,aa hs]
def z6 {α:Type} {l:List α} (h:¬k<l.length):l.drop k=[]:=cl zB
def cK:List Ax->List (nq×Bool)
 |l=>l.foldl (λm a=>fR m a.Name true) []
variable {x:Ax}
def Nh {l:List Ax} (h:l[k]? =some x):cK (l.take (k+1))=fR (cK (l.take k)) x.Name true:=by
 unfold cK;rw [yB h,du];rfl
def Iu (m:List (nq×Bool)) (k s:nq) (a:Bool):fX (fR m k a) s=if k=s then some a else fX m s:=by
 induction m with
 |nil=>simp [fR,fX]
 |cons x r ih=>
  exact v59
def FQ (s:nq):∀(l:List Ax) (m:List (nq×Bool)),(fX (l.foldl (λm a=>fR m a.Name true) m) s).getD false=(bQ (l.map Ax.Name) s||(fX m s).getD false)
 |[],m=>by simp [bQ]
 |a::r,m=>by
  rw [cp,FQ s r,Iu]
  by_cases h:a.Name=s
  ·simp [bQ,h]
  ·simp [bQ,h]
def UK (s:nq) (l:List Ax):(fX (cK l) s).getD false=bQ (l.map Ax.Name) s:=by
 unfold cK;rw [FQ];simp [fX]
def Tl {l:List Ax} {own:List nq} (h:l[k]? =some x) (h1:bB x.Name=true) (h2:¬(bQ own x.Name=true∨gW m x.Name=1)) (h3:gD m x.Size=0):mH m own (l.drop k)=mH m (own++[x.Name]) (l.drop (k+1)):=by
 rw [qN h,mH,ab h1,aa h2,ab h3]
def Xv {l:List Ax} {own:List nq} (h:l[k]? =some x) (h1:bB x.Name=false):mH m own (l.drop k)=7:=by
 rw [qN h,mH,aa (by rw [h1];simp)]
def Xw {l:List Ax} {own:List nq} (h:l[k]? =some x) (h1:bB x.Name=true) (h2:bQ own x.Name=true∨gW m x.Name=1):mH m own (l.drop k)=8:=by
 rw [qN h,mH,ab h1,ab h2]
def Xx {l:List Ax} {own:List nq} (h:l[k]? =some x) (h1:bB x.Name=true) (h2:¬(bQ own x.Name=true∨gW m x.Name=1)) (h3:¬gD m x.Size=0):mH m own (l.drop k)=gD m x.Size:=by
 rw [qN h,mH,ab h1,aa h2,aa h3]
/-! ## Find -/
def TR {ds:List Df} {l:List Pm} {x:Pm} (h:l[k]? =some x) (hx:x.Name=s):gC s ds (l.drop k)=⟨x.T,x.Dims,true⟩:=by rw [qN h,gC,al hx];rfl
def zZl {ds:List Df} {l:List Pm} {x:Pm} (h:l[k]? =some x) (hx:¬x.Name=s):gC s ds (l.drop k)=gC s ds (l.drop (k+1)):=by rw [qN h,gC,am hx];rfl
def wB (s:nq):∀l:List Df,(0<=pK s l->∃d,l[(pK s l).toNat]? =some d/\fI s l=⟨d.T,d.Dims.map Ax.Size,true⟩)/\(pK s l<0->fI s l=⟨px,[],false⟩)
 |[]=>⟨λh=>by simp [pK,fA] at h,λ_=>rfl⟩
 |d::r=>by
  obtain ⟨h1,h2⟩:=wB s r
  have hge:=E5 (λd:Df=>decide (d.Name=s)) r
  unfold pK at *
  unfold fA fI
  by_cases h:d.Name=s
  ·simp only [al h,aB]
   exact ⟨λ_=>⟨d,uF,rfl⟩,λh=>by omega⟩
  ·simp only [am h,aw]
   by_cases h3:fA (λd:Df=>decide (d.Name=s)) r= -1
   ·simp only [al h3,aB]
    exact ⟨λh=>by omega,λ_=>h2 zB⟩
   ·simp only [am h3,aw]
    refine ⟨λ_=>?_,λh=>by omega⟩
    obtain ⟨x,hx,hf⟩:=h1 zB
    exact ⟨x,by rw [show (fA (λd:Df=>decide (d.Name=s)) r+1).toNat=(fA (λd:Df=>decide (d.Name=s)) r).toNat+1 by omega];simpa using hx,hf⟩
/-! ## The typer -/
def kn (m:Kn) (s:nq):Bool:= !decide (gW m s=0)
def kn_t (h:¬gW m s=0):kn m s=true:=by unfold kn;rw [am h];rfl
def kn_f (h:gW m s=0):kn m s=false:=by unfold kn;rw [al h];rfl
def zWd {k:nq->Bool} {l:Lf} (h:rc k l.L=true):nI k l=0:=by unfold nI;rw [h];rfl
def zOd {k:nq->Bool} {l:Lf} (h:rc k l.L=false):nI k l=9:=by unfold nI;rw [h];rfl
variable {j:Nat}
def A7 {k:nq->Bool} {x:Lf} (h:l[j]? =some x) (hx:¬nI k x=0):mC k l=nI k x:=by
 have h1:rc k x.L=false:=by
  cases c:rc k x.L
  ·rfl
  ·exact absurd (zWd c) hx
 unfold mC
 rw [show l.all (λx=>rc k x.L)=false from fq.2 ⟨x,qD h,by simp [h1]⟩,zOd h1];rfl
def zZj {k:nq->Bool} {x:Lf} (h:l[j]? =some x) (hp:(l.take j).all (λx=>rc k x.L)=true) (hx:nI k x=0):(l.take (j+1)).all (λx=>rc k x.L)=true:=by
 have h1:rc k x.L=true:=by
  cases c:rc k x.L
  ·rw [zOd c] at hx;cases hx
  ·rfl
 rw [yB h,cj,hp];simp [h1]
def A8 {k:nq->Bool} (hp:l.all (λx=>rc k x.L)=true):mC k l=0:=by unfold mC;rw [hp];rfl
def zPp {n:En} {k:nq->Bool} {l:List Ix} {x:Ix} (h:l[j]? =some x) (hx:dN n k x=0):fS n k (l.drop j)=fS n k (l.drop (j+1)):=by rw [qN h,fS,al hx];rfl
def zZf {n:En} {k:nq->Bool} {l:List Ix} {x:Ix} (h:l[j]? =some x) (hx:¬dN n k x=0):fS n k (l.drop j)=dN n k x:=by rw [qN h,fS,am hx];rfl
def zl (t:Ty):List C:=[cI t.Kind,cI t.Bits,cI t.Frac,cI t.Round,cI t.Over]
def DW (a b:Ty):dG [cI a.Kind,cI a.Bits,cI a.Frac,cI a.Round,cI a.Over] [cI b.Kind,cI b.Bits,cI b.Frac,cI b.Round,cI b.Over]=decide (a=b):=by
 obtain ⟨a1,a2,a3,a4,a5⟩:=a
 obtain ⟨b1,b2,b3,b4,b5⟩:=b
 simp only [dG,SJ,Ty.mk.injEq,bq,Bool.decide_and]
def zMq (N:Ex->List Ty->Ty×Int):∀(a b:List Ex),(bG N a).2=0->bG N (a++b)=if (bG N b).2=0 then ((bG N a).1++(bG N b).1,0) else ([],(bG N b).2)
 |[],b,_=>by
  simp only [D6,bG,D6]
  cases b with
  |nil=>simp [bG]
  |cons x r=>
   simp only [bG]
   by_cases h1:(bP N x).2=0
   ·by_cases h2:(bG N r).2=0
    ·simp [h1,h2]
    ·simp [h1,h2]
   ·simp [h1]
 |x::r,b,h=>by
  rw [bG] at h
  by_cases h1:(bP N x).2=0
  ·rw [ab h1] at h
   by_cases h2:(bG N r).2=0
   ·rw [xn,bG,ab h1,zMq N r b h2]
    rw [bG,ab h1,ab h2]
    by_cases h3:(bG N b).2=0
    ·simp [h3]
    ·simp [h3]
   ·rw [aa h2] at h;exact absurd h h2
  ·rw [aa h1] at h;exact absurd h h1
def WW {N:Ex->List Ty->Ty×Int} {l:List Ex} {x:Ex} (h:l[k]? =some x) (hp:(bG N (l.take k)).2=0) (hx:(bP N x).2=0):bG N (l.take (k+1))=((bG N (l.take k)).1++[(bP N x).1],0):=by
 rw [yB h,zMq N _ _ hp];simp [bG,hx]
def QI {N:Ex->List Ty->Ty×Int} {l:List Ex} {x:Ex} (h:l[k]? =some x) (hp:(bG N (l.take k)).2=0) (hx:¬(bP N x).2=0):(bG N l).2=(bP N x).2:=by
 have e:l=l.take k++(x::l.drop (k+1)):=by rw [<-qN h,aZ]
 rw [e,zMq N _ _ hp]
 simp [bG,hx]
def SY (N:Ex->List Ty->Ty×Int):∀l:List Ex,(bG N l).2=0->(bG N l).1.length=l.length
 |[],_=>rfl
 |x::r,h=>by
  rw [bG] at h⊢
  by_cases h1:(bP N x).2=0
  ·rw [ab h1] at h⊢
   by_cases h2:(bG N r).2=0
   ·rw [ab h2];simp [SY N r h2]
   ·rw [aa h2] at h;exact absurd h h2
  ·rw [aa h1] at h;exact absurd h h1
def jN (m:Kn) (l:List nq) (a:Int):Kn:=l.foldl (λm s=>fR m s a) m
def zQf {l:List nq} {a:Int} {x:nq} (h:l[k]? =some x):jN m (l.take (k+1)) a=fR (jN m (l.take k) a) x a:=by
 unfold jN;rw [yB h,du];rfl
def zh (a:Int) (s:nq):∀(l:List nq) (m:Kn),gW (jN m l a) s=if bQ l s=true then a else gW m s
 |[],m=>by simp [jN,bQ]
 |x::r,m=>by
  unfold jN
  rw [cp]
  have:=zh a s r (fR m x a)
  unfold jN at this
  rw [this,zIn]
  have hc:bQ (x::r) s=(decide (x=s)||bQ r s):=rfl
  rw [hc]
  by_cases h:x=s
  ·simp only [h,ik,jk,Bool.true_or];split<;>rfl
  ·simp only [h,gn,lh,dq]
def Ys (sz vars:List nq):kn (jN (jN [] sz 1) vars 3)=qt sz vars:=by
 funext s
 unfold kn qt
 rw [zh,zh]
 cases h1:bQ vars s<;>cases h2:bQ sz s<;>simp [gW,fX]
end Go.Br
namespace Go.Br
open Go Go.Eng Go.L41
variable {m:Kn}
def QV {x:Pm} (c1:fT m x.Name=0) (c2:nZ x.T [(x.Dims.length:Int)]=0):jY m x=lL (jI m x.Name 2) x.Dims:=by
 unfold jY
 rw [Ev] at c2
 rw [ab c1,zTc c1]
 split at c2
 ·rename_i ht
  rw [ab ht]
  split at c2
  ·cases c2
  ·rename_i h6;rw [aa h6]
 ·cases c2
def Nk {x:Pm} (c1:fT m x.Name=0) (c2:¬nZ x.T [(x.Dims.length:Int)]=0):jY m x=nZ x.T [(x.Dims.length:Int)]:=by
 unfold jY
 rw [Ev] at c2⊢
 rw [ab c1]
 split at c2
 ·rename_i ht
  rw [ab ht,ab ht]
  split at c2
  ·rename_i h6;rw [ab h6,ab h6]
  ·exact absurd rfl c2
 ·rename_i ht;rw [aa ht,aa ht]
def Xu {own:List (nq×Bool)} {s:nq} {l:List nq} (h:(fX own s).getD false=bQ l s) (c:((fX own s).getD false||decide (gW m s=1))=true):bQ l s=true∨gW m s=1:=by
 rw [h,aD,aj] at c
 exact c
def ax_no {own:List (nq×Bool)} {s:nq} {l:List nq} (h:(fX own s).getD false=bQ l s) (c:((fX own s).getD false||decide (gW m s=1))=false):¬(bQ l s=true∨gW m s=1):=by
 rw [h,ax,ao] at c
 rintro (k|k)
 ·rw [c.1] at k;cases k
 ·exact c.2 k
end Go.Br
end
section
namespace Go.Br
open Go Go.Eng Go.L41
variable {e:Ex}
def zVu {N:Ex->List Ty->Ty×Int} {x:Ex} {k:Nat} (h:e.Args[k]? =some x) (hp:(bG N (e.Args.take k)).2=0) (hx:¬(bP N x).2=0):bP N e=(px,(bP N x).2):=by
 have h1:=QI h hp hx
 rw [zNy N e,h1,aa hx]
def zVt {N:Ex->List Ty->Ty×Int} {k:Nat} (h:e.Args.take k=e.Args) (hp:(bG N (e.Args.take k)).2=0):bP N e=N e (bG N (e.Args.take k)).1:=by
 rw [h] at hp⊢
 rw [zNy N e,ab hp]
variable {k:nq->Bool} {n:En}
def Lk (h:(n.find e.Name).ok=false):lA n k e=(px,9):=by unfold lA;rw [h];rfl
def FY (h:(n.find e.Name).ok=true) (h2:¬e.Idx.length=(n.find e.Name).dims.length):lA n k e=(px,11):=by unfold lA;rw [h,am h2];rfl
def Ll (h:(n.find e.Name).ok=true) (h2:e.Idx.length=(n.find e.Name).dims.length) (h3:¬fS n k e.Idx=0):lA n k e=(px,fS n k e.Idx):=by unfold lA;rw [h,al h2,am h3];rfl
def u3 (h:(n.find e.Name).ok=true) (h2:e.Idx.length=(n.find e.Name).dims.length) (h3:fS n k e.Idx=0):lA n k e=((n.find e.Name).ty,0):=by unfold lA;rw [h,al h2,al h3];rfl
def RX {a b:Ty} (h:a=b):lN a b=0:=by unfold lN;rw [al h];rfl
def N4 {a b:Ty} (h:¬a=b):lN a b=10:=by unfold lN;rw [am h];rfl
def Z0 {a b:Ty} (h:(!dG [cI a.Kind,cI a.Bits,cI a.Frac,cI a.Round,cI a.Over] [cI b.Kind,cI b.Bits,cI b.Frac,cI b.Round,cI b.Over])=true):¬a=b:=by
 rw [DW] at h;simpa using h
def WY {a b:Ty} (h:(!dG [cI a.Kind,cI a.Bits,cI a.Frac,cI a.Round,cI a.Over] [cI b.Kind,cI b.Bits,cI b.Frac,cI b.Round,cI b.Over])=false):a=b:=by
 rw [DW] at h;simpa using h
def zIt {l:List Ty} {i:Nat} (h:i<l.length):(l.map zl)[i]? =some (zl (bU l i)):=by
 rw [cg,ak h]
 simp [bU,List.getD,ak h]
def zSz {l:List Ty} (h:e.Op=1∨e.Op=12):qd n k e l=(e.Ty,0):=by unfold qd;rw [ab h]
def zSy {l:List Ty} (h:e.Op=2):qd n k e l=(Wf,nI k e.Lin):=by unfold qd;rw [aa zB,ab h]
def zQr {l:List Ty} (h:e.Op=3):qd n k e l=lA n k e:=by unfold qd;rw [aa zB,aa zB,ab h]
def zSx {l:List Ty} (h:e.Op=8):qd n k e l=(bU l 0,0):=by unfold qd;rw [aa zB,aa zB,aa zB,ab h]
def zJu {l:List Ty} (h:e.Op=11):qd n k e l=(bU l 1,lN (bU l 1) (bU l 2)):=by unfold qd;rw [aa zB,aa zB,aa zB,aa zB,ab h]
def zJs {l:List Ty} (h:e.Op=16∨e.Op=17∨e.Op=18):qd n k e l=(px,0):=by unfold qd;rw [aa zB,aa zB,aa zB,aa zB,aa zB,ab h]
def zJt {l:List Ty} (h:e.Op=13∨e.Op=14∨e.Op=15):qd n k e l=(px,lN (bU l 0) (bU l 1)):=by unfold qd;rw [aa zB,aa zB,aa zB,aa zB,aa zB,aa zB,ab h]
def zSw {l:List Ty} (h:¬(e.Op=1∨e.Op=12∨e.Op=2∨e.Op=3∨e.Op=8∨e.Op=11∨e.Op=16∨e.Op=17∨e.Op=18∨e.Op=13∨e.Op=14∨e.Op=15)):qd n k e l=(bU l 0,lN (bU l 0) (bU l 1)):=by unfold qd;rw [aa zB,aa zB,aa zB,aa zB,aa zB,aa zB,aa zB]
def zQn (h:fJ e=0):(e.Args.length:Int)=bW e.Op:=by
 have h1:=(zNx (zHq h)).2.2.1
 unfold rD at h1
 simp only [ae,aA,ax,ey,aj] at h1
 exact h1.1.1
def zWs (h:fJ e=0) (ho:¬(e.Op=1∨e.Op=2∨e.Op=3)):1<=e.Args.length:=by
 have:=zQn h;unfold bW at this;rw [aa ho] at this;split at this
 ·omega
 ·split at this<;>omega
def zDs (h:fJ e=0) (ho:¬(e.Op=1∨e.Op=2∨e.Op=3∨e.Op=8∨e.Op=12∨e.Op=18)):2<=e.Args.length:=by
 have:=zQn h;unfold bW at this;rw [aa zB,aa zB] at this;split at this<;>omega
def AK (h:fJ e=0) (ho:e.Op=11):3<=e.Args.length:=by
 have:=zQn h;unfold bW at this;rw [aa zB,aa zB,ab ho] at this;omega
variable {vars:List nq}
def zm (hk:k=qt n.sz vars) (h1:dT e=0) (h2:bV e=false):jB n vars e=if (bP (qd n k) e).2=0 then ((bP (qd n k) e).1,0) else (px,(bP (qd n k) e).2):=by
 subst hk;unfold jB pB;rw [ab h1,aa Ca]
def N2 (h1:¬dT e=0):jB n vars e=(px,dT e):=by unfold jB pB;rw [aa h1]
def Ju (h1:dT e=0) (h2:bV e=true):jB n vars e=(px,10):=by unfold jB pB;rw [ab h1,ab h2]
/-! ## The program's Validate -/
def Jq:∀(l:List nq) (m:Kn),xQ m l=jN m l 1
 |[],m=>rfl
 |s::r,m=>Jq r _
variable {l:List nq} {m:Kn} {x:nq}
def Gx {k:Nat} (h:l[k]? =some x) (hx:fT m x=0):jH m (l.drop k)=jH (fR m x 1) (l.drop (k+1)):=by rw [qN h,jH,ab hx]
def BP {k:Nat} (h:l[k]? =some x) (hx:¬fT m x=0):jH m (l.drop k)=fT m x:=by rw [qN h,jH,aa hx]
def G3 {l:List Cn} {k:Nat} {x:Cn} (h:l[k]? =some x) (hx:gD m x.Lin=0):lD m (l.drop k)=lD m (l.drop (k+1)):=by rw [qN h,lD,ab hx]
def B8 {l:List Cn} {k:Nat} {x:Cn} (h:l[k]? =some x) (hx:¬gD m x.Lin=0):lD m (l.drop k)=gD m x.Lin:=by rw [qN h,lD,aa hx]
variable {p:Pg} {i:Int}
def Dx {l:List Pm} {k:Nat} {x:Pm} (h:l[k]? =some x) (hx:jY m x=0):jZ p i m (l.drop k)=jZ p (i+1) (fR m x.Name 2) (l.drop (k+1)):=by rw [qN h,jZ,ab hx]
def IF {l:List Pm} {k:Nat} {x:Pm} (h:l[k]? =some x) (hx:¬jY m x=0):jZ p i m (l.drop k)=(i,jY m x):=by rw [qN h,jZ,aa hx]
def HH {l:List Df} {k:Nat} {x:Df} (h:l[k]? =some x) (hx:rB m ⟨p.Sizes,p.Params,l.take k⟩ x=0):pX p i m (l.take k) (l.drop k)=pX p (i+1) (fR m x.Name 2) (l.take (k+1)) (l.drop (k+1)):=by rw [qN h,pX,ab hx,yB h]
def O9 {l:List Df} {k:Nat} {x:Df} (h:l[k]? =some x) (hx:¬rB m ⟨p.Sizes,p.Params,l.take k⟩ x=0):pX p i m (l.take k) (l.drop k)=(i,rB m ⟨p.Sizes,p.Params,l.take k⟩ x):=by rw [qN h,pX,aa hx]
def ID {k:Nat} (h:l[k]? =some x) (h1:gW m x=2) (h2:bQ (l.take k) x=false):pV m i (l.take k) (l.drop k)=pV m (i+1) (l.take (k+1)) (l.drop (k+1)):=by rw [qN h,pV,ab h1,aa Ca,yB h]
def UG {k:Nat} (h:l[k]? =some x) (h1:gW m x=2) (h2:bQ (l.take k) x=true):pV m i (l.take k) (l.drop k)=(i,8):=by rw [qN h,pV,ab h1,ab h2]
def UH {k:Nat} (h:l[k]? =some x) (h1:¬gW m x=2):pV m i (l.take k) (l.drop k)=(i,9):=by rw [qN h,pV,aa h1]
def sS (m:Kn) (l:List Pm):Kn:=l.foldl (λm x=>fR m x.Name 2) m
def BX {l:List Pm} {k:Nat} {x:Pm} (h:l[k]? =some x):sS m (l.take (k+1))=fR (sS m (l.take k)) x.Name 2:=by
 unfold sS;rw [yB h,du];rfl
def xR (m:Kn) (l:List Df):Kn:=l.foldl (λm x=>fR m x.Name 2) m
def BW {l:List Df} {k:Nat} {x:Df} (h:l[k]? =some x):xR m (l.take (k+1))=fR (xR m (l.take k)) x.Name 2:=by
 unfold xR;rw [yB h,du];rfl
def Nl {x:Pm} {k:Int} (h:jY m x=0):jI m x.Name k=fR m x.Name k:=zTc (zYe h)
def TB {x:Df} {k:Int} (h:rB m n x=0):jI m x.Name k=fR m x.Name k:=zTc (AS h)
def RY (h:¬dP p):bK p=(0,2):=by unfold bK;rw [aa h]
def R0 (h:dP p) (h2:¬jH [] p.Sizes=0):bK p=(0,jH [] p.Sizes):=by unfold bK;rw [ab h,aa h2]
def R1 (h:dP p) (h2:jH [] p.Sizes=0) (h3:¬lD (jN [] p.Sizes 1) p.Where=0):bK p=(1,lD (jN [] p.Sizes 1) p.Where):=by
 unfold bK;rw [<-Jq] at h3⊢;rw [ab h,ab h2,aa h3]
def RZ (h:dP p) (h2:jH [] p.Sizes=0) (h3:lD (jN [] p.Sizes 1) p.Where=0):bK p=jZ p 2 (jN [] p.Sizes 1) p.Params:=by
 unfold bK;rw [<-Jq] at h3⊢;rw [ab h,ab h2,ab h3]
variable {d:Df}
/-! ## A definition -/
def def_1 (h:¬fT m d.Name=0):rB m n d=fT m d.Name:=by unfold rB;rw [aa h]
def def_2 (h:fT m d.Name=0) (h2:¬nZ d.T [(d.Dims.length:Int),(d.Red.length:Int)]=0):rB m n d=nZ d.T [(d.Dims.length:Int),(d.Red.length:Int)]:=by
 unfold rB
 rw [Ew] at h2⊢
 rw [ab h]
 split at h2
 ·rename_i ht
  rw [ab ht,ab ht]
  split at h2
  ·rename_i h6;rw [ab h6,ab h6]
  ·exact absurd rfl h2
 ·rename_i ht;rw [aa ht,aa ht]
def XG (h:fT m d.Name=0) (h2:nZ d.T [(d.Dims.length:Int),(d.Red.length:Int)]=0):rB m n d=(if mH (jI m d.Name 2) [] (d.Dims++d.Red)=0 then (if gR d=0 then rU (jB n (bD d) d.Body) d else gR d) else mH (jI m d.Name 2) [] (d.Dims++d.Red)):=by
 unfold rB
 rw [Ew] at h2
 rw [ab h,zTc h]
 split at h2
 ·rename_i ht
  rw [ab ht]
  split at h2
  ·cases h2
  ·rename_i h6;rw [aa h6]
 ·cases h2
variable {t:List nq} {s:nq}
/-! ## The reference's Validate -/
def Uq (h:bB s=false):dJ s t=7:=by unfold dJ;rw [aa WQ]
def Ur (h:bB s=true) (h2:bQ t s=true):dJ s t=8:=by unfold dJ;rw [ab h,ab h2]
def Up (h:bB s=true) (h2:bQ t s=false):dJ s t=0:=by unfold dJ;rw [ab h,aa Ca]
def KA (sz:List nq):qt sz []=bQ sz:=by funext s;simp [qt,bQ]
variable {sz:List nq}
def TW {l:Lf} (h:bI l=false):jE l sz=1:=by unfold jE;rw [aa WQ]
def TX {l:Lf} (h:bI l=true) (h2:rc (qt sz []) l.L=false):jE l sz=9:=by rw [KA] at h2;unfold jE;rw [ab h,aa Ca]
def TV {l:Lf} (h:bI l=true) (h2:rc (qt sz []) l.L=true):jE l sz=0:=by rw [KA] at h2;unfold jE;rw [ab h,ab h2]
def E2 {l:List Lf} {k:Nat} {x:Lf} (h:l[k]? =some x) (hx:jE x sz=0):nF sz (l.drop k)=nF sz (l.drop (k+1)):=by rw [qN h,nF,ab hx]
def Mo {l:List Lf} {k:Nat} {x:Lf} (h:l[k]? =some x) (hx:¬jE x sz=0):nF sz (l.drop k)=jE x sz:=by rw [qN h,nF,aa hx]
def QU {x:Pm} (h:¬dJ x.Name t=0):jO x sz t=dJ x.Name t:=by unfold jO;rw [aa h]
def Ni {x:Pm} (h:dJ x.Name t=0) (h2:dO x.T=false):jO x sz t=10:=by unfold jO;rw [ab h,aa Ca]
def Nj {x:Pm} (h:dJ x.Name t=0) (h2:dO x.T=true) (h3:6<x.Dims.length):jO x sz t=11:=by unfold jO;rw [ab h,ab h2,ab h3]
def FT {x:Pm} (h:dJ x.Name t=0) (h2:dO x.T=true) (h3:¬6<x.Dims.length):jO x sz t=nF sz x.Dims:=by unfold jO;rw [ab h,ab h2,aa h3]
def Hv {l:List Ax} {k:Nat} {x:Ax} (h:l[k]? =some x) (h1:dJ x.Name t=0) (h2:jE x.Size sz=0):jU sz t (l.drop k)=jU sz (t++[x.Name]) (l.drop (k+1)):=by rw [qN h,jU,ab h1,ab h2]
def Tk {l:List Ax} {k:Nat} {x:Ax} (h:l[k]? =some x) (h1:¬dJ x.Name t=0):jU sz t (l.drop k)=dJ x.Name t:=by rw [qN h,jU,aa h1]
def Tj {l:List Ax} {k:Nat} {x:Ax} (h:l[k]? =some x) (h1:dJ x.Name t=0) (h2:¬jE x.Size sz=0):jU sz t (l.drop k)=jE x.Size sz:=by rw [qN h,jU,ab h1,aa h2]
def Gy {k:Nat} (h:l[k]? =some x) (hx:dJ x (l.take k)=0):jG (l.take k) (l.drop k)=jG (l.take (k+1)) (l.drop (k+1)):=by rw [qN h,jG,ab hx,yB h]
def NO {k:Nat} (h:l[k]? =some x) (hx:¬dJ x (l.take k)=0):jG (l.take k) (l.drop k)=dJ x (l.take k):=by rw [qN h,jG,aa hx]
def G4 {l:List Cn} {k:Nat} {x:Cn} (h:l[k]? =some x) (hx:jE x.Lin sz=0):jV sz (l.drop k)=jV sz (l.drop (k+1)):=by rw [qN h,jV,ab hx]
def B9 {l:List Cn} {k:Nat} {x:Cn} (h:l[k]? =some x) (hx:¬jE x.Lin sz=0):jV sz (l.drop k)=jE x.Lin sz:=by rw [qN h,jV,aa hx]
def Dy {l:List Pm} {k:Nat} {x:Pm} (h:l[k]? =some x) (hx:jO x p.Sizes t=0):gA p i t (l.drop k)=gA p (i+1) (t++[x.Name]) (l.drop (k+1)):=by rw [qN h,gA,ab hx]
def IG {l:List Pm} {k:Nat} {x:Pm} (h:l[k]? =some x) (hx:¬jO x p.Sizes t=0):gA p i t (l.drop k)=(i,jO x p.Sizes t):=by rw [qN h,gA,aa hx]
def HI {l:List Df} {k:Nat} {x:Df} (h:l[k]? =some x) (hx:nM ⟨p.Sizes,p.Params,l.take k⟩ x t=0):nJ p i t (l.take k) (l.drop k)=nJ p (i+1) (t++[x.Name]) (l.take (k+1)) (l.drop (k+1)):=by rw [qN h,nJ,ab hx,yB h]
def Pa {l:List Df} {k:Nat} {x:Df} (h:l[k]? =some x) (hx:¬nM ⟨p.Sizes,p.Params,l.take k⟩ x t=0):nJ p i t (l.take k) (l.drop k)=(i,nM ⟨p.Sizes,p.Params,l.take k⟩ x t):=by rw [qN h,nJ,aa hx]
def IE {k:Nat} (h:l[k]? =some x) (h1:(n.find x).ok=true) (h2:bQ (l.take k) x=false):pU n i (l.take k) (l.drop k)=pU n (i+1) (l.take (k+1)) (l.drop (k+1)):=by rw [qN h,pU,ab h1,aa Ca,yB h]
def UI {k:Nat} (h:l[k]? =some x) (h1:(n.find x).ok=true) (h2:bQ (l.take k) x=true):pU n i (l.take k) (l.drop k)=(i,8):=by rw [qN h,pU,ab h1,ab h2]
def UJ {k:Nat} (h:l[k]? =some x) (h1:(n.find x).ok=false):pU n i (l.take k) (l.drop k)=(i,9):=by rw [qN h,pU,aa (by rw [h1];simp)]
def wa (h:¬dJ d.Name t=0):nM n d t=dJ d.Name t:=by unfold nM;rw [aa h]
def uy (h:dJ d.Name t=0) (h2:dO d.T=false):nM n d t=10:=by unfold nM;rw [ab h,aa Ca]
def uz (h:dJ d.Name t=0) (h2:dO d.T=true) (h3:6<d.Dims.length∨6<d.Red.length):nM n d t=11:=by unfold nM;rw [ab h,ab h2,ab h3]
def Cw (h:dJ d.Name t=0) (h2:dO d.T=true) (h3:¬(6<d.Dims.length∨6<d.Red.length)):nM n d t=(if jU n.sz n.sz (d.Dims++d.Red)=0 then (if pJ d=0 then rU (nG n (bD d) d.Body) d else pJ d) else jU n.sz n.sz (d.Dims++d.Red)):=by unfold nM;rw [ab h,ab h2,aa h3]
def lY (p:Pg):Int:=if dP p then jG [] p.Sizes else 2
def zSj (h:lY p=0):dP p/\jG [] p.Sizes=0:=by
 unfold lY at h
 by_cases c:dP p
 ·rw [ab c] at h;exact ⟨c,h⟩
 ·rw [aa c] at h;cases h
def R3 (h:¬lY p=0):lM p=(0,lY p):=by
 unfold lM lY at *
 by_cases c:dP p
 ·rw [ab c] at h;rw [ab c,ab c,aa h]
 ·rw [aa c,aa c]
def R4 (h:lY p=0) (h3:¬jV p.Sizes p.Where=0):lM p=(1,jV p.Sizes p.Where):=by
 obtain ⟨h1,h2⟩:=zSj h
 unfold lM;rw [ab h1,ab h2,aa h3]
def R2 (h:lY p=0) (h3:jV p.Sizes p.Where=0):lM p=gA p 2 p.Sizes p.Params:=by
 obtain ⟨h1,h2⟩:=zSj h
 unfold lM;rw [ab h1,ab h2,ab h3]
/-! ## The reference's types -/
def xg {x:Ix} (h:x.From=bs []):dN n k x=nI k x.Lin:=by rw [dN,al h];rfl
def PT {x:Ix} (h:¬x.From=bs []) (h2:(n.find x.From).ok=false):dN n k x=9:=by rw [dN,am h,h2];rfl
def My {x:Ix} (h:¬x.From=bs []) (h2:(n.find x.From).ok=true) (h3:¬(n.find x.From).ty.Kind=3):dN n k x=10:=by rw [dN,am h,h2,am h3];rfl
def Mz {x:Ix} (h:¬x.From=bs []) (h2:(n.find x.From).ok=true) (h3:(n.find x.From).ty.Kind=3) (h4:¬x.At.length=(n.find x.From).dims.length):dN n k x=11:=by rw [dN,am h,h2,al h3,am h4];rfl
def Bg {x:Ix} (h:¬x.From=bs []) (h2:(n.find x.From).ok=true) (h3:(n.find x.From).ty.Kind=3) (h4:x.At.length=(n.find x.From).dims.length):dN n k x=mC k x.At:=by rw [dN,am h,h2,al h3,al h4];rfl
def HZ {l:List Lf} {j:Nat} {x:Lf} (h:l[j]? =some x) (hx:rc k x.L=false):mC k l=9:=by rw [A7 h (by rw [zOd hx];decide),zOd hx]
def CR {l:List Lf} {j:Nat} {x:Lf} (h:l[j]? =some x) (hp:(l.take j).all (λx=>rc k x.L)=true) (hx:rc k x.L=true):(l.take (j+1)).all (λx=>rc k x.L)=true:=zZj h hp (zWd hx)
def RV (h1:dT e=0) (h2:bV e=false):nG n vars e=if (bP (gK n (qt n.sz vars)) e).2=0 then ((bP (gK n (qt n.sz vars)) e).1,0) else (px,(bP (gK n (qt n.sz vars)) e).2):=by
 unfold nG pB;rw [ab h1,aa Ca]
def N1 (h1:¬dT e=0):nG n vars e=(px,dT e):=by unfold nG pB;rw [aa h1]
def Jt (h1:dT e=0) (h2:bV e=true):nG n vars e=(px,10):=by unfold nG pB;rw [ab h1,ab h2]
def Y6 {l:List Ty} (h:e.Op=1∨e.Op=12):gK n k e l=(e.Ty,0):=by unfold gK;rw [ab h]
def Y7 {l:List Ty} (h:e.Op=2):gK n k e l=(Wf,mC k [e.Lin]):=by unfold gK;rw [aa zB,ab h]
def Y8 {l:List Ty} (h:e.Op=3):gK n k e l=lA n k e:=by unfold gK;rw [aa zB,aa zB,ab h]
def UQ {l:List Ty} (h:e.Op=11) (h2:bU l 1=bU l 2):gK n k e l=(bU l 1,0):=by unfold gK;rw [aa zB,aa zB,aa zB,ab h,ab h2]
def Q7 {l:List Ty} (h:e.Op=11) (h2:¬bU l 1=bU l 2):gK n k e l=(px,10):=by unfold gK;rw [aa zB,aa zB,aa zB,ab h,aa h2]
def Y9 {l:List Ty} (h:e.Op=8):gK n k e l=(bU l 0,0):=by unfold gK;rw [aa zB,aa zB,aa zB,aa zB,ab h]
def UT {l:List Ty} (h:16<=e.Op):gK n k e l=(px,0):=by unfold gK;rw [aa zB,aa zB,aa zB,aa zB,aa zB,ab h]
def UU {l:List Ty} (h:¬(e.Op=1∨e.Op=12∨e.Op=2∨e.Op=3∨e.Op=8∨e.Op=11∨16<=e.Op)) (h2:¬bU l 0=bU l 1):gK n k e l=(px,10):=by unfold gK;rw [aa zB,aa zB,aa zB,aa zB,aa zB,aa zB,aa h2]
def UR {l:List Ty} (h:¬(e.Op=1∨e.Op=12∨e.Op=2∨e.Op=3∨e.Op=8∨e.Op=11∨16<=e.Op)) (h2:bU l 0=bU l 1) (h3:13<=e.Op):gK n k e l=(px,0):=by unfold gK;rw [aa zB,aa zB,aa zB,aa zB,aa zB,aa zB,ab h2,ab h3]
def Za {l:List Ty} (h:¬(e.Op=1∨e.Op=12∨e.Op=2∨e.Op=3∨e.Op=8∨e.Op=11∨13<=e.Op)) (h2:bU l 0=bU l 1):gK n k e l=(bU l 0,0):=by unfold gK;rw [aa zB,aa zB,aa zB,aa zB,aa zB,aa zB,ab h2,aa zB]
def ER {l:List Df} {k:Nat} (h:l[k]? =some d) (hd:d.Name=s):fI s (l.drop k)=⟨d.T,d.Dims.map Ax.Size,true⟩:=by rw [qN h,fI,al hd];rfl
def HV {l:List Df} {k:Nat} (h:l[k]? =some d) (hd:¬d.Name=s):fI s (l.drop k)=fI s (l.drop (k+1)):=by rw [qN h,fI,am hd];rfl
def zQm {i:Nat} {x:Ix} {j:Int} (h:(n.find e.Name).ok=true) (h2:e.Idx.length=(n.find e.Name).dims.length) (hp:fS n k e.Idx=fS n k (e.Idx.drop i)) (hx:e.Idx[i]? =some x) (hi:dN n k x=j) (hj:j≠0):lA n k e=(px,j):=by
 have h3:fS n k e.Idx=j:=by rw [hp,zZf hx (by rw [hi];exact hj),hi]
 rw [Ll h h2 (by rw [h3];exact hj),h3]
def red1 (d:Df):((decide (d.Fold<0)||decide (5<d.Fold))=true->d.Fold<0∨5<d.Fold)/\((decide (d.Fold<0)||decide (5<d.Fold))=false->¬(d.Fold<0∨5<d.Fold)):=by
 simp only [aD,aj,ax,ao]
 exact ⟨λh=>h,λh=>by rintro (k|k);exact h.1 k;exact h.2 k⟩
def Q4 (d:Df):((!decide ((decide (d.Fold=0)||decide (d.Fold=5))=decide ((d.Red.length:Int)=0)))||(decide (d.Fold=5)&&decide ((d.Dims.length:Int)=0)))=true↔((decide (d.Fold=0∨d.Fold=5) !=decide (d.Red.length=0))=true∨d.Fold=5/\d.Dims.length=0):=by
 have e1:decide ((d.Red.length:Int)=0)=decide (d.Red.length=0):=dk.2 zB
 have e2:decide ((d.Dims.length:Int)=0)=decide (d.Dims.length=0):=dk.2 zB
 rw [e1,e2,aD,ae,aj,aj,Bool.decide_or]
 cases (decide (d.Fold=0)||decide (d.Fold=5))<;>cases decide (d.Red.length=0)<;>simp
def red2 (h:((!decide ((decide (d.Fold=0)||decide (d.Fold=5))=decide ((d.Red.length:Int)=0)))||(decide (d.Fold=5)&&decide ((d.Dims.length:Int)=0)))=true):((decide (d.Fold=0∨d.Fold=5) !=decide (d.Red.length=0))=true∨d.Fold=5/\d.Dims.length=0):=(Q4 d).1 h
def red3 (h:((!decide ((decide (d.Fold=0)||decide (d.Fold=5))=decide ((d.Red.length:Int)=0)))||(decide (d.Fold=5)&&decide ((d.Dims.length:Int)=0)))=false):¬((decide (d.Fold=0∨d.Fold=5) !=decide (d.Red.length=0))=true∨d.Fold=5/\d.Dims.length=0):=λk=>by
 rw [(Q4 d).2 k] at h;cases h
def iB (p:Pg):Bool:=(((decide ((64:Int)<p.Sizes.length)||decide ((64:Int)<p.Params.length))||decide ((64:Int)<p.Defs.length))||decide ((64:Int)<p.Outs.length))||decide ((256:Int)<p.Where.length)
def KC (p:Pg):iB p=false↔dP p:=by
 unfold iB dP
 simp only [ax,ao]
 constructor
 ·rintro ⟨⟨⟨⟨h1,h2⟩,h3⟩,h4⟩,h5⟩;exact ⟨zB,zB,zB,zB,zB⟩
 ·rintro ⟨h1,h2,h3,h4,h5⟩;exact ⟨⟨⟨⟨zB,zB⟩,zB⟩,zB⟩,zB⟩
def Yx (h:iB p=true):¬dP p:=λk=>by rw [(KC p).2 k] at h;cases h
def T8 (h:iB p=false):dP p:=(KC p).1 h
/-! ## Long -/
structure Pg.Short (p:Pg):Prop where
 sizes:p.Sizes.length<=12
 wh:p.Where.length<=12
 params:p.Params.length<=12
 defs:p.Defs.length<=12
 outs:p.Outs.length<=12
 whs:∀c,c∈p.Where->c.Lin.L.length<=20
 ps:∀x,x∈p.Params->x.Dims.length<=12/\∀l,l∈x.Dims->l.L.length<=20
 ds:∀d,d∈p.Defs->d.Dims.length<=12/\d.Red.length<=12/\(∀a,a∈d.Dims->a.Size.L.length<=20)/\(∀a,a∈d.Red->a.Size.L.length<=20)/\d.Body.wt<=300
def Pg.Short.ok (h:p.Short):p.Ok:=
 ⟨by have:=h.sizes;omega,by have:=h.wh;omega,by have:=h.params;omega,by have:=h.defs;omega,by have:=h.outs;omega,λc hc=>by have:=h.whs c hc;omega,
  λx hx=>by obtain ⟨h1,h2⟩:=h.ps x hx;exact ⟨zB,λl hl=>by have:=h2 l hl;omega⟩,
  λd hd=>by obtain ⟨h1,h2,h3,h4,h5⟩:=h.ds d hd;exact ⟨zB,zB,λa ha=>by have:=h3 a ha;omega,λa ha=>by have:=h4 a ha;omega,zB⟩⟩
open Go.Proofs
def lH (a b:Int):Int:=if a<b then-1 else if b<a then 1 else 0
def sX (a b:nq):Int:=Lib.compareBytes a.data.toList b.data.toList
def Ld:List Int->Int
 |[]=>0
 |x::r=>if x=0 then Ld r else x
def lK {α:Type} (f:α->α->Int):List α->List α->Int
 |[],[]=>0
 |[],_::_=> -1
 |_::_,[]=>1
 |x::xs,y::ys=>if f x y=0 then lK f xs ys else f x y
variable {α:Type}
def mP (f:α->α->Int) (a b:List α):Int:=if lH a.length b.length=0 then lK f a b else lH a.length b.length
def vM (x y:Mono):Int:=if x.Name=y.Name then lH x.By y.By else sX x.Name y.Name
def pL (a b:Lf):Int:=if lK vM a.L b.L=0 then lH a.K b.K else lK vM a.L b.L
def pM (a b:Ix):Int:=if sX a.From b.From=0 then (if pL a.Lin b.Lin=0 then mP pL a.At b.At else pL a.Lin b.Lin) else sX a.From b.From
def cD (a b:Ty):Int:=Ld [lH a.Kind b.Kind,lH a.Bits b.Bits,lH a.Frac b.Frac,lH a.Round b.Round,lH a.Over b.Over]
def rT (a b:Ex):Int:=Ld [lH a.Op b.Op,sX a.Name b.Name,lH a.Val.N b.Val.N,lH a.Val.D b.Val.D,cD a.Ty b.Ty,pL a.Lin b.Lin]
mutual
def sY:Ex->Ex->Int
 |.mk o n v t l i r,b=>if rT (.mk o n v t l i r) b=0 then (if mP pM i b.Idx=0 then (if lH r.length b.Args.length=0 then cY r b.Args else lH r.length b.Args.length) else mP pM i b.Idx) else rT (.mk o n v t l i r) b
def cY:List Ex->List Ex->Int
 |[],[]=>0
 |[],_::_=> -1
 |_::_,[]=>1
 |x::xs,y::ys=>if sY x y=0 then cY xs ys else sY x y
end
def JV:∀a b:List Ex,cY a b=lK sY a b
 |[],[]=>rfl
 |[],_::_=>rfl
 |_::_,[]=>rfl
 |x::xs,y::ys=>by rw [cY,lK,JV xs ys]
def ux (a b:Ex):sY a b=if rT a b=0 then (if mP pM a.Idx b.Idx=0 then mP sY a.Args b.Args else mP pM a.Idx b.Idx) else rT a b:=by
 cases a with
 |mk o n v t l i r=>rw [sY,JV];rfl
/-! ## Alike is equal -/
def zNn (a b:Int):lH a b=0↔a=b:=by
 unfold lH
 split
 ·constructor
  ·intro h;cases h
  ·intro h;omega
 ·split
  ·constructor
   ·intro h;cases h
   ·intro h;omega
  ·constructor<;>intro h<;>first|rfl|omega
def vt:∀a b:List UInt8,Lib.compareBytes a b=0↔a=b
 |[],[]=>by simp [Lib.compareBytes]
 |[],_::_=>by simp [Lib.compareBytes]
 |_::_,[]=>by simp [Lib.compareBytes]
 |x::xs,y::ys=>by
  rw [Lib.compareBytes]
  by_cases h1:x<y
  ·rw [ab h1]
   constructor
   ·intro h;cases h
   ·intro h;injection h with h2 h3;subst h2;exact absurd h1 (ko x)
  ·rw [aa h1]
   by_cases h2:y<x
   ·rw [ab h2]
    constructor
    ·intro h;cases h
    ·intro h;injection h with h3 h4;subst h3;exact absurd h2 (ko x)
   ·rw [aa h2,vt xs ys]
    have e:x=y:=by
     have h3:=im.1 h1
     have h4:=im.1 h2
     exact jx h4 h3
    simp [e]
def zRn (a b:nq):sX a b=0↔a=b:=by
 unfold sX
 rw [vt]
 constructor
 ·intro h;cases a;cases b;congr 1;exact fz.1 h
 ·rintro rfl;rfl
def yn:∀l:List Int,Ld l=0↔∀x,x∈l->x=0
 |[]=>by simp [Ld]
 |x::r=>by
  rw [Ld]
  by_cases h:x=0
  ·rw [ab h,yn r];simp [h]
  ·rw [aa h];constructor
   ·intro k;exact absurd k h
   ·intro k;exact k x uF
def qAn {α:Type} {f:α->α->Int}:∀(a b:List α),(∀x,x∈a->∀y,f x y=0↔x=y)->(lK f a b=0↔a=b)
 |[],[],_=>by simp [lK]
 |[],_::_,_=>by simp [lK]
 |_::_,[],_=>by simp [lK]
 |x::xs,y::ys,h=>by
  rw [lK]
  have h1:=h x uF y
  by_cases c:f x y=0
  ·rw [ab c,qAn xs ys λz hz=>h z (by simp [hz])];simp [h1.1 c]
  ·rw [aa c]
   constructor
   ·intro k;exact absurd k c
   ·intro k;injection k with k1 k2;exact h1.2 k1
def zTw {f:α->α->Int} (a b:List α) (h:∀x,x∈a->∀y,f x y=0↔x=y):mP f a b=0↔a=b:=by
 unfold mP
 by_cases c:lH (a.length:Int) b.length=0
 ·rw [ab c];exact qAn a b h
 ·rw [aa c]
  constructor
  ·intro k;exact absurd k c
  ·rintro rfl;exact absurd ((zNn _ _).2 rfl) c
def Mc (x y:Mono):vM x y=0↔x=y:=by
 obtain ⟨n,b⟩:=x
 obtain ⟨n',b'⟩:=y
 unfold vM
 by_cases c:n=n'
 ·simp only [c,ik,zNn,Mono.mk.injEq,true_and]
 ·simp only [c,gn,zRn,Mono.mk.injEq,false_and]
def zOh (a b:Lf):pL a b=0↔a=b:=by
 have h:=qAn (f:=vM) a.L b.L λx _ y=>Mc x y
 have e:a=b↔a.L=b.L/\a.K=b.K:=by
  cases a;cases b;simp only [Lf.mk.injEq];exact ⟨λk=>⟨k.2,k.1⟩,λk=>⟨k.2,k.1⟩⟩
 unfold pL
 rw [e]
 by_cases c:lK vM a.L b.L=0
 ·rw [ab c,zNn];exact ⟨λk=>⟨h.1 c,k⟩,λk=>k.2⟩
 ·rw [aa c];exact ⟨λk=>absurd k c,λk=>absurd (h.2 k.1) c⟩
def HF (a b:Ix):pM a b=0↔a=b:=by
 have h:=zTw (f:=pL) a.At b.At λx _ y=>zOh x y
 have e:a=b↔a.From=b.From/\a.Lin=b.Lin/\a.At=b.At:=by
  cases a;cases b;simp only [Ix.mk.injEq];exact ⟨λk=>⟨k.2.1,k.1,k.2.2⟩,λk=>⟨k.2.1,k.1,k.2.2⟩⟩
 unfold pM
 rw [e]
 by_cases c:sX a.From b.From=0
 ·by_cases d:pL a.Lin b.Lin=0
  ·rw [ab c,ab d,h];exact ⟨λk=>⟨(zRn _ _).1 c,(zOh _ _).1 d,k⟩,λk=>k.2.2⟩
  ·rw [ab c,aa d];exact ⟨λk=>absurd k d,λk=>absurd ((zOh _ _).2 k.2.1) d⟩
 ·rw [aa c];exact ⟨λk=>absurd k c,λk=>absurd ((zRn _ _).2 k.1) c⟩
def HG (a b:Ty):cD a b=0↔a=b:=by
 obtain ⟨a1,a2,a3,a4,a5⟩:=a
 obtain ⟨b1,b2,b3,b4,b5⟩:=b
 unfold cD
 rw [yn]
 simp only [rp,aJ,cm,aP,ck,zNn,Ty.mk.injEq]
def HE (a b:Ex):rT a b=0↔a.Op=b.Op/\a.Name=b.Name/\a.Val=b.Val/\a.Ty=b.Ty/\a.Lin=b.Lin:=by
 unfold rT
 rw [yn]
 simp only [rp,aJ,cm,aP,ck,zNn,zRn,HG,zOh]
 cases hv:a.Val
 cases hw:b.Val
 simp only [Vl.mk.injEq]
 constructor
 ·rintro ⟨h1,h2,h3,h4,h5⟩;exact ⟨h1,h2,⟨h3,h4⟩,h5⟩
 ·rintro ⟨h1,h2,⟨h3,h4⟩,h5⟩;exact ⟨h1,h2,h3,h4,h5⟩
def Mb (a:Ex):∀b:Ex,sY a b=0↔a=b:=by
 induction a using Ex.ind with
 |_ a ih=>
  intro b
  rw [ux,Ex.eq_iff]
  have h1:=HE a b
  have h2:=zTw (f:=pM) a.Idx b.Idx λx _ y=>HF x y
  have h3:=zTw (f:=sY) a.Args b.Args ih
  by_cases c:rT a b=0
  ·by_cases d:mP pM a.Idx b.Idx=0
   ·rw [ab c,ab d,h3]
    obtain ⟨k1,k2,k3,k4,k5⟩:=h1.1 c
    have k6:=h2.1 d
    exact ⟨λk=>⟨k1,k2,k3,k4,k5,k6,k⟩,λk=>k.2.2.2.2.2.2⟩
   ·rw [ab c,aa d]
    exact ⟨λk=>absurd k d,λk=>absurd (h2.2 k.2.2.2.2.2.1) d⟩
  ·rw [aa c]
   exact ⟨λk=>absurd k c,λk=>absurd (h1.2 ⟨k.1,k.2.1,k.2.2.1,k.2.2.2.1,k.2.2.2.2.1⟩) c⟩
/-! ## Steps of the walks -/
section steps
variable {α:Type} {f:α->α->Int} {a b:List α} {k:Nat} {x y:α}
def zWm (h:a[k]? =some x) (hb:¬k<b.length):lK f (a.drop k) (b.drop k)=1:=by rw [qN h,kN hb];rfl
def Tv (h:a[k]? =some x) (hy:b[k]? =some y) (c:¬f x y=0):lK f (a.drop k) (b.drop k)=f x y:=by rw [qN h,qN hy,lK,aa c]
def zRo (h:a[k]? =some x) (hy:b[k]? =some y) (c:f x y=0):lK f (a.drop k) (b.drop k)=lK f (a.drop (k+1)) (b.drop (k+1)):=by rw [qN h,qN hy,lK,ab c]
def zRp (h:¬k<a.length) (hb:k<b.length):lK f (a.drop k) (b.drop k)= -1:=by
 rw [kN h]
 cases hd:b.drop k with
 |nil=>have:=ai List.length hd;simp at this;omega
 |cons _ _=>rfl
def zWn (h:¬k<a.length) (hb:¬k<b.length):lK f (a.drop k) (b.drop k)=0:=by rw [kN h,kN hb];rfl
end steps
variable {a b:Int}
def JY (h:a<b):lH a b= -1:=ab h
def JX (h:b<a):lH a b=1:=by unfold lH;rw [aa zB,ab h]
def JW (h:¬a<b) (h2:¬b<a):lH a b=0:=by unfold lH;rw [aa h,aa h2]
def YZ {l:List Int} {k:Nat} {x:Int} (h:l[k]? =some x) (hx:¬x=0):Ld (l.drop k)=x:=by rw [qN h,Ld,aa hx]
def QR {l:List Int} {k:Nat} {x:Int} (h:l[k]? =some x) (hx:x=0):Ld (l.drop k)=Ld (l.drop (k+1)):=by rw [qN h,Ld,ab hx]
def strings_Compare (a b:nq):oK cfg 135 [vS a,vS b] (vI (sX a b)):=by
 intro w I vs hH ha
 match vs,ha with
 |[v,u],ha=>
  obtain ⟨h1,h2,_⟩:=ha
  have e1:v=.string a:=by cases (h1:CRep w I (cS a) v) with|lit _ _=>rfl
  have e2:u=.string b:=by cases (h2:CRep w I (cS b) u) with|lit _ _=>rfl
  subst e1 e2
  refine (Tryz.strings_Compare a b w).mono ?_
  rintro e w' ⟨rfl,rfl⟩
  exact ⟨_,_,[],I,rfl,rfl,CRep.lit _ rfl,hH,Ext.refl _ _ _⟩
def MQ {l:List Lf} {n:Nat}:(∀x,x∈l->x.L.length<=n)->fY l<=l.length*n:=by
 induction l with
 |nil=>intro _;simp [fY]
 |cons x r ih=>
  intro h
  have h1:=h x uF
  have h2:=ih λy hy=>h y Ac
  rw [fY,pw,gl,Nat.one_mul];omega
def Pg.Short.find {p:Pg} (h:p.Short) (s:nq):(p.en.find s).dims.length<=12/\fY (p.en.find s).dims<=240:=by
 have key:∀l:List Lf,l.length<=12->(∀x,x∈l->x.L.length<=20)->l.length<=12/\fY l<=240:=λl h1 h2=>⟨h1,by have:=MQ h2;omega⟩
 have hd:∀l:List Df,(∀d,d∈l->d∈p.Defs)->(fI s l).dims.length<=12/\fY (fI s l).dims<=240:=by
  intro l
  induction l with
  |nil=>intro _;simp [fI,fY]
  |cons d r ih=>
   intro hl
   rw [fI]
   cases decide (d.Name=s) with
   |false=>exact ih λx hx=>hl x G7
   |true=>
    obtain ⟨h1,_,h3,_⟩:=h.ds d (hl d uF)
    exact key (d.Dims.map Ax.Size) xZ9 λx hx=>by
     obtain ⟨a,ha,rfl⟩:=aY.1 hx;exact h3 a ha
 have hp:∀l:List Pm,(∀d,d∈l->d∈p.Params)->(gC s p.Defs l).dims.length<=12/\fY (gC s p.Defs l).dims<=240:=by
  intro l
  induction l with
  |nil=>intro _;rw [gC];exact hd p.Defs λd hd=>hd
  |cons d r ih=>
   intro hl
   rw [gC]
   cases decide (d.Name=s) with
   |false=>exact ih λx hx=>hl x G7
   |true=>
    obtain ⟨h1,h3⟩:=h.ps d (hl d uF)
    exact key d.Dims h1 h3
 exact hp p.Params λx hx=>hx
end Go.Br
end
