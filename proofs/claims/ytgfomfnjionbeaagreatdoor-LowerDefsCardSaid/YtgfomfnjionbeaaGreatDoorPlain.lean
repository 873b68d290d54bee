/-
  The program's data,in plain Lean: linear forms,indices,expressions; and the cells that hold them.
  And what the laws need besides.
  Conditions: none.
-/
import Derived.Test.YtgfomfnjionbeaaGreatDoorEngY
import Derived.Test.YtgfomfnjionbeaaGreatDoorNames
import Derived.Test.YtgfomfnjionbeaaGreatDoorEngZ
import Derived.Test.YtgfomfnjionbeaaGreatDoorCfg
import Derived.Lib.Bytealg
set_option linter.unusedSimpArgs false
set_option linter.unusedVariables false
set_option linter.defProp false
section
namespace Go.Br
open Go Go.Eng Go.L41
structure Mono where
 Name:nn
 By:Int
 deriving DecidableEq
structure Lf where
 K:Int
 L:List Mono
 deriving DecidableEq
structure Vl where
 N:Int
 D:Int
 deriving DecidableEq
structure Ty where
 Kind:Int
 Bits:Int
 Frac:Int
 Round:Int
 Over:Int
 deriving DecidableEq
structure Ix where
 Lin:Lf
 From:nn
 At:List Lf
 deriving DecidableEq
inductive Ex where
 |mk (op:Int) (name:nn) (val:Vl) (ty:Ty) (lin:Lf) (idx:List Ix) (args:List Ex)
namespace Ex
def Op:Ex->Int|mk o _ _ _ _ _ _=>o
def Name:Ex->nn|mk _ x _ _ _ _ _=>x
def Val:Ex->Vl|mk _ _ x _ _ _ _=>x
def Ty:Ex->Br.Ty|mk _ _ _ x _ _ _=>x
def Lin:Ex->Lf|mk _ _ _ _ x _ _=>x
def Idx:Ex->List Ix|mk _ _ _ _ _ x _=>x
def Args:Ex->List Ex|mk _ _ _ _ _ _ x=>x
def eta (e:Ex):e=mk e.Op e.Name e.Val e.Ty e.Lin e.Idx e.Args:=by cases e;rfl
def ind {P:Ex->Prop} (h:∀e:Ex,(∀a,a∈e.Args->P a)->P e) (e:Ex):P e:=
 Ex.rec (motive_1:=P) (motive_2:=fun l=>∀a,a∈l->P a) (fun o n v t l i arg_ ih=>h (mk o n v t l i arg_) ih) (fun a h=>by cases h)
  (fun x l hx hl a ha=>by rcases ag.1 ha with rfl|ha;exact hx;exact hl a ha) e
end Ex
mutual
def Ex.eqB:Ex->Ex->Bool
 |.mk o n v t l i arg_,.mk o' n' v' t' l' i' bs=>decide (o=o')&&decide (n=n')&&decide (v=v')&&decide (t=t')&&decide (l=l')&&decide (i=i')&&cN arg_ bs
def cN:List Ex->List Ex->Bool
 |[],[]=>true
 |a::arg_,b::bs=>Ex.eqB a b&&cN arg_ bs
 |_,_=>false
end
mutual
def Ex.eqB_iff:∀a b:Ex,Ex.eqB a b=true↔a=b
 |.mk o n v t l i arg_,.mk o' n' v' t' l' i' bs=>by
  simp only [Ex.eqB,ae,aj,eqBs_iff arg_ bs,Ex.mk.injEq]
  constructor
  ·rintro ⟨⟨⟨⟨⟨⟨h1,h2⟩,h3⟩,h4⟩,h5⟩,h6⟩,h7⟩;exact ⟨h1,h2,h3,h4,h5,h6,h7⟩
  ·rintro ⟨h1,h2,h3,h4,h5,h6,h7⟩;exact ⟨⟨⟨⟨⟨⟨h1,h2⟩,h3⟩,h4⟩,h5⟩,h6⟩,h7⟩
def eqBs_iff:∀a b:List Ex,cN a b=true↔a=b
 |[],[]=>by simp [cN]
 |a::arg_,b::bs=>by simp only [cN,ae,Ex.eqB_iff a b,eqBs_iff arg_ bs,dc]
 |[],_::_=>by simp [cN]
 |_::_,[]=>by simp [cN]
end
instance:DecidableEq Ex:=fun a b=>decidable_of_iff _ (Ex.eqB_iff a b)
def Ex.eq_iff (a b:Ex):a=b↔a.Op=b.Op/\a.Name=b.Name/\a.Val=b.Val/\a.Ty=b.Ty/\a.Lin=b.Lin/\a.Idx=b.Idx/\a.Args=b.Args:=by
 cases a;cases b;simp only [Ex.mk.injEq];rfl
def Mono.cells (x:Mono):List C:=[cS x.Name,cI x.By]
def Lf.cells (x:Lf):List C:=[cI x.K,.sl 2 (x.L.map Mono.cells)]
def Ix.cells (x:Ix):List C:=[cI x.Lin.K,.sl 2 (x.Lin.L.map Mono.cells),cS x.From,.sl 2 (x.At.map Lf.cells)]
def Vl.cells (v:Vl):List C:=[cI v.N,cI v.D]
mutual
def Ex.cells:Ex->List C
 |.mk o n v t l i arg_=>[cI o,cS n,cI v.N,cI v.D,cI t.Kind,cI t.Bits,cI t.Frac,cI t.Round,cI t.Over,cI l.K,.sl 2 (l.L.map Mono.cells),.sl 4 (i.map Ix.cells),.sl 13 (xH arg_)]
def xH:List Ex->List (List C)
 |[]=>[]
 |e::r=>e.cells::xH r
end
def cellsL_eq (l:List Ex):xH l=l.map Ex.cells:=by
 induction l with
 |nil=>rfl
 |cons e r ih=>rw [xH,ih];rfl
def Ex.cs (e:Ex):List C:=[cI e.Op,cS e.Name,cI e.Val.N,cI e.Val.D,cI e.Ty.Kind,cI e.Ty.Bits,cI e.Ty.Frac,cI e.Ty.Round,cI e.Ty.Over,cI e.Lin.K,.sl 2 (e.Lin.L.map Mono.cells),.sl 4 (e.Idx.map Ix.cells),.sl 13 (e.Args.map Ex.cells)]
def Ex.cells_eq (e:Ex):e.cells=e.cs:=by
 cases e;rw [Ex.cells,cellsL_eq];rfl
abbrev tD (x:Mono):V:=.agg x.cells
abbrev cE (l:List Mono):V:=.c (.sl 2 (l.map Mono.cells))
abbrev dC (x:Lf):V:=.agg x.cells
abbrev mN (l:List Lf):V:=.c (.sl 2 (l.map Lf.cells))
abbrev jN (x:Ix):V:=.agg x.cells
abbrev nD (l:List Ix):V:=.c (.sl 4 (l.map Ix.cells))
abbrev vE (x:Ex):V:=.agg x.cs
abbrev vEs (l:List Ex):V:=.c (.sl 13 (l.map Ex.cells))
abbrev vTy (t:Ty):V:=.agg [cI t.Kind,cI t.Bits,cI t.Frac,cI t.Round,cI t.Over]
abbrev tW (v:Vl):V:=.agg [cI v.N,cI v.D]
abbrev sI (n:Int):V:=.c (.lit (.int .u64 n))
variable {k:Nat}
def zJz {l:List Ex} {x:Ex} (h:l[k]? =some x):(l.map Ex.cells)[k]? =some x.cs:=by
 rw [getm h,Ex.cells_eq]
def fR:List Lf->Nat
 |[]=>0
 |l::r=>l.L.length+fR r
def Ix.wt (x:Ix):Nat:=x.Lin.L.length+x.At.length+fR x.At
def fC:List Ix->Nat
 |[]=>0
 |x::r=>x.wt+fC r
mutual
def Ex.wt:Ex->Nat
 |.mk _ _ _ _ l i arg_=>1+l.L.length+i.length+fC i+dX arg_
def dX:List Ex->Nat
 |[]=>0
 |e::r=>e.wt+dX r
end
def Ex.wt_eq (e:Ex):e.wt=1+e.Lin.L.length+e.Idx.length+fC e.Idx+dX e.Args:=by cases e;rw [Ex.wt];rfl
def Ex.wt_pos (e:Ex):1<=e.wt:=by rw [Ex.wt_eq];omega
variable {a:Ex}
def argsWt_mem {l:List Ex} (h:a∈l):a.wt+(l.length-1)<=dX l:=by
 induction l with
 |nil=>cases h
 |cons x r ih=>
  rw [dX]
  rcases ag.1 h with rfl|h
  ·have:r.length<=dX r:=by
    clear ih h
    induction r with
    |nil=>simp [dX]
    |cons y r ih=>rw [dX,lLc];have:=y.wt_pos;omega
   simp;omega
  ·have:=ih h
   have:=x.wt_pos
   have:0<r.length:=ja h
   simp;omega
def argsWt_len (l:List Ex):l.length<=dX l:=by
 induction l with
 |nil=>simp [dX]
 |cons y r ih=>rw [dX,lLc];have:=y.wt_pos;omega
def zBw {l:List Lf} {a:Lf} (h:a∈l):a.L.length<=fR l:=by
 induction l with
 |nil=>cases h
 |cons x r ih=>
  rw [fR]
  exact v34
def zDs {l:List Ix} {a:Ix} (h:a∈l):a.wt<=fC l:=by
 induction l with
 |nil=>cases h
 |cons x r ih=>
  rw [fC]
  exact v34
variable {e:Ex} {B:Nat}
def Ex.parts (h:e.wt<=B):e.Lin.L.length<=B/\e.Idx.length<=B/\e.Args.length<=B:=by
 rw [Ex.wt_eq] at h
 have:=argsWt_len e.Args
 omega
def Ex.arg_wt (h:a∈e.Args):a.wt<e.wt:=by
 rw [Ex.wt_eq e]
 have:=argsWt_mem h
 omega
variable {x:Ix}
def Ex.idx_wt (h:x∈e.Idx):x.Lin.L.length<=e.wt/\x.At.length<=e.wt/\fR x.At<=e.wt:=by
 rw [Ex.wt_eq e]
 have:=zDs h
 unfold Ix.wt at this
 omega
variable {α:Type} {l:List α}
def qJ {x:α} (h:l[k]? =some x):l.drop k=x::l.drop (k+1):=by
 have hk:k<l.length:=(af.1 h).1
 rw [d9 hk]
 rw [ak hk] at h
 simp at h
 rw [h]
def kL (h:¬k<l.length):l.drop k=[]:=ci zB
variable {b:List α} {y:α}
def zFv {a:List α} {x:α} (hx:a[k]? =some x) (hy:b[k]? =some y) (h:a.take k=b.take k) (e:x=y):a.take (k+1)=b.take (k+1):=by
 rw [yA hx,yA hy,h,e]
def zJa {a:List α} (h:a.take k=b.take k) (h1:¬k<a.length) (h2:a.length=b.length):a=b:=by
 rw [yI h1,yI zB] at h
 exact h
def zLu {a:List α} {x:α} (hx:a[k]? =some x) (hy:b[k]? =some y) (h:¬x=y):¬a=b:=by
 rintro rfl
 rw [hx] at hy
 exact h (Option.some.inj hy)
def kK {p:Prop} [Decidable p] (h:¬p):decide p=false:=am h
def zAp {p:Prop} [Decidable p] (h:p):decide p=true:=al h
def qD {x:α} (h:l[k]? =some x):x∈l:=bv h
/-! ## Linear forms -/
def ltO:Option nn->nn->Bool
 |none,_=>true
 |some q,n=>bF q n
def bM:Option nn->List Mono->Bool
 |_,[]=>true
 |p,m::r=>bB m.Name&& !decide (m.By=0)&&ltO p m.Name&&bM (some m.Name) r
def bG (l:Lf):Bool:=bM none l.L
def dH (l:Lf):Int:=bif bG l then 0 else 1
def pv (l:List Mono) (k:Nat):Mono:=l.getD (k-1) ⟨bs [],0⟩
def pH (l:List Mono) (k:Nat):Option nn:=if k=0 then none else some (pv l k).Name
def eD (l:List Mono) (k:Nat) (x:Mono):Bool:=(!bB x.Name||decide (x.By=0))||(decide ((0:Int)<k)&& !bF (pv l k).Name x.Name)
def pv_get {f:Mono->α} {l:List Mono} (h0:0<k) (h:k<=l.length):(l.map f)[((k:Int)-1).toNat]? =some (f (pv l k)):=by
 have e:((k:Int)-1).toNat=k-1:=by omega
 have h1:k-1<l.length:=by omega
 rw [e,cb,ak h1]
 simp [pv,List.getD,ak h1]
def pv_next {l:List Mono} {x:Mono} (h:l[k]? =some x):pv l (k+1)=x:=by simp [pv,List.getD,h]
def zMz {l:List Mono} {x:Mono} (h:l[k]? =some x):bM (pH l k) (l.drop k)=(!eD l k x&&bM (pH l (k+1)) (l.drop (k+1))):=by
 rw [qJ h,bM]
 have e:pH l (k+1)=some x.Name:=by simp [pH,pv_next h]
 rw [e]
 congr 1
 unfold eD pH ltO
 by_cases hk:k=0
 ·subst hk;simp
 ·have hk':(0:Int)<k:=by omega
  rw [aa hk,al hk']
  cases bB x.Name<;>cases decide (x.By=0)<;>simp
def monos_end {l:List Mono} (h:¬k<l.length):bM (pH l k) (l.drop k)=true:=by
 rw [kL h];cases pH l k<;>rfl
def dF (s:nn):Lf:=bif bB s then ⟨0,[⟨s,1⟩]⟩ else ⟨0,[]⟩
def dG:List Mono->nn->Int
 |[],_=>0
 |m::r,s=>if m.Name=s then m.By else dG r s
def dT {α:Type} (p:α->Bool):List α->Int
 |[]=> -1
 |x::r=>bif p x then 0 else (bif decide (dT p r= -1) then-1 else dT p r+1)
def idxOf_ge (p:α->Bool) (l:List α): -1<=dT p l:=by
 induction l with
 |nil=>simp [dT]
 |cons x r ih=>unfold dT;cases p x<;>simp;by_cases h:dT p r= -1<;>simp [h];omega
def zPu (p:α->Bool) (l:List α):decide (0<=dT p l)=l.any p:=by
 induction l with
 |nil=>rfl
 |cons x r ih=>
  have:=idxOf_ge p r
  unfold dT
  cases hp:p x
  ·simp only [av,ed,hp,dk,←ih]
   by_cases h:dT p r= -1
   ·simp [h]
   ·simp [h];omega
  ·simp [hp]
variable {p:α->Bool}
def zFq {x:α} (h:l[k]? =some x) (hp:p x=true) (hn:(l.take k).any p=false):dT p l=k:=by
 induction l generalizing k with
 |nil=>simp at h
 |cons y r ih=>
  cases k with
  |zero=>simp at h;subst h;simp [dT,hp]
  |succ k=>
   simp only [au,ed,aC] at hn
   have:=ih (k:=k) (by simpa using h) hn.2
   simp only [dT,hn.1,av,this]
   have h2:¬((k:Int)= -1):=by omega
   simp [h2]
def zDe (hn:l.any p=false):dT p l= -1:=by
 induction l with
 |nil=>rfl
 |cons y r ih=>
  simp only [ed,aC] at hn
  simp [dT,hn.1,ih hn.2]
def zDf {x:α} (h:l[k]? =some x) (hn:(l.take k).any p=false) (hp:p x=false):(l.take (k+1)).any p=false:=by
 rw [yA h,gb,hn];simp [hp]
/-! ## Types and values -/
def dJ (t:Ty):Bool:=
 ((decide (t.Kind=1)||decide (t.Kind=3))&&decide (t.Bits=0)&&decide (t.Frac=0)&&decide (t.Round=0)&&decide (t.Over=0))||
 (decide (t.Kind=2)&&decide (2<=t.Bits)&&decide (t.Bits<=31)&&decide (0<=t.Frac)&&decide (t.Frac<=30)&&decide (1<=t.Round)&&decide (t.Round<=4)&&(decide (t.Over=1)||decide (t.Over=2)))
def bX (t:Ty):Int:=bif dJ t then 0 else 10
def gL (t:Ty):Bool:=decide (t.Kind=2)&&decide (2<=t.Bits)&&decide (t.Bits<=31)&&decide (0<=t.Frac)&&decide (t.Frac<=30)&&decide (1<=t.Round)&&decide (t.Round<=4)&&(decide (t.Over=1)||decide (t.Over=2))
def mP (b:Int):Int:=2^(b-1).toNat
def rJ (n:Int):Bool:=decide (-2147483647<=n)&&decide (n<=2147483647)
def jI (t:Ty) (v:Vl):Bool:=
 bif decide (t.Kind=2) then decide (v.D=1)&&decide (-mP t.Bits<=v.N)&&decide (v.N<mP t.Bits)
 else bif decide (t.Kind=3) then decide (v.D=1)&&rJ v.N
 else decide (1<=v.D)&&decide (v.D<=2147483647)&&rJ v.N&&decide (Int.gcd v.N v.D=1)
def rU (t:Ty):Vl:=bif dJ t then ⟨0,1⟩ else ⟨0,0⟩
def zCm {t:Ty} (h:t.Kind=2):dJ t=gL t:=by simp [dJ,gL,h]
def half_le {b:Int} (h1:2<=b) (h2:b<=31):1<=mP b/\mP b<=1073741824:=by
 unfold mP
 have h3:(b-1).toNat<=30:=by omega
 have h4:(2:Int)^(b-1).toNat<=2^30:=by
  have:=jh (n:=2) zB h3
  exact_mod_cast this
 have h5:(1:Int)<=2^(b-1).toNat:=by
  have:=Nat.one_le_two_pow (n:=(b-1).toNat)
  exact_mod_cast this
 omega
/-! ## Conditions as the walks meet them -/
def lin_mk {a b:Lf} (h:a.K=b.K) (k:a.L=b.L):a=b:=by cases a;cases b;simp_all
def mono_ne {x y:Mono} (h:(!dN x.cells y.cells)=true):¬x=y:=by
 rintro rfl
 simp [dN,cEq,Mono.cells] at h
def mono_eq {x y:Mono} (h:(!dN x.cells y.cells)=false):x=y:=by
 cases x;cases y
 simpa [dN,cEq,Mono.cells] using h
def xI (s:nn) (k:Nat):Int:=(s.data.toList.getD k 0).toNat
def xC (s:nn):Bool:=(((decide ((s.size:Int)<1)||decide ((16:Int)<s.size))||bQ fO s)||decide (xI s 0<97))||decide (122<xI s 0)
variable {s:nn}
def ident_no (h:xC s=true):bB s=false:=by
 unfold xC xI at h
 cases hn:bB s with
 |false=>rfl
 |true=>
  exfalso
  simp only [bB,ae,aj,az] at hn
  obtain ⟨⟨⟨⟨h1,h2⟩,h3⟩,h4⟩,h5⟩:=hn
  have h6:s.data.toList.head? =some (s.data.toList.getD 0 0):=by rw [gp];exact zFr zB
  rw [h6] at h3
  simp only [kl,pK,nP,ae,aj] at h3
  simp only [aE,aj,h5] at h
  rcases h with (((h|h)|h)|h)|h
  ·omega
  ·omega
  ·cases h
  ·omega
  ·omega
def ident_yes (h:xC s=false):1<=s.size/\s.size<=16/\bB s=s.data.toList.all gV:=by
 unfold xC xI at h
 simp only [aC,aw] at h
 obtain ⟨⟨⟨⟨h1,h2⟩,h3⟩,h4⟩,h5⟩:=h
 have h7:1<=s.size:=by omega
 refine ⟨h7,zB,?_⟩
 have h6:s.data.toList.head? =some (s.data.toList.getD 0 0):=by rw [gp];exact zFr zB
 unfold bB
 rw [h6,h3]
 have e1:decide (1<=s.size)=true:=by simp;omega
 have e2:decide (s.size<=16)=true:=by simp;omega
 have e3:pK (s.data.toList.getD 0 0)=true:=by simp only [pK,nP,ae,aj];omega
 simp only [e1,e2,kl,e3,aQ,cf,ck]
def sZ (n:Int):Bool:=((decide (n<97)||decide (122<n))&&(decide (n<48)||decide (57<n)))&& !decide (n=95)
def notWord_eq (c:UInt8):sZ c.toNat= !gV c:=by
 unfold sZ gV sG nP xG
 rw [cw]
 simp only [ae,aE,az,aC,cm,aj,aw]
 omega
def word_no (hlt:k<s.size) (h:sZ ((s.data.toList.getD k 0).toNat:Int)=true):s.data.toList.all gV=false:=by
 rw [notWord_eq] at h
 rw [fj]
 exact ⟨_,bv (zFr hlt),by simpa using h⟩
def word_yes (hlt:k<s.size) (hp:(s.data.toList.take k).all gV=true) (h:sZ ((s.data.toList.getD k 0).toNat:Int)=false):(s.data.toList.take (k+1)).all gV=true:=by
 rw [notWord_eq] at h
 rw [zQo (zFr hlt),hp]
 simpa using h
def word_all (hp:(s.data.toList.take k).all gV=true) (h:¬k<s.size):s.data.toList.all gV=true:=by
 rw [aB uD] at hp
 exact hp
def vU (t:Ty):Bool:=decide (t.Bits=0)&&decide (t.Frac=0)&&decide (t.Round=0)&&decide (t.Over=0)
def plainT_eq (t:Ty):dN [cI t.Kind,cI t.Bits,cI t.Frac,cI t.Round,cI t.Over] [cI t.Kind,.lit (.int .i64 0),.lit (.int .i64 0),.lit (.int .i64 0),.lit (.int .i64 0)]=vU t:=by
 simp [dN,cEq,vU,jj]
def tB (t:Ty):Bool:=((((!decide (t.Kind=2)||decide (t.Bits<2))||decide (31<t.Bits))||decide (t.Frac<0))||decide (30<t.Frac))|| !((decide (1<=t.Round)&&decide (t.Round<=4))&&(decide (t.Over=1)||decide (t.Over=2)))
def fixCond_eq (t:Ty):tB t= !gL t:=by
 unfold tB gL
 rw [cw]
 simp only [ae,aE,az,aC,cm,aj,aw]
 omega
def fix_no {t:Ty} (h:tB t=true):gL t=false:=by rw [fixCond_eq] at h;simpa using h
def fix_yes {t:Ty} (h:tB t=false):gL t=true:=by rw [fixCond_eq] at h;simpa using h
def type1 {t:Ty} (h:(decide (t.Kind=1)||decide (t.Kind=3))=true):(((decide (t.Bits=0)&&decide (t.Frac=0))&&decide (t.Round=0))&&decide (t.Over=0))=dJ t:=by
 unfold dJ
 rw [h]
 have:decide (t.Kind=2)=false:=by
  simp only [aE,aj] at h
  simp;omega
 simp [this]
def type2 {t:Ty} (h:(decide (t.Kind=1)||decide (t.Kind=3))=false):(((((((decide (t.Kind=2)&&decide (2<=t.Bits))&&decide (t.Bits<=31))&&decide (0<=t.Frac))&&decide (t.Frac<=30))&&decide (1<=t.Round))&&decide (t.Round<=4))&&(decide (t.Over=1)||decide (t.Over=2)))=dJ t:=by
 unfold dJ
 rw [h]
 simp
def tyk1 {t:Ty} (h:t.Kind=1∨t.Kind=3):dJ t=vU t:=by
 rw [←type1 (t:=t) (by simpa using h)];rfl
def tyk0 {t:Ty} (h1:¬t.Kind=1) (h3:¬t.Kind=3) (h2:¬t.Kind=2):dJ t=false:=by
 simp [dJ,h1,h2,h3]
def zMs {t:Ty} (h:¬bX t=0):dJ t=false:=by
 unfold bX at h;cases ht:dJ t<;>simp_all
def zCd {t:Ty} (h:bX t=0):dJ t=true:=by
 unfold bX at h;cases ht:dJ t<;>simp_all
def zJg {n:Int} (h:0<=n/\n<=18446744073709551615):IntKind.u64.wrap n=n:=IntWalk.u64_in _ h
def zWf {b:Int} (h1:2<=b) (h2:b<=31):IntKind.i64.wrap (1*2^(min (IntKind.u64.wrap (b-1)).toNat IntKind.i64.bits))=mP b:=by
 rw [zJg zB]
 have h3:=half_le h1 h2
 have h4:min (b-1).toNat IntKind.i64.bits=(b-1).toNat:=bf (by simp [IntKind.bits];omega)
 rw [h4,lu]
 exact zJh ⟨by unfold mP at h3;omega,by unfold mP at h3;omega⟩
def min_eq {b:Int} (h1:2<=b) (h2:b<=31):IntKind.i64.wrap (-(IntKind.i64.wrap (1*2^(min (IntKind.u64.wrap (b-1)).toNat IntKind.i64.bits))))= -mP b:=by
 rw [zWf h1 h2]
 have:=half_le h1 h2
 exact zJh ⟨zB,zB⟩
def max_eq {b:Int} (h1:2<=b) (h2:b<=31):IntKind.i64.wrap (IntKind.i64.wrap (1*2^(min (IntKind.u64.wrap (b-1)).toNat IntKind.i64.bits))-1)=mP b-1:=by
 rw [zWf h1 h2]
 have:=half_le h1 h2
 exact zJh ⟨zB,zB⟩
def fixB {t:Ty} (h:gL t=true):2<=t.Bits/\t.Bits<=31:=by
 simp only [gL,ae,aj] at h
 omega
def fxz {t:Ty} (h:(bif gL t then (0:Int) else 10)=0):gL t=true:=by cases ht:gL t<;>simp_all
def fxn {t:Ty} (h:¬(bif gL t then (0:Int) else 10)=0):gL t=false:=by cases ht:gL t<;>simp_all
def fxa {t:Ty} {p:Bool} (h:Lz (decide ((bif gL t then (0:Int) else 10)=0)&&p) true=true):gL t=true:=by
 simp only [Lz,aD,ae,aj] at h
 exact fxz h.1
def fxb {t:Ty} {p q:Bool} (h:Lz (decide ((bif gL t then (0:Int) else 10)=0)&&p&&q) true=true):gL t=true:=by
 simp only [Lz,aD,ae,aj] at h
 exact fxz h.1.1
def fixV (t:Ty) (v:Vl):(decide ((bif gL t then (0:Int) else 10)=0)&&decide (v.D=1)&&decide (-mP t.Bits<=v.N)&&decide (v.N<=mP t.Bits-1))=(gL t&&(decide (v.D=1)&&decide (-mP t.Bits<=v.N)&&decide (v.N<mP t.Bits))):=by
 have:decide (v.N<=mP t.Bits-1)=decide (v.N<mP t.Bits):=dl.2 zB
 rw [this]
 cases gL t<;>simp
def mag_neg {n:Int} (h:n<0) (hn: -9223372036854775808<=n):IntKind.u64.wrap (-(IntKind.u64.wrap n))=n.natAbs:=by
 have e:IntKind.u64.wrap n=n+18446744073709551616:=by simp [IntKind.wrap,IntKind.bits,IntKind.signed];omega
 rw [e]
 simp [IntKind.wrap,IntKind.bits,IntKind.signed];omega
def mag_pos {n:Int} (h:¬n<0) (hn:n<=9223372036854775807):IntKind.u64.wrap n=n.natAbs:=by
 rw [zJg zB];omega
def gcd_step {x y:Nat} (h:¬y=0):Nat.gcd x y=Nat.gcd y (x%y):=by
 rw [Nat.gcd_comm x y,Nat.gcd_rec y x,Nat.gcd_comm]
def frV {v:Vl} (h:Lz (decide (1<=v.D)&&decide (v.D<=2147483647)&&rJ v.N) true=true):1<=v.D/\v.D<=2147483647/\ -9223372036854775808<=v.N/\v.N<=9223372036854775807:=by
 simp only [Lz,aD,ae,aj,rJ] at h
 omega
def u64_D {d:Int} (h1:1<=d) (h2:d<=2147483647):IntKind.u64.wrap d=d.natAbs:=by
 rw [zJg zB];omega
def max_abs {n:Int} (h1: -2147483647<=n) (h2:n<=2147483647):max n (IntKind.i64.wrap (-n))=n.natAbs:=by
 rw [zJh ⟨zB,zB⟩];omega
def vO (v:Vl):Bool:=((decide (2147483647<v.N)||decide (v.N< -2147483647))||decide (v.D<1))||decide (2147483647<v.D)
def val_in {v:Vl} (h:vO v=false): -2147483647<=v.N/\v.N<=2147483647/\1<=v.D/\v.D<=2147483647:=by
 simp only [vO,aC,aw] at h
 omega
def val_out {t:Ty} {v:Vl} (hk:¬t.Kind=2) (h:vO v=true):jI t v=false:=by
 unfold jI rJ
 rw [kK hk]
 simp only [vO,aE,aj] at h
 by_cases h3:t.Kind=3
 ·simp [h3];omega
 ·simp [h3];omega
def valfix {t:Ty} {v:Vl} (hk:t.Kind=2) (b1:2<=t.Bits) (b2:t.Bits<=31):(decide (v.D=1)&&decide (IntKind.i64.wrap (-(IntKind.i64.wrap (1*2^(min (t.Bits-1).toNat IntKind.i64.bits))))<=v.N)&&decide (v.N<IntKind.i64.wrap (1*2^(min (t.Bits-1).toNat IntKind.i64.bits))))=jI t v:=by
 have e:=zWf b1 b2
 have e':=min_eq b1 b2
 rw [zJg zB] at e e'
 rw [e',e,jI,hk]
 rfl
/-! ## Expressions -/
def bT (op:Int):Int:=if op=1∨op=2∨op=3 then 0 else if op=8∨op=12∨op=18 then 1 else if op=11 then 3 else 2
def fS (e:Ex):Bool:=decide (13<=e.Op)&&decide (e.Op<=18)
def nZ (op i:Int):Bool:=(((decide (op=11)&&decide (i=0))||decide (op=16))||decide (op=17))||decide (op=18)
def pU (l:Lf):Bool:=decide (l.K=0)&&decide ((l.L.length:Int)=0)
def lO (x:Ix):Bool:=bif decide (x.From=bs []) then decide ((x.At.length:Int)=0) else pU x.Lin
def cD (v:Vl):Bool:=dN [cI v.N,cI v.D] [cI 0,cI 0]
def ty0 (t:Ty):Bool:=dN [cI t.Kind,cI t.Bits,cI t.Frac,cI t.Round,cI t.Over] [cI 0,cI 0,cI 0,cI 0,cI 0]
def jO (e:Ex):Bool:=
 !(decide (e.Op<1)||decide (18<e.Op))&& !(!decide (e.Op=1)&& !cD e.Val)&& !(!(decide (e.Op=1)||decide (e.Op=12))&& !ty0 e.Ty)&& !(!decide (e.Op=2)&& !pU e.Lin)&&
 !(!decide (e.Op=3)&&(!decide (e.Name=bs [])||decide ((0:Int)<e.Idx.length)))&&e.Idx.all lO
def vX (x:Ix):Bool:= !(!decide (x.From=bs [])&& !bB x.From)
def nX (e:Ex):Bool:= !(decide (e.Op=3)&& !bB e.Name)&&e.Idx.all vX
def vQ (x:Ix):Bool:= !decide ((6:Int)<x.At.length)
def pV (e:Ex):Bool:= !(!decide ((e.Args.length:Int)=bT e.Op)||decide ((6:Int)<e.Idx.length))&&e.Idx.all vQ
def mM (op i:Int):List Ex->Bool
 |[]=>true
 |a::r=>(fS a==nZ op i)&&mM op (i+1) r
def lQ (e:Ex):Bool:= !((decide (e.Op=1)||decide (e.Op=12))&& !dJ e.Ty)&&mM e.Op 0 e.Args
def dD (e:Ex):List Lf:=e.Lin::e.Idx.flatMap fun x=>x.Lin::x.At
def lV (e:Ex):Bool:= !(decide (e.Op=1)&& !jI e.Ty e.Val)&&(dD e).all bG
def bZ (e:Ex):Int:=bif !jO e then 5 else bif !nX e then 7 else bif !pV e then 11 else bif !lQ e then 10 else bif !lV e then 1 else 0
mutual
def dQ:Ex->List Ex
 |.mk o n v t l i arg_=>.mk o n v t l i arg_::bV arg_
def bV:List Ex->List Ex
 |[]=>[]
 |e::r=>dQ e++bV r
end
def zAl (e:Ex):dQ e=e::bV e.Args:=by cases e;rw [dQ];rfl
def zPm (a b:List Ex):bV (a++b)=bV a++bV b:=by
 induction a with
 |nil=>rfl
 |cons x r ih=>rw [lCa,bV,bV,ih,lAa]
def jU:List Ex->Int
 |[]=>0
 |e::r=>bif decide (bZ e=0) then jU r else bZ e
def zIc (a b:List Ex):jU (a++b)=bif decide (jU a=0) then jU b else jU a:=by
 induction a with
 |nil=>rfl
 |cons x r ih=>
  rw [lCa,jU,jU,ih]
  by_cases h:bZ x=0
  ·simp [h]
  ·simp [h]
def gF (e:Ex):Int:=jU (dQ e)
def tJ (l:List Ex):Int:=jU (bV l)
def zHv (e:Ex):gF e=bif decide (bZ e=0) then tJ e.Args else bZ e:=by rw [gF,zAl,jU];rfl
def zRj (e:Ex) (r:List Ex):tJ (e::r)=bif decide (gF e=0) then tJ r else gF e:=by rw [tJ,bV,zIc];rfl
def vH (f:Ex->Int) (d:Int):List Ex->Int
 |[]=>d
 |a::r=>vH f (max d (1+f a)) r
def mJ:Nat->Ex->Int
 |0,_=>1
 |n+1,e=>vH (mJ n) 1 e.Args
def depF_le {f:Ex->Int} {n:Int} (h:∀a,1<=f a/\f a<=n):∀(l:List Ex) (d:Int),1<=d->d<=n+1->1<=vH f d l/\vH f d l<=n+1
 |[],d,h1,h2=>⟨h1,h2⟩
 |a::r,d,h1,h2=>by
  have:=h a
  exact depF_le h r _ zB zB
def depT_le:∀(n:Nat) (e:Ex),1<=mJ n e/\mJ n e<=n+1
 |0,e=>by simp [mJ]
 |n+1,e=>by
  have:=depF_le (n:=n+1) (depT_le n) e.Args 1 zB zB
  rw [mJ];omega
mutual
def tX:Ex->Nat->Nat
 |.mk _ _ _ _ _ _ arg_,most=>tG arg_ most 1
def tG:List Ex->Nat->Nat->Nat
 |[],_,n=>n
 |a::r,most,n=>if n<=most then tG r most (n+tX a (most-n)) else n
end
def sizE_eq (e:Ex) (m:Nat):tX e m=tG e.Args m 1:=by cases e;rw [tX];rfl
mutual
def sizE_min:∀(e:Ex) (m:Nat),tX e m=min (dQ e).length (m+1)
 |.mk o n v t l i arg_,m=>by
  rw [tX,dQ,sizL_min arg_ m 1 zB]
  simp;omega
def sizL_min:∀(l:List Ex) (m n:Nat),n<=m+1->tG l m n=min (n+(bV l).length) (m+1)
 |[],m,n,h=>by simp [tG,bV];omega
 |a::r,m,n,h=>by
  rw [tG,bV,lLa]
  split
  ·rename_i hn
   rw [sizE_min a (m-n),sizL_min r m _ zB]
   omega
  ·omega
end
def szT (e:Ex):Nat:=min (dQ e).length 2001
def dO (e:Ex):Int:=bif decide (40<mJ 40 e) then 13 else bif decide ((2000:Int)<szT e) then 2 else gF e
def zJs:∀(e x:Ex),x∈dQ e->x.wt<=e.wt:=by
 intro e
 induction e using Ex.ind with
 |_ e ih=>
  intro x hx
  rw [zAl] at hx
  rcases ag.1 hx with rfl|hx
  ·omega
  ·have:∀l:List Ex,(∀a,a∈l->a∈e.Args)->x∈bV l->x.wt<=e.wt:=by
    intro l hl hx
    induction l with
    |nil=>simp [bV] at hx
    |cons a r ihr=>
     rw [bV] at hx
     rcases ao.1 hx with h|h
     ·have h1:=ih a (hl a uF) x h
      have h2:=Ex.arg_wt (hl a uF)
      omega
     ·exact ihr (fun b hb=>hl b (by simp [hb])) h
   exact this e.Args (fun a h=>h) hx
def zLs (l:List α) (p:α->Bool):(!l.any fun x=> !p x)=l.all p:=by
 induction l with
 |nil=>rfl
 |cons x r ih=>simp only [ed,bi,←ih];cases p x<;>simp
def zUq {x:α} (h:l[k]? =some x) (hp:l.all p=(l.drop k).all p) (hx:p x=true):l.all p=(l.drop (k+1)).all p:=by
 rw [hp,qJ h,bi,hx];rfl
def zYh {x:α} (h:l[k]? =some x) (hx:p x=false):l.all p=false:=by
 rw [fj];exact ⟨x,qD h,by simp [hx]⟩
def all_end (hp:l.all p=(l.drop k).all p) (h:¬k<l.length):l.all p=true:=by
 rw [hp,kL h];rfl
def tyErr_dec (t:Ty):decide (bX t=0)=dJ t:=by unfold bX;cases dJ t<;>rfl
def zMe {l:Lf} (h:¬dH l=0):bG l=false:=by unfold dH at h;cases hl:bG l<;>simp_all
def zMf {l:Lf} (h:dH l=0):bG l=true:=by unfold dH at h;cases hl:bG l<;>simp_all
def plain2 {b:Bool} (h:((!decide (e.Op=1)&& !dN [cI e.Val.N,cI e.Val.D] [cI 0,cI 0])||((!decide (e.Op=1)&& !decide (e.Op=12))&& !dN [cI e.Ty.Kind,cI e.Ty.Bits,cI e.Ty.Frac,cI e.Ty.Round,cI e.Ty.Over] [cI 0,cI 0,cI 0,cI 0,cI 0]))=b):
  ((!decide (e.Op=1)&& !cD e.Val)||(!(decide (e.Op=1)||decide (e.Op=12))&& !ty0 e.Ty))=b:=by
 rw [←h];unfold cD ty0;cases decide (e.Op=1)<;>simp
def plain3 {b:Bool} (h:((!decide (e.Op=2)&&(!decide (e.Lin.K=0)||decide ((0:Int)<e.Lin.L.length)))||(!decide (e.Op=3)&&(!decide (e.Name=bs [])||decide ((0:Int)<e.Idx.length))))=b):
  ((!decide (e.Op=2)&& !pU e.Lin)||(!decide (e.Op=3)&&(!decide (e.Name=bs [])||decide ((0:Int)<e.Idx.length))))=b:=by
 rw [←h]
 have:(!pU e.Lin)=(!decide (e.Lin.K=0)||decide ((0:Int)<e.Lin.L.length)):=by
  unfold pU
  rw [Bool.not_and]
  congr 1
  exact v74
 rw [this]
def well_dec {b:Bool} (h:((decide (x.From=bs [])&&decide ((0:Int)<x.At.length))||(!decide (x.From=bs [])&&(!decide (x.Lin.K=0)||decide ((0:Int)<x.Lin.L.length))))=b):(!lO x)=b:=by
 rw [←h]
 unfold lO pU
 by_cases hf:x.From=bs []
 ·simp only [hf,jg,aD,aQ,aU,bj,lb]
  exact v74
 ·simp only [hf,ld,av,bj,cf,aQ,dk,Bool.not_and]
  congr 1
  exact v74
def syn2 (h:((!decide (e.Op=1)&& !cD e.Val)||(!(decide (e.Op=1)||decide (e.Op=12))&& !ty0 e.Ty))=true):false=jO e:=by
 unfold jO
 rw [aE] at h
 rcases h with h|h<;>simp only [h,aU,dj,bj]
def syn3 (h:((!decide (e.Op=2)&& !pU e.Lin)||(!decide (e.Op=3)&&(!decide (e.Name=bs [])||decide ((0:Int)<e.Idx.length))))=true):false=jO e:=by
 unfold jO
 rw [aE] at h
 rcases h with h|h<;>simp only [h,aU,dj,bj]
def syn5 (h1:(decide (e.Op<1)||decide (18<e.Op))=false) (h2:((!decide (e.Op=1)&& !cD e.Val)||(!(decide (e.Op=1)||decide (e.Op=12))&& !ty0 e.Ty))=false) (h3:((!decide (e.Op=2)&& !pU e.Lin)||(!decide (e.Op=3)&&(!decide (e.Name=bs [])||decide ((0:Int)<e.Idx.length))))=false) (h4:e.Idx.all lO=true):true=jO e:=by
 unfold jO
 obtain ⟨a,b⟩:=aC.1 h2
 obtain ⟨c,d⟩:=aC.1 h3
 simp only [h1,a,b,c,d,h4,cf,Bool.and_self]
def form_start (h:((decide (e.Op=1)&& !jI e.Ty e.Val)|| !bG e.Lin)=false):(dD e).all bG=((e.Idx.drop 0).flatMap fun x=>x.Lin::x.At).all bG:=by
 obtain ⟨_,h2⟩:=aC.1 h
 rw [dD,bi,show bG e.Lin=true by simpa using h2];rfl
def form_no (h:((decide (e.Op=1)&& !jI e.Ty e.Val)|| !bG e.Lin)=true):false=lV e:=by
 unfold lV dD
 rw [aE] at h
 rcases h with h|h
 ·simp only [h,aU,bj]
 ·rw [bi,show bG e.Lin=false by simpa using h];simp
def form_no2 {l:List Lf} (h:(dD e).all bG=l.all bG) (h2:l.all bG=false):false=lV e:=by
 unfold lV;rw [h,h2,dj]
def form_yes (h:((decide (e.Op=1)&& !jI e.Ty e.Val)|| !bG e.Lin)=false) (h2:(dD e).all bG=true):true=lV e:=by
 obtain ⟨h1,_⟩:=aC.1 h
 unfold lV;rw [h1,h2];rfl
def types_ty (h:lQ e=true):e.Op=1->dJ e.Ty=true:=by
 intro h1
 simp only [lQ,h1,jg,Bool.true_or,aQ,Bool.not_not,ae] at h
 exact h.1
variable {n:Nat}
def dep_start (h:n≠0):mJ n e=vH (mJ (n-1)) 1 (e.Args.drop 0):=by
 cases n with
 |zero=>exact absurd rfl h
 |succ n=>rfl
def dep_end {l d:Int} (hl:l=n+1) (c:e.Args.length<=k∨l<=1) (h3:n≠0->mJ n e=vH (mJ (n-1)) d (e.Args.drop k)) (h4:n=0->d=1):d=mJ n e:=by
 by_cases h0:n=0
 ·rw [h4 h0,h0];rfl
 ·rw [h3 h0,kL zB];rfl
def siz_end {l:List Ex} {m:Nat} {x:Int} (hl:x=m) (h:l.length<=k∨x<n):n=tG (l.drop k) m n:=by
 by_cases hk:k<l.length
 ·obtain ⟨a,ha⟩:=qX l k hk
  rw [qJ ha,tG,aa zB]
 ·rw [kL hk,tG]
abbrev ixF (x:Ix):List Lf:=x.Lin::x.At
def forms_at (h:e.Idx[k]? =some x):dD e=(e.Lin::(e.Idx.take k).flatMap ixF)++x.Lin::(x.At++(e.Idx.drop (k+1)).flatMap ixF):=by
 have e1:e.Idx=e.Idx.take k++x::e.Idx.drop (k+1):=by rw [←qJ h,aZ]
 have e2:dD e=e.Lin::e.Idx.flatMap ixF:=rfl
 have e3:e.Idx.flatMap ixF=(e.Idx.take k++x::e.Idx.drop (k+1)).flatMap ixF:=ai _ e1
 rw [e2,e3,dp,cc]
 simp [ixF]
def forms_at2 {j:Nat} {l:Lf} (h:e.Idx[k]? =some x) (hl:x.At[j]? =some l):dD e=((e.Lin::(e.Idx.take k).flatMap ixF)++[x.Lin]++x.At.take j)++l::(x.At.drop (j+1)++(e.Idx.drop (k+1)).flatMap ixF):=by
 rw [forms_at h]
 have e1:x.At=x.At.take j++l::x.At.drop (j+1):=by rw [←qJ hl,aZ]
 have e2:x.At++(e.Idx.drop (k+1)).flatMap ixF=(x.At.take j++l::x.At.drop (j+1))++(e.Idx.drop (k+1)).flatMap ixF:=ai (· ++(e.Idx.drop (k+1)).flatMap ixF) e1
 rw [e2]
 simp
def forms_next (h:e.Idx[k]? =some x):e.Lin::(e.Idx.take (k+1)).flatMap ixF=(e.Lin::(e.Idx.take k).flatMap ixF)++[x.Lin]++x.At:=by
 rw [yA h,dp];simp [ixF]
variable {pre:List Ex}
def nodes_at (h:e.Args[k]? =some a) {suf:List Ex} {x:Ex} (hx:dQ a=pre++x::suf):dQ e=(e::bV (e.Args.take k)++pre)++x::(suf++bV (e.Args.drop (k+1))):=by
 have e1:e.Args=e.Args.take k++a::e.Args.drop (k+1):=by rw [←qJ h,aZ]
 have e2:bV e.Args=bV (e.Args.take k)++(dQ a++bV (e.Args.drop (k+1))):=by
  have:=ai bV e1
  rw [zPm,bV] at this
  exact this
 rw [zAl,e2,hx]
 simp
def nodesL_next {l:List Ex} (h:l[k]? =some a):bV (l.take (k+1))=bV (l.take k)++dQ a:=by
 rw [yA h,zPm,bV,bV,lAn]
def forms_wt {l:Lf} (he:e.wt<=B) (h:l∈dD e):l.L.length<=B:=by
 unfold dD at h
 rcases ag.1 h with rfl|h
 ·exact (e.parts he).1
 ·obtain ⟨x,hx,hl⟩:=dg.1 h
  have h1:=Ex.idx_wt hx
  rcases ag.1 hl with rfl|hl
  ·omega
  ·have:=zBw hl;omega
def node5 {b:Bool} (h:lQ e=true) (c:(decide (e.Op=1)&& !(dJ e.Ty&&jI e.Ty e.Val))=b):(decide (e.Op=1)&& !jI e.Ty e.Val)=b:=by
 rw [←c]
 by_cases h1:e.Op=1
 ·rw [types_ty h h1];simp [h1]
 ·simp [h1]
def all_app_no {pre suf:List α} {x:α} (h:(pre++[x]).all p=false):(pre++x::suf).all p=false:=by
 rw [show pre++x::suf=(pre++[x])++suf by simp,ce,h];rfl
def errs_one {x:Ex} (h:jU pre=0) (c:¬bZ x=0):jU (pre++[x])=bZ x:=by
 rw [zIc,h,jU,kK c];rfl
def errs_pre {suf:List Ex} {x:Ex} (h:¬jU (pre++[x])=0):jU (pre++x::suf)=jU (pre++[x]):=by
 rw [show pre++x::suf=(pre++[x])++suf by simp,zIc,kK h];rfl
/-! ## Equality,part by part -/
def ix_eq (a b:Ix):((decide (a.From=b.From)&&decide (a.Lin=b.Lin))&&decide (a.At=b.At))=decide (a=b):=by
 rw [cw];simp only [ae,aj]
 cases a;cases b;simp only [Ix.mk.injEq]
 constructor
 ·rintro ⟨⟨h1,h2⟩,h3⟩;exact ⟨h2,h1,h3⟩
 ·rintro ⟨h1,h2,h3⟩;exact ⟨⟨h2,h1⟩,h3⟩
def litsEq_val (a b:Vl):dN [cI a.N,cI a.D] [cI b.N,cI b.D]=decide (a=b):=by
 rw [cw];cases a;cases b;simp [dN,cEq]
def litsEq_ty (a b:Ty):dN [cI a.Kind,cI a.Bits,cI a.Frac,cI a.Round,cI a.Over] [cI b.Kind,cI b.Bits,cI b.Frac,cI b.Round,cI b.Over]=decide (a=b):=by
 rw [cw];cases a;cases b;simp [dN,cEq]
def ex_eq (a b:Ex):((((((decide (a.Op=b.Op)&&decide (a.Name=b.Name))&&dN [cI a.Val.N,cI a.Val.D] [cI b.Val.N,cI b.Val.D])&&dN [cI a.Ty.Kind,cI a.Ty.Bits,cI a.Ty.Frac,cI a.Ty.Round,cI a.Ty.Over] [cI b.Ty.Kind,cI b.Ty.Bits,cI b.Ty.Frac,cI b.Ty.Round,cI b.Ty.Over])&&decide (a.Lin=b.Lin))&&decide (a.Idx=b.Idx))&&decide (a.Args=b.Args))=decide (a=b):=by
 rw [litsEq_val,litsEq_ty,cw]
 simp only [ae,aj,Ex.eq_iff]
 constructor
 ·rintro ⟨⟨⟨⟨⟨⟨h1,h2⟩,h3⟩,h4⟩,h5⟩,h6⟩,h7⟩;exact ⟨h1,h2,h3,h4,h5,h6,h7⟩
 ·rintro ⟨h1,h2,h3,h4,h5,h6,h7⟩;exact ⟨⟨⟨⟨⟨⟨h1,h2⟩,h3⟩,h4⟩,h5⟩,h6⟩,h7⟩
/-! ## Weights -/
def gH (m n:Nat):List Lf->Nat
 |[]=>n
 |l::r=>if n<=m then gH m (n+l.L.length) r else n
def fF (m n:Nat):List Ix->Nat
 |[]=>n
 |x::r=>if n<=m then fF m (gH m (n+x.Lin.L.length+x.At.length) x.At) r else n
mutual
def gW:Ex->Nat->Nat
 |.mk _ _ _ _ l i arg_,m=>jW arg_ m (fF m (1+l.L.length+i.length) i)
def jW:List Ex->Nat->Nat->Nat
 |[],_,n=>n
 |a::r,m,n=>if n<=m then jW r m (n+gW a (m-n)) else n
end
def weighE_eq (e:Ex) (m:Nat):gW e m=jW e.Args m (fF m (1+e.Lin.L.length+e.Idx.length) e.Idx):=by cases e;rw [gW];rfl
def Ix.fit (x:Ix):Prop:=x.Lin.L.length<=140737488355328/\x.At.length<=140737488355328/\∀l,l∈x.At->l.L.length<=140737488355328
mutual
def Ex.fit:Ex->Prop
 |.mk _ _ _ _ l i arg_=>l.L.length<=140737488355328/\i.length<=140737488355328/\arg_.length<=140737488355328/\(∀x,x∈i->x.fit)/\eS arg_
def eS:List Ex->Prop
 |[]=>True
 |a::r=>a.fit/\eS r
end
def fitL_mem {l:List Ex} (h:eS l):∀a,a∈l->a.fit:=by
 induction l with
 |nil=>intro a ha;cases ha
 |cons x r ih=>
  intro a ha
  rcases ag.1 ha with rfl|ha
  ·exact h.1
  ·exact ih h.2 a ha
def Ex.fit_eq (h:e.fit):e.Lin.L.length<=140737488355328/\e.Idx.length<=140737488355328/\e.Args.length<=140737488355328/\(∀x,x∈e.Idx->x.fit)/\∀a,a∈e.Args->a.fit:=by
 cases e with
 |mk o n v t l i arg_=>rw [Ex.fit] at h;exact ⟨h.1,h.2.1,h.2.2.1,h.2.2.2.1,fitL_mem h.2.2.2.2⟩
def zQr (m:Nat):∀(l:List Lf) (n:Nat),n<=gH m n l
 |[],n=>aA _
 |x::r,n=>by
  rw [gH];split
  ·have:=zQr m r (n+x.L.length);omega
  ·omega
def zUu (m:Nat):∀(l:List Ix) (n:Nat),n<=fF m n l
 |[],n=>aA _
 |x::r,n=>by
  rw [fF];split
  ·have h1:=zQr m x.At (n+x.Lin.L.length+x.At.length)
   have:=zUu m r (gH m (n+x.Lin.L.length+x.At.length) x.At);omega
  ·omega
def zUw (m:Nat):∀(l:List Lf) (n:Nat),gH m n l<=m->n+fR l<=gH m n l
 |[],n,_=>by simp [gH,fR]
 |y::r,n,h=>by
  have hn:n<=m:=aL (zQr m (y::r) n) h
  rw [gH,ab hn] at h⊢
  have:=zUw m r _ h
  rw [fR];omega
def zSo (m:Nat):∀(l:List Ix) (n:Nat),fF m n l<=m->n+fC l<=fF m n l
 |[],n,_=>by simp [fF,fC]
 |x::r,n,h=>by
  have hn:n<=m:=aL (zUu m (x::r) n) h
  rw [fF,ab hn] at h⊢
  have h1:=zSo m r _ h
  have h2:=zUw m x.At (n+x.Lin.L.length+x.At.length) zB
  rw [fC,Ix.wt];omega
mutual
def zOp:∀(e:Ex) (m:Nat),gW e m<=m->e.wt<=gW e m
 |.mk o n v t l i arg_,m,h=>by
  rw [gW] at h⊢
  have h1:=weighL_wt arg_ m _ h
  have h2:=zSo m i (1+l.L.length+i.length) zB
  rw [Ex.wt];omega
def weighL_wt:∀(l:List Ex) (m n:Nat),jW l m n<=m->n+dX l<=jW l m n
 |[],m,n,h=>by simp [jW,dX]
 |a::r,m,n,h=>by
  by_cases hn:n<=m
  ·rw [jW,ab hn] at h⊢
   have h1:=weighL_wt r m _ h
   have h2:=zOp a (m-n) zB
   rw [dX];omega
  ·rw [jW,aa hn] at h;omega
end
def weighAt_le {m:Nat}:∀(l:List Lf) (n B:Nat),(∀x,x∈l->x.L.length<=140737488355328)->n<=B->m+140737488355328<=B->gH m n l<=B
 |[],n,B,_,h,_=>by simpa [gH] using h
 |x::r,n,B,hx,h,hb=>by
  rw [gH];split
  ·have:=hx x uF
   exact weighAt_le r _ B (fun y hy=>hx y (by simp [hy])) zB hb
  ·exact h
def zUt {m:Nat}:∀(l:List Ix) (n B:Nat),(∀x,x∈l->x.fit)->n<=B->m+3*140737488355328<=B->fF m n l<=B
 |[],n,B,_,h,_=>by simpa [fF] using h
 |x::r,n,B,hx,h,hb=>by
  rw [fF];split
  ·obtain ⟨h1,h2,h3⟩:=hx x uF
   exact zUt r _ B (fun y hy=>hx y (by simp [hy])) (weighAt_le x.At _ B h3 zB zB) hb
  ·exact h
mutual
def zUv:∀(e:Ex) (m:Nat),e.fit->gW e m<=m+4*140737488355328
 |.mk o n v t l i arg_,m,h=>by
  rw [Ex.fit] at h
  obtain ⟨h1,h2,h3,h4,h5⟩:=h
  rw [gW]
  exact weighL_le arg_ m _ h5 (zUt i _ _ h4 zB zB)
def weighL_le:∀(l:List Ex) (m n:Nat),eS l->n<=m+4*140737488355328->jW l m n<=m+4*140737488355328
 |[],m,n,_,h=>by simpa [jW] using h
 |a::r,m,n,hf,h=>by
  rw [jW];split
  ·have:=zUv a (m-n) hf.1
   exact weighL_le r m _ hf.2 zB
  ·exact h
end
def weighIdx_end {m:Nat} {l:List Ix} {x:Int} (hx:x=m) (h:l.length<=k∨x<n):n=fF m n (l.drop k):=by
 by_cases hk:k<l.length
 ·obtain ⟨a,ha⟩:=qX l k hk
  rw [qJ ha,fF,aa zB]
 ·rw [kL hk,fF]
def weighAt_end {m:Nat} {l:List Lf} {x:Int} (hx:x=m) (h:l.length<=k∨x<n):n=gH m n (l.drop k):=by
 by_cases hk:k<l.length
 ·obtain ⟨a,ha⟩:=qX l k hk
  rw [qJ ha,gH,aa zB]
 ·rw [kL hk,gH]
def weighL_end {m:Nat} {l:List Ex} {x:Int} (hx:x=m) (h:l.length<=k∨x<n):n=jW (l.drop k) m n:=by
 by_cases hk:k<l.length
 ·obtain ⟨a,ha⟩:=qX l k hk
  rw [qJ ha,jW,aa zB]
 ·rw [kL hk,jW]
/-! ## Forms mapped -/
def fE (f:Lf->Lf×Int) (l:Lf):Except Int Lf:=if (f l).2=0 then .ok (f l).1 else .error (f l).2
def dL (f:Lf->Lf×Int):List Lf->Except Int (List Lf)
 |[]=>.ok []
 |l::r=>match fE f l with
  |.error x=>.error x
  |.ok l'=>match dL f r with
   |.error x=>.error x
   |.ok r'=>.ok (l'::r')
def mIx (f:Lf->Lf×Int) (x:Ix):Except Int Ix:=match fE f x.Lin with
 |.error y=>.error y
 |.ok l=>match dL f x.At with
  |.error y=>.error y
  |.ok a=>.ok ⟨l,x.From,a⟩
def dM (f:Lf->Lf×Int):List Ix->Except Int (List Ix)
 |[]=>.ok []
 |x::r=>match mIx f x with
  |.error y=>.error y
  |.ok x'=>match dM f r with
   |.error y=>.error y
   |.ok r'=>.ok (x'::r')
mutual
def mEx (f:Lf->Lf×Int):Ex->Except Int Ex
 |.mk o n v t l i arg_=>match fE f l with
  |.error y=>.error y
  |.ok l'=>match dM f i with
   |.error y=>.error y
   |.ok i'=>match gB f arg_ with
    |.error y=>.error y
    |.ok as'=>.ok (.mk o n v t l' i' as')
def gB (f:Lf->Lf×Int):List Ex->Except Int (List Ex)
 |[]=>.ok []
 |a::r=>match mEx f a with
  |.error y=>.error y
  |.ok a'=>match gB f r with
   |.error y=>.error y
   |.ok r'=>.ok (a'::r')
end
def zEx:Ex:=.mk 0 (bs []) ⟨0,0⟩ ⟨0,0,0,0,0⟩ ⟨0,[]⟩ [] []
def jZ:Except Int Ex->Ex
 |.ok e=>e
 |.error _=>zEx
def gG:Except Int α->Int
 |.ok _=>0
 |.error x=>x
def lZ {β:Type} (a:Except Int α) (g:α->β):Except Int β:=match a with
 |.error y=>.error y
 |.ok x=>.ok (g x)
def zWl (f:Lf->Lf×Int) (e:Ex):mEx f e=match fE f e.Lin with
  |.error y=>.error y
  |.ok l'=>match dM f e.Idx with
   |.error y=>.error y
   |.ok i'=>match gB f e.Args with
    |.error y=>.error y
    |.ok as'=>.ok (.mk e.Op e.Name e.Val e.Ty l' i' as'):=by cases e;rw [mEx];rfl
variable {f:Lf->Lf×Int}
def zOk {l:Lf} (h:(f l).2=0):fE f l=.ok (f l).1:=ab h
def zPz {l:Lf} (h:¬(f l).2=0):fE f l=.error (f l).2:=aa h
def bW (done:List α) (x:Except Int (List α)):Except Int (List α):=lZ x (done++ ·)
def zBj (x:Except Int (List α)):bW [] x=x:=by cases x<;>rfl
variable {done:List Lf}
def zRu {l:List Lf} {x:Lf} (h:l[k]? =some x) (hp:dL f l=bW done (dL f (l.drop k))) (hx:(f x).2=0):dL f l=bW (done++[(f x).1]) (dL f (l.drop (k+1))):=by
 rw [hp,qJ h,dL,zOk hx]
 cases dL f (l.drop (k+1))<;>simp [bW,lZ]
def mLins_no {l:List Lf} {x:Lf} (h:l[k]? =some x) (hp:dL f l=bW done (dL f (l.drop k))) (hx:¬(f x).2=0):dL f l=.error (f x).2:=by
 rw [hp,qJ h,dL,zPz hx];rfl
def zWg {l:List Lf} (hp:dL f l=bW done (dL f (l.drop k))) (h:¬k<l.length):dL f l=.ok done:=by
 rw [hp,kL h];simp [dL,bW,lZ]
def zWj {l:List Ix} {y:Ix} {done:List Ix} (h:l[k]? =some x) (hp:dM f l=bW done (dM f (l.drop k))) (hx:mIx f x=.ok y):dM f l=bW (done++[y]) (dM f (l.drop (k+1))):=by
 rw [hp,qJ h,dM,hx]
 cases dM f (l.drop (k+1))<;>simp [bW,lZ]
variable {c:Int}
def zWi {l:List Ix} {done:List Ix} (h:l[k]? =some x) (hp:dM f l=bW done (dM f (l.drop k))) (hx:mIx f x=.error c):dM f l=.error c:=by
 rw [hp,qJ h,dM,hx];rfl
def mIxs_end {l:List Ix} {done:List Ix} (hp:dM f l=bW done (dM f (l.drop k))) (h:¬k<l.length):dM f l=.ok done:=by
 rw [hp,kL h];simp [dM,bW,lZ]
def zXn {x:Except Int α} (h:gG x=0) (h2:x≠ .error 0):∃a,x=.ok a:=by
 cases x with
 |ok a=>exact ⟨a,rfl⟩
 |error y=>exact absurd (by rw [show y=0 from h]) h2
def fE_ne {l:Lf}:fE f l≠ .error 0:=by
 unfold fE;split
 ·simp
 ·rename_i h;intro hh;exact h (Except.error.inj hh)
def mLins_ne {f:Lf->Lf×Int}:∀{l:List Lf},dL f l≠ .error 0
 |[]=>by simp [dL]
 |x::r=>by
  rw [dL]
  cases h1:fE f x with
  |error y=>intro h;cases h;exact fE_ne h1
  |ok a=>
   cases h2:dL f r with
   |error y=>intro h;cases h;exact mLins_ne h2
   |ok a=>simp
def mIx_ne:mIx f x≠ .error 0:=by
 rw [mIx]
 cases h1:fE f x.Lin with
 |error y=>intro h;cases h;exact fE_ne h1
 |ok a=>
  cases h2:dL f x.At with
  |error y=>intro h;cases h;exact mLins_ne h2
  |ok a=>simp
def mIxs_ne {f:Lf->Lf×Int}:∀{l:List Ix},dM f l≠ .error 0
 |[]=>by simp [dM]
 |x::r=>by
  rw [dM]
  cases h1:mIx f x with
  |error y=>intro h;cases h;exact mIx_ne h1
  |ok a=>
   cases h2:dM f r with
   |error y=>intro h;cases h;exact mIxs_ne h2
   |ok a=>simp
mutual
def mEx_ne {f:Lf->Lf×Int}:∀e:Ex,mEx f e≠ .error 0
 |.mk o n v t l i arg_=>by
  rw [mEx]
  cases h1:fE f l with
  |error y=>intro h;cases h;exact fE_ne h1
  |ok a=>
   cases h2:dM f i with
   |error y=>intro h;cases h;exact mIxs_ne h2
   |ok a=>
    cases h3:gB f arg_ with
    |error y=>intro h;cases h;exact mExs_ne arg_ h3
    |ok a=>simp
def mExs_ne {f:Lf->Lf×Int}:∀l:List Ex,gB f l≠ .error 0
 |[]=>by simp [gB]
 |x::r=>by
  rw [gB]
  cases h1:mEx f x with
  |error y=>intro h;cases h;exact mEx_ne x h1
  |ok a=>
   cases h2:gB f r with
   |error y=>intro h;cases h;exact mExs_ne r h2
   |ok a=>simp
end
def zWk {l:List Ex} {x:Ex} {done:List Ex} (h:l[k]? =some x) (hp:gB f l=bW done (gB f (l.drop k))) (hx:gG (mEx f x)=0):gB f l=bW (done++[jZ (mEx f x)]) (gB f (l.drop (k+1))):=by
 rw [hp,qJ h,gB]
 obtain ⟨y,hy⟩:=zXn hx (mEx_ne x)
 rw [hy]
 cases gB f (l.drop (k+1))<;>simp [bW,lZ,jZ]
def mExs_no {l:List Ex} {x:Ex} {done:List Ex} (h:l[k]? =some x) (hp:gB f l=bW done (gB f (l.drop k))) (hx:¬gG (mEx f x)=0):gB f l=.error (gG (mEx f x)):=by
 rw [hp,qJ h,gB]
 cases hm:mEx f x with
 |error y=>rfl
 |ok y=>rw [hm] at hx;exact absurd rfl hx
def mExs_end {l:List Ex} {done:List Ex} (hp:gB f l=bW done (gB f (l.drop k))) (h:¬k<l.length):gB f l=.ok done:=by
 rw [hp,kL h];simp [gB,bW,lZ]
def idF (l:Lf):Lf×Int:=(l,0)
def mLins_id:∀l:List Lf,dL idF l=.ok l
 |[]=>rfl
 |x::r=>by rw [dL,zOk rfl,mLins_id r];rfl
def mIx_id (x:Ix):mIx idF x=.ok x:=by rw [mIx,zOk rfl,mLins_id];rfl
def mIxs_id:∀l:List Ix,dM idF l=.ok l
 |[]=>rfl
 |x::r=>by rw [dM,mIx_id,mIxs_id r]
mutual
def mEx_id:∀e:Ex,mEx idF e=.ok e
 |.mk o n v t l i arg_=>by rw [mEx,zOk rfl,mIxs_id,mExs_id arg_];rfl
def mExs_id:∀l:List Ex,gB idF l=.ok l
 |[]=>by rw [gB]
 |x::r=>by rw [gB,mEx_id x,mExs_id r]
end
variable {A:List (List C)}
/-! ## A row in the middle -/
def zRs {f:α->List C} {x:α} (hA:A.length=k) (h:l[k]? =some x):(A++(l.drop k).map f)[k]? =some (f x):=by
 rw [qJ h,aH,cy zB,hA];simp
def zLx {f:α->List C} (hA:A.length=k) (h:k<l.length):((k:Int)).toNat<(A++(l.drop k).map f).length:=by
 simp;omega
variable {r:List C}
def zLw {f:α->List C} {x:α} (hA:A.length=k) (h:l[k]? =some x):(A++(l.drop k).map f).set k r=(A++[r])++(l.drop (k+1)).map f:=by
 rw [qJ h,aH,fi _ _ zB,hA];simp
def mid_set' {f:α->List C} {B:List (List C)} {l:List α} {r':List C} (hA:A.length=k):((A++[r])++B).set k r'=(A++[r'])++B:=by
 rw [lAa,fi _ _ zB,hA];simp
def zHd (h:k<A.length):(A.set k r)[k]? =some r:=by
 rw [bc h]
def mid_getE {l:List Ex} {x:Ex} (hA:A.length=k) (h:l[k]? =some x):(A++(l.drop k).map Ex.cells)[k]? =some x.cs:=by
 rw [zRs hA h,Ex.cells_eq]
def mEx_e1 (h:¬(f e.Lin).2=0):mEx f e=.error (f e.Lin).2:=by rw [zWl,zPz h]
def mEx_e2 (h:(f e.Lin).2=0) (h2:dM f e.Idx=.error c):mEx f e=.error c:=by rw [zWl,zOk h,h2]
def mEx_e3 {i:List Ix} (h:(f e.Lin).2=0) (h2:dM f e.Idx=.ok i) (h3:gB f e.Args=.error c):mEx f e=.error c:=by rw [zWl,zOk h,h2,h3]
def mEx_ok {i:List Ix} {a:List Ex} (h:(f e.Lin).2=0) (h2:dM f e.Idx=.ok i) (h3:gB f e.Args=.ok a):mEx f e=.ok (.mk e.Op e.Name e.Val e.Ty (f e.Lin).1 i a):=by rw [zWl,zOk h,h2,h3]
def mIx_e1 (h:¬(f x.Lin).2=0):mIx f x=.error (f x.Lin).2:=by rw [mIx,zPz h]
def mIx_e2 (h:(f x.Lin).2=0) (h2:dL f x.At=.error c):mIx f x=.error c:=by rw [mIx,zOk h,h2]
def mIx_ok {a:List Lf} (h:(f x.Lin).2=0) (h2:dL f x.At=.ok a):mIx f x=.ok ⟨(f x.Lin).1,x.From,a⟩:=by rw [mIx,zOk h,h2]
def Ex.allF (P:Lf->Prop) (e:Ex):Prop:=∀x,x∈dQ e->∀l,l∈dD x->P l
variable {P:Lf->Prop}
def Ex.allF_lin (h:e.allF P):P e.Lin:=h e (by rw [zAl];simp) _ (by unfold dD;simp)
def Ex.allF_ix (h:e.allF P) (hx:x∈e.Idx):P x.Lin:=h e (by rw [zAl];simp) _ (by unfold dD;exact aJ _ (dg.2 ⟨x,hx,uF⟩))
def Ex.allF_at (h:e.allF P) (hx:x∈e.Idx) {l:Lf} (hl:l∈x.At):P l:=h e (by rw [zAl];simp) _ (by unfold dD;exact aJ _ (dg.2 ⟨x,hx,by simp [hl]⟩))
def zVz {a x:Ex}:∀{l:List Ex},a∈l->x∈dQ a->x∈bV l
 |[],h,_=>by cases h
 |b::r,h,hx=>by
  rw [bV,ao]
  rcases ag.1 h with rfl|h
  ·exact .inl hx
  ·exact .inr (zVz h hx)
def Ex.allF_arg (h:e.allF P) (ha:a∈e.Args):a.allF P:=fun x hx=>h x (by rw [zAl];exact aJ _ (zVz ha hx))
/-! ## Counts: all but the lengths of forms -/
def sN:List Ix->Nat
 |[]=>0
 |x::r=>x.At.length+sN r
mutual
def Ex.cnt:Ex->Nat
 |.mk _ _ _ _ _ i r=>1+i.length+sN i+tT r
def tT:List Ex->Nat
 |[]=>0
 |e::r=>e.cnt+tT r
end
def Ex.cnt_eq (e:Ex):e.cnt=1+e.Idx.length+sN e.Idx+tT e.Args:=by cases e;rw [Ex.cnt];rfl
def Ex.cnt_pos (e:Ex):1<=e.cnt:=by rw [Ex.cnt_eq];omega
def ixCnt_mem {l:List Ix} (h:x∈l):x.At.length<=sN l:=by
 induction l with
 |nil=>cases h
 |cons a r ih=>
  rw [sN]
  exact v34
def cntL_len (l:List Ex):l.length<=tT l:=by
 induction l with
 |nil=>simp [tT]
 |cons a r ih=>rw [tT,lLc];have:=a.cnt_pos;omega
def cntL_mem {l:List Ex} (h:a∈l):a.cnt<=tT l:=by
 induction l with
 |nil=>cases h
 |cons x r ih=>
  rw [tT]
  exact v34
def Ex.cparts (h:e.cnt<=B):e.Idx.length<=B/\e.Args.length<=B/\∀x,x∈e.Idx->x.At.length<=B:=by
 rw [Ex.cnt_eq] at h
 have:=cntL_len e.Args
 exact ⟨zB,zB,fun x hx=>by have:=ixCnt_mem hx;omega⟩
def Ex.arg_cnt (h:a∈e.Args):a.cnt<e.cnt:=by
 rw [Ex.cnt_eq e];have:=cntL_mem h;omega
def ixCnt_le (l:List Ix):sN l<=fC l:=by
 induction l with
 |nil=>simp [sN]
 |cons x r ih=>rw [sN,fC,Ix.wt];omega
def Ex.cnt_le (e:Ex):e.cnt<=e.wt:=by
 induction e using Ex.ind with
 |_ e ih=>
  rw [Ex.cnt_eq,Ex.wt_eq]
  have h1:=ixCnt_le e.Idx
  have h2:∀l:List Ex,(∀a,a∈l->a.cnt<=a.wt)->tT l<=dX l:=by
   intro l
   induction l with
   |nil=>intro _;simp [tT]
   |cons a r ihr=>
    intro h
    rw [tT,dX]
    have:=h a uF
    have:=ihr fun b hb=>h b (by simp [hb])
    omega
  have:=h2 e.Args ih
  omega
def zQc {l:List Ex} (h:jU l=0):∀x,x∈l->bZ x=0:=by
 induction l with
 |nil=>intro x hx;cases hx
 |cons y r ih=>
  intro x hx
  rw [jU] at h
  by_cases hy:bZ y=0
  ·rw [zAp hy,aD] at h
   rcases ag.1 hx with rfl|hx
   ·exact hy
   ·exact ih h x hx
  ·rw [kK hy,av] at h;exact absurd h hy
def zRk (h:gF e=0):bZ e=0:=zQc h e (by rw [zAl];simp)
def zPg (h:gF e=0) (ha:a∈e.Args):gF a=0:=by
 have hn:=zRk h
 rw [zHv,zAp hn,aD] at h
 obtain ⟨k,hk⟩:=bn ha
 have:∀l:List Ex,tJ l=0->a∈l->gF a=0:=by
  intro l
  induction l with
  |nil=>intro _ h;cases h
  |cons y r ih=>
   intro h hm
   rw [zRj] at h
   by_cases hy:gF y=0
   ·rw [zAp hy,aD] at h
    rcases ag.1 hm with rfl|hm
    ·exact hy
    ·exact ih h hm
   ·rw [kK hy,av] at h;exact absurd h hy
 exact this _ h ha
def zFc (h:dO e=0):gF e=0:=by
 unfold dO at h
 by_cases h1:40<mJ 40 e
 ·rw [zAp h1] at h;simp at h
 ·rw [kK h1,av] at h
  by_cases h2:(2000:Int)<szT e
  ·rw [zAp h2] at h;simp at h
  ·rwa [kK h2,av] at h
def zPn (h:bZ e=0):jO e=true/\nX e=true/\pV e=true/\lQ e=true/\lV e=true:=by
 unfold bZ at h
 cases h1:jO e<;>rw [h1] at h<;>simp at h
 cases h2:nX e<;>rw [h2] at h<;>simp at h
 cases h3:pV e<;>rw [h3] at h<;>simp at h
 cases h4:lQ e<;>rw [h4] at h<;>simp at h
 cases h5:lV e<;>rw [h5] at h<;>simp at h
 simp
def zL:Lf:=⟨0,[]⟩
structure Cn where
 Lin:Lf
 Eq:Bool
 deriving DecidableEq
structure Ax where
 Name:nn
 Size:Lf
 deriving DecidableEq
structure Pm where
 Name:nn
 T:Ty
 Dims:List Lf
 deriving DecidableEq
structure Df where
 Name:nn
 T:Ty
 Dims:List Ax
 Red:List Ax
 Fold:Int
 Body:Ex
 deriving DecidableEq
structure Pg where
 Sizes:List nn
 Where:List Cn
 Params:List Pm
 Defs:List Df
 Outs:List nn
 deriving DecidableEq
def Cn.cells (x:Cn):List C:=[cI x.Lin.K,.sl 2 (x.Lin.L.map Mono.cells),cB x.Eq]
def Ax.cells (x:Ax):List C:=[cS x.Name,cI x.Size.K,.sl 2 (x.Size.L.map Mono.cells)]
def Pm.cells (x:Pm):List C:=[cS x.Name,cI x.T.Kind,cI x.T.Bits,cI x.T.Frac,cI x.T.Round,cI x.T.Over,.sl 2 (x.Dims.map Lf.cells)]
def Df.cells (x:Df):List C:=[cS x.Name,cI x.T.Kind,cI x.T.Bits,cI x.T.Frac,cI x.T.Round,cI x.T.Over,.sl 3 (x.Dims.map Ax.cells),.sl 3 (x.Red.map Ax.cells),cI x.Fold,
 cI x.Body.Op,cS x.Body.Name,cI x.Body.Val.N,cI x.Body.Val.D,cI x.Body.Ty.Kind,cI x.Body.Ty.Bits,cI x.Body.Ty.Frac,cI x.Body.Ty.Round,cI x.Body.Ty.Over,cI x.Body.Lin.K,.sl 2 (x.Body.Lin.L.map Mono.cells),.sl 4 (x.Body.Idx.map Ix.cells),.sl 13 (x.Body.Args.map Ex.cells)]
def Pg.cells (p:Pg):List C:=[.sl 1 (p.Sizes.map fun s=>[cS s]),.sl 3 (p.Where.map Cn.cells),.sl 7 (p.Params.map Pm.cells),.sl 22 (p.Defs.map Df.cells),.sl 1 (p.Outs.map fun s=>[cS s])]
abbrev vCn (x:Cn):V:=.agg x.cells
abbrev vPm (x:Pm):V:=.agg x.cells
abbrev vDf (x:Df):V:=.agg x.cells
abbrev vPg (x:Pg):V:=.agg x.cells
def sM (l:Lf):Prop:=l.L.length<=140737488355328
def Pm.fit (x:Pm):Prop:=x.Dims.length<=140737488355328/\∀l,l∈x.Dims->sM l
def Df.fit (d:Df):Prop:=d.Dims.length<=140737488355328/\d.Red.length<=140737488355328/\(∀a,a∈d.Dims->sM a.Size)/\(∀a,a∈d.Red->sM a.Size)/\d.Body.fit
structure Pg.Fit (p:Pg):Prop where
 sizes:p.Sizes.length<=140737488355328
 wh:p.Where.length<=140737488355328
 params:p.Params.length<=140737488355328
 defs:p.Defs.length<=140737488355328
 outs:p.Outs.length<=140737488355328
 whs:∀c,c∈p.Where->sM c.Lin
 ps:∀x,x∈p.Params->x.fit
 ds:∀d,d∈p.Defs->d.fit
def zTy:Ty:=⟨0,0,0,0,0⟩
def iTy:Ty:=⟨3,0,0,0,0⟩
/-! ## Find -/
structure Fd where
 ty:Ty
 dims:List Lf
 ok:Bool
def dY (s:nn):List Df->Fd
 |[]=>⟨zTy,[],false⟩
 |d::r=>bif decide (d.Name=s) then ⟨d.T,d.Dims.map Ax.Size,true⟩ else dY s r
def fV (s:nn) (ds:List Df):List Pm->Fd
 |[]=>dY s ds
 |x::r=>bif decide (x.Name=s) then ⟨x.T,x.Dims,true⟩ else fV s ds r
def pC (s:nn) (l:List Df):Int:=dT (fun d=>decide (d.Name=s)) l
structure En where
 sz:List nn
 pm:List Pm
 df:List Df
def Pg.en (p:Pg):En:=⟨p.Sizes,p.Params,p.Defs⟩
def En.find (n:En) (s:nn):Fd:=fV s n.df n.pm
def bD (d:Df):List nn:=d.Dims.map Ax.Name++d.Red.map Ax.Name
/-! ## Types of expressions -/
def knL (k:nn->Bool) (l:List Mono):Bool:=l.all fun m=>k m.Name
def mY (k:nn->Bool) (l:Lf):Int:=bif knL k l.L then 0 else 9
def lU (k:nn->Bool) (l:List Lf):Int:=bif l.all (fun x=>knL k x.L) then 0 else 9
def dI (n:En) (k:nn->Bool) (x:Ix):Int:=
 bif decide (x.From=bs []) then mY k x.Lin else
 bif !(n.find x.From).ok then 9 else
 bif !decide ((n.find x.From).ty.Kind=3) then 10 else
 bif !decide (x.At.length=(n.find x.From).dims.length) then 11 else lU k x.At
def fK (n:En) (k:nn->Bool):List Ix->Int
 |[]=>0
 |x::r=>bif decide (dI n k x=0) then fK n k r else dI n k x
def jT (n:En) (k:nn->Bool) (e:Ex):Ty×Int:=
 bif !(n.find e.Name).ok then (zTy,9) else
 bif !decide (e.Idx.length=(n.find e.Name).dims.length) then (zTy,11) else
 bif decide (fK n k e.Idx=0) then ((n.find e.Name).ty,0) else (zTy,fK n k e.Idx)
def lH (a b:Ty):Int:=bif decide (a=b) then 0 else 10
def dP (l:List Ty) (i:Nat):Ty:=l.getD i zTy
def ofN (n:En) (k:nn->Bool) (e:Ex) (l:List Ty):Ty×Int:=
 if e.Op=1∨e.Op=12 then (e.Ty,0) else
 if e.Op=2 then (iTy,mY k e.Lin) else
 if e.Op=3 then jT n k e else
 if e.Op=8 then (dP l 0,0) else
 if e.Op=11 then (dP l 1,lH (dP l 1) (dP l 2)) else
 if e.Op=16∨e.Op=17∨e.Op=18 then (zTy,0) else
 if e.Op=13∨e.Op=14∨e.Op=15 then (zTy,lH (dP l 0) (dP l 1)) else
 (dP l 0,lH (dP l 0) (dP l 1))
def gE (n:En) (k:nn->Bool) (e:Ex) (l:List Ty):Ty×Int:=
 if e.Op=1∨e.Op=12 then (e.Ty,0) else
 if e.Op=2 then (iTy,lU k [e.Lin]) else
 if e.Op=3 then jT n k e else
 if e.Op=11 then (if dP l 1=dP l 2 then (dP l 1,0) else (zTy,10)) else
 if e.Op=8 then (dP l 0,0) else
 if 16<=e.Op then (zTy,0) else
 if dP l 0=dP l 1 then (if 13<=e.Op then (zTy,0) else (dP l 0,0)) else (zTy,10)
mutual
def bR (N:Ex->List Ty->Ty×Int):Ex->Ty×Int
 |.mk o nm v t l i arg_=>if (bJ N arg_).2=0 then N (.mk o nm v t l i arg_) (bJ N arg_).1 else (zTy,(bJ N arg_).2)
def bJ (N:Ex->List Ty->Ty×Int):List Ex->List Ty×Int
 |[]=>([],0)
 |a::r=>if (bR N a).2=0 then (if (bJ N r).2=0 then ((bR N a).1::(bJ N r).1,0) else ([],(bJ N r).2)) else ([],(bR N a).2)
end
def zMy (N:Ex->List Ty->Ty×Int) (e:Ex):bR N e=if (bJ N e.Args).2=0 then N e (bJ N e.Args).1 else (zTy,(bJ N e.Args).2):=by
 cases e;rw [bR];rfl
def knB (sz vars:List nn) (s:nn):Bool:=bQ vars s||bQ sz s
def nT (N:Ex->List Ty->Ty×Int) (e:Ex):Ty×Int:=
 if dO e=0 then (if fS e=true then (zTy,10) else if (bR N e).2=0 then ((bR N e).1,0) else (zTy,(bR N e).2)) else (zTy,dO e)
def gX (n:En) (vars:List nn) (e:Ex):Ty×Int:=nT (ofN n (knB n.sz vars)) e
def mV (n:En) (vars:List nn) (e:Ex):Ty×Int:=nT (gE n (knB n.sz vars)) e
def cX (a b:Ty×Int):Prop:=a.2=b.2/\(a.2=0->a.1=b.1)
def forms_one (k:nn->Bool) (l:Lf):lU k [l]=mY k l:=by simp [lU,mY]
def ofN_refN (n:En) (k:nn->Bool) (e:Ex) (l:List Ty) (h1:1<=e.Op) (h2:e.Op<=18):cX (ofN n k e l) (gE n k e l):=by
 unfold ofN gE cX
 rw [forms_one]
 by_cases c1:e.Op=1∨e.Op=12
 ·simp [c1]
 by_cases c2:e.Op=2
 ·simp [c1,c2]
 by_cases c3:e.Op=3
 ·simp [c1,c2,c3]
 by_cases c8:e.Op=8
 ·simp [c8]
 by_cases c11:e.Op=11
 ·simp only [c11]
  by_cases h:dP l 1=dP l 2
  ·simp [h,lH]
  ·simp [h,lH]
 simp only [c1,c2,c3,c8,c11,gj]
 by_cases c16:16<=e.Op
 ·have:e.Op=16∨e.Op=17∨e.Op=18:=by omega
  simp [this,c16]
 ·have:¬(e.Op=16∨e.Op=17∨e.Op=18):=by omega
  simp only [this,c16,gj]
  by_cases c13:13<=e.Op
  ·have:e.Op=13∨e.Op=14∨e.Op=15:=by omega
   simp only [this,c13,ic]
   by_cases h:dP l 0=dP l 1<;>simp [h,lH]
  ·have:¬(e.Op=13∨e.Op=14∨e.Op=15):=by omega
   simp only [this,c13,gj]
   by_cases h:dP l 0=dP l 1<;>simp [h,lH]
def node_op (h:bZ e=0):1<=e.Op/\e.Op<=18:=by
 have:=(zPn h).1
 simp only [jO,ae,az,aC,aw] at this
 obtain ⟨⟨⟨⟨⟨⟨h1,h2⟩,_⟩,_⟩,_⟩,_⟩,_⟩:=this
 exact ⟨zB,zB⟩
mutual
def zWa (n:En) (k:nn->Bool):∀e:Ex,gF e=0->cX (bR (ofN n k) e) (bR (gE n k) e)
 |.mk o nm v t l i arg_,h=>by
  obtain ⟨h1,h2⟩:=node_op (zRk h)
  obtain ⟨h3,h4⟩:=zWb n k arg_ fun a ha=>zPg h ha
  rw [bR,bR,←h3]
  by_cases c:(bJ (ofN n k) arg_).2=0
  ·rw [ab c,ab c,←h4 c]
   exact ofN_refN n k _ _ h1 h2
  ·rw [aa c,aa c]
   exact ⟨rfl,fun _=>rfl⟩
def zWb (n:En) (k:nn->Bool):∀l:List Ex,(∀a,a∈l->gF a=0)->(bJ (ofN n k) l).2=(bJ (gE n k) l).2/\((bJ (ofN n k) l).2=0->(bJ (ofN n k) l).1=(bJ (gE n k) l).1)
 |[],_=>⟨rfl,fun _=>rfl⟩
 |a::r,h=>by
  obtain ⟨h1,h2⟩:=zWa n k a (h a uF)
  obtain ⟨h3,h4⟩:=zWb n k r fun x hx=>h x (by simp [hx])
  rw [bJ,bJ,←h1,←h3]
  by_cases c:(bR (ofN n k) a).2=0
  ·rw [ab c,ab c]
   by_cases d:(bJ (ofN n k) r).2=0
   ·rw [ab d,ab d,h2 c,h4 d];exact ⟨rfl,fun _=>rfl⟩
   ·rw [aa d,aa d];exact ⟨rfl,fun _=>rfl⟩
  ·rw [aa c,aa c];exact ⟨rfl,fun _=>rfl⟩
end
def typeT_R (n:En) (vars:List nn) (e:Ex):gX n vars e=mV n vars e:=by
 unfold gX mV nT
 by_cases h:dO e=0
 ·rw [ab h,ab h]
  by_cases c:fS e=true
  ·rw [ab c,ab c]
  ·rw [aa c,aa c]
   obtain ⟨h1,h2⟩:=zWa n (knB n.sz vars) e (zFc h)
   rw [←h1]
   by_cases d:(bR (ofN n (knB n.sz vars)) e).2=0
   ·rw [ab d,ab d,h2 d]
   ·rw [aa d,aa d]
 ·rw [aa h,aa h]
/-! ## Validate,the reference -/
def dE (s:nn) (taken:List nn):Int:=if bB s=true then (if bQ taken s=true then 8 else 0) else 7
def jA (l:Lf) (sz:List nn):Int:=if bG l=true then (if knL (bQ sz) l.L=true then 0 else 9) else 1
def mT (sz:List nn):List Lf->Int
 |[]=>0
 |l::r=>if jA l sz=0 then mT sz r else jA l sz
def jH (x:Pm) (sz taken:List nn):Int:=
 if dE x.Name taken=0 then (if dJ x.T=true then (if 6<x.Dims.length then 11 else mT sz x.Dims) else 10) else dE x.Name taken
def jL (sz:List nn):List nn->List Ax->Int
 |_,[]=>0
 |taken,a::r=>if dE a.Name taken=0 then (if jA a.Size sz=0 then jL sz (taken++[a.Name]) r else jA a.Size sz) else dE a.Name taken
def pB (d:Df):Int:=
 if d.Fold<0∨5<d.Fold then 1 else
 if (decide (d.Fold=0∨d.Fold=5) !=decide (d.Red.length=0))=true∨d.Fold=5/\d.Dims.length=0 then 11 else 0
def rO (t:Ty×Int) (d:Df):Int:=if t.2=0 then (if t.1=d.T then 0 else 10) else t.2
def nB (n:En) (d:Df) (taken:List nn):Int:=
 if dE d.Name taken=0 then
  (if dJ d.T=true then
   (if 6<d.Dims.length∨6<d.Red.length then 11 else
    (if jL n.sz n.sz (d.Dims++d.Red)=0 then (if pB d=0 then rO (mV n (bD d) d.Body) d else pB d) else jL n.sz n.sz (d.Dims++d.Red)))
   else 10)
 else dE d.Name taken
def jB:List nn->List nn->Int
 |_,[]=>0
 |taken,s::r=>if dE s taken=0 then jB (taken++[s]) r else dE s taken
def dK (p:Pg):Prop:=p.Sizes.length<=64/\p.Params.length<=64/\p.Defs.length<=64/\p.Outs.length<=64/\p.Where.length<=256
instance (p:Pg):Decidable (dK p):=by unfold dK;infer_instance
def jM (sz:List nn):List Cn->Int
 |[]=>0
 |c::r=>if jA c.Lin sz=0 then jM sz r else jA c.Lin sz
def pN (n:En):Int->List nn->List nn->Int×Int
 |_,_,[]=>(0,0)
 |at_,seen,s::r=>if (n.find s).ok=true then (if bQ seen s=true then (at_,8) else pN n (at_+1) (seen++[s]) r) else (at_,9)
def mZ (p:Pg):Int->List nn->List Df->List Df->Int×Int
 |at_,_,_,[]=>pN p.en at_ [] p.Outs
 |at_,taken,before,d::r=>if nB ⟨p.Sizes,p.Params,before⟩ d taken=0 then mZ p (at_+1) (taken++[d.Name]) (before++[d]) r else (at_,nB ⟨p.Sizes,p.Params,before⟩ d taken)
def fU (p:Pg):Int->List nn->List Pm->Int×Int
 |at_,taken,[]=>mZ p at_ taken [] p.Defs
 |at_,taken,x::r=>if jH x p.Sizes taken=0 then fU p (at_+1) (taken++[x.Name]) r else (at_,jH x p.Sizes taken)
def lG (p:Pg):Int×Int:=
 if dK p then
  (if jB [] p.Sizes=0 then (if jM p.Sizes p.Where=0 then fU p 2 p.Sizes p.Params else (1,jM p.Sizes p.Where)) else (0,jB [] p.Sizes))
 else (0,2)
/-! ## Validate,the program: with a table of what each name is (1 a size,2 a tensor) -/
abbrev Kn:=List (nn×Int)
def gT (m:Kn) (s:nn):Int:=(fQ m s).getD 0
def fL (m:Kn) (s:nn):Int:=if bB s=true then (if gT m s=0 then 0 else 8) else 7
def fW (m:Kn) (l:Lf):Int:=if bG l=true then (if knL (fun s=>decide (gT m s=1)) l.L=true then 0 else 9) else 1
def lF (m:Kn):List Lf->Int
 |[]=>0
 |l::r=>if fW m l=0 then lF m r else fW m l
def jP (m:Kn) (x:Pm):Int:=
 if fL m x.Name=0 then (if dJ x.T=true then (if 6<x.Dims.length then 11 else lF (fJ m x.Name 2) x.Dims) else 10) else fL m x.Name
def lY (m:Kn):List nn->List Ax->Int
 |_,[]=>0
 |own,a::r=>if bB a.Name=true then (if bQ own a.Name=true∨gT m a.Name=1 then 8 else (if fW m a.Size=0 then lY m (own++[a.Name]) r else fW m a.Size)) else 7
def gO (d:Df):Int:=
 if d.Fold=0 then (if 0<d.Red.length then 11 else 0) else
 if d.Fold=1∨d.Fold=2∨d.Fold=3∨d.Fold=4 then (if d.Red.length=0 then 11 else 0) else
 if d.Fold=5 then (if 0<d.Red.length∨d.Dims.length=0 then 11 else 0) else 1
def pT (m:Kn) (n:En) (d:Df):Int:=
 if fL m d.Name=0 then
  (if dJ d.T=true then
   (if 6<d.Dims.length∨6<d.Red.length then 11 else
    (if lY (fJ m d.Name 2) [] (d.Dims++d.Red)=0 then (if gO d=0 then rO (gX n (bD d) d.Body) d else gO d) else lY (fJ m d.Name 2) [] (d.Dims++d.Red)))
   else 10)
 else fL m d.Name
def jC:Kn->List nn->Int
 |_,[]=>0
 |m,s::r=>if fL m s=0 then jC (fJ m s 1) r else fL m s
def xL:Kn->List nn->Kn
 |m,[]=>m
 |m,s::r=>xL (fJ m s 1) r
def jV (m:Kn):List Cn->Int
 |[]=>0
 |c::r=>if fW m c.Lin=0 then jV m r else fW m c.Lin
def pO (m:Kn):Int->List nn->List nn->Int×Int
 |_,_,[]=>(0,0)
 |at_,seen,s::r=>if gT m s=2 then (if bQ seen s=true then (at_,8) else pO m (at_+1) (seen++[s]) r) else (at_,9)
def pP (p:Pg):Int->Kn->List Df->List Df->Int×Int
 |at_,m,_,[]=>pO m at_ [] p.Outs
 |at_,m,before,d::r=>if pT m ⟨p.Sizes,p.Params,before⟩ d=0 then pP p (at_+1) (fJ m d.Name 2) (before++[d]) r else (at_,pT m ⟨p.Sizes,p.Params,before⟩ d)
def jS (p:Pg):Int->Kn->List Pm->Int×Int
 |at_,m,[]=>pP p at_ m [] p.Defs
 |at_,m,x::r=>if jP m x=0 then jS p (at_+1) (fJ m x.Name 2) r else (at_,jP m x)
def bK (p:Pg):Int×Int:=
 if dK p then
  (if jC [] p.Sizes=0 then (if jV (xL [] p.Sizes) p.Where=0 then jS p 2 (xL [] p.Sizes) p.Params else (1,jV (xL [] p.Sizes) p.Where)) else (0,jC [] p.Sizes))
 else (0,2)
def zBl (a b:List nn) (s:nn):bQ (a++b) s=(bQ a s||bQ b s):=by simp [bQ,gb]
def zNa (s t:nn):bQ [s] t=decide (s=t):=by simp [bQ]
def mget_mput' (m:Kn) (k s:nn) (a:Int):fQ (fJ m k a) s=if k=s then some a else fQ m s:=by
 induction m with
 |nil=>simp [fJ,fQ]
 |cons x r ih=>
  exact v47
def zHo (m:Kn) (k s:nn) (a:Int):gT (fJ m k a) s=if k=s then a else gT m s:=by
 unfold gT;rw [mget_mput'];by_cases h:k=s<;>simp [h]
structure Rel (m:Kn) (sz tn:List nn):Prop where
 one:∀s,gT m s=1↔bQ sz s=true
 two:∀s,gT m s=2↔bQ tn s=true
 zero:∀s,gT m s=0↔bQ (sz++tn) s=false
def Rel.nil:Rel [] [] []:=⟨fun s=>by simp [gT,fQ,bQ],fun s=>by simp [gT,fQ,bQ],fun s=>by simp [gT,fQ,bQ]⟩
variable {sz:List nn} {m:Kn}
def Rel.size (h:Rel m sz []) (h0:gT m s=0):Rel (fJ m s 1) (sz++[s]) []:=by
 refine ⟨fun t=>?_,fun t=>?_,fun t=>?_⟩
 ·rw [zHo,zBl,zNa]
  by_cases e:s=t
  ·simp [e]
  ·simp [e,h.one t]
 ·rw [zHo]
  by_cases e:s=t
  ·simp [e,bQ]
  ·simp [e,h.two t]
 ·rw [zHo,lAn,zBl,zNa]
  by_cases e:s=t
  ·simp [e]
  ·have:=h.zero t
   rw [lAn] at this
   simp [e,this]
variable {tn:List nn}
def Rel.tensor (h:Rel m sz tn) (h0:gT m s=0):Rel (fJ m s 2) sz (tn++[s]):=by
 refine ⟨fun t=>?_,fun t=>?_,fun t=>?_⟩
 ·rw [zHo]
  by_cases e:s=t
  ·subst e
   have h1:¬bQ sz s=true:=fun k=>by have:=(h.one s).2 k;omega
   simp [h1]
  ·simp [e,h.one t]
 ·rw [zHo,zBl,zNa]
  by_cases e:s=t
  ·simp [e]
  ·simp [e,h.two t]
 ·rw [zHo,zBl,zBl,zNa]
  by_cases e:s=t
  ·simp [e]
  ·have:=h.zero t
   rw [zBl] at this
   simp [e,this]
def nameM_R (h:Rel m sz tn) (s:nn):fL m s=dE s (sz++tn):=by
 unfold fL dE
 by_cases h1:bB s=true
 ·rw [ab h1,ab h1]
  by_cases h2:gT m s=0
  ·rw [ab h2,aa (by rw [(h.zero s).1 h2];simp)]
  ·rw [aa h2,ab (by cases k:bQ (sz++tn) s;exact absurd ((h.zero s).2 k) h2;rfl)]
 ·rw [aa h1,aa h1]
def zIx (h:fL m s=0):gT m s=0:=by
 unfold fL at h
 by_cases h1:bB s=true
 ·rw [ab h1] at h
  by_cases h2:gT m s=0
  ·exact h2
  ·rw [aa h2] at h;cases h
 ·rw [aa h1] at h;cases h
def knL_congr {k k':nn->Bool} (h:∀s,k s=k' s) (l:List Mono):knL k l=knL k' l:=by
 unfold knL;congr 1;funext m;exact h m.Name
def sizedM_R (h:Rel m sz tn) (l:Lf):fW m l=jA l sz:=by
 unfold fW jA
 rw [knL_congr (k':=bQ sz)]
 intro s
 rw [cw,aj];exact h.one s
def sizedsM_R (h:Rel m sz tn) (l:List Lf):lF m l=mT sz l:=by
 induction l with
 |nil=>rfl
 |cons x r ih=>rw [lF,mT,sizedM_R h,ih]
def paramM_R (h:Rel m sz tn) (x:Pm):jP m x=jH x sz (sz++tn):=by
 unfold jP jH
 rw [←nameM_R h]
 by_cases h1:fL m x.Name=0
 ·rw [ab h1,ab h1,sizedsM_R (h.tensor (zIx h1))]
 ·rw [aa h1,aa h1]
def axesM_R {m:Kn} {sz tn:List nn} (h:Rel m sz tn):∀(l:List Ax) (own:List nn),lY m own l=jL sz (sz++own) l
 |[],own=>rfl
 |a::r,own=>by
  have ih:=axesM_R h r (own++[a.Name])
  rw [lY,jL,sizedM_R h,ih,lAa]
  unfold dE
  by_cases h1:bB a.Name=true
  ·rw [ab h1,ab h1,zBl]
   by_cases h2:bQ own a.Name=true∨gT m a.Name=1
   ·rw [ab h2]
    have h3:(bQ sz a.Name||bQ own a.Name)=true:=by
     rcases h2 with h2|h2
     ·simp [h2]
     ·simp [(h.one _).1 h2]
    rw [ab h3];rfl
   ·rw [aa h2]
    have h3:¬(bQ sz a.Name||bQ own a.Name)=true:=by
     intro h3
     rw [aE] at h3
     rcases h3 with h3|h3
     ·exact h2 (.inr ((h.one _).2 h3))
     ·exact h2 (.inl h3)
    rw [aa h3,ab rfl]
  ·rw [aa h1,aa h1];rfl
def foldM_R (d:Df):gO d=pB d:=by
 unfold gO pB
 by_cases h0:d.Fold=0
 ·by_cases hr:d.Red.length=0<;>simp [h0,hr]<;>omega
 by_cases h5:d.Fold=5
 ·by_cases hr:d.Red.length=0
  ·by_cases hd:d.Dims.length=0<;>simp [h5,hr,hd]
  ·have:0<d.Red.length:=by omega
   simp [h5,hr,this]
 by_cases h1:d.Fold=1∨d.Fold=2∨d.Fold=3∨d.Fold=4
 ·have h2:¬(d.Fold<0∨5<d.Fold):=by omega
  by_cases hr:d.Red.length=0<;>simp [h0,h5,h1,h2,hr]
 ·have h2:d.Fold<0∨5<d.Fold:=by omega
  simp [h0,h5,h1,h2]
def defM_R {n:En} (h:Rel m n.sz tn) (d:Df):pT m n d=nB n d (n.sz++tn):=by
 unfold pT nB
 rw [←nameM_R h]
 by_cases h1:fL m d.Name=0
 ·rw [ab h1,ab h1,axesM_R (h.tensor (zIx h1)),lAn,foldM_R,typeT_R]
 ·rw [aa h1,aa h1]
def defM_name {n:En} {d:Df} (h:pT m n d=0):fL m d.Name=0:=by
 unfold pT at h
 by_cases h1:fL m d.Name=0
 ·exact h1
 ·rw [aa h1] at h;exact absurd h h1
def zVv {x:Pm} (h:jP m x=0):fL m x.Name=0:=by
 unfold jP at h
 by_cases h1:fL m x.Name=0
 ·exact h1
 ·rw [aa h1] at h;exact absurd h h1
def sizesM_R:∀(l:List nn) (m:Kn) (sz:List nn),Rel m sz []->jC m l=jB sz l/\(jC m l=0->Rel (xL m l) (sz++l) [])
 |[],m,sz,h=>⟨rfl,fun _=>by rw [lAn];exact h⟩
 |s::r,m,sz,h=>by
  have e:=nameM_R h s
  rw [lAn] at e
  rw [jC,jB,←e,xL]
  by_cases h1:fL m s=0
  ·rw [ab h1,ab h1]
   obtain ⟨h2,h3⟩:=sizesM_R r _ _ (h.size (zIx h1))
   exact ⟨h2,fun k=>by have:=h3 k;rwa [lAa] at this⟩
  ·rw [aa h1,aa h1];exact ⟨rfl,fun k=>absurd k h1⟩
def whereM_R (h:Rel m sz tn) (l:List Cn):jV m l=jM sz l:=by
 induction l with
 |nil=>rfl
 |cons x r ih=>rw [jV,jM,sizedM_R h,ih]
def findD_ok (s:nn):∀l:List Df,(dY s l).ok=bQ (l.map Df.Name) s
 |[]=>rfl
 |d::r=>by
  rw [dY,aH,show d.Name::r.map Df.Name=[d.Name]++r.map Df.Name from rfl,zBl,zNa,←findD_ok s r]
  by_cases h:d.Name=s<;>simp [h]
def findP_ok (s:nn) (ds:List Df):∀l:List Pm,(fV s ds l).ok=(bQ (l.map Pm.Name) s||bQ (ds.map Df.Name) s)
 |[]=>by rw [fV,findD_ok];simp [bQ]
 |x::r=>by
  rw [fV,aH,show x.Name::r.map Pm.Name=[x.Name]++r.map Pm.Name from rfl,zBl,zNa]
  by_cases h:x.Name=s
  ·simp [h]
  ·simp [h,findP_ok s ds r]
def outsM_R {m:Kn} {n:En} (h:Rel m n.sz (n.pm.map Pm.Name++n.df.map Df.Name)):∀(l:List nn) (i:Int) (seen:List nn),pO m i seen l=pN n i seen l
 |[],i,seen=>rfl
 |s::r,i,seen=>by
  rw [pO,pN,outsM_R h r]
  have e:gT m s=2↔(n.find s).ok=true:=by
   rw [h.two s,En.find,findP_ok,zBl]
  by_cases h2:gT m s=2
  ·rw [ab h2,ab (e.1 h2)]
  ·rw [aa h2,aa (fun k=>h2 (e.2 k))]
def defsM_R (p:Pg):∀(l:List Df) (i:Int) (m:Kn) (before:List Df),p.Defs=before++l->Rel m p.Sizes (p.Params.map Pm.Name++before.map Df.Name)->
  pP p i m before l=mZ p i (p.Sizes++(p.Params.map Pm.Name++before.map Df.Name)) before l
 |[],i,m,before,hp,h=>by
  rw [lAn] at hp
  subst hp
  rw [pP,mZ]
  exact outsM_R (n:=p.en) h _ _ _
 |d::r,i,m,before,hp,h=>by
  rw [pP,mZ,defM_R (n:=⟨p.Sizes,p.Params,before⟩) h]
  by_cases h1:nB ⟨p.Sizes,p.Params,before⟩ d (p.Sizes++(p.Params.map Pm.Name++before.map Df.Name))=0
  ·rw [ab h1,ab h1]
   have h2:pT m ⟨p.Sizes,p.Params,before⟩ d=0:=by rw [defM_R (n:=⟨p.Sizes,p.Params,before⟩) h];exact h1
   have h3:=h.tensor (zIx (defM_name h2))
   have e:p.Params.map Pm.Name++before.map Df.Name++[d.Name]=p.Params.map Pm.Name++(before++[d]).map Df.Name:=by simp
   rw [e] at h3
   rw [defsM_R p r (i+1) _ (before++[d]) (by rw [hp];simp) h3,←e,←lAa p.Sizes]
  ·rw [aa h1,aa h1]
def paramsM_R (p:Pg):∀(l:List Pm) (i:Int) (m:Kn) (before:List Pm),p.Params=before++l->Rel m p.Sizes (before.map Pm.Name)->
  jS p i m l=fU p i (p.Sizes++before.map Pm.Name) l
 |[],i,m,before,hp,h=>by
  rw [lAn] at hp
  subst hp
  rw [jS,fU]
  have:=defsM_R p p.Defs i m [] rfl (by simpa using h)
  simpa using this
 |x::r,i,m,before,hp,h=>by
  rw [jS,fU,paramM_R h]
  by_cases h1:jH x p.Sizes (p.Sizes++before.map Pm.Name)=0
  ·rw [ab h1,ab h1]
   have h2:jP m x=0:=by rw [paramM_R h];exact h1
   have h3:=h.tensor (zIx (zVv h2))
   have e:before.map Pm.Name++[x.Name]=(before++[x]).map Pm.Name:=by simp
   rw [e] at h3
   rw [paramsM_R p r (i+1) _ (before++[x]) (by rw [hp];simp) h3,←e,lAa]
  ·rw [aa h1,aa h1]
def zFm (p:Pg):bK p=lG p:=by
 unfold bK lG
 by_cases h:dK p
 ·rw [ab h,ab h]
  obtain ⟨h1,h2⟩:=sizesM_R p.Sizes [] [] Rel.nil
  rw [←h1]
  by_cases c:jC [] p.Sizes=0
  ·rw [ab c,ab c]
   have h3:=h2 c
   rw [lNa] at h3
   rw [whereM_R h3]
   have h4:=paramsM_R p p.Params 2 (xL [] p.Sizes) [] rfl (by simpa using h3)
   rw [bp,lAn] at h4
   rw [h4]
  ·rw [aa c,aa c]
 ·rw [aa h,aa h]
def kn_next {z v:List nn} {l:List Mono} {x:Mono} (h:l[k]? =some x) (hp:knL (knB z v) (l.take k)=true) (c:(!bQ v x.Name&& !bQ z x.Name)=false):knL (knB z v) (l.take (k+1))=true:=by
 unfold knL at *
 rw [yA h,ce,hp]
 simp only [bi,e8,ck,aQ,knB]
 revert c;cases bQ v x.Name<;>cases bQ z x.Name<;>simp
def kn_no {z v:List nn} {l:List Mono} {x:Mono} (h:l[k]? =some x) (c:(!bQ v x.Name&& !bQ z x.Name)=true):knL (knB z v) l=false:=by
 unfold knL
 rw [fj]
 refine ⟨x,qD h,?_⟩
 unfold knB
 revert c;cases bQ v x.Name<;>cases bQ z x.Name<;>simp
def lL:List (List Ax)->Nat
 |[]=>0
 |l::r=>l.length+lL r
def zNx:∀(a b:List (List Ax)),lL (a++b)=lL a+lL b
 |[],b=>by simp [lL]
 |l::r,b=>by simp [lL,zNx r b];omega
def totL_flat:∀(a:List (List Ax)),lL a=a.flatten.length
 |[]=>rfl
 |l::r=>by simp [lL,totL_flat r]
variable {ls:List (List Ax)}
def tot_next {x:List Ax} (h:ls[k]? =some x):lL (ls.take (k+1))=lL (ls.take k)+x.length:=by
 rw [yA h,zNx];simp [lL]
def tot_le (ls:List (List Ax)) (k:Nat):lL (ls.take k)<=lL ls:=by
 have:lL ls=lL (ls.take k)+lL (ls.drop k):=by rw [←zNx,aZ]
 omega
def tot_get {x:List Ax} (h:ls[k]? =some x):lL (ls.take k)+x.length<=lL ls:=by
 rw [←tot_next h];exact tot_le _ _
def tot_flat {x:List Ax} (h:ls[k]? =some x):(ls.take k).flatten.length+x.length<=lL ls:=by
 rw [←totL_flat];exact tot_get h
structure Pg.Ok (p:Pg):Prop where
 sizes:p.Sizes.length<=4294967296
 wh:p.Where.length<=4294967296
 params:p.Params.length<=4294967296
 defs:p.Defs.length<=4294967296
 outs:p.Outs.length<=4294967296
 whs:∀c,c∈p.Where->c.Lin.L.length<=5864062014805
 ps:∀x,x∈p.Params->x.Dims.length<=4294967296/\∀l,l∈x.Dims->l.L.length<=5864062014805
 ds:∀d,d∈p.Defs->d.Dims.length<=1073741824/\d.Red.length<=1073741824/\(∀a,a∈d.Dims->a.Size.L.length<=5864062014805)/\(∀a,a∈d.Red->a.Size.L.length<=5864062014805)/\d.Body.wt<=4294967296
def Pg.Ok.take {p:Pg} (h:p.Ok) (k:Nat):Pg.Ok ⟨p.Sizes,p.Where,p.Params,p.Defs.take k,p.Outs⟩:=
 ⟨h.sizes,h.wh,h.params,by have:=h.defs;simp only [aq];omega,h.outs,h.whs,h.ps,fun d hd=>h.ds d (ez hd)⟩
def names_rows (d:Df):(d.Dims++d.Red).map (fun a=>[cS a.Name])=(bD d).map fun s=>[cS s]:=by
 simp [bD,ah,fq,mu]
def limit_eq (p:Pg):(decide (max (max (max (p.Sizes.length:Int) p.Params.length) p.Defs.length) p.Outs.length<=64)&&decide ((p.Where.length:Int)<=256))=decide (dK p):=by
 unfold dK
 by_cases h:p.Sizes.length<=64/\p.Params.length<=64/\p.Defs.length<=64/\p.Outs.length<=64/\p.Where.length<=256
 ·rw [al h,ae]
  exact ⟨al zB,al zB⟩
 ·rw [am h,cm]
  by_cases h2:p.Where.length<=256
  ·exact .inl (am zB)
  ·exact .inr (am zB)
def zSa {x:α} (h:l[k]? =some x):k+1<=l.length:=(af.1 h).1
def vF (l:List Int) (k:Nat):Int:=(l.take k).foldl max (l.headD 0)
def maxT_next {l:List Int} {x:Int} (h:l[k]? =some x):max (vF l k) x=vF l (k+1):=by
 unfold vF;rw [yA h,d7];rfl
def maxT_one {l:List Int} {x:Int} (h:l[0]? =some x):x=vF l 1:=by
 cases l with
 |nil=>simp at h
 |cons a r=>simp at h;subst h;simp [vF]
def nR (t:Ty) (l:List Int):Int:=if dJ t=true then (if 6<vF l l.length then 11 else 0) else 10
def tyErr_no {t:Ty} (h:¬bX t=0):dJ t=false:=by
 cases c:dJ t
 ·rfl
 ·exact absurd (by simp [bX,c]) h
def tyErr_yes {t:Ty} (h:bX t=0):dJ t=true:=by
 cases c:dJ t
 ·simp [bX,c] at h
 ·rfl
def decl_one (t:Ty) (n:Nat):nR t [(n:Int)]=if dJ t=true then (if 6<n then 11 else 0) else 10:=by
 unfold nR vF
 by_cases h:dJ t=true
 ·simp only [ab h];by_cases h2:6<n
  ·rw [ab h2,ab uD]
  ·rw [aa h2,aa uD]
 ·simp only [aa h]
def decl_two (t:Ty) (n m:Nat):nR t [(n:Int),(m:Int)]=if dJ t=true then (if 6<n∨6<m then 11 else 0) else 10:=by
 unfold nR vF
 by_cases h:dJ t=true
 ·simp only [ab h];by_cases h2:6<n∨6<m
  ·rw [ab h2,ab uD]
  ·rw [aa h2,aa uD]
 ·simp only [aa h]
end Go.Br
end
section
namespace Go.Br
open Go Go.Eng Go.L41
abbrev vP (b:Nat):V:=.c (.lit (.pointer (some ⟨b,0,none⟩)))
def jD (m:Kn) (s:nn) (k:Int):Kn:=if fL m s=0 then fJ m s k else m
variable {m:Kn} {s:nn}
def nameM_bad (h:bB s=false):fL m s=7:=by unfold fL;rw [h];rfl
def nameM_dup (h:bB s=true) (h2:¬gT m s=0):fL m s=8:=by unfold fL;rw [h,ab rfl,aa h2]
def nameM_ok (h:bB s=true) (h2:gT m s=0):fL m s=0:=by unfold fL;rw [h,ab rfl,ab h2]
def nmap_bad {k n:Int} (h:fL m s=n) (hn:n≠0):m=jD m s k:=by unfold jD;rw [aa (by rw [h];exact hn)]
def zRr {k:Int} (h:fL m s=0):jD m s k=fJ m s k:=by unfold jD;rw [ab h]
def zWs {l:Lf} (h:¬dH l=0):bG l=false:=by
 cases c:bG l
 ·rfl
 ·exact absurd (by simp [dH,c]) h
def zFh {l:Lf} (h:dH l=0):bG l=true:=by
 cases c:bG l
 ·simp [dH,c] at h
 ·rfl
variable {k:Nat}
def knF_next {f:nn->Bool} {l:List Mono} {x:Mono} (h:l[k]? =some x) (hp:knL f (l.take k)=true) (c:f x.Name=true):knL f (l.take (k+1))=true:=by
 unfold knL at *
 rw [yA h,ce,hp]
 simp [c]
def knF_no {f:nn->Bool} {l:List Mono} {x:Mono} (h:l[k]? =some x) (c:f x.Name=false):knL f l=false:=by
 unfold knL
 rw [fj]
 exact ⟨x,qD h,by simp [c]⟩
def sized_arg {l:Lf} (h:bG l=false):fW m l=1:=by unfold fW;rw [aa (by rw [h];simp)]
def sized_nf {l:Lf} (h:bG l=true) (h2:knL (fun s=>decide (gT m s=1)) l.L=false):fW m l=9:=by unfold fW;rw [ab h,aa (by rw [h2];simp)]
def sized_ok {l:Lf} (h:bG l=true) (h2:knL (fun s=>decide (gT m s=1)) l.L=true):fW m l=0:=by unfold fW;rw [ab h,ab h2]
variable {l:List Lf}
def sizeds_at {x:Lf} (h:l[k]? =some x) (hs:fW m x=0):lF m (l.drop k)=lF m (l.drop (k+1)):=by rw [qJ h,lF,ab hs]
def sizeds_no {x:Lf} (h:l[k]? =some x) (hs:¬fW m x=0):lF m (l.drop k)=fW m x:=by rw [qJ h,lF,aa hs]
def zAa {α:Type} {l:List α} (h:¬k<l.length):l.drop k=[]:=ci zB
def cH:List Ax->List (nn×Bool)
 |l=>l.foldl (fun m a=>fJ m a.Name true) []
variable {x:Ax}
def ownT_next {l:List Ax} (h:l[k]? =some x):cH (l.take (k+1))=fJ (cH (l.take k)) x.Name true:=by
 unfold cH;rw [yA h,d7];rfl
def mget_mputB (m:List (nn×Bool)) (k s:nn) (a:Bool):fQ (fJ m k a) s=if k=s then some a else fQ m s:=by
 induction m with
 |nil=>simp [fJ,fQ]
 |cons x r ih=>
  exact v47
def own_fold (s:nn):∀(l:List Ax) (m:List (nn×Bool)),(fQ (l.foldl (fun m a=>fJ m a.Name true) m) s).getD false=(bQ (l.map Ax.Name) s||(fQ m s).getD false)
 |[],m=>by simp [bQ]
 |a::r,m=>by
  rw [cv,own_fold s r,mget_mputB]
  by_cases h:a.Name=s
  ·simp [bQ,h]
  ·simp [bQ,h]
def own_get (s:nn) (l:List Ax):(fQ (cH l) s).getD false=bQ (l.map Ax.Name) s:=by
 unfold cH;rw [own_fold];simp [fQ]
def axes_at {l:List Ax} {own:List nn} (h:l[k]? =some x) (h1:bB x.Name=true) (h2:¬(bQ own x.Name=true∨gT m x.Name=1)) (h3:fW m x.Size=0):lY m own (l.drop k)=lY m (own++[x.Name]) (l.drop (k+1)):=by
 rw [qJ h,lY,ab h1,aa h2,ab h3]
def axes_7 {l:List Ax} {own:List nn} (h:l[k]? =some x) (h1:bB x.Name=false):lY m own (l.drop k)=7:=by
 rw [qJ h,lY,aa (by rw [h1];simp)]
def axes_8 {l:List Ax} {own:List nn} (h:l[k]? =some x) (h1:bB x.Name=true) (h2:bQ own x.Name=true∨gT m x.Name=1):lY m own (l.drop k)=8:=by
 rw [qJ h,lY,ab h1,ab h2]
def axes_s {l:List Ax} {own:List nn} (h:l[k]? =some x) (h1:bB x.Name=true) (h2:¬(bQ own x.Name=true∨gT m x.Name=1)) (h3:¬fW m x.Size=0):lY m own (l.drop k)=fW m x.Size:=by
 rw [qJ h,lY,ab h1,aa h2,aa h3]
/-! ## Find -/
def find_at {ds:List Df} {l:List Pm} {x:Pm} (h:l[k]? =some x) (hx:x.Name=s):fV s ds (l.drop k)=⟨x.T,x.Dims,true⟩:=by rw [qJ h,fV,al hx];rfl
def zXa {ds:List Df} {l:List Pm} {x:Pm} (h:l[k]? =some x) (hx:¬x.Name=s):fV s ds (l.drop k)=fV s ds (l.drop (k+1)):=by rw [qJ h,fV,am hx];rfl
def find_def (s:nn):∀l:List Df,(0<=pC s l->∃d,l[(pC s l).toNat]? =some d/\dY s l=⟨d.T,d.Dims.map Ax.Size,true⟩)/\(pC s l<0->dY s l=⟨zTy,[],false⟩)
 |[]=>⟨fun h=>by simp [pC,dT] at h,fun _=>rfl⟩
 |d::r=>by
  obtain ⟨h1,h2⟩:=find_def s r
  have hge:=idxOf_ge (fun d:Df=>decide (d.Name=s)) r
  unfold pC at *
  unfold dT dY
  by_cases h:d.Name=s
  ·simp only [al h,aD]
   exact ⟨fun _=>⟨d,uF,rfl⟩,fun h=>by omega⟩
  ·simp only [am h,av]
   by_cases h3:dT (fun d:Df=>decide (d.Name=s)) r= -1
   ·simp only [al h3,aD]
    exact ⟨fun h=>by omega,fun _=>h2 zB⟩
   ·simp only [am h3,av]
    refine ⟨fun _=>?_,fun h=>by omega⟩
    obtain ⟨x,hx,hf⟩:=h1 zB
    exact ⟨x,by rw [show (dT (fun d:Df=>decide (d.Name=s)) r+1).toNat=(dT (fun d:Df=>decide (d.Name=s)) r).toNat+1 by omega];simpa using hx,hf⟩
/-! ## The typer -/
def kn (m:Kn) (s:nn):Bool:= !decide (gT m s=0)
def kn_t (h:¬gT m s=0):kn m s=true:=by unfold kn;rw [am h];rfl
def kn_f (h:gT m s=0):kn m s=false:=by unfold kn;rw [al h];rfl
def zUd {k:nn->Bool} {l:Lf} (h:knL k l.L=true):mY k l=0:=by unfold mY;rw [h];rfl
def zNc {k:nn->Bool} {l:Lf} (h:knL k l.L=false):mY k l=9:=by unfold mY;rw [h];rfl
variable {j:Nat}
def formsK_no {k:nn->Bool} {x:Lf} (h:l[j]? =some x) (hx:¬mY k x=0):lU k l=mY k x:=by
 have h1:knL k x.L=false:=by
  cases c:knL k x.L
  ·rfl
  ·exact absurd (zUd c) hx
 unfold lU
 rw [show l.all (fun x=>knL k x.L)=false from fj.2 ⟨x,qD h,by simp [h1]⟩,zNc h1];rfl
def zWy {k:nn->Bool} {x:Lf} (h:l[j]? =some x) (hp:(l.take j).all (fun x=>knL k x.L)=true) (hx:mY k x=0):(l.take (j+1)).all (fun x=>knL k x.L)=true:=by
 have h1:knL k x.L=true:=by
  cases c:knL k x.L
  ·rw [zNc c] at hx;cases hx
  ·rfl
 rw [yA h,ce,hp];simp [h1]
def formsK_ok {k:nn->Bool} (hp:l.all (fun x=>knL k x.L)=true):lU k l=0:=by unfold lU;rw [hp];rfl
def zOi {n:En} {k:nn->Bool} {l:List Ix} {x:Ix} (h:l[j]? =some x) (hx:dI n k x=0):fK n k (l.drop j)=fK n k (l.drop (j+1)):=by rw [qJ h,fK,al hx];rfl
def zWu {n:En} {k:nn->Bool} {l:List Ix} {x:Ix} (h:l[j]? =some x) (hx:¬dI n k x=0):fK n k (l.drop j)=dI n k x:=by rw [qJ h,fK,am hx];rfl
def tyC (t:Ty):List C:=[cI t.Kind,cI t.Bits,cI t.Frac,cI t.Round,cI t.Over]
def tyC_eq (a b:Ty):dN [cI a.Kind,cI a.Bits,cI a.Frac,cI a.Round,cI a.Over] [cI b.Kind,cI b.Bits,cI b.Frac,cI b.Round,cI b.Over]=decide (a=b):=by
 obtain ⟨a1,a2,a3,a4,a5⟩:=a
 obtain ⟨b1,b2,b3,b4,b5⟩:=b
 simp only [dN,cEq,Ty.mk.injEq,ck,Bool.decide_and]
def zLt (N:Ex->List Ty->Ty×Int):∀(a b:List Ex),(bJ N a).2=0->bJ N (a++b)=if (bJ N b).2=0 then ((bJ N a).1++(bJ N b).1,0) else ([],(bJ N b).2)
 |[],b,_=>by
  simp only [lNa,bJ,lNa]
  cases b with
  |nil=>simp [bJ]
  |cons x r=>
   simp only [bJ]
   by_cases h1:(bR N x).2=0
   ·by_cases h2:(bJ N r).2=0
    ·simp [h1,h2]
    ·simp [h1,h2]
   ·simp [h1]
 |x::r,b,h=>by
  rw [bJ] at h
  by_cases h1:(bR N x).2=0
  ·rw [ab h1] at h
   by_cases h2:(bJ N r).2=0
   ·rw [lCa,bJ,ab h1,zLt N r b h2]
    rw [bJ,ab h1,ab h2]
    by_cases h3:(bJ N b).2=0
    ·simp [h3]
    ·simp [h3]
   ·rw [aa h2] at h;exact absurd h h2
  ·rw [aa h1] at h;exact absurd h h1
def zGs {N:Ex->List Ty->Ty×Int} {l:List Ex} {x:Ex} (h:l[k]? =some x) (hp:(bJ N (l.take k)).2=0) (hx:(bR N x).2=0):bJ N (l.take (k+1))=((bJ N (l.take k)).1++[(bR N x).1],0):=by
 rw [yA h,zLt N _ _ hp];simp [bJ,hx]
def nodeL_no {N:Ex->List Ty->Ty×Int} {l:List Ex} {x:Ex} (h:l[k]? =some x) (hp:(bJ N (l.take k)).2=0) (hx:¬(bR N x).2=0):(bJ N l).2=(bR N x).2:=by
 have e:l=l.take k++(x::l.drop (k+1)):=by rw [←qJ h,aZ]
 rw [e,zLt N _ _ hp]
 simp [bJ,hx]
def zHf (N:Ex->List Ty->Ty×Int):∀l:List Ex,(bJ N l).2=0->(bJ N l).1.length=l.length
 |[],_=>rfl
 |x::r,h=>by
  rw [bJ] at h⊢
  by_cases h1:(bR N x).2=0
  ·rw [ab h1] at h⊢
   by_cases h2:(bJ N r).2=0
   ·rw [ab h2];simp [zHf N r h2]
   ·rw [aa h2] at h;exact absurd h h2
  ·rw [aa h1] at h;exact absurd h h1
def jG (m:Kn) (l:List nn) (a:Int):Kn:=l.foldl (fun m s=>fJ m s a) m
def zOx {l:List nn} {a:Int} {x:nn} (h:l[k]? =some x):jG m (l.take (k+1)) a=fJ (jG m (l.take k) a) x a:=by
 unfold jG;rw [yA h,d7];rfl
def tabV_get (a:Int) (s:nn):∀(l:List nn) (m:Kn),gT (jG m l a) s=if bQ l s=true then a else gT m s
 |[],m=>by simp [jG,bQ]
 |x::r,m=>by
  unfold jG
  rw [cv]
  have:=tabV_get a s r (fJ m x a)
  unfold jG at this
  rw [this,zHo]
  have hc:bQ (x::r) s=(decide (x=s)||bQ r s):=rfl
  rw [hc]
  by_cases h:x=s
  ·simp only [h,ic,jg,Bool.true_or];split<;>rfl
  ·simp only [h,gj,ld,dk]
def kn_tab (sz vars:List nn):kn (jG (jG [] sz 1) vars 3)=knB sz vars:=by
 funext s
 unfold kn knB
 rw [tabV_get,tabV_get]
 cases h1:bQ vars s<;>cases h2:bQ sz s<;>simp [gT,fQ]
end Go.Br
namespace Go.Br
open Go Go.Eng Go.L41
variable {m:Kn}
def param_ok {x:Pm} (c1:fL m x.Name=0) (c2:nR x.T [(x.Dims.length:Int)]=0):jP m x=lF (jD m x.Name 2) x.Dims:=by
 unfold jP
 rw [decl_one] at c2
 rw [ab c1,zRr c1]
 split at c2
 ·rename_i ht
  rw [ab ht]
  split at c2
  ·cases c2
  ·rename_i h6;rw [aa h6]
 ·cases c2
def param_bad {x:Pm} (c1:fL m x.Name=0) (c2:¬nR x.T [(x.Dims.length:Int)]=0):jP m x=nR x.T [(x.Dims.length:Int)]:=by
 unfold jP
 rw [decl_one] at c2⊢
 rw [ab c1]
 split at c2
 ·rename_i ht
  rw [ab ht,ab ht]
  split at c2
  ·rename_i h6;rw [ab h6,ab h6]
  ·exact absurd rfl c2
 ·rename_i ht;rw [aa ht,aa ht]
def ax_yes {own:List (nn×Bool)} {s:nn} {l:List nn} (h:(fQ own s).getD false=bQ l s) (c:((fQ own s).getD false||decide (gT m s=1))=true):bQ l s=true∨gT m s=1:=by
 rw [h,aE,aj] at c
 exact c
def ax_no {own:List (nn×Bool)} {s:nn} {l:List nn} (h:(fQ own s).getD false=bQ l s) (c:((fQ own s).getD false||decide (gT m s=1))=false):¬(bQ l s=true∨gT m s=1):=by
 rw [h,aC,aw] at c
 rintro (k|k)
 ·rw [c.1] at k;cases k
 ·exact c.2 k
end Go.Br
end
section
namespace Go.Br
open Go Go.Eng Go.L41
variable {e:Ex}
def nodeT_no {N:Ex->List Ty->Ty×Int} {x:Ex} {k:Nat} (h:e.Args[k]? =some x) (hp:(bJ N (e.Args.take k)).2=0) (hx:¬(bR N x).2=0):bR N e=(zTy,(bR N x).2):=by
 have h1:=nodeL_no h hp hx
 rw [zMy N e,h1,aa hx]
def nodeT_ok {N:Ex->List Ty->Ty×Int} {k:Nat} (h:e.Args.take k=e.Args) (hp:(bJ N (e.Args.take k)).2=0):bR N e=N e (bJ N (e.Args.take k)).1:=by
 rw [h] at hp⊢
 rw [zMy N e,ab hp]
variable {k:nn->Bool} {n:En}
def readK_9 (h:(n.find e.Name).ok=false):jT n k e=(zTy,9):=by unfold jT;rw [h];rfl
def readK_11 (h:(n.find e.Name).ok=true) (h2:¬e.Idx.length=(n.find e.Name).dims.length):jT n k e=(zTy,11):=by unfold jT;rw [h,am h2];rfl
def readK_x (h:(n.find e.Name).ok=true) (h2:e.Idx.length=(n.find e.Name).dims.length) (h3:¬fK n k e.Idx=0):jT n k e=(zTy,fK n k e.Idx):=by unfold jT;rw [h,al h2,am h3];rfl
def readK_0 (h:(n.find e.Name).ok=true) (h2:e.Idx.length=(n.find e.Name).dims.length) (h3:fK n k e.Idx=0):jT n k e=((n.find e.Name).ty,0):=by unfold jT;rw [h,al h2,al h3];rfl
def unlike_0 {a b:Ty} (h:a=b):lH a b=0:=by unfold lH;rw [al h];rfl
def unlike_10 {a b:Ty} (h:¬a=b):lH a b=10:=by unfold lH;rw [am h];rfl
def zEl {a b:Ty} (h:(!dN [cI a.Kind,cI a.Bits,cI a.Frac,cI a.Round,cI a.Over] [cI b.Kind,cI b.Bits,cI b.Frac,cI b.Round,cI b.Over])=true):¬a=b:=by
 rw [tyC_eq] at h;simpa using h
def zDy {a b:Ty} (h:(!dN [cI a.Kind,cI a.Bits,cI a.Frac,cI a.Round,cI a.Over] [cI b.Kind,cI b.Bits,cI b.Frac,cI b.Round,cI b.Over])=false):a=b:=by
 rw [tyC_eq] at h;simpa using h
def zTs {l:List Ty} {i:Nat} (h:i<l.length):(l.map tyC)[i]? =some (tyC (dP l i)):=by
 rw [cb,ak h]
 simp [dP,List.getD,ak h]
def zRo {l:List Ty} (h:e.Op=1∨e.Op=12):ofN n k e l=(e.Ty,0):=by unfold ofN;rw [ab h]
def zRn {l:List Ty} (h:e.Op=2):ofN n k e l=(iTy,mY k e.Lin):=by unfold ofN;rw [aa zB,ab h]
def zPl {l:List Ty} (h:e.Op=3):ofN n k e l=jT n k e:=by unfold ofN;rw [aa zB,aa zB,ab h]
def zRm {l:List Ty} (h:e.Op=8):ofN n k e l=(dP l 0,0):=by unfold ofN;rw [aa zB,aa zB,aa zB,ab h]
def zIw {l:List Ty} (h:e.Op=11):ofN n k e l=(dP l 1,lH (dP l 1) (dP l 2)):=by unfold ofN;rw [aa zB,aa zB,aa zB,aa zB,ab h]
def zIu {l:List Ty} (h:e.Op=16∨e.Op=17∨e.Op=18):ofN n k e l=(zTy,0):=by unfold ofN;rw [aa zB,aa zB,aa zB,aa zB,aa zB,ab h]
def zIv {l:List Ty} (h:e.Op=13∨e.Op=14∨e.Op=15):ofN n k e l=(zTy,lH (dP l 0) (dP l 1)):=by unfold ofN;rw [aa zB,aa zB,aa zB,aa zB,aa zB,aa zB,ab h]
def zRl {l:List Ty} (h:¬(e.Op=1∨e.Op=12∨e.Op=2∨e.Op=3∨e.Op=8∨e.Op=11∨e.Op=16∨e.Op=17∨e.Op=18∨e.Op=13∨e.Op=14∨e.Op=15)):ofN n k e l=(dP l 0,lH (dP l 0) (dP l 1)):=by unfold ofN;rw [aa zB,aa zB,aa zB,aa zB,aa zB,aa zB,aa zB]
def rank_len (h:gF e=0):(e.Args.length:Int)=bT e.Op:=by
 have h1:=(zPn (zRk h)).2.2.1
 unfold pV at h1
 simp only [ae,az,aC,eu,aj] at h1
 exact h1.1.1
def zUp (h:gF e=0) (ho:¬(e.Op=1∨e.Op=2∨e.Op=3)):1<=e.Args.length:=by
 have:=rank_len h;unfold bT at this;rw [aa ho] at this;split at this
 ·omega
 ·split at this<;>omega
def zDb (h:gF e=0) (ho:¬(e.Op=1∨e.Op=2∨e.Op=3∨e.Op=8∨e.Op=12∨e.Op=18)):2<=e.Args.length:=by
 have:=rank_len h;unfold bT at this;rw [aa zB,aa zB] at this;split at this<;>omega
def args_len3 (h:gF e=0) (ho:e.Op=11):3<=e.Args.length:=by
 have:=rank_len h;unfold bT at this;rw [aa zB,aa zB,ab ho] at this;omega
variable {vars:List nn}
def typeT_of (hk:k=knB n.sz vars) (h1:dO e=0) (h2:fS e=false):gX n vars e=if (bR (ofN n k) e).2=0 then ((bR (ofN n k) e).1,0) else (zTy,(bR (ofN n k) e).2):=by
 subst hk;unfold gX nT;rw [ab h1,aa (by rw [h2];simp)]
def typeT_bad (h1:¬dO e=0):gX n vars e=(zTy,dO e):=by unfold gX nT;rw [aa h1]
def typeT_cond (h1:dO e=0) (h2:fS e=true):gX n vars e=(zTy,10):=by unfold gX nT;rw [ab h1,ab h2]
/-! ## The program's Validate -/
def tabS_V:∀(l:List nn) (m:Kn),xL m l=jG m l 1
 |[],m=>rfl
 |s::r,m=>tabS_V r _
variable {l:List nn} {m:Kn} {x:nn}
def sizesM_next {k:Nat} (h:l[k]? =some x) (hx:fL m x=0):jC m (l.drop k)=jC (fJ m x 1) (l.drop (k+1)):=by rw [qJ h,jC,ab hx]
def sizesM_no {k:Nat} (h:l[k]? =some x) (hx:¬fL m x=0):jC m (l.drop k)=fL m x:=by rw [qJ h,jC,aa hx]
def whereM_next {l:List Cn} {k:Nat} {x:Cn} (h:l[k]? =some x) (hx:fW m x.Lin=0):jV m (l.drop k)=jV m (l.drop (k+1)):=by rw [qJ h,jV,ab hx]
def whereM_no {l:List Cn} {k:Nat} {x:Cn} (h:l[k]? =some x) (hx:¬fW m x.Lin=0):jV m (l.drop k)=fW m x.Lin:=by rw [qJ h,jV,aa hx]
variable {p:Pg} {i:Int}
def paramsM_next {l:List Pm} {k:Nat} {x:Pm} (h:l[k]? =some x) (hx:jP m x=0):jS p i m (l.drop k)=jS p (i+1) (fJ m x.Name 2) (l.drop (k+1)):=by rw [qJ h,jS,ab hx]
def paramsM_no {l:List Pm} {k:Nat} {x:Pm} (h:l[k]? =some x) (hx:¬jP m x=0):jS p i m (l.drop k)=(i,jP m x):=by rw [qJ h,jS,aa hx]
def defsM_next {l:List Df} {k:Nat} {x:Df} (h:l[k]? =some x) (hx:pT m ⟨p.Sizes,p.Params,l.take k⟩ x=0):pP p i m (l.take k) (l.drop k)=pP p (i+1) (fJ m x.Name 2) (l.take (k+1)) (l.drop (k+1)):=by rw [qJ h,pP,ab hx,yA h]
def defsM_no {l:List Df} {k:Nat} {x:Df} (h:l[k]? =some x) (hx:¬pT m ⟨p.Sizes,p.Params,l.take k⟩ x=0):pP p i m (l.take k) (l.drop k)=(i,pT m ⟨p.Sizes,p.Params,l.take k⟩ x):=by rw [qJ h,pP,aa hx]
def outsM_next {k:Nat} (h:l[k]? =some x) (h1:gT m x=2) (h2:bQ (l.take k) x=false):pO m i (l.take k) (l.drop k)=pO m (i+1) (l.take (k+1)) (l.drop (k+1)):=by rw [qJ h,pO,ab h1,aa (by rw [h2];simp),yA h]
def outsM_8 {k:Nat} (h:l[k]? =some x) (h1:gT m x=2) (h2:bQ (l.take k) x=true):pO m i (l.take k) (l.drop k)=(i,8):=by rw [qJ h,pO,ab h1,ab h2]
def outsM_9 {k:Nat} (h:l[k]? =some x) (h1:¬gT m x=2):pO m i (l.take k) (l.drop k)=(i,9):=by rw [qJ h,pO,aa h1]
def sP (m:Kn) (l:List Pm):Kn:=l.foldl (fun m x=>fJ m x.Name 2) m
def tabP_next {l:List Pm} {k:Nat} {x:Pm} (h:l[k]? =some x):sP m (l.take (k+1))=fJ (sP m (l.take k)) x.Name 2:=by
 unfold sP;rw [yA h,d7];rfl
def xM (m:Kn) (l:List Df):Kn:=l.foldl (fun m x=>fJ m x.Name 2) m
def tabD_next {l:List Df} {k:Nat} {x:Df} (h:l[k]? =some x):xM m (l.take (k+1))=fJ (xM m (l.take k)) x.Name 2:=by
 unfold xM;rw [yA h,d7];rfl
def param_map {x:Pm} {k:Int} (h:jP m x=0):jD m x.Name k=fJ m x.Name k:=zRr (zVv h)
def def_map {x:Df} {k:Int} (h:pT m n x=0):jD m x.Name k=fJ m x.Name k:=zRr (defM_name h)
def validM_2 (h:¬dK p):bK p=(0,2):=by unfold bK;rw [aa h]
def validM_s (h:dK p) (h2:¬jC [] p.Sizes=0):bK p=(0,jC [] p.Sizes):=by unfold bK;rw [ab h,aa h2]
def validM_w (h:dK p) (h2:jC [] p.Sizes=0) (h3:¬jV (jG [] p.Sizes 1) p.Where=0):bK p=(1,jV (jG [] p.Sizes 1) p.Where):=by
 unfold bK;rw [←tabS_V] at h3⊢;rw [ab h,ab h2,aa h3]
def validM_p (h:dK p) (h2:jC [] p.Sizes=0) (h3:jV (jG [] p.Sizes 1) p.Where=0):bK p=jS p 2 (jG [] p.Sizes 1) p.Params:=by
 unfold bK;rw [←tabS_V] at h3⊢;rw [ab h,ab h2,ab h3]
variable {d:Df}
/-! ## A definition -/
def def_1 (h:¬fL m d.Name=0):pT m n d=fL m d.Name:=by unfold pT;rw [aa h]
def def_2 (h:fL m d.Name=0) (h2:¬nR d.T [(d.Dims.length:Int),(d.Red.length:Int)]=0):pT m n d=nR d.T [(d.Dims.length:Int),(d.Red.length:Int)]:=by
 unfold pT
 rw [decl_two] at h2⊢
 rw [ab h]
 split at h2
 ·rename_i ht
  rw [ab ht,ab ht]
  split at h2
  ·rename_i h6;rw [ab h6,ab h6]
  ·exact absurd rfl h2
 ·rename_i ht;rw [aa ht,aa ht]
def def_ok (h:fL m d.Name=0) (h2:nR d.T [(d.Dims.length:Int),(d.Red.length:Int)]=0):pT m n d=(if lY (jD m d.Name 2) [] (d.Dims++d.Red)=0 then (if gO d=0 then rO (gX n (bD d) d.Body) d else gO d) else lY (jD m d.Name 2) [] (d.Dims++d.Red)):=by
 unfold pT
 rw [decl_two] at h2
 rw [ab h,zRr h]
 split at h2
 ·rename_i ht
  rw [ab ht]
  split at h2
  ·cases h2
  ·rename_i h6;rw [aa h6]
 ·cases h2
variable {t:List nn} {s:nn}
/-! ## The reference's Validate -/
def nameR_7 (h:bB s=false):dE s t=7:=by unfold dE;rw [aa (by rw [h];simp)]
def nameR_8 (h:bB s=true) (h2:bQ t s=true):dE s t=8:=by unfold dE;rw [ab h,ab h2]
def nameR_0 (h:bB s=true) (h2:bQ t s=false):dE s t=0:=by unfold dE;rw [ab h,aa (by rw [h2];simp)]
def knB_nil (sz:List nn):knB sz []=bQ sz:=by funext s;simp [knB,bQ]
variable {sz:List nn}
def formR_1 {l:Lf} (h:bG l=false):jA l sz=1:=by unfold jA;rw [aa (by rw [h];simp)]
def formR_9 {l:Lf} (h:bG l=true) (h2:knL (knB sz []) l.L=false):jA l sz=9:=by rw [knB_nil] at h2;unfold jA;rw [ab h,aa (by rw [h2];simp)]
def formR_0 {l:Lf} (h:bG l=true) (h2:knL (knB sz []) l.L=true):jA l sz=0:=by rw [knB_nil] at h2;unfold jA;rw [ab h,ab h2]
def formsR_next {l:List Lf} {k:Nat} {x:Lf} (h:l[k]? =some x) (hx:jA x sz=0):mT sz (l.drop k)=mT sz (l.drop (k+1)):=by rw [qJ h,mT,ab hx]
def formsR_no {l:List Lf} {k:Nat} {x:Lf} (h:l[k]? =some x) (hx:¬jA x sz=0):mT sz (l.drop k)=jA x sz:=by rw [qJ h,mT,aa hx]
def paramR_1 {x:Pm} (h:¬dE x.Name t=0):jH x sz t=dE x.Name t:=by unfold jH;rw [aa h]
def paramR_10 {x:Pm} (h:dE x.Name t=0) (h2:dJ x.T=false):jH x sz t=10:=by unfold jH;rw [ab h,aa (by rw [h2];simp)]
def paramR_11 {x:Pm} (h:dE x.Name t=0) (h2:dJ x.T=true) (h3:6<x.Dims.length):jH x sz t=11:=by unfold jH;rw [ab h,ab h2,ab h3]
def paramR_f {x:Pm} (h:dE x.Name t=0) (h2:dJ x.T=true) (h3:¬6<x.Dims.length):jH x sz t=mT sz x.Dims:=by unfold jH;rw [ab h,ab h2,aa h3]
def axesR_next {l:List Ax} {k:Nat} {x:Ax} (h:l[k]? =some x) (h1:dE x.Name t=0) (h2:jA x.Size sz=0):jL sz t (l.drop k)=jL sz (t++[x.Name]) (l.drop (k+1)):=by rw [qJ h,jL,ab h1,ab h2]
def axesR_n {l:List Ax} {k:Nat} {x:Ax} (h:l[k]? =some x) (h1:¬dE x.Name t=0):jL sz t (l.drop k)=dE x.Name t:=by rw [qJ h,jL,aa h1]
def axesR_f {l:List Ax} {k:Nat} {x:Ax} (h:l[k]? =some x) (h1:dE x.Name t=0) (h2:¬jA x.Size sz=0):jL sz t (l.drop k)=jA x.Size sz:=by rw [qJ h,jL,ab h1,aa h2]
def sizesR_next {k:Nat} (h:l[k]? =some x) (hx:dE x (l.take k)=0):jB (l.take k) (l.drop k)=jB (l.take (k+1)) (l.drop (k+1)):=by rw [qJ h,jB,ab hx,yA h]
def sizesR_no {k:Nat} (h:l[k]? =some x) (hx:¬dE x (l.take k)=0):jB (l.take k) (l.drop k)=dE x (l.take k):=by rw [qJ h,jB,aa hx]
def whereR_next {l:List Cn} {k:Nat} {x:Cn} (h:l[k]? =some x) (hx:jA x.Lin sz=0):jM sz (l.drop k)=jM sz (l.drop (k+1)):=by rw [qJ h,jM,ab hx]
def whereR_no {l:List Cn} {k:Nat} {x:Cn} (h:l[k]? =some x) (hx:¬jA x.Lin sz=0):jM sz (l.drop k)=jA x.Lin sz:=by rw [qJ h,jM,aa hx]
def paramsR_next {l:List Pm} {k:Nat} {x:Pm} (h:l[k]? =some x) (hx:jH x p.Sizes t=0):fU p i t (l.drop k)=fU p (i+1) (t++[x.Name]) (l.drop (k+1)):=by rw [qJ h,fU,ab hx]
def paramsR_no {l:List Pm} {k:Nat} {x:Pm} (h:l[k]? =some x) (hx:¬jH x p.Sizes t=0):fU p i t (l.drop k)=(i,jH x p.Sizes t):=by rw [qJ h,fU,aa hx]
def defsR_next {l:List Df} {k:Nat} {x:Df} (h:l[k]? =some x) (hx:nB ⟨p.Sizes,p.Params,l.take k⟩ x t=0):mZ p i t (l.take k) (l.drop k)=mZ p (i+1) (t++[x.Name]) (l.take (k+1)) (l.drop (k+1)):=by rw [qJ h,mZ,ab hx,yA h]
def defsR_no {l:List Df} {k:Nat} {x:Df} (h:l[k]? =some x) (hx:¬nB ⟨p.Sizes,p.Params,l.take k⟩ x t=0):mZ p i t (l.take k) (l.drop k)=(i,nB ⟨p.Sizes,p.Params,l.take k⟩ x t):=by rw [qJ h,mZ,aa hx]
def outsR_next {k:Nat} (h:l[k]? =some x) (h1:(n.find x).ok=true) (h2:bQ (l.take k) x=false):pN n i (l.take k) (l.drop k)=pN n (i+1) (l.take (k+1)) (l.drop (k+1)):=by rw [qJ h,pN,ab h1,aa (by rw [h2];simp),yA h]
def outsR_8 {k:Nat} (h:l[k]? =some x) (h1:(n.find x).ok=true) (h2:bQ (l.take k) x=true):pN n i (l.take k) (l.drop k)=(i,8):=by rw [qJ h,pN,ab h1,ab h2]
def outsR_9 {k:Nat} (h:l[k]? =some x) (h1:(n.find x).ok=false):pN n i (l.take k) (l.drop k)=(i,9):=by rw [qJ h,pN,aa (by rw [h1];simp)]
def defR_1 (h:¬dE d.Name t=0):nB n d t=dE d.Name t:=by unfold nB;rw [aa h]
def defR_10 (h:dE d.Name t=0) (h2:dJ d.T=false):nB n d t=10:=by unfold nB;rw [ab h,aa (by rw [h2];simp)]
def defR_11 (h:dE d.Name t=0) (h2:dJ d.T=true) (h3:6<d.Dims.length∨6<d.Red.length):nB n d t=11:=by unfold nB;rw [ab h,ab h2,ab h3]
def defR_ok (h:dE d.Name t=0) (h2:dJ d.T=true) (h3:¬(6<d.Dims.length∨6<d.Red.length)):nB n d t=(if jL n.sz n.sz (d.Dims++d.Red)=0 then (if pB d=0 then rO (mV n (bD d) d.Body) d else pB d) else jL n.sz n.sz (d.Dims++d.Red)):=by unfold nB;rw [ab h,ab h2,aa h3]
def lR (p:Pg):Int:=if dK p then jB [] p.Sizes else 2
def zQz (h:lR p=0):dK p/\jB [] p.Sizes=0:=by
 unfold lR at h
 by_cases c:dK p
 ·rw [ab c] at h;exact ⟨c,h⟩
 ·rw [aa c] at h;cases h
def validR_s (h:¬lR p=0):lG p=(0,lR p):=by
 unfold lG lR at *
 by_cases c:dK p
 ·rw [ab c] at h;rw [ab c,ab c,aa h]
 ·rw [aa c,aa c]
def validR_w (h:lR p=0) (h3:¬jM p.Sizes p.Where=0):lG p=(1,jM p.Sizes p.Where):=by
 obtain ⟨h1,h2⟩:=zQz h
 unfold lG;rw [ab h1,ab h2,aa h3]
def validR_p (h:lR p=0) (h3:jM p.Sizes p.Where=0):lG p=fU p 2 p.Sizes p.Params:=by
 obtain ⟨h1,h2⟩:=zQz h
 unfold lG;rw [ab h1,ab h2,ab h3]
/-! ## The reference's types -/
def indexK_lin {x:Ix} (h:x.From=bs []):dI n k x=mY k x.Lin:=by rw [dI,al h];rfl
def indexK_9 {x:Ix} (h:¬x.From=bs []) (h2:(n.find x.From).ok=false):dI n k x=9:=by rw [dI,am h,h2];rfl
def indexK_10 {x:Ix} (h:¬x.From=bs []) (h2:(n.find x.From).ok=true) (h3:¬(n.find x.From).ty.Kind=3):dI n k x=10:=by rw [dI,am h,h2,am h3];rfl
def indexK_11 {x:Ix} (h:¬x.From=bs []) (h2:(n.find x.From).ok=true) (h3:(n.find x.From).ty.Kind=3) (h4:¬x.At.length=(n.find x.From).dims.length):dI n k x=11:=by rw [dI,am h,h2,al h3,am h4];rfl
def indexK_at {x:Ix} (h:¬x.From=bs []) (h2:(n.find x.From).ok=true) (h3:(n.find x.From).ty.Kind=3) (h4:x.At.length=(n.find x.From).dims.length):dI n k x=lU k x.At:=by rw [dI,am h,h2,al h3,al h4];rfl
def formsK_no' {l:List Lf} {j:Nat} {x:Lf} (h:l[j]? =some x) (hx:knL k x.L=false):lU k l=9:=by rw [formsK_no h (by rw [zNc hx];decide),zNc hx]
def formsK_next' {l:List Lf} {j:Nat} {x:Lf} (h:l[j]? =some x) (hp:(l.take j).all (fun x=>knL k x.L)=true) (hx:knL k x.L=true):(l.take (j+1)).all (fun x=>knL k x.L)=true:=zWy h hp (zUd hx)
def typeR_of (h1:dO e=0) (h2:fS e=false):mV n vars e=if (bR (gE n (knB n.sz vars)) e).2=0 then ((bR (gE n (knB n.sz vars)) e).1,0) else (zTy,(bR (gE n (knB n.sz vars)) e).2):=by
 unfold mV nT;rw [ab h1,aa (by rw [h2];simp)]
def typeR_bad (h1:¬dO e=0):mV n vars e=(zTy,dO e):=by unfold mV nT;rw [aa h1]
def typeR_cond (h1:dO e=0) (h2:fS e=true):mV n vars e=(zTy,10):=by unfold mV nT;rw [ab h1,ab h2]
def refN_1 {l:List Ty} (h:e.Op=1∨e.Op=12):gE n k e l=(e.Ty,0):=by unfold gE;rw [ab h]
def refN_2 {l:List Ty} (h:e.Op=2):gE n k e l=(iTy,lU k [e.Lin]):=by unfold gE;rw [aa zB,ab h]
def refN_3 {l:List Ty} (h:e.Op=3):gE n k e l=jT n k e:=by unfold gE;rw [aa zB,aa zB,ab h]
def refN_11 {l:List Ty} (h:e.Op=11) (h2:dP l 1=dP l 2):gE n k e l=(dP l 1,0):=by unfold gE;rw [aa zB,aa zB,aa zB,ab h,ab h2]
def refN_11' {l:List Ty} (h:e.Op=11) (h2:¬dP l 1=dP l 2):gE n k e l=(zTy,10):=by unfold gE;rw [aa zB,aa zB,aa zB,ab h,aa h2]
def refN_8 {l:List Ty} (h:e.Op=8):gE n k e l=(dP l 0,0):=by unfold gE;rw [aa zB,aa zB,aa zB,aa zB,ab h]
def refN_16 {l:List Ty} (h:16<=e.Op):gE n k e l=(zTy,0):=by unfold gE;rw [aa zB,aa zB,aa zB,aa zB,aa zB,ab h]
def refN_no {l:List Ty} (h:¬(e.Op=1∨e.Op=12∨e.Op=2∨e.Op=3∨e.Op=8∨e.Op=11∨16<=e.Op)) (h2:¬dP l 0=dP l 1):gE n k e l=(zTy,10):=by unfold gE;rw [aa zB,aa zB,aa zB,aa zB,aa zB,aa zB,aa h2]
def refN_13 {l:List Ty} (h:¬(e.Op=1∨e.Op=12∨e.Op=2∨e.Op=3∨e.Op=8∨e.Op=11∨16<=e.Op)) (h2:dP l 0=dP l 1) (h3:13<=e.Op):gE n k e l=(zTy,0):=by unfold gE;rw [aa zB,aa zB,aa zB,aa zB,aa zB,aa zB,ab h2,ab h3]
def refN_o {l:List Ty} (h:¬(e.Op=1∨e.Op=12∨e.Op=2∨e.Op=3∨e.Op=8∨e.Op=11∨13<=e.Op)) (h2:dP l 0=dP l 1):gE n k e l=(dP l 0,0):=by unfold gE;rw [aa zB,aa zB,aa zB,aa zB,aa zB,aa zB,ab h2,aa zB]
def findD_at {l:List Df} {k:Nat} (h:l[k]? =some d) (hd:d.Name=s):dY s (l.drop k)=⟨d.T,d.Dims.map Ax.Size,true⟩:=by rw [qJ h,dY,al hd];rfl
def findD_next {l:List Df} {k:Nat} (h:l[k]? =some d) (hd:¬d.Name=s):dY s (l.drop k)=dY s (l.drop (k+1)):=by rw [qJ h,dY,am hd];rfl
def zPe {i:Nat} {x:Ix} {j:Int} (h:(n.find e.Name).ok=true) (h2:e.Idx.length=(n.find e.Name).dims.length) (hp:fK n k e.Idx=fK n k (e.Idx.drop i)) (hx:e.Idx[i]? =some x) (hi:dI n k x=j) (hj:j≠0):jT n k e=(zTy,j):=by
 have h3:fK n k e.Idx=j:=by rw [hp,zWu hx (by rw [hi];exact hj),hi]
 rw [readK_x h h2 (by rw [h3];exact hj),h3]
def red1 (d:Df):((decide (d.Fold<0)||decide (5<d.Fold))=true->d.Fold<0∨5<d.Fold)/\((decide (d.Fold<0)||decide (5<d.Fold))=false->¬(d.Fold<0∨5<d.Fold)):=by
 simp only [aE,aj,aC,aw]
 exact ⟨fun h=>h,fun h=>by rintro (k|k);exact h.1 k;exact h.2 k⟩
def red_eq (d:Df):((!decide ((decide (d.Fold=0)||decide (d.Fold=5))=decide ((d.Red.length:Int)=0)))||(decide (d.Fold=5)&&decide ((d.Dims.length:Int)=0)))=true↔((decide (d.Fold=0∨d.Fold=5) !=decide (d.Red.length=0))=true∨d.Fold=5/\d.Dims.length=0):=by
 have e1:decide ((d.Red.length:Int)=0)=decide (d.Red.length=0):=dl.2 zB
 have e2:decide ((d.Dims.length:Int)=0)=decide (d.Dims.length=0):=dl.2 zB
 rw [e1,e2,aE,ae,aj,aj,Bool.decide_or]
 cases (decide (d.Fold=0)||decide (d.Fold=5))<;>cases decide (d.Red.length=0)<;>simp
def red2 (h:((!decide ((decide (d.Fold=0)||decide (d.Fold=5))=decide ((d.Red.length:Int)=0)))||(decide (d.Fold=5)&&decide ((d.Dims.length:Int)=0)))=true):((decide (d.Fold=0∨d.Fold=5) !=decide (d.Red.length=0))=true∨d.Fold=5/\d.Dims.length=0):=(red_eq d).1 h
def red3 (h:((!decide ((decide (d.Fold=0)||decide (d.Fold=5))=decide ((d.Red.length:Int)=0)))||(decide (d.Fold=5)&&decide ((d.Dims.length:Int)=0)))=false):¬((decide (d.Fold=0∨d.Fold=5) !=decide (d.Red.length=0))=true∨d.Fold=5/\d.Dims.length=0):=fun k=>by
 rw [(red_eq d).2 k] at h;cases h
def eZ (p:Pg):Bool:=(((decide ((64:Int)<p.Sizes.length)||decide ((64:Int)<p.Params.length))||decide ((64:Int)<p.Defs.length))||decide ((64:Int)<p.Outs.length))||decide ((256:Int)<p.Where.length)
def lim_iff (p:Pg):eZ p=false↔dK p:=by
 unfold eZ dK
 simp only [aC,aw]
 constructor
 ·rintro ⟨⟨⟨⟨h1,h2⟩,h3⟩,h4⟩,h5⟩;exact ⟨zB,zB,zB,zB,zB⟩
 ·rintro ⟨h1,h2,h3,h4,h5⟩;exact ⟨⟨⟨⟨zB,zB⟩,zB⟩,zB⟩,zB⟩
def lim_no (h:eZ p=true):¬dK p:=fun k=>by rw [(lim_iff p).2 k] at h;cases h
def lim_yes (h:eZ p=false):dK p:=(lim_iff p).1 h
/-! ## Long -/
structure Pg.Short (p:Pg):Prop where
 sizes:p.Sizes.length<=12
 wh:p.Where.length<=12
 params:p.Params.length<=12
 defs:p.Defs.length<=12
 outs:p.Outs.length<=12
 whs:∀c,c∈p.Where->c.Lin.L.length<=20
 ps:∀x,x∈p.Params->x.Dims.length<=12/\∀l,l∈x.Dims->l.L.length<=20
 ds:∀d,d∈p.Defs->d.Dims.length<=12/\d.Red.length<=12/\(∀a,a∈d.Dims->a.Size.L.length<=20)/\(∀a,a∈d.Red->a.Size.L.length<=20)/\d.Body.wt<=300
def Pg.Short.ok (h:p.Short):p.Ok:=
 ⟨by have:=h.sizes;omega,by have:=h.wh;omega,by have:=h.params;omega,by have:=h.defs;omega,by have:=h.outs;omega,fun c hc=>by have:=h.whs c hc;omega,
  fun x hx=>by obtain ⟨h1,h2⟩:=h.ps x hx;exact ⟨zB,fun l hl=>by have:=h2 l hl;omega⟩,
  fun d hd=>by obtain ⟨h1,h2,h3,h4,h5⟩:=h.ds d hd;exact ⟨zB,zB,fun a ha=>by have:=h3 a ha;omega,fun a ha=>by have:=h4 a ha;omega,zB⟩⟩
open Go.Proofs
def lA (a b:Int):Int:=if a<b then-1 else if b<a then 1 else 0
def sU (a b:nn):Int:=Lib.compareBytes a.data.toList b.data.toList
def orI:List Int->Int
 |[]=>0
 |x::r=>if x=0 then orI r else x
def lD {α:Type} (f:α->α->Int):List α->List α->Int
 |[],[]=>0
 |[],_::_=> -1
 |_::_,[]=>1
 |x::xs,y::ys=>if f x y=0 then lD f xs ys else f x y
variable {α:Type}
def mF (f:α->α->Int) (a b:List α):Int:=if lA a.length b.length=0 then lD f a b else lA a.length b.length
def vJ (x y:Mono):Int:=if x.Name=y.Name then lA x.By y.By else sU x.Name y.Name
def pD (a b:Lf):Int:=if lD vJ a.L b.L=0 then lA a.K b.K else lD vJ a.L b.L
def pE (a b:Ix):Int:=if sU a.From b.From=0 then (if pD a.Lin b.Lin=0 then mF pD a.At b.At else pD a.Lin b.Lin) else sU a.From b.From
def cA (a b:Ty):Int:=orI [lA a.Kind b.Kind,lA a.Bits b.Bits,lA a.Frac b.Frac,lA a.Round b.Round,lA a.Over b.Over]
def rN (a b:Ex):Int:=orI [lA a.Op b.Op,sU a.Name b.Name,lA a.Val.N b.Val.N,lA a.Val.D b.Val.D,cA a.Ty b.Ty,pD a.Lin b.Lin]
mutual
def sV:Ex->Ex->Int
 |.mk o n v t l i r,b=>if rN (.mk o n v t l i r) b=0 then (if mF pE i b.Idx=0 then (if lA r.length b.Args.length=0 then cW r b.Args else lA r.length b.Args.length) else mF pE i b.Idx) else rN (.mk o n v t l i r) b
def cW:List Ex->List Ex->Int
 |[],[]=>0
 |[],_::_=> -1
 |_::_,[]=>1
 |x::xs,y::ys=>if sV x y=0 then cW xs ys else sV x y
end
def cmpEs_L:∀a b:List Ex,cW a b=lD sV a b
 |[],[]=>rfl
 |[],_::_=>rfl
 |_::_,[]=>rfl
 |x::xs,y::ys=>by rw [cW,lD,cmpEs_L xs ys]
def cmpE_eq (a b:Ex):sV a b=if rN a b=0 then (if mF pE a.Idx b.Idx=0 then mF sV a.Args b.Args else mF pE a.Idx b.Idx) else rN a b:=by
 cases a with
 |mk o n v t l i r=>rw [sV,cmpEs_L];rfl
/-! ## Alike is equal -/
def zMp (a b:Int):lA a b=0↔a=b:=by
 unfold lA
 split
 ·constructor
  ·intro h;cases h
  ·intro h;omega
 ·split
  ·constructor
   ·intro h;cases h
   ·intro h;omega
  ·constructor<;>intro h<;>first|rfl|omega
def bytes_zero:∀a b:List UInt8,Lib.compareBytes a b=0↔a=b
 |[],[]=>by simp [Lib.compareBytes]
 |[],_::_=>by simp [Lib.compareBytes]
 |_::_,[]=>by simp [Lib.compareBytes]
 |x::xs,y::ys=>by
  rw [Lib.compareBytes]
  by_cases h1:x<y
  ·rw [ab h1]
   constructor
   ·intro h;cases h
   ·intro h;injection h with h2 h3;subst h2;exact absurd h1 (kj x)
  ·rw [aa h1]
   by_cases h2:y<x
   ·rw [ab h2]
    constructor
    ·intro h;cases h
    ·intro h;injection h with h3 h4;subst h3;exact absurd h2 (kj x)
   ·rw [aa h2,bytes_zero xs ys]
    have e:x=y:=by
     have h3:=ig.1 h1
     have h4:=ig.1 h2
     exact ju h4 h3
    simp [e]
def zQf (a b:nn):sU a b=0↔a=b:=by
 unfold sU
 rw [bytes_zero]
 constructor
 ·intro h;cases a;cases b;congr 1;exact fv.1 h
 ·rintro rfl;rfl
def orI_zero:∀l:List Int,orI l=0↔∀x,x∈l->x=0
 |[]=>by simp [orI]
 |x::r=>by
  rw [orI]
  by_cases h:x=0
  ·rw [ab h,orI_zero r];simp [h]
  ·rw [aa h];constructor
   ·intro k;exact absurd k h
   ·intro k;exact k x uF
def zYa {α:Type} {f:α->α->Int}:∀(a b:List α),(∀x,x∈a->∀y,f x y=0↔x=y)->(lD f a b=0↔a=b)
 |[],[],_=>by simp [lD]
 |[],_::_,_=>by simp [lD]
 |_::_,[],_=>by simp [lD]
 |x::xs,y::ys,h=>by
  rw [lD]
  have h1:=h x uF y
  by_cases c:f x y=0
  ·rw [ab c,zYa xs ys fun z hz=>h z (by simp [hz])];simp [h1.1 c]
  ·rw [aa c]
   constructor
   ·intro k;exact absurd k c
   ·intro k;injection k with k1 k2;exact h1.2 k1
def zSi {f:α->α->Int} (a b:List α) (h:∀x,x∈a->∀y,f x y=0↔x=y):mF f a b=0↔a=b:=by
 unfold mF
 by_cases c:lA (a.length:Int) b.length=0
 ·rw [ab c];exact zYa a b h
 ·rw [aa c]
  constructor
  ·intro k;exact absurd k c
  ·rintro rfl;exact absurd ((zMp _ _).2 rfl) c
def cmpM_zero (x y:Mono):vJ x y=0↔x=y:=by
 obtain ⟨n,b⟩:=x
 obtain ⟨n',b'⟩:=y
 unfold vJ
 by_cases c:n=n'
 ·simp only [c,ic,zMp,Mono.mk.injEq,true_and]
 ·simp only [c,gj,zQf,Mono.mk.injEq,false_and]
def zNe (a b:Lf):pD a b=0↔a=b:=by
 have h:=zYa (f:=vJ) a.L b.L fun x _ y=>cmpM_zero x y
 have e:a=b↔a.L=b.L/\a.K=b.K:=by
  cases a;cases b;simp only [Lf.mk.injEq];exact ⟨fun k=>⟨k.2,k.1⟩,fun k=>⟨k.2,k.1⟩⟩
 unfold pD
 rw [e]
 by_cases c:lD vJ a.L b.L=0
 ·rw [ab c,zMp];exact ⟨fun k=>⟨h.1 c,k⟩,fun k=>k.2⟩
 ·rw [aa c];exact ⟨fun k=>absurd k c,fun k=>absurd (h.2 k.1) c⟩
def cmpIx_zero (a b:Ix):pE a b=0↔a=b:=by
 have h:=zSi (f:=pD) a.At b.At fun x _ y=>zNe x y
 have e:a=b↔a.From=b.From/\a.Lin=b.Lin/\a.At=b.At:=by
  cases a;cases b;simp only [Ix.mk.injEq];exact ⟨fun k=>⟨k.2.1,k.1,k.2.2⟩,fun k=>⟨k.2.1,k.1,k.2.2⟩⟩
 unfold pE
 rw [e]
 by_cases c:sU a.From b.From=0
 ·by_cases d:pD a.Lin b.Lin=0
  ·rw [ab c,ab d,h];exact ⟨fun k=>⟨(zQf _ _).1 c,(zNe _ _).1 d,k⟩,fun k=>k.2.2⟩
  ·rw [ab c,aa d];exact ⟨fun k=>absurd k d,fun k=>absurd ((zNe _ _).2 k.2.1) d⟩
 ·rw [aa c];exact ⟨fun k=>absurd k c,fun k=>absurd ((zQf _ _).2 k.1) c⟩
def cmpTy_zero (a b:Ty):cA a b=0↔a=b:=by
 obtain ⟨a1,a2,a3,a4,a5⟩:=a
 obtain ⟨b1,b2,b3,b4,b5⟩:=b
 unfold cA
 rw [orI_zero]
 simp only [lMc,aG,cj,aN,cg,zMp,Ty.mk.injEq]
def cmpHd_zero (a b:Ex):rN a b=0↔a.Op=b.Op/\a.Name=b.Name/\a.Val=b.Val/\a.Ty=b.Ty/\a.Lin=b.Lin:=by
 unfold rN
 rw [orI_zero]
 simp only [lMc,aG,cj,aN,cg,zMp,zQf,cmpTy_zero,zNe]
 cases hv:a.Val
 cases hw:b.Val
 simp only [Vl.mk.injEq]
 constructor
 ·rintro ⟨h1,h2,h3,h4,h5⟩;exact ⟨h1,h2,⟨h3,h4⟩,h5⟩
 ·rintro ⟨h1,h2,⟨h3,h4⟩,h5⟩;exact ⟨h1,h2,h3,h4,h5⟩
def cmpE_zero (a:Ex):∀b:Ex,sV a b=0↔a=b:=by
 induction a using Ex.ind with
 |_ a ih=>
  intro b
  rw [cmpE_eq,Ex.eq_iff]
  have h1:=cmpHd_zero a b
  have h2:=zSi (f:=pE) a.Idx b.Idx fun x _ y=>cmpIx_zero x y
  have h3:=zSi (f:=sV) a.Args b.Args ih
  by_cases c:rN a b=0
  ·by_cases d:mF pE a.Idx b.Idx=0
   ·rw [ab c,ab d,h3]
    obtain ⟨k1,k2,k3,k4,k5⟩:=h1.1 c
    have k6:=h2.1 d
    exact ⟨fun k=>⟨k1,k2,k3,k4,k5,k6,k⟩,fun k=>k.2.2.2.2.2.2⟩
   ·rw [ab c,aa d]
    exact ⟨fun k=>absurd k d,fun k=>absurd (h2.2 k.2.2.2.2.2.1) d⟩
  ·rw [aa c]
   exact ⟨fun k=>absurd k c,fun k=>absurd (h1.2 ⟨k.1,k.2.1,k.2.2.1,k.2.2.2.1,k.2.2.2.2.1⟩) c⟩
/-! ## Steps of the walks -/
section steps
variable {α:Type} {f:α->α->Int} {a b:List α} {k:Nat} {x y:α}
def zUl (h:a[k]? =some x) (hb:¬k<b.length):lD f (a.drop k) (b.drop k)=1:=by rw [qJ h,kL hb];rfl
def cmpL_ne (h:a[k]? =some x) (hy:b[k]? =some y) (c:¬f x y=0):lD f (a.drop k) (b.drop k)=f x y:=by rw [qJ h,qJ hy,lD,aa c]
def zQg (h:a[k]? =some x) (hy:b[k]? =some y) (c:f x y=0):lD f (a.drop k) (b.drop k)=lD f (a.drop (k+1)) (b.drop (k+1)):=by rw [qJ h,qJ hy,lD,ab c]
def zQh (h:¬k<a.length) (hb:k<b.length):lD f (a.drop k) (b.drop k)= -1:=by
 rw [kL h]
 cases hd:b.drop k with
 |nil=>have:=ai List.length hd;simp at this;omega
 |cons _ _=>rfl
def zUm (h:¬k<a.length) (hb:¬k<b.length):lD f (a.drop k) (b.drop k)=0:=by rw [kL h,kL hb];rfl
end steps
variable {a b:Int}
def cmpI_lt (h:a<b):lA a b= -1:=ab h
def cmpI_gt (h:b<a):lA a b=1:=by unfold lA;rw [aa zB,ab h]
def cmpI_eq (h:¬a<b) (h2:¬b<a):lA a b=0:=by unfold lA;rw [aa h,aa h2]
def orI_at {l:List Int} {k:Nat} {x:Int} (h:l[k]? =some x) (hx:¬x=0):orI (l.drop k)=x:=by rw [qJ h,orI,aa hx]
def orI_next {l:List Int} {k:Nat} {x:Int} (h:l[k]? =some x) (hx:x=0):orI (l.drop k)=orI (l.drop (k+1)):=by rw [qJ h,orI,ab hx]
def strings_Compare (a b:nn):Pur cfg 135 [vS a,vS b] (vI (sU a b)):=by
 intro w I vs hH ha
 match vs,ha with
 |[v,u],ha=>
  obtain ⟨h1,h2,_⟩:=ha
  have e1:v=.string a:=by cases (h1:CRep w I (cS a) v) with|lit _ _=>rfl
  have e2:u=.string b:=by cases (h2:CRep w I (cS b) u) with|lit _ _=>rfl
  subst e1 e2
  refine (Tryz.strings_Compare a b w).mono ?_
  rintro e w' ⟨rfl,rfl⟩
  exact ⟨_,_,[],I,rfl,rfl,CRep.lit _ rfl,hH,Ext.refl _ _ _⟩
def linsWt_le {l:List Lf} {n:Nat}:(∀x,x∈l->x.L.length<=n)->fR l<=l.length*n:=by
 induction l with
 |nil=>intro _;simp [fR]
 |cons x r ih=>
  intro h
  have h1:=h x uF
  have h2:=ih fun y hy=>h y (by simp [hy])
  rw [fR,lLc,gg,Nat.one_mul];omega
def Pg.Short.find {p:Pg} (h:p.Short) (s:nn):(p.en.find s).dims.length<=12/\fR (p.en.find s).dims<=240:=by
 have key:∀l:List Lf,l.length<=12->(∀x,x∈l->x.L.length<=20)->l.length<=12/\fR l<=240:=fun l h1 h2=>⟨h1,by have:=linsWt_le h2;omega⟩
 have hd:∀l:List Df,(∀d,d∈l->d∈p.Defs)->(dY s l).dims.length<=12/\fR (dY s l).dims<=240:=by
  intro l
  induction l with
  |nil=>intro _;simp [dY,fR]
  |cons d r ih=>
   intro hl
   rw [dY]
   cases decide (d.Name=s) with
   |false=>exact ih fun x hx=>hl x (by simp [hx])
   |true=>
    obtain ⟨h1,_,h3,_⟩:=h.ds d (hl d uF)
    exact key (d.Dims.map Ax.Size) (by simpa using h1) fun x hx=>by
     obtain ⟨a,ha,rfl⟩:=aX.1 hx;exact h3 a ha
 have hp:∀l:List Pm,(∀d,d∈l->d∈p.Params)->(fV s p.Defs l).dims.length<=12/\fR (fV s p.Defs l).dims<=240:=by
  intro l
  induction l with
  |nil=>intro _;rw [fV];exact hd p.Defs fun d hd=>hd
  |cons d r ih=>
   intro hl
   rw [fV]
   cases decide (d.Name=s) with
   |false=>exact ih fun x hx=>hl x (by simp [hx])
   |true=>
    obtain ⟨h1,h3⟩:=h.ps d (hl d uF)
    exact key d.Dims h1 h3
 exact hp p.Params fun x hx=>hx
end Go.Br
end
