/-
  The program's data,in plain Lean: linear forms,indices,expressions; and the cells that hold them.
  And what the laws need besides.
  Conditions: none.
-/
import Derived.Test.YthgichbbgocmoaaGreatDoorEngY
import Derived.Test.YthgichbbgocmoaaGreatDoorNames
import Derived.Test.YthgichbbgocmoaaGreatDoorEngZ
import Derived.Test.YthgichbbgocmoaaGreatDoorCfg
import Derived.Lib.Bytealg
set_option linter.unusedSimpArgs false
set_option linter.unusedVariables false
set_option linter.defProp false
section
namespace Go.Br
open Go Go.Eng Go.L41
structure Mono where
 Name:lr
 By:Int
 deriving DecidableEq
structure Lf where
 K:Int
 L:List Mono
 deriving DecidableEq
structure Vl where
 N:Int
 D:Int
 deriving DecidableEq
structure Ty where
 Kind:Int
 Bits:Int
 Frac:Int
 Round:Int
 Over:Int
 deriving DecidableEq
structure Ix where
 Lin:Lf
 From:lr
 At:List Lf
 deriving DecidableEq
inductive Ex where
 |mk (op:Int) (name:lr) (val:Vl) (ty:Ty) (lin:Lf) (idx:List Ix) (args:List Ex)
namespace Ex
def Op:Ex->Int|mk o _ _ _ _ _ _=>o
def Name:Ex->lr|mk _ x _ _ _ _ _=>x
def Val:Ex->Vl|mk _ _ x _ _ _ _=>x
def Ty:Ex->Br.Ty|mk _ _ _ x _ _ _=>x
def Lin:Ex->Lf|mk _ _ _ _ x _ _=>x
def Idx:Ex->List Ix|mk _ _ _ _ _ x _=>x
def Args:Ex->List Ex|mk _ _ _ _ _ _ x=>x
def eta (e:Ex):e=mk e.Op e.Name e.Val e.Ty e.Lin e.Idx e.Args:=by cases e;rfl
def ind {P:Ex->Prop} (h:∀e:Ex,(∀a,a∈e.Args->P a)->P e) (e:Ex):P e:=
 Ex.rec (motive_1:=P) (motive_2:=fun l=>∀a,a∈l->P a) (fun o n v t l i arg_ ih=>h (mk o n v t l i arg_) ih) (fun a h=>by cases h)
  (fun x l hx hl a ha=>by rcases af.1 ha with rfl|ha;exact hx;exact hl a ha) e
end Ex
mutual
def Ex.eqB:Ex->Ex->Bool
 |.mk o n v t l i arg_,.mk o' n' v' t' l' i' bs=>decide (o=o')&&decide (n=n')&&decide (v=v')&&decide (t=t')&&decide (l=l')&&decide (i=i')&&xX arg_ bs
def xX:List Ex->List Ex->Bool
 |[],[]=>true
 |a::arg_,b::bs=>Ex.eqB a b&&xX arg_ bs
 |_,_=>false
end
mutual
def Ex.eqB_iff:∀a b:Ex,Ex.eqB a b=true↔a=b
 |.mk o n v t l i arg_,.mk o' n' v' t' l' i' bs=>by
  simp only [Ex.eqB,ae,ah,eqBs_iff arg_ bs,Ex.mk.injEq]
  constructor
  ·rintro ⟨⟨⟨⟨⟨⟨h1,h2⟩,h3⟩,h4⟩,h5⟩,h6⟩,h7⟩;exact ⟨h1,h2,h3,h4,h5,h6,h7⟩
  ·rintro ⟨h1,h2,h3,h4,h5,h6,h7⟩;exact ⟨⟨⟨⟨⟨⟨h1,h2⟩,h3⟩,h4⟩,h5⟩,h6⟩,h7⟩
def eqBs_iff:∀a b:List Ex,xX a b=true↔a=b
 |[],[]=>by simp [xX]
 |a::arg_,b::bs=>by simp only [xX,ae,Ex.eqB_iff a b,eqBs_iff arg_ bs,ba]
 |[],_::_=>by simp [xX]
 |_::_,[]=>by simp [xX]
end
instance:DecidableEq Ex:=fun a b=>decidable_of_iff _ (Ex.eqB_iff a b)
def Ex.eq_iff (a b:Ex):a=b↔a.Op=b.Op/\a.Name=b.Name/\a.Val=b.Val/\a.Ty=b.Ty/\a.Lin=b.Lin/\a.Idx=b.Idx/\a.Args=b.Args:=by
 cases a;cases b;simp only [Ex.mk.injEq];rfl
def Mono.cells (x:Mono):List C:=[cS x.Name,cI x.By]
def Lf.cells (x:Lf):List C:=[cI x.K,.sl 2 (x.L.map Mono.cells)]
def Ix.cells (x:Ix):List C:=[cI x.Lin.K,.sl 2 (x.Lin.L.map Mono.cells),cS x.From,.sl 2 (x.At.map Lf.cells)]
def Vl.cells (v:Vl):List C:=[cI v.N,cI v.D]
mutual
def Ex.cells:Ex->List C
 |.mk o n v t l i arg_=>[cI o,cS n,cI v.N,cI v.D,cI t.Kind,cI t.Bits,cI t.Frac,cI t.Round,cI t.Over,cI l.K,.sl 2 (l.L.map Mono.cells),.sl 4 (i.map Ix.cells),.sl 13 (vX arg_)]
def vX:List Ex->List (List C)
 |[]=>[]
 |e::r=>e.cells::vX r
end
def cellsL_eq (l:List Ex):vX l=l.map Ex.cells:=by
 induction l with
 |nil=>rfl
 |cons e r ih=>rw [vX,ih];rfl
def Ex.cs (e:Ex):List C:=[cI e.Op,cS e.Name,cI e.Val.N,cI e.Val.D,cI e.Ty.Kind,cI e.Ty.Bits,cI e.Ty.Frac,cI e.Ty.Round,cI e.Ty.Over,cI e.Lin.K,.sl 2 (e.Lin.L.map Mono.cells),.sl 4 (e.Idx.map Ix.cells),.sl 13 (e.Args.map Ex.cells)]
def Ex.cells_eq (e:Ex):e.cells=e.cs:=by
 cases e;rw [Ex.cells,cellsL_eq];rfl
abbrev tB (x:Mono):V:=.agg x.cells
abbrev xQ (l:List Mono):V:=.c (.sl 2 (l.map Mono.cells))
abbrev dK (x:Lf):V:=.agg x.cells
abbrev sM (l:List Lf):V:=.c (.sl 2 (l.map Lf.cells))
abbrev lT (x:Ix):V:=.agg x.cells
abbrev jF (l:List Ix):V:=.c (.sl 4 (l.map Ix.cells))
abbrev vE (x:Ex):V:=.agg x.cs
abbrev vEs (l:List Ex):V:=.c (.sl 13 (l.map Ex.cells))
abbrev vTy (t:Ty):V:=.agg [cI t.Kind,cI t.Bits,cI t.Frac,cI t.Round,cI t.Over]
abbrev gZ (v:Vl):V:=.agg [cI v.N,cI v.D]
abbrev nC (n:Int):V:=.c (.lit (.int .u64 n))
variable {k:Nat}
def zCy {l:List Ex} {x:Ex} (h:l[k]? =some x):(l.map Ex.cells)[k]? =some x.cs:=by
 rw [getm h,Ex.cells_eq]
def fI:List Lf->Nat
 |[]=>0
 |l::r=>l.L.length+fI r
def Ix.wt (x:Ix):Nat:=x.Lin.L.length+x.At.length+fI x.At
def dO:List Ix->Nat
 |[]=>0
 |x::r=>x.wt+dO r
mutual
def Ex.wt:Ex->Nat
 |.mk _ _ _ _ l i arg_=>1+l.L.length+i.length+dO i+fC arg_
def fC:List Ex->Nat
 |[]=>0
 |e::r=>e.wt+fC r
end
def Ex.wt_eq (e:Ex):e.wt=1+e.Lin.L.length+e.Idx.length+dO e.Idx+fC e.Args:=by cases e;rw [Ex.wt];rfl
def Ex.wt_pos (e:Ex):1<=e.wt:=by rw [Ex.wt_eq];omega
variable {a:Ex}
def argsWt_mem {l:List Ex} (h:a∈l):a.wt+(l.length-1)<=fC l:=by
 induction l with
 |nil=>cases h
 |cons x r ih=>
  rw [fC]
  rcases af.1 h with rfl|h
  ·have:r.length<=fC r:=by
    clear ih h
    induction r with
    |nil=>simp [fC]
    |cons y r ih=>rw [fC,lLc];have:=y.wt_pos;omega
   simp;omega
  ·have:=ih h
   have:=x.wt_pos
   have:0<r.length:=List.length_pos_of_mem h
   simp;omega
def argsWt_len (l:List Ex):l.length<=fC l:=by
 induction l with
 |nil=>simp [fC]
 |cons y r ih=>rw [fC,lLc];have:=y.wt_pos;omega
def zEn {l:List Lf} {a:Lf} (h:a∈l):a.L.length<=fI l:=by
 induction l with
 |nil=>cases h
 |cons x r ih=>
  rw [fI]
  exact v12
def zBu {l:List Ix} {a:Ix} (h:a∈l):a.wt<=dO l:=by
 induction l with
 |nil=>cases h
 |cons x r ih=>
  rw [dO]
  exact v12
variable {e:Ex} {B:Nat}
def Ex.parts (h:e.wt<=B):e.Lin.L.length<=B/\e.Idx.length<=B/\e.Args.length<=B:=by
 rw [Ex.wt_eq] at h
 have:=argsWt_len e.Args
 omega
def Ex.arg_wt (h:a∈e.Args):a.wt<e.wt:=by
 rw [Ex.wt_eq e]
 have:=argsWt_mem h
 omega
variable {x:Ix}
def Ex.idx_wt (h:x∈e.Idx):x.Lin.L.length<=e.wt/\x.At.length<=e.wt/\fI x.At<=e.wt:=by
 rw [Ex.wt_eq e]
 have:=zBu h
 unfold Ix.wt at this
 omega
variable {α:Type} {l:List α}
def qQ {x:α} (h:l[k]? =some x):l.drop k=x::l.drop (k+1):=by
 have hk:k<l.length:=(ai.1 h).1
 rw [ik hk]
 rw [ak hk] at h
 simp at h
 rw [h]
def kL (h:¬k<l.length):l.drop k=[]:=dp zA
variable {b:List α} {y:α}
def zCd {a:List α} {x:α} (hx:a[k]? =some x) (hy:b[k]? =some y) (h:a.take k=b.take k) (e:x=y):a.take (k+1)=b.take (k+1):=by
 rw [yR hx,yR hy,h,e]
def zEo {a:List α} (h:a.take k=b.take k) (h1:¬k<a.length) (h2:a.length=b.length):a=b:=by
 rw [yW h1,yW zA] at h
 exact h
def zGr {a:List α} {x:α} (hx:a[k]? =some x) (hy:b[k]? =some y) (h:¬x=y):¬a=b:=by
 rintro rfl
 rw [hx] at hy
 exact h (Option.some.inj hy)
def qX {p:Prop} [Decidable p] (h:¬p):decide p=false:=aB h
def wU {p:Prop} [Decidable p] (h:p):decide p=true:=aw h
def qA {x:α} (h:l[k]? =some x):x∈l:=bg h
/-! ## Linear forms -/
def ltO:Option lr->lr->Bool
 |none,_=>true
 |some q,n=>dQ q n
def bK:Option lr->List Mono->Bool
 |_,[]=>true
 |p,m::r=>bB m.Name&& !decide (m.By=0)&&ltO p m.Name&&bK (some m.Name) r
def bI (l:Lf):Bool:=bK none l.L
def dY (l:Lf):Int:=bif bI l then 0 else 1
def pv (l:List Mono) (k:Nat):Mono:=l.getD (k-1) ⟨bs [],0⟩
def pB (l:List Mono) (k:Nat):Option lr:=if k=0 then none else some (pv l k).Name
def cO (l:List Mono) (k:Nat) (x:Mono):Bool:=(!bB x.Name||decide (x.By=0))||(decide ((0:Int)<k)&& !dQ (pv l k).Name x.Name)
def pv_get {f:Mono->α} {l:List Mono} (h0:0<k) (h:k<=l.length):(l.map f)[((k:Int)-1).toNat]? =some (f (pv l k)):=by
 have e:((k:Int)-1).toNat=k-1:=by omega
 have h1:k-1<l.length:=by omega
 rw [e,bu,ak h1]
 simp [pv,List.getD,ak h1]
def pv_next {l:List Mono} {x:Mono} (h:l[k]? =some x):pv l (k+1)=x:=by simp [pv,List.getD,h]
def zMy {l:List Mono} {x:Mono} (h:l[k]? =some x):bK (pB l k) (l.drop k)=(!cO l k x&&bK (pB l (k+1)) (l.drop (k+1))):=by
 rw [qQ h,bK]
 have e:pB l (k+1)=some x.Name:=by simp [pB,pv_next h]
 rw [e]
 congr 1
 unfold cO pB ltO
 by_cases hk:k=0
 ·subst hk;simp
 ·have hk':(0:Int)<k:=by omega
  rw [aa hk,aw hk']
  cases bB x.Name<;>cases decide (x.By=0)<;>simp
def monos_end {l:List Mono} (h:¬k<l.length):bK (pB l k) (l.drop k)=true:=by
 rw [kL h];cases pB l k<;>rfl
def fY (s:lr):Lf:=bif bB s then ⟨0,[⟨s,1⟩]⟩ else ⟨0,[]⟩
def bF:List Mono->lr->Int
 |[],_=>0
 |m::r,s=>if m.Name=s then m.By else bF r s
def mA {α:Type} (p:α->Bool):List α->Int
 |[]=> -1
 |x::r=>bif p x then 0 else (bif decide (mA p r= -1) then-1 else mA p r+1)
def idxOf_ge (p:α->Bool) (l:List α): -1<=mA p l:=by
 induction l with
 |nil=>simp [mA]
 |cons x r ih=>unfold mA;cases p x<;>simp;by_cases h:mA p r= -1<;>simp [h];omega
def zQn (p:α->Bool) (l:List α):decide (0<=mA p l)=l.any p:=by
 induction l with
 |nil=>rfl
 |cons x r ih=>
  have:=idxOf_ge p r
  unfold mA
  cases hp:p x
  ·simp only [az,ep,hp,eu,←ih]
   by_cases h:mA p r= -1
   ·simp [h]
   ·simp [h];omega
  ·simp [hp]
variable {p:α->Bool}
def zVd {x:α} (h:l[k]? =some x) (hp:p x=true) (hn:(l.take k).any p=false):mA p l=k:=by
 induction l generalizing k with
 |nil=>simp at h
 |cons y r ih=>
  cases k with
  |zero=>simp at h;subst h;simp [mA,hp]
  |succ k=>
   simp only [aF,ep,al] at hn
   have:=ih (k:=k) (by simpa using h) hn.2
   simp only [mA,hn.1,az,this]
   have h2:¬((k:Int)= -1):=by omega
   simp [h2]
def zNd (hn:l.any p=false):mA p l= -1:=by
 induction l with
 |nil=>rfl
 |cons y r ih=>
  simp only [ep,al] at hn
  simp [mA,hn.1,ih hn.2]
def zRl {x:α} (h:l[k]? =some x) (hn:(l.take k).any p=false) (hp:p x=false):(l.take (k+1)).any p=false:=by
 rw [yR h,fm,hn];simp [hp]
/-! ## Types and values -/
def dD (t:Ty):Bool:=
 ((decide (t.Kind=1)||decide (t.Kind=3))&&decide (t.Bits=0)&&decide (t.Frac=0)&&decide (t.Round=0)&&decide (t.Over=0))||
 (decide (t.Kind=2)&&decide (2<=t.Bits)&&decide (t.Bits<=31)&&decide (0<=t.Frac)&&decide (t.Frac<=30)&&decide (1<=t.Round)&&decide (t.Round<=4)&&(decide (t.Over=1)||decide (t.Over=2)))
def dT (t:Ty):Int:=bif dD t then 0 else 10
def fP (t:Ty):Bool:=decide (t.Kind=2)&&decide (2<=t.Bits)&&decide (t.Bits<=31)&&decide (0<=t.Frac)&&decide (t.Frac<=30)&&decide (1<=t.Round)&&decide (t.Round<=4)&&(decide (t.Over=1)||decide (t.Over=2))
def gC (b:Int):Int:=2^(b-1).toNat
def dX (n:Int):Bool:=decide (-2147483647<=n)&&decide (n<=2147483647)
def bQ (t:Ty) (v:Vl):Bool:=
 bif decide (t.Kind=2) then decide (v.D=1)&&decide (-gC t.Bits<=v.N)&&decide (v.N<gC t.Bits)
 else bif decide (t.Kind=3) then decide (v.D=1)&&dX v.N
 else decide (1<=v.D)&&decide (v.D<=2147483647)&&dX v.N&&decide (Int.gcd v.N v.D=1)
def xY (t:Ty):Vl:=bif dD t then ⟨0,1⟩ else ⟨0,0⟩
def zAw {t:Ty} (h:t.Kind=2):dD t=fP t:=by simp [dD,fP,h]
def zOs {b:Int} (h1:2<=b) (h2:b<=31):1<=gC b/\gC b<=1073741824:=by
 unfold gC
 have h3:(b-1).toNat<=30:=by omega
 have h4:(2:Int)^(b-1).toNat<=2^30:=by
  have:=ki (n:=2) zA h3
  exact_mod_cast this
 have h5:(1:Int)<=2^(b-1).toNat:=by
  have:=Nat.one_le_two_pow (n:=(b-1).toNat)
  exact_mod_cast this
 omega
/-! ## Conditions as the walks meet them -/
def lin_mk {a b:Lf} (h:a.K=b.K) (k:a.L=b.L):a=b:=by cases a;cases b;simp_all
def mono_ne {x y:Mono} (h:(!bZ x.cells y.cells)=true):¬x=y:=by
 rintro rfl
 simp [bZ,cEq,Mono.cells] at h
def mono_eq {x y:Mono} (h:(!bZ x.cells y.cells)=false):x=y:=by
 cases x;cases y
 simpa [bZ,cEq,Mono.cells] using h
def vY (s:lr) (k:Nat):Int:=(s.data.toList.getD k 0).toNat
def vT (s:lr):Bool:=(((decide ((s.size:Int)<1)||decide ((16:Int)<s.size))||bP fX s)||decide (vY s 0<97))||decide (122<vY s 0)
variable {s:lr}
def ident_no (h:vT s=true):bB s=false:=by
 unfold vT vY at h
 cases hn:bB s with
 |false=>rfl
 |true=>
  exfalso
  simp only [bB,ae,ah,ao] at hn
  obtain ⟨⟨⟨⟨h1,h2⟩,h3⟩,h4⟩,h5⟩:=hn
  have h6:s.data.toList.head? =some (s.data.toList.getD 0 0):=by rw [gm];exact zEy zA
  rw [h6] at h3
  simp only [jk,pD,nI,ae,ah] at h3
  simp only [aI,ah,h5] at h
  rcases h with (((h|h)|h)|h)|h
  ·omega
  ·omega
  ·cases h
  ·omega
  ·omega
def ident_yes (h:vT s=false):1<=s.size/\s.size<=16/\bB s=s.data.toList.all jE:=by
 unfold vT vY at h
 simp only [al,aj] at h
 obtain ⟨⟨⟨⟨h1,h2⟩,h3⟩,h4⟩,h5⟩:=h
 have h7:1<=s.size:=by omega
 refine ⟨h7,zA,?_⟩
 have h6:s.data.toList.head? =some (s.data.toList.getD 0 0):=by rw [gm];exact zEy zA
 unfold bB
 rw [h6,h3]
 have e1:decide (1<=s.size)=true:=by simp;omega
 have e2:decide (s.size<=16)=true:=by simp;omega
 have e3:pD (s.data.toList.getD 0 0)=true:=by simp only [pD,nI,ae,ah];omega
 simp only [e1,e2,jk,e3,aL,ca,bv]
def sZ (n:Int):Bool:=((decide (n<97)||decide (122<n))&&(decide (n<48)||decide (57<n)))&& !decide (n=95)
def notWord_eq (c:UInt8):sZ c.toNat= !jE c:=by
 unfold sZ jE rX nI vU
 rw [bz]
 simp only [ae,aI,ao,al,bm,ah,aj]
 omega
def word_no (hlt:k<s.size) (h:sZ ((s.data.toList.getD k 0).toNat:Int)=true):s.data.toList.all jE=false:=by
 rw [notWord_eq] at h
 rw [li]
 exact ⟨_,bg (zEy hlt),by simpa using h⟩
def word_yes (hlt:k<s.size) (hp:(s.data.toList.take k).all jE=true) (h:sZ ((s.data.toList.getD k 0).toNat:Int)=false):(s.data.toList.take (k+1)).all jE=true:=by
 rw [notWord_eq] at h
 rw [zRm (zEy hlt),hp]
 simpa using h
def word_all (hp:(s.data.toList.take k).all jE=true) (h:¬k<s.size):s.data.toList.all jE=true:=by
 rw [aS uE] at hp
 exact hp
def vJ (t:Ty):Bool:=decide (t.Bits=0)&&decide (t.Frac=0)&&decide (t.Round=0)&&decide (t.Over=0)
def plainT_eq (t:Ty):bZ [cI t.Kind,cI t.Bits,cI t.Frac,cI t.Round,cI t.Over] [cI t.Kind,.lit (.int .i64 0),.lit (.int .i64 0),.lit (.int .i64 0),.lit (.int .i64 0)]=vJ t:=by
 simp [bZ,cEq,vJ,ij]
def tA (t:Ty):Bool:=((((!decide (t.Kind=2)||decide (t.Bits<2))||decide (31<t.Bits))||decide (t.Frac<0))||decide (30<t.Frac))|| !((decide (1<=t.Round)&&decide (t.Round<=4))&&(decide (t.Over=1)||decide (t.Over=2)))
def fixCond_eq (t:Ty):tA t= !fP t:=by
 unfold tA fP
 rw [bz]
 simp only [ae,aI,ao,al,bm,ah,aj]
 omega
def fix_no {t:Ty} (h:tA t=true):fP t=false:=by rw [fixCond_eq] at h;simpa using h
def fix_yes {t:Ty} (h:tA t=false):fP t=true:=by rw [fixCond_eq] at h;simpa using h
def type1 {t:Ty} (h:(decide (t.Kind=1)||decide (t.Kind=3))=true):(((decide (t.Bits=0)&&decide (t.Frac=0))&&decide (t.Round=0))&&decide (t.Over=0))=dD t:=by
 unfold dD
 rw [h]
 have:decide (t.Kind=2)=false:=by
  simp only [aI,ah] at h
  simp;omega
 simp [this]
def type2 {t:Ty} (h:(decide (t.Kind=1)||decide (t.Kind=3))=false):(((((((decide (t.Kind=2)&&decide (2<=t.Bits))&&decide (t.Bits<=31))&&decide (0<=t.Frac))&&decide (t.Frac<=30))&&decide (1<=t.Round))&&decide (t.Round<=4))&&(decide (t.Over=1)||decide (t.Over=2)))=dD t:=by
 unfold dD
 rw [h]
 simp
def tyk1 {t:Ty} (h:t.Kind=1∨t.Kind=3):dD t=vJ t:=by
 rw [←type1 (t:=t) (by simpa using h)];rfl
def tyk0 {t:Ty} (h1:¬t.Kind=1) (h3:¬t.Kind=3) (h2:¬t.Kind=2):dD t=false:=by
 simp [dD,h1,h2,h3]
def tyErr_ne {t:Ty} (h:¬dT t=0):dD t=false:=by
 unfold dT at h;cases ht:dD t<;>simp_all
def zMm {t:Ty} (h:dT t=0):dD t=true:=by
 unfold dT at h;cases ht:dD t<;>simp_all
def zEt {n:Int} (h:0<=n/\n<=18446744073709551615):IntKind.u64.wrap n=n:=IntWalk.u64_in _ h
def zQc {b:Int} (h1:2<=b) (h2:b<=31):IntKind.i64.wrap (1*2^(min (IntKind.u64.wrap (b-1)).toNat IntKind.i64.bits))=gC b:=by
 rw [zEt zA]
 have h3:=zOs h1 h2
 have h4:min (b-1).toNat IntKind.i64.bits=(b-1).toNat:=bw (by simp [IntKind.bits];omega)
 rw [h4,gu]
 exact zDf ⟨by unfold gC at h3;omega,by unfold gC at h3;omega⟩
def min_eq {b:Int} (h1:2<=b) (h2:b<=31):IntKind.i64.wrap (-(IntKind.i64.wrap (1*2^(min (IntKind.u64.wrap (b-1)).toNat IntKind.i64.bits))))= -gC b:=by
 rw [zQc h1 h2]
 have:=zOs h1 h2
 exact zDf ⟨zA,zA⟩
def max_eq {b:Int} (h1:2<=b) (h2:b<=31):IntKind.i64.wrap (IntKind.i64.wrap (1*2^(min (IntKind.u64.wrap (b-1)).toNat IntKind.i64.bits))-1)=gC b-1:=by
 rw [zQc h1 h2]
 have:=zOs h1 h2
 exact zDf ⟨zA,zA⟩
def fixB {t:Ty} (h:fP t=true):2<=t.Bits/\t.Bits<=31:=by
 simp only [fP,ae,ah] at h
 omega
def fxz {t:Ty} (h:(bif fP t then (0:Int) else 10)=0):fP t=true:=by cases ht:fP t<;>simp_all
def fxn {t:Ty} (h:¬(bif fP t then (0:Int) else 10)=0):fP t=false:=by cases ht:fP t<;>simp_all
def fxa {t:Ty} {p:Bool} (h:Lz (decide ((bif fP t then (0:Int) else 10)=0)&&p) true=true):fP t=true:=by
 simp only [Lz,ay,ae,ah] at h
 exact fxz h.1
def fxb {t:Ty} {p q:Bool} (h:Lz (decide ((bif fP t then (0:Int) else 10)=0)&&p&&q) true=true):fP t=true:=by
 simp only [Lz,ay,ae,ah] at h
 exact fxz h.1.1
def fixV (t:Ty) (v:Vl):(decide ((bif fP t then (0:Int) else 10)=0)&&decide (v.D=1)&&decide (-gC t.Bits<=v.N)&&decide (v.N<=gC t.Bits-1))=(fP t&&(decide (v.D=1)&&decide (-gC t.Bits<=v.N)&&decide (v.N<gC t.Bits))):=by
 have:decide (v.N<=gC t.Bits-1)=decide (v.N<gC t.Bits):=da.2 zA
 rw [this]
 cases fP t<;>simp
def mag_neg {n:Int} (h:n<0) (hn: -9223372036854775808<=n):IntKind.u64.wrap (-(IntKind.u64.wrap n))=n.natAbs:=by
 have e:IntKind.u64.wrap n=n+18446744073709551616:=by simp [IntKind.wrap,IntKind.bits,IntKind.signed];omega
 rw [e]
 simp [IntKind.wrap,IntKind.bits,IntKind.signed];omega
def mag_pos {n:Int} (h:¬n<0) (hn:n<=9223372036854775807):IntKind.u64.wrap n=n.natAbs:=by
 rw [zEt zA];omega
def gcd_step {x y:Nat} (h:¬y=0):Nat.gcd x y=Nat.gcd y (x%y):=by
 rw [Nat.gcd_comm x y,Nat.gcd_rec y x,Nat.gcd_comm]
def frV {v:Vl} (h:Lz (decide (1<=v.D)&&decide (v.D<=2147483647)&&dX v.N) true=true):1<=v.D/\v.D<=2147483647/\ -9223372036854775808<=v.N/\v.N<=9223372036854775807:=by
 simp only [Lz,ay,ae,ah,dX] at h
 omega
def u64_D {d:Int} (h1:1<=d) (h2:d<=2147483647):IntKind.u64.wrap d=d.natAbs:=by
 rw [zEt zA];omega
def max_abs {n:Int} (h1: -2147483647<=n) (h2:n<=2147483647):max n (IntKind.i64.wrap (-n))=n.natAbs:=by
 rw [zDf ⟨zA,zA⟩];omega
def vG (v:Vl):Bool:=((decide (2147483647<v.N)||decide (v.N< -2147483647))||decide (v.D<1))||decide (2147483647<v.D)
def val_in {v:Vl} (h:vG v=false): -2147483647<=v.N/\v.N<=2147483647/\1<=v.D/\v.D<=2147483647:=by
 simp only [vG,al,aj] at h
 omega
def val_out {t:Ty} {v:Vl} (hk:¬t.Kind=2) (h:vG v=true):bQ t v=false:=by
 unfold bQ dX
 rw [qX hk]
 simp only [vG,aI,ah] at h
 by_cases h3:t.Kind=3
 ·simp [h3];omega
 ·simp [h3];omega
def valfix {t:Ty} {v:Vl} (hk:t.Kind=2) (b1:2<=t.Bits) (b2:t.Bits<=31):(decide (v.D=1)&&decide (IntKind.i64.wrap (-(IntKind.i64.wrap (1*2^(min (t.Bits-1).toNat IntKind.i64.bits))))<=v.N)&&decide (v.N<IntKind.i64.wrap (1*2^(min (t.Bits-1).toNat IntKind.i64.bits))))=bQ t v:=by
 have e:=zQc b1 b2
 have e':=min_eq b1 b2
 rw [zEt zA] at e e'
 rw [e',e,bQ,hk]
 rfl
/-! ## Expressions -/
def bR (op:Int):Int:=if op=1∨op=2∨op=3 then 0 else if op=8∨op=12∨op=18 then 1 else if op=11 then 3 else 2
def bJ (e:Ex):Bool:=decide (13<=e.Op)&&decide (e.Op<=18)
def gD (op i:Int):Bool:=(((decide (op=11)&&decide (i=0))||decide (op=16))||decide (op=17))||decide (op=18)
def rL (l:Lf):Bool:=decide (l.K=0)&&decide ((l.L.length:Int)=0)
def mK (x:Ix):Bool:=bif decide (x.From=bs []) then decide ((x.At.length:Int)=0) else rL x.Lin
def xP (v:Vl):Bool:=bZ [cI v.N,cI v.D] [cI 0,cI 0]
def ty0 (t:Ty):Bool:=bZ [cI t.Kind,cI t.Bits,cI t.Frac,cI t.Round,cI t.Over] [cI 0,cI 0,cI 0,cI 0,cI 0]
def lK (e:Ex):Bool:=
 !(decide (e.Op<1)||decide (18<e.Op))&& !(!decide (e.Op=1)&& !xP e.Val)&& !(!(decide (e.Op=1)||decide (e.Op=12))&& !ty0 e.Ty)&& !(!decide (e.Op=2)&& !rL e.Lin)&&
 !(!decide (e.Op=3)&&(!decide (e.Name=bs [])||decide ((0:Int)<e.Idx.length)))&&e.Idx.all mK
def vN (x:Ix):Bool:= !(!decide (x.From=bs [])&& !bB x.From)
def nO (e:Ex):Bool:= !(decide (e.Op=3)&& !bB e.Name)&&e.Idx.all vN
def tS (x:Ix):Bool:= !decide ((6:Int)<x.At.length)
def nT (e:Ex):Bool:= !(!decide ((e.Args.length:Int)=bR e.Op)||decide ((6:Int)<e.Idx.length))&&e.Idx.all tS
def gL (op i:Int):List Ex->Bool
 |[]=>true
 |a::r=>(bJ a==gD op i)&&gL op (i+1) r
def lF (e:Ex):Bool:= !((decide (e.Op=1)||decide (e.Op=12))&& !dD e.Ty)&&gL e.Op 0 e.Args
def dC (e:Ex):List Lf:=e.Lin::e.Idx.flatMap fun x=>x.Lin::x.At
def lW (e:Ex):Bool:= !(decide (e.Op=1)&& !bQ e.Ty e.Val)&&(dC e).all bI
def dE (e:Ex):Int:=bif !lK e then 5 else bif !nO e then 7 else bif !nT e then 11 else bif !lF e then 10 else bif !lW e then 1 else 0
mutual
def dI:Ex->List Ex
 |.mk o n v t l i arg_=>.mk o n v t l i arg_::bU arg_
def bU:List Ex->List Ex
 |[]=>[]
 |e::r=>dI e++bU r
end
def wC (e:Ex):dI e=e::bU e.Args:=by cases e;rw [dI];rfl
def zQa (a b:List Ex):bU (a++b)=bU a++bU b:=by
 induction a with
 |nil=>rfl
 |cons x r ih=>rw [lCa,bU,bU,ih,lAa]
def jR:List Ex->Int
 |[]=>0
 |e::r=>bif decide (dE e=0) then jR r else dE e
def zHo (a b:List Ex):jR (a++b)=bif decide (jR a=0) then jR b else jR a:=by
 induction a with
 |nil=>rfl
 |cons x r ih=>
  rw [lCa,jR,jR,ih]
  by_cases h:dE x=0
  ·simp [h]
  ·simp [h]
def dN (e:Ex):Int:=jR (dI e)
def tJ (l:List Ex):Int:=jR (bU l)
def zHl (e:Ex):dN e=bif decide (dE e=0) then tJ e.Args else dE e:=by rw [dN,wC,jR];rfl
def zSg (e:Ex) (r:List Ex):tJ (e::r)=bif decide (dN e=0) then tJ r else dN e:=by rw [tJ,bU,zHo];rfl
def tW (f:Ex->Int) (d:Int):List Ex->Int
 |[]=>d
 |a::r=>tW f (max d (1+f a)) r
def mF:Nat->Ex->Int
 |0,_=>1
 |n+1,e=>tW (mF n) 1 e.Args
def depF_le {f:Ex->Int} {n:Int} (h:∀a,1<=f a/\f a<=n):∀(l:List Ex) (d:Int),1<=d->d<=n+1->1<=tW f d l/\tW f d l<=n+1
 |[],d,h1,h2=>⟨h1,h2⟩
 |a::r,d,h1,h2=>by
  have:=h a
  exact depF_le h r _ zA zA
def depT_le:∀(n:Nat) (e:Ex),1<=mF n e/\mF n e<=n+1
 |0,e=>by simp [mF]
 |n+1,e=>by
  have:=depF_le (n:=n+1) (depT_le n) e.Args 1 zA zA
  rw [mF];omega
mutual
def tR:Ex->Nat->Nat
 |.mk _ _ _ _ _ _ arg_,most=>tF arg_ most 1
def tF:List Ex->Nat->Nat->Nat
 |[],_,n=>n
 |a::r,most,n=>if n<=most then tF r most (n+tR a (most-n)) else n
end
def sizE_eq (e:Ex) (m:Nat):tR e m=tF e.Args m 1:=by cases e;rw [tR];rfl
mutual
def sizE_min:∀(e:Ex) (m:Nat),tR e m=min (dI e).length (m+1)
 |.mk o n v t l i arg_,m=>by
  rw [tR,dI,sizL_min arg_ m 1 zA]
  simp;omega
def sizL_min:∀(l:List Ex) (m n:Nat),n<=m+1->tF l m n=min (n+(bU l).length) (m+1)
 |[],m,n,h=>by simp [tF,bU];omega
 |a::r,m,n,h=>by
  rw [tF,bU,lLa]
  split
  ·rename_i hn
   rw [sizE_min a (m-n),sizL_min r m _ zA]
   omega
  ·omega
end
def szT (e:Ex):Nat:=min (dI e).length 2001
def gI (e:Ex):Int:=bif decide (40<mF 40 e) then 13 else bif decide ((2000:Int)<szT e) then 2 else dN e
def nodes_wt:∀e:Ex,(dI e).length<=e.wt:=by
 intro e
 induction e using Ex.ind with
 |_ e ih=>
  rw [wC,Ex.wt_eq]
  have:∀l:List Ex,(∀a,a∈l->(dI a).length<=a.wt)->(bU l).length<=fC l:=by
   intro l hl
   induction l with
   |nil=>simp [bU]
   |cons a r ihr=>
    rw [bU,fC,lLa]
    have h1:=hl a uD
    have h2:=ihr fun b hb=>hl b (by simp [hb])
    omega
  have:=this e.Args ih
  simp;omega
def zGq:∀(e x:Ex),x∈dI e->x.wt<=e.wt:=by
 intro e
 induction e using Ex.ind with
 |_ e ih=>
  intro x hx
  rw [wC] at hx
  rcases af.1 hx with rfl|hx
  ·omega
  ·have:∀l:List Ex,(∀a,a∈l->a∈e.Args)->x∈bU l->x.wt<=e.wt:=by
    intro l hl hx
    induction l with
    |nil=>simp [bU] at hx
    |cons a r ihr=>
     rw [bU] at hx
     rcases aq.1 hx with h|h
     ·have h1:=ih a (hl a uD) x h
      have h2:=Ex.arg_wt (hl a uD)
      omega
     ·exact ihr (fun b hb=>hl b (by simp [hb])) h
   exact this e.Args (fun a h=>h) hx
def zLo (l:List α) (p:α->Bool):(!l.any fun x=> !p x)=l.all p:=by
 induction l with
 |nil=>rfl
 |cons x r ih=>simp only [ep,aW,←ih];cases p x<;>simp
def zVs {x:α} (h:l[k]? =some x) (hp:l.all p=(l.drop k).all p) (hx:p x=true):l.all p=(l.drop (k+1)).all p:=by
 rw [hp,qQ h,aW,hx];rfl
def zMk {x:α} (h:l[k]? =some x) (hx:p x=false):l.all p=false:=by
 rw [li];exact ⟨x,qA h,by simp [hx]⟩
def all_end (hp:l.all p=(l.drop k).all p) (h:¬k<l.length):l.all p=true:=by
 rw [hp,kL h];rfl
def tyErr_dec (t:Ty):decide (dT t=0)=dD t:=by unfold dT;cases dD t<;>rfl
def zLt {l:Lf} (h:¬dY l=0):bI l=false:=by unfold dY at h;cases hl:bI l<;>simp_all
def zLu {l:Lf} (h:dY l=0):bI l=true:=by unfold dY at h;cases hl:bI l<;>simp_all
def plain2 {b:Bool} (h:((!decide (e.Op=1)&& !bZ [cI e.Val.N,cI e.Val.D] [cI 0,cI 0])||((!decide (e.Op=1)&& !decide (e.Op=12))&& !bZ [cI e.Ty.Kind,cI e.Ty.Bits,cI e.Ty.Frac,cI e.Ty.Round,cI e.Ty.Over] [cI 0,cI 0,cI 0,cI 0,cI 0]))=b):
  ((!decide (e.Op=1)&& !xP e.Val)||(!(decide (e.Op=1)||decide (e.Op=12))&& !ty0 e.Ty))=b:=by
 rw [←h];unfold xP ty0;cases decide (e.Op=1)<;>simp
def plain3 {b:Bool} (h:((!decide (e.Op=2)&&(!decide (e.Lin.K=0)||decide ((0:Int)<e.Lin.L.length)))||(!decide (e.Op=3)&&(!decide (e.Name=bs [])||decide ((0:Int)<e.Idx.length))))=b):
  ((!decide (e.Op=2)&& !rL e.Lin)||(!decide (e.Op=3)&&(!decide (e.Name=bs [])||decide ((0:Int)<e.Idx.length))))=b:=by
 rw [←h]
 have:(!rL e.Lin)=(!decide (e.Lin.K=0)||decide ((0:Int)<e.Lin.L.length)):=by
  unfold rL
  rw [Bool.not_and]
  congr 1
  exact v32
 rw [this]
def well_dec {b:Bool} (h:((decide (x.From=bs [])&&decide ((0:Int)<x.At.length))||(!decide (x.From=bs [])&&(!decide (x.Lin.K=0)||decide ((0:Int)<x.Lin.L.length))))=b):(!mK x)=b:=by
 rw [←h]
 unfold mK rL
 by_cases hf:x.From=bs []
 ·simp only [hf,jf,ay,aL,bf,aZ,gi]
  exact v32
 ·simp only [hf,decide_false,az,aZ,ca,aL,eu,Bool.not_and]
  congr 1
  exact v32
def syn2 (h:((!decide (e.Op=1)&& !xP e.Val)||(!(decide (e.Op=1)||decide (e.Op=12))&& !ty0 e.Ty))=true):false=lK e:=by
 unfold lK
 rw [aI] at h
 rcases h with h|h<;>simp only [h,bf,co,aZ]
def syn3 (h:((!decide (e.Op=2)&& !rL e.Lin)||(!decide (e.Op=3)&&(!decide (e.Name=bs [])||decide ((0:Int)<e.Idx.length))))=true):false=lK e:=by
 unfold lK
 rw [aI] at h
 rcases h with h|h<;>simp only [h,bf,co,aZ]
def syn5 (h1:(decide (e.Op<1)||decide (18<e.Op))=false) (h2:((!decide (e.Op=1)&& !xP e.Val)||(!(decide (e.Op=1)||decide (e.Op=12))&& !ty0 e.Ty))=false) (h3:((!decide (e.Op=2)&& !rL e.Lin)||(!decide (e.Op=3)&&(!decide (e.Name=bs [])||decide ((0:Int)<e.Idx.length))))=false) (h4:e.Idx.all mK=true):true=lK e:=by
 unfold lK
 obtain ⟨a,b⟩:=al.1 h2
 obtain ⟨c,d⟩:=al.1 h3
 simp only [h1,a,b,c,d,h4,ca,Bool.and_self]
def form_start (h:((decide (e.Op=1)&& !bQ e.Ty e.Val)|| !bI e.Lin)=false):(dC e).all bI=((e.Idx.drop 0).flatMap fun x=>x.Lin::x.At).all bI:=by
 obtain ⟨_,h2⟩:=al.1 h
 rw [dC,aW,show bI e.Lin=true by simpa using h2];rfl
def form_no (h:((decide (e.Op=1)&& !bQ e.Ty e.Val)|| !bI e.Lin)=true):false=lW e:=by
 unfold lW dC
 rw [aI] at h
 rcases h with h|h
 ·simp only [h,bf,aZ]
 ·rw [aW,show bI e.Lin=false by simpa using h];simp
def form_no2 {l:List Lf} (h:(dC e).all bI=l.all bI) (h2:l.all bI=false):false=lW e:=by
 unfold lW;rw [h,h2,co]
def form_yes (h:((decide (e.Op=1)&& !bQ e.Ty e.Val)|| !bI e.Lin)=false) (h2:(dC e).all bI=true):true=lW e:=by
 obtain ⟨h1,_⟩:=al.1 h
 unfold lW;rw [h1,h2];rfl
def types_ty (h:lF e=true):e.Op=1->dD e.Ty=true:=by
 intro h1
 simp only [lF,h1,jf,Bool.true_or,aL,Bool.not_not,ae] at h
 exact h.1
variable {n:Nat}
def dep_start (h:n≠0):mF n e=tW (mF (n-1)) 1 (e.Args.drop 0):=by
 cases n with
 |zero=>exact absurd rfl h
 |succ n=>rfl
def dep_end {l d:Int} (hl:l=n+1) (c:e.Args.length<=k∨l<=1) (h3:n≠0->mF n e=tW (mF (n-1)) d (e.Args.drop k)) (h4:n=0->d=1):d=mF n e:=by
 by_cases h0:n=0
 ·rw [h4 h0,h0];rfl
 ·rw [h3 h0,kL zA];rfl
variable {m:Nat}
def siz_end {l:List Ex} {x:Int} (hl:x=m) (h:l.length<=k∨x<n):n=tF (l.drop k) m n:=by
 by_cases hk:k<l.length
 ·obtain ⟨a,ha⟩:=qZ l k hk
  rw [qQ ha,tF,aa zA]
 ·rw [kL hk,tF]
abbrev ixF (x:Ix):List Lf:=x.Lin::x.At
def forms_at (h:e.Idx[k]? =some x):dC e=(e.Lin::(e.Idx.take k).flatMap ixF)++x.Lin::(x.At++(e.Idx.drop (k+1)).flatMap ixF):=by
 have e1:e.Idx=e.Idx.take k++x::e.Idx.drop (k+1):=by rw [←qQ h,aM]
 have e2:dC e=e.Lin::e.Idx.flatMap ixF:=rfl
 have e3:e.Idx.flatMap ixF=(e.Idx.take k++x::e.Idx.drop (k+1)).flatMap ixF:=ag _ e1
 rw [e2,e3,ef,cg]
 simp [ixF]
def forms_at2 {j:Nat} {l:Lf} (h:e.Idx[k]? =some x) (hl:x.At[j]? =some l):dC e=((e.Lin::(e.Idx.take k).flatMap ixF)++[x.Lin]++x.At.take j)++l::(x.At.drop (j+1)++(e.Idx.drop (k+1)).flatMap ixF):=by
 rw [forms_at h]
 have e1:x.At=x.At.take j++l::x.At.drop (j+1):=by rw [←qQ hl,aM]
 have e2:x.At++(e.Idx.drop (k+1)).flatMap ixF=(x.At.take j++l::x.At.drop (j+1))++(e.Idx.drop (k+1)).flatMap ixF:=ag (· ++(e.Idx.drop (k+1)).flatMap ixF) e1
 rw [e2]
 simp
def forms_next (h:e.Idx[k]? =some x):e.Lin::(e.Idx.take (k+1)).flatMap ixF=(e.Lin::(e.Idx.take k).flatMap ixF)++[x.Lin]++x.At:=by
 rw [yR h,ef];simp [ixF]
variable {pre:List Ex}
def nodes_at (h:e.Args[k]? =some a) {suf:List Ex} {x:Ex} (hx:dI a=pre++x::suf):dI e=(e::bU (e.Args.take k)++pre)++x::(suf++bU (e.Args.drop (k+1))):=by
 have e1:e.Args=e.Args.take k++a::e.Args.drop (k+1):=by rw [←qQ h,aM]
 have e2:bU e.Args=bU (e.Args.take k)++(dI a++bU (e.Args.drop (k+1))):=by
  have:=ag bU e1
  rw [zQa,bU] at this
  exact this
 rw [wC,e2,hx]
 simp
def zXn {l:List Ex} (h:l[k]? =some a):bU (l.take (k+1))=bU (l.take k)++dI a:=by
 rw [yR h,zQa,bU,bU,lAn]
def forms_wt {l:Lf} (he:e.wt<=B) (h:l∈dC e):l.L.length<=B:=by
 unfold dC at h
 rcases af.1 h with rfl|h
 ·exact (e.parts he).1
 ·obtain ⟨x,hx,hl⟩:=cf.1 h
  have h1:=Ex.idx_wt hx
  rcases af.1 hl with rfl|hl
  ·omega
  ·have:=zEn hl;omega
def node5 {b:Bool} (h:lF e=true) (c:(decide (e.Op=1)&& !(dD e.Ty&&bQ e.Ty e.Val))=b):(decide (e.Op=1)&& !bQ e.Ty e.Val)=b:=by
 rw [←c]
 by_cases h1:e.Op=1
 ·rw [types_ty h h1];simp [h1]
 ·simp [h1]
def all_app_no {pre suf:List α} {x:α} (h:(pre++[x]).all p=false):(pre++x::suf).all p=false:=by
 rw [show pre++x::suf=(pre++[x])++suf by simp,bx,h];rfl
def errs_one {x:Ex} (h:jR pre=0) (c:¬dE x=0):jR (pre++[x])=dE x:=by
 rw [zHo,h,jR,qX c];rfl
def errs_pre {suf:List Ex} {x:Ex} (h:¬jR (pre++[x])=0):jR (pre++x::suf)=jR (pre++[x]):=by
 rw [show pre++x::suf=(pre++[x])++suf by simp,zHo,qX h];rfl
/-! ## Equality,part by part -/
def ix_eq (a b:Ix):((decide (a.From=b.From)&&decide (a.Lin=b.Lin))&&decide (a.At=b.At))=decide (a=b):=by
 rw [bz];simp only [ae,ah]
 cases a;cases b;simp only [Ix.mk.injEq]
 constructor
 ·rintro ⟨⟨h1,h2⟩,h3⟩;exact ⟨h2,h1,h3⟩
 ·rintro ⟨h1,h2,h3⟩;exact ⟨⟨h2,h1⟩,h3⟩
def litsEq_val (a b:Vl):bZ [cI a.N,cI a.D] [cI b.N,cI b.D]=decide (a=b):=by
 rw [bz];cases a;cases b;simp [bZ,cEq]
def litsEq_ty (a b:Ty):bZ [cI a.Kind,cI a.Bits,cI a.Frac,cI a.Round,cI a.Over] [cI b.Kind,cI b.Bits,cI b.Frac,cI b.Round,cI b.Over]=decide (a=b):=by
 rw [bz];cases a;cases b;simp [bZ,cEq]
def ex_eq (a b:Ex):((((((decide (a.Op=b.Op)&&decide (a.Name=b.Name))&&bZ [cI a.Val.N,cI a.Val.D] [cI b.Val.N,cI b.Val.D])&&bZ [cI a.Ty.Kind,cI a.Ty.Bits,cI a.Ty.Frac,cI a.Ty.Round,cI a.Ty.Over] [cI b.Ty.Kind,cI b.Ty.Bits,cI b.Ty.Frac,cI b.Ty.Round,cI b.Ty.Over])&&decide (a.Lin=b.Lin))&&decide (a.Idx=b.Idx))&&decide (a.Args=b.Args))=decide (a=b):=by
 rw [litsEq_val,litsEq_ty,bz]
 simp only [ae,ah,Ex.eq_iff]
 constructor
 ·rintro ⟨⟨⟨⟨⟨⟨h1,h2⟩,h3⟩,h4⟩,h5⟩,h6⟩,h7⟩;exact ⟨h1,h2,h3,h4,h5,h6,h7⟩
 ·rintro ⟨h1,h2,h3,h4,h5,h6,h7⟩;exact ⟨⟨⟨⟨⟨⟨h1,h2⟩,h3⟩,h4⟩,h5⟩,h6⟩,h7⟩
/-! ## Weights -/
def gP (m n:Nat):List Lf->Nat
 |[]=>n
 |l::r=>if n<=m then gP m (n+l.L.length) r else n
def fN (m n:Nat):List Ix->Nat
 |[]=>n
 |x::r=>if n<=m then fN m (gP m (n+x.Lin.L.length+x.At.length) x.At) r else n
mutual
def gG:Ex->Nat->Nat
 |.mk _ _ _ _ l i arg_,m=>lE arg_ m (fN m (1+l.L.length+i.length) i)
def lE:List Ex->Nat->Nat->Nat
 |[],_,n=>n
 |a::r,m,n=>if n<=m then lE r m (n+gG a (m-n)) else n
end
def weighE_eq (e:Ex) (m:Nat):gG e m=lE e.Args m (fN m (1+e.Lin.L.length+e.Idx.length) e.Idx):=by cases e;rw [gG];rfl
def Ix.fit (x:Ix):Prop:=x.Lin.L.length<=140737488355328/\x.At.length<=140737488355328/\∀l,l∈x.At->l.L.length<=140737488355328
mutual
def Ex.fit:Ex->Prop
 |.mk _ _ _ _ l i arg_=>l.L.length<=140737488355328/\i.length<=140737488355328/\arg_.length<=140737488355328/\(∀x,x∈i->x.fit)/\cZ arg_
def cZ:List Ex->Prop
 |[]=>True
 |a::r=>a.fit/\cZ r
end
def fitL_mem {l:List Ex} (h:cZ l):∀a,a∈l->a.fit:=by
 induction l with
 |nil=>intro a ha;cases ha
 |cons x r ih=>
  intro a ha
  rcases af.1 ha with rfl|ha
  ·exact h.1
  ·exact ih h.2 a ha
def Ex.fit_eq (h:e.fit):e.Lin.L.length<=140737488355328/\e.Idx.length<=140737488355328/\e.Args.length<=140737488355328/\(∀x,x∈e.Idx->x.fit)/\∀a,a∈e.Args->a.fit:=by
 cases e with
 |mk o n v t l i arg_=>rw [Ex.fit] at h;exact ⟨h.1,h.2.1,h.2.2.1,h.2.2.2.1,fitL_mem h.2.2.2.2⟩
def zRq (m:Nat):∀(l:List Lf) (n:Nat),n<=gP m n l
 |[],n=>aH _
 |x::r,n=>by
  rw [gP];split
  ·have:=zRq m r (n+x.L.length);omega
  ·omega
def zVw (m:Nat):∀(l:List Ix) (n:Nat),n<=fN m n l
 |[],n=>aH _
 |x::r,n=>by
  rw [fN];split
  ·have h1:=zRq m x.At (n+x.Lin.L.length+x.At.length)
   have:=zVw m r (gP m (n+x.Lin.L.length+x.At.length) x.At);omega
  ·omega
def zVy (m:Nat):∀(l:List Lf) (n:Nat),gP m n l<=m->n+fI l<=gP m n l
 |[],n,_=>by simp [gP,fI]
 |y::r,n,h=>by
  have hn:n<=m:=cc (zRq m (y::r) n) h
  rw [gP,ab hn] at h⊢
  have:=zVy m r _ h
  rw [fI];omega
def zTi (m:Nat):∀(l:List Ix) (n:Nat),fN m n l<=m->n+dO l<=fN m n l
 |[],n,_=>by simp [fN,dO]
 |x::r,n,h=>by
  have hn:n<=m:=cc (zVw m (x::r) n) h
  rw [fN,ab hn] at h⊢
  have h1:=zTi m r _ h
  have h2:=zVy m x.At (n+x.Lin.L.length+x.At.length) zA
  rw [dO,Ix.wt];omega
mutual
def zVx:∀(e:Ex) (m:Nat),gG e m<=m->e.wt<=gG e m
 |.mk o n v t l i arg_,m,h=>by
  rw [gG] at h⊢
  have h1:=weighL_wt arg_ m _ h
  have h2:=zTi m i (1+l.L.length+i.length) zA
  rw [Ex.wt];omega
def weighL_wt:∀(l:List Ex) (m n:Nat),lE l m n<=m->n+fC l<=lE l m n
 |[],m,n,h=>by simp [lE,fC]
 |a::r,m,n,h=>by
  by_cases hn:n<=m
  ·rw [lE,ab hn] at h⊢
   have h1:=weighL_wt r m _ h
   have h2:=zVx a (m-n) zA
   rw [fC];omega
  ·rw [lE,aa hn] at h;omega
end
def weighAt_le {m:Nat}:∀(l:List Lf) (n B:Nat),(∀x,x∈l->x.L.length<=140737488355328)->n<=B->m+140737488355328<=B->gP m n l<=B
 |[],n,B,_,h,_=>by simpa [gP] using h
 |x::r,n,B,hx,h,hb=>by
  rw [gP];split
  ·have:=hx x uD
   exact weighAt_le r _ B (fun y hy=>hx y (by simp [hy])) zA hb
  ·exact h
def zVv {m:Nat}:∀(l:List Ix) (n B:Nat),(∀x,x∈l->x.fit)->n<=B->m+3*140737488355328<=B->fN m n l<=B
 |[],n,B,_,h,_=>by simpa [fN] using h
 |x::r,n,B,hx,h,hb=>by
  rw [fN];split
  ·obtain ⟨h1,h2,h3⟩:=hx x uD
   exact zVv r _ B (fun y hy=>hx y (by simp [hy])) (weighAt_le x.At _ B h3 zA zA) hb
  ·exact h
mutual
def zIa:∀(e:Ex) (m:Nat),e.fit->gG e m<=m+4*140737488355328
 |.mk o n v t l i arg_,m,h=>by
  rw [Ex.fit] at h
  obtain ⟨h1,h2,h3,h4,h5⟩:=h
  rw [gG]
  exact weighL_le arg_ m _ h5 (zVv i _ _ h4 zA zA)
def weighL_le:∀(l:List Ex) (m n:Nat),cZ l->n<=m+4*140737488355328->lE l m n<=m+4*140737488355328
 |[],m,n,_,h=>by simpa [lE] using h
 |a::r,m,n,hf,h=>by
  rw [lE];split
  ·have:=zIa a (m-n) hf.1
   exact weighL_le r m _ hf.2 zA
  ·exact h
end
def weighIdx_end {l:List Ix} {x:Int} (hx:x=m) (h:l.length<=k∨x<n):n=fN m n (l.drop k):=by
 by_cases hk:k<l.length
 ·obtain ⟨a,ha⟩:=qZ l k hk
  rw [qQ ha,fN,aa zA]
 ·rw [kL hk,fN]
def weighAt_end {l:List Lf} {x:Int} (hx:x=m) (h:l.length<=k∨x<n):n=gP m n (l.drop k):=by
 by_cases hk:k<l.length
 ·obtain ⟨a,ha⟩:=qZ l k hk
  rw [qQ ha,gP,aa zA]
 ·rw [kL hk,gP]
def weighL_end {l:List Ex} {x:Int} (hx:x=m) (h:l.length<=k∨x<n):n=lE (l.drop k) m n:=by
 by_cases hk:k<l.length
 ·obtain ⟨a,ha⟩:=qZ l k hk
  rw [qQ ha,lE,aa zA]
 ·rw [kL hk,lE]
/-! ## Forms mapped -/
def fE (f:Lf->Lf×Int) (l:Lf):Except Int Lf:=if (f l).2=0 then .ok (f l).1 else .error (f l).2
def fD (f:Lf->Lf×Int):List Lf->Except Int (List Lf)
 |[]=>.ok []
 |l::r=>match fE f l with
  |.error x=>.error x
  |.ok l'=>match fD f r with
   |.error x=>.error x
   |.ok r'=>.ok (l'::r')
def mIx (f:Lf->Lf×Int) (x:Ix):Except Int Ix:=match fE f x.Lin with
 |.error y=>.error y
 |.ok l=>match fD f x.At with
  |.error y=>.error y
  |.ok a=>.ok ⟨l,x.From,a⟩
def fF (f:Lf->Lf×Int):List Ix->Except Int (List Ix)
 |[]=>.ok []
 |x::r=>match mIx f x with
  |.error y=>.error y
  |.ok x'=>match fF f r with
   |.error y=>.error y
   |.ok r'=>.ok (x'::r')
mutual
def mEx (f:Lf->Lf×Int):Ex->Except Int Ex
 |.mk o n v t l i arg_=>match fE f l with
  |.error y=>.error y
  |.ok l'=>match fF f i with
   |.error y=>.error y
   |.ok i'=>match gW f arg_ with
    |.error y=>.error y
    |.ok as'=>.ok (.mk o n v t l' i' as')
def gW (f:Lf->Lf×Int):List Ex->Except Int (List Ex)
 |[]=>.ok []
 |a::r=>match mEx f a with
  |.error y=>.error y
  |.ok a'=>match gW f r with
   |.error y=>.error y
   |.ok r'=>.ok (a'::r')
end
def zEx:Ex:=.mk 0 (bs []) ⟨0,0⟩ ⟨0,0,0,0,0⟩ ⟨0,[]⟩ [] []
def xS:Except Int Ex->Ex
 |.ok e=>e
 |.error _=>zEx
def jV:Except Int α->Int
 |.ok _=>0
 |.error x=>x
def lY {β:Type} (a:Except Int α) (g:α->β):Except Int β:=match a with
 |.error y=>.error y
 |.ok x=>.ok (g x)
def zXt (f:Lf->Lf×Int) (e:Ex):mEx f e=match fE f e.Lin with
  |.error y=>.error y
  |.ok l'=>match fF f e.Idx with
   |.error y=>.error y
   |.ok i'=>match gW f e.Args with
    |.error y=>.error y
    |.ok as'=>.ok (.mk e.Op e.Name e.Val e.Ty l' i' as'):=by cases e;rw [mEx];rfl
variable {f:Lf->Lf×Int}
def zOt {l:Lf} (h:(f l).2=0):fE f l=.ok (f l).1:=ab h
def zQt {l:Lf} (h:¬(f l).2=0):fE f l=.error (f l).2:=aa h
def dS (done:List α) (x:Except Int (List α)):Except Int (List α):=lY x (done++ ·)
def zJt (x:Except Int (List α)):dS [] x=x:=by cases x<;>rfl
variable {done:List Lf}
def mLins_next {l:List Lf} {x:Lf} (h:l[k]? =some x) (hp:fD f l=dS done (fD f (l.drop k))) (hx:(f x).2=0):fD f l=dS (done++[(f x).1]) (fD f (l.drop (k+1))):=by
 rw [hp,qQ h,fD,zOt hx]
 cases fD f (l.drop (k+1))<;>simp [dS,lY]
def mLins_no {l:List Lf} {x:Lf} (h:l[k]? =some x) (hp:fD f l=dS done (fD f (l.drop k))) (hx:¬(f x).2=0):fD f l=.error (f x).2:=by
 rw [hp,qQ h,fD,zQt hx];rfl
def mLins_end {l:List Lf} (hp:fD f l=dS done (fD f (l.drop k))) (h:¬k<l.length):fD f l=.ok done:=by
 rw [hp,kL h];simp [fD,dS,lY]
def mIxs_next {l:List Ix} {y:Ix} {done:List Ix} (h:l[k]? =some x) (hp:fF f l=dS done (fF f (l.drop k))) (hx:mIx f x=.ok y):fF f l=dS (done++[y]) (fF f (l.drop (k+1))):=by
 rw [hp,qQ h,fF,hx]
 cases fF f (l.drop (k+1))<;>simp [dS,lY]
variable {c:Int}
def mIxs_no {l:List Ix} {done:List Ix} (h:l[k]? =some x) (hp:fF f l=dS done (fF f (l.drop k))) (hx:mIx f x=.error c):fF f l=.error c:=by
 rw [hp,qQ h,fF,hx];rfl
def mIxs_end {l:List Ix} {done:List Ix} (hp:fF f l=dS done (fF f (l.drop k))) (h:¬k<l.length):fF f l=.ok done:=by
 rw [hp,kL h];simp [fF,dS,lY]
def errE_ok {x:Except Int α} (h:jV x=0) (h2:x≠ .error 0):∃a,x=.ok a:=by
 cases x with
 |ok a=>exact ⟨a,rfl⟩
 |error y=>exact absurd (by rw [show y=0 from h]) h2
def fE_ne {l:Lf}:fE f l≠ .error 0:=by
 unfold fE;split
 ·simp
 ·rename_i h;intro hh;exact h (Except.error.inj hh)
def mLins_ne {f:Lf->Lf×Int}:∀{l:List Lf},fD f l≠ .error 0
 |[]=>by simp [fD]
 |x::r=>by
  rw [fD]
  cases h1:fE f x with
  |error y=>intro h;cases h;exact fE_ne h1
  |ok a=>
   cases h2:fD f r with
   |error y=>intro h;cases h;exact mLins_ne h2
   |ok a=>simp
def mIx_ne:mIx f x≠ .error 0:=by
 rw [mIx]
 cases h1:fE f x.Lin with
 |error y=>intro h;cases h;exact fE_ne h1
 |ok a=>
  cases h2:fD f x.At with
  |error y=>intro h;cases h;exact mLins_ne h2
  |ok a=>simp
def zXs {f:Lf->Lf×Int}:∀{l:List Ix},fF f l≠ .error 0
 |[]=>by simp [fF]
 |x::r=>by
  rw [fF]
  cases h1:mIx f x with
  |error y=>intro h;cases h;exact mIx_ne h1
  |ok a=>
   cases h2:fF f r with
   |error y=>intro h;cases h;exact zXs h2
   |ok a=>simp
mutual
def mEx_ne {f:Lf->Lf×Int}:∀e:Ex,mEx f e≠ .error 0
 |.mk o n v t l i arg_=>by
  rw [mEx]
  cases h1:fE f l with
  |error y=>intro h;cases h;exact fE_ne h1
  |ok a=>
   cases h2:fF f i with
   |error y=>intro h;cases h;exact zXs h2
   |ok a=>
    cases h3:gW f arg_ with
    |error y=>intro h;cases h;exact mExs_ne arg_ h3
    |ok a=>simp
def mExs_ne {f:Lf->Lf×Int}:∀l:List Ex,gW f l≠ .error 0
 |[]=>by simp [gW]
 |x::r=>by
  rw [gW]
  cases h1:mEx f x with
  |error y=>intro h;cases h;exact mEx_ne x h1
  |ok a=>
   cases h2:gW f r with
   |error y=>intro h;cases h;exact mExs_ne r h2
   |ok a=>simp
end
def mExs_next {l:List Ex} {x:Ex} {done:List Ex} (h:l[k]? =some x) (hp:gW f l=dS done (gW f (l.drop k))) (hx:jV (mEx f x)=0):gW f l=dS (done++[xS (mEx f x)]) (gW f (l.drop (k+1))):=by
 rw [hp,qQ h,gW]
 obtain ⟨y,hy⟩:=errE_ok hx (mEx_ne x)
 rw [hy]
 cases gW f (l.drop (k+1))<;>simp [dS,lY,xS]
def mExs_no {l:List Ex} {x:Ex} {done:List Ex} (h:l[k]? =some x) (hp:gW f l=dS done (gW f (l.drop k))) (hx:¬jV (mEx f x)=0):gW f l=.error (jV (mEx f x)):=by
 rw [hp,qQ h,gW]
 cases hm:mEx f x with
 |error y=>rfl
 |ok y=>rw [hm] at hx;exact absurd rfl hx
def mExs_end {l:List Ex} {done:List Ex} (hp:gW f l=dS done (gW f (l.drop k))) (h:¬k<l.length):gW f l=.ok done:=by
 rw [hp,kL h];simp [gW,dS,lY]
def idF (l:Lf):Lf×Int:=(l,0)
def mLins_id:∀l:List Lf,fD idF l=.ok l
 |[]=>rfl
 |x::r=>by rw [fD,zOt rfl,mLins_id r];rfl
def mIx_id (x:Ix):mIx idF x=.ok x:=by rw [mIx,zOt rfl,mLins_id];rfl
def mIxs_id:∀l:List Ix,fF idF l=.ok l
 |[]=>rfl
 |x::r=>by rw [fF,mIx_id,mIxs_id r]
mutual
def mEx_id:∀e:Ex,mEx idF e=.ok e
 |.mk o n v t l i arg_=>by rw [mEx,zOt rfl,mIxs_id,mExs_id arg_];rfl
def mExs_id:∀l:List Ex,gW idF l=.ok l
 |[]=>by rw [gW]
 |x::r=>by rw [gW,mEx_id x,mExs_id r]
end
/-! ## A row in the middle -/
def mid_get {f:α->List C} {A:List (List C)} {x:α} (hA:A.length=k) (h:l[k]? =some x):(A++(l.drop k).map f)[k]? =some (f x):=by
 rw [qQ h,aK,dl zA,hA];simp
def zXq {f:α->List C} {A:List (List C)} (hA:A.length=k) (h:k<l.length):((k:Int)).toNat<(A++(l.drop k).map f).length:=by
 simp;omega
variable {r:List C}
def zSi {f:α->List C} {A:List (List C)} {x:α} (hA:A.length=k) (h:l[k]? =some x):(A++(l.drop k).map f).set k r=(A++[r])++(l.drop (k+1)).map f:=by
 rw [qQ h,aK,iJ _ _ zA,hA];simp
def mid_set' {f:α->List C} {A B:List (List C)} {l:List α} {r':List C} (hA:A.length=k):((A++[r])++B).set k r'=(A++[r'])++B:=by
 rw [lAa,iJ _ _ zA,hA];simp
def zCx {A:List (List C)} (h:k<A.length):(A.set k r)[k]? =some r:=by
 rw [dk h]
def mid_getE {A:List (List C)} {l:List Ex} {x:Ex} (hA:A.length=k) (h:l[k]? =some x):(A++(l.drop k).map Ex.cells)[k]? =some x.cs:=by
 rw [mid_get hA h,Ex.cells_eq]
def mEx_e1 (h:¬(f e.Lin).2=0):mEx f e=.error (f e.Lin).2:=by rw [zXt,zQt h]
def mEx_e2 (h:(f e.Lin).2=0) (h2:fF f e.Idx=.error c):mEx f e=.error c:=by rw [zXt,zOt h,h2]
def mEx_e3 {i:List Ix} (h:(f e.Lin).2=0) (h2:fF f e.Idx=.ok i) (h3:gW f e.Args=.error c):mEx f e=.error c:=by rw [zXt,zOt h,h2,h3]
def mEx_ok {i:List Ix} {a:List Ex} (h:(f e.Lin).2=0) (h2:fF f e.Idx=.ok i) (h3:gW f e.Args=.ok a):mEx f e=.ok (.mk e.Op e.Name e.Val e.Ty (f e.Lin).1 i a):=by rw [zXt,zOt h,h2,h3]
def mIx_e1 (h:¬(f x.Lin).2=0):mIx f x=.error (f x.Lin).2:=by rw [mIx,zQt h]
def mIx_e2 (h:(f x.Lin).2=0) (h2:fD f x.At=.error c):mIx f x=.error c:=by rw [mIx,zOt h,h2]
def mIx_ok {a:List Lf} (h:(f x.Lin).2=0) (h2:fD f x.At=.ok a):mIx f x=.ok ⟨(f x.Lin).1,x.From,a⟩:=by rw [mIx,zOt h,h2]
def Ex.allF (P:Lf->Prop) (e:Ex):Prop:=∀x,x∈dI e->∀l,l∈dC x->P l
variable {P:Lf->Prop}
def Ex.allF_lin (h:e.allF P):P e.Lin:=h e (by rw [wC];simp) _ (by unfold dC;simp)
def Ex.allF_ix (h:e.allF P) (hx:x∈e.Idx):P x.Lin:=h e (by rw [wC];simp) _ (by unfold dC;exact au _ (cf.2 ⟨x,hx,uD⟩))
def Ex.allF_at (h:e.allF P) (hx:x∈e.Idx) {l:Lf} (hl:l∈x.At):P l:=h e (by rw [wC];simp) _ (by unfold dC;exact au _ (cf.2 ⟨x,hx,by simp [hl]⟩))
def zPz {a x:Ex}:∀{l:List Ex},a∈l->x∈dI a->x∈bU l
 |[],h,_=>by cases h
 |b::r,h,hx=>by
  rw [bU,aq]
  rcases af.1 h with rfl|h
  ·exact .inl hx
  ·exact .inr (zPz h hx)
def Ex.allF_arg (h:e.allF P) (ha:a∈e.Args):a.allF P:=fun x hx=>h x (by rw [wC];exact au _ (zPz ha hx))
/-! ## Counts: all but the lengths of forms -/
def sN:List Ix->Nat
 |[]=>0
 |x::r=>x.At.length+sN r
mutual
def Ex.cnt:Ex->Nat
 |.mk _ _ _ _ _ i r=>1+i.length+sN i+tO r
def tO:List Ex->Nat
 |[]=>0
 |e::r=>e.cnt+tO r
end
def Ex.cnt_eq (e:Ex):e.cnt=1+e.Idx.length+sN e.Idx+tO e.Args:=by cases e;rw [Ex.cnt];rfl
def Ex.cnt_pos (e:Ex):1<=e.cnt:=by rw [Ex.cnt_eq];omega
def ixCnt_mem {l:List Ix} (h:x∈l):x.At.length<=sN l:=by
 induction l with
 |nil=>cases h
 |cons a r ih=>
  rw [sN]
  exact v12
def cntL_len (l:List Ex):l.length<=tO l:=by
 induction l with
 |nil=>simp [tO]
 |cons a r ih=>rw [tO,lLc];have:=a.cnt_pos;omega
def cntL_mem {l:List Ex} (h:a∈l):a.cnt<=tO l:=by
 induction l with
 |nil=>cases h
 |cons x r ih=>
  rw [tO]
  exact v12
def Ex.cparts (h:e.cnt<=B):e.Idx.length<=B/\e.Args.length<=B/\∀x,x∈e.Idx->x.At.length<=B:=by
 rw [Ex.cnt_eq] at h
 have:=cntL_len e.Args
 exact ⟨zA,zA,fun x hx=>by have:=ixCnt_mem hx;omega⟩
def Ex.arg_cnt (h:a∈e.Args):a.cnt<e.cnt:=by
 rw [Ex.cnt_eq e];have:=cntL_mem h;omega
def ixCnt_le (l:List Ix):sN l<=dO l:=by
 induction l with
 |nil=>simp [sN]
 |cons x r ih=>rw [sN,dO,Ix.wt];omega
def Ex.cnt_le (e:Ex):e.cnt<=e.wt:=by
 induction e using Ex.ind with
 |_ e ih=>
  rw [Ex.cnt_eq,Ex.wt_eq]
  have h1:=ixCnt_le e.Idx
  have h2:∀l:List Ex,(∀a,a∈l->a.cnt<=a.wt)->tO l<=fC l:=by
   intro l
   induction l with
   |nil=>intro _;simp [tO]
   |cons a r ihr=>
    intro h
    rw [tO,fC]
    have:=h a uD
    have:=ihr fun b hb=>h b (by simp [hb])
    omega
  have:=h2 e.Args ih
  omega
def errsL_mem {l:List Ex} (h:jR l=0):∀x,x∈l->dE x=0:=by
 induction l with
 |nil=>intro x hx;cases hx
 |cons y r ih=>
  intro x hx
  rw [jR] at h
  by_cases hy:dE y=0
  ·rw [wU hy,ay] at h
   rcases af.1 hx with rfl|hx
   ·exact hy
   ·exact ih h x hx
  ·rw [qX hy,az] at h;exact absurd h hy
def zBv (h:dN e=0):dE e=0:=errsL_mem h e (by rw [wC];simp)
def zIj (h:dN e=0) (ha:a∈e.Args):dN a=0:=by
 have hn:=zBv h
 rw [zHl,wU hn,ay] at h
 obtain ⟨k,hk⟩:=kj ha
 have:∀l:List Ex,tJ l=0->a∈l->dN a=0:=by
  intro l
  induction l with
  |nil=>intro _ h;cases h
  |cons y r ih=>
   intro h hm
   rw [zSg] at h
   by_cases hy:dN y=0
   ·rw [wU hy,ay] at h
    rcases af.1 hm with rfl|hm
    ·exact hy
    ·exact ih h hm
   ·rw [qX hy,az] at h;exact absurd h hy
 exact this _ h ha
def zDn (h:gI e=0):dN e=0:=by
 unfold gI at h
 by_cases h1:40<mF 40 e
 ·rw [wU h1] at h;simp at h
 ·rw [qX h1,az] at h
  by_cases h2:(2000:Int)<szT e
  ·rw [wU h2] at h;simp at h
  ·rwa [qX h2,az] at h
def zHn (h:dE e=0):lK e=true/\nO e=true/\nT e=true/\lF e=true/\lW e=true:=by
 unfold dE at h
 cases h1:lK e<;>rw [h1] at h<;>simp at h
 cases h2:nO e<;>rw [h2] at h<;>simp at h
 cases h3:nT e<;>rw [h3] at h<;>simp at h
 cases h4:lF e<;>rw [h4] at h<;>simp at h
 cases h5:lW e<;>rw [h5] at h<;>simp at h
 simp
def zXo (h:dE e=0):(e.Args.length:Int)=bR e.Op:=by
 have:=(zHn h).2.2.1
 simp only [nT,ae,ao,al,fj,ah] at this
 exact this.1.1
def zL:Lf:=⟨0,[]⟩
structure Cn where
 Lin:Lf
 Eq:Bool
 deriving DecidableEq
structure Ax where
 Name:lr
 Size:Lf
 deriving DecidableEq
structure Pm where
 Name:lr
 T:Ty
 Dims:List Lf
 deriving DecidableEq
structure Df where
 Name:lr
 T:Ty
 Dims:List Ax
 Red:List Ax
 Fold:Int
 Body:Ex
 deriving DecidableEq
structure Pg where
 Sizes:List lr
 Where:List Cn
 Params:List Pm
 Defs:List Df
 Outs:List lr
 deriving DecidableEq
def Cn.cells (x:Cn):List C:=[cI x.Lin.K,.sl 2 (x.Lin.L.map Mono.cells),cB x.Eq]
def Ax.cells (x:Ax):List C:=[cS x.Name,cI x.Size.K,.sl 2 (x.Size.L.map Mono.cells)]
def Pm.cells (x:Pm):List C:=[cS x.Name,cI x.T.Kind,cI x.T.Bits,cI x.T.Frac,cI x.T.Round,cI x.T.Over,.sl 2 (x.Dims.map Lf.cells)]
def Df.cells (x:Df):List C:=[cS x.Name,cI x.T.Kind,cI x.T.Bits,cI x.T.Frac,cI x.T.Round,cI x.T.Over,.sl 3 (x.Dims.map Ax.cells),.sl 3 (x.Red.map Ax.cells),cI x.Fold,
 cI x.Body.Op,cS x.Body.Name,cI x.Body.Val.N,cI x.Body.Val.D,cI x.Body.Ty.Kind,cI x.Body.Ty.Bits,cI x.Body.Ty.Frac,cI x.Body.Ty.Round,cI x.Body.Ty.Over,cI x.Body.Lin.K,.sl 2 (x.Body.Lin.L.map Mono.cells),.sl 4 (x.Body.Idx.map Ix.cells),.sl 13 (x.Body.Args.map Ex.cells)]
def Pg.cells (p:Pg):List C:=[.sl 1 (p.Sizes.map fun s=>[cS s]),.sl 3 (p.Where.map Cn.cells),.sl 7 (p.Params.map Pm.cells),.sl 22 (p.Defs.map Df.cells),.sl 1 (p.Outs.map fun s=>[cS s])]
def cF (l:Lf):Prop:=l.L.length<=140737488355328
def Pm.fit (x:Pm):Prop:=x.Dims.length<=140737488355328/\∀l,l∈x.Dims->cF l
def Df.fit (d:Df):Prop:=d.Dims.length<=140737488355328/\d.Red.length<=140737488355328/\(∀a,a∈d.Dims->cF a.Size)/\(∀a,a∈d.Red->cF a.Size)/\d.Body.fit
structure Pg.Fit (p:Pg):Prop where
 sizes:p.Sizes.length<=140737488355328
 wh:p.Where.length<=140737488355328
 params:p.Params.length<=140737488355328
 defs:p.Defs.length<=140737488355328
 outs:p.Outs.length<=140737488355328
 whs:∀c,c∈p.Where->cF c.Lin
 ps:∀x,x∈p.Params->x.fit
 ds:∀d,d∈p.Defs->d.fit
def zTy:Ty:=⟨0,0,0,0,0⟩
def iTy:Ty:=⟨3,0,0,0,0⟩
/-! ## Find -/
structure Fd where
 ty:Ty
 dims:List Lf
 ok:Bool
structure En where
 sz:List lr
 pm:List Pm
 df:List Df
def Pg.en (p:Pg):En:=⟨p.Sizes,p.Params,p.Defs⟩
def dZ (l:List Ty) (i:Nat):Ty:=l.getD i zTy
mutual
def fH (N:Ex->List Ty->Ty×Int):Ex->Ty×Int
 |.mk o nm v t l i arg_=>if (bW N arg_).2=0 then N (.mk o nm v t l i arg_) (bW N arg_).1 else (zTy,(bW N arg_).2)
def bW (N:Ex->List Ty->Ty×Int):List Ex->List Ty×Int
 |[]=>([],0)
 |a::r=>if (fH N a).2=0 then (if (bW N r).2=0 then ((fH N a).1::(bW N r).1,0) else ([],(bW N r).2)) else ([],(fH N a).2)
end
def zVa (N:Ex->List Ty->Ty×Int) (e:Ex):fH N e=if (bW N e.Args).2=0 then N e (bW N e.Args).1 else (zTy,(bW N e.Args).2):=by
 cases e;rw [fH];rfl
def node_op (h:dE e=0):1<=e.Op/\e.Op<=18:=by
 have:=(zHn h).1
 simp only [lK,ae,ao,al,aj] at this
 obtain ⟨⟨⟨⟨⟨⟨h1,h2⟩,_⟩,_⟩,_⟩,_⟩,_⟩:=this
 exact ⟨zA,zA⟩
def cE (p:Pg):Prop:=p.Sizes.length<=64/\p.Params.length<=64/\p.Defs.length<=64/\p.Outs.length<=64/\p.Where.length<=256
instance (p:Pg):Decidable (cE p):=by unfold cE;infer_instance
abbrev Kn:=List (lr×Int)
def tM (m:Kn) (s:lr):Int:=(mE m s).getD 0
def zYj (a b:List lr) (s:lr):bP (a++b) s=(bP a s||bP b s):=by simp [bP,fm]
def hasB_one (s t:lr):bP [s] t=decide (s=t):=by simp [bP]
def mget_mput' (m:Kn) (k s:lr) (a:Int):mE (mI m k a) s=if k=s then some a else mE m s:=by
 induction m with
 |nil=>simp [mI,mE]
 |cons x r ih=>
  obtain ⟨k',b⟩:=x
  by_cases h:k'=k
  ·subst h
   simp only [mI,iU,mE]
   by_cases h2:k'=s<;>simp [h2]
  ·simp only [mI,h,jo,mE,ih]
   by_cases h2:k'=s
   ·subst h2;rw [ab rfl,aa (fun e:k=k'=>h e.symm),ab rfl]
   ·simp [h2]
def zYh (m:Kn) (k s:lr) (a:Int):tM (mI m k a) s=if k=s then a else tM m s:=by
 unfold tM;rw [mget_mput'];by_cases h:k=s<;>simp [h]
structure Rel (m:Kn) (sz tn:List lr):Prop where
 one:∀s,tM m s=1↔bP sz s=true
 two:∀s,tM m s=2↔bP tn s=true
 zero:∀s,tM m s=0↔bP (sz++tn) s=false
def Rel.nil:Rel [] [] []:=⟨fun s=>by simp [tM,mE,bP],fun s=>by simp [tM,mE,bP],fun s=>by simp [tM,mE,bP]⟩
def Rel.size {m:Kn} {sz:List lr} (h:Rel m sz []) (h0:tM m s=0):Rel (mI m s 1) (sz++[s]) []:=by
 refine ⟨fun t=>?_,fun t=>?_,fun t=>?_⟩
 ·rw [zYh,zYj,hasB_one]
  by_cases e:s=t
  ·simp [e]
  ·simp [e,h.one t]
 ·rw [zYh]
  by_cases e:s=t
  ·simp [e,bP]
  ·simp [e,h.two t]
 ·rw [zYh,lAn,zYj,hasB_one]
  by_cases e:s=t
  ·simp [e]
  ·have:=h.zero t
   rw [lAn] at this
   simp [e,this]
structure Pg.Ok (p:Pg):Prop where
 sizes:p.Sizes.length<=4294967296
 wh:p.Where.length<=4294967296
 params:p.Params.length<=4294967296
 defs:p.Defs.length<=4294967296
 outs:p.Outs.length<=4294967296
 whs:∀c,c∈p.Where->c.Lin.L.length<=5864062014805
 ps:∀x,x∈p.Params->x.Dims.length<=4294967296/\∀l,l∈x.Dims->l.L.length<=5864062014805
 ds:∀d,d∈p.Defs->d.Dims.length<=1073741824/\d.Red.length<=1073741824/\(∀a,a∈d.Dims->a.Size.L.length<=5864062014805)/\(∀a,a∈d.Red->a.Size.L.length<=5864062014805)/\d.Body.wt<=4294967296
def Pg.Ok.take {p:Pg} (h:p.Ok) (k:Nat):Pg.Ok ⟨p.Sizes,p.Where,p.Params,p.Defs.take k,p.Outs⟩:=
 ⟨h.sizes,h.wh,h.params,by have:=h.defs;simp only [aG];omega,h.outs,h.whs,h.ps,fun d hd=>h.ds d (ec hd)⟩
end Go.Br
end
section
namespace Go.Br
open Go Go.Eng Go.L41
abbrev vP (b:Nat):V:=.c (.lit (.pointer (some ⟨b,0,none⟩)))
def linErr_no {l:Lf} (h:¬dY l=0):bI l=false:=by
 cases c:bI l
 ·rfl
 ·exact absurd (by simp [dY,c]) h
def zSn {l:Lf} (h:dY l=0):bI l=true:=by
 cases c:bI l
 ·simp [dY,c] at h
 ·rfl
def kn (m:Kn) (s:lr):Bool:= !decide (tM m s=0)
def tyC (t:Ty):List C:=[cI t.Kind,cI t.Bits,cI t.Frac,cI t.Round,cI t.Over]
def zWe (a b:Ty):bZ [cI a.Kind,cI a.Bits,cI a.Frac,cI a.Round,cI a.Over] [cI b.Kind,cI b.Bits,cI b.Frac,cI b.Round,cI b.Over]=decide (a=b):=by
 obtain ⟨a1,a2,a3,a4,a5⟩:=a
 obtain ⟨b1,b2,b3,b4,b5⟩:=b
 simp only [bZ,cEq,Ty.mk.injEq,bv,Bool.decide_and]
def zLq (N:Ex->List Ty->Ty×Int):∀(a b:List Ex),(bW N a).2=0->bW N (a++b)=if (bW N b).2=0 then ((bW N a).1++(bW N b).1,0) else ([],(bW N b).2)
 |[],b,_=>by
  simp only [lNa,bW,lNa]
  cases b with
  |nil=>simp [bW]
  |cons x r=>
   simp only [bW]
   by_cases h1:(fH N x).2=0
   ·by_cases h2:(bW N r).2=0
    ·simp [h1,h2]
    ·simp [h1,h2]
   ·simp [h1]
 |x::r,b,h=>by
  rw [bW] at h
  by_cases h1:(fH N x).2=0
  ·rw [ab h1] at h
   by_cases h2:(bW N r).2=0
   ·rw [lCa,bW,ab h1,zLq N r b h2]
    rw [bW,ab h1,ab h2]
    by_cases h3:(bW N b).2=0
    ·simp [h3]
    ·simp [h3]
   ·rw [aa h2] at h;exact absurd h h2
  ·rw [aa h1] at h;exact absurd h h1
def zGd {N:Ex->List Ty->Ty×Int} {l:List Ex} {k:Nat} {x:Ex} (h:l[k]? =some x) (hp:(bW N (l.take k)).2=0) (hx:(fH N x).2=0):bW N (l.take (k+1))=((bW N (l.take k)).1++[(fH N x).1],0):=by
 rw [yR h,zLq N _ _ hp];simp [bW,hx]
def nodeL_no {N:Ex->List Ty->Ty×Int} {l:List Ex} {k:Nat} {x:Ex} (h:l[k]? =some x) (hp:(bW N (l.take k)).2=0) (hx:¬(fH N x).2=0):(bW N l).2=(fH N x).2:=by
 have e:l=l.take k++(x::l.drop (k+1)):=by rw [←qQ h,aM]
 rw [e,zLq N _ _ hp]
 simp [bW,hx]
def zIl (N:Ex->List Ty->Ty×Int):∀l:List Ex,(bW N l).2=0->(bW N l).1.length=l.length
 |[],_=>rfl
 |x::r,h=>by
  rw [bW] at h⊢
  by_cases h1:(fH N x).2=0
  ·rw [ab h1] at h⊢
   by_cases h2:(bW N r).2=0
   ·rw [ab h2];simp [zIl N r h2]
   ·rw [aa h2] at h;exact absurd h h2
  ·rw [aa h1] at h;exact absurd h h1
end Go.Br
namespace Go.Br
open Go Go.Eng Go.L41
end Go.Br
end
section
namespace Go.Br
open Go Go.Eng Go.L41
variable {e:Ex} {k:Nat}
def nodeT_no {N:Ex->List Ty->Ty×Int} {x:Ex} (h:e.Args[k]? =some x) (hp:(bW N (e.Args.take k)).2=0) (hx:¬(fH N x).2=0):fH N e=(zTy,(fH N x).2):=by
 have h1:=nodeL_no h hp hx
 rw [zVa N e,h1,aa hx]
def nodeT_ok {N:Ex->List Ty->Ty×Int} (h:e.Args.take k=e.Args) (hp:(bW N (e.Args.take k)).2=0):fH N e=N e (bW N (e.Args.take k)).1:=by
 rw [h] at hp⊢
 rw [zVa N e,ab hp]
def zJa {a b:Ty} (h:(!bZ [cI a.Kind,cI a.Bits,cI a.Frac,cI a.Round,cI a.Over] [cI b.Kind,cI b.Bits,cI b.Frac,cI b.Round,cI b.Over])=true):¬a=b:=by
 rw [zWe] at h;simpa using h
def zJb {a b:Ty} (h:(!bZ [cI a.Kind,cI a.Bits,cI a.Frac,cI a.Round,cI a.Over] [cI b.Kind,cI b.Bits,cI b.Frac,cI b.Round,cI b.Over])=false):a=b:=by
 rw [zWe] at h;simpa using h
def zMn {l:List Ty} {i:Nat} (h:i<l.length):(l.map tyC)[i]? =some (tyC (dZ l i)):=by
 rw [bu,ak h]
 simp [dZ,List.getD,ak h]
def zJn (h:dN e=0):(e.Args.length:Int)=bR e.Op:=by
 have h1:=(zHn (zBv h)).2.2.1
 unfold nT at h1
 simp only [ae,ao,al,fj,ah] at h1
 exact h1.1.1
def args_len (h:dN e=0) (ho:¬(e.Op=1∨e.Op=2∨e.Op=3)):1<=e.Args.length:=by
 have:=zJn h;unfold bR at this;rw [aa ho] at this;split at this
 ·omega
 ·split at this<;>omega
def zIx (h:dN e=0) (ho:¬(e.Op=1∨e.Op=2∨e.Op=3∨e.Op=8∨e.Op=12∨e.Op=18)):2<=e.Args.length:=by
 have:=zJn h;unfold bR at this;rw [aa zA,aa zA] at this;split at this<;>omega
/-! ## The program's Validate -/
structure Pg.Short (p:Pg):Prop where
 sizes:p.Sizes.length<=12
 wh:p.Where.length<=12
 params:p.Params.length<=12
 defs:p.Defs.length<=12
 outs:p.Outs.length<=12
 whs:∀c,c∈p.Where->c.Lin.L.length<=20
 ps:∀x,x∈p.Params->x.Dims.length<=12/\∀l,l∈x.Dims->l.L.length<=20
 ds:∀d,d∈p.Defs->d.Dims.length<=12/\d.Red.length<=12/\(∀a,a∈d.Dims->a.Size.L.length<=20)/\(∀a,a∈d.Red->a.Size.L.length<=20)/\d.Body.wt<=300
def Pg.Short.ok {p:Pg} (h:p.Short):p.Ok:=
 ⟨by have:=h.sizes;omega,by have:=h.wh;omega,by have:=h.params;omega,by have:=h.defs;omega,by have:=h.outs;omega,fun c hc=>by have:=h.whs c hc;omega,
  fun x hx=>by obtain ⟨h1,h2⟩:=h.ps x hx;exact ⟨zA,fun l hl=>by have:=h2 l hl;omega⟩,
  fun d hd=>by obtain ⟨h1,h2,h3,h4,h5⟩:=h.ds d hd;exact ⟨zA,zA,fun a ha=>by have:=h3 a ha;omega,fun a ha=>by have:=h4 a ha;omega,zA⟩⟩
open Go.Proofs
def lJ (a b:Int):Int:=if a<b then-1 else if b<a then 1 else 0
def vV (a b:lr):Int:=Lib.compareBytes a.data.toList b.data.toList
def orI:List Int->Int
 |[]=>0
 |x::r=>if x=0 then orI r else x
def lL {α:Type} (f:α->α->Int):List α->List α->Int
 |[],[]=>0
 |[],_::_=> -1
 |_::_,[]=>1
 |x::xs,y::ys=>if f x y=0 then lL f xs ys else f x y
variable {α:Type}
def mC (f:α->α->Int) (a b:List α):Int:=if lJ a.length b.length=0 then lL f a b else lJ a.length b.length
def tZ (x y:Mono):Int:=if x.Name=y.Name then lJ x.By y.By else vV x.Name y.Name
def nW (a b:Lf):Int:=if lL tZ a.L b.L=0 then lJ a.K b.K else lL tZ a.L b.L
def nX (a b:Ix):Int:=if vV a.From b.From=0 then (if nW a.Lin b.Lin=0 then mC nW a.At b.At else nW a.Lin b.Lin) else vV a.From b.From
def xN (a b:Ty):Int:=orI [lJ a.Kind b.Kind,lJ a.Bits b.Bits,lJ a.Frac b.Frac,lJ a.Round b.Round,lJ a.Over b.Over]
def rF (a b:Ex):Int:=orI [lJ a.Op b.Op,vV a.Name b.Name,lJ a.Val.N b.Val.N,lJ a.Val.D b.Val.D,xN a.Ty b.Ty,nW a.Lin b.Lin]
mutual
def sV:Ex->Ex->Int
 |.mk o n v t l i r,b=>if rF (.mk o n v t l i r) b=0 then (if mC nX i b.Idx=0 then (if lJ r.length b.Args.length=0 then cH r b.Args else lJ r.length b.Args.length) else mC nX i b.Idx) else rF (.mk o n v t l i r) b
def cH:List Ex->List Ex->Int
 |[],[]=>0
 |[],_::_=> -1
 |_::_,[]=>1
 |x::xs,y::ys=>if sV x y=0 then cH xs ys else sV x y
end
def cmpEs_L:∀a b:List Ex,cH a b=lL sV a b
 |[],[]=>rfl
 |[],_::_=>rfl
 |_::_,[]=>rfl
 |x::xs,y::ys=>by rw [cH,lL,cmpEs_L xs ys]
def cmpE_eq (a b:Ex):sV a b=if rF a b=0 then (if mC nX a.Idx b.Idx=0 then mC sV a.Args b.Args else mC nX a.Idx b.Idx) else rF a b:=by
 cases a with
 |mk o n v t l i r=>rw [sV,cmpEs_L];rfl
/-! ## vF is equal -/
def zMj (a b:Int):lJ a b=0↔a=b:=by
 unfold lJ
 split
 ·constructor
  ·intro h;cases h
  ·intro h;omega
 ·split
  ·constructor
   ·intro h;cases h
   ·intro h;omega
  ·constructor<;>intro h<;>first|rfl|omega
def bytes_zero:∀a b:List UInt8,Lib.compareBytes a b=0↔a=b
 |[],[]=>by simp [Lib.compareBytes]
 |[],_::_=>by simp [Lib.compareBytes]
 |_::_,[]=>by simp [Lib.compareBytes]
 |x::xs,y::ys=>by
  rw [Lib.compareBytes]
  by_cases h1:x<y
  ·rw [ab h1]
   constructor
   ·intro h;cases h
   ·intro h;injection h with h2 h3;subst h2;exact absurd h1 (jj x)
  ·rw [aa h1]
   by_cases h2:y<x
   ·rw [ab h2]
    constructor
    ·intro h;cases h
    ·intro h;injection h with h3 h4;subst h3;exact absurd h2 (jj x)
   ·rw [aa h2,bytes_zero xs ys]
    have e:x=y:=by
     have h3:=iV.1 h1
     have h4:=iV.1 h2
     exact lb h4 h3
    simp [e]
def zRc (a b:lr):vV a b=0↔a=b:=by
 unfold vV
 rw [bytes_zero]
 constructor
 ·intro h;cases a;cases b;congr 1;exact iy.1 h
 ·rintro rfl;rfl
def orI_zero:∀l:List Int,orI l=0↔∀x,x∈l->x=0
 |[]=>by simp [orI]
 |x::r=>by
  rw [orI]
  by_cases h:x=0
  ·rw [ab h,orI_zero r];simp [h]
  ·rw [aa h];constructor
   ·intro k;exact absurd k h
   ·intro k;exact k x uD
def zZp {α:Type} {f:α->α->Int}:∀(a b:List α),(∀x,x∈a->∀y,f x y=0↔x=y)->(lL f a b=0↔a=b)
 |[],[],_=>by simp [lL]
 |[],_::_,_=>by simp [lL]
 |_::_,[],_=>by simp [lL]
 |x::xs,y::ys,h=>by
  rw [lL]
  have h1:=h x uD y
  by_cases c:f x y=0
  ·rw [ab c,zZp xs ys fun z hz=>h z (by simp [hz])];simp [h1.1 c]
  ·rw [aa c]
   constructor
   ·intro k;exact absurd k c
   ·intro k;injection k with k1 k2;exact h1.2 k1
def zTe {f:α->α->Int} (a b:List α) (h:∀x,x∈a->∀y,f x y=0↔x=y):mC f a b=0↔a=b:=by
 unfold mC
 by_cases c:lJ (a.length:Int) b.length=0
 ·rw [ab c];exact zZp a b h
 ·rw [aa c]
  constructor
  ·intro k;exact absurd k c
  ·rintro rfl;exact absurd ((zMj _ _).2 rfl) c
def cmpM_zero (x y:Mono):tZ x y=0↔x=y:=by
 obtain ⟨n,b⟩:=x
 obtain ⟨n',b'⟩:=y
 unfold tZ
 by_cases c:n=n'
 ·simp only [c,iU,zMj,Mono.mk.injEq,true_and]
 ·simp only [c,jo,zRc,Mono.mk.injEq,false_and]
def zNj (a b:Lf):nW a b=0↔a=b:=by
 have h:=zZp (f:=tZ) a.L b.L fun x _ y=>cmpM_zero x y
 have e:a=b↔a.L=b.L/\a.K=b.K:=by
  cases a;cases b;simp only [Lf.mk.injEq];exact ⟨fun k=>⟨k.2,k.1⟩,fun k=>⟨k.2,k.1⟩⟩
 unfold nW
 rw [e]
 by_cases c:lL tZ a.L b.L=0
 ·rw [ab c,zMj];exact ⟨fun k=>⟨h.1 c,k⟩,fun k=>k.2⟩
 ·rw [aa c];exact ⟨fun k=>absurd k c,fun k=>absurd (h.2 k.1) c⟩
def cmpIx_zero (a b:Ix):nX a b=0↔a=b:=by
 have h:=zTe (f:=nW) a.At b.At fun x _ y=>zNj x y
 have e:a=b↔a.From=b.From/\a.Lin=b.Lin/\a.At=b.At:=by
  cases a;cases b;simp only [Ix.mk.injEq];exact ⟨fun k=>⟨k.2.1,k.1,k.2.2⟩,fun k=>⟨k.2.1,k.1,k.2.2⟩⟩
 unfold nX
 rw [e]
 by_cases c:vV a.From b.From=0
 ·by_cases d:nW a.Lin b.Lin=0
  ·rw [ab c,ab d,h];exact ⟨fun k=>⟨(zRc _ _).1 c,(zNj _ _).1 d,k⟩,fun k=>k.2.2⟩
  ·rw [ab c,aa d];exact ⟨fun k=>absurd k d,fun k=>absurd ((zNj _ _).2 k.2.1) d⟩
 ·rw [aa c];exact ⟨fun k=>absurd k c,fun k=>absurd ((zRc _ _).2 k.1) c⟩
def cmpTy_zero (a b:Ty):xN a b=0↔a=b:=by
 obtain ⟨a1,a2,a3,a4,a5⟩:=a
 obtain ⟨b1,b2,b3,b4,b5⟩:=b
 unfold xN
 rw [orI_zero]
 simp only [lMc,aN,cp,aX,cq,zMj,Ty.mk.injEq]
def cmpHd_zero (a b:Ex):rF a b=0↔a.Op=b.Op/\a.Name=b.Name/\a.Val=b.Val/\a.Ty=b.Ty/\a.Lin=b.Lin:=by
 unfold rF
 rw [orI_zero]
 simp only [lMc,aN,cp,aX,cq,zMj,zRc,cmpTy_zero,zNj]
 cases hv:a.Val
 cases hw:b.Val
 simp only [Vl.mk.injEq]
 constructor
 ·rintro ⟨h1,h2,h3,h4,h5⟩;exact ⟨h1,h2,⟨h3,h4⟩,h5⟩
 ·rintro ⟨h1,h2,⟨h3,h4⟩,h5⟩;exact ⟨h1,h2,h3,h4,h5⟩
def cmpE_zero (a:Ex):∀b:Ex,sV a b=0↔a=b:=by
 induction a using Ex.ind with
 |_ a ih=>
  intro b
  rw [cmpE_eq,Ex.eq_iff]
  have h1:=cmpHd_zero a b
  have h2:=zTe (f:=nX) a.Idx b.Idx fun x _ y=>cmpIx_zero x y
  have h3:=zTe (f:=sV) a.Args b.Args ih
  by_cases c:rF a b=0
  ·by_cases d:mC nX a.Idx b.Idx=0
   ·rw [ab c,ab d,h3]
    obtain ⟨k1,k2,k3,k4,k5⟩:=h1.1 c
    have k6:=h2.1 d
    exact ⟨fun k=>⟨k1,k2,k3,k4,k5,k6,k⟩,fun k=>k.2.2.2.2.2.2⟩
   ·rw [ab c,aa d]
    exact ⟨fun k=>absurd k d,fun k=>absurd (h2.2 k.2.2.2.2.2.1) d⟩
  ·rw [aa c]
   exact ⟨fun k=>absurd k c,fun k=>absurd (h1.2 ⟨k.1,k.2.1,k.2.2.1,k.2.2.2.1,k.2.2.2.2.1⟩) c⟩
/-! ## Steps of the walks -/
section steps
variable {α:Type} {f:α->α->Int} {a b:List α} {k:Nat} {x y:α}
def zVn (h:a[k]? =some x) (hb:¬k<b.length):lL f (a.drop k) (b.drop k)=1:=by rw [qQ h,kL hb];rfl
def cmpL_ne (h:a[k]? =some x) (hy:b[k]? =some y) (c:¬f x y=0):lL f (a.drop k) (b.drop k)=f x y:=by rw [qQ h,qQ hy,lL,aa c]
def zRd (h:a[k]? =some x) (hy:b[k]? =some y) (c:f x y=0):lL f (a.drop k) (b.drop k)=lL f (a.drop (k+1)) (b.drop (k+1)):=by rw [qQ h,qQ hy,lL,ab c]
def zRe (h:¬k<a.length) (hb:k<b.length):lL f (a.drop k) (b.drop k)= -1:=by
 rw [kL h]
 cases hd:b.drop k with
 |nil=>have:=ag List.length hd;simp at this;omega
 |cons _ _=>rfl
def zVo (h:¬k<a.length) (hb:¬k<b.length):lL f (a.drop k) (b.drop k)=0:=by rw [kL h,kL hb];rfl
end steps
variable {a b:Int}
def cmpI_lt (h:a<b):lJ a b= -1:=ab h
def cmpI_gt (h:b<a):lJ a b=1:=by unfold lJ;rw [aa zA,ab h]
def cmpI_eq (h:¬a<b) (h2:¬b<a):lJ a b=0:=by unfold lJ;rw [aa h,aa h2]
def orI_at {l:List Int} {x:Int} (h:l[k]? =some x) (hx:¬x=0):orI (l.drop k)=x:=by rw [qQ h,orI,aa hx]
def orI_next {l:List Int} {x:Int} (h:l[k]? =some x) (hx:x=0):orI (l.drop k)=orI (l.drop (k+1)):=by rw [qQ h,orI,ab hx]
def strings_Compare (a b:lr):Pur cfg 230 [vS a,vS b] (vI (vV a b)):=by
 intro w I vs hH ha
 match vs,ha with
 |[v,u],ha=>
  obtain ⟨h1,h2,_⟩:=ha
  have e1:v=.string a:=by cases (h1:CRep w I (cS a) v) with|lit _ _=>rfl
  have e2:u=.string b:=by cases (h2:CRep w I (cS b) u) with|lit _ _=>rfl
  subst e1 e2
  refine (Tryz.strings_Compare a b w).mono ?_
  rintro e w' ⟨rfl,rfl⟩
  exact ⟨_,_,[],I,rfl,rfl,CRep.lit _ rfl,hH,Ext.refl _ _ _⟩
end Go.Br
end
