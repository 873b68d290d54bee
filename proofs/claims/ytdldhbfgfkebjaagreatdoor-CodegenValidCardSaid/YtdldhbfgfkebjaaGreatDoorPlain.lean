/-
  The program's data,in plain Lean: linear forms,indices,expressions; and the cells that hold them.
  What the program's functions compute,in plain Lean.
  Copies with all forms mapped; weights; in plain Lean.
  Layer 22 in plain Lean.
  Layer 17 in plain Lean: programs,the cells that hold them,and what Find,TypeOf and Validate say of them.
  Layer 17 in plain Lean: the program's Validate and the reference's are one.
  Layer 17 in plain Lean,more: lengths,lists,tables.
  Layer 17 in plain Lean: the memory of the checker and the typer,and laws for their walks.
  Layer 17 in plain Lean: the typer's walk.
  Layer 17 in plain Lean: steps of Validate,the program's and the reference's; what Long says.
  Layer 17 in plain Lean: the example that every statement checks.
  Comparisons in plain Lean: of numbers,strings,forms,indices,expressions; nothing is alike but what is equal.
  Conditions: none.
-/
import Derived.Test.YtdldhbfgfkebjaaGreatDoorEngY
import Derived.Test.YtdldhbfgfkebjaaGreatDoorNames
import Derived.Test.YtdldhbfgfkebjaaGreatDoorEngZ
import Derived.Test.YtdldhbfgfkebjaaGreatDoorCfg
import Derived.Lib.Bytealg
set_option linter.unusedSimpArgs false
set_option linter.unusedVariables false
section
namespace Go.Br
open Go Go.Eng Go.L41
structure Mono where
 Name:ByteArray
 By:Int
 deriving DecidableEq
structure Lf where
 K:Int
 L:List Mono
 deriving DecidableEq
structure Vl where
 N:Int
 D:Int
 deriving DecidableEq
structure Ty where
 Kind:Int
 Bits:Int
 Frac:Int
 Round:Int
 Over:Int
 deriving DecidableEq
structure Ix where
 Lin:Lf
 From:ByteArray
 At:List Lf
 deriving DecidableEq
inductive Ex where
 |mk (op:Int) (name:ByteArray) (val:Vl) (ty:Ty) (lin:Lf) (idx:List Ix) (args:List Ex)
namespace Ex
def Op:Ex->Int|mk o _ _ _ _ _ _=>o
def Name:Ex->ByteArray|mk _ x _ _ _ _ _=>x
def Val:Ex->Vl|mk _ _ x _ _ _ _=>x
def Ty:Ex->Br.Ty|mk _ _ _ x _ _ _=>x
def Lin:Ex->Lf|mk _ _ _ _ x _ _=>x
def Idx:Ex->List Ix|mk _ _ _ _ _ x _=>x
def Args:Ex->List Ex|mk _ _ _ _ _ _ x=>x
theorem ind {P:Ex->Prop} (h:∀e:Ex,(∀a,a∈e.Args->P a)->P e) (e:Ex):P e:=
 Ex.rec (motive_1:=P) (motive_2:=fun l=>∀a,a∈l->P a) (fun o n v t l i arg_ ih=>h (mk o n v t l i arg_) ih) (fun a h=>by cases h)
  (fun x l hx hl a ha=>by rcases List.mem_cons.1 ha with rfl|ha;exact hx;exact hl a ha) e
end Ex
mutual
def Ex.eqB:Ex->Ex->Bool
 |.mk o n v t l i arg_,.mk o' n' v' t' l' i' bs=>decide (o=o')&&decide (n=n')&&decide (v=v')&&decide (t=t')&&decide (l=l')&&decide (i=i')&&tT arg_ bs
def tT:List Ex->List Ex->Bool
 |[],[]=>true
 |a::arg_,b::bs=>Ex.eqB a b&&tT arg_ bs
 |_,_=>false
end
mutual
theorem Ex.eqB_iff:∀a b:Ex,Ex.eqB a b=true↔a=b
 |.mk o n v t l i arg_,.mk o' n' v' t' l' i' bs=>by
  simp only [Ex.eqB,Bool.and_eq_true,decide_eq_true_eq,eqBs_iff arg_ bs,Ex.mk.injEq]
  constructor
  ·rintro ⟨⟨⟨⟨⟨⟨h1,h2⟩,h3⟩,h4⟩,h5⟩,h6⟩,h7⟩;exact ⟨h1,h2,h3,h4,h5,h6,h7⟩
  ·rintro ⟨h1,h2,h3,h4,h5,h6,h7⟩;exact ⟨⟨⟨⟨⟨⟨h1,h2⟩,h3⟩,h4⟩,h5⟩,h6⟩,h7⟩
theorem eqBs_iff:∀a b:List Ex,tT a b=true↔a=b
 |[],[]=>by simp [tT]
 |a::arg_,b::bs=>by simp only [tT,Bool.and_eq_true,Ex.eqB_iff a b,eqBs_iff arg_ bs,List.cons.injEq]
 |[],_::_=>by simp [tT]
 |_::_,[]=>by simp [tT]
end
instance:DecidableEq Ex:=fun a b=>decidable_of_iff _ (Ex.eqB_iff a b)
theorem Ex.eq_iff (a b:Ex):a=b↔a.Op=b.Op/\a.Name=b.Name/\a.Val=b.Val/\a.Ty=b.Ty/\a.Lin=b.Lin/\a.Idx=b.Idx/\a.Args=b.Args:=by
 cases a;cases b;simp only [Ex.mk.injEq];rfl
def Mono.cells (x:Mono):List C:=[cS x.Name,cI x.By]
def Lf.cells (x:Lf):List C:=[cI x.K,.sl 2 (x.L.map Mono.cells)]
def Ix.cells (x:Ix):List C:=[cI x.Lin.K,.sl 2 (x.Lin.L.map Mono.cells),cS x.From,.sl 2 (x.At.map Lf.cells)]
def Vl.cells (v:Vl):List C:=[cI v.N,cI v.D]
mutual
def Ex.cells:Ex->List C
 |.mk o n v t l i arg_=>[cI o,cS n,cI v.N,cI v.D,cI t.Kind,cI t.Bits,cI t.Frac,cI t.Round,cI t.Over,cI l.K,.sl 2 (l.L.map Mono.cells),.sl 4 (i.map Ix.cells),.sl 13 (sU arg_)]
def sU:List Ex->List (List C)
 |[]=>[]
 |e::r=>e.cells::sU r
end
theorem cellsL_eq (l:List Ex):sU l=l.map Ex.cells:=by
 induction l with
 |nil=>rfl
 |cons e r ih=>rw [sU,ih];rfl
def Ex.cs (e:Ex):List C:=[cI e.Op,cS e.Name,cI e.Val.N,cI e.Val.D,cI e.Ty.Kind,cI e.Ty.Bits,cI e.Ty.Frac,cI e.Ty.Round,cI e.Ty.Over,cI e.Lin.K,.sl 2 (e.Lin.L.map Mono.cells),.sl 4 (e.Idx.map Ix.cells),.sl 13 (e.Args.map Ex.cells)]
theorem Ex.cells_eq (e:Ex):e.cells=e.cs:=by
 cases e;rw [Ex.cells,cellsL_eq];rfl
abbrev nM (x:Mono):V:=.agg x.cells
abbrev sK (l:List Mono):V:=.c (.sl 2 (l.map Mono.cells))
abbrev mD (x:Lf):V:=.agg x.cells
abbrev pB (l:List Lf):V:=.c (.sl 2 (l.map Lf.cells))
abbrev hM (x:Ix):V:=.agg x.cells
abbrev mJ (l:List Ix):V:=.c (.sl 4 (l.map Ix.cells))
abbrev vE (x:Ex):V:=.agg x.cs
abbrev vEs (l:List Ex):V:=.c (.sl 13 (l.map Ex.cells))
abbrev vTy (t:Ty):V:=.agg [cI t.Kind,cI t.Bits,cI t.Frac,cI t.Round,cI t.Over]
abbrev xQ (v:Vl):V:=.agg [cI v.N,cI v.D]
abbrev pJ (n:Int):V:=.c (.lit (.int .u64 n))
theorem zAa {l:List Ex} {k:Nat} {x:Ex} (h:l[k]? =some x):(l.map Ex.cells)[k]? =some x.cs:=by
 rw [B h,Ex.cells_eq]
def mU:List Lf->Nat
 |[]=>0
 |l::r=>l.L.length+mU r
def Ix.wt (x:Ix):Nat:=x.Lin.L.length+x.At.length+mU x.At
def gF:List Ix->Nat
 |[]=>0
 |x::r=>x.wt+gF r
mutual
def Ex.wt:Ex->Nat
 |.mk _ _ _ _ l i arg_=>1+l.L.length+i.length+gF i+dQ arg_
def dQ:List Ex->Nat
 |[]=>0
 |e::r=>e.wt+dQ r
end
theorem Ex.wt_eq (e:Ex):e.wt=1+e.Lin.L.length+e.Idx.length+gF e.Idx+dQ e.Args:=by cases e;rw [Ex.wt];rfl
theorem Ex.wt_pos (e:Ex):1<=e.wt:=by rw [Ex.wt_eq];omega
theorem wI {l:List Ex} {a:Ex} (h:a∈l):a.wt+(l.length-1)<=dQ l:=by
 induction l with
 |nil=>cases h
 |cons x r ih=>
  rw [dQ]
  rcases List.mem_cons.1 h with rfl|h
  ·have:r.length<=dQ r:=by
    clear ih h
    induction r with
    |nil=>simp [dQ]
    |cons y r ih=>rw [dQ,List.length_cons];have:=y.wt_pos;omega
   simp;omega
  ·have:=ih h
   have:=x.wt_pos
   have:0<r.length:=List.length_pos_of_mem h
   simp;omega
theorem zOl (l:List Ex):l.length<=dQ l:=by
 induction l with
 |nil=>simp [dQ]
 |cons y r ih=>rw [dQ,List.length_cons];have:=y.wt_pos;omega
theorem zCn {l:List Lf} {a:Lf} (h:a∈l):a.L.length<=mU l:=by
 induction l with
 |nil=>cases h
 |cons x r ih=>
  rw [mU]
  rcases List.mem_cons.1 h with rfl|h
  ·omega
  ·have:=ih h;omega
theorem zCv {l:List Ix} {a:Ix} (h:a∈l):a.wt<=gF l:=by
 induction l with
 |nil=>cases h
 |cons x r ih=>
  rw [gF]
  rcases List.mem_cons.1 h with rfl|h
  ·omega
  ·have:=ih h;omega
theorem Ex.parts {e:Ex} {B:Nat} (h:e.wt<=B):e.Lin.L.length<=B/\e.Idx.length<=B/\e.Args.length<=B:=by
 rw [Ex.wt_eq] at h
 have:=zOl e.Args
 omega
theorem Ex.arg_wt {e a:Ex} (h:a∈e.Args):a.wt<e.wt:=by
 rw [Ex.wt_eq e]
 have:=wI h
 omega
theorem Ex.idx_wt {e:Ex} {x:Ix} (h:x∈e.Idx):x.Lin.L.length<=e.wt/\x.At.length<=e.wt/\mU x.At<=e.wt:=by
 rw [Ex.wt_eq e]
 have:=zCv h
 unfold Ix.wt at this
 omega
theorem qY {α:Type} {l:List α} {k:Nat} {x:α} (h:l[k]? =some x):l.drop k=x::l.drop (k+1):=by
 have hk:k<l.length:=(List.getElem?_eq_some_iff.1 h).1
 rw [List.drop_eq_getElem_cons hk]
 rw [List.getElem?_eq_getElem hk] at h
 simp at h
 rw [h]
theorem kV {α:Type} {l:List α} {k:Nat} (h:¬k<l.length):l.drop k=[]:=List.drop_of_length_le (by omega)
theorem zEr {α:Type} {a b:List α} {k:Nat} {x y:α} (hx:a[k]? =some x) (hy:b[k]? =some y) (h:a.take k=b.take k) (e:x=y):a.take (k+1)=b.take (k+1):=by
 rw [yC hx,yC hy,h,e]
theorem zJk {α:Type} {a b:List α} {k:Nat} (h:a.take k=b.take k) (h1:¬k<a.length) (h2:a.length=b.length):a=b:=by
 rw [yA h1,yA (by omega)] at h
 exact h
theorem zLw {α:Type} {a b:List α} {k:Nat} {x y:α} (hx:a[k]? =some x) (hy:b[k]? =some y) (h:¬x=y):¬a=b:=by
 rintro rfl
 rw [hx] at hy
 exact h (Option.some.inj hy)
theorem yV {p:Prop} [Decidable p] (h:¬p):decide p=false:=decide_eq_false h
theorem zAh {p:Prop} [Decidable p] (h:p):decide p=true:=decide_eq_true h
theorem qA {α:Type} {l:List α} {k:Nat} {x:α} (h:l[k]? =some x):x∈l:=List.mem_of_getElem? h
end Go.Br
end
section
namespace Go.Br
open Go Go.Eng Go.L41
/-! ## Linear forms -/
def ltO:Option ByteArray->ByteArray->Bool
 |none,_=>true
 |some q,n=>jK q n
def lZ:Option ByteArray->List Mono->Bool
 |_,[]=>true
 |p,m::r=>bO m.Name&& !decide (m.By=0)&&ltO p m.Name&&lZ (some m.Name) r
def gD (l:Lf):Bool:=lZ none l.L
def nV (l:Lf):Int:=bif gD l then 0 else 1
def pv (l:List Mono) (k:Nat):Mono:=l.getD (k-1) ⟨bs [],0⟩
def mT (l:List Mono) (k:Nat):Option ByteArray:=if k=0 then none else some (pv l k).Name
def vX (l:List Mono) (k:Nat) (x:Mono):Bool:=(!bO x.Name||decide (x.By=0))||(decide ((0:Int)<k)&& !jK (pv l k).Name x.Name)
theorem pv_get {α:Type} {f:Mono->α} {l:List Mono} {k:Nat} (h0:0<k) (h:k<=l.length):(l.map f)[((k:Int)-1).toNat]? =some (f (pv l k)):=by
 have e:((k:Int)-1).toNat=k-1:=by omega
 have h1:k-1<l.length:=by omega
 rw [e,List.getElem?_map,List.getElem?_eq_getElem h1]
 simp [pv,List.getD,List.getElem?_eq_getElem h1]
theorem pv_next {l:List Mono} {k:Nat} {x:Mono} (h:l[k]? =some x):pv l (k+1)=x:=by simp [pv,List.getD,h]
theorem zJf {l:List Mono} {k:Nat} {x:Mono} (h:l[k]? =some x):lZ (mT l k) (l.drop k)=(!vX l k x&&lZ (mT l (k+1)) (l.drop (k+1))):=by
 rw [qY h,lZ]
 have e:mT l (k+1)=some x.Name:=by simp [mT,pv_next h]
 rw [e]
 congr 1
 unfold vX mT ltO
 by_cases hk:k=0
 ·subst hk;simp
 ·have hk':(0:Int)<k:=by omega
  rw [if_neg hk,decide_eq_true hk']
  cases bO x.Name<;>cases decide (x.By=0)<;>simp
theorem monos_end {l:List Mono} {k:Nat} (h:¬k<l.length):lZ (mT l k) (l.drop k)=true:=by
 rw [kV h];cases mT l k<;>rfl
def fX {α:Type} (p:α->Bool):List α->Int
 |[]=> -1
 |x::r=>bif p x then 0 else (bif decide (fX p r= -1) then-1 else fX p r+1)
theorem idxOf_ge {α:Type} (p:α->Bool) (l:List α): -1<=fX p l:=by
 induction l with
 |nil=>simp [fX]
 |cons x r ih=>unfold fX;cases p x<;>simp;by_cases h:fX p r= -1<;>simp [h];omega
theorem zCb {α:Type} (p:α->Bool) (l:List α):decide (0<=fX p l)=l.any p:=by
 induction l with
 |nil=>rfl
 |cons x r ih=>
  have:=idxOf_ge p r
  unfold fX
  cases hp:p x
  ·simp only [cond_false,List.any_cons,hp,Bool.false_or,←ih]
   by_cases h:fX p r= -1
   ·simp [h]
   ·simp [h];omega
  ·simp [hp]
theorem zDq {α:Type} {p:α->Bool} {l:List α} {k:Nat} {x:α} (h:l[k]? =some x) (hp:p x=true) (hn:(l.take k).any p=false):fX p l=k:=by
 induction l generalizing k with
 |nil=>simp at h
 |cons y r ih=>
  cases k with
  |zero=>simp at h;subst h;simp [fX,hp]
  |succ k=>
   simp only [List.take_succ_cons,List.any_cons,Bool.or_eq_false_iff] at hn
   have:=ih (k:=k) (by simpa using h) hn.2
   simp only [fX,hn.1,cond_false,this]
   have h2:¬((k:Int)= -1):=by omega
   simp [h2]
theorem zBb {α:Type} {p:α->Bool} {l:List α} (hn:l.any p=false):fX p l= -1:=by
 induction l with
 |nil=>rfl
 |cons y r ih=>
  simp only [List.any_cons,Bool.or_eq_false_iff] at hn
  simp [fX,hn.1,ih hn.2]
theorem zCi {α:Type} {p:α->Bool} {l:List α} {k:Nat} {x:α} (h:l[k]? =some x) (hn:(l.take k).any p=false) (hp:p x=false):(l.take (k+1)).any p=false:=by
 rw [yC h,List.any_append,hn];simp [hp]
/-! ## Types and values -/
def dO (t:Ty):Bool:=
 ((decide (t.Kind=1)||decide (t.Kind=3))&&decide (t.Bits=0)&&decide (t.Frac=0)&&decide (t.Round=0)&&decide (t.Over=0))||
 (decide (t.Kind=2)&&decide (2<=t.Bits)&&decide (t.Bits<=31)&&decide (0<=t.Frac)&&decide (t.Frac<=30)&&decide (1<=t.Round)&&decide (t.Round<=4)&&(decide (t.Over=1)||decide (t.Over=2)))
def dE (t:Ty):Int:=bif dO t then 0 else 10
def gI (t:Ty):Bool:=decide (t.Kind=2)&&decide (2<=t.Bits)&&decide (t.Bits<=31)&&decide (0<=t.Frac)&&decide (t.Frac<=30)&&decide (1<=t.Round)&&decide (t.Round<=4)&&(decide (t.Over=1)||decide (t.Over=2))
def mK (b:Int):Int:=2^(b-1).toNat
def fG (n:Int):Bool:=decide (-2147483647<=n)&&decide (n<=2147483647)
def jG (t:Ty) (v:Vl):Bool:=
 bif decide (t.Kind=2) then decide (v.D=1)&&decide (-mK t.Bits<=v.N)&&decide (v.N<mK t.Bits)
 else bif decide (t.Kind=3) then decide (v.D=1)&&fG v.N
 else decide (1<=v.D)&&decide (v.D<=2147483647)&&fG v.N&&decide (Int.gcd v.N v.D=1)
theorem zBt {t:Ty} (h:t.Kind=2):dO t=gI t:=by simp [dO,gI,h]
theorem half_le {b:Int} (h1:2<=b) (h2:b<=31):1<=mK b/\mK b<=1073741824:=by
 unfold mK
 have h3:(b-1).toNat<=30:=by omega
 have h4:(2:Int)^(b-1).toNat<=2^30:=by
  have:=Nat.pow_le_pow_right (n:=2) (by omega) h3
  exact_mod_cast this
 have h5:(1:Int)<=2^(b-1).toNat:=by
  have:=Nat.one_le_two_pow (n:=(b-1).toNat)
  exact_mod_cast this
 omega
/-! ## Conditions as the walks meet them -/
theorem lin_mk {a b:Lf} (h:a.K=b.K) (k:a.L=b.L):a=b:=by cases a;cases b;simp_all
theorem mono_ne {x y:Mono} (h:(!bH x.cells y.cells)=true):¬x=y:=by
 rintro rfl
 simp [bH,cEq,Mono.cells] at h
theorem mono_eq {x y:Mono} (h:(!bH x.cells y.cells)=false):x=y:=by
 cases x;cases y
 simpa [bH,cEq,Mono.cells] using h
def fM (s:ByteArray) (k:Nat):Int:=(s.data.toList.getD k 0).toNat
def sR (s:ByteArray):Bool:=(((decide ((s.size:Int)<1)||decide ((16:Int)<s.size))||bS dM s)||decide (fM s 0<97))||decide (122<fM s 0)
theorem ident_no {s:ByteArray} (h:sR s=true):bO s=false:=by
 unfold sR fM at h
 cases hn:bO s with
 |false=>rfl
 |true=>
  exfalso
  simp only [bO,Bool.and_eq_true,decide_eq_true_eq,Bool.not_eq_true'] at hn
  obtain ⟨⟨⟨⟨h1,h2⟩,h3⟩,h4⟩,h5⟩:=hn
  have h6:s.data.toList.head? =some (s.data.toList.getD 0 0):=by rw [List.head?_eq_getElem?];exact zDr (by omega)
  rw [h6] at h3
  simp only [Option.all_some,mV,mA,Bool.and_eq_true,decide_eq_true_eq] at h3
  simp only [Bool.or_eq_true,decide_eq_true_eq,h5] at h
  rcases h with (((h|h)|h)|h)|h
  ·omega
  ·omega
  ·cases h
  ·omega
  ·omega
theorem ident_yes {s:ByteArray} (h:sR s=false):1<=s.size/\s.size<=16/\bO s=s.data.toList.all gA:=by
 unfold sR fM at h
 simp only [Bool.or_eq_false_iff,decide_eq_false_iff_not] at h
 obtain ⟨⟨⟨⟨h1,h2⟩,h3⟩,h4⟩,h5⟩:=h
 have h7:1<=s.size:=by omega
 refine ⟨h7,by omega,?_⟩
 have h6:s.data.toList.head? =some (s.data.toList.getD 0 0):=by rw [List.head?_eq_getElem?];exact zDr (by omega)
 unfold bO
 rw [h6,h3]
 have e1:decide (1<=s.size)=true:=by simp;omega
 have e2:decide (s.size<=16)=true:=by simp;omega
 have e3:mV (s.data.toList.getD 0 0)=true:=by simp only [mV,mA,Bool.and_eq_true,decide_eq_true_eq];omega
 simp only [e1,e2,Option.all_some,e3,Bool.true_and,Bool.not_false,Bool.and_true]
def rB (n:Int):Bool:=((decide (n<97)||decide (122<n))&&(decide (n<48)||decide (57<n)))&& !decide (n=95)
theorem notWord_eq (c:UInt8):rB c.toNat= !gA c:=by
 unfold rB gA pH mA sS
 rw [Bool.eq_iff_iff]
 simp only [Bool.and_eq_true,Bool.or_eq_true,Bool.not_eq_true',Bool.or_eq_false_iff,Bool.and_eq_false_iff,decide_eq_true_eq,decide_eq_false_iff_not]
 omega
theorem word_no {s:ByteArray} {k:Nat} (hlt:k<s.size) (h:rB ((s.data.toList.getD k 0).toNat:Int)=true):s.data.toList.all gA=false:=by
 rw [notWord_eq] at h
 rw [List.all_eq_false]
 exact ⟨_,List.mem_of_getElem? (zDr hlt),by simpa using h⟩
theorem word_yes {s:ByteArray} {k:Nat} (hlt:k<s.size) (hp:(s.data.toList.take k).all gA=true) (h:rB ((s.data.toList.getD k 0).toNat:Int)=false):(s.data.toList.take (k+1)).all gA=true:=by
 rw [notWord_eq] at h
 rw [zNd (zDr hlt),hp]
 simpa using h
theorem word_all {s:ByteArray} {k:Nat} (hp:(s.data.toList.take k).all gA=true) (h:¬k<s.size):s.data.toList.all gA=true:=by
 rw [List.take_of_length_le (by simp;omega)] at hp
 exact hp
def sO (t:Ty):Bool:=decide (t.Bits=0)&&decide (t.Frac=0)&&decide (t.Round=0)&&decide (t.Over=0)
theorem plainT_eq (t:Ty):bH [cI t.Kind,cI t.Bits,cI t.Frac,cI t.Round,cI t.Over] [cI t.Kind,.lit (.int .i64 0),.lit (.int .i64 0),.lit (.int .i64 0),.lit (.int .i64 0)]=sO t:=by
 simp [bH,cEq,sO,Bool.and_assoc]
def rC (t:Ty):Bool:=((((!decide (t.Kind=2)||decide (t.Bits<2))||decide (31<t.Bits))||decide (t.Frac<0))||decide (30<t.Frac))|| !((decide (1<=t.Round)&&decide (t.Round<=4))&&(decide (t.Over=1)||decide (t.Over=2)))
theorem fixCond_eq (t:Ty):rC t= !gI t:=by
 unfold rC gI
 rw [Bool.eq_iff_iff]
 simp only [Bool.and_eq_true,Bool.or_eq_true,Bool.not_eq_true',Bool.or_eq_false_iff,Bool.and_eq_false_iff,decide_eq_true_eq,decide_eq_false_iff_not]
 omega
theorem fix_no {t:Ty} (h:rC t=true):gI t=false:=by rw [fixCond_eq] at h;simpa using h
theorem fix_yes {t:Ty} (h:rC t=false):gI t=true:=by rw [fixCond_eq] at h;simpa using h
theorem type1 {t:Ty} (h:(decide (t.Kind=1)||decide (t.Kind=3))=true):(((decide (t.Bits=0)&&decide (t.Frac=0))&&decide (t.Round=0))&&decide (t.Over=0))=dO t:=by
 unfold dO
 rw [h]
 have:decide (t.Kind=2)=false:=by
  simp only [Bool.or_eq_true,decide_eq_true_eq] at h
  simp;omega
 simp [this]
theorem type2 {t:Ty} (h:(decide (t.Kind=1)||decide (t.Kind=3))=false):(((((((decide (t.Kind=2)&&decide (2<=t.Bits))&&decide (t.Bits<=31))&&decide (0<=t.Frac))&&decide (t.Frac<=30))&&decide (1<=t.Round))&&decide (t.Round<=4))&&(decide (t.Over=1)||decide (t.Over=2)))=dO t:=by
 unfold dO
 rw [h]
 simp
theorem tyk1 {t:Ty} (h:t.Kind=1∨t.Kind=3):dO t=sO t:=by
 rw [←type1 (t:=t) (by simpa using h)];rfl
theorem tyk0 {t:Ty} (h1:¬t.Kind=1) (h3:¬t.Kind=3) (h2:¬t.Kind=2):dO t=false:=by
 simp [dO,h1,h2,h3]
theorem zPl {t:Ty} (h:¬dE t=0):dO t=false:=by
 unfold dE at h;cases ht:dO t<;>simp_all
theorem zGk {t:Ty} (h:dE t=0):dO t=true:=by
 unfold dE at h;cases ht:dO t<;>simp_all
theorem zCq {n:Int} (h:0<=n/\n<=18446744073709551615):IntKind.u64.wrap n=n:=IntWalk.u64_in _ h
theorem zSc {b:Int} (h1:2<=b) (h2:b<=31):IntKind.i64.wrap (1*2^(min (IntKind.u64.wrap (b-1)).toNat IntKind.i64.bits))=mK b:=by
 rw [zCq (by omega)]
 have h3:=half_le h1 h2
 have h4:min (b-1).toNat IntKind.i64.bits=(b-1).toNat:=Nat.min_eq_left (by simp [IntKind.bits];omega)
 rw [h4,Int.one_mul]
 exact zDi ⟨by unfold mK at h3;omega,by unfold mK at h3;omega⟩
theorem min_eq {b:Int} (h1:2<=b) (h2:b<=31):IntKind.i64.wrap (-(IntKind.i64.wrap (1*2^(min (IntKind.u64.wrap (b-1)).toNat IntKind.i64.bits))))= -mK b:=by
 rw [zSc h1 h2]
 have:=half_le h1 h2
 exact zDi ⟨by omega,by omega⟩
theorem max_eq {b:Int} (h1:2<=b) (h2:b<=31):IntKind.i64.wrap (IntKind.i64.wrap (1*2^(min (IntKind.u64.wrap (b-1)).toNat IntKind.i64.bits))-1)=mK b-1:=by
 rw [zSc h1 h2]
 have:=half_le h1 h2
 exact zDi ⟨by omega,by omega⟩
theorem fixB {t:Ty} (h:gI t=true):2<=t.Bits/\t.Bits<=31:=by
 simp only [gI,Bool.and_eq_true,decide_eq_true_eq] at h
 omega
theorem fxz {t:Ty} (h:(bif gI t then (0:Int) else 10)=0):gI t=true:=by cases ht:gI t<;>simp_all
theorem fxn {t:Ty} (h:¬(bif gI t then (0:Int) else 10)=0):gI t=false:=by cases ht:gI t<;>simp_all
theorem fxa {t:Ty} {p:Bool} (h:Lz (decide ((bif gI t then (0:Int) else 10)=0)&&p) true=true):gI t=true:=by
 simp only [Lz,cond_true,Bool.and_eq_true,decide_eq_true_eq] at h
 exact fxz h.1
theorem fxb {t:Ty} {p q:Bool} (h:Lz (decide ((bif gI t then (0:Int) else 10)=0)&&p&&q) true=true):gI t=true:=by
 simp only [Lz,cond_true,Bool.and_eq_true,decide_eq_true_eq] at h
 exact fxz h.1.1
theorem fixV (t:Ty) (v:Vl):(decide ((bif gI t then (0:Int) else 10)=0)&&decide (v.D=1)&&decide (-mK t.Bits<=v.N)&&decide (v.N<=mK t.Bits-1))=(gI t&&(decide (v.D=1)&&decide (-mK t.Bits<=v.N)&&decide (v.N<mK t.Bits))):=by
 have:decide (v.N<=mK t.Bits-1)=decide (v.N<mK t.Bits):=decide_eq_decide.2 (by omega)
 rw [this]
 cases gI t<;>simp
theorem mag_neg {n:Int} (h:n<0) (hn: -9223372036854775808<=n):IntKind.u64.wrap (-(IntKind.u64.wrap n))=n.natAbs:=by
 have e:IntKind.u64.wrap n=n+18446744073709551616:=by simp [IntKind.wrap,IntKind.bits,IntKind.signed];omega
 rw [e]
 simp [IntKind.wrap,IntKind.bits,IntKind.signed];omega
theorem mag_pos {n:Int} (h:¬n<0) (hn:n<=9223372036854775807):IntKind.u64.wrap n=n.natAbs:=by
 rw [zCq (by omega)];omega
theorem gcd_step {x y:Nat} (h:¬y=0):Nat.gcd x y=Nat.gcd y (x%y):=by
 rw [Nat.gcd_comm x y,Nat.gcd_rec y x,Nat.gcd_comm]
theorem frV {v:Vl} (h:Lz (decide (1<=v.D)&&decide (v.D<=2147483647)&&fG v.N) true=true):1<=v.D/\v.D<=2147483647/\ -9223372036854775808<=v.N/\v.N<=9223372036854775807:=by
 simp only [Lz,cond_true,Bool.and_eq_true,decide_eq_true_eq,fG] at h
 omega
theorem u64_D {d:Int} (h1:1<=d) (h2:d<=2147483647):IntKind.u64.wrap d=d.natAbs:=by
 rw [zCq (by omega)];omega
theorem max_abs {n:Int} (h1: -2147483647<=n) (h2:n<=2147483647):max n (IntKind.i64.wrap (-n))=n.natAbs:=by
 rw [zDi ⟨by omega,by omega⟩];omega
def sI (v:Vl):Bool:=((decide (2147483647<v.N)||decide (v.N< -2147483647))||decide (v.D<1))||decide (2147483647<v.D)
theorem val_in {v:Vl} (h:sI v=false): -2147483647<=v.N/\v.N<=2147483647/\1<=v.D/\v.D<=2147483647:=by
 simp only [sI,Bool.or_eq_false_iff,decide_eq_false_iff_not] at h
 omega
theorem val_out {t:Ty} {v:Vl} (hk:¬t.Kind=2) (h:sI v=true):jG t v=false:=by
 unfold jG fG
 rw [yV hk]
 simp only [sI,Bool.or_eq_true,decide_eq_true_eq] at h
 by_cases h3:t.Kind=3
 ·simp [h3];omega
 ·simp [h3];omega
theorem valfix {t:Ty} {v:Vl} (hk:t.Kind=2) (b1:2<=t.Bits) (b2:t.Bits<=31):(decide (v.D=1)&&decide (IntKind.i64.wrap (-(IntKind.i64.wrap (1*2^(min (t.Bits-1).toNat IntKind.i64.bits))))<=v.N)&&decide (v.N<IntKind.i64.wrap (1*2^(min (t.Bits-1).toNat IntKind.i64.bits))))=jG t v:=by
 have e:=zSc b1 b2
 have e':=min_eq b1 b2
 rw [zCq (by omega)] at e e'
 rw [e',e,jG,hk]
 rfl
/-! ## Expressions -/
def bI (op:Int):Int:=if op=1∨op=2∨op=3 then 0 else if op=8∨op=12∨op=18 then 1 else if op=11 then 3 else 2
def bC (e:Ex):Bool:=decide (13<=e.Op)&&decide (e.Op<=18)
def fI (op i:Int):Bool:=(((decide (op=11)&&decide (i=0))||decide (op=16))||decide (op=17))||decide (op=18)
def pA (l:Lf):Bool:=decide (l.K=0)&&decide ((l.L.length:Int)=0)
def jX (x:Ix):Bool:=bif decide (x.From=bs []) then decide ((x.At.length:Int)=0) else pA x.Lin
def rW (v:Vl):Bool:=bH [cI v.N,cI v.D] [cI 0,cI 0]
def ty0 (t:Ty):Bool:=bH [cI t.Kind,cI t.Bits,cI t.Frac,cI t.Round,cI t.Over] [cI 0,cI 0,cI 0,cI 0,cI 0]
def jE (e:Ex):Bool:=
 !(decide (e.Op<1)||decide (18<e.Op))&& !(!decide (e.Op=1)&& !rW e.Val)&& !(!(decide (e.Op=1)||decide (e.Op=12))&& !ty0 e.Ty)&& !(!decide (e.Op=2)&& !pA e.Lin)&&
 !(!decide (e.Op=3)&&(!decide (e.Name=bs [])||decide ((0:Int)<e.Idx.length)))&&e.Idx.all jX
def sQ (x:Ix):Bool:= !(!decide (x.From=bs [])&& !bO x.From)
def mG (e:Ex):Bool:= !(decide (e.Op=3)&& !bO e.Name)&&e.Idx.all sQ
def sN (x:Ix):Bool:= !decide ((6:Int)<x.At.length)
def mZ (e:Ex):Bool:= !(!decide ((e.Args.length:Int)=bI e.Op)||decide ((6:Int)<e.Idx.length))&&e.Idx.all sN
def fC (op i:Int):List Ex->Bool
 |[]=>true
 |a::r=>(bC a==fI op i)&&fC op (i+1) r
def gN (e:Ex):Bool:= !((decide (e.Op=1)||decide (e.Op=12))&& !dO e.Ty)&&fC e.Op 0 e.Args
def jC (e:Ex):List Lf:=e.Lin::e.Idx.flatMap fun x=>x.Lin::x.At
def jJ (e:Ex):Bool:= !(decide (e.Op=1)&& !jG e.Ty e.Val)&&(jC e).all gD
def bU (e:Ex):Int:=bif !jE e then 5 else bif !mG e then 7 else bif !mZ e then 11 else bif !gN e then 10 else bif !jJ e then 1 else 0
mutual
def bF:Ex->List Ex
 |.mk o n v t l i arg_=>.mk o n v t l i arg_::bK arg_
def bK:List Ex->List Ex
 |[]=>[]
 |e::r=>bF e++bK r
end
theorem wO (e:Ex):bF e=e::bK e.Args:=by cases e;rw [bF];rfl
theorem zLt (a b:List Ex):bK (a++b)=bK a++bK b:=by
 induction a with
 |nil=>rfl
 |cons x r ih=>rw [List.cons_append,bK,bK,ih,List.append_assoc]
def gT:List Ex->Int
 |[]=>0
 |e::r=>bif decide (bU e=0) then gT r else bU e
theorem zFd (a b:List Ex):gT (a++b)=bif decide (gT a=0) then gT b else gT a:=by
 induction a with
 |nil=>rfl
 |cons x r ih=>
  rw [List.cons_append,gT,gT,ih]
  by_cases h:bU x=0
  ·simp [h]
  ·simp [h]
def fN (e:Ex):Int:=gT (bF e)
def rJ (l:List Ex):Int:=gT (bK l)
theorem zEy (e:Ex):fN e=bif decide (bU e=0) then rJ e.Args else bU e:=by rw [fN,wO,gT];rfl
theorem zNp (e:Ex) (r:List Ex):rJ (e::r)=bif decide (fN e=0) then rJ r else fN e:=by rw [rJ,bK,zFd];rfl
def pP (f:Ex->Int) (d:Int):List Ex->Int
 |[]=>d
 |a::r=>pP f (max d (1+f a)) r
def gG:Nat->Ex->Int
 |0,_=>1
 |n+1,e=>pP (gG n) 1 e.Args
theorem depF_le {f:Ex->Int} {n:Int} (h:∀a,1<=f a/\f a<=n):∀(l:List Ex) (d:Int),1<=d->d<=n+1->1<=pP f d l/\pP f d l<=n+1
 |[],d,h1,h2=>⟨h1,h2⟩
 |a::r,d,h1,h2=>by
  have:=h a
  exact depF_le h r _ (by omega) (by omega)
theorem depT_le:∀(n:Nat) (e:Ex),1<=gG n e/\gG n e<=n+1
 |0,e=>by simp [gG]
 |n+1,e=>by
  have:=depF_le (n:=n+1) (depT_le n) e.Args 1 (by omega) (by omega)
  rw [gG];omega
mutual
def rX:Ex->Nat->Nat
 |.mk _ _ _ _ _ _ arg_,most=>rG arg_ most 1
def rG:List Ex->Nat->Nat->Nat
 |[],_,n=>n
 |a::r,most,n=>if n<=most then rG r most (n+rX a (most-n)) else n
end
theorem sizE_eq (e:Ex) (m:Nat):rX e m=rG e.Args m 1:=by cases e;rw [rX];rfl
mutual
theorem sizE_min:∀(e:Ex) (m:Nat),rX e m=min (bF e).length (m+1)
 |.mk o n v t l i arg_,m=>by
  rw [rX,bF,sizL_min arg_ m 1 (by omega)]
  simp;omega
theorem sizL_min:∀(l:List Ex) (m n:Nat),n<=m+1->rG l m n=min (n+(bK l).length) (m+1)
 |[],m,n,h=>by simp [rG,bK];omega
 |a::r,m,n,h=>by
  rw [rG,bK,List.length_append]
  split
  ·rename_i hn
   rw [sizE_min a (m-n),sizL_min r m _ (by omega)]
   omega
  ·omega
end
def szT (e:Ex):Nat:=min (bF e).length 2001
def fQ (e:Ex):Int:=bif decide (40<gG 40 e) then 13 else bif decide ((2000:Int)<szT e) then 2 else fN e
theorem nodes_wt:∀e:Ex,(bF e).length<=e.wt:=by
 intro e
 induction e using Ex.ind with
 |_ e ih=>
  rw [wO,Ex.wt_eq]
  have:∀l:List Ex,(∀a,a∈l->(bF a).length<=a.wt)->(bK l).length<=dQ l:=by
   intro l hl
   induction l with
   |nil=>simp [bK]
   |cons a r ihr=>
    rw [bK,dQ,List.length_append]
    have h1:=hl a (by simp)
    have h2:=ihr fun b hb=>hl b (by simp [hb])
    omega
  have:=this e.Args ih
  simp;omega
theorem zEj:∀(e x:Ex),x∈bF e->x.wt<=e.wt:=by
 intro e
 induction e using Ex.ind with
 |_ e ih=>
  intro x hx
  rw [wO] at hx
  rcases List.mem_cons.1 hx with rfl|hx
  ·omega
  ·have:∀l:List Ex,(∀a,a∈l->a∈e.Args)->x∈bK l->x.wt<=e.wt:=by
    intro l hl hx
    induction l with
    |nil=>simp [bK] at hx
    |cons a r ihr=>
     rw [bK] at hx
     rcases List.mem_append.1 hx with h|h
     ·have h1:=ih a (hl a (by simp)) x h
      have h2:=Ex.arg_wt (hl a (by simp))
      omega
     ·exact ihr (fun b hb=>hl b (by simp [hb])) h
   exact this e.Args (fun a h=>h) hx
theorem zBz {α:Type} (l:List α) (p:α->Bool):(!l.any fun x=> !p x)=l.all p:=by
 induction l with
 |nil=>rfl
 |cons x r ih=>simp only [List.any_cons,List.all_cons,←ih];cases p x<;>simp
theorem zQq {α:Type} {p:α->Bool} {l:List α} {k:Nat} {x:α} (h:l[k]? =some x) (hp:l.all p=(l.drop k).all p) (hx:p x=true):l.all p=(l.drop (k+1)).all p:=by
 rw [hp,qY h,List.all_cons,hx];rfl
theorem zPa {α:Type} {p:α->Bool} {l:List α} {k:Nat} {x:α} (h:l[k]? =some x) (hx:p x=false):l.all p=false:=by
 rw [List.all_eq_false];exact ⟨x,qA h,by simp [hx]⟩
theorem all_end {α:Type} {p:α->Bool} {l:List α} {k:Nat} (hp:l.all p=(l.drop k).all p) (h:¬k<l.length):l.all p=true:=by
 rw [hp,kV h];rfl
theorem tyErr_dec (t:Ty):decide (dE t=0)=dO t:=by unfold dE;cases dO t<;>rfl
theorem linErr_ne {l:Lf} (h:¬nV l=0):gD l=false:=by unfold nV at h;cases hl:gD l<;>simp_all
theorem linErr_eq {l:Lf} (h:nV l=0):gD l=true:=by unfold nV at h;cases hl:gD l<;>simp_all
theorem plain2 {e:Ex} {b:Bool} (h:((!decide (e.Op=1)&& !bH [cI e.Val.N,cI e.Val.D] [cI 0,cI 0])||((!decide (e.Op=1)&& !decide (e.Op=12))&& !bH [cI e.Ty.Kind,cI e.Ty.Bits,cI e.Ty.Frac,cI e.Ty.Round,cI e.Ty.Over] [cI 0,cI 0,cI 0,cI 0,cI 0]))=b):
  ((!decide (e.Op=1)&& !rW e.Val)||(!(decide (e.Op=1)||decide (e.Op=12))&& !ty0 e.Ty))=b:=by
 rw [←h];unfold rW ty0;cases decide (e.Op=1)<;>simp
theorem plain3 {e:Ex} {b:Bool} (h:((!decide (e.Op=2)&&(!decide (e.Lin.K=0)||decide ((0:Int)<e.Lin.L.length)))||(!decide (e.Op=3)&&(!decide (e.Name=bs [])||decide ((0:Int)<e.Idx.length))))=b):
  ((!decide (e.Op=2)&& !pA e.Lin)||(!decide (e.Op=3)&&(!decide (e.Name=bs [])||decide ((0:Int)<e.Idx.length))))=b:=by
 rw [←h]
 have:(!pA e.Lin)=(!decide (e.Lin.K=0)||decide ((0:Int)<e.Lin.L.length)):=by
  unfold pA
  rw [Bool.not_and]
  congr 1
  exact v36
 rw [this]
theorem well_dec {x:Ix} {b:Bool} (h:((decide (x.From=bs [])&&decide ((0:Int)<x.At.length))||(!decide (x.From=bs [])&&(!decide (x.Lin.K=0)||decide ((0:Int)<x.Lin.L.length))))=b):(!jX x)=b:=by
 rw [←h]
 unfold jX pA
 by_cases hf:x.From=bs []
 ·simp only [hf,decide_true,cond_true,Bool.true_and,Bool.not_true,Bool.false_and,Bool.or_false]
  exact v36
 ·simp only [hf,decide_false,cond_false,Bool.false_and,Bool.not_false,Bool.true_and,Bool.false_or,Bool.not_and]
  congr 1
  exact v36
theorem syn2 {e:Ex} (h:((!decide (e.Op=1)&& !rW e.Val)||(!(decide (e.Op=1)||decide (e.Op=12))&& !ty0 e.Ty))=true):false=jE e:=by
 unfold jE
 rw [Bool.or_eq_true] at h
 rcases h with h|h<;>simp only [h,Bool.not_true,Bool.and_false,Bool.false_and]
theorem syn3 {e:Ex} (h:((!decide (e.Op=2)&& !pA e.Lin)||(!decide (e.Op=3)&&(!decide (e.Name=bs [])||decide ((0:Int)<e.Idx.length))))=true):false=jE e:=by
 unfold jE
 rw [Bool.or_eq_true] at h
 rcases h with h|h<;>simp only [h,Bool.not_true,Bool.and_false,Bool.false_and]
theorem syn5 {e:Ex} (h1:(decide (e.Op<1)||decide (18<e.Op))=false) (h2:((!decide (e.Op=1)&& !rW e.Val)||(!(decide (e.Op=1)||decide (e.Op=12))&& !ty0 e.Ty))=false) (h3:((!decide (e.Op=2)&& !pA e.Lin)||(!decide (e.Op=3)&&(!decide (e.Name=bs [])||decide ((0:Int)<e.Idx.length))))=false) (h4:e.Idx.all jX=true):true=jE e:=by
 unfold jE
 obtain ⟨a,b⟩:=Bool.or_eq_false_iff.1 h2
 obtain ⟨c,d⟩:=Bool.or_eq_false_iff.1 h3
 simp only [h1,a,b,c,d,h4,Bool.not_false,Bool.and_self]
theorem form_start {e:Ex} (h:((decide (e.Op=1)&& !jG e.Ty e.Val)|| !gD e.Lin)=false):(jC e).all gD=((e.Idx.drop 0).flatMap fun x=>x.Lin::x.At).all gD:=by
 obtain ⟨_,h2⟩:=Bool.or_eq_false_iff.1 h
 rw [jC,List.all_cons,show gD e.Lin=true by simpa using h2];rfl
theorem form_no {e:Ex} (h:((decide (e.Op=1)&& !jG e.Ty e.Val)|| !gD e.Lin)=true):false=jJ e:=by
 unfold jJ jC
 rw [Bool.or_eq_true] at h
 rcases h with h|h
 ·simp only [h,Bool.not_true,Bool.false_and]
 ·rw [List.all_cons,show gD e.Lin=false by simpa using h];simp
theorem form_no2 {e:Ex} {l:List Lf} (h:(jC e).all gD=l.all gD) (h2:l.all gD=false):false=jJ e:=by
 unfold jJ;rw [h,h2,Bool.and_false]
theorem form_yes {e:Ex} (h:((decide (e.Op=1)&& !jG e.Ty e.Val)|| !gD e.Lin)=false) (h2:(jC e).all gD=true):true=jJ e:=by
 obtain ⟨h1,_⟩:=Bool.or_eq_false_iff.1 h
 unfold jJ;rw [h1,h2];rfl
theorem types_ty {e:Ex} (h:gN e=true):e.Op=1->dO e.Ty=true:=by
 intro h1
 simp only [gN,h1,decide_true,Bool.true_or,Bool.true_and,Bool.not_not,Bool.and_eq_true] at h
 exact h.1
theorem dep_start {n:Nat} {e:Ex} (h:n≠0):gG n e=pP (gG (n-1)) 1 (e.Args.drop 0):=by
 cases n with
 |zero=>exact absurd rfl h
 |succ n=>rfl
theorem dep_end {n:Nat} {e:Ex} {l d:Int} {k:Nat} (hl:l=n+1) (c:e.Args.length<=k∨l<=1) (h3:n≠0->gG n e=pP (gG (n-1)) d (e.Args.drop k)) (h4:n=0->d=1):d=gG n e:=by
 by_cases h0:n=0
 ·rw [h4 h0,h0];rfl
 ·rw [h3 h0,kV (by omega)];rfl
theorem siz_end {l:List Ex} {k n m:Nat} {x:Int} (hl:x=m) (h:l.length<=k∨x<n):n=rG (l.drop k) m n:=by
 by_cases hk:k<l.length
 ·obtain ⟨a,ha⟩:=qU l k hk
  rw [qY ha,rG,if_neg (by omega)]
 ·rw [kV hk,rG]
abbrev ixF (x:Ix):List Lf:=x.Lin::x.At
theorem forms_at {e:Ex} {k:Nat} {x:Ix} (h:e.Idx[k]? =some x):jC e=(e.Lin::(e.Idx.take k).flatMap ixF)++x.Lin::(x.At++(e.Idx.drop (k+1)).flatMap ixF):=by
 have e1:e.Idx=e.Idx.take k++x::e.Idx.drop (k+1):=by rw [←qY h,List.take_append_drop]
 have e2:jC e=e.Lin::e.Idx.flatMap ixF:=rfl
 have e3:e.Idx.flatMap ixF=(e.Idx.take k++x::e.Idx.drop (k+1)).flatMap ixF:=congrArg _ e1
 rw [e2,e3,List.flatMap_append,List.flatMap_cons]
 simp [ixF]
theorem forms_at2 {e:Ex} {k j:Nat} {x:Ix} {l:Lf} (h:e.Idx[k]? =some x) (hl:x.At[j]? =some l):jC e=((e.Lin::(e.Idx.take k).flatMap ixF)++[x.Lin]++x.At.take j)++l::(x.At.drop (j+1)++(e.Idx.drop (k+1)).flatMap ixF):=by
 rw [forms_at h]
 have e1:x.At=x.At.take j++l::x.At.drop (j+1):=by rw [←qY hl,List.take_append_drop]
 have e2:x.At++(e.Idx.drop (k+1)).flatMap ixF=(x.At.take j++l::x.At.drop (j+1))++(e.Idx.drop (k+1)).flatMap ixF:=congrArg (· ++(e.Idx.drop (k+1)).flatMap ixF) e1
 rw [e2]
 simp
theorem forms_next {e:Ex} {k:Nat} {x:Ix} (h:e.Idx[k]? =some x):e.Lin::(e.Idx.take (k+1)).flatMap ixF=(e.Lin::(e.Idx.take k).flatMap ixF)++[x.Lin]++x.At:=by
 rw [yC h,List.flatMap_append];simp [ixF]
theorem nodes_at {e a:Ex} {k:Nat} (h:e.Args[k]? =some a) {pre suf:List Ex} {x:Ex} (hx:bF a=pre++x::suf):bF e=(e::bK (e.Args.take k)++pre)++x::(suf++bK (e.Args.drop (k+1))):=by
 have e1:e.Args=e.Args.take k++a::e.Args.drop (k+1):=by rw [←qY h,List.take_append_drop]
 have e2:bK e.Args=bK (e.Args.take k)++(bF a++bK (e.Args.drop (k+1))):=by
  have:=congrArg bK e1
  rw [zLt,bK] at this
  exact this
 rw [wO,e2,hx]
 simp
theorem zSb {l:List Ex} {k:Nat} {a:Ex} (h:l[k]? =some a):bK (l.take (k+1))=bK (l.take k)++bF a:=by
 rw [yC h,zLt,bK,bK,List.append_nil]
theorem forms_wt {e:Ex} {l:Lf} {B:Nat} (he:e.wt<=B) (h:l∈jC e):l.L.length<=B:=by
 unfold jC at h
 rcases List.mem_cons.1 h with rfl|h
 ·exact (e.parts he).1
 ·obtain ⟨x,hx,hl⟩:=List.mem_flatMap.1 h
  have h1:=Ex.idx_wt hx
  rcases List.mem_cons.1 hl with rfl|hl
  ·omega
  ·have:=zCn hl;omega
theorem node5 {e:Ex} {b:Bool} (h:gN e=true) (c:(decide (e.Op=1)&& !(dO e.Ty&&jG e.Ty e.Val))=b):(decide (e.Op=1)&& !jG e.Ty e.Val)=b:=by
 rw [←c]
 by_cases h1:e.Op=1
 ·rw [types_ty h h1];simp [h1]
 ·simp [h1]
theorem all_app_no {α:Type} {p:α->Bool} {pre suf:List α} {x:α} (h:(pre++[x]).all p=false):(pre++x::suf).all p=false:=by
 rw [show pre++x::suf=(pre++[x])++suf by simp,List.all_append,h];rfl
theorem errs_one {pre:List Ex} {x:Ex} (h:gT pre=0) (c:¬bU x=0):gT (pre++[x])=bU x:=by
 rw [zFd,h,gT,yV c];rfl
theorem errs_pre {pre suf:List Ex} {x:Ex} (h:¬gT (pre++[x])=0):gT (pre++x::suf)=gT (pre++[x]):=by
 rw [show pre++x::suf=(pre++[x])++suf by simp,zFd,yV h];rfl
end Go.Br
end
section
namespace Go.Br
open Go Go.Eng Go.L41
/-! ## Equality,part by part -/
theorem ix_eq (a b:Ix):((decide (a.From=b.From)&&decide (a.Lin=b.Lin))&&decide (a.At=b.At))=decide (a=b):=by
 rw [Bool.eq_iff_iff];simp only [Bool.and_eq_true,decide_eq_true_eq]
 cases a;cases b;simp only [Ix.mk.injEq]
 constructor
 ·rintro ⟨⟨h1,h2⟩,h3⟩;exact ⟨h2,h1,h3⟩
 ·rintro ⟨h1,h2,h3⟩;exact ⟨⟨h2,h1⟩,h3⟩
theorem litsEq_val (a b:Vl):bH [cI a.N,cI a.D] [cI b.N,cI b.D]=decide (a=b):=by
 rw [Bool.eq_iff_iff];cases a;cases b;simp [bH,cEq]
theorem litsEq_ty (a b:Ty):bH [cI a.Kind,cI a.Bits,cI a.Frac,cI a.Round,cI a.Over] [cI b.Kind,cI b.Bits,cI b.Frac,cI b.Round,cI b.Over]=decide (a=b):=by
 rw [Bool.eq_iff_iff];cases a;cases b;simp [bH,cEq]
theorem ex_eq (a b:Ex):((((((decide (a.Op=b.Op)&&decide (a.Name=b.Name))&&bH [cI a.Val.N,cI a.Val.D] [cI b.Val.N,cI b.Val.D])&&bH [cI a.Ty.Kind,cI a.Ty.Bits,cI a.Ty.Frac,cI a.Ty.Round,cI a.Ty.Over] [cI b.Ty.Kind,cI b.Ty.Bits,cI b.Ty.Frac,cI b.Ty.Round,cI b.Ty.Over])&&decide (a.Lin=b.Lin))&&decide (a.Idx=b.Idx))&&decide (a.Args=b.Args))=decide (a=b):=by
 rw [litsEq_val,litsEq_ty,Bool.eq_iff_iff]
 simp only [Bool.and_eq_true,decide_eq_true_eq,Ex.eq_iff]
 constructor
 ·rintro ⟨⟨⟨⟨⟨⟨h1,h2⟩,h3⟩,h4⟩,h5⟩,h6⟩,h7⟩;exact ⟨h1,h2,h3,h4,h5,h6,h7⟩
 ·rintro ⟨h1,h2,h3,h4,h5,h6,h7⟩;exact ⟨⟨⟨⟨⟨⟨h1,h2⟩,h3⟩,h4⟩,h5⟩,h6⟩,h7⟩
/-! ## Weights -/
def fT (m n:Nat):List Lf->Nat
 |[]=>n
 |l::r=>if n<=m then fT m (n+l.L.length) r else n
def dU (m n:Nat):List Ix->Nat
 |[]=>n
 |x::r=>if n<=m then dU m (fT m (n+x.Lin.L.length+x.At.length) x.At) r else n
mutual
def fH:Ex->Nat->Nat
 |.mk _ _ _ _ l i arg_,m=>gU arg_ m (dU m (1+l.L.length+i.length) i)
def gU:List Ex->Nat->Nat->Nat
 |[],_,n=>n
 |a::r,m,n=>if n<=m then gU r m (n+fH a (m-n)) else n
end
theorem weighE_eq (e:Ex) (m:Nat):fH e m=gU e.Args m (dU m (1+e.Lin.L.length+e.Idx.length) e.Idx):=by cases e;rw [fH];rfl
def Ix.fit (x:Ix):Prop:=x.Lin.L.length<=140737488355328/\x.At.length<=140737488355328/\∀l,l∈x.At->l.L.length<=140737488355328
mutual
def Ex.fit:Ex->Prop
 |.mk _ _ _ _ l i arg_=>l.L.length<=140737488355328/\i.length<=140737488355328/\arg_.length<=140737488355328/\(∀x,x∈i->x.fit)/\xM arg_
def xM:List Ex->Prop
 |[]=>True
 |a::r=>a.fit/\xM r
end
theorem fitL_mem {l:List Ex} (h:xM l):∀a,a∈l->a.fit:=by
 induction l with
 |nil=>intro a ha;cases ha
 |cons x r ih=>
  intro a ha
  rcases List.mem_cons.1 ha with rfl|ha
  ·exact h.1
  ·exact ih h.2 a ha
theorem Ex.fit_eq {e:Ex} (h:e.fit):e.Lin.L.length<=140737488355328/\e.Idx.length<=140737488355328/\e.Args.length<=140737488355328/\(∀x,x∈e.Idx->x.fit)/\∀a,a∈e.Args->a.fit:=by
 cases e with
 |mk o n v t l i arg_=>rw [Ex.fit] at h;exact ⟨h.1,h.2.1,h.2.2.1,h.2.2.2.1,fitL_mem h.2.2.2.2⟩
theorem zNg (m:Nat):∀(l:List Lf) (n:Nat),n<=fT m n l
 |[],n=>Nat.le_refl _
 |x::r,n=>by
  rw [fT];split
  ·have:=zNg m r (n+x.L.length);omega
  ·omega
theorem zQu (m:Nat):∀(l:List Ix) (n:Nat),n<=dU m n l
 |[],n=>Nat.le_refl _
 |x::r,n=>by
  rw [dU];split
  ·have h1:=zNg m x.At (n+x.Lin.L.length+x.At.length)
   have:=zQu m r (fT m (n+x.Lin.L.length+x.At.length) x.At);omega
  ·omega
theorem zQw (m:Nat):∀(l:List Lf) (n:Nat),fT m n l<=m->n+mU l<=fT m n l
 |[],n,_=>by simp [fT,mU]
 |y::r,n,h=>by
  have hn:n<=m:=Nat.le_trans (zNg m (y::r) n) h
  rw [fT,if_pos hn] at h⊢
  have:=zQw m r _ h
  rw [mU];omega
theorem zOm (m:Nat):∀(l:List Ix) (n:Nat),dU m n l<=m->n+gF l<=dU m n l
 |[],n,_=>by simp [dU,gF]
 |x::r,n,h=>by
  have hn:n<=m:=Nat.le_trans (zQu m (x::r) n) h
  rw [dU,if_pos hn] at h⊢
  have h1:=zOm m r _ h
  have h2:=zQw m x.At (n+x.Lin.L.length+x.At.length) (by omega)
  rw [gF,Ix.wt];omega
mutual
theorem zQv:∀(e:Ex) (m:Nat),fH e m<=m->e.wt<=fH e m
 |.mk o n v t l i arg_,m,h=>by
  rw [fH] at h⊢
  have h1:=weighL_wt arg_ m _ h
  have h2:=zOm m i (1+l.L.length+i.length) (by omega)
  rw [Ex.wt];omega
theorem weighL_wt:∀(l:List Ex) (m n:Nat),gU l m n<=m->n+dQ l<=gU l m n
 |[],m,n,h=>by simp [gU,dQ]
 |a::r,m,n,h=>by
  by_cases hn:n<=m
  ·rw [gU,if_pos hn] at h⊢
   have h1:=weighL_wt r m _ h
   have h2:=zQv a (m-n) (by omega)
   rw [dQ];omega
  ·rw [gU,if_neg hn] at h;omega
end
theorem weighAt_le {m:Nat}:∀(l:List Lf) (n B:Nat),(∀x,x∈l->x.L.length<=140737488355328)->n<=B->m+140737488355328<=B->fT m n l<=B
 |[],n,B,_,h,_=>by simpa [fT] using h
 |x::r,n,B,hx,h,hb=>by
  rw [fT];split
  ·have:=hx x (by simp)
   exact weighAt_le r _ B (fun y hy=>hx y (by simp [hy])) (by omega) hb
  ·exact h
theorem zQt {m:Nat}:∀(l:List Ix) (n B:Nat),(∀x,x∈l->x.fit)->n<=B->m+3*140737488355328<=B->dU m n l<=B
 |[],n,B,_,h,_=>by simpa [dU] using h
 |x::r,n,B,hx,h,hb=>by
  rw [dU];split
  ·obtain ⟨h1,h2,h3⟩:=hx x (by simp)
   exact zQt r _ B (fun y hy=>hx y (by simp [hy])) (weighAt_le x.At _ B h3 (by omega) (by omega)) hb
  ·exact h
mutual
theorem zFp:∀(e:Ex) (m:Nat),e.fit->fH e m<=m+4*140737488355328
 |.mk o n v t l i arg_,m,h=>by
  rw [Ex.fit] at h
  obtain ⟨h1,h2,h3,h4,h5⟩:=h
  rw [fH]
  exact weighL_le arg_ m _ h5 (zQt i _ _ h4 (by omega) (by omega))
theorem weighL_le:∀(l:List Ex) (m n:Nat),xM l->n<=m+4*140737488355328->gU l m n<=m+4*140737488355328
 |[],m,n,_,h=>by simpa [gU] using h
 |a::r,m,n,hf,h=>by
  rw [gU];split
  ·have:=zFp a (m-n) hf.1
   exact weighL_le r m _ hf.2 (by omega)
  ·exact h
end
theorem weighIdx_end {m n k:Nat} {l:List Ix} {x:Int} (hx:x=m) (h:l.length<=k∨x<n):n=dU m n (l.drop k):=by
 by_cases hk:k<l.length
 ·obtain ⟨a,ha⟩:=qU l k hk
  rw [qY ha,dU,if_neg (by omega)]
 ·rw [kV hk,dU]
theorem weighAt_end {m n k:Nat} {l:List Lf} {x:Int} (hx:x=m) (h:l.length<=k∨x<n):n=fT m n (l.drop k):=by
 by_cases hk:k<l.length
 ·obtain ⟨a,ha⟩:=qU l k hk
  rw [qY ha,fT,if_neg (by omega)]
 ·rw [kV hk,fT]
theorem weighL_end {m n k:Nat} {l:List Ex} {x:Int} (hx:x=m) (h:l.length<=k∨x<n):n=gU (l.drop k) m n:=by
 by_cases hk:k<l.length
 ·obtain ⟨a,ha⟩:=qU l k hk
  rw [qY ha,gU,if_neg (by omega)]
 ·rw [kV hk,gU]
/-! ## Forms mapped -/
def zEx:Ex:=.mk 0 (bs []) ⟨0,0⟩ ⟨0,0,0,0,0⟩ ⟨0,[]⟩ [] []
theorem zSa {a x:Ex}:∀{l:List Ex},a∈l->x∈bF a->x∈bK l
 |[],h,_=>by cases h
 |b::r,h,hx=>by
  rw [bK,List.mem_append]
  rcases List.mem_cons.1 h with rfl|h
  ·exact .inl hx
  ·exact .inr (zSa h hx)
end Go.Br
end
section
namespace Go.Br
open Go Go.Eng Go.L41
theorem errsL_mem {l:List Ex} (h:gT l=0):∀x,x∈l->bU x=0:=by
 induction l with
 |nil=>intro x hx;cases hx
 |cons y r ih=>
  intro x hx
  rw [gT] at h
  by_cases hy:bU y=0
  ·rw [zAh hy,cond_true] at h
   rcases List.mem_cons.1 hx with rfl|hx
   ·exact hy
   ·exact ih h x hx
  ·rw [yV hy,cond_false] at h;exact absurd h hy
theorem wY {e:Ex} (h:fN e=0):bU e=0:=errsL_mem h e (by rw [wO];simp)
theorem zLs {e a:Ex} (h:fN e=0) (ha:a∈e.Args):fN a=0:=by
 have hn:=wY h
 rw [zEy,zAh hn,cond_true] at h
 obtain ⟨k,hk⟩:=List.getElem?_of_mem ha
 have:∀l:List Ex,rJ l=0->a∈l->fN a=0:=by
  intro l
  induction l with
  |nil=>intro _ h;cases h
  |cons y r ih=>
   intro h hm
   rw [zNp] at h
   by_cases hy:fN y=0
   ·rw [zAh hy,cond_true] at h
    rcases List.mem_cons.1 hm with rfl|hm
    ·exact hy
    ·exact ih h hm
   ·rw [yV hy,cond_false] at h;exact absurd h hy
 exact this _ h ha
theorem zFq {e:Ex} (h:fQ e=0):fN e=0:=by
 unfold fQ at h
 by_cases h1:40<gG 40 e
 ·rw [zAh h1] at h;simp at h
 ·rw [yV h1,cond_false] at h
  by_cases h2:(2000:Int)<szT e
  ·rw [zAh h2] at h;simp at h
  ·rwa [yV h2,cond_false] at h
theorem zJe {e:Ex} (h:bU e=0):jE e=true/\mG e=true/\mZ e=true/\gN e=true/\jJ e=true:=by
 unfold bU at h
 cases h1:jE e<;>rw [h1] at h<;>simp at h
 cases h2:mG e<;>rw [h2] at h<;>simp at h
 cases h3:mZ e<;>rw [h3] at h<;>simp at h
 cases h4:gN e<;>rw [h4] at h<;>simp at h
 cases h5:jJ e<;>rw [h5] at h<;>simp at h
 simp
theorem zLu {e:Ex} (h:bU e=0):(e.Args.length:Int)=bI e.Op:=by
 have:=(zJe h).2.2.1
 simp only [mZ,Bool.and_eq_true,Bool.not_eq_true',Bool.or_eq_false_iff,Bool.not_eq_false',decide_eq_true_eq] at this
 exact this.1.1
end Go.Br
end
section
namespace Go.Br
open Go Go.Eng Go.L41
structure Cn where
 Lin:Lf
 Eq:Bool
 deriving DecidableEq
structure Ax where
 Name:ByteArray
 Size:Lf
 deriving DecidableEq
structure Pm where
 Name:ByteArray
 T:Ty
 Dims:List Lf
 deriving DecidableEq
structure Df where
 Name:ByteArray
 T:Ty
 Dims:List Ax
 Red:List Ax
 Fold:Int
 Body:Ex
 deriving DecidableEq
structure Pg where
 Sizes:List ByteArray
 Where:List Cn
 Params:List Pm
 Defs:List Df
 Outs:List ByteArray
 deriving DecidableEq
def Cn.cells (x:Cn):List C:=[cI x.Lin.K,.sl 2 (x.Lin.L.map Mono.cells),cB x.Eq]
def Ax.cells (x:Ax):List C:=[cS x.Name,cI x.Size.K,.sl 2 (x.Size.L.map Mono.cells)]
def Pm.cells (x:Pm):List C:=[cS x.Name,cI x.T.Kind,cI x.T.Bits,cI x.T.Frac,cI x.T.Round,cI x.T.Over,.sl 2 (x.Dims.map Lf.cells)]
def Df.cells (x:Df):List C:=[cS x.Name,cI x.T.Kind,cI x.T.Bits,cI x.T.Frac,cI x.T.Round,cI x.T.Over,.sl 3 (x.Dims.map Ax.cells),.sl 3 (x.Red.map Ax.cells),cI x.Fold,
 cI x.Body.Op,cS x.Body.Name,cI x.Body.Val.N,cI x.Body.Val.D,cI x.Body.Ty.Kind,cI x.Body.Ty.Bits,cI x.Body.Ty.Frac,cI x.Body.Ty.Round,cI x.Body.Ty.Over,cI x.Body.Lin.K,.sl 2 (x.Body.Lin.L.map Mono.cells),.sl 4 (x.Body.Idx.map Ix.cells),.sl 13 (x.Body.Args.map Ex.cells)]
def Pg.cells (p:Pg):List C:=[.sl 1 (p.Sizes.map fun s=>[cS s]),.sl 3 (p.Where.map Cn.cells),.sl 7 (p.Params.map Pm.cells),.sl 22 (p.Defs.map Df.cells),.sl 1 (p.Outs.map fun s=>[cS s])]
def tZ (l:Lf):Prop:=l.L.length<=140737488355328
def Pm.fit (x:Pm):Prop:=x.Dims.length<=140737488355328/\∀l,l∈x.Dims->tZ l
def Df.fit (d:Df):Prop:=d.Dims.length<=140737488355328/\d.Red.length<=140737488355328/\(∀a,a∈d.Dims->tZ a.Size)/\(∀a,a∈d.Red->tZ a.Size)/\d.Body.fit
structure Pg.Fit (p:Pg):Prop where
 sizes:p.Sizes.length<=140737488355328
 wh:p.Where.length<=140737488355328
 params:p.Params.length<=140737488355328
 defs:p.Defs.length<=140737488355328
 outs:p.Outs.length<=140737488355328
 whs:∀c,c∈p.Where->tZ c.Lin
 ps:∀x,x∈p.Params->x.fit
 ds:∀d,d∈p.Defs->d.fit
def zTy:Ty:=⟨0,0,0,0,0⟩
def iTy:Ty:=⟨3,0,0,0,0⟩
/-! ## Find -/
structure Fd where
 ty:Ty
 dims:List Lf
 ok:Bool
structure En where
 sz:List ByteArray
 pm:List Pm
 df:List Df
def Pg.en (p:Pg):En:=⟨p.Sizes,p.Params,p.Defs⟩
def dH (l:List Ty) (i:Nat):Ty:=l.getD i zTy
mutual
def dP (N:Ex->List Ty->Ty×Int):Ex->Ty×Int
 |.mk o nm v t l i arg_=>if (bM N arg_).2=0 then N (.mk o nm v t l i arg_) (bM N arg_).1 else (zTy,(bM N arg_).2)
def bM (N:Ex->List Ty->Ty×Int):List Ex->List Ty×Int
 |[]=>([],0)
 |a::r=>if (dP N a).2=0 then (if (bM N r).2=0 then ((dP N a).1::(bM N r).1,0) else ([],(bM N r).2)) else ([],(dP N a).2)
end
theorem zPz (N:Ex->List Ty->Ty×Int) (e:Ex):dP N e=if (bM N e.Args).2=0 then N e (bM N e.Args).1 else (zTy,(bM N e.Args).2):=by
 cases e;rw [dP];rfl
theorem zNr {e:Ex} (h:bU e=0):1<=e.Op/\e.Op<=18:=by
 have:=(zJe h).1
 simp only [jE,Bool.and_eq_true,Bool.not_eq_true',Bool.or_eq_false_iff,decide_eq_false_iff_not] at this
 obtain ⟨⟨⟨⟨⟨⟨h1,h2⟩,_⟩,_⟩,_⟩,_⟩,_⟩:=this
 exact ⟨by omega,by omega⟩
def tY (p:Pg):Prop:=p.Sizes.length<=64/\p.Params.length<=64/\p.Defs.length<=64/\p.Outs.length<=64/\p.Where.length<=256
instance (p:Pg):Decidable (tY p):=by unfold tY;infer_instance
abbrev Kn:=List (ByteArray×Int)
def rZ (m:Kn) (s:ByteArray):Int:=(fP m s).getD 0
end Go.Br
end
section
namespace Go.Br
open Go Go.Eng Go.L41
theorem zSm (a b:List ByteArray) (s:ByteArray):bS (a++b) s=(bS a s||bS b s):=by simp [bS,List.any_append]
theorem hasB_one (s t:ByteArray):bS [s] t=decide (s=t):=by simp [bS]
theorem mget_mput' (m:Kn) (k s:ByteArray) (a:Int):fP (jZ m k a) s=if k=s then some a else fP m s:=by
 induction m with
 |nil=>simp [jZ,fP]
 |cons x r ih=>
  obtain ⟨k',b⟩:=x
  by_cases h:k'=k
  ·subst h
   simp only [jZ,if_true,fP]
   by_cases h2:k'=s<;>simp [h2]
  ·simp only [jZ,h,if_false,fP,ih]
   by_cases h2:k'=s
   ·subst h2;rw [if_pos rfl,if_neg (fun e:k=k'=>h e.symm),if_pos rfl]
   ·simp [h2]
theorem zSj (m:Kn) (k s:ByteArray) (a:Int):rZ (jZ m k a) s=if k=s then a else rZ m s:=by
 unfold rZ;rw [mget_mput'];by_cases h:k=s<;>simp [h]
structure Rel (m:Kn) (sz tn:List ByteArray):Prop where
 one:∀s,rZ m s=1↔bS sz s=true
 two:∀s,rZ m s=2↔bS tn s=true
 zero:∀s,rZ m s=0↔bS (sz++tn) s=false
theorem Rel.nil:Rel [] [] []:=⟨fun s=>by simp [rZ,fP,bS],fun s=>by simp [rZ,fP,bS],fun s=>by simp [rZ,fP,bS]⟩
theorem Rel.size {m:Kn} {sz:List ByteArray} (h:Rel m sz []) {s:ByteArray} (h0:rZ m s=0):Rel (jZ m s 1) (sz++[s]) []:=by
 refine ⟨fun t=>?_,fun t=>?_,fun t=>?_⟩
 ·rw [zSj,zSm,hasB_one]
  by_cases e:s=t
  ·simp [e]
  ·simp [e,h.one t]
 ·rw [zSj]
  by_cases e:s=t
  ·simp [e,bS]
  ·simp [e,h.two t]
 ·rw [zSj,List.append_nil,zSm,hasB_one]
  by_cases e:s=t
  ·simp [e]
  ·have:=h.zero t
   rw [List.append_nil] at this
   simp [e,this]
end Go.Br
end
section
namespace Go.Br
open Go Go.Eng Go.L41
structure Pg.Ok (p:Pg):Prop where
 sizes:p.Sizes.length<=4294967296
 wh:p.Where.length<=4294967296
 params:p.Params.length<=4294967296
 defs:p.Defs.length<=4294967296
 outs:p.Outs.length<=4294967296
 whs:∀c,c∈p.Where->c.Lin.L.length<=5864062014805
 ps:∀x,x∈p.Params->x.Dims.length<=4294967296/\∀l,l∈x.Dims->l.L.length<=5864062014805
 ds:∀d,d∈p.Defs->d.Dims.length<=1073741824/\d.Red.length<=1073741824/\(∀a,a∈d.Dims->a.Size.L.length<=5864062014805)/\(∀a,a∈d.Red->a.Size.L.length<=5864062014805)/\d.Body.wt<=4294967296
theorem Pg.Ok.take {p:Pg} (h:p.Ok) (k:Nat):Pg.Ok ⟨p.Sizes,p.Where,p.Params,p.Defs.take k,p.Outs⟩:=
 ⟨h.sizes,h.wh,h.params,by have:=h.defs;simp only [List.length_take];omega,h.outs,h.whs,h.ps,fun d hd=>h.ds d (List.mem_of_mem_take hd)⟩
end Go.Br
end
section
namespace Go.Br
open Go Go.Eng Go.L41
abbrev vP (b:Nat):V:=.c (.lit (.pointer (some ⟨b,0,none⟩)))
def tyC (t:Ty):List C:=[cI t.Kind,cI t.Bits,cI t.Frac,cI t.Round,cI t.Over]
theorem tyC_eq (a b:Ty):bH [cI a.Kind,cI a.Bits,cI a.Frac,cI a.Round,cI a.Over] [cI b.Kind,cI b.Bits,cI b.Frac,cI b.Round,cI b.Over]=decide (a=b):=by
 obtain ⟨a1,a2,a3,a4,a5⟩:=a
 obtain ⟨b1,b2,b3,b4,b5⟩:=b
 simp only [bH,cEq,Ty.mk.injEq,Bool.and_true,Bool.decide_and]
theorem zIj (N:Ex->List Ty->Ty×Int):∀(a b:List Ex),(bM N a).2=0->bM N (a++b)=if (bM N b).2=0 then ((bM N a).1++(bM N b).1,0) else ([],(bM N b).2)
 |[],b,_=>by
  simp only [List.nil_append,bM,List.nil_append]
  cases b with
  |nil=>simp [bM]
  |cons x r=>
   simp only [bM]
   by_cases h1:(dP N x).2=0
   ·by_cases h2:(bM N r).2=0
    ·simp [h1,h2]
    ·simp [h1,h2]
   ·simp [h1]
 |x::r,b,h=>by
  rw [bM] at h
  by_cases h1:(dP N x).2=0
  ·rw [if_pos h1] at h
   by_cases h2:(bM N r).2=0
   ·rw [List.cons_append,bM,if_pos h1,zIj N r b h2]
    rw [bM,if_pos h1,if_pos h2]
    by_cases h3:(bM N b).2=0
    ·simp [h3]
    ·simp [h3]
   ·rw [if_neg h2] at h;exact absurd h h2
  ·rw [if_neg h1] at h;exact absurd h h1
theorem zEe {N:Ex->List Ty->Ty×Int} {l:List Ex} {k:Nat} {x:Ex} (h:l[k]? =some x) (hp:(bM N (l.take k)).2=0) (hx:(dP N x).2=0):bM N (l.take (k+1))=((bM N (l.take k)).1++[(dP N x).1],0):=by
 rw [yC h,zIj N _ _ hp];simp [bM,hx]
theorem nodeL_no {N:Ex->List Ty->Ty×Int} {l:List Ex} {k:Nat} {x:Ex} (h:l[k]? =some x) (hp:(bM N (l.take k)).2=0) (hx:¬(dP N x).2=0):(bM N l).2=(dP N x).2:=by
 have e:l=l.take k++(x::l.drop (k+1)):=by rw [←qY h,List.take_append_drop]
 rw [e,zIj N _ _ hp]
 simp [bM,hx]
theorem zFv (N:Ex->List Ty->Ty×Int):∀l:List Ex,(bM N l).2=0->(bM N l).1.length=l.length
 |[],_=>rfl
 |x::r,h=>by
  rw [bM] at h⊢
  by_cases h1:(dP N x).2=0
  ·rw [if_pos h1] at h⊢
   by_cases h2:(bM N r).2=0
   ·rw [if_pos h2];simp [zFv N r h2]
   ·rw [if_neg h2] at h;exact absurd h h2
  ·rw [if_neg h1] at h;exact absurd h h1
end Go.Br
namespace Go.Br
open Go Go.Eng Go.L41
end Go.Br
end
section
namespace Go.Br
open Go Go.Eng Go.L41
theorem nodeT_no {N:Ex->List Ty->Ty×Int} {e x:Ex} {k:Nat} (h:e.Args[k]? =some x) (hp:(bM N (e.Args.take k)).2=0) (hx:¬(dP N x).2=0):dP N e=(zTy,(dP N x).2):=by
 have h1:=nodeL_no h hp hx
 rw [zPz N e,h1,if_neg hx]
theorem nodeT_ok {N:Ex->List Ty->Ty×Int} {e:Ex} {k:Nat} (h:e.Args.take k=e.Args) (hp:(bM N (e.Args.take k)).2=0):dP N e=N e (bM N (e.Args.take k)).1:=by
 rw [h] at hp⊢
 rw [zPz N e,if_pos hp]
theorem zGi {a b:Ty} (h:(!bH [cI a.Kind,cI a.Bits,cI a.Frac,cI a.Round,cI a.Over] [cI b.Kind,cI b.Bits,cI b.Frac,cI b.Round,cI b.Over])=true):¬a=b:=by
 rw [tyC_eq] at h;simpa using h
theorem zGj {a b:Ty} (h:(!bH [cI a.Kind,cI a.Bits,cI a.Frac,cI a.Round,cI a.Over] [cI b.Kind,cI b.Bits,cI b.Frac,cI b.Round,cI b.Over])=false):a=b:=by
 rw [tyC_eq] at h;simpa using h
theorem zJb {l:List Ty} {i:Nat} (h:i<l.length):(l.map tyC)[i]? =some (tyC (dH l i)):=by
 rw [List.getElem?_map,List.getElem?_eq_getElem h]
 simp [dH,List.getD,List.getElem?_eq_getElem h]
theorem zPx {e:Ex} (h:fN e=0):(e.Args.length:Int)=bI e.Op:=by
 have h1:=(zJe (wY h)).2.2.1
 unfold mZ at h1
 simp only [Bool.and_eq_true,Bool.not_eq_true',Bool.or_eq_false_iff,Bool.not_eq_false',decide_eq_true_eq] at h1
 exact h1.1.1
theorem args_len {e:Ex} (h:fN e=0) (ho:¬(e.Op=1∨e.Op=2∨e.Op=3)):1<=e.Args.length:=by
 have:=zPx h;unfold bI at this;rw [if_neg ho] at this;split at this
 ·omega
 ·split at this<;>omega
theorem zGd {e:Ex} (h:fN e=0) (ho:¬(e.Op=1∨e.Op=2∨e.Op=3∨e.Op=8∨e.Op=12∨e.Op=18)):2<=e.Args.length:=by
 have:=zPx h;unfold bI at this;rw [if_neg (by omega),if_neg (by omega)] at this;split at this<;>omega
end Go.Br
end
section
namespace Go.Br
open Go Go.Eng Go.L41
/-! ## The program's Validate -/
structure Pg.Short (p:Pg):Prop where
 sizes:p.Sizes.length<=12
 wh:p.Where.length<=12
 params:p.Params.length<=12
 defs:p.Defs.length<=12
 outs:p.Outs.length<=12
 whs:∀c,c∈p.Where->c.Lin.L.length<=20
 ps:∀x,x∈p.Params->x.Dims.length<=12/\∀l,l∈x.Dims->l.L.length<=20
 ds:∀d,d∈p.Defs->d.Dims.length<=12/\d.Red.length<=12/\(∀a,a∈d.Dims->a.Size.L.length<=20)/\(∀a,a∈d.Red->a.Size.L.length<=20)/\d.Body.wt<=300
theorem Pg.Short.ok {p:Pg} (h:p.Short):p.Ok:=
 ⟨by have:=h.sizes;omega,by have:=h.wh;omega,by have:=h.params;omega,by have:=h.defs;omega,by have:=h.outs;omega,fun c hc=>by have:=h.whs c hc;omega,
  fun x hx=>by obtain ⟨h1,h2⟩:=h.ps x hx;exact ⟨by omega,fun l hl=>by have:=h2 l hl;omega⟩,
  fun d hd=>by obtain ⟨h1,h2,h3,h4,h5⟩:=h.ds d hd;exact ⟨by omega,by omega,fun a ha=>by have:=h3 a ha;omega,fun a ha=>by have:=h4 a ha;omega,by omega⟩⟩
end Go.Br
end
section
namespace Go.Br
open Go Go.Eng Go.L41
end Go.Br
end
section
namespace Go.Br
open Go Go.Eng Go.Proofs Go.L41
def gX (a b:Int):Int:=if a<b then-1 else if b<a then 1 else 0
def sT (a b:ByteArray):Int:=Lib.compareBytes a.data.toList b.data.toList
def orI:List Int->Int
 |[]=>0
 |x::r=>if x=0 then orI r else x
def gZ {α:Type} (f:α->α->Int):List α->List α->Int
 |[],[]=>0
 |[],_::_=> -1
 |_::_,[]=>1
 |x::xs,y::ys=>if f x y=0 then gZ f xs ys else f x y
def jM {α:Type} (f:α->α->Int) (a b:List α):Int:=if gX a.length b.length=0 then gZ f a b else gX a.length b.length
def sA (x y:Mono):Int:=if x.Name=y.Name then gX x.By y.By else sT x.Name y.Name
def mP (a b:Lf):Int:=if gZ sA a.L b.L=0 then gX a.K b.K else gZ sA a.L b.L
def mQ (a b:Ix):Int:=if sT a.From b.From=0 then (if mP a.Lin b.Lin=0 then jM mP a.At b.At else mP a.Lin b.Lin) else sT a.From b.From
def tL (a b:Ty):Int:=orI [gX a.Kind b.Kind,gX a.Bits b.Bits,gX a.Frac b.Frac,gX a.Round b.Round,gX a.Over b.Over]
def nN (a b:Ex):Int:=orI [gX a.Op b.Op,sT a.Name b.Name,gX a.Val.N b.Val.N,gX a.Val.D b.Val.D,tL a.Ty b.Ty,mP a.Lin b.Lin]
mutual
def pW:Ex->Ex->Int
 |.mk o n v t l i r,b=>if nN (.mk o n v t l i r) b=0 then (if jM mQ i b.Idx=0 then (if gX r.length b.Args.length=0 then vF r b.Args else gX r.length b.Args.length) else jM mQ i b.Idx) else nN (.mk o n v t l i r) b
def vF:List Ex->List Ex->Int
 |[],[]=>0
 |[],_::_=> -1
 |_::_,[]=>1
 |x::xs,y::ys=>if pW x y=0 then vF xs ys else pW x y
end
theorem cmpEs_L:∀a b:List Ex,vF a b=gZ pW a b
 |[],[]=>rfl
 |[],_::_=>rfl
 |_::_,[]=>rfl
 |x::xs,y::ys=>by rw [vF,gZ,cmpEs_L xs ys]
theorem cmpE_eq (a b:Ex):pW a b=if nN a b=0 then (if jM mQ a.Idx b.Idx=0 then jM pW a.Args b.Args else jM mQ a.Idx b.Idx) else nN a b:=by
 cases a with
 |mk o n v t l i r=>rw [pW,cmpEs_L];rfl
/-! ## Alike is equal -/
theorem zIx (a b:Int):gX a b=0↔a=b:=by
 unfold gX
 split
 ·constructor
  ·intro h;cases h
  ·intro h;omega
 ·split
  ·constructor
   ·intro h;cases h
   ·intro h;omega
  ·constructor<;>intro h<;>first|rfl|omega
theorem bytes_zero:∀a b:List UInt8,Lib.compareBytes a b=0↔a=b
 |[],[]=>by simp [Lib.compareBytes]
 |[],_::_=>by simp [Lib.compareBytes]
 |_::_,[]=>by simp [Lib.compareBytes]
 |x::xs,y::ys=>by
  rw [Lib.compareBytes]
  by_cases h1:x<y
  ·rw [if_pos h1]
   constructor
   ·intro h;cases h
   ·intro h;injection h with h2 h3;subst h2;exact absurd h1 (UInt8.lt_irrefl x)
  ·rw [if_neg h1]
   by_cases h2:y<x
   ·rw [if_pos h2]
    constructor
    ·intro h;cases h
    ·intro h;injection h with h3 h4;subst h3;exact absurd h2 (UInt8.lt_irrefl x)
   ·rw [if_neg h2,bytes_zero xs ys]
    have e:x=y:=by
     have h3:=UInt8.not_lt.1 h1
     have h4:=UInt8.not_lt.1 h2
     exact UInt8.le_antisymm h4 h3
    simp [e]
theorem zMt (a b:ByteArray):sT a b=0↔a=b:=by
 unfold sT
 rw [bytes_zero]
 constructor
 ·intro h;cases a;cases b;congr 1;exact Array.toList_inj.1 h
 ·rintro rfl;rfl
theorem orI_zero:∀l:List Int,orI l=0↔∀x,x∈l->x=0
 |[]=>by simp [orI]
 |x::r=>by
  rw [orI]
  by_cases h:x=0
  ·rw [if_pos h,orI_zero r];simp [h]
  ·rw [if_neg h];constructor
   ·intro k;exact absurd k h
   ·intro k;exact k x (by simp)
theorem zTl {α:Type} {f:α->α->Int}:∀(a b:List α),(∀x,x∈a->∀y,f x y=0↔x=y)->(gZ f a b=0↔a=b)
 |[],[],_=>by simp [gZ]
 |[],_::_,_=>by simp [gZ]
 |_::_,[],_=>by simp [gZ]
 |x::xs,y::ys,h=>by
  rw [gZ]
  have h1:=h x (by simp) y
  by_cases c:f x y=0
  ·rw [if_pos c,zTl xs ys fun z hz=>h z (by simp [hz])];simp [h1.1 c]
  ·rw [if_neg c]
   constructor
   ·intro k;exact absurd k c
   ·intro k;injection k with k1 k2;exact h1.2 k1
theorem zOd {α:Type} {f:α->α->Int} (a b:List α) (h:∀x,x∈a->∀y,f x y=0↔x=y):jM f a b=0↔a=b:=by
 unfold jM
 by_cases c:gX (a.length:Int) b.length=0
 ·rw [if_pos c];exact zTl a b h
 ·rw [if_neg c]
  constructor
  ·intro k;exact absurd k c
  ·rintro rfl;exact absurd ((zIx _ _).2 rfl) c
theorem cmpM_zero (x y:Mono):sA x y=0↔x=y:=by
 obtain ⟨n,b⟩:=x
 obtain ⟨n',b'⟩:=y
 unfold sA
 by_cases c:n=n'
 ·simp only [c,if_true,zIx,Mono.mk.injEq,true_and]
 ·simp only [c,if_false,zMt,Mono.mk.injEq,false_and]
theorem zJm (a b:Lf):mP a b=0↔a=b:=by
 have h:=zTl (f:=sA) a.L b.L fun x _ y=>cmpM_zero x y
 have e:a=b↔a.L=b.L/\a.K=b.K:=by
  cases a;cases b;simp only [Lf.mk.injEq];exact ⟨fun k=>⟨k.2,k.1⟩,fun k=>⟨k.2,k.1⟩⟩
 unfold mP
 rw [e]
 by_cases c:gZ sA a.L b.L=0
 ·rw [if_pos c,zIx];exact ⟨fun k=>⟨h.1 c,k⟩,fun k=>k.2⟩
 ·rw [if_neg c];exact ⟨fun k=>absurd k c,fun k=>absurd (h.2 k.1) c⟩
theorem cmpIx_zero (a b:Ix):mQ a b=0↔a=b:=by
 have h:=zOd (f:=mP) a.At b.At fun x _ y=>zJm x y
 have e:a=b↔a.From=b.From/\a.Lin=b.Lin/\a.At=b.At:=by
  cases a;cases b;simp only [Ix.mk.injEq];exact ⟨fun k=>⟨k.2.1,k.1,k.2.2⟩,fun k=>⟨k.2.1,k.1,k.2.2⟩⟩
 unfold mQ
 rw [e]
 by_cases c:sT a.From b.From=0
 ·by_cases d:mP a.Lin b.Lin=0
  ·rw [if_pos c,if_pos d,h];exact ⟨fun k=>⟨(zMt _ _).1 c,(zJm _ _).1 d,k⟩,fun k=>k.2.2⟩
  ·rw [if_pos c,if_neg d];exact ⟨fun k=>absurd k d,fun k=>absurd ((zJm _ _).2 k.2.1) d⟩
 ·rw [if_neg c];exact ⟨fun k=>absurd k c,fun k=>absurd ((zMt _ _).2 k.1) c⟩
theorem cmpTy_zero (a b:Ty):tL a b=0↔a=b:=by
 obtain ⟨a1,a2,a3,a4,a5⟩:=a
 obtain ⟨b1,b2,b3,b4,b5⟩:=b
 unfold tL
 rw [orI_zero]
 simp only [List.mem_cons,List.not_mem_nil,or_false,forall_eq_or_imp,forall_eq,zIx,Ty.mk.injEq]
theorem cmpHd_zero (a b:Ex):nN a b=0↔a.Op=b.Op/\a.Name=b.Name/\a.Val=b.Val/\a.Ty=b.Ty/\a.Lin=b.Lin:=by
 unfold nN
 rw [orI_zero]
 simp only [List.mem_cons,List.not_mem_nil,or_false,forall_eq_or_imp,forall_eq,zIx,zMt,cmpTy_zero,zJm]
 cases hv:a.Val
 cases hw:b.Val
 simp only [Vl.mk.injEq]
 constructor
 ·rintro ⟨h1,h2,h3,h4,h5⟩;exact ⟨h1,h2,⟨h3,h4⟩,h5⟩
 ·rintro ⟨h1,h2,⟨h3,h4⟩,h5⟩;exact ⟨h1,h2,h3,h4,h5⟩
theorem cmpE_zero (a:Ex):∀b:Ex,pW a b=0↔a=b:=by
 induction a using Ex.ind with
 |_ a ih=>
  intro b
  rw [cmpE_eq,Ex.eq_iff]
  have h1:=cmpHd_zero a b
  have h2:=zOd (f:=mQ) a.Idx b.Idx fun x _ y=>cmpIx_zero x y
  have h3:=zOd (f:=pW) a.Args b.Args ih
  by_cases c:nN a b=0
  ·by_cases d:jM mQ a.Idx b.Idx=0
   ·rw [if_pos c,if_pos d,h3]
    obtain ⟨k1,k2,k3,k4,k5⟩:=h1.1 c
    have k6:=h2.1 d
    exact ⟨fun k=>⟨k1,k2,k3,k4,k5,k6,k⟩,fun k=>k.2.2.2.2.2.2⟩
   ·rw [if_pos c,if_neg d]
    exact ⟨fun k=>absurd k d,fun k=>absurd (h2.2 k.2.2.2.2.2.1) d⟩
  ·rw [if_neg c]
   exact ⟨fun k=>absurd k c,fun k=>absurd (h1.2 ⟨k.1,k.2.1,k.2.2.1,k.2.2.2.1,k.2.2.2.2.1⟩) c⟩
/-! ## Steps of the walks -/
section steps
variable {α:Type} {f:α->α->Int} {a b:List α} {k:Nat} {x y:α}
theorem zQj (h:a[k]? =some x) (hb:¬k<b.length):gZ f (a.drop k) (b.drop k)=1:=by rw [qY h,kV hb];rfl
theorem cmpL_ne (h:a[k]? =some x) (hy:b[k]? =some y) (c:¬f x y=0):gZ f (a.drop k) (b.drop k)=f x y:=by rw [qY h,qY hy,gZ,if_neg c]
theorem zMu (h:a[k]? =some x) (hy:b[k]? =some y) (c:f x y=0):gZ f (a.drop k) (b.drop k)=gZ f (a.drop (k+1)) (b.drop (k+1)):=by rw [qY h,qY hy,gZ,if_pos c]
theorem zMv (h:¬k<a.length) (hb:k<b.length):gZ f (a.drop k) (b.drop k)= -1:=by
 rw [kV h]
 cases hd:b.drop k with
 |nil=>have:=congrArg List.length hd;simp at this;omega
 |cons _ _=>rfl
theorem zQk (h:¬k<a.length) (hb:¬k<b.length):gZ f (a.drop k) (b.drop k)=0:=by rw [kV h,kV hb];rfl
end steps
theorem cmpI_lt {a b:Int} (h:a<b):gX a b= -1:=if_pos h
theorem cmpI_gt {a b:Int} (h:b<a):gX a b=1:=by unfold gX;rw [if_neg (by omega),if_pos h]
theorem cmpI_eq {a b:Int} (h:¬a<b) (h2:¬b<a):gX a b=0:=by unfold gX;rw [if_neg h,if_neg h2]
theorem orI_at {l:List Int} {k:Nat} {x:Int} (h:l[k]? =some x) (hx:¬x=0):orI (l.drop k)=x:=by rw [qY h,orI,if_neg hx]
theorem orI_next {l:List Int} {k:Nat} {x:Int} (h:l[k]? =some x) (hx:x=0):orI (l.drop k)=orI (l.drop (k+1)):=by rw [qY h,orI,if_pos hx]
theorem strings_Compare (a b:ByteArray):Pur cfg 265 [vS a,vS b] (vI (sT a b)):=by
 intro w I vs hH ha
 match vs,ha with
 |[v,u],ha=>
  obtain ⟨h1,h2,_⟩:=ha
  have e1:v=.string a:=by cases (h1:CRep w I (cS a) v) with|lit _ _=>rfl
  have e2:u=.string b:=by cases (h2:CRep w I (cS b) u) with|lit _ _=>rfl
  subst e1 e2
  refine (Tryz.strings_Compare a b w).mono ?_
  rintro e w' ⟨rfl,rfl⟩
  exact ⟨_,_,[],I,rfl,rfl,CRep.lit _ rfl,hH,Ext.refl _ _ _⟩
end Go.Br
end
