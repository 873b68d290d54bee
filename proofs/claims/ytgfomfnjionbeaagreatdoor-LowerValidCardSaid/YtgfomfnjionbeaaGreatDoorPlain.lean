/-
  The program's data,in plain Lean: linear forms,indices,expressions; and the cells that hold them.
  What the program's functions compute,in plain Lean.
  Copies with all forms mapped; weights; in plain Lean.
  Layer 22 in plain Lean.
  Layer 17 in plain Lean: programs,the cells that hold them,and what Find,TypeOf and Validate say of them.
  Layer 17 in plain Lean: the program's Validate and the reference's are one.
  Layer 17 in plain Lean,more: lengths,lists,tables.
  Layer 17 in plain Lean: the memory of the checker and the typer,and laws for their walks.
  Layer 17 in plain Lean: the typer's walk.
  Layer 17 in plain Lean: steps of Validate,the program's and the reference's; what Long says.
  Layer 17 in plain Lean: the example that every statement checks.
  Comparisons in plain Lean: of numbers,strings,forms,indices,expressions; nothing is xL but what is equal.
  Layer 17 in plain Lean: equality of programs,part by part.
  Conditions: none.
-/
import Derived.Test.YtgfomfnjionbeaaGreatDoorEngY
import Derived.Test.YtgfomfnjionbeaaGreatDoorNames
import Derived.Test.YtgfomfnjionbeaaGreatDoorEngZ
import Derived.Test.YtgfomfnjionbeaaGreatDoorCfg
import Derived.Lib.Bytealg
set_option linter.unusedSimpArgs false
set_option linter.unusedVariables false
section
namespace Go.Br
open Go Go.Eng Go.L41
structure Mono where
 Name:ByteArray
 By:Int
 deriving DecidableEq
structure Lf where
 K:Int
 L:List Mono
 deriving DecidableEq
structure Vl where
 N:Int
 D:Int
 deriving DecidableEq
structure Ty where
 Kind:Int
 Bits:Int
 Frac:Int
 Round:Int
 Over:Int
 deriving DecidableEq
structure Ix where
 Lin:Lf
 From:ByteArray
 At:List Lf
 deriving DecidableEq
inductive Ex where
 |mk (op:Int) (name:ByteArray) (val:Vl) (ty:Ty) (lin:Lf) (idx:List Ix) (args:List Ex)
namespace Ex
def Op:Ex->Int|mk o _ _ _ _ _ _=>o
def Name:Ex->ByteArray|mk _ x _ _ _ _ _=>x
def Val:Ex->Vl|mk _ _ x _ _ _ _=>x
def Ty:Ex->Br.Ty|mk _ _ _ x _ _ _=>x
def Lin:Ex->Lf|mk _ _ _ _ x _ _=>x
def Idx:Ex->List Ix|mk _ _ _ _ _ x _=>x
def Args:Ex->List Ex|mk _ _ _ _ _ _ x=>x
theorem ind {P:Ex->Prop} (h:∀e:Ex,(∀a,a∈e.Args->P a)->P e) (e:Ex):P e:=
 Ex.rec (motive_1:=P) (motive_2:=fun l=>∀a,a∈l->P a) (fun o n v t l i arg_ ih=>h (mk o n v t l i arg_) ih) (fun a h=>by cases h)
  (fun x l hx hl a ha=>by rcases List.mem_cons.1 ha with rfl|ha;exact hx;exact hl a ha) e
end Ex
mutual
def Ex.eqB:Ex->Ex->Bool
 |.mk o n v t l i arg_,.mk o' n' v' t' l' i' bs=>decide (o=o')&&decide (n=n')&&decide (v=v')&&decide (t=t')&&decide (l=l')&&decide (i=i')&&xA arg_ bs
def xA:List Ex->List Ex->Bool
 |[],[]=>true
 |a::arg_,b::bs=>Ex.eqB a b&&xA arg_ bs
 |_,_=>false
end
mutual
theorem Ex.eqB_iff:∀a b:Ex,Ex.eqB a b=true↔a=b
 |.mk o n v t l i arg_,.mk o' n' v' t' l' i' bs=>by
  simp only [Ex.eqB,Bool.and_eq_true,decide_eq_true_eq,eqBs_iff arg_ bs,Ex.mk.injEq]
  constructor
  ·rintro ⟨⟨⟨⟨⟨⟨h1,h2⟩,h3⟩,h4⟩,h5⟩,h6⟩,h7⟩;exact ⟨h1,h2,h3,h4,h5,h6,h7⟩
  ·rintro ⟨h1,h2,h3,h4,h5,h6,h7⟩;exact ⟨⟨⟨⟨⟨⟨h1,h2⟩,h3⟩,h4⟩,h5⟩,h6⟩,h7⟩
theorem eqBs_iff:∀a b:List Ex,xA a b=true↔a=b
 |[],[]=>by simp [xA]
 |a::arg_,b::bs=>by simp only [xA,Bool.and_eq_true,Ex.eqB_iff a b,eqBs_iff arg_ bs,List.cons.injEq]
 |[],_::_=>by simp [xA]
 |_::_,[]=>by simp [xA]
end
instance:DecidableEq Ex:=fun a b=>decidable_of_iff _ (Ex.eqB_iff a b)
theorem Ex.eq_iff (a b:Ex):a=b↔a.Op=b.Op/\a.Name=b.Name/\a.Val=b.Val/\a.Ty=b.Ty/\a.Lin=b.Lin/\a.Idx=b.Idx/\a.Args=b.Args:=by
 cases a;cases b;simp only [Ex.mk.injEq];rfl
def Mono.cells (x:Mono):List C:=[cS x.Name,cI x.By]
def Lf.cells (x:Lf):List C:=[cI x.K,.sl 2 (x.L.map Mono.cells)]
def Ix.cells (x:Ix):List C:=[cI x.Lin.K,.sl 2 (x.Lin.L.map Mono.cells),cS x.From,.sl 2 (x.At.map Lf.cells)]
def Vl.cells (v:Vl):List C:=[cI v.N,cI v.D]
mutual
def Ex.cells:Ex->List C
 |.mk o n v t l i arg_=>[cI o,cS n,cI v.N,cI v.D,cI t.Kind,cI t.Bits,cI t.Frac,cI t.Round,cI t.Over,cI l.K,.sl 2 (l.L.map Mono.cells),.sl 4 (i.map Ix.cells),.sl 13 (tT arg_)]
def tT:List Ex->List (List C)
 |[]=>[]
 |e::r=>e.cells::tT r
end
theorem cellsL_eq (l:List Ex):tT l=l.map Ex.cells:=by
 induction l with
 |nil=>rfl
 |cons e r ih=>rw [tT,ih];rfl
def Ex.cs (e:Ex):List C:=[cI e.Op,cS e.Name,cI e.Val.N,cI e.Val.D,cI e.Ty.Kind,cI e.Ty.Bits,cI e.Ty.Frac,cI e.Ty.Round,cI e.Ty.Over,cI e.Lin.K,.sl 2 (e.Lin.L.map Mono.cells),.sl 4 (e.Idx.map Ix.cells),.sl 13 (e.Args.map Ex.cells)]
theorem Ex.cells_eq (e:Ex):e.cells=e.cs:=by
 cases e;rw [Ex.cells,cellsL_eq];rfl
abbrev sH (x:Mono):V:=.agg x.cells
abbrev vO (l:List Mono):V:=.c (.sl 2 (l.map Mono.cells))
abbrev dP (x:Lf):V:=.agg x.cells
abbrev nI (l:List Lf):V:=.c (.sl 2 (l.map Lf.cells))
abbrev jN (x:Ix):V:=.agg x.cells
abbrev lN (l:List Ix):V:=.c (.sl 4 (l.map Ix.cells))
abbrev vE (x:Ex):V:=.agg x.cs
abbrev vEs (l:List Ex):V:=.c (.sl 13 (l.map Ex.cells))
abbrev vTy (t:Ty):V:=.agg [cI t.Kind,cI t.Bits,cI t.Frac,cI t.Round,cI t.Over]
abbrev vN (v:Vl):V:=.agg [cI v.N,cI v.D]
abbrev rJ (n:Int):V:=.c (.lit (.int .u64 n))
theorem zGh {l:List Ex} {k:Nat} {x:Ex} (h:l[k]? =some x):(l.map Ex.cells)[k]? =some x.cs:=by
 rw [getm h,Ex.cells_eq]
def fT:List Lf->Nat
 |[]=>0
 |l::r=>l.L.length+fT r
def Ix.wt (x:Ix):Nat:=x.Lin.L.length+x.At.length+fT x.At
def dD:List Ix->Nat
 |[]=>0
 |x::r=>x.wt+dD r
mutual
def Ex.wt:Ex->Nat
 |.mk _ _ _ _ l i arg_=>1+l.L.length+i.length+dD i+dS arg_
def dS:List Ex->Nat
 |[]=>0
 |e::r=>e.wt+dS r
end
theorem Ex.wt_eq (e:Ex):e.wt=1+e.Lin.L.length+e.Idx.length+dD e.Idx+dS e.Args:=by cases e;rw [Ex.wt];rfl
theorem Ex.wt_pos (e:Ex):1<=e.wt:=by rw [Ex.wt_eq];omega
theorem argsWt_mem {l:List Ex} {a:Ex} (h:a∈l):a.wt+(l.length-1)<=dS l:=by
 induction l with
 |nil=>cases h
 |cons x r ih=>
  rw [dS]
  rcases List.mem_cons.1 h with rfl|h
  ·have:r.length<=dS r:=by
    clear ih h
    induction r with
    |nil=>simp [dS]
    |cons y r ih=>rw [dS,List.length_cons];have:=y.wt_pos;omega
   simp;omega
  ·have:=ih h
   have:=x.wt_pos
   have:0<r.length:=List.length_pos_of_mem h
   simp;omega
theorem argsWt_len (l:List Ex):l.length<=dS l:=by
 induction l with
 |nil=>simp [dS]
 |cons y r ih=>rw [dS,List.length_cons];have:=y.wt_pos;omega
theorem zBz {l:List Lf} {a:Lf} (h:a∈l):a.L.length<=fT l:=by
 induction l with
 |nil=>cases h
 |cons x r ih=>
  rw [fT]
  exact v19
theorem zCh {l:List Ix} {a:Ix} (h:a∈l):a.wt<=dD l:=by
 induction l with
 |nil=>cases h
 |cons x r ih=>
  rw [dD]
  exact v19
theorem Ex.parts {e:Ex} {B:Nat} (h:e.wt<=B):e.Lin.L.length<=B/\e.Idx.length<=B/\e.Args.length<=B:=by
 rw [Ex.wt_eq] at h
 have:=argsWt_len e.Args
 omega
theorem Ex.arg_wt {e a:Ex} (h:a∈e.Args):a.wt<e.wt:=by
 rw [Ex.wt_eq e]
 have:=argsWt_mem h
 omega
theorem Ex.idx_wt {e:Ex} {x:Ix} (h:x∈e.Idx):x.Lin.L.length<=e.wt/\x.At.length<=e.wt/\fT x.At<=e.wt:=by
 rw [Ex.wt_eq e]
 have:=zCh h
 unfold Ix.wt at this
 omega
theorem qO {α:Type} {l:List α} {k:Nat} {x:α} (h:l[k]? =some x):l.drop k=x::l.drop (k+1):=by
 have hk:k<l.length:=(List.getElem?_eq_some_iff.1 h).1
 rw [List.drop_eq_getElem_cons hk]
 rw [List.getElem?_eq_getElem hk] at h
 simp at h
 rw [h]
theorem kJ {α:Type} {l:List α} {k:Nat} (h:¬k<l.length):l.drop k=[]:=List.drop_of_length_le zC
theorem zFv {α:Type} {a b:List α} {k:Nat} {x y:α} (hx:a[k]? =some x) (hy:b[k]? =some y) (h:a.take k=b.take k) (e:x=y):a.take (k+1)=b.take (k+1):=by
 rw [yB hx,yB hy,h,e]
theorem zKj {α:Type} {a b:List α} {k:Nat} (h:a.take k=b.take k) (h1:¬k<a.length) (h2:a.length=b.length):a=b:=by
 rw [yD h1,yD zC] at h
 exact h
theorem zMj {α:Type} {a b:List α} {k:Nat} {x y:α} (hx:a[k]? =some x) (hy:b[k]? =some y) (h:¬x=y):¬a=b:=by
 rintro rfl
 rw [hx] at hy
 exact h (Option.some.inj hy)
theorem kF {p:Prop} [Decidable p] (h:¬p):decide p=false:=decide_eq_false h
theorem zAk {p:Prop} [Decidable p] (h:p):decide p=true:=decide_eq_true h
theorem qC {α:Type} {l:List α} {k:Nat} {x:α} (h:l[k]? =some x):x∈l:=List.mem_of_getElem? h
end Go.Br
end
section
namespace Go.Br
open Go Go.Eng Go.L41
/-! ## Linear forms -/
def ltO:Option ByteArray->ByteArray->Bool
 |none,_=>true
 |some q,n=>bX q n
def bT:Option ByteArray->List Mono->Bool
 |_,[]=>true
 |p,m::r=>bC m.Name&& !decide (m.By=0)&&ltO p m.Name&&bT (some m.Name) r
def bP (l:Lf):Bool:=bT none l.L
def fM (l:Lf):Int:=bif bP l then 0 else 1
def pv (l:List Mono) (k:Nat):Mono:=l.getD (k-1) ⟨bs [],0⟩
def nD (l:List Mono) (k:Nat):Option ByteArray:=if k=0 then none else some (pv l k).Name
def xU (l:List Mono) (k:Nat) (x:Mono):Bool:=(!bC x.Name||decide (x.By=0))||(decide ((0:Int)<k)&& !bX (pv l k).Name x.Name)
theorem pv_get {α:Type} {f:Mono->α} {l:List Mono} {k:Nat} (h0:0<k) (h:k<=l.length):(l.map f)[((k:Int)-1).toNat]? =some (f (pv l k)):=by
 have e:((k:Int)-1).toNat=k-1:=by omega
 have h1:k-1<l.length:=by omega
 rw [e,List.getElem?_map,List.getElem?_eq_getElem h1]
 simp [pv,List.getD,List.getElem?_eq_getElem h1]
theorem pv_next {l:List Mono} {k:Nat} {x:Mono} (h:l[k]? =some x):pv l (k+1)=x:=by simp [pv,List.getD,h]
theorem zKf {l:List Mono} {k:Nat} {x:Mono} (h:l[k]? =some x):bT (nD l k) (l.drop k)=(!xU l k x&&bT (nD l (k+1)) (l.drop (k+1))):=by
 rw [qO h,bT]
 have e:nD l (k+1)=some x.Name:=by simp [nD,pv_next h]
 rw [e]
 congr 1
 unfold xU nD ltO
 by_cases hk:k=0
 ·subst hk;simp
 ·have hk':(0:Int)<k:=by omega
  rw [if_neg hk,decide_eq_true hk']
  cases bC x.Name<;>cases decide (x.By=0)<;>simp
theorem monos_end {l:List Mono} {k:Nat} (h:¬k<l.length):bT (nD l k) (l.drop k)=true:=by
 rw [kJ h];cases nD l k<;>rfl
def gV (s:ByteArray):Lf:=bif bC s then ⟨0,[⟨s,1⟩]⟩ else ⟨0,[]⟩
def dJ {α:Type} (p:α->Bool):List α->Int
 |[]=> -1
 |x::r=>bif p x then 0 else (bif decide (dJ p r= -1) then-1 else dJ p r+1)
theorem idxOf_ge {α:Type} (p:α->Bool) (l:List α): -1<=dJ p l:=by
 induction l with
 |nil=>simp [dJ]
 |cons x r ih=>unfold dJ;cases p x<;>simp;by_cases h:dJ p r= -1<;>simp [h];omega
theorem zMv {α:Type} (p:α->Bool) (l:List α):decide (0<=dJ p l)=l.any p:=by
 induction l with
 |nil=>rfl
 |cons x r ih=>
  have:=idxOf_ge p r
  unfold dJ
  cases hp:p x
  ·simp only [cond_false,List.any_cons,hp,Bool.false_or,←ih]
   by_cases h:dJ p r= -1
   ·simp [h]
   ·simp [h];omega
  ·simp [hp]
theorem zDt {α:Type} {p:α->Bool} {l:List α} {k:Nat} {x:α} (h:l[k]? =some x) (hp:p x=true) (hn:(l.take k).any p=false):dJ p l=k:=by
 induction l generalizing k with
 |nil=>simp at h
 |cons y r ih=>
  cases k with
  |zero=>simp at h;subst h;simp [dJ,hp]
  |succ k=>
   simp only [List.take_succ_cons,List.any_cons,Bool.or_eq_false_iff] at hn
   have:=ih (k:=k) (by simpa using h) hn.2
   simp only [dJ,hn.1,cond_false,this]
   have h2:¬((k:Int)= -1):=by omega
   simp [h2]
theorem zCa {α:Type} {p:α->Bool} {l:List α} (hn:l.any p=false):dJ p l= -1:=by
 induction l with
 |nil=>rfl
 |cons y r ih=>
  simp only [List.any_cons,Bool.or_eq_false_iff] at hn
  simp [dJ,hn.1,ih hn.2]
theorem zEu {α:Type} {p:α->Bool} {l:List α} {k:Nat} {x:α} (h:l[k]? =some x) (hn:(l.take k).any p=false) (hp:p x=false):(l.take (k+1)).any p=false:=by
 rw [yB h,List.any_append,hn];simp [hp]
/-! ## Types and values -/
def dV (t:Ty):Bool:=
 ((decide (t.Kind=1)||decide (t.Kind=3))&&decide (t.Bits=0)&&decide (t.Frac=0)&&decide (t.Round=0)&&decide (t.Over=0))||
 (decide (t.Kind=2)&&decide (2<=t.Bits)&&decide (t.Bits<=31)&&decide (0<=t.Frac)&&decide (t.Frac<=30)&&decide (1<=t.Round)&&decide (t.Round<=4)&&(decide (t.Over=1)||decide (t.Over=2)))
def bU (t:Ty):Int:=bif dV t then 0 else 10
def fY (t:Ty):Bool:=decide (t.Kind=2)&&decide (2<=t.Bits)&&decide (t.Bits<=31)&&decide (0<=t.Frac)&&decide (t.Frac<=30)&&decide (1<=t.Round)&&decide (t.Round<=4)&&(decide (t.Over=1)||decide (t.Over=2))
def lO (b:Int):Int:=2^(b-1).toNat
def pJ (n:Int):Bool:=decide (-2147483647<=n)&&decide (n<=2147483647)
def jA (t:Ty) (v:Vl):Bool:=
 bif decide (t.Kind=2) then decide (v.D=1)&&decide (-lO t.Bits<=v.N)&&decide (v.N<lO t.Bits)
 else bif decide (t.Kind=3) then decide (v.D=1)&&pJ v.N
 else decide (1<=v.D)&&decide (v.D<=2147483647)&&pJ v.N&&decide (Int.gcd v.N v.D=1)
def tW (t:Ty):Vl:=bif dV t then ⟨0,1⟩ else ⟨0,0⟩
theorem zBp {t:Ty} (h:t.Kind=2):dV t=fY t:=by simp [dV,fY,h]
theorem half_le {b:Int} (h1:2<=b) (h2:b<=31):1<=lO b/\lO b<=1073741824:=by
 unfold lO
 have h3:(b-1).toNat<=30:=by omega
 have h4:(2:Int)^(b-1).toNat<=2^30:=by
  have:=Nat.pow_le_pow_right (n:=2) zC h3
  exact_mod_cast this
 have h5:(1:Int)<=2^(b-1).toNat:=by
  have:=Nat.one_le_two_pow (n:=(b-1).toNat)
  exact_mod_cast this
 omega
/-! ## Conditions as the walks meet them -/
theorem lin_mk {a b:Lf} (h:a.K=b.K) (k:a.L=b.L):a=b:=by cases a;cases b;simp_all
theorem mono_ne {x y:Mono} (h:(!dC x.cells y.cells)=true):¬x=y:=by
 rintro rfl
 simp [dC,cEq,Mono.cells] at h
theorem mono_eq {x y:Mono} (h:(!dC x.cells y.cells)=false):x=y:=by
 cases x;cases y
 simpa [dC,cEq,Mono.cells] using h
def tU (s:ByteArray) (k:Nat):Int:=(s.data.toList.getD k 0).toNat
def tQ (s:ByteArray):Bool:=(((decide ((s.size:Int)<1)||decide ((16:Int)<s.size))||bQ fB s)||decide (tU s 0<97))||decide (122<tU s 0)
theorem ident_no {s:ByteArray} (h:tQ s=true):bC s=false:=by
 unfold tQ tU at h
 cases hn:bC s with
 |false=>rfl
 |true=>
  exfalso
  simp only [bC,Bool.and_eq_true,decide_eq_true_eq,Bool.not_eq_true'] at hn
  obtain ⟨⟨⟨⟨h1,h2⟩,h3⟩,h4⟩,h5⟩:=hn
  have h6:s.data.toList.head? =some (s.data.toList.getD 0 0):=by rw [List.head?_eq_getElem?];exact zDu zC
  rw [h6] at h3
  simp only [Option.all_some,nE,mN,Bool.and_eq_true,decide_eq_true_eq] at h3
  simp only [Bool.or_eq_true,decide_eq_true_eq,h5] at h
  rcases h with (((h|h)|h)|h)|h
  ·omega
  ·omega
  ·cases h
  ·omega
  ·omega
theorem ident_yes {s:ByteArray} (h:tQ s=false):1<=s.size/\s.size<=16/\bC s=s.data.toList.all gG:=by
 unfold tQ tU at h
 simp only [Bool.or_eq_false_iff,decide_eq_false_iff_not] at h
 obtain ⟨⟨⟨⟨h1,h2⟩,h3⟩,h4⟩,h5⟩:=h
 have h7:1<=s.size:=by omega
 refine ⟨h7,zC,?_⟩
 have h6:s.data.toList.head? =some (s.data.toList.getD 0 0):=by rw [List.head?_eq_getElem?];exact zDu zC
 unfold bC
 rw [h6,h3]
 have e1:decide (1<=s.size)=true:=by simp;omega
 have e2:decide (s.size<=16)=true:=by simp;omega
 have e3:nE (s.data.toList.getD 0 0)=true:=by simp only [nE,mN,Bool.and_eq_true,decide_eq_true_eq];omega
 simp only [e1,e2,Option.all_some,e3,Bool.true_and,Bool.not_false,Bool.and_true]
def sE (n:Int):Bool:=((decide (n<97)||decide (122<n))&&(decide (n<48)||decide (57<n)))&& !decide (n=95)
theorem notWord_eq (c:UInt8):sE c.toNat= !gG c:=by
 unfold sE gG rD mN tS
 rw [Bool.eq_iff_iff]
 simp only [Bool.and_eq_true,Bool.or_eq_true,Bool.not_eq_true',Bool.or_eq_false_iff,Bool.and_eq_false_iff,decide_eq_true_eq,decide_eq_false_iff_not]
 omega
theorem word_no {s:ByteArray} {k:Nat} (hlt:k<s.size) (h:sE ((s.data.toList.getD k 0).toNat:Int)=true):s.data.toList.all gG=false:=by
 rw [notWord_eq] at h
 rw [List.all_eq_false]
 exact ⟨_,List.mem_of_getElem? (zDu hlt),by simpa using h⟩
theorem word_yes {s:ByteArray} {k:Nat} (hlt:k<s.size) (hp:(s.data.toList.take k).all gG=true) (h:sE ((s.data.toList.getD k 0).toNat:Int)=false):(s.data.toList.take (k+1)).all gG=true:=by
 rw [notWord_eq] at h
 rw [zNq (zDu hlt),hp]
 simpa using h
theorem word_all {s:ByteArray} {k:Nat} (hp:(s.data.toList.take k).all gG=true) (h:¬k<s.size):s.data.toList.all gG=true:=by
 rw [List.take_of_length_le uF] at hp
 exact hp
def tJ (t:Ty):Bool:=decide (t.Bits=0)&&decide (t.Frac=0)&&decide (t.Round=0)&&decide (t.Over=0)
theorem plainT_eq (t:Ty):dC [cI t.Kind,cI t.Bits,cI t.Frac,cI t.Round,cI t.Over] [cI t.Kind,.lit (.int .i64 0),.lit (.int .i64 0),.lit (.int .i64 0),.lit (.int .i64 0)]=tJ t:=by
 simp [dC,cEq,tJ,Bool.and_assoc]
def sG (t:Ty):Bool:=((((!decide (t.Kind=2)||decide (t.Bits<2))||decide (31<t.Bits))||decide (t.Frac<0))||decide (30<t.Frac))|| !((decide (1<=t.Round)&&decide (t.Round<=4))&&(decide (t.Over=1)||decide (t.Over=2)))
theorem fixCond_eq (t:Ty):sG t= !fY t:=by
 unfold sG fY
 rw [Bool.eq_iff_iff]
 simp only [Bool.and_eq_true,Bool.or_eq_true,Bool.not_eq_true',Bool.or_eq_false_iff,Bool.and_eq_false_iff,decide_eq_true_eq,decide_eq_false_iff_not]
 omega
theorem fix_no {t:Ty} (h:sG t=true):fY t=false:=by rw [fixCond_eq] at h;simpa using h
theorem fix_yes {t:Ty} (h:sG t=false):fY t=true:=by rw [fixCond_eq] at h;simpa using h
theorem type1 {t:Ty} (h:(decide (t.Kind=1)||decide (t.Kind=3))=true):(((decide (t.Bits=0)&&decide (t.Frac=0))&&decide (t.Round=0))&&decide (t.Over=0))=dV t:=by
 unfold dV
 rw [h]
 have:decide (t.Kind=2)=false:=by
  simp only [Bool.or_eq_true,decide_eq_true_eq] at h
  simp;omega
 simp [this]
theorem type2 {t:Ty} (h:(decide (t.Kind=1)||decide (t.Kind=3))=false):(((((((decide (t.Kind=2)&&decide (2<=t.Bits))&&decide (t.Bits<=31))&&decide (0<=t.Frac))&&decide (t.Frac<=30))&&decide (1<=t.Round))&&decide (t.Round<=4))&&(decide (t.Over=1)||decide (t.Over=2)))=dV t:=by
 unfold dV
 rw [h]
 simp
theorem tyk1 {t:Ty} (h:t.Kind=1∨t.Kind=3):dV t=tJ t:=by
 rw [←type1 (t:=t) (by simpa using h)];rfl
theorem tyk0 {t:Ty} (h1:¬t.Kind=1) (h3:¬t.Kind=3) (h2:¬t.Kind=2):dV t=false:=by
 simp [dV,h1,h2,h3]
theorem zJz {t:Ty} (h:¬bU t=0):dV t=false:=by
 unfold bU at h;cases ht:dV t<;>simp_all
theorem zBc {t:Ty} (h:bU t=0):dV t=true:=by
 unfold bU at h;cases ht:dV t<;>simp_all
theorem zJy {n:Int} (h:0<=n/\n<=18446744073709551615):IntKind.u64.wrap n=n:=IntWalk.u64_in _ h
theorem zTa {b:Int} (h1:2<=b) (h2:b<=31):IntKind.i64.wrap (1*2^(min (IntKind.u64.wrap (b-1)).toNat IntKind.i64.bits))=lO b:=by
 rw [zJy zC]
 have h3:=half_le h1 h2
 have h4:min (b-1).toNat IntKind.i64.bits=(b-1).toNat:=Nat.min_eq_left (by simp [IntKind.bits];omega)
 rw [h4,Int.one_mul]
 exact zIk ⟨by unfold lO at h3;omega,by unfold lO at h3;omega⟩
theorem min_eq {b:Int} (h1:2<=b) (h2:b<=31):IntKind.i64.wrap (-(IntKind.i64.wrap (1*2^(min (IntKind.u64.wrap (b-1)).toNat IntKind.i64.bits))))= -lO b:=by
 rw [zTa h1 h2]
 have:=half_le h1 h2
 exact zIk ⟨zC,zC⟩
theorem max_eq {b:Int} (h1:2<=b) (h2:b<=31):IntKind.i64.wrap (IntKind.i64.wrap (1*2^(min (IntKind.u64.wrap (b-1)).toNat IntKind.i64.bits))-1)=lO b-1:=by
 rw [zTa h1 h2]
 have:=half_le h1 h2
 exact zIk ⟨zC,zC⟩
theorem fixB {t:Ty} (h:fY t=true):2<=t.Bits/\t.Bits<=31:=by
 simp only [fY,Bool.and_eq_true,decide_eq_true_eq] at h
 omega
theorem fxz {t:Ty} (h:(bif fY t then (0:Int) else 10)=0):fY t=true:=by cases ht:fY t<;>simp_all
theorem fxn {t:Ty} (h:¬(bif fY t then (0:Int) else 10)=0):fY t=false:=by cases ht:fY t<;>simp_all
theorem fxa {t:Ty} {p:Bool} (h:Lz (decide ((bif fY t then (0:Int) else 10)=0)&&p) true=true):fY t=true:=by
 simp only [Lz,cond_true,Bool.and_eq_true,decide_eq_true_eq] at h
 exact fxz h.1
theorem fxb {t:Ty} {p q:Bool} (h:Lz (decide ((bif fY t then (0:Int) else 10)=0)&&p&&q) true=true):fY t=true:=by
 simp only [Lz,cond_true,Bool.and_eq_true,decide_eq_true_eq] at h
 exact fxz h.1.1
theorem fixV (t:Ty) (v:Vl):(decide ((bif fY t then (0:Int) else 10)=0)&&decide (v.D=1)&&decide (-lO t.Bits<=v.N)&&decide (v.N<=lO t.Bits-1))=(fY t&&(decide (v.D=1)&&decide (-lO t.Bits<=v.N)&&decide (v.N<lO t.Bits))):=by
 have:decide (v.N<=lO t.Bits-1)=decide (v.N<lO t.Bits):=decide_eq_decide.2 zC
 rw [this]
 cases fY t<;>simp
theorem mag_neg {n:Int} (h:n<0) (hn: -9223372036854775808<=n):IntKind.u64.wrap (-(IntKind.u64.wrap n))=n.natAbs:=by
 have e:IntKind.u64.wrap n=n+18446744073709551616:=by simp [IntKind.wrap,IntKind.bits,IntKind.signed];omega
 rw [e]
 simp [IntKind.wrap,IntKind.bits,IntKind.signed];omega
theorem mag_pos {n:Int} (h:¬n<0) (hn:n<=9223372036854775807):IntKind.u64.wrap n=n.natAbs:=by
 rw [zJy zC];omega
theorem gcd_step {x y:Nat} (h:¬y=0):Nat.gcd x y=Nat.gcd y (x%y):=by
 rw [Nat.gcd_comm x y,Nat.gcd_rec y x,Nat.gcd_comm]
theorem frV {v:Vl} (h:Lz (decide (1<=v.D)&&decide (v.D<=2147483647)&&pJ v.N) true=true):1<=v.D/\v.D<=2147483647/\ -9223372036854775808<=v.N/\v.N<=9223372036854775807:=by
 simp only [Lz,cond_true,Bool.and_eq_true,decide_eq_true_eq,pJ] at h
 omega
theorem u64_D {d:Int} (h1:1<=d) (h2:d<=2147483647):IntKind.u64.wrap d=d.natAbs:=by
 rw [zJy zC];omega
theorem max_abs {n:Int} (h1: -2147483647<=n) (h2:n<=2147483647):max n (IntKind.i64.wrap (-n))=n.natAbs:=by
 rw [zIk ⟨zC,zC⟩];omega
def tG (v:Vl):Bool:=((decide (2147483647<v.N)||decide (v.N< -2147483647))||decide (v.D<1))||decide (2147483647<v.D)
theorem val_in {v:Vl} (h:tG v=false): -2147483647<=v.N/\v.N<=2147483647/\1<=v.D/\v.D<=2147483647:=by
 simp only [tG,Bool.or_eq_false_iff,decide_eq_false_iff_not] at h
 omega
theorem val_out {t:Ty} {v:Vl} (hk:¬t.Kind=2) (h:tG v=true):jA t v=false:=by
 unfold jA pJ
 rw [kF hk]
 simp only [tG,Bool.or_eq_true,decide_eq_true_eq] at h
 by_cases h3:t.Kind=3
 ·simp [h3];omega
 ·simp [h3];omega
theorem valfix {t:Ty} {v:Vl} (hk:t.Kind=2) (b1:2<=t.Bits) (b2:t.Bits<=31):(decide (v.D=1)&&decide (IntKind.i64.wrap (-(IntKind.i64.wrap (1*2^(min (t.Bits-1).toNat IntKind.i64.bits))))<=v.N)&&decide (v.N<IntKind.i64.wrap (1*2^(min (t.Bits-1).toNat IntKind.i64.bits))))=jA t v:=by
 have e:=zTa b1 b2
 have e':=min_eq b1 b2
 rw [zJy zC] at e e'
 rw [e',e,jA,hk]
 rfl
/-! ## Expressions -/
def bN (op:Int):Int:=if op=1∨op=2∨op=3 then 0 else if op=8∨op=12∨op=18 then 1 else if op=11 then 3 else 2
def bO (e:Ex):Bool:=decide (13<=e.Op)&&decide (e.Op<=18)
def gP (op i:Int):Bool:=(((decide (op=11)&&decide (i=0))||decide (op=16))||decide (op=17))||decide (op=18)
def nR (l:Lf):Bool:=decide (l.K=0)&&decide ((l.L.length:Int)=0)
def jW (x:Ix):Bool:=bif decide (x.From=bs []) then decide ((x.At.length:Int)=0) else nR x.Lin
def vM (v:Vl):Bool:=dC [cI v.N,cI v.D] [cI 0,cI 0]
def ty0 (t:Ty):Bool:=dC [cI t.Kind,cI t.Bits,cI t.Frac,cI t.Round,cI t.Over] [cI 0,cI 0,cI 0,cI 0,cI 0]
def gX (e:Ex):Bool:=
 !(decide (e.Op<1)||decide (18<e.Op))&& !(!decide (e.Op=1)&& !vM e.Val)&& !(!(decide (e.Op=1)||decide (e.Op=12))&& !ty0 e.Ty)&& !(!decide (e.Op=2)&& !nR e.Lin)&&
 !(!decide (e.Op=3)&&(!decide (e.Name=bs [])||decide ((0:Int)<e.Idx.length)))&&e.Idx.all jW
def tL (x:Ix):Bool:= !(!decide (x.From=bs [])&& !bC x.From)
def mS (e:Ex):Bool:= !(decide (e.Op=3)&& !bC e.Name)&&e.Idx.all tL
def tH (x:Ix):Bool:= !decide ((6:Int)<x.At.length)
def nU (e:Ex):Bool:= !(!decide ((e.Args.length:Int)=bN e.Op)||decide ((6:Int)<e.Idx.length))&&e.Idx.all tH
def gI (op i:Int):List Ex->Bool
 |[]=>true
 |a::r=>(bO a==gP op i)&&gI op (i+1) r
def jP (e:Ex):Bool:= !((decide (e.Op=1)||decide (e.Op=12))&& !dV e.Ty)&&gI e.Op 0 e.Args
def dI (e:Ex):List Lf:=e.Lin::e.Idx.flatMap fun x=>x.Lin::x.At
def lB (e:Ex):Bool:= !(decide (e.Op=1)&& !jA e.Ty e.Val)&&(dI e).all bP
def bW (e:Ex):Int:=bif !gX e then 5 else bif !mS e then 7 else bif !nU e then 11 else bif !jP e then 10 else bif !lB e then 1 else 0
mutual
def bY:Ex->List Ex
 |.mk o n v t l i arg_=>.mk o n v t l i arg_::bM arg_
def bM:List Ex->List Ex
 |[]=>[]
 |e::r=>bY e++bM r
end
theorem wZ (e:Ex):bY e=e::bM e.Args:=by cases e;rw [bY];rfl
theorem zMh (a b:List Ex):bM (a++b)=bM a++bM b:=by
 induction a with
 |nil=>rfl
 |cons x r ih=>rw [List.cons_append,bM,bM,ih,List.append_assoc]
def jC:List Ex->Int
 |[]=>0
 |e::r=>bif decide (bW e=0) then jC r else bW e
theorem zFx (a b:List Ex):jC (a++b)=bif decide (jC a=0) then jC b else jC a:=by
 induction a with
 |nil=>rfl
 |cons x r ih=>
  rw [List.cons_append,jC,jC,ih]
  by_cases h:bW x=0
  ·simp [h]
  ·simp [h]
def dZ (e:Ex):Int:=jC (bY e)
def sN (l:List Ex):Int:=jC (bM l)
theorem zFw (e:Ex):dZ e=bif decide (bW e=0) then sN e.Args else bW e:=by rw [dZ,wZ,jC];rfl
theorem zOe (e:Ex) (r:List Ex):sN (e::r)=bif decide (dZ e=0) then sN r else dZ e:=by rw [sN,bM,zFx];rfl
def tA (f:Ex->Int) (d:Int):List Ex->Int
 |[]=>d
 |a::r=>tA f (max d (1+f a)) r
def lL:Nat->Ex->Int
 |0,_=>1
 |n+1,e=>tA (lL n) 1 e.Args
theorem depF_le {f:Ex->Int} {n:Int} (h:∀a,1<=f a/\f a<=n):∀(l:List Ex) (d:Int),1<=d->d<=n+1->1<=tA f d l/\tA f d l<=n+1
 |[],d,h1,h2=>⟨h1,h2⟩
 |a::r,d,h1,h2=>by
  have:=h a
  exact depF_le h r _ zC zC
theorem depT_le:∀(n:Nat) (e:Ex),1<=lL n e/\lL n e<=n+1
 |0,e=>by simp [lL]
 |n+1,e=>by
  have:=depF_le (n:=n+1) (depT_le n) e.Args 1 zC zC
  rw [lL];omega
mutual
def sW:Ex->Nat->Nat
 |.mk _ _ _ _ _ _ arg_,most=>sK arg_ most 1
def sK:List Ex->Nat->Nat->Nat
 |[],_,n=>n
 |a::r,most,n=>if n<=most then sK r most (n+sW a (most-n)) else n
end
theorem sizE_eq (e:Ex) (m:Nat):sW e m=sK e.Args m 1:=by cases e;rw [sW];rfl
mutual
theorem sizE_min:∀(e:Ex) (m:Nat),sW e m=min (bY e).length (m+1)
 |.mk o n v t l i arg_,m=>by
  rw [sW,bY,sizL_min arg_ m 1 zC]
  simp;omega
theorem sizL_min:∀(l:List Ex) (m n:Nat),n<=m+1->sK l m n=min (n+(bM l).length) (m+1)
 |[],m,n,h=>by simp [sK,bM];omega
 |a::r,m,n,h=>by
  rw [sK,bM,List.length_append]
  split
  ·rename_i hn
   rw [sizE_min a (m-n),sizL_min r m _ zC]
   omega
  ·omega
end
def szT (e:Ex):Nat:=min (bY e).length 2001
def dQ (e:Ex):Int:=bif decide (40<lL 40 e) then 13 else bif decide ((2000:Int)<szT e) then 2 else dZ e
theorem nodes_wt:∀e:Ex,(bY e).length<=e.wt:=by
 intro e
 induction e using Ex.ind with
 |_ e ih=>
  rw [wZ,Ex.wt_eq]
  have:∀l:List Ex,(∀a,a∈l->(bY a).length<=a.wt)->(bM l).length<=dS l:=by
   intro l hl
   induction l with
   |nil=>simp [bM]
   |cons a r ihr=>
    rw [bM,dS,List.length_append]
    have h1:=hl a uG
    have h2:=ihr fun b hb=>hl b (by simp [hb])
    omega
  have:=this e.Args ih
  simp;omega
theorem zFh:∀(e x:Ex),x∈bY e->x.wt<=e.wt:=by
 intro e
 induction e using Ex.ind with
 |_ e ih=>
  intro x hx
  rw [wZ] at hx
  rcases List.mem_cons.1 hx with rfl|hx
  ·omega
  ·have:∀l:List Ex,(∀a,a∈l->a∈e.Args)->x∈bM l->x.wt<=e.wt:=by
    intro l hl hx
    induction l with
    |nil=>simp [bM] at hx
    |cons a r ihr=>
     rw [bM] at hx
     rcases List.mem_append.1 hx with h|h
     ·have h1:=ih a (hl a uG) x h
      have h2:=Ex.arg_wt (hl a uG)
      omega
     ·exact ihr (fun b hb=>hl b (by simp [hb])) h
   exact this e.Args (fun a h=>h) hx
theorem zJa {α:Type} (l:List α) (p:α->Bool):(!l.any fun x=> !p x)=l.all p:=by
 induction l with
 |nil=>rfl
 |cons x r ih=>simp only [List.any_cons,List.all_cons,←ih];cases p x<;>simp
theorem zRl {α:Type} {p:α->Bool} {l:List α} {k:Nat} {x:α} (h:l[k]? =some x) (hp:l.all p=(l.drop k).all p) (hx:p x=true):l.all p=(l.drop (k+1)).all p:=by
 rw [hp,qO h,List.all_cons,hx];rfl
theorem zQg {α:Type} {p:α->Bool} {l:List α} {k:Nat} {x:α} (h:l[k]? =some x) (hx:p x=false):l.all p=false:=by
 rw [List.all_eq_false];exact ⟨x,qC h,by simp [hx]⟩
theorem all_end {α:Type} {p:α->Bool} {l:List α} {k:Nat} (hp:l.all p=(l.drop k).all p) (h:¬k<l.length):l.all p=true:=by
 rw [hp,kJ h];rfl
theorem tyErr_dec (t:Ty):decide (bU t=0)=dV t:=by unfold bU;cases dV t<;>rfl
theorem zJk {l:Lf} (h:¬fM l=0):bP l=false:=by unfold fM at h;cases hl:bP l<;>simp_all
theorem zJl {l:Lf} (h:fM l=0):bP l=true:=by unfold fM at h;cases hl:bP l<;>simp_all
theorem plain2 {e:Ex} {b:Bool} (h:((!decide (e.Op=1)&& !dC [cI e.Val.N,cI e.Val.D] [cI 0,cI 0])||((!decide (e.Op=1)&& !decide (e.Op=12))&& !dC [cI e.Ty.Kind,cI e.Ty.Bits,cI e.Ty.Frac,cI e.Ty.Round,cI e.Ty.Over] [cI 0,cI 0,cI 0,cI 0,cI 0]))=b):
  ((!decide (e.Op=1)&& !vM e.Val)||(!(decide (e.Op=1)||decide (e.Op=12))&& !ty0 e.Ty))=b:=by
 rw [←h];unfold vM ty0;cases decide (e.Op=1)<;>simp
theorem plain3 {e:Ex} {b:Bool} (h:((!decide (e.Op=2)&&(!decide (e.Lin.K=0)||decide ((0:Int)<e.Lin.L.length)))||(!decide (e.Op=3)&&(!decide (e.Name=bs [])||decide ((0:Int)<e.Idx.length))))=b):
  ((!decide (e.Op=2)&& !nR e.Lin)||(!decide (e.Op=3)&&(!decide (e.Name=bs [])||decide ((0:Int)<e.Idx.length))))=b:=by
 rw [←h]
 have:(!nR e.Lin)=(!decide (e.Lin.K=0)||decide ((0:Int)<e.Lin.L.length)):=by
  unfold nR
  rw [Bool.not_and]
  congr 1
  exact v56
 rw [this]
theorem well_dec {x:Ix} {b:Bool} (h:((decide (x.From=bs [])&&decide ((0:Int)<x.At.length))||(!decide (x.From=bs [])&&(!decide (x.Lin.K=0)||decide ((0:Int)<x.Lin.L.length))))=b):(!jW x)=b:=by
 rw [←h]
 unfold jW nR
 by_cases hf:x.From=bs []
 ·simp only [hf,decide_true,cond_true,Bool.true_and,Bool.not_true,Bool.false_and,Bool.or_false]
  exact v56
 ·simp only [hf,decide_false,cond_false,Bool.false_and,Bool.not_false,Bool.true_and,Bool.false_or,Bool.not_and]
  congr 1
  exact v56
theorem syn2 {e:Ex} (h:((!decide (e.Op=1)&& !vM e.Val)||(!(decide (e.Op=1)||decide (e.Op=12))&& !ty0 e.Ty))=true):false=gX e:=by
 unfold gX
 rw [Bool.or_eq_true] at h
 rcases h with h|h<;>simp only [h,Bool.not_true,Bool.and_false,Bool.false_and]
theorem syn3 {e:Ex} (h:((!decide (e.Op=2)&& !nR e.Lin)||(!decide (e.Op=3)&&(!decide (e.Name=bs [])||decide ((0:Int)<e.Idx.length))))=true):false=gX e:=by
 unfold gX
 rw [Bool.or_eq_true] at h
 rcases h with h|h<;>simp only [h,Bool.not_true,Bool.and_false,Bool.false_and]
theorem syn5 {e:Ex} (h1:(decide (e.Op<1)||decide (18<e.Op))=false) (h2:((!decide (e.Op=1)&& !vM e.Val)||(!(decide (e.Op=1)||decide (e.Op=12))&& !ty0 e.Ty))=false) (h3:((!decide (e.Op=2)&& !nR e.Lin)||(!decide (e.Op=3)&&(!decide (e.Name=bs [])||decide ((0:Int)<e.Idx.length))))=false) (h4:e.Idx.all jW=true):true=gX e:=by
 unfold gX
 obtain ⟨a,b⟩:=Bool.or_eq_false_iff.1 h2
 obtain ⟨c,d⟩:=Bool.or_eq_false_iff.1 h3
 simp only [h1,a,b,c,d,h4,Bool.not_false,Bool.and_self]
theorem form_start {e:Ex} (h:((decide (e.Op=1)&& !jA e.Ty e.Val)|| !bP e.Lin)=false):(dI e).all bP=((e.Idx.drop 0).flatMap fun x=>x.Lin::x.At).all bP:=by
 obtain ⟨_,h2⟩:=Bool.or_eq_false_iff.1 h
 rw [dI,List.all_cons,show bP e.Lin=true by simpa using h2];rfl
theorem form_no {e:Ex} (h:((decide (e.Op=1)&& !jA e.Ty e.Val)|| !bP e.Lin)=true):false=lB e:=by
 unfold lB dI
 rw [Bool.or_eq_true] at h
 rcases h with h|h
 ·simp only [h,Bool.not_true,Bool.false_and]
 ·rw [List.all_cons,show bP e.Lin=false by simpa using h];simp
theorem form_no2 {e:Ex} {l:List Lf} (h:(dI e).all bP=l.all bP) (h2:l.all bP=false):false=lB e:=by
 unfold lB;rw [h,h2,Bool.and_false]
theorem form_yes {e:Ex} (h:((decide (e.Op=1)&& !jA e.Ty e.Val)|| !bP e.Lin)=false) (h2:(dI e).all bP=true):true=lB e:=by
 obtain ⟨h1,_⟩:=Bool.or_eq_false_iff.1 h
 unfold lB;rw [h1,h2];rfl
theorem types_ty {e:Ex} (h:jP e=true):e.Op=1->dV e.Ty=true:=by
 intro h1
 simp only [jP,h1,decide_true,Bool.true_or,Bool.true_and,Bool.not_not,Bool.and_eq_true] at h
 exact h.1
theorem dep_start {n:Nat} {e:Ex} (h:n≠0):lL n e=tA (lL (n-1)) 1 (e.Args.drop 0):=by
 cases n with
 |zero=>exact absurd rfl h
 |succ n=>rfl
theorem dep_end {n:Nat} {e:Ex} {l d:Int} {k:Nat} (hl:l=n+1) (c:e.Args.length<=k∨l<=1) (h3:n≠0->lL n e=tA (lL (n-1)) d (e.Args.drop k)) (h4:n=0->d=1):d=lL n e:=by
 by_cases h0:n=0
 ·rw [h4 h0,h0];rfl
 ·rw [h3 h0,kJ zC];rfl
theorem siz_end {l:List Ex} {k n m:Nat} {x:Int} (hl:x=m) (h:l.length<=k∨x<n):n=sK (l.drop k) m n:=by
 by_cases hk:k<l.length
 ·obtain ⟨a,ha⟩:=qV l k hk
  rw [qO ha,sK,if_neg zC]
 ·rw [kJ hk,sK]
abbrev ixF (x:Ix):List Lf:=x.Lin::x.At
theorem forms_at {e:Ex} {k:Nat} {x:Ix} (h:e.Idx[k]? =some x):dI e=(e.Lin::(e.Idx.take k).flatMap ixF)++x.Lin::(x.At++(e.Idx.drop (k+1)).flatMap ixF):=by
 have e1:e.Idx=e.Idx.take k++x::e.Idx.drop (k+1):=by rw [←qO h,List.take_append_drop]
 have e2:dI e=e.Lin::e.Idx.flatMap ixF:=rfl
 have e3:e.Idx.flatMap ixF=(e.Idx.take k++x::e.Idx.drop (k+1)).flatMap ixF:=congrArg _ e1
 rw [e2,e3,List.flatMap_append,List.flatMap_cons]
 simp [ixF]
theorem forms_at2 {e:Ex} {k j:Nat} {x:Ix} {l:Lf} (h:e.Idx[k]? =some x) (hl:x.At[j]? =some l):dI e=((e.Lin::(e.Idx.take k).flatMap ixF)++[x.Lin]++x.At.take j)++l::(x.At.drop (j+1)++(e.Idx.drop (k+1)).flatMap ixF):=by
 rw [forms_at h]
 have e1:x.At=x.At.take j++l::x.At.drop (j+1):=by rw [←qO hl,List.take_append_drop]
 have e2:x.At++(e.Idx.drop (k+1)).flatMap ixF=(x.At.take j++l::x.At.drop (j+1))++(e.Idx.drop (k+1)).flatMap ixF:=congrArg (· ++(e.Idx.drop (k+1)).flatMap ixF) e1
 rw [e2]
 simp
theorem forms_next {e:Ex} {k:Nat} {x:Ix} (h:e.Idx[k]? =some x):e.Lin::(e.Idx.take (k+1)).flatMap ixF=(e.Lin::(e.Idx.take k).flatMap ixF)++[x.Lin]++x.At:=by
 rw [yB h,List.flatMap_append];simp [ixF]
theorem nodes_at {e a:Ex} {k:Nat} (h:e.Args[k]? =some a) {pre suf:List Ex} {x:Ex} (hx:bY a=pre++x::suf):bY e=(e::bM (e.Args.take k)++pre)++x::(suf++bM (e.Args.drop (k+1))):=by
 have e1:e.Args=e.Args.take k++a::e.Args.drop (k+1):=by rw [←qO h,List.take_append_drop]
 have e2:bM e.Args=bM (e.Args.take k)++(bY a++bM (e.Args.drop (k+1))):=by
  have:=congrArg bM e1
  rw [zMh,bM] at this
  exact this
 rw [wZ,e2,hx]
 simp
theorem zSv {l:List Ex} {k:Nat} {a:Ex} (h:l[k]? =some a):bM (l.take (k+1))=bM (l.take k)++bY a:=by
 rw [yB h,zMh,bM,bM,List.append_nil]
theorem zRc {e:Ex} {l:Lf} {B:Nat} (he:e.wt<=B) (h:l∈dI e):l.L.length<=B:=by
 unfold dI at h
 rcases List.mem_cons.1 h with rfl|h
 ·exact (e.parts he).1
 ·obtain ⟨x,hx,hl⟩:=List.mem_flatMap.1 h
  have h1:=Ex.idx_wt hx
  rcases List.mem_cons.1 hl with rfl|hl
  ·omega
  ·have:=zBz hl;omega
theorem node5 {e:Ex} {b:Bool} (h:jP e=true) (c:(decide (e.Op=1)&& !(dV e.Ty&&jA e.Ty e.Val))=b):(decide (e.Op=1)&& !jA e.Ty e.Val)=b:=by
 rw [←c]
 by_cases h1:e.Op=1
 ·rw [types_ty h h1];simp [h1]
 ·simp [h1]
theorem all_app_no {α:Type} {p:α->Bool} {pre suf:List α} {x:α} (h:(pre++[x]).all p=false):(pre++x::suf).all p=false:=by
 rw [show pre++x::suf=(pre++[x])++suf by simp,List.all_append,h];rfl
theorem errs_one {pre:List Ex} {x:Ex} (h:jC pre=0) (c:¬bW x=0):jC (pre++[x])=bW x:=by
 rw [zFx,h,jC,kF c];rfl
theorem errs_pre {pre suf:List Ex} {x:Ex} (h:¬jC (pre++[x])=0):jC (pre++x::suf)=jC (pre++[x]):=by
 rw [show pre++x::suf=(pre++[x])++suf by simp,zFx,kF h];rfl
end Go.Br
end
section
namespace Go.Br
open Go Go.Eng Go.L41
/-! ## Equality,part by part -/
theorem ix_eq (a b:Ix):((decide (a.From=b.From)&&decide (a.Lin=b.Lin))&&decide (a.At=b.At))=decide (a=b):=by
 rw [Bool.eq_iff_iff];simp only [Bool.and_eq_true,decide_eq_true_eq]
 cases a;cases b;simp only [Ix.mk.injEq]
 constructor
 ·rintro ⟨⟨h1,h2⟩,h3⟩;exact ⟨h2,h1,h3⟩
 ·rintro ⟨h1,h2,h3⟩;exact ⟨⟨h2,h1⟩,h3⟩
theorem litsEq_val (a b:Vl):dC [cI a.N,cI a.D] [cI b.N,cI b.D]=decide (a=b):=by
 rw [Bool.eq_iff_iff];cases a;cases b;simp [dC,cEq]
theorem litsEq_ty (a b:Ty):dC [cI a.Kind,cI a.Bits,cI a.Frac,cI a.Round,cI a.Over] [cI b.Kind,cI b.Bits,cI b.Frac,cI b.Round,cI b.Over]=decide (a=b):=by
 rw [Bool.eq_iff_iff];cases a;cases b;simp [dC,cEq]
theorem ex_eq (a b:Ex):((((((decide (a.Op=b.Op)&&decide (a.Name=b.Name))&&dC [cI a.Val.N,cI a.Val.D] [cI b.Val.N,cI b.Val.D])&&dC [cI a.Ty.Kind,cI a.Ty.Bits,cI a.Ty.Frac,cI a.Ty.Round,cI a.Ty.Over] [cI b.Ty.Kind,cI b.Ty.Bits,cI b.Ty.Frac,cI b.Ty.Round,cI b.Ty.Over])&&decide (a.Lin=b.Lin))&&decide (a.Idx=b.Idx))&&decide (a.Args=b.Args))=decide (a=b):=by
 rw [litsEq_val,litsEq_ty,Bool.eq_iff_iff]
 simp only [Bool.and_eq_true,decide_eq_true_eq,Ex.eq_iff]
 constructor
 ·rintro ⟨⟨⟨⟨⟨⟨h1,h2⟩,h3⟩,h4⟩,h5⟩,h6⟩,h7⟩;exact ⟨h1,h2,h3,h4,h5,h6,h7⟩
 ·rintro ⟨h1,h2,h3,h4,h5,h6,h7⟩;exact ⟨⟨⟨⟨⟨⟨h1,h2⟩,h3⟩,h4⟩,h5⟩,h6⟩,h7⟩
/-! ## Weights -/
def fO (m n:Nat):List Lf->Nat
 |[]=>n
 |l::r=>if n<=m then fO m (n+l.L.length) r else n
def dU (m n:Nat):List Ix->Nat
 |[]=>n
 |x::r=>if n<=m then dU m (fO m (n+x.Lin.L.length+x.At.length) x.At) r else n
mutual
def gJ:Ex->Nat->Nat
 |.mk _ _ _ _ l i arg_,m=>jE arg_ m (dU m (1+l.L.length+i.length) i)
def jE:List Ex->Nat->Nat->Nat
 |[],_,n=>n
 |a::r,m,n=>if n<=m then jE r m (n+gJ a (m-n)) else n
end
theorem weighE_eq (e:Ex) (m:Nat):gJ e m=jE e.Args m (dU m (1+e.Lin.L.length+e.Idx.length) e.Idx):=by cases e;rw [gJ];rfl
def Ix.fit (x:Ix):Prop:=x.Lin.L.length<=140737488355328/\x.At.length<=140737488355328/\∀l,l∈x.At->l.L.length<=140737488355328
mutual
def Ex.fit:Ex->Prop
 |.mk _ _ _ _ l i arg_=>l.L.length<=140737488355328/\i.length<=140737488355328/\arg_.length<=140737488355328/\(∀x,x∈i->x.fit)/\cP arg_
def cP:List Ex->Prop
 |[]=>True
 |a::r=>a.fit/\cP r
end
theorem fitL_mem {l:List Ex} (h:cP l):∀a,a∈l->a.fit:=by
 induction l with
 |nil=>intro a ha;cases ha
 |cons x r ih=>
  intro a ha
  rcases List.mem_cons.1 ha with rfl|ha
  ·exact h.1
  ·exact ih h.2 a ha
theorem Ex.fit_eq {e:Ex} (h:e.fit):e.Lin.L.length<=140737488355328/\e.Idx.length<=140737488355328/\e.Args.length<=140737488355328/\(∀x,x∈e.Idx->x.fit)/\∀a,a∈e.Args->a.fit:=by
 cases e with
 |mk o n v t l i arg_=>rw [Ex.fit] at h;exact ⟨h.1,h.2.1,h.2.2.1,h.2.2.2.1,fitL_mem h.2.2.2.2⟩
theorem zNu (m:Nat):∀(l:List Lf) (n:Nat),n<=fO m n l
 |[],n=>Nat.le_refl _
 |x::r,n=>by
  rw [fO];split
  ·have:=zNu m r (n+x.L.length);omega
  ·omega
theorem zRo (m:Nat):∀(l:List Ix) (n:Nat),n<=dU m n l
 |[],n=>Nat.le_refl _
 |x::r,n=>by
  rw [dU];split
  ·have h1:=zNu m x.At (n+x.Lin.L.length+x.At.length)
   have:=zRo m r (fO m (n+x.Lin.L.length+x.At.length) x.At);omega
  ·omega
theorem zRq (m:Nat):∀(l:List Lf) (n:Nat),fO m n l<=m->n+fT l<=fO m n l
 |[],n,_=>by simp [fO,fT]
 |y::r,n,h=>by
  have hn:n<=m:=Nat.le_trans (zNu m (y::r) n) h
  rw [fO,if_pos hn] at h⊢
  have:=zRq m r _ h
  rw [fT];omega
theorem zPo (m:Nat):∀(l:List Ix) (n:Nat),dU m n l<=m->n+dD l<=dU m n l
 |[],n,_=>by simp [dU,dD]
 |x::r,n,h=>by
  have hn:n<=m:=Nat.le_trans (zRo m (x::r) n) h
  rw [dU,if_pos hn] at h⊢
  have h1:=zPo m r _ h
  have h2:=zRq m x.At (n+x.Lin.L.length+x.At.length) zC
  rw [dD,Ix.wt];omega
mutual
theorem zLs:∀(e:Ex) (m:Nat),gJ e m<=m->e.wt<=gJ e m
 |.mk o n v t l i arg_,m,h=>by
  rw [gJ] at h⊢
  have h1:=weighL_wt arg_ m _ h
  have h2:=zPo m i (1+l.L.length+i.length) zC
  rw [Ex.wt];omega
theorem weighL_wt:∀(l:List Ex) (m n:Nat),jE l m n<=m->n+dS l<=jE l m n
 |[],m,n,h=>by simp [jE,dS]
 |a::r,m,n,h=>by
  by_cases hn:n<=m
  ·rw [jE,if_pos hn] at h⊢
   have h1:=weighL_wt r m _ h
   have h2:=zLs a (m-n) zC
   rw [dS];omega
  ·rw [jE,if_neg hn] at h;omega
end
theorem weighAt_le {m:Nat}:∀(l:List Lf) (n B:Nat),(∀x,x∈l->x.L.length<=140737488355328)->n<=B->m+140737488355328<=B->fO m n l<=B
 |[],n,B,_,h,_=>by simpa [fO] using h
 |x::r,n,B,hx,h,hb=>by
  rw [fO];split
  ·have:=hx x uG
   exact weighAt_le r _ B (fun y hy=>hx y (by simp [hy])) zC hb
  ·exact h
theorem zRn {m:Nat}:∀(l:List Ix) (n B:Nat),(∀x,x∈l->x.fit)->n<=B->m+3*140737488355328<=B->dU m n l<=B
 |[],n,B,_,h,_=>by simpa [dU] using h
 |x::r,n,B,hx,h,hb=>by
  rw [dU];split
  ·obtain ⟨h1,h2,h3⟩:=hx x uG
   exact zRn r _ B (fun y hy=>hx y (by simp [hy])) (weighAt_le x.At _ B h3 zC zC) hb
  ·exact h
mutual
theorem zRp:∀(e:Ex) (m:Nat),e.fit->gJ e m<=m+4*140737488355328
 |.mk o n v t l i arg_,m,h=>by
  rw [Ex.fit] at h
  obtain ⟨h1,h2,h3,h4,h5⟩:=h
  rw [gJ]
  exact weighL_le arg_ m _ h5 (zRn i _ _ h4 zC zC)
theorem weighL_le:∀(l:List Ex) (m n:Nat),cP l->n<=m+4*140737488355328->jE l m n<=m+4*140737488355328
 |[],m,n,_,h=>by simpa [jE] using h
 |a::r,m,n,hf,h=>by
  rw [jE];split
  ·have:=zRp a (m-n) hf.1
   exact weighL_le r m _ hf.2 zC
  ·exact h
end
theorem weighIdx_end {m n k:Nat} {l:List Ix} {x:Int} (hx:x=m) (h:l.length<=k∨x<n):n=dU m n (l.drop k):=by
 by_cases hk:k<l.length
 ·obtain ⟨a,ha⟩:=qV l k hk
  rw [qO ha,dU,if_neg zC]
 ·rw [kJ hk,dU]
theorem weighAt_end {m n k:Nat} {l:List Lf} {x:Int} (hx:x=m) (h:l.length<=k∨x<n):n=fO m n (l.drop k):=by
 by_cases hk:k<l.length
 ·obtain ⟨a,ha⟩:=qV l k hk
  rw [qO ha,fO,if_neg zC]
 ·rw [kJ hk,fO]
theorem weighL_end {m n k:Nat} {l:List Ex} {x:Int} (hx:x=m) (h:l.length<=k∨x<n):n=jE (l.drop k) m n:=by
 by_cases hk:k<l.length
 ·obtain ⟨a,ha⟩:=qV l k hk
  rw [qO ha,jE,if_neg zC]
 ·rw [kJ hk,jE]
/-! ## Forms mapped -/
def fE (f:Lf->Lf×Int) (l:Lf):Except Int Lf:=if (f l).2=0 then .ok (f l).1 else .error (f l).2
def fG (f:Lf->Lf×Int):List Lf->Except Int (List Lf)
 |[]=>.ok []
 |l::r=>match fE f l with
  |.error x=>.error x
  |.ok l'=>match fG f r with
   |.error x=>.error x
   |.ok r'=>.ok (l'::r')
def mIx (f:Lf->Lf×Int) (x:Ix):Except Int Ix:=match fE f x.Lin with
 |.error y=>.error y
 |.ok l=>match fG f x.At with
  |.error y=>.error y
  |.ok a=>.ok ⟨l,x.From,a⟩
def fJ (f:Lf->Lf×Int):List Ix->Except Int (List Ix)
 |[]=>.ok []
 |x::r=>match mIx f x with
  |.error y=>.error y
  |.ok x'=>match fJ f r with
   |.error y=>.error y
   |.ok r'=>.ok (x'::r')
mutual
def mEx (f:Lf->Lf×Int):Ex->Except Int Ex
 |.mk o n v t l i arg_=>match fE f l with
  |.error y=>.error y
  |.ok l'=>match fJ f i with
   |.error y=>.error y
   |.ok i'=>match gW f arg_ with
    |.error y=>.error y
    |.ok as'=>.ok (.mk o n v t l' i' as')
def gW (f:Lf->Lf×Int):List Ex->Except Int (List Ex)
 |[]=>.ok []
 |a::r=>match mEx f a with
  |.error y=>.error y
  |.ok a'=>match gW f r with
   |.error y=>.error y
   |.ok r'=>.ok (a'::r')
end
def zEx:Ex:=.mk 0 (bs []) ⟨0,0⟩ ⟨0,0,0,0,0⟩ ⟨0,[]⟩ [] []
def nW:Except Int Ex->Ex
 |.ok e=>e
 |.error _=>zEx
def jR {α:Type}:Except Int α->Int
 |.ok _=>0
 |.error x=>x
def lD {α β:Type} (a:Except Int α) (g:α->β):Except Int β:=match a with
 |.error y=>.error y
 |.ok x=>.ok (g x)
theorem mEx_eq (f:Lf->Lf×Int) (e:Ex):mEx f e=match fE f e.Lin with
  |.error y=>.error y
  |.ok l'=>match fJ f e.Idx with
   |.error y=>.error y
   |.ok i'=>match gW f e.Args with
    |.error y=>.error y
    |.ok as'=>.ok (.mk e.Op e.Name e.Val e.Ty l' i' as'):=by cases e;rw [mEx];rfl
theorem zQn {f:Lf->Lf×Int} {l:Lf} (h:(f l).2=0):fE f l=.ok (f l).1:=if_pos h
theorem fE_err {f:Lf->Lf×Int} {l:Lf} (h:¬(f l).2=0):fE f l=.error (f l).2:=if_neg h
def bZ {α:Type} (done:List α) (x:Except Int (List α)):Except Int (List α):=lD x (done++ ·)
theorem zCo {α:Type} (x:Except Int (List α)):bZ [] x=x:=by cases x<;>rfl
theorem mLins_next {f:Lf->Lf×Int} {l:List Lf} {k:Nat} {x:Lf} {done:List Lf} (h:l[k]? =some x) (hp:fG f l=bZ done (fG f (l.drop k))) (hx:(f x).2=0):fG f l=bZ (done++[(f x).1]) (fG f (l.drop (k+1))):=by
 rw [hp,qO h,fG,zQn hx]
 cases fG f (l.drop (k+1))<;>simp [bZ,lD]
theorem mLins_no {f:Lf->Lf×Int} {l:List Lf} {k:Nat} {x:Lf} {done:List Lf} (h:l[k]? =some x) (hp:fG f l=bZ done (fG f (l.drop k))) (hx:¬(f x).2=0):fG f l=.error (f x).2:=by
 rw [hp,qO h,fG,fE_err hx];rfl
theorem mLins_end {f:Lf->Lf×Int} {l:List Lf} {k:Nat} {done:List Lf} (hp:fG f l=bZ done (fG f (l.drop k))) (h:¬k<l.length):fG f l=.ok done:=by
 rw [hp,kJ h];simp [fG,bZ,lD]
theorem mIxs_next {f:Lf->Lf×Int} {l:List Ix} {k:Nat} {x y:Ix} {done:List Ix} (h:l[k]? =some x) (hp:fJ f l=bZ done (fJ f (l.drop k))) (hx:mIx f x=.ok y):fJ f l=bZ (done++[y]) (fJ f (l.drop (k+1))):=by
 rw [hp,qO h,fJ,hx]
 cases fJ f (l.drop (k+1))<;>simp [bZ,lD]
theorem mIxs_no {f:Lf->Lf×Int} {l:List Ix} {k:Nat} {x:Ix} {done:List Ix} {c:Int} (h:l[k]? =some x) (hp:fJ f l=bZ done (fJ f (l.drop k))) (hx:mIx f x=.error c):fJ f l=.error c:=by
 rw [hp,qO h,fJ,hx];rfl
theorem mIxs_end {f:Lf->Lf×Int} {l:List Ix} {k:Nat} {done:List Ix} (hp:fJ f l=bZ done (fJ f (l.drop k))) (h:¬k<l.length):fJ f l=.ok done:=by
 rw [hp,kJ h];simp [fJ,bZ,lD]
theorem errE_ok {α:Type} {x:Except Int α} (h:jR x=0) (h2:x≠ .error 0):∃a,x=.ok a:=by
 cases x with
 |ok a=>exact ⟨a,rfl⟩
 |error y=>exact absurd (by rw [show y=0 from h]) h2
theorem fE_ne {f:Lf->Lf×Int} {l:Lf}:fE f l≠ .error 0:=by
 unfold fE;split
 ·simp
 ·rename_i h;intro hh;exact h (Except.error.inj hh)
theorem mLins_ne {f:Lf->Lf×Int}:∀{l:List Lf},fG f l≠ .error 0
 |[]=>by simp [fG]
 |x::r=>by
  rw [fG]
  cases h1:fE f x with
  |error y=>intro h;cases h;exact fE_ne h1
  |ok a=>
   cases h2:fG f r with
   |error y=>intro h;cases h;exact mLins_ne h2
   |ok a=>simp
theorem mIx_ne {f:Lf->Lf×Int} {x:Ix}:mIx f x≠ .error 0:=by
 rw [mIx]
 cases h1:fE f x.Lin with
 |error y=>intro h;cases h;exact fE_ne h1
 |ok a=>
  cases h2:fG f x.At with
  |error y=>intro h;cases h;exact mLins_ne h2
  |ok a=>simp
theorem mIxs_ne {f:Lf->Lf×Int}:∀{l:List Ix},fJ f l≠ .error 0
 |[]=>by simp [fJ]
 |x::r=>by
  rw [fJ]
  cases h1:mIx f x with
  |error y=>intro h;cases h;exact mIx_ne h1
  |ok a=>
   cases h2:fJ f r with
   |error y=>intro h;cases h;exact mIxs_ne h2
   |ok a=>simp
mutual
theorem mEx_ne {f:Lf->Lf×Int}:∀e:Ex,mEx f e≠ .error 0
 |.mk o n v t l i arg_=>by
  rw [mEx]
  cases h1:fE f l with
  |error y=>intro h;cases h;exact fE_ne h1
  |ok a=>
   cases h2:fJ f i with
   |error y=>intro h;cases h;exact mIxs_ne h2
   |ok a=>
    cases h3:gW f arg_ with
    |error y=>intro h;cases h;exact mExs_ne arg_ h3
    |ok a=>simp
theorem mExs_ne {f:Lf->Lf×Int}:∀l:List Ex,gW f l≠ .error 0
 |[]=>by simp [gW]
 |x::r=>by
  rw [gW]
  cases h1:mEx f x with
  |error y=>intro h;cases h;exact mEx_ne x h1
  |ok a=>
   cases h2:gW f r with
   |error y=>intro h;cases h;exact mExs_ne r h2
   |ok a=>simp
end
theorem mExs_next {f:Lf->Lf×Int} {l:List Ex} {k:Nat} {x:Ex} {done:List Ex} (h:l[k]? =some x) (hp:gW f l=bZ done (gW f (l.drop k))) (hx:jR (mEx f x)=0):gW f l=bZ (done++[nW (mEx f x)]) (gW f (l.drop (k+1))):=by
 rw [hp,qO h,gW]
 obtain ⟨y,hy⟩:=errE_ok hx (mEx_ne x)
 rw [hy]
 cases gW f (l.drop (k+1))<;>simp [bZ,lD,nW]
theorem mExs_no {f:Lf->Lf×Int} {l:List Ex} {k:Nat} {x:Ex} {done:List Ex} (h:l[k]? =some x) (hp:gW f l=bZ done (gW f (l.drop k))) (hx:¬jR (mEx f x)=0):gW f l=.error (jR (mEx f x)):=by
 rw [hp,qO h,gW]
 cases hm:mEx f x with
 |error y=>rfl
 |ok y=>rw [hm] at hx;exact absurd rfl hx
theorem mExs_end {f:Lf->Lf×Int} {l:List Ex} {k:Nat} {done:List Ex} (hp:gW f l=bZ done (gW f (l.drop k))) (h:¬k<l.length):gW f l=.ok done:=by
 rw [hp,kJ h];simp [gW,bZ,lD]
def idF (l:Lf):Lf×Int:=(l,0)
theorem mLins_id:∀l:List Lf,fG idF l=.ok l
 |[]=>rfl
 |x::r=>by rw [fG,zQn rfl,mLins_id r];rfl
theorem mIx_id (x:Ix):mIx idF x=.ok x:=by rw [mIx,zQn rfl,mLins_id];rfl
theorem mIxs_id:∀l:List Ix,fJ idF l=.ok l
 |[]=>rfl
 |x::r=>by rw [fJ,mIx_id,mIxs_id r]
mutual
theorem mEx_id:∀e:Ex,mEx idF e=.ok e
 |.mk o n v t l i arg_=>by rw [mEx,zQn rfl,mIxs_id,mExs_id arg_];rfl
theorem mExs_id:∀l:List Ex,gW idF l=.ok l
 |[]=>by rw [gW]
 |x::r=>by rw [gW,mEx_id x,mExs_id r]
end
/-! ## A row in the middle -/
theorem zOm {α:Type} {f:α->List C} {A:List (List C)} {l:List α} {k:Nat} {x:α} (hA:A.length=k) (h:l[k]? =some x):(A++(l.drop k).map f)[k]? =some (f x):=by
 rw [qO h,List.map_cons,List.getElem?_append_right zC,hA];simp
theorem zJf {α:Type} {f:α->List C} {A:List (List C)} {l:List α} {k:Nat} (hA:A.length=k) (h:k<l.length):((k:Int)).toNat<(A++(l.drop k).map f).length:=by
 simp;omega
theorem zJe {α:Type} {f:α->List C} {A:List (List C)} {l:List α} {k:Nat} {x:α} {r:List C} (hA:A.length=k) (h:l[k]? =some x):(A++(l.drop k).map f).set k r=(A++[r])++(l.drop (k+1)).map f:=by
 rw [qO h,List.map_cons,List.set_append_right _ _ zC,hA];simp
theorem mid_set' {α:Type} {f:α->List C} {A B:List (List C)} {l:List α} {k:Nat} {r r':List C} (hA:A.length=k):((A++[r])++B).set k r'=(A++[r'])++B:=by
 rw [List.append_assoc,List.set_append_right _ _ zC,hA];simp
theorem zFe {A:List (List C)} {k:Nat} {r:List C} (h:k<A.length):(A.set k r)[k]? =some r:=by
 rw [List.getElem?_set_self h]
theorem mid_getE {A:List (List C)} {l:List Ex} {k:Nat} {x:Ex} (hA:A.length=k) (h:l[k]? =some x):(A++(l.drop k).map Ex.cells)[k]? =some x.cs:=by
 rw [zOm hA h,Ex.cells_eq]
theorem mEx_e1 {f:Lf->Lf×Int} {e:Ex} (h:¬(f e.Lin).2=0):mEx f e=.error (f e.Lin).2:=by rw [mEx_eq,fE_err h]
theorem mEx_e2 {f:Lf->Lf×Int} {e:Ex} {c:Int} (h:(f e.Lin).2=0) (h2:fJ f e.Idx=.error c):mEx f e=.error c:=by rw [mEx_eq,zQn h,h2]
theorem mEx_e3 {f:Lf->Lf×Int} {e:Ex} {c:Int} {i:List Ix} (h:(f e.Lin).2=0) (h2:fJ f e.Idx=.ok i) (h3:gW f e.Args=.error c):mEx f e=.error c:=by rw [mEx_eq,zQn h,h2,h3]
theorem mEx_ok {f:Lf->Lf×Int} {e:Ex} {i:List Ix} {a:List Ex} (h:(f e.Lin).2=0) (h2:fJ f e.Idx=.ok i) (h3:gW f e.Args=.ok a):mEx f e=.ok (.mk e.Op e.Name e.Val e.Ty (f e.Lin).1 i a):=by rw [mEx_eq,zQn h,h2,h3]
theorem mIx_e1 {f:Lf->Lf×Int} {x:Ix} (h:¬(f x.Lin).2=0):mIx f x=.error (f x.Lin).2:=by rw [mIx,fE_err h]
theorem mIx_e2 {f:Lf->Lf×Int} {x:Ix} {c:Int} (h:(f x.Lin).2=0) (h2:fG f x.At=.error c):mIx f x=.error c:=by rw [mIx,zQn h,h2]
theorem mIx_ok {f:Lf->Lf×Int} {x:Ix} {a:List Lf} (h:(f x.Lin).2=0) (h2:fG f x.At=.ok a):mIx f x=.ok ⟨(f x.Lin).1,x.From,a⟩:=by rw [mIx,zQn h,h2]
def Ex.allF (P:Lf->Prop) (e:Ex):Prop:=∀x,x∈bY e->∀l,l∈dI x->P l
theorem Ex.allF_lin {P:Lf->Prop} {e:Ex} (h:e.allF P):P e.Lin:=h e (by rw [wZ];simp) _ (by unfold dI;simp)
theorem Ex.allF_ix {P:Lf->Prop} {e:Ex} (h:e.allF P) {x:Ix} (hx:x∈e.Idx):P x.Lin:=h e (by rw [wZ];simp) _ (by unfold dI;exact List.mem_cons_of_mem _ (List.mem_flatMap.2 ⟨x,hx,uG⟩))
theorem Ex.allF_at {P:Lf->Prop} {e:Ex} (h:e.allF P) {x:Ix} (hx:x∈e.Idx) {l:Lf} (hl:l∈x.At):P l:=h e (by rw [wZ];simp) _ (by unfold dI;exact List.mem_cons_of_mem _ (List.mem_flatMap.2 ⟨x,hx,by simp [hl]⟩))
theorem zSu {a x:Ex}:∀{l:List Ex},a∈l->x∈bY a->x∈bM l
 |[],h,_=>by cases h
 |b::r,h,hx=>by
  rw [bM,List.mem_append]
  rcases List.mem_cons.1 h with rfl|h
  ·exact .inl hx
  ·exact .inr (zSu h hx)
theorem Ex.allF_arg {P:Lf->Prop} {e:Ex} (h:e.allF P) {a:Ex} (ha:a∈e.Args):a.allF P:=fun x hx=>h x (by rw [wZ];exact List.mem_cons_of_mem _ (zSu ha hx))
/-! ## Counts: all but the lengths of forms -/
def rR:List Ix->Nat
 |[]=>0
 |x::r=>x.At.length+rR r
mutual
def Ex.cnt:Ex->Nat
 |.mk _ _ _ _ _ i r=>1+i.length+rR i+sU r
def sU:List Ex->Nat
 |[]=>0
 |e::r=>e.cnt+sU r
end
theorem Ex.cnt_eq (e:Ex):e.cnt=1+e.Idx.length+rR e.Idx+sU e.Args:=by cases e;rw [Ex.cnt];rfl
theorem Ex.cnt_pos (e:Ex):1<=e.cnt:=by rw [Ex.cnt_eq];omega
theorem ixCnt_mem {l:List Ix} {x:Ix} (h:x∈l):x.At.length<=rR l:=by
 induction l with
 |nil=>cases h
 |cons a r ih=>
  rw [rR]
  exact v19
theorem cntL_len (l:List Ex):l.length<=sU l:=by
 induction l with
 |nil=>simp [sU]
 |cons a r ih=>rw [sU,List.length_cons];have:=a.cnt_pos;omega
theorem cntL_mem {l:List Ex} {a:Ex} (h:a∈l):a.cnt<=sU l:=by
 induction l with
 |nil=>cases h
 |cons x r ih=>
  rw [sU]
  exact v19
theorem Ex.cparts {e:Ex} {B:Nat} (h:e.cnt<=B):e.Idx.length<=B/\e.Args.length<=B/\∀x,x∈e.Idx->x.At.length<=B:=by
 rw [Ex.cnt_eq] at h
 have:=cntL_len e.Args
 exact ⟨zC,zC,fun x hx=>by have:=ixCnt_mem hx;omega⟩
theorem Ex.arg_cnt {e a:Ex} (h:a∈e.Args):a.cnt<e.cnt:=by
 rw [Ex.cnt_eq e];have:=cntL_mem h;omega
theorem ixCnt_le (l:List Ix):rR l<=dD l:=by
 induction l with
 |nil=>simp [rR]
 |cons x r ih=>rw [rR,dD,Ix.wt];omega
theorem Ex.cnt_le (e:Ex):e.cnt<=e.wt:=by
 induction e using Ex.ind with
 |_ e ih=>
  rw [Ex.cnt_eq,Ex.wt_eq]
  have h1:=ixCnt_le e.Idx
  have h2:∀l:List Ex,(∀a,a∈l->a.cnt<=a.wt)->sU l<=dS l:=by
   intro l
   induction l with
   |nil=>intro _;simp [sU]
   |cons a r ihr=>
    intro h
    rw [sU,dS]
    have:=h a uG
    have:=ihr fun b hb=>h b (by simp [hb])
    omega
  have:=h2 e.Args ih
  omega
end Go.Br
end
section
namespace Go.Br
open Go Go.Eng Go.L41
theorem zNb {l:List Ex} (h:jC l=0):∀x,x∈l->bW x=0:=by
 induction l with
 |nil=>intro x hx;cases hx
 |cons y r ih=>
  intro x hx
  rw [jC] at h
  by_cases hy:bW y=0
  ·rw [zAk hy,cond_true] at h
   rcases List.mem_cons.1 hx with rfl|hx
   ·exact hy
   ·exact ih h x hx
  ·rw [kF hy,cond_false] at h;exact absurd h hy
theorem zEw {e:Ex} (h:dZ e=0):bW e=0:=zNb h e (by rw [wZ];simp)
theorem zIx {e a:Ex} (h:dZ e=0) (ha:a∈e.Args):dZ a=0:=by
 have hn:=zEw h
 rw [zFw,zAk hn,cond_true] at h
 obtain ⟨k,hk⟩:=List.getElem?_of_mem ha
 have:∀l:List Ex,sN l=0->a∈l->dZ a=0:=by
  intro l
  induction l with
  |nil=>intro _ h;cases h
  |cons y r ih=>
   intro h hm
   rw [zOe] at h
   by_cases hy:dZ y=0
   ·rw [zAk hy,cond_true] at h
    rcases List.mem_cons.1 hm with rfl|hm
    ·exact hy
    ·exact ih h hm
   ·rw [kF hy,cond_false] at h;exact absurd h hy
 exact this _ h ha
theorem zCs {e:Ex} (h:dQ e=0):dZ e=0:=by
 unfold dQ at h
 by_cases h1:40<lL 40 e
 ·rw [zAk h1] at h;simp at h
 ·rw [kF h1,cond_false] at h
  by_cases h2:(2000:Int)<szT e
  ·rw [zAk h2] at h;simp at h
  ·rwa [kF h2,cond_false] at h
theorem zKd {e:Ex} (h:bW e=0):gX e=true/\mS e=true/\nU e=true/\jP e=true/\lB e=true:=by
 unfold bW at h
 cases h1:gX e<;>rw [h1] at h<;>simp at h
 cases h2:mS e<;>rw [h2] at h<;>simp at h
 cases h3:nU e<;>rw [h3] at h<;>simp at h
 cases h4:jP e<;>rw [h4] at h<;>simp at h
 cases h5:lB e<;>rw [h5] at h<;>simp at h
 simp
def zL:Lf:=⟨0,[]⟩
end Go.Br
end
section
namespace Go.Br
open Go Go.Eng Go.L41
structure Cn where
 Lin:Lf
 Eq:Bool
 deriving DecidableEq
structure Ax where
 Name:ByteArray
 Size:Lf
 deriving DecidableEq
structure Pm where
 Name:ByteArray
 T:Ty
 Dims:List Lf
 deriving DecidableEq
structure Df where
 Name:ByteArray
 T:Ty
 Dims:List Ax
 Red:List Ax
 Fold:Int
 Body:Ex
 deriving DecidableEq
structure Pg where
 Sizes:List ByteArray
 Where:List Cn
 Params:List Pm
 Defs:List Df
 Outs:List ByteArray
 deriving DecidableEq
def Cn.cells (x:Cn):List C:=[cI x.Lin.K,.sl 2 (x.Lin.L.map Mono.cells),cB x.Eq]
def Ax.cells (x:Ax):List C:=[cS x.Name,cI x.Size.K,.sl 2 (x.Size.L.map Mono.cells)]
def Pm.cells (x:Pm):List C:=[cS x.Name,cI x.T.Kind,cI x.T.Bits,cI x.T.Frac,cI x.T.Round,cI x.T.Over,.sl 2 (x.Dims.map Lf.cells)]
def Df.cells (x:Df):List C:=[cS x.Name,cI x.T.Kind,cI x.T.Bits,cI x.T.Frac,cI x.T.Round,cI x.T.Over,.sl 3 (x.Dims.map Ax.cells),.sl 3 (x.Red.map Ax.cells),cI x.Fold,
 cI x.Body.Op,cS x.Body.Name,cI x.Body.Val.N,cI x.Body.Val.D,cI x.Body.Ty.Kind,cI x.Body.Ty.Bits,cI x.Body.Ty.Frac,cI x.Body.Ty.Round,cI x.Body.Ty.Over,cI x.Body.Lin.K,.sl 2 (x.Body.Lin.L.map Mono.cells),.sl 4 (x.Body.Idx.map Ix.cells),.sl 13 (x.Body.Args.map Ex.cells)]
def Pg.cells (p:Pg):List C:=[.sl 1 (p.Sizes.map fun s=>[cS s]),.sl 3 (p.Where.map Cn.cells),.sl 7 (p.Params.map Pm.cells),.sl 22 (p.Defs.map Df.cells),.sl 1 (p.Outs.map fun s=>[cS s])]
abbrev vCn (x:Cn):V:=.agg x.cells
abbrev vPm (x:Pm):V:=.agg x.cells
abbrev vDf (x:Df):V:=.agg x.cells
abbrev vPg (x:Pg):V:=.agg x.cells
def rQ (l:Lf):Prop:=l.L.length<=140737488355328
def Pm.fit (x:Pm):Prop:=x.Dims.length<=140737488355328/\∀l,l∈x.Dims->rQ l
def Df.fit (d:Df):Prop:=d.Dims.length<=140737488355328/\d.Red.length<=140737488355328/\(∀a,a∈d.Dims->rQ a.Size)/\(∀a,a∈d.Red->rQ a.Size)/\d.Body.fit
structure Pg.Fit (p:Pg):Prop where
 sizes:p.Sizes.length<=140737488355328
 wh:p.Where.length<=140737488355328
 params:p.Params.length<=140737488355328
 defs:p.Defs.length<=140737488355328
 outs:p.Outs.length<=140737488355328
 whs:∀c,c∈p.Where->rQ c.Lin
 ps:∀x,x∈p.Params->x.fit
 ds:∀d,d∈p.Defs->d.fit
def zTy:Ty:=⟨0,0,0,0,0⟩
def iTy:Ty:=⟨3,0,0,0,0⟩
/-! ## Find -/
structure Fd where
 ty:Ty
 dims:List Lf
 ok:Bool
def fZ (s:ByteArray):List Df->Fd
 |[]=>⟨zTy,[],false⟩
 |d::r=>bif decide (d.Name=s) then ⟨d.T,d.Dims.map Ax.Size,true⟩ else fZ s r
def fS (s:ByteArray) (ds:List Df):List Pm->Fd
 |[]=>fZ s ds
 |x::r=>bif decide (x.Name=s) then ⟨x.T,x.Dims,true⟩ else fS s ds r
def mW (s:ByteArray) (l:List Df):Int:=dJ (fun d=>decide (d.Name=s)) l
structure En where
 sz:List ByteArray
 pm:List Pm
 df:List Df
def Pg.en (p:Pg):En:=⟨p.Sizes,p.Params,p.Defs⟩
def En.find (n:En) (s:ByteArray):Fd:=fS s n.df n.pm
def bH (d:Df):List ByteArray:=d.Dims.map Ax.Name++d.Red.map Ax.Name
/-! ## Types of expressions -/
def knL (k:ByteArray->Bool) (l:List Mono):Bool:=l.all fun m=>k m.Name
def mD (k:ByteArray->Bool) (l:Lf):Int:=bif knL k l.L then 0 else 9
def mT (k:ByteArray->Bool) (l:List Lf):Int:=bif l.all (fun x=>knL k x.L) then 0 else 9
def fV (n:En) (k:ByteArray->Bool) (x:Ix):Int:=
 bif decide (x.From=bs []) then mD k x.Lin else
 bif !(n.find x.From).ok then 9 else
 bif !decide ((n.find x.From).ty.Kind=3) then 10 else
 bif !decide (x.At.length=(n.find x.From).dims.length) then 11 else mT k x.At
def fU (n:En) (k:ByteArray->Bool):List Ix->Int
 |[]=>0
 |x::r=>bif decide (fV n k x=0) then fU n k r else fV n k x
def lG (n:En) (k:ByteArray->Bool) (e:Ex):Ty×Int:=
 bif !(n.find e.Name).ok then (zTy,9) else
 bif !decide (e.Idx.length=(n.find e.Name).dims.length) then (zTy,11) else
 bif decide (fU n k e.Idx=0) then ((n.find e.Name).ty,0) else (zTy,fU n k e.Idx)
def jO (a b:Ty):Int:=bif decide (a=b) then 0 else 10
def bS (l:List Ty) (i:Nat):Ty:=l.getD i zTy
def ofN (n:En) (k:ByteArray->Bool) (e:Ex) (l:List Ty):Ty×Int:=
 if e.Op=1∨e.Op=12 then (e.Ty,0) else
 if e.Op=2 then (iTy,mD k e.Lin) else
 if e.Op=3 then lG n k e else
 if e.Op=8 then (bS l 0,0) else
 if e.Op=11 then (bS l 1,jO (bS l 1) (bS l 2)) else
 if e.Op=16∨e.Op=17∨e.Op=18 then (zTy,0) else
 if e.Op=13∨e.Op=14∨e.Op=15 then (zTy,jO (bS l 0) (bS l 1)) else
 (bS l 0,jO (bS l 0) (bS l 1))
def xQ (n:En) (k:ByteArray->Bool) (e:Ex) (l:List Ty):Ty×Int:=
 if e.Op=1∨e.Op=12 then (e.Ty,0) else
 if e.Op=2 then (iTy,mT k [e.Lin]) else
 if e.Op=3 then lG n k e else
 if e.Op=11 then (if bS l 1=bS l 2 then (bS l 1,0) else (zTy,10)) else
 if e.Op=8 then (bS l 0,0) else
 if 16<=e.Op then (zTy,0) else
 if bS l 0=bS l 1 then (if 13<=e.Op then (zTy,0) else (bS l 0,0)) else (zTy,10)
mutual
def bL (N:Ex->List Ty->Ty×Int):Ex->Ty×Int
 |.mk o nm v t l i arg_=>if (bE N arg_).2=0 then N (.mk o nm v t l i arg_) (bE N arg_).1 else (zTy,(bE N arg_).2)
def bE (N:Ex->List Ty->Ty×Int):List Ex->List Ty×Int
 |[]=>([],0)
 |a::r=>if (bL N a).2=0 then (if (bE N r).2=0 then ((bL N a).1::(bE N r).1,0) else ([],(bE N r).2)) else ([],(bL N a).2)
end
theorem zKe (N:Ex->List Ty->Ty×Int) (e:Ex):bL N e=if (bE N e.Args).2=0 then N e (bE N e.Args).1 else (zTy,(bE N e.Args).2):=by
 cases e;rw [bL];rfl
def knB (sz vars:List ByteArray) (s:ByteArray):Bool:=bQ vars s||bQ sz s
def pO (N:Ex->List Ty->Ty×Int) (e:Ex):Ty×Int:=
 if dQ e=0 then (if bO e=true then (zTy,10) else if (bL N e).2=0 then ((bL N e).1,0) else (zTy,(bL N e).2)) else (zTy,dQ e)
def gK (n:En) (vars:List ByteArray) (e:Ex):Ty×Int:=pO (ofN n (knB n.sz vars)) e
def xC (n:En) (vars:List ByteArray) (e:Ex):Ty×Int:=pO (xQ n (knB n.sz vars)) e
def xL (a b:Ty×Int):Prop:=a.2=b.2/\(a.2=0->a.1=b.1)
theorem forms_one (k:ByteArray->Bool) (l:Lf):mT k [l]=mD k l:=by simp [mT,mD]
theorem ofN_refN (n:En) (k:ByteArray->Bool) (e:Ex) (l:List Ty) (h1:1<=e.Op) (h2:e.Op<=18):xL (ofN n k e l) (xQ n k e l):=by
 unfold ofN xQ xL
 rw [forms_one]
 by_cases c1:e.Op=1∨e.Op=12
 ·simp [c1]
 by_cases c2:e.Op=2
 ·simp [c1,c2]
 by_cases c3:e.Op=3
 ·simp [c1,c2,c3]
 by_cases c8:e.Op=8
 ·simp [c8]
 by_cases c11:e.Op=11
 ·simp only [c11]
  by_cases h:bS l 1=bS l 2
  ·simp [h,jO]
  ·simp [h,jO]
 simp only [c1,c2,c3,c8,c11,if_false]
 by_cases c16:16<=e.Op
 ·have:e.Op=16∨e.Op=17∨e.Op=18:=by omega
  simp [this,c16]
 ·have:¬(e.Op=16∨e.Op=17∨e.Op=18):=by omega
  simp only [this,c16,if_false]
  by_cases c13:13<=e.Op
  ·have:e.Op=13∨e.Op=14∨e.Op=15:=by omega
   simp only [this,c13,if_true]
   by_cases h:bS l 0=bS l 1<;>simp [h,jO]
  ·have:¬(e.Op=13∨e.Op=14∨e.Op=15):=by omega
   simp only [this,c13,if_false]
   by_cases h:bS l 0=bS l 1<;>simp [h,jO]
theorem node_op {e:Ex} (h:bW e=0):1<=e.Op/\e.Op<=18:=by
 have:=(zKd h).1
 simp only [gX,Bool.and_eq_true,Bool.not_eq_true',Bool.or_eq_false_iff,decide_eq_false_iff_not] at this
 obtain ⟨⟨⟨⟨⟨⟨h1,h2⟩,_⟩,_⟩,_⟩,_⟩,_⟩:=this
 exact ⟨zC,zC⟩
mutual
theorem zSw (n:En) (k:ByteArray->Bool):∀e:Ex,dZ e=0->xL (bL (ofN n k) e) (bL (xQ n k) e)
 |.mk o nm v t l i arg_,h=>by
  obtain ⟨h1,h2⟩:=node_op (zEw h)
  obtain ⟨h3,h4⟩:=zSx n k arg_ fun a ha=>zIx h ha
  rw [bL,bL,←h3]
  by_cases c:(bE (ofN n k) arg_).2=0
  ·rw [if_pos c,if_pos c,←h4 c]
   exact ofN_refN n k _ _ h1 h2
  ·rw [if_neg c,if_neg c]
   exact ⟨rfl,fun _=>rfl⟩
theorem zSx (n:En) (k:ByteArray->Bool):∀l:List Ex,(∀a,a∈l->dZ a=0)->(bE (ofN n k) l).2=(bE (xQ n k) l).2/\((bE (ofN n k) l).2=0->(bE (ofN n k) l).1=(bE (xQ n k) l).1)
 |[],_=>⟨rfl,fun _=>rfl⟩
 |a::r,h=>by
  obtain ⟨h1,h2⟩:=zSw n k a (h a uG)
  obtain ⟨h3,h4⟩:=zSx n k r fun x hx=>h x (by simp [hx])
  rw [bE,bE,←h1,←h3]
  by_cases c:(bL (ofN n k) a).2=0
  ·rw [if_pos c,if_pos c]
   by_cases d:(bE (ofN n k) r).2=0
   ·rw [if_pos d,if_pos d,h2 c,h4 d];exact ⟨rfl,fun _=>rfl⟩
   ·rw [if_neg d,if_neg d];exact ⟨rfl,fun _=>rfl⟩
  ·rw [if_neg c,if_neg c];exact ⟨rfl,fun _=>rfl⟩
end
theorem typeT_R (n:En) (vars:List ByteArray) (e:Ex):gK n vars e=xC n vars e:=by
 unfold gK xC pO
 by_cases h:dQ e=0
 ·rw [if_pos h,if_pos h]
  by_cases c:bO e=true
  ·rw [if_pos c,if_pos c]
  ·rw [if_neg c,if_neg c]
   obtain ⟨h1,h2⟩:=zSw n (knB n.sz vars) e (zCs h)
   rw [←h1]
   by_cases d:(bL (ofN n (knB n.sz vars)) e).2=0
   ·rw [if_pos d,if_pos d,h2 d]
   ·rw [if_neg d,if_neg d]
 ·rw [if_neg h,if_neg h]
/-! ## Validate,the reference -/
def fR (s:ByteArray) (taken:List ByteArray):Int:=if bC s=true then (if bQ taken s=true then 8 else 0) else 7
def pK (l:Lf) (sz:List ByteArray):Int:=if bP l=true then (if knL (bQ sz) l.L=true then 0 else 9) else 1
def tR (sz:List ByteArray):List Lf->Int
 |[]=>0
 |l::r=>if pK l sz=0 then tR sz r else pK l sz
def rM (x:Pm) (sz taken:List ByteArray):Int:=
 if fR x.Name taken=0 then (if dV x.T=true then (if 6<x.Dims.length then 11 else tR sz x.Dims) else 10) else fR x.Name taken
def mZ (sz:List ByteArray):List ByteArray->List Ax->Int
 |_,[]=>0
 |taken,a::r=>if fR a.Name taken=0 then (if pK a.Size sz=0 then mZ sz (taken++[a.Name]) r else pK a.Size sz) else fR a.Name taken
def rE (d:Df):Int:=
 if d.Fold<0∨5<d.Fold then 1 else
 if (decide (d.Fold=0∨d.Fold=5) !=decide (d.Red.length=0))=true∨d.Fold=5/\d.Dims.length=0 then 11 else 0
def rK (t:Ty×Int) (d:Df):Int:=if t.2=0 then (if t.1=d.T then 0 else 10) else t.2
def mV (n:En) (d:Df) (taken:List ByteArray):Int:=
 if fR d.Name taken=0 then
  (if dV d.T=true then
   (if 6<d.Dims.length∨6<d.Red.length then 11 else
    (if mZ n.sz n.sz (d.Dims++d.Red)=0 then (if rE d=0 then rK (xC n (bH d) d.Body) d else rE d) else mZ n.sz n.sz (d.Dims++d.Red)))
   else 10)
 else fR d.Name taken
def nC:List ByteArray->List ByteArray->Int
 |_,[]=>0
 |taken,s::r=>if fR s taken=0 then nC (taken++[s]) r else fR s taken
def gF (p:Pg):Prop:=p.Sizes.length<=64/\p.Params.length<=64/\p.Defs.length<=64/\p.Outs.length<=64/\p.Where.length<=256
instance (p:Pg):Decidable (gF p):=by unfold gF;infer_instance
def pN (sz:List ByteArray):List Cn->Int
 |[]=>0
 |c::r=>if pK c.Lin sz=0 then pN sz r else pK c.Lin sz
def xF (n:En):Int->List ByteArray->List ByteArray->Int×Int
 |_,_,[]=>(0,0)
 |at_,seen,s::r=>if (n.find s).ok=true then (if bQ seen s=true then (at_,8) else xF n (at_+1) (seen++[s]) r) else (at_,9)
def rG (p:Pg):Int->List ByteArray->List Df->List Df->Int×Int
 |at_,_,_,[]=>xF p.en at_ [] p.Outs
 |at_,taken,before,d::r=>if mV ⟨p.Sizes,p.Params,before⟩ d taken=0 then rG p (at_+1) (taken++[d.Name]) (before++[d]) r else (at_,mV ⟨p.Sizes,p.Params,before⟩ d taken)
def jM (p:Pg):Int->List ByteArray->List Pm->Int×Int
 |at_,taken,[]=>rG p at_ taken [] p.Defs
 |at_,taken,x::r=>if rM x p.Sizes taken=0 then jM p (at_+1) (taken++[x.Name]) r else (at_,rM x p.Sizes taken)
def tF (p:Pg):Int×Int:=
 if gF p then
  (if nC [] p.Sizes=0 then (if pN p.Sizes p.Where=0 then jM p 2 p.Sizes p.Params else (1,pN p.Sizes p.Where)) else (0,nC [] p.Sizes))
 else (0,2)
/-! ## Validate,the program: with a table of what each name is (1 a size,2 a tensor) -/
abbrev Kn:=List (ByteArray×Int)
def gE (m:Kn) (s:ByteArray):Int:=(fD m s).getD 0
def fA (m:Kn) (s:ByteArray):Int:=if bC s=true then (if gE m s=0 then 0 else 8) else 7
def fI (m:Kn) (l:Lf):Int:=if bP l=true then (if knL (fun s=>decide (gE m s=1)) l.L=true then 0 else 9) else 1
def jL (m:Kn):List Lf->Int
 |[]=>0
 |l::r=>if fI m l=0 then jL m r else fI m l
def gZ (m:Kn) (x:Pm):Int:=
 if fA m x.Name=0 then (if dV x.T=true then (if 6<x.Dims.length then 11 else jL (dY m x.Name 2) x.Dims) else 10) else fA m x.Name
def lC (m:Kn):List ByteArray->List Ax->Int
 |_,[]=>0
 |own,a::r=>if bC a.Name=true then (if bQ own a.Name=true∨gE m a.Name=1 then 8 else (if fI m a.Size=0 then lC m (own++[a.Name]) r else fI m a.Size)) else 7
def fX (d:Df):Int:=
 if d.Fold=0 then (if 0<d.Red.length then 11 else 0) else
 if d.Fold=1∨d.Fold=2∨d.Fold=3∨d.Fold=4 then (if d.Red.length=0 then 11 else 0) else
 if d.Fold=5 then (if 0<d.Red.length∨d.Dims.length=0 then 11 else 0) else 1
def nQ (m:Kn) (n:En) (d:Df):Int:=
 if fA m d.Name=0 then
  (if dV d.T=true then
   (if 6<d.Dims.length∨6<d.Red.length then 11 else
    (if lC (dY m d.Name 2) [] (d.Dims++d.Red)=0 then (if fX d=0 then rK (gK n (bH d) d.Body) d else fX d) else lC (dY m d.Name 2) [] (d.Dims++d.Red)))
   else 10)
 else fA m d.Name
def gM:Kn->List ByteArray->Int
 |_,[]=>0
 |m,s::r=>if fA m s=0 then gM (dY m s 1) r else fA m s
def tY:Kn->List ByteArray->Kn
 |m,[]=>m
 |m,s::r=>tY (dY m s 1) r
def jD (m:Kn):List Cn->Int
 |[]=>0
 |c::r=>if fI m c.Lin=0 then jD m r else fI m c.Lin
def nK (m:Kn):Int->List ByteArray->List ByteArray->Int×Int
 |_,_,[]=>(0,0)
 |at_,seen,s::r=>if gE m s=2 then (if bQ seen s=true then (at_,8) else nK m (at_+1) (seen++[s]) r) else (at_,9)
def nM (p:Pg):Int->Kn->List Df->List Df->Int×Int
 |at_,m,_,[]=>nK m at_ [] p.Outs
 |at_,m,before,d::r=>if nQ m ⟨p.Sizes,p.Params,before⟩ d=0 then nM p (at_+1) (dY m d.Name 2) (before++[d]) r else (at_,nQ m ⟨p.Sizes,p.Params,before⟩ d)
def hY (p:Pg):Int->Kn->List Pm->Int×Int
 |at_,m,[]=>nM p at_ m [] p.Defs
 |at_,m,x::r=>if gZ m x=0 then hY p (at_+1) (dY m x.Name 2) r else (at_,gZ m x)
def bK (p:Pg):Int×Int:=
 if gF p then
  (if gM [] p.Sizes=0 then (if jD (tY [] p.Sizes) p.Where=0 then hY p 2 (tY [] p.Sizes) p.Params else (1,jD (tY [] p.Sizes) p.Where)) else (0,gM [] p.Sizes))
 else (0,2)
end Go.Br
end
section
namespace Go.Br
open Go Go.Eng Go.L41
theorem zAp (a b:List ByteArray) (s:ByteArray):bQ (a++b) s=(bQ a s||bQ b s):=by simp [bQ,List.any_append]
theorem zKg (s t:ByteArray):bQ [s] t=decide (s=t):=by simp [bQ]
theorem mget_mput' (m:Kn) (k s:ByteArray) (a:Int):fD (dY m k a) s=if k=s then some a else fD m s:=by
 induction m with
 |nil=>simp [dY,fD]
 |cons x r ih=>
  exact v32
theorem zFn (m:Kn) (k s:ByteArray) (a:Int):gE (dY m k a) s=if k=s then a else gE m s:=by
 unfold gE;rw [mget_mput'];by_cases h:k=s<;>simp [h]
structure Rel (m:Kn) (sz tn:List ByteArray):Prop where
 one:∀s,gE m s=1↔bQ sz s=true
 two:∀s,gE m s=2↔bQ tn s=true
 zero:∀s,gE m s=0↔bQ (sz++tn) s=false
theorem Rel.nil:Rel [] [] []:=⟨fun s=>by simp [gE,fD,bQ],fun s=>by simp [gE,fD,bQ],fun s=>by simp [gE,fD,bQ]⟩
theorem Rel.size {m:Kn} {sz:List ByteArray} (h:Rel m sz []) {s:ByteArray} (h0:gE m s=0):Rel (dY m s 1) (sz++[s]) []:=by
 refine ⟨fun t=>?_,fun t=>?_,fun t=>?_⟩
 ·rw [zFn,zAp,zKg]
  by_cases e:s=t
  ·simp [e]
  ·simp [e,h.one t]
 ·rw [zFn]
  by_cases e:s=t
  ·simp [e,bQ]
  ·simp [e,h.two t]
 ·rw [zFn,List.append_nil,zAp,zKg]
  by_cases e:s=t
  ·simp [e]
  ·have:=h.zero t
   rw [List.append_nil] at this
   simp [e,this]
theorem Rel.tensor {m:Kn} {sz tn:List ByteArray} (h:Rel m sz tn) {s:ByteArray} (h0:gE m s=0):Rel (dY m s 2) sz (tn++[s]):=by
 refine ⟨fun t=>?_,fun t=>?_,fun t=>?_⟩
 ·rw [zFn]
  by_cases e:s=t
  ·subst e
   have h1:¬bQ sz s=true:=fun k=>by have:=(h.one s).2 k;omega
   simp [h1]
  ·simp [e,h.one t]
 ·rw [zFn,zAp,zKg]
  by_cases e:s=t
  ·simp [e]
  ·simp [e,h.two t]
 ·rw [zFn,zAp,zAp,zKg]
  by_cases e:s=t
  ·simp [e]
  ·have:=h.zero t
   rw [zAp] at this
   simp [e,this]
theorem nameM_R {m:Kn} {sz tn:List ByteArray} (h:Rel m sz tn) (s:ByteArray):fA m s=fR s (sz++tn):=by
 unfold fA fR
 by_cases h1:bC s=true
 ·rw [if_pos h1,if_pos h1]
  by_cases h2:gE m s=0
  ·rw [if_pos h2,if_neg (by rw [(h.zero s).1 h2];simp)]
  ·rw [if_neg h2,if_pos (by cases k:bQ (sz++tn) s;exact absurd ((h.zero s).2 k) h2;rfl)]
 ·rw [if_neg h1,if_neg h1]
theorem zGr {m:Kn} {s:ByteArray} (h:fA m s=0):gE m s=0:=by
 unfold fA at h
 by_cases h1:bC s=true
 ·rw [if_pos h1] at h
  by_cases h2:gE m s=0
  ·exact h2
  ·rw [if_neg h2] at h;cases h
 ·rw [if_neg h1] at h;cases h
theorem knL_congr {k k':ByteArray->Bool} (h:∀s,k s=k' s) (l:List Mono):knL k l=knL k' l:=by
 unfold knL;congr 1;funext m;exact h m.Name
theorem sizedM_R {m:Kn} {sz tn:List ByteArray} (h:Rel m sz tn) (l:Lf):fI m l=pK l sz:=by
 unfold fI pK
 rw [knL_congr (k':=bQ sz)]
 intro s
 rw [Bool.eq_iff_iff,decide_eq_true_eq];exact h.one s
theorem sizedsM_R {m:Kn} {sz tn:List ByteArray} (h:Rel m sz tn) (l:List Lf):jL m l=tR sz l:=by
 induction l with
 |nil=>rfl
 |cons x r ih=>rw [jL,tR,sizedM_R h,ih]
theorem paramM_R {m:Kn} {sz tn:List ByteArray} (h:Rel m sz tn) (x:Pm):gZ m x=rM x sz (sz++tn):=by
 unfold gZ rM
 rw [←nameM_R h]
 by_cases h1:fA m x.Name=0
 ·rw [if_pos h1,if_pos h1,sizedsM_R (h.tensor (zGr h1))]
 ·rw [if_neg h1,if_neg h1]
theorem axesM_R {m:Kn} {sz tn:List ByteArray} (h:Rel m sz tn):∀(l:List Ax) (own:List ByteArray),lC m own l=mZ sz (sz++own) l
 |[],own=>rfl
 |a::r,own=>by
  have ih:=axesM_R h r (own++[a.Name])
  rw [lC,mZ,sizedM_R h,ih,List.append_assoc]
  unfold fR
  by_cases h1:bC a.Name=true
  ·rw [if_pos h1,if_pos h1,zAp]
   by_cases h2:bQ own a.Name=true∨gE m a.Name=1
   ·rw [if_pos h2]
    have h3:(bQ sz a.Name||bQ own a.Name)=true:=by
     rcases h2 with h2|h2
     ·simp [h2]
     ·simp [(h.one _).1 h2]
    rw [if_pos h3];rfl
   ·rw [if_neg h2]
    have h3:¬(bQ sz a.Name||bQ own a.Name)=true:=by
     intro h3
     rw [Bool.or_eq_true] at h3
     rcases h3 with h3|h3
     ·exact h2 (.inr ((h.one _).2 h3))
     ·exact h2 (.inl h3)
    rw [if_neg h3,if_pos rfl]
  ·rw [if_neg h1,if_neg h1];rfl
theorem foldM_R (d:Df):fX d=rE d:=by
 unfold fX rE
 by_cases h0:d.Fold=0
 ·by_cases hr:d.Red.length=0<;>simp [h0,hr]<;>omega
 by_cases h5:d.Fold=5
 ·by_cases hr:d.Red.length=0
  ·by_cases hd:d.Dims.length=0<;>simp [h5,hr,hd]
  ·have:0<d.Red.length:=by omega
   simp [h5,hr,this]
 by_cases h1:d.Fold=1∨d.Fold=2∨d.Fold=3∨d.Fold=4
 ·have h2:¬(d.Fold<0∨5<d.Fold):=by omega
  by_cases hr:d.Red.length=0<;>simp [h0,h5,h1,h2,hr]
 ·have h2:d.Fold<0∨5<d.Fold:=by omega
  simp [h0,h5,h1,h2]
theorem defM_R {m:Kn} {n:En} {tn:List ByteArray} (h:Rel m n.sz tn) (d:Df):nQ m n d=mV n d (n.sz++tn):=by
 unfold nQ mV
 rw [←nameM_R h]
 by_cases h1:fA m d.Name=0
 ·rw [if_pos h1,if_pos h1,axesM_R (h.tensor (zGr h1)),List.append_nil,foldM_R,typeT_R]
 ·rw [if_neg h1,if_neg h1]
theorem defM_name {m:Kn} {n:En} {d:Df} (h:nQ m n d=0):fA m d.Name=0:=by
 unfold nQ at h
 by_cases h1:fA m d.Name=0
 ·exact h1
 ·rw [if_neg h1] at h;exact absurd h h1
theorem zSp {m:Kn} {x:Pm} (h:gZ m x=0):fA m x.Name=0:=by
 unfold gZ at h
 by_cases h1:fA m x.Name=0
 ·exact h1
 ·rw [if_neg h1] at h;exact absurd h h1
theorem sizesM_R:∀(l:List ByteArray) (m:Kn) (sz:List ByteArray),Rel m sz []->gM m l=nC sz l/\(gM m l=0->Rel (tY m l) (sz++l) [])
 |[],m,sz,h=>⟨rfl,fun _=>by rw [List.append_nil];exact h⟩
 |s::r,m,sz,h=>by
  have e:=nameM_R h s
  rw [List.append_nil] at e
  rw [gM,nC,←e,tY]
  by_cases h1:fA m s=0
  ·rw [if_pos h1,if_pos h1]
   obtain ⟨h2,h3⟩:=sizesM_R r _ _ (h.size (zGr h1))
   exact ⟨h2,fun k=>by have:=h3 k;rwa [List.append_assoc] at this⟩
  ·rw [if_neg h1,if_neg h1];exact ⟨rfl,fun k=>absurd k h1⟩
theorem whereM_R {m:Kn} {sz tn:List ByteArray} (h:Rel m sz tn) (l:List Cn):jD m l=pN sz l:=by
 induction l with
 |nil=>rfl
 |cons x r ih=>rw [jD,pN,sizedM_R h,ih]
theorem findD_ok (s:ByteArray):∀l:List Df,(fZ s l).ok=bQ (l.map Df.Name) s
 |[]=>rfl
 |d::r=>by
  rw [fZ,List.map_cons,show d.Name::r.map Df.Name=[d.Name]++r.map Df.Name from rfl,zAp,zKg,←findD_ok s r]
  by_cases h:d.Name=s<;>simp [h]
theorem findP_ok (s:ByteArray) (ds:List Df):∀l:List Pm,(fS s ds l).ok=(bQ (l.map Pm.Name) s||bQ (ds.map Df.Name) s)
 |[]=>by rw [fS,findD_ok];simp [bQ]
 |x::r=>by
  rw [fS,List.map_cons,show x.Name::r.map Pm.Name=[x.Name]++r.map Pm.Name from rfl,zAp,zKg]
  by_cases h:x.Name=s
  ·simp [h]
  ·simp [h,findP_ok s ds r]
theorem outsM_R {m:Kn} {n:En} (h:Rel m n.sz (n.pm.map Pm.Name++n.df.map Df.Name)):∀(l:List ByteArray) (i:Int) (seen:List ByteArray),nK m i seen l=xF n i seen l
 |[],i,seen=>rfl
 |s::r,i,seen=>by
  rw [nK,xF,outsM_R h r]
  have e:gE m s=2↔(n.find s).ok=true:=by
   rw [h.two s,En.find,findP_ok,zAp]
  by_cases h2:gE m s=2
  ·rw [if_pos h2,if_pos (e.1 h2)]
  ·rw [if_neg h2,if_neg (fun k=>h2 (e.2 k))]
theorem defsM_R (p:Pg):∀(l:List Df) (i:Int) (m:Kn) (before:List Df),p.Defs=before++l->Rel m p.Sizes (p.Params.map Pm.Name++before.map Df.Name)->
  nM p i m before l=rG p i (p.Sizes++(p.Params.map Pm.Name++before.map Df.Name)) before l
 |[],i,m,before,hp,h=>by
  rw [List.append_nil] at hp
  subst hp
  rw [nM,rG]
  exact outsM_R (n:=p.en) h _ _ _
 |d::r,i,m,before,hp,h=>by
  rw [nM,rG,defM_R (n:=⟨p.Sizes,p.Params,before⟩) h]
  by_cases h1:mV ⟨p.Sizes,p.Params,before⟩ d (p.Sizes++(p.Params.map Pm.Name++before.map Df.Name))=0
  ·rw [if_pos h1,if_pos h1]
   have h2:nQ m ⟨p.Sizes,p.Params,before⟩ d=0:=by rw [defM_R (n:=⟨p.Sizes,p.Params,before⟩) h];exact h1
   have h3:=h.tensor (zGr (defM_name h2))
   have e:p.Params.map Pm.Name++before.map Df.Name++[d.Name]=p.Params.map Pm.Name++(before++[d]).map Df.Name:=by simp
   rw [e] at h3
   rw [defsM_R p r (i+1) _ (before++[d]) (by rw [hp];simp) h3,←e,←List.append_assoc p.Sizes]
  ·rw [if_neg h1,if_neg h1]
theorem paramsM_R (p:Pg):∀(l:List Pm) (i:Int) (m:Kn) (before:List Pm),p.Params=before++l->Rel m p.Sizes (before.map Pm.Name)->
  hY p i m l=jM p i (p.Sizes++before.map Pm.Name) l
 |[],i,m,before,hp,h=>by
  rw [List.append_nil] at hp
  subst hp
  rw [hY,jM]
  have:=defsM_R p p.Defs i m [] rfl (by simpa using h)
  simpa using this
 |x::r,i,m,before,hp,h=>by
  rw [hY,jM,paramM_R h]
  by_cases h1:rM x p.Sizes (p.Sizes++before.map Pm.Name)=0
  ·rw [if_pos h1,if_pos h1]
   have h2:gZ m x=0:=by rw [paramM_R h];exact h1
   have h3:=h.tensor (zGr (zSp h2))
   have e:before.map Pm.Name++[x.Name]=(before++[x]).map Pm.Name:=by simp
   rw [e] at h3
   rw [paramsM_R p r (i+1) _ (before++[x]) (by rw [hp];simp) h3,←e,List.append_assoc]
  ·rw [if_neg h1,if_neg h1]
theorem zGy (p:Pg):bK p=tF p:=by
 unfold bK tF
 by_cases h:gF p
 ·rw [if_pos h,if_pos h]
  obtain ⟨h1,h2⟩:=sizesM_R p.Sizes [] [] Rel.nil
  rw [←h1]
  by_cases c:gM [] p.Sizes=0
  ·rw [if_pos c,if_pos c]
   have h3:=h2 c
   rw [List.nil_append] at h3
   rw [whereM_R h3]
   have h4:=paramsM_R p p.Params 2 (tY [] p.Sizes) [] rfl (by simpa using h3)
   rw [List.map_nil,List.append_nil] at h4
   rw [h4]
  ·rw [if_neg c,if_neg c]
 ·rw [if_neg h,if_neg h]
end Go.Br
end
section
namespace Go.Br
open Go Go.Eng Go.L41
def lS:List (List Ax)->Nat
 |[]=>0
 |l::r=>l.length+lS r
theorem zLe:∀(a b:List (List Ax)),lS (a++b)=lS a+lS b
 |[],b=>by simp [lS]
 |l::r,b=>by simp [lS,zLe r b];omega
theorem totL_flat:∀(a:List (List Ax)),lS a=a.flatten.length
 |[]=>rfl
 |l::r=>by simp [lS,totL_flat r]
theorem tot_next {ls:List (List Ax)} {k:Nat} {x:List Ax} (h:ls[k]? =some x):lS (ls.take (k+1))=lS (ls.take k)+x.length:=by
 rw [yB h,zLe];simp [lS]
theorem tot_le (ls:List (List Ax)) (k:Nat):lS (ls.take k)<=lS ls:=by
 have:lS ls=lS (ls.take k)+lS (ls.drop k):=by rw [←zLe,List.take_append_drop]
 omega
theorem tot_get {ls:List (List Ax)} {k:Nat} {x:List Ax} (h:ls[k]? =some x):lS (ls.take k)+x.length<=lS ls:=by
 rw [←tot_next h];exact tot_le _ _
theorem tot_flat {ls:List (List Ax)} {k:Nat} {x:List Ax} (h:ls[k]? =some x):(ls.take k).flatten.length+x.length<=lS ls:=by
 rw [←totL_flat];exact tot_get h
structure Pg.Ok (p:Pg):Prop where
 sizes:p.Sizes.length<=4294967296
 wh:p.Where.length<=4294967296
 params:p.Params.length<=4294967296
 defs:p.Defs.length<=4294967296
 outs:p.Outs.length<=4294967296
 whs:∀c,c∈p.Where->c.Lin.L.length<=5864062014805
 ps:∀x,x∈p.Params->x.Dims.length<=4294967296/\∀l,l∈x.Dims->l.L.length<=5864062014805
 ds:∀d,d∈p.Defs->d.Dims.length<=1073741824/\d.Red.length<=1073741824/\(∀a,a∈d.Dims->a.Size.L.length<=5864062014805)/\(∀a,a∈d.Red->a.Size.L.length<=5864062014805)/\d.Body.wt<=4294967296
theorem Pg.Ok.take {p:Pg} (h:p.Ok) (k:Nat):Pg.Ok ⟨p.Sizes,p.Where,p.Params,p.Defs.take k,p.Outs⟩:=
 ⟨h.sizes,h.wh,h.params,by have:=h.defs;simp only [List.length_take];omega,h.outs,h.whs,h.ps,fun d hd=>h.ds d (List.mem_of_mem_take hd)⟩
theorem names_rows (d:Df):(d.Dims++d.Red).map (fun a=>[cS a.Name])=(bH d).map fun s=>[cS s]:=by
 simp [bH,List.map_append,List.map_map,Function.comp_def]
theorem limit_eq (p:Pg):(decide (max (max (max (p.Sizes.length:Int) p.Params.length) p.Defs.length) p.Outs.length<=64)&&decide ((p.Where.length:Int)<=256))=decide (gF p):=by
 unfold gF
 by_cases h:p.Sizes.length<=64/\p.Params.length<=64/\p.Defs.length<=64/\p.Outs.length<=64/\p.Where.length<=256
 ·rw [decide_eq_true h,Bool.and_eq_true]
  exact ⟨decide_eq_true zC,decide_eq_true zC⟩
 ·rw [decide_eq_false h,Bool.and_eq_false_iff]
  by_cases h2:p.Where.length<=256
  ·exact .inl (decide_eq_false zC)
  ·exact .inr (decide_eq_false zC)
theorem len_of_get {α:Type} {l:List α} {k:Nat} {x:α} (h:l[k]? =some x):k+1<=l.length:=(List.getElem?_eq_some_iff.1 h).1
def sY (l:List Int) (k:Nat):Int:=(l.take k).foldl max (l.headD 0)
theorem maxT_next {l:List Int} {k:Nat} {x:Int} (h:l[k]? =some x):max (sY l k) x=sY l (k+1):=by
 unfold sY;rw [yB h,List.foldl_append];rfl
theorem maxT_one {l:List Int} {x:Int} (h:l[0]? =some x):x=sY l 1:=by
 cases l with
 |nil=>simp at h
 |cons a r=>simp at h;subst h;simp [sY]
def mP (t:Ty) (l:List Int):Int:=if dV t=true then (if 6<sY l l.length then 11 else 0) else 10
theorem tyErr_no {t:Ty} (h:¬bU t=0):dV t=false:=by
 cases c:dV t
 ·rfl
 ·exact absurd (by simp [bU,c]) h
theorem tyErr_yes {t:Ty} (h:bU t=0):dV t=true:=by
 cases c:dV t
 ·simp [bU,c] at h
 ·rfl
theorem decl_one (t:Ty) (n:Nat):mP t [(n:Int)]=if dV t=true then (if 6<n then 11 else 0) else 10:=by
 unfold mP sY
 by_cases h:dV t=true
 ·simp only [if_pos h];by_cases h2:6<n
  ·rw [if_pos h2,if_pos uF]
  ·rw [if_neg h2,if_neg uF]
 ·simp only [if_neg h]
theorem decl_two (t:Ty) (n m:Nat):mP t [(n:Int),(m:Int)]=if dV t=true then (if 6<n∨6<m then 11 else 0) else 10:=by
 unfold mP sY
 by_cases h:dV t=true
 ·simp only [if_pos h];by_cases h2:6<n∨6<m
  ·rw [if_pos h2,if_pos uF]
  ·rw [if_neg h2,if_neg uF]
 ·simp only [if_neg h]
end Go.Br
end
section
namespace Go.Br
open Go Go.Eng Go.L41
abbrev vP (b:Nat):V:=.c (.lit (.pointer (some ⟨b,0,none⟩)))
def gN (m:Kn) (s:ByteArray) (k:Int):Kn:=if fA m s=0 then dY m s k else m
theorem nameM_bad {m:Kn} {s:ByteArray} (h:bC s=false):fA m s=7:=by unfold fA;rw [h];rfl
theorem nameM_dup {m:Kn} {s:ByteArray} (h:bC s=true) (h2:¬gE m s=0):fA m s=8:=by unfold fA;rw [h,if_pos rfl,if_neg h2]
theorem nameM_ok {m:Kn} {s:ByteArray} (h:bC s=true) (h2:gE m s=0):fA m s=0:=by unfold fA;rw [h,if_pos rfl,if_pos h2]
theorem nmap_bad {m:Kn} {s:ByteArray} {k n:Int} (h:fA m s=n) (hn:n≠0):m=gN m s k:=by unfold gN;rw [if_neg (by rw [h];exact hn)]
theorem zOk {m:Kn} {s:ByteArray} {k:Int} (h:fA m s=0):gN m s k=dY m s k:=by unfold gN;rw [if_pos h]
theorem zTh {l:Lf} (h:¬fM l=0):bP l=false:=by
 cases c:bP l
 ·rfl
 ·exact absurd (by simp [fM,c]) h
theorem zGt {l:Lf} (h:fM l=0):bP l=true:=by
 cases c:bP l
 ·simp [fM,c] at h
 ·rfl
theorem knF_next {f:ByteArray->Bool} {l:List Mono} {k:Nat} {x:Mono} (h:l[k]? =some x) (hp:knL f (l.take k)=true) (c:f x.Name=true):knL f (l.take (k+1))=true:=by
 unfold knL at *
 rw [yB h,List.all_append,hp]
 simp [c]
theorem knF_no {f:ByteArray->Bool} {l:List Mono} {k:Nat} {x:Mono} (h:l[k]? =some x) (c:f x.Name=false):knL f l=false:=by
 unfold knL
 rw [List.all_eq_false]
 exact ⟨x,qC h,by simp [c]⟩
theorem sized_arg {m:Kn} {l:Lf} (h:bP l=false):fI m l=1:=by unfold fI;rw [if_neg (by rw [h];simp)]
theorem sized_nf {m:Kn} {l:Lf} (h:bP l=true) (h2:knL (fun s=>decide (gE m s=1)) l.L=false):fI m l=9:=by unfold fI;rw [if_pos h,if_neg (by rw [h2];simp)]
theorem sized_ok {m:Kn} {l:Lf} (h:bP l=true) (h2:knL (fun s=>decide (gE m s=1)) l.L=true):fI m l=0:=by unfold fI;rw [if_pos h,if_pos h2]
theorem sizeds_at {m:Kn} {l:List Lf} {k:Nat} {x:Lf} (h:l[k]? =some x) (hs:fI m x=0):jL m (l.drop k)=jL m (l.drop (k+1)):=by rw [qO h,jL,if_pos hs]
theorem sizeds_no {m:Kn} {l:List Lf} {k:Nat} {x:Lf} (h:l[k]? =some x) (hs:¬fI m x=0):jL m (l.drop k)=fI m x:=by rw [qO h,jL,if_neg hs]
theorem zDv {α:Type} {l:List α} {k:Nat} (h:¬k<l.length):l.drop k=[]:=List.drop_of_length_le zC
def vT:List Ax->List (ByteArray×Bool)
 |l=>l.foldl (fun m a=>dY m a.Name true) []
theorem ownT_next {l:List Ax} {k:Nat} {x:Ax} (h:l[k]? =some x):vT (l.take (k+1))=dY (vT (l.take k)) x.Name true:=by
 unfold vT;rw [yB h,List.foldl_append];rfl
theorem mget_mputB (m:List (ByteArray×Bool)) (k s:ByteArray) (a:Bool):fD (dY m k a) s=if k=s then some a else fD m s:=by
 induction m with
 |nil=>simp [dY,fD]
 |cons x r ih=>
  exact v32
theorem own_fold (s:ByteArray):∀(l:List Ax) (m:List (ByteArray×Bool)),(fD (l.foldl (fun m a=>dY m a.Name true) m) s).getD false=(bQ (l.map Ax.Name) s||(fD m s).getD false)
 |[],m=>by simp [bQ]
 |a::r,m=>by
  rw [List.foldl_cons,own_fold s r,mget_mputB]
  by_cases h:a.Name=s
  ·simp [bQ,h]
  ·simp [bQ,h]
theorem own_get (s:ByteArray) (l:List Ax):(fD (vT l) s).getD false=bQ (l.map Ax.Name) s:=by
 unfold vT;rw [own_fold];simp [fD]
theorem axes_at {m:Kn} {l:List Ax} {own:List ByteArray} {k:Nat} {x:Ax} (h:l[k]? =some x) (h1:bC x.Name=true) (h2:¬(bQ own x.Name=true∨gE m x.Name=1)) (h3:fI m x.Size=0):lC m own (l.drop k)=lC m (own++[x.Name]) (l.drop (k+1)):=by
 rw [qO h,lC,if_pos h1,if_neg h2,if_pos h3]
theorem axes_7 {m:Kn} {l:List Ax} {own:List ByteArray} {k:Nat} {x:Ax} (h:l[k]? =some x) (h1:bC x.Name=false):lC m own (l.drop k)=7:=by
 rw [qO h,lC,if_neg (by rw [h1];simp)]
theorem axes_8 {m:Kn} {l:List Ax} {own:List ByteArray} {k:Nat} {x:Ax} (h:l[k]? =some x) (h1:bC x.Name=true) (h2:bQ own x.Name=true∨gE m x.Name=1):lC m own (l.drop k)=8:=by
 rw [qO h,lC,if_pos h1,if_pos h2]
theorem axes_s {m:Kn} {l:List Ax} {own:List ByteArray} {k:Nat} {x:Ax} (h:l[k]? =some x) (h1:bC x.Name=true) (h2:¬(bQ own x.Name=true∨gE m x.Name=1)) (h3:¬fI m x.Size=0):lC m own (l.drop k)=fI m x.Size:=by
 rw [qO h,lC,if_pos h1,if_neg h2,if_neg h3]
/-! ## Find -/
theorem find_at {s:ByteArray} {ds:List Df} {l:List Pm} {k:Nat} {x:Pm} (h:l[k]? =some x) (hx:x.Name=s):fS s ds (l.drop k)=⟨x.T,x.Dims,true⟩:=by rw [qO h,fS,decide_eq_true hx];rfl
theorem find_next {s:ByteArray} {ds:List Df} {l:List Pm} {k:Nat} {x:Pm} (h:l[k]? =some x) (hx:¬x.Name=s):fS s ds (l.drop k)=fS s ds (l.drop (k+1)):=by rw [qO h,fS,decide_eq_false hx];rfl
theorem find_def (s:ByteArray):∀l:List Df,(0<=mW s l->∃d,l[(mW s l).toNat]? =some d/\fZ s l=⟨d.T,d.Dims.map Ax.Size,true⟩)/\(mW s l<0->fZ s l=⟨zTy,[],false⟩)
 |[]=>⟨fun h=>by simp [mW,dJ] at h,fun _=>rfl⟩
 |d::r=>by
  obtain ⟨h1,h2⟩:=find_def s r
  have hge:=idxOf_ge (fun d:Df=>decide (d.Name=s)) r
  unfold mW at *
  unfold dJ fZ
  by_cases h:d.Name=s
  ·simp only [decide_eq_true h,cond_true]
   exact ⟨fun _=>⟨d,uG,rfl⟩,fun h=>by omega⟩
  ·simp only [decide_eq_false h,cond_false]
   by_cases h3:dJ (fun d:Df=>decide (d.Name=s)) r= -1
   ·simp only [decide_eq_true h3,cond_true]
    exact ⟨fun h=>by omega,fun _=>h2 zC⟩
   ·simp only [decide_eq_false h3,cond_false]
    refine ⟨fun _=>?_,fun h=>by omega⟩
    obtain ⟨x,hx,hf⟩:=h1 zC
    exact ⟨x,by rw [show (dJ (fun d:Df=>decide (d.Name=s)) r+1).toNat=(dJ (fun d:Df=>decide (d.Name=s)) r).toNat+1 by omega];simpa using hx,hf⟩
/-! ## The typer -/
def kn (m:Kn) (s:ByteArray):Bool:= !decide (gE m s=0)
theorem kn_t {m:Kn} {s:ByteArray} (h:¬gE m s=0):kn m s=true:=by unfold kn;rw [decide_eq_false h];rfl
theorem kn_f {m:Kn} {s:ByteArray} (h:gE m s=0):kn m s=false:=by unfold kn;rw [decide_eq_true h];rfl
theorem formK_ok {k:ByteArray->Bool} {l:Lf} (h:knL k l.L=true):mD k l=0:=by unfold mD;rw [h];rfl
theorem formK_no {k:ByteArray->Bool} {l:Lf} (h:knL k l.L=false):mD k l=9:=by unfold mD;rw [h];rfl
theorem formsK_no {k:ByteArray->Bool} {l:List Lf} {j:Nat} {x:Lf} (h:l[j]? =some x) (hx:¬mD k x=0):mT k l=mD k x:=by
 have h1:knL k x.L=false:=by
  cases c:knL k x.L
  ·rfl
  ·exact absurd (formK_ok c) hx
 unfold mT
 rw [show l.all (fun x=>knL k x.L)=false from List.all_eq_false.2 ⟨x,qC h,by simp [h1]⟩,formK_no h1];rfl
theorem formsK_next {k:ByteArray->Bool} {l:List Lf} {j:Nat} {x:Lf} (h:l[j]? =some x) (hp:(l.take j).all (fun x=>knL k x.L)=true) (hx:mD k x=0):(l.take (j+1)).all (fun x=>knL k x.L)=true:=by
 have h1:knL k x.L=true:=by
  cases c:knL k x.L
  ·rw [formK_no c] at hx;cases hx
  ·rfl
 rw [yB h,List.all_append,hp];simp [h1]
theorem formsK_ok {k:ByteArray->Bool} {l:List Lf} (hp:l.all (fun x=>knL k x.L)=true):mT k l=0:=by unfold mT;rw [hp];rfl
theorem indexL_next {n:En} {k:ByteArray->Bool} {l:List Ix} {j:Nat} {x:Ix} (h:l[j]? =some x) (hx:fV n k x=0):fU n k (l.drop j)=fU n k (l.drop (j+1)):=by rw [qO h,fU,decide_eq_true hx];rfl
theorem indexL_no {n:En} {k:ByteArray->Bool} {l:List Ix} {j:Nat} {x:Ix} (h:l[j]? =some x) (hx:¬fV n k x=0):fU n k (l.drop j)=fV n k x:=by rw [qO h,fU,decide_eq_false hx];rfl
def tyC (t:Ty):List C:=[cI t.Kind,cI t.Bits,cI t.Frac,cI t.Round,cI t.Over]
theorem tyC_eq (a b:Ty):dC [cI a.Kind,cI a.Bits,cI a.Frac,cI a.Round,cI a.Over] [cI b.Kind,cI b.Bits,cI b.Frac,cI b.Round,cI b.Over]=decide (a=b):=by
 obtain ⟨a1,a2,a3,a4,a5⟩:=a
 obtain ⟨b1,b2,b3,b4,b5⟩:=b
 simp only [dC,cEq,Ty.mk.injEq,Bool.and_true,Bool.decide_and]
theorem zJc (N:Ex->List Ty->Ty×Int):∀(a b:List Ex),(bE N a).2=0->bE N (a++b)=if (bE N b).2=0 then ((bE N a).1++(bE N b).1,0) else ([],(bE N b).2)
 |[],b,_=>by
  simp only [List.nil_append,bE,List.nil_append]
  cases b with
  |nil=>simp [bE]
  |cons x r=>
   simp only [bE]
   by_cases h1:(bL N x).2=0
   ·by_cases h2:(bE N r).2=0
    ·simp [h1,h2]
    ·simp [h1,h2]
   ·simp [h1]
 |x::r,b,h=>by
  rw [bE] at h
  by_cases h1:(bL N x).2=0
  ·rw [if_pos h1] at h
   by_cases h2:(bE N r).2=0
   ·rw [List.cons_append,bE,if_pos h1,zJc N r b h2]
    rw [bE,if_pos h1,if_pos h2]
    by_cases h3:(bE N b).2=0
    ·simp [h3]
    ·simp [h3]
   ·rw [if_neg h2] at h;exact absurd h h2
  ·rw [if_neg h1] at h;exact absurd h h1
theorem zCu {N:Ex->List Ty->Ty×Int} {l:List Ex} {k:Nat} {x:Ex} (h:l[k]? =some x) (hp:(bE N (l.take k)).2=0) (hx:(bL N x).2=0):bE N (l.take (k+1))=((bE N (l.take k)).1++[(bL N x).1],0):=by
 rw [yB h,zJc N _ _ hp];simp [bE,hx]
theorem nodeL_no {N:Ex->List Ty->Ty×Int} {l:List Ex} {k:Nat} {x:Ex} (h:l[k]? =some x) (hp:(bE N (l.take k)).2=0) (hx:¬(bL N x).2=0):(bE N l).2=(bL N x).2:=by
 have e:l=l.take k++(x::l.drop (k+1)):=by rw [←qO h,List.take_append_drop]
 rw [e,zJc N _ _ hp]
 simp [bE,hx]
theorem zEc (N:Ex->List Ty->Ty×Int):∀l:List Ex,(bE N l).2=0->(bE N l).1.length=l.length
 |[],_=>rfl
 |x::r,h=>by
  rw [bE] at h⊢
  by_cases h1:(bL N x).2=0
  ·rw [if_pos h1] at h⊢
   by_cases h2:(bE N r).2=0
   ·rw [if_pos h2];simp [zEc N r h2]
   ·rw [if_neg h2] at h;exact absurd h h2
  ·rw [if_neg h1] at h;exact absurd h h1
def gR (m:Kn) (l:List ByteArray) (a:Int):Kn:=l.foldl (fun m s=>dY m s a) m
theorem zLy {m:Kn} {l:List ByteArray} {a:Int} {k:Nat} {x:ByteArray} (h:l[k]? =some x):gR m (l.take (k+1)) a=dY (gR m (l.take k) a) x a:=by
 unfold gR;rw [yB h,List.foldl_append];rfl
theorem tabV_get (a:Int) (s:ByteArray):∀(l:List ByteArray) (m:Kn),gE (gR m l a) s=if bQ l s=true then a else gE m s
 |[],m=>by simp [gR,bQ]
 |x::r,m=>by
  unfold gR
  rw [List.foldl_cons]
  have:=tabV_get a s r (dY m x a)
  unfold gR at this
  rw [this,zFn]
  have hc:bQ (x::r) s=(decide (x=s)||bQ r s):=rfl
  rw [hc]
  by_cases h:x=s
  ·simp only [h,if_true,decide_true,Bool.true_or];split<;>rfl
  ·simp only [h,if_false,decide_false,Bool.false_or]
theorem kn_tab (sz vars:List ByteArray):kn (gR (gR [] sz 1) vars 3)=knB sz vars:=by
 funext s
 unfold kn knB
 rw [tabV_get,tabV_get]
 cases h1:bQ vars s<;>cases h2:bQ sz s<;>simp [gE,fD]
end Go.Br
namespace Go.Br
open Go Go.Eng Go.L41
theorem param_ok {m:Kn} {x:Pm} (c1:fA m x.Name=0) (c2:mP x.T [(x.Dims.length:Int)]=0):gZ m x=jL (gN m x.Name 2) x.Dims:=by
 unfold gZ
 rw [decl_one] at c2
 rw [if_pos c1,zOk c1]
 split at c2
 ·rename_i ht
  rw [if_pos ht]
  split at c2
  ·cases c2
  ·rename_i h6;rw [if_neg h6]
 ·cases c2
theorem param_bad {m:Kn} {x:Pm} (c1:fA m x.Name=0) (c2:¬mP x.T [(x.Dims.length:Int)]=0):gZ m x=mP x.T [(x.Dims.length:Int)]:=by
 unfold gZ
 rw [decl_one] at c2⊢
 rw [if_pos c1]
 split at c2
 ·rename_i ht
  rw [if_pos ht,if_pos ht]
  split at c2
  ·rename_i h6;rw [if_pos h6,if_pos h6]
  ·exact absurd rfl c2
 ·rename_i ht;rw [if_neg ht,if_neg ht]
theorem ax_yes {own:List (ByteArray×Bool)} {m:Kn} {s:ByteArray} {l:List ByteArray} (h:(fD own s).getD false=bQ l s) (c:((fD own s).getD false||decide (gE m s=1))=true):bQ l s=true∨gE m s=1:=by
 rw [h,Bool.or_eq_true,decide_eq_true_eq] at c
 exact c
theorem ax_no {own:List (ByteArray×Bool)} {m:Kn} {s:ByteArray} {l:List ByteArray} (h:(fD own s).getD false=bQ l s) (c:((fD own s).getD false||decide (gE m s=1))=false):¬(bQ l s=true∨gE m s=1):=by
 rw [h,Bool.or_eq_false_iff,decide_eq_false_iff_not] at c
 rintro (k|k)
 ·rw [c.1] at k;cases k
 ·exact c.2 k
end Go.Br
end
section
namespace Go.Br
open Go Go.Eng Go.L41
theorem nodeT_no {N:Ex->List Ty->Ty×Int} {e x:Ex} {k:Nat} (h:e.Args[k]? =some x) (hp:(bE N (e.Args.take k)).2=0) (hx:¬(bL N x).2=0):bL N e=(zTy,(bL N x).2):=by
 have h1:=nodeL_no h hp hx
 rw [zKe N e,h1,if_neg hx]
theorem nodeT_ok {N:Ex->List Ty->Ty×Int} {e:Ex} {k:Nat} (h:e.Args.take k=e.Args) (hp:(bE N (e.Args.take k)).2=0):bL N e=N e (bE N (e.Args.take k)).1:=by
 rw [h] at hp⊢
 rw [zKe N e,if_pos hp]
theorem readK_9 {n:En} {k:ByteArray->Bool} {e:Ex} (h:(n.find e.Name).ok=false):lG n k e=(zTy,9):=by unfold lG;rw [h];rfl
theorem readK_11 {n:En} {k:ByteArray->Bool} {e:Ex} (h:(n.find e.Name).ok=true) (h2:¬e.Idx.length=(n.find e.Name).dims.length):lG n k e=(zTy,11):=by unfold lG;rw [h,decide_eq_false h2];rfl
theorem readK_x {n:En} {k:ByteArray->Bool} {e:Ex} (h:(n.find e.Name).ok=true) (h2:e.Idx.length=(n.find e.Name).dims.length) (h3:¬fU n k e.Idx=0):lG n k e=(zTy,fU n k e.Idx):=by unfold lG;rw [h,decide_eq_true h2,decide_eq_false h3];rfl
theorem readK_0 {n:En} {k:ByteArray->Bool} {e:Ex} (h:(n.find e.Name).ok=true) (h2:e.Idx.length=(n.find e.Name).dims.length) (h3:fU n k e.Idx=0):lG n k e=((n.find e.Name).ty,0):=by unfold lG;rw [h,decide_eq_true h2,decide_eq_true h3];rfl
theorem unlike_0 {a b:Ty} (h:a=b):jO a b=0:=by unfold jO;rw [decide_eq_true h];rfl
theorem unlike_10 {a b:Ty} (h:¬a=b):jO a b=10:=by unfold jO;rw [decide_eq_false h];rfl
theorem zEp {a b:Ty} (h:(!dC [cI a.Kind,cI a.Bits,cI a.Frac,cI a.Round,cI a.Over] [cI b.Kind,cI b.Bits,cI b.Frac,cI b.Round,cI b.Over])=true):¬a=b:=by
 rw [tyC_eq] at h;simpa using h
theorem zEq {a b:Ty} (h:(!dC [cI a.Kind,cI a.Bits,cI a.Frac,cI a.Round,cI a.Over] [cI b.Kind,cI b.Bits,cI b.Frac,cI b.Round,cI b.Over])=false):a=b:=by
 rw [tyC_eq] at h;simpa using h
theorem zHa {l:List Ty} {i:Nat} (h:i<l.length):(l.map tyC)[i]? =some (tyC (bS l i)):=by
 rw [List.getElem?_map,List.getElem?_eq_getElem h]
 simp [bS,List.getD,List.getElem?_eq_getElem h]
theorem zOi {n:En} {k:ByteArray->Bool} {e:Ex} {l:List Ty} (h:e.Op=1∨e.Op=12):ofN n k e l=(e.Ty,0):=by unfold ofN;rw [if_pos h]
theorem zOh {n:En} {k:ByteArray->Bool} {e:Ex} {l:List Ty} (h:e.Op=2):ofN n k e l=(iTy,mD k e.Lin):=by unfold ofN;rw [if_neg zC,if_pos h]
theorem zMg {n:En} {k:ByteArray->Bool} {e:Ex} {l:List Ty} (h:e.Op=3):ofN n k e l=lG n k e:=by unfold ofN;rw [if_neg zC,if_neg zC,if_pos h]
theorem zOg {n:En} {k:ByteArray->Bool} {e:Ex} {l:List Ty} (h:e.Op=8):ofN n k e l=(bS l 0,0):=by unfold ofN;rw [if_neg zC,if_neg zC,if_neg zC,if_pos h]
theorem zGq {n:En} {k:ByteArray->Bool} {e:Ex} {l:List Ty} (h:e.Op=11):ofN n k e l=(bS l 1,jO (bS l 1) (bS l 2)):=by unfold ofN;rw [if_neg zC,if_neg zC,if_neg zC,if_neg zC,if_pos h]
theorem zGo {n:En} {k:ByteArray->Bool} {e:Ex} {l:List Ty} (h:e.Op=16∨e.Op=17∨e.Op=18):ofN n k e l=(zTy,0):=by unfold ofN;rw [if_neg zC,if_neg zC,if_neg zC,if_neg zC,if_neg zC,if_pos h]
theorem zGp {n:En} {k:ByteArray->Bool} {e:Ex} {l:List Ty} (h:e.Op=13∨e.Op=14∨e.Op=15):ofN n k e l=(zTy,jO (bS l 0) (bS l 1)):=by unfold ofN;rw [if_neg zC,if_neg zC,if_neg zC,if_neg zC,if_neg zC,if_neg zC,if_pos h]
theorem zOf {n:En} {k:ByteArray->Bool} {e:Ex} {l:List Ty} (h:¬(e.Op=1∨e.Op=12∨e.Op=2∨e.Op=3∨e.Op=8∨e.Op=11∨e.Op=16∨e.Op=17∨e.Op=18∨e.Op=13∨e.Op=14∨e.Op=15)):ofN n k e l=(bS l 0,jO (bS l 0) (bS l 1)):=by unfold ofN;rw [if_neg zC,if_neg zC,if_neg zC,if_neg zC,if_neg zC,if_neg zC,if_neg zC]
theorem zMc {e:Ex} (h:dZ e=0):(e.Args.length:Int)=bN e.Op:=by
 have h1:=(zKd (zEw h)).2.2.1
 unfold nU at h1
 simp only [Bool.and_eq_true,Bool.not_eq_true',Bool.or_eq_false_iff,Bool.not_eq_false',decide_eq_true_eq] at h1
 exact h1.1.1
theorem args_len {e:Ex} (h:dZ e=0) (ho:¬(e.Op=1∨e.Op=2∨e.Op=3)):1<=e.Args.length:=by
 have:=zMc h;unfold bN at this;rw [if_neg ho] at this;split at this
 ·omega
 ·split at this<;>omega
theorem zCk {e:Ex} (h:dZ e=0) (ho:¬(e.Op=1∨e.Op=2∨e.Op=3∨e.Op=8∨e.Op=12∨e.Op=18)):2<=e.Args.length:=by
 have:=zMc h;unfold bN at this;rw [if_neg zC,if_neg zC] at this;split at this<;>omega
theorem args_len3 {e:Ex} (h:dZ e=0) (ho:e.Op=11):3<=e.Args.length:=by
 have:=zMc h;unfold bN at this;rw [if_neg zC,if_neg zC,if_pos ho] at this;omega
theorem typeT_of {n:En} {vars:List ByteArray} {e:Ex} {k:ByteArray->Bool} (hk:k=knB n.sz vars) (h1:dQ e=0) (h2:bO e=false):gK n vars e=if (bL (ofN n k) e).2=0 then ((bL (ofN n k) e).1,0) else (zTy,(bL (ofN n k) e).2):=by
 subst hk;unfold gK pO;rw [if_pos h1,if_neg (by rw [h2];simp)]
theorem typeT_bad {n:En} {vars:List ByteArray} {e:Ex} (h1:¬dQ e=0):gK n vars e=(zTy,dQ e):=by unfold gK pO;rw [if_neg h1]
theorem typeT_cond {n:En} {vars:List ByteArray} {e:Ex} (h1:dQ e=0) (h2:bO e=true):gK n vars e=(zTy,10):=by unfold gK pO;rw [if_pos h1,if_pos h2]
end Go.Br
end
section
namespace Go.Br
open Go Go.Eng Go.L41
/-! ## The program's Validate -/
theorem tabS_V:∀(l:List ByteArray) (m:Kn),tY m l=gR m l 1
 |[],m=>rfl
 |s::r,m=>tabS_V r _
theorem sizesM_next {m:Kn} {l:List ByteArray} {k:Nat} {x:ByteArray} (h:l[k]? =some x) (hx:fA m x=0):gM m (l.drop k)=gM (dY m x 1) (l.drop (k+1)):=by rw [qO h,gM,if_pos hx]
theorem sizesM_no {m:Kn} {l:List ByteArray} {k:Nat} {x:ByteArray} (h:l[k]? =some x) (hx:¬fA m x=0):gM m (l.drop k)=fA m x:=by rw [qO h,gM,if_neg hx]
theorem whereM_next {m:Kn} {l:List Cn} {k:Nat} {x:Cn} (h:l[k]? =some x) (hx:fI m x.Lin=0):jD m (l.drop k)=jD m (l.drop (k+1)):=by rw [qO h,jD,if_pos hx]
theorem whereM_no {m:Kn} {l:List Cn} {k:Nat} {x:Cn} (h:l[k]? =some x) (hx:¬fI m x.Lin=0):jD m (l.drop k)=fI m x.Lin:=by rw [qO h,jD,if_neg hx]
theorem paramsM_next {p:Pg} {i:Int} {m:Kn} {l:List Pm} {k:Nat} {x:Pm} (h:l[k]? =some x) (hx:gZ m x=0):hY p i m (l.drop k)=hY p (i+1) (dY m x.Name 2) (l.drop (k+1)):=by rw [qO h,hY,if_pos hx]
theorem paramsM_no {p:Pg} {i:Int} {m:Kn} {l:List Pm} {k:Nat} {x:Pm} (h:l[k]? =some x) (hx:¬gZ m x=0):hY p i m (l.drop k)=(i,gZ m x):=by rw [qO h,hY,if_neg hx]
theorem defsM_next {p:Pg} {i:Int} {m:Kn} {l:List Df} {k:Nat} {x:Df} (h:l[k]? =some x) (hx:nQ m ⟨p.Sizes,p.Params,l.take k⟩ x=0):nM p i m (l.take k) (l.drop k)=nM p (i+1) (dY m x.Name 2) (l.take (k+1)) (l.drop (k+1)):=by rw [qO h,nM,if_pos hx,yB h]
theorem defsM_no {p:Pg} {i:Int} {m:Kn} {l:List Df} {k:Nat} {x:Df} (h:l[k]? =some x) (hx:¬nQ m ⟨p.Sizes,p.Params,l.take k⟩ x=0):nM p i m (l.take k) (l.drop k)=(i,nQ m ⟨p.Sizes,p.Params,l.take k⟩ x):=by rw [qO h,nM,if_neg hx]
theorem outsM_next {m:Kn} {i:Int} {l:List ByteArray} {k:Nat} {x:ByteArray} (h:l[k]? =some x) (h1:gE m x=2) (h2:bQ (l.take k) x=false):nK m i (l.take k) (l.drop k)=nK m (i+1) (l.take (k+1)) (l.drop (k+1)):=by rw [qO h,nK,if_pos h1,if_neg (by rw [h2];simp),yB h]
theorem outsM_8 {m:Kn} {i:Int} {l:List ByteArray} {k:Nat} {x:ByteArray} (h:l[k]? =some x) (h1:gE m x=2) (h2:bQ (l.take k) x=true):nK m i (l.take k) (l.drop k)=(i,8):=by rw [qO h,nK,if_pos h1,if_pos h2]
theorem outsM_9 {m:Kn} {i:Int} {l:List ByteArray} {k:Nat} {x:ByteArray} (h:l[k]? =some x) (h1:¬gE m x=2):nK m i (l.take k) (l.drop k)=(i,9):=by rw [qO h,nK,if_neg h1]
def rU (m:Kn) (l:List Pm):Kn:=l.foldl (fun m x=>dY m x.Name 2) m
theorem tabP_next {m:Kn} {l:List Pm} {k:Nat} {x:Pm} (h:l[k]? =some x):rU m (l.take (k+1))=dY (rU m (l.take k)) x.Name 2:=by
 unfold rU;rw [yB h,List.foldl_append];rfl
def tZ (m:Kn) (l:List Df):Kn:=l.foldl (fun m x=>dY m x.Name 2) m
theorem tabD_next {m:Kn} {l:List Df} {k:Nat} {x:Df} (h:l[k]? =some x):tZ m (l.take (k+1))=dY (tZ m (l.take k)) x.Name 2:=by
 unfold tZ;rw [yB h,List.foldl_append];rfl
theorem param_map {m:Kn} {x:Pm} {k:Int} (h:gZ m x=0):gN m x.Name k=dY m x.Name k:=zOk (zSp h)
theorem def_map {m:Kn} {n:En} {x:Df} {k:Int} (h:nQ m n x=0):gN m x.Name k=dY m x.Name k:=zOk (defM_name h)
theorem validM_2 {p:Pg} (h:¬gF p):bK p=(0,2):=by unfold bK;rw [if_neg h]
theorem validM_s {p:Pg} (h:gF p) (h2:¬gM [] p.Sizes=0):bK p=(0,gM [] p.Sizes):=by unfold bK;rw [if_pos h,if_neg h2]
theorem validM_w {p:Pg} (h:gF p) (h2:gM [] p.Sizes=0) (h3:¬jD (gR [] p.Sizes 1) p.Where=0):bK p=(1,jD (gR [] p.Sizes 1) p.Where):=by
 unfold bK;rw [←tabS_V] at h3⊢;rw [if_pos h,if_pos h2,if_neg h3]
theorem validM_p {p:Pg} (h:gF p) (h2:gM [] p.Sizes=0) (h3:jD (gR [] p.Sizes 1) p.Where=0):bK p=hY p 2 (gR [] p.Sizes 1) p.Params:=by
 unfold bK;rw [←tabS_V] at h3⊢;rw [if_pos h,if_pos h2,if_pos h3]
/-! ## A definition -/
theorem def_1 {m:Kn} {n:En} {d:Df} (h:¬fA m d.Name=0):nQ m n d=fA m d.Name:=by unfold nQ;rw [if_neg h]
theorem def_2 {m:Kn} {n:En} {d:Df} (h:fA m d.Name=0) (h2:¬mP d.T [(d.Dims.length:Int),(d.Red.length:Int)]=0):nQ m n d=mP d.T [(d.Dims.length:Int),(d.Red.length:Int)]:=by
 unfold nQ
 rw [decl_two] at h2⊢
 rw [if_pos h]
 split at h2
 ·rename_i ht
  rw [if_pos ht,if_pos ht]
  split at h2
  ·rename_i h6;rw [if_pos h6,if_pos h6]
  ·exact absurd rfl h2
 ·rename_i ht;rw [if_neg ht,if_neg ht]
theorem def_ok {m:Kn} {n:En} {d:Df} (h:fA m d.Name=0) (h2:mP d.T [(d.Dims.length:Int),(d.Red.length:Int)]=0):nQ m n d=(if lC (gN m d.Name 2) [] (d.Dims++d.Red)=0 then (if fX d=0 then rK (gK n (bH d) d.Body) d else fX d) else lC (gN m d.Name 2) [] (d.Dims++d.Red)):=by
 unfold nQ
 rw [decl_two] at h2
 rw [if_pos h,zOk h]
 split at h2
 ·rename_i ht
  rw [if_pos ht]
  split at h2
  ·cases h2
  ·rename_i h6;rw [if_neg h6]
 ·cases h2
/-! ## The reference's Validate -/
theorem defR_1 {n:En} {d:Df} {t:List ByteArray} (h:¬fR d.Name t=0):mV n d t=fR d.Name t:=by unfold mV;rw [if_neg h]
theorem defR_10 {n:En} {d:Df} {t:List ByteArray} (h:fR d.Name t=0) (h2:dV d.T=false):mV n d t=10:=by unfold mV;rw [if_pos h,if_neg (by rw [h2];simp)]
theorem defR_11 {n:En} {d:Df} {t:List ByteArray} (h:fR d.Name t=0) (h2:dV d.T=true) (h3:6<d.Dims.length∨6<d.Red.length):mV n d t=11:=by unfold mV;rw [if_pos h,if_pos h2,if_pos h3]
theorem defR_ok {n:En} {d:Df} {t:List ByteArray} (h:fR d.Name t=0) (h2:dV d.T=true) (h3:¬(6<d.Dims.length∨6<d.Red.length)):mV n d t=(if mZ n.sz n.sz (d.Dims++d.Red)=0 then (if rE d=0 then rK (xC n (bH d) d.Body) d else rE d) else mZ n.sz n.sz (d.Dims++d.Red)):=by unfold mV;rw [if_pos h,if_pos h2,if_neg h3]
structure Pg.Short (p:Pg):Prop where
 sizes:p.Sizes.length<=12
 wh:p.Where.length<=12
 params:p.Params.length<=12
 defs:p.Defs.length<=12
 outs:p.Outs.length<=12
 whs:∀c,c∈p.Where->c.Lin.L.length<=20
 ps:∀x,x∈p.Params->x.Dims.length<=12/\∀l,l∈x.Dims->l.L.length<=20
 ds:∀d,d∈p.Defs->d.Dims.length<=12/\d.Red.length<=12/\(∀a,a∈d.Dims->a.Size.L.length<=20)/\(∀a,a∈d.Red->a.Size.L.length<=20)/\d.Body.wt<=300
theorem Pg.Short.ok {p:Pg} (h:p.Short):p.Ok:=
 ⟨by have:=h.sizes;omega,by have:=h.wh;omega,by have:=h.params;omega,by have:=h.defs;omega,by have:=h.outs;omega,fun c hc=>by have:=h.whs c hc;omega,
  fun x hx=>by obtain ⟨h1,h2⟩:=h.ps x hx;exact ⟨zC,fun l hl=>by have:=h2 l hl;omega⟩,
  fun d hd=>by obtain ⟨h1,h2,h3,h4,h5⟩:=h.ds d hd;exact ⟨zC,zC,fun a ha=>by have:=h3 a ha;omega,fun a ha=>by have:=h4 a ha;omega,zC⟩⟩
end Go.Br
end
section
namespace Go.Br
open Go Go.Eng Go.L41
end Go.Br
end
section
namespace Go.Br
open Go Go.Eng Go.Proofs Go.L41
def jI (a b:Int):Int:=if a<b then-1 else if b<a then 1 else 0
def rZ (a b:ByteArray):Int:=Lib.compareBytes a.data.toList b.data.toList
def orI:List Int->Int
 |[]=>0
 |x::r=>if x=0 then orI r else x
def jK {α:Type} (f:α->α->Int):List α->List α->Int
 |[],[]=>0
 |[],_::_=> -1
 |_::_,[]=>1
 |x::xs,y::ys=>if f x y=0 then jK f xs ys else f x y
def lI {α:Type} (f:α->α->Int) (a b:List α):Int:=if jI a.length b.length=0 then jK f a b else jI a.length b.length
def tB (x y:Mono):Int:=if x.Name=y.Name then jI x.By y.By else rZ x.Name y.Name
def mX (a b:Lf):Int:=if jK tB a.L b.L=0 then jI a.K b.K else jK tB a.L b.L
def mY (a b:Ix):Int:=if rZ a.From b.From=0 then (if mX a.Lin b.Lin=0 then lI mX a.At b.At else mX a.Lin b.Lin) else rZ a.From b.From
def vJ (a b:Ty):Int:=orI [jI a.Kind b.Kind,jI a.Bits b.Bits,jI a.Frac b.Frac,jI a.Round b.Round,jI a.Over b.Over]
def pL (a b:Ex):Int:=orI [jI a.Op b.Op,rZ a.Name b.Name,jI a.Val.N b.Val.N,jI a.Val.D b.Val.D,vJ a.Ty b.Ty,mX a.Lin b.Lin]
mutual
def sA:Ex->Ex->Int
 |.mk o n v t l i r,b=>if pL (.mk o n v t l i r) b=0 then (if lI mY i b.Idx=0 then (if jI r.length b.Args.length=0 then xK r b.Args else jI r.length b.Args.length) else lI mY i b.Idx) else pL (.mk o n v t l i r) b
def xK:List Ex->List Ex->Int
 |[],[]=>0
 |[],_::_=> -1
 |_::_,[]=>1
 |x::xs,y::ys=>if sA x y=0 then xK xs ys else sA x y
end
theorem cmpEs_L:∀a b:List Ex,xK a b=jK sA a b
 |[],[]=>rfl
 |[],_::_=>rfl
 |_::_,[]=>rfl
 |x::xs,y::ys=>by rw [xK,jK,cmpEs_L xs ys]
theorem cmpE_eq (a b:Ex):sA a b=if pL a b=0 then (if lI mY a.Idx b.Idx=0 then lI sA a.Args b.Args else lI mY a.Idx b.Idx) else pL a b:=by
 cases a with
 |mk o n v t l i r=>rw [sA,cmpEs_L];rfl
/-! ## Alike is equal -/
theorem zJu (a b:Int):jI a b=0↔a=b:=by
 unfold jI
 split
 ·constructor
  ·intro h;cases h
  ·intro h;omega
 ·split
  ·constructor
   ·intro h;cases h
   ·intro h;omega
  ·constructor<;>intro h<;>first|rfl|omega
theorem bytes_zero:∀a b:List UInt8,Lib.compareBytes a b=0↔a=b
 |[],[]=>by simp [Lib.compareBytes]
 |[],_::_=>by simp [Lib.compareBytes]
 |_::_,[]=>by simp [Lib.compareBytes]
 |x::xs,y::ys=>by
  rw [Lib.compareBytes]
  by_cases h1:x<y
  ·rw [if_pos h1]
   constructor
   ·intro h;cases h
   ·intro h;injection h with h2 h3;subst h2;exact absurd h1 (UInt8.lt_irrefl x)
  ·rw [if_neg h1]
   by_cases h2:y<x
   ·rw [if_pos h2]
    constructor
    ·intro h;cases h
    ·intro h;injection h with h3 h4;subst h3;exact absurd h2 (UInt8.lt_irrefl x)
   ·rw [if_neg h2,bytes_zero xs ys]
    have e:x=y:=by
     have h3:=UInt8.not_lt.1 h1
     have h4:=UInt8.not_lt.1 h2
     exact UInt8.le_antisymm h4 h3
    simp [e]
theorem zNh (a b:ByteArray):rZ a b=0↔a=b:=by
 unfold rZ
 rw [bytes_zero]
 constructor
 ·intro h;cases a;cases b;congr 1;exact Array.toList_inj.1 h
 ·rintro rfl;rfl
theorem orI_zero:∀l:List Int,orI l=0↔∀x,x∈l->x=0
 |[]=>by simp [orI]
 |x::r=>by
  rw [orI]
  by_cases h:x=0
  ·rw [if_pos h,orI_zero r];simp [h]
  ·rw [if_neg h];constructor
   ·intro k;exact absurd k h
   ·intro k;exact k x uG
theorem zUe {α:Type} {f:α->α->Int}:∀(a b:List α),(∀x,x∈a->∀y,f x y=0↔x=y)->(jK f a b=0↔a=b)
 |[],[],_=>by simp [jK]
 |[],_::_,_=>by simp [jK]
 |_::_,[],_=>by simp [jK]
 |x::xs,y::ys,h=>by
  rw [jK]
  have h1:=h x uG y
  by_cases c:f x y=0
  ·rw [if_pos c,zUe xs ys fun z hz=>h z (by simp [hz])];simp [h1.1 c]
  ·rw [if_neg c]
   constructor
   ·intro k;exact absurd k c
   ·intro k;injection k with k1 k2;exact h1.2 k1
theorem zPg {α:Type} {f:α->α->Int} (a b:List α) (h:∀x,x∈a->∀y,f x y=0↔x=y):lI f a b=0↔a=b:=by
 unfold lI
 by_cases c:jI (a.length:Int) b.length=0
 ·rw [if_pos c];exact zUe a b h
 ·rw [if_neg c]
  constructor
  ·intro k;exact absurd k c
  ·rintro rfl;exact absurd ((zJu _ _).2 rfl) c
theorem cmpM_zero (x y:Mono):tB x y=0↔x=y:=by
 obtain ⟨n,b⟩:=x
 obtain ⟨n',b'⟩:=y
 unfold tB
 by_cases c:n=n'
 ·simp only [c,if_true,zJu,Mono.mk.injEq,true_and]
 ·simp only [c,if_false,zNh,Mono.mk.injEq,false_and]
theorem zKm (a b:Lf):mX a b=0↔a=b:=by
 have h:=zUe (f:=tB) a.L b.L fun x _ y=>cmpM_zero x y
 have e:a=b↔a.L=b.L/\a.K=b.K:=by
  cases a;cases b;simp only [Lf.mk.injEq];exact ⟨fun k=>⟨k.2,k.1⟩,fun k=>⟨k.2,k.1⟩⟩
 unfold mX
 rw [e]
 by_cases c:jK tB a.L b.L=0
 ·rw [if_pos c,zJu];exact ⟨fun k=>⟨h.1 c,k⟩,fun k=>k.2⟩
 ·rw [if_neg c];exact ⟨fun k=>absurd k c,fun k=>absurd (h.2 k.1) c⟩
theorem cmpIx_zero (a b:Ix):mY a b=0↔a=b:=by
 have h:=zPg (f:=mX) a.At b.At fun x _ y=>zKm x y
 have e:a=b↔a.From=b.From/\a.Lin=b.Lin/\a.At=b.At:=by
  cases a;cases b;simp only [Ix.mk.injEq];exact ⟨fun k=>⟨k.2.1,k.1,k.2.2⟩,fun k=>⟨k.2.1,k.1,k.2.2⟩⟩
 unfold mY
 rw [e]
 by_cases c:rZ a.From b.From=0
 ·by_cases d:mX a.Lin b.Lin=0
  ·rw [if_pos c,if_pos d,h];exact ⟨fun k=>⟨(zNh _ _).1 c,(zKm _ _).1 d,k⟩,fun k=>k.2.2⟩
  ·rw [if_pos c,if_neg d];exact ⟨fun k=>absurd k d,fun k=>absurd ((zKm _ _).2 k.2.1) d⟩
 ·rw [if_neg c];exact ⟨fun k=>absurd k c,fun k=>absurd ((zNh _ _).2 k.1) c⟩
theorem cmpTy_zero (a b:Ty):vJ a b=0↔a=b:=by
 obtain ⟨a1,a2,a3,a4,a5⟩:=a
 obtain ⟨b1,b2,b3,b4,b5⟩:=b
 unfold vJ
 rw [orI_zero]
 simp only [List.mem_cons,List.not_mem_nil,or_false,forall_eq_or_imp,forall_eq,zJu,Ty.mk.injEq]
theorem cmpHd_zero (a b:Ex):pL a b=0↔a.Op=b.Op/\a.Name=b.Name/\a.Val=b.Val/\a.Ty=b.Ty/\a.Lin=b.Lin:=by
 unfold pL
 rw [orI_zero]
 simp only [List.mem_cons,List.not_mem_nil,or_false,forall_eq_or_imp,forall_eq,zJu,zNh,cmpTy_zero,zKm]
 cases hv:a.Val
 cases hw:b.Val
 simp only [Vl.mk.injEq]
 constructor
 ·rintro ⟨h1,h2,h3,h4,h5⟩;exact ⟨h1,h2,⟨h3,h4⟩,h5⟩
 ·rintro ⟨h1,h2,⟨h3,h4⟩,h5⟩;exact ⟨h1,h2,h3,h4,h5⟩
theorem cmpE_zero (a:Ex):∀b:Ex,sA a b=0↔a=b:=by
 induction a using Ex.ind with
 |_ a ih=>
  intro b
  rw [cmpE_eq,Ex.eq_iff]
  have h1:=cmpHd_zero a b
  have h2:=zPg (f:=mY) a.Idx b.Idx fun x _ y=>cmpIx_zero x y
  have h3:=zPg (f:=sA) a.Args b.Args ih
  by_cases c:pL a b=0
  ·by_cases d:lI mY a.Idx b.Idx=0
   ·rw [if_pos c,if_pos d,h3]
    obtain ⟨k1,k2,k3,k4,k5⟩:=h1.1 c
    have k6:=h2.1 d
    exact ⟨fun k=>⟨k1,k2,k3,k4,k5,k6,k⟩,fun k=>k.2.2.2.2.2.2⟩
   ·rw [if_pos c,if_neg d]
    exact ⟨fun k=>absurd k d,fun k=>absurd (h2.2 k.2.2.2.2.2.1) d⟩
  ·rw [if_neg c]
   exact ⟨fun k=>absurd k c,fun k=>absurd (h1.2 ⟨k.1,k.2.1,k.2.2.1,k.2.2.2.1,k.2.2.2.2.1⟩) c⟩
/-! ## Steps of the walks -/
section steps
variable {α:Type} {f:α->α->Int} {a b:List α} {k:Nat} {x y:α}
theorem zRh (h:a[k]? =some x) (hb:¬k<b.length):jK f (a.drop k) (b.drop k)=1:=by rw [qO h,kJ hb];rfl
theorem cmpL_ne (h:a[k]? =some x) (hy:b[k]? =some y) (c:¬f x y=0):jK f (a.drop k) (b.drop k)=f x y:=by rw [qO h,qO hy,jK,if_neg c]
theorem zNi (h:a[k]? =some x) (hy:b[k]? =some y) (c:f x y=0):jK f (a.drop k) (b.drop k)=jK f (a.drop (k+1)) (b.drop (k+1)):=by rw [qO h,qO hy,jK,if_pos c]
theorem zNj (h:¬k<a.length) (hb:k<b.length):jK f (a.drop k) (b.drop k)= -1:=by
 rw [kJ h]
 cases hd:b.drop k with
 |nil=>have:=congrArg List.length hd;simp at this;omega
 |cons _ _=>rfl
theorem zRi (h:¬k<a.length) (hb:¬k<b.length):jK f (a.drop k) (b.drop k)=0:=by rw [kJ h,kJ hb];rfl
end steps
theorem cmpI_lt {a b:Int} (h:a<b):jI a b= -1:=if_pos h
theorem cmpI_gt {a b:Int} (h:b<a):jI a b=1:=by unfold jI;rw [if_neg zC,if_pos h]
theorem cmpI_eq {a b:Int} (h:¬a<b) (h2:¬b<a):jI a b=0:=by unfold jI;rw [if_neg h,if_neg h2]
theorem orI_at {l:List Int} {k:Nat} {x:Int} (h:l[k]? =some x) (hx:¬x=0):orI (l.drop k)=x:=by rw [qO h,orI,if_neg hx]
theorem orI_next {l:List Int} {k:Nat} {x:Int} (h:l[k]? =some x) (hx:x=0):orI (l.drop k)=orI (l.drop (k+1)):=by rw [qO h,orI,if_pos hx]
theorem strings_Compare (a b:ByteArray):Pur cfg 135 [vS a,vS b] (vI (rZ a b)):=by
 intro w I vs hH ha
 match vs,ha with
 |[v,u],ha=>
  obtain ⟨h1,h2,_⟩:=ha
  have e1:v=.string a:=by cases (h1:CRep w I (cS a) v) with|lit _ _=>rfl
  have e2:u=.string b:=by cases (h2:CRep w I (cS b) u) with|lit _ _=>rfl
  subst e1 e2
  refine (Tryz.strings_Compare a b w).mono ?_
  rintro e w' ⟨rfl,rfl⟩
  exact ⟨_,_,[],I,rfl,rfl,CRep.lit _ rfl,hH,Ext.refl _ _ _⟩
end Go.Br
end
section
namespace Go.Br
open Go Go.Eng Go.L41
theorem linsWt_le {l:List Lf} {n:Nat}:(∀x,x∈l->x.L.length<=n)->fT l<=l.length*n:=by
 induction l with
 |nil=>intro _;simp [fT]
 |cons x r ih=>
  intro h
  have h1:=h x uG
  have h2:=ih fun y hy=>h y (by simp [hy])
  rw [fT,List.length_cons,Nat.add_mul,Nat.one_mul];omega
theorem Pg.Short.find {p:Pg} (h:p.Short) (s:ByteArray):(p.en.find s).dims.length<=12/\fT (p.en.find s).dims<=240:=by
 have key:∀l:List Lf,l.length<=12->(∀x,x∈l->x.L.length<=20)->l.length<=12/\fT l<=240:=fun l h1 h2=>⟨h1,by have:=linsWt_le h2;omega⟩
 have hd:∀l:List Df,(∀d,d∈l->d∈p.Defs)->(fZ s l).dims.length<=12/\fT (fZ s l).dims<=240:=by
  intro l
  induction l with
  |nil=>intro _;simp [fZ,fT]
  |cons d r ih=>
   intro hl
   rw [fZ]
   cases decide (d.Name=s) with
   |false=>exact ih fun x hx=>hl x (by simp [hx])
   |true=>
    obtain ⟨h1,_,h3,_⟩:=h.ds d (hl d uG)
    exact key (d.Dims.map Ax.Size) (by simpa using h1) fun x hx=>by
     obtain ⟨a,ha,rfl⟩:=List.mem_map.1 hx;exact h3 a ha
 have hp:∀l:List Pm,(∀d,d∈l->d∈p.Params)->(fS s p.Defs l).dims.length<=12/\fT (fS s p.Defs l).dims<=240:=by
  intro l
  induction l with
  |nil=>intro _;rw [fS];exact hd p.Defs fun d hd=>hd
  |cons d r ih=>
   intro hl
   rw [fS]
   cases decide (d.Name=s) with
   |false=>exact ih fun x hx=>hl x (by simp [hx])
   |true=>
    obtain ⟨h1,h3⟩:=h.ps d (hl d uG)
    exact key d.Dims h1 h3
 exact hp p.Params fun x hx=>hx
end Go.Br
end
