/-
  The program's data,in plain Lean: linear forms,indices,expressions; and the cells that hold them.
  What the program's functions compute,in plain Lean.
  Copies with all forms mapped; weights; in plain Lean.
  Layer 22 in plain Lean.
  Layer 17 in plain Lean: programs,the cells that hold them,and what Find,TypeOf and Validate say of them.
  Layer 17 in plain Lean: the program's Validate and the reference's are one.
  Layer 17 in plain Lean,more: lengths,lists,tables.
  Layer 17 in plain Lean: the memory of the checker and the typer,and laws for their walks.
  Layer 17 in plain Lean: the typer's walk.
  Layer 17 in plain Lean: steps of Validate,the program's and the reference's; what Long says.
  Layer 17 in plain Lean: the example that every statement checks.
  Comparisons in plain Lean: of numbers,strings,forms,indices,expressions; nothing is alike but what is equal.
  Conditions: none.
-/
import Derived.Test.YthgichbbgocmoaaGreatDoorEngY
import Derived.Test.YthgichbbgocmoaaGreatDoorNames
import Derived.Test.YthgichbbgocmoaaGreatDoorEngZ
import Derived.Test.YthgichbbgocmoaaGreatDoorCfg
import Derived.Lib.Bytealg
set_option linter.unusedSimpArgs false
set_option linter.unusedVariables false
section
namespace Go.Br
open Go Go.Eng Go.L41
structure Mono where
 Name:ByteArray
 By:Int
 deriving DecidableEq
structure Lf where
 K:Int
 L:List Mono
 deriving DecidableEq
structure Vl where
 N:Int
 D:Int
 deriving DecidableEq
structure Ty where
 Kind:Int
 Bits:Int
 Frac:Int
 Round:Int
 Over:Int
 deriving DecidableEq
structure Ix where
 Lin:Lf
 From:ByteArray
 At:List Lf
 deriving DecidableEq
inductive Ex where
 |mk (op:Int) (name:ByteArray) (val:Vl) (ty:Ty) (lin:Lf) (idx:List Ix) (args:List Ex)
namespace Ex
def Op:Ex->Int|mk o _ _ _ _ _ _=>o
def Name:Ex->ByteArray|mk _ x _ _ _ _ _=>x
def Val:Ex->Vl|mk _ _ x _ _ _ _=>x
def Ty:Ex->Br.Ty|mk _ _ _ x _ _ _=>x
def Lin:Ex->Lf|mk _ _ _ _ x _ _=>x
def Idx:Ex->List Ix|mk _ _ _ _ _ x _=>x
def Args:Ex->List Ex|mk _ _ _ _ _ _ x=>x
theorem eta (e:Ex):e=mk e.Op e.Name e.Val e.Ty e.Lin e.Idx e.Args:=by cases e;rfl
theorem ind {P:Ex->Prop} (h:∀e:Ex,(∀a,a∈e.Args->P a)->P e) (e:Ex):P e:=
 Ex.rec (motive_1:=P) (motive_2:=fun l=>∀a,a∈l->P a) (fun o n v t l i arg_ ih=>h (mk o n v t l i arg_) ih) (fun a h=>by cases h)
  (fun x l hx hl a ha=>by rcases List.mem_cons.1 ha with rfl|ha;exact hx;exact hl a ha) e
end Ex
mutual
def Ex.eqB:Ex->Ex->Bool
 |.mk o n v t l i arg_,.mk o' n' v' t' l' i' bs=>decide (o=o')&&decide (n=n')&&decide (v=v')&&decide (t=t')&&decide (l=l')&&decide (i=i')&&xS arg_ bs
def xS:List Ex->List Ex->Bool
 |[],[]=>true
 |a::arg_,b::bs=>Ex.eqB a b&&xS arg_ bs
 |_,_=>false
end
mutual
theorem Ex.eqB_iff:∀a b:Ex,Ex.eqB a b=true↔a=b
 |.mk o n v t l i arg_,.mk o' n' v' t' l' i' bs=>by
  simp only [Ex.eqB,Bool.and_eq_true,decide_eq_true_eq,eqBs_iff arg_ bs,Ex.mk.injEq]
  constructor
  ·rintro ⟨⟨⟨⟨⟨⟨h1,h2⟩,h3⟩,h4⟩,h5⟩,h6⟩,h7⟩;exact ⟨h1,h2,h3,h4,h5,h6,h7⟩
  ·rintro ⟨h1,h2,h3,h4,h5,h6,h7⟩;exact ⟨⟨⟨⟨⟨⟨h1,h2⟩,h3⟩,h4⟩,h5⟩,h6⟩,h7⟩
theorem eqBs_iff:∀a b:List Ex,xS a b=true↔a=b
 |[],[]=>by simp [xS]
 |a::arg_,b::bs=>by simp only [xS,Bool.and_eq_true,Ex.eqB_iff a b,eqBs_iff arg_ bs,List.cons.injEq]
 |[],_::_=>by simp [xS]
 |_::_,[]=>by simp [xS]
end
instance:DecidableEq Ex:=fun a b=>decidable_of_iff _ (Ex.eqB_iff a b)
theorem Ex.eq_iff (a b:Ex):a=b↔a.Op=b.Op/\a.Name=b.Name/\a.Val=b.Val/\a.Ty=b.Ty/\a.Lin=b.Lin/\a.Idx=b.Idx/\a.Args=b.Args:=by
 cases a;cases b;simp only [Ex.mk.injEq];rfl
def Mono.cells (x:Mono):List C:=[cS x.Name,cI x.By]
def Lf.cells (x:Lf):List C:=[cI x.K,.sl 2 (x.L.map Mono.cells)]
def Ix.cells (x:Ix):List C:=[cI x.Lin.K,.sl 2 (x.Lin.L.map Mono.cells),cS x.From,.sl 2 (x.At.map Lf.cells)]
def Vl.cells (v:Vl):List C:=[cI v.N,cI v.D]
mutual
def Ex.cells:Ex->List C
 |.mk o n v t l i arg_=>[cI o,cS n,cI v.N,cI v.D,cI t.Kind,cI t.Bits,cI t.Frac,cI t.Round,cI t.Over,cI l.K,.sl 2 (l.L.map Mono.cells),.sl 4 (i.map Ix.cells),.sl 13 (vG arg_)]
def vG:List Ex->List (List C)
 |[]=>[]
 |e::r=>e.cells::vG r
end
theorem cellsL_eq (l:List Ex):vG l=l.map Ex.cells:=by
 induction l with
 |nil=>rfl
 |cons e r ih=>rw [vG,ih];rfl
def Ex.cs (e:Ex):List C:=[cI e.Op,cS e.Name,cI e.Val.N,cI e.Val.D,cI e.Ty.Kind,cI e.Ty.Bits,cI e.Ty.Frac,cI e.Ty.Round,cI e.Ty.Over,cI e.Lin.K,.sl 2 (e.Lin.L.map Mono.cells),.sl 4 (e.Idx.map Ix.cells),.sl 13 (e.Args.map Ex.cells)]
theorem Ex.cells_eq (e:Ex):e.cells=e.cs:=by
 cases e;rw [Ex.cells,cellsL_eq];rfl
abbrev sQ (x:Mono):V:=.agg x.cells
abbrev xJ (l:List Mono):V:=.c (.sl 2 (l.map Mono.cells))
abbrev dF (x:Lf):V:=.agg x.cells
abbrev rV (l:List Lf):V:=.c (.sl 2 (l.map Lf.cells))
abbrev lA (x:Ix):V:=.agg x.cells
abbrev gR (l:List Ix):V:=.c (.sl 4 (l.map Ix.cells))
abbrev vE (x:Ex):V:=.agg x.cs
abbrev vEs (l:List Ex):V:=.c (.sl 13 (l.map Ex.cells))
abbrev vTy (t:Ty):V:=.agg [cI t.Kind,cI t.Bits,cI t.Frac,cI t.Round,cI t.Over]
abbrev gL (v:Vl):V:=.agg [cI v.N,cI v.D]
abbrev mM (n:Int):V:=.c (.lit (.int .u64 n))
theorem zCn {l:List Ex} {k:Nat} {x:Ex} (h:l[k]? =some x):(l.map Ex.cells)[k]? =some x.cs:=by
 rw [getm h,Ex.cells_eq]
def fC:List Lf->Nat
 |[]=>0
 |l::r=>l.L.length+fC r
def Ix.wt (x:Ix):Nat:=x.Lin.L.length+x.At.length+fC x.At
def dL:List Ix->Nat
 |[]=>0
 |x::r=>x.wt+dL r
mutual
def Ex.wt:Ex->Nat
 |.mk _ _ _ _ l i arg_=>1+l.L.length+i.length+dL i+dY arg_
def dY:List Ex->Nat
 |[]=>0
 |e::r=>e.wt+dY r
end
theorem Ex.wt_eq (e:Ex):e.wt=1+e.Lin.L.length+e.Idx.length+dL e.Idx+dY e.Args:=by cases e;rw [Ex.wt];rfl
theorem Ex.wt_pos (e:Ex):1<=e.wt:=by rw [Ex.wt_eq];omega
theorem argsWt_mem {l:List Ex} {a:Ex} (h:a∈l):a.wt+(l.length-1)<=dY l:=by
 induction l with
 |nil=>cases h
 |cons x r ih=>
  rw [dY]
  rcases List.mem_cons.1 h with rfl|h
  ·have:r.length<=dY r:=by
    clear ih h
    induction r with
    |nil=>simp [dY]
    |cons y r ih=>rw [dY,List.length_cons];have:=y.wt_pos;omega
   simp;omega
  ·have:=ih h
   have:=x.wt_pos
   have:0<r.length:=List.length_pos_of_mem h
   simp;omega
theorem argsWt_len (l:List Ex):l.length<=dY l:=by
 induction l with
 |nil=>simp [dY]
 |cons y r ih=>rw [dY,List.length_cons];have:=y.wt_pos;omega
theorem zDz {l:List Lf} {a:Lf} (h:a∈l):a.L.length<=fC l:=by
 induction l with
 |nil=>cases h
 |cons x r ih=>
  rw [fC]
  exact l9
theorem zBn {l:List Ix} {a:Ix} (h:a∈l):a.wt<=dL l:=by
 induction l with
 |nil=>cases h
 |cons x r ih=>
  rw [dL]
  exact l9
theorem Ex.parts {e:Ex} {B:Nat} (h:e.wt<=B):e.Lin.L.length<=B/\e.Idx.length<=B/\e.Args.length<=B:=by
 rw [Ex.wt_eq] at h
 have:=argsWt_len e.Args
 omega
theorem Ex.arg_wt {e a:Ex} (h:a∈e.Args):a.wt<e.wt:=by
 rw [Ex.wt_eq e]
 have:=argsWt_mem h
 omega
theorem Ex.idx_wt {e:Ex} {x:Ix} (h:x∈e.Idx):x.Lin.L.length<=e.wt/\x.At.length<=e.wt/\fC x.At<=e.wt:=by
 rw [Ex.wt_eq e]
 have:=zBn h
 unfold Ix.wt at this
 omega
theorem qP {α:Type} {l:List α} {k:Nat} {x:α} (h:l[k]? =some x):l.drop k=x::l.drop (k+1):=by
 have hk:k<l.length:=(List.getElem?_eq_some_iff.1 h).1
 rw [List.drop_eq_getElem_cons hk]
 rw [List.getElem?_eq_getElem hk] at h
 simp at h
 rw [h]
theorem kK {α:Type} {l:List α} {k:Nat} (h:¬k<l.length):l.drop k=[]:=List.drop_of_length_le zA
theorem zBw {α:Type} {a b:List α} {k:Nat} {x y:α} (hx:a[k]? =some x) (hy:b[k]? =some y) (h:a.take k=b.take k) (e:x=y):a.take (k+1)=b.take (k+1):=by
 rw [yQ hx,yQ hy,h,e]
theorem zEa {α:Type} {a b:List α} {k:Nat} (h:a.take k=b.take k) (h1:¬k<a.length) (h2:a.length=b.length):a=b:=by
 rw [yV h1,yV zA] at h
 exact h
theorem zFx {α:Type} {a b:List α} {k:Nat} {x y:α} (hx:a[k]? =some x) (hy:b[k]? =some y) (h:¬x=y):¬a=b:=by
 rintro rfl
 rw [hx] at hy
 exact h (Option.some.inj hy)
theorem qW {p:Prop} [Decidable p] (h:¬p):decide p=false:=decide_eq_false h
theorem wR {p:Prop} [Decidable p] (h:p):decide p=true:=decide_eq_true h
theorem qA {α:Type} {l:List α} {k:Nat} {x:α} (h:l[k]? =some x):x∈l:=List.mem_of_getElem? h
end Go.Br
end
section
namespace Go.Br
open Go Go.Eng Go.L41
/-! ## Linear forms -/
def ltO:Option ByteArray->ByteArray->Bool
 |none,_=>true
 |some q,n=>fR q n
def fB:Option ByteArray->List Mono->Bool
 |_,[]=>true
 |p,m::r=>bD m.Name&& !decide (m.By=0)&&ltO p m.Name&&fB (some m.Name) r
def dC (l:Lf):Bool:=fB none l.L
def dZ (l:Lf):Int:=bif dC l then 0 else 1
def pv (l:List Mono) (k:Nat):Mono:=l.getD (k-1) ⟨bs [],0⟩
def nO (l:List Mono) (k:Nat):Option ByteArray:=if k=0 then none else some (pv l k).Name
def cJ (l:List Mono) (k:Nat) (x:Mono):Bool:=(!bD x.Name||decide (x.By=0))||(decide ((0:Int)<k)&& !fR (pv l k).Name x.Name)
theorem pv_get {α:Type} {f:Mono->α} {l:List Mono} {k:Nat} (h0:0<k) (h:k<=l.length):(l.map f)[((k:Int)-1).toNat]? =some (f (pv l k)):=by
 have e:((k:Int)-1).toNat=k-1:=by omega
 have h1:k-1<l.length:=by omega
 rw [e,List.getElem?_map,List.getElem?_eq_getElem h1]
 simp [pv,List.getD,List.getElem?_eq_getElem h1]
theorem pv_next {l:List Mono} {k:Nat} {x:Mono} (h:l[k]? =some x):pv l (k+1)=x:=by simp [pv,List.getD,h]
theorem zLl {l:List Mono} {k:Nat} {x:Mono} (h:l[k]? =some x):fB (nO l k) (l.drop k)=(!cJ l k x&&fB (nO l (k+1)) (l.drop (k+1))):=by
 rw [qP h,fB]
 have e:nO l (k+1)=some x.Name:=by simp [nO,pv_next h]
 rw [e]
 congr 1
 unfold cJ nO ltO
 by_cases hk:k=0
 ·subst hk;simp
 ·have hk':(0:Int)<k:=by omega
  rw [if_neg hk,decide_eq_true hk']
  cases bD x.Name<;>cases decide (x.By=0)<;>simp
theorem monos_end {l:List Mono} {k:Nat} (h:¬k<l.length):fB (nO l k) (l.drop k)=true:=by
 rw [kK h];cases nO l k<;>rfl
def jJ (s:ByteArray):Lf:=bif bD s then ⟨0,[⟨s,1⟩]⟩ else ⟨0,[]⟩
def nS:List Mono->ByteArray->Int
 |[],_=>0
 |m::r,s=>if m.Name=s then m.By else nS r s
def lN {α:Type} (p:α->Bool):List α->Int
 |[]=> -1
 |x::r=>bif p x then 0 else (bif decide (lN p r= -1) then-1 else lN p r+1)
theorem idxOf_ge {α:Type} (p:α->Bool) (l:List α): -1<=lN p l:=by
 induction l with
 |nil=>simp [lN]
 |cons x r ih=>unfold lN;cases p x<;>simp;by_cases h:lN p r= -1<;>simp [h];omega
theorem zOn {α:Type} (p:α->Bool) (l:List α):decide (0<=lN p l)=l.any p:=by
 induction l with
 |nil=>rfl
 |cons x r ih=>
  have:=idxOf_ge p r
  unfold lN
  cases hp:p x
  ·simp only [cond_false,List.any_cons,hp,Bool.false_or,←ih]
   by_cases h:lN p r= -1
   ·simp [h]
   ·simp [h];omega
  ·simp [hp]
theorem zTb {α:Type} {p:α->Bool} {l:List α} {k:Nat} {x:α} (h:l[k]? =some x) (hp:p x=true) (hn:(l.take k).any p=false):lN p l=k:=by
 induction l generalizing k with
 |nil=>simp at h
 |cons y r ih=>
  cases k with
  |zero=>simp at h;subst h;simp [lN,hp]
  |succ k=>
   simp only [List.take_succ_cons,List.any_cons,Bool.or_eq_false_iff] at hn
   have:=ih (k:=k) (by simpa using h) hn.2
   simp only [lN,hn.1,cond_false,this]
   have h2:¬((k:Int)= -1):=by omega
   simp [h2]
theorem zLn {α:Type} {p:α->Bool} {l:List α} (hn:l.any p=false):lN p l= -1:=by
 induction l with
 |nil=>rfl
 |cons y r ih=>
  simp only [List.any_cons,Bool.or_eq_false_iff] at hn
  simp [lN,hn.1,ih hn.2]
theorem zPk {α:Type} {p:α->Bool} {l:List α} {k:Nat} {x:α} (h:l[k]? =some x) (hn:(l.take k).any p=false) (hp:p x=false):(l.take (k+1)).any p=false:=by
 rw [yQ h,List.any_append,hn];simp [hp]
/-! ## Types and values -/
def bV (t:Ty):Bool:=
 ((decide (t.Kind=1)||decide (t.Kind=3))&&decide (t.Bits=0)&&decide (t.Frac=0)&&decide (t.Round=0)&&decide (t.Over=0))||
 (decide (t.Kind=2)&&decide (2<=t.Bits)&&decide (t.Bits<=31)&&decide (0<=t.Frac)&&decide (t.Frac<=30)&&decide (1<=t.Round)&&decide (t.Round<=4)&&(decide (t.Over=1)||decide (t.Over=2)))
def dO (t:Ty):Int:=bif bV t then 0 else 10
def fL (t:Ty):Bool:=decide (t.Kind=2)&&decide (2<=t.Bits)&&decide (t.Bits<=31)&&decide (0<=t.Frac)&&decide (t.Frac<=30)&&decide (1<=t.Round)&&decide (t.Round<=4)&&(decide (t.Over=1)||decide (t.Over=2))
def fS (b:Int):Int:=2^(b-1).toNat
def dV (n:Int):Bool:=decide (-2147483647<=n)&&decide (n<=2147483647)
def bI (t:Ty) (v:Vl):Bool:=
 bif decide (t.Kind=2) then decide (v.D=1)&&decide (-fS t.Bits<=v.N)&&decide (v.N<fS t.Bits)
 else bif decide (t.Kind=3) then decide (v.D=1)&&dV v.N
 else decide (1<=v.D)&&decide (v.D<=2147483647)&&dV v.N&&decide (Int.gcd v.N v.D=1)
def xU (t:Ty):Vl:=bif bV t then ⟨0,1⟩ else ⟨0,0⟩
theorem zAr {t:Ty} (h:t.Kind=2):bV t=fL t:=by simp [bV,fL,h]
theorem zMw {b:Int} (h1:2<=b) (h2:b<=31):1<=fS b/\fS b<=1073741824:=by
 unfold fS
 have h3:(b-1).toNat<=30:=by omega
 have h4:(2:Int)^(b-1).toNat<=2^30:=by
  have:=Nat.pow_le_pow_right (n:=2) zA h3
  exact_mod_cast this
 have h5:(1:Int)<=2^(b-1).toNat:=by
  have:=Nat.one_le_two_pow (n:=(b-1).toNat)
  exact_mod_cast this
 omega
/-! ## Conditions as the walks meet them -/
theorem lin_mk {a b:Lf} (h:a.K=b.K) (k:a.L=b.L):a=b:=by cases a;cases b;simp_all
theorem mono_ne {x y:Mono} (h:(!bT x.cells y.cells)=true):¬x=y:=by
 rintro rfl
 simp [bT,cEq,Mono.cells] at h
theorem mono_eq {x y:Mono} (h:(!bT x.cells y.cells)=false):x=y:=by
 cases x;cases y
 simpa [bT,cEq,Mono.cells] using h
def vH (s:ByteArray) (k:Nat):Int:=(s.data.toList.getD k 0).toNat
def vC (s:ByteArray):Bool:=(((decide ((s.size:Int)<1)||decide ((16:Int)<s.size))||dD fQ s)||decide (vH s 0<97))||decide (122<vH s 0)
theorem ident_no {s:ByteArray} (h:vC s=true):bD s=false:=by
 unfold vC vH at h
 cases hn:bD s with
 |false=>rfl
 |true=>
  exfalso
  simp only [bD,Bool.and_eq_true,decide_eq_true_eq,Bool.not_eq_true'] at hn
  obtain ⟨⟨⟨⟨h1,h2⟩,h3⟩,h4⟩,h5⟩:=hn
  have h6:s.data.toList.head? =some (s.data.toList.getD 0 0):=by rw [List.head?_eq_getElem?];exact zEi zA
  rw [h6] at h3
  simp only [Option.all_some,nP,mU,Bool.and_eq_true,decide_eq_true_eq] at h3
  simp only [Bool.or_eq_true,decide_eq_true_eq,h5] at h
  rcases h with (((h|h)|h)|h)|h
  ·omega
  ·omega
  ·cases h
  ·omega
  ·omega
theorem ident_yes {s:ByteArray} (h:vC s=false):1<=s.size/\s.size<=16/\bD s=s.data.toList.all gQ:=by
 unfold vC vH at h
 simp only [Bool.or_eq_false_iff,decide_eq_false_iff_not] at h
 obtain ⟨⟨⟨⟨h1,h2⟩,h3⟩,h4⟩,h5⟩:=h
 have h7:1<=s.size:=by omega
 refine ⟨h7,zA,?_⟩
 have h6:s.data.toList.head? =some (s.data.toList.getD 0 0):=by rw [List.head?_eq_getElem?];exact zEi zA
 unfold bD
 rw [h6,h3]
 have e1:decide (1<=s.size)=true:=by simp;omega
 have e2:decide (s.size<=16)=true:=by simp;omega
 have e3:nP (s.data.toList.getD 0 0)=true:=by simp only [nP,mU,Bool.and_eq_true,decide_eq_true_eq];omega
 simp only [e1,e2,Option.all_some,e3,Bool.true_and,Bool.not_false,Bool.and_true]
def sO (n:Int):Bool:=((decide (n<97)||decide (122<n))&&(decide (n<48)||decide (57<n)))&& !decide (n=95)
theorem notWord_eq (c:UInt8):sO c.toNat= !gQ c:=by
 unfold sO gQ rJ mU vD
 rw [Bool.eq_iff_iff]
 simp only [Bool.and_eq_true,Bool.or_eq_true,Bool.not_eq_true',Bool.or_eq_false_iff,Bool.and_eq_false_iff,decide_eq_true_eq,decide_eq_false_iff_not]
 omega
theorem word_no {s:ByteArray} {k:Nat} (hlt:k<s.size) (h:sO ((s.data.toList.getD k 0).toNat:Int)=true):s.data.toList.all gQ=false:=by
 rw [notWord_eq] at h
 rw [List.all_eq_false]
 exact ⟨_,List.mem_of_getElem? (zEi hlt),by simpa using h⟩
theorem word_yes {s:ByteArray} {k:Nat} (hlt:k<s.size) (hp:(s.data.toList.take k).all gQ=true) (h:sO ((s.data.toList.getD k 0).toNat:Int)=false):(s.data.toList.take (k+1)).all gQ=true:=by
 rw [notWord_eq] at h
 rw [zPl (zEi hlt),hp]
 simpa using h
theorem word_all {s:ByteArray} {k:Nat} (hp:(s.data.toList.take k).all gQ=true) (h:¬k<s.size):s.data.toList.all gQ=true:=by
 rw [List.take_of_length_le uE] at hp
 exact hp
def tU (t:Ty):Bool:=decide (t.Bits=0)&&decide (t.Frac=0)&&decide (t.Round=0)&&decide (t.Over=0)
theorem plainT_eq (t:Ty):bT [cI t.Kind,cI t.Bits,cI t.Frac,cI t.Round,cI t.Over] [cI t.Kind,.lit (.int .i64 0),.lit (.int .i64 0),.lit (.int .i64 0),.lit (.int .i64 0)]=tU t:=by
 simp [bT,cEq,tU,Bool.and_assoc]
def sP (t:Ty):Bool:=((((!decide (t.Kind=2)||decide (t.Bits<2))||decide (31<t.Bits))||decide (t.Frac<0))||decide (30<t.Frac))|| !((decide (1<=t.Round)&&decide (t.Round<=4))&&(decide (t.Over=1)||decide (t.Over=2)))
theorem fixCond_eq (t:Ty):sP t= !fL t:=by
 unfold sP fL
 rw [Bool.eq_iff_iff]
 simp only [Bool.and_eq_true,Bool.or_eq_true,Bool.not_eq_true',Bool.or_eq_false_iff,Bool.and_eq_false_iff,decide_eq_true_eq,decide_eq_false_iff_not]
 omega
theorem fix_no {t:Ty} (h:sP t=true):fL t=false:=by rw [fixCond_eq] at h;simpa using h
theorem fix_yes {t:Ty} (h:sP t=false):fL t=true:=by rw [fixCond_eq] at h;simpa using h
theorem type1 {t:Ty} (h:(decide (t.Kind=1)||decide (t.Kind=3))=true):(((decide (t.Bits=0)&&decide (t.Frac=0))&&decide (t.Round=0))&&decide (t.Over=0))=bV t:=by
 unfold bV
 rw [h]
 have:decide (t.Kind=2)=false:=by
  simp only [Bool.or_eq_true,decide_eq_true_eq] at h
  simp;omega
 simp [this]
theorem type2 {t:Ty} (h:(decide (t.Kind=1)||decide (t.Kind=3))=false):(((((((decide (t.Kind=2)&&decide (2<=t.Bits))&&decide (t.Bits<=31))&&decide (0<=t.Frac))&&decide (t.Frac<=30))&&decide (1<=t.Round))&&decide (t.Round<=4))&&(decide (t.Over=1)||decide (t.Over=2)))=bV t:=by
 unfold bV
 rw [h]
 simp
theorem tyk1 {t:Ty} (h:t.Kind=1∨t.Kind=3):bV t=tU t:=by
 rw [←type1 (t:=t) (by simpa using h)];rfl
theorem tyk0 {t:Ty} (h1:¬t.Kind=1) (h3:¬t.Kind=3) (h2:¬t.Kind=2):bV t=false:=by
 simp [bV,h1,h2,h3]
theorem tyErr_ne {t:Ty} (h:¬dO t=0):bV t=false:=by
 unfold dO at h;cases ht:bV t<;>simp_all
theorem zLe {t:Ty} (h:dO t=0):bV t=true:=by
 unfold dO at h;cases ht:bV t<;>simp_all
theorem zEg {n:Int} (h:0<=n/\n<=18446744073709551615):IntKind.u64.wrap n=n:=IntWalk.u64_in _ h
theorem zOc {b:Int} (h1:2<=b) (h2:b<=31):IntKind.i64.wrap (1*2^(min (IntKind.u64.wrap (b-1)).toNat IntKind.i64.bits))=fS b:=by
 rw [zEg zA]
 have h3:=zMw h1 h2
 have h4:min (b-1).toNat IntKind.i64.bits=(b-1).toNat:=Nat.min_eq_left (by simp [IntKind.bits];omega)
 rw [h4,Int.one_mul]
 exact zCu ⟨by unfold fS at h3;omega,by unfold fS at h3;omega⟩
theorem min_eq {b:Int} (h1:2<=b) (h2:b<=31):IntKind.i64.wrap (-(IntKind.i64.wrap (1*2^(min (IntKind.u64.wrap (b-1)).toNat IntKind.i64.bits))))= -fS b:=by
 rw [zOc h1 h2]
 have:=zMw h1 h2
 exact zCu ⟨zA,zA⟩
theorem max_eq {b:Int} (h1:2<=b) (h2:b<=31):IntKind.i64.wrap (IntKind.i64.wrap (1*2^(min (IntKind.u64.wrap (b-1)).toNat IntKind.i64.bits))-1)=fS b-1:=by
 rw [zOc h1 h2]
 have:=zMw h1 h2
 exact zCu ⟨zA,zA⟩
theorem fixB {t:Ty} (h:fL t=true):2<=t.Bits/\t.Bits<=31:=by
 simp only [fL,Bool.and_eq_true,decide_eq_true_eq] at h
 omega
theorem fxz {t:Ty} (h:(bif fL t then (0:Int) else 10)=0):fL t=true:=by cases ht:fL t<;>simp_all
theorem fxn {t:Ty} (h:¬(bif fL t then (0:Int) else 10)=0):fL t=false:=by cases ht:fL t<;>simp_all
theorem fxa {t:Ty} {p:Bool} (h:Lz (decide ((bif fL t then (0:Int) else 10)=0)&&p) true=true):fL t=true:=by
 simp only [Lz,cond_true,Bool.and_eq_true,decide_eq_true_eq] at h
 exact fxz h.1
theorem fxb {t:Ty} {p q:Bool} (h:Lz (decide ((bif fL t then (0:Int) else 10)=0)&&p&&q) true=true):fL t=true:=by
 simp only [Lz,cond_true,Bool.and_eq_true,decide_eq_true_eq] at h
 exact fxz h.1.1
theorem fixV (t:Ty) (v:Vl):(decide ((bif fL t then (0:Int) else 10)=0)&&decide (v.D=1)&&decide (-fS t.Bits<=v.N)&&decide (v.N<=fS t.Bits-1))=(fL t&&(decide (v.D=1)&&decide (-fS t.Bits<=v.N)&&decide (v.N<fS t.Bits))):=by
 have:decide (v.N<=fS t.Bits-1)=decide (v.N<fS t.Bits):=decide_eq_decide.2 zA
 rw [this]
 cases fL t<;>simp
theorem mag_neg {n:Int} (h:n<0) (hn: -9223372036854775808<=n):IntKind.u64.wrap (-(IntKind.u64.wrap n))=n.natAbs:=by
 have e:IntKind.u64.wrap n=n+18446744073709551616:=by simp [IntKind.wrap,IntKind.bits,IntKind.signed];omega
 rw [e]
 simp [IntKind.wrap,IntKind.bits,IntKind.signed];omega
theorem mag_pos {n:Int} (h:¬n<0) (hn:n<=9223372036854775807):IntKind.u64.wrap n=n.natAbs:=by
 rw [zEg zA];omega
theorem gcd_step {x y:Nat} (h:¬y=0):Nat.gcd x y=Nat.gcd y (x%y):=by
 rw [Nat.gcd_comm x y,Nat.gcd_rec y x,Nat.gcd_comm]
theorem frV {v:Vl} (h:Lz (decide (1<=v.D)&&decide (v.D<=2147483647)&&dV v.N) true=true):1<=v.D/\v.D<=2147483647/\ -9223372036854775808<=v.N/\v.N<=9223372036854775807:=by
 simp only [Lz,cond_true,Bool.and_eq_true,decide_eq_true_eq,dV] at h
 omega
theorem u64_D {d:Int} (h1:1<=d) (h2:d<=2147483647):IntKind.u64.wrap d=d.natAbs:=by
 rw [zEg zA];omega
theorem max_abs {n:Int} (h1: -2147483647<=n) (h2:n<=2147483647):max n (IntKind.i64.wrap (-n))=n.natAbs:=by
 rw [zCu ⟨zA,zA⟩];omega
def tS (v:Vl):Bool:=((decide (2147483647<v.N)||decide (v.N< -2147483647))||decide (v.D<1))||decide (2147483647<v.D)
theorem val_in {v:Vl} (h:tS v=false): -2147483647<=v.N/\v.N<=2147483647/\1<=v.D/\v.D<=2147483647:=by
 simp only [tS,Bool.or_eq_false_iff,decide_eq_false_iff_not] at h
 omega
theorem val_out {t:Ty} {v:Vl} (hk:¬t.Kind=2) (h:tS v=true):bI t v=false:=by
 unfold bI dV
 rw [qW hk]
 simp only [tS,Bool.or_eq_true,decide_eq_true_eq] at h
 by_cases h3:t.Kind=3
 ·simp [h3];omega
 ·simp [h3];omega
theorem valfix {t:Ty} {v:Vl} (hk:t.Kind=2) (b1:2<=t.Bits) (b2:t.Bits<=31):(decide (v.D=1)&&decide (IntKind.i64.wrap (-(IntKind.i64.wrap (1*2^(min (t.Bits-1).toNat IntKind.i64.bits))))<=v.N)&&decide (v.N<IntKind.i64.wrap (1*2^(min (t.Bits-1).toNat IntKind.i64.bits))))=bI t v:=by
 have e:=zOc b1 b2
 have e':=min_eq b1 b2
 rw [zEg zA] at e e'
 rw [e',e,bI,hk]
 rfl
/-! ## Expressions -/
def bL (op:Int):Int:=if op=1∨op=2∨op=3 then 0 else if op=8∨op=12∨op=18 then 1 else if op=11 then 3 else 2
def bE (e:Ex):Bool:=decide (13<=e.Op)&&decide (e.Op<=18)
def fU (op i:Int):Bool:=(((decide (op=11)&&decide (i=0))||decide (op=16))||decide (op=17))||decide (op=18)
def rA (l:Lf):Bool:=decide (l.K=0)&&decide ((l.L.length:Int)=0)
def lU (x:Ix):Bool:=bif decide (x.From=bs []) then decide ((x.At.length:Int)=0) else rA x.Lin
def xI (v:Vl):Bool:=bT [cI v.N,cI v.D] [cI 0,cI 0]
def ty0 (t:Ty):Bool:=bT [cI t.Kind,cI t.Bits,cI t.Frac,cI t.Round,cI t.Over] [cI 0,cI 0,cI 0,cI 0,cI 0]
def jS (e:Ex):Bool:=
 !(decide (e.Op<1)||decide (18<e.Op))&& !(!decide (e.Op=1)&& !xI e.Val)&& !(!(decide (e.Op=1)||decide (e.Op=12))&& !ty0 e.Ty)&& !(!decide (e.Op=2)&& !rA e.Lin)&&
 !(!decide (e.Op=3)&&(!decide (e.Name=bs [])||decide ((0:Int)<e.Idx.length)))&&e.Idx.all lU
def tW (x:Ix):Bool:= !(!decide (x.From=bs [])&& !bD x.From)
def nA (e:Ex):Bool:= !(decide (e.Op=3)&& !bD e.Name)&&e.Idx.all tW
def tH (x:Ix):Bool:= !decide ((6:Int)<x.At.length)
def mS (e:Ex):Bool:= !(!decide ((e.Args.length:Int)=bL e.Op)||decide ((6:Int)<e.Idx.length))&&e.Idx.all tH
def gA (op i:Int):List Ex->Bool
 |[]=>true
 |a::r=>(bE a==fU op i)&&gA op (i+1) r
def jP (e:Ex):Bool:= !((decide (e.Op=1)||decide (e.Op=12))&& !bV e.Ty)&&gA e.Op 0 e.Args
def dP (e:Ex):List Lf:=e.Lin::e.Idx.flatMap fun x=>x.Lin::x.At
def lR (e:Ex):Bool:= !(decide (e.Op=1)&& !bI e.Ty e.Val)&&(dP e).all dC
def bZ (e:Ex):Int:=bif !jS e then 5 else bif !nA e then 7 else bif !mS e then 11 else bif !jP e then 10 else bif !lR e then 1 else 0
mutual
def bW:Ex->List Ex
 |.mk o n v t l i arg_=>.mk o n v t l i arg_::bO arg_
def bO:List Ex->List Ex
 |[]=>[]
 |e::r=>bW e++bO r
end
theorem kT (e:Ex):bW e=e::bO e.Args:=by cases e;rw [bW];rfl
theorem zOa (a b:List Ex):bO (a++b)=bO a++bO b:=by
 induction a with
 |nil=>rfl
 |cons x r ih=>rw [List.cons_append,bO,bO,ih,List.append_assoc]
def jD:List Ex->Int
 |[]=>0
 |e::r=>bif decide (bZ e=0) then jD r else bZ e
theorem zGo (a b:List Ex):jD (a++b)=bif decide (jD a=0) then jD b else jD a:=by
 induction a with
 |nil=>rfl
 |cons x r ih=>
  rw [List.cons_append,jD,jD,ih]
  by_cases h:bZ x=0
  ·simp [h]
  ·simp [h]
def dJ (e:Ex):Int:=jD (bW e)
def sX (l:List Ex):Int:=jD (bO l)
theorem zGl (e:Ex):dJ e=bif decide (bZ e=0) then sX e.Args else bZ e:=by rw [dJ,kT,jD];rfl
theorem zQe (e:Ex) (r:List Ex):sX (e::r)=bif decide (dJ e=0) then sX r else dJ e:=by rw [sX,bO,zGo];rfl
def tM (f:Ex->Int) (d:Int):List Ex->Int
 |[]=>d
 |a::r=>tM f (max d (1+f a)) r
def lS:Nat->Ex->Int
 |0,_=>1
 |n+1,e=>tM (lS n) 1 e.Args
theorem depF_le {f:Ex->Int} {n:Int} (h:∀a,1<=f a/\f a<=n):∀(l:List Ex) (d:Int),1<=d->d<=n+1->1<=tM f d l/\tM f d l<=n+1
 |[],d,h1,h2=>⟨h1,h2⟩
 |a::r,d,h1,h2=>by
  have:=h a
  exact depF_le h r _ zA zA
theorem depT_le:∀(n:Nat) (e:Ex),1<=lS n e/\lS n e<=n+1
 |0,e=>by simp [lS]
 |n+1,e=>by
  have:=depF_le (n:=n+1) (depT_le n) e.Args 1 zA zA
  rw [lS];omega
mutual
def tG:Ex->Nat->Nat
 |.mk _ _ _ _ _ _ arg_,most=>sU arg_ most 1
def sU:List Ex->Nat->Nat->Nat
 |[],_,n=>n
 |a::r,most,n=>if n<=most then sU r most (n+tG a (most-n)) else n
end
theorem sizE_eq (e:Ex) (m:Nat):tG e m=sU e.Args m 1:=by cases e;rw [tG];rfl
mutual
theorem sizE_min:∀(e:Ex) (m:Nat),tG e m=min (bW e).length (m+1)
 |.mk o n v t l i arg_,m=>by
  rw [tG,bW,sizL_min arg_ m 1 zA]
  simp;omega
theorem sizL_min:∀(l:List Ex) (m n:Nat),n<=m+1->sU l m n=min (n+(bO l).length) (m+1)
 |[],m,n,h=>by simp [sU,bO];omega
 |a::r,m,n,h=>by
  rw [sU,bO,List.length_append]
  split
  ·rename_i hn
   rw [sizE_min a (m-n),sizL_min r m _ zA]
   omega
  ·omega
end
def szT (e:Ex):Nat:=min (bW e).length 2001
def fY (e:Ex):Int:=bif decide (40<lS 40 e) then 13 else bif decide ((2000:Int)<szT e) then 2 else dJ e
theorem nodes_wt:∀e:Ex,(bW e).length<=e.wt:=by
 intro e
 induction e using Ex.ind with
 |_ e ih=>
  rw [kT,Ex.wt_eq]
  have:∀l:List Ex,(∀a,a∈l->(bW a).length<=a.wt)->(bO l).length<=dY l:=by
   intro l hl
   induction l with
   |nil=>simp [bO]
   |cons a r ihr=>
    rw [bO,dY,List.length_append]
    have h1:=hl a uD
    have h2:=ihr fun b hb=>hl b (by simp [hb])
    omega
  have:=this e.Args ih
  simp;omega
theorem zFw:∀(e x:Ex),x∈bW e->x.wt<=e.wt:=by
 intro e
 induction e using Ex.ind with
 |_ e ih=>
  intro x hx
  rw [kT] at hx
  rcases List.mem_cons.1 hx with rfl|hx
  ·omega
  ·have:∀l:List Ex,(∀a,a∈l->a∈e.Args)->x∈bO l->x.wt<=e.wt:=by
    intro l hl hx
    induction l with
    |nil=>simp [bO] at hx
    |cons a r ihr=>
     rw [bO] at hx
     rcases List.mem_append.1 hx with h|h
     ·have h1:=ih a (hl a uD) x h
      have h2:=Ex.arg_wt (hl a uD)
      omega
     ·exact ihr (fun b hb=>hl b (by simp [hb])) h
   exact this e.Args (fun a h=>h) hx
theorem zKg {α:Type} (l:List α) (p:α->Bool):(!l.any fun x=> !p x)=l.all p:=by
 induction l with
 |nil=>rfl
 |cons x r ih=>simp only [List.any_cons,List.all_cons,←ih];cases p x<;>simp
theorem zTt {α:Type} {p:α->Bool} {l:List α} {k:Nat} {x:α} (h:l[k]? =some x) (hp:l.all p=(l.drop k).all p) (hx:p x=true):l.all p=(l.drop (k+1)).all p:=by
 rw [hp,qP h,List.all_cons,hx];rfl
theorem zLc {α:Type} {p:α->Bool} {l:List α} {k:Nat} {x:α} (h:l[k]? =some x) (hx:p x=false):l.all p=false:=by
 rw [List.all_eq_false];exact ⟨x,qA h,by simp [hx]⟩
theorem all_end {α:Type} {p:α->Bool} {l:List α} {k:Nat} (hp:l.all p=(l.drop k).all p) (h:¬k<l.length):l.all p=true:=by
 rw [hp,kK h];rfl
theorem tyErr_dec (t:Ty):decide (dO t=0)=bV t:=by unfold dO;cases bV t<;>rfl
theorem zKl {l:Lf} (h:¬dZ l=0):dC l=false:=by unfold dZ at h;cases hl:dC l<;>simp_all
theorem zKm {l:Lf} (h:dZ l=0):dC l=true:=by unfold dZ at h;cases hl:dC l<;>simp_all
theorem plain2 {e:Ex} {b:Bool} (h:((!decide (e.Op=1)&& !bT [cI e.Val.N,cI e.Val.D] [cI 0,cI 0])||((!decide (e.Op=1)&& !decide (e.Op=12))&& !bT [cI e.Ty.Kind,cI e.Ty.Bits,cI e.Ty.Frac,cI e.Ty.Round,cI e.Ty.Over] [cI 0,cI 0,cI 0,cI 0,cI 0]))=b):
  ((!decide (e.Op=1)&& !xI e.Val)||(!(decide (e.Op=1)||decide (e.Op=12))&& !ty0 e.Ty))=b:=by
 rw [←h];unfold xI ty0;cases decide (e.Op=1)<;>simp
theorem plain3 {e:Ex} {b:Bool} (h:((!decide (e.Op=2)&&(!decide (e.Lin.K=0)||decide ((0:Int)<e.Lin.L.length)))||(!decide (e.Op=3)&&(!decide (e.Name=bs [])||decide ((0:Int)<e.Idx.length))))=b):
  ((!decide (e.Op=2)&& !rA e.Lin)||(!decide (e.Op=3)&&(!decide (e.Name=bs [])||decide ((0:Int)<e.Idx.length))))=b:=by
 rw [←h]
 have:(!rA e.Lin)=(!decide (e.Lin.K=0)||decide ((0:Int)<e.Lin.L.length)):=by
  unfold rA
  rw [Bool.not_and]
  congr 1
  exact v17
 rw [this]
theorem well_dec {x:Ix} {b:Bool} (h:((decide (x.From=bs [])&&decide ((0:Int)<x.At.length))||(!decide (x.From=bs [])&&(!decide (x.Lin.K=0)||decide ((0:Int)<x.Lin.L.length))))=b):(!lU x)=b:=by
 rw [←h]
 unfold lU rA
 by_cases hf:x.From=bs []
 ·simp only [hf,decide_true,cond_true,Bool.true_and,Bool.not_true,Bool.false_and,Bool.or_false]
  exact v17
 ·simp only [hf,decide_false,cond_false,Bool.false_and,Bool.not_false,Bool.true_and,Bool.false_or,Bool.not_and]
  congr 1
  exact v17
theorem syn2 {e:Ex} (h:((!decide (e.Op=1)&& !xI e.Val)||(!(decide (e.Op=1)||decide (e.Op=12))&& !ty0 e.Ty))=true):false=jS e:=by
 unfold jS
 rw [Bool.or_eq_true] at h
 rcases h with h|h<;>simp only [h,Bool.not_true,Bool.and_false,Bool.false_and]
theorem syn3 {e:Ex} (h:((!decide (e.Op=2)&& !rA e.Lin)||(!decide (e.Op=3)&&(!decide (e.Name=bs [])||decide ((0:Int)<e.Idx.length))))=true):false=jS e:=by
 unfold jS
 rw [Bool.or_eq_true] at h
 rcases h with h|h<;>simp only [h,Bool.not_true,Bool.and_false,Bool.false_and]
theorem syn5 {e:Ex} (h1:(decide (e.Op<1)||decide (18<e.Op))=false) (h2:((!decide (e.Op=1)&& !xI e.Val)||(!(decide (e.Op=1)||decide (e.Op=12))&& !ty0 e.Ty))=false) (h3:((!decide (e.Op=2)&& !rA e.Lin)||(!decide (e.Op=3)&&(!decide (e.Name=bs [])||decide ((0:Int)<e.Idx.length))))=false) (h4:e.Idx.all lU=true):true=jS e:=by
 unfold jS
 obtain ⟨a,b⟩:=Bool.or_eq_false_iff.1 h2
 obtain ⟨c,d⟩:=Bool.or_eq_false_iff.1 h3
 simp only [h1,a,b,c,d,h4,Bool.not_false,Bool.and_self]
theorem form_start {e:Ex} (h:((decide (e.Op=1)&& !bI e.Ty e.Val)|| !dC e.Lin)=false):(dP e).all dC=((e.Idx.drop 0).flatMap fun x=>x.Lin::x.At).all dC:=by
 obtain ⟨_,h2⟩:=Bool.or_eq_false_iff.1 h
 rw [dP,List.all_cons,show dC e.Lin=true by simpa using h2];rfl
theorem form_no {e:Ex} (h:((decide (e.Op=1)&& !bI e.Ty e.Val)|| !dC e.Lin)=true):false=lR e:=by
 unfold lR dP
 rw [Bool.or_eq_true] at h
 rcases h with h|h
 ·simp only [h,Bool.not_true,Bool.false_and]
 ·rw [List.all_cons,show dC e.Lin=false by simpa using h];simp
theorem form_no2 {e:Ex} {l:List Lf} (h:(dP e).all dC=l.all dC) (h2:l.all dC=false):false=lR e:=by
 unfold lR;rw [h,h2,Bool.and_false]
theorem form_yes {e:Ex} (h:((decide (e.Op=1)&& !bI e.Ty e.Val)|| !dC e.Lin)=false) (h2:(dP e).all dC=true):true=lR e:=by
 obtain ⟨h1,_⟩:=Bool.or_eq_false_iff.1 h
 unfold lR;rw [h1,h2];rfl
theorem types_ty {e:Ex} (h:jP e=true):e.Op=1->bV e.Ty=true:=by
 intro h1
 simp only [jP,h1,decide_true,Bool.true_or,Bool.true_and,Bool.not_not,Bool.and_eq_true] at h
 exact h.1
theorem dep_start {n:Nat} {e:Ex} (h:n≠0):lS n e=tM (lS (n-1)) 1 (e.Args.drop 0):=by
 cases n with
 |zero=>exact absurd rfl h
 |succ n=>rfl
theorem dep_end {n:Nat} {e:Ex} {l d:Int} {k:Nat} (hl:l=n+1) (c:e.Args.length<=k∨l<=1) (h3:n≠0->lS n e=tM (lS (n-1)) d (e.Args.drop k)) (h4:n=0->d=1):d=lS n e:=by
 by_cases h0:n=0
 ·rw [h4 h0,h0];rfl
 ·rw [h3 h0,kK zA];rfl
theorem siz_end {l:List Ex} {k n m:Nat} {x:Int} (hl:x=m) (h:l.length<=k∨x<n):n=sU (l.drop k) m n:=by
 by_cases hk:k<l.length
 ·obtain ⟨a,ha⟩:=qY l k hk
  rw [qP ha,sU,if_neg zA]
 ·rw [kK hk,sU]
abbrev ixF (x:Ix):List Lf:=x.Lin::x.At
theorem forms_at {e:Ex} {k:Nat} {x:Ix} (h:e.Idx[k]? =some x):dP e=(e.Lin::(e.Idx.take k).flatMap ixF)++x.Lin::(x.At++(e.Idx.drop (k+1)).flatMap ixF):=by
 have e1:e.Idx=e.Idx.take k++x::e.Idx.drop (k+1):=by rw [←qP h,List.take_append_drop]
 have e2:dP e=e.Lin::e.Idx.flatMap ixF:=rfl
 have e3:e.Idx.flatMap ixF=(e.Idx.take k++x::e.Idx.drop (k+1)).flatMap ixF:=congrArg _ e1
 rw [e2,e3,List.flatMap_append,List.flatMap_cons]
 simp [ixF]
theorem forms_at2 {e:Ex} {k j:Nat} {x:Ix} {l:Lf} (h:e.Idx[k]? =some x) (hl:x.At[j]? =some l):dP e=((e.Lin::(e.Idx.take k).flatMap ixF)++[x.Lin]++x.At.take j)++l::(x.At.drop (j+1)++(e.Idx.drop (k+1)).flatMap ixF):=by
 rw [forms_at h]
 have e1:x.At=x.At.take j++l::x.At.drop (j+1):=by rw [←qP hl,List.take_append_drop]
 have e2:x.At++(e.Idx.drop (k+1)).flatMap ixF=(x.At.take j++l::x.At.drop (j+1))++(e.Idx.drop (k+1)).flatMap ixF:=congrArg (· ++(e.Idx.drop (k+1)).flatMap ixF) e1
 rw [e2]
 simp
theorem forms_next {e:Ex} {k:Nat} {x:Ix} (h:e.Idx[k]? =some x):e.Lin::(e.Idx.take (k+1)).flatMap ixF=(e.Lin::(e.Idx.take k).flatMap ixF)++[x.Lin]++x.At:=by
 rw [yQ h,List.flatMap_append];simp [ixF]
theorem nodes_at {e a:Ex} {k:Nat} (h:e.Args[k]? =some a) {pre suf:List Ex} {x:Ex} (hx:bW a=pre++x::suf):bW e=(e::bO (e.Args.take k)++pre)++x::(suf++bO (e.Args.drop (k+1))):=by
 have e1:e.Args=e.Args.take k++a::e.Args.drop (k+1):=by rw [←qP h,List.take_append_drop]
 have e2:bO e.Args=bO (e.Args.take k)++(bW a++bO (e.Args.drop (k+1))):=by
  have:=congrArg bO e1
  rw [zOa,bO] at this
  exact this
 rw [kT,e2,hx]
 simp
theorem zVo {l:List Ex} {k:Nat} {a:Ex} (h:l[k]? =some a):bO (l.take (k+1))=bO (l.take k)++bW a:=by
 rw [yQ h,zOa,bO,bO,List.append_nil]
theorem forms_wt {e:Ex} {l:Lf} {B:Nat} (he:e.wt<=B) (h:l∈dP e):l.L.length<=B:=by
 unfold dP at h
 rcases List.mem_cons.1 h with rfl|h
 ·exact (e.parts he).1
 ·obtain ⟨x,hx,hl⟩:=List.mem_flatMap.1 h
  have h1:=Ex.idx_wt hx
  rcases List.mem_cons.1 hl with rfl|hl
  ·omega
  ·have:=zDz hl;omega
theorem node5 {e:Ex} {b:Bool} (h:jP e=true) (c:(decide (e.Op=1)&& !(bV e.Ty&&bI e.Ty e.Val))=b):(decide (e.Op=1)&& !bI e.Ty e.Val)=b:=by
 rw [←c]
 by_cases h1:e.Op=1
 ·rw [types_ty h h1];simp [h1]
 ·simp [h1]
theorem all_app_no {α:Type} {p:α->Bool} {pre suf:List α} {x:α} (h:(pre++[x]).all p=false):(pre++x::suf).all p=false:=by
 rw [show pre++x::suf=(pre++[x])++suf by simp,List.all_append,h];rfl
theorem errs_one {pre:List Ex} {x:Ex} (h:jD pre=0) (c:¬bZ x=0):jD (pre++[x])=bZ x:=by
 rw [zGo,h,jD,qW c];rfl
theorem errs_pre {pre suf:List Ex} {x:Ex} (h:¬jD (pre++[x])=0):jD (pre++x::suf)=jD (pre++[x]):=by
 rw [show pre++x::suf=(pre++[x])++suf by simp,zGo,qW h];rfl
end Go.Br
end
section
namespace Go.Br
open Go Go.Eng Go.L41
/-! ## Equality,part by part -/
theorem ix_eq (a b:Ix):((decide (a.From=b.From)&&decide (a.Lin=b.Lin))&&decide (a.At=b.At))=decide (a=b):=by
 rw [Bool.eq_iff_iff];simp only [Bool.and_eq_true,decide_eq_true_eq]
 cases a;cases b;simp only [Ix.mk.injEq]
 constructor
 ·rintro ⟨⟨h1,h2⟩,h3⟩;exact ⟨h2,h1,h3⟩
 ·rintro ⟨h1,h2,h3⟩;exact ⟨⟨h2,h1⟩,h3⟩
theorem litsEq_val (a b:Vl):bT [cI a.N,cI a.D] [cI b.N,cI b.D]=decide (a=b):=by
 rw [Bool.eq_iff_iff];cases a;cases b;simp [bT,cEq]
theorem litsEq_ty (a b:Ty):bT [cI a.Kind,cI a.Bits,cI a.Frac,cI a.Round,cI a.Over] [cI b.Kind,cI b.Bits,cI b.Frac,cI b.Round,cI b.Over]=decide (a=b):=by
 rw [Bool.eq_iff_iff];cases a;cases b;simp [bT,cEq]
theorem ex_eq (a b:Ex):((((((decide (a.Op=b.Op)&&decide (a.Name=b.Name))&&bT [cI a.Val.N,cI a.Val.D] [cI b.Val.N,cI b.Val.D])&&bT [cI a.Ty.Kind,cI a.Ty.Bits,cI a.Ty.Frac,cI a.Ty.Round,cI a.Ty.Over] [cI b.Ty.Kind,cI b.Ty.Bits,cI b.Ty.Frac,cI b.Ty.Round,cI b.Ty.Over])&&decide (a.Lin=b.Lin))&&decide (a.Idx=b.Idx))&&decide (a.Args=b.Args))=decide (a=b):=by
 rw [litsEq_val,litsEq_ty,Bool.eq_iff_iff]
 simp only [Bool.and_eq_true,decide_eq_true_eq,Ex.eq_iff]
 constructor
 ·rintro ⟨⟨⟨⟨⟨⟨h1,h2⟩,h3⟩,h4⟩,h5⟩,h6⟩,h7⟩;exact ⟨h1,h2,h3,h4,h5,h6,h7⟩
 ·rintro ⟨h1,h2,h3,h4,h5,h6,h7⟩;exact ⟨⟨⟨⟨⟨⟨h1,h2⟩,h3⟩,h4⟩,h5⟩,h6⟩,h7⟩
/-! ## Weights -/
def gF (m n:Nat):List Lf->Nat
 |[]=>n
 |l::r=>if n<=m then gF m (n+l.L.length) r else n
def fJ (m n:Nat):List Ix->Nat
 |[]=>n
 |x::r=>if n<=m then fJ m (gF m (n+x.Lin.L.length+x.At.length) x.At) r else n
mutual
def fW:Ex->Nat->Nat
 |.mk _ _ _ _ l i arg_,m=>jO arg_ m (fJ m (1+l.L.length+i.length) i)
def jO:List Ex->Nat->Nat->Nat
 |[],_,n=>n
 |a::r,m,n=>if n<=m then jO r m (n+fW a (m-n)) else n
end
theorem weighE_eq (e:Ex) (m:Nat):fW e m=jO e.Args m (fJ m (1+e.Lin.L.length+e.Idx.length) e.Idx):=by cases e;rw [fW];rfl
def Ix.fit (x:Ix):Prop:=x.Lin.L.length<=140737488355328/\x.At.length<=140737488355328/\∀l,l∈x.At->l.L.length<=140737488355328
mutual
def Ex.fit:Ex->Prop
 |.mk _ _ _ _ l i arg_=>l.L.length<=140737488355328/\i.length<=140737488355328/\arg_.length<=140737488355328/\(∀x,x∈i->x.fit)/\cY arg_
def cY:List Ex->Prop
 |[]=>True
 |a::r=>a.fit/\cY r
end
theorem fitL_mem {l:List Ex} (h:cY l):∀a,a∈l->a.fit:=by
 induction l with
 |nil=>intro a ha;cases ha
 |cons x r ih=>
  intro a ha
  rcases List.mem_cons.1 ha with rfl|ha
  ·exact h.1
  ·exact ih h.2 a ha
theorem Ex.fit_eq {e:Ex} (h:e.fit):e.Lin.L.length<=140737488355328/\e.Idx.length<=140737488355328/\e.Args.length<=140737488355328/\(∀x,x∈e.Idx->x.fit)/\∀a,a∈e.Args->a.fit:=by
 cases e with
 |mk o n v t l i arg_=>rw [Ex.fit] at h;exact ⟨h.1,h.2.1,h.2.2.1,h.2.2.2.1,fitL_mem h.2.2.2.2⟩
theorem zPq (m:Nat):∀(l:List Lf) (n:Nat),n<=gF m n l
 |[],n=>Nat.le_refl _
 |x::r,n=>by
  rw [gF];split
  ·have:=zPq m r (n+x.L.length);omega
  ·omega
theorem zTx (m:Nat):∀(l:List Ix) (n:Nat),n<=fJ m n l
 |[],n=>Nat.le_refl _
 |x::r,n=>by
  rw [fJ];split
  ·have h1:=zPq m x.At (n+x.Lin.L.length+x.At.length)
   have:=zTx m r (gF m (n+x.Lin.L.length+x.At.length) x.At);omega
  ·omega
theorem zUa (m:Nat):∀(l:List Lf) (n:Nat),gF m n l<=m->n+fC l<=gF m n l
 |[],n,_=>by simp [gF,fC]
 |y::r,n,h=>by
  have hn:n<=m:=Nat.le_trans (zPq m (y::r) n) h
  rw [gF,if_pos hn] at h⊢
  have:=zUa m r _ h
  rw [fC];omega
theorem zRc (m:Nat):∀(l:List Ix) (n:Nat),fJ m n l<=m->n+dL l<=fJ m n l
 |[],n,_=>by simp [fJ,dL]
 |x::r,n,h=>by
  have hn:n<=m:=Nat.le_trans (zTx m (x::r) n) h
  rw [fJ,if_pos hn] at h⊢
  have h1:=zRc m r _ h
  have h2:=zUa m x.At (n+x.Lin.L.length+x.At.length) zA
  rw [dL,Ix.wt];omega
mutual
theorem zTz:∀(e:Ex) (m:Nat),fW e m<=m->e.wt<=fW e m
 |.mk o n v t l i arg_,m,h=>by
  rw [fW] at h⊢
  have h1:=weighL_wt arg_ m _ h
  have h2:=zRc m i (1+l.L.length+i.length) zA
  rw [Ex.wt];omega
theorem weighL_wt:∀(l:List Ex) (m n:Nat),jO l m n<=m->n+dY l<=jO l m n
 |[],m,n,h=>by simp [jO,dY]
 |a::r,m,n,h=>by
  by_cases hn:n<=m
  ·rw [jO,if_pos hn] at h⊢
   have h1:=weighL_wt r m _ h
   have h2:=zTz a (m-n) zA
   rw [dY];omega
  ·rw [jO,if_neg hn] at h;omega
end
theorem weighAt_le {m:Nat}:∀(l:List Lf) (n B:Nat),(∀x,x∈l->x.L.length<=140737488355328)->n<=B->m+140737488355328<=B->gF m n l<=B
 |[],n,B,_,h,_=>by simpa [gF] using h
 |x::r,n,B,hx,h,hb=>by
  rw [gF];split
  ·have:=hx x uD
   exact weighAt_le r _ B (fun y hy=>hx y (by simp [hy])) zA hb
  ·exact h
theorem zTw {m:Nat}:∀(l:List Ix) (n B:Nat),(∀x,x∈l->x.fit)->n<=B->m+3*140737488355328<=B->fJ m n l<=B
 |[],n,B,_,h,_=>by simpa [fJ] using h
 |x::r,n,B,hx,h,hb=>by
  rw [fJ];split
  ·obtain ⟨h1,h2,h3⟩:=hx x uD
   exact zTw r _ B (fun y hy=>hx y (by simp [hy])) (weighAt_le x.At _ B h3 zA zA) hb
  ·exact h
mutual
theorem zHb:∀(e:Ex) (m:Nat),e.fit->fW e m<=m+4*140737488355328
 |.mk o n v t l i arg_,m,h=>by
  rw [Ex.fit] at h
  obtain ⟨h1,h2,h3,h4,h5⟩:=h
  rw [fW]
  exact weighL_le arg_ m _ h5 (zTw i _ _ h4 zA zA)
theorem weighL_le:∀(l:List Ex) (m n:Nat),cY l->n<=m+4*140737488355328->jO l m n<=m+4*140737488355328
 |[],m,n,_,h=>by simpa [jO] using h
 |a::r,m,n,hf,h=>by
  rw [jO];split
  ·have:=zHb a (m-n) hf.1
   exact weighL_le r m _ hf.2 zA
  ·exact h
end
theorem weighIdx_end {m n k:Nat} {l:List Ix} {x:Int} (hx:x=m) (h:l.length<=k∨x<n):n=fJ m n (l.drop k):=by
 by_cases hk:k<l.length
 ·obtain ⟨a,ha⟩:=qY l k hk
  rw [qP ha,fJ,if_neg zA]
 ·rw [kK hk,fJ]
theorem weighAt_end {m n k:Nat} {l:List Lf} {x:Int} (hx:x=m) (h:l.length<=k∨x<n):n=gF m n (l.drop k):=by
 by_cases hk:k<l.length
 ·obtain ⟨a,ha⟩:=qY l k hk
  rw [qP ha,gF,if_neg zA]
 ·rw [kK hk,gF]
theorem weighL_end {m n k:Nat} {l:List Ex} {x:Int} (hx:x=m) (h:l.length<=k∨x<n):n=jO (l.drop k) m n:=by
 by_cases hk:k<l.length
 ·obtain ⟨a,ha⟩:=qY l k hk
  rw [qP ha,jO,if_neg zA]
 ·rw [kK hk,jO]
/-! ## Forms mapped -/
def fE (f:Lf->Lf×Int) (l:Lf):Except Int Lf:=if (f l).2=0 then .ok (f l).1 else .error (f l).2
def gB (f:Lf->Lf×Int):List Lf->Except Int (List Lf)
 |[]=>.ok []
 |l::r=>match fE f l with
  |.error x=>.error x
  |.ok l'=>match gB f r with
   |.error x=>.error x
   |.ok r'=>.ok (l'::r')
def mIx (f:Lf->Lf×Int) (x:Ix):Except Int Ix:=match fE f x.Lin with
 |.error y=>.error y
 |.ok l=>match gB f x.At with
  |.error y=>.error y
  |.ok a=>.ok ⟨l,x.From,a⟩
def fZ (f:Lf->Lf×Int):List Ix->Except Int (List Ix)
 |[]=>.ok []
 |x::r=>match mIx f x with
  |.error y=>.error y
  |.ok x'=>match fZ f r with
   |.error y=>.error y
   |.ok r'=>.ok (x'::r')
mutual
def mEx (f:Lf->Lf×Int):Ex->Except Int Ex
 |.mk o n v t l i arg_=>match fE f l with
  |.error y=>.error y
  |.ok l'=>match fZ f i with
   |.error y=>.error y
   |.ok i'=>match jK f arg_ with
    |.error y=>.error y
    |.ok as'=>.ok (.mk o n v t l' i' as')
def jK (f:Lf->Lf×Int):List Ex->Except Int (List Ex)
 |[]=>.ok []
 |a::r=>match mEx f a with
  |.error y=>.error y
  |.ok a'=>match jK f r with
   |.error y=>.error y
   |.ok r'=>.ok (a'::r')
end
def zEx:Ex:=.mk 0 (bs []) ⟨0,0⟩ ⟨0,0,0,0,0⟩ ⟨0,[]⟩ [] []
def xL:Except Int Ex->Ex
 |.ok e=>e
 |.error _=>zEx
def jM {α:Type}:Except Int α->Int
 |.ok _=>0
 |.error x=>x
def lI {α β:Type} (a:Except Int α) (g:α->β):Except Int β:=match a with
 |.error y=>.error y
 |.ok x=>.ok (g x)
theorem mEx_eq (f:Lf->Lf×Int) (e:Ex):mEx f e=match fE f e.Lin with
  |.error y=>.error y
  |.ok l'=>match fZ f e.Idx with
   |.error y=>.error y
   |.ok i'=>match jK f e.Args with
    |.error y=>.error y
    |.ok as'=>.ok (.mk e.Op e.Name e.Val e.Ty l' i' as'):=by cases e;rw [mEx];rfl
theorem zSd {f:Lf->Lf×Int} {l:Lf} (h:(f l).2=0):fE f l=.ok (f l).1:=if_pos h
theorem fE_err {f:Lf->Lf×Int} {l:Lf} (h:¬(f l).2=0):fE f l=.error (f l).2:=if_neg h
def dN {α:Type} (done:List α) (x:Except Int (List α)):Except Int (List α):=lI x (done++ ·)
theorem zIl {α:Type} (x:Except Int (List α)):dN [] x=x:=by cases x<;>rfl
theorem mLins_next {f:Lf->Lf×Int} {l:List Lf} {k:Nat} {x:Lf} {done:List Lf} (h:l[k]? =some x) (hp:gB f l=dN done (gB f (l.drop k))) (hx:(f x).2=0):gB f l=dN (done++[(f x).1]) (gB f (l.drop (k+1))):=by
 rw [hp,qP h,gB,zSd hx]
 cases gB f (l.drop (k+1))<;>simp [dN,lI]
theorem mLins_no {f:Lf->Lf×Int} {l:List Lf} {k:Nat} {x:Lf} {done:List Lf} (h:l[k]? =some x) (hp:gB f l=dN done (gB f (l.drop k))) (hx:¬(f x).2=0):gB f l=.error (f x).2:=by
 rw [hp,qP h,gB,fE_err hx];rfl
theorem mLins_end {f:Lf->Lf×Int} {l:List Lf} {k:Nat} {done:List Lf} (hp:gB f l=dN done (gB f (l.drop k))) (h:¬k<l.length):gB f l=.ok done:=by
 rw [hp,kK h];simp [gB,dN,lI]
theorem mIxs_next {f:Lf->Lf×Int} {l:List Ix} {k:Nat} {x y:Ix} {done:List Ix} (h:l[k]? =some x) (hp:fZ f l=dN done (fZ f (l.drop k))) (hx:mIx f x=.ok y):fZ f l=dN (done++[y]) (fZ f (l.drop (k+1))):=by
 rw [hp,qP h,fZ,hx]
 cases fZ f (l.drop (k+1))<;>simp [dN,lI]
theorem mIxs_no {f:Lf->Lf×Int} {l:List Ix} {k:Nat} {x:Ix} {done:List Ix} {c:Int} (h:l[k]? =some x) (hp:fZ f l=dN done (fZ f (l.drop k))) (hx:mIx f x=.error c):fZ f l=.error c:=by
 rw [hp,qP h,fZ,hx];rfl
theorem mIxs_end {f:Lf->Lf×Int} {l:List Ix} {k:Nat} {done:List Ix} (hp:fZ f l=dN done (fZ f (l.drop k))) (h:¬k<l.length):fZ f l=.ok done:=by
 rw [hp,kK h];simp [fZ,dN,lI]
theorem errE_ok {α:Type} {x:Except Int α} (h:jM x=0) (h2:x≠ .error 0):∃a,x=.ok a:=by
 cases x with
 |ok a=>exact ⟨a,rfl⟩
 |error y=>exact absurd (by rw [show y=0 from h]) h2
theorem fE_ne {f:Lf->Lf×Int} {l:Lf}:fE f l≠ .error 0:=by
 unfold fE;split
 ·simp
 ·rename_i h;intro hh;exact h (Except.error.inj hh)
theorem mLins_ne {f:Lf->Lf×Int}:∀{l:List Lf},gB f l≠ .error 0
 |[]=>by simp [gB]
 |x::r=>by
  rw [gB]
  cases h1:fE f x with
  |error y=>intro h;cases h;exact fE_ne h1
  |ok a=>
   cases h2:gB f r with
   |error y=>intro h;cases h;exact mLins_ne h2
   |ok a=>simp
theorem mIx_ne {f:Lf->Lf×Int} {x:Ix}:mIx f x≠ .error 0:=by
 rw [mIx]
 cases h1:fE f x.Lin with
 |error y=>intro h;cases h;exact fE_ne h1
 |ok a=>
  cases h2:gB f x.At with
  |error y=>intro h;cases h;exact mLins_ne h2
  |ok a=>simp
theorem mIxs_ne {f:Lf->Lf×Int}:∀{l:List Ix},fZ f l≠ .error 0
 |[]=>by simp [fZ]
 |x::r=>by
  rw [fZ]
  cases h1:mIx f x with
  |error y=>intro h;cases h;exact mIx_ne h1
  |ok a=>
   cases h2:fZ f r with
   |error y=>intro h;cases h;exact mIxs_ne h2
   |ok a=>simp
mutual
theorem mEx_ne {f:Lf->Lf×Int}:∀e:Ex,mEx f e≠ .error 0
 |.mk o n v t l i arg_=>by
  rw [mEx]
  cases h1:fE f l with
  |error y=>intro h;cases h;exact fE_ne h1
  |ok a=>
   cases h2:fZ f i with
   |error y=>intro h;cases h;exact mIxs_ne h2
   |ok a=>
    cases h3:jK f arg_ with
    |error y=>intro h;cases h;exact mExs_ne arg_ h3
    |ok a=>simp
theorem mExs_ne {f:Lf->Lf×Int}:∀l:List Ex,jK f l≠ .error 0
 |[]=>by simp [jK]
 |x::r=>by
  rw [jK]
  cases h1:mEx f x with
  |error y=>intro h;cases h;exact mEx_ne x h1
  |ok a=>
   cases h2:jK f r with
   |error y=>intro h;cases h;exact mExs_ne r h2
   |ok a=>simp
end
theorem mExs_next {f:Lf->Lf×Int} {l:List Ex} {k:Nat} {x:Ex} {done:List Ex} (h:l[k]? =some x) (hp:jK f l=dN done (jK f (l.drop k))) (hx:jM (mEx f x)=0):jK f l=dN (done++[xL (mEx f x)]) (jK f (l.drop (k+1))):=by
 rw [hp,qP h,jK]
 obtain ⟨y,hy⟩:=errE_ok hx (mEx_ne x)
 rw [hy]
 cases jK f (l.drop (k+1))<;>simp [dN,lI,xL]
theorem mExs_no {f:Lf->Lf×Int} {l:List Ex} {k:Nat} {x:Ex} {done:List Ex} (h:l[k]? =some x) (hp:jK f l=dN done (jK f (l.drop k))) (hx:¬jM (mEx f x)=0):jK f l=.error (jM (mEx f x)):=by
 rw [hp,qP h,jK]
 cases hm:mEx f x with
 |error y=>rfl
 |ok y=>rw [hm] at hx;exact absurd rfl hx
theorem mExs_end {f:Lf->Lf×Int} {l:List Ex} {k:Nat} {done:List Ex} (hp:jK f l=dN done (jK f (l.drop k))) (h:¬k<l.length):jK f l=.ok done:=by
 rw [hp,kK h];simp [jK,dN,lI]
def idF (l:Lf):Lf×Int:=(l,0)
theorem mLins_id:∀l:List Lf,gB idF l=.ok l
 |[]=>rfl
 |x::r=>by rw [gB,zSd rfl,mLins_id r];rfl
theorem mIx_id (x:Ix):mIx idF x=.ok x:=by rw [mIx,zSd rfl,mLins_id];rfl
theorem mIxs_id:∀l:List Ix,fZ idF l=.ok l
 |[]=>rfl
 |x::r=>by rw [fZ,mIx_id,mIxs_id r]
mutual
theorem mEx_id:∀e:Ex,mEx idF e=.ok e
 |.mk o n v t l i arg_=>by rw [mEx,zSd rfl,mIxs_id,mExs_id arg_];rfl
theorem mExs_id:∀l:List Ex,jK idF l=.ok l
 |[]=>by rw [jK]
 |x::r=>by rw [jK,mEx_id x,mExs_id r]
end
/-! ## A row in the middle -/
theorem mid_get {α:Type} {f:α->List C} {A:List (List C)} {l:List α} {k:Nat} {x:α} (hA:A.length=k) (h:l[k]? =some x):(A++(l.drop k).map f)[k]? =some (f x):=by
 rw [qP h,List.map_cons,List.getElem?_append_right zA,hA];simp
theorem zVr {α:Type} {f:α->List C} {A:List (List C)} {l:List α} {k:Nat} (hA:A.length=k) (h:k<l.length):((k:Int)).toNat<(A++(l.drop k).map f).length:=by
 simp;omega
theorem zQi {α:Type} {f:α->List C} {A:List (List C)} {l:List α} {k:Nat} {x:α} {r:List C} (hA:A.length=k) (h:l[k]? =some x):(A++(l.drop k).map f).set k r=(A++[r])++(l.drop (k+1)).map f:=by
 rw [qP h,List.map_cons,List.set_append_right _ _ zA,hA];simp
theorem mid_set' {α:Type} {f:α->List C} {A B:List (List C)} {l:List α} {k:Nat} {r r':List C} (hA:A.length=k):((A++[r])++B).set k r'=(A++[r'])++B:=by
 rw [List.append_assoc,List.set_append_right _ _ zA,hA];simp
theorem zCm {A:List (List C)} {k:Nat} {r:List C} (h:k<A.length):(A.set k r)[k]? =some r:=by
 rw [List.getElem?_set_self h]
theorem mid_getE {A:List (List C)} {l:List Ex} {k:Nat} {x:Ex} (hA:A.length=k) (h:l[k]? =some x):(A++(l.drop k).map Ex.cells)[k]? =some x.cs:=by
 rw [mid_get hA h,Ex.cells_eq]
theorem mEx_e1 {f:Lf->Lf×Int} {e:Ex} (h:¬(f e.Lin).2=0):mEx f e=.error (f e.Lin).2:=by rw [mEx_eq,fE_err h]
theorem mEx_e2 {f:Lf->Lf×Int} {e:Ex} {c:Int} (h:(f e.Lin).2=0) (h2:fZ f e.Idx=.error c):mEx f e=.error c:=by rw [mEx_eq,zSd h,h2]
theorem mEx_e3 {f:Lf->Lf×Int} {e:Ex} {c:Int} {i:List Ix} (h:(f e.Lin).2=0) (h2:fZ f e.Idx=.ok i) (h3:jK f e.Args=.error c):mEx f e=.error c:=by rw [mEx_eq,zSd h,h2,h3]
theorem mEx_ok {f:Lf->Lf×Int} {e:Ex} {i:List Ix} {a:List Ex} (h:(f e.Lin).2=0) (h2:fZ f e.Idx=.ok i) (h3:jK f e.Args=.ok a):mEx f e=.ok (.mk e.Op e.Name e.Val e.Ty (f e.Lin).1 i a):=by rw [mEx_eq,zSd h,h2,h3]
theorem mIx_e1 {f:Lf->Lf×Int} {x:Ix} (h:¬(f x.Lin).2=0):mIx f x=.error (f x.Lin).2:=by rw [mIx,fE_err h]
theorem mIx_e2 {f:Lf->Lf×Int} {x:Ix} {c:Int} (h:(f x.Lin).2=0) (h2:gB f x.At=.error c):mIx f x=.error c:=by rw [mIx,zSd h,h2]
theorem mIx_ok {f:Lf->Lf×Int} {x:Ix} {a:List Lf} (h:(f x.Lin).2=0) (h2:gB f x.At=.ok a):mIx f x=.ok ⟨(f x.Lin).1,x.From,a⟩:=by rw [mIx,zSd h,h2]
def Ex.allF (P:Lf->Prop) (e:Ex):Prop:=∀x,x∈bW e->∀l,l∈dP x->P l
theorem Ex.allF_lin {P:Lf->Prop} {e:Ex} (h:e.allF P):P e.Lin:=h e (by rw [kT];simp) _ (by unfold dP;simp)
theorem Ex.allF_ix {P:Lf->Prop} {e:Ex} (h:e.allF P) {x:Ix} (hx:x∈e.Idx):P x.Lin:=h e (by rw [kT];simp) _ (by unfold dP;exact List.mem_cons_of_mem _ (List.mem_flatMap.2 ⟨x,hx,uD⟩))
theorem Ex.allF_at {P:Lf->Prop} {e:Ex} (h:e.allF P) {x:Ix} (hx:x∈e.Idx) {l:Lf} (hl:l∈x.At):P l:=h e (by rw [kT];simp) _ (by unfold dP;exact List.mem_cons_of_mem _ (List.mem_flatMap.2 ⟨x,hx,by simp [hl]⟩))
theorem zEp {a x:Ex}:∀{l:List Ex},a∈l->x∈bW a->x∈bO l
 |[],h,_=>by cases h
 |b::r,h,hx=>by
  rw [bO,List.mem_append]
  rcases List.mem_cons.1 h with rfl|h
  ·exact .inl hx
  ·exact .inr (zEp h hx)
theorem Ex.allF_arg {P:Lf->Prop} {e:Ex} (h:e.allF P) {a:Ex} (ha:a∈e.Args):a.allF P:=fun x hx=>h x (by rw [kT];exact List.mem_cons_of_mem _ (zEp ha hx))
/-! ## Counts: all but the lengths of forms -/
def rX:List Ix->Nat
 |[]=>0
 |x::r=>x.At.length+rX r
mutual
def Ex.cnt:Ex->Nat
 |.mk _ _ _ _ _ i r=>1+i.length+rX i+tC r
def tC:List Ex->Nat
 |[]=>0
 |e::r=>e.cnt+tC r
end
theorem Ex.cnt_eq (e:Ex):e.cnt=1+e.Idx.length+rX e.Idx+tC e.Args:=by cases e;rw [Ex.cnt];rfl
theorem Ex.cnt_pos (e:Ex):1<=e.cnt:=by rw [Ex.cnt_eq];omega
theorem ixCnt_mem {l:List Ix} {x:Ix} (h:x∈l):x.At.length<=rX l:=by
 induction l with
 |nil=>cases h
 |cons a r ih=>
  rw [rX]
  exact l9
theorem cntL_len (l:List Ex):l.length<=tC l:=by
 induction l with
 |nil=>simp [tC]
 |cons a r ih=>rw [tC,List.length_cons];have:=a.cnt_pos;omega
theorem cntL_mem {l:List Ex} {a:Ex} (h:a∈l):a.cnt<=tC l:=by
 induction l with
 |nil=>cases h
 |cons x r ih=>
  rw [tC]
  exact l9
theorem Ex.cparts {e:Ex} {B:Nat} (h:e.cnt<=B):e.Idx.length<=B/\e.Args.length<=B/\∀x,x∈e.Idx->x.At.length<=B:=by
 rw [Ex.cnt_eq] at h
 have:=cntL_len e.Args
 exact ⟨zA,zA,fun x hx=>by have:=ixCnt_mem hx;omega⟩
theorem Ex.arg_cnt {e a:Ex} (h:a∈e.Args):a.cnt<e.cnt:=by
 rw [Ex.cnt_eq e];have:=cntL_mem h;omega
theorem ixCnt_le (l:List Ix):rX l<=dL l:=by
 induction l with
 |nil=>simp [rX]
 |cons x r ih=>rw [rX,dL,Ix.wt];omega
theorem Ex.cnt_le (e:Ex):e.cnt<=e.wt:=by
 induction e using Ex.ind with
 |_ e ih=>
  rw [Ex.cnt_eq,Ex.wt_eq]
  have h1:=ixCnt_le e.Idx
  have h2:∀l:List Ex,(∀a,a∈l->a.cnt<=a.wt)->tC l<=dY l:=by
   intro l
   induction l with
   |nil=>intro _;simp [tC]
   |cons a r ihr=>
    intro h
    rw [tC,dY]
    have:=h a uD
    have:=ihr fun b hb=>h b (by simp [hb])
    omega
  have:=h2 e.Args ih
  omega
end Go.Br
end
section
namespace Go.Br
open Go Go.Eng Go.L41
theorem errsL_mem {l:List Ex} (h:jD l=0):∀x,x∈l->bZ x=0:=by
 induction l with
 |nil=>intro x hx;cases hx
 |cons y r ih=>
  intro x hx
  rw [jD] at h
  by_cases hy:bZ y=0
  ·rw [wR hy,cond_true] at h
   rcases List.mem_cons.1 hx with rfl|hx
   ·exact hy
   ·exact ih h x hx
  ·rw [qW hy,cond_false] at h;exact absurd h hy
theorem zBo {e:Ex} (h:dJ e=0):bZ e=0:=errsL_mem h e (by rw [kT];simp)
theorem zHi {e a:Ex} (h:dJ e=0) (ha:a∈e.Args):dJ a=0:=by
 have hn:=zBo h
 rw [zGl,wR hn,cond_true] at h
 obtain ⟨k,hk⟩:=List.getElem?_of_mem ha
 have:∀l:List Ex,sX l=0->a∈l->dJ a=0:=by
  intro l
  induction l with
  |nil=>intro _ h;cases h
  |cons y r ih=>
   intro h hm
   rw [zQe] at h
   by_cases hy:dJ y=0
   ·rw [wR hy,cond_true] at h
    rcases List.mem_cons.1 hm with rfl|hm
    ·exact hy
    ·exact ih h hm
   ·rw [qW hy,cond_false] at h;exact absurd h hy
 exact this _ h ha
theorem zDa {e:Ex} (h:fY e=0):dJ e=0:=by
 unfold fY at h
 by_cases h1:40<lS 40 e
 ·rw [wR h1] at h;simp at h
 ·rw [qW h1,cond_false] at h
  by_cases h2:(2000:Int)<szT e
  ·rw [wR h2] at h;simp at h
  ·rwa [qW h2,cond_false] at h
theorem zGn {e:Ex} (h:bZ e=0):jS e=true/\nA e=true/\mS e=true/\jP e=true/\lR e=true:=by
 unfold bZ at h
 cases h1:jS e<;>rw [h1] at h<;>simp at h
 cases h2:nA e<;>rw [h2] at h<;>simp at h
 cases h3:mS e<;>rw [h3] at h<;>simp at h
 cases h4:jP e<;>rw [h4] at h<;>simp at h
 cases h5:lR e<;>rw [h5] at h<;>simp at h
 simp
theorem zVp {e:Ex} (h:bZ e=0):(e.Args.length:Int)=bL e.Op:=by
 have:=(zGn h).2.2.1
 simp only [mS,Bool.and_eq_true,Bool.not_eq_true',Bool.or_eq_false_iff,Bool.not_eq_false',decide_eq_true_eq] at this
 exact this.1.1
def zL:Lf:=⟨0,[]⟩
end Go.Br
end
section
namespace Go.Br
open Go Go.Eng Go.L41
structure Cn where
 Lin:Lf
 Eq:Bool
 deriving DecidableEq
structure Ax where
 Name:ByteArray
 Size:Lf
 deriving DecidableEq
structure Pm where
 Name:ByteArray
 T:Ty
 Dims:List Lf
 deriving DecidableEq
structure Df where
 Name:ByteArray
 T:Ty
 Dims:List Ax
 Red:List Ax
 Fold:Int
 Body:Ex
 deriving DecidableEq
structure Pg where
 Sizes:List ByteArray
 Where:List Cn
 Params:List Pm
 Defs:List Df
 Outs:List ByteArray
 deriving DecidableEq
def Cn.cells (x:Cn):List C:=[cI x.Lin.K,.sl 2 (x.Lin.L.map Mono.cells),cB x.Eq]
def Ax.cells (x:Ax):List C:=[cS x.Name,cI x.Size.K,.sl 2 (x.Size.L.map Mono.cells)]
def Pm.cells (x:Pm):List C:=[cS x.Name,cI x.T.Kind,cI x.T.Bits,cI x.T.Frac,cI x.T.Round,cI x.T.Over,.sl 2 (x.Dims.map Lf.cells)]
def Df.cells (x:Df):List C:=[cS x.Name,cI x.T.Kind,cI x.T.Bits,cI x.T.Frac,cI x.T.Round,cI x.T.Over,.sl 3 (x.Dims.map Ax.cells),.sl 3 (x.Red.map Ax.cells),cI x.Fold,
 cI x.Body.Op,cS x.Body.Name,cI x.Body.Val.N,cI x.Body.Val.D,cI x.Body.Ty.Kind,cI x.Body.Ty.Bits,cI x.Body.Ty.Frac,cI x.Body.Ty.Round,cI x.Body.Ty.Over,cI x.Body.Lin.K,.sl 2 (x.Body.Lin.L.map Mono.cells),.sl 4 (x.Body.Idx.map Ix.cells),.sl 13 (x.Body.Args.map Ex.cells)]
def Pg.cells (p:Pg):List C:=[.sl 1 (p.Sizes.map fun s=>[cS s]),.sl 3 (p.Where.map Cn.cells),.sl 7 (p.Params.map Pm.cells),.sl 22 (p.Defs.map Df.cells),.sl 1 (p.Outs.map fun s=>[cS s])]
def cA (l:Lf):Prop:=l.L.length<=140737488355328
def Pm.fit (x:Pm):Prop:=x.Dims.length<=140737488355328/\∀l,l∈x.Dims->cA l
def Df.fit (d:Df):Prop:=d.Dims.length<=140737488355328/\d.Red.length<=140737488355328/\(∀a,a∈d.Dims->cA a.Size)/\(∀a,a∈d.Red->cA a.Size)/\d.Body.fit
structure Pg.Fit (p:Pg):Prop where
 sizes:p.Sizes.length<=140737488355328
 wh:p.Where.length<=140737488355328
 params:p.Params.length<=140737488355328
 defs:p.Defs.length<=140737488355328
 outs:p.Outs.length<=140737488355328
 whs:∀c,c∈p.Where->cA c.Lin
 ps:∀x,x∈p.Params->x.fit
 ds:∀d,d∈p.Defs->d.fit
def zTy:Ty:=⟨0,0,0,0,0⟩
def iTy:Ty:=⟨3,0,0,0,0⟩
/-! ## Find -/
structure Fd where
 ty:Ty
 dims:List Lf
 ok:Bool
structure En where
 sz:List ByteArray
 pm:List Pm
 df:List Df
def Pg.en (p:Pg):En:=⟨p.Sizes,p.Params,p.Defs⟩
def dW (l:List Ty) (i:Nat):Ty:=l.getD i zTy
mutual
def fA (N:Ex->List Ty->Ty×Int):Ex->Ty×Int
 |.mk o nm v t l i arg_=>if (bQ N arg_).2=0 then N (.mk o nm v t l i arg_) (bQ N arg_).1 else (zTy,(bQ N arg_).2)
def bQ (N:Ex->List Ty->Ty×Int):List Ex->List Ty×Int
 |[]=>([],0)
 |a::r=>if (fA N a).2=0 then (if (bQ N r).2=0 then ((fA N a).1::(bQ N r).1,0) else ([],(bQ N r).2)) else ([],(fA N a).2)
end
theorem zSx (N:Ex->List Ty->Ty×Int) (e:Ex):fA N e=if (bQ N e.Args).2=0 then N e (bQ N e.Args).1 else (zTy,(bQ N e.Args).2):=by
 cases e;rw [fA];rfl
theorem node_op {e:Ex} (h:bZ e=0):1<=e.Op/\e.Op<=18:=by
 have:=(zGn h).1
 simp only [jS,Bool.and_eq_true,Bool.not_eq_true',Bool.or_eq_false_iff,decide_eq_false_iff_not] at this
 obtain ⟨⟨⟨⟨⟨⟨h1,h2⟩,_⟩,_⟩,_⟩,_⟩,_⟩:=this
 exact ⟨zA,zA⟩
def xZ (p:Pg):Prop:=p.Sizes.length<=64/\p.Params.length<=64/\p.Defs.length<=64/\p.Outs.length<=64/\p.Where.length<=256
instance (p:Pg):Decidable (xZ p):=by unfold xZ;infer_instance
abbrev Kn:=List (ByteArray×Int)
def tA (m:Kn) (s:ByteArray):Int:=(jA m s).getD 0
end Go.Br
end
section
namespace Go.Br
open Go Go.Eng Go.L41
theorem zWh (a b:List ByteArray) (s:ByteArray):dD (a++b) s=(dD a s||dD b s):=by simp [dD,List.any_append]
theorem hasB_one (s t:ByteArray):dD [s] t=decide (s=t):=by simp [dD]
theorem mget_mput' (m:Kn) (k s:ByteArray) (a:Int):jA (lL m k a) s=if k=s then some a else jA m s:=by
 induction m with
 |nil=>simp [lL,jA]
 |cons x r ih=>
  obtain ⟨k',b⟩:=x
  by_cases h:k'=k
  ·subst h
   simp only [lL,if_true,jA]
   by_cases h2:k'=s<;>simp [h2]
  ·simp only [lL,h,if_false,jA,ih]
   by_cases h2:k'=s
   ·subst h2;rw [if_pos rfl,if_neg (fun e:k=k'=>h e.symm),if_pos rfl]
   ·simp [h2]
theorem zWf (m:Kn) (k s:ByteArray) (a:Int):tA (lL m k a) s=if k=s then a else tA m s:=by
 unfold tA;rw [mget_mput'];by_cases h:k=s<;>simp [h]
structure Rel (m:Kn) (sz tn:List ByteArray):Prop where
 one:∀s,tA m s=1↔dD sz s=true
 two:∀s,tA m s=2↔dD tn s=true
 zero:∀s,tA m s=0↔dD (sz++tn) s=false
theorem Rel.nil:Rel [] [] []:=⟨fun s=>by simp [tA,jA,dD],fun s=>by simp [tA,jA,dD],fun s=>by simp [tA,jA,dD]⟩
theorem Rel.size {m:Kn} {sz:List ByteArray} (h:Rel m sz []) {s:ByteArray} (h0:tA m s=0):Rel (lL m s 1) (sz++[s]) []:=by
 refine ⟨fun t=>?_,fun t=>?_,fun t=>?_⟩
 ·rw [zWf,zWh,hasB_one]
  by_cases e:s=t
  ·simp [e]
  ·simp [e,h.one t]
 ·rw [zWf]
  by_cases e:s=t
  ·simp [e,dD]
  ·simp [e,h.two t]
 ·rw [zWf,List.append_nil,zWh,hasB_one]
  by_cases e:s=t
  ·simp [e]
  ·have:=h.zero t
   rw [List.append_nil] at this
   simp [e,this]
end Go.Br
end
section
namespace Go.Br
open Go Go.Eng Go.L41
structure Pg.Ok (p:Pg):Prop where
 sizes:p.Sizes.length<=4294967296
 wh:p.Where.length<=4294967296
 params:p.Params.length<=4294967296
 defs:p.Defs.length<=4294967296
 outs:p.Outs.length<=4294967296
 whs:∀c,c∈p.Where->c.Lin.L.length<=5864062014805
 ps:∀x,x∈p.Params->x.Dims.length<=4294967296/\∀l,l∈x.Dims->l.L.length<=5864062014805
 ds:∀d,d∈p.Defs->d.Dims.length<=1073741824/\d.Red.length<=1073741824/\(∀a,a∈d.Dims->a.Size.L.length<=5864062014805)/\(∀a,a∈d.Red->a.Size.L.length<=5864062014805)/\d.Body.wt<=4294967296
theorem Pg.Ok.take {p:Pg} (h:p.Ok) (k:Nat):Pg.Ok ⟨p.Sizes,p.Where,p.Params,p.Defs.take k,p.Outs⟩:=
 ⟨h.sizes,h.wh,h.params,by have:=h.defs;simp only [List.length_take];omega,h.outs,h.whs,h.ps,fun d hd=>h.ds d (List.mem_of_mem_take hd)⟩
end Go.Br
end
section
namespace Go.Br
open Go Go.Eng Go.L41
abbrev vP (b:Nat):V:=.c (.lit (.pointer (some ⟨b,0,none⟩)))
theorem linErr_no {l:Lf} (h:¬dZ l=0):dC l=false:=by
 cases c:dC l
 ·rfl
 ·exact absurd (by simp [dZ,c]) h
theorem zQl {l:Lf} (h:dZ l=0):dC l=true:=by
 cases c:dC l
 ·simp [dZ,c] at h
 ·rfl
def kn (m:Kn) (s:ByteArray):Bool:= !decide (tA m s=0)
def tyC (t:Ty):List C:=[cI t.Kind,cI t.Bits,cI t.Frac,cI t.Round,cI t.Over]
theorem zUg (a b:Ty):bT [cI a.Kind,cI a.Bits,cI a.Frac,cI a.Round,cI a.Over] [cI b.Kind,cI b.Bits,cI b.Frac,cI b.Round,cI b.Over]=decide (a=b):=by
 obtain ⟨a1,a2,a3,a4,a5⟩:=a
 obtain ⟨b1,b2,b3,b4,b5⟩:=b
 simp only [bT,cEq,Ty.mk.injEq,Bool.and_true,Bool.decide_and]
theorem zKi (N:Ex->List Ty->Ty×Int):∀(a b:List Ex),(bQ N a).2=0->bQ N (a++b)=if (bQ N b).2=0 then ((bQ N a).1++(bQ N b).1,0) else ([],(bQ N b).2)
 |[],b,_=>by
  simp only [List.nil_append,bQ,List.nil_append]
  cases b with
  |nil=>simp [bQ]
  |cons x r=>
   simp only [bQ]
   by_cases h1:(fA N x).2=0
   ·by_cases h2:(bQ N r).2=0
    ·simp [h1,h2]
    ·simp [h1,h2]
   ·simp [h1]
 |x::r,b,h=>by
  rw [bQ] at h
  by_cases h1:(fA N x).2=0
  ·rw [if_pos h1] at h
   by_cases h2:(bQ N r).2=0
   ·rw [List.cons_append,bQ,if_pos h1,zKi N r b h2]
    rw [bQ,if_pos h1,if_pos h2]
    by_cases h3:(bQ N b).2=0
    ·simp [h3]
    ·simp [h3]
   ·rw [if_neg h2] at h;exact absurd h h2
  ·rw [if_neg h1] at h;exact absurd h h1
theorem zFm {N:Ex->List Ty->Ty×Int} {l:List Ex} {k:Nat} {x:Ex} (h:l[k]? =some x) (hp:(bQ N (l.take k)).2=0) (hx:(fA N x).2=0):bQ N (l.take (k+1))=((bQ N (l.take k)).1++[(fA N x).1],0):=by
 rw [yQ h,zKi N _ _ hp];simp [bQ,hx]
theorem nodeL_no {N:Ex->List Ty->Ty×Int} {l:List Ex} {k:Nat} {x:Ex} (h:l[k]? =some x) (hp:(bQ N (l.take k)).2=0) (hx:¬(fA N x).2=0):(bQ N l).2=(fA N x).2:=by
 have e:l=l.take k++(x::l.drop (k+1)):=by rw [←qP h,List.take_append_drop]
 rw [e,zKi N _ _ hp]
 simp [bQ,hx]
theorem zHk (N:Ex->List Ty->Ty×Int):∀l:List Ex,(bQ N l).2=0->(bQ N l).1.length=l.length
 |[],_=>rfl
 |x::r,h=>by
  rw [bQ] at h⊢
  by_cases h1:(fA N x).2=0
  ·rw [if_pos h1] at h⊢
   by_cases h2:(bQ N r).2=0
   ·rw [if_pos h2];simp [zHk N r h2]
   ·rw [if_neg h2] at h;exact absurd h h2
  ·rw [if_neg h1] at h;exact absurd h h1
end Go.Br
namespace Go.Br
open Go Go.Eng Go.L41
end Go.Br
end
section
namespace Go.Br
open Go Go.Eng Go.L41
theorem nodeT_no {N:Ex->List Ty->Ty×Int} {e x:Ex} {k:Nat} (h:e.Args[k]? =some x) (hp:(bQ N (e.Args.take k)).2=0) (hx:¬(fA N x).2=0):fA N e=(zTy,(fA N x).2):=by
 have h1:=nodeL_no h hp hx
 rw [zSx N e,h1,if_neg hx]
theorem nodeT_ok {N:Ex->List Ty->Ty×Int} {e:Ex} {k:Nat} (h:e.Args.take k=e.Args) (hp:(bQ N (e.Args.take k)).2=0):fA N e=N e (bQ N (e.Args.take k)).1:=by
 rw [h] at hp⊢
 rw [zSx N e,if_pos hp]
theorem zHw {a b:Ty} (h:(!bT [cI a.Kind,cI a.Bits,cI a.Frac,cI a.Round,cI a.Over] [cI b.Kind,cI b.Bits,cI b.Frac,cI b.Round,cI b.Over])=true):¬a=b:=by
 rw [zUg] at h;simpa using h
theorem zHx {a b:Ty} (h:(!bT [cI a.Kind,cI a.Bits,cI a.Frac,cI a.Round,cI a.Over] [cI b.Kind,cI b.Bits,cI b.Frac,cI b.Round,cI b.Over])=false):a=b:=by
 rw [zUg] at h;simpa using h
theorem zLf {l:List Ty} {i:Nat} (h:i<l.length):(l.map tyC)[i]? =some (tyC (dW l i)):=by
 rw [List.getElem?_map,List.getElem?_eq_getElem h]
 simp [dW,List.getD,List.getElem?_eq_getElem h]
theorem zIh {e:Ex} (h:dJ e=0):(e.Args.length:Int)=bL e.Op:=by
 have h1:=(zGn (zBo h)).2.2.1
 unfold mS at h1
 simp only [Bool.and_eq_true,Bool.not_eq_true',Bool.or_eq_false_iff,Bool.not_eq_false',decide_eq_true_eq] at h1
 exact h1.1.1
theorem args_len {e:Ex} (h:dJ e=0) (ho:¬(e.Op=1∨e.Op=2∨e.Op=3)):1<=e.Args.length:=by
 have:=zIh h;unfold bL at this;rw [if_neg ho] at this;split at this
 ·omega
 ·split at this<;>omega
theorem zHs {e:Ex} (h:dJ e=0) (ho:¬(e.Op=1∨e.Op=2∨e.Op=3∨e.Op=8∨e.Op=12∨e.Op=18)):2<=e.Args.length:=by
 have:=zIh h;unfold bL at this;rw [if_neg zA,if_neg zA] at this;split at this<;>omega
end Go.Br
end
section
namespace Go.Br
open Go Go.Eng Go.L41
/-! ## The program's Validate -/
theorem red_eq (d:Df):((!decide ((decide (d.Fold=0)||decide (d.Fold=5))=decide ((d.Red.length:Int)=0)))||(decide (d.Fold=5)&&decide ((d.Dims.length:Int)=0)))=true↔((decide (d.Fold=0∨d.Fold=5) !=decide (d.Red.length=0))=true∨d.Fold=5/\d.Dims.length=0):=by
 have e1:decide ((d.Red.length:Int)=0)=decide (d.Red.length=0):=decide_eq_decide.2 zA
 have e2:decide ((d.Dims.length:Int)=0)=decide (d.Dims.length=0):=decide_eq_decide.2 zA
 rw [e1,e2,Bool.or_eq_true,Bool.and_eq_true,decide_eq_true_eq,decide_eq_true_eq,Bool.decide_or]
 cases (decide (d.Fold=0)||decide (d.Fold=5))<;>cases decide (d.Red.length=0)<;>simp
structure Pg.Short (p:Pg):Prop where
 sizes:p.Sizes.length<=12
 wh:p.Where.length<=12
 params:p.Params.length<=12
 defs:p.Defs.length<=12
 outs:p.Outs.length<=12
 whs:∀c,c∈p.Where->c.Lin.L.length<=20
 ps:∀x,x∈p.Params->x.Dims.length<=12/\∀l,l∈x.Dims->l.L.length<=20
 ds:∀d,d∈p.Defs->d.Dims.length<=12/\d.Red.length<=12/\(∀a,a∈d.Dims->a.Size.L.length<=20)/\(∀a,a∈d.Red->a.Size.L.length<=20)/\d.Body.wt<=300
theorem Pg.Short.ok {p:Pg} (h:p.Short):p.Ok:=
 ⟨by have:=h.sizes;omega,by have:=h.wh;omega,by have:=h.params;omega,by have:=h.defs;omega,by have:=h.outs;omega,fun c hc=>by have:=h.whs c hc;omega,
  fun x hx=>by obtain ⟨h1,h2⟩:=h.ps x hx;exact ⟨zA,fun l hl=>by have:=h2 l hl;omega⟩,
  fun d hd=>by obtain ⟨h1,h2,h3,h4,h5⟩:=h.ds d hd;exact ⟨zA,zA,fun a ha=>by have:=h3 a ha;omega,fun a ha=>by have:=h4 a ha;omega,zA⟩⟩
end Go.Br
end
section
namespace Go.Br
open Go Go.Eng Go.L41
end Go.Br
end
section
namespace Go.Br
open Go Go.Eng Go.Proofs Go.L41
def jR (a b:Int):Int:=if a<b then-1 else if b<a then 1 else 0
def vF (a b:ByteArray):Int:=Lib.compareBytes a.data.toList b.data.toList
def orI:List Int->Int
 |[]=>0
 |x::r=>if x=0 then orI r else x
def jT {α:Type} (f:α->α->Int):List α->List α->Int
 |[],[]=>0
 |[],_::_=> -1
 |_::_,[]=>1
 |x::xs,y::ys=>if f x y=0 then jT f xs ys else f x y
def lP {α:Type} (f:α->α->Int) (a b:List α):Int:=if jR a.length b.length=0 then jT f a b else jR a.length b.length
def tN (x y:Mono):Int:=if x.Name=y.Name then jR x.By y.By else vF x.Name y.Name
def nH (a b:Lf):Int:=if jT tN a.L b.L=0 then jR a.K b.K else jT tN a.L b.L
def nI (a b:Ix):Int:=if vF a.From b.From=0 then (if nH a.Lin b.Lin=0 then lP nH a.At b.At else nH a.Lin b.Lin) else vF a.From b.From
def xG (a b:Ty):Int:=orI [jR a.Kind b.Kind,jR a.Bits b.Bits,jR a.Frac b.Frac,jR a.Round b.Round,jR a.Over b.Over]
def pS (a b:Ex):Int:=orI [jR a.Op b.Op,vF a.Name b.Name,jR a.Val.N b.Val.N,jR a.Val.D b.Val.D,xG a.Ty b.Ty,nH a.Lin b.Lin]
mutual
def sK:Ex->Ex->Int
 |.mk o n v t l i r,b=>if pS (.mk o n v t l i r) b=0 then (if lP nI i b.Idx=0 then (if jR r.length b.Args.length=0 then cD r b.Args else jR r.length b.Args.length) else lP nI i b.Idx) else pS (.mk o n v t l i r) b
def cD:List Ex->List Ex->Int
 |[],[]=>0
 |[],_::_=> -1
 |_::_,[]=>1
 |x::xs,y::ys=>if sK x y=0 then cD xs ys else sK x y
end
theorem cmpEs_L:∀a b:List Ex,cD a b=jT sK a b
 |[],[]=>rfl
 |[],_::_=>rfl
 |_::_,[]=>rfl
 |x::xs,y::ys=>by rw [cD,jT,cmpEs_L xs ys]
theorem cmpE_eq (a b:Ex):sK a b=if pS a b=0 then (if lP nI a.Idx b.Idx=0 then lP sK a.Args b.Args else lP nI a.Idx b.Idx) else pS a b:=by
 cases a with
 |mk o n v t l i r=>rw [sK,cmpEs_L];rfl
/-! ## Alike is equal -/
theorem zLa (a b:Int):jR a b=0↔a=b:=by
 unfold jR
 split
 ·constructor
  ·intro h;cases h
  ·intro h;omega
 ·split
  ·constructor
   ·intro h;cases h
   ·intro h;omega
  ·constructor<;>intro h<;>first|rfl|omega
theorem bytes_zero:∀a b:List UInt8,Lib.compareBytes a b=0↔a=b
 |[],[]=>by simp [Lib.compareBytes]
 |[],_::_=>by simp [Lib.compareBytes]
 |_::_,[]=>by simp [Lib.compareBytes]
 |x::xs,y::ys=>by
  rw [Lib.compareBytes]
  by_cases h1:x<y
  ·rw [if_pos h1]
   constructor
   ·intro h;cases h
   ·intro h;injection h with h2 h3;subst h2;exact absurd h1 (UInt8.lt_irrefl x)
  ·rw [if_neg h1]
   by_cases h2:y<x
   ·rw [if_pos h2]
    constructor
    ·intro h;cases h
    ·intro h;injection h with h3 h4;subst h3;exact absurd h2 (UInt8.lt_irrefl x)
   ·rw [if_neg h2,bytes_zero xs ys]
    have e:x=y:=by
     have h3:=UInt8.not_lt.1 h1
     have h4:=UInt8.not_lt.1 h2
     exact UInt8.le_antisymm h4 h3
    simp [e]
theorem zPa (a b:ByteArray):vF a b=0↔a=b:=by
 unfold vF
 rw [bytes_zero]
 constructor
 ·intro h;cases a;cases b;congr 1;exact Array.toList_inj.1 h
 ·rintro rfl;rfl
theorem orI_zero:∀l:List Int,orI l=0↔∀x,x∈l->x=0
 |[]=>by simp [orI]
 |x::r=>by
  rw [orI]
  by_cases h:x=0
  ·rw [if_pos h,orI_zero r];simp [h]
  ·rw [if_neg h];constructor
   ·intro k;exact absurd k h
   ·intro k;exact k x uD
theorem zXh {α:Type} {f:α->α->Int}:∀(a b:List α),(∀x,x∈a->∀y,f x y=0↔x=y)->(jT f a b=0↔a=b)
 |[],[],_=>by simp [jT]
 |[],_::_,_=>by simp [jT]
 |_::_,[],_=>by simp [jT]
 |x::xs,y::ys,h=>by
  rw [jT]
  have h1:=h x uD y
  by_cases c:f x y=0
  ·rw [if_pos c,zXh xs ys fun z hz=>h z (by simp [hz])];simp [h1.1 c]
  ·rw [if_neg c]
   constructor
   ·intro k;exact absurd k c
   ·intro k;injection k with k1 k2;exact h1.2 k1
theorem zQx {α:Type} {f:α->α->Int} (a b:List α) (h:∀x,x∈a->∀y,f x y=0↔x=y):lP f a b=0↔a=b:=by
 unfold lP
 by_cases c:jR (a.length:Int) b.length=0
 ·rw [if_pos c];exact zXh a b h
 ·rw [if_neg c]
  constructor
  ·intro k;exact absurd k c
  ·rintro rfl;exact absurd ((zLa _ _).2 rfl) c
theorem cmpM_zero (x y:Mono):tN x y=0↔x=y:=by
 obtain ⟨n,b⟩:=x
 obtain ⟨n',b'⟩:=y
 unfold tN
 by_cases c:n=n'
 ·simp only [c,if_true,zLa,Mono.mk.injEq,true_and]
 ·simp only [c,if_false,zPa,Mono.mk.injEq,false_and]
theorem zLt (a b:Lf):nH a b=0↔a=b:=by
 have h:=zXh (f:=tN) a.L b.L fun x _ y=>cmpM_zero x y
 have e:a=b↔a.L=b.L/\a.K=b.K:=by
  cases a;cases b;simp only [Lf.mk.injEq];exact ⟨fun k=>⟨k.2,k.1⟩,fun k=>⟨k.2,k.1⟩⟩
 unfold nH
 rw [e]
 by_cases c:jT tN a.L b.L=0
 ·rw [if_pos c,zLa];exact ⟨fun k=>⟨h.1 c,k⟩,fun k=>k.2⟩
 ·rw [if_neg c];exact ⟨fun k=>absurd k c,fun k=>absurd (h.2 k.1) c⟩
theorem cmpIx_zero (a b:Ix):nI a b=0↔a=b:=by
 have h:=zQx (f:=nH) a.At b.At fun x _ y=>zLt x y
 have e:a=b↔a.From=b.From/\a.Lin=b.Lin/\a.At=b.At:=by
  cases a;cases b;simp only [Ix.mk.injEq];exact ⟨fun k=>⟨k.2.1,k.1,k.2.2⟩,fun k=>⟨k.2.1,k.1,k.2.2⟩⟩
 unfold nI
 rw [e]
 by_cases c:vF a.From b.From=0
 ·by_cases d:nH a.Lin b.Lin=0
  ·rw [if_pos c,if_pos d,h];exact ⟨fun k=>⟨(zPa _ _).1 c,(zLt _ _).1 d,k⟩,fun k=>k.2.2⟩
  ·rw [if_pos c,if_neg d];exact ⟨fun k=>absurd k d,fun k=>absurd ((zLt _ _).2 k.2.1) d⟩
 ·rw [if_neg c];exact ⟨fun k=>absurd k c,fun k=>absurd ((zPa _ _).2 k.1) c⟩
theorem cmpTy_zero (a b:Ty):xG a b=0↔a=b:=by
 obtain ⟨a1,a2,a3,a4,a5⟩:=a
 obtain ⟨b1,b2,b3,b4,b5⟩:=b
 unfold xG
 rw [orI_zero]
 simp only [List.mem_cons,List.not_mem_nil,or_false,forall_eq_or_imp,forall_eq,zLa,Ty.mk.injEq]
theorem cmpHd_zero (a b:Ex):pS a b=0↔a.Op=b.Op/\a.Name=b.Name/\a.Val=b.Val/\a.Ty=b.Ty/\a.Lin=b.Lin:=by
 unfold pS
 rw [orI_zero]
 simp only [List.mem_cons,List.not_mem_nil,or_false,forall_eq_or_imp,forall_eq,zLa,zPa,cmpTy_zero,zLt]
 cases hv:a.Val
 cases hw:b.Val
 simp only [Vl.mk.injEq]
 constructor
 ·rintro ⟨h1,h2,h3,h4,h5⟩;exact ⟨h1,h2,⟨h3,h4⟩,h5⟩
 ·rintro ⟨h1,h2,⟨h3,h4⟩,h5⟩;exact ⟨h1,h2,h3,h4,h5⟩
theorem cmpE_zero (a:Ex):∀b:Ex,sK a b=0↔a=b:=by
 induction a using Ex.ind with
 |_ a ih=>
  intro b
  rw [cmpE_eq,Ex.eq_iff]
  have h1:=cmpHd_zero a b
  have h2:=zQx (f:=nI) a.Idx b.Idx fun x _ y=>cmpIx_zero x y
  have h3:=zQx (f:=sK) a.Args b.Args ih
  by_cases c:pS a b=0
  ·by_cases d:lP nI a.Idx b.Idx=0
   ·rw [if_pos c,if_pos d,h3]
    obtain ⟨k1,k2,k3,k4,k5⟩:=h1.1 c
    have k6:=h2.1 d
    exact ⟨fun k=>⟨k1,k2,k3,k4,k5,k6,k⟩,fun k=>k.2.2.2.2.2.2⟩
   ·rw [if_pos c,if_neg d]
    exact ⟨fun k=>absurd k d,fun k=>absurd (h2.2 k.2.2.2.2.2.1) d⟩
  ·rw [if_neg c]
   exact ⟨fun k=>absurd k c,fun k=>absurd (h1.2 ⟨k.1,k.2.1,k.2.2.1,k.2.2.2.1,k.2.2.2.2.1⟩) c⟩
/-! ## Steps of the walks -/
section steps
variable {α:Type} {f:α->α->Int} {a b:List α} {k:Nat} {x y:α}
theorem zTm (h:a[k]? =some x) (hb:¬k<b.length):jT f (a.drop k) (b.drop k)=1:=by rw [qP h,kK hb];rfl
theorem cmpL_ne (h:a[k]? =some x) (hy:b[k]? =some y) (c:¬f x y=0):jT f (a.drop k) (b.drop k)=f x y:=by rw [qP h,qP hy,jT,if_neg c]
theorem zPb (h:a[k]? =some x) (hy:b[k]? =some y) (c:f x y=0):jT f (a.drop k) (b.drop k)=jT f (a.drop (k+1)) (b.drop (k+1)):=by rw [qP h,qP hy,jT,if_pos c]
theorem zPc (h:¬k<a.length) (hb:k<b.length):jT f (a.drop k) (b.drop k)= -1:=by
 rw [kK h]
 cases hd:b.drop k with
 |nil=>have:=congrArg List.length hd;simp at this;omega
 |cons _ _=>rfl
theorem zTo (h:¬k<a.length) (hb:¬k<b.length):jT f (a.drop k) (b.drop k)=0:=by rw [kK h,kK hb];rfl
end steps
theorem cmpI_lt {a b:Int} (h:a<b):jR a b= -1:=if_pos h
theorem cmpI_gt {a b:Int} (h:b<a):jR a b=1:=by unfold jR;rw [if_neg zA,if_pos h]
theorem cmpI_eq {a b:Int} (h:¬a<b) (h2:¬b<a):jR a b=0:=by unfold jR;rw [if_neg h,if_neg h2]
theorem orI_at {l:List Int} {k:Nat} {x:Int} (h:l[k]? =some x) (hx:¬x=0):orI (l.drop k)=x:=by rw [qP h,orI,if_neg hx]
theorem orI_next {l:List Int} {k:Nat} {x:Int} (h:l[k]? =some x) (hx:x=0):orI (l.drop k)=orI (l.drop (k+1)):=by rw [qP h,orI,if_pos hx]
theorem strings_Compare (a b:ByteArray):Pur cfg 230 [vS a,vS b] (vI (vF a b)):=by
 intro w I vs hH ha
 match vs,ha with
 |[v,u],ha=>
  obtain ⟨h1,h2,_⟩:=ha
  have e1:v=.string a:=by cases (h1:CRep w I (cS a) v) with|lit _ _=>rfl
  have e2:u=.string b:=by cases (h2:CRep w I (cS b) u) with|lit _ _=>rfl
  subst e1 e2
  refine (Tryz.strings_Compare a b w).mono ?_
  rintro e w' ⟨rfl,rfl⟩
  exact ⟨_,_,[],I,rfl,rfl,CRep.lit _ rfl,hH,Ext.refl _ _ _⟩
end Go.Br
end
