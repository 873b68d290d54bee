/-
  The program's data,in plain Lean: linear forms,indices,expressions; and the cells that hold them.
  What the program's functions compute,in plain Lean.
  Copies with all forms mapped; weights; in plain Lean.
  Layer 22 in plain Lean.
  Layer 17 in plain Lean: programs,the cells that hold them,and what Find,TypeOf and Validate say of them.
  Layer 17 in plain Lean: the program's Validate and the reference's are one.
  Layer 17 in plain Lean,more: lengths,lists,tables.
  Layer 17 in plain Lean: the memory of the checker and the typer,and laws for their walks.
  Layer 17 in plain Lean: the typer's walk.
  Layer 17 in plain Lean: steps of Validate,the program's and the reference's; what Long says.
  Layer 17 in plain Lean: the example that every statement checks.
  Comparisons in plain Lean: of numbers,strings,forms,indices,expressions; nothing is tG but what is equal.
  Layer 17 in plain Lean: equality of programs,part by part.
  Conditions: none.
-/
import Derived.Test.YtkidnhldibjiaaaGreatDoorEngY
import Derived.Test.YtkidnhldibjiaaaGreatDoorNames
import Derived.Test.YtkidnhldibjiaaaGreatDoorEngZ
import Derived.Test.YtkidnhldibjiaaaGreatDoorCfg
import Derived.Lib.Bytealg
set_option linter.unusedSimpArgs false
set_option linter.unusedVariables false
section
namespace Go.Br
open Go Go.Eng Go.L41
structure Mono where
 Name:ByteArray
 By:Int
 deriving DecidableEq
structure Lf where
 K:Int
 L:List Mono
 deriving DecidableEq
structure Vl where
 N:Int
 D:Int
 deriving DecidableEq
structure Ty where
 Kind:Int
 Bits:Int
 Frac:Int
 Round:Int
 Over:Int
 deriving DecidableEq
structure Ix where
 Lin:Lf
 From:ByteArray
 At:List Lf
 deriving DecidableEq
inductive Ex where
 |mk (op:Int) (name:ByteArray) (val:Vl) (ty:Ty) (lin:Lf) (idx:List Ix) (args:List Ex)
namespace Ex
def Op:Ex->Int|mk o _ _ _ _ _ _=>o
def Name:Ex->ByteArray|mk _ x _ _ _ _ _=>x
def Val:Ex->Vl|mk _ _ x _ _ _ _=>x
def Ty:Ex->Br.Ty|mk _ _ _ x _ _ _=>x
def Lin:Ex->Lf|mk _ _ _ _ x _ _=>x
def Idx:Ex->List Ix|mk _ _ _ _ _ x _=>x
def Args:Ex->List Ex|mk _ _ _ _ _ _ x=>x
theorem ind {P:Ex->Prop} (h:∀e:Ex,(∀a,a∈e.Args->P a)->P e) (e:Ex):P e:=
 Ex.rec (motive_1:=P) (motive_2:=fun l=>∀a,a∈l->P a) (fun o n v t l i arg_ ih=>h (mk o n v t l i arg_) ih) (fun a h=>by cases h)
  (fun x l hx hl a ha=>by rcases List.mem_cons.1 ha with rfl|ha;exact hx;exact hl a ha) e
end Ex
mutual
def Ex.eqB:Ex->Ex->Bool
 |.mk o n v t l i arg_,.mk o' n' v' t' l' i' bs=>decide (o=o')&&decide (n=n')&&decide (v=v')&&decide (t=t')&&decide (l=l')&&decide (i=i')&&sZ arg_ bs
def sZ:List Ex->List Ex->Bool
 |[],[]=>true
 |a::arg_,b::bs=>Ex.eqB a b&&sZ arg_ bs
 |_,_=>false
end
mutual
theorem Ex.eqB_iff:∀a b:Ex,Ex.eqB a b=true↔a=b
 |.mk o n v t l i arg_,.mk o' n' v' t' l' i' bs=>by
  simp only [Ex.eqB,Bool.and_eq_true,decide_eq_true_eq,eqBs_iff arg_ bs,Ex.mk.injEq]
  constructor
  ·rintro ⟨⟨⟨⟨⟨⟨h1,h2⟩,h3⟩,h4⟩,h5⟩,h6⟩,h7⟩;exact ⟨h1,h2,h3,h4,h5,h6,h7⟩
  ·rintro ⟨h1,h2,h3,h4,h5,h6,h7⟩;exact ⟨⟨⟨⟨⟨⟨h1,h2⟩,h3⟩,h4⟩,h5⟩,h6⟩,h7⟩
theorem eqBs_iff:∀a b:List Ex,sZ a b=true↔a=b
 |[],[]=>by simp [sZ]
 |a::arg_,b::bs=>by simp only [sZ,Bool.and_eq_true,Ex.eqB_iff a b,eqBs_iff arg_ bs,List.cons.injEq]
 |[],_::_=>by simp [sZ]
 |_::_,[]=>by simp [sZ]
end
instance:DecidableEq Ex:=fun a b=>decidable_of_iff _ (Ex.eqB_iff a b)
theorem Ex.eq_iff (a b:Ex):a=b↔a.Op=b.Op/\a.Name=b.Name/\a.Val=b.Val/\a.Ty=b.Ty/\a.Lin=b.Lin/\a.Idx=b.Idx/\a.Args=b.Args:=by
 cases a;cases b;simp only [Ex.mk.injEq];rfl
def Mono.cells (x:Mono):List C:=[cS x.Name,cI x.By]
def Lf.cells (x:Lf):List C:=[cI x.K,.sl 2 (x.L.map Mono.cells)]
def Ix.cells (x:Ix):List C:=[cI x.Lin.K,.sl 2 (x.Lin.L.map Mono.cells),cS x.From,.sl 2 (x.At.map Lf.cells)]
def Vl.cells (v:Vl):List C:=[cI v.N,cI v.D]
mutual
def Ex.cells:Ex->List C
 |.mk o n v t l i arg_=>[cI o,cS n,cI v.N,cI v.D,cI t.Kind,cI t.Bits,cI t.Frac,cI t.Round,cI t.Over,cI l.K,.sl 2 (l.L.map Mono.cells),.sl 4 (i.map Ix.cells),.sl 13 (sA arg_)]
def sA:List Ex->List (List C)
 |[]=>[]
 |e::r=>e.cells::sA r
end
theorem cellsL_eq (l:List Ex):sA l=l.map Ex.cells:=by
 induction l with
 |nil=>rfl
 |cons e r ih=>rw [sA,ih];rfl
def Ex.cs (e:Ex):List C:=[cI e.Op,cS e.Name,cI e.Val.N,cI e.Val.D,cI e.Ty.Kind,cI e.Ty.Bits,cI e.Ty.Frac,cI e.Ty.Round,cI e.Ty.Over,cI e.Lin.K,.sl 2 (e.Lin.L.map Mono.cells),.sl 4 (e.Idx.map Ix.cells),.sl 13 (e.Args.map Ex.cells)]
theorem Ex.cells_eq (e:Ex):e.cells=e.cs:=by
 cases e;rw [Ex.cells,cellsL_eq];rfl
abbrev tQ (x:Mono):V:=.agg x.cells
abbrev pU (l:List Mono):V:=.c (.sl 2 (l.map Mono.cells))
abbrev dK (x:Lf):V:=.agg x.cells
abbrev mR (l:List Lf):V:=.c (.sl 2 (l.map Lf.cells))
abbrev lK (x:Ix):V:=.agg x.cells
abbrev nB (l:List Ix):V:=.c (.sl 4 (l.map Ix.cells))
abbrev vE (x:Ex):V:=.agg x.cs
abbrev vEs (l:List Ex):V:=.c (.sl 13 (l.map Ex.cells))
abbrev vTy (t:Ty):V:=.agg [cI t.Kind,cI t.Bits,cI t.Frac,cI t.Round,cI t.Over]
abbrev tJ (v:Vl):V:=.agg [cI v.N,cI v.D]
abbrev pB (n:Int):V:=.c (.lit (.int .u64 n))
theorem zBj {l:List Ex} {k:Nat} {x:Ex} (h:l[k]? =some x):(l.map Ex.cells)[k]? =some x.cs:=by
 rw [getm h,Ex.cells_eq]
theorem map_cs (l:List Ex):l.map Ex.cs=l.map Ex.cells:=by simp [Ex.cells_eq]
/-! ## Sizes -/
def dS:List Lf->Nat
 |[]=>0
 |l::r=>l.L.length+dS r
def Ix.wt (x:Ix):Nat:=x.Lin.L.length+x.At.length+dS x.At
def fH:List Ix->Nat
 |[]=>0
 |x::r=>x.wt+fH r
mutual
def Ex.wt:Ex->Nat
 |.mk _ _ _ _ l i arg_=>1+l.L.length+i.length+fH i+bL arg_
def bL:List Ex->Nat
 |[]=>0
 |e::r=>e.wt+bL r
end
theorem Ex.wt_eq (e:Ex):e.wt=1+e.Lin.L.length+e.Idx.length+fH e.Idx+bL e.Args:=by cases e;rw [Ex.wt];rfl
theorem Ex.wt_pos (e:Ex):1<=e.wt:=by rw [Ex.wt_eq];omega
theorem argsWt_mem {l:List Ex} {a:Ex} (h:a∈l):a.wt+(l.length-1)<=bL l:=by
 induction l with
 |nil=>cases h
 |cons x r ih=>
  rw [bL]
  rcases List.mem_cons.1 h with rfl|h
  ·have:r.length<=bL r:=by
    clear ih h
    induction r with
    |nil=>simp [bL]
    |cons y r ih=>rw [bL,List.length_cons];have:=y.wt_pos;omega
   simp;omega
  ·have:=ih h
   have:=x.wt_pos
   have:0<r.length:=List.length_pos_of_mem h
   simp;omega
theorem argsWt_len (l:List Ex):l.length<=bL l:=by
 induction l with
 |nil=>simp [bL]
 |cons y r ih=>rw [bL,List.length_cons];have:=y.wt_pos;omega
theorem zDe {l:List Lf} {a:Lf} (h:a∈l):a.L.length<=dS l:=by
 induction l with
 |nil=>cases h
 |cons x r ih=>
  rw [dS]
  rcases List.mem_cons.1 h with rfl|h
  ·omega
  ·have:=ih h;omega
theorem zLm {l:List Ix} {a:Ix} (h:a∈l):a.wt<=fH l:=by
 induction l with
 |nil=>cases h
 |cons x r ih=>
  rw [fH]
  rcases List.mem_cons.1 h with rfl|h
  ·omega
  ·have:=ih h;omega
theorem Ex.parts {e:Ex} {B:Nat} (h:e.wt<=B):e.Lin.L.length<=B/\e.Idx.length<=B/\e.Args.length<=B:=by
 rw [Ex.wt_eq] at h
 have:=argsWt_len e.Args
 omega
theorem Ex.arg_wt {e a:Ex} (h:a∈e.Args):a.wt<e.wt:=by
 rw [Ex.wt_eq e]
 have:=argsWt_mem h
 omega
theorem Ex.idx_wt {e:Ex} {x:Ix} (h:x∈e.Idx):x.Lin.L.length<=e.wt/\x.At.length<=e.wt/\dS x.At<=e.wt:=by
 rw [Ex.wt_eq e]
 have:=zLm h
 unfold Ix.wt at this
 omega
theorem qR {α:Type} {l:List α} {k:Nat} {x:α} (h:l[k]? =some x):l.drop k=x::l.drop (k+1):=by
 have hk:k<l.length:=(List.getElem?_eq_some_iff.1 h).1
 rw [List.drop_eq_getElem_cons hk]
 rw [List.getElem?_eq_getElem hk] at h
 simp at h
 rw [h]
theorem wB {α:Type} {l:List α} {k:Nat} (h:¬k<l.length):l.drop k=[]:=List.drop_of_length_le (by omega)
theorem wZ {α:Type} {a b:List α} {k:Nat} {x y:α} (hx:a[k]? =some x) (hy:b[k]? =some y) (h:a.take k=b.take k) (e:x=y):a.take (k+1)=b.take (k+1):=by
 rw [qT hx,qT hy,h,e]
theorem zBd {α:Type} {a b:List α} {k:Nat} (h:a.take k=b.take k) (h1:¬k<a.length) (h2:a.length=b.length):a=b:=by
 rw [qY h1,qY (by omega)] at h
 exact h
theorem zBt {α:Type} {a b:List α} {k:Nat} {x y:α} (hx:a[k]? =some x) (hy:b[k]? =some y) (h:¬x=y):¬a=b:=by
 rintro rfl
 rw [hx] at hy
 exact h (Option.some.inj hy)
theorem yD {p:Prop} [Decidable p] (h:¬p):decide p=false:=decide_eq_false h
theorem kR {p:Prop} [Decidable p] (h:p):decide p=true:=decide_eq_true h
theorem zX {α:Type} {l:List α} {k:Nat} {x:α} (h:l[k]? =some x):x∈l:=List.mem_of_getElem? h
end Go.Br
end
section
namespace Go.Br
open Go Go.Eng Go.L41
/-! ## Linear forms -/
def ltO:Option ByteArray->ByteArray->Bool
 |none,_=>true
 |some q,n=>bY q n
def dC:Option ByteArray->List Mono->Bool
 |_,[]=>true
 |p,m::r=>bD m.Name&& !decide (m.By=0)&&ltO p m.Name&&dC (some m.Name) r
def bJ (l:Lf):Bool:=dC none l.L
def fZ (l:Lf):Int:=bif bJ l then 0 else 1
def pv (l:List Mono) (k:Nat):Mono:=l.getD (k-1) ⟨bs [],0⟩
def mM (l:List Mono) (k:Nat):Option ByteArray:=if k=0 then none else some (pv l k).Name
def tL (l:List Mono) (k:Nat) (x:Mono):Bool:=(!bD x.Name||decide (x.By=0))||(decide ((0:Int)<k)&& !bY (pv l k).Name x.Name)
theorem pv_get {α:Type} {f:Mono->α} {l:List Mono} {k:Nat} (h0:0<k) (h:k<=l.length):(l.map f)[((k:Int)-1).toNat]? =some (f (pv l k)):=by
 have e:((k:Int)-1).toNat=k-1:=by omega
 have h1:k-1<l.length:=by omega
 rw [e,List.getElem?_map,List.getElem?_eq_getElem h1]
 simp [pv,List.getD,List.getElem?_eq_getElem h1]
theorem pv_next {l:List Mono} {k:Nat} {x:Mono} (h:l[k]? =some x):pv l (k+1)=x:=by simp [pv,List.getD,h]
theorem zIn {l:List Mono} {k:Nat} {x:Mono} (h:l[k]? =some x):dC (mM l k) (l.drop k)=(!tL l k x&&dC (mM l (k+1)) (l.drop (k+1))):=by
 rw [qR h,dC]
 have e:mM l (k+1)=some x.Name:=by simp [mM,pv_next h]
 rw [e]
 congr 1
 unfold tL mM ltO
 by_cases hk:k=0
 ·subst hk;simp
 ·have hk':(0:Int)<k:=by omega
  rw [if_neg hk,decide_eq_true hk']
  cases bD x.Name<;>cases decide (x.By=0)<;>simp
theorem monos_end {l:List Mono} {k:Nat} (h:¬k<l.length):dC (mM l k) (l.drop k)=true:=by
 rw [wB h];cases mM l k<;>rfl
def lR (s:ByteArray):Lf:=bif bD s then ⟨0,[⟨s,1⟩]⟩ else ⟨0,[]⟩
def mE:List Mono->ByteArray->Int
 |[],_=>0
 |m::r,s=>if m.Name=s then m.By else mE r s
def gM (l:List Mono) (s:ByteArray):Bool:=l.any fun m=>decide (m.Name=s)
theorem zSu:∀{p:Option ByteArray} {l:List Mono} (s:ByteArray),dC p l=true->decide (mE l s=0)= !gM l s
 |_,[],s,_=>rfl
 |p,m::r,s,h=>by
  simp only [dC,Bool.and_eq_true,Bool.not_eq_true',decide_eq_false_iff_not] at h
  have ih:=zSu s h.2
  by_cases e:m.Name=s
  ·simp [mE,gM,e,h.1.1.2]
  ·simp only [mE,e,if_false,gM,List.any_cons,decide_false,Bool.false_or]
   exact ih
/-! ## The first element with a property -/
def dI {α:Type} (p:α->Bool):List α->Int
 |[]=> -1
 |x::r=>bif p x then 0 else (bif decide (dI p r= -1) then-1 else dI p r+1)
theorem zPg {α:Type} (p:α->Bool) (l:List α): -1<=dI p l:=by
 induction l with
 |nil=>simp [dI]
 |cons x r ih=>unfold dI;cases p x<;>simp;by_cases h:dI p r= -1<;>simp [h];omega
theorem zRu {α:Type} (p:α->Bool) (l:List α):decide (0<=dI p l)=l.any p:=by
 induction l with
 |nil=>rfl
 |cons x r ih=>
  have:=zPg p r
  unfold dI
  cases hp:p x
  ·simp only [cond_false,List.any_cons,hp,Bool.false_or,←ih]
   by_cases h:dI p r= -1
   ·simp [h]
   ·simp [h];omega
  ·simp [hp]
theorem zFf {α:Type} {p:α->Bool} {l:List α} {k:Nat} {x:α} (h:l[k]? =some x) (hp:p x=true) (hn:(l.take k).any p=false):dI p l=k:=by
 induction l generalizing k with
 |nil=>simp at h
 |cons y r ih=>
  cases k with
  |zero=>simp at h;subst h;simp [dI,hp]
  |succ k=>
   simp only [List.take_succ_cons,List.any_cons,Bool.or_eq_false_iff] at hn
   have:=ih (k:=k) (by simpa using h) hn.2
   simp only [dI,hn.1,cond_false,this]
   have h2:¬((k:Int)= -1):=by omega
   simp [h2]
theorem zDf {α:Type} {p:α->Bool} {l:List α} (hn:l.any p=false):dI p l= -1:=by
 induction l with
 |nil=>rfl
 |cons y r ih=>
  simp only [List.any_cons,Bool.or_eq_false_iff] at hn
  simp [dI,hn.1,ih hn.2]
theorem zCb {α:Type} {p:α->Bool} {l:List α} {k:Nat} {x:α} (h:l[k]? =some x) (hn:(l.take k).any p=false) (hp:p x=false):(l.take (k+1)).any p=false:=by
 rw [qT h,List.any_append,hn];simp [hp]
/-! ## Types and values -/
def dW (t:Ty):Bool:=
 ((decide (t.Kind=1)||decide (t.Kind=3))&&decide (t.Bits=0)&&decide (t.Frac=0)&&decide (t.Round=0)&&decide (t.Over=0))||
 (decide (t.Kind=2)&&decide (2<=t.Bits)&&decide (t.Bits<=31)&&decide (0<=t.Frac)&&decide (t.Frac<=30)&&decide (1<=t.Round)&&decide (t.Round<=4)&&(decide (t.Over=1)||decide (t.Over=2)))
def bZ (t:Ty):Int:=bif dW t then 0 else 10
def gH (t:Ty):Bool:=decide (t.Kind=2)&&decide (2<=t.Bits)&&decide (t.Bits<=31)&&decide (0<=t.Frac)&&decide (t.Frac<=30)&&decide (1<=t.Round)&&decide (t.Round<=4)&&(decide (t.Over=1)||decide (t.Over=2))
def mG (b:Int):Int:=2^(b-1).toNat
def nD (n:Int):Bool:=decide (-2147483647<=n)&&decide (n<=2147483647)
def jT (t:Ty) (v:Vl):Bool:=
 bif decide (t.Kind=2) then decide (v.D=1)&&decide (-mG t.Bits<=v.N)&&decide (v.N<mG t.Bits)
 else bif decide (t.Kind=3) then decide (v.D=1)&&nD v.N
 else decide (1<=v.D)&&decide (v.D<=2147483647)&&nD v.N&&decide (Int.gcd v.N v.D=1)
def lC (t:Ty):Vl:=bif dW t then ⟨0,1⟩ else ⟨0,0⟩
theorem zBr {t:Ty} (h:t.Kind=2):dW t=gH t:=by simp [dW,gH,h]
theorem half_le {b:Int} (h1:2<=b) (h2:b<=31):1<=mG b/\mG b<=1073741824:=by
 unfold mG
 have h3:(b-1).toNat<=30:=by omega
 have h4:(2:Int)^(b-1).toNat<=2^30:=by
  have:=Nat.pow_le_pow_right (n:=2) (by omega) h3
  exact_mod_cast this
 have h5:(1:Int)<=2^(b-1).toNat:=by
  have:=Nat.one_le_two_pow (n:=(b-1).toNat)
  exact_mod_cast this
 omega
/-! ## Conditions as the walks meet them -/
theorem lin_mk {a b:Lf} (h:a.K=b.K) (k:a.L=b.L):a=b:=by cases a;cases b;simp_all
theorem lin_eq (a b:Lf):(decide (a.K=b.K)&&decide (a.L=b.L))=decide (a=b):=by
 rw [Bool.eq_iff_iff];simp only [Bool.and_eq_true,decide_eq_true_eq]
 exact ⟨fun h=>lin_mk h.1 h.2,fun h=>by subst h;exact ⟨rfl,rfl⟩⟩
theorem mono_ne {x y:Mono} (h:(!dA x.cells y.cells)=true):¬x=y:=by
 rintro rfl
 simp [dA,cEq,Mono.cells] at h
theorem mono_eq {x y:Mono} (h:(!dA x.cells y.cells)=false):x=y:=by
 cases x;cases y
 simpa [dA,cEq,Mono.cells] using h
def sB (s:ByteArray) (k:Nat):Int:=(s.data.toList.getD k 0).toNat
def rY (s:ByteArray):Bool:=(((decide ((s.size:Int)<1)||decide ((16:Int)<s.size))||bR fC s)||decide (sB s 0<97))||decide (122<sB s 0)
theorem ident_no {s:ByteArray} (h:rY s=true):bD s=false:=by
 unfold rY sB at h
 cases hn:bD s with
 |false=>rfl
 |true=>
  exfalso
  simp only [bD,Bool.and_eq_true,decide_eq_true_eq,Bool.not_eq_true'] at hn
  obtain ⟨⟨⟨⟨h1,h2⟩,h3⟩,h4⟩,h5⟩:=hn
  have h6:s.data.toList.head? =some (s.data.toList.getD 0 0):=by rw [List.head?_eq_getElem?];exact zDo (by omega)
  rw [h6] at h3
  simp only [Option.all_some,mO,lY,Bool.and_eq_true,decide_eq_true_eq] at h3
  simp only [Bool.or_eq_true,decide_eq_true_eq,h5] at h
  rcases h with (((h|h)|h)|h)|h
  ·omega
  ·omega
  ·cases h
  ·omega
  ·omega
theorem ident_yes {s:ByteArray} (h:rY s=false):1<=s.size/\s.size<=16/\bD s=s.data.toList.all fY:=by
 unfold rY sB at h
 simp only [Bool.or_eq_false_iff,decide_eq_false_iff_not] at h
 obtain ⟨⟨⟨⟨h1,h2⟩,h3⟩,h4⟩,h5⟩:=h
 have h7:1<=s.size:=by omega
 refine ⟨h7,by omega,?_⟩
 have h6:s.data.toList.head? =some (s.data.toList.getD 0 0):=by rw [List.head?_eq_getElem?];exact zDo (by omega)
 unfold bD
 rw [h6,h3]
 have e1:decide (1<=s.size)=true:=by simp;omega
 have e2:decide (s.size<=16)=true:=by simp;omega
 have e3:mO (s.data.toList.getD 0 0)=true:=by simp only [mO,lY,Bool.and_eq_true,decide_eq_true_eq];omega
 simp only [e1,e2,Option.all_some,e3,Bool.true_and,Bool.not_false,Bool.and_true]
def pR (n:Int):Bool:=((decide (n<97)||decide (122<n))&&(decide (n<48)||decide (57<n)))&& !decide (n=95)
theorem notWord_eq (c:UInt8):pR c.toNat= !fY c:=by
 unfold pR fY nZ lY rZ
 rw [Bool.eq_iff_iff]
 simp only [Bool.and_eq_true,Bool.or_eq_true,Bool.not_eq_true',Bool.or_eq_false_iff,Bool.and_eq_false_iff,decide_eq_true_eq,decide_eq_false_iff_not]
 omega
theorem word_no {s:ByteArray} {k:Nat} (hlt:k<s.size) (h:pR ((s.data.toList.getD k 0).toNat:Int)=true):s.data.toList.all fY=false:=by
 rw [notWord_eq] at h
 rw [List.all_eq_false]
 exact ⟨_,List.mem_of_getElem? (zDo hlt),by simpa using h⟩
theorem word_yes {s:ByteArray} {k:Nat} (hlt:k<s.size) (hp:(s.data.toList.take k).all fY=true) (h:pR ((s.data.toList.getD k 0).toNat:Int)=false):(s.data.toList.take (k+1)).all fY=true:=by
 rw [notWord_eq] at h
 rw [zMe (zDo hlt),hp]
 simpa using h
theorem word_all {s:ByteArray} {k:Nat} (hp:(s.data.toList.take k).all fY=true) (h:¬k<s.size):s.data.toList.all fY=true:=by
 rw [List.take_of_length_le (by simp;omega)] at hp
 exact hp
def rR (t:Ty):Bool:=decide (t.Bits=0)&&decide (t.Frac=0)&&decide (t.Round=0)&&decide (t.Over=0)
theorem plainT_eq (t:Ty):dA [cI t.Kind,cI t.Bits,cI t.Frac,cI t.Round,cI t.Over] [cI t.Kind,.lit (.int .i64 0),.lit (.int .i64 0),.lit (.int .i64 0),.lit (.int .i64 0)]=rR t:=by
 simp [dA,cEq,rR,Bool.and_assoc]
def pT (t:Ty):Bool:=((((!decide (t.Kind=2)||decide (t.Bits<2))||decide (31<t.Bits))||decide (t.Frac<0))||decide (30<t.Frac))|| !((decide (1<=t.Round)&&decide (t.Round<=4))&&(decide (t.Over=1)||decide (t.Over=2)))
theorem fixCond_eq (t:Ty):pT t= !gH t:=by
 unfold pT gH
 rw [Bool.eq_iff_iff]
 simp only [Bool.and_eq_true,Bool.or_eq_true,Bool.not_eq_true',Bool.or_eq_false_iff,Bool.and_eq_false_iff,decide_eq_true_eq,decide_eq_false_iff_not]
 omega
theorem fix_no {t:Ty} (h:pT t=true):gH t=false:=by rw [fixCond_eq] at h;simpa using h
theorem fix_yes {t:Ty} (h:pT t=false):gH t=true:=by rw [fixCond_eq] at h;simpa using h
theorem type1 {t:Ty} (h:(decide (t.Kind=1)||decide (t.Kind=3))=true):(((decide (t.Bits=0)&&decide (t.Frac=0))&&decide (t.Round=0))&&decide (t.Over=0))=dW t:=by
 unfold dW
 rw [h]
 have:decide (t.Kind=2)=false:=by
  simp only [Bool.or_eq_true,decide_eq_true_eq] at h
  simp;omega
 simp [this]
theorem type2 {t:Ty} (h:(decide (t.Kind=1)||decide (t.Kind=3))=false):(((((((decide (t.Kind=2)&&decide (2<=t.Bits))&&decide (t.Bits<=31))&&decide (0<=t.Frac))&&decide (t.Frac<=30))&&decide (1<=t.Round))&&decide (t.Round<=4))&&(decide (t.Over=1)||decide (t.Over=2)))=dW t:=by
 unfold dW
 rw [h]
 simp
theorem tyk1 {t:Ty} (h:t.Kind=1∨t.Kind=3):dW t=rR t:=by
 rw [←type1 (t:=t) (by simpa using h)];rfl
theorem tyk0 {t:Ty} (h1:¬t.Kind=1) (h3:¬t.Kind=3) (h2:¬t.Kind=2):dW t=false:=by
 simp [dW,h1,h2,h3]
theorem tyErr_ne {t:Ty} (h:¬bZ t=0):dW t=false:=by
 unfold bZ at h;cases ht:dW t<;>simp_all
theorem tyErr_eq {t:Ty} (h:bZ t=0):dW t=true:=by
 unfold bZ at h;cases ht:dW t<;>simp_all
theorem zIh {n:Int} (h:0<=n/\n<=18446744073709551615):IntKind.u64.wrap n=n:=IntWalk.u64_in _ h
theorem zRk {b:Int} (h1:2<=b) (h2:b<=31):IntKind.i64.wrap (1*2^(min (IntKind.u64.wrap (b-1)).toNat IntKind.i64.bits))=mG b:=by
 rw [zIh (by omega)]
 have h3:=half_le h1 h2
 have h4:min (b-1).toNat IntKind.i64.bits=(b-1).toNat:=Nat.min_eq_left (by simp [IntKind.bits];omega)
 rw [h4,Int.one_mul]
 exact zMg ⟨by unfold mG at h3;omega,by unfold mG at h3;omega⟩
theorem min_eq {b:Int} (h1:2<=b) (h2:b<=31):IntKind.i64.wrap (-(IntKind.i64.wrap (1*2^(min (IntKind.u64.wrap (b-1)).toNat IntKind.i64.bits))))= -mG b:=by
 rw [zRk h1 h2]
 have:=half_le h1 h2
 exact zMg ⟨by omega,by omega⟩
theorem max_eq {b:Int} (h1:2<=b) (h2:b<=31):IntKind.i64.wrap (IntKind.i64.wrap (1*2^(min (IntKind.u64.wrap (b-1)).toNat IntKind.i64.bits))-1)=mG b-1:=by
 rw [zRk h1 h2]
 have:=half_le h1 h2
 exact zMg ⟨by omega,by omega⟩
theorem fixB {t:Ty} (h:gH t=true):2<=t.Bits/\t.Bits<=31:=by
 simp only [gH,Bool.and_eq_true,decide_eq_true_eq] at h
 omega
theorem fxz {t:Ty} (h:(bif gH t then (0:Int) else 10)=0):gH t=true:=by cases ht:gH t<;>simp_all
theorem fxn {t:Ty} (h:¬(bif gH t then (0:Int) else 10)=0):gH t=false:=by cases ht:gH t<;>simp_all
theorem fxa {t:Ty} {p:Bool} (h:Lz (decide ((bif gH t then (0:Int) else 10)=0)&&p) true=true):gH t=true:=by
 simp only [Lz,cond_true,Bool.and_eq_true,decide_eq_true_eq] at h
 exact fxz h.1
theorem fxb {t:Ty} {p q:Bool} (h:Lz (decide ((bif gH t then (0:Int) else 10)=0)&&p&&q) true=true):gH t=true:=by
 simp only [Lz,cond_true,Bool.and_eq_true,decide_eq_true_eq] at h
 exact fxz h.1.1
theorem fixV (t:Ty) (v:Vl):(decide ((bif gH t then (0:Int) else 10)=0)&&decide (v.D=1)&&decide (-mG t.Bits<=v.N)&&decide (v.N<=mG t.Bits-1))=(gH t&&(decide (v.D=1)&&decide (-mG t.Bits<=v.N)&&decide (v.N<mG t.Bits))):=by
 have:decide (v.N<=mG t.Bits-1)=decide (v.N<mG t.Bits):=decide_eq_decide.2 (by omega)
 rw [this]
 cases gH t<;>simp
theorem mag_neg {n:Int} (h:n<0) (hn: -9223372036854775808<=n):IntKind.u64.wrap (-(IntKind.u64.wrap n))=n.natAbs:=by
 have e:IntKind.u64.wrap n=n+18446744073709551616:=by simp [IntKind.wrap,IntKind.bits,IntKind.signed];omega
 rw [e]
 simp [IntKind.wrap,IntKind.bits,IntKind.signed];omega
theorem mag_pos {n:Int} (h:¬n<0) (hn:n<=9223372036854775807):IntKind.u64.wrap n=n.natAbs:=by
 rw [zIh (by omega)];omega
theorem gcd_step {x y:Nat} (h:¬y=0):Nat.gcd x y=Nat.gcd y (x%y):=by
 rw [Nat.gcd_comm x y,Nat.gcd_rec y x,Nat.gcd_comm]
theorem frV {v:Vl} (h:Lz (decide (1<=v.D)&&decide (v.D<=2147483647)&&nD v.N) true=true):1<=v.D/\v.D<=2147483647/\ -9223372036854775808<=v.N/\v.N<=9223372036854775807:=by
 simp only [Lz,cond_true,Bool.and_eq_true,decide_eq_true_eq,nD] at h
 omega
theorem u64_D {d:Int} (h1:1<=d) (h2:d<=2147483647):IntKind.u64.wrap d=d.natAbs:=by
 rw [zIh (by omega)];omega
theorem max_abs {n:Int} (h1: -2147483647<=n) (h2:n<=2147483647):max n (IntKind.i64.wrap (-n))=n.natAbs:=by
 rw [zMg ⟨by omega,by omega⟩];omega
def rP (v:Vl):Bool:=((decide (2147483647<v.N)||decide (v.N< -2147483647))||decide (v.D<1))||decide (2147483647<v.D)
theorem val_in {v:Vl} (h:rP v=false): -2147483647<=v.N/\v.N<=2147483647/\1<=v.D/\v.D<=2147483647:=by
 simp only [rP,Bool.or_eq_false_iff,decide_eq_false_iff_not] at h
 omega
theorem val_out {t:Ty} {v:Vl} (hk:¬t.Kind=2) (h:rP v=true):jT t v=false:=by
 unfold jT nD
 rw [yD hk]
 simp only [rP,Bool.or_eq_true,decide_eq_true_eq] at h
 by_cases h3:t.Kind=3
 ·simp [h3];omega
 ·simp [h3];omega
theorem valfix {t:Ty} {v:Vl} (hk:t.Kind=2) (b1:2<=t.Bits) (b2:t.Bits<=31):(decide (v.D=1)&&decide (IntKind.i64.wrap (-(IntKind.i64.wrap (1*2^(min (t.Bits-1).toNat IntKind.i64.bits))))<=v.N)&&decide (v.N<IntKind.i64.wrap (1*2^(min (t.Bits-1).toNat IntKind.i64.bits))))=jT t v:=by
 have e:=zRk b1 b2
 have e':=min_eq b1 b2
 rw [zIh (by omega)] at e e'
 rw [e',e,jT,hk]
 rfl
/-! ## Expressions -/
def bN (op:Int):Int:=if op=1∨op=2∨op=3 then 0 else if op=8∨op=12∨op=18 then 1 else if op=11 then 3 else 2
def gE (e:Ex):Bool:=decide (13<=e.Op)&&decide (e.Op<=18)
def mF (op i:Int):Bool:=(((decide (op=11)&&decide (i=0))||decide (op=16))||decide (op=17))||decide (op=18)
def nA (l:Lf):Bool:=decide (l.K=0)&&decide ((l.L.length:Int)=0)
def jK (x:Ix):Bool:=bif decide (x.From=bs []) then decide ((x.At.length:Int)=0) else nA x.Lin
def sQ (v:Vl):Bool:=dA [cI v.N,cI v.D] [cI 0,cI 0]
def ty0 (t:Ty):Bool:=dA [cI t.Kind,cI t.Bits,cI t.Frac,cI t.Round,cI t.Over] [cI 0,cI 0,cI 0,cI 0,cI 0]
def gT (e:Ex):Bool:=
 !(decide (e.Op<1)||decide (18<e.Op))&& !(!decide (e.Op=1)&& !sQ e.Val)&& !(!(decide (e.Op=1)||decide (e.Op=12))&& !ty0 e.Ty)&& !(!decide (e.Op=2)&& !nA e.Lin)&&
 !(!decide (e.Op=3)&&(!decide (e.Name=bs [])||decide ((0:Int)<e.Idx.length)))&&e.Idx.all jK
def rU (x:Ix):Bool:= !(!decide (x.From=bs [])&& !bD x.From)
def mD (e:Ex):Bool:= !(decide (e.Op=3)&& !bD e.Name)&&e.Idx.all rU
def rQ (x:Ix):Bool:= !decide ((6:Int)<x.At.length)
def lW (e:Ex):Bool:= !(!decide ((e.Args.length:Int)=bN e.Op)||decide ((6:Int)<e.Idx.length))&&e.Idx.all rQ
def lB (op i:Int):List Ex->Bool
 |[]=>true
 |a::r=>(gE a==mF op i)&&lB op (i+1) r
def jL (e:Ex):Bool:= !((decide (e.Op=1)||decide (e.Op=12))&& !dW e.Ty)&&lB e.Op 0 e.Args
def dL (e:Ex):List Lf:=e.Lin::e.Idx.flatMap fun x=>x.Lin::x.At
def jF (e:Ex):Bool:= !(decide (e.Op=1)&& !jT e.Ty e.Val)&&(dL e).all bJ
def bS (e:Ex):Int:=bif !gT e then 5 else bif !mD e then 7 else bif !lW e then 11 else bif !jL e then 10 else bif !jF e then 1 else 0
mutual
def dE:Ex->List Ex
 |.mk o n v t l i arg_=>.mk o n v t l i arg_::bK arg_
def bK:List Ex->List Ex
 |[]=>[]
 |e::r=>dE e++bK r
end
theorem kZ (e:Ex):dE e=e::bK e.Args:=by cases e;rw [dE];rfl
theorem zLe (a b:List Ex):bK (a++b)=bK a++bK b:=by
 induction a with
 |nil=>rfl
 |cons x r ih=>rw [List.cons_append,bK,bK,ih,List.append_assoc]
def jA:List Ex->Int
 |[]=>0
 |e::r=>bif decide (bS e=0) then jA r else bS e
theorem zFi (a b:List Ex):jA (a++b)=bif decide (jA a=0) then jA b else jA a:=by
 induction a with
 |nil=>rfl
 |cons x r ih=>
  rw [List.cons_append,jA,jA,ih]
  by_cases h:bS x=0
  ·simp [h]
  ·simp [h]
def dQ (e:Ex):Int:=jA (dE e)
def rB (l:List Ex):Int:=jA (bK l)
theorem zFb (e:Ex):dQ e=bif decide (bS e=0) then rB e.Args else bS e:=by rw [dQ,kZ,jA];rfl
theorem zMz (e:Ex) (r:List Ex):rB (e::r)=bif decide (dQ e=0) then rB r else dQ e:=by rw [rB,bK,zFi];rfl
def rL (f:Ex->Int) (d:Int):List Ex->Int
 |[]=>d
 |a::r=>rL f (max d (1+f a)) r
def lA:Nat->Ex->Int
 |0,_=>1
 |n+1,e=>rL (lA n) 1 e.Args
theorem depF_le {f:Ex->Int} {n:Int} (h:∀a,1<=f a/\f a<=n):∀(l:List Ex) (d:Int),1<=d->d<=n+1->1<=rL f d l/\rL f d l<=n+1
 |[],d,h1,h2=>⟨h1,h2⟩
 |a::r,d,h1,h2=>by
  have:=h a
  exact depF_le h r _ (by omega) (by omega)
theorem depT_le:∀(n:Nat) (e:Ex),1<=lA n e/\lA n e<=n+1
 |0,e=>by simp [lA]
 |n+1,e=>by
  have:=depF_le (n:=n+1) (depT_le n) e.Args 1 (by omega) (by omega)
  rw [lA];omega
mutual
def rJ:Ex->Nat->Nat
 |.mk _ _ _ _ _ _ arg_,most=>pX arg_ most 1
def pX:List Ex->Nat->Nat->Nat
 |[],_,n=>n
 |a::r,most,n=>if n<=most then pX r most (n+rJ a (most-n)) else n
end
theorem sizE_eq (e:Ex) (m:Nat):rJ e m=pX e.Args m 1:=by cases e;rw [rJ];rfl
mutual
theorem sizE_min:∀(e:Ex) (m:Nat),rJ e m=min (dE e).length (m+1)
 |.mk o n v t l i arg_,m=>by
  rw [rJ,dE,sizL_min arg_ m 1 (by omega)]
  simp;omega
theorem sizL_min:∀(l:List Ex) (m n:Nat),n<=m+1->pX l m n=min (n+(bK l).length) (m+1)
 |[],m,n,h=>by simp [pX,bK];omega
 |a::r,m,n,h=>by
  rw [pX,bK,List.length_append]
  split
  ·rename_i hn
   rw [sizE_min a (m-n),sizL_min r m _ (by omega)]
   omega
  ·omega
end
def szT (e:Ex):Nat:=min (dE e).length 2001
def bP (e:Ex):Int:=bif decide (40<lA 40 e) then 13 else bif decide ((2000:Int)<szT e) then 2 else dQ e
theorem zDc:∀(e x:Ex),x∈dE e->x.wt<=e.wt:=by
 intro e
 induction e using Ex.ind with
 |_ e ih=>
  intro x hx
  rw [kZ] at hx
  rcases List.mem_cons.1 hx with rfl|hx
  ·omega
  ·have:∀l:List Ex,(∀a,a∈l->a∈e.Args)->x∈bK l->x.wt<=e.wt:=by
    intro l hl hx
    induction l with
    |nil=>simp [bK] at hx
    |cons a r ihr=>
     rw [bK] at hx
     rcases List.mem_append.1 hx with h|h
     ·have h1:=ih a (hl a (by simp)) x h
      have h2:=Ex.arg_wt (hl a (by simp))
      omega
     ·exact ihr (fun b hb=>hl b (by simp [hb])) h
   exact this e.Args (fun a h=>h) hx
theorem zRd {α:Type} (l:List α) (p:α->Bool):(!l.any fun x=> !p x)=l.all p:=by
 induction l with
 |nil=>rfl
 |cons x r ih=>simp only [List.any_cons,List.all_cons,←ih];cases p x<;>simp
theorem zPr {α:Type} {p:α->Bool} {l:List α} {k:Nat} {x:α} (h:l[k]? =some x) (hp:l.all p=(l.drop k).all p) (hx:p x=true):l.all p=(l.drop (k+1)).all p:=by
 rw [hp,qR h,List.all_cons,hx];rfl
theorem all_no {α:Type} {p:α->Bool} {l:List α} {k:Nat} {x:α} (h:l[k]? =some x) (hx:p x=false):l.all p=false:=by
 rw [List.all_eq_false];exact ⟨x,zX h,by simp [hx]⟩
theorem all_end {α:Type} {p:α->Bool} {l:List α} {k:Nat} (hp:l.all p=(l.drop k).all p) (h:¬k<l.length):l.all p=true:=by
 rw [hp,wB h];rfl
theorem tyErr_dec (t:Ty):decide (bZ t=0)=dW t:=by unfold bZ;cases dW t<;>rfl
theorem zHz {l:Lf} (h:¬fZ l=0):bJ l=false:=by unfold fZ at h;cases hl:bJ l<;>simp_all
theorem zIa {l:Lf} (h:fZ l=0):bJ l=true:=by unfold fZ at h;cases hl:bJ l<;>simp_all
theorem plain2 {e:Ex} {b:Bool} (h:((!decide (e.Op=1)&& !dA [cI e.Val.N,cI e.Val.D] [cI 0,cI 0])||((!decide (e.Op=1)&& !decide (e.Op=12))&& !dA [cI e.Ty.Kind,cI e.Ty.Bits,cI e.Ty.Frac,cI e.Ty.Round,cI e.Ty.Over] [cI 0,cI 0,cI 0,cI 0,cI 0]))=b):
  ((!decide (e.Op=1)&& !sQ e.Val)||(!(decide (e.Op=1)||decide (e.Op=12))&& !ty0 e.Ty))=b:=by
 rw [←h];unfold sQ ty0;cases decide (e.Op=1)<;>simp
theorem plain3 {e:Ex} {b:Bool} (h:((!decide (e.Op=2)&&(!decide (e.Lin.K=0)||decide ((0:Int)<e.Lin.L.length)))||(!decide (e.Op=3)&&(!decide (e.Name=bs [])||decide ((0:Int)<e.Idx.length))))=b):
  ((!decide (e.Op=2)&& !nA e.Lin)||(!decide (e.Op=3)&&(!decide (e.Name=bs [])||decide ((0:Int)<e.Idx.length))))=b:=by
 rw [←h]
 have:(!nA e.Lin)=(!decide (e.Lin.K=0)||decide ((0:Int)<e.Lin.L.length)):=by
  unfold nA
  rw [Bool.not_and]
  congr 1
  rw [Bool.eq_iff_iff];simp only [Bool.not_eq_true',decide_eq_true_eq,decide_eq_false_iff_not];omega
 rw [this]
theorem well_dec {x:Ix} {b:Bool} (h:((decide (x.From=bs [])&&decide ((0:Int)<x.At.length))||(!decide (x.From=bs [])&&(!decide (x.Lin.K=0)||decide ((0:Int)<x.Lin.L.length))))=b):(!jK x)=b:=by
 rw [←h]
 unfold jK nA
 by_cases hf:x.From=bs []
 ·simp only [hf,decide_true,cond_true,Bool.true_and,Bool.not_true,Bool.false_and,Bool.or_false]
  rw [Bool.eq_iff_iff];simp only [Bool.not_eq_true',decide_eq_true_eq,decide_eq_false_iff_not];omega
 ·simp only [hf,decide_false,cond_false,Bool.false_and,Bool.not_false,Bool.true_and,Bool.false_or,Bool.not_and]
  congr 1
  rw [Bool.eq_iff_iff];simp only [Bool.not_eq_true',decide_eq_true_eq,decide_eq_false_iff_not];omega
theorem syn2 {e:Ex} (h:((!decide (e.Op=1)&& !sQ e.Val)||(!(decide (e.Op=1)||decide (e.Op=12))&& !ty0 e.Ty))=true):false=gT e:=by
 unfold gT
 rw [Bool.or_eq_true] at h
 rcases h with h|h<;>simp only [h,Bool.not_true,Bool.and_false,Bool.false_and]
theorem syn3 {e:Ex} (h:((!decide (e.Op=2)&& !nA e.Lin)||(!decide (e.Op=3)&&(!decide (e.Name=bs [])||decide ((0:Int)<e.Idx.length))))=true):false=gT e:=by
 unfold gT
 rw [Bool.or_eq_true] at h
 rcases h with h|h<;>simp only [h,Bool.not_true,Bool.and_false,Bool.false_and]
theorem syn5 {e:Ex} (h1:(decide (e.Op<1)||decide (18<e.Op))=false) (h2:((!decide (e.Op=1)&& !sQ e.Val)||(!(decide (e.Op=1)||decide (e.Op=12))&& !ty0 e.Ty))=false) (h3:((!decide (e.Op=2)&& !nA e.Lin)||(!decide (e.Op=3)&&(!decide (e.Name=bs [])||decide ((0:Int)<e.Idx.length))))=false) (h4:e.Idx.all jK=true):true=gT e:=by
 unfold gT
 obtain ⟨a,b⟩:=Bool.or_eq_false_iff.1 h2
 obtain ⟨c,d⟩:=Bool.or_eq_false_iff.1 h3
 simp only [h1,a,b,c,d,h4,Bool.not_false,Bool.and_self]
theorem form_start {e:Ex} (h:((decide (e.Op=1)&& !jT e.Ty e.Val)|| !bJ e.Lin)=false):(dL e).all bJ=((e.Idx.drop 0).flatMap fun x=>x.Lin::x.At).all bJ:=by
 obtain ⟨_,h2⟩:=Bool.or_eq_false_iff.1 h
 rw [dL,List.all_cons,show bJ e.Lin=true by simpa using h2];rfl
theorem form_no {e:Ex} (h:((decide (e.Op=1)&& !jT e.Ty e.Val)|| !bJ e.Lin)=true):false=jF e:=by
 unfold jF dL
 rw [Bool.or_eq_true] at h
 rcases h with h|h
 ·simp only [h,Bool.not_true,Bool.false_and]
 ·rw [List.all_cons,show bJ e.Lin=false by simpa using h];simp
theorem form_no2 {e:Ex} {l:List Lf} (h:(dL e).all bJ=l.all bJ) (h2:l.all bJ=false):false=jF e:=by
 unfold jF;rw [h,h2,Bool.and_false]
theorem form_yes {e:Ex} (h:((decide (e.Op=1)&& !jT e.Ty e.Val)|| !bJ e.Lin)=false) (h2:(dL e).all bJ=true):true=jF e:=by
 obtain ⟨h1,_⟩:=Bool.or_eq_false_iff.1 h
 unfold jF;rw [h1,h2];rfl
theorem types_ty {e:Ex} (h:jL e=true):e.Op=1->dW e.Ty=true:=by
 intro h1
 simp only [jL,h1,decide_true,Bool.true_or,Bool.true_and,Bool.not_not,Bool.and_eq_true] at h
 exact h.1
theorem dep_start {n:Nat} {e:Ex} (h:n≠0):lA n e=rL (lA (n-1)) 1 (e.Args.drop 0):=by
 cases n with
 |zero=>exact absurd rfl h
 |succ n=>rfl
theorem dep_end {n:Nat} {e:Ex} {l d:Int} {k:Nat} (hl:l=n+1) (c:e.Args.length<=k∨l<=1) (h3:n≠0->lA n e=rL (lA (n-1)) d (e.Args.drop k)) (h4:n=0->d=1):d=lA n e:=by
 by_cases h0:n=0
 ·rw [h4 h0,h0];rfl
 ·rw [h3 h0,wB (by omega)];rfl
theorem siz_end {l:List Ex} {k n m:Nat} {x:Int} (hl:x=m) (h:l.length<=k∨x<n):n=pX (l.drop k) m n:=by
 by_cases hk:k<l.length
 ·obtain ⟨a,ha⟩:=qU l k hk
  rw [qR ha,pX,if_neg (by omega)]
 ·rw [wB hk,pX]
abbrev ixF (x:Ix):List Lf:=x.Lin::x.At
theorem forms_at {e:Ex} {k:Nat} {x:Ix} (h:e.Idx[k]? =some x):dL e=(e.Lin::(e.Idx.take k).flatMap ixF)++x.Lin::(x.At++(e.Idx.drop (k+1)).flatMap ixF):=by
 have e1:e.Idx=e.Idx.take k++x::e.Idx.drop (k+1):=by rw [←qR h,List.take_append_drop]
 have e2:dL e=e.Lin::e.Idx.flatMap ixF:=rfl
 have e3:e.Idx.flatMap ixF=(e.Idx.take k++x::e.Idx.drop (k+1)).flatMap ixF:=congrArg _ e1
 rw [e2,e3,List.flatMap_append,List.flatMap_cons]
 simp [ixF]
theorem forms_at2 {e:Ex} {k j:Nat} {x:Ix} {l:Lf} (h:e.Idx[k]? =some x) (hl:x.At[j]? =some l):dL e=((e.Lin::(e.Idx.take k).flatMap ixF)++[x.Lin]++x.At.take j)++l::(x.At.drop (j+1)++(e.Idx.drop (k+1)).flatMap ixF):=by
 rw [forms_at h]
 have e1:x.At=x.At.take j++l::x.At.drop (j+1):=by rw [←qR hl,List.take_append_drop]
 have e2:x.At++(e.Idx.drop (k+1)).flatMap ixF=(x.At.take j++l::x.At.drop (j+1))++(e.Idx.drop (k+1)).flatMap ixF:=congrArg (· ++(e.Idx.drop (k+1)).flatMap ixF) e1
 rw [e2]
 simp
theorem forms_next {e:Ex} {k:Nat} {x:Ix} (h:e.Idx[k]? =some x):e.Lin::(e.Idx.take (k+1)).flatMap ixF=(e.Lin::(e.Idx.take k).flatMap ixF)++[x.Lin]++x.At:=by
 rw [qT h,List.flatMap_append];simp [ixF]
theorem nodes_at {e a:Ex} {k:Nat} (h:e.Args[k]? =some a) {pre suf:List Ex} {x:Ex} (hx:dE a=pre++x::suf):dE e=(e::bK (e.Args.take k)++pre)++x::(suf++bK (e.Args.drop (k+1))):=by
 have e1:e.Args=e.Args.take k++a::e.Args.drop (k+1):=by rw [←qR h,List.take_append_drop]
 have e2:bK e.Args=bK (e.Args.take k)++(dE a++bK (e.Args.drop (k+1))):=by
  have:=congrArg bK e1
  rw [zLe,bK] at this
  exact this
 rw [kZ,e2,hx]
 simp
theorem nodesL_next {l:List Ex} {k:Nat} {a:Ex} (h:l[k]? =some a):bK (l.take (k+1))=bK (l.take k)++dE a:=by
 rw [qT h,zLe,bK,bK,List.append_nil]
theorem zPi {e:Ex} {l:Lf} {B:Nat} (he:e.wt<=B) (h:l∈dL e):l.L.length<=B:=by
 unfold dL at h
 rcases List.mem_cons.1 h with rfl|h
 ·exact (e.parts he).1
 ·obtain ⟨x,hx,hl⟩:=List.mem_flatMap.1 h
  have h1:=Ex.idx_wt hx
  rcases List.mem_cons.1 hl with rfl|hl
  ·omega
  ·have:=zDe hl;omega
theorem node5 {e:Ex} {b:Bool} (h:jL e=true) (c:(decide (e.Op=1)&& !(dW e.Ty&&jT e.Ty e.Val))=b):(decide (e.Op=1)&& !jT e.Ty e.Val)=b:=by
 rw [←c]
 by_cases h1:e.Op=1
 ·rw [types_ty h h1];simp [h1]
 ·simp [h1]
theorem all_app_no {α:Type} {p:α->Bool} {pre suf:List α} {x:α} (h:(pre++[x]).all p=false):(pre++x::suf).all p=false:=by
 rw [show pre++x::suf=(pre++[x])++suf by simp,List.all_append,h];rfl
theorem errs_one {pre:List Ex} {x:Ex} (h:jA pre=0) (c:¬bS x=0):jA (pre++[x])=bS x:=by
 rw [zFi,h,jA,yD c];rfl
theorem errs_pre {pre suf:List Ex} {x:Ex} (h:¬jA (pre++[x])=0):jA (pre++x::suf)=jA (pre++[x]):=by
 rw [show pre++x::suf=(pre++[x])++suf by simp,zFi,yD h];rfl
end Go.Br
end
section
namespace Go.Br
open Go Go.Eng Go.L41
/-! ## Equality,part by part -/
theorem ix_eq (a b:Ix):((decide (a.From=b.From)&&decide (a.Lin=b.Lin))&&decide (a.At=b.At))=decide (a=b):=by
 rw [Bool.eq_iff_iff];simp only [Bool.and_eq_true,decide_eq_true_eq]
 cases a;cases b;simp only [Ix.mk.injEq]
 constructor
 ·rintro ⟨⟨h1,h2⟩,h3⟩;exact ⟨h2,h1,h3⟩
 ·rintro ⟨h1,h2,h3⟩;exact ⟨⟨h2,h1⟩,h3⟩
theorem litsEq_val (a b:Vl):dA [cI a.N,cI a.D] [cI b.N,cI b.D]=decide (a=b):=by
 rw [Bool.eq_iff_iff];cases a;cases b;simp [dA,cEq]
theorem litsEq_ty (a b:Ty):dA [cI a.Kind,cI a.Bits,cI a.Frac,cI a.Round,cI a.Over] [cI b.Kind,cI b.Bits,cI b.Frac,cI b.Round,cI b.Over]=decide (a=b):=by
 rw [Bool.eq_iff_iff];cases a;cases b;simp [dA,cEq]
theorem ex_eq (a b:Ex):((((((decide (a.Op=b.Op)&&decide (a.Name=b.Name))&&dA [cI a.Val.N,cI a.Val.D] [cI b.Val.N,cI b.Val.D])&&dA [cI a.Ty.Kind,cI a.Ty.Bits,cI a.Ty.Frac,cI a.Ty.Round,cI a.Ty.Over] [cI b.Ty.Kind,cI b.Ty.Bits,cI b.Ty.Frac,cI b.Ty.Round,cI b.Ty.Over])&&decide (a.Lin=b.Lin))&&decide (a.Idx=b.Idx))&&decide (a.Args=b.Args))=decide (a=b):=by
 rw [litsEq_val,litsEq_ty,Bool.eq_iff_iff]
 simp only [Bool.and_eq_true,decide_eq_true_eq,Ex.eq_iff]
 constructor
 ·rintro ⟨⟨⟨⟨⟨⟨h1,h2⟩,h3⟩,h4⟩,h5⟩,h6⟩,h7⟩;exact ⟨h1,h2,h3,h4,h5,h6,h7⟩
 ·rintro ⟨h1,h2,h3,h4,h5,h6,h7⟩;exact ⟨⟨⟨⟨⟨⟨h1,h2⟩,h3⟩,h4⟩,h5⟩,h6⟩,h7⟩
/-! ## Weights -/
def fP (m n:Nat):List Lf->Nat
 |[]=>n
 |l::r=>if n<=m then fP m (n+l.L.length) r else n
def dY (m n:Nat):List Ix->Nat
 |[]=>n
 |x::r=>if n<=m then dY m (fP m (n+x.Lin.L.length+x.At.length) x.At) r else n
mutual
def gJ:Ex->Nat->Nat
 |.mk _ _ _ _ l i arg_,m=>jD arg_ m (dY m (1+l.L.length+i.length) i)
def jD:List Ex->Nat->Nat->Nat
 |[],_,n=>n
 |a::r,m,n=>if n<=m then jD r m (n+gJ a (m-n)) else n
end
theorem weighE_eq (e:Ex) (m:Nat):gJ e m=jD e.Args m (dY m (1+e.Lin.L.length+e.Idx.length) e.Idx):=by cases e;rw [gJ];rfl
def Ix.fit (x:Ix):Prop:=x.Lin.L.length<=140737488355328/\x.At.length<=140737488355328/\∀l,l∈x.At->l.L.length<=140737488355328
mutual
def Ex.fit:Ex->Prop
 |.mk _ _ _ _ l i arg_=>l.L.length<=140737488355328/\i.length<=140737488355328/\arg_.length<=140737488355328/\(∀x,x∈i->x.fit)/\tY arg_
def tY:List Ex->Prop
 |[]=>True
 |a::r=>a.fit/\tY r
end
theorem fitL_mem {l:List Ex} (h:tY l):∀a,a∈l->a.fit:=by
 induction l with
 |nil=>intro a ha;cases ha
 |cons x r ih=>
  intro a ha
  rcases List.mem_cons.1 ha with rfl|ha
  ·exact h.1
  ·exact ih h.2 a ha
theorem Ex.fit_eq {e:Ex} (h:e.fit):e.Lin.L.length<=140737488355328/\e.Idx.length<=140737488355328/\e.Args.length<=140737488355328/\(∀x,x∈e.Idx->x.fit)/\∀a,a∈e.Args->a.fit:=by
 cases e with
 |mk o n v t l i arg_=>rw [Ex.fit] at h;exact ⟨h.1,h.2.1,h.2.2.1,h.2.2.2.1,fitL_mem h.2.2.2.2⟩
theorem zMh (m:Nat):∀(l:List Lf) (n:Nat),n<=fP m n l
 |[],n=>Nat.le_refl _
 |x::r,n=>by
  rw [fP];split
  ·have:=zMh m r (n+x.L.length);omega
  ·omega
theorem zPu (m:Nat):∀(l:List Ix) (n:Nat),n<=dY m n l
 |[],n=>Nat.le_refl _
 |x::r,n=>by
  rw [dY];split
  ·have h1:=zMh m x.At (n+x.Lin.L.length+x.At.length)
   have:=zPu m r (fP m (n+x.Lin.L.length+x.At.length) x.At);omega
  ·omega
theorem zPv (m:Nat):∀(l:List Lf) (n:Nat),fP m n l<=m->n+dS l<=fP m n l
 |[],n,_=>by simp [fP,dS]
 |y::r,n,h=>by
  have hn:n<=m:=Nat.le_trans (zMh m (y::r) n) h
  rw [fP,if_pos hn] at h⊢
  have:=zPv m r _ h
  rw [dS];omega
theorem zNv (m:Nat):∀(l:List Ix) (n:Nat),dY m n l<=m->n+fH l<=dY m n l
 |[],n,_=>by simp [dY,fH]
 |x::r,n,h=>by
  have hn:n<=m:=Nat.le_trans (zPu m (x::r) n) h
  rw [dY,if_pos hn] at h⊢
  have h1:=zNv m r _ h
  have h2:=zPv m x.At (n+x.Lin.L.length+x.At.length) (by omega)
  rw [fH,Ix.wt];omega
mutual
theorem weighE_wt:∀(e:Ex) (m:Nat),gJ e m<=m->e.wt<=gJ e m
 |.mk o n v t l i arg_,m,h=>by
  rw [gJ] at h⊢
  have h1:=weighL_wt arg_ m _ h
  have h2:=zNv m i (1+l.L.length+i.length) (by omega)
  rw [Ex.wt];omega
theorem weighL_wt:∀(l:List Ex) (m n:Nat),jD l m n<=m->n+bL l<=jD l m n
 |[],m,n,h=>by simp [jD,bL]
 |a::r,m,n,h=>by
  by_cases hn:n<=m
  ·rw [jD,if_pos hn] at h⊢
   have h1:=weighL_wt r m _ h
   have h2:=weighE_wt a (m-n) (by omega)
   rw [bL];omega
  ·rw [jD,if_neg hn] at h;omega
end
theorem weighAt_le {m:Nat}:∀(l:List Lf) (n B:Nat),(∀x,x∈l->x.L.length<=140737488355328)->n<=B->m+140737488355328<=B->fP m n l<=B
 |[],n,B,_,h,_=>by simpa [fP] using h
 |x::r,n,B,hx,h,hb=>by
  rw [fP];split
  ·have:=hx x (by simp)
   exact weighAt_le r _ B (fun y hy=>hx y (by simp [hy])) (by omega) hb
  ·exact h
theorem zPt {m:Nat}:∀(l:List Ix) (n B:Nat),(∀x,x∈l->x.fit)->n<=B->m+3*140737488355328<=B->dY m n l<=B
 |[],n,B,_,h,_=>by simpa [dY] using h
 |x::r,n,B,hx,h,hb=>by
  rw [dY];split
  ·obtain ⟨h1,h2,h3⟩:=hx x (by simp)
   exact zPt r _ B (fun y hy=>hx y (by simp [hy])) (weighAt_le x.At _ B h3 (by omega) (by omega)) hb
  ·exact h
mutual
theorem weighE_le:∀(e:Ex) (m:Nat),e.fit->gJ e m<=m+4*140737488355328
 |.mk o n v t l i arg_,m,h=>by
  rw [Ex.fit] at h
  obtain ⟨h1,h2,h3,h4,h5⟩:=h
  rw [gJ]
  exact weighL_le arg_ m _ h5 (zPt i _ _ h4 (by omega) (by omega))
theorem weighL_le:∀(l:List Ex) (m n:Nat),tY l->n<=m+4*140737488355328->jD l m n<=m+4*140737488355328
 |[],m,n,_,h=>by simpa [jD] using h
 |a::r,m,n,hf,h=>by
  rw [jD];split
  ·have:=weighE_le a (m-n) hf.1
   exact weighL_le r m _ hf.2 (by omega)
  ·exact h
end
theorem weighIdx_end {m n k:Nat} {l:List Ix} {x:Int} (hx:x=m) (h:l.length<=k∨x<n):n=dY m n (l.drop k):=by
 by_cases hk:k<l.length
 ·obtain ⟨a,ha⟩:=qU l k hk
  rw [qR ha,dY,if_neg (by omega)]
 ·rw [wB hk,dY]
theorem weighAt_end {m n k:Nat} {l:List Lf} {x:Int} (hx:x=m) (h:l.length<=k∨x<n):n=fP m n (l.drop k):=by
 by_cases hk:k<l.length
 ·obtain ⟨a,ha⟩:=qU l k hk
  rw [qR ha,fP,if_neg (by omega)]
 ·rw [wB hk,fP]
theorem weighL_end {m n k:Nat} {l:List Ex} {x:Int} (hx:x=m) (h:l.length<=k∨x<n):n=jD (l.drop k) m n:=by
 by_cases hk:k<l.length
 ·obtain ⟨a,ha⟩:=qU l k hk
  rw [qR ha,jD,if_neg (by omega)]
 ·rw [wB hk,jD]
/-! ## Forms mapped -/
def fE (f:Lf->Lf×Int) (l:Lf):Except Int Lf:=if (f l).2=0 then .ok (f l).1 else .error (f l).2
def dV (f:Lf->Lf×Int):List Lf->Except Int (List Lf)
 |[]=>.ok []
 |l::r=>match fE f l with
  |.error x=>.error x
  |.ok l'=>match dV f r with
   |.error x=>.error x
   |.ok r'=>.ok (l'::r')
def mIx (f:Lf->Lf×Int) (x:Ix):Except Int Ix:=match fE f x.Lin with
 |.error y=>.error y
 |.ok l=>match dV f x.At with
  |.error y=>.error y
  |.ok a=>.ok ⟨l,x.From,a⟩
def fO (f:Lf->Lf×Int):List Ix->Except Int (List Ix)
 |[]=>.ok []
 |x::r=>match mIx f x with
  |.error y=>.error y
  |.ok x'=>match fO f r with
   |.error y=>.error y
   |.ok r'=>.ok (x'::r')
mutual
def mEx (f:Lf->Lf×Int):Ex->Except Int Ex
 |.mk o n v t l i arg_=>match fE f l with
  |.error y=>.error y
  |.ok l'=>match fO f i with
   |.error y=>.error y
   |.ok i'=>match fV f arg_ with
    |.error y=>.error y
    |.ok as'=>.ok (.mk o n v t l' i' as')
def fV (f:Lf->Lf×Int):List Ex->Except Int (List Ex)
 |[]=>.ok []
 |a::r=>match mEx f a with
  |.error y=>.error y
  |.ok a'=>match fV f r with
   |.error y=>.error y
   |.ok r'=>.ok (a'::r')
end
def zEx:Ex:=.mk 0 (bs []) ⟨0,0⟩ ⟨0,0,0,0,0⟩ ⟨0,[]⟩ [] []
def lD:Except Int Ex->Ex
 |.ok e=>e
 |.error _=>zEx
def lT {α:Type}:Except Int α->Int
 |.ok _=>0
 |.error x=>x
def lQ {α β:Type} (a:Except Int α) (g:α->β):Except Int β:=match a with
 |.error y=>.error y
 |.ok x=>.ok (g x)
theorem mEx_eq (f:Lf->Lf×Int) (e:Ex):mEx f e=match fE f e.Lin with
  |.error y=>.error y
  |.ok l'=>match fO f e.Idx with
   |.error y=>.error y
   |.ok i'=>match fV f e.Args with
    |.error y=>.error y
    |.ok as'=>.ok (.mk e.Op e.Name e.Val e.Ty l' i' as'):=by cases e;rw [mEx];rfl
theorem zOs {f:Lf->Lf×Int} {l:Lf} (h:(f l).2=0):fE f l=.ok (f l).1:=if_pos h
theorem fE_err {f:Lf->Lf×Int} {l:Lf} (h:¬(f l).2=0):fE f l=.error (f l).2:=if_neg h
def dF {α:Type} (done:List α) (x:Except Int (List α)):Except Int (List α):=lQ x (done++ ·)
theorem zDd {α:Type} (x:Except Int (List α)):dF [] x=x:=by cases x<;>rfl
theorem mLins_next {f:Lf->Lf×Int} {l:List Lf} {k:Nat} {x:Lf} {done:List Lf} (h:l[k]? =some x) (hp:dV f l=dF done (dV f (l.drop k))) (hx:(f x).2=0):dV f l=dF (done++[(f x).1]) (dV f (l.drop (k+1))):=by
 rw [hp,qR h,dV,zOs hx]
 cases dV f (l.drop (k+1))<;>simp [dF,lQ]
theorem mLins_no {f:Lf->Lf×Int} {l:List Lf} {k:Nat} {x:Lf} {done:List Lf} (h:l[k]? =some x) (hp:dV f l=dF done (dV f (l.drop k))) (hx:¬(f x).2=0):dV f l=.error (f x).2:=by
 rw [hp,qR h,dV,fE_err hx];rfl
theorem mLins_end {f:Lf->Lf×Int} {l:List Lf} {k:Nat} {done:List Lf} (hp:dV f l=dF done (dV f (l.drop k))) (h:¬k<l.length):dV f l=.ok done:=by
 rw [hp,wB h];simp [dV,dF,lQ]
theorem mIxs_next {f:Lf->Lf×Int} {l:List Ix} {k:Nat} {x y:Ix} {done:List Ix} (h:l[k]? =some x) (hp:fO f l=dF done (fO f (l.drop k))) (hx:mIx f x=.ok y):fO f l=dF (done++[y]) (fO f (l.drop (k+1))):=by
 rw [hp,qR h,fO,hx]
 cases fO f (l.drop (k+1))<;>simp [dF,lQ]
theorem mIxs_no {f:Lf->Lf×Int} {l:List Ix} {k:Nat} {x:Ix} {done:List Ix} {c:Int} (h:l[k]? =some x) (hp:fO f l=dF done (fO f (l.drop k))) (hx:mIx f x=.error c):fO f l=.error c:=by
 rw [hp,qR h,fO,hx];rfl
theorem mIxs_end {f:Lf->Lf×Int} {l:List Ix} {k:Nat} {done:List Ix} (hp:fO f l=dF done (fO f (l.drop k))) (h:¬k<l.length):fO f l=.ok done:=by
 rw [hp,wB h];simp [fO,dF,lQ]
theorem zSh {α:Type} {x:Except Int α} (h:lT x=0) (h2:x≠ .error 0):∃a,x=.ok a:=by
 cases x with
 |ok a=>exact ⟨a,rfl⟩
 |error y=>exact absurd (by rw [show y=0 from h]) h2
theorem fE_ne {f:Lf->Lf×Int} {l:Lf}:fE f l≠ .error 0:=by
 unfold fE;split
 ·simp
 ·rename_i h;intro hh;exact h (Except.error.inj hh)
theorem mLins_ne {f:Lf->Lf×Int}:∀{l:List Lf},dV f l≠ .error 0
 |[]=>by simp [dV]
 |x::r=>by
  rw [dV]
  cases h1:fE f x with
  |error y=>intro h;cases h;exact fE_ne h1
  |ok a=>
   cases h2:dV f r with
   |error y=>intro h;cases h;exact mLins_ne h2
   |ok a=>simp
theorem mIx_ne {f:Lf->Lf×Int} {x:Ix}:mIx f x≠ .error 0:=by
 rw [mIx]
 cases h1:fE f x.Lin with
 |error y=>intro h;cases h;exact fE_ne h1
 |ok a=>
  cases h2:dV f x.At with
  |error y=>intro h;cases h;exact mLins_ne h2
  |ok a=>simp
theorem mIxs_ne {f:Lf->Lf×Int}:∀{l:List Ix},fO f l≠ .error 0
 |[]=>by simp [fO]
 |x::r=>by
  rw [fO]
  cases h1:mIx f x with
  |error y=>intro h;cases h;exact mIx_ne h1
  |ok a=>
   cases h2:fO f r with
   |error y=>intro h;cases h;exact mIxs_ne h2
   |ok a=>simp
mutual
theorem mEx_ne {f:Lf->Lf×Int}:∀e:Ex,mEx f e≠ .error 0
 |.mk o n v t l i arg_=>by
  rw [mEx]
  cases h1:fE f l with
  |error y=>intro h;cases h;exact fE_ne h1
  |ok a=>
   cases h2:fO f i with
   |error y=>intro h;cases h;exact mIxs_ne h2
   |ok a=>
    cases h3:fV f arg_ with
    |error y=>intro h;cases h;exact mExs_ne arg_ h3
    |ok a=>simp
theorem mExs_ne {f:Lf->Lf×Int}:∀l:List Ex,fV f l≠ .error 0
 |[]=>by simp [fV]
 |x::r=>by
  rw [fV]
  cases h1:mEx f x with
  |error y=>intro h;cases h;exact mEx_ne x h1
  |ok a=>
   cases h2:fV f r with
   |error y=>intro h;cases h;exact mExs_ne r h2
   |ok a=>simp
end
theorem mExs_next {f:Lf->Lf×Int} {l:List Ex} {k:Nat} {x:Ex} {done:List Ex} (h:l[k]? =some x) (hp:fV f l=dF done (fV f (l.drop k))) (hx:lT (mEx f x)=0):fV f l=dF (done++[lD (mEx f x)]) (fV f (l.drop (k+1))):=by
 rw [hp,qR h,fV]
 obtain ⟨y,hy⟩:=zSh hx (mEx_ne x)
 rw [hy]
 cases fV f (l.drop (k+1))<;>simp [dF,lQ,lD]
theorem mExs_no {f:Lf->Lf×Int} {l:List Ex} {k:Nat} {x:Ex} {done:List Ex} (h:l[k]? =some x) (hp:fV f l=dF done (fV f (l.drop k))) (hx:¬lT (mEx f x)=0):fV f l=.error (lT (mEx f x)):=by
 rw [hp,qR h,fV]
 cases hm:mEx f x with
 |error y=>rfl
 |ok y=>rw [hm] at hx;exact absurd rfl hx
theorem mExs_end {f:Lf->Lf×Int} {l:List Ex} {k:Nat} {done:List Ex} (hp:fV f l=dF done (fV f (l.drop k))) (h:¬k<l.length):fV f l=.ok done:=by
 rw [hp,wB h];simp [fV,dF,lQ]
def idF (l:Lf):Lf×Int:=(l,0)
theorem mLins_id:∀l:List Lf,dV idF l=.ok l
 |[]=>rfl
 |x::r=>by rw [dV,zOs rfl,mLins_id r];rfl
theorem mIx_id (x:Ix):mIx idF x=.ok x:=by rw [mIx,zOs rfl,mLins_id];rfl
theorem mIxs_id:∀l:List Ix,fO idF l=.ok l
 |[]=>rfl
 |x::r=>by rw [fO,mIx_id,mIxs_id r]
mutual
theorem mEx_id:∀e:Ex,mEx idF e=.ok e
 |.mk o n v t l i arg_=>by rw [mEx,zOs rfl,mIxs_id,mExs_id arg_];rfl
theorem mExs_id:∀l:List Ex,fV idF l=.ok l
 |[]=>by rw [fV]
 |x::r=>by rw [fV,mEx_id x,mExs_id r]
end
/-! ## A row in the middle -/
theorem mid_get {α:Type} {f:α->List C} {A:List (List C)} {l:List α} {k:Nat} {x:α} (hA:A.length=k) (h:l[k]? =some x):(A++(l.drop k).map f)[k]? =some (f x):=by
 rw [qR h,List.map_cons,List.getElem?_append_right (by omega),hA];simp
theorem mid_len {α:Type} {f:α->List C} {A:List (List C)} {l:List α} {k:Nat} (hA:A.length=k) (h:k<l.length):((k:Int)).toNat<(A++(l.drop k).map f).length:=by
 simp;omega
theorem mid_set {α:Type} {f:α->List C} {A:List (List C)} {l:List α} {k:Nat} {x:α} {r:List C} (hA:A.length=k) (h:l[k]? =some x):(A++(l.drop k).map f).set k r=(A++[r])++(l.drop (k+1)).map f:=by
 rw [qR h,List.map_cons,List.set_append_right _ _ (by omega),hA];simp
theorem set_get {A:List (List C)} {k:Nat} {r:List C} (h:k<A.length):(A.set k r)[k]? =some r:=by
 rw [List.getElem?_set_self h]
theorem mid_getE {A:List (List C)} {l:List Ex} {k:Nat} {x:Ex} (hA:A.length=k) (h:l[k]? =some x):(A++(l.drop k).map Ex.cells)[k]? =some x.cs:=by
 rw [mid_get hA h,Ex.cells_eq]
theorem mEx_e1 {f:Lf->Lf×Int} {e:Ex} (h:¬(f e.Lin).2=0):mEx f e=.error (f e.Lin).2:=by rw [mEx_eq,fE_err h]
theorem mEx_e2 {f:Lf->Lf×Int} {e:Ex} {c:Int} (h:(f e.Lin).2=0) (h2:fO f e.Idx=.error c):mEx f e=.error c:=by rw [mEx_eq,zOs h,h2]
theorem mEx_e3 {f:Lf->Lf×Int} {e:Ex} {c:Int} {i:List Ix} (h:(f e.Lin).2=0) (h2:fO f e.Idx=.ok i) (h3:fV f e.Args=.error c):mEx f e=.error c:=by rw [mEx_eq,zOs h,h2,h3]
theorem mEx_ok {f:Lf->Lf×Int} {e:Ex} {i:List Ix} {a:List Ex} (h:(f e.Lin).2=0) (h2:fO f e.Idx=.ok i) (h3:fV f e.Args=.ok a):mEx f e=.ok (.mk e.Op e.Name e.Val e.Ty (f e.Lin).1 i a):=by rw [mEx_eq,zOs h,h2,h3]
theorem mIx_e1 {f:Lf->Lf×Int} {x:Ix} (h:¬(f x.Lin).2=0):mIx f x=.error (f x.Lin).2:=by rw [mIx,fE_err h]
theorem mIx_e2 {f:Lf->Lf×Int} {x:Ix} {c:Int} (h:(f x.Lin).2=0) (h2:dV f x.At=.error c):mIx f x=.error c:=by rw [mIx,zOs h,h2]
theorem mIx_ok {f:Lf->Lf×Int} {x:Ix} {a:List Lf} (h:(f x.Lin).2=0) (h2:dV f x.At=.ok a):mIx f x=.ok ⟨(f x.Lin).1,x.From,a⟩:=by rw [mIx,zOs h,h2]
def Ex.allF (P:Lf->Prop) (e:Ex):Prop:=∀x,x∈dE e->∀l,l∈dL x->P l
theorem Ex.allF_lin {P:Lf->Prop} {e:Ex} (h:e.allF P):P e.Lin:=h e (by rw [kZ];simp) _ (by unfold dL;simp)
theorem Ex.allF_ix {P:Lf->Prop} {e:Ex} (h:e.allF P) {x:Ix} (hx:x∈e.Idx):P x.Lin:=h e (by rw [kZ];simp) _ (by unfold dL;exact List.mem_cons_of_mem _ (List.mem_flatMap.2 ⟨x,hx,by simp⟩))
theorem Ex.allF_at {P:Lf->Prop} {e:Ex} (h:e.allF P) {x:Ix} (hx:x∈e.Idx) {l:Lf} (hl:l∈x.At):P l:=h e (by rw [kZ];simp) _ (by unfold dL;exact List.mem_cons_of_mem _ (List.mem_flatMap.2 ⟨x,hx,by simp [hl]⟩))
theorem zHu {a x:Ex}:∀{l:List Ex},a∈l->x∈dE a->x∈bK l
 |[],h,_=>by cases h
 |b::r,h,hx=>by
  rw [bK,List.mem_append]
  rcases List.mem_cons.1 h with rfl|h
  ·exact .inl hx
  ·exact .inr (zHu h hx)
theorem Ex.allF_arg {P:Lf->Prop} {e:Ex} (h:e.allF P) {a:Ex} (ha:a∈e.Args):a.allF P:=fun x hx=>h x (by rw [kZ];exact List.mem_cons_of_mem _ (zHu ha hx))
/-! ## Counts: all but the lengths of forms -/
def hY:List Ix->Nat
 |[]=>0
 |x::r=>x.At.length+hY r
mutual
def Ex.cnt:Ex->Nat
 |.mk _ _ _ _ _ i r=>1+i.length+hY i+fX r
def fX:List Ex->Nat
 |[]=>0
 |e::r=>e.cnt+fX r
end
theorem Ex.cnt_eq (e:Ex):e.cnt=1+e.Idx.length+hY e.Idx+fX e.Args:=by cases e;rw [Ex.cnt];rfl
theorem Ex.cnt_pos (e:Ex):1<=e.cnt:=by rw [Ex.cnt_eq];omega
theorem ixCnt_mem {l:List Ix} {x:Ix} (h:x∈l):x.At.length<=hY l:=by
 induction l with
 |nil=>cases h
 |cons a r ih=>
  rw [hY]
  rcases List.mem_cons.1 h with rfl|h
  ·omega
  ·have:=ih h;omega
theorem cntL_len (l:List Ex):l.length<=fX l:=by
 induction l with
 |nil=>simp [fX]
 |cons a r ih=>rw [fX,List.length_cons];have:=a.cnt_pos;omega
theorem cntL_mem {l:List Ex} {a:Ex} (h:a∈l):a.cnt<=fX l:=by
 induction l with
 |nil=>cases h
 |cons x r ih=>
  rw [fX]
  rcases List.mem_cons.1 h with rfl|h
  ·omega
  ·have:=ih h;omega
theorem Ex.cparts {e:Ex} {B:Nat} (h:e.cnt<=B):e.Idx.length<=B/\e.Args.length<=B/\∀x,x∈e.Idx->x.At.length<=B:=by
 rw [Ex.cnt_eq] at h
 have:=cntL_len e.Args
 exact ⟨by omega,by omega,fun x hx=>by have:=ixCnt_mem hx;omega⟩
theorem Ex.arg_cnt {e a:Ex} (h:a∈e.Args):a.cnt<e.cnt:=by
 rw [Ex.cnt_eq e];have:=cntL_mem h;omega
theorem ixCnt_le (l:List Ix):hY l<=fH l:=by
 induction l with
 |nil=>simp [hY]
 |cons x r ih=>rw [hY,fH,Ix.wt];omega
theorem Ex.cnt_le (e:Ex):e.cnt<=e.wt:=by
 induction e using Ex.ind with
 |_ e ih=>
  rw [Ex.cnt_eq,Ex.wt_eq]
  have h1:=ixCnt_le e.Idx
  have h2:∀l:List Ex,(∀a,a∈l->a.cnt<=a.wt)->fX l<=bL l:=by
   intro l
   induction l with
   |nil=>intro _;simp [fX]
   |cons a r ihr=>
    intro h
    rw [fX,bL]
    have:=h a (by simp)
    have:=ihr fun b hb=>h b (by simp [hb])
    omega
  have:=h2 e.Args ih
  omega
end Go.Br
end
section
namespace Go.Br
open Go Go.Eng Go.L41
theorem zGi {l:List Ex} (h:jA l=0):∀x,x∈l->bS x=0:=by
 induction l with
 |nil=>intro x hx;cases hx
 |cons y r ih=>
  intro x hx
  rw [jA] at h
  by_cases hy:bS y=0
  ·rw [kR hy,cond_true] at h
   rcases List.mem_cons.1 hx with rfl|hx
   ·exact hy
   ·exact ih h x hx
  ·rw [yD hy,cond_false] at h;exact absurd h hy
theorem zAo {e:Ex} (h:dQ e=0):bS e=0:=zGi h e (by rw [kZ];simp)
theorem zDr {e a:Ex} (h:dQ e=0) (ha:a∈e.Args):dQ a=0:=by
 have hn:=zAo h
 rw [zFb,kR hn,cond_true] at h
 obtain ⟨k,hk⟩:=List.getElem?_of_mem ha
 have:∀l:List Ex,rB l=0->a∈l->dQ a=0:=by
  intro l
  induction l with
  |nil=>intro _ h;cases h
  |cons y r ih=>
   intro h hm
   rw [zMz] at h
   by_cases hy:dQ y=0
   ·rw [kR hy,cond_true] at h
    rcases List.mem_cons.1 hm with rfl|hm
    ·exact hy
    ·exact ih h hm
   ·rw [yD hy,cond_false] at h;exact absurd h hy
 exact this _ h ha
theorem wS {e:Ex} (h:bP e=0):dQ e=0:=by
 unfold bP at h
 by_cases h1:40<lA 40 e
 ·rw [kR h1] at h;simp at h
 ·rw [yD h1,cond_false] at h
  by_cases h2:(2000:Int)<szT e
  ·rw [kR h2] at h;simp at h
  ·rwa [yD h2,cond_false] at h
theorem zDl {e:Ex} (h:bS e=0):gT e=true/\mD e=true/\lW e=true/\jL e=true/\jF e=true:=by
 unfold bS at h
 cases h1:gT e<;>rw [h1] at h<;>simp at h
 cases h2:mD e<;>rw [h2] at h<;>simp at h
 cases h3:lW e<;>rw [h3] at h<;>simp at h
 cases h4:jL e<;>rw [h4] at h<;>simp at h
 cases h5:jF e<;>rw [h5] at h<;>simp at h
 simp
theorem node_args {e:Ex} (h:bS e=0):(e.Args.length:Int)=bN e.Op:=by
 have:=(zDl h).2.2.1
 simp only [lW,Bool.and_eq_true,Bool.not_eq_true',Bool.or_eq_false_iff,Bool.not_eq_false',decide_eq_true_eq] at this
 exact this.1.1
theorem zPd {e:Ex} (h:bS e=0):bJ e.Lin=true:=by
 have:=(zDl h).2.2.2.2
 simp only [jF,Bool.and_eq_true,dL,List.all_cons] at this
 exact this.2.1
theorem zKt {e:Ex} (h:dQ e=0) (hop:bN e.Op=2):∃a b,e.Args=[a,b]/\dQ a=0/\dQ b=0:=by
 have hl:=node_args (zAo h)
 rw [hop] at hl
 match he:e.Args,hl with
 |[a,b],_=>exact ⟨a,b,rfl,zDr h (by rw [he];simp),zDr h (by rw [he];simp)⟩
 |[],hl=>simp at hl
 |[_],hl=>simp at hl
 |_::_::_::_,hl=>simp at hl;omega
theorem zMk {e:Ex} (h:dQ e=0) (hop:bN e.Op=3):∃a b c,e.Args=[a,b,c]/\dQ a=0/\dQ b=0/\dQ c=0:=by
 have hl:=node_args (zAo h)
 rw [hop] at hl
 match he:e.Args,hl with
 |[a,b,c],_=>exact ⟨a,b,c,rfl,zDr h (by rw [he];simp),zDr h (by rw [he];simp),zDr h (by rw [he];simp)⟩
 |[],hl=>simp at hl
 |[_],hl=>simp at hl
 |[_,_],hl=>simp at hl
 |_::_::_::_::_,hl=>simp at hl;omega
def zL:Lf:=⟨0,[]⟩
def dJ (x:Ex):Lf×Bool:=bif decide (x.Op=2) then (x.Lin,true) else bif decide (x.Op=1)&&decide (x.Ty.Kind=3) then (⟨x.Val.N,[]⟩,true) else (zL,false)
def jO (x:Ex):Lf×Bool:=bif decide (x.Op=2) then (x.Lin,true) else (⟨x.Val.N,[]⟩,decide (x.Op=1)&&decide (x.Ty.Kind=3))
def isV (x:Ex) (s:ByteArray):Bool:=decide (x.Op=2)&&decide (x.Lin=lR s)
def lE (b:Ex) (s:ByteArray):Lf×Bool:=bif !(dJ b).2||gM (dJ b).1.L s then (zL,false) else ((dJ b).1,true)
def fK (a b:Ex) (s:ByteArray):Lf×Bool:=bif bD s then (bif isV a s then lE b s else bif isV b s then lE a s else (zL,false)) else (zL,false)
def bT (e:Ex) (i:Nat):Ex:=e.Args.getD i zEx
def bX (c:Ex) (s:ByteArray):Lf×Bool:=bif decide (bP c=0)&&decide (c.Op=15) then fK (bT c 0) (bT c 1) s else (zL,false)
def mV (a b:Ex) (s:ByteArray):Bool:=((decide (a.Op=2)&&bD s&&decide (a.Lin=lR s))&&(jO b).2)&&decide (mE (jO b).1.L s=0)
theorem zCt (b:Ex):(dJ b).1.L.length+1<=b.wt:=by
 have:=Ex.wt_eq b
 unfold dJ
 by_cases h:b.Op=2
 ·simp only [h,decide_true,cond_true];omega
 ·rw [yD h,cond_false]
  cases (decide (b.Op=1)&&decide (b.Ty.Kind=3))<;>simp [zL]<;>omega
theorem form_len (b:Ex):(jO b).1.L.length+1<=b.wt:=by
 have:=Ex.wt_eq b
 unfold jO
 by_cases h:b.Op=2
 ·simp only [h,decide_true,cond_true];omega
 ·rw [yD h,cond_false];simp;omega
theorem const_form {b:Ex} (h:(dJ b).2=true):dJ b=jO b:=by
 unfold dJ jO at *
 by_cases h1:b.Op=2
 ·simp [h1]
 ·rw [yD h1,cond_false] at h⊢
  rw [cond_false]
  cases h2:(decide (b.Op=1)&&decide (b.Ty.Kind=3))<;>rw [h2] at h
  ·simp at h
  ·rfl
theorem const_snd (b:Ex):(dJ b).2=(jO b).2:=by
 unfold dJ jO
 cases decide (b.Op=2)
 ·simp only [cond_false];cases (decide (b.Op=1)&&decide (b.Ty.Kind=3))<;>rfl
 ·rfl
theorem form_ok {b:Ex} (h:bJ b.Lin=true):bJ (jO b).1=true:=by
 unfold jO
 cases decide (b.Op=2)
 ·rfl
 ·exact h
theorem try_eq {a b:Ex} {s:ByteArray} (h:bJ b.Lin=true):mV a b s=((isV a s&&bD s)&&(lE b s).2):=by
 unfold mV isV lE
 rw [←const_snd b]
 cases hc:(dJ b).2
 ·simp [hc]
 ·have e:=const_form hc
  have h2:=zSu s (show dC none (jO b).1.L=true from form_ok h)
  rw [←e] at h2⊢
  rw [h2]
  cases gM (dJ b).1.L s<;>cases decide (a.Op=2)<;>cases bD s<;>cases decide (a.Lin=lR s)<;>simp
theorem fin_fst {b:Ex} {s:ByteArray} (h:(lE b s).2=true):lE b s=((jO b).1,true):=by
 unfold lE at *
 cases hh:(!(dJ b).2||gM (dJ b).1.L s) with
 |true=>rw [hh] at h;simp at h
 |false=>
  simp only [Bool.or_eq_false_iff,Bool.not_eq_false'] at hh
  rw [←const_form hh.1];rfl
theorem fin_no {b:Ex} {s:ByteArray} (h:(lE b s).2=false):lE b s=(zL,false):=by
 unfold lE at *
 cases hh:(!(dJ b).2||gM (dJ b).1.L s) with
 |true=>rfl
 |false=>rw [hh] at h;simp at h
theorem var_fin {b:Ex} {s:ByteArray} (h:isV b s=true) (hn:bD s=true):(lE b s).2=false:=by
 unfold isV at h
 simp only [Bool.and_eq_true,decide_eq_true_eq] at h
 unfold lE dJ
 rw [kR h.1,h.2]
 simp [lR,hn,gM]
theorem solve_first {a b:Ex} {s:ByteArray} (hb:bJ b.Lin=true) (h:mV a b s=true):fK a b s=((jO b).1,true):=by
 rw [try_eq hb] at h
 simp only [Bool.and_eq_true] at h
 unfold fK
 rw [h.1.1,h.1.2,cond_true,cond_true,fin_fst h.2]
theorem solve_second {a b:Ex} {s:ByteArray} (ha:bJ a.Lin=true) (hb:bJ b.Lin=true) (h1:mV a b s=false) (h2:mV b a s=true):fK a b s=((jO a).1,true):=by
 rw [try_eq hb] at h1
 rw [try_eq ha] at h2
 simp only [Bool.and_eq_true] at h2
 unfold fK
 rw [h2.1.2,cond_true,h2.1.1]
 have hna:isV a s=false:=by
  cases h:isV a s with
  |false=>rfl
  |true=>have:=var_fin h h2.1.2;rw [this] at h2;cases h2.2
 rw [hna,cond_false,cond_true,fin_fst h2.2]
theorem solve_none {a b:Ex} {s:ByteArray} (ha:bJ a.Lin=true) (hb:bJ b.Lin=true) (h1:mV a b s=false) (h2:mV b a s=false):fK a b s=(zL,false):=by
 rw [try_eq hb] at h1
 rw [try_eq ha] at h2
 unfold fK
 cases hn:bD s
 ·rfl
 ·rw [hn] at h1 h2
  cases h3:isV a s
  ·cases h4:isV b s
   ·rfl
   ·rw [h4] at h2;simp at h2;simp [fin_no h2]
  ·rw [h3] at h1;simp at h1;simp [fin_no h1]
theorem var_empty {s:ByteArray}:((lR s).L.length:Int)=0↔bD s=false:=by
 unfold lR;cases bD s<;>simp
theorem zOb {x:Ex} {s:ByteArray} {b:Bool} (h:(!decide (x.Op=2)|| !decide (x.Lin=lR s))=b):isV x s= !b:=by
 rw [←h];unfold isV;cases decide (x.Op=2)<;>simp
theorem solve_c1 {c:Ex} (h:¬bP c=0∨¬c.Op=15):(decide (bP c=0)&&decide (c.Op=15))=false:=by
 rcases h with h|h<;>simp [h]
theorem cw_le {l:Lf} {B:Nat} (h:l.L.length+1<=B):(Ex.mk 0 (bs []) ⟨0,0⟩ ⟨0,0,0,0,0⟩ l [] []).wt<=B:=by
 rw [Ex.wt];simp [fH,bL];omega
def sS (a b x y:Ex) (k:Nat):Prop:=(k=0/\x=a/\y=b)∨(k=1/\x=b/\y=a)
theorem pick_ab {c a b:Ex} (ha:c.Args[0]? =some a) (hb:c.Args[1]? =some b) {k:Nat} (hk:k<2):∃x y,c.Args[k]? =some x/\c.Args[((1:Int)-k).toNat]? =some y/\x.wt<c.wt/\y.wt<c.wt/\sS a b x y k:=by
 have hwa:=Ex.arg_wt (zX ha)
 have hwb:=Ex.arg_wt (zX hb)
 rcases (show k=0∨k=1 by omega) with rfl|rfl
 ·exact ⟨a,b,ha,hb,hwa,hwb,.inl ⟨rfl,rfl,rfl⟩⟩
 ·exact ⟨b,a,hb,ha,hwb,hwa,.inr ⟨rfl,rfl,rfl⟩⟩
theorem pick_next {a b x y:Ex} {s:ByteArray} {k:Nat} (h:sS a b x y k) (h3:mV x y s=false) (hk:k<=2) (h0:0<k->mV a b s=false) (h1:1<k->mV b a s=false):k+1<=2/\(0<k+1->mV a b s=false)/\(1<k+1->mV b a s=false):=by
 rcases h with ⟨rfl,rfl,rfl⟩|⟨rfl,rfl,rfl⟩
 ·exact ⟨by omega,fun _=>h3,fun h=>by omega⟩
 ·exact ⟨by omega,fun _=>h0 (by omega),fun _=>h3⟩
theorem pick_done {a b x y:Ex} {s:ByteArray} {k:Nat} (ha:bJ a.Lin=true) (hb:bJ b.Lin=true) (h:sS a b x y k) (h3:mV x y s=true) (h0:0<k->mV a b s=false):fK a b s=((jO y).1,true):=by
 rcases h with ⟨rfl,rfl,rfl⟩|⟨rfl,rfl,rfl⟩
 ·exact solve_first hb h3
 ·exact solve_second ha hb (h0 (by omega)) h3
theorem fin_len (b:Ex) (s:ByteArray):(lE b s).1.L.length<=b.wt:=by
 have:=zCt b
 unfold lE
 cases (!(dJ b).2||gM (dJ b).1.L s)<;>simp [zL]<;>omega
theorem zQd (c:Ex) (s:ByteArray):(bX c s).1.L.length<=c.wt:=by
 have arg:∀i,(bT c i).wt<=c.wt:=by
  intro i
  unfold bT
  rw [List.getD_eq_getElem?_getD]
  cases h:c.Args[i]? with
  |none=>have:=Ex.wt_eq c;simp [zEx,Ex.wt,fH,bL];omega
  |some a=>exact Nat.le_of_lt (Ex.arg_wt (zX h))
 have h0:=arg 0
 have h1:=arg 1
 have f0:=fin_len (bT c 0) s
 have f1:=fin_len (bT c 1) s
 unfold bX
 cases (decide (bP c=0)&&decide (c.Op=15))
 ·simp [zL]
 ·unfold fK
  cases bD s
  ·simp [zL]
  ·cases isV (bT c 0) s
   ·cases isV (bT c 1) s
    ·simp [zL]
    ·simp only [cond_true,cond_false];omega
   ·simp only [cond_true];omega
def exV (b:UInt8):Ex:=.mk 2 (bs []) ⟨0,0⟩ ⟨0,0,0,0,0⟩ ⟨0,[⟨bs [b],1⟩]⟩ [] []
def exC:Ex:=.mk 15 (bs []) ⟨0,0⟩ ⟨0,0,0,0,0⟩ ⟨0,[]⟩ [] [exV 107,exV 105]
theorem exC_wt:exC.wt<=4294967296:=by decide+kernel
theorem solve_ex:bX exC (bs [107])=(⟨0,[⟨bs [105],1⟩]⟩,true):=by decide+kernel
end Go.Br
end
section
namespace Go.Br
open Go Go.Eng Go.L41
structure Cn where
 Lin:Lf
 Eq:Bool
 deriving DecidableEq
structure Ax where
 Name:ByteArray
 Size:Lf
 deriving DecidableEq
structure Pm where
 Name:ByteArray
 T:Ty
 Dims:List Lf
 deriving DecidableEq
structure Df where
 Name:ByteArray
 T:Ty
 Dims:List Ax
 Red:List Ax
 Fold:Int
 Body:Ex
 deriving DecidableEq
structure Pg where
 Sizes:List ByteArray
 Where:List Cn
 Params:List Pm
 Defs:List Df
 Outs:List ByteArray
 deriving DecidableEq
def Cn.cells (x:Cn):List C:=[cI x.Lin.K,.sl 2 (x.Lin.L.map Mono.cells),cB x.Eq]
def Ax.cells (x:Ax):List C:=[cS x.Name,cI x.Size.K,.sl 2 (x.Size.L.map Mono.cells)]
def Pm.cells (x:Pm):List C:=[cS x.Name,cI x.T.Kind,cI x.T.Bits,cI x.T.Frac,cI x.T.Round,cI x.T.Over,.sl 2 (x.Dims.map Lf.cells)]
def Df.cells (x:Df):List C:=[cS x.Name,cI x.T.Kind,cI x.T.Bits,cI x.T.Frac,cI x.T.Round,cI x.T.Over,.sl 3 (x.Dims.map Ax.cells),.sl 3 (x.Red.map Ax.cells),cI x.Fold,
 cI x.Body.Op,cS x.Body.Name,cI x.Body.Val.N,cI x.Body.Val.D,cI x.Body.Ty.Kind,cI x.Body.Ty.Bits,cI x.Body.Ty.Frac,cI x.Body.Ty.Round,cI x.Body.Ty.Over,cI x.Body.Lin.K,.sl 2 (x.Body.Lin.L.map Mono.cells),.sl 4 (x.Body.Idx.map Ix.cells),.sl 13 (x.Body.Args.map Ex.cells)]
def Pg.cells (p:Pg):List C:=[.sl 1 (p.Sizes.map fun s=>[cS s]),.sl 3 (p.Where.map Cn.cells),.sl 7 (p.Params.map Pm.cells),.sl 22 (p.Defs.map Df.cells),.sl 1 (p.Outs.map fun s=>[cS s])]
abbrev vCn (x:Cn):V:=.agg x.cells
abbrev vAx (x:Ax):V:=.agg x.cells
abbrev vPm (x:Pm):V:=.agg x.cells
abbrev vDf (x:Df):V:=.agg x.cells
abbrev vPg (x:Pg):V:=.agg x.cells
def pJ (l:Lf):Prop:=l.L.length<=140737488355328
def Pm.fit (x:Pm):Prop:=x.Dims.length<=140737488355328/\∀l,l∈x.Dims->pJ l
def Df.fit (d:Df):Prop:=d.Dims.length<=140737488355328/\d.Red.length<=140737488355328/\(∀a,a∈d.Dims->pJ a.Size)/\(∀a,a∈d.Red->pJ a.Size)/\d.Body.fit
structure Pg.Fit (p:Pg):Prop where
 sizes:p.Sizes.length<=140737488355328
 wh:p.Where.length<=140737488355328
 params:p.Params.length<=140737488355328
 defs:p.Defs.length<=140737488355328
 outs:p.Outs.length<=140737488355328
 whs:∀c,c∈p.Where->pJ c.Lin
 ps:∀x,x∈p.Params->x.fit
 ds:∀d,d∈p.Defs->d.fit
def zTy:Ty:=⟨0,0,0,0,0⟩
def iTy:Ty:=⟨3,0,0,0,0⟩
/-! ## Find -/
structure Fd where
 ty:Ty
 dims:List Lf
 ok:Bool
def gP (s:ByteArray):List Df->Fd
 |[]=>⟨zTy,[],false⟩
 |d::r=>bif decide (d.Name=s) then ⟨d.T,d.Dims.map Ax.Size,true⟩ else gP s r
def gO (s:ByteArray) (ds:List Df):List Pm->Fd
 |[]=>gP s ds
 |x::r=>bif decide (x.Name=s) then ⟨x.T,x.Dims,true⟩ else gO s ds r
def rN (s:ByteArray) (l:List Df):Int:=dI (fun d=>decide (d.Name=s)) l
structure En where
 sz:List ByteArray
 pm:List Pm
 df:List Df
def Pg.en (p:Pg):En:=⟨p.Sizes,p.Params,p.Defs⟩
def En.find (n:En) (s:ByteArray):Fd:=gO s n.df n.pm
def bQ (d:Df):List ByteArray:=d.Dims.map Ax.Name++d.Red.map Ax.Name
/-! ## Types of expressions -/
def knL (k:ByteArray->Bool) (l:List Mono):Bool:=l.all fun m=>k m.Name
def jI (k:ByteArray->Bool) (l:Lf):Int:=bif knL k l.L then 0 else 9
def gW (k:ByteArray->Bool) (l:List Lf):Int:=bif l.all (fun x=>knL k x.L) then 0 else 9
def dD (n:En) (k:ByteArray->Bool) (x:Ix):Int:=
 bif decide (x.From=bs []) then jI k x.Lin else
 bif !(n.find x.From).ok then 9 else
 bif !decide ((n.find x.From).ty.Kind=3) then 10 else
 bif !decide (x.At.length=(n.find x.From).dims.length) then 11 else gW k x.At
def dU (n:En) (k:ByteArray->Bool):List Ix->Int
 |[]=>0
 |x::r=>bif decide (dD n k x=0) then dU n k r else dD n k x
def gF (n:En) (k:ByteArray->Bool) (e:Ex):Ty×Int:=
 bif !(n.find e.Name).ok then (zTy,9) else
 bif !decide (e.Idx.length=(n.find e.Name).dims.length) then (zTy,11) else
 bif decide (dU n k e.Idx=0) then ((n.find e.Name).ty,0) else (zTy,dU n k e.Idx)
def gB (a b:Ty):Int:=bif decide (a=b) then 0 else 10
def fJ (l:List Ty) (i:Nat):Ty:=l.getD i zTy
def ofN (n:En) (k:ByteArray->Bool) (e:Ex) (l:List Ty):Ty×Int:=
 if e.Op=1∨e.Op=12 then (e.Ty,0) else
 if e.Op=2 then (iTy,jI k e.Lin) else
 if e.Op=3 then gF n k e else
 if e.Op=8 then (fJ l 0,0) else
 if e.Op=11 then (fJ l 1,gB (fJ l 1) (fJ l 2)) else
 if e.Op=16∨e.Op=17∨e.Op=18 then (zTy,0) else
 if e.Op=13∨e.Op=14∨e.Op=15 then (zTy,gB (fJ l 0) (fJ l 1)) else
 (fJ l 0,gB (fJ l 0) (fJ l 1))
def fN (n:En) (k:ByteArray->Bool) (e:Ex) (l:List Ty):Ty×Int:=
 if e.Op=1∨e.Op=12 then (e.Ty,0) else
 if e.Op=2 then (iTy,gW k [e.Lin]) else
 if e.Op=3 then gF n k e else
 if e.Op=11 then (if fJ l 1=fJ l 2 then (fJ l 1,0) else (zTy,10)) else
 if e.Op=8 then (fJ l 0,0) else
 if 16<=e.Op then (zTy,0) else
 if fJ l 0=fJ l 1 then (if 13<=e.Op then (zTy,0) else (fJ l 0,0)) else (zTy,10)
mutual
def bE (N:Ex->List Ty->Ty×Int):Ex->Ty×Int
 |.mk o nm v t l i arg_=>if (bF N arg_).2=0 then N (.mk o nm v t l i arg_) (bF N arg_).1 else (zTy,(bF N arg_).2)
def bF (N:Ex->List Ty->Ty×Int):List Ex->List Ty×Int
 |[]=>([],0)
 |a::r=>if (bE N a).2=0 then (if (bF N r).2=0 then ((bE N a).1::(bF N r).1,0) else ([],(bF N r).2)) else ([],(bE N a).2)
end
theorem zEa (N:Ex->List Ty->Ty×Int) (e:Ex):bE N e=if (bF N e.Args).2=0 then N e (bF N e.Args).1 else (zTy,(bF N e.Args).2):=by
 cases e;rw [bE];rfl
def knB (sz vars:List ByteArray) (s:ByteArray):Bool:=bR vars s||bR sz s
def lF (N:Ex->List Ty->Ty×Int) (e:Ex):Ty×Int:=
 if bP e=0 then (if gE e=true then (zTy,10) else if (bE N e).2=0 then ((bE N e).1,0) else (zTy,(bE N e).2)) else (zTy,bP e)
def fM (n:En) (vars:List ByteArray) (e:Ex):Ty×Int:=lF (ofN n (knB n.sz vars)) e
def lJ (n:En) (vars:List ByteArray) (e:Ex):Ty×Int:=lF (fN n (knB n.sz vars)) e
def tG (a b:Ty×Int):Prop:=a.2=b.2/\(a.2=0->a.1=b.1)
theorem forms_one (k:ByteArray->Bool) (l:Lf):gW k [l]=jI k l:=by simp [gW,jI]
theorem ofN_refN (n:En) (k:ByteArray->Bool) (e:Ex) (l:List Ty) (h1:1<=e.Op) (h2:e.Op<=18):tG (ofN n k e l) (fN n k e l):=by
 unfold ofN fN tG
 rw [forms_one]
 by_cases c1:e.Op=1∨e.Op=12
 ·simp [c1]
 by_cases c2:e.Op=2
 ·simp [c1,c2]
 by_cases c3:e.Op=3
 ·simp [c1,c2,c3]
 by_cases c8:e.Op=8
 ·simp [c8]
 by_cases c11:e.Op=11
 ·simp only [c11]
  by_cases h:fJ l 1=fJ l 2
  ·simp [h,gB]
  ·simp [h,gB]
 simp only [c1,c2,c3,c8,c11,if_false]
 by_cases c16:16<=e.Op
 ·have:e.Op=16∨e.Op=17∨e.Op=18:=by omega
  simp [this,c16]
 ·have:¬(e.Op=16∨e.Op=17∨e.Op=18):=by omega
  simp only [this,c16,if_false]
  by_cases c13:13<=e.Op
  ·have:e.Op=13∨e.Op=14∨e.Op=15:=by omega
   simp only [this,c13,if_true]
   by_cases h:fJ l 0=fJ l 1<;>simp [h,gB]
  ·have:¬(e.Op=13∨e.Op=14∨e.Op=15):=by omega
   simp only [this,c13,if_false]
   by_cases h:fJ l 0=fJ l 1<;>simp [h,gB]
theorem node_op {e:Ex} (h:bS e=0):1<=e.Op/\e.Op<=18:=by
 have:=(zDl h).1
 simp only [gT,Bool.and_eq_true,Bool.not_eq_true',Bool.or_eq_false_iff,decide_eq_false_iff_not] at this
 obtain ⟨⟨⟨⟨⟨⟨h1,h2⟩,_⟩,_⟩,_⟩,_⟩,_⟩:=this
 exact ⟨by omega,by omega⟩
mutual
theorem zRg (n:En) (k:ByteArray->Bool):∀e:Ex,dQ e=0->tG (bE (ofN n k) e) (bE (fN n k) e)
 |.mk o nm v t l i arg_,h=>by
  obtain ⟨h1,h2⟩:=node_op (zAo h)
  obtain ⟨h3,h4⟩:=zRh n k arg_ fun a ha=>zDr h ha
  rw [bE,bE,←h3]
  by_cases c:(bF (ofN n k) arg_).2=0
  ·rw [if_pos c,if_pos c,←h4 c]
   exact ofN_refN n k _ _ h1 h2
  ·rw [if_neg c,if_neg c]
   exact ⟨rfl,fun _=>rfl⟩
theorem zRh (n:En) (k:ByteArray->Bool):∀l:List Ex,(∀a,a∈l->dQ a=0)->(bF (ofN n k) l).2=(bF (fN n k) l).2/\((bF (ofN n k) l).2=0->(bF (ofN n k) l).1=(bF (fN n k) l).1)
 |[],_=>⟨rfl,fun _=>rfl⟩
 |a::r,h=>by
  obtain ⟨h1,h2⟩:=zRg n k a (h a (by simp))
  obtain ⟨h3,h4⟩:=zRh n k r fun x hx=>h x (by simp [hx])
  rw [bF,bF,←h1,←h3]
  by_cases c:(bE (ofN n k) a).2=0
  ·rw [if_pos c,if_pos c]
   by_cases d:(bF (ofN n k) r).2=0
   ·rw [if_pos d,if_pos d,h2 c,h4 d];exact ⟨rfl,fun _=>rfl⟩
   ·rw [if_neg d,if_neg d];exact ⟨rfl,fun _=>rfl⟩
  ·rw [if_neg c,if_neg c];exact ⟨rfl,fun _=>rfl⟩
end
theorem typeT_R (n:En) (vars:List ByteArray) (e:Ex):fM n vars e=lJ n vars e:=by
 unfold fM lJ lF
 by_cases h:bP e=0
 ·rw [if_pos h,if_pos h]
  by_cases c:gE e=true
  ·rw [if_pos c,if_pos c]
  ·rw [if_neg c,if_neg c]
   obtain ⟨h1,h2⟩:=zRg n (knB n.sz vars) e (wS h)
   rw [←h1]
   by_cases d:(bE (ofN n (knB n.sz vars)) e).2=0
   ·rw [if_pos d,if_pos d,h2 d]
   ·rw [if_neg d,if_neg d]
 ·rw [if_neg h,if_neg h]
/-! ## Validate,the reference -/
def dH (s:ByteArray) (taken:List ByteArray):Int:=if bD s=true then (if bR taken s=true then 8 else 0) else 7
def fU (l:Lf) (sz:List ByteArray):Int:=if bJ l=true then (if knL (bR sz) l.L=true then 0 else 9) else 1
def lI (sz:List ByteArray):List Lf->Int
 |[]=>0
 |l::r=>if fU l sz=0 then lI sz r else fU l sz
def gL (x:Pm) (sz taken:List ByteArray):Int:=
 if dH x.Name taken=0 then (if dW x.T=true then (if 6<x.Dims.length then 11 else lI sz x.Dims) else 10) else dH x.Name taken
def gI (sz:List ByteArray):List ByteArray->List Ax->Int
 |_,[]=>0
 |taken,a::r=>if dH a.Name taken=0 then (if fU a.Size sz=0 then gI sz (taken++[a.Name]) r else fU a.Size sz) else dH a.Name taken
def lZ (d:Df):Int:=
 if d.Fold<0∨5<d.Fold then 1 else
 if (decide (d.Fold=0∨d.Fold=5) !=decide (d.Red.length=0))=true∨d.Fold=5/\d.Dims.length=0 then 11 else 0
def mJ (t:Ty×Int) (d:Df):Int:=if t.2=0 then (if t.1=d.T then 0 else 10) else t.2
def gX (n:En) (d:Df) (taken:List ByteArray):Int:=
 if dH d.Name taken=0 then
  (if dW d.T=true then
   (if 6<d.Dims.length∨6<d.Red.length then 11 else
    (if gI n.sz n.sz (d.Dims++d.Red)=0 then (if lZ d=0 then mJ (lJ n (bQ d) d.Body) d else lZ d) else gI n.sz n.sz (d.Dims++d.Red)))
   else 10)
 else dH d.Name taken
def gU:List ByteArray->List ByteArray->Int
 |_,[]=>0
 |taken,s::r=>if dH s taken=0 then gU (taken++[s]) r else dH s taken
def dG (p:Pg):Prop:=p.Sizes.length<=64/\p.Params.length<=64/\p.Defs.length<=64/\p.Outs.length<=64/\p.Where.length<=256
instance (p:Pg):Decidable (dG p):=by unfold dG;infer_instance
def gS (sz:List ByteArray):List Cn->Int
 |[]=>0
 |c::r=>if fU c.Lin sz=0 then gS sz r else fU c.Lin sz
def jV (n:En):Int->List ByteArray->List ByteArray->Int×Int
 |_,_,[]=>(0,0)
 |at_,seen,s::r=>if (n.find s).ok=true then (if bR seen s=true then (at_,8) else jV n (at_+1) (seen++[s]) r) else (at_,9)
def jB (p:Pg):Int->List ByteArray->List Df->List Df->Int×Int
 |at_,_,_,[]=>jV p.en at_ [] p.Outs
 |at_,taken,before,d::r=>if gX ⟨p.Sizes,p.Params,before⟩ d taken=0 then jB p (at_+1) (taken++[d.Name]) (before++[d]) r else (at_,gX ⟨p.Sizes,p.Params,before⟩ d taken)
def fG (p:Pg):Int->List ByteArray->List Pm->Int×Int
 |at_,taken,[]=>jB p at_ taken [] p.Defs
 |at_,taken,x::r=>if gL x p.Sizes taken=0 then fG p (at_+1) (taken++[x.Name]) r else (at_,gL x p.Sizes taken)
def jE (p:Pg):Int×Int:=
 if dG p then
  (if gU [] p.Sizes=0 then (if gS p.Sizes p.Where=0 then fG p 2 p.Sizes p.Params else (1,gS p.Sizes p.Where)) else (0,gU [] p.Sizes))
 else (0,2)
/-! ## Validate,the program: with a table of what each name is (1 a size,2 a tensor) -/
abbrev Kn:=List (ByteArray×Int)
def fW (m:Kn) (s:ByteArray):Int:=(hU m s).getD 0
def fB (m:Kn) (s:ByteArray):Int:=if bD s=true then (if fW m s=0 then 0 else 8) else 7
def fI (m:Kn) (l:Lf):Int:=if bJ l=true then (if knL (fun s=>decide (fW m s=1)) l.L=true then 0 else 9) else 1
def jG (m:Kn):List Lf->Int
 |[]=>0
 |l::r=>if fI m l=0 then jG m r else fI m l
def gV (m:Kn) (x:Pm):Int:=
 if fB m x.Name=0 then (if dW x.T=true then (if 6<x.Dims.length then 11 else jG (fS m x.Name 2) x.Dims) else 10) else fB m x.Name
def jR (m:Kn):List ByteArray->List Ax->Int
 |_,[]=>0
 |own,a::r=>if bD a.Name=true then (if bR own a.Name=true∨fW m a.Name=1 then 8 else (if fI m a.Size=0 then jR m (own++[a.Name]) r else fI m a.Size)) else 7
def fT (d:Df):Int:=
 if d.Fold=0 then (if 0<d.Red.length then 11 else 0) else
 if d.Fold=1∨d.Fold=2∨d.Fold=3∨d.Fold=4 then (if d.Red.length=0 then 11 else 0) else
 if d.Fold=5 then (if 0<d.Red.length∨d.Dims.length=0 then 11 else 0) else 1
def mX (m:Kn) (n:En) (d:Df):Int:=
 if fB m d.Name=0 then
  (if dW d.T=true then
   (if 6<d.Dims.length∨6<d.Red.length then 11 else
    (if jR (fS m d.Name 2) [] (d.Dims++d.Red)=0 then (if fT d=0 then mJ (fM n (bQ d) d.Body) d else fT d) else jR (fS m d.Name 2) [] (d.Dims++d.Red)))
   else 10)
 else fB m d.Name
def gC:Kn->List ByteArray->Int
 |_,[]=>0
 |m,s::r=>if fB m s=0 then gC (fS m s 1) r else fB m s
def sE:Kn->List ByteArray->Kn
 |m,[]=>m
 |m,s::r=>sE (fS m s 1) r
def jC (m:Kn):List Cn->Int
 |[]=>0
 |c::r=>if fI m c.Lin=0 then jC m r else fI m c.Lin
def mT (m:Kn):Int->List ByteArray->List ByteArray->Int×Int
 |_,_,[]=>(0,0)
 |at_,seen,s::r=>if fW m s=2 then (if bR seen s=true then (at_,8) else mT m (at_+1) (seen++[s]) r) else (at_,9)
def mU (p:Pg):Int->Kn->List Df->List Df->Int×Int
 |at_,m,_,[]=>mT m at_ [] p.Outs
 |at_,m,before,d::r=>if mX m ⟨p.Sizes,p.Params,before⟩ d=0 then mU p (at_+1) (fS m d.Name 2) (before++[d]) r else (at_,mX m ⟨p.Sizes,p.Params,before⟩ d)
def gZ (p:Pg):Int->Kn->List Pm->Int×Int
 |at_,m,[]=>mU p at_ m [] p.Defs
 |at_,m,x::r=>if gV m x=0 then gZ p (at_+1) (fS m x.Name 2) r else (at_,gV m x)
def dR (p:Pg):Int×Int:=
 if dG p then
  (if gC [] p.Sizes=0 then (if jC (sE [] p.Sizes) p.Where=0 then gZ p 2 (sE [] p.Sizes) p.Params else (1,jC (sE [] p.Sizes) p.Where)) else (0,gC [] p.Sizes))
 else (0,2)
end Go.Br
end
section
namespace Go.Br
open Go Go.Eng Go.L41
theorem zAl (a b:List ByteArray) (s:ByteArray):bR (a++b) s=(bR a s||bR b s):=by simp [bR,List.any_append]
theorem zIp (s t:ByteArray):bR [s] t=decide (s=t):=by simp [bR]
theorem mget_mput' (m:Kn) (k s:ByteArray) (a:Int):hU (fS m k a) s=if k=s then some a else hU m s:=by
 induction m with
 |nil=>simp [fS,hU]
 |cons x r ih=>
  obtain ⟨k',b⟩:=x
  by_cases h:k'=k
  ·subst h
   simp only [fS,if_true,hU]
   by_cases h2:k'=s<;>simp [h2]
  ·simp only [fS,h,if_false,hU,ih]
   by_cases h2:k'=s
   ·subst h2;rw [if_pos rfl,if_neg (fun e:k=k'=>h e.symm),if_pos rfl]
   ·simp [h2]
theorem zEt (m:Kn) (k s:ByteArray) (a:Int):fW (fS m k a) s=if k=s then a else fW m s:=by
 unfold fW;rw [mget_mput'];by_cases h:k=s<;>simp [h]
structure Rel (m:Kn) (sz tn:List ByteArray):Prop where
 one:∀s,fW m s=1↔bR sz s=true
 two:∀s,fW m s=2↔bR tn s=true
 zero:∀s,fW m s=0↔bR (sz++tn) s=false
theorem Rel.nil:Rel [] [] []:=⟨fun s=>by simp [fW,hU,bR],fun s=>by simp [fW,hU,bR],fun s=>by simp [fW,hU,bR]⟩
theorem Rel.size {m:Kn} {sz:List ByteArray} (h:Rel m sz []) {s:ByteArray} (h0:fW m s=0):Rel (fS m s 1) (sz++[s]) []:=by
 refine ⟨fun t=>?_,fun t=>?_,fun t=>?_⟩
 ·rw [zEt,zAl,zIp]
  by_cases e:s=t
  ·simp [e]
  ·simp [e,h.one t]
 ·rw [zEt]
  by_cases e:s=t
  ·simp [e,bR]
  ·simp [e,h.two t]
 ·rw [zEt,List.append_nil,zAl,zIp]
  by_cases e:s=t
  ·simp [e]
  ·have:=h.zero t
   rw [List.append_nil] at this
   simp [e,this]
theorem Rel.tensor {m:Kn} {sz tn:List ByteArray} (h:Rel m sz tn) {s:ByteArray} (h0:fW m s=0):Rel (fS m s 2) sz (tn++[s]):=by
 refine ⟨fun t=>?_,fun t=>?_,fun t=>?_⟩
 ·rw [zEt]
  by_cases e:s=t
  ·subst e
   have h1:¬bR sz s=true:=fun k=>by have:=(h.one s).2 k;omega
   simp [h1]
  ·simp [e,h.one t]
 ·rw [zEt,zAl,zIp]
  by_cases e:s=t
  ·simp [e]
  ·simp [e,h.two t]
 ·rw [zEt,zAl,zAl,zIp]
  by_cases e:s=t
  ·simp [e]
  ·have:=h.zero t
   rw [zAl] at this
   simp [e,this]
theorem nameM_R {m:Kn} {sz tn:List ByteArray} (h:Rel m sz tn) (s:ByteArray):fB m s=dH s (sz++tn):=by
 unfold fB dH
 by_cases h1:bD s=true
 ·rw [if_pos h1,if_pos h1]
  by_cases h2:fW m s=0
  ·rw [if_pos h2,if_neg (by rw [(h.zero s).1 h2];simp)]
  ·rw [if_neg h2,if_pos (by cases k:bR (sz++tn) s;exact absurd ((h.zero s).2 k) h2;rfl)]
 ·rw [if_neg h1,if_neg h1]
theorem zGe {m:Kn} {s:ByteArray} (h:fB m s=0):fW m s=0:=by
 unfold fB at h
 by_cases h1:bD s=true
 ·rw [if_pos h1] at h
  by_cases h2:fW m s=0
  ·exact h2
  ·rw [if_neg h2] at h;cases h
 ·rw [if_neg h1] at h;cases h
theorem knL_congr {k k':ByteArray->Bool} (h:∀s,k s=k' s) (l:List Mono):knL k l=knL k' l:=by
 unfold knL;congr 1;funext m;exact h m.Name
theorem sizedM_R {m:Kn} {sz tn:List ByteArray} (h:Rel m sz tn) (l:Lf):fI m l=fU l sz:=by
 unfold fI fU
 rw [knL_congr (k':=bR sz)]
 intro s
 rw [Bool.eq_iff_iff,decide_eq_true_eq];exact h.one s
theorem sizedsM_R {m:Kn} {sz tn:List ByteArray} (h:Rel m sz tn) (l:List Lf):jG m l=lI sz l:=by
 induction l with
 |nil=>rfl
 |cons x r ih=>rw [jG,lI,sizedM_R h,ih]
theorem paramM_R {m:Kn} {sz tn:List ByteArray} (h:Rel m sz tn) (x:Pm):gV m x=gL x sz (sz++tn):=by
 unfold gV gL
 rw [←nameM_R h]
 by_cases h1:fB m x.Name=0
 ·rw [if_pos h1,if_pos h1,sizedsM_R (h.tensor (zGe h1))]
 ·rw [if_neg h1,if_neg h1]
theorem axesM_R {m:Kn} {sz tn:List ByteArray} (h:Rel m sz tn):∀(l:List Ax) (own:List ByteArray),jR m own l=gI sz (sz++own) l
 |[],own=>rfl
 |a::r,own=>by
  have ih:=axesM_R h r (own++[a.Name])
  rw [jR,gI,sizedM_R h,ih,List.append_assoc]
  unfold dH
  by_cases h1:bD a.Name=true
  ·rw [if_pos h1,if_pos h1,zAl]
   by_cases h2:bR own a.Name=true∨fW m a.Name=1
   ·rw [if_pos h2]
    have h3:(bR sz a.Name||bR own a.Name)=true:=by
     rcases h2 with h2|h2
     ·simp [h2]
     ·simp [(h.one _).1 h2]
    rw [if_pos h3];rfl
   ·rw [if_neg h2]
    have h3:¬(bR sz a.Name||bR own a.Name)=true:=by
     intro h3
     rw [Bool.or_eq_true] at h3
     rcases h3 with h3|h3
     ·exact h2 (.inr ((h.one _).2 h3))
     ·exact h2 (.inl h3)
    rw [if_neg h3,if_pos rfl]
  ·rw [if_neg h1,if_neg h1];rfl
theorem foldM_R (d:Df):fT d=lZ d:=by
 unfold fT lZ
 by_cases h0:d.Fold=0
 ·by_cases hr:d.Red.length=0<;>simp [h0,hr]<;>omega
 by_cases h5:d.Fold=5
 ·by_cases hr:d.Red.length=0
  ·by_cases hd:d.Dims.length=0<;>simp [h5,hr,hd]
  ·have:0<d.Red.length:=by omega
   simp [h5,hr,this]
 by_cases h1:d.Fold=1∨d.Fold=2∨d.Fold=3∨d.Fold=4
 ·have h2:¬(d.Fold<0∨5<d.Fold):=by omega
  by_cases hr:d.Red.length=0<;>simp [h0,h5,h1,h2,hr]
 ·have h2:d.Fold<0∨5<d.Fold:=by omega
  simp [h0,h5,h1,h2]
theorem defM_R {m:Kn} {n:En} {tn:List ByteArray} (h:Rel m n.sz tn) (d:Df):mX m n d=gX n d (n.sz++tn):=by
 unfold mX gX
 rw [←nameM_R h]
 by_cases h1:fB m d.Name=0
 ·rw [if_pos h1,if_pos h1,axesM_R (h.tensor (zGe h1)),List.append_nil,foldM_R,typeT_R]
 ·rw [if_neg h1,if_neg h1]
theorem defM_name {m:Kn} {n:En} {d:Df} (h:mX m n d=0):fB m d.Name=0:=by
 unfold mX at h
 by_cases h1:fB m d.Name=0
 ·exact h1
 ·rw [if_neg h1] at h;exact absurd h h1
theorem zQx {m:Kn} {x:Pm} (h:gV m x=0):fB m x.Name=0:=by
 unfold gV at h
 by_cases h1:fB m x.Name=0
 ·exact h1
 ·rw [if_neg h1] at h;exact absurd h h1
theorem sizesM_R:∀(l:List ByteArray) (m:Kn) (sz:List ByteArray),Rel m sz []->gC m l=gU sz l/\(gC m l=0->Rel (sE m l) (sz++l) [])
 |[],m,sz,h=>⟨rfl,fun _=>by rw [List.append_nil];exact h⟩
 |s::r,m,sz,h=>by
  have e:=nameM_R h s
  rw [List.append_nil] at e
  rw [gC,gU,←e,sE]
  by_cases h1:fB m s=0
  ·rw [if_pos h1,if_pos h1]
   obtain ⟨h2,h3⟩:=sizesM_R r _ _ (h.size (zGe h1))
   exact ⟨h2,fun k=>by have:=h3 k;rwa [List.append_assoc] at this⟩
  ·rw [if_neg h1,if_neg h1];exact ⟨rfl,fun k=>absurd k h1⟩
theorem whereM_R {m:Kn} {sz tn:List ByteArray} (h:Rel m sz tn) (l:List Cn):jC m l=gS sz l:=by
 induction l with
 |nil=>rfl
 |cons x r ih=>rw [jC,gS,sizedM_R h,ih]
theorem findD_ok (s:ByteArray):∀l:List Df,(gP s l).ok=bR (l.map Df.Name) s
 |[]=>rfl
 |d::r=>by
  rw [gP,List.map_cons,show d.Name::r.map Df.Name=[d.Name]++r.map Df.Name from rfl,zAl,zIp,←findD_ok s r]
  by_cases h:d.Name=s<;>simp [h]
theorem findP_ok (s:ByteArray) (ds:List Df):∀l:List Pm,(gO s ds l).ok=(bR (l.map Pm.Name) s||bR (ds.map Df.Name) s)
 |[]=>by rw [gO,findD_ok];simp [bR]
 |x::r=>by
  rw [gO,List.map_cons,show x.Name::r.map Pm.Name=[x.Name]++r.map Pm.Name from rfl,zAl,zIp]
  by_cases h:x.Name=s
  ·simp [h]
  ·simp [h,findP_ok s ds r]
theorem outsM_R {m:Kn} {n:En} (h:Rel m n.sz (n.pm.map Pm.Name++n.df.map Df.Name)):∀(l:List ByteArray) (i:Int) (seen:List ByteArray),mT m i seen l=jV n i seen l
 |[],i,seen=>rfl
 |s::r,i,seen=>by
  rw [mT,jV,outsM_R h r]
  have e:fW m s=2↔(n.find s).ok=true:=by
   rw [h.two s,En.find,findP_ok,zAl]
  by_cases h2:fW m s=2
  ·rw [if_pos h2,if_pos (e.1 h2)]
  ·rw [if_neg h2,if_neg (fun k=>h2 (e.2 k))]
theorem defsM_R (p:Pg):∀(l:List Df) (i:Int) (m:Kn) (before:List Df),p.Defs=before++l->Rel m p.Sizes (p.Params.map Pm.Name++before.map Df.Name)->
  mU p i m before l=jB p i (p.Sizes++(p.Params.map Pm.Name++before.map Df.Name)) before l
 |[],i,m,before,hp,h=>by
  rw [List.append_nil] at hp
  subst hp
  rw [mU,jB]
  exact outsM_R (n:=p.en) h _ _ _
 |d::r,i,m,before,hp,h=>by
  rw [mU,jB,defM_R (n:=⟨p.Sizes,p.Params,before⟩) h]
  by_cases h1:gX ⟨p.Sizes,p.Params,before⟩ d (p.Sizes++(p.Params.map Pm.Name++before.map Df.Name))=0
  ·rw [if_pos h1,if_pos h1]
   have h2:mX m ⟨p.Sizes,p.Params,before⟩ d=0:=by rw [defM_R (n:=⟨p.Sizes,p.Params,before⟩) h];exact h1
   have h3:=h.tensor (zGe (defM_name h2))
   have e:p.Params.map Pm.Name++before.map Df.Name++[d.Name]=p.Params.map Pm.Name++(before++[d]).map Df.Name:=by simp
   rw [e] at h3
   rw [defsM_R p r (i+1) _ (before++[d]) (by rw [hp];simp) h3,←e,←List.append_assoc p.Sizes]
  ·rw [if_neg h1,if_neg h1]
theorem paramsM_R (p:Pg):∀(l:List Pm) (i:Int) (m:Kn) (before:List Pm),p.Params=before++l->Rel m p.Sizes (before.map Pm.Name)->
  gZ p i m l=fG p i (p.Sizes++before.map Pm.Name) l
 |[],i,m,before,hp,h=>by
  rw [List.append_nil] at hp
  subst hp
  rw [gZ,fG]
  have:=defsM_R p p.Defs i m [] rfl (by simpa using h)
  simpa using this
 |x::r,i,m,before,hp,h=>by
  rw [gZ,fG,paramM_R h]
  by_cases h1:gL x p.Sizes (p.Sizes++before.map Pm.Name)=0
  ·rw [if_pos h1,if_pos h1]
   have h2:gV m x=0:=by rw [paramM_R h];exact h1
   have h3:=h.tensor (zGe (zQx h2))
   have e:before.map Pm.Name++[x.Name]=(before++[x]).map Pm.Name:=by simp
   rw [e] at h3
   rw [paramsM_R p r (i+1) _ (before++[x]) (by rw [hp];simp) h3,←e,List.append_assoc]
  ·rw [if_neg h1,if_neg h1]
theorem zKp (p:Pg):dR p=jE p:=by
 unfold dR jE
 by_cases h:dG p
 ·rw [if_pos h,if_pos h]
  obtain ⟨h1,h2⟩:=sizesM_R p.Sizes [] [] Rel.nil
  rw [←h1]
  by_cases c:gC [] p.Sizes=0
  ·rw [if_pos c,if_pos c]
   have h3:=h2 c
   rw [List.nil_append] at h3
   rw [whereM_R h3]
   have h4:=paramsM_R p p.Params 2 (sE [] p.Sizes) [] rfl (by simpa using h3)
   rw [List.map_nil,List.append_nil] at h4
   rw [h4]
  ·rw [if_neg c,if_neg c]
 ·rw [if_neg h,if_neg h]
theorem kn_next {z v:List ByteArray} {l:List Mono} {k:Nat} {x:Mono} (h:l[k]? =some x) (hp:knL (knB z v) (l.take k)=true) (c:(!bR v x.Name&& !bR z x.Name)=false):knL (knB z v) (l.take (k+1))=true:=by
 unfold knL at *
 rw [qT h,List.all_append,hp]
 simp only [List.all_cons,List.all_nil,Bool.and_true,Bool.true_and,knB]
 revert c;cases bR v x.Name<;>cases bR z x.Name<;>simp
theorem kn_no {z v:List ByteArray} {l:List Mono} {k:Nat} {x:Mono} (h:l[k]? =some x) (c:(!bR v x.Name&& !bR z x.Name)=true):knL (knB z v) l=false:=by
 unfold knL
 rw [List.all_eq_false]
 refine ⟨x,zX h,?_⟩
 unfold knB
 revert c;cases bR v x.Name<;>cases bR z x.Name<;>simp
end Go.Br
end
section
namespace Go.Br
open Go Go.Eng Go.L41
def lG:List (List Ax)->Nat
 |[]=>0
 |l::r=>l.length+lG r
theorem zJn:∀(a b:List (List Ax)),lG (a++b)=lG a+lG b
 |[],b=>by simp [lG]
 |l::r,b=>by simp [lG,zJn r b];omega
theorem totL_flat:∀(a:List (List Ax)),lG a=a.flatten.length
 |[]=>rfl
 |l::r=>by simp [lG,totL_flat r]
theorem tot_next {ls:List (List Ax)} {k:Nat} {x:List Ax} (h:ls[k]? =some x):lG (ls.take (k+1))=lG (ls.take k)+x.length:=by
 rw [qT h,zJn];simp [lG]
theorem tot_le (ls:List (List Ax)) (k:Nat):lG (ls.take k)<=lG ls:=by
 have:lG ls=lG (ls.take k)+lG (ls.drop k):=by rw [←zJn,List.take_append_drop]
 omega
theorem tot_get {ls:List (List Ax)} {k:Nat} {x:List Ax} (h:ls[k]? =some x):lG (ls.take k)+x.length<=lG ls:=by
 rw [←tot_next h];exact tot_le _ _
theorem tot_flat {ls:List (List Ax)} {k:Nat} {x:List Ax} (h:ls[k]? =some x):(ls.take k).flatten.length+x.length<=lG ls:=by
 rw [←totL_flat];exact tot_get h
structure Pg.Ok (p:Pg):Prop where
 sizes:p.Sizes.length<=4294967296
 wh:p.Where.length<=4294967296
 params:p.Params.length<=4294967296
 defs:p.Defs.length<=4294967296
 outs:p.Outs.length<=4294967296
 whs:∀c,c∈p.Where->c.Lin.L.length<=5864062014805
 ps:∀x,x∈p.Params->x.Dims.length<=4294967296/\∀l,l∈x.Dims->l.L.length<=5864062014805
 ds:∀d,d∈p.Defs->d.Dims.length<=1073741824/\d.Red.length<=1073741824/\(∀a,a∈d.Dims->a.Size.L.length<=5864062014805)/\(∀a,a∈d.Red->a.Size.L.length<=5864062014805)/\d.Body.wt<=4294967296
theorem Pg.Ok.take {p:Pg} (h:p.Ok) (k:Nat):Pg.Ok ⟨p.Sizes,p.Where,p.Params,p.Defs.take k,p.Outs⟩:=
 ⟨h.sizes,h.wh,h.params,by have:=h.defs;simp only [List.length_take];omega,h.outs,h.whs,h.ps,fun d hd=>h.ds d (List.mem_of_mem_take hd)⟩
theorem names_rows (d:Df):(d.Dims++d.Red).map (fun a=>[cS a.Name])=(bQ d).map fun s=>[cS s]:=by
 simp [bQ,List.map_append,List.map_map,Function.comp_def]
theorem limit_eq (p:Pg):(decide (max (max (max (p.Sizes.length:Int) p.Params.length) p.Defs.length) p.Outs.length<=64)&&decide ((p.Where.length:Int)<=256))=decide (dG p):=by
 unfold dG
 by_cases h:p.Sizes.length<=64/\p.Params.length<=64/\p.Defs.length<=64/\p.Outs.length<=64/\p.Where.length<=256
 ·rw [decide_eq_true h,Bool.and_eq_true]
  exact ⟨decide_eq_true (by omega),decide_eq_true (by omega)⟩
 ·rw [decide_eq_false h,Bool.and_eq_false_iff]
  by_cases h2:p.Where.length<=256
  ·exact .inl (decide_eq_false (by omega))
  ·exact .inr (decide_eq_false (by omega))
theorem zNl {α:Type} {l:List α} {k:Nat} {x:α} (h:l[k]? =some x):k+1<=l.length:=(List.getElem?_eq_some_iff.1 h).1
def rK (l:List Int) (k:Nat):Int:=(l.take k).foldl max (l.headD 0)
theorem maxT_next {l:List Int} {k:Nat} {x:Int} (h:l[k]? =some x):max (rK l k) x=rK l (k+1):=by
 unfold rK;rw [qT h,List.foldl_append];rfl
theorem maxT_one {l:List Int} {x:Int} (h:l[0]? =some x):x=rK l 1:=by
 cases l with
 |nil=>simp at h
 |cons a r=>simp at h;subst h;simp [rK]
def mB (t:Ty) (l:List Int):Int:=if dW t=true then (if 6<rK l l.length then 11 else 0) else 10
theorem tyErr_no {t:Ty} (h:¬bZ t=0):dW t=false:=by
 cases c:dW t
 ·rfl
 ·exact absurd (by simp [bZ,c]) h
theorem tyErr_yes {t:Ty} (h:bZ t=0):dW t=true:=by
 cases c:dW t
 ·simp [bZ,c] at h
 ·rfl
theorem decl_one (t:Ty) (n:Nat):mB t [(n:Int)]=if dW t=true then (if 6<n then 11 else 0) else 10:=by
 unfold mB rK
 by_cases h:dW t=true
 ·simp only [if_pos h];by_cases h2:6<n
  ·rw [if_pos h2,if_pos (by simp;omega)]
  ·rw [if_neg h2,if_neg (by simp;omega)]
 ·simp only [if_neg h]
theorem decl_two (t:Ty) (n m:Nat):mB t [(n:Int),(m:Int)]=if dW t=true then (if 6<n∨6<m then 11 else 0) else 10:=by
 unfold mB rK
 by_cases h:dW t=true
 ·simp only [if_pos h];by_cases h2:6<n∨6<m
  ·rw [if_pos h2,if_pos (by simp;omega)]
  ·rw [if_neg h2,if_neg (by simp;omega)]
 ·simp only [if_neg h]
end Go.Br
end
section
namespace Go.Br
open Go Go.Eng Go.L41
abbrev vP (b:Nat):V:=.c (.lit (.pointer (some ⟨b,0,none⟩)))
def gD (m:Kn) (s:ByteArray) (k:Int):Kn:=if fB m s=0 then fS m s k else m
theorem nameM_bad {m:Kn} {s:ByteArray} (h:bD s=false):fB m s=7:=by unfold fB;rw [h];rfl
theorem nameM_dup {m:Kn} {s:ByteArray} (h:bD s=true) (h2:¬fW m s=0):fB m s=8:=by unfold fB;rw [h,if_pos rfl,if_neg h2]
theorem nameM_ok {m:Kn} {s:ByteArray} (h:bD s=true) (h2:fW m s=0):fB m s=0:=by unfold fB;rw [h,if_pos rfl,if_pos h2]
theorem nmap_bad {m:Kn} {s:ByteArray} {k n:Int} (h:fB m s=n) (hn:n≠0):m=gD m s k:=by unfold gD;rw [if_neg (by rw [h];exact hn)]
theorem zNg {m:Kn} {s:ByteArray} {k:Int} (h:fB m s=0):gD m s k=fS m s k:=by unfold gD;rw [if_pos h]
theorem zRo {l:Lf} (h:¬fZ l=0):bJ l=false:=by
 cases c:bJ l
 ·rfl
 ·exact absurd (by simp [fZ,c]) h
theorem zGf {l:Lf} (h:fZ l=0):bJ l=true:=by
 cases c:bJ l
 ·simp [fZ,c] at h
 ·rfl
theorem knF_next {f:ByteArray->Bool} {l:List Mono} {k:Nat} {x:Mono} (h:l[k]? =some x) (hp:knL f (l.take k)=true) (c:f x.Name=true):knL f (l.take (k+1))=true:=by
 unfold knL at *
 rw [qT h,List.all_append,hp]
 simp [c]
theorem knF_no {f:ByteArray->Bool} {l:List Mono} {k:Nat} {x:Mono} (h:l[k]? =some x) (c:f x.Name=false):knL f l=false:=by
 unfold knL
 rw [List.all_eq_false]
 exact ⟨x,zX h,by simp [c]⟩
theorem sized_arg {m:Kn} {l:Lf} (h:bJ l=false):fI m l=1:=by unfold fI;rw [if_neg (by rw [h];simp)]
theorem sized_nf {m:Kn} {l:Lf} (h:bJ l=true) (h2:knL (fun s=>decide (fW m s=1)) l.L=false):fI m l=9:=by unfold fI;rw [if_pos h,if_neg (by rw [h2];simp)]
theorem sized_ok {m:Kn} {l:Lf} (h:bJ l=true) (h2:knL (fun s=>decide (fW m s=1)) l.L=true):fI m l=0:=by unfold fI;rw [if_pos h,if_pos h2]
theorem sizeds_at {m:Kn} {l:List Lf} {k:Nat} {x:Lf} (h:l[k]? =some x) (hs:fI m x=0):jG m (l.drop k)=jG m (l.drop (k+1)):=by rw [qR h,jG,if_pos hs]
theorem sizeds_no {m:Kn} {l:List Lf} {k:Nat} {x:Lf} (h:l[k]? =some x) (hs:¬fI m x=0):jG m (l.drop k)=fI m x:=by rw [qR h,jG,if_neg hs]
theorem wV {α:Type} {l:List α} {k:Nat} (h:¬k<l.length):l.drop k=[]:=List.drop_of_length_le (by omega)
def sT:List Ax->List (ByteArray×Bool)
 |l=>l.foldl (fun m a=>fS m a.Name true) []
theorem ownT_next {l:List Ax} {k:Nat} {x:Ax} (h:l[k]? =some x):sT (l.take (k+1))=fS (sT (l.take k)) x.Name true:=by
 unfold sT;rw [qT h,List.foldl_append];rfl
theorem mget_mputB (m:List (ByteArray×Bool)) (k s:ByteArray) (a:Bool):hU (fS m k a) s=if k=s then some a else hU m s:=by
 induction m with
 |nil=>simp [fS,hU]
 |cons x r ih=>
  obtain ⟨k',b⟩:=x
  by_cases h:k'=k
  ·subst h
   simp only [fS,if_true,hU]
   by_cases h2:k'=s<;>simp [h2]
  ·simp only [fS,h,if_false,hU,ih]
   by_cases h2:k'=s
   ·subst h2;rw [if_pos rfl,if_neg (fun e:k=k'=>h e.symm),if_pos rfl]
   ·simp [h2]
theorem own_fold (s:ByteArray):∀(l:List Ax) (m:List (ByteArray×Bool)),(hU (l.foldl (fun m a=>fS m a.Name true) m) s).getD false=(bR (l.map Ax.Name) s||(hU m s).getD false)
 |[],m=>by simp [bR]
 |a::r,m=>by
  rw [List.foldl_cons,own_fold s r,mget_mputB]
  by_cases h:a.Name=s
  ·simp [bR,h]
  ·simp [bR,h]
theorem own_get (s:ByteArray) (l:List Ax):(hU (sT l) s).getD false=bR (l.map Ax.Name) s:=by
 unfold sT;rw [own_fold];simp [hU]
theorem axes_at {m:Kn} {l:List Ax} {own:List ByteArray} {k:Nat} {x:Ax} (h:l[k]? =some x) (h1:bD x.Name=true) (h2:¬(bR own x.Name=true∨fW m x.Name=1)) (h3:fI m x.Size=0):jR m own (l.drop k)=jR m (own++[x.Name]) (l.drop (k+1)):=by
 rw [qR h,jR,if_pos h1,if_neg h2,if_pos h3]
theorem axes_7 {m:Kn} {l:List Ax} {own:List ByteArray} {k:Nat} {x:Ax} (h:l[k]? =some x) (h1:bD x.Name=false):jR m own (l.drop k)=7:=by
 rw [qR h,jR,if_neg (by rw [h1];simp)]
theorem axes_8 {m:Kn} {l:List Ax} {own:List ByteArray} {k:Nat} {x:Ax} (h:l[k]? =some x) (h1:bD x.Name=true) (h2:bR own x.Name=true∨fW m x.Name=1):jR m own (l.drop k)=8:=by
 rw [qR h,jR,if_pos h1,if_pos h2]
theorem axes_s {m:Kn} {l:List Ax} {own:List ByteArray} {k:Nat} {x:Ax} (h:l[k]? =some x) (h1:bD x.Name=true) (h2:¬(bR own x.Name=true∨fW m x.Name=1)) (h3:¬fI m x.Size=0):jR m own (l.drop k)=fI m x.Size:=by
 rw [qR h,jR,if_pos h1,if_neg h2,if_neg h3]
/-! ## Find -/
theorem find_at {s:ByteArray} {ds:List Df} {l:List Pm} {k:Nat} {x:Pm} (h:l[k]? =some x) (hx:x.Name=s):gO s ds (l.drop k)=⟨x.T,x.Dims,true⟩:=by rw [qR h,gO,decide_eq_true hx];rfl
theorem find_next {s:ByteArray} {ds:List Df} {l:List Pm} {k:Nat} {x:Pm} (h:l[k]? =some x) (hx:¬x.Name=s):gO s ds (l.drop k)=gO s ds (l.drop (k+1)):=by rw [qR h,gO,decide_eq_false hx];rfl
theorem find_def (s:ByteArray):∀l:List Df,(0<=rN s l->∃d,l[(rN s l).toNat]? =some d/\gP s l=⟨d.T,d.Dims.map Ax.Size,true⟩)/\(rN s l<0->gP s l=⟨zTy,[],false⟩)
 |[]=>⟨fun h=>by simp [rN,dI] at h,fun _=>rfl⟩
 |d::r=>by
  obtain ⟨h1,h2⟩:=find_def s r
  have hge:=zPg (fun d:Df=>decide (d.Name=s)) r
  unfold rN at *
  unfold dI gP
  by_cases h:d.Name=s
  ·simp only [decide_eq_true h,cond_true]
   exact ⟨fun _=>⟨d,by simp,rfl⟩,fun h=>by omega⟩
  ·simp only [decide_eq_false h,cond_false]
   by_cases h3:dI (fun d:Df=>decide (d.Name=s)) r= -1
   ·simp only [decide_eq_true h3,cond_true]
    exact ⟨fun h=>by omega,fun _=>h2 (by omega)⟩
   ·simp only [decide_eq_false h3,cond_false]
    refine ⟨fun _=>?_,fun h=>by omega⟩
    obtain ⟨x,hx,hf⟩:=h1 (by omega)
    exact ⟨x,by rw [show (dI (fun d:Df=>decide (d.Name=s)) r+1).toNat=(dI (fun d:Df=>decide (d.Name=s)) r).toNat+1 by omega];simpa using hx,hf⟩
/-! ## The typer -/
def kn (m:Kn) (s:ByteArray):Bool:= !decide (fW m s=0)
theorem kn_t {m:Kn} {s:ByteArray} (h:¬fW m s=0):kn m s=true:=by unfold kn;rw [decide_eq_false h];rfl
theorem kn_f {m:Kn} {s:ByteArray} (h:fW m s=0):kn m s=false:=by unfold kn;rw [decide_eq_true h];rfl
theorem zPj {k:ByteArray->Bool} {l:Lf} (h:knL k l.L=true):jI k l=0:=by unfold jI;rw [h];rfl
theorem zIs {k:ByteArray->Bool} {l:Lf} (h:knL k l.L=false):jI k l=9:=by unfold jI;rw [h];rfl
theorem formsK_no {k:ByteArray->Bool} {l:List Lf} {j:Nat} {x:Lf} (h:l[j]? =some x) (hx:¬jI k x=0):gW k l=jI k x:=by
 have h1:knL k x.L=false:=by
  cases c:knL k x.L
  ·rfl
  ·exact absurd (zPj c) hx
 unfold gW
 rw [show l.all (fun x=>knL k x.L)=false from List.all_eq_false.2 ⟨x,zX h,by simp [h1]⟩,zIs h1];rfl
theorem zRv {k:ByteArray->Bool} {l:List Lf} {j:Nat} {x:Lf} (h:l[j]? =some x) (hp:(l.take j).all (fun x=>knL k x.L)=true) (hx:jI k x=0):(l.take (j+1)).all (fun x=>knL k x.L)=true:=by
 have h1:knL k x.L=true:=by
  cases c:knL k x.L
  ·rw [zIs c] at hx;cases hx
  ·rfl
 rw [qT h,List.all_append,hp];simp [h1]
theorem formsK_ok {k:ByteArray->Bool} {l:List Lf} (hp:l.all (fun x=>knL k x.L)=true):gW k l=0:=by unfold gW;rw [hp];rfl
theorem zJz {n:En} {k:ByteArray->Bool} {l:List Ix} {j:Nat} {x:Ix} (h:l[j]? =some x) (hx:dD n k x=0):dU n k (l.drop j)=dU n k (l.drop (j+1)):=by rw [qR h,dU,decide_eq_true hx];rfl
theorem zRr {n:En} {k:ByteArray->Bool} {l:List Ix} {j:Nat} {x:Ix} (h:l[j]? =some x) (hx:¬dD n k x=0):dU n k (l.drop j)=dD n k x:=by rw [qR h,dU,decide_eq_false hx];rfl
def tyC (t:Ty):List C:=[cI t.Kind,cI t.Bits,cI t.Frac,cI t.Round,cI t.Over]
theorem tyC_eq (a b:Ty):dA [cI a.Kind,cI a.Bits,cI a.Frac,cI a.Round,cI a.Over] [cI b.Kind,cI b.Bits,cI b.Frac,cI b.Round,cI b.Over]=decide (a=b):=by
 obtain ⟨a1,a2,a3,a4,a5⟩:=a
 obtain ⟨b1,b2,b3,b4,b5⟩:=b
 simp only [dA,cEq,Ty.mk.injEq,Bool.and_true,Bool.decide_and]
theorem zHw (N:Ex->List Ty->Ty×Int):∀(a b:List Ex),(bF N a).2=0->bF N (a++b)=if (bF N b).2=0 then ((bF N a).1++(bF N b).1,0) else ([],(bF N b).2)
 |[],b,_=>by
  simp only [List.nil_append,bF,List.nil_append]
  cases b with
  |nil=>simp [bF]
  |cons x r=>
   simp only [bF]
   by_cases h1:(bE N x).2=0
   ·by_cases h2:(bF N r).2=0
    ·simp [h1,h2]
    ·simp [h1,h2]
   ·simp [h1]
 |x::r,b,h=>by
  rw [bF] at h
  by_cases h1:(bE N x).2=0
  ·rw [if_pos h1] at h
   by_cases h2:(bF N r).2=0
   ·rw [List.cons_append,bF,if_pos h1,zHw N r b h2]
    rw [bF,if_pos h1,if_pos h2]
    by_cases h3:(bF N b).2=0
    ·simp [h3]
    ·simp [h3]
   ·rw [if_neg h2] at h;exact absurd h h2
  ·rw [if_neg h1] at h;exact absurd h h1
theorem zIk {N:Ex->List Ty->Ty×Int} {l:List Ex} {k:Nat} {x:Ex} (h:l[k]? =some x) (hp:(bF N (l.take k)).2=0) (hx:(bE N x).2=0):bF N (l.take (k+1))=((bF N (l.take k)).1++[(bE N x).1],0):=by
 rw [qT h,zHw N _ _ hp];simp [bF,hx]
theorem nodeL_no {N:Ex->List Ty->Ty×Int} {l:List Ex} {k:Nat} {x:Ex} (h:l[k]? =some x) (hp:(bF N (l.take k)).2=0) (hx:¬(bE N x).2=0):(bF N l).2=(bE N x).2:=by
 have e:l=l.take k++(x::l.drop (k+1)):=by rw [←qR h,List.take_append_drop]
 rw [e,zHw N _ _ hp]
 simp [bF,hx]
theorem zHv (N:Ex->List Ty->Ty×Int):∀l:List Ex,(bF N l).2=0->(bF N l).1.length=l.length
 |[],_=>rfl
 |x::r,h=>by
  rw [bF] at h⊢
  by_cases h1:(bE N x).2=0
  ·rw [if_pos h1] at h⊢
   by_cases h2:(bF N r).2=0
   ·rw [if_pos h2];simp [zHv N r h2]
   ·rw [if_neg h2] at h;exact absurd h h2
  ·rw [if_neg h1] at h;exact absurd h h1
def gK (m:Kn) (l:List ByteArray) (a:Int):Kn:=l.foldl (fun m s=>fS m s a) m
theorem zKx {m:Kn} {l:List ByteArray} {a:Int} {k:Nat} {x:ByteArray} (h:l[k]? =some x):gK m (l.take (k+1)) a=fS (gK m (l.take k) a) x a:=by
 unfold gK;rw [qT h,List.foldl_append];rfl
theorem tabV_get (a:Int) (s:ByteArray):∀(l:List ByteArray) (m:Kn),fW (gK m l a) s=if bR l s=true then a else fW m s
 |[],m=>by simp [gK,bR]
 |x::r,m=>by
  unfold gK
  rw [List.foldl_cons]
  have:=tabV_get a s r (fS m x a)
  unfold gK at this
  rw [this,zEt]
  have hc:bR (x::r) s=(decide (x=s)||bR r s):=rfl
  rw [hc]
  by_cases h:x=s
  ·simp only [h,if_true,decide_true,Bool.true_or];split<;>rfl
  ·simp only [h,if_false,decide_false,Bool.false_or]
theorem kn_tab (sz vars:List ByteArray):kn (gK (gK [] sz 1) vars 3)=knB sz vars:=by
 funext s
 unfold kn knB
 rw [tabV_get,tabV_get]
 cases h1:bR vars s<;>cases h2:bR sz s<;>simp [fW,hU]
end Go.Br
namespace Go.Br
open Go Go.Eng Go.L41
theorem param_ok {m:Kn} {x:Pm} (c1:fB m x.Name=0) (c2:mB x.T [(x.Dims.length:Int)]=0):gV m x=jG (gD m x.Name 2) x.Dims:=by
 unfold gV
 rw [decl_one] at c2
 rw [if_pos c1,zNg c1]
 split at c2
 ·rename_i ht
  rw [if_pos ht]
  split at c2
  ·cases c2
  ·rename_i h6;rw [if_neg h6]
 ·cases c2
theorem param_bad {m:Kn} {x:Pm} (c1:fB m x.Name=0) (c2:¬mB x.T [(x.Dims.length:Int)]=0):gV m x=mB x.T [(x.Dims.length:Int)]:=by
 unfold gV
 rw [decl_one] at c2⊢
 rw [if_pos c1]
 split at c2
 ·rename_i ht
  rw [if_pos ht,if_pos ht]
  split at c2
  ·rename_i h6;rw [if_pos h6,if_pos h6]
  ·exact absurd rfl c2
 ·rename_i ht;rw [if_neg ht,if_neg ht]
theorem ax_yes {own:List (ByteArray×Bool)} {m:Kn} {s:ByteArray} {l:List ByteArray} (h:(hU own s).getD false=bR l s) (c:((hU own s).getD false||decide (fW m s=1))=true):bR l s=true∨fW m s=1:=by
 rw [h,Bool.or_eq_true,decide_eq_true_eq] at c
 exact c
theorem ax_no {own:List (ByteArray×Bool)} {m:Kn} {s:ByteArray} {l:List ByteArray} (h:(hU own s).getD false=bR l s) (c:((hU own s).getD false||decide (fW m s=1))=false):¬(bR l s=true∨fW m s=1):=by
 rw [h,Bool.or_eq_false_iff,decide_eq_false_iff_not] at c
 rintro (k|k)
 ·rw [c.1] at k;cases k
 ·exact c.2 k
end Go.Br
end
section
namespace Go.Br
open Go Go.Eng Go.L41
theorem nodeT_no {N:Ex->List Ty->Ty×Int} {e x:Ex} {k:Nat} (h:e.Args[k]? =some x) (hp:(bF N (e.Args.take k)).2=0) (hx:¬(bE N x).2=0):bE N e=(zTy,(bE N x).2):=by
 have h1:=nodeL_no h hp hx
 rw [zEa N e,h1,if_neg hx]
theorem nodeT_ok {N:Ex->List Ty->Ty×Int} {e:Ex} {k:Nat} (h:e.Args.take k=e.Args) (hp:(bF N (e.Args.take k)).2=0):bE N e=N e (bF N (e.Args.take k)).1:=by
 rw [h] at hp⊢
 rw [zEa N e,if_pos hp]
theorem readK_9 {n:En} {k:ByteArray->Bool} {e:Ex} (h:(n.find e.Name).ok=false):gF n k e=(zTy,9):=by unfold gF;rw [h];rfl
theorem readK_11 {n:En} {k:ByteArray->Bool} {e:Ex} (h:(n.find e.Name).ok=true) (h2:¬e.Idx.length=(n.find e.Name).dims.length):gF n k e=(zTy,11):=by unfold gF;rw [h,decide_eq_false h2];rfl
theorem readK_x {n:En} {k:ByteArray->Bool} {e:Ex} (h:(n.find e.Name).ok=true) (h2:e.Idx.length=(n.find e.Name).dims.length) (h3:¬dU n k e.Idx=0):gF n k e=(zTy,dU n k e.Idx):=by unfold gF;rw [h,decide_eq_true h2,decide_eq_false h3];rfl
theorem zMu {n:En} {k:ByteArray->Bool} {e:Ex} (h:(n.find e.Name).ok=true) (h2:e.Idx.length=(n.find e.Name).dims.length) (h3:dU n k e.Idx=0):gF n k e=((n.find e.Name).ty,0):=by unfold gF;rw [h,decide_eq_true h2,decide_eq_true h3];rfl
theorem unlike_0 {a b:Ty} (h:a=b):gB a b=0:=by unfold gB;rw [decide_eq_true h];rfl
theorem unlike_10 {a b:Ty} (h:¬a=b):gB a b=10:=by unfold gB;rw [decide_eq_false h];rfl
theorem zKr {a b:Ty} (h:(!dA [cI a.Kind,cI a.Bits,cI a.Frac,cI a.Round,cI a.Over] [cI b.Kind,cI b.Bits,cI b.Frac,cI b.Round,cI b.Over])=true):¬a=b:=by
 rw [tyC_eq] at h;simpa using h
theorem zIi {a b:Ty} (h:(!dA [cI a.Kind,cI a.Bits,cI a.Frac,cI a.Round,cI a.Over] [cI b.Kind,cI b.Bits,cI b.Frac,cI b.Round,cI b.Over])=false):a=b:=by
 rw [tyC_eq] at h;simpa using h
theorem tyAt_get {l:List Ty} {i:Nat} (h:i<l.length):(l.map tyC)[i]? =some (tyC (fJ l i)):=by
 rw [List.getElem?_map,List.getElem?_eq_getElem h]
 simp [fJ,List.getD,List.getElem?_eq_getElem h]
theorem zNf {n:En} {k:ByteArray->Bool} {e:Ex} {l:List Ty} (h:e.Op=1∨e.Op=12):ofN n k e l=(e.Ty,0):=by unfold ofN;rw [if_pos h]
theorem zNe {n:En} {k:ByteArray->Bool} {e:Ex} {l:List Ty} (h:e.Op=2):ofN n k e l=(iTy,jI k e.Lin):=by unfold ofN;rw [if_neg (by omega),if_pos h]
theorem zNd {n:En} {k:ByteArray->Bool} {e:Ex} {l:List Ty} (h:e.Op=3):ofN n k e l=gF n k e:=by unfold ofN;rw [if_neg (by omega),if_neg (by omega),if_pos h]
theorem zNc {n:En} {k:ByteArray->Bool} {e:Ex} {l:List Ty} (h:e.Op=8):ofN n k e l=(fJ l 0,0):=by unfold ofN;rw [if_neg (by omega),if_neg (by omega),if_neg (by omega),if_pos h]
theorem zGb {n:En} {k:ByteArray->Bool} {e:Ex} {l:List Ty} (h:e.Op=11):ofN n k e l=(fJ l 1,gB (fJ l 1) (fJ l 2)):=by unfold ofN;rw [if_neg (by omega),if_neg (by omega),if_neg (by omega),if_neg (by omega),if_pos h]
theorem zFz {n:En} {k:ByteArray->Bool} {e:Ex} {l:List Ty} (h:e.Op=16∨e.Op=17∨e.Op=18):ofN n k e l=(zTy,0):=by unfold ofN;rw [if_neg (by omega),if_neg (by omega),if_neg (by omega),if_neg (by omega),if_neg (by omega),if_pos h]
theorem zGa {n:En} {k:ByteArray->Bool} {e:Ex} {l:List Ty} (h:e.Op=13∨e.Op=14∨e.Op=15):ofN n k e l=(zTy,gB (fJ l 0) (fJ l 1)):=by unfold ofN;rw [if_neg (by omega),if_neg (by omega),if_neg (by omega),if_neg (by omega),if_neg (by omega),if_neg (by omega),if_pos h]
theorem zNb {n:En} {k:ByteArray->Bool} {e:Ex} {l:List Ty} (h:¬(e.Op=1∨e.Op=12∨e.Op=2∨e.Op=3∨e.Op=8∨e.Op=11∨e.Op=16∨e.Op=17∨e.Op=18∨e.Op=13∨e.Op=14∨e.Op=15)):ofN n k e l=(fJ l 0,gB (fJ l 0) (fJ l 1)):=by unfold ofN;rw [if_neg (by omega),if_neg (by omega),if_neg (by omega),if_neg (by omega),if_neg (by omega),if_neg (by omega),if_neg (by omega)]
theorem rank_len {e:Ex} (h:dQ e=0):(e.Args.length:Int)=bN e.Op:=by
 have h1:=(zDl (zAo h)).2.2.1
 unfold lW at h1
 simp only [Bool.and_eq_true,Bool.not_eq_true',Bool.or_eq_false_iff,Bool.not_eq_false',decide_eq_true_eq] at h1
 exact h1.1.1
theorem args_len {e:Ex} (h:dQ e=0) (ho:¬(e.Op=1∨e.Op=2∨e.Op=3)):1<=e.Args.length:=by
 have:=rank_len h;unfold bN at this;rw [if_neg ho] at this;split at this
 ·omega
 ·split at this<;>omega
theorem zIe {e:Ex} (h:dQ e=0) (ho:¬(e.Op=1∨e.Op=2∨e.Op=3∨e.Op=8∨e.Op=12∨e.Op=18)):2<=e.Args.length:=by
 have:=rank_len h;unfold bN at this;rw [if_neg (by omega),if_neg (by omega)] at this;split at this<;>omega
theorem args_len3 {e:Ex} (h:dQ e=0) (ho:e.Op=11):3<=e.Args.length:=by
 have:=rank_len h;unfold bN at this;rw [if_neg (by omega),if_neg (by omega),if_pos ho] at this;omega
theorem typeT_of {n:En} {vars:List ByteArray} {e:Ex} {k:ByteArray->Bool} (hk:k=knB n.sz vars) (h1:bP e=0) (h2:gE e=false):fM n vars e=if (bE (ofN n k) e).2=0 then ((bE (ofN n k) e).1,0) else (zTy,(bE (ofN n k) e).2):=by
 subst hk;unfold fM lF;rw [if_pos h1,if_neg (by rw [h2];simp)]
theorem typeT_bad {n:En} {vars:List ByteArray} {e:Ex} (h1:¬bP e=0):fM n vars e=(zTy,bP e):=by unfold fM lF;rw [if_neg h1]
theorem typeT_cond {n:En} {vars:List ByteArray} {e:Ex} (h1:bP e=0) (h2:gE e=true):fM n vars e=(zTy,10):=by unfold fM lF;rw [if_pos h1,if_pos h2]
end Go.Br
end
section
namespace Go.Br
open Go Go.Eng Go.L41
/-! ## The program's Validate -/
theorem tabS_V:∀(l:List ByteArray) (m:Kn),sE m l=gK m l 1
 |[],m=>rfl
 |s::r,m=>tabS_V r _
theorem sizesM_next {m:Kn} {l:List ByteArray} {k:Nat} {x:ByteArray} (h:l[k]? =some x) (hx:fB m x=0):gC m (l.drop k)=gC (fS m x 1) (l.drop (k+1)):=by rw [qR h,gC,if_pos hx]
theorem sizesM_no {m:Kn} {l:List ByteArray} {k:Nat} {x:ByteArray} (h:l[k]? =some x) (hx:¬fB m x=0):gC m (l.drop k)=fB m x:=by rw [qR h,gC,if_neg hx]
theorem whereM_next {m:Kn} {l:List Cn} {k:Nat} {x:Cn} (h:l[k]? =some x) (hx:fI m x.Lin=0):jC m (l.drop k)=jC m (l.drop (k+1)):=by rw [qR h,jC,if_pos hx]
theorem whereM_no {m:Kn} {l:List Cn} {k:Nat} {x:Cn} (h:l[k]? =some x) (hx:¬fI m x.Lin=0):jC m (l.drop k)=fI m x.Lin:=by rw [qR h,jC,if_neg hx]
theorem paramsM_next {p:Pg} {i:Int} {m:Kn} {l:List Pm} {k:Nat} {x:Pm} (h:l[k]? =some x) (hx:gV m x=0):gZ p i m (l.drop k)=gZ p (i+1) (fS m x.Name 2) (l.drop (k+1)):=by rw [qR h,gZ,if_pos hx]
theorem paramsM_no {p:Pg} {i:Int} {m:Kn} {l:List Pm} {k:Nat} {x:Pm} (h:l[k]? =some x) (hx:¬gV m x=0):gZ p i m (l.drop k)=(i,gV m x):=by rw [qR h,gZ,if_neg hx]
theorem defsM_next {p:Pg} {i:Int} {m:Kn} {l:List Df} {k:Nat} {x:Df} (h:l[k]? =some x) (hx:mX m ⟨p.Sizes,p.Params,l.take k⟩ x=0):mU p i m (l.take k) (l.drop k)=mU p (i+1) (fS m x.Name 2) (l.take (k+1)) (l.drop (k+1)):=by rw [qR h,mU,if_pos hx,qT h]
theorem defsM_no {p:Pg} {i:Int} {m:Kn} {l:List Df} {k:Nat} {x:Df} (h:l[k]? =some x) (hx:¬mX m ⟨p.Sizes,p.Params,l.take k⟩ x=0):mU p i m (l.take k) (l.drop k)=(i,mX m ⟨p.Sizes,p.Params,l.take k⟩ x):=by rw [qR h,mU,if_neg hx]
theorem outsM_next {m:Kn} {i:Int} {l:List ByteArray} {k:Nat} {x:ByteArray} (h:l[k]? =some x) (h1:fW m x=2) (h2:bR (l.take k) x=false):mT m i (l.take k) (l.drop k)=mT m (i+1) (l.take (k+1)) (l.drop (k+1)):=by rw [qR h,mT,if_pos h1,if_neg (by rw [h2];simp),qT h]
theorem outsM_8 {m:Kn} {i:Int} {l:List ByteArray} {k:Nat} {x:ByteArray} (h:l[k]? =some x) (h1:fW m x=2) (h2:bR (l.take k) x=true):mT m i (l.take k) (l.drop k)=(i,8):=by rw [qR h,mT,if_pos h1,if_pos h2]
theorem outsM_9 {m:Kn} {i:Int} {l:List ByteArray} {k:Nat} {x:ByteArray} (h:l[k]? =some x) (h1:¬fW m x=2):mT m i (l.take k) (l.drop k)=(i,9):=by rw [qR h,mT,if_neg h1]
def pL (m:Kn) (l:List Pm):Kn:=l.foldl (fun m x=>fS m x.Name 2) m
theorem tabP_next {m:Kn} {l:List Pm} {k:Nat} {x:Pm} (h:l[k]? =some x):pL m (l.take (k+1))=fS (pL m (l.take k)) x.Name 2:=by
 unfold pL;rw [qT h,List.foldl_append];rfl
def sF (m:Kn) (l:List Df):Kn:=l.foldl (fun m x=>fS m x.Name 2) m
theorem tabD_next {m:Kn} {l:List Df} {k:Nat} {x:Df} (h:l[k]? =some x):sF m (l.take (k+1))=fS (sF m (l.take k)) x.Name 2:=by
 unfold sF;rw [qT h,List.foldl_append];rfl
theorem param_map {m:Kn} {x:Pm} {k:Int} (h:gV m x=0):gD m x.Name k=fS m x.Name k:=zNg (zQx h)
theorem def_map {m:Kn} {n:En} {x:Df} {k:Int} (h:mX m n x=0):gD m x.Name k=fS m x.Name k:=zNg (defM_name h)
theorem validM_2 {p:Pg} (h:¬dG p):dR p=(0,2):=by unfold dR;rw [if_neg h]
theorem validM_s {p:Pg} (h:dG p) (h2:¬gC [] p.Sizes=0):dR p=(0,gC [] p.Sizes):=by unfold dR;rw [if_pos h,if_neg h2]
theorem validM_w {p:Pg} (h:dG p) (h2:gC [] p.Sizes=0) (h3:¬jC (gK [] p.Sizes 1) p.Where=0):dR p=(1,jC (gK [] p.Sizes 1) p.Where):=by
 unfold dR;rw [←tabS_V] at h3⊢;rw [if_pos h,if_pos h2,if_neg h3]
theorem validM_p {p:Pg} (h:dG p) (h2:gC [] p.Sizes=0) (h3:jC (gK [] p.Sizes 1) p.Where=0):dR p=gZ p 2 (gK [] p.Sizes 1) p.Params:=by
 unfold dR;rw [←tabS_V] at h3⊢;rw [if_pos h,if_pos h2,if_pos h3]
/-! ## A definition -/
theorem def_1 {m:Kn} {n:En} {d:Df} (h:¬fB m d.Name=0):mX m n d=fB m d.Name:=by unfold mX;rw [if_neg h]
theorem def_2 {m:Kn} {n:En} {d:Df} (h:fB m d.Name=0) (h2:¬mB d.T [(d.Dims.length:Int),(d.Red.length:Int)]=0):mX m n d=mB d.T [(d.Dims.length:Int),(d.Red.length:Int)]:=by
 unfold mX
 rw [decl_two] at h2⊢
 rw [if_pos h]
 split at h2
 ·rename_i ht
  rw [if_pos ht,if_pos ht]
  split at h2
  ·rename_i h6;rw [if_pos h6,if_pos h6]
  ·exact absurd rfl h2
 ·rename_i ht;rw [if_neg ht,if_neg ht]
theorem def_ok {m:Kn} {n:En} {d:Df} (h:fB m d.Name=0) (h2:mB d.T [(d.Dims.length:Int),(d.Red.length:Int)]=0):mX m n d=(if jR (gD m d.Name 2) [] (d.Dims++d.Red)=0 then (if fT d=0 then mJ (fM n (bQ d) d.Body) d else fT d) else jR (gD m d.Name 2) [] (d.Dims++d.Red)):=by
 unfold mX
 rw [decl_two] at h2
 rw [if_pos h,zNg h]
 split at h2
 ·rename_i ht
  rw [if_pos ht]
  split at h2
  ·cases h2
  ·rename_i h6;rw [if_neg h6]
 ·cases h2
/-! ## The reference's Validate -/
theorem nameR_7 {s:ByteArray} {t:List ByteArray} (h:bD s=false):dH s t=7:=by unfold dH;rw [if_neg (by rw [h];simp)]
theorem nameR_8 {s:ByteArray} {t:List ByteArray} (h:bD s=true) (h2:bR t s=true):dH s t=8:=by unfold dH;rw [if_pos h,if_pos h2]
theorem nameR_0 {s:ByteArray} {t:List ByteArray} (h:bD s=true) (h2:bR t s=false):dH s t=0:=by unfold dH;rw [if_pos h,if_neg (by rw [h2];simp)]
theorem knB_nil (sz:List ByteArray):knB sz []=bR sz:=by funext s;simp [knB,bR]
theorem formR_1 {l:Lf} {sz:List ByteArray} (h:bJ l=false):fU l sz=1:=by unfold fU;rw [if_neg (by rw [h];simp)]
theorem formR_9 {l:Lf} {sz:List ByteArray} (h:bJ l=true) (h2:knL (knB sz []) l.L=false):fU l sz=9:=by rw [knB_nil] at h2;unfold fU;rw [if_pos h,if_neg (by rw [h2];simp)]
theorem formR_0 {l:Lf} {sz:List ByteArray} (h:bJ l=true) (h2:knL (knB sz []) l.L=true):fU l sz=0:=by rw [knB_nil] at h2;unfold fU;rw [if_pos h,if_pos h2]
theorem formsR_next {sz:List ByteArray} {l:List Lf} {k:Nat} {x:Lf} (h:l[k]? =some x) (hx:fU x sz=0):lI sz (l.drop k)=lI sz (l.drop (k+1)):=by rw [qR h,lI,if_pos hx]
theorem formsR_no {sz:List ByteArray} {l:List Lf} {k:Nat} {x:Lf} (h:l[k]? =some x) (hx:¬fU x sz=0):lI sz (l.drop k)=fU x sz:=by rw [qR h,lI,if_neg hx]
theorem paramR_1 {x:Pm} {sz t:List ByteArray} (h:¬dH x.Name t=0):gL x sz t=dH x.Name t:=by unfold gL;rw [if_neg h]
theorem paramR_10 {x:Pm} {sz t:List ByteArray} (h:dH x.Name t=0) (h2:dW x.T=false):gL x sz t=10:=by unfold gL;rw [if_pos h,if_neg (by rw [h2];simp)]
theorem paramR_11 {x:Pm} {sz t:List ByteArray} (h:dH x.Name t=0) (h2:dW x.T=true) (h3:6<x.Dims.length):gL x sz t=11:=by unfold gL;rw [if_pos h,if_pos h2,if_pos h3]
theorem paramR_f {x:Pm} {sz t:List ByteArray} (h:dH x.Name t=0) (h2:dW x.T=true) (h3:¬6<x.Dims.length):gL x sz t=lI sz x.Dims:=by unfold gL;rw [if_pos h,if_pos h2,if_neg h3]
theorem axesR_next {sz t:List ByteArray} {l:List Ax} {k:Nat} {x:Ax} (h:l[k]? =some x) (h1:dH x.Name t=0) (h2:fU x.Size sz=0):gI sz t (l.drop k)=gI sz (t++[x.Name]) (l.drop (k+1)):=by rw [qR h,gI,if_pos h1,if_pos h2]
theorem axesR_n {sz t:List ByteArray} {l:List Ax} {k:Nat} {x:Ax} (h:l[k]? =some x) (h1:¬dH x.Name t=0):gI sz t (l.drop k)=dH x.Name t:=by rw [qR h,gI,if_neg h1]
theorem axesR_f {sz t:List ByteArray} {l:List Ax} {k:Nat} {x:Ax} (h:l[k]? =some x) (h1:dH x.Name t=0) (h2:¬fU x.Size sz=0):gI sz t (l.drop k)=fU x.Size sz:=by rw [qR h,gI,if_pos h1,if_neg h2]
theorem sizesR_next {l:List ByteArray} {k:Nat} {x:ByteArray} (h:l[k]? =some x) (hx:dH x (l.take k)=0):gU (l.take k) (l.drop k)=gU (l.take (k+1)) (l.drop (k+1)):=by rw [qR h,gU,if_pos hx,qT h]
theorem sizesR_no {l:List ByteArray} {k:Nat} {x:ByteArray} (h:l[k]? =some x) (hx:¬dH x (l.take k)=0):gU (l.take k) (l.drop k)=dH x (l.take k):=by rw [qR h,gU,if_neg hx]
theorem whereR_next {sz:List ByteArray} {l:List Cn} {k:Nat} {x:Cn} (h:l[k]? =some x) (hx:fU x.Lin sz=0):gS sz (l.drop k)=gS sz (l.drop (k+1)):=by rw [qR h,gS,if_pos hx]
theorem whereR_no {sz:List ByteArray} {l:List Cn} {k:Nat} {x:Cn} (h:l[k]? =some x) (hx:¬fU x.Lin sz=0):gS sz (l.drop k)=fU x.Lin sz:=by rw [qR h,gS,if_neg hx]
theorem paramsR_next {p:Pg} {i:Int} {t:List ByteArray} {l:List Pm} {k:Nat} {x:Pm} (h:l[k]? =some x) (hx:gL x p.Sizes t=0):fG p i t (l.drop k)=fG p (i+1) (t++[x.Name]) (l.drop (k+1)):=by rw [qR h,fG,if_pos hx]
theorem paramsR_no {p:Pg} {i:Int} {t:List ByteArray} {l:List Pm} {k:Nat} {x:Pm} (h:l[k]? =some x) (hx:¬gL x p.Sizes t=0):fG p i t (l.drop k)=(i,gL x p.Sizes t):=by rw [qR h,fG,if_neg hx]
theorem defsR_next {p:Pg} {i:Int} {t:List ByteArray} {l:List Df} {k:Nat} {x:Df} (h:l[k]? =some x) (hx:gX ⟨p.Sizes,p.Params,l.take k⟩ x t=0):jB p i t (l.take k) (l.drop k)=jB p (i+1) (t++[x.Name]) (l.take (k+1)) (l.drop (k+1)):=by rw [qR h,jB,if_pos hx,qT h]
theorem defsR_no {p:Pg} {i:Int} {t:List ByteArray} {l:List Df} {k:Nat} {x:Df} (h:l[k]? =some x) (hx:¬gX ⟨p.Sizes,p.Params,l.take k⟩ x t=0):jB p i t (l.take k) (l.drop k)=(i,gX ⟨p.Sizes,p.Params,l.take k⟩ x t):=by rw [qR h,jB,if_neg hx]
theorem outsR_next {n:En} {i:Int} {l:List ByteArray} {k:Nat} {x:ByteArray} (h:l[k]? =some x) (h1:(n.find x).ok=true) (h2:bR (l.take k) x=false):jV n i (l.take k) (l.drop k)=jV n (i+1) (l.take (k+1)) (l.drop (k+1)):=by rw [qR h,jV,if_pos h1,if_neg (by rw [h2];simp),qT h]
theorem outsR_8 {n:En} {i:Int} {l:List ByteArray} {k:Nat} {x:ByteArray} (h:l[k]? =some x) (h1:(n.find x).ok=true) (h2:bR (l.take k) x=true):jV n i (l.take k) (l.drop k)=(i,8):=by rw [qR h,jV,if_pos h1,if_pos h2]
theorem outsR_9 {n:En} {i:Int} {l:List ByteArray} {k:Nat} {x:ByteArray} (h:l[k]? =some x) (h1:(n.find x).ok=false):jV n i (l.take k) (l.drop k)=(i,9):=by rw [qR h,jV,if_neg (by rw [h1];simp)]
theorem zSs {n:En} {d:Df} {t:List ByteArray} (h:¬dH d.Name t=0):gX n d t=dH d.Name t:=by unfold gX;rw [if_neg h]
theorem zKh {n:En} {d:Df} {t:List ByteArray} (h:dH d.Name t=0) (h2:dW d.T=false):gX n d t=10:=by unfold gX;rw [if_pos h,if_neg (by rw [h2];simp)]
theorem zKg {n:En} {d:Df} {t:List ByteArray} (h:dH d.Name t=0) (h2:dW d.T=true) (h3:6<d.Dims.length∨6<d.Red.length):gX n d t=11:=by unfold gX;rw [if_pos h,if_pos h2,if_pos h3]
theorem zSr {n:En} {d:Df} {t:List ByteArray} (h:dH d.Name t=0) (h2:dW d.T=true) (h3:¬(6<d.Dims.length∨6<d.Red.length)):gX n d t=(if gI n.sz n.sz (d.Dims++d.Red)=0 then (if lZ d=0 then mJ (lJ n (bQ d) d.Body) d else lZ d) else gI n.sz n.sz (d.Dims++d.Red)):=by unfold gX;rw [if_pos h,if_pos h2,if_neg h3]
def jM (p:Pg):Int:=if dG p then gU [] p.Sizes else 2
theorem zMm {p:Pg} (h:jM p=0):dG p/\gU [] p.Sizes=0:=by
 unfold jM at h
 by_cases c:dG p
 ·rw [if_pos c] at h;exact ⟨c,h⟩
 ·rw [if_neg c] at h;cases h
theorem validR_s {p:Pg} (h:¬jM p=0):jE p=(0,jM p):=by
 unfold jE jM at *
 by_cases c:dG p
 ·rw [if_pos c] at h;rw [if_pos c,if_pos c,if_neg h]
 ·rw [if_neg c,if_neg c]
theorem validR_w {p:Pg} (h:jM p=0) (h3:¬gS p.Sizes p.Where=0):jE p=(1,gS p.Sizes p.Where):=by
 obtain ⟨h1,h2⟩:=zMm h
 unfold jE;rw [if_pos h1,if_pos h2,if_neg h3]
theorem validR_p {p:Pg} (h:jM p=0) (h3:gS p.Sizes p.Where=0):jE p=fG p 2 p.Sizes p.Params:=by
 obtain ⟨h1,h2⟩:=zMm h
 unfold jE;rw [if_pos h1,if_pos h2,if_pos h3]
/-! ## The reference's types -/
theorem indexK_lin {n:En} {k:ByteArray->Bool} {x:Ix} (h:x.From=bs []):dD n k x=jI k x.Lin:=by rw [dD,decide_eq_true h];rfl
theorem indexK_9 {n:En} {k:ByteArray->Bool} {x:Ix} (h:¬x.From=bs []) (h2:(n.find x.From).ok=false):dD n k x=9:=by rw [dD,decide_eq_false h,h2];rfl
theorem indexK_10 {n:En} {k:ByteArray->Bool} {x:Ix} (h:¬x.From=bs []) (h2:(n.find x.From).ok=true) (h3:¬(n.find x.From).ty.Kind=3):dD n k x=10:=by rw [dD,decide_eq_false h,h2,decide_eq_false h3];rfl
theorem indexK_11 {n:En} {k:ByteArray->Bool} {x:Ix} (h:¬x.From=bs []) (h2:(n.find x.From).ok=true) (h3:(n.find x.From).ty.Kind=3) (h4:¬x.At.length=(n.find x.From).dims.length):dD n k x=11:=by rw [dD,decide_eq_false h,h2,decide_eq_true h3,decide_eq_false h4];rfl
theorem indexK_at {n:En} {k:ByteArray->Bool} {x:Ix} (h:¬x.From=bs []) (h2:(n.find x.From).ok=true) (h3:(n.find x.From).ty.Kind=3) (h4:x.At.length=(n.find x.From).dims.length):dD n k x=gW k x.At:=by rw [dD,decide_eq_false h,h2,decide_eq_true h3,decide_eq_true h4];rfl
theorem formsK_no' {k:ByteArray->Bool} {l:List Lf} {j:Nat} {x:Lf} (h:l[j]? =some x) (hx:knL k x.L=false):gW k l=9:=by rw [formsK_no h (by rw [zIs hx];decide),zIs hx]
theorem formsK_next' {k:ByteArray->Bool} {l:List Lf} {j:Nat} {x:Lf} (h:l[j]? =some x) (hp:(l.take j).all (fun x=>knL k x.L)=true) (hx:knL k x.L=true):(l.take (j+1)).all (fun x=>knL k x.L)=true:=zRv h hp (zPj hx)
theorem typeR_of {n:En} {vars:List ByteArray} {e:Ex} (h1:bP e=0) (h2:gE e=false):lJ n vars e=if (bE (fN n (knB n.sz vars)) e).2=0 then ((bE (fN n (knB n.sz vars)) e).1,0) else (zTy,(bE (fN n (knB n.sz vars)) e).2):=by
 unfold lJ lF;rw [if_pos h1,if_neg (by rw [h2];simp)]
theorem typeR_bad {n:En} {vars:List ByteArray} {e:Ex} (h1:¬bP e=0):lJ n vars e=(zTy,bP e):=by unfold lJ lF;rw [if_neg h1]
theorem typeR_cond {n:En} {vars:List ByteArray} {e:Ex} (h1:bP e=0) (h2:gE e=true):lJ n vars e=(zTy,10):=by unfold lJ lF;rw [if_pos h1,if_pos h2]
theorem refN_1 {n:En} {k:ByteArray->Bool} {e:Ex} {l:List Ty} (h:e.Op=1∨e.Op=12):fN n k e l=(e.Ty,0):=by unfold fN;rw [if_pos h]
theorem refN_2 {n:En} {k:ByteArray->Bool} {e:Ex} {l:List Ty} (h:e.Op=2):fN n k e l=(iTy,gW k [e.Lin]):=by unfold fN;rw [if_neg (by omega),if_pos h]
theorem refN_3 {n:En} {k:ByteArray->Bool} {e:Ex} {l:List Ty} (h:e.Op=3):fN n k e l=gF n k e:=by unfold fN;rw [if_neg (by omega),if_neg (by omega),if_pos h]
theorem refN_11 {n:En} {k:ByteArray->Bool} {e:Ex} {l:List Ty} (h:e.Op=11) (h2:fJ l 1=fJ l 2):fN n k e l=(fJ l 1,0):=by unfold fN;rw [if_neg (by omega),if_neg (by omega),if_neg (by omega),if_pos h,if_pos h2]
theorem refN_11' {n:En} {k:ByteArray->Bool} {e:Ex} {l:List Ty} (h:e.Op=11) (h2:¬fJ l 1=fJ l 2):fN n k e l=(zTy,10):=by unfold fN;rw [if_neg (by omega),if_neg (by omega),if_neg (by omega),if_pos h,if_neg h2]
theorem refN_8 {n:En} {k:ByteArray->Bool} {e:Ex} {l:List Ty} (h:e.Op=8):fN n k e l=(fJ l 0,0):=by unfold fN;rw [if_neg (by omega),if_neg (by omega),if_neg (by omega),if_neg (by omega),if_pos h]
theorem refN_16 {n:En} {k:ByteArray->Bool} {e:Ex} {l:List Ty} (h:16<=e.Op):fN n k e l=(zTy,0):=by unfold fN;rw [if_neg (by omega),if_neg (by omega),if_neg (by omega),if_neg (by omega),if_neg (by omega),if_pos h]
theorem refN_no {n:En} {k:ByteArray->Bool} {e:Ex} {l:List Ty} (h:¬(e.Op=1∨e.Op=12∨e.Op=2∨e.Op=3∨e.Op=8∨e.Op=11∨16<=e.Op)) (h2:¬fJ l 0=fJ l 1):fN n k e l=(zTy,10):=by unfold fN;rw [if_neg (by omega),if_neg (by omega),if_neg (by omega),if_neg (by omega),if_neg (by omega),if_neg (by omega),if_neg h2]
theorem refN_13 {n:En} {k:ByteArray->Bool} {e:Ex} {l:List Ty} (h:¬(e.Op=1∨e.Op=12∨e.Op=2∨e.Op=3∨e.Op=8∨e.Op=11∨16<=e.Op)) (h2:fJ l 0=fJ l 1) (h3:13<=e.Op):fN n k e l=(zTy,0):=by unfold fN;rw [if_neg (by omega),if_neg (by omega),if_neg (by omega),if_neg (by omega),if_neg (by omega),if_neg (by omega),if_pos h2,if_pos h3]
theorem refN_o {n:En} {k:ByteArray->Bool} {e:Ex} {l:List Ty} (h:¬(e.Op=1∨e.Op=12∨e.Op=2∨e.Op=3∨e.Op=8∨e.Op=11∨13<=e.Op)) (h2:fJ l 0=fJ l 1):fN n k e l=(fJ l 0,0):=by unfold fN;rw [if_neg (by omega),if_neg (by omega),if_neg (by omega),if_neg (by omega),if_neg (by omega),if_neg (by omega),if_pos h2,if_neg (by omega)]
theorem findD_at {s:ByteArray} {l:List Df} {k:Nat} {d:Df} (h:l[k]? =some d) (hd:d.Name=s):gP s (l.drop k)=⟨d.T,d.Dims.map Ax.Size,true⟩:=by rw [qR h,gP,decide_eq_true hd];rfl
theorem findD_next {s:ByteArray} {l:List Df} {k:Nat} {d:Df} (h:l[k]? =some d) (hd:¬d.Name=s):gP s (l.drop k)=gP s (l.drop (k+1)):=by rw [qR h,gP,decide_eq_false hd];rfl
theorem zLc {n:En} {k:ByteArray->Bool} {e:Ex} {i:Nat} {x:Ix} {j:Int} (h:(n.find e.Name).ok=true) (h2:e.Idx.length=(n.find e.Name).dims.length) (hp:dU n k e.Idx=dU n k (e.Idx.drop i)) (hx:e.Idx[i]? =some x) (hi:dD n k x=j) (hj:j≠0):gF n k e=(zTy,j):=by
 have h3:dU n k e.Idx=j:=by rw [hp,zRr hx (by rw [hi];exact hj),hi]
 rw [readK_x h h2 (by rw [h3];exact hj),h3]
theorem red1 (d:Df):((decide (d.Fold<0)||decide (5<d.Fold))=true->d.Fold<0∨5<d.Fold)/\((decide (d.Fold<0)||decide (5<d.Fold))=false->¬(d.Fold<0∨5<d.Fold)):=by
 simp only [Bool.or_eq_true,decide_eq_true_eq,Bool.or_eq_false_iff,decide_eq_false_iff_not]
 exact ⟨fun h=>h,fun h=>by rintro (k|k);exact h.1 k;exact h.2 k⟩
theorem red_eq (d:Df):((!decide ((decide (d.Fold=0)||decide (d.Fold=5))=decide ((d.Red.length:Int)=0)))||(decide (d.Fold=5)&&decide ((d.Dims.length:Int)=0)))=true↔((decide (d.Fold=0∨d.Fold=5) !=decide (d.Red.length=0))=true∨d.Fold=5/\d.Dims.length=0):=by
 have e1:decide ((d.Red.length:Int)=0)=decide (d.Red.length=0):=decide_eq_decide.2 (by omega)
 have e2:decide ((d.Dims.length:Int)=0)=decide (d.Dims.length=0):=decide_eq_decide.2 (by omega)
 rw [e1,e2,Bool.or_eq_true,Bool.and_eq_true,decide_eq_true_eq,decide_eq_true_eq,Bool.decide_or]
 cases (decide (d.Fold=0)||decide (d.Fold=5))<;>cases decide (d.Red.length=0)<;>simp
theorem red2 {d:Df} (h:((!decide ((decide (d.Fold=0)||decide (d.Fold=5))=decide ((d.Red.length:Int)=0)))||(decide (d.Fold=5)&&decide ((d.Dims.length:Int)=0)))=true):((decide (d.Fold=0∨d.Fold=5) !=decide (d.Red.length=0))=true∨d.Fold=5/\d.Dims.length=0):=(red_eq d).1 h
theorem red3 {d:Df} (h:((!decide ((decide (d.Fold=0)||decide (d.Fold=5))=decide ((d.Red.length:Int)=0)))||(decide (d.Fold=5)&&decide ((d.Dims.length:Int)=0)))=false):¬((decide (d.Fold=0∨d.Fold=5) !=decide (d.Red.length=0))=true∨d.Fold=5/\d.Dims.length=0):=fun k=>by
 rw [(red_eq d).2 k] at h;cases h
def vH (p:Pg):Bool:=(((decide ((64:Int)<p.Sizes.length)||decide ((64:Int)<p.Params.length))||decide ((64:Int)<p.Defs.length))||decide ((64:Int)<p.Outs.length))||decide ((256:Int)<p.Where.length)
theorem lim_iff (p:Pg):vH p=false↔dG p:=by
 unfold vH dG
 simp only [Bool.or_eq_false_iff,decide_eq_false_iff_not]
 constructor
 ·rintro ⟨⟨⟨⟨h1,h2⟩,h3⟩,h4⟩,h5⟩;exact ⟨by omega,by omega,by omega,by omega,by omega⟩
 ·rintro ⟨h1,h2,h3,h4,h5⟩;exact ⟨⟨⟨⟨by omega,by omega⟩,by omega⟩,by omega⟩,by omega⟩
theorem lim_no {p:Pg} (h:vH p=true):¬dG p:=fun k=>by rw [(lim_iff p).2 k] at h;cases h
theorem lim_yes {p:Pg} (h:vH p=false):dG p:=(lim_iff p).1 h
/-! ## Long -/
def pH (l:List Lf):Bool:=l.any fun x=>decide (20<x.L.length)
def rC (x:Pm):Bool:=decide (12<x.Dims.length)||pH x.Dims
def nP (most:Nat) (d:Df):Bool:=decide (12<d.Dims.length)||decide (12<d.Red.length)||decide (most<gJ d.Body most)||(d.Dims++d.Red).any fun a=>decide (20<a.Size.L.length)
def rM (p:Pg):Bool:=decide (12<p.Sizes.length)||decide (12<p.Where.length)||decide (12<p.Params.length)||decide (12<p.Defs.length)||decide (12<p.Outs.length)
def tC (c:Cn):Bool:=decide (20<c.Lin.L.length)
def nO (p:Pg) (most:Nat):Bool:=rM p||p.Where.any tC||p.Params.any rC||p.Defs.any (nP most)
theorem zTb {α:Type} {p:α->Bool} {l:List α} (h:l.any p=false):∀x,x∈l->p x=false:=by
 intro x hx;rw [List.any_eq_false] at h;simpa using h x hx
structure Pg.Short (p:Pg):Prop where
 sizes:p.Sizes.length<=12
 wh:p.Where.length<=12
 params:p.Params.length<=12
 defs:p.Defs.length<=12
 outs:p.Outs.length<=12
 whs:∀c,c∈p.Where->c.Lin.L.length<=20
 ps:∀x,x∈p.Params->x.Dims.length<=12/\∀l,l∈x.Dims->l.L.length<=20
 ds:∀d,d∈p.Defs->d.Dims.length<=12/\d.Red.length<=12/\(∀a,a∈d.Dims->a.Size.L.length<=20)/\(∀a,a∈d.Red->a.Size.L.length<=20)/\d.Body.wt<=300
theorem long_short {p:Pg} (h:nO p 300=false):p.Short:=by
 unfold nO rM at h
 simp only [Bool.or_eq_false_iff,decide_eq_false_iff_not] at h
 obtain ⟨⟨⟨⟨⟨⟨⟨h1,h2⟩,h3⟩,h4⟩,h5⟩,h6⟩,h7⟩,h8⟩:=h
 refine ⟨by omega,by omega,by omega,by omega,by omega,fun c hc=>?_,fun x hx=>?_,fun d hd=>?_⟩
 ·have:=zTb h6 c hc
  unfold tC at this
  simp only [decide_eq_false_iff_not] at this
  omega
 ·have:=zTb h7 x hx
  unfold rC pH at this
  simp only [Bool.or_eq_false_iff,decide_eq_false_iff_not] at this
  refine ⟨by omega,fun l hl=>?_⟩
  have:=zTb this.2 l hl
  simp only [decide_eq_false_iff_not] at this
  omega
 ·have:=zTb h8 d hd
  unfold nP at this
  simp only [Bool.or_eq_false_iff,decide_eq_false_iff_not] at this
  obtain ⟨⟨⟨g1,g2⟩,g3⟩,g4⟩:=this
  have hA:∀a,a∈d.Dims++d.Red->a.Size.L.length<=20:=fun a ha=>by
   have:=zTb g4 a ha
   simp only [decide_eq_false_iff_not] at this
   omega
  have hw:=weighE_wt d.Body 300 (by omega)
  exact ⟨by omega,by omega,fun a ha=>hA a (List.mem_append.2 (.inl ha)),fun a ha=>hA a (List.mem_append.2 (.inr ha)),by omega⟩
theorem Pg.Short.ok {p:Pg} (h:p.Short):p.Ok:=
 ⟨by have:=h.sizes;omega,by have:=h.wh;omega,by have:=h.params;omega,by have:=h.defs;omega,by have:=h.outs;omega,fun c hc=>by have:=h.whs c hc;omega,
  fun x hx=>by obtain ⟨h1,h2⟩:=h.ps x hx;exact ⟨by omega,fun l hl=>by have:=h2 l hl;omega⟩,
  fun d hd=>by obtain ⟨h1,h2,h3,h4,h5⟩:=h.ds d hd;exact ⟨by omega,by omega,fun a ha=>by have:=h3 a ha;omega,fun a ha=>by have:=h4 a ha;omega,by omega⟩⟩
def rW (p:Pg):Bool:=(((decide ((12:Int)<p.Sizes.length)||decide ((12:Int)<p.Where.length))||decide ((12:Int)<p.Params.length))||decide ((12:Int)<p.Defs.length))||decide ((12:Int)<p.Outs.length)
theorem natlt (a b:Nat):decide ((a:Int)<b)=decide (a<b):=decide_eq_decide.2 (by omega)
theorem long0_eq (p:Pg):rW p=rM p:=by
 unfold rW rM
 rw [show ((12:Int))=((12:Nat):Int) from rfl]
 simp only [natlt]
theorem long0_t {p:Pg} (h:rW p=true):rM p=true:=by rw [←long0_eq];exact h
theorem long0_f {p:Pg} (h:rW p=false):rM p=false:=by rw [←long0_eq];exact h
theorem longP_eq (x:Pm):(decide ((12:Int)<x.Dims.length)||pH x.Dims)=rC x:=by
 unfold rC;rw [show ((12:Int))=((12:Nat):Int) from rfl,natlt]
theorem longP_t {x:Pm} (h:(decide ((12:Int)<x.Dims.length)||pH x.Dims)=true):rC x=true:=by rw [←longP_eq];exact h
theorem longP_f {x:Pm} (h:(decide ((12:Int)<x.Dims.length)||pH x.Dims)=false):rC x=false:=by rw [←longP_eq];exact h
theorem longD_t {d:Df} {m:Nat} (h:((decide ((12:Int)<d.Dims.length)||decide ((12:Int)<d.Red.length))||decide ((m:Int)<gJ d.Body m))=true):nP m d=true:=by
 rw [show ((12:Int))=((12:Nat):Int) from rfl,natlt,natlt,natlt] at h
 unfold nP;rw [h];rfl
theorem longD_f {d:Df} {m:Nat} (h:((decide ((12:Int)<d.Dims.length)||decide ((12:Int)<d.Red.length))||decide ((m:Int)<gJ d.Body m))=false):d.Dims.length<=12/\d.Red.length<=12/\gJ d.Body m<=m:=by
 simp only [Bool.or_eq_false_iff,decide_eq_false_iff_not] at h
 exact ⟨by omega,by omega,by omega⟩
theorem longD_no {d:Df} {m:Nat} (h1:d.Dims.length<=12) (h2:d.Red.length<=12) (h3:gJ d.Body m<=m) (h4:(d.Dims++d.Red).any (fun a=>decide (20<a.Size.L.length))=false):nP m d=false:=by
 unfold nP;rw [h4,decide_eq_false (by omega),decide_eq_false (by omega),decide_eq_false (by omega)];rfl
theorem longD_ax {d:Df} {m:Nat} {a:Ax} (h:a∈d.Dims++d.Red) (h2:20<a.Size.L.length):nP m d=true:=by
 unfold nP;rw [List.any_eq_true.2 ⟨a,h,decide_eq_true h2⟩];simp
theorem ax_get {d:Df} {j:Nat} {a:Ax} (h:(d.Dims++d.Red)[j]? =some a):([]++d.Dims.map Ax.cells++d.Red.map Ax.cells)[j]? =some a.cells:=by
 rw [List.nil_append,←List.map_append,List.getElem?_map,h];rfl
end Go.Br
end
section
namespace Go.Br
open Go Go.Eng Go.L41
end Go.Br
end
section
namespace Go.Br
open Go Go.Eng Go.Proofs Go.L41
def cmpS (a b:ByteArray):Int:=Lib.compareBytes a.data.toList b.data.toList
section steps
variable {α:Type} {f:α->α->Int} {a b:List α} {k:Nat} {x y:α}
end steps
theorem strings_Compare (a b:ByteArray):Pur cfg 197 [vS a,vS b] (vI (cmpS a b)):=by
 intro w I vs hH ha
 match vs,ha with
 |[v,u],ha=>
  obtain ⟨h1,h2,_⟩:=ha
  have e1:v=.string a:=by cases (h1:CRep w I (cS a) v) with|lit _ _=>rfl
  have e2:u=.string b:=by cases (h2:CRep w I (cS b) u) with|lit _ _=>rfl
  subst e1 e2
  refine (Tryz.strings_Compare a b w).mono ?_
  rintro e w' ⟨rfl,rfl⟩
  exact ⟨_,_,[],I,rfl,rfl,CRep.lit _ rfl,hH,Ext.refl _ _ _⟩
end Go.Br
end
section
namespace Go.Br
open Go Go.Eng Go.L41
theorem cn_eq (a b:Cn):(decide (a.Eq=b.Eq)&&decide (a.Lin=b.Lin))=decide (a=b):=by
 cases a;cases b;simp only [Cn.mk.injEq,←Bool.decide_and];exact decide_eq_decide.2 ⟨fun h=>⟨h.2,h.1⟩,fun h=>⟨h.2,h.1⟩⟩
theorem df_eq (a b:Df):(((((decide (a.Name=b.Name)&&dA [cI a.T.Kind,cI a.T.Bits,cI a.T.Frac,cI a.T.Round,cI a.T.Over] [cI b.T.Kind,cI b.T.Bits,cI b.T.Frac,cI b.T.Round,cI b.T.Over])&&decide (a.Fold=b.Fold))&&decide (a.Dims=b.Dims))&&decide (a.Red=b.Red))&&decide (a.Body=b.Body))=decide (a=b):=by
 rw [tyC_eq]
 cases a;cases b;simp only [Df.mk.injEq,←Bool.decide_and];exact decide_eq_decide.2 ⟨fun h=>⟨h.1.1.1.1.1,h.1.1.1.1.2,h.1.1.2,h.1.2,h.1.1.1.2,h.2⟩,fun h=>⟨⟨⟨⟨⟨h.1,h.2.1⟩,h.2.2.2.2.1⟩,h.2.2.1⟩,h.2.2.2.1⟩,h.2.2.2.2.2⟩⟩
theorem ax_ne {x y:Ax} (h:(!decide (x.Name=y.Name)|| !decide (x.Size=y.Size))=true):¬x=y:=by
 rintro rfl;simp at h
theorem ax_yes' {x y:Ax} (h:(!decide (x.Name=y.Name)|| !decide (x.Size=y.Size))=false):x=y:=by
 simp only [Bool.or_eq_false_iff,Bool.not_eq_false',decide_eq_true_eq] at h
 cases x;cases y;simp only [Ax.mk.injEq];exact h
def prC (a b:Pg):Bool:=(((!decide (a.Sizes=b.Sizes)|| !decide (a.Where=b.Where))|| !decide (a.Outs=b.Outs))|| !decide ((a.Params.length:Int)=b.Params.length))|| !decide ((a.Defs.length:Int)=b.Defs.length)
theorem pr_t {a b:Pg} (h:prC a b=true):¬a=b:=by rintro rfl;simp [prC] at h
theorem pr_f {a b:Pg} (h:prC a b=false):a.Sizes=b.Sizes/\a.Where=b.Where/\a.Outs=b.Outs/\a.Params.length=b.Params.length/\a.Defs.length=b.Defs.length:=by
 unfold prC at h
 simp only [Bool.or_eq_false_iff,Bool.not_eq_false',decide_eq_true_eq] at h
 exact ⟨h.1.1.1.1,h.1.1.1.2,h.1.1.2,by omega,by omega⟩
theorem pm_t {x y:Pm} (h:((!decide (x.Name=y.Name)|| !dA [cI x.T.Kind,cI x.T.Bits,cI x.T.Frac,cI x.T.Round,cI x.T.Over] [cI y.T.Kind,cI y.T.Bits,cI y.T.Frac,cI y.T.Round,cI y.T.Over])|| !decide (x.Dims=y.Dims))=true):¬x=y:=by
 rw [tyC_eq] at h;rintro rfl;simp at h
theorem pm_f {x y:Pm} (h:((!decide (x.Name=y.Name)|| !dA [cI x.T.Kind,cI x.T.Bits,cI x.T.Frac,cI x.T.Round,cI x.T.Over] [cI y.T.Kind,cI y.T.Bits,cI y.T.Frac,cI y.T.Round,cI y.T.Over])|| !decide (x.Dims=y.Dims))=false):x=y:=by
 rw [tyC_eq] at h
 simp only [Bool.or_eq_false_iff,Bool.not_eq_false',decide_eq_true_eq] at h
 cases x;cases y;simp only [Pm.mk.injEq];exact ⟨h.1.1,h.1.2,h.2⟩
theorem pg_yes {a b:Pg} (h1:a.Sizes=b.Sizes) (h2:a.Where=b.Where) (h3:a.Outs=b.Outs) (h4:a.Params=b.Params) (h5:a.Defs=b.Defs):a=b:=by
 cases a;cases b;simp only [Pg.mk.injEq];exact ⟨h1,h2,h4,h5,h3⟩
theorem linsWt_le {l:List Lf} {n:Nat}:(∀x,x∈l->x.L.length<=n)->dS l<=l.length*n:=by
 induction l with
 |nil=>intro _;simp [dS]
 |cons x r ih=>
  intro h
  have h1:=h x (by simp)
  have h2:=ih fun y hy=>h y (by simp [hy])
  rw [dS,List.length_cons,Nat.add_mul,Nat.one_mul];omega
theorem Pg.Short.find {p:Pg} (h:p.Short) (s:ByteArray):(p.en.find s).dims.length<=12/\dS (p.en.find s).dims<=240:=by
 have key:∀l:List Lf,l.length<=12->(∀x,x∈l->x.L.length<=20)->l.length<=12/\dS l<=240:=fun l h1 h2=>⟨h1,by have:=linsWt_le h2;omega⟩
 have hd:∀l:List Df,(∀d,d∈l->d∈p.Defs)->(gP s l).dims.length<=12/\dS (gP s l).dims<=240:=by
  intro l
  induction l with
  |nil=>intro _;simp [gP,dS]
  |cons d r ih=>
   intro hl
   rw [gP]
   cases decide (d.Name=s) with
   |false=>exact ih fun x hx=>hl x (by simp [hx])
   |true=>
    obtain ⟨h1,_,h3,_⟩:=h.ds d (hl d (by simp))
    exact key (d.Dims.map Ax.Size) (by simpa using h1) fun x hx=>by
     obtain ⟨a,ha,rfl⟩:=List.mem_map.1 hx;exact h3 a ha
 have hp:∀l:List Pm,(∀d,d∈l->d∈p.Params)->(gO s p.Defs l).dims.length<=12/\dS (gO s p.Defs l).dims<=240:=by
  intro l
  induction l with
  |nil=>intro _;rw [gO];exact hd p.Defs fun d hd=>hd
  |cons d r ih=>
   intro hl
   rw [gO]
   cases decide (d.Name=s) with
   |false=>exact ih fun x hx=>hl x (by simp [hx])
   |true=>
    obtain ⟨h1,h3⟩:=h.ps d (hl d (by simp))
    exact key d.Dims h1 h3
 exact hp p.Params fun x hx=>hx
end Go.Br
end
