/-
  The program's data,in plain Lean: linear forms,indices,expressions; and the cells that hold them.
  What the program's functions compute,in plain Lean.
  Copies with all forms mapped; weights; in plain Lean.
  Layer 22 in plain Lean.
  Layer 17 in plain Lean: programs,the cells that hold them,and what Find,TypeOf and Validate say of them.
  Layer 17 in plain Lean: the program's Validate and the reference's are one.
  Layer 17 in plain Lean,more: lengths,lists,tables.
  Layer 17 in plain Lean: the memory of the checker and the typer,and laws for their walks.
  Layer 17 in plain Lean: the typer's walk.
  Layer 17 in plain Lean: steps of Validate,the program's and the reference's; what Long says.
  Layer 17 in plain Lean: the example that every statement checks.
  Comparisons in plain Lean: of numbers,strings,forms,indices,expressions; nothing is alike but what is equal.
  Conditions: none.
-/
import Derived.Test.YtdldhbfgfkebjaaGreatDoorEngY
import Derived.Test.YtdldhbfgfkebjaaGreatDoorNames
import Derived.Test.YtdldhbfgfkebjaaGreatDoorEngZ
import Derived.Test.YtdldhbfgfkebjaaGreatDoorCfg
import Derived.Lib.Bytealg
set_option linter.unusedSimpArgs false
set_option linter.unusedVariables false
section
namespace Go.Br
open Go Go.Eng Go.L41
structure Mono where
 Name:ByteArray
 By:Int
 deriving DecidableEq
structure Lf where
 K:Int
 L:List Mono
 deriving DecidableEq
structure Vl where
 N:Int
 D:Int
 deriving DecidableEq
structure Ty where
 Kind:Int
 Bits:Int
 Frac:Int
 Round:Int
 Over:Int
 deriving DecidableEq
structure Ix where
 Lin:Lf
 From:ByteArray
 At:List Lf
 deriving DecidableEq
inductive Ex where
 |mk (op:Int) (name:ByteArray) (val:Vl) (ty:Ty) (lin:Lf) (idx:List Ix) (args:List Ex)
namespace Ex
def Op:Ex->Int|mk o _ _ _ _ _ _=>o
def Name:Ex->ByteArray|mk _ x _ _ _ _ _=>x
def Val:Ex->Vl|mk _ _ x _ _ _ _=>x
def Ty:Ex->Br.Ty|mk _ _ _ x _ _ _=>x
def Lin:Ex->Lf|mk _ _ _ _ x _ _=>x
def Idx:Ex->List Ix|mk _ _ _ _ _ x _=>x
def Args:Ex->List Ex|mk _ _ _ _ _ _ x=>x
theorem eta (e:Ex):e=mk e.Op e.Name e.Val e.Ty e.Lin e.Idx e.Args:=by cases e;rfl
theorem ind {P:Ex->Prop} (h:∀e:Ex,(∀a,a∈e.Args->P a)->P e) (e:Ex):P e:=
 Ex.rec (motive_1:=P) (motive_2:=fun l=>∀a,a∈l->P a) (fun o n v t l i arg_ ih=>h (mk o n v t l i arg_) ih) (fun a h=>by cases h)
  (fun x l hx hl a ha=>by rcases List.mem_cons.1 ha with rfl|ha;exact hx;exact hl a ha) e
end Ex
mutual
def Ex.eqB:Ex->Ex->Bool
 |.mk o n v t l i arg_,.mk o' n' v' t' l' i' bs=>decide (o=o')&&decide (n=n')&&decide (v=v')&&decide (t=t')&&decide (l=l')&&decide (i=i')&&tH arg_ bs
def tH:List Ex->List Ex->Bool
 |[],[]=>true
 |a::arg_,b::bs=>Ex.eqB a b&&tH arg_ bs
 |_,_=>false
end
mutual
theorem Ex.eqB_iff:∀a b:Ex,Ex.eqB a b=true↔a=b
 |.mk o n v t l i arg_,.mk o' n' v' t' l' i' bs=>by
  simp only [Ex.eqB,Bool.and_eq_true,decide_eq_true_eq,eqBs_iff arg_ bs,Ex.mk.injEq]
  constructor
  ·rintro ⟨⟨⟨⟨⟨⟨h1,h2⟩,h3⟩,h4⟩,h5⟩,h6⟩,h7⟩;exact ⟨h1,h2,h3,h4,h5,h6,h7⟩
  ·rintro ⟨h1,h2,h3,h4,h5,h6,h7⟩;exact ⟨⟨⟨⟨⟨⟨h1,h2⟩,h3⟩,h4⟩,h5⟩,h6⟩,h7⟩
theorem eqBs_iff:∀a b:List Ex,tH a b=true↔a=b
 |[],[]=>by simp [tH]
 |a::arg_,b::bs=>by simp only [tH,Bool.and_eq_true,Ex.eqB_iff a b,eqBs_iff arg_ bs,List.cons.injEq]
 |[],_::_=>by simp [tH]
 |_::_,[]=>by simp [tH]
end
instance:DecidableEq Ex:=fun a b=>decidable_of_iff _ (Ex.eqB_iff a b)
theorem Ex.eq_iff (a b:Ex):a=b↔a.Op=b.Op/\a.Name=b.Name/\a.Val=b.Val/\a.Ty=b.Ty/\a.Lin=b.Lin/\a.Idx=b.Idx/\a.Args=b.Args:=by
 cases a;cases b;simp only [Ex.mk.injEq];rfl
def Mono.cells (x:Mono):List C:=[cS x.Name,cI x.By]
def Lf.cells (x:Lf):List C:=[cI x.K,.sl 2 (x.L.map Mono.cells)]
def Ix.cells (x:Ix):List C:=[cI x.Lin.K,.sl 2 (x.Lin.L.map Mono.cells),cS x.From,.sl 2 (x.At.map Lf.cells)]
def Vl.cells (v:Vl):List C:=[cI v.N,cI v.D]
mutual
def Ex.cells:Ex->List C
 |.mk o n v t l i arg_=>[cI o,cS n,cI v.N,cI v.D,cI t.Kind,cI t.Bits,cI t.Frac,cI t.Round,cI t.Over,cI l.K,.sl 2 (l.L.map Mono.cells),.sl 4 (i.map Ix.cells),.sl 13 (sH arg_)]
def sH:List Ex->List (List C)
 |[]=>[]
 |e::r=>e.cells::sH r
end
theorem cellsL_eq (l:List Ex):sH l=l.map Ex.cells:=by
 induction l with
 |nil=>rfl
 |cons e r ih=>rw [sH,ih];rfl
def Ex.cs (e:Ex):List C:=[cI e.Op,cS e.Name,cI e.Val.N,cI e.Val.D,cI e.Ty.Kind,cI e.Ty.Bits,cI e.Ty.Frac,cI e.Ty.Round,cI e.Ty.Over,cI e.Lin.K,.sl 2 (e.Lin.L.map Mono.cells),.sl 4 (e.Idx.map Ix.cells),.sl 13 (e.Args.map Ex.cells)]
theorem Ex.cells_eq (e:Ex):e.cells=e.cs:=by
 cases e;rw [Ex.cells,cellsL_eq];rfl
abbrev mZ (x:Mono):V:=.agg x.cells
abbrev rW (l:List Mono):V:=.c (.sl 2 (l.map Mono.cells))
abbrev jU (x:Lf):V:=.agg x.cells
abbrev nQ (l:List Lf):V:=.c (.sl 2 (l.map Lf.cells))
abbrev gK (x:Ix):V:=.agg x.cells
abbrev jQ (l:List Ix):V:=.c (.sl 4 (l.map Ix.cells))
abbrev vE (x:Ex):V:=.agg x.cs
abbrev vEs (l:List Ex):V:=.c (.sl 13 (l.map Ex.cells))
abbrev vTy (t:Ty):V:=.agg [cI t.Kind,cI t.Bits,cI t.Frac,cI t.Round,cI t.Over]
abbrev xD (v:Vl):V:=.agg [cI v.N,cI v.D]
abbrev pA (n:Int):V:=.c (.lit (.int .u64 n))
theorem wF {l:List Ex} {k:Nat} {x:Ex} (h:l[k]? =some x):(l.map Ex.cells)[k]? =some x.cs:=by
 rw [v h,Ex.cells_eq]
def mJ:List Lf->Nat
 |[]=>0
 |l::r=>l.L.length+mJ r
def Ix.wt (x:Ix):Nat:=x.Lin.L.length+x.At.length+mJ x.At
def fQ:List Ix->Nat
 |[]=>0
 |x::r=>x.wt+fQ r
mutual
def Ex.wt:Ex->Nat
 |.mk _ _ _ _ l i arg_=>1+l.L.length+i.length+fQ i+dK arg_
def dK:List Ex->Nat
 |[]=>0
 |e::r=>e.wt+dK r
end
theorem Ex.wt_eq (e:Ex):e.wt=1+e.Lin.L.length+e.Idx.length+fQ e.Idx+dK e.Args:=by cases e;rw [Ex.wt];rfl
theorem Ex.wt_pos (e:Ex):1<=e.wt:=by rw [Ex.wt_eq];omega
theorem kF {l:List Ex} {a:Ex} (h:a∈l):a.wt+(l.length-1)<=dK l:=by
 induction l with
 |nil=>cases h
 |cons x r ih=>
  rw [dK]
  rcases List.mem_cons.1 h with rfl|h
  ·have:r.length<=dK r:=by
    clear ih h
    induction r with
    |nil=>simp [dK]
    |cons y r ih=>rw [dK,List.length_cons];have:=y.wt_pos;omega
   simp;omega
  ·have:=ih h
   have:=x.wt_pos
   have:0<r.length:=List.length_pos_of_mem h
   simp;omega
theorem zGx (l:List Ex):l.length<=dK l:=by
 induction l with
 |nil=>simp [dK]
 |cons y r ih=>rw [dK,List.length_cons];have:=y.wt_pos;omega
theorem zAy {l:List Lf} {a:Lf} (h:a∈l):a.L.length<=mJ l:=by
 induction l with
 |nil=>cases h
 |cons x r ih=>
  rw [mJ]
  rcases List.mem_cons.1 h with rfl|h
  ·omega
  ·have:=ih h;omega
theorem zBa {l:List Ix} {a:Ix} (h:a∈l):a.wt<=fQ l:=by
 induction l with
 |nil=>cases h
 |cons x r ih=>
  rw [fQ]
  rcases List.mem_cons.1 h with rfl|h
  ·omega
  ·have:=ih h;omega
theorem Ex.parts {e:Ex} {B:Nat} (h:e.wt<=B):e.Lin.L.length<=B/\e.Idx.length<=B/\e.Args.length<=B:=by
 rw [Ex.wt_eq] at h
 have:=zGx e.Args
 omega
theorem Ex.arg_wt {e a:Ex} (h:a∈e.Args):a.wt<e.wt:=by
 rw [Ex.wt_eq e]
 have:=kF h
 omega
theorem Ex.idx_wt {e:Ex} {x:Ix} (h:x∈e.Idx):x.Lin.L.length<=e.wt/\x.At.length<=e.wt/\mJ x.At<=e.wt:=by
 rw [Ex.wt_eq e]
 have:=zBa h
 unfold Ix.wt at this
 omega
theorem yB {α:Type} {l:List α} {k:Nat} {x:α} (h:l[k]? =some x):l.drop k=x::l.drop (k+1):=by
 have hk:k<l.length:=(List.getElem?_eq_some_iff.1 h).1
 rw [List.drop_eq_getElem_cons hk]
 rw [List.getElem?_eq_getElem hk] at h
 simp at h
 rw [h]
theorem wG {α:Type} {l:List α} {k:Nat} (h:¬k<l.length):l.drop k=[]:=List.drop_of_length_le (by omega)
theorem zFe {α:Type} {a b:List α} {k:Nat} {x y:α} (hx:a[k]? =some x) (hy:b[k]? =some y) (h:a.take k=b.take k) (e:x=y):a.take (k+1)=b.take (k+1):=by
 rw [yD hx,yD hy,h,e]
theorem zKd {α:Type} {a b:List α} {k:Nat} (h:a.take k=b.take k) (h1:¬k<a.length) (h2:a.length=b.length):a=b:=by
 rw [qX h1,qX (by omega)] at h
 exact h
theorem zMt {α:Type} {a b:List α} {k:Nat} {x y:α} (hx:a[k]? =some x) (hy:b[k]? =some y) (h:¬x=y):¬a=b:=by
 rintro rfl
 rw [hx] at hy
 exact h (Option.some.inj hy)
theorem kL {p:Prop} [Decidable p] (h:¬p):decide p=false:=decide_eq_false h
theorem zAr {p:Prop} [Decidable p] (h:p):decide p=true:=decide_eq_true h
theorem qE {α:Type} {l:List α} {k:Nat} {x:α} (h:l[k]? =some x):x∈l:=List.mem_of_getElem? h
end Go.Br
end
section
namespace Go.Br
open Go Go.Eng Go.L41
/-! ## Linear forms -/
def ltO:Option ByteArray->ByteArray->Bool
 |none,_=>true
 |some q,n=>jE q n
def lR:Option ByteArray->List Mono->Bool
 |_,[]=>true
 |p,m::r=>bM m.Name&& !decide (m.By=0)&&ltO p m.Name&&lR (some m.Name) r
def fW (l:Lf):Bool:=lR none l.L
def nK (l:Lf):Int:=bif fW l then 0 else 1
def pv (l:List Mono) (k:Nat):Mono:=l.getD (k-1) ⟨bs [],0⟩
def mI (l:List Mono) (k:Nat):Option ByteArray:=if k=0 then none else some (pv l k).Name
def vG (l:List Mono) (k:Nat) (x:Mono):Bool:=(!bM x.Name||decide (x.By=0))||(decide ((0:Int)<k)&& !jE (pv l k).Name x.Name)
theorem pv_get {α:Type} {f:Mono->α} {l:List Mono} {k:Nat} (h0:0<k) (h:k<=l.length):(l.map f)[((k:Int)-1).toNat]? =some (f (pv l k)):=by
 have e:((k:Int)-1).toNat=k-1:=by omega
 have h1:k-1<l.length:=by omega
 rw [e,List.getElem?_map,List.getElem?_eq_getElem h1]
 simp [pv,List.getD,List.getElem?_eq_getElem h1]
theorem pv_next {l:List Mono} {k:Nat} {x:Mono} (h:l[k]? =some x):pv l (k+1)=x:=by simp [pv,List.getD,h]
theorem zJx {l:List Mono} {k:Nat} {x:Mono} (h:l[k]? =some x):lR (mI l k) (l.drop k)=(!vG l k x&&lR (mI l (k+1)) (l.drop (k+1))):=by
 rw [yB h,lR]
 have e:mI l (k+1)=some x.Name:=by simp [mI,pv_next h]
 rw [e]
 congr 1
 unfold vG mI ltO
 by_cases hk:k=0
 ·subst hk;simp
 ·have hk':(0:Int)<k:=by omega
  rw [if_neg hk,decide_eq_true hk']
  cases bM x.Name<;>cases decide (x.By=0)<;>simp
theorem monos_end {l:List Mono} {k:Nat} (h:¬k<l.length):lR (mI l k) (l.drop k)=true:=by
 rw [wG h];cases mI l k<;>rfl
def gE {α:Type} (p:α->Bool):List α->Int
 |[]=> -1
 |x::r=>bif p x then 0 else (bif decide (gE p r= -1) then-1 else gE p r+1)
theorem idxOf_ge {α:Type} (p:α->Bool) (l:List α): -1<=gE p l:=by
 induction l with
 |nil=>simp [gE]
 |cons x r ih=>unfold gE;cases p x<;>simp;by_cases h:gE p r= -1<;>simp [h];omega
theorem zDi {α:Type} (p:α->Bool) (l:List α):decide (0<=gE p l)=l.any p:=by
 induction l with
 |nil=>rfl
 |cons x r ih=>
  have:=idxOf_ge p r
  unfold gE
  cases hp:p x
  ·simp only [cond_false,List.any_cons,hp,Bool.false_or,←ih]
   by_cases h:gE p r= -1
   ·simp [h]
   ·simp [h];omega
  ·simp [hp]
theorem zDx {α:Type} {p:α->Bool} {l:List α} {k:Nat} {x:α} (h:l[k]? =some x) (hp:p x=true) (hn:(l.take k).any p=false):gE p l=k:=by
 induction l generalizing k with
 |nil=>simp at h
 |cons y r ih=>
  cases k with
  |zero=>simp at h;subst h;simp [gE,hp]
  |succ k=>
   simp only [List.take_succ_cons,List.any_cons,Bool.or_eq_false_iff] at hn
   have:=ih (k:=k) (by simpa using h) hn.2
   simp only [gE,hn.1,cond_false,this]
   have h2:¬((k:Int)= -1):=by omega
   simp [h2]
theorem zCb {α:Type} {p:α->Bool} {l:List α} (hn:l.any p=false):gE p l= -1:=by
 induction l with
 |nil=>rfl
 |cons y r ih=>
  simp only [List.any_cons,Bool.or_eq_false_iff] at hn
  simp [gE,hn.1,ih hn.2]
theorem zDo {α:Type} {p:α->Bool} {l:List α} {k:Nat} {x:α} (h:l[k]? =some x) (hn:(l.take k).any p=false) (hp:p x=false):(l.take (k+1)).any p=false:=by
 rw [yD h,List.any_append,hn];simp [hp]
/-! ## Types and values -/
def gV (t:Ty):Bool:=
 ((decide (t.Kind=1)||decide (t.Kind=3))&&decide (t.Bits=0)&&decide (t.Frac=0)&&decide (t.Round=0)&&decide (t.Over=0))||
 (decide (t.Kind=2)&&decide (2<=t.Bits)&&decide (t.Bits<=31)&&decide (0<=t.Frac)&&decide (t.Frac<=30)&&decide (1<=t.Round)&&decide (t.Round<=4)&&(decide (t.Over=1)||decide (t.Over=2)))
def dD (t:Ty):Int:=bif gV t then 0 else 10
def fZ (t:Ty):Bool:=decide (t.Kind=2)&&decide (2<=t.Bits)&&decide (t.Bits<=31)&&decide (0<=t.Frac)&&decide (t.Frac<=30)&&decide (1<=t.Round)&&decide (t.Round<=4)&&(decide (t.Over=1)||decide (t.Over=2))
def mB (b:Int):Int:=2^(b-1).toNat
def nA (n:Int):Bool:=decide (-2147483647<=n)&&decide (n<=2147483647)
def jP (t:Ty) (v:Vl):Bool:=
 bif decide (t.Kind=2) then decide (v.D=1)&&decide (-mB t.Bits<=v.N)&&decide (v.N<mB t.Bits)
 else bif decide (t.Kind=3) then decide (v.D=1)&&nA v.N
 else decide (1<=v.D)&&decide (v.D<=2147483647)&&nA v.N&&decide (Int.gcd v.N v.D=1)
theorem zCf {t:Ty} (h:t.Kind=2):gV t=fZ t:=by simp [gV,fZ,h]
theorem half_le {b:Int} (h1:2<=b) (h2:b<=31):1<=mB b/\mB b<=1073741824:=by
 unfold mB
 have h3:(b-1).toNat<=30:=by omega
 have h4:(2:Int)^(b-1).toNat<=2^30:=by
  have:=Nat.pow_le_pow_right (n:=2) (by omega) h3
  exact_mod_cast this
 have h5:(1:Int)<=2^(b-1).toNat:=by
  have:=Nat.one_le_two_pow (n:=(b-1).toNat)
  exact_mod_cast this
 omega
/-! ## Conditions as the walks meet them -/
theorem lin_mk {a b:Lf} (h:a.K=b.K) (k:a.L=b.L):a=b:=by cases a;cases b;simp_all
theorem mono_ne {x y:Mono} (h:(!bF x.cells y.cells)=true):¬x=y:=by
 rintro rfl
 simp [bF,cEq,Mono.cells] at h
theorem mono_eq {x y:Mono} (h:(!bF x.cells y.cells)=false):x=y:=by
 cases x;cases y
 simpa [bF,cEq,Mono.cells] using h
def sI (s:ByteArray) (k:Nat):Int:=(s.data.toList.getD k 0).toNat
def sD (s:ByteArray):Bool:=(((decide ((s.size:Int)<1)||decide ((16:Int)<s.size))||bR fD s)||decide (sI s 0<97))||decide (122<sI s 0)
theorem ident_no {s:ByteArray} (h:sD s=true):bM s=false:=by
 unfold sD sI at h
 cases hn:bM s with
 |false=>rfl
 |true=>
  exfalso
  simp only [bM,Bool.and_eq_true,decide_eq_true_eq,Bool.not_eq_true'] at hn
  obtain ⟨⟨⟨⟨h1,h2⟩,h3⟩,h4⟩,h5⟩:=hn
  have h6:s.data.toList.head? =some (s.data.toList.getD 0 0):=by rw [List.head?_eq_getElem?];exact zDy (by omega)
  rw [h6] at h3
  simp only [Option.all_some,mK,lS,Bool.and_eq_true,decide_eq_true_eq] at h3
  simp only [Bool.or_eq_true,decide_eq_true_eq,h5] at h
  rcases h with (((h|h)|h)|h)|h
  ·omega
  ·omega
  ·cases h
  ·omega
  ·omega
theorem ident_yes {s:ByteArray} (h:sD s=false):1<=s.size/\s.size<=16/\bM s=s.data.toList.all fU:=by
 unfold sD sI at h
 simp only [Bool.or_eq_false_iff,decide_eq_false_iff_not] at h
 obtain ⟨⟨⟨⟨h1,h2⟩,h3⟩,h4⟩,h5⟩:=h
 have h7:1<=s.size:=by omega
 refine ⟨h7,by omega,?_⟩
 have h6:s.data.toList.head? =some (s.data.toList.getD 0 0):=by rw [List.head?_eq_getElem?];exact zDy (by omega)
 unfold bM
 rw [h6,h3]
 have e1:decide (1<=s.size)=true:=by simp;omega
 have e2:decide (s.size<=16)=true:=by simp;omega
 have e3:mK (s.data.toList.getD 0 0)=true:=by simp only [mK,lS,Bool.and_eq_true,decide_eq_true_eq];omega
 simp only [e1,e2,Option.all_some,e3,Bool.true_and,Bool.not_false,Bool.and_true]
def pR (n:Int):Bool:=((decide (n<97)||decide (122<n))&&(decide (n<48)||decide (57<n)))&& !decide (n=95)
theorem notWord_eq (c:UInt8):pR c.toNat= !fU c:=by
 unfold pR fU nY lS sF
 rw [Bool.eq_iff_iff]
 simp only [Bool.and_eq_true,Bool.or_eq_true,Bool.not_eq_true',Bool.or_eq_false_iff,Bool.and_eq_false_iff,decide_eq_true_eq,decide_eq_false_iff_not]
 omega
theorem word_no {s:ByteArray} {k:Nat} (hlt:k<s.size) (h:pR ((s.data.toList.getD k 0).toNat:Int)=true):s.data.toList.all fU=false:=by
 rw [notWord_eq] at h
 rw [List.all_eq_false]
 exact ⟨_,List.mem_of_getElem? (zDy hlt),by simpa using h⟩
theorem word_yes {s:ByteArray} {k:Nat} (hlt:k<s.size) (hp:(s.data.toList.take k).all fU=true) (h:pR ((s.data.toList.getD k 0).toNat:Int)=false):(s.data.toList.take (k+1)).all fU=true:=by
 rw [notWord_eq] at h
 rw [zNy (zDy hlt),hp]
 simpa using h
theorem word_all {s:ByteArray} {k:Nat} (hp:(s.data.toList.take k).all fU=true) (h:¬k<s.size):s.data.toList.all fU=true:=by
 rw [List.take_of_length_le (by simp;omega)] at hp
 exact hp
def rZ (t:Ty):Bool:=decide (t.Bits=0)&&decide (t.Frac=0)&&decide (t.Round=0)&&decide (t.Over=0)
theorem plainT_eq (t:Ty):bF [cI t.Kind,cI t.Bits,cI t.Frac,cI t.Round,cI t.Over] [cI t.Kind,.lit (.int .i64 0),.lit (.int .i64 0),.lit (.int .i64 0),.lit (.int .i64 0)]=rZ t:=by
 simp [bF,cEq,rZ,Bool.and_assoc]
def pS (t:Ty):Bool:=((((!decide (t.Kind=2)||decide (t.Bits<2))||decide (31<t.Bits))||decide (t.Frac<0))||decide (30<t.Frac))|| !((decide (1<=t.Round)&&decide (t.Round<=4))&&(decide (t.Over=1)||decide (t.Over=2)))
theorem fixCond_eq (t:Ty):pS t= !fZ t:=by
 unfold pS fZ
 rw [Bool.eq_iff_iff]
 simp only [Bool.and_eq_true,Bool.or_eq_true,Bool.not_eq_true',Bool.or_eq_false_iff,Bool.and_eq_false_iff,decide_eq_true_eq,decide_eq_false_iff_not]
 omega
theorem fix_no {t:Ty} (h:pS t=true):fZ t=false:=by rw [fixCond_eq] at h;simpa using h
theorem fix_yes {t:Ty} (h:pS t=false):fZ t=true:=by rw [fixCond_eq] at h;simpa using h
theorem type1 {t:Ty} (h:(decide (t.Kind=1)||decide (t.Kind=3))=true):(((decide (t.Bits=0)&&decide (t.Frac=0))&&decide (t.Round=0))&&decide (t.Over=0))=gV t:=by
 unfold gV
 rw [h]
 have:decide (t.Kind=2)=false:=by
  simp only [Bool.or_eq_true,decide_eq_true_eq] at h
  simp;omega
 simp [this]
theorem type2 {t:Ty} (h:(decide (t.Kind=1)||decide (t.Kind=3))=false):(((((((decide (t.Kind=2)&&decide (2<=t.Bits))&&decide (t.Bits<=31))&&decide (0<=t.Frac))&&decide (t.Frac<=30))&&decide (1<=t.Round))&&decide (t.Round<=4))&&(decide (t.Over=1)||decide (t.Over=2)))=gV t:=by
 unfold gV
 rw [h]
 simp
theorem tyk1 {t:Ty} (h:t.Kind=1∨t.Kind=3):gV t=rZ t:=by
 rw [←type1 (t:=t) (by simpa using h)];rfl
theorem tyk0 {t:Ty} (h1:¬t.Kind=1) (h3:¬t.Kind=3) (h2:¬t.Kind=2):gV t=false:=by
 simp [gV,h1,h2,h3]
theorem tyErr_ne {t:Ty} (h:¬dD t=0):gV t=false:=by
 unfold dD at h;cases ht:gV t<;>simp_all
theorem zJr {t:Ty} (h:dD t=0):gV t=true:=by
 unfold dD at h;cases ht:gV t<;>simp_all
theorem zDc {n:Int} (h:0<=n/\n<=18446744073709551615):IntKind.u64.wrap n=n:=IntWalk.u64_in _ h
theorem zSz {b:Int} (h1:2<=b) (h2:b<=31):IntKind.i64.wrap (1*2^(min (IntKind.u64.wrap (b-1)).toNat IntKind.i64.bits))=mB b:=by
 rw [zDc (by omega)]
 have h3:=half_le h1 h2
 have h4:min (b-1).toNat IntKind.i64.bits=(b-1).toNat:=Nat.min_eq_left (by simp [IntKind.bits];omega)
 rw [h4,Int.one_mul]
 exact zDp ⟨by unfold mB at h3;omega,by unfold mB at h3;omega⟩
theorem min_eq {b:Int} (h1:2<=b) (h2:b<=31):IntKind.i64.wrap (-(IntKind.i64.wrap (1*2^(min (IntKind.u64.wrap (b-1)).toNat IntKind.i64.bits))))= -mB b:=by
 rw [zSz h1 h2]
 have:=half_le h1 h2
 exact zDp ⟨by omega,by omega⟩
theorem max_eq {b:Int} (h1:2<=b) (h2:b<=31):IntKind.i64.wrap (IntKind.i64.wrap (1*2^(min (IntKind.u64.wrap (b-1)).toNat IntKind.i64.bits))-1)=mB b-1:=by
 rw [zSz h1 h2]
 have:=half_le h1 h2
 exact zDp ⟨by omega,by omega⟩
theorem fixB {t:Ty} (h:fZ t=true):2<=t.Bits/\t.Bits<=31:=by
 simp only [fZ,Bool.and_eq_true,decide_eq_true_eq] at h
 omega
theorem fxz {t:Ty} (h:(bif fZ t then (0:Int) else 10)=0):fZ t=true:=by cases ht:fZ t<;>simp_all
theorem fxn {t:Ty} (h:¬(bif fZ t then (0:Int) else 10)=0):fZ t=false:=by cases ht:fZ t<;>simp_all
theorem fxa {t:Ty} {p:Bool} (h:Lz (decide ((bif fZ t then (0:Int) else 10)=0)&&p) true=true):fZ t=true:=by
 simp only [Lz,cond_true,Bool.and_eq_true,decide_eq_true_eq] at h
 exact fxz h.1
theorem fxb {t:Ty} {p q:Bool} (h:Lz (decide ((bif fZ t then (0:Int) else 10)=0)&&p&&q) true=true):fZ t=true:=by
 simp only [Lz,cond_true,Bool.and_eq_true,decide_eq_true_eq] at h
 exact fxz h.1.1
theorem fixV (t:Ty) (v:Vl):(decide ((bif fZ t then (0:Int) else 10)=0)&&decide (v.D=1)&&decide (-mB t.Bits<=v.N)&&decide (v.N<=mB t.Bits-1))=(fZ t&&(decide (v.D=1)&&decide (-mB t.Bits<=v.N)&&decide (v.N<mB t.Bits))):=by
 have:decide (v.N<=mB t.Bits-1)=decide (v.N<mB t.Bits):=decide_eq_decide.2 (by omega)
 rw [this]
 cases fZ t<;>simp
theorem mag_neg {n:Int} (h:n<0) (hn: -9223372036854775808<=n):IntKind.u64.wrap (-(IntKind.u64.wrap n))=n.natAbs:=by
 have e:IntKind.u64.wrap n=n+18446744073709551616:=by simp [IntKind.wrap,IntKind.bits,IntKind.signed];omega
 rw [e]
 simp [IntKind.wrap,IntKind.bits,IntKind.signed];omega
theorem mag_pos {n:Int} (h:¬n<0) (hn:n<=9223372036854775807):IntKind.u64.wrap n=n.natAbs:=by
 rw [zDc (by omega)];omega
theorem gcd_step {x y:Nat} (h:¬y=0):Nat.gcd x y=Nat.gcd y (x%y):=by
 rw [Nat.gcd_comm x y,Nat.gcd_rec y x,Nat.gcd_comm]
theorem frV {v:Vl} (h:Lz (decide (1<=v.D)&&decide (v.D<=2147483647)&&nA v.N) true=true):1<=v.D/\v.D<=2147483647/\ -9223372036854775808<=v.N/\v.N<=9223372036854775807:=by
 simp only [Lz,cond_true,Bool.and_eq_true,decide_eq_true_eq,nA] at h
 omega
theorem u64_D {d:Int} (h1:1<=d) (h2:d<=2147483647):IntKind.u64.wrap d=d.natAbs:=by
 rw [zDc (by omega)];omega
theorem max_abs {n:Int} (h1: -2147483647<=n) (h2:n<=2147483647):max n (IntKind.i64.wrap (-n))=n.natAbs:=by
 rw [zDp ⟨by omega,by omega⟩];omega
def rU (v:Vl):Bool:=((decide (2147483647<v.N)||decide (v.N< -2147483647))||decide (v.D<1))||decide (2147483647<v.D)
theorem val_in {v:Vl} (h:rU v=false): -2147483647<=v.N/\v.N<=2147483647/\1<=v.D/\v.D<=2147483647:=by
 simp only [rU,Bool.or_eq_false_iff,decide_eq_false_iff_not] at h
 omega
theorem val_out {t:Ty} {v:Vl} (hk:¬t.Kind=2) (h:rU v=true):jP t v=false:=by
 unfold jP nA
 rw [kL hk]
 simp only [rU,Bool.or_eq_true,decide_eq_true_eq] at h
 by_cases h3:t.Kind=3
 ·simp [h3];omega
 ·simp [h3];omega
theorem valfix {t:Ty} {v:Vl} (hk:t.Kind=2) (b1:2<=t.Bits) (b2:t.Bits<=31):(decide (v.D=1)&&decide (IntKind.i64.wrap (-(IntKind.i64.wrap (1*2^(min (t.Bits-1).toNat IntKind.i64.bits))))<=v.N)&&decide (v.N<IntKind.i64.wrap (1*2^(min (t.Bits-1).toNat IntKind.i64.bits))))=jP t v:=by
 have e:=zSz b1 b2
 have e':=min_eq b1 b2
 rw [zDc (by omega)] at e e'
 rw [e',e,jP,hk]
 rfl
/-! ## Expressions -/
def bI (op:Int):Int:=if op=1∨op=2∨op=3 then 0 else if op=8∨op=12∨op=18 then 1 else if op=11 then 3 else 2
def bC (e:Ex):Bool:=decide (13<=e.Op)&&decide (e.Op<=18)
def fG (op i:Int):Bool:=(((decide (op=11)&&decide (i=0))||decide (op=16))||decide (op=17))||decide (op=18)
def nP (l:Lf):Bool:=decide (l.K=0)&&decide ((l.L.length:Int)=0)
def jT (x:Ix):Bool:=bif decide (x.From=bs []) then decide ((x.At.length:Int)=0) else nP x.Lin
def sW (v:Vl):Bool:=bF [cI v.N,cI v.D] [cI 0,cI 0]
def ty0 (t:Ty):Bool:=bF [cI t.Kind,cI t.Bits,cI t.Frac,cI t.Round,cI t.Over] [cI 0,cI 0,cI 0,cI 0,cI 0]
def gZ (e:Ex):Bool:=
 !(decide (e.Op<1)||decide (18<e.Op))&& !(!decide (e.Op=1)&& !sW e.Val)&& !(!(decide (e.Op=1)||decide (e.Op=12))&& !ty0 e.Ty)&& !(!decide (e.Op=2)&& !nP e.Lin)&&
 !(!decide (e.Op=3)&&(!decide (e.Name=bs [])||decide ((0:Int)<e.Idx.length)))&&e.Idx.all jT
def sB (x:Ix):Bool:= !(!decide (x.From=bs [])&& !bM x.From)
def lW (e:Ex):Bool:= !(decide (e.Op=3)&& !bM e.Name)&&e.Idx.all sB
def rY (x:Ix):Bool:= !decide ((6:Int)<x.At.length)
def mN (e:Ex):Bool:= !(!decide ((e.Args.length:Int)=bI e.Op)||decide ((6:Int)<e.Idx.length))&&e.Idx.all rY
def fC (op i:Int):List Ex->Bool
 |[]=>true
 |a::r=>(bC a==fG op i)&&fC op (i+1) r
def gU (e:Ex):Bool:= !((decide (e.Op=1)||decide (e.Op=12))&& !gV e.Ty)&&fC e.Op 0 e.Args
def gW (e:Ex):List Lf:=e.Lin::e.Idx.flatMap fun x=>x.Lin::x.At
def jM (e:Ex):Bool:= !(decide (e.Op=1)&& !jP e.Ty e.Val)&&(gW e).all fW
def bS (e:Ex):Int:=bif !gZ e then 5 else bif !lW e then 7 else bif !mN e then 11 else bif !gU e then 10 else bif !jM e then 1 else 0
mutual
def bH:Ex->List Ex
 |.mk o n v t l i arg_=>.mk o n v t l i arg_::bJ arg_
def bJ:List Ex->List Ex
 |[]=>[]
 |e::r=>bH e++bJ r
end
theorem zAl (e:Ex):bH e=e::bJ e.Args:=by cases e;rw [bH];rfl
theorem zMq (a b:List Ex):bJ (a++b)=bJ a++bJ b:=by
 induction a with
 |nil=>rfl
 |cons x r ih=>rw [List.cons_append,bJ,bJ,ih,List.append_assoc]
def gH:List Ex->Int
 |[]=>0
 |e::r=>bif decide (bS e=0) then gH r else bS e
theorem zFq (a b:List Ex):gH (a++b)=bif decide (gH a=0) then gH b else gH a:=by
 induction a with
 |nil=>rfl
 |cons x r ih=>
  rw [List.cons_append,gH,gH,ih]
  by_cases h:bS x=0
  ·simp [h]
  ·simp [h]
def fM (e:Ex):Int:=gH (bH e)
def pZ (l:List Ex):Int:=gH (bJ l)
theorem zFn (e:Ex):fM e=bif decide (bS e=0) then pZ e.Args else bS e:=by rw [fM,zAl,gH];rfl
theorem zOn (e:Ex) (r:List Ex):pZ (e::r)=bif decide (fM e=0) then pZ r else fM e:=by rw [pZ,bJ,zFq];rfl
def rL (f:Ex->Int) (d:Int):List Ex->Int
 |[]=>d
 |a::r=>rL f (max d (1+f a)) r
def jO:Nat->Ex->Int
 |0,_=>1
 |n+1,e=>rL (jO n) 1 e.Args
theorem depF_le {f:Ex->Int} {n:Int} (h:∀a,1<=f a/\f a<=n):∀(l:List Ex) (d:Int),1<=d->d<=n+1->1<=rL f d l/\rL f d l<=n+1
 |[],d,h1,h2=>⟨h1,h2⟩
 |a::r,d,h1,h2=>by
  have:=h a
  exact depF_le h r _ (by omega) (by omega)
theorem depT_le:∀(n:Nat) (e:Ex),1<=jO n e/\jO n e<=n+1
 |0,e=>by simp [jO]
 |n+1,e=>by
  have:=depF_le (n:=n+1) (depT_le n) e.Args 1 (by omega) (by omega)
  rw [jO];omega
mutual
def rH:Ex->Nat->Nat
 |.mk _ _ _ _ _ _ arg_,most=>pX arg_ most 1
def pX:List Ex->Nat->Nat->Nat
 |[],_,n=>n
 |a::r,most,n=>if n<=most then pX r most (n+rH a (most-n)) else n
end
theorem sizE_eq (e:Ex) (m:Nat):rH e m=pX e.Args m 1:=by cases e;rw [rH];rfl
mutual
theorem sizE_min:∀(e:Ex) (m:Nat),rH e m=min (bH e).length (m+1)
 |.mk o n v t l i arg_,m=>by
  rw [rH,bH,sizL_min arg_ m 1 (by omega)]
  simp;omega
theorem sizL_min:∀(l:List Ex) (m n:Nat),n<=m+1->pX l m n=min (n+(bJ l).length) (m+1)
 |[],m,n,h=>by simp [pX,bJ];omega
 |a::r,m,n,h=>by
  rw [pX,bJ,List.length_append]
  split
  ·rename_i hn
   rw [sizE_min a (m-n),sizL_min r m _ (by omega)]
   omega
  ·omega
end
def szT (e:Ex):Nat:=min (bH e).length 2001
def fT (e:Ex):Int:=bif decide (40<jO 40 e) then 13 else bif decide ((2000:Int)<szT e) then 2 else fM e
theorem nodes_wt:∀e:Ex,(bH e).length<=e.wt:=by
 intro e
 induction e using Ex.ind with
 |_ e ih=>
  rw [zAl,Ex.wt_eq]
  have:∀l:List Ex,(∀a,a∈l->(bH a).length<=a.wt)->(bJ l).length<=dK l:=by
   intro l hl
   induction l with
   |nil=>simp [bJ]
   |cons a r ihr=>
    rw [bJ,dK,List.length_append]
    have h1:=hl a (by simp)
    have h2:=ihr fun b hb=>hl b (by simp [hb])
    omega
  have:=this e.Args ih
  simp;omega
theorem zEv:∀(e x:Ex),x∈bH e->x.wt<=e.wt:=by
 intro e
 induction e using Ex.ind with
 |_ e ih=>
  intro x hx
  rw [zAl] at hx
  rcases List.mem_cons.1 hx with rfl|hx
  ·omega
  ·have:∀l:List Ex,(∀a,a∈l->a∈e.Args)->x∈bJ l->x.wt<=e.wt:=by
    intro l hl hx
    induction l with
    |nil=>simp [bJ] at hx
    |cons a r ihr=>
     rw [bJ] at hx
     rcases List.mem_append.1 hx with h|h
     ·have h1:=ih a (hl a (by simp)) x h
      have h2:=Ex.arg_wt (hl a (by simp))
      omega
     ·exact ihr (fun b hb=>hl b (by simp [hb])) h
   exact this e.Args (fun a h=>h) hx
theorem zCl {α:Type} (l:List α) (p:α->Bool):(!l.any fun x=> !p x)=l.all p:=by
 induction l with
 |nil=>rfl
 |cons x r ih=>simp only [List.any_cons,List.all_cons,←ih];cases p x<;>simp
theorem zRl {α:Type} {p:α->Bool} {l:List α} {k:Nat} {x:α} (h:l[k]? =some x) (hp:l.all p=(l.drop k).all p) (hx:p x=true):l.all p=(l.drop (k+1)).all p:=by
 rw [hp,yB h,List.all_cons,hx];rfl
theorem zQa {α:Type} {p:α->Bool} {l:List α} {k:Nat} {x:α} (h:l[k]? =some x) (hx:p x=false):l.all p=false:=by
 rw [List.all_eq_false];exact ⟨x,qE h,by simp [hx]⟩
theorem all_end {α:Type} {p:α->Bool} {l:List α} {k:Nat} (hp:l.all p=(l.drop k).all p) (h:¬k<l.length):l.all p=true:=by
 rw [hp,wG h];rfl
theorem tyErr_dec (t:Ty):decide (dD t=0)=gV t:=by unfold dD;cases gV t<;>rfl
theorem linErr_ne {l:Lf} (h:¬nK l=0):fW l=false:=by unfold nK at h;cases hl:fW l<;>simp_all
theorem linErr_eq {l:Lf} (h:nK l=0):fW l=true:=by unfold nK at h;cases hl:fW l<;>simp_all
theorem plain2 {e:Ex} {b:Bool} (h:((!decide (e.Op=1)&& !bF [cI e.Val.N,cI e.Val.D] [cI 0,cI 0])||((!decide (e.Op=1)&& !decide (e.Op=12))&& !bF [cI e.Ty.Kind,cI e.Ty.Bits,cI e.Ty.Frac,cI e.Ty.Round,cI e.Ty.Over] [cI 0,cI 0,cI 0,cI 0,cI 0]))=b):
  ((!decide (e.Op=1)&& !sW e.Val)||(!(decide (e.Op=1)||decide (e.Op=12))&& !ty0 e.Ty))=b:=by
 rw [←h];unfold sW ty0;cases decide (e.Op=1)<;>simp
theorem plain3 {e:Ex} {b:Bool} (h:((!decide (e.Op=2)&&(!decide (e.Lin.K=0)||decide ((0:Int)<e.Lin.L.length)))||(!decide (e.Op=3)&&(!decide (e.Name=bs [])||decide ((0:Int)<e.Idx.length))))=b):
  ((!decide (e.Op=2)&& !nP e.Lin)||(!decide (e.Op=3)&&(!decide (e.Name=bs [])||decide ((0:Int)<e.Idx.length))))=b:=by
 rw [←h]
 have:(!nP e.Lin)=(!decide (e.Lin.K=0)||decide ((0:Int)<e.Lin.L.length)):=by
  unfold nP
  rw [Bool.not_and]
  congr 1
  exact v33
 rw [this]
theorem well_dec {x:Ix} {b:Bool} (h:((decide (x.From=bs [])&&decide ((0:Int)<x.At.length))||(!decide (x.From=bs [])&&(!decide (x.Lin.K=0)||decide ((0:Int)<x.Lin.L.length))))=b):(!jT x)=b:=by
 rw [←h]
 unfold jT nP
 by_cases hf:x.From=bs []
 ·simp only [hf,decide_true,cond_true,Bool.true_and,Bool.not_true,Bool.false_and,Bool.or_false]
  exact v33
 ·simp only [hf,decide_false,cond_false,Bool.false_and,Bool.not_false,Bool.true_and,Bool.false_or,Bool.not_and]
  congr 1
  exact v33
theorem syn2 {e:Ex} (h:((!decide (e.Op=1)&& !sW e.Val)||(!(decide (e.Op=1)||decide (e.Op=12))&& !ty0 e.Ty))=true):false=gZ e:=by
 unfold gZ
 rw [Bool.or_eq_true] at h
 rcases h with h|h<;>simp only [h,Bool.not_true,Bool.and_false,Bool.false_and]
theorem syn3 {e:Ex} (h:((!decide (e.Op=2)&& !nP e.Lin)||(!decide (e.Op=3)&&(!decide (e.Name=bs [])||decide ((0:Int)<e.Idx.length))))=true):false=gZ e:=by
 unfold gZ
 rw [Bool.or_eq_true] at h
 rcases h with h|h<;>simp only [h,Bool.not_true,Bool.and_false,Bool.false_and]
theorem syn5 {e:Ex} (h1:(decide (e.Op<1)||decide (18<e.Op))=false) (h2:((!decide (e.Op=1)&& !sW e.Val)||(!(decide (e.Op=1)||decide (e.Op=12))&& !ty0 e.Ty))=false) (h3:((!decide (e.Op=2)&& !nP e.Lin)||(!decide (e.Op=3)&&(!decide (e.Name=bs [])||decide ((0:Int)<e.Idx.length))))=false) (h4:e.Idx.all jT=true):true=gZ e:=by
 unfold gZ
 obtain ⟨a,b⟩:=Bool.or_eq_false_iff.1 h2
 obtain ⟨c,d⟩:=Bool.or_eq_false_iff.1 h3
 simp only [h1,a,b,c,d,h4,Bool.not_false,Bool.and_self]
theorem form_start {e:Ex} (h:((decide (e.Op=1)&& !jP e.Ty e.Val)|| !fW e.Lin)=false):(gW e).all fW=((e.Idx.drop 0).flatMap fun x=>x.Lin::x.At).all fW:=by
 obtain ⟨_,h2⟩:=Bool.or_eq_false_iff.1 h
 rw [gW,List.all_cons,show fW e.Lin=true by simpa using h2];rfl
theorem form_no {e:Ex} (h:((decide (e.Op=1)&& !jP e.Ty e.Val)|| !fW e.Lin)=true):false=jM e:=by
 unfold jM gW
 rw [Bool.or_eq_true] at h
 rcases h with h|h
 ·simp only [h,Bool.not_true,Bool.false_and]
 ·rw [List.all_cons,show fW e.Lin=false by simpa using h];simp
theorem form_no2 {e:Ex} {l:List Lf} (h:(gW e).all fW=l.all fW) (h2:l.all fW=false):false=jM e:=by
 unfold jM;rw [h,h2,Bool.and_false]
theorem form_yes {e:Ex} (h:((decide (e.Op=1)&& !jP e.Ty e.Val)|| !fW e.Lin)=false) (h2:(gW e).all fW=true):true=jM e:=by
 obtain ⟨h1,_⟩:=Bool.or_eq_false_iff.1 h
 unfold jM;rw [h1,h2];rfl
theorem types_ty {e:Ex} (h:gU e=true):e.Op=1->gV e.Ty=true:=by
 intro h1
 simp only [gU,h1,decide_true,Bool.true_or,Bool.true_and,Bool.not_not,Bool.and_eq_true] at h
 exact h.1
theorem dep_start {n:Nat} {e:Ex} (h:n≠0):jO n e=rL (jO (n-1)) 1 (e.Args.drop 0):=by
 cases n with
 |zero=>exact absurd rfl h
 |succ n=>rfl
theorem dep_end {n:Nat} {e:Ex} {l d:Int} {k:Nat} (hl:l=n+1) (c:e.Args.length<=k∨l<=1) (h3:n≠0->jO n e=rL (jO (n-1)) d (e.Args.drop k)) (h4:n=0->d=1):d=jO n e:=by
 by_cases h0:n=0
 ·rw [h4 h0,h0];rfl
 ·rw [h3 h0,wG (by omega)];rfl
theorem siz_end {l:List Ex} {k n m:Nat} {x:Int} (hl:x=m) (h:l.length<=k∨x<n):n=pX (l.drop k) m n:=by
 by_cases hk:k<l.length
 ·obtain ⟨a,ha⟩:=qU l k hk
  rw [yB ha,pX,if_neg (by omega)]
 ·rw [wG hk,pX]
abbrev ixF (x:Ix):List Lf:=x.Lin::x.At
theorem forms_at {e:Ex} {k:Nat} {x:Ix} (h:e.Idx[k]? =some x):gW e=(e.Lin::(e.Idx.take k).flatMap ixF)++x.Lin::(x.At++(e.Idx.drop (k+1)).flatMap ixF):=by
 have e1:e.Idx=e.Idx.take k++x::e.Idx.drop (k+1):=by rw [←yB h,List.take_append_drop]
 have e2:gW e=e.Lin::e.Idx.flatMap ixF:=rfl
 have e3:e.Idx.flatMap ixF=(e.Idx.take k++x::e.Idx.drop (k+1)).flatMap ixF:=congrArg _ e1
 rw [e2,e3,List.flatMap_append,List.flatMap_cons]
 simp [ixF]
theorem forms_at2 {e:Ex} {k j:Nat} {x:Ix} {l:Lf} (h:e.Idx[k]? =some x) (hl:x.At[j]? =some l):gW e=((e.Lin::(e.Idx.take k).flatMap ixF)++[x.Lin]++x.At.take j)++l::(x.At.drop (j+1)++(e.Idx.drop (k+1)).flatMap ixF):=by
 rw [forms_at h]
 have e1:x.At=x.At.take j++l::x.At.drop (j+1):=by rw [←yB hl,List.take_append_drop]
 have e2:x.At++(e.Idx.drop (k+1)).flatMap ixF=(x.At.take j++l::x.At.drop (j+1))++(e.Idx.drop (k+1)).flatMap ixF:=congrArg (· ++(e.Idx.drop (k+1)).flatMap ixF) e1
 rw [e2]
 simp
theorem forms_next {e:Ex} {k:Nat} {x:Ix} (h:e.Idx[k]? =some x):e.Lin::(e.Idx.take (k+1)).flatMap ixF=(e.Lin::(e.Idx.take k).flatMap ixF)++[x.Lin]++x.At:=by
 rw [yD h,List.flatMap_append];simp [ixF]
theorem nodes_at {e a:Ex} {k:Nat} (h:e.Args[k]? =some a) {pre suf:List Ex} {x:Ex} (hx:bH a=pre++x::suf):bH e=(e::bJ (e.Args.take k)++pre)++x::(suf++bJ (e.Args.drop (k+1))):=by
 have e1:e.Args=e.Args.take k++a::e.Args.drop (k+1):=by rw [←yB h,List.take_append_drop]
 have e2:bJ e.Args=bJ (e.Args.take k)++(bH a++bJ (e.Args.drop (k+1))):=by
  have:=congrArg bJ e1
  rw [zMq,bJ] at this
  exact this
 rw [zAl,e2,hx]
 simp
theorem zSy {l:List Ex} {k:Nat} {a:Ex} (h:l[k]? =some a):bJ (l.take (k+1))=bJ (l.take k)++bH a:=by
 rw [yD h,zMq,bJ,bJ,List.append_nil]
theorem forms_wt {e:Ex} {l:Lf} {B:Nat} (he:e.wt<=B) (h:l∈gW e):l.L.length<=B:=by
 unfold gW at h
 rcases List.mem_cons.1 h with rfl|h
 ·exact (e.parts he).1
 ·obtain ⟨x,hx,hl⟩:=List.mem_flatMap.1 h
  have h1:=Ex.idx_wt hx
  rcases List.mem_cons.1 hl with rfl|hl
  ·omega
  ·have:=zAy hl;omega
theorem node5 {e:Ex} {b:Bool} (h:gU e=true) (c:(decide (e.Op=1)&& !(gV e.Ty&&jP e.Ty e.Val))=b):(decide (e.Op=1)&& !jP e.Ty e.Val)=b:=by
 rw [←c]
 by_cases h1:e.Op=1
 ·rw [types_ty h h1];simp [h1]
 ·simp [h1]
theorem all_app_no {α:Type} {p:α->Bool} {pre suf:List α} {x:α} (h:(pre++[x]).all p=false):(pre++x::suf).all p=false:=by
 rw [show pre++x::suf=(pre++[x])++suf by simp,List.all_append,h];rfl
theorem errs_one {pre:List Ex} {x:Ex} (h:gH pre=0) (c:¬bS x=0):gH (pre++[x])=bS x:=by
 rw [zFq,h,gH,kL c];rfl
theorem errs_pre {pre suf:List Ex} {x:Ex} (h:¬gH (pre++[x])=0):gH (pre++x::suf)=gH (pre++[x]):=by
 rw [show pre++x::suf=(pre++[x])++suf by simp,zFq,kL h];rfl
end Go.Br
end
section
namespace Go.Br
open Go Go.Eng Go.L41
/-! ## Equality,part by part -/
theorem ix_eq (a b:Ix):((decide (a.From=b.From)&&decide (a.Lin=b.Lin))&&decide (a.At=b.At))=decide (a=b):=by
 rw [Bool.eq_iff_iff];simp only [Bool.and_eq_true,decide_eq_true_eq]
 cases a;cases b;simp only [Ix.mk.injEq]
 constructor
 ·rintro ⟨⟨h1,h2⟩,h3⟩;exact ⟨h2,h1,h3⟩
 ·rintro ⟨h1,h2,h3⟩;exact ⟨⟨h2,h1⟩,h3⟩
theorem litsEq_val (a b:Vl):bF [cI a.N,cI a.D] [cI b.N,cI b.D]=decide (a=b):=by
 rw [Bool.eq_iff_iff];cases a;cases b;simp [bF,cEq]
theorem litsEq_ty (a b:Ty):bF [cI a.Kind,cI a.Bits,cI a.Frac,cI a.Round,cI a.Over] [cI b.Kind,cI b.Bits,cI b.Frac,cI b.Round,cI b.Over]=decide (a=b):=by
 rw [Bool.eq_iff_iff];cases a;cases b;simp [bF,cEq]
theorem ex_eq (a b:Ex):((((((decide (a.Op=b.Op)&&decide (a.Name=b.Name))&&bF [cI a.Val.N,cI a.Val.D] [cI b.Val.N,cI b.Val.D])&&bF [cI a.Ty.Kind,cI a.Ty.Bits,cI a.Ty.Frac,cI a.Ty.Round,cI a.Ty.Over] [cI b.Ty.Kind,cI b.Ty.Bits,cI b.Ty.Frac,cI b.Ty.Round,cI b.Ty.Over])&&decide (a.Lin=b.Lin))&&decide (a.Idx=b.Idx))&&decide (a.Args=b.Args))=decide (a=b):=by
 rw [litsEq_val,litsEq_ty,Bool.eq_iff_iff]
 simp only [Bool.and_eq_true,decide_eq_true_eq,Ex.eq_iff]
 constructor
 ·rintro ⟨⟨⟨⟨⟨⟨h1,h2⟩,h3⟩,h4⟩,h5⟩,h6⟩,h7⟩;exact ⟨h1,h2,h3,h4,h5,h6,h7⟩
 ·rintro ⟨h1,h2,h3,h4,h5,h6,h7⟩;exact ⟨⟨⟨⟨⟨⟨h1,h2⟩,h3⟩,h4⟩,h5⟩,h6⟩,h7⟩
/-! ## Weights -/
def fO (m n:Nat):List Lf->Nat
 |[]=>n
 |l::r=>if n<=m then fO m (n+l.L.length) r else n
def dS (m n:Nat):List Ix->Nat
 |[]=>n
 |x::r=>if n<=m then dS m (fO m (n+x.Lin.L.length+x.At.length) x.At) r else n
mutual
def fF:Ex->Nat->Nat
 |.mk _ _ _ _ l i arg_,m=>gI arg_ m (dS m (1+l.L.length+i.length) i)
def gI:List Ex->Nat->Nat->Nat
 |[],_,n=>n
 |a::r,m,n=>if n<=m then gI r m (n+fF a (m-n)) else n
end
theorem weighE_eq (e:Ex) (m:Nat):fF e m=gI e.Args m (dS m (1+e.Lin.L.length+e.Idx.length) e.Idx):=by cases e;rw [fF];rfl
def Ix.fit (x:Ix):Prop:=x.Lin.L.length<=140737488355328/\x.At.length<=140737488355328/\∀l,l∈x.At->l.L.length<=140737488355328
mutual
def Ex.fit:Ex->Prop
 |.mk _ _ _ _ l i arg_=>l.L.length<=140737488355328/\i.length<=140737488355328/\arg_.length<=140737488355328/\(∀x,x∈i->x.fit)/\vX arg_
def vX:List Ex->Prop
 |[]=>True
 |a::r=>a.fit/\vX r
end
theorem fitL_mem {l:List Ex} (h:vX l):∀a,a∈l->a.fit:=by
 induction l with
 |nil=>intro a ha;cases ha
 |cons x r ih=>
  intro a ha
  rcases List.mem_cons.1 ha with rfl|ha
  ·exact h.1
  ·exact ih h.2 a ha
theorem Ex.fit_eq {e:Ex} (h:e.fit):e.Lin.L.length<=140737488355328/\e.Idx.length<=140737488355328/\e.Args.length<=140737488355328/\(∀x,x∈e.Idx->x.fit)/\∀a,a∈e.Args->a.fit:=by
 cases e with
 |mk o n v t l i arg_=>rw [Ex.fit] at h;exact ⟨h.1,h.2.1,h.2.2.1,h.2.2.2.1,fitL_mem h.2.2.2.2⟩
theorem zOb (m:Nat):∀(l:List Lf) (n:Nat),n<=fO m n l
 |[],n=>Nat.le_refl _
 |x::r,n=>by
  rw [fO];split
  ·have:=zOb m r (n+x.L.length);omega
  ·omega
theorem zRp (m:Nat):∀(l:List Ix) (n:Nat),n<=dS m n l
 |[],n=>Nat.le_refl _
 |x::r,n=>by
  rw [dS];split
  ·have h1:=zOb m x.At (n+x.Lin.L.length+x.At.length)
   have:=zRp m r (fO m (n+x.Lin.L.length+x.At.length) x.At);omega
  ·omega
theorem zRr (m:Nat):∀(l:List Lf) (n:Nat),fO m n l<=m->n+mJ l<=fO m n l
 |[],n,_=>by simp [fO,mJ]
 |y::r,n,h=>by
  have hn:n<=m:=Nat.le_trans (zOb m (y::r) n) h
  rw [fO,if_pos hn] at h⊢
  have:=zRr m r _ h
  rw [mJ];omega
theorem zPj (m:Nat):∀(l:List Ix) (n:Nat),dS m n l<=m->n+fQ l<=dS m n l
 |[],n,_=>by simp [dS,fQ]
 |x::r,n,h=>by
  have hn:n<=m:=Nat.le_trans (zRp m (x::r) n) h
  rw [dS,if_pos hn] at h⊢
  have h1:=zPj m r _ h
  have h2:=zRr m x.At (n+x.Lin.L.length+x.At.length) (by omega)
  rw [fQ,Ix.wt];omega
mutual
theorem zRq:∀(e:Ex) (m:Nat),fF e m<=m->e.wt<=fF e m
 |.mk o n v t l i arg_,m,h=>by
  rw [fF] at h⊢
  have h1:=weighL_wt arg_ m _ h
  have h2:=zPj m i (1+l.L.length+i.length) (by omega)
  rw [Ex.wt];omega
theorem weighL_wt:∀(l:List Ex) (m n:Nat),gI l m n<=m->n+dK l<=gI l m n
 |[],m,n,h=>by simp [gI,dK]
 |a::r,m,n,h=>by
  by_cases hn:n<=m
  ·rw [gI,if_pos hn] at h⊢
   have h1:=weighL_wt r m _ h
   have h2:=zRq a (m-n) (by omega)
   rw [dK];omega
  ·rw [gI,if_neg hn] at h;omega
end
theorem weighAt_le {m:Nat}:∀(l:List Lf) (n B:Nat),(∀x,x∈l->x.L.length<=140737488355328)->n<=B->m+140737488355328<=B->fO m n l<=B
 |[],n,B,_,h,_=>by simpa [fO] using h
 |x::r,n,B,hx,h,hb=>by
  rw [fO];split
  ·have:=hx x (by simp)
   exact weighAt_le r _ B (fun y hy=>hx y (by simp [hy])) (by omega) hb
  ·exact h
theorem zRo {m:Nat}:∀(l:List Ix) (n B:Nat),(∀x,x∈l->x.fit)->n<=B->m+3*140737488355328<=B->dS m n l<=B
 |[],n,B,_,h,_=>by simpa [dS] using h
 |x::r,n,B,hx,h,hb=>by
  rw [dS];split
  ·obtain ⟨h1,h2,h3⟩:=hx x (by simp)
   exact zRo r _ B (fun y hy=>hx y (by simp [hy])) (weighAt_le x.At _ B h3 (by omega) (by omega)) hb
  ·exact h
mutual
theorem zGb:∀(e:Ex) (m:Nat),e.fit->fF e m<=m+4*140737488355328
 |.mk o n v t l i arg_,m,h=>by
  rw [Ex.fit] at h
  obtain ⟨h1,h2,h3,h4,h5⟩:=h
  rw [fF]
  exact weighL_le arg_ m _ h5 (zRo i _ _ h4 (by omega) (by omega))
theorem weighL_le:∀(l:List Ex) (m n:Nat),vX l->n<=m+4*140737488355328->gI l m n<=m+4*140737488355328
 |[],m,n,_,h=>by simpa [gI] using h
 |a::r,m,n,hf,h=>by
  rw [gI];split
  ·have:=zGb a (m-n) hf.1
   exact weighL_le r m _ hf.2 (by omega)
  ·exact h
end
theorem weighIdx_end {m n k:Nat} {l:List Ix} {x:Int} (hx:x=m) (h:l.length<=k∨x<n):n=dS m n (l.drop k):=by
 by_cases hk:k<l.length
 ·obtain ⟨a,ha⟩:=qU l k hk
  rw [yB ha,dS,if_neg (by omega)]
 ·rw [wG hk,dS]
theorem weighAt_end {m n k:Nat} {l:List Lf} {x:Int} (hx:x=m) (h:l.length<=k∨x<n):n=fO m n (l.drop k):=by
 by_cases hk:k<l.length
 ·obtain ⟨a,ha⟩:=qU l k hk
  rw [yB ha,fO,if_neg (by omega)]
 ·rw [wG hk,fO]
theorem weighL_end {m n k:Nat} {l:List Ex} {x:Int} (hx:x=m) (h:l.length<=k∨x<n):n=gI (l.drop k) m n:=by
 by_cases hk:k<l.length
 ·obtain ⟨a,ha⟩:=qU l k hk
  rw [yB ha,gI,if_neg (by omega)]
 ·rw [wG hk,gI]
/-! ## Forms mapped -/
def zEx:Ex:=.mk 0 (bs []) ⟨0,0⟩ ⟨0,0,0,0,0⟩ ⟨0,[]⟩ [] []
theorem nodesL_of {a x:Ex}:∀{l:List Ex},a∈l->x∈bH a->x∈bJ l
 |[],h,_=>by cases h
 |b::r,h,hx=>by
  rw [bJ,List.mem_append]
  rcases List.mem_cons.1 h with rfl|h
  ·exact .inl hx
  ·exact .inr (nodesL_of h hx)
end Go.Br
end
section
namespace Go.Br
open Go Go.Eng Go.L41
theorem errsL_mem {l:List Ex} (h:gH l=0):∀x,x∈l->bS x=0:=by
 induction l with
 |nil=>intro x hx;cases hx
 |cons y r ih=>
  intro x hx
  rw [gH] at h
  by_cases hy:bS y=0
  ·rw [zAr hy,cond_true] at h
   rcases List.mem_cons.1 hx with rfl|hx
   ·exact hy
   ·exact ih h x hx
  ·rw [kL hy,cond_false] at h;exact absurd h hy
theorem zAf {e:Ex} (h:fM e=0):bS e=0:=errsL_mem h e (by rw [zAl];simp)
theorem zMp {e a:Ex} (h:fM e=0) (ha:a∈e.Args):fM a=0:=by
 have hn:=zAf h
 rw [zFn,zAr hn,cond_true] at h
 obtain ⟨k,hk⟩:=List.getElem?_of_mem ha
 have:∀l:List Ex,pZ l=0->a∈l->fM a=0:=by
  intro l
  induction l with
  |nil=>intro _ h;cases h
  |cons y r ih=>
   intro h hm
   rw [zOn] at h
   by_cases hy:fM y=0
   ·rw [zAr hy,cond_true] at h
    rcases List.mem_cons.1 hm with rfl|hm
    ·exact hy
    ·exact ih h hm
   ·rw [kL hy,cond_false] at h;exact absurd h hy
 exact this _ h ha
theorem zJp {e:Ex} (h:fT e=0):fM e=0:=by
 unfold fT at h
 by_cases h1:40<jO 40 e
 ·rw [zAr h1] at h;simp at h
 ·rw [kL h1,cond_false] at h
  by_cases h2:(2000:Int)<szT e
  ·rw [zAr h2] at h;simp at h
  ·rwa [kL h2,cond_false] at h
theorem zQu {e:Ex} (h:bS e=0):gZ e=true/\lW e=true/\mN e=true/\gU e=true/\jM e=true:=by
 unfold bS at h
 cases h1:gZ e<;>rw [h1] at h<;>simp at h
 cases h2:lW e<;>rw [h2] at h<;>simp at h
 cases h3:mN e<;>rw [h3] at h<;>simp at h
 cases h4:gU e<;>rw [h4] at h<;>simp at h
 cases h5:jM e<;>rw [h5] at h<;>simp at h
 simp
theorem zMr {e:Ex} (h:bS e=0):(e.Args.length:Int)=bI e.Op:=by
 have:=(zQu h).2.2.1
 simp only [mN,Bool.and_eq_true,Bool.not_eq_true',Bool.or_eq_false_iff,Bool.not_eq_false',decide_eq_true_eq] at this
 exact this.1.1
end Go.Br
end
section
namespace Go.Br
open Go Go.Eng Go.L41
structure Cn where
 Lin:Lf
 Eq:Bool
 deriving DecidableEq
structure Ax where
 Name:ByteArray
 Size:Lf
 deriving DecidableEq
structure Pm where
 Name:ByteArray
 T:Ty
 Dims:List Lf
 deriving DecidableEq
structure Df where
 Name:ByteArray
 T:Ty
 Dims:List Ax
 Red:List Ax
 Fold:Int
 Body:Ex
 deriving DecidableEq
structure Pg where
 Sizes:List ByteArray
 Where:List Cn
 Params:List Pm
 Defs:List Df
 Outs:List ByteArray
 deriving DecidableEq
def Cn.cells (x:Cn):List C:=[cI x.Lin.K,.sl 2 (x.Lin.L.map Mono.cells),cB x.Eq]
def Ax.cells (x:Ax):List C:=[cS x.Name,cI x.Size.K,.sl 2 (x.Size.L.map Mono.cells)]
def Pm.cells (x:Pm):List C:=[cS x.Name,cI x.T.Kind,cI x.T.Bits,cI x.T.Frac,cI x.T.Round,cI x.T.Over,.sl 2 (x.Dims.map Lf.cells)]
def Df.cells (x:Df):List C:=[cS x.Name,cI x.T.Kind,cI x.T.Bits,cI x.T.Frac,cI x.T.Round,cI x.T.Over,.sl 3 (x.Dims.map Ax.cells),.sl 3 (x.Red.map Ax.cells),cI x.Fold,
 cI x.Body.Op,cS x.Body.Name,cI x.Body.Val.N,cI x.Body.Val.D,cI x.Body.Ty.Kind,cI x.Body.Ty.Bits,cI x.Body.Ty.Frac,cI x.Body.Ty.Round,cI x.Body.Ty.Over,cI x.Body.Lin.K,.sl 2 (x.Body.Lin.L.map Mono.cells),.sl 4 (x.Body.Idx.map Ix.cells),.sl 13 (x.Body.Args.map Ex.cells)]
def Pg.cells (p:Pg):List C:=[.sl 1 (p.Sizes.map fun s=>[cS s]),.sl 3 (p.Where.map Cn.cells),.sl 7 (p.Params.map Pm.cells),.sl 22 (p.Defs.map Df.cells),.sl 1 (p.Outs.map fun s=>[cS s])]
def tO (l:Lf):Prop:=l.L.length<=140737488355328
def Pm.fit (x:Pm):Prop:=x.Dims.length<=140737488355328/\∀l,l∈x.Dims->tO l
def Df.fit (d:Df):Prop:=d.Dims.length<=140737488355328/\d.Red.length<=140737488355328/\(∀a,a∈d.Dims->tO a.Size)/\(∀a,a∈d.Red->tO a.Size)/\d.Body.fit
structure Pg.Fit (p:Pg):Prop where
 sizes:p.Sizes.length<=140737488355328
 wh:p.Where.length<=140737488355328
 params:p.Params.length<=140737488355328
 defs:p.Defs.length<=140737488355328
 outs:p.Outs.length<=140737488355328
 whs:∀c,c∈p.Where->tO c.Lin
 ps:∀x,x∈p.Params->x.fit
 ds:∀d,d∈p.Defs->d.fit
def zTy:Ty:=⟨0,0,0,0,0⟩
def iTy:Ty:=⟨3,0,0,0,0⟩
/-! ## Find -/
structure Fd where
 ty:Ty
 dims:List Lf
 ok:Bool
structure En where
 sz:List ByteArray
 pm:List Pm
 df:List Df
def Pg.en (p:Pg):En:=⟨p.Sizes,p.Params,p.Defs⟩
def dH (l:List Ty) (i:Nat):Ty:=l.getD i zTy
mutual
def dO (N:Ex->List Ty->Ty×Int):Ex->Ty×Int
 |.mk o nm v t l i arg_=>if (bK N arg_).2=0 then N (.mk o nm v t l i arg_) (bK N arg_).1 else (zTy,(bK N arg_).2)
def bK (N:Ex->List Ty->Ty×Int):List Ex->List Ty×Int
 |[]=>([],0)
 |a::r=>if (dO N a).2=0 then (if (bK N r).2=0 then ((dO N a).1::(bK N r).1,0) else ([],(bK N r).2)) else ([],(dO N a).2)
end
theorem zQv (N:Ex->List Ty->Ty×Int) (e:Ex):dO N e=if (bK N e.Args).2=0 then N e (bK N e.Args).1 else (zTy,(bK N e.Args).2):=by
 cases e;rw [dO];rfl
theorem zLk {e:Ex} (h:bS e=0):1<=e.Op/\e.Op<=18:=by
 have:=(zQu h).1
 simp only [gZ,Bool.and_eq_true,Bool.not_eq_true',Bool.or_eq_false_iff,decide_eq_false_iff_not] at this
 obtain ⟨⟨⟨⟨⟨⟨h1,h2⟩,_⟩,_⟩,_⟩,_⟩,_⟩:=this
 exact ⟨by omega,by omega⟩
def tN (p:Pg):Prop:=p.Sizes.length<=64/\p.Params.length<=64/\p.Defs.length<=64/\p.Outs.length<=64/\p.Where.length<=256
instance (p:Pg):Decidable (tN p):=by unfold tN;infer_instance
abbrev Kn:=List (ByteArray×Int)
def rJ (m:Kn) (s:ByteArray):Int:=(fK m s).getD 0
end Go.Br
end
section
namespace Go.Br
open Go Go.Eng Go.L41
theorem zTh (a b:List ByteArray) (s:ByteArray):bR (a++b) s=(bR a s||bR b s):=by simp [bR,List.any_append]
theorem hasB_one (s t:ByteArray):bR [s] t=decide (s=t):=by simp [bR]
theorem mget_mput' (m:Kn) (k s:ByteArray) (a:Int):fK (jW m k a) s=if k=s then some a else fK m s:=by
 induction m with
 |nil=>simp [jW,fK]
 |cons x r ih=>
  obtain ⟨k',b⟩:=x
  by_cases h:k'=k
  ·subst h
   simp only [jW,if_true,fK]
   by_cases h2:k'=s<;>simp [h2]
  ·simp only [jW,h,if_false,fK,ih]
   by_cases h2:k'=s
   ·subst h2;rw [if_pos rfl,if_neg (fun e:k=k'=>h e.symm),if_pos rfl]
   ·simp [h2]
theorem zTg (m:Kn) (k s:ByteArray) (a:Int):rJ (jW m k a) s=if k=s then a else rJ m s:=by
 unfold rJ;rw [mget_mput'];by_cases h:k=s<;>simp [h]
structure Rel (m:Kn) (sz tn:List ByteArray):Prop where
 one:∀s,rJ m s=1↔bR sz s=true
 two:∀s,rJ m s=2↔bR tn s=true
 zero:∀s,rJ m s=0↔bR (sz++tn) s=false
theorem Rel.nil:Rel [] [] []:=⟨fun s=>by simp [rJ,fK,bR],fun s=>by simp [rJ,fK,bR],fun s=>by simp [rJ,fK,bR]⟩
theorem Rel.size {m:Kn} {sz:List ByteArray} (h:Rel m sz []) {s:ByteArray} (h0:rJ m s=0):Rel (jW m s 1) (sz++[s]) []:=by
 refine ⟨fun t=>?_,fun t=>?_,fun t=>?_⟩
 ·rw [zTg,zTh,hasB_one]
  by_cases e:s=t
  ·simp [e]
  ·simp [e,h.one t]
 ·rw [zTg]
  by_cases e:s=t
  ·simp [e,bR]
  ·simp [e,h.two t]
 ·rw [zTg,List.append_nil,zTh,hasB_one]
  by_cases e:s=t
  ·simp [e]
  ·have:=h.zero t
   rw [List.append_nil] at this
   simp [e,this]
end Go.Br
end
section
namespace Go.Br
open Go Go.Eng Go.L41
structure Pg.Ok (p:Pg):Prop where
 sizes:p.Sizes.length<=4294967296
 wh:p.Where.length<=4294967296
 params:p.Params.length<=4294967296
 defs:p.Defs.length<=4294967296
 outs:p.Outs.length<=4294967296
 whs:∀c,c∈p.Where->c.Lin.L.length<=5864062014805
 ps:∀x,x∈p.Params->x.Dims.length<=4294967296/\∀l,l∈x.Dims->l.L.length<=5864062014805
 ds:∀d,d∈p.Defs->d.Dims.length<=1073741824/\d.Red.length<=1073741824/\(∀a,a∈d.Dims->a.Size.L.length<=5864062014805)/\(∀a,a∈d.Red->a.Size.L.length<=5864062014805)/\d.Body.wt<=4294967296
theorem Pg.Ok.take {p:Pg} (h:p.Ok) (k:Nat):Pg.Ok ⟨p.Sizes,p.Where,p.Params,p.Defs.take k,p.Outs⟩:=
 ⟨h.sizes,h.wh,h.params,by have:=h.defs;simp only [List.length_take];omega,h.outs,h.whs,h.ps,fun d hd=>h.ds d (List.mem_of_mem_take hd)⟩
end Go.Br
end
section
namespace Go.Br
open Go Go.Eng Go.L41
abbrev vP (b:Nat):V:=.c (.lit (.pointer (some ⟨b,0,none⟩)))
def tyC (t:Ty):List C:=[cI t.Kind,cI t.Bits,cI t.Frac,cI t.Round,cI t.Over]
theorem tyC_eq (a b:Ty):bF [cI a.Kind,cI a.Bits,cI a.Frac,cI a.Round,cI a.Over] [cI b.Kind,cI b.Bits,cI b.Frac,cI b.Round,cI b.Over]=decide (a=b):=by
 obtain ⟨a1,a2,a3,a4,a5⟩:=a
 obtain ⟨b1,b2,b3,b4,b5⟩:=b
 simp only [bF,cEq,Ty.mk.injEq,Bool.and_true,Bool.decide_and]
theorem zJb (N:Ex->List Ty->Ty×Int):∀(a b:List Ex),(bK N a).2=0->bK N (a++b)=if (bK N b).2=0 then ((bK N a).1++(bK N b).1,0) else ([],(bK N b).2)
 |[],b,_=>by
  simp only [List.nil_append,bK,List.nil_append]
  cases b with
  |nil=>simp [bK]
  |cons x r=>
   simp only [bK]
   by_cases h1:(dO N x).2=0
   ·by_cases h2:(bK N r).2=0
    ·simp [h1,h2]
    ·simp [h1,h2]
   ·simp [h1]
 |x::r,b,h=>by
  rw [bK] at h
  by_cases h1:(dO N x).2=0
  ·rw [if_pos h1] at h
   by_cases h2:(bK N r).2=0
   ·rw [List.cons_append,bK,if_pos h1,zJb N r b h2]
    rw [bK,if_pos h1,if_pos h2]
    by_cases h3:(bK N b).2=0
    ·simp [h3]
    ·simp [h3]
   ·rw [if_neg h2] at h;exact absurd h h2
  ·rw [if_neg h1] at h;exact absurd h h1
theorem zEp {N:Ex->List Ty->Ty×Int} {l:List Ex} {k:Nat} {x:Ex} (h:l[k]? =some x) (hp:(bK N (l.take k)).2=0) (hx:(dO N x).2=0):bK N (l.take (k+1))=((bK N (l.take k)).1++[(dO N x).1],0):=by
 rw [yD h,zJb N _ _ hp];simp [bK,hx]
theorem nodeL_no {N:Ex->List Ty->Ty×Int} {l:List Ex} {k:Nat} {x:Ex} (h:l[k]? =some x) (hp:(bK N (l.take k)).2=0) (hx:¬(dO N x).2=0):(bK N l).2=(dO N x).2:=by
 have e:l=l.take k++(x::l.drop (k+1)):=by rw [←yB h,List.take_append_drop]
 rw [e,zJb N _ _ hp]
 simp [bK,hx]
theorem zGj (N:Ex->List Ty->Ty×Int):∀l:List Ex,(bK N l).2=0->(bK N l).1.length=l.length
 |[],_=>rfl
 |x::r,h=>by
  rw [bK] at h⊢
  by_cases h1:(dO N x).2=0
  ·rw [if_pos h1] at h⊢
   by_cases h2:(bK N r).2=0
   ·rw [if_pos h2];simp [zGj N r h2]
   ·rw [if_neg h2] at h;exact absurd h h2
  ·rw [if_neg h1] at h;exact absurd h h1
end Go.Br
namespace Go.Br
open Go Go.Eng Go.L41
end Go.Br
end
section
namespace Go.Br
open Go Go.Eng Go.L41
theorem nodeT_no {N:Ex->List Ty->Ty×Int} {e x:Ex} {k:Nat} (h:e.Args[k]? =some x) (hp:(bK N (e.Args.take k)).2=0) (hx:¬(dO N x).2=0):dO N e=(zTy,(dO N x).2):=by
 have h1:=nodeL_no h hp hx
 rw [zQv N e,h1,if_neg hx]
theorem nodeT_ok {N:Ex->List Ty->Ty×Int} {e:Ex} {k:Nat} (h:e.Args.take k=e.Args) (hp:(bK N (e.Args.take k)).2=0):dO N e=N e (bK N (e.Args.take k)).1:=by
 rw [h] at hp⊢
 rw [zQv N e,if_pos hp]
theorem zHc {a b:Ty} (h:(!bF [cI a.Kind,cI a.Bits,cI a.Frac,cI a.Round,cI a.Over] [cI b.Kind,cI b.Bits,cI b.Frac,cI b.Round,cI b.Over])=true):¬a=b:=by
 rw [tyC_eq] at h;simpa using h
theorem zHd {a b:Ty} (h:(!bF [cI a.Kind,cI a.Bits,cI a.Frac,cI a.Round,cI a.Over] [cI b.Kind,cI b.Bits,cI b.Frac,cI b.Round,cI b.Over])=false):a=b:=by
 rw [tyC_eq] at h;simpa using h
theorem zJs {l:List Ty} {i:Nat} (h:i<l.length):(l.map tyC)[i]? =some (tyC (dH l i)):=by
 rw [List.getElem?_map,List.getElem?_eq_getElem h]
 simp [dH,List.getD,List.getElem?_eq_getElem h]
theorem zQs {e:Ex} (h:fM e=0):(e.Args.length:Int)=bI e.Op:=by
 have h1:=(zQu (zAf h)).2.2.1
 unfold mN at h1
 simp only [Bool.and_eq_true,Bool.not_eq_true',Bool.or_eq_false_iff,Bool.not_eq_false',decide_eq_true_eq] at h1
 exact h1.1.1
theorem args_len {e:Ex} (h:fM e=0) (ho:¬(e.Op=1∨e.Op=2∨e.Op=3)):1<=e.Args.length:=by
 have:=zQs h;unfold bI at this;rw [if_neg ho] at this;split at this
 ·omega
 ·split at this<;>omega
theorem zGw {e:Ex} (h:fM e=0) (ho:¬(e.Op=1∨e.Op=2∨e.Op=3∨e.Op=8∨e.Op=12∨e.Op=18)):2<=e.Args.length:=by
 have:=zQs h;unfold bI at this;rw [if_neg (by omega),if_neg (by omega)] at this;split at this<;>omega
end Go.Br
end
section
namespace Go.Br
open Go Go.Eng Go.L41
/-! ## The program's Validate -/
structure Pg.Short (p:Pg):Prop where
 sizes:p.Sizes.length<=12
 wh:p.Where.length<=12
 params:p.Params.length<=12
 defs:p.Defs.length<=12
 outs:p.Outs.length<=12
 whs:∀c,c∈p.Where->c.Lin.L.length<=20
 ps:∀x,x∈p.Params->x.Dims.length<=12/\∀l,l∈x.Dims->l.L.length<=20
 ds:∀d,d∈p.Defs->d.Dims.length<=12/\d.Red.length<=12/\(∀a,a∈d.Dims->a.Size.L.length<=20)/\(∀a,a∈d.Red->a.Size.L.length<=20)/\d.Body.wt<=300
theorem Pg.Short.ok {p:Pg} (h:p.Short):p.Ok:=
 ⟨by have:=h.sizes;omega,by have:=h.wh;omega,by have:=h.params;omega,by have:=h.defs;omega,by have:=h.outs;omega,fun c hc=>by have:=h.whs c hc;omega,
  fun x hx=>by obtain ⟨h1,h2⟩:=h.ps x hx;exact ⟨by omega,fun l hl=>by have:=h2 l hl;omega⟩,
  fun d hd=>by obtain ⟨h1,h2,h3,h4,h5⟩:=h.ds d hd;exact ⟨by omega,by omega,fun a ha=>by have:=h3 a ha;omega,fun a ha=>by have:=h4 a ha;omega,by omega⟩⟩
end Go.Br
end
section
namespace Go.Br
open Go Go.Eng Go.L41
end Go.Br
end
section
namespace Go.Br
open Go Go.Eng Go.Proofs Go.L41
def gO (a b:Int):Int:=if a<b then-1 else if b<a then 1 else 0
def sG (a b:ByteArray):Int:=Lib.compareBytes a.data.toList b.data.toList
def orI:List Int->Int
 |[]=>0
 |x::r=>if x=0 then orI r else x
def gS {α:Type} (f:α->α->Int):List α->List α->Int
 |[],[]=>0
 |[],_::_=> -1
 |_::_,[]=>1
 |x::xs,y::ys=>if f x y=0 then gS f xs ys else f x y
def jH {α:Type} (f:α->α->Int) (a b:List α):Int:=if gO a.length b.length=0 then gS f a b else gO a.length b.length
def rM (x y:Mono):Int:=if x.Name=y.Name then gO x.By y.By else sG x.Name y.Name
def mD (a b:Lf):Int:=if gS rM a.L b.L=0 then gO a.K b.K else gS rM a.L b.L
def mE (a b:Ix):Int:=if sG a.From b.From=0 then (if mD a.Lin b.Lin=0 then jH mD a.At b.At else mD a.Lin b.Lin) else sG a.From b.From
def sU (a b:Ty):Int:=orI [gO a.Kind b.Kind,gO a.Bits b.Bits,gO a.Frac b.Frac,gO a.Round b.Round,gO a.Over b.Over]
def nB (a b:Ex):Int:=orI [gO a.Op b.Op,sG a.Name b.Name,gO a.Val.N b.Val.N,gO a.Val.D b.Val.D,sU a.Ty b.Ty,mD a.Lin b.Lin]
mutual
def pM:Ex->Ex->Int
 |.mk o n v t l i r,b=>if nB (.mk o n v t l i r) b=0 then (if jH mE i b.Idx=0 then (if gO r.length b.Args.length=0 then tT r b.Args else gO r.length b.Args.length) else jH mE i b.Idx) else nB (.mk o n v t l i r) b
def tT:List Ex->List Ex->Int
 |[],[]=>0
 |[],_::_=> -1
 |_::_,[]=>1
 |x::xs,y::ys=>if pM x y=0 then tT xs ys else pM x y
end
theorem cmpEs_L:∀a b:List Ex,tT a b=gS pM a b
 |[],[]=>rfl
 |[],_::_=>rfl
 |_::_,[]=>rfl
 |x::xs,y::ys=>by rw [tT,gS,cmpEs_L xs ys]
theorem cmpE_eq (a b:Ex):pM a b=if nB a b=0 then (if jH mE a.Idx b.Idx=0 then jH pM a.Args b.Args else jH mE a.Idx b.Idx) else nB a b:=by
 cases a with
 |mk o n v t l i r=>rw [pM,cmpEs_L];rfl
/-! ## Alike is equal -/
theorem zJn (a b:Int):gO a b=0↔a=b:=by
 unfold gO
 split
 ·constructor
  ·intro h;cases h
  ·intro h;omega
 ·split
  ·constructor
   ·intro h;cases h
   ·intro h;omega
  ·constructor<;>intro h<;>first|rfl|omega
theorem bytes_zero:∀a b:List UInt8,Lib.compareBytes a b=0↔a=b
 |[],[]=>by simp [Lib.compareBytes]
 |[],_::_=>by simp [Lib.compareBytes]
 |_::_,[]=>by simp [Lib.compareBytes]
 |x::xs,y::ys=>by
  rw [Lib.compareBytes]
  by_cases h1:x<y
  ·rw [if_pos h1]
   constructor
   ·intro h;cases h
   ·intro h;injection h with h2 h3;subst h2;exact absurd h1 (UInt8.lt_irrefl x)
  ·rw [if_neg h1]
   by_cases h2:y<x
   ·rw [if_pos h2]
    constructor
    ·intro h;cases h
    ·intro h;injection h with h3 h4;subst h3;exact absurd h2 (UInt8.lt_irrefl x)
   ·rw [if_neg h2,bytes_zero xs ys]
    have e:x=y:=by
     have h3:=UInt8.not_lt.1 h1
     have h4:=UInt8.not_lt.1 h2
     exact UInt8.le_antisymm h4 h3
    simp [e]
theorem zNn (a b:ByteArray):sG a b=0↔a=b:=by
 unfold sG
 rw [bytes_zero]
 constructor
 ·intro h;cases a;cases b;congr 1;exact Array.toList_inj.1 h
 ·rintro rfl;rfl
theorem orI_zero:∀l:List Int,orI l=0↔∀x,x∈l->x=0
 |[]=>by simp [orI]
 |x::r=>by
  rw [orI]
  by_cases h:x=0
  ·rw [if_pos h,orI_zero r];simp [h]
  ·rw [if_neg h];constructor
   ·intro k;exact absurd k h
   ·intro k;exact k x (by simp)
theorem zUd {α:Type} {f:α->α->Int}:∀(a b:List α),(∀x,x∈a->∀y,f x y=0↔x=y)->(gS f a b=0↔a=b)
 |[],[],_=>by simp [gS]
 |[],_::_,_=>by simp [gS]
 |_::_,[],_=>by simp [gS]
 |x::xs,y::ys,h=>by
  rw [gS]
  have h1:=h x (by simp) y
  by_cases c:f x y=0
  ·rw [if_pos c,zUd xs ys fun z hz=>h z (by simp [hz])];simp [h1.1 c]
  ·rw [if_neg c]
   constructor
   ·intro k;exact absurd k c
   ·intro k;injection k with k1 k2;exact h1.2 k1
theorem zPd {α:Type} {f:α->α->Int} (a b:List α) (h:∀x,x∈a->∀y,f x y=0↔x=y):jH f a b=0↔a=b:=by
 unfold jH
 by_cases c:gO (a.length:Int) b.length=0
 ·rw [if_pos c];exact zUd a b h
 ·rw [if_neg c]
  constructor
  ·intro k;exact absurd k c
  ·rintro rfl;exact absurd ((zJn _ _).2 rfl) c
theorem cmpM_zero (x y:Mono):rM x y=0↔x=y:=by
 obtain ⟨n,b⟩:=x
 obtain ⟨n',b'⟩:=y
 unfold rM
 by_cases c:n=n'
 ·simp only [c,if_true,zJn,Mono.mk.injEq,true_and]
 ·simp only [c,if_false,zNn,Mono.mk.injEq,false_and]
theorem zKg (a b:Lf):mD a b=0↔a=b:=by
 have h:=zUd (f:=rM) a.L b.L fun x _ y=>cmpM_zero x y
 have e:a=b↔a.L=b.L/\a.K=b.K:=by
  cases a;cases b;simp only [Lf.mk.injEq];exact ⟨fun k=>⟨k.2,k.1⟩,fun k=>⟨k.2,k.1⟩⟩
 unfold mD
 rw [e]
 by_cases c:gS rM a.L b.L=0
 ·rw [if_pos c,zJn];exact ⟨fun k=>⟨h.1 c,k⟩,fun k=>k.2⟩
 ·rw [if_neg c];exact ⟨fun k=>absurd k c,fun k=>absurd (h.2 k.1) c⟩
theorem cmpIx_zero (a b:Ix):mE a b=0↔a=b:=by
 have h:=zPd (f:=mD) a.At b.At fun x _ y=>zKg x y
 have e:a=b↔a.From=b.From/\a.Lin=b.Lin/\a.At=b.At:=by
  cases a;cases b;simp only [Ix.mk.injEq];exact ⟨fun k=>⟨k.2.1,k.1,k.2.2⟩,fun k=>⟨k.2.1,k.1,k.2.2⟩⟩
 unfold mE
 rw [e]
 by_cases c:sG a.From b.From=0
 ·by_cases d:mD a.Lin b.Lin=0
  ·rw [if_pos c,if_pos d,h];exact ⟨fun k=>⟨(zNn _ _).1 c,(zKg _ _).1 d,k⟩,fun k=>k.2.2⟩
  ·rw [if_pos c,if_neg d];exact ⟨fun k=>absurd k d,fun k=>absurd ((zKg _ _).2 k.2.1) d⟩
 ·rw [if_neg c];exact ⟨fun k=>absurd k c,fun k=>absurd ((zNn _ _).2 k.1) c⟩
theorem cmpTy_zero (a b:Ty):sU a b=0↔a=b:=by
 obtain ⟨a1,a2,a3,a4,a5⟩:=a
 obtain ⟨b1,b2,b3,b4,b5⟩:=b
 unfold sU
 rw [orI_zero]
 simp only [List.mem_cons,List.not_mem_nil,or_false,forall_eq_or_imp,forall_eq,zJn,Ty.mk.injEq]
theorem cmpHd_zero (a b:Ex):nB a b=0↔a.Op=b.Op/\a.Name=b.Name/\a.Val=b.Val/\a.Ty=b.Ty/\a.Lin=b.Lin:=by
 unfold nB
 rw [orI_zero]
 simp only [List.mem_cons,List.not_mem_nil,or_false,forall_eq_or_imp,forall_eq,zJn,zNn,cmpTy_zero,zKg]
 cases hv:a.Val
 cases hw:b.Val
 simp only [Vl.mk.injEq]
 constructor
 ·rintro ⟨h1,h2,h3,h4,h5⟩;exact ⟨h1,h2,⟨h3,h4⟩,h5⟩
 ·rintro ⟨h1,h2,⟨h3,h4⟩,h5⟩;exact ⟨h1,h2,h3,h4,h5⟩
theorem cmpE_zero (a:Ex):∀b:Ex,pM a b=0↔a=b:=by
 induction a using Ex.ind with
 |_ a ih=>
  intro b
  rw [cmpE_eq,Ex.eq_iff]
  have h1:=cmpHd_zero a b
  have h2:=zPd (f:=mE) a.Idx b.Idx fun x _ y=>cmpIx_zero x y
  have h3:=zPd (f:=pM) a.Args b.Args ih
  by_cases c:nB a b=0
  ·by_cases d:jH mE a.Idx b.Idx=0
   ·rw [if_pos c,if_pos d,h3]
    obtain ⟨k1,k2,k3,k4,k5⟩:=h1.1 c
    have k6:=h2.1 d
    exact ⟨fun k=>⟨k1,k2,k3,k4,k5,k6,k⟩,fun k=>k.2.2.2.2.2.2⟩
   ·rw [if_pos c,if_neg d]
    exact ⟨fun k=>absurd k d,fun k=>absurd (h2.2 k.2.2.2.2.2.1) d⟩
  ·rw [if_neg c]
   exact ⟨fun k=>absurd k c,fun k=>absurd (h1.2 ⟨k.1,k.2.1,k.2.2.1,k.2.2.2.1,k.2.2.2.2.1⟩) c⟩
/-! ## Steps of the walks -/
section steps
variable {α:Type} {f:α->α->Int} {a b:List α} {k:Nat} {x y:α}
theorem zRf (h:a[k]? =some x) (hb:¬k<b.length):gS f (a.drop k) (b.drop k)=1:=by rw [yB h,wG hb];rfl
theorem cmpL_ne (h:a[k]? =some x) (hy:b[k]? =some y) (c:¬f x y=0):gS f (a.drop k) (b.drop k)=f x y:=by rw [yB h,yB hy,gS,if_neg c]
theorem zNo (h:a[k]? =some x) (hy:b[k]? =some y) (c:f x y=0):gS f (a.drop k) (b.drop k)=gS f (a.drop (k+1)) (b.drop (k+1)):=by rw [yB h,yB hy,gS,if_pos c]
theorem zNp (h:¬k<a.length) (hb:k<b.length):gS f (a.drop k) (b.drop k)= -1:=by
 rw [wG h]
 cases hd:b.drop k with
 |nil=>have:=congrArg List.length hd;simp at this;omega
 |cons _ _=>rfl
theorem zRg (h:¬k<a.length) (hb:¬k<b.length):gS f (a.drop k) (b.drop k)=0:=by rw [wG h,wG hb];rfl
end steps
theorem cmpI_lt {a b:Int} (h:a<b):gO a b= -1:=if_pos h
theorem cmpI_gt {a b:Int} (h:b<a):gO a b=1:=by unfold gO;rw [if_neg (by omega),if_pos h]
theorem cmpI_eq {a b:Int} (h:¬a<b) (h2:¬b<a):gO a b=0:=by unfold gO;rw [if_neg h,if_neg h2]
theorem orI_at {l:List Int} {k:Nat} {x:Int} (h:l[k]? =some x) (hx:¬x=0):orI (l.drop k)=x:=by rw [yB h,orI,if_neg hx]
theorem orI_next {l:List Int} {k:Nat} {x:Int} (h:l[k]? =some x) (hx:x=0):orI (l.drop k)=orI (l.drop (k+1)):=by rw [yB h,orI,if_pos hx]
theorem strings_Compare (a b:ByteArray):Pur cfg 265 [vS a,vS b] (vI (sG a b)):=by
 intro w I vs hH ha
 match vs,ha with
 |[v,u],ha=>
  obtain ⟨h1,h2,_⟩:=ha
  have e1:v=.string a:=by cases (h1:CRep w I (cS a) v) with|lit _ _=>rfl
  have e2:u=.string b:=by cases (h2:CRep w I (cS b) u) with|lit _ _=>rfl
  subst e1 e2
  refine (Tryz.strings_Compare a b w).mono ?_
  rintro e w' ⟨rfl,rfl⟩
  exact ⟨_,_,[],I,rfl,rfl,CRep.lit _ rfl,hH,Ext.refl _ _ _⟩
end Go.Br
end
