/-
  The program's data,in plain Lean: linear forms,indices,expressions; and the cells that dC them.
  What the program's functions compute,in plain Lean.
  Copies with all forms mapped; weights; in plain Lean.
  Layer 22 in plain Lean.
  Layer 17 in plain Lean: programs,the cells that dC them,and what Find,TypeOf and Validate say of them.
  Layer 17 in plain Lean: the program's Validate and the reference's are one.
  Layer 17 in plain Lean,more: lengths,lists,tables.
  Layer 17 in plain Lean: the memory of the checker and the typer,and laws for their walks.
  Layer 17 in plain Lean: the typer's walk.
  Layer 17 in plain Lean: steps of Validate,the program's and the reference's; what Long says.
  Layer 17 in plain Lean: the example that every statement checks.
  Comparisons in plain Lean: of numbers,strings,forms,indices,expressions; nothing is alike but what is equal.
  Conditions: none.
-/
import Derived.Test.YtnjccggimbnmbaaGreatDoorEngY
import Derived.Test.YtnjccggimbnmbaaGreatDoorNames
import Derived.Test.YtnjccggimbnmbaaGreatDoorEngZ
import Derived.Test.YtnjccggimbnmbaaGreatDoorCfg
import Derived.Lib.Bytealg
set_option linter.unusedSimpArgs false
set_option linter.unusedVariables false
section
namespace Go.Br
open Go Go.Eng Go.L41
structure Mono where
 Name:ByteArray
 By:Int
 deriving DecidableEq
structure Lf where
 K:Int
 L:List Mono
 deriving DecidableEq
structure Vl where
 N:Int
 D:Int
 deriving DecidableEq
structure Ty where
 Kind:Int
 Bits:Int
 Frac:Int
 Round:Int
 Over:Int
 deriving DecidableEq
structure Ix where
 Lin:Lf
 From:ByteArray
 At:List Lf
 deriving DecidableEq
inductive Ex where
 |mk (op:Int) (name:ByteArray) (val:Vl) (ty:Ty) (lin:Lf) (idx:List Ix) (args:List Ex)
namespace Ex
def Op:Ex->Int|mk o _ _ _ _ _ _=>o
def Name:Ex->ByteArray|mk _ x _ _ _ _ _=>x
def Val:Ex->Vl|mk _ _ x _ _ _ _=>x
def Ty:Ex->Br.Ty|mk _ _ _ x _ _ _=>x
def Lin:Ex->Lf|mk _ _ _ _ x _ _=>x
def Idx:Ex->List Ix|mk _ _ _ _ _ x _=>x
def Args:Ex->List Ex|mk _ _ _ _ _ _ x=>x
theorem ind {P:Ex->Prop} (h:∀e:Ex,(∀a,a∈e.Args->P a)->P e) (e:Ex):P e:=
 Ex.rec (motive_1:=P) (motive_2:=fun l=>∀a,a∈l->P a) (fun o n v t l i arg_ ih=>h (mk o n v t l i arg_) ih) (fun a h=>by cases h)
  (fun x l hx hl a ha=>by rcases List.mem_cons.1 ha with rfl|ha;exact hx;exact hl a ha) e
end Ex
mutual
def Ex.eqB:Ex->Ex->Bool
 |.mk o n v t l i arg_,.mk o' n' v' t' l' i' bs=>decide (o=o')&&decide (n=n')&&decide (v=v')&&decide (t=t')&&decide (l=l')&&decide (i=i')&&tN arg_ bs
def tN:List Ex->List Ex->Bool
 |[],[]=>true
 |a::arg_,b::bs=>Ex.eqB a b&&tN arg_ bs
 |_,_=>false
end
mutual
theorem Ex.eqB_iff:∀a b:Ex,Ex.eqB a b=true↔a=b
 |.mk o n v t l i arg_,.mk o' n' v' t' l' i' bs=>by
  simp only [Ex.eqB,Bool.and_eq_true,decide_eq_true_eq,eqBs_iff arg_ bs,Ex.mk.injEq]
  constructor
  ·rintro ⟨⟨⟨⟨⟨⟨h1,h2⟩,h3⟩,h4⟩,h5⟩,h6⟩,h7⟩;exact ⟨h1,h2,h3,h4,h5,h6,h7⟩
  ·rintro ⟨h1,h2,h3,h4,h5,h6,h7⟩;exact ⟨⟨⟨⟨⟨⟨h1,h2⟩,h3⟩,h4⟩,h5⟩,h6⟩,h7⟩
theorem eqBs_iff:∀a b:List Ex,tN a b=true↔a=b
 |[],[]=>by simp [tN]
 |a::arg_,b::bs=>by simp only [tN,Bool.and_eq_true,Ex.eqB_iff a b,eqBs_iff arg_ bs,List.cons.injEq]
 |[],_::_=>by simp [tN]
 |_::_,[]=>by simp [tN]
end
instance:DecidableEq Ex:=fun a b=>decidable_of_iff _ (Ex.eqB_iff a b)
theorem Ex.eq_iff (a b:Ex):a=b↔a.Op=b.Op/\a.Name=b.Name/\a.Val=b.Val/\a.Ty=b.Ty/\a.Lin=b.Lin/\a.Idx=b.Idx/\a.Args=b.Args:=by
 cases a;cases b;simp only [Ex.mk.injEq];rfl
def Mono.cells (x:Mono):List C:=[cS x.Name,cI x.By]
def Lf.cells (x:Lf):List C:=[cI x.K,.sl 2 (x.L.map Mono.cells)]
def Ix.cells (x:Ix):List C:=[cI x.Lin.K,.sl 2 (x.Lin.L.map Mono.cells),cS x.From,.sl 2 (x.At.map Lf.cells)]
def Vl.cells (v:Vl):List C:=[cI v.N,cI v.D]
mutual
def Ex.cells:Ex->List C
 |.mk o n v t l i arg_=>[cI o,cS n,cI v.N,cI v.D,cI t.Kind,cI t.Bits,cI t.Frac,cI t.Round,cI t.Over,cI l.K,.sl 2 (l.L.map Mono.cells),.sl 4 (i.map Ix.cells),.sl 13 (sS arg_)]
def sS:List Ex->List (List C)
 |[]=>[]
 |e::r=>e.cells::sS r
end
theorem cellsL_eq (l:List Ex):sS l=l.map Ex.cells:=by
 induction l with
 |nil=>rfl
 |cons e r ih=>rw [sS,ih];rfl
def Ex.cs (e:Ex):List C:=[cI e.Op,cS e.Name,cI e.Val.N,cI e.Val.D,cI e.Ty.Kind,cI e.Ty.Bits,cI e.Ty.Frac,cI e.Ty.Round,cI e.Ty.Over,cI e.Lin.K,.sl 2 (e.Lin.L.map Mono.cells),.sl 4 (e.Idx.map Ix.cells),.sl 13 (e.Args.map Ex.cells)]
theorem Ex.cells_eq (e:Ex):e.cells=e.cs:=by
 cases e;rw [Ex.cells,cellsL_eq];rfl
abbrev rC (x:Mono):V:=.agg x.cells
abbrev vN (l:List Mono):V:=.c (.sl 2 (l.map Mono.cells))
abbrev nA (x:Lf):V:=.agg x.cells
abbrev rD (l:List Lf):V:=.c (.sl 2 (l.map Lf.cells))
abbrev jD (x:Ix):V:=.agg x.cells
abbrev mP (l:List Ix):V:=.c (.sl 4 (l.map Ix.cells))
abbrev vE (x:Ex):V:=.agg x.cs
abbrev vEs (l:List Ex):V:=.c (.sl 13 (l.map Ex.cells))
abbrev vTy (t:Ty):V:=.agg [cI t.Kind,cI t.Bits,cI t.Frac,cI t.Round,cI t.Over]
abbrev bJ (v:Vl):V:=.agg [cI v.N,cI v.D]
abbrev lB (n:Int):V:=.c (.lit (.int .u64 n))
theorem zJt {l:List Ex} {k:Nat} {x:Ex} (h:l[k]? =some x):(l.map Ex.cells)[k]? =some x.cs:=by
 rw [D h,Ex.cells_eq]
def mD:List Lf->Nat
 |[]=>0
 |l::r=>l.L.length+mD r
def Ix.wt (x:Ix):Nat:=x.Lin.L.length+x.At.length+mD x.At
def gB:List Ix->Nat
 |[]=>0
 |x::r=>x.wt+gB r
mutual
def Ex.wt:Ex->Nat
 |.mk _ _ _ _ l i arg_=>1+l.L.length+i.length+gB i+gD arg_
def gD:List Ex->Nat
 |[]=>0
 |e::r=>e.wt+gD r
end
theorem Ex.wt_eq (e:Ex):e.wt=1+e.Lin.L.length+e.Idx.length+gB e.Idx+gD e.Args:=by cases e;rw [Ex.wt];rfl
theorem Ex.wt_pos (e:Ex):1<=e.wt:=by rw [Ex.wt_eq];omega
theorem argsWt_mem {l:List Ex} {a:Ex} (h:a∈l):a.wt+(l.length-1)<=gD l:=by
 induction l with
 |nil=>cases h
 |cons x r ih=>
  rw [gD]
  rcases List.mem_cons.1 h with rfl|h
  ·have:r.length<=gD r:=by
    clear ih h
    induction r with
    |nil=>simp [gD]
    |cons y r ih=>rw [gD,List.length_cons];have:=y.wt_pos;omega
   simp;omega
  ·have:=ih h
   have:=x.wt_pos
   have:0<r.length:=List.length_pos_of_mem h
   simp;omega
theorem argsWt_len (l:List Ex):l.length<=gD l:=by
 induction l with
 |nil=>simp [gD]
 |cons y r ih=>rw [gD,List.length_cons];have:=y.wt_pos;omega
theorem zFg {l:List Lf} {a:Lf} (h:a∈l):a.L.length<=mD l:=by
 induction l with
 |nil=>cases h
 |cons x r ih=>
  rw [mD]
  rcases List.mem_cons.1 h with rfl|h
  ·omega
  ·have:=ih h;omega
theorem zJs {l:List Ix} {a:Ix} (h:a∈l):a.wt<=gB l:=by
 induction l with
 |nil=>cases h
 |cons x r ih=>
  rw [gB]
  rcases List.mem_cons.1 h with rfl|h
  ·omega
  ·have:=ih h;omega
theorem Ex.parts {e:Ex} {B:Nat} (h:e.wt<=B):e.Lin.L.length<=B/\e.Idx.length<=B/\e.Args.length<=B:=by
 rw [Ex.wt_eq] at h
 have:=argsWt_len e.Args
 omega
theorem Ex.arg_wt {e a:Ex} (h:a∈e.Args):a.wt<e.wt:=by
 rw [Ex.wt_eq e]
 have:=argsWt_mem h
 omega
theorem Ex.idx_wt {e:Ex} {x:Ix} (h:x∈e.Idx):x.Lin.L.length<=e.wt/\x.At.length<=e.wt/\mD x.At<=e.wt:=by
 rw [Ex.wt_eq e]
 have:=zJs h
 unfold Ix.wt at this
 omega
theorem yA {α:Type} {l:List α} {k:Nat} {x:α} (h:l[k]? =some x):l.drop k=x::l.drop (k+1):=by
 have hk:k<l.length:=(List.getElem?_eq_some_iff.1 h).1
 rw [List.drop_eq_getElem_cons hk]
 rw [List.getElem?_eq_getElem hk] at h
 simp at h
 rw [h]
theorem wE {α:Type} {l:List α} {k:Nat} (h:¬k<l.length):l.drop k=[]:=List.drop_of_length_le (by omega)
theorem zDd {α:Type} {a b:List α} {k:Nat} {x y:α} (hx:a[k]? =some x) (hy:b[k]? =some y) (h:a.take k=b.take k) (e:x=y):a.take (k+1)=b.take (k+1):=by
 rw [kK hx,kK hy,h,e]
theorem zFh {α:Type} {a b:List α} {k:Nat} (h:a.take k=b.take k) (h1:¬k<a.length) (h2:a.length=b.length):a=b:=by
 rw [yP h1,yP (by omega)] at h
 exact h
theorem zGx {α:Type} {a b:List α} {k:Nat} {x y:α} (hx:a[k]? =some x) (hy:b[k]? =some y) (h:¬x=y):¬a=b:=by
 rintro rfl
 rw [hx] at hy
 exact h (Option.some.inj hy)
theorem qK {p:Prop} [Decidable p] (h:¬p):decide p=false:=decide_eq_false h
theorem zAi {p:Prop} [Decidable p] (h:p):decide p=true:=decide_eq_true h
theorem qL {α:Type} {l:List α} {k:Nat} {x:α} (h:l[k]? =some x):x∈l:=List.mem_of_getElem? h
end Go.Br
end
section
namespace Go.Br
open Go Go.Eng Go.L41
/-! ## Linear forms -/
def ltO:Option ByteArray->ByteArray->Bool
 |none,_=>true
 |some q,n=>tQ q n
def lL:Option ByteArray->List Mono->Bool
 |_,[]=>true
 |p,m::r=>bU m.Name&& !decide (m.By=0)&&ltO p m.Name&&lL (some m.Name) r
def fW (l:Lf):Bool:=lL none l.L
def nM (l:Lf):Int:=bif fW l then 0 else 1
def pv (l:List Mono) (k:Nat):Mono:=l.getD (k-1) ⟨bs [],0⟩
def mB (l:List Mono) (k:Nat):Option ByteArray:=if k=0 then none else some (pv l k).Name
def vJ (l:List Mono) (k:Nat) (x:Mono):Bool:=(!bU x.Name||decide (x.By=0))||(decide ((0:Int)<k)&& !tQ (pv l k).Name x.Name)
theorem pv_get {α:Type} {f:Mono->α} {l:List Mono} {k:Nat} (h0:0<k) (h:k<=l.length):(l.map f)[((k:Int)-1).toNat]? =some (f (pv l k)):=by
 have e:((k:Int)-1).toNat=k-1:=by omega
 have h1:k-1<l.length:=by omega
 rw [e,List.getElem?_map,List.getElem?_eq_getElem h1]
 simp [pv,List.getD,List.getElem?_eq_getElem h1]
theorem pv_next {l:List Mono} {k:Nat} {x:Mono} (h:l[k]? =some x):pv l (k+1)=x:=by simp [pv,List.getD,h]
theorem zKi {l:List Mono} {k:Nat} {x:Mono} (h:l[k]? =some x):lL (mB l k) (l.drop k)=(!vJ l k x&&lL (mB l (k+1)) (l.drop (k+1))):=by
 rw [yA h,lL]
 have e:mB l (k+1)=some x.Name:=by simp [mB,pv_next h]
 rw [e]
 congr 1
 unfold vJ mB ltO
 by_cases hk:k=0
 ·subst hk;simp
 ·have hk':(0:Int)<k:=by omega
  rw [if_neg hk,decide_eq_true hk']
  cases bU x.Name<;>cases decide (x.By=0)<;>simp
theorem monos_end {l:List Mono} {k:Nat} (h:¬k<l.length):lL (mB l k) (l.drop k)=true:=by
 rw [wE h];cases mB l k<;>rfl
def bW {α:Type} (p:α->Bool):List α->Int
 |[]=> -1
 |x::r=>bif p x then 0 else (bif decide (bW p r= -1) then-1 else bW p r+1)
theorem zMq {α:Type} (p:α->Bool) (l:List α): -1<=bW p l:=by
 induction l with
 |nil=>simp [bW]
 |cons x r ih=>unfold bW;cases p x<;>simp;by_cases h:bW p r= -1<;>simp [h];omega
theorem zHb {α:Type} (p:α->Bool) (l:List α):decide (0<=bW p l)=l.any p:=by
 induction l with
 |nil=>rfl
 |cons x r ih=>
  have:=zMq p r
  unfold bW
  cases hp:p x
  ·simp only [cond_false,List.any_cons,hp,Bool.false_or,←ih]
   by_cases h:bW p r= -1
   ·simp [h]
   ·simp [h];omega
  ·simp [hp]
theorem zFx {α:Type} {p:α->Bool} {l:List α} {k:Nat} {x:α} (h:l[k]? =some x) (hp:p x=true) (hn:(l.take k).any p=false):bW p l=k:=by
 induction l generalizing k with
 |nil=>simp at h
 |cons y r ih=>
  cases k with
  |zero=>simp at h;subst h;simp [bW,hp]
  |succ k=>
   simp only [List.take_succ_cons,List.any_cons,Bool.or_eq_false_iff] at hn
   have:=ih (k:=k) (by simpa using h) hn.2
   simp only [bW,hn.1,cond_false,this]
   have h2:¬((k:Int)= -1):=by omega
   simp [h2]
theorem zDg {α:Type} {p:α->Bool} {l:List α} (hn:l.any p=false):bW p l= -1:=by
 induction l with
 |nil=>rfl
 |cons y r ih=>
  simp only [List.any_cons,Bool.or_eq_false_iff] at hn
  simp [bW,hn.1,ih hn.2]
theorem zAj {α:Type} {p:α->Bool} {l:List α} {k:Nat} {x:α} (h:l[k]? =some x) (hn:(l.take k).any p=false) (hp:p x=false):(l.take (k+1)).any p=false:=by
 rw [kK h,List.any_append,hn];simp [hp]
/-! ## Types and values -/
def bD (t:Ty):Bool:=
 ((decide (t.Kind=1)||decide (t.Kind=3))&&decide (t.Bits=0)&&decide (t.Frac=0)&&decide (t.Round=0)&&decide (t.Over=0))||
 (decide (t.Kind=2)&&decide (2<=t.Bits)&&decide (t.Bits<=31)&&decide (0<=t.Frac)&&decide (t.Frac<=30)&&decide (1<=t.Round)&&decide (t.Round<=4)&&(decide (t.Over=1)||decide (t.Over=2)))
def bS (t:Ty):Int:=bif bD t then 0 else 10
def bP (t:Ty):Bool:=decide (t.Kind=2)&&decide (2<=t.Bits)&&decide (t.Bits<=31)&&decide (0<=t.Frac)&&decide (t.Frac<=30)&&decide (1<=t.Round)&&decide (t.Round<=4)&&(decide (t.Over=1)||decide (t.Over=2))
def bL (b:Int):Int:=2^(b-1).toNat
def bI (n:Int):Bool:=decide (-2147483647<=n)&&decide (n<=2147483647)
def bC (t:Ty) (v:Vl):Bool:=
 bif decide (t.Kind=2) then decide (v.D=1)&&decide (-bL t.Bits<=v.N)&&decide (v.N<bL t.Bits)
 else bif decide (t.Kind=3) then decide (v.D=1)&&bI v.N
 else decide (1<=v.D)&&decide (v.D<=2147483647)&&bI v.N&&decide (Int.gcd v.N v.D=1)
def pL (t:Ty):Vl:=bif bD t then ⟨0,1⟩ else ⟨0,0⟩
theorem wY {t:Ty} (h:t.Kind=2):bD t=bP t:=by simp [bD,bP,h]
theorem zDz {b:Int} (h1:2<=b) (h2:b<=31):1<=bL b/\bL b<=1073741824:=by
 unfold bL
 have h3:(b-1).toNat<=30:=by omega
 have h4:(2:Int)^(b-1).toNat<=2^30:=by
  have:=Nat.pow_le_pow_right (n:=2) (by omega) h3
  exact_mod_cast this
 have h5:(1:Int)<=2^(b-1).toNat:=by
  have:=Nat.one_le_two_pow (n:=(b-1).toNat)
  exact_mod_cast this
 omega
/-! ## Conditions as the walks meet them -/
theorem lin_mk {a b:Lf} (h:a.K=b.K) (k:a.L=b.L):a=b:=by cases a;cases b;simp_all
theorem mono_ne {x y:Mono} (h:(!bF x.cells y.cells)=true):¬x=y:=by
 rintro rfl
 simp [bF,cEq,Mono.cells] at h
theorem mono_eq {x y:Mono} (h:(!bF x.cells y.cells)=false):x=y:=by
 cases x;cases y
 simpa [bF,cEq,Mono.cells] using h
def mI (s:ByteArray) (k:Nat):Int:=(s.data.toList.getD k 0).toNat
def sN (s:ByteArray):Bool:=(((decide ((s.size:Int)<1)||decide ((16:Int)<s.size))||dW words s)||decide (mI s 0<97))||decide (122<mI s 0)
theorem ident_no {s:ByteArray} (h:sN s=true):bU s=false:=by
 unfold sN mI at h
 cases hn:bU s with
 |false=>rfl
 |true=>
  exfalso
  simp only [bU,Bool.and_eq_true,decide_eq_true_eq,Bool.not_eq_true'] at hn
  obtain ⟨⟨⟨⟨h1,h2⟩,h3⟩,h4⟩,h5⟩:=hn
  have h6:s.data.toList.head? =some (s.data.toList.getD 0 0):=by rw [List.head?_eq_getElem?];exact zEd (by omega)
  rw [h6] at h3
  simp only [Option.all_some,mE,lM,Bool.and_eq_true,decide_eq_true_eq] at h3
  simp only [Bool.or_eq_true,decide_eq_true_eq,h5] at h
  rcases h with (((h|h)|h)|h)|h
  ·omega
  ·omega
  ·cases h
  ·omega
  ·omega
theorem ident_yes {s:ByteArray} (h:sN s=false):1<=s.size/\s.size<=16/\bU s=s.data.toList.all fU:=by
 unfold sN mI at h
 simp only [Bool.or_eq_false_iff,decide_eq_false_iff_not] at h
 obtain ⟨⟨⟨⟨h1,h2⟩,h3⟩,h4⟩,h5⟩:=h
 have h7:1<=s.size:=by omega
 refine ⟨h7,by omega,?_⟩
 have h6:s.data.toList.head? =some (s.data.toList.getD 0 0):=by rw [List.head?_eq_getElem?];exact zEd (by omega)
 unfold bU
 rw [h6,h3]
 have e1:decide (1<=s.size)=true:=by simp;omega
 have e2:decide (s.size<=16)=true:=by simp;omega
 have e3:mE (s.data.toList.getD 0 0)=true:=by simp only [mE,lM,Bool.and_eq_true,decide_eq_true_eq];omega
 simp only [e1,e2,Option.all_some,e3,Bool.true_and,Bool.not_false,Bool.and_true]
def pY (n:Int):Bool:=((decide (n<97)||decide (122<n))&&(decide (n<48)||decide (57<n)))&& !decide (n=95)
theorem notWord_eq (c:UInt8):pY c.toNat= !fU c:=by
 unfold pY fU nY lM sP
 rw [Bool.eq_iff_iff]
 simp only [Bool.and_eq_true,Bool.or_eq_true,Bool.not_eq_true',Bool.or_eq_false_iff,Bool.and_eq_false_iff,decide_eq_true_eq,decide_eq_false_iff_not]
 omega
theorem word_no {s:ByteArray} {k:Nat} (hlt:k<s.size) (h:pY ((s.data.toList.getD k 0).toNat:Int)=true):s.data.toList.all fU=false:=by
 rw [notWord_eq] at h
 rw [List.all_eq_false]
 exact ⟨_,List.mem_of_getElem? (zEd hlt),by simpa using h⟩
theorem word_yes {s:ByteArray} {k:Nat} (hlt:k<s.size) (hp:(s.data.toList.take k).all fU=true) (h:pY ((s.data.toList.getD k 0).toNat:Int)=false):(s.data.toList.take (k+1)).all fU=true:=by
 rw [notWord_eq] at h
 rw [zNo (zEd hlt),hp]
 simpa using h
theorem word_all {s:ByteArray} {k:Nat} (hp:(s.data.toList.take k).all fU=true) (h:¬k<s.size):s.data.toList.all fU=true:=by
 rw [List.take_of_length_le (by simp;omega)] at hp
 exact hp
def sE (t:Ty):Bool:=decide (t.Bits=0)&&decide (t.Frac=0)&&decide (t.Round=0)&&decide (t.Over=0)
theorem plainT_eq (t:Ty):bF [cI t.Kind,cI t.Bits,cI t.Frac,cI t.Round,cI t.Over] [cI t.Kind,.lit (.int .i64 0),.lit (.int .i64 0),.lit (.int .i64 0),.lit (.int .i64 0)]=sE t:=by
 simp [bF,cEq,sE,Bool.and_assoc]
def pZ (t:Ty):Bool:=((((!decide (t.Kind=2)||decide (t.Bits<2))||decide (31<t.Bits))||decide (t.Frac<0))||decide (30<t.Frac))|| !((decide (1<=t.Round)&&decide (t.Round<=4))&&(decide (t.Over=1)||decide (t.Over=2)))
theorem fixCond_eq (t:Ty):pZ t= !bP t:=by
 unfold pZ bP
 rw [Bool.eq_iff_iff]
 simp only [Bool.and_eq_true,Bool.or_eq_true,Bool.not_eq_true',Bool.or_eq_false_iff,Bool.and_eq_false_iff,decide_eq_true_eq,decide_eq_false_iff_not]
 omega
theorem fix_no {t:Ty} (h:pZ t=true):bP t=false:=by rw [fixCond_eq] at h;simpa using h
theorem fix_yes {t:Ty} (h:pZ t=false):bP t=true:=by rw [fixCond_eq] at h;simpa using h
theorem type1 {t:Ty} (h:(decide (t.Kind=1)||decide (t.Kind=3))=true):(((decide (t.Bits=0)&&decide (t.Frac=0))&&decide (t.Round=0))&&decide (t.Over=0))=bD t:=by
 unfold bD
 rw [h]
 have:decide (t.Kind=2)=false:=by
  simp only [Bool.or_eq_true,decide_eq_true_eq] at h
  simp;omega
 simp [this]
theorem type2 {t:Ty} (h:(decide (t.Kind=1)||decide (t.Kind=3))=false):(((((((decide (t.Kind=2)&&decide (2<=t.Bits))&&decide (t.Bits<=31))&&decide (0<=t.Frac))&&decide (t.Frac<=30))&&decide (1<=t.Round))&&decide (t.Round<=4))&&(decide (t.Over=1)||decide (t.Over=2)))=bD t:=by
 unfold bD
 rw [h]
 simp
theorem tyk1 {t:Ty} (h:t.Kind=1∨t.Kind=3):bD t=sE t:=by
 rw [←type1 (t:=t) (by simpa using h)];rfl
theorem tyk0 {t:Ty} (h1:¬t.Kind=1) (h3:¬t.Kind=3) (h2:¬t.Kind=2):bD t=false:=by
 simp [bD,h1,h2,h3]
theorem zHl {t:Ty} (h:¬bS t=0):bD t=false:=by
 unfold bS at h;cases ht:bD t<;>simp_all
theorem zEc {t:Ty} (h:bS t=0):bD t=true:=by
 unfold bS at h;cases ht:bD t<;>simp_all
theorem zCh {n:Int} (h:0<=n/\n<=18446744073709551615):IntKind.u64.wrap n=n:=IntWalk.u64_in _ h
theorem zMl {b:Int} (h1:2<=b) (h2:b<=31):IntKind.i64.wrap (1*2^(min (IntKind.u64.wrap (b-1)).toNat IntKind.i64.bits))=bL b:=by
 rw [zCh (by omega)]
 have h3:=zDz h1 h2
 have h4:min (b-1).toNat IntKind.i64.bits=(b-1).toNat:=Nat.min_eq_left (by simp [IntKind.bits];omega)
 rw [h4,Int.one_mul]
 exact zAv ⟨by unfold bL at h3;omega,by unfold bL at h3;omega⟩
theorem min_eq {b:Int} (h1:2<=b) (h2:b<=31):IntKind.i64.wrap (-(IntKind.i64.wrap (1*2^(min (IntKind.u64.wrap (b-1)).toNat IntKind.i64.bits))))= -bL b:=by
 rw [zMl h1 h2]
 have:=zDz h1 h2
 exact zAv ⟨by omega,by omega⟩
theorem max_eq {b:Int} (h1:2<=b) (h2:b<=31):IntKind.i64.wrap (IntKind.i64.wrap (1*2^(min (IntKind.u64.wrap (b-1)).toNat IntKind.i64.bits))-1)=bL b-1:=by
 rw [zMl h1 h2]
 have:=zDz h1 h2
 exact zAv ⟨by omega,by omega⟩
theorem fixB {t:Ty} (h:bP t=true):2<=t.Bits/\t.Bits<=31:=by
 simp only [bP,Bool.and_eq_true,decide_eq_true_eq] at h
 omega
theorem fxz {t:Ty} (h:(bif bP t then (0:Int) else 10)=0):bP t=true:=by cases ht:bP t<;>simp_all
theorem fxn {t:Ty} (h:¬(bif bP t then (0:Int) else 10)=0):bP t=false:=by cases ht:bP t<;>simp_all
theorem fxa {t:Ty} {p:Bool} (h:Lz (decide ((bif bP t then (0:Int) else 10)=0)&&p) true=true):bP t=true:=by
 simp only [Lz,cond_true,Bool.and_eq_true,decide_eq_true_eq] at h
 exact fxz h.1
theorem fxb {t:Ty} {p q:Bool} (h:Lz (decide ((bif bP t then (0:Int) else 10)=0)&&p&&q) true=true):bP t=true:=by
 simp only [Lz,cond_true,Bool.and_eq_true,decide_eq_true_eq] at h
 exact fxz h.1.1
theorem fixV (t:Ty) (v:Vl):(decide ((bif bP t then (0:Int) else 10)=0)&&decide (v.D=1)&&decide (-bL t.Bits<=v.N)&&decide (v.N<=bL t.Bits-1))=(bP t&&(decide (v.D=1)&&decide (-bL t.Bits<=v.N)&&decide (v.N<bL t.Bits))):=by
 have:decide (v.N<=bL t.Bits-1)=decide (v.N<bL t.Bits):=decide_eq_decide.2 (by omega)
 rw [this]
 cases bP t<;>simp
theorem mag_neg {n:Int} (h:n<0) (hn: -9223372036854775808<=n):IntKind.u64.wrap (-(IntKind.u64.wrap n))=n.natAbs:=by
 have e:IntKind.u64.wrap n=n+18446744073709551616:=by simp [IntKind.wrap,IntKind.bits,IntKind.signed];omega
 rw [e]
 simp [IntKind.wrap,IntKind.bits,IntKind.signed];omega
theorem mag_pos {n:Int} (h:¬n<0) (hn:n<=9223372036854775807):IntKind.u64.wrap n=n.natAbs:=by
 rw [zCh (by omega)];omega
theorem gcd_step {x y:Nat} (h:¬y=0):Nat.gcd x y=Nat.gcd y (x%y):=by
 rw [Nat.gcd_comm x y,Nat.gcd_rec y x,Nat.gcd_comm]
theorem frV {v:Vl} (h:Lz (decide (1<=v.D)&&decide (v.D<=2147483647)&&bI v.N) true=true):1<=v.D/\v.D<=2147483647/\ -9223372036854775808<=v.N/\v.N<=9223372036854775807:=by
 simp only [Lz,cond_true,Bool.and_eq_true,decide_eq_true_eq,bI] at h
 omega
theorem u64_D {d:Int} (h1:1<=d) (h2:d<=2147483647):IntKind.u64.wrap d=d.natAbs:=by
 rw [zCh (by omega)];omega
theorem max_abs {n:Int} (h1: -2147483647<=n) (h2:n<=2147483647):max n (IntKind.i64.wrap (-n))=n.natAbs:=by
 rw [zAv ⟨by omega,by omega⟩];omega
def sA (v:Vl):Bool:=((decide (2147483647<v.N)||decide (v.N< -2147483647))||decide (v.D<1))||decide (2147483647<v.D)
theorem val_in {v:Vl} (h:sA v=false): -2147483647<=v.N/\v.N<=2147483647/\1<=v.D/\v.D<=2147483647:=by
 simp only [sA,Bool.or_eq_false_iff,decide_eq_false_iff_not] at h
 omega
theorem val_out {t:Ty} {v:Vl} (hk:¬t.Kind=2) (h:sA v=true):bC t v=false:=by
 unfold bC bI
 rw [qK hk]
 simp only [sA,Bool.or_eq_true,decide_eq_true_eq] at h
 by_cases h3:t.Kind=3
 ·simp [h3];omega
 ·simp [h3];omega
theorem valfix {t:Ty} {v:Vl} (hk:t.Kind=2) (b1:2<=t.Bits) (b2:t.Bits<=31):(decide (v.D=1)&&decide (IntKind.i64.wrap (-(IntKind.i64.wrap (1*2^(min (t.Bits-1).toNat IntKind.i64.bits))))<=v.N)&&decide (v.N<IntKind.i64.wrap (1*2^(min (t.Bits-1).toNat IntKind.i64.bits))))=bC t v:=by
 have e:=zMl b1 b2
 have e':=min_eq b1 b2
 rw [zCh (by omega)] at e e'
 rw [e',e,bC,hk]
 rfl
/-! ## Expressions -/
def bK (op:Int):Int:=if op=1∨op=2∨op=3 then 0 else if op=8∨op=12∨op=18 then 1 else if op=11 then 3 else 2
def bO (e:Ex):Bool:=decide (13<=e.Op)&&decide (e.Op<=18)
def fZ (op i:Int):Bool:=(((decide (op=11)&&decide (i=0))||decide (op=16))||decide (op=17))||decide (op=18)
def nQ (l:Lf):Bool:=decide (l.K=0)&&decide ((l.L.length:Int)=0)
def jV (x:Ix):Bool:=bif decide (x.From=bs []) then decide ((x.At.length:Int)=0) else nQ x.Lin
def rB (v:Vl):Bool:=bF [cI v.N,cI v.D] [cI 0,cI 0]
def ty0 (t:Ty):Bool:=bF [cI t.Kind,cI t.Bits,cI t.Frac,cI t.Round,cI t.Over] [cI 0,cI 0,cI 0,cI 0,cI 0]
def hY (e:Ex):Bool:=
 !(decide (e.Op<1)||decide (18<e.Op))&& !(!decide (e.Op=1)&& !rB e.Val)&& !(!(decide (e.Op=1)||decide (e.Op=12))&& !ty0 e.Ty)&& !(!decide (e.Op=2)&& !nQ e.Lin)&&
 !(!decide (e.Op=3)&&(!decide (e.Name=bs [])||decide ((0:Int)<e.Idx.length)))&&e.Idx.all jV
def sI (x:Ix):Bool:= !(!decide (x.From=bs [])&& !bU x.From)
def lP (e:Ex):Bool:= !(decide (e.Op=3)&& !bU e.Name)&&e.Idx.all sI
def sD (x:Ix):Bool:= !decide ((6:Int)<x.At.length)
def mS (e:Ex):Bool:= !(!decide ((e.Args.length:Int)=bK e.Op)||decide ((6:Int)<e.Idx.length))&&e.Idx.all sD
def fV (op i:Int):List Ex->Bool
 |[]=>true
 |a::r=>(bO a==fZ op i)&&fV op (i+1) r
def gU (e:Ex):Bool:= !((decide (e.Op=1)||decide (e.Op=12))&& !bD e.Ty)&&fV e.Op 0 e.Args
def gY (e:Ex):List Lf:=e.Lin::e.Idx.flatMap fun x=>x.Lin::x.At
def jS (e:Ex):Bool:= !(decide (e.Op=1)&& !bC e.Ty e.Val)&&(gY e).all fW
def bQ (e:Ex):Int:=bif !hY e then 5 else bif !lP e then 7 else bif !mS e then 11 else bif !gU e then 10 else bif !jS e then 1 else 0
mutual
def dI:Ex->List Ex
 |.mk o n v t l i arg_=>.mk o n v t l i arg_::bV arg_
def bV:List Ex->List Ex
 |[]=>[]
 |e::r=>dI e++bV r
end
theorem zDj (e:Ex):dI e=e::bV e.Args:=by cases e;rw [dI];rfl
theorem zMi (a b:List Ex):bV (a++b)=bV a++bV b:=by
 induction a with
 |nil=>rfl
 |cons x r ih=>rw [List.cons_append,bV,bV,ih,List.append_assoc]
def gI:List Ex->Int
 |[]=>0
 |e::r=>bif decide (bQ e=0) then gI r else bQ e
theorem zGb (a b:List Ex):gI (a++b)=bif decide (gI a=0) then gI b else gI a:=by
 induction a with
 |nil=>rfl
 |cons x r ih=>
  rw [List.cons_append,gI,gI,ih]
  by_cases h:bQ x=0
  ·simp [h]
  ·simp [h]
def fK (e:Ex):Int:=gI (dI e)
def rJ (l:List Ex):Int:=gI (bV l)
theorem zFu (e:Ex):fK e=bif decide (bQ e=0) then rJ e.Args else bQ e:=by rw [fK,zDj,gI];rfl
theorem zOc (e:Ex) (r:List Ex):rJ (e::r)=bif decide (fK e=0) then rJ r else fK e:=by rw [rJ,bV,zGb];rfl
def rU (f:Ex->Int) (d:Int):List Ex->Int
 |[]=>d
 |a::r=>rU f (max d (1+f a)) r
def jT:Nat->Ex->Int
 |0,_=>1
 |n+1,e=>rU (jT n) 1 e.Args
theorem depF_le {f:Ex->Int} {n:Int} (h:∀a,1<=f a/\f a<=n):∀(l:List Ex) (d:Int),1<=d->d<=n+1->1<=rU f d l/\rU f d l<=n+1
 |[],d,h1,h2=>⟨h1,h2⟩
 |a::r,d,h1,h2=>by
  have:=h a
  exact depF_le h r _ (by omega) (by omega)
theorem depT_le:∀(n:Nat) (e:Ex),1<=jT n e/\jT n e<=n+1
 |0,e=>by simp [jT]
 |n+1,e=>by
  have:=depF_le (n:=n+1) (depT_le n) e.Args 1 (by omega) (by omega)
  rw [jT];omega
mutual
def rR:Ex->Nat->Nat
 |.mk _ _ _ _ _ _ arg_,most=>rG arg_ most 1
def rG:List Ex->Nat->Nat->Nat
 |[],_,n=>n
 |a::r,most,n=>if n<=most then rG r most (n+rR a (most-n)) else n
end
theorem sizE_eq (e:Ex) (m:Nat):rR e m=rG e.Args m 1:=by cases e;rw [rR];rfl
mutual
theorem sizE_min:∀(e:Ex) (m:Nat),rR e m=min (dI e).length (m+1)
 |.mk o n v t l i arg_,m=>by
  rw [rR,dI,sizL_min arg_ m 1 (by omega)]
  simp;omega
theorem sizL_min:∀(l:List Ex) (m n:Nat),n<=m+1->rG l m n=min (n+(bV l).length) (m+1)
 |[],m,n,h=>by simp [rG,bV];omega
 |a::r,m,n,h=>by
  rw [rG,bV,List.length_append]
  split
  ·rename_i hn
   rw [sizE_min a (m-n),sizL_min r m _ (by omega)]
   omega
  ·omega
end
def szT (e:Ex):Nat:=min (dI e).length 2001
def fX (e:Ex):Int:=bif decide (40<jT 40 e) then 13 else bif decide ((2000:Int)<szT e) then 2 else fK e
theorem nodes_wt:∀e:Ex,(dI e).length<=e.wt:=by
 intro e
 induction e using Ex.ind with
 |_ e ih=>
  rw [zDj,Ex.wt_eq]
  have:∀l:List Ex,(∀a,a∈l->(dI a).length<=a.wt)->(bV l).length<=gD l:=by
   intro l hl
   induction l with
   |nil=>simp [bV]
   |cons a r ihr=>
    rw [bV,gD,List.length_append]
    have h1:=hl a (by simp)
    have h2:=ihr fun b hb=>hl b (by simp [hb])
    omega
  have:=this e.Args ih
  simp;omega
theorem zLn:∀(e x:Ex),x∈dI e->x.wt<=e.wt:=by
 intro e
 induction e using Ex.ind with
 |_ e ih=>
  intro x hx
  rw [zDj] at hx
  rcases List.mem_cons.1 hx with rfl|hx
  ·omega
  ·have:∀l:List Ex,(∀a,a∈l->a∈e.Args)->x∈bV l->x.wt<=e.wt:=by
    intro l hl hx
    induction l with
    |nil=>simp [bV] at hx
    |cons a r ihr=>
     rw [bV] at hx
     rcases List.mem_append.1 hx with h|h
     ·have h1:=ih a (hl a (by simp)) x h
      have h2:=Ex.arg_wt (hl a (by simp))
      omega
     ·exact ihr (fun b hb=>hl b (by simp [hb])) h
   exact this e.Args (fun a h=>h) hx
theorem zJo {α:Type} (l:List α) (p:α->Bool):(!l.any fun x=> !p x)=l.all p:=by
 induction l with
 |nil=>rfl
 |cons x r ih=>simp only [List.any_cons,List.all_cons,←ih];cases p x<;>simp
theorem zRi {α:Type} {p:α->Bool} {l:List α} {k:Nat} {x:α} (h:l[k]? =some x) (hp:l.all p=(l.drop k).all p) (hx:p x=true):l.all p=(l.drop (k+1)).all p:=by
 rw [hp,yA h,List.all_cons,hx];rfl
theorem zIo {α:Type} {p:α->Bool} {l:List α} {k:Nat} {x:α} (h:l[k]? =some x) (hx:p x=false):l.all p=false:=by
 rw [List.all_eq_false];exact ⟨x,qL h,by simp [hx]⟩
theorem all_end {α:Type} {p:α->Bool} {l:List α} {k:Nat} (hp:l.all p=(l.drop k).all p) (h:¬k<l.length):l.all p=true:=by
 rw [hp,wE h];rfl
theorem tyErr_dec (t:Ty):decide (bS t=0)=bD t:=by unfold bS;cases bD t<;>rfl
theorem linErr_ne {l:Lf} (h:¬nM l=0):fW l=false:=by unfold nM at h;cases hl:fW l<;>simp_all
theorem linErr_eq {l:Lf} (h:nM l=0):fW l=true:=by unfold nM at h;cases hl:fW l<;>simp_all
theorem plain2 {e:Ex} {b:Bool} (h:((!decide (e.Op=1)&& !bF [cI e.Val.N,cI e.Val.D] [cI 0,cI 0])||((!decide (e.Op=1)&& !decide (e.Op=12))&& !bF [cI e.Ty.Kind,cI e.Ty.Bits,cI e.Ty.Frac,cI e.Ty.Round,cI e.Ty.Over] [cI 0,cI 0,cI 0,cI 0,cI 0]))=b):
  ((!decide (e.Op=1)&& !rB e.Val)||(!(decide (e.Op=1)||decide (e.Op=12))&& !ty0 e.Ty))=b:=by
 rw [←h];unfold rB ty0;cases decide (e.Op=1)<;>simp
theorem plain3 {e:Ex} {b:Bool} (h:((!decide (e.Op=2)&&(!decide (e.Lin.K=0)||decide ((0:Int)<e.Lin.L.length)))||(!decide (e.Op=3)&&(!decide (e.Name=bs [])||decide ((0:Int)<e.Idx.length))))=b):
  ((!decide (e.Op=2)&& !nQ e.Lin)||(!decide (e.Op=3)&&(!decide (e.Name=bs [])||decide ((0:Int)<e.Idx.length))))=b:=by
 rw [←h]
 have:(!nQ e.Lin)=(!decide (e.Lin.K=0)||decide ((0:Int)<e.Lin.L.length)):=by
  unfold nQ
  rw [Bool.not_and]
  congr 1
  exact v45
 rw [this]
theorem well_dec {x:Ix} {b:Bool} (h:((decide (x.From=bs [])&&decide ((0:Int)<x.At.length))||(!decide (x.From=bs [])&&(!decide (x.Lin.K=0)||decide ((0:Int)<x.Lin.L.length))))=b):(!jV x)=b:=by
 rw [←h]
 unfold jV nQ
 by_cases hf:x.From=bs []
 ·simp only [hf,decide_true,cond_true,Bool.true_and,Bool.not_true,Bool.false_and,Bool.or_false]
  exact v45
 ·simp only [hf,decide_false,cond_false,Bool.false_and,Bool.not_false,Bool.true_and,Bool.false_or,Bool.not_and]
  congr 1
  exact v45
theorem syn2 {e:Ex} (h:((!decide (e.Op=1)&& !rB e.Val)||(!(decide (e.Op=1)||decide (e.Op=12))&& !ty0 e.Ty))=true):false=hY e:=by
 unfold hY
 rw [Bool.or_eq_true] at h
 rcases h with h|h<;>simp only [h,Bool.not_true,Bool.and_false,Bool.false_and]
theorem syn3 {e:Ex} (h:((!decide (e.Op=2)&& !nQ e.Lin)||(!decide (e.Op=3)&&(!decide (e.Name=bs [])||decide ((0:Int)<e.Idx.length))))=true):false=hY e:=by
 unfold hY
 rw [Bool.or_eq_true] at h
 rcases h with h|h<;>simp only [h,Bool.not_true,Bool.and_false,Bool.false_and]
theorem syn5 {e:Ex} (h1:(decide (e.Op<1)||decide (18<e.Op))=false) (h2:((!decide (e.Op=1)&& !rB e.Val)||(!(decide (e.Op=1)||decide (e.Op=12))&& !ty0 e.Ty))=false) (h3:((!decide (e.Op=2)&& !nQ e.Lin)||(!decide (e.Op=3)&&(!decide (e.Name=bs [])||decide ((0:Int)<e.Idx.length))))=false) (h4:e.Idx.all jV=true):true=hY e:=by
 unfold hY
 obtain ⟨a,b⟩:=Bool.or_eq_false_iff.1 h2
 obtain ⟨c,d⟩:=Bool.or_eq_false_iff.1 h3
 simp only [h1,a,b,c,d,h4,Bool.not_false,Bool.and_self]
theorem form_start {e:Ex} (h:((decide (e.Op=1)&& !bC e.Ty e.Val)|| !fW e.Lin)=false):(gY e).all fW=((e.Idx.drop 0).flatMap fun x=>x.Lin::x.At).all fW:=by
 obtain ⟨_,h2⟩:=Bool.or_eq_false_iff.1 h
 rw [gY,List.all_cons,show fW e.Lin=true by simpa using h2];rfl
theorem form_no {e:Ex} (h:((decide (e.Op=1)&& !bC e.Ty e.Val)|| !fW e.Lin)=true):false=jS e:=by
 unfold jS gY
 rw [Bool.or_eq_true] at h
 rcases h with h|h
 ·simp only [h,Bool.not_true,Bool.false_and]
 ·rw [List.all_cons,show fW e.Lin=false by simpa using h];simp
theorem form_no2 {e:Ex} {l:List Lf} (h:(gY e).all fW=l.all fW) (h2:l.all fW=false):false=jS e:=by
 unfold jS;rw [h,h2,Bool.and_false]
theorem form_yes {e:Ex} (h:((decide (e.Op=1)&& !bC e.Ty e.Val)|| !fW e.Lin)=false) (h2:(gY e).all fW=true):true=jS e:=by
 obtain ⟨h1,_⟩:=Bool.or_eq_false_iff.1 h
 unfold jS;rw [h1,h2];rfl
theorem types_ty {e:Ex} (h:gU e=true):e.Op=1->bD e.Ty=true:=by
 intro h1
 simp only [gU,h1,decide_true,Bool.true_or,Bool.true_and,Bool.not_not,Bool.and_eq_true] at h
 exact h.1
theorem dep_start {n:Nat} {e:Ex} (h:n≠0):jT n e=rU (jT (n-1)) 1 (e.Args.drop 0):=by
 cases n with
 |zero=>exact absurd rfl h
 |succ n=>rfl
theorem dep_end {n:Nat} {e:Ex} {l d:Int} {k:Nat} (hl:l=n+1) (c:e.Args.length<=k∨l<=1) (h3:n≠0->jT n e=rU (jT (n-1)) d (e.Args.drop k)) (h4:n=0->d=1):d=jT n e:=by
 by_cases h0:n=0
 ·rw [h4 h0,h0];rfl
 ·rw [h3 h0,wE (by omega)];rfl
theorem siz_end {l:List Ex} {k n m:Nat} {x:Int} (hl:x=m) (h:l.length<=k∨x<n):n=rG (l.drop k) m n:=by
 by_cases hk:k<l.length
 ·obtain ⟨a,ha⟩:=yC l k hk
  rw [yA ha,rG,if_neg (by omega)]
 ·rw [wE hk,rG]
abbrev ixF (x:Ix):List Lf:=x.Lin::x.At
theorem forms_at {e:Ex} {k:Nat} {x:Ix} (h:e.Idx[k]? =some x):gY e=(e.Lin::(e.Idx.take k).flatMap ixF)++x.Lin::(x.At++(e.Idx.drop (k+1)).flatMap ixF):=by
 have e1:e.Idx=e.Idx.take k++x::e.Idx.drop (k+1):=by rw [←yA h,List.take_append_drop]
 have e2:gY e=e.Lin::e.Idx.flatMap ixF:=rfl
 have e3:e.Idx.flatMap ixF=(e.Idx.take k++x::e.Idx.drop (k+1)).flatMap ixF:=congrArg _ e1
 rw [e2,e3,List.flatMap_append,List.flatMap_cons]
 simp [ixF]
theorem forms_at2 {e:Ex} {k j:Nat} {x:Ix} {l:Lf} (h:e.Idx[k]? =some x) (hl:x.At[j]? =some l):gY e=((e.Lin::(e.Idx.take k).flatMap ixF)++[x.Lin]++x.At.take j)++l::(x.At.drop (j+1)++(e.Idx.drop (k+1)).flatMap ixF):=by
 rw [forms_at h]
 have e1:x.At=x.At.take j++l::x.At.drop (j+1):=by rw [←yA hl,List.take_append_drop]
 have e2:x.At++(e.Idx.drop (k+1)).flatMap ixF=(x.At.take j++l::x.At.drop (j+1))++(e.Idx.drop (k+1)).flatMap ixF:=congrArg (· ++(e.Idx.drop (k+1)).flatMap ixF) e1
 rw [e2]
 simp
theorem forms_next {e:Ex} {k:Nat} {x:Ix} (h:e.Idx[k]? =some x):e.Lin::(e.Idx.take (k+1)).flatMap ixF=(e.Lin::(e.Idx.take k).flatMap ixF)++[x.Lin]++x.At:=by
 rw [kK h,List.flatMap_append];simp [ixF]
theorem nodes_at {e a:Ex} {k:Nat} (h:e.Args[k]? =some a) {pre suf:List Ex} {x:Ex} (hx:dI a=pre++x::suf):dI e=(e::bV (e.Args.take k)++pre)++x::(suf++bV (e.Args.drop (k+1))):=by
 have e1:e.Args=e.Args.take k++a::e.Args.drop (k+1):=by rw [←yA h,List.take_append_drop]
 have e2:bV e.Args=bV (e.Args.take k)++(dI a++bV (e.Args.drop (k+1))):=by
  have:=congrArg bV e1
  rw [zMi,bV] at this
  exact this
 rw [zDj,e2,hx]
 simp
theorem zSy {l:List Ex} {k:Nat} {a:Ex} (h:l[k]? =some a):bV (l.take (k+1))=bV (l.take k)++dI a:=by
 rw [kK h,zMi,bV,bV,List.append_nil]
theorem forms_wt {e:Ex} {l:Lf} {B:Nat} (he:e.wt<=B) (h:l∈gY e):l.L.length<=B:=by
 unfold gY at h
 rcases List.mem_cons.1 h with rfl|h
 ·exact (e.parts he).1
 ·obtain ⟨x,hx,hl⟩:=List.mem_flatMap.1 h
  have h1:=Ex.idx_wt hx
  rcases List.mem_cons.1 hl with rfl|hl
  ·omega
  ·have:=zFg hl;omega
theorem node5 {e:Ex} {b:Bool} (h:gU e=true) (c:(decide (e.Op=1)&& !(bD e.Ty&&bC e.Ty e.Val))=b):(decide (e.Op=1)&& !bC e.Ty e.Val)=b:=by
 rw [←c]
 by_cases h1:e.Op=1
 ·rw [types_ty h h1];simp [h1]
 ·simp [h1]
theorem all_app_no {α:Type} {p:α->Bool} {pre suf:List α} {x:α} (h:(pre++[x]).all p=false):(pre++x::suf).all p=false:=by
 rw [show pre++x::suf=(pre++[x])++suf by simp,List.all_append,h];rfl
theorem errs_one {pre:List Ex} {x:Ex} (h:gI pre=0) (c:¬bQ x=0):gI (pre++[x])=bQ x:=by
 rw [zGb,h,gI,qK c];rfl
theorem errs_pre {pre suf:List Ex} {x:Ex} (h:¬gI (pre++[x])=0):gI (pre++x::suf)=gI (pre++[x]):=by
 rw [show pre++x::suf=(pre++[x])++suf by simp,zGb,qK h];rfl
end Go.Br
end
section
namespace Go.Br
open Go Go.Eng Go.L41
/-! ## Equality,part by part -/
theorem ix_eq (a b:Ix):((decide (a.From=b.From)&&decide (a.Lin=b.Lin))&&decide (a.At=b.At))=decide (a=b):=by
 rw [Bool.eq_iff_iff];simp only [Bool.and_eq_true,decide_eq_true_eq]
 cases a;cases b;simp only [Ix.mk.injEq]
 constructor
 ·rintro ⟨⟨h1,h2⟩,h3⟩;exact ⟨h2,h1,h3⟩
 ·rintro ⟨h1,h2,h3⟩;exact ⟨⟨h2,h1⟩,h3⟩
theorem litsEq_val (a b:Vl):bF [cI a.N,cI a.D] [cI b.N,cI b.D]=decide (a=b):=by
 rw [Bool.eq_iff_iff];cases a;cases b;simp [bF,cEq]
theorem litsEq_ty (a b:Ty):bF [cI a.Kind,cI a.Bits,cI a.Frac,cI a.Round,cI a.Over] [cI b.Kind,cI b.Bits,cI b.Frac,cI b.Round,cI b.Over]=decide (a=b):=by
 rw [Bool.eq_iff_iff];cases a;cases b;simp [bF,cEq]
theorem ex_eq (a b:Ex):((((((decide (a.Op=b.Op)&&decide (a.Name=b.Name))&&bF [cI a.Val.N,cI a.Val.D] [cI b.Val.N,cI b.Val.D])&&bF [cI a.Ty.Kind,cI a.Ty.Bits,cI a.Ty.Frac,cI a.Ty.Round,cI a.Ty.Over] [cI b.Ty.Kind,cI b.Ty.Bits,cI b.Ty.Frac,cI b.Ty.Round,cI b.Ty.Over])&&decide (a.Lin=b.Lin))&&decide (a.Idx=b.Idx))&&decide (a.Args=b.Args))=decide (a=b):=by
 rw [litsEq_val,litsEq_ty,Bool.eq_iff_iff]
 simp only [Bool.and_eq_true,decide_eq_true_eq,Ex.eq_iff]
 constructor
 ·rintro ⟨⟨⟨⟨⟨⟨h1,h2⟩,h3⟩,h4⟩,h5⟩,h6⟩,h7⟩;exact ⟨h1,h2,h3,h4,h5,h6,h7⟩
 ·rintro ⟨h1,h2,h3,h4,h5,h6,h7⟩;exact ⟨⟨⟨⟨⟨⟨h1,h2⟩,h3⟩,h4⟩,h5⟩,h6⟩,h7⟩
/-! ## Weights -/
def fI (m n:Nat):List Lf->Nat
 |[]=>n
 |l::r=>if n<=m then fI m (n+l.L.length) r else n
def dQ (m n:Nat):List Ix->Nat
 |[]=>n
 |x::r=>if n<=m then dQ m (fI m (n+x.Lin.L.length+x.At.length) x.At) r else n
mutual
def fE:Ex->Nat->Nat
 |.mk _ _ _ _ l i arg_,m=>gJ arg_ m (dQ m (1+l.L.length+i.length) i)
def gJ:List Ex->Nat->Nat->Nat
 |[],_,n=>n
 |a::r,m,n=>if n<=m then gJ r m (n+fE a (m-n)) else n
end
theorem weighE_eq (e:Ex) (m:Nat):fE e m=gJ e.Args m (dQ m (1+e.Lin.L.length+e.Idx.length) e.Idx):=by cases e;rw [fE];rfl
def Ix.fit (x:Ix):Prop:=x.Lin.L.length<=140737488355328/\x.At.length<=140737488355328/\∀l,l∈x.At->l.L.length<=140737488355328
mutual
def Ex.fit:Ex->Prop
 |.mk _ _ _ _ l i arg_=>l.L.length<=140737488355328/\i.length<=140737488355328/\arg_.length<=140737488355328/\(∀x,x∈i->x.fit)/\vX arg_
def vX:List Ex->Prop
 |[]=>True
 |a::r=>a.fit/\vX r
end
theorem fitL_mem {l:List Ex} (h:vX l):∀a,a∈l->a.fit:=by
 induction l with
 |nil=>intro a ha;cases ha
 |cons x r ih=>
  intro a ha
  rcases List.mem_cons.1 ha with rfl|ha
  ·exact h.1
  ·exact ih h.2 a ha
theorem Ex.fit_eq {e:Ex} (h:e.fit):e.Lin.L.length<=140737488355328/\e.Idx.length<=140737488355328/\e.Args.length<=140737488355328/\(∀x,x∈e.Idx->x.fit)/\∀a,a∈e.Args->a.fit:=by
 cases e with
 |mk o n v t l i arg_=>rw [Ex.fit] at h;exact ⟨h.1,h.2.1,h.2.2.1,h.2.2.2.1,fitL_mem h.2.2.2.2⟩
theorem zNr (m:Nat):∀(l:List Lf) (n:Nat),n<=fI m n l
 |[],n=>Nat.le_refl _
 |x::r,n=>by
  rw [fI];split
  ·have:=zNr m r (n+x.L.length);omega
  ·omega
theorem zRl (m:Nat):∀(l:List Ix) (n:Nat),n<=dQ m n l
 |[],n=>Nat.le_refl _
 |x::r,n=>by
  rw [dQ];split
  ·have h1:=zNr m x.At (n+x.Lin.L.length+x.At.length)
   have:=zRl m r (fI m (n+x.Lin.L.length+x.At.length) x.At);omega
  ·omega
theorem zRo (m:Nat):∀(l:List Lf) (n:Nat),fI m n l<=m->n+mD l<=fI m n l
 |[],n,_=>by simp [fI,mD]
 |y::r,n,h=>by
  have hn:n<=m:=Nat.le_trans (zNr m (y::r) n) h
  rw [fI,if_pos hn] at h⊢
  have:=zRo m r _ h
  rw [mD];omega
theorem zPb (m:Nat):∀(l:List Ix) (n:Nat),dQ m n l<=m->n+gB l<=dQ m n l
 |[],n,_=>by simp [dQ,gB]
 |x::r,n,h=>by
  have hn:n<=m:=Nat.le_trans (zRl m (x::r) n) h
  rw [dQ,if_pos hn] at h⊢
  have h1:=zPb m r _ h
  have h2:=zRo m x.At (n+x.Lin.L.length+x.At.length) (by omega)
  rw [gB,Ix.wt];omega
mutual
theorem zRm:∀(e:Ex) (m:Nat),fE e m<=m->e.wt<=fE e m
 |.mk o n v t l i arg_,m,h=>by
  rw [fE] at h⊢
  have h1:=weighL_wt arg_ m _ h
  have h2:=zPb m i (1+l.L.length+i.length) (by omega)
  rw [Ex.wt];omega
theorem weighL_wt:∀(l:List Ex) (m n:Nat),gJ l m n<=m->n+gD l<=gJ l m n
 |[],m,n,h=>by simp [gJ,gD]
 |a::r,m,n,h=>by
  by_cases hn:n<=m
  ·rw [gJ,if_pos hn] at h⊢
   have h1:=weighL_wt r m _ h
   have h2:=zRm a (m-n) (by omega)
   rw [gD];omega
  ·rw [gJ,if_neg hn] at h;omega
end
theorem weighAt_le {m:Nat}:∀(l:List Lf) (n B:Nat),(∀x,x∈l->x.L.length<=140737488355328)->n<=B->m+140737488355328<=B->fI m n l<=B
 |[],n,B,_,h,_=>by simpa [fI] using h
 |x::r,n,B,hx,h,hb=>by
  rw [fI];split
  ·have:=hx x (by simp)
   exact weighAt_le r _ B (fun y hy=>hx y (by simp [hy])) (by omega) hb
  ·exact h
theorem zRk {m:Nat}:∀(l:List Ix) (n B:Nat),(∀x,x∈l->x.fit)->n<=B->m+3*140737488355328<=B->dQ m n l<=B
 |[],n,B,_,h,_=>by simpa [dQ] using h
 |x::r,n,B,hx,h,hb=>by
  rw [dQ];split
  ·obtain ⟨h1,h2,h3⟩:=hx x (by simp)
   exact zRk r _ B (fun y hy=>hx y (by simp [hy])) (weighAt_le x.At _ B h3 (by omega) (by omega)) hb
  ·exact h
mutual
theorem zGp:∀(e:Ex) (m:Nat),e.fit->fE e m<=m+4*140737488355328
 |.mk o n v t l i arg_,m,h=>by
  rw [Ex.fit] at h
  obtain ⟨h1,h2,h3,h4,h5⟩:=h
  rw [fE]
  exact weighL_le arg_ m _ h5 (zRk i _ _ h4 (by omega) (by omega))
theorem weighL_le:∀(l:List Ex) (m n:Nat),vX l->n<=m+4*140737488355328->gJ l m n<=m+4*140737488355328
 |[],m,n,_,h=>by simpa [gJ] using h
 |a::r,m,n,hf,h=>by
  rw [gJ];split
  ·have:=zGp a (m-n) hf.1
   exact weighL_le r m _ hf.2 (by omega)
  ·exact h
end
theorem weighIdx_end {m n k:Nat} {l:List Ix} {x:Int} (hx:x=m) (h:l.length<=k∨x<n):n=dQ m n (l.drop k):=by
 by_cases hk:k<l.length
 ·obtain ⟨a,ha⟩:=yC l k hk
  rw [yA ha,dQ,if_neg (by omega)]
 ·rw [wE hk,dQ]
theorem weighAt_end {m n k:Nat} {l:List Lf} {x:Int} (hx:x=m) (h:l.length<=k∨x<n):n=fI m n (l.drop k):=by
 by_cases hk:k<l.length
 ·obtain ⟨a,ha⟩:=yC l k hk
  rw [yA ha,fI,if_neg (by omega)]
 ·rw [wE hk,fI]
theorem weighL_end {m n k:Nat} {l:List Ex} {x:Int} (hx:x=m) (h:l.length<=k∨x<n):n=gJ (l.drop k) m n:=by
 by_cases hk:k<l.length
 ·obtain ⟨a,ha⟩:=yC l k hk
  rw [yA ha,gJ,if_neg (by omega)]
 ·rw [wE hk,gJ]
/-! ## Forms mapped -/
def zEx:Ex:=.mk 0 (bs []) ⟨0,0⟩ ⟨0,0,0,0,0⟩ ⟨0,[]⟩ [] []
end Go.Br
end
section
namespace Go.Br
open Go Go.Eng Go.L41
theorem errsL_mem {l:List Ex} (h:gI l=0):∀x,x∈l->bQ x=0:=by
 induction l with
 |nil=>intro x hx;cases hx
 |cons y r ih=>
  intro x hx
  rw [gI] at h
  by_cases hy:bQ y=0
  ·rw [zAi hy,cond_true] at h
   rcases List.mem_cons.1 hx with rfl|hx
   ·exact hy
   ·exact ih h x hx
  ·rw [qK hy,cond_false] at h;exact absurd h hy
theorem zGv {e:Ex} (h:fK e=0):bQ e=0:=errsL_mem h e (by rw [zDj];simp)
theorem zSs {e a:Ex} (h:fK e=0) (ha:a∈e.Args):fK a=0:=by
 have hn:=zGv h
 rw [zFu,zAi hn,cond_true] at h
 obtain ⟨k,hk⟩:=List.getElem?_of_mem ha
 have:∀l:List Ex,rJ l=0->a∈l->fK a=0:=by
  intro l
  induction l with
  |nil=>intro _ h;cases h
  |cons y r ih=>
   intro h hm
   rw [zOc] at h
   by_cases hy:fK y=0
   ·rw [zAi hy,cond_true] at h
    rcases List.mem_cons.1 hm with rfl|hm
    ·exact hy
    ·exact ih h hm
   ·rw [qK hy,cond_false] at h;exact absurd h hy
 exact this _ h ha
theorem zNt {e:Ex} (h:fX e=0):fK e=0:=by
 unfold fX at h
 by_cases h1:40<jT 40 e
 ·rw [zAi h1] at h;simp at h
 ·rw [qK h1,cond_false] at h
  by_cases h2:(2000:Int)<szT e
  ·rw [zAi h2] at h;simp at h
  ·rwa [qK h2,cond_false] at h
theorem node_all {e:Ex} (h:bQ e=0):hY e=true/\lP e=true/\mS e=true/\gU e=true/\jS e=true:=by
 unfold bQ at h
 cases h1:hY e<;>rw [h1] at h<;>simp at h
 cases h2:lP e<;>rw [h2] at h<;>simp at h
 cases h3:mS e<;>rw [h3] at h<;>simp at h
 cases h4:gU e<;>rw [h4] at h<;>simp at h
 cases h5:jS e<;>rw [h5] at h<;>simp at h
 simp
end Go.Br
end
section
namespace Go.Br
open Go Go.Eng Go.L41
structure Cn where
 Lin:Lf
 Eq:Bool
 deriving DecidableEq
structure Ax where
 Name:ByteArray
 Size:Lf
 deriving DecidableEq
structure Pm where
 Name:ByteArray
 T:Ty
 Dims:List Lf
 deriving DecidableEq
structure Df where
 Name:ByteArray
 T:Ty
 Dims:List Ax
 Red:List Ax
 Fold:Int
 Body:Ex
 deriving DecidableEq
structure Pg where
 Sizes:List ByteArray
 Where:List Cn
 Params:List Pm
 Defs:List Df
 Outs:List ByteArray
 deriving DecidableEq
def Cn.cells (x:Cn):List C:=[cI x.Lin.K,.sl 2 (x.Lin.L.map Mono.cells),cB x.Eq]
def Ax.cells (x:Ax):List C:=[cS x.Name,cI x.Size.K,.sl 2 (x.Size.L.map Mono.cells)]
def Pm.cells (x:Pm):List C:=[cS x.Name,cI x.T.Kind,cI x.T.Bits,cI x.T.Frac,cI x.T.Round,cI x.T.Over,.sl 2 (x.Dims.map Lf.cells)]
def Df.cells (x:Df):List C:=[cS x.Name,cI x.T.Kind,cI x.T.Bits,cI x.T.Frac,cI x.T.Round,cI x.T.Over,.sl 3 (x.Dims.map Ax.cells),.sl 3 (x.Red.map Ax.cells),cI x.Fold,
 cI x.Body.Op,cS x.Body.Name,cI x.Body.Val.N,cI x.Body.Val.D,cI x.Body.Ty.Kind,cI x.Body.Ty.Bits,cI x.Body.Ty.Frac,cI x.Body.Ty.Round,cI x.Body.Ty.Over,cI x.Body.Lin.K,.sl 2 (x.Body.Lin.L.map Mono.cells),.sl 4 (x.Body.Idx.map Ix.cells),.sl 13 (x.Body.Args.map Ex.cells)]
def Pg.cells (p:Pg):List C:=[.sl 1 (p.Sizes.map fun s=>[cS s]),.sl 3 (p.Where.map Cn.cells),.sl 7 (p.Params.map Pm.cells),.sl 22 (p.Defs.map Df.cells),.sl 1 (p.Outs.map fun s=>[cS s])]
def tV (l:Lf):Prop:=l.L.length<=140737488355328
def Pm.fit (x:Pm):Prop:=x.Dims.length<=140737488355328/\∀l,l∈x.Dims->tV l
def Df.fit (d:Df):Prop:=d.Dims.length<=140737488355328/\d.Red.length<=140737488355328/\(∀a,a∈d.Dims->tV a.Size)/\(∀a,a∈d.Red->tV a.Size)/\d.Body.fit
structure Pg.Fit (p:Pg):Prop where
 sizes:p.Sizes.length<=140737488355328
 wh:p.Where.length<=140737488355328
 params:p.Params.length<=140737488355328
 defs:p.Defs.length<=140737488355328
 outs:p.Outs.length<=140737488355328
 whs:∀c,c∈p.Where->tV c.Lin
 ps:∀x,x∈p.Params->x.fit
 ds:∀d,d∈p.Defs->d.fit
def zTy:Ty:=⟨0,0,0,0,0⟩
def iTy:Ty:=⟨3,0,0,0,0⟩
/-! ## Find -/
structure Fd where
 ty:Ty
 dims:List Lf
 ok:Bool
structure En where
 sz:List ByteArray
 pm:List Pm
 df:List Df
def Pg.en (p:Pg):En:=⟨p.Sizes,p.Params,p.Defs⟩
def dG (l:List Ty) (i:Nat):Ty:=l.getD i zTy
mutual
def dO (N:Ex->List Ty->Ty×Int):Ex->Ty×Int
 |.mk o nm v t l i arg_=>if (bM N arg_).2=0 then N (.mk o nm v t l i arg_) (bM N arg_).1 else (zTy,(bM N arg_).2)
def bM (N:Ex->List Ty->Ty×Int):List Ex->List Ty×Int
 |[]=>([],0)
 |a::r=>if (dO N a).2=0 then (if (bM N r).2=0 then ((dO N a).1::(bM N r).1,0) else ([],(bM N r).2)) else ([],(dO N a).2)
end
theorem zQq (N:Ex->List Ty->Ty×Int) (e:Ex):dO N e=if (bM N e.Args).2=0 then N e (bM N e.Args).1 else (zTy,(bM N e.Args).2):=by
 cases e;rw [dO];rfl
theorem node_op {e:Ex} (h:bQ e=0):1<=e.Op/\e.Op<=18:=by
 have:=(node_all h).1
 simp only [hY,Bool.and_eq_true,Bool.not_eq_true',Bool.or_eq_false_iff,decide_eq_false_iff_not] at this
 obtain ⟨⟨⟨⟨⟨⟨h1,h2⟩,_⟩,_⟩,_⟩,_⟩,_⟩:=this
 exact ⟨by omega,by omega⟩
def tU (p:Pg):Prop:=p.Sizes.length<=64/\p.Params.length<=64/\p.Defs.length<=64/\p.Outs.length<=64/\p.Where.length<=256
instance (p:Pg):Decidable (tU p):=by unfold tU;infer_instance
abbrev Kn:=List (ByteArray×Int)
def rT (m:Kn) (s:ByteArray):Int:=(rS m s).getD 0
end Go.Br
end
section
namespace Go.Br
open Go Go.Eng Go.L41
theorem zTm (a b:List ByteArray) (s:ByteArray):dW (a++b) s=(dW a s||dW b s):=by simp [dW,List.any_append]
theorem hasB_one (s t:ByteArray):dW [s] t=decide (s=t):=by simp [dW]
theorem mget_mput' (m:Kn) (k s:ByteArray) (a:Int):rS (tJ m k a) s=if k=s then some a else rS m s:=by
 induction m with
 |nil=>simp [tJ,rS]
 |cons x r ih=>
  obtain ⟨k',b⟩:=x
  by_cases h:k'=k
  ·subst h
   simp only [tJ,if_true,rS]
   by_cases h2:k'=s<;>simp [h2]
  ·simp only [tJ,h,if_false,rS,ih]
   by_cases h2:k'=s
   ·subst h2;rw [if_pos rfl,if_neg (fun e:k=k'=>h e.symm),if_pos rfl]
   ·simp [h2]
theorem zTi (m:Kn) (k s:ByteArray) (a:Int):rT (tJ m k a) s=if k=s then a else rT m s:=by
 unfold rT;rw [mget_mput'];by_cases h:k=s<;>simp [h]
structure Rel (m:Kn) (sz tn:List ByteArray):Prop where
 one:∀s,rT m s=1↔dW sz s=true
 two:∀s,rT m s=2↔dW tn s=true
 zero:∀s,rT m s=0↔dW (sz++tn) s=false
theorem Rel.nil:Rel [] [] []:=⟨fun s=>by simp [rT,rS,dW],fun s=>by simp [rT,rS,dW],fun s=>by simp [rT,rS,dW]⟩
theorem Rel.size {m:Kn} {sz:List ByteArray} (h:Rel m sz []) {s:ByteArray} (h0:rT m s=0):Rel (tJ m s 1) (sz++[s]) []:=by
 refine ⟨fun t=>?_,fun t=>?_,fun t=>?_⟩
 ·rw [zTi,zTm,hasB_one]
  by_cases e:s=t
  ·simp [e]
  ·simp [e,h.one t]
 ·rw [zTi]
  by_cases e:s=t
  ·simp [e,dW]
  ·simp [e,h.two t]
 ·rw [zTi,List.append_nil,zTm,hasB_one]
  by_cases e:s=t
  ·simp [e]
  ·have:=h.zero t
   rw [List.append_nil] at this
   simp [e,this]
end Go.Br
end
section
namespace Go.Br
open Go Go.Eng Go.L41
structure Pg.Ok (p:Pg):Prop where
 sizes:p.Sizes.length<=4294967296
 wh:p.Where.length<=4294967296
 params:p.Params.length<=4294967296
 defs:p.Defs.length<=4294967296
 outs:p.Outs.length<=4294967296
 whs:∀c,c∈p.Where->c.Lin.L.length<=5864062014805
 ps:∀x,x∈p.Params->x.Dims.length<=4294967296/\∀l,l∈x.Dims->l.L.length<=5864062014805
 ds:∀d,d∈p.Defs->d.Dims.length<=1073741824/\d.Red.length<=1073741824/\(∀a,a∈d.Dims->a.Size.L.length<=5864062014805)/\(∀a,a∈d.Red->a.Size.L.length<=5864062014805)/\d.Body.wt<=4294967296
theorem Pg.Ok.take {p:Pg} (h:p.Ok) (k:Nat):Pg.Ok ⟨p.Sizes,p.Where,p.Params,p.Defs.take k,p.Outs⟩:=
 ⟨h.sizes,h.wh,h.params,by have:=h.defs;simp only [List.length_take];omega,h.outs,h.whs,h.ps,fun d hd=>h.ds d (List.mem_of_mem_take hd)⟩
end Go.Br
end
section
namespace Go.Br
open Go Go.Eng Go.L41
abbrev vP (b:Nat):V:=.c (.lit (.pointer (some ⟨b,0,none⟩)))
def tyC (t:Ty):List C:=[cI t.Kind,cI t.Bits,cI t.Frac,cI t.Round,cI t.Over]
theorem zRt (a b:Ty):bF [cI a.Kind,cI a.Bits,cI a.Frac,cI a.Round,cI a.Over] [cI b.Kind,cI b.Bits,cI b.Frac,cI b.Round,cI b.Over]=decide (a=b):=by
 obtain ⟨a1,a2,a3,a4,a5⟩:=a
 obtain ⟨b1,b2,b3,b4,b5⟩:=b
 simp only [bF,cEq,Ty.mk.injEq,Bool.and_true,Bool.decide_and]
theorem zJq (N:Ex->List Ty->Ty×Int):∀(a b:List Ex),(bM N a).2=0->bM N (a++b)=if (bM N b).2=0 then ((bM N a).1++(bM N b).1,0) else ([],(bM N b).2)
 |[],b,_=>by
  simp only [List.nil_append,bM,List.nil_append]
  cases b with
  |nil=>simp [bM]
  |cons x r=>
   simp only [bM]
   by_cases h1:(dO N x).2=0
   ·by_cases h2:(bM N r).2=0
    ·simp [h1,h2]
    ·simp [h1,h2]
   ·simp [h1]
 |x::r,b,h=>by
  rw [bM] at h
  by_cases h1:(dO N x).2=0
  ·rw [if_pos h1] at h
   by_cases h2:(bM N r).2=0
   ·rw [List.cons_append,bM,if_pos h1,zJq N r b h2]
    rw [bM,if_pos h1,if_pos h2]
    by_cases h3:(bM N b).2=0
    ·simp [h3]
    ·simp [h3]
   ·rw [if_neg h2] at h;exact absurd h h2
  ·rw [if_neg h1] at h;exact absurd h h1
theorem zFf {N:Ex->List Ty->Ty×Int} {l:List Ex} {k:Nat} {x:Ex} (h:l[k]? =some x) (hp:(bM N (l.take k)).2=0) (hx:(dO N x).2=0):bM N (l.take (k+1))=((bM N (l.take k)).1++[(dO N x).1],0):=by
 rw [kK h,zJq N _ _ hp];simp [bM,hx]
theorem nodeL_no {N:Ex->List Ty->Ty×Int} {l:List Ex} {k:Nat} {x:Ex} (h:l[k]? =some x) (hp:(bM N (l.take k)).2=0) (hx:¬(dO N x).2=0):(bM N l).2=(dO N x).2:=by
 have e:l=l.take k++(x::l.drop (k+1)):=by rw [←yA h,List.take_append_drop]
 rw [e,zJq N _ _ hp]
 simp [bM,hx]
theorem zGw (N:Ex->List Ty->Ty×Int):∀l:List Ex,(bM N l).2=0->(bM N l).1.length=l.length
 |[],_=>rfl
 |x::r,h=>by
  rw [bM] at h⊢
  by_cases h1:(dO N x).2=0
  ·rw [if_pos h1] at h⊢
   by_cases h2:(bM N r).2=0
   ·rw [if_pos h2];simp [zGw N r h2]
   ·rw [if_neg h2] at h;exact absurd h h2
  ·rw [if_neg h1] at h;exact absurd h h1
end Go.Br
namespace Go.Br
open Go Go.Eng Go.L41
end Go.Br
end
section
namespace Go.Br
open Go Go.Eng Go.L41
theorem nodeT_no {N:Ex->List Ty->Ty×Int} {e x:Ex} {k:Nat} (h:e.Args[k]? =some x) (hp:(bM N (e.Args.take k)).2=0) (hx:¬(dO N x).2=0):dO N e=(zTy,(dO N x).2):=by
 have h1:=nodeL_no h hp hx
 rw [zQq N e,h1,if_neg hx]
theorem nodeT_ok {N:Ex->List Ty->Ty×Int} {e:Ex} {k:Nat} (h:e.Args.take k=e.Args) (hp:(bM N (e.Args.take k)).2=0):dO N e=N e (bM N (e.Args.take k)).1:=by
 rw [h] at hp⊢
 rw [zQq N e,if_pos hp]
theorem zHj {a b:Ty} (h:(!bF [cI a.Kind,cI a.Bits,cI a.Frac,cI a.Round,cI a.Over] [cI b.Kind,cI b.Bits,cI b.Frac,cI b.Round,cI b.Over])=true):¬a=b:=by
 rw [zRt] at h;simpa using h
theorem zHk {a b:Ty} (h:(!bF [cI a.Kind,cI a.Bits,cI a.Frac,cI a.Round,cI a.Over] [cI b.Kind,cI b.Bits,cI b.Frac,cI b.Round,cI b.Over])=false):a=b:=by
 rw [zRt] at h;simpa using h
theorem zKe {l:List Ty} {i:Nat} (h:i<l.length):(l.map tyC)[i]? =some (tyC (dG l i)):=by
 rw [List.getElem?_map,List.getElem?_eq_getElem h]
 simp [dG,List.getD,List.getElem?_eq_getElem h]
theorem zQo {e:Ex} (h:fK e=0):(e.Args.length:Int)=bK e.Op:=by
 have h1:=(node_all (zGv h)).2.2.1
 unfold mS at h1
 simp only [Bool.and_eq_true,Bool.not_eq_true',Bool.or_eq_false_iff,Bool.not_eq_false',decide_eq_true_eq] at h1
 exact h1.1.1
theorem args_len {e:Ex} (h:fK e=0) (ho:¬(e.Op=1∨e.Op=2∨e.Op=3)):1<=e.Args.length:=by
 have:=zQo h;unfold bK at this;rw [if_neg ho] at this;split at this
 ·omega
 ·split at this<;>omega
theorem zHd {e:Ex} (h:fK e=0) (ho:¬(e.Op=1∨e.Op=2∨e.Op=3∨e.Op=8∨e.Op=12∨e.Op=18)):2<=e.Args.length:=by
 have:=zQo h;unfold bK at this;rw [if_neg (by omega),if_neg (by omega)] at this;split at this<;>omega
end Go.Br
end
section
namespace Go.Br
open Go Go.Eng Go.L41
/-! ## The program's Validate -/
structure Pg.Short (p:Pg):Prop where
 sizes:p.Sizes.length<=12
 wh:p.Where.length<=12
 params:p.Params.length<=12
 defs:p.Defs.length<=12
 outs:p.Outs.length<=12
 whs:∀c,c∈p.Where->c.Lin.L.length<=20
 ps:∀x,x∈p.Params->x.Dims.length<=12/\∀l,l∈x.Dims->l.L.length<=20
 ds:∀d,d∈p.Defs->d.Dims.length<=12/\d.Red.length<=12/\(∀a,a∈d.Dims->a.Size.L.length<=20)/\(∀a,a∈d.Red->a.Size.L.length<=20)/\d.Body.wt<=300
theorem Pg.Short.ok {p:Pg} (h:p.Short):p.Ok:=
 ⟨by have:=h.sizes;omega,by have:=h.wh;omega,by have:=h.params;omega,by have:=h.defs;omega,by have:=h.outs;omega,fun c hc=>by have:=h.whs c hc;omega,
  fun x hx=>by obtain ⟨h1,h2⟩:=h.ps x hx;exact ⟨by omega,fun l hl=>by have:=h2 l hl;omega⟩,
  fun d hd=>by obtain ⟨h1,h2,h3,h4,h5⟩:=h.ds d hd;exact ⟨by omega,by omega,fun a ha=>by have:=h3 a ha;omega,fun a ha=>by have:=h4 a ha;omega,by omega⟩⟩
end Go.Br
end
section
namespace Go.Br
open Go Go.Eng Go.L41
end Go.Br
end
section
namespace Go.Br
open Go Go.Eng Go.Proofs Go.L41
def gO (a b:Int):Int:=if a<b then-1 else if b<a then 1 else 0
def sQ (a b:ByteArray):Int:=Lib.compareBytes a.data.toList b.data.toList
def orI:List Int->Int
 |[]=>0
 |x::r=>if x=0 then orI r else x
def gS {α:Type} (f:α->α->Int):List α->List α->Int
 |[],[]=>0
 |[],_::_=> -1
 |_::_,[]=>1
 |x::xs,y::ys=>if f x y=0 then gS f xs ys else f x y
def jN {α:Type} (f:α->α->Int) (a b:List α):Int:=if gO a.length b.length=0 then gS f a b else gO a.length b.length
def rV (x y:Mono):Int:=if x.Name=y.Name then gO x.By y.By else sQ x.Name y.Name
def lV (a b:Lf):Int:=if gS rV a.L b.L=0 then gO a.K b.K else gS rV a.L b.L
def lW (a b:Ix):Int:=if sQ a.From b.From=0 then (if lV a.Lin b.Lin=0 then jN lV a.At b.At else lV a.Lin b.Lin) else sQ a.From b.From
def tG (a b:Ty):Int:=orI [gO a.Kind b.Kind,gO a.Bits b.Bits,gO a.Frac b.Frac,gO a.Round b.Round,gO a.Over b.Over]
def nF (a b:Ex):Int:=orI [gO a.Op b.Op,sQ a.Name b.Name,gO a.Val.N b.Val.N,gO a.Val.D b.Val.D,tG a.Ty b.Ty,lV a.Lin b.Lin]
mutual
def pT:Ex->Ex->Int
 |.mk o n v t l i r,b=>if nF (.mk o n v t l i r) b=0 then (if jN lW i b.Idx=0 then (if gO r.length b.Args.length=0 then tY r b.Args else gO r.length b.Args.length) else jN lW i b.Idx) else nF (.mk o n v t l i r) b
def tY:List Ex->List Ex->Int
 |[],[]=>0
 |[],_::_=> -1
 |_::_,[]=>1
 |x::xs,y::ys=>if pT x y=0 then tY xs ys else pT x y
end
theorem cmpEs_L:∀a b:List Ex,tY a b=gS pT a b
 |[],[]=>rfl
 |[],_::_=>rfl
 |_::_,[]=>rfl
 |x::xs,y::ys=>by rw [tY,gS,cmpEs_L xs ys]
theorem cmpE_eq (a b:Ex):pT a b=if nF a b=0 then (if jN lW a.Idx b.Idx=0 then jN pT a.Args b.Args else jN lW a.Idx b.Idx) else nF a b:=by
 cases a with
 |mk o n v t l i r=>rw [pT,cmpEs_L];rfl
/-! ## Alike is equal -/
theorem zJz (a b:Int):gO a b=0↔a=b:=by
 unfold gO
 split
 ·constructor
  ·intro h;cases h
  ·intro h;omega
 ·split
  ·constructor
   ·intro h;cases h
   ·intro h;omega
  ·constructor<;>intro h<;>first|rfl|omega
theorem bytes_zero:∀a b:List UInt8,Lib.compareBytes a b=0↔a=b
 |[],[]=>by simp [Lib.compareBytes]
 |[],_::_=>by simp [Lib.compareBytes]
 |_::_,[]=>by simp [Lib.compareBytes]
 |x::xs,y::ys=>by
  rw [Lib.compareBytes]
  by_cases h1:x<y
  ·rw [if_pos h1]
   constructor
   ·intro h;cases h
   ·intro h;injection h with h2 h3;subst h2;exact absurd h1 (UInt8.lt_irrefl x)
  ·rw [if_neg h1]
   by_cases h2:y<x
   ·rw [if_pos h2]
    constructor
    ·intro h;cases h
    ·intro h;injection h with h3 h4;subst h3;exact absurd h2 (UInt8.lt_irrefl x)
   ·rw [if_neg h2,bytes_zero xs ys]
    have e:x=y:=by
     have h3:=UInt8.not_lt.1 h1
     have h4:=UInt8.not_lt.1 h2
     exact UInt8.le_antisymm h4 h3
    simp [e]
theorem zNh (a b:ByteArray):sQ a b=0↔a=b:=by
 unfold sQ
 rw [bytes_zero]
 constructor
 ·intro h;cases a;cases b;congr 1;exact Array.toList_inj.1 h
 ·rintro rfl;rfl
theorem orI_zero:∀l:List Int,orI l=0↔∀x,x∈l->x=0
 |[]=>by simp [orI]
 |x::r=>by
  rw [orI]
  by_cases h:x=0
  ·rw [if_pos h,orI_zero r];simp [h]
  ·rw [if_neg h];constructor
   ·intro k;exact absurd k h
   ·intro k;exact k x (by simp)
theorem zUm {α:Type} {f:α->α->Int}:∀(a b:List α),(∀x,x∈a->∀y,f x y=0↔x=y)->(gS f a b=0↔a=b)
 |[],[],_=>by simp [gS]
 |[],_::_,_=>by simp [gS]
 |_::_,[],_=>by simp [gS]
 |x::xs,y::ys,h=>by
  rw [gS]
  have h1:=h x (by simp) y
  by_cases c:f x y=0
  ·rw [if_pos c,zUm xs ys fun z hz=>h z (by simp [hz])];simp [h1.1 c]
  ·rw [if_neg c]
   constructor
   ·intro k;exact absurd k c
   ·intro k;injection k with k1 k2;exact h1.2 k1
theorem zOw {α:Type} {f:α->α->Int} (a b:List α) (h:∀x,x∈a->∀y,f x y=0↔x=y):jN f a b=0↔a=b:=by
 unfold jN
 by_cases c:gO (a.length:Int) b.length=0
 ·rw [if_pos c];exact zUm a b h
 ·rw [if_neg c]
  constructor
  ·intro k;exact absurd k c
  ·rintro rfl;exact absurd ((zJz _ _).2 rfl) c
theorem cmpM_zero (x y:Mono):rV x y=0↔x=y:=by
 obtain ⟨n,b⟩:=x
 obtain ⟨n',b'⟩:=y
 unfold rV
 by_cases c:n=n'
 ·simp only [c,if_true,zJz,Mono.mk.injEq,true_and]
 ·simp only [c,if_false,zNh,Mono.mk.injEq,false_and]
theorem zKq (a b:Lf):lV a b=0↔a=b:=by
 have h:=zUm (f:=rV) a.L b.L fun x _ y=>cmpM_zero x y
 have e:a=b↔a.L=b.L/\a.K=b.K:=by
  cases a;cases b;simp only [Lf.mk.injEq];exact ⟨fun k=>⟨k.2,k.1⟩,fun k=>⟨k.2,k.1⟩⟩
 unfold lV
 rw [e]
 by_cases c:gS rV a.L b.L=0
 ·rw [if_pos c,zJz];exact ⟨fun k=>⟨h.1 c,k⟩,fun k=>k.2⟩
 ·rw [if_neg c];exact ⟨fun k=>absurd k c,fun k=>absurd (h.2 k.1) c⟩
theorem cmpIx_zero (a b:Ix):lW a b=0↔a=b:=by
 have h:=zOw (f:=lV) a.At b.At fun x _ y=>zKq x y
 have e:a=b↔a.From=b.From/\a.Lin=b.Lin/\a.At=b.At:=by
  cases a;cases b;simp only [Ix.mk.injEq];exact ⟨fun k=>⟨k.2.1,k.1,k.2.2⟩,fun k=>⟨k.2.1,k.1,k.2.2⟩⟩
 unfold lW
 rw [e]
 by_cases c:sQ a.From b.From=0
 ·by_cases d:lV a.Lin b.Lin=0
  ·rw [if_pos c,if_pos d,h];exact ⟨fun k=>⟨(zNh _ _).1 c,(zKq _ _).1 d,k⟩,fun k=>k.2.2⟩
  ·rw [if_pos c,if_neg d];exact ⟨fun k=>absurd k d,fun k=>absurd ((zKq _ _).2 k.2.1) d⟩
 ·rw [if_neg c];exact ⟨fun k=>absurd k c,fun k=>absurd ((zNh _ _).2 k.1) c⟩
theorem cmpTy_zero (a b:Ty):tG a b=0↔a=b:=by
 obtain ⟨a1,a2,a3,a4,a5⟩:=a
 obtain ⟨b1,b2,b3,b4,b5⟩:=b
 unfold tG
 rw [orI_zero]
 simp only [List.mem_cons,List.not_mem_nil,or_false,forall_eq_or_imp,forall_eq,zJz,Ty.mk.injEq]
theorem cmpHd_zero (a b:Ex):nF a b=0↔a.Op=b.Op/\a.Name=b.Name/\a.Val=b.Val/\a.Ty=b.Ty/\a.Lin=b.Lin:=by
 unfold nF
 rw [orI_zero]
 simp only [List.mem_cons,List.not_mem_nil,or_false,forall_eq_or_imp,forall_eq,zJz,zNh,cmpTy_zero,zKq]
 cases hv:a.Val
 cases hw:b.Val
 simp only [Vl.mk.injEq]
 constructor
 ·rintro ⟨h1,h2,h3,h4,h5⟩;exact ⟨h1,h2,⟨h3,h4⟩,h5⟩
 ·rintro ⟨h1,h2,⟨h3,h4⟩,h5⟩;exact ⟨h1,h2,h3,h4,h5⟩
theorem cmpE_zero (a:Ex):∀b:Ex,pT a b=0↔a=b:=by
 induction a using Ex.ind with
 |_ a ih=>
  intro b
  rw [cmpE_eq,Ex.eq_iff]
  have h1:=cmpHd_zero a b
  have h2:=zOw (f:=lW) a.Idx b.Idx fun x _ y=>cmpIx_zero x y
  have h3:=zOw (f:=pT) a.Args b.Args ih
  by_cases c:nF a b=0
  ·by_cases d:jN lW a.Idx b.Idx=0
   ·rw [if_pos c,if_pos d,h3]
    obtain ⟨k1,k2,k3,k4,k5⟩:=h1.1 c
    have k6:=h2.1 d
    exact ⟨fun k=>⟨k1,k2,k3,k4,k5,k6,k⟩,fun k=>k.2.2.2.2.2.2⟩
   ·rw [if_pos c,if_neg d]
    exact ⟨fun k=>absurd k d,fun k=>absurd (h2.2 k.2.2.2.2.2.1) d⟩
  ·rw [if_neg c]
   exact ⟨fun k=>absurd k c,fun k=>absurd (h1.2 ⟨k.1,k.2.1,k.2.2.1,k.2.2.2.1,k.2.2.2.2.1⟩) c⟩
/-! ## Steps of the walks -/
section steps
variable {α:Type} {f:α->α->Int} {a b:List α} {k:Nat} {x y:α}
theorem zRe (h:a[k]? =some x) (hb:¬k<b.length):gS f (a.drop k) (b.drop k)=1:=by rw [yA h,wE hb];rfl
theorem cmpL_ne (h:a[k]? =some x) (hy:b[k]? =some y) (c:¬f x y=0):gS f (a.drop k) (b.drop k)=f x y:=by rw [yA h,yA hy,gS,if_neg c]
theorem zNi (h:a[k]? =some x) (hy:b[k]? =some y) (c:f x y=0):gS f (a.drop k) (b.drop k)=gS f (a.drop (k+1)) (b.drop (k+1)):=by rw [yA h,yA hy,gS,if_pos c]
theorem zNj (h:¬k<a.length) (hb:k<b.length):gS f (a.drop k) (b.drop k)= -1:=by
 rw [wE h]
 cases hd:b.drop k with
 |nil=>have:=congrArg List.length hd;simp at this;omega
 |cons _ _=>rfl
theorem zRf (h:¬k<a.length) (hb:¬k<b.length):gS f (a.drop k) (b.drop k)=0:=by rw [wE h,wE hb];rfl
end steps
theorem cmpI_lt {a b:Int} (h:a<b):gO a b= -1:=if_pos h
theorem cmpI_gt {a b:Int} (h:b<a):gO a b=1:=by unfold gO;rw [if_neg (by omega),if_pos h]
theorem cmpI_eq {a b:Int} (h:¬a<b) (h2:¬b<a):gO a b=0:=by unfold gO;rw [if_neg h,if_neg h2]
theorem orI_at {l:List Int} {k:Nat} {x:Int} (h:l[k]? =some x) (hx:¬x=0):orI (l.drop k)=x:=by rw [yA h,orI,if_neg hx]
theorem orI_next {l:List Int} {k:Nat} {x:Int} (h:l[k]? =some x) (hx:x=0):orI (l.drop k)=orI (l.drop (k+1)):=by rw [yA h,orI,if_pos hx]
theorem strings_Compare (a b:ByteArray):Pur cfg 267 [vS a,vS b] (vI (sQ a b)):=by
 intro w I vs hH ha
 match vs,ha with
 |[v,u],ha=>
  obtain ⟨h1,h2,_⟩:=ha
  have e1:v=.string a:=by cases (h1:CRep w I (cS a) v) with|lit _ _=>rfl
  have e2:u=.string b:=by cases (h2:CRep w I (cS b) u) with|lit _ _=>rfl
  subst e1 e2
  refine (Tryz.strings_Compare a b w).mono ?_
  rintro e w' ⟨rfl,rfl⟩
  exact ⟨_,_,[],I,rfl,rfl,CRep.lit _ rfl,hH,Ext.refl _ _ _⟩
end Go.Br
end
