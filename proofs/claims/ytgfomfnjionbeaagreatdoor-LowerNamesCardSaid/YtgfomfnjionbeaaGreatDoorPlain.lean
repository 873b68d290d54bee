/-
  The program's data,in plain Lean: linear forms,indices,expressions; and the cells that hold them.
  What the program's functions compute,in plain Lean.
  Copies with all forms mapped; weights; in plain Lean.
  Layer 22 in plain Lean.
  Layer 17 in plain Lean: programs,the cells that hold them,and what Find,TypeOf and Validate say of them.
  Layer 17 in plain Lean: the program's Validate and the reference's are one.
  Layer 17 in plain Lean,more: lengths,lists,tables.
  Layer 17 in plain Lean: the memory of the checker and the typer,and laws for their walks.
  Layer 17 in plain Lean: the typer's walk.
  Layer 17 in plain Lean: steps of Validate,the program's and the reference's; what Long says.
  Layer 17 in plain Lean: the example that every statement checks.
  Comparisons in plain Lean: of numbers,strings,forms,indices,expressions; nothing is alike but what is equal.
  Layer 17 in plain Lean: equality of programs,part by part.
  Conditions: none.
-/
import Derived.Test.YtgfomfnjionbeaaGreatDoorEngY
import Derived.Test.YtgfomfnjionbeaaGreatDoorNames
import Derived.Test.YtgfomfnjionbeaaGreatDoorEngZ
import Derived.Test.YtgfomfnjionbeaaGreatDoorCfg
import Derived.Lib.Bytealg
set_option linter.unusedSimpArgs false
set_option linter.unusedVariables false
section
namespace Go.Br
open Go Go.Eng Go.L41
structure Mono where
 Name:ByteArray
 By:Int
 deriving DecidableEq
structure Lf where
 K:Int
 L:List Mono
 deriving DecidableEq
structure Vl where
 N:Int
 D:Int
 deriving DecidableEq
structure Ty where
 Kind:Int
 Bits:Int
 Frac:Int
 Round:Int
 Over:Int
 deriving DecidableEq
structure Ix where
 Lin:Lf
 From:ByteArray
 At:List Lf
 deriving DecidableEq
inductive Ex where
 |mk (op:Int) (name:ByteArray) (val:Vl) (ty:Ty) (lin:Lf) (idx:List Ix) (args:List Ex)
namespace Ex
def Op:Ex->Int|mk o _ _ _ _ _ _=>o
def Name:Ex->ByteArray|mk _ x _ _ _ _ _=>x
def Val:Ex->Vl|mk _ _ x _ _ _ _=>x
def Ty:Ex->Br.Ty|mk _ _ _ x _ _ _=>x
def Lin:Ex->Lf|mk _ _ _ _ x _ _=>x
def Idx:Ex->List Ix|mk _ _ _ _ _ x _=>x
def Args:Ex->List Ex|mk _ _ _ _ _ _ x=>x
theorem ind {P:Ex->Prop} (h:∀e:Ex,(∀a,a∈e.Args->P a)->P e) (e:Ex):P e:=
 Ex.rec (motive_1:=P) (motive_2:=fun l=>∀a,a∈l->P a) (fun o n v t l i arg_ ih=>h (mk o n v t l i arg_) ih) (fun a h=>by cases h)
  (fun x l hx hl a ha=>by rcases List.mem_cons.1 ha with rfl|ha;exact hx;exact hl a ha) e
end Ex
mutual
def Ex.eqB:Ex->Ex->Bool
 |.mk o n v t l i arg_,.mk o' n' v' t' l' i' bs=>decide (o=o')&&decide (n=n')&&decide (v=v')&&decide (t=t')&&decide (l=l')&&decide (i=i')&&eqBs arg_ bs
def eqBs:List Ex->List Ex->Bool
 |[],[]=>true
 |a::arg_,b::bs=>Ex.eqB a b&&eqBs arg_ bs
 |_,_=>false
end
mutual
theorem Ex.eqB_iff:∀a b:Ex,Ex.eqB a b=true↔a=b
 |.mk o n v t l i arg_,.mk o' n' v' t' l' i' bs=>by
  simp only [Ex.eqB,Bool.and_eq_true,decide_eq_true_eq,eqBs_iff arg_ bs,Ex.mk.injEq]
  constructor
  ·rintro ⟨⟨⟨⟨⟨⟨h1,h2⟩,h3⟩,h4⟩,h5⟩,h6⟩,h7⟩;exact ⟨h1,h2,h3,h4,h5,h6,h7⟩
  ·rintro ⟨h1,h2,h3,h4,h5,h6,h7⟩;exact ⟨⟨⟨⟨⟨⟨h1,h2⟩,h3⟩,h4⟩,h5⟩,h6⟩,h7⟩
theorem eqBs_iff:∀a b:List Ex,eqBs a b=true↔a=b
 |[],[]=>by simp [eqBs]
 |a::arg_,b::bs=>by simp only [eqBs,Bool.and_eq_true,Ex.eqB_iff a b,eqBs_iff arg_ bs,List.cons.injEq]
 |[],_::_=>by simp [eqBs]
 |_::_,[]=>by simp [eqBs]
end
instance:DecidableEq Ex:=fun a b=>decidable_of_iff _ (Ex.eqB_iff a b)
theorem Ex.eq_iff (a b:Ex):a=b↔a.Op=b.Op/\a.Name=b.Name/\a.Val=b.Val/\a.Ty=b.Ty/\a.Lin=b.Lin/\a.Idx=b.Idx/\a.Args=b.Args:=by
 cases a;cases b;simp only [Ex.mk.injEq];rfl
def Mono.cells (x:Mono):List C:=[cS x.Name,cI x.By]
def Lf.cells (x:Lf):List C:=[cI x.K,.sl 2 (x.L.map Mono.cells)]
def Ix.cells (x:Ix):List C:=[cI x.Lin.K,.sl 2 (x.Lin.L.map Mono.cells),cS x.From,.sl 2 (x.At.map Lf.cells)]
def Vl.cells (v:Vl):List C:=[cI v.N,cI v.D]
mutual
def Ex.cells:Ex->List C
 |.mk o n v t l i arg_=>[cI o,cS n,cI v.N,cI v.D,cI t.Kind,cI t.Bits,cI t.Frac,cI t.Round,cI t.Over,cI l.K,.sl 2 (l.L.map Mono.cells),.sl 4 (i.map Ix.cells),.sl 13 (cellsL arg_)]
def cellsL:List Ex->List (List C)
 |[]=>[]
 |e::r=>e.cells::cellsL r
end
theorem cellsL_eq (l:List Ex):cellsL l=l.map Ex.cells:=by
 induction l with
 |nil=>rfl
 |cons e r ih=>rw [cellsL,ih];rfl
def Ex.cs (e:Ex):List C:=[cI e.Op,cS e.Name,cI e.Val.N,cI e.Val.D,cI e.Ty.Kind,cI e.Ty.Bits,cI e.Ty.Frac,cI e.Ty.Round,cI e.Ty.Over,cI e.Lin.K,.sl 2 (e.Lin.L.map Mono.cells),.sl 4 (e.Idx.map Ix.cells),.sl 13 (e.Args.map Ex.cells)]
theorem Ex.cells_eq (e:Ex):e.cells=e.cs:=by
 cases e;rw [Ex.cells,cellsL_eq];rfl
abbrev vMono (x:Mono):V:=.agg x.cells
abbrev vMonos (l:List Mono):V:=.c (.sl 2 (l.map Mono.cells))
abbrev vLin (x:Lf):V:=.agg x.cells
abbrev vLins (l:List Lf):V:=.c (.sl 2 (l.map Lf.cells))
abbrev vIndex (x:Ix):V:=.agg x.cells
abbrev vIndices (l:List Ix):V:=.c (.sl 4 (l.map Ix.cells))
abbrev vE (x:Ex):V:=.agg x.cs
abbrev vEs (l:List Ex):V:=.c (.sl 13 (l.map Ex.cells))
abbrev vTy (t:Ty):V:=.agg [cI t.Kind,cI t.Bits,cI t.Frac,cI t.Round,cI t.Over]
abbrev vVal (v:Vl):V:=.agg [cI v.N,cI v.D]
abbrev vU64 (n:Int):V:=.c (.lit (.int .u64 n))
theorem getmE {l:List Ex} {k:Nat} {x:Ex} (h:l[k]? =some x):(l.map Ex.cells)[k]? =some x.cs:=by
 rw [getm h,Ex.cells_eq]
def linsWt:List Lf->Nat
 |[]=>0
 |l::r=>l.L.length+linsWt r
def Ix.wt (x:Ix):Nat:=x.Lin.L.length+x.At.length+linsWt x.At
def idxWt:List Ix->Nat
 |[]=>0
 |x::r=>x.wt+idxWt r
mutual
def Ex.wt:Ex->Nat
 |.mk _ _ _ _ l i arg_=>1+l.L.length+i.length+idxWt i+argsWt arg_
def argsWt:List Ex->Nat
 |[]=>0
 |e::r=>e.wt+argsWt r
end
theorem Ex.wt_eq (e:Ex):e.wt=1+e.Lin.L.length+e.Idx.length+idxWt e.Idx+argsWt e.Args:=by cases e;rw [Ex.wt];rfl
theorem Ex.wt_pos (e:Ex):1<=e.wt:=by rw [Ex.wt_eq];omega
theorem argsWt_mem {l:List Ex} {a:Ex} (h:a∈l):a.wt+(l.length-1)<=argsWt l:=by
 induction l with
 |nil=>cases h
 |cons x r ih=>
  rw [argsWt]
  rcases List.mem_cons.1 h with rfl|h
  ·have:r.length<=argsWt r:=by
    clear ih h
    induction r with
    |nil=>simp [argsWt]
    |cons y r ih=>rw [argsWt,List.length_cons];have:=y.wt_pos;omega
   simp;omega
  ·have:=ih h
   have:=x.wt_pos
   have:0<r.length:=List.length_pos_of_mem h
   simp;omega
theorem argsWt_len (l:List Ex):l.length<=argsWt l:=by
 induction l with
 |nil=>simp [argsWt]
 |cons y r ih=>rw [argsWt,List.length_cons];have:=y.wt_pos;omega
theorem zCo {l:List Lf} {a:Lf} (h:a∈l):a.L.length<=linsWt l:=by
 induction l with
 |nil=>cases h
 |cons x r ih=>
  rw [linsWt]
  exact j8
theorem zDb {l:List Ix} {a:Ix} (h:a∈l):a.wt<=idxWt l:=by
 induction l with
 |nil=>cases h
 |cons x r ih=>
  rw [idxWt]
  exact j8
theorem Ex.parts {e:Ex} {B:Nat} (h:e.wt<=B):e.Lin.L.length<=B/\e.Idx.length<=B/\e.Args.length<=B:=by
 rw [Ex.wt_eq] at h
 have:=argsWt_len e.Args
 omega
theorem Ex.arg_wt {e a:Ex} (h:a∈e.Args):a.wt<e.wt:=by
 rw [Ex.wt_eq e]
 have:=argsWt_mem h
 omega
theorem Ex.idx_wt {e:Ex} {x:Ix} (h:x∈e.Idx):x.Lin.L.length<=e.wt/\x.At.length<=e.wt/\linsWt x.At<=e.wt:=by
 rw [Ex.wt_eq e]
 have:=zDb h
 unfold Ix.wt at this
 omega
theorem qN {α:Type} {l:List α} {k:Nat} {x:α} (h:l[k]? =some x):l.drop k=x::l.drop (k+1):=by
 have hk:k<l.length:=(List.getElem?_eq_some_iff.1 h).1
 rw [List.drop_eq_getElem_cons hk]
 rw [List.getElem?_eq_getElem hk] at h
 simp at h
 rw [h]
theorem kV {α:Type} {l:List α} {k:Nat} (h:¬k<l.length):l.drop k=[]:=List.drop_of_length_le (by omega)
theorem wH {p:Prop} [Decidable p] (h:¬p):decide p=false:=decide_eq_false h
theorem zDj {p:Prop} [Decidable p] (h:p):decide p=true:=decide_eq_true h
theorem qC {α:Type} {l:List α} {k:Nat} {x:α} (h:l[k]? =some x):x∈l:=List.mem_of_getElem? h
end Go.Br
end
section
namespace Go.Br
open Go Go.Eng Go.L41
/-! ## Linear forms -/
def ltO:Option ByteArray->ByteArray->Bool
 |none,_=>true
 |some q,n=>strLt q n
def monosOk:Option ByteArray->List Mono->Bool
 |_,[]=>true
 |p,m::r=>isNameB m.Name&& !decide (m.By=0)&&ltO p m.Name&&monosOk (some m.Name) r
def linOk (l:Lf):Bool:=monosOk none l.L
def linErr (l:Lf):Int:=bif linOk l then 0 else 1
def pv (l:List Mono) (k:Nat):Mono:=l.getD (k-1) ⟨bs [],0⟩
def prevOf (l:List Mono) (k:Nat):Option ByteArray:=if k=0 then none else some (pv l k).Name
def badM (l:List Mono) (k:Nat) (x:Mono):Bool:=(!isNameB x.Name||decide (x.By=0))||(decide ((0:Int)<k)&& !strLt (pv l k).Name x.Name)
theorem pv_get {α:Type} {f:Mono->α} {l:List Mono} {k:Nat} (h0:0<k) (h:k<=l.length):(l.map f)[((k:Int)-1).toNat]? =some (f (pv l k)):=by
 have e:((k:Int)-1).toNat=k-1:=by omega
 have h1:k-1<l.length:=by omega
 rw [e,List.getElem?_map,List.getElem?_eq_getElem h1]
 simp [pv,List.getD,List.getElem?_eq_getElem h1]
theorem pv_next {l:List Mono} {k:Nat} {x:Mono} (h:l[k]? =some x):pv l (k+1)=x:=by simp [pv,List.getD,h]
theorem monos_step {l:List Mono} {k:Nat} {x:Mono} (h:l[k]? =some x):monosOk (prevOf l k) (l.drop k)=(!badM l k x&&monosOk (prevOf l (k+1)) (l.drop (k+1))):=by
 rw [qN h,monosOk]
 have e:prevOf l (k+1)=some x.Name:=by simp [prevOf,pv_next h]
 rw [e]
 congr 1
 unfold badM prevOf ltO
 by_cases hk:k=0
 ·subst hk;simp
 ·have hk':(0:Int)<k:=by omega
  rw [if_neg hk,decide_eq_true hk']
  cases isNameB x.Name<;>cases decide (x.By=0)<;>simp
theorem monos_end {l:List Mono} {k:Nat} (h:¬k<l.length):monosOk (prevOf l k) (l.drop k)=true:=by
 rw [kV h];cases prevOf l k<;>rfl
def varL (s:ByteArray):Lf:=bif isNameB s then ⟨0,[⟨s,1⟩]⟩ else ⟨0,[]⟩
def idxOf {α:Type} (p:α->Bool):List α->Int
 |[]=> -1
 |x::r=>bif p x then 0 else (bif decide (idxOf p r= -1) then-1 else idxOf p r+1)
theorem idxOf_ge {α:Type} (p:α->Bool) (l:List α): -1<=idxOf p l:=by
 induction l with
 |nil=>simp [idxOf]
 |cons x r ih=>unfold idxOf;cases p x<;>simp;by_cases h:idxOf p r= -1<;>simp [h];omega
theorem zKs {α:Type} (p:α->Bool) (l:List α):decide (0<=idxOf p l)=l.any p:=by
 induction l with
 |nil=>rfl
 |cons x r ih=>
  have:=idxOf_ge p r
  unfold idxOf
  cases hp:p x
  ·simp only [cond_false,List.any_cons,hp,Bool.false_or,←ih]
   by_cases h:idxOf p r= -1
   ·simp [h]
   ·simp [h];omega
  ·simp [hp]
theorem zCt {α:Type} {p:α->Bool} {l:List α} {k:Nat} {x:α} (h:l[k]? =some x) (hp:p x=true) (hn:(l.take k).any p=false):idxOf p l=k:=by
 induction l generalizing k with
 |nil=>simp at h
 |cons y r ih=>
  cases k with
  |zero=>simp at h;subst h;simp [idxOf,hp]
  |succ k=>
   simp only [List.take_succ_cons,List.any_cons,Bool.or_eq_false_iff] at hn
   have:=ih (k:=k) (by simpa using h) hn.2
   simp only [idxOf,hn.1,cond_false,this]
   have h2:¬((k:Int)= -1):=by omega
   simp [h2]
theorem zAu {α:Type} {p:α->Bool} {l:List α} (hn:l.any p=false):idxOf p l= -1:=by
 induction l with
 |nil=>rfl
 |cons y r ih=>
  simp only [List.any_cons,Bool.or_eq_false_iff] at hn
  simp [idxOf,hn.1,ih hn.2]
theorem zDk {α:Type} {p:α->Bool} {l:List α} {k:Nat} {x:α} (h:l[k]? =some x) (hn:(l.take k).any p=false) (hp:p x=false):(l.take (k+1)).any p=false:=by
 rw [qW h,List.any_append,hn];simp [hp]
/-! ## Types and values -/
def tyOk (t:Ty):Bool:=
 ((decide (t.Kind=1)||decide (t.Kind=3))&&decide (t.Bits=0)&&decide (t.Frac=0)&&decide (t.Round=0)&&decide (t.Over=0))||
 (decide (t.Kind=2)&&decide (2<=t.Bits)&&decide (t.Bits<=31)&&decide (0<=t.Frac)&&decide (t.Frac<=30)&&decide (1<=t.Round)&&decide (t.Round<=4)&&(decide (t.Over=1)||decide (t.Over=2)))
def tyErr (t:Ty):Int:=bif tyOk t then 0 else 10
def fixOk (t:Ty):Bool:=decide (t.Kind=2)&&decide (2<=t.Bits)&&decide (t.Bits<=31)&&decide (0<=t.Frac)&&decide (t.Frac<=30)&&decide (1<=t.Round)&&decide (t.Round<=4)&&(decide (t.Over=1)||decide (t.Over=2))
def half (b:Int):Int:=2^(b-1).toNat
def num31 (n:Int):Bool:=decide (-2147483647<=n)&&decide (n<=2147483647)
def valOk (t:Ty) (v:Vl):Bool:=
 bif decide (t.Kind=2) then decide (v.D=1)&&decide (-half t.Bits<=v.N)&&decide (v.N<half t.Bits)
 else bif decide (t.Kind=3) then decide (v.D=1)&&num31 v.N
 else decide (1<=v.D)&&decide (v.D<=2147483647)&&num31 v.N&&decide (Int.gcd v.N v.D=1)
def zeroV (t:Ty):Vl:=bif tyOk t then ⟨0,1⟩ else ⟨0,0⟩
theorem zAs {t:Ty} (h:t.Kind=2):tyOk t=fixOk t:=by simp [tyOk,fixOk,h]
theorem half_le {b:Int} (h1:2<=b) (h2:b<=31):1<=half b/\half b<=1073741824:=by
 unfold half
 have h3:(b-1).toNat<=30:=by omega
 have h4:(2:Int)^(b-1).toNat<=2^30:=by
  have:=Nat.pow_le_pow_right (n:=2) (by omega) h3
  exact_mod_cast this
 have h5:(1:Int)<=2^(b-1).toNat:=by
  have:=Nat.one_le_two_pow (n:=(b-1).toNat)
  exact_mod_cast this
 omega
/-! ## Conditions as the walks meet them -/
def byteAt (s:ByteArray) (k:Nat):Int:=(s.data.toList.getD k 0).toNat
def idHead (s:ByteArray):Bool:=(((decide ((s.size:Int)<1)||decide ((16:Int)<s.size))||hasB words s)||decide (byteAt s 0<97))||decide (122<byteAt s 0)
theorem ident_no {s:ByteArray} (h:idHead s=true):isNameB s=false:=by
 unfold idHead byteAt at h
 cases hn:isNameB s with
 |false=>rfl
 |true=>
  exfalso
  simp only [isNameB,Bool.and_eq_true,decide_eq_true_eq,Bool.not_eq_true'] at hn
  obtain ⟨⟨⟨⟨h1,h2⟩,h3⟩,h4⟩,h5⟩:=hn
  have h6:s.data.toList.head? =some (s.data.toList.getD 0 0):=by rw [List.head?_eq_getElem?];exact zCu (by omega)
  rw [h6] at h3
  simp only [Option.all_some,letterB,letterI,Bool.and_eq_true,decide_eq_true_eq] at h3
  simp only [Bool.or_eq_true,decide_eq_true_eq,h5] at h
  rcases h with (((h|h)|h)|h)|h
  ·omega
  ·omega
  ·cases h
  ·omega
  ·omega
theorem ident_yes {s:ByteArray} (h:idHead s=false):1<=s.size/\s.size<=16/\isNameB s=s.data.toList.all inWordB:=by
 unfold idHead byteAt at h
 simp only [Bool.or_eq_false_iff,decide_eq_false_iff_not] at h
 obtain ⟨⟨⟨⟨h1,h2⟩,h3⟩,h4⟩,h5⟩:=h
 have h7:1<=s.size:=by omega
 refine ⟨h7,by omega,?_⟩
 have h6:s.data.toList.head? =some (s.data.toList.getD 0 0):=by rw [List.head?_eq_getElem?];exact zCu (by omega)
 unfold isNameB
 rw [h6,h3]
 have e1:decide (1<=s.size)=true:=by simp;omega
 have e2:decide (s.size<=16)=true:=by simp;omega
 have e3:letterB (s.data.toList.getD 0 0)=true:=by simp only [letterB,letterI,Bool.and_eq_true,decide_eq_true_eq];omega
 simp only [e1,e2,Option.all_some,e3,Bool.true_and,Bool.not_false,Bool.and_true]
def notWord (n:Int):Bool:=((decide (n<97)||decide (122<n))&&(decide (n<48)||decide (57<n)))&& !decide (n=95)
theorem notWord_eq (c:UInt8):notWord c.toNat= !inWordB c:=by
 unfold notWord inWordB inWordI letterI digitI
 rw [Bool.eq_iff_iff]
 simp only [Bool.and_eq_true,Bool.or_eq_true,Bool.not_eq_true',Bool.or_eq_false_iff,Bool.and_eq_false_iff,decide_eq_true_eq,decide_eq_false_iff_not]
 omega
theorem word_no {s:ByteArray} {k:Nat} (hlt:k<s.size) (h:notWord ((s.data.toList.getD k 0).toNat:Int)=true):s.data.toList.all inWordB=false:=by
 rw [notWord_eq] at h
 rw [List.all_eq_false]
 exact ⟨_,List.mem_of_getElem? (zCu hlt),by simpa using h⟩
theorem word_yes {s:ByteArray} {k:Nat} (hlt:k<s.size) (hp:(s.data.toList.take k).all inWordB=true) (h:notWord ((s.data.toList.getD k 0).toNat:Int)=false):(s.data.toList.take (k+1)).all inWordB=true:=by
 rw [notWord_eq] at h
 rw [zLn (zCu hlt),hp]
 simpa using h
theorem word_all {s:ByteArray} {k:Nat} (hp:(s.data.toList.take k).all inWordB=true) (h:¬k<s.size):s.data.toList.all inWordB=true:=by
 rw [List.take_of_length_le (by simp;omega)] at hp
 exact hp
def plainT (t:Ty):Bool:=decide (t.Bits=0)&&decide (t.Frac=0)&&decide (t.Round=0)&&decide (t.Over=0)
theorem plainT_eq (t:Ty):litsEq [cI t.Kind,cI t.Bits,cI t.Frac,cI t.Round,cI t.Over] [cI t.Kind,.lit (.int .i64 0),.lit (.int .i64 0),.lit (.int .i64 0),.lit (.int .i64 0)]=plainT t:=by
 simp [litsEq,cEq,plainT,Bool.and_assoc]
def fixCond (t:Ty):Bool:=((((!decide (t.Kind=2)||decide (t.Bits<2))||decide (31<t.Bits))||decide (t.Frac<0))||decide (30<t.Frac))|| !((decide (1<=t.Round)&&decide (t.Round<=4))&&(decide (t.Over=1)||decide (t.Over=2)))
theorem fixCond_eq (t:Ty):fixCond t= !fixOk t:=by
 unfold fixCond fixOk
 rw [Bool.eq_iff_iff]
 simp only [Bool.and_eq_true,Bool.or_eq_true,Bool.not_eq_true',Bool.or_eq_false_iff,Bool.and_eq_false_iff,decide_eq_true_eq,decide_eq_false_iff_not]
 omega
theorem fix_no {t:Ty} (h:fixCond t=true):fixOk t=false:=by rw [fixCond_eq] at h;simpa using h
theorem fix_yes {t:Ty} (h:fixCond t=false):fixOk t=true:=by rw [fixCond_eq] at h;simpa using h
theorem type1 {t:Ty} (h:(decide (t.Kind=1)||decide (t.Kind=3))=true):(((decide (t.Bits=0)&&decide (t.Frac=0))&&decide (t.Round=0))&&decide (t.Over=0))=tyOk t:=by
 unfold tyOk
 rw [h]
 have:decide (t.Kind=2)=false:=by
  simp only [Bool.or_eq_true,decide_eq_true_eq] at h
  simp;omega
 simp [this]
theorem tyk1 {t:Ty} (h:t.Kind=1∨t.Kind=3):tyOk t=plainT t:=by
 rw [←type1 (t:=t) (by simpa using h)];rfl
theorem tyk0 {t:Ty} (h1:¬t.Kind=1) (h3:¬t.Kind=3) (h2:¬t.Kind=2):tyOk t=false:=by
 simp [tyOk,h1,h2,h3]
theorem zIi {t:Ty} (h:¬tyErr t=0):tyOk t=false:=by
 unfold tyErr at h;cases ht:tyOk t<;>simp_all
theorem zAi {t:Ty} (h:tyErr t=0):tyOk t=true:=by
 unfold tyErr at h;cases ht:tyOk t<;>simp_all
theorem zJs {n:Int} (h:0<=n/\n<=18446744073709551615):IntKind.u64.wrap n=n:=IntWalk.u64_in _ h
theorem min_shift {b:Int} (h1:2<=b) (h2:b<=31):IntKind.i64.wrap (1*2^(min (IntKind.u64.wrap (b-1)).toNat IntKind.i64.bits))=half b:=by
 rw [zJs (by omega)]
 have h3:=half_le h1 h2
 have h4:min (b-1).toNat IntKind.i64.bits=(b-1).toNat:=Nat.min_eq_left (by simp [IntKind.bits];omega)
 rw [h4,Int.one_mul]
 exact zJe ⟨by unfold half at h3;omega,by unfold half at h3;omega⟩
theorem min_eq {b:Int} (h1:2<=b) (h2:b<=31):IntKind.i64.wrap (-(IntKind.i64.wrap (1*2^(min (IntKind.u64.wrap (b-1)).toNat IntKind.i64.bits))))= -half b:=by
 rw [min_shift h1 h2]
 have:=half_le h1 h2
 exact zJe ⟨by omega,by omega⟩
theorem max_eq {b:Int} (h1:2<=b) (h2:b<=31):IntKind.i64.wrap (IntKind.i64.wrap (1*2^(min (IntKind.u64.wrap (b-1)).toNat IntKind.i64.bits))-1)=half b-1:=by
 rw [min_shift h1 h2]
 have:=half_le h1 h2
 exact zJe ⟨by omega,by omega⟩
theorem fixB {t:Ty} (h:fixOk t=true):2<=t.Bits/\t.Bits<=31:=by
 simp only [fixOk,Bool.and_eq_true,decide_eq_true_eq] at h
 omega
theorem fxz {t:Ty} (h:(bif fixOk t then (0:Int) else 10)=0):fixOk t=true:=by cases ht:fixOk t<;>simp_all
theorem fxn {t:Ty} (h:¬(bif fixOk t then (0:Int) else 10)=0):fixOk t=false:=by cases ht:fixOk t<;>simp_all
theorem fxa {t:Ty} {p:Bool} (h:Lz (decide ((bif fixOk t then (0:Int) else 10)=0)&&p) true=true):fixOk t=true:=by
 simp only [Lz,cond_true,Bool.and_eq_true,decide_eq_true_eq] at h
 exact fxz h.1
theorem fxb {t:Ty} {p q:Bool} (h:Lz (decide ((bif fixOk t then (0:Int) else 10)=0)&&p&&q) true=true):fixOk t=true:=by
 simp only [Lz,cond_true,Bool.and_eq_true,decide_eq_true_eq] at h
 exact fxz h.1.1
theorem fixV (t:Ty) (v:Vl):(decide ((bif fixOk t then (0:Int) else 10)=0)&&decide (v.D=1)&&decide (-half t.Bits<=v.N)&&decide (v.N<=half t.Bits-1))=(fixOk t&&(decide (v.D=1)&&decide (-half t.Bits<=v.N)&&decide (v.N<half t.Bits))):=by
 have:decide (v.N<=half t.Bits-1)=decide (v.N<half t.Bits):=decide_eq_decide.2 (by omega)
 rw [this]
 cases fixOk t<;>simp
theorem mag_neg {n:Int} (h:n<0) (hn: -9223372036854775808<=n):IntKind.u64.wrap (-(IntKind.u64.wrap n))=n.natAbs:=by
 have e:IntKind.u64.wrap n=n+18446744073709551616:=by simp [IntKind.wrap,IntKind.bits,IntKind.signed];omega
 rw [e]
 simp [IntKind.wrap,IntKind.bits,IntKind.signed];omega
theorem mag_pos {n:Int} (h:¬n<0) (hn:n<=9223372036854775807):IntKind.u64.wrap n=n.natAbs:=by
 rw [zJs (by omega)];omega
theorem gcd_step {x y:Nat} (h:¬y=0):Nat.gcd x y=Nat.gcd y (x%y):=by
 rw [Nat.gcd_comm x y,Nat.gcd_rec y x,Nat.gcd_comm]
theorem frV {v:Vl} (h:Lz (decide (1<=v.D)&&decide (v.D<=2147483647)&&num31 v.N) true=true):1<=v.D/\v.D<=2147483647/\ -9223372036854775808<=v.N/\v.N<=9223372036854775807:=by
 simp only [Lz,cond_true,Bool.and_eq_true,decide_eq_true_eq,num31] at h
 omega
theorem u64_D {d:Int} (h1:1<=d) (h2:d<=2147483647):IntKind.u64.wrap d=d.natAbs:=by
 rw [zJs (by omega)];omega
def nArgs (op:Int):Int:=if op=1∨op=2∨op=3 then 0 else if op=8∨op=12∨op=18 then 1 else if op=11 then 3 else 2
def isCond (e:Ex):Bool:=decide (13<=e.Op)&&decide (e.Op<=18)
def wantC (op i:Int):Bool:=(((decide (op=11)&&decide (i=0))||decide (op=16))||decide (op=17))||decide (op=18)
def zeroL (l:Lf):Bool:=decide (l.K=0)&&decide ((l.L.length:Int)=0)
def wellIx (x:Ix):Bool:=bif decide (x.From=bs []) then decide ((x.At.length:Int)=0) else zeroL x.Lin
def val0 (v:Vl):Bool:=litsEq [cI v.N,cI v.D] [cI 0,cI 0]
def ty0 (t:Ty):Bool:=litsEq [cI t.Kind,cI t.Bits,cI t.Frac,cI t.Round,cI t.Over] [cI 0,cI 0,cI 0,cI 0,cI 0]
def synOk (e:Ex):Bool:=
 !(decide (e.Op<1)||decide (18<e.Op))&& !(!decide (e.Op=1)&& !val0 e.Val)&& !(!(decide (e.Op=1)||decide (e.Op=12))&& !ty0 e.Ty)&& !(!decide (e.Op=2)&& !zeroL e.Lin)&&
 !(!decide (e.Op=3)&&(!decide (e.Name=bs [])||decide ((0:Int)<e.Idx.length)))&&e.Idx.all wellIx
def nmIx (x:Ix):Bool:= !(!decide (x.From=bs [])&& !isNameB x.From)
def namesE (e:Ex):Bool:= !(decide (e.Op=3)&& !isNameB e.Name)&&e.Idx.all nmIx
def rkIx (x:Ix):Bool:= !decide ((6:Int)<x.At.length)
def rankE (e:Ex):Bool:= !(!decide ((e.Args.length:Int)=nArgs e.Op)||decide ((6:Int)<e.Idx.length))&&e.Idx.all rkIx
def condsOk (op i:Int):List Ex->Bool
 |[]=>true
 |a::r=>(isCond a==wantC op i)&&condsOk op (i+1) r
def typesE (e:Ex):Bool:= !((decide (e.Op=1)||decide (e.Op=12))&& !tyOk e.Ty)&&condsOk e.Op 0 e.Args
def formsL (e:Ex):List Lf:=e.Lin::e.Idx.flatMap fun x=>x.Lin::x.At
def formOk (e:Ex):Bool:= !(decide (e.Op=1)&& !valOk e.Ty e.Val)&&(formsL e).all linOk
def nodeErr (e:Ex):Int:=bif !synOk e then 5 else bif !namesE e then 7 else bif !rankE e then 11 else bif !typesE e then 10 else bif !formOk e then 1 else 0
mutual
def nodes:Ex->List Ex
 |.mk o n v t l i arg_=>.mk o n v t l i arg_::nodesL arg_
def nodesL:List Ex->List Ex
 |[]=>[]
 |e::r=>nodes e++nodesL r
end
theorem zAl (e:Ex):nodes e=e::nodesL e.Args:=by cases e;rw [nodes];rfl
theorem zKi (a b:List Ex):nodesL (a++b)=nodesL a++nodesL b:=by
 induction a with
 |nil=>rfl
 |cons x r ih=>rw [List.cons_append,nodesL,nodesL,ih,List.append_assoc]
def errsL:List Ex->Int
 |[]=>0
 |e::r=>bif decide (nodeErr e=0) then errsL r else nodeErr e
theorem zEn (a b:List Ex):errsL (a++b)=bif decide (errsL a=0) then errsL b else errsL a:=by
 induction a with
 |nil=>rfl
 |cons x r ih=>
  rw [List.cons_append,errsL,errsL,ih]
  by_cases h:nodeErr x=0
  ·simp [h]
  ·simp [h]
def partE (e:Ex):Int:=errsL (nodes e)
def partL (l:List Ex):Int:=errsL (nodesL l)
theorem partE_eq (e:Ex):partE e=bif decide (nodeErr e=0) then partL e.Args else nodeErr e:=by rw [partE,zAl,errsL];rfl
theorem partL_cons (e:Ex) (r:List Ex):partL (e::r)=bif decide (partE e=0) then partL r else partE e:=by rw [partL,nodesL,zEn];rfl
def depF (f:Ex->Int) (d:Int):List Ex->Int
 |[]=>d
 |a::r=>depF f (max d (1+f a)) r
def depT:Nat->Ex->Int
 |0,_=>1
 |n+1,e=>depF (depT n) 1 e.Args
theorem depF_le {f:Ex->Int} {n:Int} (h:∀a,1<=f a/\f a<=n):∀(l:List Ex) (d:Int),1<=d->d<=n+1->1<=depF f d l/\depF f d l<=n+1
 |[],d,h1,h2=>⟨h1,h2⟩
 |a::r,d,h1,h2=>by
  have:=h a
  exact depF_le h r _ (by omega) (by omega)
theorem depT_le:∀(n:Nat) (e:Ex),1<=depT n e/\depT n e<=n+1
 |0,e=>by simp [depT]
 |n+1,e=>by
  have:=depF_le (n:=n+1) (depT_le n) e.Args 1 (by omega) (by omega)
  rw [depT];omega
def szT (e:Ex):Nat:=min (nodes e).length 2001
def validE (e:Ex):Int:=bif decide (40<depT 40 e) then 13 else bif decide ((2000:Int)<szT e) then 2 else partE e
theorem zFu:∀(e x:Ex),x∈nodes e->x.wt<=e.wt:=by
 intro e
 induction e using Ex.ind with
 |_ e ih=>
  intro x hx
  rw [zAl] at hx
  rcases List.mem_cons.1 hx with rfl|hx
  ·omega
  ·have:∀l:List Ex,(∀a,a∈l->a∈e.Args)->x∈nodesL l->x.wt<=e.wt:=by
    intro l hl hx
    induction l with
    |nil=>simp [nodesL] at hx
    |cons a r ihr=>
     rw [nodesL] at hx
     rcases List.mem_append.1 hx with h|h
     ·have h1:=ih a (hl a (by simp)) x h
      have h2:=Ex.arg_wt (hl a (by simp))
      omega
     ·exact ihr (fun b hb=>hl b (by simp [hb])) h
   exact this e.Args (fun a h=>h) hx
theorem zHi {α:Type} (l:List α) (p:α->Bool):(!l.any fun x=> !p x)=l.all p:=by
 induction l with
 |nil=>rfl
 |cons x r ih=>simp only [List.any_cons,List.all_cons,←ih];cases p x<;>simp
theorem all_no {α:Type} {p:α->Bool} {l:List α} {k:Nat} {x:α} (h:l[k]? =some x) (hx:p x=false):l.all p=false:=by
 rw [List.all_eq_false];exact ⟨x,qC h,by simp [hx]⟩
theorem tyErr_dec (t:Ty):decide (tyErr t=0)=tyOk t:=by unfold tyErr;cases tyOk t<;>rfl
theorem zHs {l:Lf} (h:¬linErr l=0):linOk l=false:=by unfold linErr at h;cases hl:linOk l<;>simp_all
theorem zHt {l:Lf} (h:linErr l=0):linOk l=true:=by unfold linErr at h;cases hl:linOk l<;>simp_all
theorem types_ty {e:Ex} (h:typesE e=true):e.Op=1->tyOk e.Ty=true:=by
 intro h1
 simp only [typesE,h1,decide_true,Bool.true_or,Bool.true_and,Bool.not_not,Bool.and_eq_true] at h
 exact h.1
abbrev ixF (x:Ix):List Lf:=x.Lin::x.At
theorem forms_at {e:Ex} {k:Nat} {x:Ix} (h:e.Idx[k]? =some x):formsL e=(e.Lin::(e.Idx.take k).flatMap ixF)++x.Lin::(x.At++(e.Idx.drop (k+1)).flatMap ixF):=by
 have e1:e.Idx=e.Idx.take k++x::e.Idx.drop (k+1):=by rw [←qN h,List.take_append_drop]
 have e2:formsL e=e.Lin::e.Idx.flatMap ixF:=rfl
 have e3:e.Idx.flatMap ixF=(e.Idx.take k++x::e.Idx.drop (k+1)).flatMap ixF:=congrArg _ e1
 rw [e2,e3,List.flatMap_append,List.flatMap_cons]
 simp [ixF]
theorem forms_at2 {e:Ex} {k j:Nat} {x:Ix} {l:Lf} (h:e.Idx[k]? =some x) (hl:x.At[j]? =some l):formsL e=((e.Lin::(e.Idx.take k).flatMap ixF)++[x.Lin]++x.At.take j)++l::(x.At.drop (j+1)++(e.Idx.drop (k+1)).flatMap ixF):=by
 rw [forms_at h]
 have e1:x.At=x.At.take j++l::x.At.drop (j+1):=by rw [←qN hl,List.take_append_drop]
 have e2:x.At++(e.Idx.drop (k+1)).flatMap ixF=(x.At.take j++l::x.At.drop (j+1))++(e.Idx.drop (k+1)).flatMap ixF:=congrArg (· ++(e.Idx.drop (k+1)).flatMap ixF) e1
 rw [e2]
 simp
theorem forms_next {e:Ex} {k:Nat} {x:Ix} (h:e.Idx[k]? =some x):e.Lin::(e.Idx.take (k+1)).flatMap ixF=(e.Lin::(e.Idx.take k).flatMap ixF)++[x.Lin]++x.At:=by
 rw [qW h,List.flatMap_append];simp [ixF]
theorem nodes_at {e a:Ex} {k:Nat} (h:e.Args[k]? =some a) {pre suf:List Ex} {x:Ex} (hx:nodes a=pre++x::suf):nodes e=(e::nodesL (e.Args.take k)++pre)++x::(suf++nodesL (e.Args.drop (k+1))):=by
 have e1:e.Args=e.Args.take k++a::e.Args.drop (k+1):=by rw [←qN h,List.take_append_drop]
 have e2:nodesL e.Args=nodesL (e.Args.take k)++(nodes a++nodesL (e.Args.drop (k+1))):=by
  have:=congrArg nodesL e1
  rw [zKi,nodesL] at this
  exact this
 rw [zAl,e2,hx]
 simp
theorem nodesL_next {l:List Ex} {k:Nat} {a:Ex} (h:l[k]? =some a):nodesL (l.take (k+1))=nodesL (l.take k)++nodes a:=by
 rw [qW h,zKi,nodesL,nodesL,List.append_nil]
theorem forms_wt {e:Ex} {l:Lf} {B:Nat} (he:e.wt<=B) (h:l∈formsL e):l.L.length<=B:=by
 unfold formsL at h
 rcases List.mem_cons.1 h with rfl|h
 ·exact (e.parts he).1
 ·obtain ⟨x,hx,hl⟩:=List.mem_flatMap.1 h
  have h1:=Ex.idx_wt hx
  rcases List.mem_cons.1 hl with rfl|hl
  ·omega
  ·have:=zCo hl;omega
theorem node5 {e:Ex} {b:Bool} (h:typesE e=true) (c:(decide (e.Op=1)&& !(tyOk e.Ty&&valOk e.Ty e.Val))=b):(decide (e.Op=1)&& !valOk e.Ty e.Val)=b:=by
 rw [←c]
 by_cases h1:e.Op=1
 ·rw [types_ty h h1];simp [h1]
 ·simp [h1]
theorem all_app_no {α:Type} {p:α->Bool} {pre suf:List α} {x:α} (h:(pre++[x]).all p=false):(pre++x::suf).all p=false:=by
 rw [show pre++x::suf=(pre++[x])++suf by simp,List.all_append,h];rfl
theorem errs_one {pre:List Ex} {x:Ex} (h:errsL pre=0) (c:¬nodeErr x=0):errsL (pre++[x])=nodeErr x:=by
 rw [zEn,h,errsL,wH c];rfl
theorem errs_pre {pre suf:List Ex} {x:Ex} (h:¬errsL (pre++[x])=0):errsL (pre++x::suf)=errsL (pre++[x]):=by
 rw [show pre++x::suf=(pre++[x])++suf by simp,zEn,wH h];rfl
end Go.Br
end
section
namespace Go.Br
open Go Go.Eng Go.L41
/-! ## Equality,part by part -/
def weighAt (m n:Nat):List Lf->Nat
 |[]=>n
 |l::r=>if n<=m then weighAt m (n+l.L.length) r else n
def weighIdx (m n:Nat):List Ix->Nat
 |[]=>n
 |x::r=>if n<=m then weighIdx m (weighAt m (n+x.Lin.L.length+x.At.length) x.At) r else n
mutual
def weighE:Ex->Nat->Nat
 |.mk _ _ _ _ l i arg_,m=>weighL arg_ m (weighIdx m (1+l.L.length+i.length) i)
def weighL:List Ex->Nat->Nat->Nat
 |[],_,n=>n
 |a::r,m,n=>if n<=m then weighL r m (n+weighE a (m-n)) else n
end
def Ix.fit (x:Ix):Prop:=x.Lin.L.length<=140737488355328/\x.At.length<=140737488355328/\∀l,l∈x.At->l.L.length<=140737488355328
mutual
def Ex.fit:Ex->Prop
 |.mk _ _ _ _ l i arg_=>l.L.length<=140737488355328/\i.length<=140737488355328/\arg_.length<=140737488355328/\(∀x,x∈i->x.fit)/\fitL arg_
def fitL:List Ex->Prop
 |[]=>True
 |a::r=>a.fit/\fitL r
end
theorem zLr (m:Nat):∀(l:List Lf) (n:Nat),n<=weighAt m n l
 |[],n=>Nat.le_refl _
 |x::r,n=>by
  rw [weighAt];split
  ·have:=zLr m r (n+x.L.length);omega
  ·omega
theorem zOg (m:Nat):∀(l:List Ix) (n:Nat),n<=weighIdx m n l
 |[],n=>Nat.le_refl _
 |x::r,n=>by
  rw [weighIdx];split
  ·have h1:=zLr m x.At (n+x.Lin.L.length+x.At.length)
   have:=zOg m r (weighAt m (n+x.Lin.L.length+x.At.length) x.At);omega
  ·omega
theorem zOi (m:Nat):∀(l:List Lf) (n:Nat),weighAt m n l<=m->n+linsWt l<=weighAt m n l
 |[],n,_=>by simp [weighAt,linsWt]
 |y::r,n,h=>by
  have hn:n<=m:=Nat.le_trans (zLr m (y::r) n) h
  rw [weighAt,if_pos hn] at h⊢
  have:=zOi m r _ h
  rw [linsWt];omega
theorem zNc (m:Nat):∀(l:List Ix) (n:Nat),weighIdx m n l<=m->n+idxWt l<=weighIdx m n l
 |[],n,_=>by simp [weighIdx,idxWt]
 |x::r,n,h=>by
  have hn:n<=m:=Nat.le_trans (zOg m (x::r) n) h
  rw [weighIdx,if_pos hn] at h⊢
  have h1:=zNc m r _ h
  have h2:=zOi m x.At (n+x.Lin.L.length+x.At.length) (by omega)
  rw [idxWt,Ix.wt];omega
mutual
theorem zOh:∀(e:Ex) (m:Nat),weighE e m<=m->e.wt<=weighE e m
 |.mk o n v t l i arg_,m,h=>by
  rw [weighE] at h⊢
  have h1:=weighL_wt arg_ m _ h
  have h2:=zNc m i (1+l.L.length+i.length) (by omega)
  rw [Ex.wt];omega
theorem weighL_wt:∀(l:List Ex) (m n:Nat),weighL l m n<=m->n+argsWt l<=weighL l m n
 |[],m,n,h=>by simp [weighL,argsWt]
 |a::r,m,n,h=>by
  by_cases hn:n<=m
  ·rw [weighL,if_pos hn] at h⊢
   have h1:=weighL_wt r m _ h
   have h2:=zOh a (m-n) (by omega)
   rw [argsWt];omega
  ·rw [weighL,if_neg hn] at h;omega
end
def fE (f:Lf->Lf×Int) (l:Lf):Except Int Lf:=if (f l).2=0 then .ok (f l).1 else .error (f l).2
def mLins (f:Lf->Lf×Int):List Lf->Except Int (List Lf)
 |[]=>.ok []
 |l::r=>match fE f l with
  |.error x=>.error x
  |.ok l'=>match mLins f r with
   |.error x=>.error x
   |.ok r'=>.ok (l'::r')
def mIx (f:Lf->Lf×Int) (x:Ix):Except Int Ix:=match fE f x.Lin with
 |.error y=>.error y
 |.ok l=>match mLins f x.At with
  |.error y=>.error y
  |.ok a=>.ok ⟨l,x.From,a⟩
def mIxs (f:Lf->Lf×Int):List Ix->Except Int (List Ix)
 |[]=>.ok []
 |x::r=>match mIx f x with
  |.error y=>.error y
  |.ok x'=>match mIxs f r with
   |.error y=>.error y
   |.ok r'=>.ok (x'::r')
mutual
def mEx (f:Lf->Lf×Int):Ex->Except Int Ex
 |.mk o n v t l i arg_=>match fE f l with
  |.error y=>.error y
  |.ok l'=>match mIxs f i with
   |.error y=>.error y
   |.ok i'=>match mExs f arg_ with
    |.error y=>.error y
    |.ok as'=>.ok (.mk o n v t l' i' as')
def mExs (f:Lf->Lf×Int):List Ex->Except Int (List Ex)
 |[]=>.ok []
 |a::r=>match mEx f a with
  |.error y=>.error y
  |.ok a'=>match mExs f r with
   |.error y=>.error y
   |.ok r'=>.ok (a'::r')
end
def zEx:Ex:=.mk 0 (bs []) ⟨0,0⟩ ⟨0,0,0,0,0⟩ ⟨0,[]⟩ [] []
def outE:Except Int Ex->Ex
 |.ok e=>e
 |.error _=>zEx
def errE {α:Type}:Except Int α->Int
 |.ok _=>0
 |.error x=>x
def andThenE {α β:Type} (a:Except Int α) (g:α->β):Except Int β:=match a with
 |.error y=>.error y
 |.ok x=>.ok (g x)
theorem mEx_eq (f:Lf->Lf×Int) (e:Ex):mEx f e=match fE f e.Lin with
  |.error y=>.error y
  |.ok l'=>match mIxs f e.Idx with
   |.error y=>.error y
   |.ok i'=>match mExs f e.Args with
    |.error y=>.error y
    |.ok as'=>.ok (.mk e.Op e.Name e.Val e.Ty l' i' as'):=by cases e;rw [mEx];rfl
theorem zNq {f:Lf->Lf×Int} {l:Lf} (h:(f l).2=0):fE f l=.ok (f l).1:=if_pos h
theorem fE_err {f:Lf->Lf×Int} {l:Lf} (h:¬(f l).2=0):fE f l=.error (f l).2:=if_neg h
def mapRest {α:Type} (done:List α) (x:Except Int (List α)):Except Int (List α):=andThenE x (done++ ·)
theorem zBs {α:Type} (x:Except Int (List α)):mapRest [] x=x:=by cases x<;>rfl
theorem mLins_next {f:Lf->Lf×Int} {l:List Lf} {k:Nat} {x:Lf} {done:List Lf} (h:l[k]? =some x) (hp:mLins f l=mapRest done (mLins f (l.drop k))) (hx:(f x).2=0):mLins f l=mapRest (done++[(f x).1]) (mLins f (l.drop (k+1))):=by
 rw [hp,qN h,mLins,zNq hx]
 cases mLins f (l.drop (k+1))<;>simp [mapRest,andThenE]
theorem mLins_no {f:Lf->Lf×Int} {l:List Lf} {k:Nat} {x:Lf} {done:List Lf} (h:l[k]? =some x) (hp:mLins f l=mapRest done (mLins f (l.drop k))) (hx:¬(f x).2=0):mLins f l=.error (f x).2:=by
 rw [hp,qN h,mLins,fE_err hx];rfl
theorem mLins_end {f:Lf->Lf×Int} {l:List Lf} {k:Nat} {done:List Lf} (hp:mLins f l=mapRest done (mLins f (l.drop k))) (h:¬k<l.length):mLins f l=.ok done:=by
 rw [hp,kV h];simp [mLins,mapRest,andThenE]
theorem mIxs_next {f:Lf->Lf×Int} {l:List Ix} {k:Nat} {x y:Ix} {done:List Ix} (h:l[k]? =some x) (hp:mIxs f l=mapRest done (mIxs f (l.drop k))) (hx:mIx f x=.ok y):mIxs f l=mapRest (done++[y]) (mIxs f (l.drop (k+1))):=by
 rw [hp,qN h,mIxs,hx]
 cases mIxs f (l.drop (k+1))<;>simp [mapRest,andThenE]
theorem mIxs_no {f:Lf->Lf×Int} {l:List Ix} {k:Nat} {x:Ix} {done:List Ix} {c:Int} (h:l[k]? =some x) (hp:mIxs f l=mapRest done (mIxs f (l.drop k))) (hx:mIx f x=.error c):mIxs f l=.error c:=by
 rw [hp,qN h,mIxs,hx];rfl
theorem mIxs_end {f:Lf->Lf×Int} {l:List Ix} {k:Nat} {done:List Ix} (hp:mIxs f l=mapRest done (mIxs f (l.drop k))) (h:¬k<l.length):mIxs f l=.ok done:=by
 rw [hp,kV h];simp [mIxs,mapRest,andThenE]
theorem errE_ok {α:Type} {x:Except Int α} (h:errE x=0) (h2:x≠ .error 0):∃a,x=.ok a:=by
 cases x with
 |ok a=>exact ⟨a,rfl⟩
 |error y=>exact absurd (by rw [show y=0 from h]) h2
theorem fE_ne {f:Lf->Lf×Int} {l:Lf}:fE f l≠ .error 0:=by
 unfold fE;split
 ·simp
 ·rename_i h;intro hh;exact h (Except.error.inj hh)
theorem mLins_ne {f:Lf->Lf×Int}:∀{l:List Lf},mLins f l≠ .error 0
 |[]=>by simp [mLins]
 |x::r=>by
  rw [mLins]
  cases h1:fE f x with
  |error y=>intro h;cases h;exact fE_ne h1
  |ok a=>
   cases h2:mLins f r with
   |error y=>intro h;cases h;exact mLins_ne h2
   |ok a=>simp
theorem mIx_ne {f:Lf->Lf×Int} {x:Ix}:mIx f x≠ .error 0:=by
 rw [mIx]
 cases h1:fE f x.Lin with
 |error y=>intro h;cases h;exact fE_ne h1
 |ok a=>
  cases h2:mLins f x.At with
  |error y=>intro h;cases h;exact mLins_ne h2
  |ok a=>simp
theorem mIxs_ne {f:Lf->Lf×Int}:∀{l:List Ix},mIxs f l≠ .error 0
 |[]=>by simp [mIxs]
 |x::r=>by
  rw [mIxs]
  cases h1:mIx f x with
  |error y=>intro h;cases h;exact mIx_ne h1
  |ok a=>
   cases h2:mIxs f r with
   |error y=>intro h;cases h;exact mIxs_ne h2
   |ok a=>simp
mutual
theorem mEx_ne {f:Lf->Lf×Int}:∀e:Ex,mEx f e≠ .error 0
 |.mk o n v t l i arg_=>by
  rw [mEx]
  cases h1:fE f l with
  |error y=>intro h;cases h;exact fE_ne h1
  |ok a=>
   cases h2:mIxs f i with
   |error y=>intro h;cases h;exact mIxs_ne h2
   |ok a=>
    cases h3:mExs f arg_ with
    |error y=>intro h;cases h;exact mExs_ne arg_ h3
    |ok a=>simp
theorem mExs_ne {f:Lf->Lf×Int}:∀l:List Ex,mExs f l≠ .error 0
 |[]=>by simp [mExs]
 |x::r=>by
  rw [mExs]
  cases h1:mEx f x with
  |error y=>intro h;cases h;exact mEx_ne x h1
  |ok a=>
   cases h2:mExs f r with
   |error y=>intro h;cases h;exact mExs_ne r h2
   |ok a=>simp
end
theorem mExs_next {f:Lf->Lf×Int} {l:List Ex} {k:Nat} {x:Ex} {done:List Ex} (h:l[k]? =some x) (hp:mExs f l=mapRest done (mExs f (l.drop k))) (hx:errE (mEx f x)=0):mExs f l=mapRest (done++[outE (mEx f x)]) (mExs f (l.drop (k+1))):=by
 rw [hp,qN h,mExs]
 obtain ⟨y,hy⟩:=errE_ok hx (mEx_ne x)
 rw [hy]
 cases mExs f (l.drop (k+1))<;>simp [mapRest,andThenE,outE]
theorem mExs_no {f:Lf->Lf×Int} {l:List Ex} {k:Nat} {x:Ex} {done:List Ex} (h:l[k]? =some x) (hp:mExs f l=mapRest done (mExs f (l.drop k))) (hx:¬errE (mEx f x)=0):mExs f l=.error (errE (mEx f x)):=by
 rw [hp,qN h,mExs]
 cases hm:mEx f x with
 |error y=>rfl
 |ok y=>rw [hm] at hx;exact absurd rfl hx
theorem mExs_end {f:Lf->Lf×Int} {l:List Ex} {k:Nat} {done:List Ex} (hp:mExs f l=mapRest done (mExs f (l.drop k))) (h:¬k<l.length):mExs f l=.ok done:=by
 rw [hp,kV h];simp [mExs,mapRest,andThenE]
def idF (l:Lf):Lf×Int:=(l,0)
theorem mLins_id:∀l:List Lf,mLins idF l=.ok l
 |[]=>rfl
 |x::r=>by rw [mLins,zNq rfl,mLins_id r];rfl
theorem mIx_id (x:Ix):mIx idF x=.ok x:=by rw [mIx,zNq rfl,mLins_id];rfl
theorem mIxs_id:∀l:List Ix,mIxs idF l=.ok l
 |[]=>rfl
 |x::r=>by rw [mIxs,mIx_id,mIxs_id r]
mutual
theorem mEx_id:∀e:Ex,mEx idF e=.ok e
 |.mk o n v t l i arg_=>by rw [mEx,zNq rfl,mIxs_id,mExs_id arg_];rfl
theorem mExs_id:∀l:List Ex,mExs idF l=.ok l
 |[]=>by rw [mExs]
 |x::r=>by rw [mExs,mEx_id x,mExs_id r]
end
/-! ## A row in the middle -/
theorem zMh {α:Type} {f:α->List C} {A:List (List C)} {l:List α} {k:Nat} {x:α} (hA:A.length=k) (h:l[k]? =some x):(A++(l.drop k).map f)[k]? =some (f x):=by
 rw [qN h,List.map_cons,List.getElem?_append_right (by omega),hA];simp
theorem zHn {α:Type} {f:α->List C} {A:List (List C)} {l:List α} {k:Nat} (hA:A.length=k) (h:k<l.length):((k:Int)).toNat<(A++(l.drop k).map f).length:=by
 simp;omega
theorem zHm {α:Type} {f:α->List C} {A:List (List C)} {l:List α} {k:Nat} {x:α} {r:List C} (hA:A.length=k) (h:l[k]? =some x):(A++(l.drop k).map f).set k r=(A++[r])++(l.drop (k+1)).map f:=by
 rw [qN h,List.map_cons,List.set_append_right _ _ (by omega),hA];simp
theorem mid_set' {α:Type} {f:α->List C} {A B:List (List C)} {l:List α} {k:Nat} {r r':List C} (hA:A.length=k):((A++[r])++B).set k r'=(A++[r'])++B:=by
 rw [List.append_assoc,List.set_append_right _ _ (by omega),hA];simp
theorem zDt {A:List (List C)} {k:Nat} {r:List C} (h:k<A.length):(A.set k r)[k]? =some r:=by
 rw [List.getElem?_set_self h]
theorem mid_getE {A:List (List C)} {l:List Ex} {k:Nat} {x:Ex} (hA:A.length=k) (h:l[k]? =some x):(A++(l.drop k).map Ex.cells)[k]? =some x.cs:=by
 rw [zMh hA h,Ex.cells_eq]
theorem mEx_e1 {f:Lf->Lf×Int} {e:Ex} (h:¬(f e.Lin).2=0):mEx f e=.error (f e.Lin).2:=by rw [mEx_eq,fE_err h]
theorem mEx_e2 {f:Lf->Lf×Int} {e:Ex} {c:Int} (h:(f e.Lin).2=0) (h2:mIxs f e.Idx=.error c):mEx f e=.error c:=by rw [mEx_eq,zNq h,h2]
theorem mEx_e3 {f:Lf->Lf×Int} {e:Ex} {c:Int} {i:List Ix} (h:(f e.Lin).2=0) (h2:mIxs f e.Idx=.ok i) (h3:mExs f e.Args=.error c):mEx f e=.error c:=by rw [mEx_eq,zNq h,h2,h3]
theorem mEx_ok {f:Lf->Lf×Int} {e:Ex} {i:List Ix} {a:List Ex} (h:(f e.Lin).2=0) (h2:mIxs f e.Idx=.ok i) (h3:mExs f e.Args=.ok a):mEx f e=.ok (.mk e.Op e.Name e.Val e.Ty (f e.Lin).1 i a):=by rw [mEx_eq,zNq h,h2,h3]
theorem mIx_e1 {f:Lf->Lf×Int} {x:Ix} (h:¬(f x.Lin).2=0):mIx f x=.error (f x.Lin).2:=by rw [mIx,fE_err h]
theorem mIx_e2 {f:Lf->Lf×Int} {x:Ix} {c:Int} (h:(f x.Lin).2=0) (h2:mLins f x.At=.error c):mIx f x=.error c:=by rw [mIx,zNq h,h2]
theorem mIx_ok {f:Lf->Lf×Int} {x:Ix} {a:List Lf} (h:(f x.Lin).2=0) (h2:mLins f x.At=.ok a):mIx f x=.ok ⟨(f x.Lin).1,x.From,a⟩:=by rw [mIx,zNq h,h2]
def Ex.allF (P:Lf->Prop) (e:Ex):Prop:=∀x,x∈nodes e->∀l,l∈formsL x->P l
theorem Ex.allF_lin {P:Lf->Prop} {e:Ex} (h:e.allF P):P e.Lin:=h e (by rw [zAl];simp) _ (by unfold formsL;simp)
theorem Ex.allF_ix {P:Lf->Prop} {e:Ex} (h:e.allF P) {x:Ix} (hx:x∈e.Idx):P x.Lin:=h e (by rw [zAl];simp) _ (by unfold formsL;exact List.mem_cons_of_mem _ (List.mem_flatMap.2 ⟨x,hx,by simp⟩))
theorem Ex.allF_at {P:Lf->Prop} {e:Ex} (h:e.allF P) {x:Ix} (hx:x∈e.Idx) {l:Lf} (hl:l∈x.At):P l:=h e (by rw [zAl];simp) _ (by unfold formsL;exact List.mem_cons_of_mem _ (List.mem_flatMap.2 ⟨x,hx,by simp [hl]⟩))
theorem zPe {a x:Ex}:∀{l:List Ex},a∈l->x∈nodes a->x∈nodesL l
 |[],h,_=>by cases h
 |b::r,h,hx=>by
  rw [nodesL,List.mem_append]
  rcases List.mem_cons.1 h with rfl|h
  ·exact .inl hx
  ·exact .inr (zPe h hx)
theorem Ex.allF_arg {P:Lf->Prop} {e:Ex} (h:e.allF P) {a:Ex} (ha:a∈e.Args):a.allF P:=fun x hx=>h x (by rw [zAl];exact List.mem_cons_of_mem _ (zPe ha hx))
/-! ## Counts: all but the lengths of forms -/
def ixCnt:List Ix->Nat
 |[]=>0
 |x::r=>x.At.length+ixCnt r
mutual
def Ex.cnt:Ex->Nat
 |.mk _ _ _ _ _ i r=>1+i.length+ixCnt i+cntL r
def cntL:List Ex->Nat
 |[]=>0
 |e::r=>e.cnt+cntL r
end
theorem Ex.cnt_eq (e:Ex):e.cnt=1+e.Idx.length+ixCnt e.Idx+cntL e.Args:=by cases e;rw [Ex.cnt];rfl
theorem Ex.cnt_pos (e:Ex):1<=e.cnt:=by rw [Ex.cnt_eq];omega
theorem ixCnt_mem {l:List Ix} {x:Ix} (h:x∈l):x.At.length<=ixCnt l:=by
 induction l with
 |nil=>cases h
 |cons a r ih=>
  rw [ixCnt]
  exact j8
theorem cntL_len (l:List Ex):l.length<=cntL l:=by
 induction l with
 |nil=>simp [cntL]
 |cons a r ih=>rw [cntL,List.length_cons];have:=a.cnt_pos;omega
theorem cntL_mem {l:List Ex} {a:Ex} (h:a∈l):a.cnt<=cntL l:=by
 induction l with
 |nil=>cases h
 |cons x r ih=>
  rw [cntL]
  exact j8
theorem Ex.cparts {e:Ex} {B:Nat} (h:e.cnt<=B):e.Idx.length<=B/\e.Args.length<=B/\∀x,x∈e.Idx->x.At.length<=B:=by
 rw [Ex.cnt_eq] at h
 have:=cntL_len e.Args
 exact ⟨by omega,by omega,fun x hx=>by have:=ixCnt_mem hx;omega⟩
theorem Ex.arg_cnt {e a:Ex} (h:a∈e.Args):a.cnt<e.cnt:=by
 rw [Ex.cnt_eq e];have:=cntL_mem h;omega
theorem ixCnt_le (l:List Ix):ixCnt l<=idxWt l:=by
 induction l with
 |nil=>simp [ixCnt]
 |cons x r ih=>rw [ixCnt,idxWt,Ix.wt];omega
theorem Ex.cnt_le (e:Ex):e.cnt<=e.wt:=by
 induction e using Ex.ind with
 |_ e ih=>
  rw [Ex.cnt_eq,Ex.wt_eq]
  have h1:=ixCnt_le e.Idx
  have h2:∀l:List Ex,(∀a,a∈l->a.cnt<=a.wt)->cntL l<=argsWt l:=by
   intro l
   induction l with
   |nil=>intro _;simp [cntL]
   |cons a r ihr=>
    intro h
    rw [cntL,argsWt]
    have:=h a (by simp)
    have:=ihr fun b hb=>h b (by simp [hb])
    omega
  have:=h2 e.Args ih
  omega
end Go.Br
end
section
namespace Go.Br
open Go Go.Eng Go.L41
theorem zKz {l:List Ex} (h:errsL l=0):∀x,x∈l->nodeErr x=0:=by
 induction l with
 |nil=>intro x hx;cases hx
 |cons y r ih=>
  intro x hx
  rw [errsL] at h
  by_cases hy:nodeErr y=0
  ·rw [zDj hy,cond_true] at h
   rcases List.mem_cons.1 hx with rfl|hx
   ·exact hy
   ·exact ih h x hx
  ·rw [wH hy,cond_false] at h;exact absurd h hy
theorem zLz {e:Ex} (h:partE e=0):nodeErr e=0:=zKz h e (by rw [zAl];simp)
theorem zOz {e a:Ex} (h:partE e=0) (ha:a∈e.Args):partE a=0:=by
 have hn:=zLz h
 rw [partE_eq,zDj hn,cond_true] at h
 obtain ⟨k,hk⟩:=List.getElem?_of_mem ha
 have:∀l:List Ex,partL l=0->a∈l->partE a=0:=by
  intro l
  induction l with
  |nil=>intro _ h;cases h
  |cons y r ih=>
   intro h hm
   rw [partL_cons] at h
   by_cases hy:partE y=0
   ·rw [zDj hy,cond_true] at h
    rcases List.mem_cons.1 hm with rfl|hm
    ·exact hy
    ·exact ih h hm
   ·rw [wH hy,cond_false] at h;exact absurd h hy
 exact this _ h ha
theorem zDm {e:Ex} (h:validE e=0):partE e=0:=by
 unfold validE at h
 by_cases h1:40<depT 40 e
 ·rw [zDj h1] at h;simp at h
 ·rw [wH h1,cond_false] at h
  by_cases h2:(2000:Int)<szT e
  ·rw [zDj h2] at h;simp at h
  ·rwa [wH h2,cond_false] at h
theorem zKj {e:Ex} (h:nodeErr e=0):synOk e=true/\namesE e=true/\rankE e=true/\typesE e=true/\formOk e=true:=by
 unfold nodeErr at h
 cases h1:synOk e<;>rw [h1] at h<;>simp at h
 cases h2:namesE e<;>rw [h2] at h<;>simp at h
 cases h3:rankE e<;>rw [h3] at h<;>simp at h
 cases h4:typesE e<;>rw [h4] at h<;>simp at h
 cases h5:formOk e<;>rw [h5] at h<;>simp at h
 simp
def zL:Lf:=⟨0,[]⟩
end Go.Br
end
section
namespace Go.Br
open Go Go.Eng Go.L41
structure Cn where
 Lin:Lf
 Eq:Bool
 deriving DecidableEq
structure Ax where
 Name:ByteArray
 Size:Lf
 deriving DecidableEq
structure Pm where
 Name:ByteArray
 T:Ty
 Dims:List Lf
 deriving DecidableEq
structure Df where
 Name:ByteArray
 T:Ty
 Dims:List Ax
 Red:List Ax
 Fold:Int
 Body:Ex
 deriving DecidableEq
structure Pg where
 Sizes:List ByteArray
 Where:List Cn
 Params:List Pm
 Defs:List Df
 Outs:List ByteArray
 deriving DecidableEq
def Cn.cells (x:Cn):List C:=[cI x.Lin.K,.sl 2 (x.Lin.L.map Mono.cells),cB x.Eq]
def Ax.cells (x:Ax):List C:=[cS x.Name,cI x.Size.K,.sl 2 (x.Size.L.map Mono.cells)]
def Pm.cells (x:Pm):List C:=[cS x.Name,cI x.T.Kind,cI x.T.Bits,cI x.T.Frac,cI x.T.Round,cI x.T.Over,.sl 2 (x.Dims.map Lf.cells)]
def Df.cells (x:Df):List C:=[cS x.Name,cI x.T.Kind,cI x.T.Bits,cI x.T.Frac,cI x.T.Round,cI x.T.Over,.sl 3 (x.Dims.map Ax.cells),.sl 3 (x.Red.map Ax.cells),cI x.Fold,
 cI x.Body.Op,cS x.Body.Name,cI x.Body.Val.N,cI x.Body.Val.D,cI x.Body.Ty.Kind,cI x.Body.Ty.Bits,cI x.Body.Ty.Frac,cI x.Body.Ty.Round,cI x.Body.Ty.Over,cI x.Body.Lin.K,.sl 2 (x.Body.Lin.L.map Mono.cells),.sl 4 (x.Body.Idx.map Ix.cells),.sl 13 (x.Body.Args.map Ex.cells)]
def Pg.cells (p:Pg):List C:=[.sl 1 (p.Sizes.map fun s=>[cS s]),.sl 3 (p.Where.map Cn.cells),.sl 7 (p.Params.map Pm.cells),.sl 22 (p.Defs.map Df.cells),.sl 1 (p.Outs.map fun s=>[cS s])]
abbrev vCn (x:Cn):V:=.agg x.cells
abbrev vPm (x:Pm):V:=.agg x.cells
abbrev vDf (x:Df):V:=.agg x.cells
abbrev vPg (x:Pg):V:=.agg x.cells
def lfFit (l:Lf):Prop:=l.L.length<=140737488355328
def Pm.fit (x:Pm):Prop:=x.Dims.length<=140737488355328/\∀l,l∈x.Dims->lfFit l
def Df.fit (d:Df):Prop:=d.Dims.length<=140737488355328/\d.Red.length<=140737488355328/\(∀a,a∈d.Dims->lfFit a.Size)/\(∀a,a∈d.Red->lfFit a.Size)/\d.Body.fit
structure Pg.Fit (p:Pg):Prop where
 sizes:p.Sizes.length<=140737488355328
 wh:p.Where.length<=140737488355328
 params:p.Params.length<=140737488355328
 defs:p.Defs.length<=140737488355328
 outs:p.Outs.length<=140737488355328
 whs:∀c,c∈p.Where->lfFit c.Lin
 ps:∀x,x∈p.Params->x.fit
 ds:∀d,d∈p.Defs->d.fit
def zTy:Ty:=⟨0,0,0,0,0⟩
def iTy:Ty:=⟨3,0,0,0,0⟩
/-! ## Find -/
structure Fd where
 ty:Ty
 dims:List Lf
 ok:Bool
def findD (s:ByteArray):List Df->Fd
 |[]=>⟨zTy,[],false⟩
 |d::r=>bif decide (d.Name=s) then ⟨d.T,d.Dims.map Ax.Size,true⟩ else findD s r
def findP (s:ByteArray) (ds:List Df):List Pm->Fd
 |[]=>findD s ds
 |x::r=>bif decide (x.Name=s) then ⟨x.T,x.Dims,true⟩ else findP s ds r
def defOf (s:ByteArray) (l:List Df):Int:=idxOf (fun d=>decide (d.Name=s)) l
structure En where
 sz:List ByteArray
 pm:List Pm
 df:List Df
def Pg.en (p:Pg):En:=⟨p.Sizes,p.Params,p.Defs⟩
def En.find (n:En) (s:ByteArray):Fd:=findP s n.df n.pm
def namesD (d:Df):List ByteArray:=d.Dims.map Ax.Name++d.Red.map Ax.Name
/-! ## Types of expressions -/
def knL (k:ByteArray->Bool) (l:List Mono):Bool:=l.all fun m=>k m.Name
def formK (k:ByteArray->Bool) (l:Lf):Int:=bif knL k l.L then 0 else 9
def formsK (k:ByteArray->Bool) (l:List Lf):Int:=bif l.all (fun x=>knL k x.L) then 0 else 9
def indexK (n:En) (k:ByteArray->Bool) (x:Ix):Int:=
 bif decide (x.From=bs []) then formK k x.Lin else
 bif !(n.find x.From).ok then 9 else
 bif !decide ((n.find x.From).ty.Kind=3) then 10 else
 bif !decide (x.At.length=(n.find x.From).dims.length) then 11 else formsK k x.At
def indexL (n:En) (k:ByteArray->Bool):List Ix->Int
 |[]=>0
 |x::r=>bif decide (indexK n k x=0) then indexL n k r else indexK n k x
def readK (n:En) (k:ByteArray->Bool) (e:Ex):Ty×Int:=
 bif !(n.find e.Name).ok then (zTy,9) else
 bif !decide (e.Idx.length=(n.find e.Name).dims.length) then (zTy,11) else
 bif decide (indexL n k e.Idx=0) then ((n.find e.Name).ty,0) else (zTy,indexL n k e.Idx)
def unlike (a b:Ty):Int:=bif decide (a=b) then 0 else 10
def tyAt (l:List Ty) (i:Nat):Ty:=l.getD i zTy
def ofN (n:En) (k:ByteArray->Bool) (e:Ex) (l:List Ty):Ty×Int:=
 if e.Op=1∨e.Op=12 then (e.Ty,0) else
 if e.Op=2 then (iTy,formK k e.Lin) else
 if e.Op=3 then readK n k e else
 if e.Op=8 then (tyAt l 0,0) else
 if e.Op=11 then (tyAt l 1,unlike (tyAt l 1) (tyAt l 2)) else
 if e.Op=16∨e.Op=17∨e.Op=18 then (zTy,0) else
 if e.Op=13∨e.Op=14∨e.Op=15 then (zTy,unlike (tyAt l 0) (tyAt l 1)) else
 (tyAt l 0,unlike (tyAt l 0) (tyAt l 1))
def refN (n:En) (k:ByteArray->Bool) (e:Ex) (l:List Ty):Ty×Int:=
 if e.Op=1∨e.Op=12 then (e.Ty,0) else
 if e.Op=2 then (iTy,formsK k [e.Lin]) else
 if e.Op=3 then readK n k e else
 if e.Op=11 then (if tyAt l 1=tyAt l 2 then (tyAt l 1,0) else (zTy,10)) else
 if e.Op=8 then (tyAt l 0,0) else
 if 16<=e.Op then (zTy,0) else
 if tyAt l 0=tyAt l 1 then (if 13<=e.Op then (zTy,0) else (tyAt l 0,0)) else (zTy,10)
mutual
def nodeT (N:Ex->List Ty->Ty×Int):Ex->Ty×Int
 |.mk o nm v t l i arg_=>if (nodeL N arg_).2=0 then N (.mk o nm v t l i arg_) (nodeL N arg_).1 else (zTy,(nodeL N arg_).2)
def nodeL (N:Ex->List Ty->Ty×Int):List Ex->List Ty×Int
 |[]=>([],0)
 |a::r=>if (nodeT N a).2=0 then (if (nodeL N r).2=0 then ((nodeT N a).1::(nodeL N r).1,0) else ([],(nodeL N r).2)) else ([],(nodeT N a).2)
end
theorem zIl (N:Ex->List Ty->Ty×Int) (e:Ex):nodeT N e=if (nodeL N e.Args).2=0 then N e (nodeL N e.Args).1 else (zTy,(nodeL N e.Args).2):=by
 cases e;rw [nodeT];rfl
def knB (sz vars:List ByteArray) (s:ByteArray):Bool:=hasB vars s||hasB sz s
def typeBy (N:Ex->List Ty->Ty×Int) (e:Ex):Ty×Int:=
 if validE e=0 then (if isCond e=true then (zTy,10) else if (nodeT N e).2=0 then ((nodeT N e).1,0) else (zTy,(nodeT N e).2)) else (zTy,validE e)
def typeT (n:En) (vars:List ByteArray) (e:Ex):Ty×Int:=typeBy (ofN n (knB n.sz vars)) e
def typeR (n:En) (vars:List ByteArray) (e:Ex):Ty×Int:=typeBy (refN n (knB n.sz vars)) e
def alike (a b:Ty×Int):Prop:=a.2=b.2/\(a.2=0->a.1=b.1)
theorem forms_one (k:ByteArray->Bool) (l:Lf):formsK k [l]=formK k l:=by simp [formsK,formK]
theorem ofN_refN (n:En) (k:ByteArray->Bool) (e:Ex) (l:List Ty) (h1:1<=e.Op) (h2:e.Op<=18):alike (ofN n k e l) (refN n k e l):=by
 unfold ofN refN alike
 rw [forms_one]
 by_cases c1:e.Op=1∨e.Op=12
 ·simp [c1]
 by_cases c2:e.Op=2
 ·simp [c1,c2]
 by_cases c3:e.Op=3
 ·simp [c1,c2,c3]
 by_cases c8:e.Op=8
 ·simp [c8]
 by_cases c11:e.Op=11
 ·simp only [c11]
  by_cases h:tyAt l 1=tyAt l 2
  ·simp [h,unlike]
  ·simp [h,unlike]
 simp only [c1,c2,c3,c8,c11,if_false]
 by_cases c16:16<=e.Op
 ·have:e.Op=16∨e.Op=17∨e.Op=18:=by omega
  simp [this,c16]
 ·have:¬(e.Op=16∨e.Op=17∨e.Op=18):=by omega
  simp only [this,c16,if_false]
  by_cases c13:13<=e.Op
  ·have:e.Op=13∨e.Op=14∨e.Op=15:=by omega
   simp only [this,c13,if_true]
   by_cases h:tyAt l 0=tyAt l 1<;>simp [h,unlike]
  ·have:¬(e.Op=13∨e.Op=14∨e.Op=15):=by omega
   simp only [this,c13,if_false]
   by_cases h:tyAt l 0=tyAt l 1<;>simp [h,unlike]
theorem node_op {e:Ex} (h:nodeErr e=0):1<=e.Op/\e.Op<=18:=by
 have:=(zKj h).1
 simp only [synOk,Bool.and_eq_true,Bool.not_eq_true',Bool.or_eq_false_iff,decide_eq_false_iff_not] at this
 obtain ⟨⟨⟨⟨⟨⟨h1,h2⟩,_⟩,_⟩,_⟩,_⟩,_⟩:=this
 exact ⟨by omega,by omega⟩
mutual
theorem zPf (n:En) (k:ByteArray->Bool):∀e:Ex,partE e=0->alike (nodeT (ofN n k) e) (nodeT (refN n k) e)
 |.mk o nm v t l i arg_,h=>by
  obtain ⟨h1,h2⟩:=node_op (zLz h)
  obtain ⟨h3,h4⟩:=zPg n k arg_ fun a ha=>zOz h ha
  rw [nodeT,nodeT,←h3]
  by_cases c:(nodeL (ofN n k) arg_).2=0
  ·rw [if_pos c,if_pos c,←h4 c]
   exact ofN_refN n k _ _ h1 h2
  ·rw [if_neg c,if_neg c]
   exact ⟨rfl,fun _=>rfl⟩
theorem zPg (n:En) (k:ByteArray->Bool):∀l:List Ex,(∀a,a∈l->partE a=0)->(nodeL (ofN n k) l).2=(nodeL (refN n k) l).2/\((nodeL (ofN n k) l).2=0->(nodeL (ofN n k) l).1=(nodeL (refN n k) l).1)
 |[],_=>⟨rfl,fun _=>rfl⟩
 |a::r,h=>by
  obtain ⟨h1,h2⟩:=zPf n k a (h a (by simp))
  obtain ⟨h3,h4⟩:=zPg n k r fun x hx=>h x (by simp [hx])
  rw [nodeL,nodeL,←h1,←h3]
  by_cases c:(nodeT (ofN n k) a).2=0
  ·rw [if_pos c,if_pos c]
   by_cases d:(nodeL (ofN n k) r).2=0
   ·rw [if_pos d,if_pos d,h2 c,h4 d];exact ⟨rfl,fun _=>rfl⟩
   ·rw [if_neg d,if_neg d];exact ⟨rfl,fun _=>rfl⟩
  ·rw [if_neg c,if_neg c];exact ⟨rfl,fun _=>rfl⟩
end
theorem typeT_R (n:En) (vars:List ByteArray) (e:Ex):typeT n vars e=typeR n vars e:=by
 unfold typeT typeR typeBy
 by_cases h:validE e=0
 ·rw [if_pos h,if_pos h]
  by_cases c:isCond e=true
  ·rw [if_pos c,if_pos c]
  ·rw [if_neg c,if_neg c]
   obtain ⟨h1,h2⟩:=zPf n (knB n.sz vars) e (zDm h)
   rw [←h1]
   by_cases d:(nodeT (ofN n (knB n.sz vars)) e).2=0
   ·rw [if_pos d,if_pos d,h2 d]
   ·rw [if_neg d,if_neg d]
 ·rw [if_neg h,if_neg h]
/-! ## Validate,the reference -/
def nameR (s:ByteArray) (taken:List ByteArray):Int:=if isNameB s=true then (if hasB taken s=true then 8 else 0) else 7
def formR (l:Lf) (sz:List ByteArray):Int:=if linOk l=true then (if knL (hasB sz) l.L=true then 0 else 9) else 1
def formsR (sz:List ByteArray):List Lf->Int
 |[]=>0
 |l::r=>if formR l sz=0 then formsR sz r else formR l sz
def paramR (x:Pm) (sz taken:List ByteArray):Int:=
 if nameR x.Name taken=0 then (if tyOk x.T=true then (if 6<x.Dims.length then 11 else formsR sz x.Dims) else 10) else nameR x.Name taken
def axesR (sz:List ByteArray):List ByteArray->List Ax->Int
 |_,[]=>0
 |taken,a::r=>if nameR a.Name taken=0 then (if formR a.Size sz=0 then axesR sz (taken++[a.Name]) r else formR a.Size sz) else nameR a.Name taken
def foldR (d:Df):Int:=
 if d.Fold<0∨5<d.Fold then 1 else
 if (decide (d.Fold=0∨d.Fold=5) !=decide (d.Red.length=0))=true∨d.Fold=5/\d.Dims.length=0 then 11 else 0
def tyErrD (t:Ty×Int) (d:Df):Int:=if t.2=0 then (if t.1=d.T then 0 else 10) else t.2
def defR (n:En) (d:Df) (taken:List ByteArray):Int:=
 if nameR d.Name taken=0 then
  (if tyOk d.T=true then
   (if 6<d.Dims.length∨6<d.Red.length then 11 else
    (if axesR n.sz n.sz (d.Dims++d.Red)=0 then (if foldR d=0 then tyErrD (typeR n (namesD d) d.Body) d else foldR d) else axesR n.sz n.sz (d.Dims++d.Red)))
   else 10)
 else nameR d.Name taken
def sizesR:List ByteArray->List ByteArray->Int
 |_,[]=>0
 |taken,s::r=>if nameR s taken=0 then sizesR (taken++[s]) r else nameR s taken
def limitOk (p:Pg):Prop:=p.Sizes.length<=64/\p.Params.length<=64/\p.Defs.length<=64/\p.Outs.length<=64/\p.Where.length<=256
instance (p:Pg):Decidable (limitOk p):=by unfold limitOk;infer_instance
def whereR (sz:List ByteArray):List Cn->Int
 |[]=>0
 |c::r=>if formR c.Lin sz=0 then whereR sz r else formR c.Lin sz
def outsR (n:En):Int->List ByteArray->List ByteArray->Int×Int
 |_,_,[]=>(0,0)
 |at_,seen,s::r=>if (n.find s).ok=true then (if hasB seen s=true then (at_,8) else outsR n (at_+1) (seen++[s]) r) else (at_,9)
def defsR (p:Pg):Int->List ByteArray->List Df->List Df->Int×Int
 |at_,_,_,[]=>outsR p.en at_ [] p.Outs
 |at_,taken,before,d::r=>if defR ⟨p.Sizes,p.Params,before⟩ d taken=0 then defsR p (at_+1) (taken++[d.Name]) (before++[d]) r else (at_,defR ⟨p.Sizes,p.Params,before⟩ d taken)
def paramsR (p:Pg):Int->List ByteArray->List Pm->Int×Int
 |at_,taken,[]=>defsR p at_ taken [] p.Defs
 |at_,taken,x::r=>if paramR x p.Sizes taken=0 then paramsR p (at_+1) (taken++[x.Name]) r else (at_,paramR x p.Sizes taken)
def validR (p:Pg):Int×Int:=
 if limitOk p then
  (if sizesR [] p.Sizes=0 then (if whereR p.Sizes p.Where=0 then paramsR p 2 p.Sizes p.Params else (1,whereR p.Sizes p.Where)) else (0,sizesR [] p.Sizes))
 else (0,2)
/-! ## Validate,the program: with a table of what each name is (1 a size,2 a tensor) -/
abbrev Kn:=List (ByteArray×Int)
def kget (m:Kn) (s:ByteArray):Int:=(mget m s).getD 0
def nameM (m:Kn) (s:ByteArray):Int:=if isNameB s=true then (if kget m s=0 then 0 else 8) else 7
def sizedM (m:Kn) (l:Lf):Int:=if linOk l=true then (if knL (fun s=>decide (kget m s=1)) l.L=true then 0 else 9) else 1
def sizedsM (m:Kn):List Lf->Int
 |[]=>0
 |l::r=>if sizedM m l=0 then sizedsM m r else sizedM m l
def paramM (m:Kn) (x:Pm):Int:=
 if nameM m x.Name=0 then (if tyOk x.T=true then (if 6<x.Dims.length then 11 else sizedsM (mput m x.Name 2) x.Dims) else 10) else nameM m x.Name
def axesM (m:Kn):List ByteArray->List Ax->Int
 |_,[]=>0
 |own,a::r=>if isNameB a.Name=true then (if hasB own a.Name=true∨kget m a.Name=1 then 8 else (if sizedM m a.Size=0 then axesM m (own++[a.Name]) r else sizedM m a.Size)) else 7
def foldM (d:Df):Int:=
 if d.Fold=0 then (if 0<d.Red.length then 11 else 0) else
 if d.Fold=1∨d.Fold=2∨d.Fold=3∨d.Fold=4 then (if d.Red.length=0 then 11 else 0) else
 if d.Fold=5 then (if 0<d.Red.length∨d.Dims.length=0 then 11 else 0) else 1
def defM (m:Kn) (n:En) (d:Df):Int:=
 if nameM m d.Name=0 then
  (if tyOk d.T=true then
   (if 6<d.Dims.length∨6<d.Red.length then 11 else
    (if axesM (mput m d.Name 2) [] (d.Dims++d.Red)=0 then (if foldM d=0 then tyErrD (typeT n (namesD d) d.Body) d else foldM d) else axesM (mput m d.Name 2) [] (d.Dims++d.Red)))
   else 10)
 else nameM m d.Name
def sizesM:Kn->List ByteArray->Int
 |_,[]=>0
 |m,s::r=>if nameM m s=0 then sizesM (mput m s 1) r else nameM m s
def tabS:Kn->List ByteArray->Kn
 |m,[]=>m
 |m,s::r=>tabS (mput m s 1) r
def whereM (m:Kn):List Cn->Int
 |[]=>0
 |c::r=>if sizedM m c.Lin=0 then whereM m r else sizedM m c.Lin
def outsM (m:Kn):Int->List ByteArray->List ByteArray->Int×Int
 |_,_,[]=>(0,0)
 |at_,seen,s::r=>if kget m s=2 then (if hasB seen s=true then (at_,8) else outsM m (at_+1) (seen++[s]) r) else (at_,9)
def defsM (p:Pg):Int->Kn->List Df->List Df->Int×Int
 |at_,m,_,[]=>outsM m at_ [] p.Outs
 |at_,m,before,d::r=>if defM m ⟨p.Sizes,p.Params,before⟩ d=0 then defsM p (at_+1) (mput m d.Name 2) (before++[d]) r else (at_,defM m ⟨p.Sizes,p.Params,before⟩ d)
def paramsM (p:Pg):Int->Kn->List Pm->Int×Int
 |at_,m,[]=>defsM p at_ m [] p.Defs
 |at_,m,x::r=>if paramM m x=0 then paramsM p (at_+1) (mput m x.Name 2) r else (at_,paramM m x)
def validM (p:Pg):Int×Int:=
 if limitOk p then
  (if sizesM [] p.Sizes=0 then (if whereM (tabS [] p.Sizes) p.Where=0 then paramsM p 2 (tabS [] p.Sizes) p.Params else (1,whereM (tabS [] p.Sizes) p.Where)) else (0,sizesM [] p.Sizes))
 else (0,2)
end Go.Br
end
section
namespace Go.Br
open Go Go.Eng Go.L41
theorem wZ (a b:List ByteArray) (s:ByteArray):hasB (a++b) s=(hasB a s||hasB b s):=by simp [hasB,List.any_append]
theorem zIn (s t:ByteArray):hasB [s] t=decide (s=t):=by simp [hasB]
theorem mget_mput' (m:Kn) (k s:ByteArray) (a:Int):mget (mput m k a) s=if k=s then some a else mget m s:=by
 induction m with
 |nil=>simp [mput,mget]
 |cons x r ih=>
  exact v15
theorem zDz (m:Kn) (k s:ByteArray) (a:Int):kget (mput m k a) s=if k=s then a else kget m s:=by
 unfold kget;rw [mget_mput'];by_cases h:k=s<;>simp [h]
structure Rel (m:Kn) (sz tn:List ByteArray):Prop where
 one:∀s,kget m s=1↔hasB sz s=true
 two:∀s,kget m s=2↔hasB tn s=true
 zero:∀s,kget m s=0↔hasB (sz++tn) s=false
theorem Rel.nil:Rel [] [] []:=⟨fun s=>by simp [kget,mget,hasB],fun s=>by simp [kget,mget,hasB],fun s=>by simp [kget,mget,hasB]⟩
theorem Rel.size {m:Kn} {sz:List ByteArray} (h:Rel m sz []) {s:ByteArray} (h0:kget m s=0):Rel (mput m s 1) (sz++[s]) []:=by
 refine ⟨fun t=>?_,fun t=>?_,fun t=>?_⟩
 ·rw [zDz,wZ,zIn]
  by_cases e:s=t
  ·simp [e]
  ·simp [e,h.one t]
 ·rw [zDz]
  by_cases e:s=t
  ·simp [e,hasB]
  ·simp [e,h.two t]
 ·rw [zDz,List.append_nil,wZ,zIn]
  by_cases e:s=t
  ·simp [e]
  ·have:=h.zero t
   rw [List.append_nil] at this
   simp [e,this]
theorem Rel.tensor {m:Kn} {sz tn:List ByteArray} (h:Rel m sz tn) {s:ByteArray} (h0:kget m s=0):Rel (mput m s 2) sz (tn++[s]):=by
 refine ⟨fun t=>?_,fun t=>?_,fun t=>?_⟩
 ·rw [zDz]
  by_cases e:s=t
  ·subst e
   have h1:¬hasB sz s=true:=fun k=>by have:=(h.one s).2 k;omega
   simp [h1]
  ·simp [e,h.one t]
 ·rw [zDz,wZ,zIn]
  by_cases e:s=t
  ·simp [e]
  ·simp [e,h.two t]
 ·rw [zDz,wZ,wZ,zIn]
  by_cases e:s=t
  ·simp [e]
  ·have:=h.zero t
   rw [wZ] at this
   simp [e,this]
theorem nameM_R {m:Kn} {sz tn:List ByteArray} (h:Rel m sz tn) (s:ByteArray):nameM m s=nameR s (sz++tn):=by
 unfold nameM nameR
 by_cases h1:isNameB s=true
 ·rw [if_pos h1,if_pos h1]
  by_cases h2:kget m s=0
  ·rw [if_pos h2,if_neg (by rw [(h.zero s).1 h2];simp)]
  ·rw [if_neg h2,if_pos (by cases k:hasB (sz++tn) s;exact absurd ((h.zero s).2 k) h2;rfl)]
 ·rw [if_neg h1,if_neg h1]
theorem zFh {m:Kn} {s:ByteArray} (h:nameM m s=0):kget m s=0:=by
 unfold nameM at h
 by_cases h1:isNameB s=true
 ·rw [if_pos h1] at h
  by_cases h2:kget m s=0
  ·exact h2
  ·rw [if_neg h2] at h;cases h
 ·rw [if_neg h1] at h;cases h
theorem knL_congr {k k':ByteArray->Bool} (h:∀s,k s=k' s) (l:List Mono):knL k l=knL k' l:=by
 unfold knL;congr 1;funext m;exact h m.Name
theorem sizedM_R {m:Kn} {sz tn:List ByteArray} (h:Rel m sz tn) (l:Lf):sizedM m l=formR l sz:=by
 unfold sizedM formR
 rw [knL_congr (k':=hasB sz)]
 intro s
 rw [Bool.eq_iff_iff,decide_eq_true_eq];exact h.one s
theorem sizedsM_R {m:Kn} {sz tn:List ByteArray} (h:Rel m sz tn) (l:List Lf):sizedsM m l=formsR sz l:=by
 induction l with
 |nil=>rfl
 |cons x r ih=>rw [sizedsM,formsR,sizedM_R h,ih]
theorem paramM_R {m:Kn} {sz tn:List ByteArray} (h:Rel m sz tn) (x:Pm):paramM m x=paramR x sz (sz++tn):=by
 unfold paramM paramR
 rw [←nameM_R h]
 by_cases h1:nameM m x.Name=0
 ·rw [if_pos h1,if_pos h1,sizedsM_R (h.tensor (zFh h1))]
 ·rw [if_neg h1,if_neg h1]
theorem axesM_R {m:Kn} {sz tn:List ByteArray} (h:Rel m sz tn):∀(l:List Ax) (own:List ByteArray),axesM m own l=axesR sz (sz++own) l
 |[],own=>rfl
 |a::r,own=>by
  have ih:=axesM_R h r (own++[a.Name])
  rw [axesM,axesR,sizedM_R h,ih,List.append_assoc]
  unfold nameR
  by_cases h1:isNameB a.Name=true
  ·rw [if_pos h1,if_pos h1,wZ]
   by_cases h2:hasB own a.Name=true∨kget m a.Name=1
   ·rw [if_pos h2]
    have h3:(hasB sz a.Name||hasB own a.Name)=true:=by
     rcases h2 with h2|h2
     ·simp [h2]
     ·simp [(h.one _).1 h2]
    rw [if_pos h3];rfl
   ·rw [if_neg h2]
    have h3:¬(hasB sz a.Name||hasB own a.Name)=true:=by
     intro h3
     rw [Bool.or_eq_true] at h3
     rcases h3 with h3|h3
     ·exact h2 (.inr ((h.one _).2 h3))
     ·exact h2 (.inl h3)
    rw [if_neg h3,if_pos rfl]
  ·rw [if_neg h1,if_neg h1];rfl
theorem foldM_R (d:Df):foldM d=foldR d:=by
 unfold foldM foldR
 by_cases h0:d.Fold=0
 ·by_cases hr:d.Red.length=0<;>simp [h0,hr]<;>omega
 by_cases h5:d.Fold=5
 ·by_cases hr:d.Red.length=0
  ·by_cases hd:d.Dims.length=0<;>simp [h5,hr,hd]
  ·have:0<d.Red.length:=by omega
   simp [h5,hr,this]
 by_cases h1:d.Fold=1∨d.Fold=2∨d.Fold=3∨d.Fold=4
 ·have h2:¬(d.Fold<0∨5<d.Fold):=by omega
  by_cases hr:d.Red.length=0<;>simp [h0,h5,h1,h2,hr]
 ·have h2:d.Fold<0∨5<d.Fold:=by omega
  simp [h0,h5,h1,h2]
theorem defM_R {m:Kn} {n:En} {tn:List ByteArray} (h:Rel m n.sz tn) (d:Df):defM m n d=defR n d (n.sz++tn):=by
 unfold defM defR
 rw [←nameM_R h]
 by_cases h1:nameM m d.Name=0
 ·rw [if_pos h1,if_pos h1,axesM_R (h.tensor (zFh h1)),List.append_nil,foldM_R,typeT_R]
 ·rw [if_neg h1,if_neg h1]
theorem defM_name {m:Kn} {n:En} {d:Df} (h:defM m n d=0):nameM m d.Name=0:=by
 unfold defM at h
 by_cases h1:nameM m d.Name=0
 ·exact h1
 ·rw [if_neg h1] at h;exact absurd h h1
theorem zPa {m:Kn} {x:Pm} (h:paramM m x=0):nameM m x.Name=0:=by
 unfold paramM at h
 by_cases h1:nameM m x.Name=0
 ·exact h1
 ·rw [if_neg h1] at h;exact absurd h h1
theorem sizesM_R:∀(l:List ByteArray) (m:Kn) (sz:List ByteArray),Rel m sz []->sizesM m l=sizesR sz l/\(sizesM m l=0->Rel (tabS m l) (sz++l) [])
 |[],m,sz,h=>⟨rfl,fun _=>by rw [List.append_nil];exact h⟩
 |s::r,m,sz,h=>by
  have e:=nameM_R h s
  rw [List.append_nil] at e
  rw [sizesM,sizesR,←e,tabS]
  by_cases h1:nameM m s=0
  ·rw [if_pos h1,if_pos h1]
   obtain ⟨h2,h3⟩:=sizesM_R r _ _ (h.size (zFh h1))
   exact ⟨h2,fun k=>by have:=h3 k;rwa [List.append_assoc] at this⟩
  ·rw [if_neg h1,if_neg h1];exact ⟨rfl,fun k=>absurd k h1⟩
theorem whereM_R {m:Kn} {sz tn:List ByteArray} (h:Rel m sz tn) (l:List Cn):whereM m l=whereR sz l:=by
 induction l with
 |nil=>rfl
 |cons x r ih=>rw [whereM,whereR,sizedM_R h,ih]
theorem findD_ok (s:ByteArray):∀l:List Df,(findD s l).ok=hasB (l.map Df.Name) s
 |[]=>rfl
 |d::r=>by
  rw [findD,List.map_cons,show d.Name::r.map Df.Name=[d.Name]++r.map Df.Name from rfl,wZ,zIn,←findD_ok s r]
  by_cases h:d.Name=s<;>simp [h]
theorem findP_ok (s:ByteArray) (ds:List Df):∀l:List Pm,(findP s ds l).ok=(hasB (l.map Pm.Name) s||hasB (ds.map Df.Name) s)
 |[]=>by rw [findP,findD_ok];simp [hasB]
 |x::r=>by
  rw [findP,List.map_cons,show x.Name::r.map Pm.Name=[x.Name]++r.map Pm.Name from rfl,wZ,zIn]
  by_cases h:x.Name=s
  ·simp [h]
  ·simp [h,findP_ok s ds r]
theorem outsM_R {m:Kn} {n:En} (h:Rel m n.sz (n.pm.map Pm.Name++n.df.map Df.Name)):∀(l:List ByteArray) (i:Int) (seen:List ByteArray),outsM m i seen l=outsR n i seen l
 |[],i,seen=>rfl
 |s::r,i,seen=>by
  rw [outsM,outsR,outsM_R h r]
  have e:kget m s=2↔(n.find s).ok=true:=by
   rw [h.two s,En.find,findP_ok,wZ]
  by_cases h2:kget m s=2
  ·rw [if_pos h2,if_pos (e.1 h2)]
  ·rw [if_neg h2,if_neg (fun k=>h2 (e.2 k))]
theorem defsM_R (p:Pg):∀(l:List Df) (i:Int) (m:Kn) (before:List Df),p.Defs=before++l->Rel m p.Sizes (p.Params.map Pm.Name++before.map Df.Name)->
  defsM p i m before l=defsR p i (p.Sizes++(p.Params.map Pm.Name++before.map Df.Name)) before l
 |[],i,m,before,hp,h=>by
  rw [List.append_nil] at hp
  subst hp
  rw [defsM,defsR]
  exact outsM_R (n:=p.en) h _ _ _
 |d::r,i,m,before,hp,h=>by
  rw [defsM,defsR,defM_R (n:=⟨p.Sizes,p.Params,before⟩) h]
  by_cases h1:defR ⟨p.Sizes,p.Params,before⟩ d (p.Sizes++(p.Params.map Pm.Name++before.map Df.Name))=0
  ·rw [if_pos h1,if_pos h1]
   have h2:defM m ⟨p.Sizes,p.Params,before⟩ d=0:=by rw [defM_R (n:=⟨p.Sizes,p.Params,before⟩) h];exact h1
   have h3:=h.tensor (zFh (defM_name h2))
   have e:p.Params.map Pm.Name++before.map Df.Name++[d.Name]=p.Params.map Pm.Name++(before++[d]).map Df.Name:=by simp
   rw [e] at h3
   rw [defsM_R p r (i+1) _ (before++[d]) (by rw [hp];simp) h3,←e,←List.append_assoc p.Sizes]
  ·rw [if_neg h1,if_neg h1]
theorem paramsM_R (p:Pg):∀(l:List Pm) (i:Int) (m:Kn) (before:List Pm),p.Params=before++l->Rel m p.Sizes (before.map Pm.Name)->
  paramsM p i m l=paramsR p i (p.Sizes++before.map Pm.Name) l
 |[],i,m,before,hp,h=>by
  rw [List.append_nil] at hp
  subst hp
  rw [paramsM,paramsR]
  have:=defsM_R p p.Defs i m [] rfl (by simpa using h)
  simpa using this
 |x::r,i,m,before,hp,h=>by
  rw [paramsM,paramsR,paramM_R h]
  by_cases h1:paramR x p.Sizes (p.Sizes++before.map Pm.Name)=0
  ·rw [if_pos h1,if_pos h1]
   have h2:paramM m x=0:=by rw [paramM_R h];exact h1
   have h3:=h.tensor (zFh (zPa h2))
   have e:before.map Pm.Name++[x.Name]=(before++[x]).map Pm.Name:=by simp
   rw [e] at h3
   rw [paramsM_R p r (i+1) _ (before++[x]) (by rw [hp];simp) h3,←e,List.append_assoc]
  ·rw [if_neg h1,if_neg h1]
theorem zFn (p:Pg):validM p=validR p:=by
 unfold validM validR
 by_cases h:limitOk p
 ·rw [if_pos h,if_pos h]
  obtain ⟨h1,h2⟩:=sizesM_R p.Sizes [] [] Rel.nil
  rw [←h1]
  by_cases c:sizesM [] p.Sizes=0
  ·rw [if_pos c,if_pos c]
   have h3:=h2 c
   rw [List.nil_append] at h3
   rw [whereM_R h3]
   have h4:=paramsM_R p p.Params 2 (tabS [] p.Sizes) [] rfl (by simpa using h3)
   rw [List.map_nil,List.append_nil] at h4
   rw [h4]
  ·rw [if_neg c,if_neg c]
 ·rw [if_neg h,if_neg h]
end Go.Br
end
section
namespace Go.Br
open Go Go.Eng Go.L41
def totL:List (List Ax)->Nat
 |[]=>0
 |l::r=>l.length+totL r
theorem zJh:∀(a b:List (List Ax)),totL (a++b)=totL a+totL b
 |[],b=>by simp [totL]
 |l::r,b=>by simp [totL,zJh r b];omega
theorem totL_flat:∀(a:List (List Ax)),totL a=a.flatten.length
 |[]=>rfl
 |l::r=>by simp [totL,totL_flat r]
theorem tot_next {ls:List (List Ax)} {k:Nat} {x:List Ax} (h:ls[k]? =some x):totL (ls.take (k+1))=totL (ls.take k)+x.length:=by
 rw [qW h,zJh];simp [totL]
theorem tot_le (ls:List (List Ax)) (k:Nat):totL (ls.take k)<=totL ls:=by
 have:totL ls=totL (ls.take k)+totL (ls.drop k):=by rw [←zJh,List.take_append_drop]
 omega
theorem tot_get {ls:List (List Ax)} {k:Nat} {x:List Ax} (h:ls[k]? =some x):totL (ls.take k)+x.length<=totL ls:=by
 rw [←tot_next h];exact tot_le _ _
theorem tot_flat {ls:List (List Ax)} {k:Nat} {x:List Ax} (h:ls[k]? =some x):(ls.take k).flatten.length+x.length<=totL ls:=by
 rw [←totL_flat];exact tot_get h
structure Pg.Ok (p:Pg):Prop where
 sizes:p.Sizes.length<=4294967296
 wh:p.Where.length<=4294967296
 params:p.Params.length<=4294967296
 defs:p.Defs.length<=4294967296
 outs:p.Outs.length<=4294967296
 whs:∀c,c∈p.Where->c.Lin.L.length<=5864062014805
 ps:∀x,x∈p.Params->x.Dims.length<=4294967296/\∀l,l∈x.Dims->l.L.length<=5864062014805
 ds:∀d,d∈p.Defs->d.Dims.length<=1073741824/\d.Red.length<=1073741824/\(∀a,a∈d.Dims->a.Size.L.length<=5864062014805)/\(∀a,a∈d.Red->a.Size.L.length<=5864062014805)/\d.Body.wt<=4294967296
theorem Pg.Ok.take {p:Pg} (h:p.Ok) (k:Nat):Pg.Ok ⟨p.Sizes,p.Where,p.Params,p.Defs.take k,p.Outs⟩:=
 ⟨h.sizes,h.wh,h.params,by have:=h.defs;simp only [List.length_take];omega,h.outs,h.whs,h.ps,fun d hd=>h.ds d (List.mem_of_mem_take hd)⟩
theorem names_rows (d:Df):(d.Dims++d.Red).map (fun a=>[cS a.Name])=(namesD d).map fun s=>[cS s]:=by
 simp [namesD,List.map_append,List.map_map,Function.comp_def]
theorem limit_eq (p:Pg):(decide (max (max (max (p.Sizes.length:Int) p.Params.length) p.Defs.length) p.Outs.length<=64)&&decide ((p.Where.length:Int)<=256))=decide (limitOk p):=by
 unfold limitOk
 by_cases h:p.Sizes.length<=64/\p.Params.length<=64/\p.Defs.length<=64/\p.Outs.length<=64/\p.Where.length<=256
 ·rw [decide_eq_true h,Bool.and_eq_true]
  exact ⟨decide_eq_true (by omega),decide_eq_true (by omega)⟩
 ·rw [decide_eq_false h,Bool.and_eq_false_iff]
  by_cases h2:p.Where.length<=256
  ·exact .inl (decide_eq_false (by omega))
  ·exact .inr (decide_eq_false (by omega))
theorem len_of_get {α:Type} {l:List α} {k:Nat} {x:α} (h:l[k]? =some x):k+1<=l.length:=(List.getElem?_eq_some_iff.1 h).1
def maxT (l:List Int) (k:Nat):Int:=(l.take k).foldl max (l.headD 0)
theorem maxT_next {l:List Int} {k:Nat} {x:Int} (h:l[k]? =some x):max (maxT l k) x=maxT l (k+1):=by
 unfold maxT;rw [qW h,List.foldl_append];rfl
theorem maxT_one {l:List Int} {x:Int} (h:l[0]? =some x):x=maxT l 1:=by
 cases l with
 |nil=>simp at h
 |cons a r=>simp at h;subst h;simp [maxT]
def declE (t:Ty) (l:List Int):Int:=if tyOk t=true then (if 6<maxT l l.length then 11 else 0) else 10
theorem tyErr_no {t:Ty} (h:¬tyErr t=0):tyOk t=false:=by
 cases c:tyOk t
 ·rfl
 ·exact absurd (by simp [tyErr,c]) h
theorem tyErr_yes {t:Ty} (h:tyErr t=0):tyOk t=true:=by
 cases c:tyOk t
 ·simp [tyErr,c] at h
 ·rfl
theorem decl_one (t:Ty) (n:Nat):declE t [(n:Int)]=if tyOk t=true then (if 6<n then 11 else 0) else 10:=by
 unfold declE maxT
 by_cases h:tyOk t=true
 ·simp only [if_pos h];by_cases h2:6<n
  ·rw [if_pos h2,if_pos (by simp;omega)]
  ·rw [if_neg h2,if_neg (by simp;omega)]
 ·simp only [if_neg h]
theorem decl_two (t:Ty) (n m:Nat):declE t [(n:Int),(m:Int)]=if tyOk t=true then (if 6<n∨6<m then 11 else 0) else 10:=by
 unfold declE maxT
 by_cases h:tyOk t=true
 ·simp only [if_pos h];by_cases h2:6<n∨6<m
  ·rw [if_pos h2,if_pos (by simp;omega)]
  ·rw [if_neg h2,if_neg (by simp;omega)]
 ·simp only [if_neg h]
end Go.Br
end
section
namespace Go.Br
open Go Go.Eng Go.L41
abbrev vP (b:Nat):V:=.c (.lit (.pointer (some ⟨b,0,none⟩)))
def nameMap (m:Kn) (s:ByteArray) (k:Int):Kn:=if nameM m s=0 then mput m s k else m
theorem nameM_bad {m:Kn} {s:ByteArray} (h:isNameB s=false):nameM m s=7:=by unfold nameM;rw [h];rfl
theorem nameM_dup {m:Kn} {s:ByteArray} (h:isNameB s=true) (h2:¬kget m s=0):nameM m s=8:=by unfold nameM;rw [h,if_pos rfl,if_neg h2]
theorem nameM_ok {m:Kn} {s:ByteArray} (h:isNameB s=true) (h2:kget m s=0):nameM m s=0:=by unfold nameM;rw [h,if_pos rfl,if_pos h2]
theorem nmap_bad {m:Kn} {s:ByteArray} {k n:Int} (h:nameM m s=n) (hn:n≠0):m=nameMap m s k:=by unfold nameMap;rw [if_neg (by rw [h];exact hn)]
theorem zMf {m:Kn} {s:ByteArray} {k:Int} (h:nameM m s=0):nameMap m s k=mput m s k:=by unfold nameMap;rw [if_pos h]
theorem zPp {l:Lf} (h:¬linErr l=0):linOk l=false:=by
 cases c:linOk l
 ·rfl
 ·exact absurd (by simp [linErr,c]) h
theorem zFj {l:Lf} (h:linErr l=0):linOk l=true:=by
 cases c:linOk l
 ·simp [linErr,c] at h
 ·rfl
theorem knF_next {f:ByteArray->Bool} {l:List Mono} {k:Nat} {x:Mono} (h:l[k]? =some x) (hp:knL f (l.take k)=true) (c:f x.Name=true):knL f (l.take (k+1))=true:=by
 unfold knL at *
 rw [qW h,List.all_append,hp]
 simp [c]
theorem knF_no {f:ByteArray->Bool} {l:List Mono} {k:Nat} {x:Mono} (h:l[k]? =some x) (c:f x.Name=false):knL f l=false:=by
 unfold knL
 rw [List.all_eq_false]
 exact ⟨x,qC h,by simp [c]⟩
theorem sized_arg {m:Kn} {l:Lf} (h:linOk l=false):sizedM m l=1:=by unfold sizedM;rw [if_neg (by rw [h];simp)]
theorem sized_nf {m:Kn} {l:Lf} (h:linOk l=true) (h2:knL (fun s=>decide (kget m s=1)) l.L=false):sizedM m l=9:=by unfold sizedM;rw [if_pos h,if_neg (by rw [h2];simp)]
theorem sized_ok {m:Kn} {l:Lf} (h:linOk l=true) (h2:knL (fun s=>decide (kget m s=1)) l.L=true):sizedM m l=0:=by unfold sizedM;rw [if_pos h,if_pos h2]
theorem sizeds_at {m:Kn} {l:List Lf} {k:Nat} {x:Lf} (h:l[k]? =some x) (hs:sizedM m x=0):sizedsM m (l.drop k)=sizedsM m (l.drop (k+1)):=by rw [qN h,sizedsM,if_pos hs]
theorem sizeds_no {m:Kn} {l:List Lf} {k:Nat} {x:Lf} (h:l[k]? =some x) (hs:¬sizedM m x=0):sizedsM m (l.drop k)=sizedM m x:=by rw [qN h,sizedsM,if_neg hs]
theorem zCv {α:Type} {l:List α} {k:Nat} (h:¬k<l.length):l.drop k=[]:=List.drop_of_length_le (by omega)
def ownT:List Ax->List (ByteArray×Bool)
 |l=>l.foldl (fun m a=>mput m a.Name true) []
theorem ownT_next {l:List Ax} {k:Nat} {x:Ax} (h:l[k]? =some x):ownT (l.take (k+1))=mput (ownT (l.take k)) x.Name true:=by
 unfold ownT;rw [qW h,List.foldl_append];rfl
theorem mget_mputB (m:List (ByteArray×Bool)) (k s:ByteArray) (a:Bool):mget (mput m k a) s=if k=s then some a else mget m s:=by
 induction m with
 |nil=>simp [mput,mget]
 |cons x r ih=>
  exact v15
theorem own_fold (s:ByteArray):∀(l:List Ax) (m:List (ByteArray×Bool)),(mget (l.foldl (fun m a=>mput m a.Name true) m) s).getD false=(hasB (l.map Ax.Name) s||(mget m s).getD false)
 |[],m=>by simp [hasB]
 |a::r,m=>by
  rw [List.foldl_cons,own_fold s r,mget_mputB]
  by_cases h:a.Name=s
  ·simp [hasB,h]
  ·simp [hasB,h]
theorem own_get (s:ByteArray) (l:List Ax):(mget (ownT l) s).getD false=hasB (l.map Ax.Name) s:=by
 unfold ownT;rw [own_fold];simp [mget]
theorem axes_at {m:Kn} {l:List Ax} {own:List ByteArray} {k:Nat} {x:Ax} (h:l[k]? =some x) (h1:isNameB x.Name=true) (h2:¬(hasB own x.Name=true∨kget m x.Name=1)) (h3:sizedM m x.Size=0):axesM m own (l.drop k)=axesM m (own++[x.Name]) (l.drop (k+1)):=by
 rw [qN h,axesM,if_pos h1,if_neg h2,if_pos h3]
theorem axes_7 {m:Kn} {l:List Ax} {own:List ByteArray} {k:Nat} {x:Ax} (h:l[k]? =some x) (h1:isNameB x.Name=false):axesM m own (l.drop k)=7:=by
 rw [qN h,axesM,if_neg (by rw [h1];simp)]
theorem axes_8 {m:Kn} {l:List Ax} {own:List ByteArray} {k:Nat} {x:Ax} (h:l[k]? =some x) (h1:isNameB x.Name=true) (h2:hasB own x.Name=true∨kget m x.Name=1):axesM m own (l.drop k)=8:=by
 rw [qN h,axesM,if_pos h1,if_pos h2]
theorem axes_s {m:Kn} {l:List Ax} {own:List ByteArray} {k:Nat} {x:Ax} (h:l[k]? =some x) (h1:isNameB x.Name=true) (h2:¬(hasB own x.Name=true∨kget m x.Name=1)) (h3:¬sizedM m x.Size=0):axesM m own (l.drop k)=sizedM m x.Size:=by
 rw [qN h,axesM,if_pos h1,if_neg h2,if_neg h3]
/-! ## Find -/
theorem find_at {s:ByteArray} {ds:List Df} {l:List Pm} {k:Nat} {x:Pm} (h:l[k]? =some x) (hx:x.Name=s):findP s ds (l.drop k)=⟨x.T,x.Dims,true⟩:=by rw [qN h,findP,decide_eq_true hx];rfl
theorem find_next {s:ByteArray} {ds:List Df} {l:List Pm} {k:Nat} {x:Pm} (h:l[k]? =some x) (hx:¬x.Name=s):findP s ds (l.drop k)=findP s ds (l.drop (k+1)):=by rw [qN h,findP,decide_eq_false hx];rfl
theorem find_def (s:ByteArray):∀l:List Df,(0<=defOf s l->∃d,l[(defOf s l).toNat]? =some d/\findD s l=⟨d.T,d.Dims.map Ax.Size,true⟩)/\(defOf s l<0->findD s l=⟨zTy,[],false⟩)
 |[]=>⟨fun h=>by simp [defOf,idxOf] at h,fun _=>rfl⟩
 |d::r=>by
  obtain ⟨h1,h2⟩:=find_def s r
  have hge:=idxOf_ge (fun d:Df=>decide (d.Name=s)) r
  unfold defOf at *
  unfold idxOf findD
  by_cases h:d.Name=s
  ·simp only [decide_eq_true h,cond_true]
   exact ⟨fun _=>⟨d,by simp,rfl⟩,fun h=>by omega⟩
  ·simp only [decide_eq_false h,cond_false]
   by_cases h3:idxOf (fun d:Df=>decide (d.Name=s)) r= -1
   ·simp only [decide_eq_true h3,cond_true]
    exact ⟨fun h=>by omega,fun _=>h2 (by omega)⟩
   ·simp only [decide_eq_false h3,cond_false]
    refine ⟨fun _=>?_,fun h=>by omega⟩
    obtain ⟨x,hx,hf⟩:=h1 (by omega)
    exact ⟨x,by rw [show (idxOf (fun d:Df=>decide (d.Name=s)) r+1).toNat=(idxOf (fun d:Df=>decide (d.Name=s)) r).toNat+1 by omega];simpa using hx,hf⟩
/-! ## The typer -/
def kn (m:Kn) (s:ByteArray):Bool:= !decide (kget m s=0)
theorem kn_t {m:Kn} {s:ByteArray} (h:¬kget m s=0):kn m s=true:=by unfold kn;rw [decide_eq_false h];rfl
theorem kn_f {m:Kn} {s:ByteArray} (h:kget m s=0):kn m s=false:=by unfold kn;rw [decide_eq_true h];rfl
theorem formK_ok {k:ByteArray->Bool} {l:Lf} (h:knL k l.L=true):formK k l=0:=by unfold formK;rw [h];rfl
theorem formK_no {k:ByteArray->Bool} {l:Lf} (h:knL k l.L=false):formK k l=9:=by unfold formK;rw [h];rfl
theorem formsK_no {k:ByteArray->Bool} {l:List Lf} {j:Nat} {x:Lf} (h:l[j]? =some x) (hx:¬formK k x=0):formsK k l=formK k x:=by
 have h1:knL k x.L=false:=by
  cases c:knL k x.L
  ·rfl
  ·exact absurd (formK_ok c) hx
 unfold formsK
 rw [show l.all (fun x=>knL k x.L)=false from List.all_eq_false.2 ⟨x,qC h,by simp [h1]⟩,formK_no h1];rfl
theorem formsK_next {k:ByteArray->Bool} {l:List Lf} {j:Nat} {x:Lf} (h:l[j]? =some x) (hp:(l.take j).all (fun x=>knL k x.L)=true) (hx:formK k x=0):(l.take (j+1)).all (fun x=>knL k x.L)=true:=by
 have h1:knL k x.L=true:=by
  cases c:knL k x.L
  ·rw [formK_no c] at hx;cases hx
  ·rfl
 rw [qW h,List.all_append,hp];simp [h1]
theorem formsK_ok {k:ByteArray->Bool} {l:List Lf} (hp:l.all (fun x=>knL k x.L)=true):formsK k l=0:=by unfold formsK;rw [hp];rfl
theorem indexL_next {n:En} {k:ByteArray->Bool} {l:List Ix} {j:Nat} {x:Ix} (h:l[j]? =some x) (hx:indexK n k x=0):indexL n k (l.drop j)=indexL n k (l.drop (j+1)):=by rw [qN h,indexL,decide_eq_true hx];rfl
theorem indexL_no {n:En} {k:ByteArray->Bool} {l:List Ix} {j:Nat} {x:Ix} (h:l[j]? =some x) (hx:¬indexK n k x=0):indexL n k (l.drop j)=indexK n k x:=by rw [qN h,indexL,decide_eq_false hx];rfl
def tyC (t:Ty):List C:=[cI t.Kind,cI t.Bits,cI t.Frac,cI t.Round,cI t.Over]
theorem tyC_eq (a b:Ty):litsEq [cI a.Kind,cI a.Bits,cI a.Frac,cI a.Round,cI a.Over] [cI b.Kind,cI b.Bits,cI b.Frac,cI b.Round,cI b.Over]=decide (a=b):=by
 obtain ⟨a1,a2,a3,a4,a5⟩:=a
 obtain ⟨b1,b2,b3,b4,b5⟩:=b
 simp only [litsEq,cEq,Ty.mk.injEq,Bool.and_true,Bool.decide_and]
theorem zHk (N:Ex->List Ty->Ty×Int):∀(a b:List Ex),(nodeL N a).2=0->nodeL N (a++b)=if (nodeL N b).2=0 then ((nodeL N a).1++(nodeL N b).1,0) else ([],(nodeL N b).2)
 |[],b,_=>by
  simp only [List.nil_append,nodeL,List.nil_append]
  cases b with
  |nil=>simp [nodeL]
  |cons x r=>
   simp only [nodeL]
   by_cases h1:(nodeT N x).2=0
   ·by_cases h2:(nodeL N r).2=0
    ·simp [h1,h2]
    ·simp [h1,h2]
   ·simp [h1]
 |x::r,b,h=>by
  rw [nodeL] at h
  by_cases h1:(nodeT N x).2=0
  ·rw [if_pos h1] at h
   by_cases h2:(nodeL N r).2=0
   ·rw [List.cons_append,nodeL,if_pos h1,zHk N r b h2]
    rw [nodeL,if_pos h1,if_pos h2]
    by_cases h3:(nodeL N b).2=0
    ·simp [h3]
    ·simp [h3]
   ·rw [if_neg h2] at h;exact absurd h h2
  ·rw [if_neg h1] at h;exact absurd h h1
theorem zIm {N:Ex->List Ty->Ty×Int} {l:List Ex} {k:Nat} {x:Ex} (h:l[k]? =some x) (hp:(nodeL N (l.take k)).2=0) (hx:(nodeT N x).2=0):nodeL N (l.take (k+1))=((nodeL N (l.take k)).1++[(nodeT N x).1],0):=by
 rw [qW h,zHk N _ _ hp];simp [nodeL,hx]
theorem nodeL_no {N:Ex->List Ty->Ty×Int} {l:List Ex} {k:Nat} {x:Ex} (h:l[k]? =some x) (hp:(nodeL N (l.take k)).2=0) (hx:¬(nodeT N x).2=0):(nodeL N l).2=(nodeT N x).2:=by
 have e:l=l.take k++(x::l.drop (k+1)):=by rw [←qN h,List.take_append_drop]
 rw [e,zHk N _ _ hp]
 simp [nodeL,hx]
theorem zHj (N:Ex->List Ty->Ty×Int):∀l:List Ex,(nodeL N l).2=0->(nodeL N l).1.length=l.length
 |[],_=>rfl
 |x::r,h=>by
  rw [nodeL] at h⊢
  by_cases h1:(nodeT N x).2=0
  ·rw [if_pos h1] at h⊢
   by_cases h2:(nodeL N r).2=0
   ·rw [if_pos h2];simp [zHj N r h2]
   ·rw [if_neg h2] at h;exact absurd h h2
  ·rw [if_neg h1] at h;exact absurd h h1
def tabV (m:Kn) (l:List ByteArray) (a:Int):Kn:=l.foldl (fun m s=>mput m s a) m
theorem zJy {m:Kn} {l:List ByteArray} {a:Int} {k:Nat} {x:ByteArray} (h:l[k]? =some x):tabV m (l.take (k+1)) a=mput (tabV m (l.take k) a) x a:=by
 unfold tabV;rw [qW h,List.foldl_append];rfl
theorem tabV_get (a:Int) (s:ByteArray):∀(l:List ByteArray) (m:Kn),kget (tabV m l a) s=if hasB l s=true then a else kget m s
 |[],m=>by simp [tabV,hasB]
 |x::r,m=>by
  unfold tabV
  rw [List.foldl_cons]
  have:=tabV_get a s r (mput m x a)
  unfold tabV at this
  rw [this,zDz]
  have hc:hasB (x::r) s=(decide (x=s)||hasB r s):=rfl
  rw [hc]
  by_cases h:x=s
  ·simp only [h,if_true,decide_true,Bool.true_or];split<;>rfl
  ·simp only [h,if_false,decide_false,Bool.false_or]
theorem kn_tab (sz vars:List ByteArray):kn (tabV (tabV [] sz 1) vars 3)=knB sz vars:=by
 funext s
 unfold kn knB
 rw [tabV_get,tabV_get]
 cases h1:hasB vars s<;>cases h2:hasB sz s<;>simp [kget,mget]
end Go.Br
namespace Go.Br
open Go Go.Eng Go.L41
theorem param_ok {m:Kn} {x:Pm} (c1:nameM m x.Name=0) (c2:declE x.T [(x.Dims.length:Int)]=0):paramM m x=sizedsM (nameMap m x.Name 2) x.Dims:=by
 unfold paramM
 rw [decl_one] at c2
 rw [if_pos c1,zMf c1]
 split at c2
 ·rename_i ht
  rw [if_pos ht]
  split at c2
  ·cases c2
  ·rename_i h6;rw [if_neg h6]
 ·cases c2
theorem param_bad {m:Kn} {x:Pm} (c1:nameM m x.Name=0) (c2:¬declE x.T [(x.Dims.length:Int)]=0):paramM m x=declE x.T [(x.Dims.length:Int)]:=by
 unfold paramM
 rw [decl_one] at c2⊢
 rw [if_pos c1]
 split at c2
 ·rename_i ht
  rw [if_pos ht,if_pos ht]
  split at c2
  ·rename_i h6;rw [if_pos h6,if_pos h6]
  ·exact absurd rfl c2
 ·rename_i ht;rw [if_neg ht,if_neg ht]
theorem ax_yes {own:List (ByteArray×Bool)} {m:Kn} {s:ByteArray} {l:List ByteArray} (h:(mget own s).getD false=hasB l s) (c:((mget own s).getD false||decide (kget m s=1))=true):hasB l s=true∨kget m s=1:=by
 rw [h,Bool.or_eq_true,decide_eq_true_eq] at c
 exact c
theorem ax_no {own:List (ByteArray×Bool)} {m:Kn} {s:ByteArray} {l:List ByteArray} (h:(mget own s).getD false=hasB l s) (c:((mget own s).getD false||decide (kget m s=1))=false):¬(hasB l s=true∨kget m s=1):=by
 rw [h,Bool.or_eq_false_iff,decide_eq_false_iff_not] at c
 rintro (k|k)
 ·rw [c.1] at k;cases k
 ·exact c.2 k
end Go.Br
end
section
namespace Go.Br
open Go Go.Eng Go.L41
theorem nodeT_no {N:Ex->List Ty->Ty×Int} {e x:Ex} {k:Nat} (h:e.Args[k]? =some x) (hp:(nodeL N (e.Args.take k)).2=0) (hx:¬(nodeT N x).2=0):nodeT N e=(zTy,(nodeT N x).2):=by
 have h1:=nodeL_no h hp hx
 rw [zIl N e,h1,if_neg hx]
theorem nodeT_ok {N:Ex->List Ty->Ty×Int} {e:Ex} {k:Nat} (h:e.Args.take k=e.Args) (hp:(nodeL N (e.Args.take k)).2=0):nodeT N e=N e (nodeL N (e.Args.take k)).1:=by
 rw [h] at hp⊢
 rw [zIl N e,if_pos hp]
theorem readK_9 {n:En} {k:ByteArray->Bool} {e:Ex} (h:(n.find e.Name).ok=false):readK n k e=(zTy,9):=by unfold readK;rw [h];rfl
theorem readK_11 {n:En} {k:ByteArray->Bool} {e:Ex} (h:(n.find e.Name).ok=true) (h2:¬e.Idx.length=(n.find e.Name).dims.length):readK n k e=(zTy,11):=by unfold readK;rw [h,decide_eq_false h2];rfl
theorem readK_x {n:En} {k:ByteArray->Bool} {e:Ex} (h:(n.find e.Name).ok=true) (h2:e.Idx.length=(n.find e.Name).dims.length) (h3:¬indexL n k e.Idx=0):readK n k e=(zTy,indexL n k e.Idx):=by unfold readK;rw [h,decide_eq_true h2,decide_eq_false h3];rfl
theorem readK_0 {n:En} {k:ByteArray->Bool} {e:Ex} (h:(n.find e.Name).ok=true) (h2:e.Idx.length=(n.find e.Name).dims.length) (h3:indexL n k e.Idx=0):readK n k e=((n.find e.Name).ty,0):=by unfold readK;rw [h,decide_eq_true h2,decide_eq_true h3];rfl
theorem unlike_0 {a b:Ty} (h:a=b):unlike a b=0:=by unfold unlike;rw [decide_eq_true h];rfl
theorem unlike_10 {a b:Ty} (h:¬a=b):unlike a b=10:=by unfold unlike;rw [decide_eq_false h];rfl
theorem zEi {a b:Ty} (h:(!litsEq [cI a.Kind,cI a.Bits,cI a.Frac,cI a.Round,cI a.Over] [cI b.Kind,cI b.Bits,cI b.Frac,cI b.Round,cI b.Over])=true):¬a=b:=by
 rw [tyC_eq] at h;simpa using h
theorem zEj {a b:Ty} (h:(!litsEq [cI a.Kind,cI a.Bits,cI a.Frac,cI a.Round,cI a.Over] [cI b.Kind,cI b.Bits,cI b.Frac,cI b.Round,cI b.Over])=false):a=b:=by
 rw [tyC_eq] at h;simpa using h
theorem tyAt_get {l:List Ty} {i:Nat} (h:i<l.length):(l.map tyC)[i]? =some (tyC (tyAt l i)):=by
 rw [List.getElem?_map,List.getElem?_eq_getElem h]
 simp [tyAt,List.getD,List.getElem?_eq_getElem h]
theorem zMd {n:En} {k:ByteArray->Bool} {e:Ex} {l:List Ty} (h:e.Op=1∨e.Op=12):ofN n k e l=(e.Ty,0):=by unfold ofN;rw [if_pos h]
theorem zMc {n:En} {k:ByteArray->Bool} {e:Ex} {l:List Ty} (h:e.Op=2):ofN n k e l=(iTy,formK k e.Lin):=by unfold ofN;rw [if_neg (by omega),if_pos h]
theorem zKh {n:En} {k:ByteArray->Bool} {e:Ex} {l:List Ty} (h:e.Op=3):ofN n k e l=readK n k e:=by unfold ofN;rw [if_neg (by omega),if_neg (by omega),if_pos h]
theorem zMb {n:En} {k:ByteArray->Bool} {e:Ex} {l:List Ty} (h:e.Op=8):ofN n k e l=(tyAt l 0,0):=by unfold ofN;rw [if_neg (by omega),if_neg (by omega),if_neg (by omega),if_pos h]
theorem zFg {n:En} {k:ByteArray->Bool} {e:Ex} {l:List Ty} (h:e.Op=11):ofN n k e l=(tyAt l 1,unlike (tyAt l 1) (tyAt l 2)):=by unfold ofN;rw [if_neg (by omega),if_neg (by omega),if_neg (by omega),if_neg (by omega),if_pos h]
theorem zFe {n:En} {k:ByteArray->Bool} {e:Ex} {l:List Ty} (h:e.Op=16∨e.Op=17∨e.Op=18):ofN n k e l=(zTy,0):=by unfold ofN;rw [if_neg (by omega),if_neg (by omega),if_neg (by omega),if_neg (by omega),if_neg (by omega),if_pos h]
theorem zFf {n:En} {k:ByteArray->Bool} {e:Ex} {l:List Ty} (h:e.Op=13∨e.Op=14∨e.Op=15):ofN n k e l=(zTy,unlike (tyAt l 0) (tyAt l 1)):=by unfold ofN;rw [if_neg (by omega),if_neg (by omega),if_neg (by omega),if_neg (by omega),if_neg (by omega),if_neg (by omega),if_pos h]
theorem zMa {n:En} {k:ByteArray->Bool} {e:Ex} {l:List Ty} (h:¬(e.Op=1∨e.Op=12∨e.Op=2∨e.Op=3∨e.Op=8∨e.Op=11∨e.Op=16∨e.Op=17∨e.Op=18∨e.Op=13∨e.Op=14∨e.Op=15)):ofN n k e l=(tyAt l 0,unlike (tyAt l 0) (tyAt l 1)):=by unfold ofN;rw [if_neg (by omega),if_neg (by omega),if_neg (by omega),if_neg (by omega),if_neg (by omega),if_neg (by omega),if_neg (by omega)]
theorem rank_len {e:Ex} (h:partE e=0):(e.Args.length:Int)=nArgs e.Op:=by
 have h1:=(zKj (zLz h)).2.2.1
 unfold rankE at h1
 simp only [Bool.and_eq_true,Bool.not_eq_true',Bool.or_eq_false_iff,Bool.not_eq_false',decide_eq_true_eq] at h1
 exact h1.1.1
theorem args_len {e:Ex} (h:partE e=0) (ho:¬(e.Op=1∨e.Op=2∨e.Op=3)):1<=e.Args.length:=by
 have:=rank_len h;unfold nArgs at this;rw [if_neg ho] at this;split at this
 ·omega
 ·split at this<;>omega
theorem zBm {e:Ex} (h:partE e=0) (ho:¬(e.Op=1∨e.Op=2∨e.Op=3∨e.Op=8∨e.Op=12∨e.Op=18)):2<=e.Args.length:=by
 have:=rank_len h;unfold nArgs at this;rw [if_neg (by omega),if_neg (by omega)] at this;split at this<;>omega
theorem args_len3 {e:Ex} (h:partE e=0) (ho:e.Op=11):3<=e.Args.length:=by
 have:=rank_len h;unfold nArgs at this;rw [if_neg (by omega),if_neg (by omega),if_pos ho] at this;omega
theorem typeT_of {n:En} {vars:List ByteArray} {e:Ex} {k:ByteArray->Bool} (hk:k=knB n.sz vars) (h1:validE e=0) (h2:isCond e=false):typeT n vars e=if (nodeT (ofN n k) e).2=0 then ((nodeT (ofN n k) e).1,0) else (zTy,(nodeT (ofN n k) e).2):=by
 subst hk;unfold typeT typeBy;rw [if_pos h1,if_neg (by rw [h2];simp)]
theorem typeT_bad {n:En} {vars:List ByteArray} {e:Ex} (h1:¬validE e=0):typeT n vars e=(zTy,validE e):=by unfold typeT typeBy;rw [if_neg h1]
theorem typeT_cond {n:En} {vars:List ByteArray} {e:Ex} (h1:validE e=0) (h2:isCond e=true):typeT n vars e=(zTy,10):=by unfold typeT typeBy;rw [if_pos h1,if_pos h2]
end Go.Br
end
section
namespace Go.Br
open Go Go.Eng Go.L41
/-! ## The program's Validate -/
theorem tabS_V:∀(l:List ByteArray) (m:Kn),tabS m l=tabV m l 1
 |[],m=>rfl
 |s::r,m=>tabS_V r _
theorem sizesM_next {m:Kn} {l:List ByteArray} {k:Nat} {x:ByteArray} (h:l[k]? =some x) (hx:nameM m x=0):sizesM m (l.drop k)=sizesM (mput m x 1) (l.drop (k+1)):=by rw [qN h,sizesM,if_pos hx]
theorem sizesM_no {m:Kn} {l:List ByteArray} {k:Nat} {x:ByteArray} (h:l[k]? =some x) (hx:¬nameM m x=0):sizesM m (l.drop k)=nameM m x:=by rw [qN h,sizesM,if_neg hx]
theorem whereM_next {m:Kn} {l:List Cn} {k:Nat} {x:Cn} (h:l[k]? =some x) (hx:sizedM m x.Lin=0):whereM m (l.drop k)=whereM m (l.drop (k+1)):=by rw [qN h,whereM,if_pos hx]
theorem whereM_no {m:Kn} {l:List Cn} {k:Nat} {x:Cn} (h:l[k]? =some x) (hx:¬sizedM m x.Lin=0):whereM m (l.drop k)=sizedM m x.Lin:=by rw [qN h,whereM,if_neg hx]
theorem paramsM_next {p:Pg} {i:Int} {m:Kn} {l:List Pm} {k:Nat} {x:Pm} (h:l[k]? =some x) (hx:paramM m x=0):paramsM p i m (l.drop k)=paramsM p (i+1) (mput m x.Name 2) (l.drop (k+1)):=by rw [qN h,paramsM,if_pos hx]
theorem paramsM_no {p:Pg} {i:Int} {m:Kn} {l:List Pm} {k:Nat} {x:Pm} (h:l[k]? =some x) (hx:¬paramM m x=0):paramsM p i m (l.drop k)=(i,paramM m x):=by rw [qN h,paramsM,if_neg hx]
theorem defsM_next {p:Pg} {i:Int} {m:Kn} {l:List Df} {k:Nat} {x:Df} (h:l[k]? =some x) (hx:defM m ⟨p.Sizes,p.Params,l.take k⟩ x=0):defsM p i m (l.take k) (l.drop k)=defsM p (i+1) (mput m x.Name 2) (l.take (k+1)) (l.drop (k+1)):=by rw [qN h,defsM,if_pos hx,qW h]
theorem defsM_no {p:Pg} {i:Int} {m:Kn} {l:List Df} {k:Nat} {x:Df} (h:l[k]? =some x) (hx:¬defM m ⟨p.Sizes,p.Params,l.take k⟩ x=0):defsM p i m (l.take k) (l.drop k)=(i,defM m ⟨p.Sizes,p.Params,l.take k⟩ x):=by rw [qN h,defsM,if_neg hx]
theorem outsM_next {m:Kn} {i:Int} {l:List ByteArray} {k:Nat} {x:ByteArray} (h:l[k]? =some x) (h1:kget m x=2) (h2:hasB (l.take k) x=false):outsM m i (l.take k) (l.drop k)=outsM m (i+1) (l.take (k+1)) (l.drop (k+1)):=by rw [qN h,outsM,if_pos h1,if_neg (by rw [h2];simp),qW h]
theorem outsM_8 {m:Kn} {i:Int} {l:List ByteArray} {k:Nat} {x:ByteArray} (h:l[k]? =some x) (h1:kget m x=2) (h2:hasB (l.take k) x=true):outsM m i (l.take k) (l.drop k)=(i,8):=by rw [qN h,outsM,if_pos h1,if_pos h2]
theorem outsM_9 {m:Kn} {i:Int} {l:List ByteArray} {k:Nat} {x:ByteArray} (h:l[k]? =some x) (h1:¬kget m x=2):outsM m i (l.take k) (l.drop k)=(i,9):=by rw [qN h,outsM,if_neg h1]
def tabP (m:Kn) (l:List Pm):Kn:=l.foldl (fun m x=>mput m x.Name 2) m
theorem tabP_next {m:Kn} {l:List Pm} {k:Nat} {x:Pm} (h:l[k]? =some x):tabP m (l.take (k+1))=mput (tabP m (l.take k)) x.Name 2:=by
 unfold tabP;rw [qW h,List.foldl_append];rfl
def tabD (m:Kn) (l:List Df):Kn:=l.foldl (fun m x=>mput m x.Name 2) m
theorem tabD_next {m:Kn} {l:List Df} {k:Nat} {x:Df} (h:l[k]? =some x):tabD m (l.take (k+1))=mput (tabD m (l.take k)) x.Name 2:=by
 unfold tabD;rw [qW h,List.foldl_append];rfl
theorem param_map {m:Kn} {x:Pm} {k:Int} (h:paramM m x=0):nameMap m x.Name k=mput m x.Name k:=zMf (zPa h)
theorem def_map {m:Kn} {n:En} {x:Df} {k:Int} (h:defM m n x=0):nameMap m x.Name k=mput m x.Name k:=zMf (defM_name h)
theorem validM_2 {p:Pg} (h:¬limitOk p):validM p=(0,2):=by unfold validM;rw [if_neg h]
theorem validM_s {p:Pg} (h:limitOk p) (h2:¬sizesM [] p.Sizes=0):validM p=(0,sizesM [] p.Sizes):=by unfold validM;rw [if_pos h,if_neg h2]
theorem validM_w {p:Pg} (h:limitOk p) (h2:sizesM [] p.Sizes=0) (h3:¬whereM (tabV [] p.Sizes 1) p.Where=0):validM p=(1,whereM (tabV [] p.Sizes 1) p.Where):=by
 unfold validM;rw [←tabS_V] at h3⊢;rw [if_pos h,if_pos h2,if_neg h3]
theorem validM_p {p:Pg} (h:limitOk p) (h2:sizesM [] p.Sizes=0) (h3:whereM (tabV [] p.Sizes 1) p.Where=0):validM p=paramsM p 2 (tabV [] p.Sizes 1) p.Params:=by
 unfold validM;rw [←tabS_V] at h3⊢;rw [if_pos h,if_pos h2,if_pos h3]
/-! ## A definition -/
theorem def_1 {m:Kn} {n:En} {d:Df} (h:¬nameM m d.Name=0):defM m n d=nameM m d.Name:=by unfold defM;rw [if_neg h]
theorem def_2 {m:Kn} {n:En} {d:Df} (h:nameM m d.Name=0) (h2:¬declE d.T [(d.Dims.length:Int),(d.Red.length:Int)]=0):defM m n d=declE d.T [(d.Dims.length:Int),(d.Red.length:Int)]:=by
 unfold defM
 rw [decl_two] at h2⊢
 rw [if_pos h]
 split at h2
 ·rename_i ht
  rw [if_pos ht,if_pos ht]
  split at h2
  ·rename_i h6;rw [if_pos h6,if_pos h6]
  ·exact absurd rfl h2
 ·rename_i ht;rw [if_neg ht,if_neg ht]
theorem def_ok {m:Kn} {n:En} {d:Df} (h:nameM m d.Name=0) (h2:declE d.T [(d.Dims.length:Int),(d.Red.length:Int)]=0):defM m n d=(if axesM (nameMap m d.Name 2) [] (d.Dims++d.Red)=0 then (if foldM d=0 then tyErrD (typeT n (namesD d) d.Body) d else foldM d) else axesM (nameMap m d.Name 2) [] (d.Dims++d.Red)):=by
 unfold defM
 rw [decl_two] at h2
 rw [if_pos h,zMf h]
 split at h2
 ·rename_i ht
  rw [if_pos ht]
  split at h2
  ·cases h2
  ·rename_i h6;rw [if_neg h6]
 ·cases h2
/-! ## The reference's Validate -/
theorem defR_1 {n:En} {d:Df} {t:List ByteArray} (h:¬nameR d.Name t=0):defR n d t=nameR d.Name t:=by unfold defR;rw [if_neg h]
theorem defR_10 {n:En} {d:Df} {t:List ByteArray} (h:nameR d.Name t=0) (h2:tyOk d.T=false):defR n d t=10:=by unfold defR;rw [if_pos h,if_neg (by rw [h2];simp)]
theorem defR_11 {n:En} {d:Df} {t:List ByteArray} (h:nameR d.Name t=0) (h2:tyOk d.T=true) (h3:6<d.Dims.length∨6<d.Red.length):defR n d t=11:=by unfold defR;rw [if_pos h,if_pos h2,if_pos h3]
theorem defR_ok {n:En} {d:Df} {t:List ByteArray} (h:nameR d.Name t=0) (h2:tyOk d.T=true) (h3:¬(6<d.Dims.length∨6<d.Red.length)):defR n d t=(if axesR n.sz n.sz (d.Dims++d.Red)=0 then (if foldR d=0 then tyErrD (typeR n (namesD d) d.Body) d else foldR d) else axesR n.sz n.sz (d.Dims++d.Red)):=by unfold defR;rw [if_pos h,if_pos h2,if_neg h3]
structure Pg.Short (p:Pg):Prop where
 sizes:p.Sizes.length<=12
 wh:p.Where.length<=12
 params:p.Params.length<=12
 defs:p.Defs.length<=12
 outs:p.Outs.length<=12
 whs:∀c,c∈p.Where->c.Lin.L.length<=20
 ps:∀x,x∈p.Params->x.Dims.length<=12/\∀l,l∈x.Dims->l.L.length<=20
 ds:∀d,d∈p.Defs->d.Dims.length<=12/\d.Red.length<=12/\(∀a,a∈d.Dims->a.Size.L.length<=20)/\(∀a,a∈d.Red->a.Size.L.length<=20)/\d.Body.wt<=300
theorem Pg.Short.ok {p:Pg} (h:p.Short):p.Ok:=
 ⟨by have:=h.sizes;omega,by have:=h.wh;omega,by have:=h.params;omega,by have:=h.defs;omega,by have:=h.outs;omega,fun c hc=>by have:=h.whs c hc;omega,
  fun x hx=>by obtain ⟨h1,h2⟩:=h.ps x hx;exact ⟨by omega,fun l hl=>by have:=h2 l hl;omega⟩,
  fun d hd=>by obtain ⟨h1,h2,h3,h4,h5⟩:=h.ds d hd;exact ⟨by omega,by omega,fun a ha=>by have:=h3 a ha;omega,fun a ha=>by have:=h4 a ha;omega,by omega⟩⟩
end Go.Br
end
section
namespace Go.Br
open Go Go.Eng Go.L41
end Go.Br
end
section
namespace Go.Br
open Go Go.Eng Go.Proofs Go.L41
def cmpI (a b:Int):Int:=if a<b then-1 else if b<a then 1 else 0
def cmpS (a b:ByteArray):Int:=Lib.compareBytes a.data.toList b.data.toList
def orI:List Int->Int
 |[]=>0
 |x::r=>if x=0 then orI r else x
def cmpL {α:Type} (f:α->α->Int):List α->List α->Int
 |[],[]=>0
 |[],_::_=> -1
 |_::_,[]=>1
 |x::xs,y::ys=>if f x y=0 then cmpL f xs ys else f x y
def cmpLs {α:Type} (f:α->α->Int) (a b:List α):Int:=if cmpI a.length b.length=0 then cmpL f a b else cmpI a.length b.length
def cmpM (x y:Mono):Int:=if x.Name=y.Name then cmpI x.By y.By else cmpS x.Name y.Name
def cmpLf (a b:Lf):Int:=if cmpL cmpM a.L b.L=0 then cmpI a.K b.K else cmpL cmpM a.L b.L
def cmpIx (a b:Ix):Int:=if cmpS a.From b.From=0 then (if cmpLf a.Lin b.Lin=0 then cmpLs cmpLf a.At b.At else cmpLf a.Lin b.Lin) else cmpS a.From b.From
def cmpTy (a b:Ty):Int:=orI [cmpI a.Kind b.Kind,cmpI a.Bits b.Bits,cmpI a.Frac b.Frac,cmpI a.Round b.Round,cmpI a.Over b.Over]
def cmpHd (a b:Ex):Int:=orI [cmpI a.Op b.Op,cmpS a.Name b.Name,cmpI a.Val.N b.Val.N,cmpI a.Val.D b.Val.D,cmpTy a.Ty b.Ty,cmpLf a.Lin b.Lin]
mutual
def cmpE:Ex->Ex->Int
 |.mk o n v t l i r,b=>if cmpHd (.mk o n v t l i r) b=0 then (if cmpLs cmpIx i b.Idx=0 then (if cmpI r.length b.Args.length=0 then cmpEs r b.Args else cmpI r.length b.Args.length) else cmpLs cmpIx i b.Idx) else cmpHd (.mk o n v t l i r) b
def cmpEs:List Ex->List Ex->Int
 |[],[]=>0
 |[],_::_=> -1
 |_::_,[]=>1
 |x::xs,y::ys=>if cmpE x y=0 then cmpEs xs ys else cmpE x y
end
theorem cmpEs_L:∀a b:List Ex,cmpEs a b=cmpL cmpE a b
 |[],[]=>rfl
 |[],_::_=>rfl
 |_::_,[]=>rfl
 |x::xs,y::ys=>by rw [cmpEs,cmpL,cmpEs_L xs ys]
theorem cmpE_eq (a b:Ex):cmpE a b=if cmpHd a b=0 then (if cmpLs cmpIx a.Idx b.Idx=0 then cmpLs cmpE a.Args b.Args else cmpLs cmpIx a.Idx b.Idx) else cmpHd a b:=by
 cases a with
 |mk o n v t l i r=>rw [cmpE,cmpEs_L];rfl
/-! ## Alike is equal -/
theorem zIg (a b:Int):cmpI a b=0↔a=b:=by
 unfold cmpI
 split
 ·constructor
  ·intro h;cases h
  ·intro h;omega
 ·split
  ·constructor
   ·intro h;cases h
   ·intro h;omega
  ·constructor<;>intro h<;>first|rfl|omega
theorem bytes_zero:∀a b:List UInt8,Lib.compareBytes a b=0↔a=b
 |[],[]=>by simp [Lib.compareBytes]
 |[],_::_=>by simp [Lib.compareBytes]
 |_::_,[]=>by simp [Lib.compareBytes]
 |x::xs,y::ys=>by
  rw [Lib.compareBytes]
  by_cases h1:x<y
  ·rw [if_pos h1]
   constructor
   ·intro h;cases h
   ·intro h;injection h with h2 h3;subst h2;exact absurd h1 (UInt8.lt_irrefl x)
  ·rw [if_neg h1]
   by_cases h2:y<x
   ·rw [if_pos h2]
    constructor
    ·intro h;cases h
    ·intro h;injection h with h3 h4;subst h3;exact absurd h2 (UInt8.lt_irrefl x)
   ·rw [if_neg h2,bytes_zero xs ys]
    have e:x=y:=by
     have h3:=UInt8.not_lt.1 h1
     have h4:=UInt8.not_lt.1 h2
     exact UInt8.le_antisymm h4 h3
    simp [e]
theorem zLf (a b:ByteArray):cmpS a b=0↔a=b:=by
 unfold cmpS
 rw [bytes_zero]
 constructor
 ·intro h;cases a;cases b;congr 1;exact Array.toList_inj.1 h
 ·rintro rfl;rfl
theorem orI_zero:∀l:List Int,orI l=0↔∀x,x∈l->x=0
 |[]=>by simp [orI]
 |x::r=>by
  rw [orI]
  by_cases h:x=0
  ·rw [if_pos h,orI_zero r];simp [h]
  ·rw [if_neg h];constructor
   ·intro k;exact absurd k h
   ·intro k;exact k x (by simp)
theorem zQk {α:Type} {f:α->α->Int}:∀(a b:List α),(∀x,x∈a->∀y,f x y=0↔x=y)->(cmpL f a b=0↔a=b)
 |[],[],_=>by simp [cmpL]
 |[],_::_,_=>by simp [cmpL]
 |_::_,[],_=>by simp [cmpL]
 |x::xs,y::ys,h=>by
  rw [cmpL]
  have h1:=h x (by simp) y
  by_cases c:f x y=0
  ·rw [if_pos c,zQk xs ys fun z hz=>h z (by simp [hz])];simp [h1.1 c]
  ·rw [if_neg c]
   constructor
   ·intro k;exact absurd k c
   ·intro k;injection k with k1 k2;exact h1.2 k1
theorem zMv {α:Type} {f:α->α->Int} (a b:List α) (h:∀x,x∈a->∀y,f x y=0↔x=y):cmpLs f a b=0↔a=b:=by
 unfold cmpLs
 by_cases c:cmpI (a.length:Int) b.length=0
 ·rw [if_pos c];exact zQk a b h
 ·rw [if_neg c]
  constructor
  ·intro k;exact absurd k c
  ·rintro rfl;exact absurd ((zIg _ _).2 rfl) c
theorem cmpM_zero (x y:Mono):cmpM x y=0↔x=y:=by
 obtain ⟨n,b⟩:=x
 obtain ⟨n',b'⟩:=y
 unfold cmpM
 by_cases c:n=n'
 ·simp only [c,if_true,zIg,Mono.mk.injEq,true_and]
 ·simp only [c,if_false,zLf,Mono.mk.injEq,false_and]
theorem zIq (a b:Lf):cmpLf a b=0↔a=b:=by
 have h:=zQk (f:=cmpM) a.L b.L fun x _ y=>cmpM_zero x y
 have e:a=b↔a.L=b.L/\a.K=b.K:=by
  cases a;cases b;simp only [Lf.mk.injEq];exact ⟨fun k=>⟨k.2,k.1⟩,fun k=>⟨k.2,k.1⟩⟩
 unfold cmpLf
 rw [e]
 by_cases c:cmpL cmpM a.L b.L=0
 ·rw [if_pos c,zIg];exact ⟨fun k=>⟨h.1 c,k⟩,fun k=>k.2⟩
 ·rw [if_neg c];exact ⟨fun k=>absurd k c,fun k=>absurd (h.2 k.1) c⟩
theorem cmpIx_zero (a b:Ix):cmpIx a b=0↔a=b:=by
 have h:=zMv (f:=cmpLf) a.At b.At fun x _ y=>zIq x y
 have e:a=b↔a.From=b.From/\a.Lin=b.Lin/\a.At=b.At:=by
  cases a;cases b;simp only [Ix.mk.injEq];exact ⟨fun k=>⟨k.2.1,k.1,k.2.2⟩,fun k=>⟨k.2.1,k.1,k.2.2⟩⟩
 unfold cmpIx
 rw [e]
 by_cases c:cmpS a.From b.From=0
 ·by_cases d:cmpLf a.Lin b.Lin=0
  ·rw [if_pos c,if_pos d,h];exact ⟨fun k=>⟨(zLf _ _).1 c,(zIq _ _).1 d,k⟩,fun k=>k.2.2⟩
  ·rw [if_pos c,if_neg d];exact ⟨fun k=>absurd k d,fun k=>absurd ((zIq _ _).2 k.2.1) d⟩
 ·rw [if_neg c];exact ⟨fun k=>absurd k c,fun k=>absurd ((zLf _ _).2 k.1) c⟩
theorem cmpTy_zero (a b:Ty):cmpTy a b=0↔a=b:=by
 obtain ⟨a1,a2,a3,a4,a5⟩:=a
 obtain ⟨b1,b2,b3,b4,b5⟩:=b
 unfold cmpTy
 rw [orI_zero]
 simp only [List.mem_cons,List.not_mem_nil,or_false,forall_eq_or_imp,forall_eq,zIg,Ty.mk.injEq]
theorem cmpHd_zero (a b:Ex):cmpHd a b=0↔a.Op=b.Op/\a.Name=b.Name/\a.Val=b.Val/\a.Ty=b.Ty/\a.Lin=b.Lin:=by
 unfold cmpHd
 rw [orI_zero]
 simp only [List.mem_cons,List.not_mem_nil,or_false,forall_eq_or_imp,forall_eq,zIg,zLf,cmpTy_zero,zIq]
 cases hv:a.Val
 cases hw:b.Val
 simp only [Vl.mk.injEq]
 constructor
 ·rintro ⟨h1,h2,h3,h4,h5⟩;exact ⟨h1,h2,⟨h3,h4⟩,h5⟩
 ·rintro ⟨h1,h2,⟨h3,h4⟩,h5⟩;exact ⟨h1,h2,h3,h4,h5⟩
theorem cmpE_zero (a:Ex):∀b:Ex,cmpE a b=0↔a=b:=by
 induction a using Ex.ind with
 |_ a ih=>
  intro b
  rw [cmpE_eq,Ex.eq_iff]
  have h1:=cmpHd_zero a b
  have h2:=zMv (f:=cmpIx) a.Idx b.Idx fun x _ y=>cmpIx_zero x y
  have h3:=zMv (f:=cmpE) a.Args b.Args ih
  by_cases c:cmpHd a b=0
  ·by_cases d:cmpLs cmpIx a.Idx b.Idx=0
   ·rw [if_pos c,if_pos d,h3]
    obtain ⟨k1,k2,k3,k4,k5⟩:=h1.1 c
    have k6:=h2.1 d
    exact ⟨fun k=>⟨k1,k2,k3,k4,k5,k6,k⟩,fun k=>k.2.2.2.2.2.2⟩
   ·rw [if_pos c,if_neg d]
    exact ⟨fun k=>absurd k d,fun k=>absurd (h2.2 k.2.2.2.2.2.1) d⟩
  ·rw [if_neg c]
   exact ⟨fun k=>absurd k c,fun k=>absurd (h1.2 ⟨k.1,k.2.1,k.2.2.1,k.2.2.2.1,k.2.2.2.2.1⟩) c⟩
/-! ## Steps of the walks -/
section steps
variable {α:Type} {f:α->α->Int} {a b:List α} {k:Nat} {x y:α}
theorem zOd (h:a[k]? =some x) (hb:¬k<b.length):cmpL f (a.drop k) (b.drop k)=1:=by rw [qN h,kV hb];rfl
theorem cmpL_ne (h:a[k]? =some x) (hy:b[k]? =some y) (c:¬f x y=0):cmpL f (a.drop k) (b.drop k)=f x y:=by rw [qN h,qN hy,cmpL,if_neg c]
theorem zLg (h:a[k]? =some x) (hy:b[k]? =some y) (c:f x y=0):cmpL f (a.drop k) (b.drop k)=cmpL f (a.drop (k+1)) (b.drop (k+1)):=by rw [qN h,qN hy,cmpL,if_pos c]
theorem zLh (h:¬k<a.length) (hb:k<b.length):cmpL f (a.drop k) (b.drop k)= -1:=by
 rw [kV h]
 cases hd:b.drop k with
 |nil=>have:=congrArg List.length hd;simp at this;omega
 |cons _ _=>rfl
theorem zOe (h:¬k<a.length) (hb:¬k<b.length):cmpL f (a.drop k) (b.drop k)=0:=by rw [kV h,kV hb];rfl
end steps
theorem cmpI_lt {a b:Int} (h:a<b):cmpI a b= -1:=if_pos h
theorem cmpI_gt {a b:Int} (h:b<a):cmpI a b=1:=by unfold cmpI;rw [if_neg (by omega),if_pos h]
theorem cmpI_eq {a b:Int} (h:¬a<b) (h2:¬b<a):cmpI a b=0:=by unfold cmpI;rw [if_neg h,if_neg h2]
theorem orI_at {l:List Int} {k:Nat} {x:Int} (h:l[k]? =some x) (hx:¬x=0):orI (l.drop k)=x:=by rw [qN h,orI,if_neg hx]
theorem orI_next {l:List Int} {k:Nat} {x:Int} (h:l[k]? =some x) (hx:x=0):orI (l.drop k)=orI (l.drop (k+1)):=by rw [qN h,orI,if_pos hx]
theorem strings_Compare (a b:ByteArray):Pur cfg 135 [vS a,vS b] (vI (cmpS a b)):=by
 intro w I vs hH ha
 match vs,ha with
 |[v,u],ha=>
  obtain ⟨h1,h2,_⟩:=ha
  have e1:v=.string a:=by cases (h1:CRep w I (cS a) v) with|lit _ _=>rfl
  have e2:u=.string b:=by cases (h2:CRep w I (cS b) u) with|lit _ _=>rfl
  subst e1 e2
  refine (Tryz.strings_Compare a b w).mono ?_
  rintro e w' ⟨rfl,rfl⟩
  exact ⟨_,_,[],I,rfl,rfl,CRep.lit _ rfl,hH,Ext.refl _ _ _⟩
end Go.Br
end
section
namespace Go.Br
open Go Go.Eng Go.L41
theorem linsWt_le {l:List Lf} {n:Nat}:(∀x,x∈l->x.L.length<=n)->linsWt l<=l.length*n:=by
 induction l with
 |nil=>intro _;simp [linsWt]
 |cons x r ih=>
  intro h
  have h1:=h x (by simp)
  have h2:=ih fun y hy=>h y (by simp [hy])
  rw [linsWt,List.length_cons,Nat.add_mul,Nat.one_mul];omega
theorem Pg.Short.find {p:Pg} (h:p.Short) (s:ByteArray):(p.en.find s).dims.length<=12/\linsWt (p.en.find s).dims<=240:=by
 have key:∀l:List Lf,l.length<=12->(∀x,x∈l->x.L.length<=20)->l.length<=12/\linsWt l<=240:=fun l h1 h2=>⟨h1,by have:=linsWt_le h2;omega⟩
 have hd:∀l:List Df,(∀d,d∈l->d∈p.Defs)->(findD s l).dims.length<=12/\linsWt (findD s l).dims<=240:=by
  intro l
  induction l with
  |nil=>intro _;simp [findD,linsWt]
  |cons d r ih=>
   intro hl
   rw [findD]
   cases decide (d.Name=s) with
   |false=>exact ih fun x hx=>hl x (by simp [hx])
   |true=>
    obtain ⟨h1,_,h3,_⟩:=h.ds d (hl d (by simp))
    exact key (d.Dims.map Ax.Size) (by simpa using h1) fun x hx=>by
     obtain ⟨a,ha,rfl⟩:=List.mem_map.1 hx;exact h3 a ha
 have hp:∀l:List Pm,(∀d,d∈l->d∈p.Params)->(findP s p.Defs l).dims.length<=12/\linsWt (findP s p.Defs l).dims<=240:=by
  intro l
  induction l with
  |nil=>intro _;rw [findP];exact hd p.Defs fun d hd=>hd
  |cons d r ih=>
   intro hl
   rw [findP]
   cases decide (d.Name=s) with
   |false=>exact ih fun x hx=>hl x (by simp [hx])
   |true=>
    obtain ⟨h1,h3⟩:=h.ps d (hl d (by simp))
    exact key d.Dims h1 h3
 exact hp p.Params fun x hx=>hx
end Go.Br
end
