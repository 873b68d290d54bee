/-
  The program's data,in plain Lean: linear forms,indices,expressions; and the cells that hold them.
  What the program's functions compute,in plain Lean.
  Copies with all forms mapped; weights; in plain Lean.
  Layer 22 in plain Lean.
  Layer 17 in plain Lean: programs,the cells that hold them,and what Find,TypeOf and Validate say of them.
  Layer 17 in plain Lean: the program's Validate and the reference's are one.
  Layer 17 in plain Lean,more: lengths,lists,tables.
  Layer 17 in plain Lean: the memory of the checker and the typer,and laws for their walks.
  Layer 17 in plain Lean: the typer's walk.
  Layer 17 in plain Lean: steps of Validate,the program's and the reference's; what Long says.
  Layer 17 in plain Lean: the example that every statement checks.
  Comparisons in plain Lean: of numbers,strings,forms,indices,expressions; nothing is alike but what is equal.
  Conditions: none.
-/
import Derived.Test.YtdldhbfgfkebjaaGreatDoorEngY
import Derived.Test.YtdldhbfgfkebjaaGreatDoorNames
import Derived.Test.YtdldhbfgfkebjaaGreatDoorEngZ
import Derived.Test.YtdldhbfgfkebjaaGreatDoorCfg
import Derived.Lib.Bytealg
set_option linter.unusedSimpArgs false
set_option linter.unusedVariables false
section
namespace Go.Br
open Go Go.Eng Go.L41
structure Mono where
 Name:ByteArray
 By:Int
 deriving DecidableEq
structure Lf where
 K:Int
 L:List Mono
 deriving DecidableEq
structure Vl where
 N:Int
 D:Int
 deriving DecidableEq
structure Ty where
 Kind:Int
 Bits:Int
 Frac:Int
 Round:Int
 Over:Int
 deriving DecidableEq
structure Ix where
 Lin:Lf
 From:ByteArray
 At:List Lf
 deriving DecidableEq
inductive Ex where
 |mk (op:Int) (name:ByteArray) (val:Vl) (ty:Ty) (lin:Lf) (idx:List Ix) (args:List Ex)
namespace Ex
def Op:Ex->Int|mk o _ _ _ _ _ _=>o
def Name:Ex->ByteArray|mk _ x _ _ _ _ _=>x
def Val:Ex->Vl|mk _ _ x _ _ _ _=>x
def Ty:Ex->Br.Ty|mk _ _ _ x _ _ _=>x
def Lin:Ex->Lf|mk _ _ _ _ x _ _=>x
def Idx:Ex->List Ix|mk _ _ _ _ _ x _=>x
def Args:Ex->List Ex|mk _ _ _ _ _ _ x=>x
theorem ind {P:Ex->Prop} (h:∀e:Ex,(∀a,a∈e.Args->P a)->P e) (e:Ex):P e:=
 Ex.rec (motive_1:=P) (motive_2:=fun l=>∀a,a∈l->P a) (fun o n v t l i arg_ ih=>h (mk o n v t l i arg_) ih) (fun a h=>by cases h)
  (fun x l hx hl a ha=>by rcases List.mem_cons.1 ha with rfl|ha;exact hx;exact hl a ha) e
end Ex
mutual
def Ex.eqB:Ex->Ex->Bool
 |.mk o n v t l i arg_,.mk o' n' v' t' l' i' bs=>decide (o=o')&&decide (n=n')&&decide (v=v')&&decide (t=t')&&decide (l=l')&&decide (i=i')&&eqBs arg_ bs
def eqBs:List Ex->List Ex->Bool
 |[],[]=>true
 |a::arg_,b::bs=>Ex.eqB a b&&eqBs arg_ bs
 |_,_=>false
end
mutual
theorem Ex.eqB_iff:∀a b:Ex,Ex.eqB a b=true↔a=b
 |.mk o n v t l i arg_,.mk o' n' v' t' l' i' bs=>by
  simp only [Ex.eqB,Bool.and_eq_true,decide_eq_true_eq,eqBs_iff arg_ bs,Ex.mk.injEq]
  constructor
  ·rintro ⟨⟨⟨⟨⟨⟨h1,h2⟩,h3⟩,h4⟩,h5⟩,h6⟩,h7⟩;exact ⟨h1,h2,h3,h4,h5,h6,h7⟩
  ·rintro ⟨h1,h2,h3,h4,h5,h6,h7⟩;exact ⟨⟨⟨⟨⟨⟨h1,h2⟩,h3⟩,h4⟩,h5⟩,h6⟩,h7⟩
theorem eqBs_iff:∀a b:List Ex,eqBs a b=true↔a=b
 |[],[]=>by simp [eqBs]
 |a::arg_,b::bs=>by simp only [eqBs,Bool.and_eq_true,Ex.eqB_iff a b,eqBs_iff arg_ bs,List.cons.injEq]
 |[],_::_=>by simp [eqBs]
 |_::_,[]=>by simp [eqBs]
end
instance:DecidableEq Ex:=fun a b=>decidable_of_iff _ (Ex.eqB_iff a b)
theorem Ex.eq_iff (a b:Ex):a=b↔a.Op=b.Op/\a.Name=b.Name/\a.Val=b.Val/\a.Ty=b.Ty/\a.Lin=b.Lin/\a.Idx=b.Idx/\a.Args=b.Args:=by
 cases a;cases b;simp only [Ex.mk.injEq];rfl
def Mono.cells (x:Mono):List C:=[cS x.Name,cI x.By]
def Lf.cells (x:Lf):List C:=[cI x.K,.sl 2 (x.L.map Mono.cells)]
def Ix.cells (x:Ix):List C:=[cI x.Lin.K,.sl 2 (x.Lin.L.map Mono.cells),cS x.From,.sl 2 (x.At.map Lf.cells)]
def Vl.cells (v:Vl):List C:=[cI v.N,cI v.D]
mutual
def Ex.cells:Ex->List C
 |.mk o n v t l i arg_=>[cI o,cS n,cI v.N,cI v.D,cI t.Kind,cI t.Bits,cI t.Frac,cI t.Round,cI t.Over,cI l.K,.sl 2 (l.L.map Mono.cells),.sl 4 (i.map Ix.cells),.sl 13 (cellsL arg_)]
def cellsL:List Ex->List (List C)
 |[]=>[]
 |e::r=>e.cells::cellsL r
end
theorem cellsL_eq (l:List Ex):cellsL l=l.map Ex.cells:=by
 induction l with
 |nil=>rfl
 |cons e r ih=>rw [cellsL,ih];rfl
def Ex.cs (e:Ex):List C:=[cI e.Op,cS e.Name,cI e.Val.N,cI e.Val.D,cI e.Ty.Kind,cI e.Ty.Bits,cI e.Ty.Frac,cI e.Ty.Round,cI e.Ty.Over,cI e.Lin.K,.sl 2 (e.Lin.L.map Mono.cells),.sl 4 (e.Idx.map Ix.cells),.sl 13 (e.Args.map Ex.cells)]
theorem Ex.cells_eq (e:Ex):e.cells=e.cs:=by
 cases e;rw [Ex.cells,cellsL_eq];rfl
abbrev vMono (x:Mono):V:=.agg x.cells
abbrev vMonos (l:List Mono):V:=.c (.sl 2 (l.map Mono.cells))
abbrev vLin (x:Lf):V:=.agg x.cells
abbrev vLins (l:List Lf):V:=.c (.sl 2 (l.map Lf.cells))
abbrev vIndex (x:Ix):V:=.agg x.cells
abbrev vIndices (l:List Ix):V:=.c (.sl 4 (l.map Ix.cells))
abbrev vE (x:Ex):V:=.agg x.cs
abbrev vEs (l:List Ex):V:=.c (.sl 13 (l.map Ex.cells))
abbrev vTy (t:Ty):V:=.agg [cI t.Kind,cI t.Bits,cI t.Frac,cI t.Round,cI t.Over]
abbrev vVal (v:Vl):V:=.agg [cI v.N,cI v.D]
abbrev vU64 (n:Int):V:=.c (.lit (.int .u64 n))
theorem zBi {l:List Ex} {k:Nat} {x:Ex} (h:l[k]? =some x):(l.map Ex.cells)[k]? =some x.cs:=by
 rw [getm h,Ex.cells_eq]
def linsWt:List Lf->Nat
 |[]=>0
 |l::r=>l.L.length+linsWt r
def Ix.wt (x:Ix):Nat:=x.Lin.L.length+x.At.length+linsWt x.At
def idxWt:List Ix->Nat
 |[]=>0
 |x::r=>x.wt+idxWt r
mutual
def Ex.wt:Ex->Nat
 |.mk _ _ _ _ l i arg_=>1+l.L.length+i.length+idxWt i+argsWt arg_
def argsWt:List Ex->Nat
 |[]=>0
 |e::r=>e.wt+argsWt r
end
theorem Ex.wt_eq (e:Ex):e.wt=1+e.Lin.L.length+e.Idx.length+idxWt e.Idx+argsWt e.Args:=by cases e;rw [Ex.wt];rfl
theorem Ex.wt_pos (e:Ex):1<=e.wt:=by rw [Ex.wt_eq];omega
theorem kW {l:List Ex} {a:Ex} (h:a∈l):a.wt+(l.length-1)<=argsWt l:=by
 induction l with
 |nil=>cases h
 |cons x r ih=>
  rw [argsWt]
  rcases List.mem_cons.1 h with rfl|h
  ·have:r.length<=argsWt r:=by
    clear ih h
    induction r with
    |nil=>simp [argsWt]
    |cons y r ih=>rw [argsWt,List.length_cons];have:=y.wt_pos;omega
   simp;omega
  ·have:=ih h
   have:=x.wt_pos
   have:0<r.length:=List.length_pos_of_mem h
   simp;omega
theorem zLa (l:List Ex):l.length<=argsWt l:=by
 induction l with
 |nil=>simp [argsWt]
 |cons y r ih=>rw [argsWt,List.length_cons];have:=y.wt_pos;omega
theorem zCu {l:List Lf} {a:Lf} (h:a∈l):a.L.length<=linsWt l:=by
 induction l with
 |nil=>cases h
 |cons x r ih=>
  rw [linsWt]
  rcases List.mem_cons.1 h with rfl|h
  ·omega
  ·have:=ih h;omega
theorem zCx {l:List Ix} {a:Ix} (h:a∈l):a.wt<=idxWt l:=by
 induction l with
 |nil=>cases h
 |cons x r ih=>
  rw [idxWt]
  rcases List.mem_cons.1 h with rfl|h
  ·omega
  ·have:=ih h;omega
theorem Ex.parts {e:Ex} {B:Nat} (h:e.wt<=B):e.Lin.L.length<=B/\e.Idx.length<=B/\e.Args.length<=B:=by
 rw [Ex.wt_eq] at h
 have:=zLa e.Args
 omega
theorem Ex.arg_wt {e a:Ex} (h:a∈e.Args):a.wt<e.wt:=by
 rw [Ex.wt_eq e]
 have:=kW h
 omega
theorem Ex.idx_wt {e:Ex} {x:Ix} (h:x∈e.Idx):x.Lin.L.length<=e.wt/\x.At.length<=e.wt/\linsWt x.At<=e.wt:=by
 rw [Ex.wt_eq e]
 have:=zCx h
 unfold Ix.wt at this
 omega
theorem qZ {α:Type} {l:List α} {k:Nat} {x:α} (h:l[k]? =some x):l.drop k=x::l.drop (k+1):=by
 have hk:k<l.length:=(List.getElem?_eq_some_iff.1 h).1
 rw [List.drop_eq_getElem_cons hk]
 rw [List.getElem?_eq_getElem hk] at h
 simp at h
 rw [h]
theorem wM {α:Type} {l:List α} {k:Nat} (h:¬k<l.length):l.drop k=[]:=List.drop_of_length_le (by omega)
theorem wQ {p:Prop} [Decidable p] (h:¬p):decide p=false:=decide_eq_false h
theorem zDm {p:Prop} [Decidable p] (h:p):decide p=true:=decide_eq_true h
theorem qB {α:Type} {l:List α} {k:Nat} {x:α} (h:l[k]? =some x):x∈l:=List.mem_of_getElem? h
end Go.Br
end
section
namespace Go.Br
open Go Go.Eng Go.L41
/-! ## Linear forms -/
def ltO:Option ByteArray->ByteArray->Bool
 |none,_=>true
 |some q,n=>strLt q n
def monosOk:Option ByteArray->List Mono->Bool
 |_,[]=>true
 |p,m::r=>isNameB m.Name&& !decide (m.By=0)&&ltO p m.Name&&monosOk (some m.Name) r
def linOk (l:Lf):Bool:=monosOk none l.L
def linErr (l:Lf):Int:=bif linOk l then 0 else 1
def pv (l:List Mono) (k:Nat):Mono:=l.getD (k-1) ⟨bs [],0⟩
def prevOf (l:List Mono) (k:Nat):Option ByteArray:=if k=0 then none else some (pv l k).Name
def badM (l:List Mono) (k:Nat) (x:Mono):Bool:=(!isNameB x.Name||decide (x.By=0))||(decide ((0:Int)<k)&& !strLt (pv l k).Name x.Name)
theorem pv_get {α:Type} {f:Mono->α} {l:List Mono} {k:Nat} (h0:0<k) (h:k<=l.length):(l.map f)[((k:Int)-1).toNat]? =some (f (pv l k)):=by
 have e:((k:Int)-1).toNat=k-1:=by omega
 have h1:k-1<l.length:=by omega
 rw [e,List.getElem?_map,List.getElem?_eq_getElem h1]
 simp [pv,List.getD,List.getElem?_eq_getElem h1]
theorem pv_next {l:List Mono} {k:Nat} {x:Mono} (h:l[k]? =some x):pv l (k+1)=x:=by simp [pv,List.getD,h]
theorem monos_step {l:List Mono} {k:Nat} {x:Mono} (h:l[k]? =some x):monosOk (prevOf l k) (l.drop k)=(!badM l k x&&monosOk (prevOf l (k+1)) (l.drop (k+1))):=by
 rw [qZ h,monosOk]
 have e:prevOf l (k+1)=some x.Name:=by simp [prevOf,pv_next h]
 rw [e]
 congr 1
 unfold badM prevOf ltO
 by_cases hk:k=0
 ·subst hk;simp
 ·have hk':(0:Int)<k:=by omega
  rw [if_neg hk,decide_eq_true hk']
  cases isNameB x.Name<;>cases decide (x.By=0)<;>simp
theorem monos_end {l:List Mono} {k:Nat} (h:¬k<l.length):monosOk (prevOf l k) (l.drop k)=true:=by
 rw [wM h];cases prevOf l k<;>rfl
def idxOf {α:Type} (p:α->Bool):List α->Int
 |[]=> -1
 |x::r=>bif p x then 0 else (bif decide (idxOf p r= -1) then-1 else idxOf p r+1)
theorem idxOf_ge {α:Type} (p:α->Bool) (l:List α): -1<=idxOf p l:=by
 induction l with
 |nil=>simp [idxOf]
 |cons x r ih=>unfold idxOf;cases p x<;>simp;by_cases h:idxOf p r= -1<;>simp [h];omega
theorem zBu {α:Type} (p:α->Bool) (l:List α):decide (0<=idxOf p l)=l.any p:=by
 induction l with
 |nil=>rfl
 |cons x r ih=>
  have:=idxOf_ge p r
  unfold idxOf
  cases hp:p x
  ·simp only [cond_false,List.any_cons,hp,Bool.false_or,←ih]
   by_cases h:idxOf p r= -1
   ·simp [h]
   ·simp [h];omega
  ·simp [hp]
theorem zCq {α:Type} {p:α->Bool} {l:List α} {k:Nat} {x:α} (h:l[k]? =some x) (hp:p x=true) (hn:(l.take k).any p=false):idxOf p l=k:=by
 induction l generalizing k with
 |nil=>simp at h
 |cons y r ih=>
  cases k with
  |zero=>simp at h;subst h;simp [idxOf,hp]
  |succ k=>
   simp only [List.take_succ_cons,List.any_cons,Bool.or_eq_false_iff] at hn
   have:=ih (k:=k) (by simpa using h) hn.2
   simp only [idxOf,hn.1,cond_false,this]
   have h2:¬((k:Int)= -1):=by omega
   simp [h2]
theorem zAx {α:Type} {p:α->Bool} {l:List α} (hn:l.any p=false):idxOf p l= -1:=by
 induction l with
 |nil=>rfl
 |cons y r ih=>
  simp only [List.any_cons,Bool.or_eq_false_iff] at hn
  simp [idxOf,hn.1,ih hn.2]
theorem zBz {α:Type} {p:α->Bool} {l:List α} {k:Nat} {x:α} (h:l[k]? =some x) (hn:(l.take k).any p=false) (hp:p x=false):(l.take (k+1)).any p=false:=by
 rw [yG h,List.any_append,hn];simp [hp]
/-! ## Types and values -/
def tyOk (t:Ty):Bool:=
 ((decide (t.Kind=1)||decide (t.Kind=3))&&decide (t.Bits=0)&&decide (t.Frac=0)&&decide (t.Round=0)&&decide (t.Over=0))||
 (decide (t.Kind=2)&&decide (2<=t.Bits)&&decide (t.Bits<=31)&&decide (0<=t.Frac)&&decide (t.Frac<=30)&&decide (1<=t.Round)&&decide (t.Round<=4)&&(decide (t.Over=1)||decide (t.Over=2)))
def tyErr (t:Ty):Int:=bif tyOk t then 0 else 10
def fixOk (t:Ty):Bool:=decide (t.Kind=2)&&decide (2<=t.Bits)&&decide (t.Bits<=31)&&decide (0<=t.Frac)&&decide (t.Frac<=30)&&decide (1<=t.Round)&&decide (t.Round<=4)&&(decide (t.Over=1)||decide (t.Over=2))
def half (b:Int):Int:=2^(b-1).toNat
def num31 (n:Int):Bool:=decide (-2147483647<=n)&&decide (n<=2147483647)
def valOk (t:Ty) (v:Vl):Bool:=
 bif decide (t.Kind=2) then decide (v.D=1)&&decide (-half t.Bits<=v.N)&&decide (v.N<half t.Bits)
 else bif decide (t.Kind=3) then decide (v.D=1)&&num31 v.N
 else decide (1<=v.D)&&decide (v.D<=2147483647)&&num31 v.N&&decide (Int.gcd v.N v.D=1)
theorem zBj {t:Ty} (h:t.Kind=2):tyOk t=fixOk t:=by simp [tyOk,fixOk,h]
theorem half_le {b:Int} (h1:2<=b) (h2:b<=31):1<=half b/\half b<=1073741824:=by
 unfold half
 have h3:(b-1).toNat<=30:=by omega
 have h4:(2:Int)^(b-1).toNat<=2^30:=by
  have:=Nat.pow_le_pow_right (n:=2) (by omega) h3
  exact_mod_cast this
 have h5:(1:Int)<=2^(b-1).toNat:=by
  have:=Nat.one_le_two_pow (n:=(b-1).toNat)
  exact_mod_cast this
 omega
/-! ## Conditions as the walks meet them -/
def byteAt (s:ByteArray) (k:Nat):Int:=(s.data.toList.getD k 0).toNat
def idHead (s:ByteArray):Bool:=(((decide ((s.size:Int)<1)||decide ((16:Int)<s.size))||hasB words s)||decide (byteAt s 0<97))||decide (122<byteAt s 0)
theorem ident_no {s:ByteArray} (h:idHead s=true):isNameB s=false:=by
 unfold idHead byteAt at h
 cases hn:isNameB s with
 |false=>rfl
 |true=>
  exfalso
  simp only [isNameB,Bool.and_eq_true,decide_eq_true_eq,Bool.not_eq_true'] at hn
  obtain ⟨⟨⟨⟨h1,h2⟩,h3⟩,h4⟩,h5⟩:=hn
  have h6:s.data.toList.head? =some (s.data.toList.getD 0 0):=by rw [List.head?_eq_getElem?];exact zEm (by omega)
  rw [h6] at h3
  simp only [Option.all_some,letterB,letterI,Bool.and_eq_true,decide_eq_true_eq] at h3
  simp only [Bool.or_eq_true,decide_eq_true_eq,h5] at h
  rcases h with (((h|h)|h)|h)|h
  ·omega
  ·omega
  ·cases h
  ·omega
  ·omega
theorem ident_yes {s:ByteArray} (h:idHead s=false):1<=s.size/\s.size<=16/\isNameB s=s.data.toList.all inWordB:=by
 unfold idHead byteAt at h
 simp only [Bool.or_eq_false_iff,decide_eq_false_iff_not] at h
 obtain ⟨⟨⟨⟨h1,h2⟩,h3⟩,h4⟩,h5⟩:=h
 have h7:1<=s.size:=by omega
 refine ⟨h7,by omega,?_⟩
 have h6:s.data.toList.head? =some (s.data.toList.getD 0 0):=by rw [List.head?_eq_getElem?];exact zEm (by omega)
 unfold isNameB
 rw [h6,h3]
 have e1:decide (1<=s.size)=true:=by simp;omega
 have e2:decide (s.size<=16)=true:=by simp;omega
 have e3:letterB (s.data.toList.getD 0 0)=true:=by simp only [letterB,letterI,Bool.and_eq_true,decide_eq_true_eq];omega
 simp only [e1,e2,Option.all_some,e3,Bool.true_and,Bool.not_false,Bool.and_true]
def notWord (n:Int):Bool:=((decide (n<97)||decide (122<n))&&(decide (n<48)||decide (57<n)))&& !decide (n=95)
theorem notWord_eq (c:UInt8):notWord c.toNat= !inWordB c:=by
 unfold notWord inWordB inWordI letterI digitI
 rw [Bool.eq_iff_iff]
 simp only [Bool.and_eq_true,Bool.or_eq_true,Bool.not_eq_true',Bool.or_eq_false_iff,Bool.and_eq_false_iff,decide_eq_true_eq,decide_eq_false_iff_not]
 omega
theorem word_no {s:ByteArray} {k:Nat} (hlt:k<s.size) (h:notWord ((s.data.toList.getD k 0).toNat:Int)=true):s.data.toList.all inWordB=false:=by
 rw [notWord_eq] at h
 rw [List.all_eq_false]
 exact ⟨_,List.mem_of_getElem? (zEm hlt),by simpa using h⟩
theorem word_yes {s:ByteArray} {k:Nat} (hlt:k<s.size) (hp:(s.data.toList.take k).all inWordB=true) (h:notWord ((s.data.toList.getD k 0).toNat:Int)=false):(s.data.toList.take (k+1)).all inWordB=true:=by
 rw [notWord_eq] at h
 rw [zJw (zEm hlt),hp]
 simpa using h
theorem word_all {s:ByteArray} {k:Nat} (hp:(s.data.toList.take k).all inWordB=true) (h:¬k<s.size):s.data.toList.all inWordB=true:=by
 rw [List.take_of_length_le (by simp;omega)] at hp
 exact hp
def plainT (t:Ty):Bool:=decide (t.Bits=0)&&decide (t.Frac=0)&&decide (t.Round=0)&&decide (t.Over=0)
theorem plainT_eq (t:Ty):litsEq [cI t.Kind,cI t.Bits,cI t.Frac,cI t.Round,cI t.Over] [cI t.Kind,.lit (.int .i64 0),.lit (.int .i64 0),.lit (.int .i64 0),.lit (.int .i64 0)]=plainT t:=by
 simp [litsEq,cEq,plainT,Bool.and_assoc]
def fixCond (t:Ty):Bool:=((((!decide (t.Kind=2)||decide (t.Bits<2))||decide (31<t.Bits))||decide (t.Frac<0))||decide (30<t.Frac))|| !((decide (1<=t.Round)&&decide (t.Round<=4))&&(decide (t.Over=1)||decide (t.Over=2)))
theorem fixCond_eq (t:Ty):fixCond t= !fixOk t:=by
 unfold fixCond fixOk
 rw [Bool.eq_iff_iff]
 simp only [Bool.and_eq_true,Bool.or_eq_true,Bool.not_eq_true',Bool.or_eq_false_iff,Bool.and_eq_false_iff,decide_eq_true_eq,decide_eq_false_iff_not]
 omega
theorem fix_no {t:Ty} (h:fixCond t=true):fixOk t=false:=by rw [fixCond_eq] at h;simpa using h
theorem fix_yes {t:Ty} (h:fixCond t=false):fixOk t=true:=by rw [fixCond_eq] at h;simpa using h
theorem type1 {t:Ty} (h:(decide (t.Kind=1)||decide (t.Kind=3))=true):(((decide (t.Bits=0)&&decide (t.Frac=0))&&decide (t.Round=0))&&decide (t.Over=0))=tyOk t:=by
 unfold tyOk
 rw [h]
 have:decide (t.Kind=2)=false:=by
  simp only [Bool.or_eq_true,decide_eq_true_eq] at h
  simp;omega
 simp [this]
theorem tyk1 {t:Ty} (h:t.Kind=1∨t.Kind=3):tyOk t=plainT t:=by
 rw [←type1 (t:=t) (by simpa using h)];rfl
theorem tyk0 {t:Ty} (h1:¬t.Kind=1) (h3:¬t.Kind=3) (h2:¬t.Kind=2):tyOk t=false:=by
 simp [tyOk,h1,h2,h3]
theorem tyErr_ne {t:Ty} (h:¬tyErr t=0):tyOk t=false:=by
 unfold tyErr at h;cases ht:tyOk t<;>simp_all
theorem zGo {t:Ty} (h:tyErr t=0):tyOk t=true:=by
 unfold tyErr at h;cases ht:tyOk t<;>simp_all
theorem zAc {n:Int} (h:0<=n/\n<=18446744073709551615):IntKind.u64.wrap n=n:=IntWalk.u64_in _ h
theorem min_shift {b:Int} (h1:2<=b) (h2:b<=31):IntKind.i64.wrap (1*2^(min (IntKind.u64.wrap (b-1)).toNat IntKind.i64.bits))=half b:=by
 rw [zAc (by omega)]
 have h3:=half_le h1 h2
 have h4:min (b-1).toNat IntKind.i64.bits=(b-1).toNat:=Nat.min_eq_left (by simp [IntKind.bits];omega)
 rw [h4,Int.one_mul]
 exact zAn ⟨by unfold half at h3;omega,by unfold half at h3;omega⟩
theorem min_eq {b:Int} (h1:2<=b) (h2:b<=31):IntKind.i64.wrap (-(IntKind.i64.wrap (1*2^(min (IntKind.u64.wrap (b-1)).toNat IntKind.i64.bits))))= -half b:=by
 rw [min_shift h1 h2]
 have:=half_le h1 h2
 exact zAn ⟨by omega,by omega⟩
theorem max_eq {b:Int} (h1:2<=b) (h2:b<=31):IntKind.i64.wrap (IntKind.i64.wrap (1*2^(min (IntKind.u64.wrap (b-1)).toNat IntKind.i64.bits))-1)=half b-1:=by
 rw [min_shift h1 h2]
 have:=half_le h1 h2
 exact zAn ⟨by omega,by omega⟩
theorem fixB {t:Ty} (h:fixOk t=true):2<=t.Bits/\t.Bits<=31:=by
 simp only [fixOk,Bool.and_eq_true,decide_eq_true_eq] at h
 omega
theorem fxz {t:Ty} (h:(bif fixOk t then (0:Int) else 10)=0):fixOk t=true:=by cases ht:fixOk t<;>simp_all
theorem fxn {t:Ty} (h:¬(bif fixOk t then (0:Int) else 10)=0):fixOk t=false:=by cases ht:fixOk t<;>simp_all
theorem fxa {t:Ty} {p:Bool} (h:Lz (decide ((bif fixOk t then (0:Int) else 10)=0)&&p) true=true):fixOk t=true:=by
 simp only [Lz,cond_true,Bool.and_eq_true,decide_eq_true_eq] at h
 exact fxz h.1
theorem fxb {t:Ty} {p q:Bool} (h:Lz (decide ((bif fixOk t then (0:Int) else 10)=0)&&p&&q) true=true):fixOk t=true:=by
 simp only [Lz,cond_true,Bool.and_eq_true,decide_eq_true_eq] at h
 exact fxz h.1.1
theorem fixV (t:Ty) (v:Vl):(decide ((bif fixOk t then (0:Int) else 10)=0)&&decide (v.D=1)&&decide (-half t.Bits<=v.N)&&decide (v.N<=half t.Bits-1))=(fixOk t&&(decide (v.D=1)&&decide (-half t.Bits<=v.N)&&decide (v.N<half t.Bits))):=by
 have:decide (v.N<=half t.Bits-1)=decide (v.N<half t.Bits):=decide_eq_decide.2 (by omega)
 rw [this]
 cases fixOk t<;>simp
theorem mag_neg {n:Int} (h:n<0) (hn: -9223372036854775808<=n):IntKind.u64.wrap (-(IntKind.u64.wrap n))=n.natAbs:=by
 have e:IntKind.u64.wrap n=n+18446744073709551616:=by simp [IntKind.wrap,IntKind.bits,IntKind.signed];omega
 rw [e]
 simp [IntKind.wrap,IntKind.bits,IntKind.signed];omega
theorem mag_pos {n:Int} (h:¬n<0) (hn:n<=9223372036854775807):IntKind.u64.wrap n=n.natAbs:=by
 rw [zAc (by omega)];omega
theorem gcd_step {x y:Nat} (h:¬y=0):Nat.gcd x y=Nat.gcd y (x%y):=by
 rw [Nat.gcd_comm x y,Nat.gcd_rec y x,Nat.gcd_comm]
theorem frV {v:Vl} (h:Lz (decide (1<=v.D)&&decide (v.D<=2147483647)&&num31 v.N) true=true):1<=v.D/\v.D<=2147483647/\ -9223372036854775808<=v.N/\v.N<=9223372036854775807:=by
 simp only [Lz,cond_true,Bool.and_eq_true,decide_eq_true_eq,num31] at h
 omega
theorem u64_D {d:Int} (h1:1<=d) (h2:d<=2147483647):IntKind.u64.wrap d=d.natAbs:=by
 rw [zAc (by omega)];omega
def nArgs (op:Int):Int:=if op=1∨op=2∨op=3 then 0 else if op=8∨op=12∨op=18 then 1 else if op=11 then 3 else 2
def isCond (e:Ex):Bool:=decide (13<=e.Op)&&decide (e.Op<=18)
def wantC (op i:Int):Bool:=(((decide (op=11)&&decide (i=0))||decide (op=16))||decide (op=17))||decide (op=18)
def zeroL (l:Lf):Bool:=decide (l.K=0)&&decide ((l.L.length:Int)=0)
def wellIx (x:Ix):Bool:=bif decide (x.From=bs []) then decide ((x.At.length:Int)=0) else zeroL x.Lin
def val0 (v:Vl):Bool:=litsEq [cI v.N,cI v.D] [cI 0,cI 0]
def ty0 (t:Ty):Bool:=litsEq [cI t.Kind,cI t.Bits,cI t.Frac,cI t.Round,cI t.Over] [cI 0,cI 0,cI 0,cI 0,cI 0]
def synOk (e:Ex):Bool:=
 !(decide (e.Op<1)||decide (18<e.Op))&& !(!decide (e.Op=1)&& !val0 e.Val)&& !(!(decide (e.Op=1)||decide (e.Op=12))&& !ty0 e.Ty)&& !(!decide (e.Op=2)&& !zeroL e.Lin)&&
 !(!decide (e.Op=3)&&(!decide (e.Name=bs [])||decide ((0:Int)<e.Idx.length)))&&e.Idx.all wellIx
def nmIx (x:Ix):Bool:= !(!decide (x.From=bs [])&& !isNameB x.From)
def namesE (e:Ex):Bool:= !(decide (e.Op=3)&& !isNameB e.Name)&&e.Idx.all nmIx
def rkIx (x:Ix):Bool:= !decide ((6:Int)<x.At.length)
def rankE (e:Ex):Bool:= !(!decide ((e.Args.length:Int)=nArgs e.Op)||decide ((6:Int)<e.Idx.length))&&e.Idx.all rkIx
def condsOk (op i:Int):List Ex->Bool
 |[]=>true
 |a::r=>(isCond a==wantC op i)&&condsOk op (i+1) r
def typesE (e:Ex):Bool:= !((decide (e.Op=1)||decide (e.Op=12))&& !tyOk e.Ty)&&condsOk e.Op 0 e.Args
def formsL (e:Ex):List Lf:=e.Lin::e.Idx.flatMap fun x=>x.Lin::x.At
def formOk (e:Ex):Bool:= !(decide (e.Op=1)&& !valOk e.Ty e.Val)&&(formsL e).all linOk
def nodeErr (e:Ex):Int:=bif !synOk e then 5 else bif !namesE e then 7 else bif !rankE e then 11 else bif !typesE e then 10 else bif !formOk e then 1 else 0
mutual
def nodes:Ex->List Ex
 |.mk o n v t l i arg_=>.mk o n v t l i arg_::nodesL arg_
def nodesL:List Ex->List Ex
 |[]=>[]
 |e::r=>nodes e++nodesL r
end
theorem zBo (e:Ex):nodes e=e::nodesL e.Args:=by cases e;rw [nodes];rfl
theorem zIx (a b:List Ex):nodesL (a++b)=nodesL a++nodesL b:=by
 induction a with
 |nil=>rfl
 |cons x r ih=>rw [List.cons_append,nodesL,nodesL,ih,List.append_assoc]
def errsL:List Ex->Int
 |[]=>0
 |e::r=>bif decide (nodeErr e=0) then errsL r else nodeErr e
theorem zDi (a b:List Ex):errsL (a++b)=bif decide (errsL a=0) then errsL b else errsL a:=by
 induction a with
 |nil=>rfl
 |cons x r ih=>
  rw [List.cons_append,errsL,errsL,ih]
  by_cases h:nodeErr x=0
  ·simp [h]
  ·simp [h]
def partE (e:Ex):Int:=errsL (nodes e)
def partL (l:List Ex):Int:=errsL (nodesL l)
theorem partE_eq (e:Ex):partE e=bif decide (nodeErr e=0) then partL e.Args else nodeErr e:=by rw [partE,zBo,errsL];rfl
theorem partL_cons (e:Ex) (r:List Ex):partL (e::r)=bif decide (partE e=0) then partL r else partE e:=by rw [partL,nodesL,zDi];rfl
def depF (f:Ex->Int) (d:Int):List Ex->Int
 |[]=>d
 |a::r=>depF f (max d (1+f a)) r
def depT:Nat->Ex->Int
 |0,_=>1
 |n+1,e=>depF (depT n) 1 e.Args
theorem depF_le {f:Ex->Int} {n:Int} (h:∀a,1<=f a/\f a<=n):∀(l:List Ex) (d:Int),1<=d->d<=n+1->1<=depF f d l/\depF f d l<=n+1
 |[],d,h1,h2=>⟨h1,h2⟩
 |a::r,d,h1,h2=>by
  have:=h a
  exact depF_le h r _ (by omega) (by omega)
theorem depT_le:∀(n:Nat) (e:Ex),1<=depT n e/\depT n e<=n+1
 |0,e=>by simp [depT]
 |n+1,e=>by
  have:=depF_le (n:=n+1) (depT_le n) e.Args 1 (by omega) (by omega)
  rw [depT];omega
def szT (e:Ex):Nat:=min (nodes e).length 2001
def validE (e:Ex):Int:=bif decide (40<depT 40 e) then 13 else bif decide ((2000:Int)<szT e) then 2 else partE e
theorem zHz:∀(e x:Ex),x∈nodes e->x.wt<=e.wt:=by
 intro e
 induction e using Ex.ind with
 |_ e ih=>
  intro x hx
  rw [zBo] at hx
  rcases List.mem_cons.1 hx with rfl|hx
  ·omega
  ·have:∀l:List Ex,(∀a,a∈l->a∈e.Args)->x∈nodesL l->x.wt<=e.wt:=by
    intro l hl hx
    induction l with
    |nil=>simp [nodesL] at hx
    |cons a r ihr=>
     rw [nodesL] at hx
     rcases List.mem_append.1 hx with h|h
     ·have h1:=ih a (hl a (by simp)) x h
      have h2:=Ex.arg_wt (hl a (by simp))
      omega
     ·exact ihr (fun b hb=>hl b (by simp [hb])) h
   exact this e.Args (fun a h=>h) hx
theorem zBg {α:Type} (l:List α) (p:α->Bool):(!l.any fun x=> !p x)=l.all p:=by
 induction l with
 |nil=>rfl
 |cons x r ih=>simp only [List.any_cons,List.all_cons,←ih];cases p x<;>simp
theorem all_no {α:Type} {p:α->Bool} {l:List α} {k:Nat} {x:α} (h:l[k]? =some x) (hx:p x=false):l.all p=false:=by
 rw [List.all_eq_false];exact ⟨x,qB h,by simp [hx]⟩
theorem tyErr_dec (t:Ty):decide (tyErr t=0)=tyOk t:=by unfold tyErr;cases tyOk t<;>rfl
theorem linErr_ne {l:Lf} (h:¬linErr l=0):linOk l=false:=by unfold linErr at h;cases hl:linOk l<;>simp_all
theorem linErr_eq {l:Lf} (h:linErr l=0):linOk l=true:=by unfold linErr at h;cases hl:linOk l<;>simp_all
theorem types_ty {e:Ex} (h:typesE e=true):e.Op=1->tyOk e.Ty=true:=by
 intro h1
 simp only [typesE,h1,decide_true,Bool.true_or,Bool.true_and,Bool.not_not,Bool.and_eq_true] at h
 exact h.1
abbrev ixF (x:Ix):List Lf:=x.Lin::x.At
theorem forms_at {e:Ex} {k:Nat} {x:Ix} (h:e.Idx[k]? =some x):formsL e=(e.Lin::(e.Idx.take k).flatMap ixF)++x.Lin::(x.At++(e.Idx.drop (k+1)).flatMap ixF):=by
 have e1:e.Idx=e.Idx.take k++x::e.Idx.drop (k+1):=by rw [←qZ h,List.take_append_drop]
 have e2:formsL e=e.Lin::e.Idx.flatMap ixF:=rfl
 have e3:e.Idx.flatMap ixF=(e.Idx.take k++x::e.Idx.drop (k+1)).flatMap ixF:=congrArg _ e1
 rw [e2,e3,List.flatMap_append,List.flatMap_cons]
 simp [ixF]
theorem forms_at2 {e:Ex} {k j:Nat} {x:Ix} {l:Lf} (h:e.Idx[k]? =some x) (hl:x.At[j]? =some l):formsL e=((e.Lin::(e.Idx.take k).flatMap ixF)++[x.Lin]++x.At.take j)++l::(x.At.drop (j+1)++(e.Idx.drop (k+1)).flatMap ixF):=by
 rw [forms_at h]
 have e1:x.At=x.At.take j++l::x.At.drop (j+1):=by rw [←qZ hl,List.take_append_drop]
 have e2:x.At++(e.Idx.drop (k+1)).flatMap ixF=(x.At.take j++l::x.At.drop (j+1))++(e.Idx.drop (k+1)).flatMap ixF:=congrArg (· ++(e.Idx.drop (k+1)).flatMap ixF) e1
 rw [e2]
 simp
theorem forms_next {e:Ex} {k:Nat} {x:Ix} (h:e.Idx[k]? =some x):e.Lin::(e.Idx.take (k+1)).flatMap ixF=(e.Lin::(e.Idx.take k).flatMap ixF)++[x.Lin]++x.At:=by
 rw [yG h,List.flatMap_append];simp [ixF]
theorem nodes_at {e a:Ex} {k:Nat} (h:e.Args[k]? =some a) {pre suf:List Ex} {x:Ex} (hx:nodes a=pre++x::suf):nodes e=(e::nodesL (e.Args.take k)++pre)++x::(suf++nodesL (e.Args.drop (k+1))):=by
 have e1:e.Args=e.Args.take k++a::e.Args.drop (k+1):=by rw [←qZ h,List.take_append_drop]
 have e2:nodesL e.Args=nodesL (e.Args.take k)++(nodes a++nodesL (e.Args.drop (k+1))):=by
  have:=congrArg nodesL e1
  rw [zIx,nodesL] at this
  exact this
 rw [zBo,e2,hx]
 simp
theorem nodesL_next {l:List Ex} {k:Nat} {a:Ex} (h:l[k]? =some a):nodesL (l.take (k+1))=nodesL (l.take k)++nodes a:=by
 rw [yG h,zIx,nodesL,nodesL,List.append_nil]
theorem forms_wt {e:Ex} {l:Lf} {B:Nat} (he:e.wt<=B) (h:l∈formsL e):l.L.length<=B:=by
 unfold formsL at h
 rcases List.mem_cons.1 h with rfl|h
 ·exact (e.parts he).1
 ·obtain ⟨x,hx,hl⟩:=List.mem_flatMap.1 h
  have h1:=Ex.idx_wt hx
  rcases List.mem_cons.1 hl with rfl|hl
  ·omega
  ·have:=zCu hl;omega
theorem node5 {e:Ex} {b:Bool} (h:typesE e=true) (c:(decide (e.Op=1)&& !(tyOk e.Ty&&valOk e.Ty e.Val))=b):(decide (e.Op=1)&& !valOk e.Ty e.Val)=b:=by
 rw [←c]
 by_cases h1:e.Op=1
 ·rw [types_ty h h1];simp [h1]
 ·simp [h1]
theorem all_app_no {α:Type} {p:α->Bool} {pre suf:List α} {x:α} (h:(pre++[x]).all p=false):(pre++x::suf).all p=false:=by
 rw [show pre++x::suf=(pre++[x])++suf by simp,List.all_append,h];rfl
theorem errs_one {pre:List Ex} {x:Ex} (h:errsL pre=0) (c:¬nodeErr x=0):errsL (pre++[x])=nodeErr x:=by
 rw [zDi,h,errsL,wQ c];rfl
theorem errs_pre {pre suf:List Ex} {x:Ex} (h:¬errsL (pre++[x])=0):errsL (pre++x::suf)=errsL (pre++[x]):=by
 rw [show pre++x::suf=(pre++[x])++suf by simp,zDi,wQ h];rfl
end Go.Br
end
section
namespace Go.Br
open Go Go.Eng Go.L41
/-! ## Equality,part by part -/
def weighAt (m n:Nat):List Lf->Nat
 |[]=>n
 |l::r=>if n<=m then weighAt m (n+l.L.length) r else n
def weighIdx (m n:Nat):List Ix->Nat
 |[]=>n
 |x::r=>if n<=m then weighIdx m (weighAt m (n+x.Lin.L.length+x.At.length) x.At) r else n
mutual
def weighE:Ex->Nat->Nat
 |.mk _ _ _ _ l i arg_,m=>weighL arg_ m (weighIdx m (1+l.L.length+i.length) i)
def weighL:List Ex->Nat->Nat->Nat
 |[],_,n=>n
 |a::r,m,n=>if n<=m then weighL r m (n+weighE a (m-n)) else n
end
theorem weighE_eq (e:Ex) (m:Nat):weighE e m=weighL e.Args m (weighIdx m (1+e.Lin.L.length+e.Idx.length) e.Idx):=by cases e;rw [weighE];rfl
def Ix.fit (x:Ix):Prop:=x.Lin.L.length<=140737488355328/\x.At.length<=140737488355328/\∀l,l∈x.At->l.L.length<=140737488355328
mutual
def Ex.fit:Ex->Prop
 |.mk _ _ _ _ l i arg_=>l.L.length<=140737488355328/\i.length<=140737488355328/\arg_.length<=140737488355328/\(∀x,x∈i->x.fit)/\fitL arg_
def fitL:List Ex->Prop
 |[]=>True
 |a::r=>a.fit/\fitL r
end
theorem fitL_mem {l:List Ex} (h:fitL l):∀a,a∈l->a.fit:=by
 induction l with
 |nil=>intro a ha;cases ha
 |cons x r ih=>
  intro a ha
  rcases List.mem_cons.1 ha with rfl|ha
  ·exact h.1
  ·exact ih h.2 a ha
theorem Ex.fit_eq {e:Ex} (h:e.fit):e.Lin.L.length<=140737488355328/\e.Idx.length<=140737488355328/\e.Args.length<=140737488355328/\(∀x,x∈e.Idx->x.fit)/\∀a,a∈e.Args->a.fit:=by
 cases e with
 |mk o n v t l i arg_=>rw [Ex.fit] at h;exact ⟨h.1,h.2.1,h.2.2.1,h.2.2.2.1,fitL_mem h.2.2.2.2⟩
theorem zJz (m:Nat):∀(l:List Lf) (n:Nat),n<=weighAt m n l
 |[],n=>Nat.le_refl _
 |x::r,n=>by
  rw [weighAt];split
  ·have:=zJz m r (n+x.L.length);omega
  ·omega
theorem zMr (m:Nat):∀(l:List Ix) (n:Nat),n<=weighIdx m n l
 |[],n=>Nat.le_refl _
 |x::r,n=>by
  rw [weighIdx];split
  ·have h1:=zJz m x.At (n+x.Lin.L.length+x.At.length)
   have:=zMr m r (weighAt m (n+x.Lin.L.length+x.At.length) x.At);omega
  ·omega
theorem zMt (m:Nat):∀(l:List Lf) (n:Nat),weighAt m n l<=m->n+linsWt l<=weighAt m n l
 |[],n,_=>by simp [weighAt,linsWt]
 |y::r,n,h=>by
  have hn:n<=m:=Nat.le_trans (zJz m (y::r) n) h
  rw [weighAt,if_pos hn] at h⊢
  have:=zMt m r _ h
  rw [linsWt];omega
theorem zLd (m:Nat):∀(l:List Ix) (n:Nat),weighIdx m n l<=m->n+idxWt l<=weighIdx m n l
 |[],n,_=>by simp [weighIdx,idxWt]
 |x::r,n,h=>by
  have hn:n<=m:=Nat.le_trans (zMr m (x::r) n) h
  rw [weighIdx,if_pos hn] at h⊢
  have h1:=zLd m r _ h
  have h2:=zMt m x.At (n+x.Lin.L.length+x.At.length) (by omega)
  rw [idxWt,Ix.wt];omega
mutual
theorem zMs:∀(e:Ex) (m:Nat),weighE e m<=m->e.wt<=weighE e m
 |.mk o n v t l i arg_,m,h=>by
  rw [weighE] at h⊢
  have h1:=weighL_wt arg_ m _ h
  have h2:=zLd m i (1+l.L.length+i.length) (by omega)
  rw [Ex.wt];omega
theorem weighL_wt:∀(l:List Ex) (m n:Nat),weighL l m n<=m->n+argsWt l<=weighL l m n
 |[],m,n,h=>by simp [weighL,argsWt]
 |a::r,m,n,h=>by
  by_cases hn:n<=m
  ·rw [weighL,if_pos hn] at h⊢
   have h1:=weighL_wt r m _ h
   have h2:=zMs a (m-n) (by omega)
   rw [argsWt];omega
  ·rw [weighL,if_neg hn] at h;omega
end
theorem weighAt_le {m:Nat}:∀(l:List Lf) (n B:Nat),(∀x,x∈l->x.L.length<=140737488355328)->n<=B->m+140737488355328<=B->weighAt m n l<=B
 |[],n,B,_,h,_=>by simpa [weighAt] using h
 |x::r,n,B,hx,h,hb=>by
  rw [weighAt];split
  ·have:=hx x (by simp)
   exact weighAt_le r _ B (fun y hy=>hx y (by simp [hy])) (by omega) hb
  ·exact h
theorem zMq {m:Nat}:∀(l:List Ix) (n B:Nat),(∀x,x∈l->x.fit)->n<=B->m+3*140737488355328<=B->weighIdx m n l<=B
 |[],n,B,_,h,_=>by simpa [weighIdx] using h
 |x::r,n,B,hx,h,hb=>by
  rw [weighIdx];split
  ·obtain ⟨h1,h2,h3⟩:=hx x (by simp)
   exact zMq r _ B (fun y hy=>hx y (by simp [hy])) (weighAt_le x.At _ B h3 (by omega) (by omega)) hb
  ·exact h
mutual
theorem zDu:∀(e:Ex) (m:Nat),e.fit->weighE e m<=m+4*140737488355328
 |.mk o n v t l i arg_,m,h=>by
  rw [Ex.fit] at h
  obtain ⟨h1,h2,h3,h4,h5⟩:=h
  rw [weighE]
  exact weighL_le arg_ m _ h5 (zMq i _ _ h4 (by omega) (by omega))
theorem weighL_le:∀(l:List Ex) (m n:Nat),fitL l->n<=m+4*140737488355328->weighL l m n<=m+4*140737488355328
 |[],m,n,_,h=>by simpa [weighL] using h
 |a::r,m,n,hf,h=>by
  rw [weighL];split
  ·have:=zDu a (m-n) hf.1
   exact weighL_le r m _ hf.2 (by omega)
  ·exact h
end
theorem weighIdx_end {m n k:Nat} {l:List Ix} {x:Int} (hx:x=m) (h:l.length<=k∨x<n):n=weighIdx m n (l.drop k):=by
 by_cases hk:k<l.length
 ·obtain ⟨a,ha⟩:=qX l k hk
  rw [qZ ha,weighIdx,if_neg (by omega)]
 ·rw [wM hk,weighIdx]
theorem weighAt_end {m n k:Nat} {l:List Lf} {x:Int} (hx:x=m) (h:l.length<=k∨x<n):n=weighAt m n (l.drop k):=by
 by_cases hk:k<l.length
 ·obtain ⟨a,ha⟩:=qX l k hk
  rw [qZ ha,weighAt,if_neg (by omega)]
 ·rw [wM hk,weighAt]
theorem weighL_end {m n k:Nat} {l:List Ex} {x:Int} (hx:x=m) (h:l.length<=k∨x<n):n=weighL (l.drop k) m n:=by
 by_cases hk:k<l.length
 ·obtain ⟨a,ha⟩:=qX l k hk
  rw [qZ ha,weighL,if_neg (by omega)]
 ·rw [wM hk,weighL]
/-! ## Forms mapped -/
def zEx:Ex:=.mk 0 (bs []) ⟨0,0⟩ ⟨0,0,0,0,0⟩ ⟨0,[]⟩ [] []
theorem nodesL_of {a x:Ex}:∀{l:List Ex},a∈l->x∈nodes a->x∈nodesL l
 |[],h,_=>by cases h
 |b::r,h,hx=>by
  rw [nodesL,List.mem_append]
  rcases List.mem_cons.1 h with rfl|h
  ·exact .inl hx
  ·exact .inr (nodesL_of h hx)
end Go.Br
end
section
namespace Go.Br
open Go Go.Eng Go.L41
theorem errsL_mem {l:List Ex} (h:errsL l=0):∀x,x∈l->nodeErr x=0:=by
 induction l with
 |nil=>intro x hx;cases hx
 |cons y r ih=>
  intro x hx
  rw [errsL] at h
  by_cases hy:nodeErr y=0
  ·rw [zDm hy,cond_true] at h
   rcases List.mem_cons.1 hx with rfl|hx
   ·exact hy
   ·exact ih h x hx
  ·rw [wQ hy,cond_false] at h;exact absurd h hy
theorem zAu {e:Ex} (h:partE e=0):nodeErr e=0:=errsL_mem h e (by rw [zBo];simp)
theorem partE_arg {e a:Ex} (h:partE e=0) (ha:a∈e.Args):partE a=0:=by
 have hn:=zAu h
 rw [partE_eq,zDm hn,cond_true] at h
 obtain ⟨k,hk⟩:=List.getElem?_of_mem ha
 have:∀l:List Ex,partL l=0->a∈l->partE a=0:=by
  intro l
  induction l with
  |nil=>intro _ h;cases h
  |cons y r ih=>
   intro h hm
   rw [partL_cons] at h
   by_cases hy:partE y=0
   ·rw [zDm hy,cond_true] at h
    rcases List.mem_cons.1 hm with rfl|hm
    ·exact hy
    ·exact ih h hm
   ·rw [wQ hy,cond_false] at h;exact absurd h hy
 exact this _ h ha
theorem valid_part {e:Ex} (h:validE e=0):partE e=0:=by
 unfold validE at h
 by_cases h1:40<depT 40 e
 ·rw [zDm h1] at h;simp at h
 ·rw [wQ h1,cond_false] at h
  by_cases h2:(2000:Int)<szT e
  ·rw [zDm h2] at h;simp at h
  ·rwa [wQ h2,cond_false] at h
theorem zMf {e:Ex} (h:nodeErr e=0):synOk e=true/\namesE e=true/\rankE e=true/\typesE e=true/\formOk e=true:=by
 unfold nodeErr at h
 cases h1:synOk e<;>rw [h1] at h<;>simp at h
 cases h2:namesE e<;>rw [h2] at h<;>simp at h
 cases h3:rankE e<;>rw [h3] at h<;>simp at h
 cases h4:typesE e<;>rw [h4] at h<;>simp at h
 cases h5:formOk e<;>rw [h5] at h<;>simp at h
 simp
theorem zNn {e:Ex} (h:nodeErr e=0):(e.Args.length:Int)=nArgs e.Op:=by
 have:=(zMf h).2.2.1
 simp only [rankE,Bool.and_eq_true,Bool.not_eq_true',Bool.or_eq_false_iff,Bool.not_eq_false',decide_eq_true_eq] at this
 exact this.1.1
end Go.Br
end
section
namespace Go.Br
open Go Go.Eng Go.L41
structure Cn where
 Lin:Lf
 Eq:Bool
 deriving DecidableEq
structure Ax where
 Name:ByteArray
 Size:Lf
 deriving DecidableEq
structure Pm where
 Name:ByteArray
 T:Ty
 Dims:List Lf
 deriving DecidableEq
structure Df where
 Name:ByteArray
 T:Ty
 Dims:List Ax
 Red:List Ax
 Fold:Int
 Body:Ex
 deriving DecidableEq
structure Pg where
 Sizes:List ByteArray
 Where:List Cn
 Params:List Pm
 Defs:List Df
 Outs:List ByteArray
 deriving DecidableEq
def Cn.cells (x:Cn):List C:=[cI x.Lin.K,.sl 2 (x.Lin.L.map Mono.cells),cB x.Eq]
def Ax.cells (x:Ax):List C:=[cS x.Name,cI x.Size.K,.sl 2 (x.Size.L.map Mono.cells)]
def Pm.cells (x:Pm):List C:=[cS x.Name,cI x.T.Kind,cI x.T.Bits,cI x.T.Frac,cI x.T.Round,cI x.T.Over,.sl 2 (x.Dims.map Lf.cells)]
def Df.cells (x:Df):List C:=[cS x.Name,cI x.T.Kind,cI x.T.Bits,cI x.T.Frac,cI x.T.Round,cI x.T.Over,.sl 3 (x.Dims.map Ax.cells),.sl 3 (x.Red.map Ax.cells),cI x.Fold,
 cI x.Body.Op,cS x.Body.Name,cI x.Body.Val.N,cI x.Body.Val.D,cI x.Body.Ty.Kind,cI x.Body.Ty.Bits,cI x.Body.Ty.Frac,cI x.Body.Ty.Round,cI x.Body.Ty.Over,cI x.Body.Lin.K,.sl 2 (x.Body.Lin.L.map Mono.cells),.sl 4 (x.Body.Idx.map Ix.cells),.sl 13 (x.Body.Args.map Ex.cells)]
def Pg.cells (p:Pg):List C:=[.sl 1 (p.Sizes.map fun s=>[cS s]),.sl 3 (p.Where.map Cn.cells),.sl 7 (p.Params.map Pm.cells),.sl 22 (p.Defs.map Df.cells),.sl 1 (p.Outs.map fun s=>[cS s])]
def lfFit (l:Lf):Prop:=l.L.length<=140737488355328
def Pm.fit (x:Pm):Prop:=x.Dims.length<=140737488355328/\∀l,l∈x.Dims->lfFit l
def Df.fit (d:Df):Prop:=d.Dims.length<=140737488355328/\d.Red.length<=140737488355328/\(∀a,a∈d.Dims->lfFit a.Size)/\(∀a,a∈d.Red->lfFit a.Size)/\d.Body.fit
structure Pg.Fit (p:Pg):Prop where
 sizes:p.Sizes.length<=140737488355328
 wh:p.Where.length<=140737488355328
 params:p.Params.length<=140737488355328
 defs:p.Defs.length<=140737488355328
 outs:p.Outs.length<=140737488355328
 whs:∀c,c∈p.Where->lfFit c.Lin
 ps:∀x,x∈p.Params->x.fit
 ds:∀d,d∈p.Defs->d.fit
def zTy:Ty:=⟨0,0,0,0,0⟩
def iTy:Ty:=⟨3,0,0,0,0⟩
/-! ## Find -/
structure Fd where
 ty:Ty
 dims:List Lf
 ok:Bool
structure En where
 sz:List ByteArray
 pm:List Pm
 df:List Df
def Pg.en (p:Pg):En:=⟨p.Sizes,p.Params,p.Defs⟩
def tyAt (l:List Ty) (i:Nat):Ty:=l.getD i zTy
mutual
def nodeT (N:Ex->List Ty->Ty×Int):Ex->Ty×Int
 |.mk o nm v t l i arg_=>if (nodeL N arg_).2=0 then N (.mk o nm v t l i arg_) (nodeL N arg_).1 else (zTy,(nodeL N arg_).2)
def nodeL (N:Ex->List Ty->Ty×Int):List Ex->List Ty×Int
 |[]=>([],0)
 |a::r=>if (nodeT N a).2=0 then (if (nodeL N r).2=0 then ((nodeT N a).1::(nodeL N r).1,0) else ([],(nodeL N r).2)) else ([],(nodeT N a).2)
end
theorem zMg (N:Ex->List Ty->Ty×Int) (e:Ex):nodeT N e=if (nodeL N e.Args).2=0 then N e (nodeL N e.Args).1 else (zTy,(nodeL N e.Args).2):=by
 cases e;rw [nodeT];rfl
theorem node_op {e:Ex} (h:nodeErr e=0):1<=e.Op/\e.Op<=18:=by
 have:=(zMf h).1
 simp only [synOk,Bool.and_eq_true,Bool.not_eq_true',Bool.or_eq_false_iff,decide_eq_false_iff_not] at this
 obtain ⟨⟨⟨⟨⟨⟨h1,h2⟩,_⟩,_⟩,_⟩,_⟩,_⟩:=this
 exact ⟨by omega,by omega⟩
def limitOk (p:Pg):Prop:=p.Sizes.length<=64/\p.Params.length<=64/\p.Defs.length<=64/\p.Outs.length<=64/\p.Where.length<=256
instance (p:Pg):Decidable (limitOk p):=by unfold limitOk;infer_instance
abbrev Kn:=List (ByteArray×Int)
def kget (m:Kn) (s:ByteArray):Int:=(mget m s).getD 0
end Go.Br
end
section
namespace Go.Br
open Go Go.Eng Go.L41
theorem zOa (a b:List ByteArray) (s:ByteArray):hasB (a++b) s=(hasB a s||hasB b s):=by simp [hasB,List.any_append]
theorem hasB_one (s t:ByteArray):hasB [s] t=decide (s=t):=by simp [hasB]
theorem mget_mput' (m:Kn) (k s:ByteArray) (a:Int):mget (mput m k a) s=if k=s then some a else mget m s:=by
 induction m with
 |nil=>simp [mput,mget]
 |cons x r ih=>
  obtain ⟨k',b⟩:=x
  by_cases h:k'=k
  ·subst h
   simp only [mput,if_true,mget]
   by_cases h2:k'=s<;>simp [h2]
  ·simp only [mput,h,if_false,mget,ih]
   by_cases h2:k'=s
   ·subst h2;rw [if_pos rfl,if_neg (fun e:k=k'=>h e.symm),if_pos rfl]
   ·simp [h2]
theorem zNx (m:Kn) (k s:ByteArray) (a:Int):kget (mput m k a) s=if k=s then a else kget m s:=by
 unfold kget;rw [mget_mput'];by_cases h:k=s<;>simp [h]
structure Rel (m:Kn) (sz tn:List ByteArray):Prop where
 one:∀s,kget m s=1↔hasB sz s=true
 two:∀s,kget m s=2↔hasB tn s=true
 zero:∀s,kget m s=0↔hasB (sz++tn) s=false
theorem Rel.nil:Rel [] [] []:=⟨fun s=>by simp [kget,mget,hasB],fun s=>by simp [kget,mget,hasB],fun s=>by simp [kget,mget,hasB]⟩
theorem Rel.size {m:Kn} {sz:List ByteArray} (h:Rel m sz []) {s:ByteArray} (h0:kget m s=0):Rel (mput m s 1) (sz++[s]) []:=by
 refine ⟨fun t=>?_,fun t=>?_,fun t=>?_⟩
 ·rw [zNx,zOa,hasB_one]
  by_cases e:s=t
  ·simp [e]
  ·simp [e,h.one t]
 ·rw [zNx]
  by_cases e:s=t
  ·simp [e,hasB]
  ·simp [e,h.two t]
 ·rw [zNx,List.append_nil,zOa,hasB_one]
  by_cases e:s=t
  ·simp [e]
  ·have:=h.zero t
   rw [List.append_nil] at this
   simp [e,this]
end Go.Br
end
section
namespace Go.Br
open Go Go.Eng Go.L41
structure Pg.Ok (p:Pg):Prop where
 sizes:p.Sizes.length<=4294967296
 wh:p.Where.length<=4294967296
 params:p.Params.length<=4294967296
 defs:p.Defs.length<=4294967296
 outs:p.Outs.length<=4294967296
 whs:∀c,c∈p.Where->c.Lin.L.length<=5864062014805
 ps:∀x,x∈p.Params->x.Dims.length<=4294967296/\∀l,l∈x.Dims->l.L.length<=5864062014805
 ds:∀d,d∈p.Defs->d.Dims.length<=1073741824/\d.Red.length<=1073741824/\(∀a,a∈d.Dims->a.Size.L.length<=5864062014805)/\(∀a,a∈d.Red->a.Size.L.length<=5864062014805)/\d.Body.wt<=4294967296
theorem Pg.Ok.take {p:Pg} (h:p.Ok) (k:Nat):Pg.Ok ⟨p.Sizes,p.Where,p.Params,p.Defs.take k,p.Outs⟩:=
 ⟨h.sizes,h.wh,h.params,by have:=h.defs;simp only [List.length_take];omega,h.outs,h.whs,h.ps,fun d hd=>h.ds d (List.mem_of_mem_take hd)⟩
end Go.Br
end
section
namespace Go.Br
open Go Go.Eng Go.L41
abbrev vP (b:Nat):V:=.c (.lit (.pointer (some ⟨b,0,none⟩)))
def tyC (t:Ty):List C:=[cI t.Kind,cI t.Bits,cI t.Frac,cI t.Round,cI t.Over]
theorem tyC_eq (a b:Ty):litsEq [cI a.Kind,cI a.Bits,cI a.Frac,cI a.Round,cI a.Over] [cI b.Kind,cI b.Bits,cI b.Frac,cI b.Round,cI b.Over]=decide (a=b):=by
 obtain ⟨a1,a2,a3,a4,a5⟩:=a
 obtain ⟨b1,b2,b3,b4,b5⟩:=b
 simp only [litsEq,cEq,Ty.mk.injEq,Bool.and_true,Bool.decide_and]
theorem zFv (N:Ex->List Ty->Ty×Int):∀(a b:List Ex),(nodeL N a).2=0->nodeL N (a++b)=if (nodeL N b).2=0 then ((nodeL N a).1++(nodeL N b).1,0) else ([],(nodeL N b).2)
 |[],b,_=>by
  simp only [List.nil_append,nodeL,List.nil_append]
  cases b with
  |nil=>simp [nodeL]
  |cons x r=>
   simp only [nodeL]
   by_cases h1:(nodeT N x).2=0
   ·by_cases h2:(nodeL N r).2=0
    ·simp [h1,h2]
    ·simp [h1,h2]
   ·simp [h1]
 |x::r,b,h=>by
  rw [nodeL] at h
  by_cases h1:(nodeT N x).2=0
  ·rw [if_pos h1] at h
   by_cases h2:(nodeL N r).2=0
   ·rw [List.cons_append,nodeL,if_pos h1,zFv N r b h2]
    rw [nodeL,if_pos h1,if_pos h2]
    by_cases h3:(nodeL N b).2=0
    ·simp [h3]
    ·simp [h3]
   ·rw [if_neg h2] at h;exact absurd h h2
  ·rw [if_neg h1] at h;exact absurd h h1
theorem nodeL_next {N:Ex->List Ty->Ty×Int} {l:List Ex} {k:Nat} {x:Ex} (h:l[k]? =some x) (hp:(nodeL N (l.take k)).2=0) (hx:(nodeT N x).2=0):nodeL N (l.take (k+1))=((nodeL N (l.take k)).1++[(nodeT N x).1],0):=by
 rw [yG h,zFv N _ _ hp];simp [nodeL,hx]
theorem nodeL_no {N:Ex->List Ty->Ty×Int} {l:List Ex} {k:Nat} {x:Ex} (h:l[k]? =some x) (hp:(nodeL N (l.take k)).2=0) (hx:¬(nodeT N x).2=0):(nodeL N l).2=(nodeT N x).2:=by
 have e:l=l.take k++(x::l.drop (k+1)):=by rw [←qZ h,List.take_append_drop]
 rw [e,zFv N _ _ hp]
 simp [nodeL,hx]
theorem zNp (N:Ex->List Ty->Ty×Int):∀l:List Ex,(nodeL N l).2=0->(nodeL N l).1.length=l.length
 |[],_=>rfl
 |x::r,h=>by
  rw [nodeL] at h⊢
  by_cases h1:(nodeT N x).2=0
  ·rw [if_pos h1] at h⊢
   by_cases h2:(nodeL N r).2=0
   ·rw [if_pos h2];simp [zNp N r h2]
   ·rw [if_neg h2] at h;exact absurd h h2
  ·rw [if_neg h1] at h;exact absurd h h1
end Go.Br
namespace Go.Br
open Go Go.Eng Go.L41
end Go.Br
end
section
namespace Go.Br
open Go Go.Eng Go.L41
theorem nodeT_no {N:Ex->List Ty->Ty×Int} {e x:Ex} {k:Nat} (h:e.Args[k]? =some x) (hp:(nodeL N (e.Args.take k)).2=0) (hx:¬(nodeT N x).2=0):nodeT N e=(zTy,(nodeT N x).2):=by
 have h1:=nodeL_no h hp hx
 rw [zMg N e,h1,if_neg hx]
theorem nodeT_ok {N:Ex->List Ty->Ty×Int} {e:Ex} {k:Nat} (h:e.Args.take k=e.Args) (hp:(nodeL N (e.Args.take k)).2=0):nodeT N e=N e (nodeL N (e.Args.take k)).1:=by
 rw [h] at hp⊢
 rw [zMg N e,if_pos hp]
theorem zGm {a b:Ty} (h:(!litsEq [cI a.Kind,cI a.Bits,cI a.Frac,cI a.Round,cI a.Over] [cI b.Kind,cI b.Bits,cI b.Frac,cI b.Round,cI b.Over])=true):¬a=b:=by
 rw [tyC_eq] at h;simpa using h
theorem zGn {a b:Ty} (h:(!litsEq [cI a.Kind,cI a.Bits,cI a.Frac,cI a.Round,cI a.Over] [cI b.Kind,cI b.Bits,cI b.Frac,cI b.Round,cI b.Over])=false):a=b:=by
 rw [tyC_eq] at h;simpa using h
theorem tyAt_get {l:List Ty} {i:Nat} (h:i<l.length):(l.map tyC)[i]? =some (tyC (tyAt l i)):=by
 rw [List.getElem?_map,List.getElem?_eq_getElem h]
 simp [tyAt,List.getD,List.getElem?_eq_getElem h]
theorem rank_len {e:Ex} (h:partE e=0):(e.Args.length:Int)=nArgs e.Op:=by
 have h1:=(zMf (zAu h)).2.2.1
 unfold rankE at h1
 simp only [Bool.and_eq_true,Bool.not_eq_true',Bool.or_eq_false_iff,Bool.not_eq_false',decide_eq_true_eq] at h1
 exact h1.1.1
theorem args_len {e:Ex} (h:partE e=0) (ho:¬(e.Op=1∨e.Op=2∨e.Op=3)):1<=e.Args.length:=by
 have:=rank_len h;unfold nArgs at this;rw [if_neg ho] at this;split at this
 ·omega
 ·split at this<;>omega
theorem zEb {e:Ex} (h:partE e=0) (ho:¬(e.Op=1∨e.Op=2∨e.Op=3∨e.Op=8∨e.Op=12∨e.Op=18)):2<=e.Args.length:=by
 have:=rank_len h;unfold nArgs at this;rw [if_neg (by omega),if_neg (by omega)] at this;split at this<;>omega
end Go.Br
end
section
namespace Go.Br
open Go Go.Eng Go.L41
/-! ## The program's Validate -/
structure Pg.Short (p:Pg):Prop where
 sizes:p.Sizes.length<=12
 wh:p.Where.length<=12
 params:p.Params.length<=12
 defs:p.Defs.length<=12
 outs:p.Outs.length<=12
 whs:∀c,c∈p.Where->c.Lin.L.length<=20
 ps:∀x,x∈p.Params->x.Dims.length<=12/\∀l,l∈x.Dims->l.L.length<=20
 ds:∀d,d∈p.Defs->d.Dims.length<=12/\d.Red.length<=12/\(∀a,a∈d.Dims->a.Size.L.length<=20)/\(∀a,a∈d.Red->a.Size.L.length<=20)/\d.Body.wt<=300
theorem Pg.Short.ok {p:Pg} (h:p.Short):p.Ok:=
 ⟨by have:=h.sizes;omega,by have:=h.wh;omega,by have:=h.params;omega,by have:=h.defs;omega,by have:=h.outs;omega,fun c hc=>by have:=h.whs c hc;omega,
  fun x hx=>by obtain ⟨h1,h2⟩:=h.ps x hx;exact ⟨by omega,fun l hl=>by have:=h2 l hl;omega⟩,
  fun d hd=>by obtain ⟨h1,h2,h3,h4,h5⟩:=h.ds d hd;exact ⟨by omega,by omega,fun a ha=>by have:=h3 a ha;omega,fun a ha=>by have:=h4 a ha;omega,by omega⟩⟩
end Go.Br
end
section
namespace Go.Br
open Go Go.Eng Go.L41
end Go.Br
end
section
namespace Go.Br
open Go Go.Eng Go.Proofs Go.L41
def cmpI (a b:Int):Int:=if a<b then-1 else if b<a then 1 else 0
def cmpS (a b:ByteArray):Int:=Lib.compareBytes a.data.toList b.data.toList
def orI:List Int->Int
 |[]=>0
 |x::r=>if x=0 then orI r else x
def cmpL {α:Type} (f:α->α->Int):List α->List α->Int
 |[],[]=>0
 |[],_::_=> -1
 |_::_,[]=>1
 |x::xs,y::ys=>if f x y=0 then cmpL f xs ys else f x y
def cmpLs {α:Type} (f:α->α->Int) (a b:List α):Int:=if cmpI a.length b.length=0 then cmpL f a b else cmpI a.length b.length
def cmpM (x y:Mono):Int:=if x.Name=y.Name then cmpI x.By y.By else cmpS x.Name y.Name
def cmpLf (a b:Lf):Int:=if cmpL cmpM a.L b.L=0 then cmpI a.K b.K else cmpL cmpM a.L b.L
def cmpIx (a b:Ix):Int:=if cmpS a.From b.From=0 then (if cmpLf a.Lin b.Lin=0 then cmpLs cmpLf a.At b.At else cmpLf a.Lin b.Lin) else cmpS a.From b.From
def cmpTy (a b:Ty):Int:=orI [cmpI a.Kind b.Kind,cmpI a.Bits b.Bits,cmpI a.Frac b.Frac,cmpI a.Round b.Round,cmpI a.Over b.Over]
def cmpHd (a b:Ex):Int:=orI [cmpI a.Op b.Op,cmpS a.Name b.Name,cmpI a.Val.N b.Val.N,cmpI a.Val.D b.Val.D,cmpTy a.Ty b.Ty,cmpLf a.Lin b.Lin]
mutual
def cmpE:Ex->Ex->Int
 |.mk o n v t l i r,b=>if cmpHd (.mk o n v t l i r) b=0 then (if cmpLs cmpIx i b.Idx=0 then (if cmpI r.length b.Args.length=0 then cmpEs r b.Args else cmpI r.length b.Args.length) else cmpLs cmpIx i b.Idx) else cmpHd (.mk o n v t l i r) b
def cmpEs:List Ex->List Ex->Int
 |[],[]=>0
 |[],_::_=> -1
 |_::_,[]=>1
 |x::xs,y::ys=>if cmpE x y=0 then cmpEs xs ys else cmpE x y
end
theorem cmpEs_L:∀a b:List Ex,cmpEs a b=cmpL cmpE a b
 |[],[]=>rfl
 |[],_::_=>rfl
 |_::_,[]=>rfl
 |x::xs,y::ys=>by rw [cmpEs,cmpL,cmpEs_L xs ys]
theorem cmpE_eq (a b:Ex):cmpE a b=if cmpHd a b=0 then (if cmpLs cmpIx a.Idx b.Idx=0 then cmpLs cmpE a.Args b.Args else cmpLs cmpIx a.Idx b.Idx) else cmpHd a b:=by
 cases a with
 |mk o n v t l i r=>rw [cmpE,cmpEs_L];rfl
/-! ## Alike is equal -/
theorem zGk (a b:Int):cmpI a b=0↔a=b:=by
 unfold cmpI
 split
 ·constructor
  ·intro h;cases h
  ·intro h;omega
 ·split
  ·constructor
   ·intro h;cases h
   ·intro h;omega
  ·constructor<;>intro h<;>first|rfl|omega
theorem bytes_zero:∀a b:List UInt8,Lib.compareBytes a b=0↔a=b
 |[],[]=>by simp [Lib.compareBytes]
 |[],_::_=>by simp [Lib.compareBytes]
 |_::_,[]=>by simp [Lib.compareBytes]
 |x::xs,y::ys=>by
  rw [Lib.compareBytes]
  by_cases h1:x<y
  ·rw [if_pos h1]
   constructor
   ·intro h;cases h
   ·intro h;injection h with h2 h3;subst h2;exact absurd h1 (UInt8.lt_irrefl x)
  ·rw [if_neg h1]
   by_cases h2:y<x
   ·rw [if_pos h2]
    constructor
    ·intro h;cases h
    ·intro h;injection h with h3 h4;subst h3;exact absurd h2 (UInt8.lt_irrefl x)
   ·rw [if_neg h2,bytes_zero xs ys]
    have e:x=y:=by
     have h3:=UInt8.not_lt.1 h1
     have h4:=UInt8.not_lt.1 h2
     exact UInt8.le_antisymm h4 h3
    simp [e]
theorem zJn (a b:ByteArray):cmpS a b=0↔a=b:=by
 unfold cmpS
 rw [bytes_zero]
 constructor
 ·intro h;cases a;cases b;congr 1;exact Array.toList_inj.1 h
 ·rintro rfl;rfl
theorem orI_zero:∀l:List Int,orI l=0↔∀x,x∈l->x=0
 |[]=>by simp [orI]
 |x::r=>by
  rw [orI]
  by_cases h:x=0
  ·rw [if_pos h,orI_zero r];simp [h]
  ·rw [if_neg h];constructor
   ·intro k;exact absurd k h
   ·intro k;exact k x (by simp)
theorem zOv {α:Type} {f:α->α->Int}:∀(a b:List α),(∀x,x∈a->∀y,f x y=0↔x=y)->(cmpL f a b=0↔a=b)
 |[],[],_=>by simp [cmpL]
 |[],_::_,_=>by simp [cmpL]
 |_::_,[],_=>by simp [cmpL]
 |x::xs,y::ys,h=>by
  rw [cmpL]
  have h1:=h x (by simp) y
  by_cases c:f x y=0
  ·rw [if_pos c,zOv xs ys fun z hz=>h z (by simp [hz])];simp [h1.1 c]
  ·rw [if_neg c]
   constructor
   ·intro k;exact absurd k c
   ·intro k;injection k with k1 k2;exact h1.2 k1
theorem zKs {α:Type} {f:α->α->Int} (a b:List α) (h:∀x,x∈a->∀y,f x y=0↔x=y):cmpLs f a b=0↔a=b:=by
 unfold cmpLs
 by_cases c:cmpI (a.length:Int) b.length=0
 ·rw [if_pos c];exact zOv a b h
 ·rw [if_neg c]
  constructor
  ·intro k;exact absurd k c
  ·rintro rfl;exact absurd ((zGk _ _).2 rfl) c
theorem cmpM_zero (x y:Mono):cmpM x y=0↔x=y:=by
 obtain ⟨n,b⟩:=x
 obtain ⟨n',b'⟩:=y
 unfold cmpM
 by_cases c:n=n'
 ·simp only [c,if_true,zGk,Mono.mk.injEq,true_and]
 ·simp only [c,if_false,zJn,Mono.mk.injEq,false_and]
theorem zGx (a b:Lf):cmpLf a b=0↔a=b:=by
 have h:=zOv (f:=cmpM) a.L b.L fun x _ y=>cmpM_zero x y
 have e:a=b↔a.L=b.L/\a.K=b.K:=by
  cases a;cases b;simp only [Lf.mk.injEq];exact ⟨fun k=>⟨k.2,k.1⟩,fun k=>⟨k.2,k.1⟩⟩
 unfold cmpLf
 rw [e]
 by_cases c:cmpL cmpM a.L b.L=0
 ·rw [if_pos c,zGk];exact ⟨fun k=>⟨h.1 c,k⟩,fun k=>k.2⟩
 ·rw [if_neg c];exact ⟨fun k=>absurd k c,fun k=>absurd (h.2 k.1) c⟩
theorem cmpIx_zero (a b:Ix):cmpIx a b=0↔a=b:=by
 have h:=zKs (f:=cmpLf) a.At b.At fun x _ y=>zGx x y
 have e:a=b↔a.From=b.From/\a.Lin=b.Lin/\a.At=b.At:=by
  cases a;cases b;simp only [Ix.mk.injEq];exact ⟨fun k=>⟨k.2.1,k.1,k.2.2⟩,fun k=>⟨k.2.1,k.1,k.2.2⟩⟩
 unfold cmpIx
 rw [e]
 by_cases c:cmpS a.From b.From=0
 ·by_cases d:cmpLf a.Lin b.Lin=0
  ·rw [if_pos c,if_pos d,h];exact ⟨fun k=>⟨(zJn _ _).1 c,(zGx _ _).1 d,k⟩,fun k=>k.2.2⟩
  ·rw [if_pos c,if_neg d];exact ⟨fun k=>absurd k d,fun k=>absurd ((zGx _ _).2 k.2.1) d⟩
 ·rw [if_neg c];exact ⟨fun k=>absurd k c,fun k=>absurd ((zJn _ _).2 k.1) c⟩
theorem cmpTy_zero (a b:Ty):cmpTy a b=0↔a=b:=by
 obtain ⟨a1,a2,a3,a4,a5⟩:=a
 obtain ⟨b1,b2,b3,b4,b5⟩:=b
 unfold cmpTy
 rw [orI_zero]
 simp only [List.mem_cons,List.not_mem_nil,or_false,forall_eq_or_imp,forall_eq,zGk,Ty.mk.injEq]
theorem cmpHd_zero (a b:Ex):cmpHd a b=0↔a.Op=b.Op/\a.Name=b.Name/\a.Val=b.Val/\a.Ty=b.Ty/\a.Lin=b.Lin:=by
 unfold cmpHd
 rw [orI_zero]
 simp only [List.mem_cons,List.not_mem_nil,or_false,forall_eq_or_imp,forall_eq,zGk,zJn,cmpTy_zero,zGx]
 cases hv:a.Val
 cases hw:b.Val
 simp only [Vl.mk.injEq]
 constructor
 ·rintro ⟨h1,h2,h3,h4,h5⟩;exact ⟨h1,h2,⟨h3,h4⟩,h5⟩
 ·rintro ⟨h1,h2,⟨h3,h4⟩,h5⟩;exact ⟨h1,h2,h3,h4,h5⟩
theorem cmpE_zero (a:Ex):∀b:Ex,cmpE a b=0↔a=b:=by
 induction a using Ex.ind with
 |_ a ih=>
  intro b
  rw [cmpE_eq,Ex.eq_iff]
  have h1:=cmpHd_zero a b
  have h2:=zKs (f:=cmpIx) a.Idx b.Idx fun x _ y=>cmpIx_zero x y
  have h3:=zKs (f:=cmpE) a.Args b.Args ih
  by_cases c:cmpHd a b=0
  ·by_cases d:cmpLs cmpIx a.Idx b.Idx=0
   ·rw [if_pos c,if_pos d,h3]
    obtain ⟨k1,k2,k3,k4,k5⟩:=h1.1 c
    have k6:=h2.1 d
    exact ⟨fun k=>⟨k1,k2,k3,k4,k5,k6,k⟩,fun k=>k.2.2.2.2.2.2⟩
   ·rw [if_pos c,if_neg d]
    exact ⟨fun k=>absurd k d,fun k=>absurd (h2.2 k.2.2.2.2.2.1) d⟩
  ·rw [if_neg c]
   exact ⟨fun k=>absurd k c,fun k=>absurd (h1.2 ⟨k.1,k.2.1,k.2.2.1,k.2.2.2.1,k.2.2.2.2.1⟩) c⟩
/-! ## Steps of the walks -/
section steps
variable {α:Type} {f:α->α->Int} {a b:List α} {k:Nat} {x y:α}
theorem zMl (h:a[k]? =some x) (hb:¬k<b.length):cmpL f (a.drop k) (b.drop k)=1:=by rw [qZ h,wM hb];rfl
theorem cmpL_ne (h:a[k]? =some x) (hy:b[k]? =some y) (c:¬f x y=0):cmpL f (a.drop k) (b.drop k)=f x y:=by rw [qZ h,qZ hy,cmpL,if_neg c]
theorem zJo (h:a[k]? =some x) (hy:b[k]? =some y) (c:f x y=0):cmpL f (a.drop k) (b.drop k)=cmpL f (a.drop (k+1)) (b.drop (k+1)):=by rw [qZ h,qZ hy,cmpL,if_pos c]
theorem zJp (h:¬k<a.length) (hb:k<b.length):cmpL f (a.drop k) (b.drop k)= -1:=by
 rw [wM h]
 cases hd:b.drop k with
 |nil=>have:=congrArg List.length hd;simp at this;omega
 |cons _ _=>rfl
theorem zMm (h:¬k<a.length) (hb:¬k<b.length):cmpL f (a.drop k) (b.drop k)=0:=by rw [wM h,wM hb];rfl
end steps
theorem cmpI_lt {a b:Int} (h:a<b):cmpI a b= -1:=if_pos h
theorem cmpI_gt {a b:Int} (h:b<a):cmpI a b=1:=by unfold cmpI;rw [if_neg (by omega),if_pos h]
theorem cmpI_eq {a b:Int} (h:¬a<b) (h2:¬b<a):cmpI a b=0:=by unfold cmpI;rw [if_neg h,if_neg h2]
theorem orI_at {l:List Int} {k:Nat} {x:Int} (h:l[k]? =some x) (hx:¬x=0):orI (l.drop k)=x:=by rw [qZ h,orI,if_neg hx]
theorem orI_next {l:List Int} {k:Nat} {x:Int} (h:l[k]? =some x) (hx:x=0):orI (l.drop k)=orI (l.drop (k+1)):=by rw [qZ h,orI,if_pos hx]
theorem strings_Compare (a b:ByteArray):Pur cfg 265 [vS a,vS b] (vI (cmpS a b)):=by
 intro w I vs hH ha
 match vs,ha with
 |[v,u],ha=>
  obtain ⟨h1,h2,_⟩:=ha
  have e1:v=.string a:=by cases (h1:CRep w I (cS a) v) with|lit _ _=>rfl
  have e2:u=.string b:=by cases (h2:CRep w I (cS b) u) with|lit _ _=>rfl
  subst e1 e2
  refine (Tryz.strings_Compare a b w).mono ?_
  rintro e w' ⟨rfl,rfl⟩
  exact ⟨_,_,[],I,rfl,rfl,CRep.lit _ rfl,hH,Ext.refl _ _ _⟩
end Go.Br
end
