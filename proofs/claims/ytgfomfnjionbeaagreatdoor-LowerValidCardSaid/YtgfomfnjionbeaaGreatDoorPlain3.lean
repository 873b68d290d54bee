/-
  Loop nests,in plain Lean: buffers,statements,and the cells that hold them.
  What the check of a nest says (30.1),in plain Lean.
  Weights of nests,in plain Lean.
  For the reference's check of nests,in plain Lean.
  Lifetimes as plain data,and what the functions of the layer compute.
  Layer 41 in plain Lean: what statements touch; the spans of buffers.
  Nests walked and mapped,in plain Lean (30.2,30.3).
  Paths in nests,in plain Lean (30.2).
  Names that are not in use,in plain Lean (30.2): numerals,and the first number that is free.
  A loop renamed to a name that is not in use,in plain Lean (30.3,30.5).
  Conditions: none.
-/
import Derived.Test.YtgfomfnjionbeaaGreatDoorPlain
import Derived.Test.YtgfomfnjionbeaaGreatDoorNames
import Derived.Test.YtgfomfnjionbeaaGreatDoorPlain2
set_option linter.unusedSimpArgs false
set_option linter.unusedVariables false
section
namespace Go.Br
open Go Go.Eng Go.L41
structure Bf where
 Name:ByteArray
 T:Ty
 Dims:List Int
 Use:Int
 deriving DecidableEq
inductive St where
 |mk (op:Int) (name:ByteArray) (many tM fold:Int) (idx:List Ix) (ex:Ex) (body:List St)
namespace St
def Op:St->Int|mk x _ _ _ _ _ _ _=>x
def Name:St->ByteArray|mk _ x _ _ _ _ _ _=>x
def Many:St->Int|mk _ _ x _ _ _ _ _=>x
def Mark:St->Int|mk _ _ _ x _ _ _ _=>x
def Fold:St->Int|mk _ _ _ _ x _ _ _=>x
def Idx:St->List Ix|mk _ _ _ _ _ x _ _=>x
def E:St->Ex|mk _ _ _ _ _ _ x _=>x
def Body:St->List St|mk _ _ _ _ _ _ _ x=>x
theorem ind {P:St->Prop} (h:∀s:St,(∀a,a∈s.Body->P a)->P s) (s:St):P s:=
 St.rec (motive_1:=P) (motive_2:=fun l=>∀a,a∈l->P a) (fun o n m k f i e b ih=>h (mk o n m k f i e b) ih) (fun a h=>by cases h)
  (fun x l hx hl a ha=>by rcases List.mem_cons.1 ha with rfl|ha;exact hx;exact hl a ha) s
end St
structure Ns where
 Bufs:List Bf
 Body:List St
def Bf.cells (b:Bf):List C:=[cS b.Name,cI b.T.Kind,cI b.T.Bits,cI b.T.Frac,cI b.T.Round,cI b.T.Over,.sl 1 (b.Dims.map fun n=>[cI n]),cI b.Use]
mutual
def St.cells:St->List C
 |.mk o n m k f i e b=>[cI o,cS n,cI m,cI k,cI f,.sl 4 (i.map Ix.cells)]++e.cs++[.sl 20 (pW b)]
def pW:List St->List (List C)
 |[]=>[]
 |s::r=>s.cells::pW r
end
theorem stCellsL_eq (l:List St):pW l=l.map St.cells:=by
 induction l with
 |nil=>rfl
 |cons s r ih=>rw [pW,ih];rfl
def St.cs (s:St):List C:=[cI s.Op,cS s.Name,cI s.Many,cI s.Mark,cI s.Fold,.sl 4 (s.Idx.map Ix.cells),
 cI s.E.Op,cS s.E.Name,cI s.E.Val.N,cI s.E.Val.D,cI s.E.Ty.Kind,cI s.E.Ty.Bits,cI s.E.Ty.Frac,cI s.E.Ty.Round,cI s.E.Ty.Over,cI s.E.Lin.K,.sl 2 (s.E.Lin.L.map Mono.cells),.sl 4 (s.E.Idx.map Ix.cells),.sl 13 (s.E.Args.map Ex.cells),.sl 20 (s.Body.map St.cells)]
theorem St.cells_eq (s:St):s.cells=s.cs:=by
 cases s;rw [St.cells,stCellsL_eq];rfl
def Ns.cells (n:Ns):List C:=[.sl 8 (n.Bufs.map Bf.cells),.sl 20 (n.Body.map St.cells)]
abbrev vBf (b:Bf):V:=.agg b.cells
abbrev vSt (s:St):V:=.agg s.cs
abbrev fP (l:List St):V:=.c (.sl 20 (l.map St.cells))
abbrev vNs (n:Ns):V:=.agg n.cells
abbrev vIs (l:List Int):V:=.c (.sl 1 (l.map fun n=>[cI n]))
abbrev eI (l:List Bf):V:=.c (.sl 8 (l.map Bf.cells))
theorem zJw {α:Type} {p:α->Bool} {l:List α} {k:Nat} {x:α} (h:l[k]? =some x) (hp:(l.take k).all p=true) (hx:p x=true):(l.take (k+1)).all p=true:=by
 rw [yB h,List.all_append,hp];simp [hx]
theorem zCq {l:List St} {k:Nat} {x:St} (h:l[k]? =some x):(l.map St.cells)[k]? =some x.cs:=by
 rw [getm h,St.cells_eq]
/-! ## Sizes -/
mutual
def St.wt:St->Nat
 |.mk _ _ _ _ _ i e b=>1+e.wt+i.length+dD i+bI b
def bI:List St->Nat
 |[]=>0
 |s::r=>s.wt+bI r
end
theorem St.wt_eq (s:St):s.wt=1+s.E.wt+s.Idx.length+dD s.Idx+bI s.Body:=by cases s;rw [St.wt];rfl
theorem zAt (l:List St):l.length<=bI l:=by
 induction l with
 |nil=>simp [bI]
 |cons y r ih=>rw [bI,List.length_cons];have:=y.wt_eq;omega
theorem zAb {l:List St} {a:St} (h:a∈l):a.wt<=bI l:=by
 induction l with
 |nil=>cases h
 |cons x r ih=>
  rw [bI]
  exact v19
theorem St.wt_pos (s:St):1<=s.wt:=by rw [St.wt_eq];omega
theorem zIl:∀(a b:List St),bI (a++b)=bI a+bI b
 |[],b=>by simp [bI]
 |x::r,b=>by rw [List.cons_append,bI,bI,zIl r b];omega
theorem St.body_wt (s:St):bI s.Body<s.wt:=by rw [St.wt_eq s];omega
theorem St.parts {s:St} {B:Nat} (h:s.wt<=B):s.E.wt<=B/\s.Idx.length<=B/\dD s.Idx<=B/\s.Body.length<=B/\bI s.Body<=B:=by
 rw [St.wt_eq] at h
 have:=zAt s.Body
 omega
def rdE (s:St):Ex:=.mk 3 s.Name ⟨0,0⟩ ⟨0,0,0,0,0⟩ ⟨0,[]⟩ s.Idx []
theorem rdE_wt (s:St):(rdE s).wt<=s.wt+1:=by
 rw [Ex.wt_eq,St.wt_eq];simp only [rdE,Ex.Lin,Ex.Idx,Ex.Args,dS,List.length_nil];omega
/-! ## Shapes (11.1) -/
def rL (n:Int):Bool:=decide (1<=n)
def bJ:Int->List Int->Option Int
 |s,[]=>some s
 |s,n::r=>if 4096<s*n then none else bJ (s*n) r
def gH (d:List Int):Int:=if 6<d.length then 2 else if d.all rL=true then (if (bJ 1 d).isSome=true then 0 else 2) else 1
theorem dims_long {d:List Int} (h:6<d.length):gH d=2:=by unfold gH;rw [if_pos h]
theorem dims_neg {d:List Int} {k:Nat} {n:Int} (h:¬6<d.length) (hn:d[k]? =some n) (h2:n<1):gH d=1:=by
 unfold gH
 rw [if_neg h,if_neg (by rw [zQg hn (p:=rL) (by unfold rL;exact decide_eq_false zC)];simp)]
theorem zTx {d:List Int} (h:¬6<d.length) (h1:d.all rL=true) (h2:bJ 1 d=none):gH d=2:=by
 unfold gH;rw [if_neg h,if_pos h1,h2];rfl
theorem dims_ok {d:List Int} {s:Int} (h:¬6<d.length) (h1:d.all rL=true) (h2:bJ 1 d=some s):gH d=0:=by
 unfold gH;rw [if_neg h,if_pos h1,h2];rfl
theorem size_next {d:List Int} {k:Nat} {n s:Int} (h:d[k]? =some n) (hs:bJ 1 d=bJ s (d.drop k)) (h2:¬4096<s*n):bJ 1 d=bJ (s*n) (d.drop (k+1)):=by
 rw [hs,qO h,bJ,if_neg h2]
theorem zSe {d:List Int} {k:Nat} {n s:Int} (h:d[k]? =some n) (hs:bJ 1 d=bJ s (d.drop k)) (h2:4096<s*n):bJ 1 d=none:=by
 rw [hs,qO h,bJ,if_pos h2]
theorem size_done {d:List Int} {k:Nat} {s:Int} (hs:bJ 1 d=bJ s (d.drop k)) (h:¬k<d.length):bJ 1 d=some s:=by
 rw [hs,kJ h];rfl
theorem quo_lt {s n:Int} (h:1<=s):Int.tdiv 4096 s<n↔4096<s*n:=by
 rw [Int.tdiv_eq_ediv_of_nonneg zC,Int.ediv_lt_iff_lt_mul zC,Int.mul_comm]
theorem quo_wrap {s:Int} (h:1<=s):IntKind.i64.wrap (Int.tdiv 4096 s)=Int.tdiv 4096 s:=by
 have h1:Int.tdiv 4096 s=4096/s:=Int.tdiv_eq_ediv_of_nonneg zC
 have h2:0<=(4096:Int)/s:=Int.ediv_nonneg zC zC
 have h3:(4096:Int)/s<=4096:=Int.ediv_le_self _ zC
 exact zIk ⟨zC,zC⟩
theorem quo_t {s n:Int} (h:1<=s) (c:IntKind.i64.wrap (Int.tdiv 4096 s)<n):4096<s*n:=by rw [quo_wrap h] at c;exact (quo_lt h).1 c
theorem quo_f {s n:Int} (h:1<=s) (c:¬IntKind.i64.wrap (Int.tdiv 4096 s)<n):¬4096<s*n:=by rw [quo_wrap h] at c;exact fun k=>c ((quo_lt h).2 k)
theorem zKb {d:List Int} {k:Nat} {n:Int} (h:d.all rL=true) (hn:d[k]? =some n):1<=n:=by
 have:=(List.all_eq_true.1 h) n (qC hn)
 simpa [rL] using this
theorem zMk {s n:Int} (h:1<=s) (h2:1<=n):1<=s*n/\n<=s*n:=by
 have h3:1*n<=s*n:=Int.mul_le_mul_of_nonneg_right h zC
 omega
def zBf:Bf:=⟨bs [],zTy,[],0⟩
def fH (l:List Bf) (s:ByteArray):Bool:=l.any fun b=>decide (b.Name=s)
def gO:List Bf->ByteArray->Bf
 |[],_=>zBf
 |b::r,s=>if b.Name=s then b else gO r s
theorem bufD_at {l:List Bf} {k:Nat} {b:Bf} {s:ByteArray} (h:l[k]? =some b) (hb:b.Name=s):gO (l.drop k) s=b:=by rw [qO h,gO,if_pos hb]
theorem bufD_next {l:List Bf} {k:Nat} {b:Bf} {s:ByteArray} (h:l[k]? =some b) (hb:¬b.Name=s):gO (l.drop k) s=gO (l.drop (k+1)) s:=by rw [qO h,gO,if_neg hb]
theorem hasBf_at {l:List Bf} {k:Nat} {b:Bf} {s:ByteArray} (h:l[k]? =some b) (hb:b.Name=s):fH l s=true:=by
 unfold fH;rw [List.any_eq_true];exact ⟨b,qC h,decide_eq_true hb⟩
theorem zOw {l:List Bf} {k:Nat} {b:Bf} {s:ByteArray} (h:l[k]? =some b) (hp:fH (l.take k) s=false) (hb:¬b.Name=s):fH (l.take (k+1)) s=false:=by
 unfold fH at *;rw [yB h,List.any_append,hp];simp [hb]
theorem hasBf_lt {l:List Bf} {j k:Nat} {b:Bf} {s:ByteArray} (h:l[j]? =some b) (hj:j<k) (hb:b.Name=s):fH (l.take k) s=true:=by
 have:(l.take k)[j]? =some b:=by rw [List.getElem?_take];simp [hj,h]
 exact hasBf_at this hb
theorem bufD_no:∀{l:List Bf} {s:ByteArray},fH l s=false->gO l s=zBf
 |[],_,_=>rfl
 |b::r,s,h=>by
  simp only [fH,List.any_cons,Bool.or_eq_false_iff,decide_eq_false_iff_not] at h
  rw [gO,if_neg h.1];exact bufD_no h.2
def lR (seen:List Bf) (b:Bf):Int:=
 if bC b.Name=true then (if fH seen b.Name=true then 8 else if dV b.T=true then (if gH b.Dims=0 then (if b.Use<1∨3<b.Use then 1 else 0) else gH b.Dims) else 10) else 7
def dM:List Bf->List Bf->Int
 |_,[]=>0
 |seen,b::r=>if lR seen b=0 then dM (seen++[b]) r else lR seen b
theorem bfErr_7 {seen:List Bf} {b:Bf} (h:bC b.Name=false):lR seen b=7:=by unfold lR;rw [if_neg (by rw [h];simp)]
theorem bfErr_8 {seen:List Bf} {b:Bf} (h:bC b.Name=true) (h2:fH seen b.Name=true):lR seen b=8:=by unfold lR;rw [if_pos h,if_pos h2]
theorem zRk {seen:List Bf} {b:Bf} (h:bC b.Name=true) (h2:fH seen b.Name=false) (h3:dV b.T=false):lR seen b=10:=by unfold lR;rw [if_pos h,if_neg (by rw [h2];simp),if_neg (by rw [h3];simp)]
theorem bfErr_d {seen:List Bf} {b:Bf} (h:bC b.Name=true) (h2:fH seen b.Name=false) (h3:dV b.T=true) (h4:¬gH b.Dims=0):lR seen b=gH b.Dims:=by unfold lR;rw [if_pos h,if_neg (by rw [h2];simp),if_pos h3,if_neg h4]
theorem bfErr_u {seen:List Bf} {b:Bf} (h:bC b.Name=true) (h2:fH seen b.Name=false) (h3:dV b.T=true) (h4:gH b.Dims=0) (h5:b.Use<1∨3<b.Use):lR seen b=1:=by unfold lR;rw [if_pos h,if_neg (by rw [h2];simp),if_pos h3,if_pos h4,if_pos h5]
theorem bfErr_0 {seen:List Bf} {b:Bf} (h:bC b.Name=true) (h2:fH seen b.Name=false) (h3:dV b.T=true) (h4:gH b.Dims=0) (h5:¬(b.Use<1∨3<b.Use)):lR seen b=0:=by unfold lR;rw [if_pos h,if_neg (by rw [h2];simp),if_pos h3,if_pos h4,if_neg h5]
theorem zQf {l:List Bf} {k:Nat} {b:Bf} (h:l[k]? =some b) (hp:dM [] l=dM (l.take k) (l.drop k)) (hb:lR (l.take k) b=0):dM [] l=dM (l.take (k+1)) (l.drop (k+1)):=by
 rw [hp,qO h,dM,if_pos hb,yB h]
theorem zBk {l:List Bf} {k:Nat} {b:Bf} (h:l[k]? =some b) (hp:dM [] l=dM (l.take k) (l.drop k)) (hb:¬lR (l.take k) b=0):dM [] l=lR (l.take k) b:=by
 rw [hp,qO h,dM,if_neg hb]
theorem zUi {l:List Bf} {k:Nat} (hp:dM [] l=dM (l.take k) (l.drop k)) (h:¬k<l.length):dM [] l=0:=by
 rw [hp,kJ h];rfl
/-! ## Depth and number of statements -/
def dK:Nat->List St->Bool
 |0,l=>l.isEmpty
 |n+1,l=>l.all fun s=>dK n s.Body
def mF:Nat->List St->Int
 |0,_=>0
 |n+1,l=>l.foldl (fun d s=>max d (1+mF n s.Body)) 0
theorem depF_ge {f:St->Int}:∀(l:List St) (d:Int),d<=l.foldl (fun d s=>max d (1+f s)) d
 |[],d=>Int.le_refl _
 |x::r,d=>by have:=depF_ge (f:=f) r (max d (1+f x));rw [List.foldl_cons];omega
theorem zRg {f:St->Int} {m:Int}:∀(l:List St) (d:Int),l.foldl (fun d s=>max d (1+f s)) d<=m↔d<=m/\∀s,s∈l->1+f s<=m
 |[],d=>by simp
 |x::r,d=>by
  rw [List.foldl_cons,zRg r]
  constructor
  ·rintro ⟨h1,h2⟩
   refine ⟨zC,fun s hs=>?_⟩
   rcases List.mem_cons.1 hs with rfl|hs
   ·omega
   ·exact h2 s hs
  ·rintro ⟨h1,h2⟩
   have:=h2 x uG
   exact ⟨zC,fun s hs=>h2 s (by simp [hs])⟩
theorem zHt:∀(n:Nat) (l:List St),mF (n+1) l<=n↔dK n l=true
 |0,l=>by
  rw [mF,zRg]
  cases l with
  |nil=>simp [dK]
  |cons x r=>
   simp only [dK,List.isEmpty_cons,Bool.false_eq_true,iff_false,not_and]
   intro _ h
   have:=h x uG
   simp only [mF] at this;omega
 |n+1,l=>by
  rw [mF,zRg,dK,List.all_eq_true]
  constructor
  ·rintro ⟨_,h⟩ s hs
   have:=h s hs
   exact (zHt n s.Body).1 zC
  ·intro h
   refine ⟨zC,fun s hs=>?_⟩
   have:=(zHt n s.Body).2 (h s hs)
   omega
theorem depS_le:∀(n:Nat) (l:List St),0<=mF n l/\mF n l<=n
 |0,l=>by simp [mF]
 |n+1,l=>by
  rw [mF]
  refine ⟨depF_ge l 0,(zRg l 0).2 ⟨zC,fun s _=>?_⟩⟩
  have:=depS_le n s.Body;omega
mutual
def stN:St->Nat
 |.mk _ _ _ _ _ _ _ b=>1+dN b
def dN:List St->Nat
 |[]=>0
 |s::r=>stN s+dN r
end
def sD (n:Nat) (l:List St):Bool:=dK n l
theorem withinG_eq (n:Nat) (l:List St):sD n l=dK n l:=rfl
theorem withinG_next {n:Nat} {l:List St} {k:Nat} {s:St} (h:l[k]? =some s) (hp:sD n (l.take k)=true) (hn:1<=n) (hs:dK (n-1) s.Body=true):sD n (l.take (k+1))=true:=by
 obtain ⟨m,rfl⟩:∃m,n=m+1:=⟨n-1,zC⟩
 exact zJw h hp hs
theorem within_no {n:Nat} {l:List St} {k:Nat} {s:St} {x:Int} (h:l[k]? =some s) (hx:x=n) (c:(decide (x<1)|| !dK (n-1) s.Body)=true):dK n l=false:=by
 cases n with
 |zero=>cases l with
  |nil=>simp at h
  |cons a r=>rfl
 |succ n=>
  have:dK n s.Body=false:=by
   rw [Bool.or_eq_true] at c
   rcases c with c|c
   ·rw [decide_eq_true_eq] at c;omega
   ·simpa using c
  exact zQg h this
theorem within_yes {n:Nat} {s:St} {x:Int} (hx:x=n) (c:(decide (x<1)|| !dK (n-1) s.Body)=false):1<=n/\dK (n-1) s.Body=true:=by
 rw [Bool.or_eq_false_iff] at c
 refine ⟨?_,by simpa using c.2⟩
 have:=c.1;rw [decide_eq_false_iff_not] at this;omega
theorem depS_next {n:Nat} {l:List St} {k:Nat} {s:St} (h:l[k]? =some s) (hn:1<=n):mF n (l.take (k+1))=max (mF n (l.take k)) (1+mF (n-1) s.Body):=by
 obtain ⟨m,rfl⟩:∃m,n=m+1:=⟨n-1,zC⟩
 rw [yB h,mF,List.foldl_append];rfl
theorem depS_stop {n:Nat} {l:List St} {k:Nat} {x d:Int} (hx:x=n) (hd:d=mF n (l.take k)) (c:l.length<=k∨x<=0):d=mF n l:=by
 by_cases h0:n=0
 ·subst h0;rw [hd];rfl
 ·rw [hd,yD zC]
theorem zPp (s:St):stN s=1+dN s.Body:=by cases s;rw [stN];rfl
theorem zRx:∀(a b:List St),dN (a++b)=dN a+dN b
 |[],b=>by simp [dN]
 |x::r,b=>by rw [List.cons_append,dN,dN,zRx r b];omega
theorem zEr:∀l:List St,l.length<=dN l
 |[]=>by simp [dN]
 |x::r=>by have:=zEr r;have:=zPp x;rw [dN,List.length_cons];omega
mutual
theorem stN_wt:∀s:St,stN s<=s.wt
 |.mk o n m k f i e b=>by rw [stN,St.wt];have:=stsN_wt b;omega
theorem stsN_wt:∀l:List St,dN l<=bI l
 |[]=>by simp [dN,bI]
 |s::r=>by rw [dN,bI];have:=stN_wt s;have:=stsN_wt r;omega
end
mutual
def sO:St->Nat->Nat
 |.mk _ _ _ _ _ _ _ b,m=>mB b m b.length
def mB:List St->Nat->Nat->Nat
 |[],_,n=>n
 |s::r,m,n=>if n<=m then mB r m (n+sO s (m-n)) else n
end
def lU (l:List St) (m:Nat):Nat:=mB l m l.length
theorem numS_eq (s:St) (m:Nat):sO s m=lU s.Body m:=by cases s;rw [sO];rfl
mutual
theorem numS_le:∀(s:St) (m:Nat),sO s m<=stN s-1
 |.mk _ _ _ _ _ _ _ b,m=>by
  rw [sO,stN]
  have h1:=numL_le b m b.length
  have h2:=zEr b
  omega
theorem numL_le:∀(l:List St) (m n:Nat),mB l m n<=n+(dN l-l.length)
 |[],m,n=>by simp [mB]
 |s::r,m,n=>by
  rw [mB]
  have h3:=zEr r
  have h4:=zPp s
  split
  ·have h1:=numL_le r m (n+sO s (m-n))
   have h2:=numS_le s (m-n)
   rw [dN,List.length_cons];omega
  ·rw [dN,List.length_cons];omega
end
theorem numB_le (l:List St) (m:Nat):lU l m<=dN l:=by
 have h1:=numL_le l m l.length
 have h2:=zEr l
 unfold lU;omega
theorem numL_ge:∀(l:List St) (m n:Nat),n<=mB l m n
 |[],m,n=>by rw [mB];omega
 |s::r,m,n=>by
  rw [mB];split
  ·have:=numL_ge r m (n+sO s (m-n));omega
  ·omega
mutual
theorem numS_ok:∀(s:St) (m:Nat),sO s m<=m->sO s m=stN s-1
 |.mk _ _ _ _ _ _ _ b,m,h=>by
  rw [sO] at h⊢
  rw [stN,numL_ok b m _ h]
  have:=zEr b;omega
theorem numL_ok:∀(l:List St) (m n:Nat),mB l m n<=m->mB l m n=n+(dN l-l.length)
 |[],m,n,h=>by simp [mB,dN]
 |s::r,m,n,h=>by
  have h3:=zEr r
  have h4:=zPp s
  by_cases hn:n<=m
  ·rw [mB,if_pos hn] at h⊢
   have h5:=numL_ge r m (n+sO s (m-n))
   have h6:=numS_ok s (m-n) zC
   rw [numL_ok r m _ h,h6,dN,List.length_cons];omega
  ·rw [mB,if_neg hn] at h;omega
end
theorem numB_ok {l:List St} {m:Nat} (h:lU l m<=m):dN l=lU l m:=by
 have h2:=zEr l
 unfold lU at *
 rw [numL_ok l m _ h];omega
theorem num_next {l:List St} {k m n N:Nat} {s:St} (h:l[k]? =some s) (hp:N=mB (l.drop k) m n) (hn:n<=m):N=mB (l.drop (k+1)) m (n+lU s.Body (m-n)):=by
 rw [hp,qO h,mB,if_pos hn,numS_eq]
theorem num_end {l:List St} {k m n N:Nat} (hp:N=mB (l.drop k) m n) (h:l.length<=k∨m<n):n=N:=by
 rw [hp]
 by_cases hk:k<l.length
 ·obtain ⟨a,ha⟩:=qV l k hk
  rw [qO ha,mB,if_neg zC]
 ·rw [kJ hk,mB]
theorem zQv {l:List St} {s:St} (h:s∈l):stN s<=dN l:=by
 induction l with
 |nil=>cases h
 |cons x r ih=>
  rw [dN]
  exact v19
theorem stsN_drop {l:List St} {k:Nat} {s:St} (h:l[k]? =some s):dN (l.drop k)=stN s+dN (l.drop (k+1)):=by rw [qO h,dN]
theorem num_sum {l:List St} {k m n:Nat} {s:St} (h:l[k]? =some s) (hp:lU l m=mB (l.drop k) m n) (hn:n<=m):n+lU s.Body (m-n)<=n+dN l:=by
 have h1:=numB_le s.Body (m-n)
 have h2:dN l=dN (l.take k)+(stN s+dN (l.drop (k+1))):=by
  rw [←dN,←qO h,←zRx,List.take_append_drop]
 have:=zPp s
 omega
end Go.Br
end
section
namespace Go.Br
open Go Go.Eng Go.L41
/-! ## Names of a node -/
def mI (sc:List ByteArray) (l:Lf):Bool:=l.L.all fun m=>bQ sc m.Name
def cN (sc:List ByteArray) (x:Ix):Bool:=mI sc x.Lin&&x.At.all (mI sc)
def lV (sc:List ByteArray) (e:Ex):Bool:=mI sc e.Lin&&e.Idx.all (cN sc)
def mC (B:List Bf) (x:Ix):Int:=
 if x.From=bs [] then 0 else if fH B x.From=true then (if (gO B x.From).T.Kind=3 then (if (gO B x.From).Dims.length=x.At.length then 0 else 11) else 10) else 9
def nL (B:List Bf):List Ix->Int
 |[]=>0
 |x::r=>if mC B x=0 then nL B r else mC B x
def jS (B:List Bf) (sc:List ByteArray) (e:Ex):Int:=
 if lV sc e=true then (if e.Op=3 then (if fH B e.Name=true then (if (gO B e.Name).Dims.length=e.Idx.length then nL B e.Idx else 11) else 9) else 0) else 9
def dF (B:List Bf) (sc:List ByteArray):List Ex->Int
 |[]=>0
 |e::r=>if jS B sc e=0 then dF B sc r else jS B sc e
theorem gathE_0 {B:List Bf} {x:Ix} (h:x.From=bs []):mC B x=0:=by unfold mC;rw [if_pos h]
theorem gathE_9 {B:List Bf} {x:Ix} (h:¬x.From=bs []) (h1:fH B x.From=false):mC B x=9:=by unfold mC;rw [if_neg h,if_neg (by rw [h1];simp)]
theorem zRb {B:List Bf} {x:Ix} (h:¬x.From=bs []) (h1:fH B x.From=true) (h2:¬(gO B x.From).T.Kind=3):mC B x=10:=by unfold mC;rw [if_neg h,if_pos h1,if_neg h2]
theorem zRa {B:List Bf} {x:Ix} (h:¬x.From=bs []) (h1:fH B x.From=true) (h2:(gO B x.From).T.Kind=3) (h3:¬(gO B x.From).Dims.length=x.At.length):mC B x=11:=by unfold mC;rw [if_neg h,if_pos h1,if_pos h2,if_neg h3]
theorem zQz {B:List Bf} {x:Ix} (h:¬x.From=bs []) (h1:fH B x.From=true) (h2:(gO B x.From).T.Kind=3) (h3:(gO B x.From).Dims.length=x.At.length):mC B x=0:=by unfold mC;rw [if_neg h,if_pos h1,if_pos h2,if_pos h3]
theorem zKi {B:List Bf} {l:List Ix} {k:Nat} {x:Ix} (h:l[k]? =some x) (hx:mC B x=0):nL B (l.drop k)=nL B (l.drop (k+1)):=by rw [qO h,nL,if_pos hx]
theorem zKh {B:List Bf} {l:List Ix} {k:Nat} {x:Ix} (h:l[k]? =some x) (hx:¬mC B x=0):nL B (l.drop k)=mC B x:=by rw [qO h,nL,if_neg hx]
theorem nodeN_9 {B:List Bf} {sc:List ByteArray} {e:Ex} (h:lV sc e=false):jS B sc e=9:=by unfold jS;rw [if_neg (by rw [h];simp)]
theorem nodeN_o {B:List Bf} {sc:List ByteArray} {e:Ex} (h:lV sc e=true) (h1:¬e.Op=3):jS B sc e=0:=by unfold jS;rw [if_pos h,if_neg h1]
theorem nodeN_n {B:List Bf} {sc:List ByteArray} {e:Ex} (h:lV sc e=true) (h1:e.Op=3) (h2:fH B e.Name=false):jS B sc e=9:=by unfold jS;rw [if_pos h,if_pos h1,if_neg (by rw [h2];simp)]
theorem nodeN_r {B:List Bf} {sc:List ByteArray} {e:Ex} (h:lV sc e=true) (h1:e.Op=3) (h2:fH B e.Name=true) (h3:¬(gO B e.Name).Dims.length=e.Idx.length):jS B sc e=11:=by unfold jS;rw [if_pos h,if_pos h1,if_pos h2,if_neg h3]
theorem zJb {B:List Bf} {sc:List ByteArray} {e:Ex} (h:lV sc e=true) (h1:e.Op=3) (h2:fH B e.Name=true) (h3:(gO B e.Name).Dims.length=e.Idx.length):jS B sc e=nL B e.Idx:=by unfold jS;rw [if_pos h,if_pos h1,if_pos h2,if_pos h3]
theorem zHh (B:List Bf) (sc:List ByteArray):∀(a b:List Ex),dF B sc (a++b)=if dF B sc a=0 then dF B sc b else dF B sc a
 |[],b=>by simp [dF]
 |x::r,b=>by
  rw [List.cons_append,dF,dF,zHh B sc r b]
  by_cases h:jS B sc x=0
  ·rw [if_pos h,if_pos h]
  ·rw [if_neg h,if_neg h,if_neg h]
theorem zOj {B:List Bf} {sc:List ByteArray} {pre:List Ex} {x:Ex} (h:dF B sc pre=0):dF B sc (pre++[x])=jS B sc x:=by
 rw [zHh,if_pos h,dF,dF]
 by_cases hx:jS B sc x=0
 ·rw [if_pos hx,hx]
 ·rw [if_neg hx]
theorem nodesN_pre {B:List Bf} {sc:List ByteArray} {pre suf:List Ex} {x:Ex} (h:¬dF B sc (pre++[x])=0):dF B sc (pre++x::suf)=dF B sc (pre++[x]):=by
 rw [show pre++x::suf=(pre++[x])++suf by simp,zHh,if_neg h]
theorem nodesN_at {B:List Bf} {sc:List ByteArray} {l:List Ex} {k:Nat} {x:Ex} (h:l[k]? =some x) (hx:jS B sc x=0):dF B sc (l.drop k)=dF B sc (l.drop (k+1)):=by rw [qO h,dF,if_pos hx]
theorem nodesN_no {B:List Bf} {sc:List ByteArray} {l:List Ex} {k:Nat} {x:Ex} (h:l[k]? =some x) (hx:¬jS B sc x=0):dF B sc (l.drop k)=jS B sc x:=by rw [qO h,dF,if_neg hx]
/-! ## Types -/
def tyF (B:List Bf) (e:Ex) (l:List Ty):Ty×Int:=
 if e.Op=1∨e.Op=12 then (e.Ty,0) else
 if e.Op=2 then (iTy,0) else
 if e.Op=3 then ((gO B e.Name).T,0) else
 if e.Op=8 then (bS l 0,0) else
 if e.Op=16∨e.Op=17∨e.Op=18 then (zTy,0) else
 if bS l (l.length-2)=bS l (l.length-1) then (if bO e=true then (zTy,0) else (bS l (l.length-1),0)) else (zTy,10)
theorem zBw {B:List Bf} {e:Ex} {l:List Ty} (h:e.Op=1∨e.Op=12):tyF B e l=(e.Ty,0):=by unfold tyF;rw [if_pos h]
theorem zCe {B:List Bf} {e:Ex} {l:List Ty} (h:e.Op=2):tyF B e l=(iTy,0):=by unfold tyF;rw [if_neg zC,if_pos h]
theorem zBv {B:List Bf} {e:Ex} {l:List Ty} (h:e.Op=3):tyF B e l=((gO B e.Name).T,0):=by unfold tyF;rw [if_neg zC,if_neg zC,if_pos h]
theorem zCd {B:List Bf} {e:Ex} {l:List Ty} (h:e.Op=8):tyF B e l=(bS l 0,0):=by unfold tyF;rw [if_neg zC,if_neg zC,if_neg zC,if_pos h]
theorem wX {B:List Bf} {e:Ex} {l:List Ty} (h:e.Op=16∨e.Op=17∨e.Op=18):tyF B e l=(zTy,0):=by unfold tyF;rw [if_neg zC,if_neg zC,if_neg zC,if_neg zC,if_pos h]
abbrev jB (o:Int):Prop:=o=1∨o=12∨o=2∨o=3∨o=8∨o=16∨o=17∨o=18
theorem tyF_o {B:List Bf} {e:Ex} {l:List Ty} (h:¬jB e.Op):tyF B e l=if bS l (l.length-2)=bS l (l.length-1) then (if bO e=true then (zTy,0) else (bS l (l.length-1),0)) else (zTy,10):=by
 unfold jB at h;unfold tyF;rw [if_neg zC,if_neg zC,if_neg zC,if_neg zC,if_neg zC]
theorem wY {B:List Bf} {e:Ex} {l:List Ty} (h:¬jB e.Op) (h2:¬bS l (l.length-2)=bS l (l.length-1)):tyF B e l=(zTy,10):=by rw [tyF_o h,if_neg h2]
theorem zCc {B:List Bf} {e:Ex} {l:List Ty} (h:¬jB e.Op) (h2:bS l (l.length-2)=bS l (l.length-1)) (h3:bO e=true):tyF B e l=(zTy,0):=by rw [tyF_o h,if_pos h2,if_pos h3]
theorem zBu {B:List Bf} {e:Ex} {l:List Ty} (h:¬jB e.Op) (h2:bS l (l.length-2)=bS l (l.length-1)) (h3:bO e=false):tyF B e l=(bS l (l.length-1),0):=by rw [tyF_o h,if_pos h2,if_neg (by rw [h3];simp)]
theorem tyF_zero {B:List Bf} {e:Ex} {l:List Ty} (h:¬(tyF B e l).2=0):(tyF B e l).1=zTy:=by
 unfold tyF at h⊢
 repeat' split at h<;>first|exact absurd rfl h|skip
 all_goals simp_all
theorem nodeT_zero {B:List Bf} {e:Ex} (h:¬(bL (tyF B) e).2=0):(bL (tyF B) e).1=zTy:=by
 rw [zKe] at h⊢
 split
 ·rename_i c
  rw [if_pos c] at h
  exact tyF_zero h
 ·rfl
def gS:List Ex->List Ty->List Ty
 |[],_=>[]
 |_::_,[]=>[]
 |a::r,t::ts=>if bO a=true then gS r ts else t::gS r ts
def kiF (B:List Bf) (e:Ex) (l:List Ty):Ty×Int:=
 if l.length=2/\¬bS l 0=bS l 1 then (zTy,10) else
 if e.Op=1∨e.Op=12 then (e.Ty,0) else
 if e.Op=2 then (iTy,0) else
 if e.Op=3 then ((gO B e.Name).T,0) else
 if bO e=true then (zTy,0) else (bS l 0,0)
def kiN (B:List Bf) (e:Ex) (l:List Ty):Ty×Int:=kiF B e (gS e.Args l)
theorem zGu {B:List Bf} {e:Ex} {l:List Ty} (h:l.length=2) (h2:¬bS l 0=bS l 1):kiF B e l=(zTy,10):=by unfold kiF;rw [if_pos ⟨h,h2⟩]
theorem zOv {B:List Bf} {e:Ex} {l:List Ty} (h:¬(l.length=2/\¬bS l 0=bS l 1)) (h1:e.Op=1∨e.Op=12):kiF B e l=(e.Ty,0):=by unfold kiF;rw [if_neg h,if_pos h1]
theorem zQm {B:List Bf} {e:Ex} {l:List Ty} (h:¬(l.length=2/\¬bS l 0=bS l 1)) (h1:e.Op=2):kiF B e l=(iTy,0):=by unfold kiF;rw [if_neg h,if_neg zC,if_pos h1]
theorem zQl {B:List Bf} {e:Ex} {l:List Ty} (h:¬(l.length=2/\¬bS l 0=bS l 1)) (h1:e.Op=3):kiF B e l=((gO B e.Name).T,0):=by unfold kiF;rw [if_neg h,if_neg zC,if_neg zC,if_pos h1]
theorem zMt {B:List Bf} {e:Ex} {l:List Ty} (h:¬(l.length=2/\¬bS l 0=bS l 1)) (h1:bO e=true):kiF B e l=(zTy,0):=by
 have:13<=e.Op:=by unfold bO at h1;simp at h1;omega
 unfold kiF
 by_cases h12:e.Op=1∨e.Op=12
 ·omega
 ·rw [if_neg h,if_neg h12,if_neg zC,if_neg zC,if_pos h1]
theorem zMs {B:List Bf} {e:Ex} {l:List Ty} (h:¬(l.length=2/\¬bS l 0=bS l 1)) (h1:¬(e.Op=1∨e.Op=12∨e.Op=2∨e.Op=3)) (h2:bO e=false):kiF B e l=(bS l 0,0):=by
 unfold kiF;rw [if_neg h,if_neg zC,if_neg zC,if_neg zC,if_neg (by rw [h2];simp)]
theorem zSs:∀{arg_:List Ex} {ts:List Ty} {a:Ex} {t:Ty},arg_.length=ts.length->gS (arg_++[a]) (ts++[t])=gS arg_ ts++(if bO a=true then [] else [t])
 |[],[],a,t,_=>by simp only [List.nil_append,gS]
 |x::r,y::s,a,t,h=>by
  simp only [List.cons_append,gS]
  rw [zSs (arg_:=r) (ts:=s) (by simpa using h)]
  split<;>rfl
 |[],_::_,_,_,h=>by simp at h
 |_::_,[],_,_,h=>by simp at h
theorem conds_ok {e:Ex} (h:dZ e=0):gI e.Op 0 e.Args=true:=by
 have:=(zKd (zEw h)).2.2.2.1
 simp only [jP,Bool.and_eq_true] at this
 exact this.2
theorem ty_ki {B:List Bf} {e:Ex} {l:List Ty} (h:dZ e=0) (hl:l.length=e.Args.length):tyF B e l=kiN B e l:=by
 have hr:=zMc h
 have hc:=conds_ok h
 obtain ⟨o1,o2⟩:=node_op (zEw h)
 have hle:l.length=(bN e.Op).toNat:=by omega
 unfold kiN
 generalize hA:e.Args=A at hr hc hl
 have hcond:bO e=true↔13<=e.Op:=by unfold bO;simp;omega
 unfold bN at hr
 by_cases c0:e.Op=1∨e.Op=2∨e.Op=3
 ·rw [if_pos c0] at hr
  match A,l,hr,hl with
  |[],[],_,_=>
   have hn:¬(([]:List Ty).length=2/\¬bS [] 0=bS [] 1):=by simp
   rcases c0 with c|c|c
   ·rw [zBw (.inl c)];exact (zOv hn (.inl c)).symm
   ·rw [zCe c];exact (zQm hn c).symm
   ·rw [zBv c];exact (zQl hn c).symm
  |_::_,_,hr,_=>simp at hr;omega
 rw [if_neg c0] at hr
 by_cases c1:e.Op=8∨e.Op=12∨e.Op=18
 ·rw [if_pos c1] at hr
  match A,l,hr,hl with
  |[a],[t],_,_=>
   simp only [gI,Bool.and_true,beq_iff_eq] at hc
   rcases c1 with c|c|c
   ·have ha:bO a=false:=by rw [hc];simp [gP,c]
    rw [zCd c,gS,if_neg (by rw [ha];simp),gS,zMs uG zC (by cases hx:bO e;rfl;exact absurd (hcond.1 hx) zC)]
   ·have ha:bO a=false:=by rw [hc];simp [gP,c]
    rw [zBw (.inr c),gS,if_neg (by rw [ha];simp),gS,zOv uG (.inr c)]
   ·have ha:bO a=true:=by rw [hc];simp [gP,c]
    rw [wX zC,gS,if_pos ha,gS,zMt uG (hcond.2 zC)]
  |[],_,hr,_=>simp at hr
  |_::_::_,_,hr,_=>simp at hr;omega
 rw [if_neg c1] at hr
 by_cases c11:e.Op=11
 ·rw [if_pos c11] at hr
  match A,l,hr,hl with
  |[a,b,c],[s,t,u],_,_=>
   simp only [gI,Bool.and_true,Bool.and_eq_true,beq_iff_eq] at hc
   have ha:bO a=true:=by rw [hc.1];simp [gP,c11]
   have hb:bO b=false:=by rw [hc.2.1];simp [gP,c11]
   have hd:bO c=false:=by rw [hc.2.2];simp [gP,c11]
   have hec:bO e=false:=by cases hx:bO e;rfl;exact absurd (hcond.1 hx) zC
   rw [gS,if_pos ha,gS,if_neg (by rw [hb];simp),gS,if_neg (by rw [hd];simp),gS]
   by_cases q:t=u
   ·subst q
    rw [zBu (by unfold jB;omega) rfl hec,zMs (by simp [bS]) zC hec];rfl
   ·rw [wY (e:=e) (l:=[s,t,u]) (by unfold jB;omega) q,zGu (l:=[t,u]) rfl q]
  |[],_,hr,_=>simp at hr
  |[_],_,hr,_=>simp at hr
  |[_,_],_,hr,_=>simp at hr
  |_::_::_::_::_,_,hr,_=>simp at hr;omega
 rw [if_neg c11] at hr
 match A,l,hr,hl with
 |[a,b],[t,u],_,_=>
  simp only [gI,Bool.and_true,Bool.and_eq_true,beq_iff_eq] at hc
  by_cases c16:e.Op=16∨e.Op=17
  ·have ha:bO a=true:=by rw [hc.1];rcases c16 with c|c<;>simp [gP,c]
   have hb:bO b=true:=by rw [hc.2];rcases c16 with c|c<;>simp [gP,c]
   rw [wX zC,gS,if_pos ha,gS,if_pos hb,gS,zMt uG (hcond.2 zC)]
  ·have w:∀i,gP e.Op i=false:=fun i=>by unfold gP;simp;omega
   have ha:bO a=false:=by rw [hc.1,w]
   have hb:bO b=false:=by rw [hc.2,w]
   rw [gS,if_neg (by rw [ha];simp),gS,if_neg (by rw [hb];simp),gS]
   by_cases q:t=u
   ·subst q
    by_cases ce:bO e=true
    ·rw [zCc (by unfold jB;omega) rfl ce,zMt (by simp [bS]) ce]
    ·have ce':bO e=false:=by simpa using ce
     rw [zBu (by unfold jB;omega) rfl ce',zMs (by simp [bS]) zC ce'];rfl
   ·rw [wY (e:=e) (l:=[t,u]) (by unfold jB;omega) q,zGu (l:=[t,u]) rfl q]
 |[],_,hr,_=>simp at hr
 |[_],_,hr,_=>simp at hr
 |_::_::_::_,_,hr,_=>simp at hr;omega
mutual
theorem nodeT_ki (B:List Bf):∀e:Ex,dZ e=0->bL (tyF B) e=bL (kiN B) e
 |.mk o nm v t l i arg_,h=>by
  have h3:=nodeL_ki B arg_ fun a ha=>zIx h ha
  rw [bL,bL,←h3]
  by_cases c:(bE (tyF B) arg_).2=0
  ·rw [if_pos c,if_pos c]
   exact ty_ki h (zEc _ _ c)
  ·rw [if_neg c,if_neg c]
theorem nodeL_ki (B:List Bf):∀l:List Ex,(∀a,a∈l->dZ a=0)->bE (tyF B) l=bE (kiN B) l
 |[],_=>rfl
 |a::r,h=>by
  rw [bE,bE,←nodeT_ki B a (h a uG),←nodeL_ki B r fun x hx=>h x (by simp [hx])]
end
def dE (B:List Bf) (sc:List ByteArray) (e:Ex):Ty×Int:=
 if dQ e=0 then (if dF B sc (bY e)=0 then bL (tyF B) e else (zTy,dF B sc (bY e))) else (zTy,dQ e)
theorem exprT_1 {B:List Bf} {sc:List ByteArray} {e:Ex} (h:¬dQ e=0):dE B sc e=(zTy,dQ e):=by unfold dE;rw [if_neg h]
theorem exprT_2 {B:List Bf} {sc:List ByteArray} {e:Ex} (h:dQ e=0) (h2:¬dF B sc (bY e)=0):dE B sc e=(zTy,dF B sc (bY e)):=by unfold dE;rw [if_pos h,if_neg h2]
theorem exprT_3 {B:List Bf} {sc:List ByteArray} {e:Ex} (h:dQ e=0) (h2:dF B sc (bY e)=0):dE B sc e=bL (tyF B) e:=by unfold dE;rw [if_pos h,if_pos h2]
theorem exprT_k {B:List Bf} {sc:List ByteArray} {e:Ex} (h:dQ e=0) (h2:dF B sc (bY e)=0):dE B sc e=bL (kiN B) e:=by rw [exprT_3 h h2];exact nodeT_ki B e (zCs h)
theorem exprT_rd {B:List Bf} {sc:List ByteArray} {s:St} (h:(dE B sc (rdE s)).2=0):(dE B sc (rdE s)).1=(gO B s.Name).T:=by
 by_cases h1:dQ (rdE s)=0
 ·by_cases h2:dF B sc (bY (rdE s))=0
  ·rw [exprT_3 h1 h2,zKe]
   have:bE (tyF B) (rdE s).Args=([],0):=rfl
   rw [this,if_pos rfl,zBv rfl];rfl
  ·rw [exprT_2 h1 h2] at h;exact absurd h h2
 ·rw [exprT_1 h1] at h;exact absurd h h1
/-! ## Statements -/
def sR (e:Ex):Bool:=decide (e=zEx)
def lA (s:St):Bool:=decide (s.Op=2)||decide (s.Op=3)
def gC (s:St):Bool:=
 (decide (s.Op=1)||lA s||decide (s.Op=4))&& !(decide (s.Op=4)&& !decide (s.Name=bs []))&& !(!decide (s.Op=1)&&(!decide (s.Many=0)|| !decide (s.Mark=0)))&&
 !(!decide (s.Op=3)&& !decide (s.Fold=0))&& !(!lA s&&decide ((0:Int)<s.Idx.length))&& !(decide (s.Op=1)&& !sR s.E)&&(!lA s||decide ((s.Body.length:Int)=0))
theorem syn_1 {s:St} (c:((!decide (s.Op=1)&& !(decide (s.Op=2)||decide (s.Op=3)))&& !decide (s.Op=4))=true):false=gC s:=by
 unfold gC lA
 simp only [Bool.and_eq_true,Bool.not_eq_true',Bool.or_eq_false_iff] at c
 simp only [c.1.1,c.1.2.1,c.1.2.2,c.2,Bool.or_self,Bool.false_and]
theorem syn_2 {s:St} (c:(decide (s.Op=4)&& !decide (s.Name=bs []))=true):false=gC s:=by
 exact v30
theorem syn_3 {s:St} (c:(!decide (s.Op=1)&&(!decide (s.Many=0)|| !decide (s.Mark=0)))=true):false=gC s:=by
 exact v30
theorem syn_4 {s:St} (c:(!decide (s.Op=3)&& !decide (s.Fold=0))=true):false=gC s:=by
 exact v30
theorem syn_5 {s:St} (c:(!lA s&&decide ((0:Int)<s.Idx.length))=true):false=gC s:=by
 exact v30
theorem syn_6 {s:St} (c:(decide (s.Op=1)&& !sR s.E)=true):false=gC s:=by
 exact v30
theorem syn_7 {s:St} (c1:((!decide (s.Op=1)&& !lA s)&& !decide (s.Op=4))=false) (c2:(decide (s.Op=4)&& !decide (s.Name=bs []))=false) (c3:(!decide (s.Op=1)&&(!decide (s.Many=0)|| !decide (s.Mark=0)))=false) (c4:(!decide (s.Op=3)&& !decide (s.Fold=0))=false)
  (c5:(!lA s&&decide ((0:Int)<s.Idx.length))=false) (c6:(decide (s.Op=1)&& !sR s.E)=false):(!lA s||decide ((s.Body.length:Int)=0))=gC s:=by
 have h1:(decide (s.Op=1)||lA s||decide (s.Op=4))=true:=by
  revert c1;cases decide (s.Op=1)<;>cases lA s<;>cases decide (s.Op=4)<;>simp
 unfold gC
 simp only [h1,c2,c3,c4,c5,c6,Bool.not_false,Bool.true_and]
def nZ (B:List Bf) (U:List ByteArray) (s:St):Int:=
 if bC s.Name=true then (if fH B s.Name=true∨bQ U s.Name=true then 8 else if s.Many<1∨65536<s.Many∨s.Mark<0∨3<s.Mark then 1 else 0) else 7
def ifE (B:List Bf) (sc:List ByteArray) (s:St):Int:=if (dE B sc s.E).2=0 then (if bO s.E=true then 0 else 10) else (dE B sc s.E).2
def jQ (B:List Bf) (sc:List ByteArray) (s:St):Int:=
 if (dE B sc (rdE s)).2=0 then (if (gO B s.Name).Use=1∨(s.Op=3/\(s.Fold<1∨4<s.Fold)) then 1 else
  if (dE B sc s.E).2=0 then (if bO s.E=true∨¬(dE B sc s.E).1=(gO B s.Name).T then 10 else 0) else (dE B sc s.E).2) else (dE B sc (rdE s)).2
def stE (B:List Bf) (U sc:List ByteArray) (s:St):Int:=
 if gC s=true then (if s.Op=1 then nZ B U s else if s.Op=4 then ifE B sc s else jQ B sc s) else 5
structure Ck where
 U:List ByteArray
 W:List Int
 E:Int
def mM (U:List ByteArray) (s:St):List ByteArray:=if s.Op=1 then U++[s.Name] else U
mutual
def nH (B:List Bf):List ByteArray->List ByteArray->List Int->St->Ck
 |U,sc,here,.mk o nm mn mk fo i e b=>if stE B U sc (.mk o nm mn mk fo i e b)=0 then fL B (mM U (.mk o nm mn mk fo i e b)) (mM sc (.mk o nm mn mk fo i e b)) here 0 b else ⟨[],here,stE B U sc (.mk o nm mn mk fo i e b)⟩
def fL (B:List Bf):List ByteArray->List ByteArray->List Int->Int->List St->Ck
 |U,_,_,_,[]=>⟨U,[],0⟩
 |U,sc,way,i,s::r=>if (nH B U sc (way++[i]) s).E=0 then fL B (nH B U sc (way++[i]) s).U sc way (i+1) r else nH B U sc (way++[i]) s
end
theorem chkS_eq (B:List Bf) (U sc:List ByteArray) (here:List Int) (s:St):nH B U sc here s=if stE B U sc s=0 then fL B (mM U s) (mM sc s) here 0 s.Body else ⟨[],here,stE B U sc s⟩:=by cases s;rw [nH];rfl
theorem chkS_no {B:List Bf} {U sc:List ByteArray} {here:List Int} {s:St} (h:¬stE B U sc s=0):nH B U sc here s=⟨[],here,stE B U sc s⟩:=by rw [chkS_eq,if_neg h]
theorem chkS_in {B:List Bf} {U sc:List ByteArray} {here:List Int} {s:St} (h:stE B U sc s=0):nH B U sc here s=fL B (mM U s) (mM sc s) here 0 s.Body:=by rw [chkS_eq,if_pos h]
theorem zNl {B:List Bf} {R:Ck} {U sc:List ByteArray} {way:List Int} {l:List St} {k:Nat} {s:St} (h:l[k]? =some s) (hp:R=fL B U sc way k (l.drop k)) (hx:(nH B U sc (way++[(k:Int)]) s).E=0):R=fL B (nH B U sc (way++[(k:Int)]) s).U sc way ((k+1:Nat):Int) (l.drop (k+1)):=by
 rw [hp,qO h,fL,if_pos hx];rfl
theorem zEj {B:List Bf} {R:Ck} {U sc:List ByteArray} {way:List Int} {l:List St} {k:Nat} {s:St} (h:l[k]? =some s) (hp:R=fL B U sc way k (l.drop k)) (hx:¬(nH B U sc (way++[(k:Int)]) s).E=0):R=nH B U sc (way++[(k:Int)]) s:=by
 rw [hp,qO h,fL,if_neg hx]
theorem zRj {B:List Bf} {R:Ck} {U sc:List ByteArray} {way:List Int} {l:List St} {k:Nat} (hp:R=fL B U sc way k (l.drop k)) (h:¬k<l.length):R=⟨U,[],0⟩:=by
 rw [hp,kJ h,fL]
theorem chkL_ok:∀{B:List Bf} {l:List St} {U sc:List ByteArray} {way:List Int} {i:Int},(fL B U sc way i l).E=0->(fL B U sc way i l).W=[]
 |B,[],U,sc,way,i,_=>by rw [fL]
 |B,s::r,U,sc,way,i,h=>by
  rw [fL] at h⊢
  by_cases c:(nH B U sc (way++[i]) s).E=0
  ·rw [if_pos c] at h⊢;exact chkL_ok h
  ·rw [if_neg c] at h;exact absurd h c
mutual
theorem chkS_len (B:List Bf):∀(s:St) (U sc:List ByteArray) (here:List Int),(nH B U sc here s).U.length<=U.length+stN s
 |.mk o nm mn mk fo i e b,U,sc,here=>by
  rw [nH,stN]
  split
  ·have h1:=chkL_len B b (mM U (.mk o nm mn mk fo i e b)) (mM sc (.mk o nm mn mk fo i e b)) here 0
   have h2:(mM U (.mk o nm mn mk fo i e b)).length<=U.length+1:=by unfold mM;split<;>simp
   omega
  ·simp
theorem chkL_len (B:List Bf):∀(l:List St) (U sc:List ByteArray) (way:List Int) (i:Int),(fL B U sc way i l).U.length<=U.length+dN l
 |[],U,sc,way,i=>by rw [fL];simp
 |s::r,U,sc,way,i=>by
  rw [fL,dN]
  have h1:=chkS_len B s U sc (way++[i])
  split
  ·have h2:=chkL_len B r (nH B U sc (way++[i]) s).U sc way (i+1)
   omega
  ·omega
end
theorem zMi {U:List ByteArray} {s:St} (h:s.Op=1):mM U s=U++[s.Name]:=by unfold mM;rw [if_pos h]
theorem zQy {U:List ByteArray} {s:St} (h:¬s.Op=1):mM U s=U:=by unfold mM;rw [if_neg h]
theorem scAll_next {S:List ByteArray} {f:Lf} {l:List Ix} {k:Nat} {x:Ix} (h:l[k]? =some x):((mI S f&&(l.take k).all (cN S))&&mI S x.Lin&&x.At.all (mI S))=(mI S f&&(l.take (k+1)).all (cN S)):=by
 rw [yB h,List.all_append]
 simp only [List.all_cons,List.all_nil,Bool.and_true,cN,Bool.and_assoc]
theorem st10_t {c:Bool} {a b:Ty} (h:(c|| !dC [cI a.Kind,cI a.Bits,cI a.Frac,cI a.Round,cI a.Over] [cI b.Kind,cI b.Bits,cI b.Frac,cI b.Round,cI b.Over])=true):c=true∨¬a=b:=by
 rw [tyC_eq,Bool.or_eq_true] at h
 rcases h with h|h
 ·exact .inl h
 ·exact .inr (by simpa using h)
theorem st10_f {c:Bool} {a b:Ty} (h:(c|| !dC [cI a.Kind,cI a.Bits,cI a.Frac,cI a.Round,cI a.Over] [cI b.Kind,cI b.Bits,cI b.Frac,cI b.Round,cI b.Over])=false):¬(c=true∨¬a=b):=by
 rw [tyC_eq,Bool.or_eq_false_iff] at h
 rw [h.1]
 rintro (k|k)
 ·cases k
 ·exact k (by simpa using h.2)
theorem storeE_1 {B:List Bf} {sc:List ByteArray} {s:St} (h:¬(dE B sc (rdE s)).2=0):jQ B sc s=(dE B sc (rdE s)).2:=by unfold jQ;rw [if_neg h]
theorem storeE_u {B:List Bf} {sc:List ByteArray} {s:St} (h:(dE B sc (rdE s)).2=0) (h2:(gO B s.Name).Use=1∨(s.Op=3/\(s.Fold<1∨4<s.Fold))):jQ B sc s=1:=by unfold jQ;rw [if_pos h,if_pos h2]
theorem storeE_2 {B:List Bf} {sc:List ByteArray} {s:St} (h:(dE B sc (rdE s)).2=0) (h2:¬((gO B s.Name).Use=1∨(s.Op=3/\(s.Fold<1∨4<s.Fold)))) (h3:¬(dE B sc s.E).2=0):jQ B sc s=(dE B sc s.E).2:=by unfold jQ;rw [if_pos h,if_neg h2,if_neg h3]
theorem storeE_10 {B:List Bf} {sc:List ByteArray} {s:St} (h:(dE B sc (rdE s)).2=0) (h2:¬((gO B s.Name).Use=1∨(s.Op=3/\(s.Fold<1∨4<s.Fold)))) (h3:(dE B sc s.E).2=0) (h4:bO s.E=true∨¬(dE B sc s.E).1=(gO B s.Name).T):jQ B sc s=10:=by unfold jQ;rw [if_pos h,if_neg h2,if_pos h3,if_pos h4]
theorem storeE_0 {B:List Bf} {sc:List ByteArray} {s:St} (h:(dE B sc (rdE s)).2=0) (h2:¬((gO B s.Name).Use=1∨(s.Op=3/\(s.Fold<1∨4<s.Fold)))) (h3:(dE B sc s.E).2=0) (h4:¬(bO s.E=true∨¬(dE B sc s.E).1=(gO B s.Name).T)):jQ B sc s=0:=by unfold jQ;rw [if_pos h,if_neg h2,if_pos h3,if_neg h4]
theorem loopE_7 {B:List Bf} {U:List ByteArray} {s:St} (h:bC s.Name=false):nZ B U s=7:=by unfold nZ;rw [if_neg (by rw [h];simp)]
theorem loopE_8 {B:List Bf} {U:List ByteArray} {s:St} (h:bC s.Name=true) (h2:fH B s.Name=true∨bQ U s.Name=true):nZ B U s=8:=by unfold nZ;rw [if_pos h,if_pos h2]
theorem loopE_1 {B:List Bf} {U:List ByteArray} {s:St} (h:bC s.Name=true) (h2:¬(fH B s.Name=true∨bQ U s.Name=true)) (h3:s.Many<1∨65536<s.Many∨s.Mark<0∨3<s.Mark):nZ B U s=1:=by unfold nZ;rw [if_pos h,if_neg h2,if_pos h3]
theorem loopE_0 {B:List Bf} {U:List ByteArray} {s:St} (h:bC s.Name=true) (h2:¬(fH B s.Name=true∨bQ U s.Name=true)) (h3:¬(s.Many<1∨65536<s.Many∨s.Mark<0∨3<s.Mark)):nZ B U s=0:=by unfold nZ;rw [if_pos h,if_neg h2,if_neg h3]
theorem ifE_x {B:List Bf} {sc:List ByteArray} {s:St} (h:¬(dE B sc s.E).2=0):ifE B sc s=(dE B sc s.E).2:=by unfold ifE;rw [if_neg h]
theorem ifE_10 {B:List Bf} {sc:List ByteArray} {s:St} (h:(dE B sc s.E).2=0) (h2:bO s.E=false):ifE B sc s=10:=by unfold ifE;rw [if_pos h,if_neg (by rw [h2];simp)]
theorem ifE_0 {B:List Bf} {sc:List ByteArray} {s:St} (h:(dE B sc s.E).2=0) (h2:bO s.E=true):ifE B sc s=0:=by unfold ifE;rw [if_pos h,if_pos h2]
theorem stE_5 {B:List Bf} {U sc:List ByteArray} {s:St} (h:gC s=false):stE B U sc s=5:=by unfold stE;rw [if_neg (by rw [h];simp)]
theorem stE_l {B:List Bf} {U sc:List ByteArray} {s:St} (h:gC s=true) (h2:s.Op=1):stE B U sc s=nZ B U s:=by unfold stE;rw [if_pos h,if_pos h2]
theorem stE_i {B:List Bf} {U sc:List ByteArray} {s:St} (h:gC s=true) (h2:s.Op=4):stE B U sc s=ifE B sc s:=by unfold stE;rw [if_pos h,if_neg zC,if_pos h2]
theorem stE_s {B:List Bf} {U sc:List ByteArray} {s:St} (h:gC s=true) (h2:¬s.Op=1) (h3:¬s.Op=4):stE B U sc s=jQ B sc s:=by unfold stE;rw [if_pos h,if_neg h2,if_neg h3]
def gL (n:Ns):List Int×Int:=
 if dK 40 n.Body=true then (if 2000<lU n.Body 2000∨128<n.Bufs.length then ([],2) else if dM [] n.Bufs=0 then ((fL n.Bufs [] [] [] 0 n.Body).W,(fL n.Bufs [] [] [] 0 n.Body).E) else ([],dM [] n.Bufs)) else ([],13)
theorem validN_13 {n:Ns} (h:dK 40 n.Body=false):gL n=([],13):=by unfold gL;rw [if_neg (by rw [h];simp)]
theorem validN_2 {n:Ns} (h:dK 40 n.Body=true) (h2:2000<lU n.Body 2000∨128<n.Bufs.length):gL n=([],2):=by unfold gL;rw [if_pos h,if_pos h2]
theorem validN_b {n:Ns} (h:dK 40 n.Body=true) (h2:¬(2000<lU n.Body 2000∨128<n.Bufs.length)) (h3:¬dM [] n.Bufs=0):gL n=([],dM [] n.Bufs):=by unfold gL;rw [if_pos h,if_neg h2,if_neg h3]
theorem validN_c {n:Ns} (h:dK 40 n.Body=true) (h2:¬(2000<lU n.Body 2000∨128<n.Bufs.length)) (h3:dM [] n.Bufs=0):gL n=((fL n.Bufs [] [] [] 0 n.Body).W,(fL n.Bufs [] [] [] 0 n.Body).E):=by unfold gL;rw [if_pos h,if_neg h2,if_pos h3]
structure Ns.Ok (n:Ns):Prop where
 bufs:n.Bufs.length<=4294967296
 dims:∀b,b∈n.Bufs->b.Dims.length<=17592186044416
 body:bI n.Body<=536870912
end Go.Br
end
section
namespace Go.Br
open Go Go.Eng Go.L41
def xR (i:List Ix):Ex:=.mk 0 (bs []) ⟨0,0⟩ ⟨0,0,0,0,0⟩ ⟨0,[]⟩ i []
theorem idxE_wt (i:List Ix):(xR i).wt=1+i.length+dD i:=by
 rw [Ex.wt_eq];simp only [xR,Ex.Lin,Ex.Idx,Ex.Args,dS,List.length_nil];omega
mutual
def rI:St->Nat->Nat
 |.mk _ _ _ _ _ _ _ b,m=>jX b m b.length
def jX:List St->Nat->Nat->Nat
 |[],_,n=>n
 |s::r,m,n=>if n<=m then jX r m (n+gJ s.E m+gJ (xR s.Idx) m+rI s (m-n)) else n
end
def tE (l:List St) (m:Nat):Nat:=jX l m l.length
theorem weighSs_ge:∀(l:List St) (m n:Nat),n<=jX l m n
 |[],m,n=>by rw [jX];omega
 |s::r,m,n=>by
  rw [jX];split
  ·have:=weighSs_ge r m (n+gJ s.E m+gJ (xR s.Idx) m+rI s (m-n));omega
  ·omega
mutual
theorem weighS_wt:∀(s:St) (m:Nat),rI s m<=m->bI s.Body<=rI s m
 |.mk _ _ _ _ _ _ _ b,m,h=>by
  rw [rI] at h⊢
  have:=zNt b m _ h
  have:=zAt b
  simp only [St.Body];omega
theorem zNt:∀(l:List St) (m n:Nat),jX l m n<=m->n+(bI l-l.length)<=jX l m n
 |[],m,n,h=>by simp [jX,bI]
 |s::r,m,n,h=>by
  by_cases hn:n<=m
  ·rw [jX,if_pos hn] at h⊢
   have h1:=weighSs_ge r m (n+gJ s.E m+gJ (xR s.Idx) m+rI s (m-n))
   have h2:=zNt r m _ h
   have h3:=zLs s.E m zC
   have h4:=zLs (xR s.Idx) m zC
   have h5:=weighS_wt s (m-n) zC
   have h6:=zAt r
   rw [idxE_wt] at h4
   rw [bI,List.length_cons,St.wt_eq];omega
  ·rw [jX,if_neg hn] at h;omega
end
theorem weighB_wt {l:List St} {m:Nat} (h:tE l m<=m):bI l<=tE l m:=by
 unfold tE at *
 have:=zNt l m _ h
 have:=zAt l
 omega
mutual
def St.fit:St->Prop
 |.mk _ _ _ _ _ i e b=>i.length<=140737488355328/\(∀x,x∈i->x.fit)/\e.fit/\b.length<=140737488355328/\eB b
def eB:List St->Prop
 |[]=>True
 |s::r=>s.fit/\eB r
end
theorem St.fit_eq {s:St} (h:s.fit):s.Idx.length<=140737488355328/\(∀x,x∈s.Idx->x.fit)/\s.E.fit/\s.Body.length<=140737488355328/\eB s.Body:=by
 cases s with
 |mk o n m k f i e b=>rw [St.fit] at h;exact h
structure Ns.Fit (n:Ns):Prop where
 bufs:n.Bufs.length<=140737488355328
 dims:∀b,b∈n.Bufs->b.Dims.length<=17592186044416
 len:n.Body.length<=140737488355328
 body:eB n.Body
theorem Ns.Fit.ok {n:Ns} (h:n.Fit) {m:Nat} (hm:m<=5000) (hb:n.Bufs.length<=150) (hw:tE n.Body m<=m):n.Ok:=
 ⟨zC,h.dims,by have:=weighB_wt hw;omega⟩
end Go.Br
end
section
namespace Go.Br
open Go Go.Eng Go.L41
/-! ## For the reference's check -/
structure Bd where
 Name:ByteArray
 Val:Int
 deriving DecidableEq
def Bd.cells (x:Bd):List C:=[cS x.Name,cI x.Val]
theorem any_hasB (bd:List Bd) (s:ByteArray):(bd.any fun d=>decide (d.Name=s))=bQ (bd.map Bd.Name) s:=by
 unfold bQ;rw [List.any_map];rfl
theorem any_step {bd:List Bd} {i:Nat} {d:Bd} {s:ByteArray} (h:bd[i]? =some d):(((bd.take i).any fun d=>decide (d.Name=s))||decide (d.Name=s))=(bd.take (i+1)).any fun d=>decide (d.Name=s):=by
 rw [yB h,List.any_append];simp
theorem bound_no {l:List Lf} {sc:List ByteArray} {k j:Nat} {x:Lf} {m:Mono} (h:l[k]? =some x) (hm:x.L[j]? =some m) (c:bQ sc m.Name=false):l.all (mI sc)=false:=by
 have:mI sc x=false:=zQg hm (p:=fun y:Mono=>bQ sc y.Name) c
 exact zQg h this
theorem ixs_len (l:List Ix) (k:Nat):((l.take k).flatMap ixF).length<=l.length+dD l:=by
 have h1:∀l:List Ix,(l.flatMap ixF).length<=l.length+dD l:=by
  intro l
  induction l with
  |nil=>simp
  |cons x r ih=>
   rw [List.flatMap_cons,List.length_append,dD,Ix.wt,List.length_cons]
   simp only [ixF,List.length_cons];omega
 have h2:=h1 (l.take k)
 have h3:dD (l.take k)<=dD l:=by
  have:∀(l:List Ix) (k:Nat),dD (l.take k)<=dD l:=by
   intro l
   induction l with
   |nil=>intro k;simp [dD]
   |cons x r ih=>intro k;cases k with
    |zero=>simp [dD]
    |succ k=>rw [List.take_succ_cons,dD,dD];have:=ih k;omega
  exact this l k
 have h4:=List.length_take_le' k l
 omega
theorem node_sc (sc:List ByteArray) (e:Ex):([e.Lin].all (mI sc)&&(e.Idx.flatMap ixF).all (mI sc))=lV sc e:=by
 unfold lV
 congr 1
 ·simp
 ·rw [List.all_flatMap];rfl
theorem node_sc_f {sc:List ByteArray} {e:Ex} (c:(![e.Lin].all (mI sc)|| !(e.Idx.flatMap ixF).all (mI sc))=true):lV sc e=false:=by
 rw [←Bool.not_and,node_sc] at c;simpa using c
theorem node_sc_t {sc:List ByteArray} {e:Ex} (c:(![e.Lin].all (mI sc)|| !(e.Idx.flatMap ixF).all (mI sc))=false):lV sc e=true:=by
 rw [←Bool.not_and,node_sc] at c;simpa using c
theorem nonC_len:∀(arg_:List Ex) (ts:List Ty),(gS arg_ ts).length<=arg_.length
 |[],_=>by simp [gS]
 |_::_,[]=>by simp [gS]
 |a::r,t::ts=>by
  have:=nonC_len r ts
  rw [gS];split<;>simp<;>omega
theorem ki10_t {l:List Ty} (c:(decide (((l.map tyC).length:Int)=2)&& !dC [cI (bS l 0).Kind,cI (bS l 0).Bits,cI (bS l 0).Frac,cI (bS l 0).Round,cI (bS l 0).Over] [cI (bS l 1).Kind,cI (bS l 1).Bits,cI (bS l 1).Frac,cI (bS l 1).Round,cI (bS l 1).Over])=true):l.length=2/\¬bS l 0=bS l 1:=by
 rw [Bool.and_eq_true,decide_eq_true_eq,List.length_map] at c
 exact ⟨zC,zEp c.2⟩
theorem ki10_f {l:List Ty} (c:(decide (((l.map tyC).length:Int)=2)&& !dC [cI (bS l 0).Kind,cI (bS l 0).Bits,cI (bS l 0).Frac,cI (bS l 0).Round,cI (bS l 0).Over] [cI (bS l 1).Kind,cI (bS l 1).Bits,cI (bS l 1).Frac,cI (bS l 1).Round,cI (bS l 1).Over])=false):¬(l.length=2/\¬bS l 0=bS l 1):=by
 rintro ⟨h1,h2⟩
 rw [Bool.and_eq_false_iff,decide_eq_false_iff_not,List.length_map] at c
 rcases c with c|c
 ·omega
 ·exact h2 (zEq c)
theorem ki_one {e:Ex} {l:List Ty} (h:dZ e=0) (hl:l.length=e.Args.length) (h1:¬(e.Op=1∨e.Op=12∨e.Op=2∨e.Op=3)) (h2:bO e=false):1<=(gS e.Args l).length:=by
 have hr:=zMc h
 have hc:=conds_ok h
 obtain ⟨o1,o2⟩:=node_op (zEw h)
 have h13:e.Op<13:=by
  unfold bO at h2
  simp only [Bool.and_eq_false_iff,decide_eq_false_iff_not] at h2
  omega
 generalize e.Args=A at hr hc hl
 have w:∀i,(e.Op=11->i≠0)->gP e.Op i=false:=fun i hi=>by
  unfold gP;simp only [Bool.or_eq_false_iff,Bool.and_eq_false_iff,decide_eq_false_iff_not]
  by_cases h11:e.Op=11
  ·have:=hi h11;omega
  ·omega
 unfold bN at hr
 match A,l,hl with
 |[],_,_=>
  exfalso
  simp only [List.length_nil] at hr
  split at hr
  ·omega
  ·split at hr
   ·simp at hr
   ·split at hr<;>simp at hr
 |[a],[t],_=>
  simp only [gI,Bool.and_true,beq_iff_eq] at hc
  have h11:e.Op≠11:=by rintro h11;rw [h11] at hr;simp at hr
  rw [w 0 (fun h=>absurd h h11)] at hc
  rw [gS,if_neg (by rw [hc];simp)];simp
 |a::b::r,t::u::s,_=>
  simp only [gI,Bool.and_eq_true,beq_iff_eq] at hc
  have hb:=hc.2.1
  rw [w (0+1) (fun _=>by omega)] at hb
  rw [gS]
  split
  ·rw [gS,if_neg (by rw [hb];simp)];simp
  ·simp
 |[_],[],hl=>simp at hl
 |[_],_::_::_,hl=>simp at hl
 |_::_::_,[],hl=>simp at hl
 |_::_::_,[_],hl=>simp at hl
theorem map_bd {bd:List Bd} {s:St}:(bd++[(⟨s.Name,s.Many⟩:Bd)]).map Bd.Name=bd.map Bd.Name++[s.Name]:=by simp
theorem pln_1 {s:St} (c:((!decide (s.Op=1)&& !decide (s.Op=4))&& !lA s)=true):false=gC s:=by
 unfold gC
 simp only [Bool.and_eq_true,Bool.not_eq_true'] at c
 simp only [c.1.1,c.1.2,c.2,Bool.or_self,Bool.false_and]
theorem pln_2 {s:St} (c:(((!decide (s.Op=1)&&(!decide (s.Many=0)|| !decide (s.Mark=0)))||(!decide (s.Op=3)&& !decide (s.Fold=0)))||(decide (s.Op=4)&& !decide (s.Name=bs [])))=true):false=gC s:=by
 rw [Bool.or_eq_true,Bool.or_eq_true] at c
 rcases c with (c|c)|c
 ·exact syn_3 c
 ·exact syn_4 c
 ·exact syn_2 c
theorem pln_3 {s:St} (c:((!lA s&&decide ((0:Int)<s.Idx.length))||(lA s&&decide ((0:Int)<s.Body.length)))=true):false=gC s:=by
 rw [Bool.or_eq_true] at c
 rcases c with c|c
 ·exact syn_5 c
 ·unfold gC
  rw [Bool.and_eq_true,decide_eq_true_eq] at c
  have:decide ((s.Body.length:Int)=0)=false:=decide_eq_false zC
  simp only [c.1,this,Bool.not_true,Bool.or_self,Bool.and_false]
theorem pln_4 {s:St} (c1:((!decide (s.Op=1)&& !decide (s.Op=4))&& !lA s)=false) (c2:(((!decide (s.Op=1)&&(!decide (s.Many=0)|| !decide (s.Mark=0)))||(!decide (s.Op=3)&& !decide (s.Fold=0)))||(decide (s.Op=4)&& !decide (s.Name=bs [])))=false)
  (c3:((!lA s&&decide ((0:Int)<s.Idx.length))||(lA s&&decide ((0:Int)<s.Body.length)))=false):(!decide (s.Op=1)||decide (s.E=zEx))=gC s:=by
 rw [Bool.or_eq_false_iff,Bool.or_eq_false_iff] at c2
 rw [Bool.or_eq_false_iff] at c3
 have h1:(decide (s.Op=1)||lA s||decide (s.Op=4))=true:=by
  revert c1;cases decide (s.Op=1)<;>cases lA s<;>cases decide (s.Op=4)<;>simp
 have h7:(!lA s||decide ((s.Body.length:Int)=0))=true:=by
  have h:=c3.2
  rw [Bool.and_eq_false_iff,decide_eq_false_iff_not] at h
  rcases h with h|h
  ·rw [h];rfl
  ·rw [show decide ((s.Body.length:Int)=0)=true from decide_eq_true zC,Bool.or_true]
 unfold gC sR
 simp only [h1,c2.1.1,c2.1.2,c2.2,c3.1,h7,Bool.not_false,Bool.true_and,Bool.and_true,Bool.not_and,Bool.not_not]
theorem st3_t {n:Int} {c:Bool} {a b:Ty} (h:(decide (n=0)&&(c|| !dC [cI a.Kind,cI a.Bits,cI a.Frac,cI a.Round,cI a.Over] [cI b.Kind,cI b.Bits,cI b.Frac,cI b.Round,cI b.Over]))=true):n=0/\(c=true∨¬a=b):=by
 rw [Bool.and_eq_true,decide_eq_true_eq] at h
 exact ⟨h.1,st10_t h.2⟩
theorem st3_f {n:Int} {c:Bool} {a b:Ty} (h:(decide (n=0)&&(c|| !dC [cI a.Kind,cI a.Bits,cI a.Frac,cI a.Round,cI a.Over] [cI b.Kind,cI b.Bits,cI b.Frac,cI b.Round,cI b.Over]))=false):n=0->¬(c=true∨¬a=b):=by
 intro h0
 rw [decide_eq_true h0,Bool.true_and] at h
 exact st10_f h
theorem st_fin {B:List Bf} {sc:List ByteArray} {s:St} (h:(dE B sc (rdE s)).2=0) (h2:¬((gO B s.Name).Use=1∨(s.Op=3/\(s.Fold<1∨4<s.Fold)))) (h3:(dE B sc s.E).2=0->¬(bO s.E=true∨¬(dE B sc s.E).1=(gO B s.Name).T)):jQ B sc s=(dE B sc s.E).2:=by
 by_cases h4:(dE B sc s.E).2=0
 ·rw [storeE_0 h h2 h4 (h3 h4),h4]
 ·exact storeE_2 h h2 h4
theorem if_t {B:List Bf} {sc:List ByteArray} {s:St} (c:(decide ((dE B sc s.E).2=0)&& !bO s.E)=true):ifE B sc s=10:=by
 rw [Bool.and_eq_true,decide_eq_true_eq] at c
 exact ifE_10 c.1 (by simpa using c.2)
theorem if_fin {B:List Bf} {sc:List ByteArray} {s:St} (c:(decide ((dE B sc s.E).2=0)&& !bO s.E)=false):ifE B sc s=(dE B sc s.E).2:=by
 by_cases h:(dE B sc s.E).2=0
 ·rw [decide_eq_true h,Bool.true_and] at c
  rw [ifE_0 h (by simpa using c),h]
 ·exact ifE_x h
theorem within_f {l:List St} (c:40<mF 41 l):dK 40 l=false:=by
 cases h:dK 40 l with
 |false=>rfl
 |true=>have h2:mF 41 l<=40:=(zHt 40 l).2 h;omega
theorem within_t {l:List St} (c:mF 41 l<=40):dK 40 l=true:=(zHt 40 l).1 c
end Go.Br
end
section
namespace Go.L41
open Go Go.Eng
structure Lifetime where
 Name:ByteArray
 From:Int
 To:Int
 Size:Int
def Lifetime.cells (x:Lifetime):List C:=[cS x.Name,cI x.From,cI x.To,cI x.Size]
abbrev vL (x:Lifetime):V:=.agg x.cells
def cR (p:Int) (y:Lifetime):Bool:=decide (y.From<=p)&&decide (p<=y.To)
def cnt (l:List Lifetime) (p:Int):Int:=((l.filter (cR p)).length:Int)
theorem cnt_le (l:List Lifetime) (p:Int):0<=cnt l p/\cnt l p<=l.length:=by
 unfold cnt
 have:=List.length_filter_le (cR p) l
 omega
end Go.L41
end
section
namespace Go.Br
open Go Go.Eng Go.L41
structure Sp where
 From:Int
 To:Int
end Go.Br
end
section
namespace Go.Br
open Go Go.Eng Go.L41
/-! ## Statements in preorder,with their paths -/
mutual
def mSt (f:Lf->Lf×Int) (g:ByteArray->ByteArray):St->Except Int St
 |.mk o nm mn mk fo i e b=>match fJ f i with
  |.error y=>.error y
  |.ok i'=>match mEx f e with
   |.error y=>.error y
   |.ok e'=>match gD f g b with
    |.error y=>.error y
    |.ok b'=>.ok (.mk o (if o=1 then g nm else nm) mn mk fo i' e' b')
def gD (f:Lf->Lf×Int) (g:ByteArray->ByteArray):List St->Except Int (List St)
 |[]=>.ok []
 |s::r=>match mSt f g s with
  |.error y=>.error y
  |.ok s'=>match gD f g r with
   |.error y=>.error y
   |.ok r'=>.ok (s'::r')
end
theorem mSt_eq (f:Lf->Lf×Int) (g:ByteArray->ByteArray) (s:St):mSt f g s=match fJ f s.Idx with
  |.error y=>.error y
  |.ok i'=>match mEx f s.E with
   |.error y=>.error y
   |.ok e'=>match gD f g s.Body with
    |.error y=>.error y
    |.ok b'=>.ok (.mk s.Op (if s.Op=1 then g s.Name else s.Name) s.Many s.Mark s.Fold i' e' b'):=by cases s;rw [mSt];rfl
theorem mSt_e1 {f:Lf->Lf×Int} {g:ByteArray->ByteArray} {s:St} {c:Int} (h:fJ f s.Idx=.error c):mSt f g s=.error c:=by rw [mSt_eq,h]
theorem mSt_e2 {f:Lf->Lf×Int} {g:ByteArray->ByteArray} {s:St} {c:Int} {i:List Ix} (h:fJ f s.Idx=.ok i) (h2:mEx f s.E=.error c):mSt f g s=.error c:=by rw [mSt_eq,h];simp only [h2]
theorem mSt_e3 {f:Lf->Lf×Int} {g:ByteArray->ByteArray} {s:St} {c:Int} {i:List Ix} {e:Ex} (h:fJ f s.Idx=.ok i) (h2:mEx f s.E=.ok e) (h3:gD f g s.Body=.error c):mSt f g s=.error c:=by rw [mSt_eq,h];simp only [h2,h3]
theorem mSt_ok {f:Lf->Lf×Int} {g:ByteArray->ByteArray} {s:St} {i:List Ix} {e:Ex} {b:List St} (h:fJ f s.Idx=.ok i) (h2:mEx f s.E=.ok e) (h3:gD f g s.Body=.ok b):mSt f g s=.ok (.mk s.Op (if s.Op=1 then g s.Name else s.Name) s.Many s.Mark s.Fold i e b):=by rw [mSt_eq,h];simp only [h2,h3]
mutual
theorem mSt_ne {f:Lf->Lf×Int} {g:ByteArray->ByteArray}:∀s:St,mSt f g s≠ .error 0
 |.mk o nm mn mk fo i e b=>by
  rw [mSt]
  cases h1:fJ f i with
  |error y=>intro h;cases h;exact mIxs_ne h1
  |ok a=>
   cases h2:mEx f e with
   |error y=>intro h;simp only at h;cases h;exact mEx_ne e h2
   |ok a=>
    cases h3:gD f g b with
    |error y=>intro h;simp only at h;cases h;exact mSts_ne b h3
    |ok a=>simp
theorem mSts_ne {f:Lf->Lf×Int} {g:ByteArray->ByteArray}:∀l:List St,gD f g l≠ .error 0
 |[]=>by simp [gD]
 |x::r=>by
  rw [gD]
  cases h1:mSt f g x with
  |error y=>intro h;cases h;exact mSt_ne x h1
  |ok a=>
   cases h2:gD f g r with
   |error y=>intro h;simp only at h;cases h;exact mSts_ne r h2
   |ok a=>simp
end
def cV:Except Int (List St)->List St
 |.ok l=>l
 |.error _=>[]
theorem mSts_next {f:Lf->Lf×Int} {g:ByteArray->ByteArray} {l:List St} {k:Nat} {x y:St} {done:List St} (h:l[k]? =some x) (hp:gD f g l=bZ done (gD f g (l.drop k))) (hx:mSt f g x=.ok y):gD f g l=bZ (done++[y]) (gD f g (l.drop (k+1))):=by
 rw [hp,qO h,gD,hx]
 cases gD f g (l.drop (k+1))<;>simp [bZ,lD]
theorem zOo {f:Lf->Lf×Int} {g:ByteArray->ByteArray} {l:List St} {k:Nat} {x:St} {done:List St} {c:Int} (h:l[k]? =some x) (hp:gD f g l=bZ done (gD f g (l.drop k))) (hx:mSt f g x=.error c):gD f g l=.error c:=by
 rw [hp,qO h,gD,hx];rfl
theorem mSts_end {f:Lf->Lf×Int} {g:ByteArray->ByteArray} {l:List St} {k:Nat} {done:List St} (hp:gD f g l=bZ done (gD f g (l.drop k))) (h:¬k<l.length):gD f g l=.ok done:=by
 rw [hp,kJ h];simp [gD,bZ,lD]
mutual
theorem mSt_id:∀s:St,mSt idF (fun x=>x) s=.ok s
 |.mk o nm mn mk fo i e b=>by
  rw [mSt,mIxs_id,mEx_id];simp only [mSts_id b]
  by_cases h:o=1
  ·rw [if_pos h]
  ·rw [if_neg h]
theorem mSts_id:∀l:List St,gD idF (fun x=>x) l=.ok l
 |[]=>by rw [gD]
 |x::r=>by rw [gD,mSt_id x,mSts_id r]
end
def tO (P:Lf->Prop) (i:List Ix):Prop:=∀x,x∈i->P x.Lin/\∀l,l∈x.At->P l
mutual
def St.allF (P:Lf->Prop):St->Prop
 |.mk _ _ _ _ _ i e b=>tO P i/\e.allF P/\nN P b
def nN (P:Lf->Prop):List St->Prop
 |[]=>True
 |s::r=>s.allF P/\nN P r
end
theorem St.allF_eq {P:Lf->Prop} {s:St} (h:s.allF P):tO P s.Idx/\s.E.allF P/\nN P s.Body:=by cases s;rw [St.allF] at h;exact h
theorem zNr {P:Lf->Prop}:∀{l:List St},nN P l->∀s,s∈l->s.allF P
 |[],_,s,hs=>by cases hs
 |x::r,h,s,hs=>by
  rw [nN] at h
  rcases List.mem_cons.1 hs with rfl|hs
  ·exact h.1
  ·exact zNr h.2 s hs
end Go.Br
end
section
namespace Go.Br
open Go Go.Eng Go.L41
end Go.Br
end
section
namespace Go.Br
open Go Go.Eng Go.L41
/-! ## Sets of names -/
end Go.Br
end
section
namespace Go.Br
open Go Go.Eng Go.L41
/-! ## One form: a name for a name -/
def eV:Except Int (List Ix)->List Ix
 |.ok l=>l
 |.error _=>[]
theorem mIxs_0 {f:Lf->Lf×Int} {i:List Ix} (h:jR (fJ f i)=0):∃a,fJ f i=.ok a:=errE_ok h mIxs_ne
theorem mEx_0 {f:Lf->Lf×Int} {e:Ex} (h:jR (mEx f e)=0):∃a,mEx f e=.ok a:=errE_ok h (mEx_ne e)
theorem mSts_0 {f:Lf->Lf×Int} {g:ByteArray->ByteArray} {l:List St} (h:jR (gD f g l)=0):∃a,gD f g l=.ok a:=errE_ok h (mSts_ne l)
theorem err_is {α:Type} {x:Except Int α} (h:¬jR x=0):x=.error (jR x):=by
 cases x with
 |ok a=>exact absurd rfl h
 |error c=>rfl
theorem mIxs_err {f:Lf->Lf×Int} {i:List Ix} (h:¬jR (fJ f i)=0):fJ f i=.error (jR (fJ f i)):=err_is h
theorem mEx_err {f:Lf->Lf×Int} {e:Ex} (h:¬jR (mEx f e)=0):mEx f e=.error (jR (mEx f e)):=err_is h
theorem mSts_err {f:Lf->Lf×Int} {g:ByteArray->ByteArray} {l:List St} (h:¬jR (gD f g l)=0):gD f g l=.error (jR (gD f g l)):=err_is h
theorem ixsAll_of {P:Lf->Prop} {e:Ex} (h:e.allF P):tO P e.Idx:=fun x hx=>⟨Ex.allF_ix h hx,fun l hl=>Ex.allF_at h hx hl⟩
theorem mid_getS {A:List (List C)} {l:List St} {k:Nat} {x:St} (hA:A.length=k) (h:l[k]? =some x):(A++(l.drop k).map St.cells)[k]? =some x.cs:=by
 rw [zOm hA h,St.cells_eq]
mutual
theorem st_short {B:Nat}:∀s:St,s.wt<=B->s.allF (fun l=>l.L.length<=B)
 |.mk o nm mn mk fo i e b,h=>by
  rw [St.allF]
  rw [St.wt] at h
  refine ⟨fun x hx=>?_,fun x hx l hl=>zRc (Nat.le_trans (zFh e x hx) zC) hl,zNx b zC⟩
  have:=zCh hx
  rw [Ix.wt] at this
  exact ⟨zC,fun l hl=>by have:=zBz hl;omega⟩
theorem zNx {B:Nat}:∀l:List St,bI l<=B->nN (fun l=>l.L.length<=B) l
 |[],_=>by rw [nN];trivial
 |s::r,h=>by
  rw [bI] at h
  rw [nN]
  exact ⟨st_short s zC,zNx r zC⟩
end
theorem sts_short {l:List St} {B:Nat} (h:bI l<=B):nN (fun l=>l.L.length<=B) l:=zNx l h
/-! ## What renaming keeps -/
end Go.Br
end
