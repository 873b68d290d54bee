/-
  Loop nests,in plain Lean: buffers,statements,and the cells that hold them.
  What the check of a nest says (30.1),in plain Lean.
  Weights of nests,in plain Lean.
  For the reference's check of nests,in plain Lean.
  Lifetimes as plain data,and what the functions of the layer compute.
  Layer 41 in plain Lean: what statements touch; the spans of buffers.
  Nests walked and mapped,in plain Lean (30.2,30.3).
  Paths in nests,in plain Lean (30.2).
  Names that are not in use,in plain Lean (30.2): numerals,and the first number that is free.
  A loop renamed to a name that is not in use,in plain Lean (30.3,30.5).
  Conditions: none.
-/
import Derived.Test.YtgfomfnjionbeaaGreatDoorPlain
import Derived.Test.YtgfomfnjionbeaaGreatDoorNames
import Derived.Test.YtgfomfnjionbeaaGreatDoorPlain2
set_option linter.unusedSimpArgs false
set_option linter.unusedVariables false
section
namespace Go.Br
open Go Go.Eng Go.L41
structure Bf where
 Name:ByteArray
 T:Ty
 Dims:List Int
 Use:Int
 deriving DecidableEq
inductive St where
 |mk (op:Int) (name:ByteArray) (many mark fold:Int) (idx:List Ix) (ex:Ex) (body:List St)
namespace St
def Op:St->Int|mk x _ _ _ _ _ _ _=>x
def Name:St->ByteArray|mk _ x _ _ _ _ _ _=>x
def Many:St->Int|mk _ _ x _ _ _ _ _=>x
def Mark:St->Int|mk _ _ _ x _ _ _ _=>x
def Fold:St->Int|mk _ _ _ _ x _ _ _=>x
def Idx:St->List Ix|mk _ _ _ _ _ x _ _=>x
def E:St->Ex|mk _ _ _ _ _ _ x _=>x
def Body:St->List St|mk _ _ _ _ _ _ _ x=>x
theorem ind {P:St->Prop} (h:∀s:St,(∀a,a∈s.Body->P a)->P s) (s:St):P s:=
 St.rec (motive_1:=P) (motive_2:=fun l=>∀a,a∈l->P a) (fun o n m k f i e b ih=>h (mk o n m k f i e b) ih) (fun a h=>by cases h)
  (fun x l hx hl a ha=>by rcases List.mem_cons.1 ha with rfl|ha;exact hx;exact hl a ha) s
end St
structure Ns where
 Bufs:List Bf
 Body:List St
def Bf.cells (b:Bf):List C:=[cS b.Name,cI b.T.Kind,cI b.T.Bits,cI b.T.Frac,cI b.T.Round,cI b.T.Over,.sl 1 (b.Dims.map fun n=>[cI n]),cI b.Use]
mutual
def St.cells:St->List C
 |.mk o n m k f i e b=>[cI o,cS n,cI m,cI k,cI f,.sl 4 (i.map Ix.cells)]++e.cs++[.sl 20 (stCellsL b)]
def stCellsL:List St->List (List C)
 |[]=>[]
 |s::r=>s.cells::stCellsL r
end
theorem stCellsL_eq (l:List St):stCellsL l=l.map St.cells:=by
 induction l with
 |nil=>rfl
 |cons s r ih=>rw [stCellsL,ih];rfl
def St.cs (s:St):List C:=[cI s.Op,cS s.Name,cI s.Many,cI s.Mark,cI s.Fold,.sl 4 (s.Idx.map Ix.cells),
 cI s.E.Op,cS s.E.Name,cI s.E.Val.N,cI s.E.Val.D,cI s.E.Ty.Kind,cI s.E.Ty.Bits,cI s.E.Ty.Frac,cI s.E.Ty.Round,cI s.E.Ty.Over,cI s.E.Lin.K,.sl 2 (s.E.Lin.L.map Mono.cells),.sl 4 (s.E.Idx.map Ix.cells),.sl 13 (s.E.Args.map Ex.cells),.sl 20 (s.Body.map St.cells)]
theorem St.cells_eq (s:St):s.cells=s.cs:=by
 cases s;rw [St.cells,stCellsL_eq];rfl
def Ns.cells (n:Ns):List C:=[.sl 8 (n.Bufs.map Bf.cells),.sl 20 (n.Body.map St.cells)]
abbrev vBf (b:Bf):V:=.agg b.cells
abbrev vSt (s:St):V:=.agg s.cs
abbrev vSts (l:List St):V:=.c (.sl 20 (l.map St.cells))
abbrev vNs (n:Ns):V:=.agg n.cells
abbrev vIs (l:List Int):V:=.c (.sl 1 (l.map fun n=>[cI n]))
abbrev vBfs (l:List Bf):V:=.c (.sl 8 (l.map Bf.cells))
theorem allP_next {α:Type} {p:α->Bool} {l:List α} {k:Nat} {x:α} (h:l[k]? =some x) (hp:(l.take k).all p=true) (hx:p x=true):(l.take (k+1)).all p=true:=by
 rw [qW h,List.all_append,hp];simp [hx]
theorem zEh {l:List St} {k:Nat} {x:St} (h:l[k]? =some x):(l.map St.cells)[k]? =some x.cs:=by
 rw [getm h,St.cells_eq]
/-! ## Sizes -/
mutual
def St.wt:St->Nat
 |.mk _ _ _ _ _ i e b=>1+e.wt+i.length+idxWt i+stsWt b
def stsWt:List St->Nat
 |[]=>0
 |s::r=>s.wt+stsWt r
end
theorem St.wt_eq (s:St):s.wt=1+s.E.wt+s.Idx.length+idxWt s.Idx+stsWt s.Body:=by cases s;rw [St.wt];rfl
theorem zBi (l:List St):l.length<=stsWt l:=by
 induction l with
 |nil=>simp [stsWt]
 |cons y r ih=>rw [stsWt,List.length_cons];have:=y.wt_eq;omega
theorem zCb {l:List St} {a:St} (h:a∈l):a.wt<=stsWt l:=by
 induction l with
 |nil=>cases h
 |cons x r ih=>
  rw [stsWt]
  exact j8
theorem St.wt_pos (s:St):1<=s.wt:=by rw [St.wt_eq];omega
theorem zGx:∀(a b:List St),stsWt (a++b)=stsWt a+stsWt b
 |[],b=>by simp [stsWt]
 |x::r,b=>by rw [List.cons_append,stsWt,stsWt,zGx r b];omega
theorem St.body_wt (s:St):stsWt s.Body<s.wt:=by rw [St.wt_eq s];omega
theorem St.parts {s:St} {B:Nat} (h:s.wt<=B):s.E.wt<=B/\s.Idx.length<=B/\idxWt s.Idx<=B/\s.Body.length<=B/\stsWt s.Body<=B:=by
 rw [St.wt_eq] at h
 have:=zBi s.Body
 omega
def rdE (s:St):Ex:=.mk 3 s.Name ⟨0,0⟩ ⟨0,0,0,0,0⟩ ⟨0,[]⟩ s.Idx []
theorem rdE_wt (s:St):(rdE s).wt<=s.wt+1:=by
 rw [Ex.wt_eq,St.wt_eq];simp only [rdE,Ex.Lin,Ex.Idx,Ex.Args,argsWt,List.length_nil];omega
/-! ## Shapes (11.1) -/
def posI (n:Int):Bool:=decide (1<=n)
def sizeFrom:Int->List Int->Option Int
 |s,[]=>some s
 |s,n::r=>if 4096<s*n then none else sizeFrom (s*n) r
def dimsErr (d:List Int):Int:=if 6<d.length then 2 else if d.all posI=true then (if (sizeFrom 1 d).isSome=true then 0 else 2) else 1
theorem dims_long {d:List Int} (h:6<d.length):dimsErr d=2:=by unfold dimsErr;rw [if_pos h]
theorem dims_neg {d:List Int} {k:Nat} {n:Int} (h:¬6<d.length) (hn:d[k]? =some n) (h2:n<1):dimsErr d=1:=by
 unfold dimsErr
 rw [if_neg h,if_neg (by rw [all_no hn (p:=posI) (by unfold posI;exact decide_eq_false (by omega))];simp)]
theorem dims_over {d:List Int} (h:¬6<d.length) (h1:d.all posI=true) (h2:sizeFrom 1 d=none):dimsErr d=2:=by
 unfold dimsErr;rw [if_neg h,if_pos h1,h2];rfl
theorem dims_ok {d:List Int} {s:Int} (h:¬6<d.length) (h1:d.all posI=true) (h2:sizeFrom 1 d=some s):dimsErr d=0:=by
 unfold dimsErr;rw [if_neg h,if_pos h1,h2];rfl
theorem size_next {d:List Int} {k:Nat} {n s:Int} (h:d[k]? =some n) (hs:sizeFrom 1 d=sizeFrom s (d.drop k)) (h2:¬4096<s*n):sizeFrom 1 d=sizeFrom (s*n) (d.drop (k+1)):=by
 rw [hs,qN h,sizeFrom,if_neg h2]
theorem size_over {d:List Int} {k:Nat} {n s:Int} (h:d[k]? =some n) (hs:sizeFrom 1 d=sizeFrom s (d.drop k)) (h2:4096<s*n):sizeFrom 1 d=none:=by
 rw [hs,qN h,sizeFrom,if_pos h2]
theorem size_done {d:List Int} {k:Nat} {s:Int} (hs:sizeFrom 1 d=sizeFrom s (d.drop k)) (h:¬k<d.length):sizeFrom 1 d=some s:=by
 rw [hs,kV h];rfl
theorem quo_lt {s n:Int} (h:1<=s):Int.tdiv 4096 s<n↔4096<s*n:=by
 rw [Int.tdiv_eq_ediv_of_nonneg (by omega),Int.ediv_lt_iff_lt_mul (by omega),Int.mul_comm]
theorem quo_wrap {s:Int} (h:1<=s):IntKind.i64.wrap (Int.tdiv 4096 s)=Int.tdiv 4096 s:=by
 have h1:Int.tdiv 4096 s=4096/s:=Int.tdiv_eq_ediv_of_nonneg (by omega)
 have h2:0<=(4096:Int)/s:=Int.ediv_nonneg (by omega) (by omega)
 have h3:(4096:Int)/s<=4096:=Int.ediv_le_self _ (by omega)
 exact zJe ⟨by omega,by omega⟩
theorem quo_t {s n:Int} (h:1<=s) (c:IntKind.i64.wrap (Int.tdiv 4096 s)<n):4096<s*n:=by rw [quo_wrap h] at c;exact (quo_lt h).1 c
theorem quo_f {s n:Int} (h:1<=s) (c:¬IntKind.i64.wrap (Int.tdiv 4096 s)<n):¬4096<s*n:=by rw [quo_wrap h] at c;exact fun k=>c ((quo_lt h).2 k)
theorem posI_get {d:List Int} {k:Nat} {n:Int} (h:d.all posI=true) (hn:d[k]? =some n):1<=n:=by
 have:=(List.all_eq_true.1 h) n (qC hn)
 simpa [posI] using this
theorem mul_pos1 {s n:Int} (h:1<=s) (h2:1<=n):1<=s*n/\n<=s*n:=by
 have h3:1*n<=s*n:=Int.mul_le_mul_of_nonneg_right h (by omega)
 omega
def zBf:Bf:=⟨bs [],zTy,[],0⟩
def hasBf (l:List Bf) (s:ByteArray):Bool:=l.any fun b=>decide (b.Name=s)
def bufD:List Bf->ByteArray->Bf
 |[],_=>zBf
 |b::r,s=>if b.Name=s then b else bufD r s
theorem bufD_at {l:List Bf} {k:Nat} {b:Bf} {s:ByteArray} (h:l[k]? =some b) (hb:b.Name=s):bufD (l.drop k) s=b:=by rw [qN h,bufD,if_pos hb]
theorem bufD_next {l:List Bf} {k:Nat} {b:Bf} {s:ByteArray} (h:l[k]? =some b) (hb:¬b.Name=s):bufD (l.drop k) s=bufD (l.drop (k+1)) s:=by rw [qN h,bufD,if_neg hb]
theorem hasBf_at {l:List Bf} {k:Nat} {b:Bf} {s:ByteArray} (h:l[k]? =some b) (hb:b.Name=s):hasBf l s=true:=by
 unfold hasBf;rw [List.any_eq_true];exact ⟨b,qC h,decide_eq_true hb⟩
theorem hasBf_next {l:List Bf} {k:Nat} {b:Bf} {s:ByteArray} (h:l[k]? =some b) (hp:hasBf (l.take k) s=false) (hb:¬b.Name=s):hasBf (l.take (k+1)) s=false:=by
 unfold hasBf at *;rw [qW h,List.any_append,hp];simp [hb]
theorem bufD_no:∀{l:List Bf} {s:ByteArray},hasBf l s=false->bufD l s=zBf
 |[],_,_=>rfl
 |b::r,s,h=>by
  simp only [hasBf,List.any_cons,Bool.or_eq_false_iff,decide_eq_false_iff_not] at h
  rw [bufD,if_neg h.1];exact bufD_no h.2
def bfErr (seen:List Bf) (b:Bf):Int:=
 if isNameB b.Name=true then (if hasBf seen b.Name=true then 8 else if tyOk b.T=true then (if dimsErr b.Dims=0 then (if b.Use<1∨3<b.Use then 1 else 0) else dimsErr b.Dims) else 10) else 7
def bufsErr:List Bf->List Bf->Int
 |_,[]=>0
 |seen,b::r=>if bfErr seen b=0 then bufsErr (seen++[b]) r else bfErr seen b
theorem bfErr_7 {seen:List Bf} {b:Bf} (h:isNameB b.Name=false):bfErr seen b=7:=by unfold bfErr;rw [if_neg (by rw [h];simp)]
theorem bfErr_8 {seen:List Bf} {b:Bf} (h:isNameB b.Name=true) (h2:hasBf seen b.Name=true):bfErr seen b=8:=by unfold bfErr;rw [if_pos h,if_pos h2]
theorem bfErr_10 {seen:List Bf} {b:Bf} (h:isNameB b.Name=true) (h2:hasBf seen b.Name=false) (h3:tyOk b.T=false):bfErr seen b=10:=by unfold bfErr;rw [if_pos h,if_neg (by rw [h2];simp),if_neg (by rw [h3];simp)]
theorem bfErr_d {seen:List Bf} {b:Bf} (h:isNameB b.Name=true) (h2:hasBf seen b.Name=false) (h3:tyOk b.T=true) (h4:¬dimsErr b.Dims=0):bfErr seen b=dimsErr b.Dims:=by unfold bfErr;rw [if_pos h,if_neg (by rw [h2];simp),if_pos h3,if_neg h4]
theorem bfErr_u {seen:List Bf} {b:Bf} (h:isNameB b.Name=true) (h2:hasBf seen b.Name=false) (h3:tyOk b.T=true) (h4:dimsErr b.Dims=0) (h5:b.Use<1∨3<b.Use):bfErr seen b=1:=by unfold bfErr;rw [if_pos h,if_neg (by rw [h2];simp),if_pos h3,if_pos h4,if_pos h5]
theorem bfErr_0 {seen:List Bf} {b:Bf} (h:isNameB b.Name=true) (h2:hasBf seen b.Name=false) (h3:tyOk b.T=true) (h4:dimsErr b.Dims=0) (h5:¬(b.Use<1∨3<b.Use)):bfErr seen b=0:=by unfold bfErr;rw [if_pos h,if_neg (by rw [h2];simp),if_pos h3,if_pos h4,if_neg h5]
theorem bufsErr_next {l:List Bf} {k:Nat} {b:Bf} (h:l[k]? =some b) (hp:bufsErr [] l=bufsErr (l.take k) (l.drop k)) (hb:bfErr (l.take k) b=0):bufsErr [] l=bufsErr (l.take (k+1)) (l.drop (k+1)):=by
 rw [hp,qN h,bufsErr,if_pos hb,qW h]
theorem zFm {l:List Bf} {k:Nat} {b:Bf} (h:l[k]? =some b) (hp:bufsErr [] l=bufsErr (l.take k) (l.drop k)) (hb:¬bfErr (l.take k) b=0):bufsErr [] l=bfErr (l.take k) b:=by
 rw [hp,qN h,bufsErr,if_neg hb]
theorem bufsErr_end {l:List Bf} {k:Nat} (hp:bufsErr [] l=bufsErr (l.take k) (l.drop k)) (h:¬k<l.length):bufsErr [] l=0:=by
 rw [hp,kV h];rfl
/-! ## Depth and number of statements -/
def withinT:Nat->List St->Bool
 |0,l=>l.isEmpty
 |n+1,l=>l.all fun s=>withinT n s.Body
mutual
def stN:St->Nat
 |.mk _ _ _ _ _ _ _ b=>1+stsN b
def stsN:List St->Nat
 |[]=>0
 |s::r=>stN s+stsN r
end
def withinG (n:Nat) (l:List St):Bool:=withinT n l
theorem withinG_eq (n:Nat) (l:List St):withinG n l=withinT n l:=rfl
theorem withinG_next {n:Nat} {l:List St} {k:Nat} {s:St} (h:l[k]? =some s) (hp:withinG n (l.take k)=true) (hn:1<=n) (hs:withinT (n-1) s.Body=true):withinG n (l.take (k+1))=true:=by
 obtain ⟨m,rfl⟩:∃m,n=m+1:=⟨n-1,by omega⟩
 exact allP_next h hp hs
theorem within_no {n:Nat} {l:List St} {k:Nat} {s:St} {x:Int} (h:l[k]? =some s) (hx:x=n) (c:(decide (x<1)|| !withinT (n-1) s.Body)=true):withinT n l=false:=by
 cases n with
 |zero=>cases l with
  |nil=>simp at h
  |cons a r=>rfl
 |succ n=>
  have:withinT n s.Body=false:=by
   rw [Bool.or_eq_true] at c
   rcases c with c|c
   ·rw [decide_eq_true_eq] at c;omega
   ·simpa using c
  exact all_no h this
theorem within_yes {n:Nat} {s:St} {x:Int} (hx:x=n) (c:(decide (x<1)|| !withinT (n-1) s.Body)=false):1<=n/\withinT (n-1) s.Body=true:=by
 rw [Bool.or_eq_false_iff] at c
 refine ⟨?_,by simpa using c.2⟩
 have:=c.1;rw [decide_eq_false_iff_not] at this;omega
theorem stN_eq (s:St):stN s=1+stsN s.Body:=by cases s;rw [stN];rfl
theorem zOp:∀(a b:List St),stsN (a++b)=stsN a+stsN b
 |[],b=>by simp [stsN]
 |x::r,b=>by rw [List.cons_append,stsN,stsN,zOp r b];omega
theorem zEk:∀l:List St,l.length<=stsN l
 |[]=>by simp [stsN]
 |x::r=>by have:=zEk r;have:=stN_eq x;rw [stsN,List.length_cons];omega
mutual
theorem stN_wt:∀s:St,stN s<=s.wt
 |.mk o n m k f i e b=>by rw [stN,St.wt];have:=stsN_wt b;omega
theorem stsN_wt:∀l:List St,stsN l<=stsWt l
 |[]=>by simp [stsN,stsWt]
 |s::r=>by rw [stsN,stsWt];have:=stN_wt s;have:=stsN_wt r;omega
end
mutual
def numS:St->Nat->Nat
 |.mk _ _ _ _ _ _ _ b,m=>numL b m b.length
def numL:List St->Nat->Nat->Nat
 |[],_,n=>n
 |s::r,m,n=>if n<=m then numL r m (n+numS s (m-n)) else n
end
def numB (l:List St) (m:Nat):Nat:=numL l m l.length
theorem numS_eq (s:St) (m:Nat):numS s m=numB s.Body m:=by cases s;rw [numS];rfl
mutual
theorem numS_le:∀(s:St) (m:Nat),numS s m<=stN s-1
 |.mk _ _ _ _ _ _ _ b,m=>by
  rw [numS,stN]
  have h1:=numL_le b m b.length
  have h2:=zEk b
  omega
theorem numL_le:∀(l:List St) (m n:Nat),numL l m n<=n+(stsN l-l.length)
 |[],m,n=>by simp [numL]
 |s::r,m,n=>by
  rw [numL]
  have h3:=zEk r
  have h4:=stN_eq s
  split
  ·have h1:=numL_le r m (n+numS s (m-n))
   have h2:=numS_le s (m-n)
   rw [stsN,List.length_cons];omega
  ·rw [stsN,List.length_cons];omega
end
theorem numB_le (l:List St) (m:Nat):numB l m<=stsN l:=by
 have h1:=numL_le l m l.length
 have h2:=zEk l
 unfold numB;omega
theorem numL_ge:∀(l:List St) (m n:Nat),n<=numL l m n
 |[],m,n=>by rw [numL];omega
 |s::r,m,n=>by
  rw [numL];split
  ·have:=numL_ge r m (n+numS s (m-n));omega
  ·omega
mutual
theorem numS_ok:∀(s:St) (m:Nat),numS s m<=m->numS s m=stN s-1
 |.mk _ _ _ _ _ _ _ b,m,h=>by
  rw [numS] at h⊢
  rw [stN,numL_ok b m _ h]
  have:=zEk b;omega
theorem numL_ok:∀(l:List St) (m n:Nat),numL l m n<=m->numL l m n=n+(stsN l-l.length)
 |[],m,n,h=>by simp [numL,stsN]
 |s::r,m,n,h=>by
  have h3:=zEk r
  have h4:=stN_eq s
  by_cases hn:n<=m
  ·rw [numL,if_pos hn] at h⊢
   have h5:=numL_ge r m (n+numS s (m-n))
   have h6:=numS_ok s (m-n) (by omega)
   rw [numL_ok r m _ h,h6,stsN,List.length_cons];omega
  ·rw [numL,if_neg hn] at h;omega
end
theorem numB_ok {l:List St} {m:Nat} (h:numB l m<=m):stsN l=numB l m:=by
 have h2:=zEk l
 unfold numB at *
 rw [numL_ok l m _ h];omega
theorem num_next {l:List St} {k m n N:Nat} {s:St} (h:l[k]? =some s) (hp:N=numL (l.drop k) m n) (hn:n<=m):N=numL (l.drop (k+1)) m (n+numB s.Body (m-n)):=by
 rw [hp,qN h,numL,if_pos hn,numS_eq]
theorem num_end {l:List St} {k m n N:Nat} (hp:N=numL (l.drop k) m n) (h:l.length<=k∨m<n):n=N:=by
 rw [hp]
 by_cases hk:k<l.length
 ·obtain ⟨a,ha⟩:=yD l k hk
  rw [qN ha,numL,if_neg (by omega)]
 ·rw [kV hk,numL]
theorem stsN_mem {l:List St} {s:St} (h:s∈l):stN s<=stsN l:=by
 induction l with
 |nil=>cases h
 |cons x r ih=>
  rw [stsN]
  exact j8
theorem stsN_drop {l:List St} {k:Nat} {s:St} (h:l[k]? =some s):stsN (l.drop k)=stN s+stsN (l.drop (k+1)):=by rw [qN h,stsN]
theorem num_sum {l:List St} {k m n:Nat} {s:St} (h:l[k]? =some s) (hp:numB l m=numL (l.drop k) m n) (hn:n<=m):n+numB s.Body (m-n)<=n+stsN l:=by
 have h1:=numB_le s.Body (m-n)
 have h2:stsN l=stsN (l.take k)+(stN s+stsN (l.drop (k+1))):=by
  rw [←stsN,←qN h,←zOp,List.take_append_drop]
 have:=stN_eq s
 omega
end Go.Br
end
section
namespace Go.Br
open Go Go.Eng Go.L41
/-! ## Names of a node -/
def inSc (sc:List ByteArray) (l:Lf):Bool:=l.L.all fun m=>hasB sc m.Name
def ixSc (sc:List ByteArray) (x:Ix):Bool:=inSc sc x.Lin&&x.At.all (inSc sc)
def nodeSc (sc:List ByteArray) (e:Ex):Bool:=inSc sc e.Lin&&e.Idx.all (ixSc sc)
def gathE (B:List Bf) (x:Ix):Int:=
 if x.From=bs [] then 0 else if hasBf B x.From=true then (if (bufD B x.From).T.Kind=3 then (if (bufD B x.From).Dims.length=x.At.length then 0 else 11) else 10) else 9
def gathL (B:List Bf):List Ix->Int
 |[]=>0
 |x::r=>if gathE B x=0 then gathL B r else gathE B x
def nodeN (B:List Bf) (sc:List ByteArray) (e:Ex):Int:=
 if nodeSc sc e=true then (if e.Op=3 then (if hasBf B e.Name=true then (if (bufD B e.Name).Dims.length=e.Idx.length then gathL B e.Idx else 11) else 9) else 0) else 9
def nodesN (B:List Bf) (sc:List ByteArray):List Ex->Int
 |[]=>0
 |e::r=>if nodeN B sc e=0 then nodesN B sc r else nodeN B sc e
theorem gathE_0 {B:List Bf} {x:Ix} (h:x.From=bs []):gathE B x=0:=by unfold gathE;rw [if_pos h]
theorem gathE_9 {B:List Bf} {x:Ix} (h:¬x.From=bs []) (h1:hasBf B x.From=false):gathE B x=9:=by unfold gathE;rw [if_neg h,if_neg (by rw [h1];simp)]
theorem gathE_10 {B:List Bf} {x:Ix} (h:¬x.From=bs []) (h1:hasBf B x.From=true) (h2:¬(bufD B x.From).T.Kind=3):gathE B x=10:=by unfold gathE;rw [if_neg h,if_pos h1,if_neg h2]
theorem gathE_11 {B:List Bf} {x:Ix} (h:¬x.From=bs []) (h1:hasBf B x.From=true) (h2:(bufD B x.From).T.Kind=3) (h3:¬(bufD B x.From).Dims.length=x.At.length):gathE B x=11:=by unfold gathE;rw [if_neg h,if_pos h1,if_pos h2,if_neg h3]
theorem gathE_ok {B:List Bf} {x:Ix} (h:¬x.From=bs []) (h1:hasBf B x.From=true) (h2:(bufD B x.From).T.Kind=3) (h3:(bufD B x.From).Dims.length=x.At.length):gathE B x=0:=by unfold gathE;rw [if_neg h,if_pos h1,if_pos h2,if_pos h3]
theorem gathL_next {B:List Bf} {l:List Ix} {k:Nat} {x:Ix} (h:l[k]? =some x) (hx:gathE B x=0):gathL B (l.drop k)=gathL B (l.drop (k+1)):=by rw [qN h,gathL,if_pos hx]
theorem gathL_no {B:List Bf} {l:List Ix} {k:Nat} {x:Ix} (h:l[k]? =some x) (hx:¬gathE B x=0):gathL B (l.drop k)=gathE B x:=by rw [qN h,gathL,if_neg hx]
theorem nodeN_9 {B:List Bf} {sc:List ByteArray} {e:Ex} (h:nodeSc sc e=false):nodeN B sc e=9:=by unfold nodeN;rw [if_neg (by rw [h];simp)]
theorem nodeN_o {B:List Bf} {sc:List ByteArray} {e:Ex} (h:nodeSc sc e=true) (h1:¬e.Op=3):nodeN B sc e=0:=by unfold nodeN;rw [if_pos h,if_neg h1]
theorem nodeN_n {B:List Bf} {sc:List ByteArray} {e:Ex} (h:nodeSc sc e=true) (h1:e.Op=3) (h2:hasBf B e.Name=false):nodeN B sc e=9:=by unfold nodeN;rw [if_pos h,if_pos h1,if_neg (by rw [h2];simp)]
theorem nodeN_r {B:List Bf} {sc:List ByteArray} {e:Ex} (h:nodeSc sc e=true) (h1:e.Op=3) (h2:hasBf B e.Name=true) (h3:¬(bufD B e.Name).Dims.length=e.Idx.length):nodeN B sc e=11:=by unfold nodeN;rw [if_pos h,if_pos h1,if_pos h2,if_neg h3]
theorem nodeN_g {B:List Bf} {sc:List ByteArray} {e:Ex} (h:nodeSc sc e=true) (h1:e.Op=3) (h2:hasBf B e.Name=true) (h3:(bufD B e.Name).Dims.length=e.Idx.length):nodeN B sc e=gathL B e.Idx:=by unfold nodeN;rw [if_pos h,if_pos h1,if_pos h2,if_pos h3]
theorem zFt (B:List Bf) (sc:List ByteArray):∀(a b:List Ex),nodesN B sc (a++b)=if nodesN B sc a=0 then nodesN B sc b else nodesN B sc a
 |[],b=>by simp [nodesN]
 |x::r,b=>by
  rw [List.cons_append,nodesN,nodesN,zFt B sc r b]
  by_cases h:nodeN B sc x=0
  ·rw [if_pos h,if_pos h]
  ·rw [if_neg h,if_neg h,if_neg h]
theorem zMe {B:List Bf} {sc:List ByteArray} {pre:List Ex} {x:Ex} (h:nodesN B sc pre=0):nodesN B sc (pre++[x])=nodeN B sc x:=by
 rw [zFt,if_pos h,nodesN,nodesN]
 by_cases hx:nodeN B sc x=0
 ·rw [if_pos hx,hx]
 ·rw [if_neg hx]
theorem nodesN_pre {B:List Bf} {sc:List ByteArray} {pre suf:List Ex} {x:Ex} (h:¬nodesN B sc (pre++[x])=0):nodesN B sc (pre++x::suf)=nodesN B sc (pre++[x]):=by
 rw [show pre++x::suf=(pre++[x])++suf by simp,zFt,if_neg h]
def tyF (B:List Bf) (e:Ex) (l:List Ty):Ty×Int:=
 if e.Op=1∨e.Op=12 then (e.Ty,0) else
 if e.Op=2 then (iTy,0) else
 if e.Op=3 then ((bufD B e.Name).T,0) else
 if e.Op=8 then (tyAt l 0,0) else
 if e.Op=16∨e.Op=17∨e.Op=18 then (zTy,0) else
 if tyAt l (l.length-2)=tyAt l (l.length-1) then (if isCond e=true then (zTy,0) else (tyAt l (l.length-1),0)) else (zTy,10)
theorem zBh {B:List Bf} {e:Ex} {l:List Ty} (h:e.Op=1∨e.Op=12):tyF B e l=(e.Ty,0):=by unfold tyF;rw [if_pos h]
theorem zBg {B:List Bf} {e:Ex} {l:List Ty} (h:e.Op=2):tyF B e l=(iTy,0):=by unfold tyF;rw [if_neg (by omega),if_pos h]
theorem zAx {B:List Bf} {e:Ex} {l:List Ty} (h:e.Op=3):tyF B e l=((bufD B e.Name).T,0):=by unfold tyF;rw [if_neg (by omega),if_neg (by omega),if_pos h]
theorem zBe {B:List Bf} {e:Ex} {l:List Ty} (h:e.Op=8):tyF B e l=(tyAt l 0,0):=by unfold tyF;rw [if_neg (by omega),if_neg (by omega),if_neg (by omega),if_pos h]
theorem wJ {B:List Bf} {e:Ex} {l:List Ty} (h:e.Op=16∨e.Op=17∨e.Op=18):tyF B e l=(zTy,0):=by unfold tyF;rw [if_neg (by omega),if_neg (by omega),if_neg (by omega),if_neg (by omega),if_pos h]
abbrev opLow (o:Int):Prop:=o=1∨o=12∨o=2∨o=3∨o=8∨o=16∨o=17∨o=18
theorem tyF_o {B:List Bf} {e:Ex} {l:List Ty} (h:¬opLow e.Op):tyF B e l=if tyAt l (l.length-2)=tyAt l (l.length-1) then (if isCond e=true then (zTy,0) else (tyAt l (l.length-1),0)) else (zTy,10):=by
 unfold opLow at h;unfold tyF;rw [if_neg (by omega),if_neg (by omega),if_neg (by omega),if_neg (by omega),if_neg (by omega)]
theorem wK {B:List Bf} {e:Ex} {l:List Ty} (h:¬opLow e.Op) (h2:¬tyAt l (l.length-2)=tyAt l (l.length-1)):tyF B e l=(zTy,10):=by rw [tyF_o h,if_neg h2]
theorem zBd {B:List Bf} {e:Ex} {l:List Ty} (h:¬opLow e.Op) (h2:tyAt l (l.length-2)=tyAt l (l.length-1)) (h3:isCond e=true):tyF B e l=(zTy,0):=by rw [tyF_o h,if_pos h2,if_pos h3]
theorem zBc {B:List Bf} {e:Ex} {l:List Ty} (h:¬opLow e.Op) (h2:tyAt l (l.length-2)=tyAt l (l.length-1)) (h3:isCond e=false):tyF B e l=(tyAt l (l.length-1),0):=by rw [tyF_o h,if_pos h2,if_neg (by rw [h3];simp)]
theorem tyF_zero {B:List Bf} {e:Ex} {l:List Ty} (h:¬(tyF B e l).2=0):(tyF B e l).1=zTy:=by
 unfold tyF at h⊢
 repeat' split at h<;>first|exact absurd rfl h|skip
 all_goals simp_all
theorem nodeT_zero {B:List Bf} {e:Ex} (h:¬(nodeT (tyF B) e).2=0):(nodeT (tyF B) e).1=zTy:=by
 rw [zIl] at h⊢
 split
 ·rename_i c
  rw [if_pos c] at h
  exact tyF_zero h
 ·rfl
def exprT (B:List Bf) (sc:List ByteArray) (e:Ex):Ty×Int:=
 if validE e=0 then (if nodesN B sc (nodes e)=0 then nodeT (tyF B) e else (zTy,nodesN B sc (nodes e))) else (zTy,validE e)
theorem exprT_1 {B:List Bf} {sc:List ByteArray} {e:Ex} (h:¬validE e=0):exprT B sc e=(zTy,validE e):=by unfold exprT;rw [if_neg h]
theorem exprT_2 {B:List Bf} {sc:List ByteArray} {e:Ex} (h:validE e=0) (h2:¬nodesN B sc (nodes e)=0):exprT B sc e=(zTy,nodesN B sc (nodes e)):=by unfold exprT;rw [if_pos h,if_neg h2]
theorem exprT_3 {B:List Bf} {sc:List ByteArray} {e:Ex} (h:validE e=0) (h2:nodesN B sc (nodes e)=0):exprT B sc e=nodeT (tyF B) e:=by unfold exprT;rw [if_pos h,if_pos h2]
theorem exprT_rd {B:List Bf} {sc:List ByteArray} {s:St} (h:(exprT B sc (rdE s)).2=0):(exprT B sc (rdE s)).1=(bufD B s.Name).T:=by
 by_cases h1:validE (rdE s)=0
 ·by_cases h2:nodesN B sc (nodes (rdE s))=0
  ·rw [exprT_3 h1 h2,zIl]
   have:nodeL (tyF B) (rdE s).Args=([],0):=rfl
   rw [this,if_pos rfl,zAx rfl];rfl
  ·rw [exprT_2 h1 h2] at h;exact absurd h h2
 ·rw [exprT_1 h1] at h;exact absurd h h1
/-! ## Statements -/
def emptyE (e:Ex):Bool:=decide (e=zEx)
def isSto (s:St):Bool:=decide (s.Op=2)||decide (s.Op=3)
def synSt (s:St):Bool:=
 (decide (s.Op=1)||isSto s||decide (s.Op=4))&& !(decide (s.Op=4)&& !decide (s.Name=bs []))&& !(!decide (s.Op=1)&&(!decide (s.Many=0)|| !decide (s.Mark=0)))&&
 !(!decide (s.Op=3)&& !decide (s.Fold=0))&& !(!isSto s&&decide ((0:Int)<s.Idx.length))&& !(decide (s.Op=1)&& !emptyE s.E)&&(!isSto s||decide ((s.Body.length:Int)=0))
theorem syn_1 {s:St} (c:((!decide (s.Op=1)&& !(decide (s.Op=2)||decide (s.Op=3)))&& !decide (s.Op=4))=true):false=synSt s:=by
 unfold synSt isSto
 simp only [Bool.and_eq_true,Bool.not_eq_true',Bool.or_eq_false_iff] at c
 simp only [c.1.1,c.1.2.1,c.1.2.2,c.2,Bool.or_self,Bool.false_and]
theorem syn_2 {s:St} (c:(decide (s.Op=4)&& !decide (s.Name=bs []))=true):false=synSt s:=by
 exact v14
theorem syn_3 {s:St} (c:(!decide (s.Op=1)&&(!decide (s.Many=0)|| !decide (s.Mark=0)))=true):false=synSt s:=by
 exact v14
theorem syn_4 {s:St} (c:(!decide (s.Op=3)&& !decide (s.Fold=0))=true):false=synSt s:=by
 exact v14
theorem syn_5 {s:St} (c:(!isSto s&&decide ((0:Int)<s.Idx.length))=true):false=synSt s:=by
 exact v14
theorem syn_6 {s:St} (c:(decide (s.Op=1)&& !emptyE s.E)=true):false=synSt s:=by
 exact v14
theorem syn_7 {s:St} (c1:((!decide (s.Op=1)&& !isSto s)&& !decide (s.Op=4))=false) (c2:(decide (s.Op=4)&& !decide (s.Name=bs []))=false) (c3:(!decide (s.Op=1)&&(!decide (s.Many=0)|| !decide (s.Mark=0)))=false) (c4:(!decide (s.Op=3)&& !decide (s.Fold=0))=false)
  (c5:(!isSto s&&decide ((0:Int)<s.Idx.length))=false) (c6:(decide (s.Op=1)&& !emptyE s.E)=false):(!isSto s||decide ((s.Body.length:Int)=0))=synSt s:=by
 have h1:(decide (s.Op=1)||isSto s||decide (s.Op=4))=true:=by
  revert c1;cases decide (s.Op=1)<;>cases isSto s<;>cases decide (s.Op=4)<;>simp
 unfold synSt
 simp only [h1,c2,c3,c4,c5,c6,Bool.not_false,Bool.true_and]
def loopE (B:List Bf) (U:List ByteArray) (s:St):Int:=
 if isNameB s.Name=true then (if hasBf B s.Name=true∨hasB U s.Name=true then 8 else if s.Many<1∨65536<s.Many∨s.Mark<0∨3<s.Mark then 1 else 0) else 7
def ifE (B:List Bf) (sc:List ByteArray) (s:St):Int:=if (exprT B sc s.E).2=0 then (if isCond s.E=true then 0 else 10) else (exprT B sc s.E).2
def storeE (B:List Bf) (sc:List ByteArray) (s:St):Int:=
 if (exprT B sc (rdE s)).2=0 then (if (bufD B s.Name).Use=1∨(s.Op=3/\(s.Fold<1∨4<s.Fold)) then 1 else
  if (exprT B sc s.E).2=0 then (if isCond s.E=true∨¬(exprT B sc s.E).1=(bufD B s.Name).T then 10 else 0) else (exprT B sc s.E).2) else (exprT B sc (rdE s)).2
def stE (B:List Bf) (U sc:List ByteArray) (s:St):Int:=
 if synSt s=true then (if s.Op=1 then loopE B U s else if s.Op=4 then ifE B sc s else storeE B sc s) else 5
structure Ck where
 U:List ByteArray
 W:List Int
 E:Int
def nextU (U:List ByteArray) (s:St):List ByteArray:=if s.Op=1 then U++[s.Name] else U
mutual
def chkS (B:List Bf):List ByteArray->List ByteArray->List Int->St->Ck
 |U,sc,here,.mk o nm mn mk fo i e b=>if stE B U sc (.mk o nm mn mk fo i e b)=0 then chkL B (nextU U (.mk o nm mn mk fo i e b)) (nextU sc (.mk o nm mn mk fo i e b)) here 0 b else ⟨[],here,stE B U sc (.mk o nm mn mk fo i e b)⟩
def chkL (B:List Bf):List ByteArray->List ByteArray->List Int->Int->List St->Ck
 |U,_,_,_,[]=>⟨U,[],0⟩
 |U,sc,way,i,s::r=>if (chkS B U sc (way++[i]) s).E=0 then chkL B (chkS B U sc (way++[i]) s).U sc way (i+1) r else chkS B U sc (way++[i]) s
end
theorem chkS_eq (B:List Bf) (U sc:List ByteArray) (here:List Int) (s:St):chkS B U sc here s=if stE B U sc s=0 then chkL B (nextU U s) (nextU sc s) here 0 s.Body else ⟨[],here,stE B U sc s⟩:=by cases s;rw [chkS];rfl
theorem chkS_no {B:List Bf} {U sc:List ByteArray} {here:List Int} {s:St} (h:¬stE B U sc s=0):chkS B U sc here s=⟨[],here,stE B U sc s⟩:=by rw [chkS_eq,if_neg h]
theorem chkS_in {B:List Bf} {U sc:List ByteArray} {here:List Int} {s:St} (h:stE B U sc s=0):chkS B U sc here s=chkL B (nextU U s) (nextU sc s) here 0 s.Body:=by rw [chkS_eq,if_pos h]
theorem chkL_next {B:List Bf} {R:Ck} {U sc:List ByteArray} {way:List Int} {l:List St} {k:Nat} {s:St} (h:l[k]? =some s) (hp:R=chkL B U sc way k (l.drop k)) (hx:(chkS B U sc (way++[(k:Int)]) s).E=0):R=chkL B (chkS B U sc (way++[(k:Int)]) s).U sc way ((k+1:Nat):Int) (l.drop (k+1)):=by
 rw [hp,qN h,chkL,if_pos hx];rfl
theorem zGh {B:List Bf} {R:Ck} {U sc:List ByteArray} {way:List Int} {l:List St} {k:Nat} {s:St} (h:l[k]? =some s) (hp:R=chkL B U sc way k (l.drop k)) (hx:¬(chkS B U sc (way++[(k:Int)]) s).E=0):R=chkS B U sc (way++[(k:Int)]) s:=by
 rw [hp,qN h,chkL,if_neg hx]
theorem chkL_end {B:List Bf} {R:Ck} {U sc:List ByteArray} {way:List Int} {l:List St} {k:Nat} (hp:R=chkL B U sc way k (l.drop k)) (h:¬k<l.length):R=⟨U,[],0⟩:=by
 rw [hp,kV h,chkL]
theorem chkL_ok:∀{B:List Bf} {l:List St} {U sc:List ByteArray} {way:List Int} {i:Int},(chkL B U sc way i l).E=0->(chkL B U sc way i l).W=[]
 |B,[],U,sc,way,i,_=>by rw [chkL]
 |B,s::r,U,sc,way,i,h=>by
  rw [chkL] at h⊢
  by_cases c:(chkS B U sc (way++[i]) s).E=0
  ·rw [if_pos c] at h⊢;exact chkL_ok h
  ·rw [if_neg c] at h;exact absurd h c
mutual
theorem chkS_len (B:List Bf):∀(s:St) (U sc:List ByteArray) (here:List Int),(chkS B U sc here s).U.length<=U.length+stN s
 |.mk o nm mn mk fo i e b,U,sc,here=>by
  rw [chkS,stN]
  split
  ·have h1:=chkL_len B b (nextU U (.mk o nm mn mk fo i e b)) (nextU sc (.mk o nm mn mk fo i e b)) here 0
   have h2:(nextU U (.mk o nm mn mk fo i e b)).length<=U.length+1:=by unfold nextU;split<;>simp
   omega
  ·simp
theorem chkL_len (B:List Bf):∀(l:List St) (U sc:List ByteArray) (way:List Int) (i:Int),(chkL B U sc way i l).U.length<=U.length+stsN l
 |[],U,sc,way,i=>by rw [chkL];simp
 |s::r,U,sc,way,i=>by
  rw [chkL,stsN]
  have h1:=chkS_len B s U sc (way++[i])
  split
  ·have h2:=chkL_len B r (chkS B U sc (way++[i]) s).U sc way (i+1)
   omega
  ·omega
end
theorem nextU_yes {U:List ByteArray} {s:St} (h:s.Op=1):nextU U s=U++[s.Name]:=by unfold nextU;rw [if_pos h]
theorem nextU_no {U:List ByteArray} {s:St} (h:¬s.Op=1):nextU U s=U:=by unfold nextU;rw [if_neg h]
theorem scAll_next {S:List ByteArray} {f:Lf} {l:List Ix} {k:Nat} {x:Ix} (h:l[k]? =some x):((inSc S f&&(l.take k).all (ixSc S))&&inSc S x.Lin&&x.At.all (inSc S))=(inSc S f&&(l.take (k+1)).all (ixSc S)):=by
 rw [qW h,List.all_append]
 simp only [List.all_cons,List.all_nil,Bool.and_true,ixSc,Bool.and_assoc]
theorem st10_t {c:Bool} {a b:Ty} (h:(c|| !litsEq [cI a.Kind,cI a.Bits,cI a.Frac,cI a.Round,cI a.Over] [cI b.Kind,cI b.Bits,cI b.Frac,cI b.Round,cI b.Over])=true):c=true∨¬a=b:=by
 rw [tyC_eq,Bool.or_eq_true] at h
 rcases h with h|h
 ·exact .inl h
 ·exact .inr (by simpa using h)
theorem st10_f {c:Bool} {a b:Ty} (h:(c|| !litsEq [cI a.Kind,cI a.Bits,cI a.Frac,cI a.Round,cI a.Over] [cI b.Kind,cI b.Bits,cI b.Frac,cI b.Round,cI b.Over])=false):¬(c=true∨¬a=b):=by
 rw [tyC_eq,Bool.or_eq_false_iff] at h
 rw [h.1]
 rintro (k|k)
 ·cases k
 ·exact k (by simpa using h.2)
theorem storeE_1 {B:List Bf} {sc:List ByteArray} {s:St} (h:¬(exprT B sc (rdE s)).2=0):storeE B sc s=(exprT B sc (rdE s)).2:=by unfold storeE;rw [if_neg h]
theorem storeE_u {B:List Bf} {sc:List ByteArray} {s:St} (h:(exprT B sc (rdE s)).2=0) (h2:(bufD B s.Name).Use=1∨(s.Op=3/\(s.Fold<1∨4<s.Fold))):storeE B sc s=1:=by unfold storeE;rw [if_pos h,if_pos h2]
theorem storeE_2 {B:List Bf} {sc:List ByteArray} {s:St} (h:(exprT B sc (rdE s)).2=0) (h2:¬((bufD B s.Name).Use=1∨(s.Op=3/\(s.Fold<1∨4<s.Fold)))) (h3:¬(exprT B sc s.E).2=0):storeE B sc s=(exprT B sc s.E).2:=by unfold storeE;rw [if_pos h,if_neg h2,if_neg h3]
theorem storeE_10 {B:List Bf} {sc:List ByteArray} {s:St} (h:(exprT B sc (rdE s)).2=0) (h2:¬((bufD B s.Name).Use=1∨(s.Op=3/\(s.Fold<1∨4<s.Fold)))) (h3:(exprT B sc s.E).2=0) (h4:isCond s.E=true∨¬(exprT B sc s.E).1=(bufD B s.Name).T):storeE B sc s=10:=by unfold storeE;rw [if_pos h,if_neg h2,if_pos h3,if_pos h4]
theorem storeE_0 {B:List Bf} {sc:List ByteArray} {s:St} (h:(exprT B sc (rdE s)).2=0) (h2:¬((bufD B s.Name).Use=1∨(s.Op=3/\(s.Fold<1∨4<s.Fold)))) (h3:(exprT B sc s.E).2=0) (h4:¬(isCond s.E=true∨¬(exprT B sc s.E).1=(bufD B s.Name).T)):storeE B sc s=0:=by unfold storeE;rw [if_pos h,if_neg h2,if_pos h3,if_neg h4]
theorem loopE_7 {B:List Bf} {U:List ByteArray} {s:St} (h:isNameB s.Name=false):loopE B U s=7:=by unfold loopE;rw [if_neg (by rw [h];simp)]
theorem loopE_8 {B:List Bf} {U:List ByteArray} {s:St} (h:isNameB s.Name=true) (h2:hasBf B s.Name=true∨hasB U s.Name=true):loopE B U s=8:=by unfold loopE;rw [if_pos h,if_pos h2]
theorem loopE_1 {B:List Bf} {U:List ByteArray} {s:St} (h:isNameB s.Name=true) (h2:¬(hasBf B s.Name=true∨hasB U s.Name=true)) (h3:s.Many<1∨65536<s.Many∨s.Mark<0∨3<s.Mark):loopE B U s=1:=by unfold loopE;rw [if_pos h,if_neg h2,if_pos h3]
theorem loopE_0 {B:List Bf} {U:List ByteArray} {s:St} (h:isNameB s.Name=true) (h2:¬(hasBf B s.Name=true∨hasB U s.Name=true)) (h3:¬(s.Many<1∨65536<s.Many∨s.Mark<0∨3<s.Mark)):loopE B U s=0:=by unfold loopE;rw [if_pos h,if_neg h2,if_neg h3]
theorem ifE_x {B:List Bf} {sc:List ByteArray} {s:St} (h:¬(exprT B sc s.E).2=0):ifE B sc s=(exprT B sc s.E).2:=by unfold ifE;rw [if_neg h]
theorem ifE_10 {B:List Bf} {sc:List ByteArray} {s:St} (h:(exprT B sc s.E).2=0) (h2:isCond s.E=false):ifE B sc s=10:=by unfold ifE;rw [if_pos h,if_neg (by rw [h2];simp)]
theorem ifE_0 {B:List Bf} {sc:List ByteArray} {s:St} (h:(exprT B sc s.E).2=0) (h2:isCond s.E=true):ifE B sc s=0:=by unfold ifE;rw [if_pos h,if_pos h2]
theorem stE_5 {B:List Bf} {U sc:List ByteArray} {s:St} (h:synSt s=false):stE B U sc s=5:=by unfold stE;rw [if_neg (by rw [h];simp)]
theorem stE_l {B:List Bf} {U sc:List ByteArray} {s:St} (h:synSt s=true) (h2:s.Op=1):stE B U sc s=loopE B U s:=by unfold stE;rw [if_pos h,if_pos h2]
theorem stE_i {B:List Bf} {U sc:List ByteArray} {s:St} (h:synSt s=true) (h2:s.Op=4):stE B U sc s=ifE B sc s:=by unfold stE;rw [if_pos h,if_neg (by omega),if_pos h2]
theorem stE_s {B:List Bf} {U sc:List ByteArray} {s:St} (h:synSt s=true) (h2:¬s.Op=1) (h3:¬s.Op=4):stE B U sc s=storeE B sc s:=by unfold stE;rw [if_pos h,if_neg h2,if_neg h3]
def validN (n:Ns):List Int×Int:=
 if withinT 40 n.Body=true then (if 2000<numB n.Body 2000∨128<n.Bufs.length then ([],2) else if bufsErr [] n.Bufs=0 then ((chkL n.Bufs [] [] [] 0 n.Body).W,(chkL n.Bufs [] [] [] 0 n.Body).E) else ([],bufsErr [] n.Bufs)) else ([],13)
theorem validN_13 {n:Ns} (h:withinT 40 n.Body=false):validN n=([],13):=by unfold validN;rw [if_neg (by rw [h];simp)]
theorem validN_2 {n:Ns} (h:withinT 40 n.Body=true) (h2:2000<numB n.Body 2000∨128<n.Bufs.length):validN n=([],2):=by unfold validN;rw [if_pos h,if_pos h2]
theorem validN_b {n:Ns} (h:withinT 40 n.Body=true) (h2:¬(2000<numB n.Body 2000∨128<n.Bufs.length)) (h3:¬bufsErr [] n.Bufs=0):validN n=([],bufsErr [] n.Bufs):=by unfold validN;rw [if_pos h,if_neg h2,if_neg h3]
theorem validN_c {n:Ns} (h:withinT 40 n.Body=true) (h2:¬(2000<numB n.Body 2000∨128<n.Bufs.length)) (h3:bufsErr [] n.Bufs=0):validN n=((chkL n.Bufs [] [] [] 0 n.Body).W,(chkL n.Bufs [] [] [] 0 n.Body).E):=by unfold validN;rw [if_pos h,if_neg h2,if_pos h3]
structure Ns.Ok (n:Ns):Prop where
 bufs:n.Bufs.length<=4294967296
 dims:∀b,b∈n.Bufs->b.Dims.length<=17592186044416
 body:stsWt n.Body<=536870912
end Go.Br
end
section
namespace Go.Br
open Go Go.Eng Go.L41
def idxE (i:List Ix):Ex:=.mk 0 (bs []) ⟨0,0⟩ ⟨0,0,0,0,0⟩ ⟨0,[]⟩ i []
theorem idxE_wt (i:List Ix):(idxE i).wt=1+i.length+idxWt i:=by
 rw [Ex.wt_eq];simp only [idxE,Ex.Lin,Ex.Idx,Ex.Args,argsWt,List.length_nil];omega
mutual
def weighS:St->Nat->Nat
 |.mk _ _ _ _ _ _ _ b,m=>weighSs b m b.length
def weighSs:List St->Nat->Nat->Nat
 |[],_,n=>n
 |s::r,m,n=>if n<=m then weighSs r m (n+weighE s.E m+weighE (idxE s.Idx) m+weighS s (m-n)) else n
end
def weighB (l:List St) (m:Nat):Nat:=weighSs l m l.length
theorem weighSs_ge:∀(l:List St) (m n:Nat),n<=weighSs l m n
 |[],m,n=>by rw [weighSs];omega
 |s::r,m,n=>by
  rw [weighSs];split
  ·have:=weighSs_ge r m (n+weighE s.E m+weighE (idxE s.Idx) m+weighS s (m-n));omega
  ·omega
mutual
theorem weighS_wt:∀(s:St) (m:Nat),weighS s m<=m->stsWt s.Body<=weighS s m
 |.mk _ _ _ _ _ _ _ b,m,h=>by
  rw [weighS] at h⊢
  have:=zLq b m _ h
  have:=zBi b
  simp only [St.Body];omega
theorem zLq:∀(l:List St) (m n:Nat),weighSs l m n<=m->n+(stsWt l-l.length)<=weighSs l m n
 |[],m,n,h=>by simp [weighSs,stsWt]
 |s::r,m,n,h=>by
  by_cases hn:n<=m
  ·rw [weighSs,if_pos hn] at h⊢
   have h1:=weighSs_ge r m (n+weighE s.E m+weighE (idxE s.Idx) m+weighS s (m-n))
   have h2:=zLq r m _ h
   have h3:=zOh s.E m (by omega)
   have h4:=zOh (idxE s.Idx) m (by omega)
   have h5:=weighS_wt s (m-n) (by omega)
   have h6:=zBi r
   rw [idxE_wt] at h4
   rw [stsWt,List.length_cons,St.wt_eq];omega
  ·rw [weighSs,if_neg hn] at h;omega
end
theorem weighB_wt {l:List St} {m:Nat} (h:weighB l m<=m):stsWt l<=weighB l m:=by
 unfold weighB at *
 have:=zLq l m _ h
 have:=zBi l
 omega
mutual
def St.fit:St->Prop
 |.mk _ _ _ _ _ i e b=>i.length<=140737488355328/\(∀x,x∈i->x.fit)/\e.fit/\b.length<=140737488355328/\fitS b
def fitS:List St->Prop
 |[]=>True
 |s::r=>s.fit/\fitS r
end
structure Ns.Fit (n:Ns):Prop where
 bufs:n.Bufs.length<=140737488355328
 dims:∀b,b∈n.Bufs->b.Dims.length<=17592186044416
 len:n.Body.length<=140737488355328
 body:fitS n.Body
theorem Ns.Fit.ok {n:Ns} (h:n.Fit) {m:Nat} (hm:m<=5000) (hb:n.Bufs.length<=150) (hw:weighB n.Body m<=m):n.Ok:=
 ⟨by omega,h.dims,by have:=weighB_wt hw;omega⟩
end Go.Br
end
section
namespace Go.Br
open Go Go.Eng Go.L41
/-! ## For the reference's check -/
structure Bd where
 Name:ByteArray
 Val:Int
 deriving DecidableEq
def Bd.cells (x:Bd):List C:=[cS x.Name,cI x.Val]
end Go.Br
end
section
namespace Go.L41
open Go Go.Eng
structure Lifetime where
 Name:ByteArray
 From:Int
 To:Int
 Size:Int
def Lifetime.cells (x:Lifetime):List C:=[cS x.Name,cI x.From,cI x.To,cI x.Size]
abbrev vL (x:Lifetime):V:=.agg x.cells
def covers (p:Int) (y:Lifetime):Bool:=decide (y.From<=p)&&decide (p<=y.To)
def cnt (l:List Lifetime) (p:Int):Int:=((l.filter (covers p)).length:Int)
theorem cnt_le (l:List Lifetime) (p:Int):0<=cnt l p/\cnt l p<=l.length:=by
 unfold cnt
 have:=List.length_filter_le (covers p) l
 omega
end Go.L41
end
section
namespace Go.Br
open Go Go.Eng Go.L41
structure Sp where
 From:Int
 To:Int
end Go.Br
end
section
namespace Go.Br
open Go Go.Eng Go.L41
/-! ## Statements in preorder,with their paths -/
mutual
def mSt (f:Lf->Lf×Int) (g:ByteArray->ByteArray):St->Except Int St
 |.mk o nm mn mk fo i e b=>match mIxs f i with
  |.error y=>.error y
  |.ok i'=>match mEx f e with
   |.error y=>.error y
   |.ok e'=>match mSts f g b with
    |.error y=>.error y
    |.ok b'=>.ok (.mk o (if o=1 then g nm else nm) mn mk fo i' e' b')
def mSts (f:Lf->Lf×Int) (g:ByteArray->ByteArray):List St->Except Int (List St)
 |[]=>.ok []
 |s::r=>match mSt f g s with
  |.error y=>.error y
  |.ok s'=>match mSts f g r with
   |.error y=>.error y
   |.ok r'=>.ok (s'::r')
end
theorem mSt_eq (f:Lf->Lf×Int) (g:ByteArray->ByteArray) (s:St):mSt f g s=match mIxs f s.Idx with
  |.error y=>.error y
  |.ok i'=>match mEx f s.E with
   |.error y=>.error y
   |.ok e'=>match mSts f g s.Body with
    |.error y=>.error y
    |.ok b'=>.ok (.mk s.Op (if s.Op=1 then g s.Name else s.Name) s.Many s.Mark s.Fold i' e' b'):=by cases s;rw [mSt];rfl
theorem mSt_e1 {f:Lf->Lf×Int} {g:ByteArray->ByteArray} {s:St} {c:Int} (h:mIxs f s.Idx=.error c):mSt f g s=.error c:=by rw [mSt_eq,h]
theorem mSt_e2 {f:Lf->Lf×Int} {g:ByteArray->ByteArray} {s:St} {c:Int} {i:List Ix} (h:mIxs f s.Idx=.ok i) (h2:mEx f s.E=.error c):mSt f g s=.error c:=by rw [mSt_eq,h];simp only [h2]
theorem mSt_e3 {f:Lf->Lf×Int} {g:ByteArray->ByteArray} {s:St} {c:Int} {i:List Ix} {e:Ex} (h:mIxs f s.Idx=.ok i) (h2:mEx f s.E=.ok e) (h3:mSts f g s.Body=.error c):mSt f g s=.error c:=by rw [mSt_eq,h];simp only [h2,h3]
theorem mSt_ok {f:Lf->Lf×Int} {g:ByteArray->ByteArray} {s:St} {i:List Ix} {e:Ex} {b:List St} (h:mIxs f s.Idx=.ok i) (h2:mEx f s.E=.ok e) (h3:mSts f g s.Body=.ok b):mSt f g s=.ok (.mk s.Op (if s.Op=1 then g s.Name else s.Name) s.Many s.Mark s.Fold i e b):=by rw [mSt_eq,h];simp only [h2,h3]
mutual
theorem mSt_ne {f:Lf->Lf×Int} {g:ByteArray->ByteArray}:∀s:St,mSt f g s≠ .error 0
 |.mk o nm mn mk fo i e b=>by
  rw [mSt]
  cases h1:mIxs f i with
  |error y=>intro h;cases h;exact mIxs_ne h1
  |ok a=>
   cases h2:mEx f e with
   |error y=>intro h;simp only at h;cases h;exact mEx_ne e h2
   |ok a=>
    cases h3:mSts f g b with
    |error y=>intro h;simp only at h;cases h;exact mSts_ne b h3
    |ok a=>simp
theorem mSts_ne {f:Lf->Lf×Int} {g:ByteArray->ByteArray}:∀l:List St,mSts f g l≠ .error 0
 |[]=>by simp [mSts]
 |x::r=>by
  rw [mSts]
  cases h1:mSt f g x with
  |error y=>intro h;cases h;exact mSt_ne x h1
  |ok a=>
   cases h2:mSts f g r with
   |error y=>intro h;simp only at h;cases h;exact mSts_ne r h2
   |ok a=>simp
end
def outS:Except Int (List St)->List St
 |.ok l=>l
 |.error _=>[]
theorem mSts_next {f:Lf->Lf×Int} {g:ByteArray->ByteArray} {l:List St} {k:Nat} {x y:St} {done:List St} (h:l[k]? =some x) (hp:mSts f g l=mapRest done (mSts f g (l.drop k))) (hx:mSt f g x=.ok y):mSts f g l=mapRest (done++[y]) (mSts f g (l.drop (k+1))):=by
 rw [hp,qN h,mSts,hx]
 cases mSts f g (l.drop (k+1))<;>simp [mapRest,andThenE]
theorem zMj {f:Lf->Lf×Int} {g:ByteArray->ByteArray} {l:List St} {k:Nat} {x:St} {done:List St} {c:Int} (h:l[k]? =some x) (hp:mSts f g l=mapRest done (mSts f g (l.drop k))) (hx:mSt f g x=.error c):mSts f g l=.error c:=by
 rw [hp,qN h,mSts,hx];rfl
theorem mSts_end {f:Lf->Lf×Int} {g:ByteArray->ByteArray} {l:List St} {k:Nat} {done:List St} (hp:mSts f g l=mapRest done (mSts f g (l.drop k))) (h:¬k<l.length):mSts f g l=.ok done:=by
 rw [hp,kV h];simp [mSts,mapRest,andThenE]
mutual
theorem mSt_id:∀s:St,mSt idF (fun x=>x) s=.ok s
 |.mk o nm mn mk fo i e b=>by
  rw [mSt,mIxs_id,mEx_id];simp only [mSts_id b]
  by_cases h:o=1
  ·rw [if_pos h]
  ·rw [if_neg h]
theorem mSts_id:∀l:List St,mSts idF (fun x=>x) l=.ok l
 |[]=>by rw [mSts]
 |x::r=>by rw [mSts,mSt_id x,mSts_id r]
end
def ixsAll (P:Lf->Prop) (i:List Ix):Prop:=∀x,x∈i->P x.Lin/\∀l,l∈x.At->P l
mutual
def St.allF (P:Lf->Prop):St->Prop
 |.mk _ _ _ _ _ i e b=>ixsAll P i/\e.allF P/\allSs P b
def allSs (P:Lf->Prop):List St->Prop
 |[]=>True
 |s::r=>s.allF P/\allSs P r
end
theorem St.allF_eq {P:Lf->Prop} {s:St} (h:s.allF P):ixsAll P s.Idx/\s.E.allF P/\allSs P s.Body:=by cases s;rw [St.allF] at h;exact h
theorem zLo {P:Lf->Prop}:∀{l:List St},allSs P l->∀s,s∈l->s.allF P
 |[],_,s,hs=>by cases hs
 |x::r,h,s,hs=>by
  rw [allSs] at h
  rcases List.mem_cons.1 hs with rfl|hs
  ·exact h.1
  ·exact zLo h.2 s hs
end Go.Br
end
section
namespace Go.Br
open Go Go.Eng Go.L41
end Go.Br
end
section
namespace Go.Br
open Go Go.Eng Go.L41
/-! ## Sets of names -/
end Go.Br
end
section
namespace Go.Br
open Go Go.Eng Go.L41
/-! ## One form: a name for a name -/
def outIs:Except Int (List Ix)->List Ix
 |.ok l=>l
 |.error _=>[]
theorem mIxs_0 {f:Lf->Lf×Int} {i:List Ix} (h:errE (mIxs f i)=0):∃a,mIxs f i=.ok a:=errE_ok h mIxs_ne
theorem mEx_0 {f:Lf->Lf×Int} {e:Ex} (h:errE (mEx f e)=0):∃a,mEx f e=.ok a:=errE_ok h (mEx_ne e)
theorem mSts_0 {f:Lf->Lf×Int} {g:ByteArray->ByteArray} {l:List St} (h:errE (mSts f g l)=0):∃a,mSts f g l=.ok a:=errE_ok h (mSts_ne l)
theorem err_is {α:Type} {x:Except Int α} (h:¬errE x=0):x=.error (errE x):=by
 cases x with
 |ok a=>exact absurd rfl h
 |error c=>rfl
theorem mIxs_err {f:Lf->Lf×Int} {i:List Ix} (h:¬errE (mIxs f i)=0):mIxs f i=.error (errE (mIxs f i)):=err_is h
theorem mEx_err {f:Lf->Lf×Int} {e:Ex} (h:¬errE (mEx f e)=0):mEx f e=.error (errE (mEx f e)):=err_is h
theorem mSts_err {f:Lf->Lf×Int} {g:ByteArray->ByteArray} {l:List St} (h:¬errE (mSts f g l)=0):mSts f g l=.error (errE (mSts f g l)):=err_is h
theorem ixsAll_of {P:Lf->Prop} {e:Ex} (h:e.allF P):ixsAll P e.Idx:=fun x hx=>⟨Ex.allF_ix h hx,fun l hl=>Ex.allF_at h hx hl⟩
theorem mid_getS {A:List (List C)} {l:List St} {k:Nat} {x:St} (hA:A.length=k) (h:l[k]? =some x):(A++(l.drop k).map St.cells)[k]? =some x.cs:=by
 rw [zMh hA h,St.cells_eq]
mutual
theorem st_short {B:Nat}:∀s:St,s.wt<=B->s.allF (fun l=>l.L.length<=B)
 |.mk o nm mn mk fo i e b,h=>by
  rw [St.allF]
  rw [St.wt] at h
  refine ⟨fun x hx=>?_,fun x hx l hl=>forms_wt (Nat.le_trans (zFu e x hx) (by omega)) hl,zLu b (by omega)⟩
  have:=zDb hx
  rw [Ix.wt] at this
  exact ⟨by omega,fun l hl=>by have:=zCo hl;omega⟩
theorem zLu {B:Nat}:∀l:List St,stsWt l<=B->allSs (fun l=>l.L.length<=B) l
 |[],_=>by rw [allSs];trivial
 |s::r,h=>by
  rw [stsWt] at h
  rw [allSs]
  exact ⟨st_short s (by omega),zLu r (by omega)⟩
end
theorem sts_short {l:List St} {B:Nat} (h:stsWt l<=B):allSs (fun l=>l.L.length<=B) l:=zLu l h
/-! ## What renaming keeps -/
end Go.Br
end
