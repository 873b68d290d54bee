/-
  Loop nests,in plain Lean: buffers,statements,and the cells that hold them.
  What the check of a nest says (30.1),in plain Lean.
  Weights of nests,in plain Lean.
  For the reference's check of nests,in plain Lean.
  Lifetimes as plain data,and what the functions of the layer compute.
  Layer 41 in plain Lean: what statements touch; the spans of buffers.
  Nests walked and mapped,in plain Lean (30.2,30.3).
  Paths in nests,in plain Lean (30.2).
  Names that are not in use,in plain Lean (30.2): numerals,and the first number that is free.
  A loop renamed to a name that is not in use,in plain Lean (30.3,30.5).
  The example of the laws of layer 30; lengths of paths. In plain Lean.
  A form put for a name in all forms of statements (30.3): what Substitute returns; what Rename of the reference returns.
  A statement on a path replaced by others (30.2).
  Split,peeled and collapsed loops,in plain Lean (36.1 to 36.4).
  What the reference of layer 5 computes,in plain Lean: products,sums of forms.
  What is known of the statements of a valid nest,and of the loop that Find finds.
  Conditions: none.
-/
import Derived.Test.YthgichbbgocmoaaGreatDoorPlain
import Derived.Test.YthgichbbgocmoaaGreatDoorNames
import Derived.Test.YthgichbbgocmoaaGreatDoorPlain2
set_option linter.unusedSimpArgs false
set_option linter.unusedVariables false
section
namespace Go.Br
open Go Go.Eng Go.L41
structure Bf where
 Name:ByteArray
 T:Ty
 Dims:List Int
 Use:Int
 deriving DecidableEq
inductive St where
 |mk (op:Int) (name:ByteArray) (many pF fold:Int) (idx:List Ix) (ex:Ex) (body:List St)
namespace St
def Op:St->Int|mk x _ _ _ _ _ _ _=>x
def Name:St->ByteArray|mk _ x _ _ _ _ _ _=>x
def Many:St->Int|mk _ _ x _ _ _ _ _=>x
def Mark:St->Int|mk _ _ _ x _ _ _ _=>x
def Fold:St->Int|mk _ _ _ _ x _ _ _=>x
def Idx:St->List Ix|mk _ _ _ _ _ x _ _=>x
def E:St->Ex|mk _ _ _ _ _ _ x _=>x
def Body:St->List St|mk _ _ _ _ _ _ _ x=>x
theorem eta (s:St):s=mk s.Op s.Name s.Many s.Mark s.Fold s.Idx s.E s.Body:=by cases s;rfl
theorem ind {P:St->Prop} (h:∀s:St,(∀a,a∈s.Body->P a)->P s) (s:St):P s:=
 St.rec (motive_1:=P) (motive_2:=fun l=>∀a,a∈l->P a) (fun o n m k f i e b ih=>h (mk o n m k f i e b) ih) (fun a h=>by cases h)
  (fun x l hx hl a ha=>by rcases List.mem_cons.1 ha with rfl|ha;exact hx;exact hl a ha) s
end St
structure Ns where
 Bufs:List Bf
 Body:List St
def Bf.cells (b:Bf):List C:=[cS b.Name,cI b.T.Kind,cI b.T.Bits,cI b.T.Frac,cI b.T.Round,cI b.T.Over,.sl 1 (b.Dims.map fun n=>[cI n]),cI b.Use]
mutual
def St.cells:St->List C
 |.mk o n m k f i e b=>[cI o,cS n,cI m,cI k,cI f,.sl 4 (i.map Ix.cells)]++e.cs++[.sl 20 (rD b)]
def rD:List St->List (List C)
 |[]=>[]
 |s::r=>s.cells::rD r
end
theorem zUj (l:List St):rD l=l.map St.cells:=by
 induction l with
 |nil=>rfl
 |cons s r ih=>rw [rD,ih];rfl
def St.cs (s:St):List C:=[cI s.Op,cS s.Name,cI s.Many,cI s.Mark,cI s.Fold,.sl 4 (s.Idx.map Ix.cells),
 cI s.E.Op,cS s.E.Name,cI s.E.Val.N,cI s.E.Val.D,cI s.E.Ty.Kind,cI s.E.Ty.Bits,cI s.E.Ty.Frac,cI s.E.Ty.Round,cI s.E.Ty.Over,cI s.E.Lin.K,.sl 2 (s.E.Lin.L.map Mono.cells),.sl 4 (s.E.Idx.map Ix.cells),.sl 13 (s.E.Args.map Ex.cells),.sl 20 (s.Body.map St.cells)]
theorem St.cells_eq (s:St):s.cells=s.cs:=by
 cases s;rw [St.cells,zUj];rfl
def Ns.cells (n:Ns):List C:=[.sl 8 (n.Bufs.map Bf.cells),.sl 20 (n.Body.map St.cells)]
abbrev vBf (b:Bf):V:=.agg b.cells
abbrev vSt (s:St):V:=.agg s.cs
abbrev bU (l:List St):V:=.c (.sl 20 (l.map St.cells))
abbrev vNs (n:Ns):V:=.agg n.cells
abbrev vIs (l:List Int):V:=.c (.sl 1 (l.map fun n=>[cI n]))
abbrev eP (l:List Bf):V:=.c (.sl 8 (l.map Bf.cells))
theorem zEz {α:Type} {p:α->Bool} {l:List α} {k:Nat} {x:α} (h:l[k]? =some x) (hp:(l.take k).all p=true) (hx:p x=true):(l.take (k+1)).all p=true:=by
 rw [yQ h,List.all_append,hp];simp [hx]
theorem wJ {l:List St} {k:Nat} {x:St} (h:l[k]? =some x):(l.map St.cells)[k]? =some x.cs:=by
 rw [getm h,St.cells_eq]
/-! ## Sizes -/
mutual
def St.wt:St->Nat
 |.mk _ _ _ _ _ i e b=>1+e.wt+i.length+dL i+bC b
def bC:List St->Nat
 |[]=>0
 |s::r=>s.wt+bC r
end
theorem St.wt_eq (s:St):s.wt=1+s.E.wt+s.Idx.length+dL s.Idx+bC s.Body:=by cases s;rw [St.wt];rfl
theorem kX (l:List St):l.length<=bC l:=by
 induction l with
 |nil=>simp [bC]
 |cons y r ih=>rw [bC,List.length_cons];have:=y.wt_eq;omega
theorem yU {l:List St} {a:St} (h:a∈l):a.wt<=bC l:=by
 induction l with
 |nil=>cases h
 |cons x r ih=>
  rw [bC]
  exact l9
theorem St.wt_pos (s:St):1<=s.wt:=by rw [St.wt_eq];omega
theorem St.body_wt (s:St):bC s.Body<s.wt:=by rw [St.wt_eq s];omega
theorem St.parts {s:St} {B:Nat} (h:s.wt<=B):s.E.wt<=B/\s.Idx.length<=B/\dL s.Idx<=B/\s.Body.length<=B/\bC s.Body<=B:=by
 rw [St.wt_eq] at h
 have:=kX s.Body
 omega
def rdE (s:St):Ex:=.mk 3 s.Name ⟨0,0⟩ ⟨0,0,0,0,0⟩ ⟨0,[]⟩ s.Idx []
theorem rdE_wt (s:St):(rdE s).wt<=s.wt+1:=by
 rw [Ex.wt_eq,St.wt_eq];simp only [rdE,Ex.Lin,Ex.Idx,Ex.Args,dY,List.length_nil];omega
/-! ## Shapes (11.1) -/
def mZ (n:Int):Bool:=decide (1<=n)
def bG:Int->List Int->Option Int
 |s,[]=>some s
 |s,n::r=>if 4096<s*n then none else bG (s*n) r
def bR (d:List Int):Int:=if 6<d.length then 2 else if d.all mZ=true then (if (bG 1 d).isSome=true then 0 else 2) else 1
def fD (d:List Int):Int:=if bR d=0 then (bG 1 d).getD 0 else 0
theorem zWs {d:List Int} (h:6<d.length):bR d=2:=by unfold bR;rw [if_pos h]
theorem dims_neg {d:List Int} {k:Nat} {n:Int} (h:¬6<d.length) (hn:d[k]? =some n) (h2:n<1):bR d=1:=by
 unfold bR
 rw [if_neg h,if_neg (by rw [zLc hn (p:=mZ) (by unfold mZ;exact decide_eq_false zA)];simp)]
theorem zOu {d:List Int} (h:¬6<d.length) (h1:d.all mZ=true) (h2:bG 1 d=none):bR d=2:=by
 unfold bR;rw [if_neg h,if_pos h1,h2];rfl
theorem dims_ok {d:List Int} {s:Int} (h:¬6<d.length) (h1:d.all mZ=true) (h2:bG 1 d=some s):bR d=0:=by
 unfold bR;rw [if_neg h,if_pos h1,h2];rfl
theorem zFs {d:List Int} {k:Nat} {n s:Int} (h:d[k]? =some n) (hs:bG 1 d=bG s (d.drop k)) (h2:¬4096<s*n):bG 1 d=bG (s*n) (d.drop (k+1)):=by
 rw [hs,qP h,bG,if_neg h2]
theorem zJv {d:List Int} {k:Nat} {n s:Int} (h:d[k]? =some n) (hs:bG 1 d=bG s (d.drop k)) (h2:4096<s*n):bG 1 d=none:=by
 rw [hs,qP h,bG,if_pos h2]
theorem zJw {d:List Int} {k:Nat} {s:Int} (hs:bG 1 d=bG s (d.drop k)) (h:¬k<d.length):bG 1 d=some s:=by
 rw [hs,kK h];rfl
theorem quo_lt {s n:Int} (h:1<=s):Int.tdiv 4096 s<n↔4096<s*n:=by
 rw [Int.tdiv_eq_ediv_of_nonneg zA,Int.ediv_lt_iff_lt_mul zA,Int.mul_comm]
theorem quo_wrap {s:Int} (h:1<=s):IntKind.i64.wrap (Int.tdiv 4096 s)=Int.tdiv 4096 s:=by
 have h1:Int.tdiv 4096 s=4096/s:=Int.tdiv_eq_ediv_of_nonneg zA
 have h2:0<=(4096:Int)/s:=Int.ediv_nonneg zA zA
 have h3:(4096:Int)/s<=4096:=Int.ediv_le_self _ zA
 exact zCu ⟨zA,zA⟩
theorem quo_t {s n:Int} (h:1<=s) (c:IntKind.i64.wrap (Int.tdiv 4096 s)<n):4096<s*n:=by rw [quo_wrap h] at c;exact (quo_lt h).1 c
theorem quo_f {s n:Int} (h:1<=s) (c:¬IntKind.i64.wrap (Int.tdiv 4096 s)<n):¬4096<s*n:=by rw [quo_wrap h] at c;exact fun k=>c ((quo_lt h).2 k)
theorem zBu {d:List Int} {k:Nat} {n:Int} (h:d.all mZ=true) (hn:d[k]? =some n):1<=n:=by
 have:=(List.all_eq_true.1 h) n (qA hn)
 simpa [mZ] using this
theorem zBv {s n:Int} (h:1<=s) (h2:1<=n):1<=s*n/\n<=s*n:=by
 have h3:1*n<=s*n:=Int.mul_le_mul_of_nonneg_right h zA
 omega
theorem zUr:∀{d:List Int} {s t:Int},1<=s->s<=4096->d.all mZ=true->bG s d=some t->1<=t/\t<=4096
 |[],s,t,h,h2,_,h3=>by simp only [bG,Option.some.injEq] at h3;omega
 |n::r,s,t,h,h2,hp,h3=>by
  rw [bG] at h3
  simp only [List.all_cons,Bool.and_eq_true] at hp
  have hn:1<=n:=by simpa [mZ] using hp.1
  split at h3
  ·cases h3
  ·rename_i h4
   exact zUr (zBv h hn).1 zA hp.2 h3
theorem zEw {d:List Int} (h:bR d=0):d.length<=6/\d.all mZ=true/\∃s,bG 1 d=some s/\1<=s/\s<=4096:=by
 unfold bR at h
 split at h
 ·cases h
 ·rename_i h6
  split at h
  ·rename_i hp
   split at h
   ·rename_i hs
    obtain ⟨s,hs⟩:=Option.isSome_iff_exists.1 hs
    have:=zUr zA zA hp hs
    exact ⟨zA,hp,s,hs,this.1,this.2⟩
   ·cases h
  ·cases h
theorem zEb {d:List Int} {s:Int} (h:bR d=0) (hs:bG 1 d=some s):fD d=s:=by unfold fD;rw [if_pos h,hs];rfl
theorem dimsSize_no {d:List Int} (h:¬bR d=0):fD d=0:=by unfold fD;rw [if_neg h]
theorem zNm {d:List Int} {k:Nat} {n s t:Int} (h:d[k]? =some n) (hs:bG 1 d=bG s (d.drop k)) (ht:bG 1 d=some t):¬4096<s*n:=by
 intro h2
 rw [zJv h hs h2] at ht;cases ht
/-! ## Buffers -/
def zBf:Bf:=⟨bs [],zTy,[],0⟩
def dS (l:List Bf) (s:ByteArray):Bool:=l.any fun b=>decide (b.Name=s)
def gU:List Bf->ByteArray->Bf
 |[],_=>zBf
 |b::r,s=>if b.Name=s then b else gU r s
theorem bufD_at {l:List Bf} {k:Nat} {b:Bf} {s:ByteArray} (h:l[k]? =some b) (hb:b.Name=s):gU (l.drop k) s=b:=by rw [qP h,gU,if_pos hb]
theorem bufD_next {l:List Bf} {k:Nat} {b:Bf} {s:ByteArray} (h:l[k]? =some b) (hb:¬b.Name=s):gU (l.drop k) s=gU (l.drop (k+1)) s:=by rw [qP h,gU,if_neg hb]
theorem hasBf_at {l:List Bf} {k:Nat} {b:Bf} {s:ByteArray} (h:l[k]? =some b) (hb:b.Name=s):dS l s=true:=by
 unfold dS;rw [List.any_eq_true];exact ⟨b,qA h,decide_eq_true hb⟩
theorem zQr {l:List Bf} {k:Nat} {b:Bf} {s:ByteArray} (h:l[k]? =some b) (hp:dS (l.take k) s=false) (hb:¬b.Name=s):dS (l.take (k+1)) s=false:=by
 unfold dS at *;rw [yQ h,List.any_append,hp];simp [hb]
theorem hasBf_lt {l:List Bf} {j k:Nat} {b:Bf} {s:ByteArray} (h:l[j]? =some b) (hj:j<k) (hb:b.Name=s):dS (l.take k) s=true:=by
 have:(l.take k)[j]? =some b:=by rw [List.getElem?_take];simp [hj,h]
 exact hasBf_at this hb
theorem bufD_no:∀{l:List Bf} {s:ByteArray},dS l s=false->gU l s=zBf
 |[],_,_=>rfl
 |b::r,s,h=>by
  simp only [dS,List.any_cons,Bool.or_eq_false_iff,decide_eq_false_iff_not] at h
  rw [gU,if_neg h.1];exact bufD_no h.2
def jX (seen:List Bf) (b:Bf):Int:=
 if bD b.Name=true then (if dS seen b.Name=true then 8 else if bV b.T=true then (if bR b.Dims=0 then (if b.Use<1∨3<b.Use then 1 else 0) else bR b.Dims) else 10) else 7
def dI:List Bf->List Bf->Int
 |_,[]=>0
 |seen,b::r=>if jX seen b=0 then dI (seen++[b]) r else jX seen b
theorem bfErr_7 {seen:List Bf} {b:Bf} (h:bD b.Name=false):jX seen b=7:=by unfold jX;rw [if_neg (by rw [h];simp)]
theorem bfErr_8 {seen:List Bf} {b:Bf} (h:bD b.Name=true) (h2:dS seen b.Name=true):jX seen b=8:=by unfold jX;rw [if_pos h,if_pos h2]
theorem zTs {seen:List Bf} {b:Bf} (h:bD b.Name=true) (h2:dS seen b.Name=false) (h3:bV b.T=false):jX seen b=10:=by unfold jX;rw [if_pos h,if_neg (by rw [h2];simp),if_neg (by rw [h3];simp)]
theorem bfErr_d {seen:List Bf} {b:Bf} (h:bD b.Name=true) (h2:dS seen b.Name=false) (h3:bV b.T=true) (h4:¬bR b.Dims=0):jX seen b=bR b.Dims:=by unfold jX;rw [if_pos h,if_neg (by rw [h2];simp),if_pos h3,if_neg h4]
theorem bfErr_u {seen:List Bf} {b:Bf} (h:bD b.Name=true) (h2:dS seen b.Name=false) (h3:bV b.T=true) (h4:bR b.Dims=0) (h5:b.Use<1∨3<b.Use):jX seen b=1:=by unfold jX;rw [if_pos h,if_neg (by rw [h2];simp),if_pos h3,if_pos h4,if_pos h5]
theorem bfErr_0 {seen:List Bf} {b:Bf} (h:bD b.Name=true) (h2:dS seen b.Name=false) (h3:bV b.T=true) (h4:bR b.Dims=0) (h5:¬(b.Use<1∨3<b.Use)):jX seen b=0:=by unfold jX;rw [if_pos h,if_neg (by rw [h2];simp),if_pos h3,if_pos h4,if_neg h5]
theorem zRq {l:List Bf} {k:Nat} {b:Bf} (h:l[k]? =some b) (hp:dI [] l=dI (l.take k) (l.drop k)) (hb:jX (l.take k) b=0):dI [] l=dI (l.take (k+1)) (l.drop (k+1)):=by
 rw [hp,qP h,dI,if_pos hb,yQ h]
theorem zBq {l:List Bf} {k:Nat} {b:Bf} (h:l[k]? =some b) (hp:dI [] l=dI (l.take k) (l.drop k)) (hb:¬jX (l.take k) b=0):dI [] l=jX (l.take k) b:=by
 rw [hp,qP h,dI,if_neg hb]
theorem zXm {l:List Bf} {k:Nat} (hp:dI [] l=dI (l.take k) (l.drop k)) (h:¬k<l.length):dI [] l=0:=by
 rw [hp,kK h];rfl
/-! ## Depth and number of statements -/
def bN:Nat->List St->Bool
 |0,l=>l.isEmpty
 |n+1,l=>l.all fun s=>bN n s.Body
def mK:Nat->List St->Int
 |0,_=>0
 |n+1,l=>l.foldl (fun d s=>max d (1+mK n s.Body)) 0
theorem depF_ge {f:St->Int}:∀(l:List St) (d:Int),d<=l.foldl (fun d s=>max d (1+f s)) d
 |[],d=>Int.le_refl _
 |x::r,d=>by have:=depF_ge (f:=f) r (max d (1+f x));rw [List.foldl_cons];omega
theorem zTl {f:St->Int} {m:Int}:∀(l:List St) (d:Int),l.foldl (fun d s=>max d (1+f s)) d<=m↔d<=m/\∀s,s∈l->1+f s<=m
 |[],d=>by simp
 |x::r,d=>by
  rw [List.foldl_cons,zTl r]
  constructor
  ·rintro ⟨h1,h2⟩
   refine ⟨zA,fun s hs=>?_⟩
   rcases List.mem_cons.1 hs with rfl|hs
   ·omega
   ·exact h2 s hs
  ·rintro ⟨h1,h2⟩
   have:=h2 x uD
   exact ⟨zA,fun s hs=>h2 s (by simp [hs])⟩
theorem zIu:∀(n:Nat) (l:List St),mK (n+1) l<=n↔bN n l=true
 |0,l=>by
  rw [mK,zTl]
  cases l with
  |nil=>simp [bN]
  |cons x r=>
   simp only [bN,List.isEmpty_cons,Bool.false_eq_true,iff_false,not_and]
   intro _ h
   have:=h x uD
   simp only [mK] at this;omega
 |n+1,l=>by
  rw [mK,zTl,bN,List.all_eq_true]
  constructor
  ·rintro ⟨_,h⟩ s hs
   have:=h s hs
   exact (zIu n s.Body).1 zA
  ·intro h
   refine ⟨zA,fun s hs=>?_⟩
   have:=(zIu n s.Body).2 (h s hs)
   omega
theorem depS_le:∀(n:Nat) (l:List St),0<=mK n l/\mK n l<=n
 |0,l=>by simp [mK]
 |n+1,l=>by
  rw [mK]
  refine ⟨depF_ge l 0,(zTl l 0).2 ⟨zA,fun s _=>?_⟩⟩
  have:=depS_le n s.Body;omega
mutual
def stN:St->Nat
 |.mk _ _ _ _ _ _ _ b=>1+bY b
def bY:List St->Nat
 |[]=>0
 |s::r=>stN s+bY r
end
def sN (n:Nat) (l:List St):Bool:=bN n l
theorem withinG_eq (n:Nat) (l:List St):sN n l=bN n l:=rfl
theorem withinG_next {n:Nat} {l:List St} {k:Nat} {s:St} (h:l[k]? =some s) (hp:sN n (l.take k)=true) (hn:1<=n) (hs:bN (n-1) s.Body=true):sN n (l.take (k+1))=true:=by
 obtain ⟨m,rfl⟩:∃m,n=m+1:=⟨n-1,zA⟩
 exact zEz h hp hs
theorem within_no {n:Nat} {l:List St} {k:Nat} {s:St} {x:Int} (h:l[k]? =some s) (hx:x=n) (c:(decide (x<1)|| !bN (n-1) s.Body)=true):bN n l=false:=by
 cases n with
 |zero=>cases l with
  |nil=>simp at h
  |cons a r=>rfl
 |succ n=>
  have:bN n s.Body=false:=by
   rw [Bool.or_eq_true] at c
   rcases c with c|c
   ·rw [decide_eq_true_eq] at c;omega
   ·simpa using c
  exact zLc h this
theorem within_yes {n:Nat} {s:St} {x:Int} (hx:x=n) (c:(decide (x<1)|| !bN (n-1) s.Body)=false):1<=n/\bN (n-1) s.Body=true:=by
 rw [Bool.or_eq_false_iff] at c
 refine ⟨?_,by simpa using c.2⟩
 have:=c.1;rw [decide_eq_false_iff_not] at this;omega
theorem depS_next {n:Nat} {l:List St} {k:Nat} {s:St} (h:l[k]? =some s) (hn:1<=n):mK n (l.take (k+1))=max (mK n (l.take k)) (1+mK (n-1) s.Body):=by
 obtain ⟨m,rfl⟩:∃m,n=m+1:=⟨n-1,zA⟩
 rw [yQ h,mK,List.foldl_append];rfl
theorem depS_stop {n:Nat} {l:List St} {k:Nat} {x d:Int} (hx:x=n) (hd:d=mK n (l.take k)) (c:l.length<=k∨x<=0):d=mK n l:=by
 by_cases h0:n=0
 ·subst h0;rw [hd];rfl
 ·rw [hd,yV zA]
theorem zIy (s:St):stN s=1+bY s.Body:=by cases s;rw [stN];rfl
theorem zHy:∀(a b:List St),bY (a++b)=bY a+bY b
 |[],b=>by simp [bY]
 |x::r,b=>by rw [List.cons_append,bY,bY,zHy r b];omega
theorem zEh:∀l:List St,l.length<=bY l
 |[]=>by simp [bY]
 |x::r=>by have:=zEh r;have:=zIy x;rw [bY,List.length_cons];omega
mutual
theorem stN_wt:∀s:St,stN s<=s.wt
 |.mk o n m k f i e b=>by rw [stN,St.wt];have:=zGs b;omega
theorem zGs:∀l:List St,bY l<=bC l
 |[]=>by simp [bY,bC]
 |s::r=>by rw [bY,bC];have:=stN_wt s;have:=zGs r;omega
end
mutual
def sY:St->Nat->Nat
 |.mk _ _ _ _ _ _ _ b,m=>mG b m b.length
def mG:List St->Nat->Nat->Nat
 |[],_,n=>n
 |s::r,m,n=>if n<=m then mG r m (n+sY s (m-n)) else n
end
def jZ (l:List St) (m:Nat):Nat:=mG l m l.length
theorem numS_eq (s:St) (m:Nat):sY s m=jZ s.Body m:=by cases s;rw [sY];rfl
mutual
theorem numS_le:∀(s:St) (m:Nat),sY s m<=stN s-1
 |.mk _ _ _ _ _ _ _ b,m=>by
  rw [sY,stN]
  have h1:=numL_le b m b.length
  have h2:=zEh b
  omega
theorem numL_le:∀(l:List St) (m n:Nat),mG l m n<=n+(bY l-l.length)
 |[],m,n=>by simp [mG]
 |s::r,m,n=>by
  rw [mG]
  have h3:=zEh r
  have h4:=zIy s
  split
  ·have h1:=numL_le r m (n+sY s (m-n))
   have h2:=numS_le s (m-n)
   rw [bY,List.length_cons];omega
  ·rw [bY,List.length_cons];omega
end
theorem numB_le (l:List St) (m:Nat):jZ l m<=bY l:=by
 have h1:=numL_le l m l.length
 have h2:=zEh l
 unfold jZ;omega
theorem numL_ge:∀(l:List St) (m n:Nat),n<=mG l m n
 |[],m,n=>by rw [mG];omega
 |s::r,m,n=>by
  rw [mG];split
  ·have:=numL_ge r m (n+sY s (m-n));omega
  ·omega
mutual
theorem numS_ok:∀(s:St) (m:Nat),sY s m<=m->sY s m=stN s-1
 |.mk _ _ _ _ _ _ _ b,m,h=>by
  rw [sY] at h⊢
  rw [stN,numL_ok b m _ h]
  have:=zEh b;omega
theorem numL_ok:∀(l:List St) (m n:Nat),mG l m n<=m->mG l m n=n+(bY l-l.length)
 |[],m,n,h=>by simp [mG,bY]
 |s::r,m,n,h=>by
  have h3:=zEh r
  have h4:=zIy s
  by_cases hn:n<=m
  ·rw [mG,if_pos hn] at h⊢
   have h5:=numL_ge r m (n+sY s (m-n))
   have h6:=numS_ok s (m-n) zA
   rw [numL_ok r m _ h,h6,bY,List.length_cons];omega
  ·rw [mG,if_neg hn] at h;omega
end
theorem numB_ok {l:List St} {m:Nat} (h:jZ l m<=m):bY l=jZ l m:=by
 have h2:=zEh l
 unfold jZ at *
 rw [numL_ok l m _ h];omega
theorem num_next {l:List St} {k m n N:Nat} {s:St} (h:l[k]? =some s) (hp:N=mG (l.drop k) m n) (hn:n<=m):N=mG (l.drop (k+1)) m (n+jZ s.Body (m-n)):=by
 rw [hp,qP h,mG,if_pos hn,numS_eq]
theorem num_end {l:List St} {k m n N:Nat} (hp:N=mG (l.drop k) m n) (h:l.length<=k∨m<n):n=N:=by
 rw [hp]
 by_cases hk:k<l.length
 ·obtain ⟨a,ha⟩:=qY l k hk
  rw [qP ha,mG,if_neg zA]
 ·rw [kK hk,mG]
theorem zNj {l:List St} {s:St} (h:s∈l):stN s<=bY l:=by
 induction l with
 |nil=>cases h
 |cons x r ih=>
  rw [bY]
  exact l9
theorem stsN_drop {l:List St} {k:Nat} {s:St} (h:l[k]? =some s):bY (l.drop k)=stN s+bY (l.drop (k+1)):=by rw [qP h,bY]
theorem num_sum {l:List St} {k m n:Nat} {s:St} (h:l[k]? =some s) (hp:jZ l m=mG (l.drop k) m n) (hn:n<=m):n+jZ s.Body (m-n)<=n+bY l:=by
 have h1:=numB_le s.Body (m-n)
 have h2:bY l=bY (l.take k)+(stN s+bY (l.drop (k+1))):=by
  rw [←bY,←qP h,←zHy,List.take_append_drop]
 have:=zIy s
 omega
end Go.Br
end
section
namespace Go.Br
open Go Go.Eng Go.L41
/-! ## Names of a node -/
def gN (sc:List ByteArray) (l:Lf):Bool:=l.L.all fun m=>dD sc m.Name
def cW (sc:List ByteArray) (x:Ix):Bool:=gN sc x.Lin&&x.At.all (gN sc)
def lD (sc:List ByteArray) (e:Ex):Bool:=gN sc e.Lin&&e.Idx.all (cW sc)
def mI (B:List Bf) (x:Ix):Int:=
 if x.From=bs [] then 0 else if dS B x.From=true then (if (gU B x.From).T.Kind=3 then (if (gU B x.From).Dims.length=x.At.length then 0 else 11) else 10) else 9
def nV (B:List Bf):List Ix->Int
 |[]=>0
 |x::r=>if mI B x=0 then nV B r else mI B x
def jG (B:List Bf) (sc:List ByteArray) (e:Ex):Int:=
 if lD sc e=true then (if e.Op=3 then (if dS B e.Name=true then (if (gU B e.Name).Dims.length=e.Idx.length then nV B e.Idx else 11) else 9) else 0) else 9
def dG (B:List Bf) (sc:List ByteArray):List Ex->Int
 |[]=>0
 |e::r=>if jG B sc e=0 then dG B sc r else jG B sc e
theorem gathE_0 {B:List Bf} {x:Ix} (h:x.From=bs []):mI B x=0:=by unfold mI;rw [if_pos h]
theorem gathE_9 {B:List Bf} {x:Ix} (h:¬x.From=bs []) (h1:dS B x.From=false):mI B x=9:=by unfold mI;rw [if_neg h,if_neg (by rw [h1];simp)]
theorem zTg {B:List Bf} {x:Ix} (h:¬x.From=bs []) (h1:dS B x.From=true) (h2:¬(gU B x.From).T.Kind=3):mI B x=10:=by unfold mI;rw [if_neg h,if_pos h1,if_neg h2]
theorem zTf {B:List Bf} {x:Ix} (h:¬x.From=bs []) (h1:dS B x.From=true) (h2:(gU B x.From).T.Kind=3) (h3:¬(gU B x.From).Dims.length=x.At.length):mI B x=11:=by unfold mI;rw [if_neg h,if_pos h1,if_pos h2,if_neg h3]
theorem zTe {B:List Bf} {x:Ix} (h:¬x.From=bs []) (h1:dS B x.From=true) (h2:(gU B x.From).T.Kind=3) (h3:(gU B x.From).Dims.length=x.At.length):mI B x=0:=by unfold mI;rw [if_neg h,if_pos h1,if_pos h2,if_pos h3]
theorem zLp {B:List Bf} {l:List Ix} {k:Nat} {x:Ix} (h:l[k]? =some x) (hx:mI B x=0):nV B (l.drop k)=nV B (l.drop (k+1)):=by rw [qP h,nV,if_pos hx]
theorem zLo {B:List Bf} {l:List Ix} {k:Nat} {x:Ix} (h:l[k]? =some x) (hx:¬mI B x=0):nV B (l.drop k)=mI B x:=by rw [qP h,nV,if_neg hx]
theorem nodeN_9 {B:List Bf} {sc:List ByteArray} {e:Ex} (h:lD sc e=false):jG B sc e=9:=by unfold jG;rw [if_neg (by rw [h];simp)]
theorem nodeN_o {B:List Bf} {sc:List ByteArray} {e:Ex} (h:lD sc e=true) (h1:¬e.Op=3):jG B sc e=0:=by unfold jG;rw [if_pos h,if_neg h1]
theorem nodeN_n {B:List Bf} {sc:List ByteArray} {e:Ex} (h:lD sc e=true) (h1:e.Op=3) (h2:dS B e.Name=false):jG B sc e=9:=by unfold jG;rw [if_pos h,if_pos h1,if_neg (by rw [h2];simp)]
theorem nodeN_r {B:List Bf} {sc:List ByteArray} {e:Ex} (h:lD sc e=true) (h1:e.Op=3) (h2:dS B e.Name=true) (h3:¬(gU B e.Name).Dims.length=e.Idx.length):jG B sc e=11:=by unfold jG;rw [if_pos h,if_pos h1,if_pos h2,if_neg h3]
theorem zKh {B:List Bf} {sc:List ByteArray} {e:Ex} (h:lD sc e=true) (h1:e.Op=3) (h2:dS B e.Name=true) (h3:(gU B e.Name).Dims.length=e.Idx.length):jG B sc e=nV B e.Idx:=by unfold jG;rw [if_pos h,if_pos h1,if_pos h2,if_pos h3]
theorem zIk (B:List Bf) (sc:List ByteArray):∀(a b:List Ex),dG B sc (a++b)=if dG B sc a=0 then dG B sc b else dG B sc a
 |[],b=>by simp [dG]
 |x::r,b=>by
  rw [List.cons_append,dG,dG,zIk B sc r b]
  by_cases h:jG B sc x=0
  ·rw [if_pos h,if_pos h]
  ·rw [if_neg h,if_neg h,if_neg h]
theorem zQf {B:List Bf} {sc:List ByteArray} {pre:List Ex} {x:Ex} (h:dG B sc pre=0):dG B sc (pre++[x])=jG B sc x:=by
 rw [zIk,if_pos h,dG,dG]
 by_cases hx:jG B sc x=0
 ·rw [if_pos hx,hx]
 ·rw [if_neg hx]
theorem nodesN_pre {B:List Bf} {sc:List ByteArray} {pre suf:List Ex} {x:Ex} (h:¬dG B sc (pre++[x])=0):dG B sc (pre++x::suf)=dG B sc (pre++[x]):=by
 rw [show pre++x::suf=(pre++[x])++suf by simp,zIk,if_neg h]
theorem nodesN_at {B:List Bf} {sc:List ByteArray} {l:List Ex} {k:Nat} {x:Ex} (h:l[k]? =some x) (hx:jG B sc x=0):dG B sc (l.drop k)=dG B sc (l.drop (k+1)):=by rw [qP h,dG,if_pos hx]
theorem nodesN_no {B:List Bf} {sc:List ByteArray} {l:List Ex} {k:Nat} {x:Ex} (h:l[k]? =some x) (hx:¬jG B sc x=0):dG B sc (l.drop k)=jG B sc x:=by rw [qP h,dG,if_neg hx]
/-! ## Types -/
def tyF (B:List Bf) (e:Ex) (l:List Ty):Ty×Int:=
 if e.Op=1∨e.Op=12 then (e.Ty,0) else
 if e.Op=2 then (iTy,0) else
 if e.Op=3 then ((gU B e.Name).T,0) else
 if e.Op=8 then (dW l 0,0) else
 if e.Op=16∨e.Op=17∨e.Op=18 then (zTy,0) else
 if dW l (l.length-2)=dW l (l.length-1) then (if bE e=true then (zTy,0) else (dW l (l.length-1),0)) else (zTy,10)
theorem zCf {B:List Bf} {e:Ex} {l:List Ty} (h:e.Op=1∨e.Op=12):tyF B e l=(e.Ty,0):=by unfold tyF;rw [if_pos h]
theorem zCl {B:List Bf} {e:Ex} {l:List Ty} (h:e.Op=2):tyF B e l=(iTy,0):=by unfold tyF;rw [if_neg zA,if_pos h]
theorem zCe {B:List Bf} {e:Ex} {l:List Ty} (h:e.Op=3):tyF B e l=((gU B e.Name).T,0):=by unfold tyF;rw [if_neg zA,if_neg zA,if_pos h]
theorem zCk {B:List Bf} {e:Ex} {l:List Ty} (h:e.Op=8):tyF B e l=(dW l 0,0):=by unfold tyF;rw [if_neg zA,if_neg zA,if_neg zA,if_pos h]
theorem wW {B:List Bf} {e:Ex} {l:List Ty} (h:e.Op=16∨e.Op=17∨e.Op=18):tyF B e l=(zTy,0):=by unfold tyF;rw [if_neg zA,if_neg zA,if_neg zA,if_neg zA,if_pos h]
abbrev jN (o:Int):Prop:=o=1∨o=12∨o=2∨o=3∨o=8∨o=16∨o=17∨o=18
theorem tyF_o {B:List Bf} {e:Ex} {l:List Ty} (h:¬jN e.Op):tyF B e l=if dW l (l.length-2)=dW l (l.length-1) then (if bE e=true then (zTy,0) else (dW l (l.length-1),0)) else (zTy,10):=by
 unfold jN at h;unfold tyF;rw [if_neg zA,if_neg zA,if_neg zA,if_neg zA,if_neg zA]
theorem wX {B:List Bf} {e:Ex} {l:List Ty} (h:¬jN e.Op) (h2:¬dW l (l.length-2)=dW l (l.length-1)):tyF B e l=(zTy,10):=by rw [tyF_o h,if_neg h2]
theorem zCj {B:List Bf} {e:Ex} {l:List Ty} (h:¬jN e.Op) (h2:dW l (l.length-2)=dW l (l.length-1)) (h3:bE e=true):tyF B e l=(zTy,0):=by rw [tyF_o h,if_pos h2,if_pos h3]
theorem zCd {B:List Bf} {e:Ex} {l:List Ty} (h:¬jN e.Op) (h2:dW l (l.length-2)=dW l (l.length-1)) (h3:bE e=false):tyF B e l=(dW l (l.length-1),0):=by rw [tyF_o h,if_pos h2,if_neg (by rw [h3];simp)]
theorem tyF_zero {B:List Bf} {e:Ex} {l:List Ty} (h:¬(tyF B e l).2=0):(tyF B e l).1=zTy:=by
 unfold tyF at h⊢
 repeat' split at h<;>first|exact absurd rfl h|skip
 all_goals simp_all
theorem nodeT_zero {B:List Bf} {e:Ex} (h:¬(fA (tyF B) e).2=0):(fA (tyF B) e).1=zTy:=by
 rw [zSx] at h⊢
 split
 ·rename_i c
  rw [if_pos c] at h
  exact tyF_zero h
 ·rfl
def jB:List Ex->List Ty->List Ty
 |[],_=>[]
 |_::_,[]=>[]
 |a::r,t::ts=>if bE a=true then jB r ts else t::jB r ts
def kiF (B:List Bf) (e:Ex) (l:List Ty):Ty×Int:=
 if l.length=2/\¬dW l 0=dW l 1 then (zTy,10) else
 if e.Op=1∨e.Op=12 then (e.Ty,0) else
 if e.Op=2 then (iTy,0) else
 if e.Op=3 then ((gU B e.Name).T,0) else
 if bE e=true then (zTy,0) else (dW l 0,0)
def kiN (B:List Bf) (e:Ex) (l:List Ty):Ty×Int:=kiF B e (jB e.Args l)
theorem zHl {B:List Bf} {e:Ex} {l:List Ty} (h:l.length=2) (h2:¬dW l 0=dW l 1):kiF B e l=(zTy,10):=by unfold kiF;rw [if_pos ⟨h,h2⟩]
theorem zQn {B:List Bf} {e:Ex} {l:List Ty} (h:¬(l.length=2/\¬dW l 0=dW l 1)) (h1:e.Op=1∨e.Op=12):kiF B e l=(e.Ty,0):=by unfold kiF;rw [if_neg h,if_pos h1]
theorem zSc {B:List Bf} {e:Ex} {l:List Ty} (h:¬(l.length=2/\¬dW l 0=dW l 1)) (h1:e.Op=2):kiF B e l=(iTy,0):=by unfold kiF;rw [if_neg h,if_neg zA,if_pos h1]
theorem zSb {B:List Bf} {e:Ex} {l:List Ty} (h:¬(l.length=2/\¬dW l 0=dW l 1)) (h1:e.Op=3):kiF B e l=((gU B e.Name).T,0):=by unfold kiF;rw [if_neg h,if_neg zA,if_neg zA,if_pos h1]
theorem zOk {B:List Bf} {e:Ex} {l:List Ty} (h:¬(l.length=2/\¬dW l 0=dW l 1)) (h1:bE e=true):kiF B e l=(zTy,0):=by
 have:13<=e.Op:=by unfold bE at h1;simp at h1;omega
 unfold kiF
 by_cases h12:e.Op=1∨e.Op=12
 ·omega
 ·rw [if_neg h,if_neg h12,if_neg zA,if_neg zA,if_pos h1]
theorem zOj {B:List Bf} {e:Ex} {l:List Ty} (h:¬(l.length=2/\¬dW l 0=dW l 1)) (h1:¬(e.Op=1∨e.Op=12∨e.Op=2∨e.Op=3)) (h2:bE e=false):kiF B e l=(dW l 0,0):=by
 unfold kiF;rw [if_neg h,if_neg zA,if_neg zA,if_neg zA,if_neg (by rw [h2];simp)]
theorem zVm:∀{arg_:List Ex} {ts:List Ty} {a:Ex} {t:Ty},arg_.length=ts.length->jB (arg_++[a]) (ts++[t])=jB arg_ ts++(if bE a=true then [] else [t])
 |[],[],a,t,_=>by simp only [List.nil_append,jB]
 |x::r,y::s,a,t,h=>by
  simp only [List.cons_append,jB]
  rw [zVm (arg_:=r) (ts:=s) (by simpa using h)]
  split<;>rfl
 |[],_::_,_,_,h=>by simp at h
 |_::_,[],_,_,h=>by simp at h
theorem conds_ok {e:Ex} (h:dJ e=0):gA e.Op 0 e.Args=true:=by
 have:=(zGn (zBo h)).2.2.2.1
 simp only [jP,Bool.and_eq_true] at this
 exact this.2
theorem ty_ki {B:List Bf} {e:Ex} {l:List Ty} (h:dJ e=0) (hl:l.length=e.Args.length):tyF B e l=kiN B e l:=by
 have hr:=zIh h
 have hc:=conds_ok h
 obtain ⟨o1,o2⟩:=node_op (zBo h)
 have hle:l.length=(bL e.Op).toNat:=by omega
 unfold kiN
 generalize hA:e.Args=A at hr hc hl
 have hcond:bE e=true↔13<=e.Op:=by unfold bE;simp;omega
 unfold bL at hr
 by_cases c0:e.Op=1∨e.Op=2∨e.Op=3
 ·rw [if_pos c0] at hr
  match A,l,hr,hl with
  |[],[],_,_=>
   have hn:¬(([]:List Ty).length=2/\¬dW [] 0=dW [] 1):=by simp
   rcases c0 with c|c|c
   ·rw [zCf (.inl c)];exact (zQn hn (.inl c)).symm
   ·rw [zCl c];exact (zSc hn c).symm
   ·rw [zCe c];exact (zSb hn c).symm
  |_::_,_,hr,_=>simp at hr;omega
 rw [if_neg c0] at hr
 by_cases c1:e.Op=8∨e.Op=12∨e.Op=18
 ·rw [if_pos c1] at hr
  match A,l,hr,hl with
  |[a],[t],_,_=>
   simp only [gA,Bool.and_true,beq_iff_eq] at hc
   rcases c1 with c|c|c
   ·have ha:bE a=false:=by rw [hc];simp [fU,c]
    rw [zCk c,jB,if_neg (by rw [ha];simp),jB,zOj uD zA (by cases hx:bE e;rfl;exact absurd (hcond.1 hx) zA)]
   ·have ha:bE a=false:=by rw [hc];simp [fU,c]
    rw [zCf (.inr c),jB,if_neg (by rw [ha];simp),jB,zQn uD (.inr c)]
   ·have ha:bE a=true:=by rw [hc];simp [fU,c]
    rw [wW zA,jB,if_pos ha,jB,zOk uD (hcond.2 zA)]
  |[],_,hr,_=>simp at hr
  |_::_::_,_,hr,_=>simp at hr;omega
 rw [if_neg c1] at hr
 by_cases c11:e.Op=11
 ·rw [if_pos c11] at hr
  match A,l,hr,hl with
  |[a,b,c],[s,t,u],_,_=>
   simp only [gA,Bool.and_true,Bool.and_eq_true,beq_iff_eq] at hc
   have ha:bE a=true:=by rw [hc.1];simp [fU,c11]
   have hb:bE b=false:=by rw [hc.2.1];simp [fU,c11]
   have hd:bE c=false:=by rw [hc.2.2];simp [fU,c11]
   have hec:bE e=false:=by cases hx:bE e;rfl;exact absurd (hcond.1 hx) zA
   rw [jB,if_pos ha,jB,if_neg (by rw [hb];simp),jB,if_neg (by rw [hd];simp),jB]
   by_cases q:t=u
   ·subst q
    rw [zCd (by unfold jN;omega) rfl hec,zOj (by simp [dW]) zA hec];rfl
   ·rw [wX (e:=e) (l:=[s,t,u]) (by unfold jN;omega) q,zHl (l:=[t,u]) rfl q]
  |[],_,hr,_=>simp at hr
  |[_],_,hr,_=>simp at hr
  |[_,_],_,hr,_=>simp at hr
  |_::_::_::_::_,_,hr,_=>simp at hr;omega
 rw [if_neg c11] at hr
 match A,l,hr,hl with
 |[a,b],[t,u],_,_=>
  simp only [gA,Bool.and_true,Bool.and_eq_true,beq_iff_eq] at hc
  by_cases c16:e.Op=16∨e.Op=17
  ·have ha:bE a=true:=by rw [hc.1];rcases c16 with c|c<;>simp [fU,c]
   have hb:bE b=true:=by rw [hc.2];rcases c16 with c|c<;>simp [fU,c]
   rw [wW zA,jB,if_pos ha,jB,if_pos hb,jB,zOk uD (hcond.2 zA)]
  ·have w:∀i,fU e.Op i=false:=fun i=>by unfold fU;simp;omega
   have ha:bE a=false:=by rw [hc.1,w]
   have hb:bE b=false:=by rw [hc.2,w]
   rw [jB,if_neg (by rw [ha];simp),jB,if_neg (by rw [hb];simp),jB]
   by_cases q:t=u
   ·subst q
    by_cases ce:bE e=true
    ·rw [zCj (by unfold jN;omega) rfl ce,zOk (by simp [dW]) ce]
    ·have ce':bE e=false:=by simpa using ce
     rw [zCd (by unfold jN;omega) rfl ce',zOj (by simp [dW]) zA ce'];rfl
   ·rw [wX (e:=e) (l:=[t,u]) (by unfold jN;omega) q,zHl (l:=[t,u]) rfl q]
 |[],_,hr,_=>simp at hr
 |[_],_,hr,_=>simp at hr
 |_::_::_::_,_,hr,_=>simp at hr;omega
mutual
theorem nodeT_ki (B:List Bf):∀e:Ex,dJ e=0->fA (tyF B) e=fA (kiN B) e
 |.mk o nm v t l i arg_,h=>by
  have h3:=nodeL_ki B arg_ fun a ha=>zHi h ha
  rw [fA,fA,←h3]
  by_cases c:(bQ (tyF B) arg_).2=0
  ·rw [if_pos c,if_pos c]
   exact ty_ki h (zHk _ _ c)
  ·rw [if_neg c,if_neg c]
theorem nodeL_ki (B:List Bf):∀l:List Ex,(∀a,a∈l->dJ a=0)->bQ (tyF B) l=bQ (kiN B) l
 |[],_=>rfl
 |a::r,h=>by
  rw [bQ,bQ,←nodeT_ki B a (h a uD),←nodeL_ki B r fun x hx=>h x (by simp [hx])]
end
def dK (B:List Bf) (sc:List ByteArray) (e:Ex):Ty×Int:=
 if fY e=0 then (if dG B sc (bW e)=0 then fA (tyF B) e else (zTy,dG B sc (bW e))) else (zTy,fY e)
theorem zWp {B:List Bf} {sc:List ByteArray} {e:Ex} (h:¬fY e=0):dK B sc e=(zTy,fY e):=by unfold dK;rw [if_neg h]
theorem zWo {B:List Bf} {sc:List ByteArray} {e:Ex} (h:fY e=0) (h2:¬dG B sc (bW e)=0):dK B sc e=(zTy,dG B sc (bW e)):=by unfold dK;rw [if_pos h,if_neg h2]
theorem exprT_3 {B:List Bf} {sc:List ByteArray} {e:Ex} (h:fY e=0) (h2:dG B sc (bW e)=0):dK B sc e=fA (tyF B) e:=by unfold dK;rw [if_pos h,if_pos h2]
theorem exprT_k {B:List Bf} {sc:List ByteArray} {e:Ex} (h:fY e=0) (h2:dG B sc (bW e)=0):dK B sc e=fA (kiN B) e:=by rw [exprT_3 h h2];exact nodeT_ki B e (zDa h)
theorem exprT_rd {B:List Bf} {sc:List ByteArray} {s:St} (h:(dK B sc (rdE s)).2=0):(dK B sc (rdE s)).1=(gU B s.Name).T:=by
 by_cases h1:fY (rdE s)=0
 ·by_cases h2:dG B sc (bW (rdE s))=0
  ·rw [exprT_3 h1 h2,zSx]
   have:bQ (tyF B) (rdE s).Args=([],0):=rfl
   rw [this,if_pos rfl,zCe rfl];rfl
  ·rw [zWo h1 h2] at h;exact absurd h h2
 ·rw [zWp h1] at h;exact absurd h h1
/-! ## Statements -/
def pI (e:Ex):Bool:=decide (e=zEx)
def jC (s:St):Bool:=decide (s.Op=2)||decide (s.Op=3)
def fG (s:St):Bool:=
 (decide (s.Op=1)||jC s||decide (s.Op=4))&& !(decide (s.Op=4)&& !decide (s.Name=bs []))&& !(!decide (s.Op=1)&&(!decide (s.Many=0)|| !decide (s.Mark=0)))&&
 !(!decide (s.Op=3)&& !decide (s.Fold=0))&& !(!jC s&&decide ((0:Int)<s.Idx.length))&& !(decide (s.Op=1)&& !pI s.E)&&(!jC s||decide ((s.Body.length:Int)=0))
theorem syn_1 {s:St} (c:((!decide (s.Op=1)&& !(decide (s.Op=2)||decide (s.Op=3)))&& !decide (s.Op=4))=true):false=fG s:=by
 unfold fG jC
 simp only [Bool.and_eq_true,Bool.not_eq_true',Bool.or_eq_false_iff] at c
 simp only [c.1.1,c.1.2.1,c.1.2.2,c.2,Bool.or_self,Bool.false_and]
theorem syn_2 {s:St} (c:(decide (s.Op=4)&& !decide (s.Name=bs []))=true):false=fG s:=by
 exact j7
theorem syn_3 {s:St} (c:(!decide (s.Op=1)&&(!decide (s.Many=0)|| !decide (s.Mark=0)))=true):false=fG s:=by
 exact j7
theorem syn_4 {s:St} (c:(!decide (s.Op=3)&& !decide (s.Fold=0))=true):false=fG s:=by
 exact j7
theorem syn_5 {s:St} (c:(!jC s&&decide ((0:Int)<s.Idx.length))=true):false=fG s:=by
 exact j7
theorem syn_6 {s:St} (c:(decide (s.Op=1)&& !pI s.E)=true):false=fG s:=by
 exact j7
theorem syn_7 {s:St} (c1:((!decide (s.Op=1)&& !jC s)&& !decide (s.Op=4))=false) (c2:(decide (s.Op=4)&& !decide (s.Name=bs []))=false) (c3:(!decide (s.Op=1)&&(!decide (s.Many=0)|| !decide (s.Mark=0)))=false) (c4:(!decide (s.Op=3)&& !decide (s.Fold=0))=false)
  (c5:(!jC s&&decide ((0:Int)<s.Idx.length))=false) (c6:(decide (s.Op=1)&& !pI s.E)=false):(!jC s||decide ((s.Body.length:Int)=0))=fG s:=by
 have h1:(decide (s.Op=1)||jC s||decide (s.Op=4))=true:=by
  revert c1;cases decide (s.Op=1)<;>cases jC s<;>cases decide (s.Op=4)<;>simp
 unfold fG
 simp only [h1,c2,c3,c4,c5,c6,Bool.not_false,Bool.true_and]
def nF (B:List Bf) (U:List ByteArray) (s:St):Int:=
 if bD s.Name=true then (if dS B s.Name=true∨dD U s.Name=true then 8 else if s.Many<1∨65536<s.Many∨s.Mark<0∨3<s.Mark then 1 else 0) else 7
def ifE (B:List Bf) (sc:List ByteArray) (s:St):Int:=if (dK B sc s.E).2=0 then (if bE s.E=true then 0 else 10) else (dK B sc s.E).2
def jW (B:List Bf) (sc:List ByteArray) (s:St):Int:=
 if (dK B sc (rdE s)).2=0 then (if (gU B s.Name).Use=1∨(s.Op=3/\(s.Fold<1∨4<s.Fold)) then 1 else
  if (dK B sc s.E).2=0 then (if bE s.E=true∨¬(dK B sc s.E).1=(gU B s.Name).T then 10 else 0) else (dK B sc s.E).2) else (dK B sc (rdE s)).2
def stE (B:List Bf) (U sc:List ByteArray) (s:St):Int:=
 if fG s=true then (if s.Op=1 then nF B U s else if s.Op=4 then ifE B sc s else jW B sc s) else 5
structure Ck where
 U:List ByteArray
 W:List Int
 E:Int
def gE (U:List ByteArray) (s:St):List ByteArray:=if s.Op=1 then U++[s.Name] else U
mutual
def gV (B:List Bf):List ByteArray->List ByteArray->List Int->St->Ck
 |U,sc,here,.mk o nm mn mk fo i e b=>if stE B U sc (.mk o nm mn mk fo i e b)=0 then bP B (gE U (.mk o nm mn mk fo i e b)) (gE sc (.mk o nm mn mk fo i e b)) here 0 b else ⟨[],here,stE B U sc (.mk o nm mn mk fo i e b)⟩
def bP (B:List Bf):List ByteArray->List ByteArray->List Int->Int->List St->Ck
 |U,_,_,_,[]=>⟨U,[],0⟩
 |U,sc,way,i,s::r=>if (gV B U sc (way++[i]) s).E=0 then bP B (gV B U sc (way++[i]) s).U sc way (i+1) r else gV B U sc (way++[i]) s
end
theorem chkS_eq (B:List Bf) (U sc:List ByteArray) (here:List Int) (s:St):gV B U sc here s=if stE B U sc s=0 then bP B (gE U s) (gE sc s) here 0 s.Body else ⟨[],here,stE B U sc s⟩:=by cases s;rw [gV];rfl
theorem chkS_no {B:List Bf} {U sc:List ByteArray} {here:List Int} {s:St} (h:¬stE B U sc s=0):gV B U sc here s=⟨[],here,stE B U sc s⟩:=by rw [chkS_eq,if_neg h]
theorem zXi {B:List Bf} {U sc:List ByteArray} {here:List Int} {s:St} (h:stE B U sc s=0):gV B U sc here s=bP B (gE U s) (gE sc s) here 0 s.Body:=by rw [chkS_eq,if_pos h]
theorem zPg {B:List Bf} {R:Ck} {U sc:List ByteArray} {way:List Int} {l:List St} {k:Nat} {s:St} (h:l[k]? =some s) (hp:R=bP B U sc way k (l.drop k)) (hx:(gV B U sc (way++[(k:Int)]) s).E=0):R=bP B (gV B U sc (way++[(k:Int)]) s).U sc way ((k+1:Nat):Int) (l.drop (k+1)):=by
 rw [hp,qP h,bP,if_pos hx];rfl
theorem zFe {B:List Bf} {R:Ck} {U sc:List ByteArray} {way:List Int} {l:List St} {k:Nat} {s:St} (h:l[k]? =some s) (hp:R=bP B U sc way k (l.drop k)) (hx:¬(gV B U sc (way++[(k:Int)]) s).E=0):R=gV B U sc (way++[(k:Int)]) s:=by
 rw [hp,qP h,bP,if_neg hx]
theorem zTq {B:List Bf} {R:Ck} {U sc:List ByteArray} {way:List Int} {l:List St} {k:Nat} (hp:R=bP B U sc way k (l.drop k)) (h:¬k<l.length):R=⟨U,[],0⟩:=by
 rw [hp,kK h,bP]
theorem chkL_ok:∀{B:List Bf} {l:List St} {U sc:List ByteArray} {way:List Int} {i:Int},(bP B U sc way i l).E=0->(bP B U sc way i l).W=[]
 |B,[],U,sc,way,i,_=>by rw [bP]
 |B,s::r,U,sc,way,i,h=>by
  rw [bP] at h⊢
  by_cases c:(gV B U sc (way++[i]) s).E=0
  ·rw [if_pos c] at h⊢;exact chkL_ok h
  ·rw [if_neg c] at h;exact absurd h c
mutual
theorem chkS_len (B:List Bf):∀(s:St) (U sc:List ByteArray) (here:List Int),(gV B U sc here s).U.length<=U.length+stN s
 |.mk o nm mn mk fo i e b,U,sc,here=>by
  rw [gV,stN]
  split
  ·have h1:=chkL_len B b (gE U (.mk o nm mn mk fo i e b)) (gE sc (.mk o nm mn mk fo i e b)) here 0
   have h2:(gE U (.mk o nm mn mk fo i e b)).length<=U.length+1:=by unfold gE;split<;>simp
   omega
  ·simp
theorem chkL_len (B:List Bf):∀(l:List St) (U sc:List ByteArray) (way:List Int) (i:Int),(bP B U sc way i l).U.length<=U.length+bY l
 |[],U,sc,way,i=>by rw [bP];simp
 |s::r,U,sc,way,i=>by
  rw [bP,bY]
  have h1:=chkS_len B s U sc (way++[i])
  split
  ·have h2:=chkL_len B r (gV B U sc (way++[i]) s).U sc way (i+1)
   omega
  ·omega
end
theorem zOb {U:List ByteArray} {s:St} (h:s.Op=1):gE U s=U++[s.Name]:=by unfold gE;rw [if_pos h]
theorem zSy {U:List ByteArray} {s:St} (h:¬s.Op=1):gE U s=U:=by unfold gE;rw [if_neg h]
theorem scAll_next {S:List ByteArray} {f:Lf} {l:List Ix} {k:Nat} {x:Ix} (h:l[k]? =some x):((gN S f&&(l.take k).all (cW S))&&gN S x.Lin&&x.At.all (gN S))=(gN S f&&(l.take (k+1)).all (cW S)):=by
 rw [yQ h,List.all_append]
 simp only [List.all_cons,List.all_nil,Bool.and_true,cW,Bool.and_assoc]
theorem st10_t {c:Bool} {a b:Ty} (h:(c|| !bT [cI a.Kind,cI a.Bits,cI a.Frac,cI a.Round,cI a.Over] [cI b.Kind,cI b.Bits,cI b.Frac,cI b.Round,cI b.Over])=true):c=true∨¬a=b:=by
 rw [zUg,Bool.or_eq_true] at h
 rcases h with h|h
 ·exact .inl h
 ·exact .inr (by simpa using h)
theorem st10_f {c:Bool} {a b:Ty} (h:(c|| !bT [cI a.Kind,cI a.Bits,cI a.Frac,cI a.Round,cI a.Over] [cI b.Kind,cI b.Bits,cI b.Frac,cI b.Round,cI b.Over])=false):¬(c=true∨¬a=b):=by
 rw [zUg,Bool.or_eq_false_iff] at h
 rw [h.1]
 rintro (k|k)
 ·cases k
 ·exact k (by simpa using h.2)
theorem storeE_1 {B:List Bf} {sc:List ByteArray} {s:St} (h:¬(dK B sc (rdE s)).2=0):jW B sc s=(dK B sc (rdE s)).2:=by unfold jW;rw [if_neg h]
theorem zSp {B:List Bf} {sc:List ByteArray} {s:St} (h:(dK B sc (rdE s)).2=0) (h2:(gU B s.Name).Use=1∨(s.Op=3/\(s.Fold<1∨4<s.Fold))):jW B sc s=1:=by unfold jW;rw [if_pos h,if_pos h2]
theorem storeE_2 {B:List Bf} {sc:List ByteArray} {s:St} (h:(dK B sc (rdE s)).2=0) (h2:¬((gU B s.Name).Use=1∨(s.Op=3/\(s.Fold<1∨4<s.Fold)))) (h3:¬(dK B sc s.E).2=0):jW B sc s=(dK B sc s.E).2:=by unfold jW;rw [if_pos h,if_neg h2,if_neg h3]
theorem zUh {B:List Bf} {sc:List ByteArray} {s:St} (h:(dK B sc (rdE s)).2=0) (h2:¬((gU B s.Name).Use=1∨(s.Op=3/\(s.Fold<1∨4<s.Fold)))) (h3:(dK B sc s.E).2=0) (h4:bE s.E=true∨¬(dK B sc s.E).1=(gU B s.Name).T):jW B sc s=10:=by unfold jW;rw [if_pos h,if_neg h2,if_pos h3,if_pos h4]
theorem storeE_0 {B:List Bf} {sc:List ByteArray} {s:St} (h:(dK B sc (rdE s)).2=0) (h2:¬((gU B s.Name).Use=1∨(s.Op=3/\(s.Fold<1∨4<s.Fold)))) (h3:(dK B sc s.E).2=0) (h4:¬(bE s.E=true∨¬(dK B sc s.E).1=(gU B s.Name).T)):jW B sc s=0:=by unfold jW;rw [if_pos h,if_neg h2,if_pos h3,if_neg h4]
theorem loopE_7 {B:List Bf} {U:List ByteArray} {s:St} (h:bD s.Name=false):nF B U s=7:=by unfold nF;rw [if_neg (by rw [h];simp)]
theorem loopE_8 {B:List Bf} {U:List ByteArray} {s:St} (h:bD s.Name=true) (h2:dS B s.Name=true∨dD U s.Name=true):nF B U s=8:=by unfold nF;rw [if_pos h,if_pos h2]
theorem loopE_1 {B:List Bf} {U:List ByteArray} {s:St} (h:bD s.Name=true) (h2:¬(dS B s.Name=true∨dD U s.Name=true)) (h3:s.Many<1∨65536<s.Many∨s.Mark<0∨3<s.Mark):nF B U s=1:=by unfold nF;rw [if_pos h,if_neg h2,if_pos h3]
theorem loopE_0 {B:List Bf} {U:List ByteArray} {s:St} (h:bD s.Name=true) (h2:¬(dS B s.Name=true∨dD U s.Name=true)) (h3:¬(s.Many<1∨65536<s.Many∨s.Mark<0∨3<s.Mark)):nF B U s=0:=by unfold nF;rw [if_pos h,if_neg h2,if_neg h3]
theorem ifE_x {B:List Bf} {sc:List ByteArray} {s:St} (h:¬(dK B sc s.E).2=0):ifE B sc s=(dK B sc s.E).2:=by unfold ifE;rw [if_neg h]
theorem ifE_10 {B:List Bf} {sc:List ByteArray} {s:St} (h:(dK B sc s.E).2=0) (h2:bE s.E=false):ifE B sc s=10:=by unfold ifE;rw [if_pos h,if_neg (by rw [h2];simp)]
theorem ifE_0 {B:List Bf} {sc:List ByteArray} {s:St} (h:(dK B sc s.E).2=0) (h2:bE s.E=true):ifE B sc s=0:=by unfold ifE;rw [if_pos h,if_pos h2]
theorem stE_5 {B:List Bf} {U sc:List ByteArray} {s:St} (h:fG s=false):stE B U sc s=5:=by unfold stE;rw [if_neg (by rw [h];simp)]
theorem stE_l {B:List Bf} {U sc:List ByteArray} {s:St} (h:fG s=true) (h2:s.Op=1):stE B U sc s=nF B U s:=by unfold stE;rw [if_pos h,if_pos h2]
theorem stE_i {B:List Bf} {U sc:List ByteArray} {s:St} (h:fG s=true) (h2:s.Op=4):stE B U sc s=ifE B sc s:=by unfold stE;rw [if_pos h,if_neg zA,if_pos h2]
theorem stE_s {B:List Bf} {U sc:List ByteArray} {s:St} (h:fG s=true) (h2:¬s.Op=1) (h3:¬s.Op=4):stE B U sc s=jW B sc s:=by unfold stE;rw [if_pos h,if_neg h2,if_neg h3]
def bJ (n:Ns):List Int×Int:=
 if bN 40 n.Body=true then (if 2000<jZ n.Body 2000∨128<n.Bufs.length then ([],2) else if dI [] n.Bufs=0 then ((bP n.Bufs [] [] [] 0 n.Body).W,(bP n.Bufs [] [] [] 0 n.Body).E) else ([],dI [] n.Bufs)) else ([],13)
theorem zUd {n:Ns} (h:bN 40 n.Body=false):bJ n=([],13):=by unfold bJ;rw [if_neg (by rw [h];simp)]
theorem validN_2 {n:Ns} (h:bN 40 n.Body=true) (h2:2000<jZ n.Body 2000∨128<n.Bufs.length):bJ n=([],2):=by unfold bJ;rw [if_pos h,if_pos h2]
theorem validN_b {n:Ns} (h:bN 40 n.Body=true) (h2:¬(2000<jZ n.Body 2000∨128<n.Bufs.length)) (h3:¬dI [] n.Bufs=0):bJ n=([],dI [] n.Bufs):=by unfold bJ;rw [if_pos h,if_neg h2,if_neg h3]
theorem zNf {n:Ns} (h:bN 40 n.Body=true) (h2:¬(2000<jZ n.Body 2000∨128<n.Bufs.length)) (h3:dI [] n.Bufs=0):bJ n=((bP n.Bufs [] [] [] 0 n.Body).W,(bP n.Bufs [] [] [] 0 n.Body).E):=by unfold bJ;rw [if_pos h,if_neg h2,if_pos h3]
structure Ns.Ok (n:Ns):Prop where
 bufs:n.Bufs.length<=4294967296
 dims:∀b,b∈n.Bufs->b.Dims.length<=17592186044416
 body:bC n.Body<=536870912
end Go.Br
end
section
namespace Go.Br
open Go Go.Eng Go.L41
def rK (i:List Ix):Ex:=.mk 0 (bs []) ⟨0,0⟩ ⟨0,0,0,0,0⟩ ⟨0,[]⟩ i []
theorem idxE_wt (i:List Ix):(rK i).wt=1+i.length+dL i:=by
 rw [Ex.wt_eq];simp only [rK,Ex.Lin,Ex.Idx,Ex.Args,dY,List.length_nil];omega
mutual
def mV:St->Nat->Nat
 |.mk _ _ _ _ _ _ _ b,m=>fO b m b.length
def fO:List St->Nat->Nat->Nat
 |[],_,n=>n
 |s::r,m,n=>if n<=m then fO r m (n+fW s.E m+fW (rK s.Idx) m+mV s (m-n)) else n
end
def jU (l:List St) (m:Nat):Nat:=fO l m l.length
theorem weighS_eq (s:St) (m:Nat):mV s m=jU s.Body m:=by cases s;rw [mV];rfl
theorem weighSs_ge:∀(l:List St) (m n:Nat),n<=fO l m n
 |[],m,n=>by rw [fO];omega
 |s::r,m,n=>by
  rw [fO];split
  ·have:=weighSs_ge r m (n+fW s.E m+fW (rK s.Idx) m+mV s (m-n));omega
  ·omega
mutual
theorem weighS_wt:∀(s:St) (m:Nat),mV s m<=m->bC s.Body<=mV s m
 |.mk _ _ _ _ _ _ _ b,m,h=>by
  rw [mV] at h⊢
  have:=zPp b m _ h
  have:=kX b
  simp only [St.Body];omega
theorem zPp:∀(l:List St) (m n:Nat),fO l m n<=m->n+(bC l-l.length)<=fO l m n
 |[],m,n,h=>by simp [fO,bC]
 |s::r,m,n,h=>by
  by_cases hn:n<=m
  ·rw [fO,if_pos hn] at h⊢
   have h1:=weighSs_ge r m (n+fW s.E m+fW (rK s.Idx) m+mV s (m-n))
   have h2:=zPp r m _ h
   have h3:=zTz s.E m zA
   have h4:=zTz (rK s.Idx) m zA
   have h5:=weighS_wt s (m-n) zA
   have h6:=kX r
   rw [idxE_wt] at h4
   rw [bC,List.length_cons,St.wt_eq];omega
  ·rw [fO,if_neg hn] at h;omega
end
theorem weighB_wt {l:List St} {m:Nat} (h:jU l m<=m):bC l<=jU l m:=by
 unfold jU at *
 have:=zPp l m _ h
 have:=kX l
 omega
mutual
def St.fit:St->Prop
 |.mk _ _ _ _ _ i e b=>i.length<=140737488355328/\(∀x,x∈i->x.fit)/\e.fit/\b.length<=140737488355328/\pZ b
def pZ:List St->Prop
 |[]=>True
 |s::r=>s.fit/\pZ r
end
theorem zTh {l:List St} (h:pZ l):∀a,a∈l->a.fit:=by
 induction l with
 |nil=>intro a ha;cases ha
 |cons x r ih=>
  intro a ha
  rw [pZ] at h
  rcases List.mem_cons.1 ha with rfl|ha
  ·exact h.1
  ·exact ih h.2 a ha
theorem fitS_of {l:List St} (h:∀a,a∈l->a.fit):pZ l:=by
 induction l with
 |nil=>rw [pZ];trivial
 |cons x r ih=>rw [pZ];exact ⟨h x uD,ih fun a ha=>h a (by simp [ha])⟩
theorem St.fit_eq {s:St} (h:s.fit):s.Idx.length<=140737488355328/\(∀x,x∈s.Idx->x.fit)/\s.E.fit/\s.Body.length<=140737488355328/\pZ s.Body:=by
 cases s with
 |mk o n m k f i e b=>rw [St.fit] at h;exact h
theorem idxE_fit {i:List Ix} (h1:i.length<=140737488355328) (h2:∀x,x∈i->x.fit):(rK i).fit:=by
 unfold rK;rw [Ex.fit];exact ⟨uD,h1,uD,h2,trivial⟩
abbrev wB (m:Nat):Nat:=140737488355328+m*1125899906857624
mutual
theorem weighS_le:∀(s:St) (m:Nat),s.fit->m<=5000->mV s m<=wB m
 |.mk o nm k f mn i e b,m,h,hm=>by
  rw [St.fit] at h
  obtain ⟨_,_,_,h1,h2⟩:=h
  rw [mV]
  exact weighSs_le b m _ h2 hm (fun hb=>by cases b;exact absurd rfl hb;simp) (by unfold wB;omega)
theorem weighSs_le:∀(l:List St) (m n:Nat),pZ l->m<=5000->(l≠[]->1<=n)->n<=wB m->fO l m n<=wB m
 |[],m,n,_,_,_,h=>by rw [fO];exact h
 |s::r,m,n,hf,hm,h1,h=>by
  rw [pZ] at hf
  rw [fO]
  have h1:=h1 uD
  obtain ⟨f1,f2,f3,_,_⟩:=St.fit_eq hf.1
  split
  ·rename_i hn
   have h3:=weighS_le s (m-n) hf.1 zA
   have h4:=zHb s.E m f3
   have h5:=zHb (rK s.Idx) m (idxE_fit f1 f2)
   refine weighSs_le r m _ hf.2 hm (fun _=>by omega) ?_
   unfold wB at *
   omega
  ·exact h
end
theorem weighSs_end {m n k:Nat} {l:List St} {N:Nat} {x:Int} (hp:N=fO (l.drop k) m n) (hx:x=m) (h:l.length<=k∨x<n):n=N:=by
 rw [hp]
 by_cases hk:k<l.length
 ·obtain ⟨a,ha⟩:=qY l k hk
  rw [qP ha,fO,if_neg zA]
 ·rw [kK hk,fO]
theorem weighSs_next {m n k:Nat} {l:List St} {N:Nat} {s:St} (hs:l[k]? =some s) (hp:N=fO (l.drop k) m n) (h:n<=m):N=fO (l.drop (k+1)) m (n+fW s.E m+fW (rK s.Idx) m+jU s.Body (m-n)):=by
 rw [hp,qP hs,fO,if_pos h,weighS_eq]
theorem weigh_lt {m n:Nat} {l:List St} {k:Nat} {s:St} (hs:l[k]? =some s) (hf:pZ l) (hm:m<=5000) (hn:n<=m) (h1:1<=n):n+fW s.E m+fW (rK s.Idx) m+jU s.Body (m-n)<=wB m:=by
 have hs':=zTh hf s (qA hs)
 obtain ⟨f1,f2,f3,f4,f5⟩:=St.fit_eq hs'
 have h3:=weighS_le s (m-n) hs' zA
 rw [weighS_eq] at h3
 have h4:=zHb s.E m f3
 have h5:=zHb (rK s.Idx) m (idxE_fit f1 f2)
 unfold wB at *
 omega
/-! ## What the laws of layers 30,36 and 41 take for small -/
structure Ns.Fit (n:Ns):Prop where
 bufs:n.Bufs.length<=140737488355328
 dims:∀b,b∈n.Bufs->b.Dims.length<=17592186044416
 len:n.Body.length<=140737488355328
 body:pZ n.Body
theorem Ns.Fit.ok {n:Ns} (h:n.Fit) {m:Nat} (hm:m<=5000) (hb:n.Bufs.length<=150) (hw:jU n.Body m<=m):n.Ok:=
 ⟨zA,h.dims,by have:=weighB_wt hw;omega⟩
end Go.Br
end
section
namespace Go.Br
open Go Go.Eng Go.L41
/-! ## For the reference's check -/
structure Bd where
 Name:ByteArray
 Val:Int
 deriving DecidableEq
def Bd.cells (x:Bd):List C:=[cS x.Name,cI x.Val]
theorem any_hasB (bd:List Bd) (s:ByteArray):(bd.any fun d=>decide (d.Name=s))=dD (bd.map Bd.Name) s:=by
 unfold dD;rw [List.any_map];rfl
theorem any_step {bd:List Bd} {i:Nat} {d:Bd} {s:ByteArray} (h:bd[i]? =some d):(((bd.take i).any fun d=>decide (d.Name=s))||decide (d.Name=s))=(bd.take (i+1)).any fun d=>decide (d.Name=s):=by
 rw [yQ h,List.any_append];simp
theorem bound_no {l:List Lf} {sc:List ByteArray} {k j:Nat} {x:Lf} {m:Mono} (h:l[k]? =some x) (hm:x.L[j]? =some m) (c:dD sc m.Name=false):l.all (gN sc)=false:=by
 have:gN sc x=false:=zLc hm (p:=fun y:Mono=>dD sc y.Name) c
 exact zLc h this
theorem ixs_len (l:List Ix) (k:Nat):((l.take k).flatMap ixF).length<=l.length+dL l:=by
 have h1:∀l:List Ix,(l.flatMap ixF).length<=l.length+dL l:=by
  intro l
  induction l with
  |nil=>simp
  |cons x r ih=>
   rw [List.flatMap_cons,List.length_append,dL,Ix.wt,List.length_cons]
   simp only [ixF,List.length_cons];omega
 have h2:=h1 (l.take k)
 have h3:dL (l.take k)<=dL l:=by
  have:∀(l:List Ix) (k:Nat),dL (l.take k)<=dL l:=by
   intro l
   induction l with
   |nil=>intro k;simp [dL]
   |cons x r ih=>intro k;cases k with
    |zero=>simp [dL]
    |succ k=>rw [List.take_succ_cons,dL,dL];have:=ih k;omega
  exact this l k
 have h4:=List.length_take_le' k l
 omega
theorem node_sc (sc:List ByteArray) (e:Ex):([e.Lin].all (gN sc)&&(e.Idx.flatMap ixF).all (gN sc))=lD sc e:=by
 unfold lD
 congr 1
 ·simp
 ·rw [List.all_flatMap];rfl
theorem node_sc_f {sc:List ByteArray} {e:Ex} (c:(![e.Lin].all (gN sc)|| !(e.Idx.flatMap ixF).all (gN sc))=true):lD sc e=false:=by
 rw [←Bool.not_and,node_sc] at c;simpa using c
theorem node_sc_t {sc:List ByteArray} {e:Ex} (c:(![e.Lin].all (gN sc)|| !(e.Idx.flatMap ixF).all (gN sc))=false):lD sc e=true:=by
 rw [←Bool.not_and,node_sc] at c;simpa using c
theorem nonC_len:∀(arg_:List Ex) (ts:List Ty),(jB arg_ ts).length<=arg_.length
 |[],_=>by simp [jB]
 |_::_,[]=>by simp [jB]
 |a::r,t::ts=>by
  have:=nonC_len r ts
  rw [jB];split<;>simp<;>omega
theorem ki10_t {l:List Ty} (c:(decide (((l.map tyC).length:Int)=2)&& !bT [cI (dW l 0).Kind,cI (dW l 0).Bits,cI (dW l 0).Frac,cI (dW l 0).Round,cI (dW l 0).Over] [cI (dW l 1).Kind,cI (dW l 1).Bits,cI (dW l 1).Frac,cI (dW l 1).Round,cI (dW l 1).Over])=true):l.length=2/\¬dW l 0=dW l 1:=by
 rw [Bool.and_eq_true,decide_eq_true_eq,List.length_map] at c
 exact ⟨zA,zHw c.2⟩
theorem ki10_f {l:List Ty} (c:(decide (((l.map tyC).length:Int)=2)&& !bT [cI (dW l 0).Kind,cI (dW l 0).Bits,cI (dW l 0).Frac,cI (dW l 0).Round,cI (dW l 0).Over] [cI (dW l 1).Kind,cI (dW l 1).Bits,cI (dW l 1).Frac,cI (dW l 1).Round,cI (dW l 1).Over])=false):¬(l.length=2/\¬dW l 0=dW l 1):=by
 rintro ⟨h1,h2⟩
 rw [Bool.and_eq_false_iff,decide_eq_false_iff_not,List.length_map] at c
 rcases c with c|c
 ·omega
 ·exact h2 (zHx c)
theorem ki_one {e:Ex} {l:List Ty} (h:dJ e=0) (hl:l.length=e.Args.length) (h1:¬(e.Op=1∨e.Op=12∨e.Op=2∨e.Op=3)) (h2:bE e=false):1<=(jB e.Args l).length:=by
 have hr:=zIh h
 have hc:=conds_ok h
 obtain ⟨o1,o2⟩:=node_op (zBo h)
 have h13:e.Op<13:=by
  unfold bE at h2
  simp only [Bool.and_eq_false_iff,decide_eq_false_iff_not] at h2
  omega
 generalize e.Args=A at hr hc hl
 have w:∀i,(e.Op=11->i≠0)->fU e.Op i=false:=fun i hi=>by
  unfold fU;simp only [Bool.or_eq_false_iff,Bool.and_eq_false_iff,decide_eq_false_iff_not]
  by_cases h11:e.Op=11
  ·have:=hi h11;omega
  ·omega
 unfold bL at hr
 match A,l,hl with
 |[],_,_=>
  exfalso
  simp only [List.length_nil] at hr
  split at hr
  ·omega
  ·split at hr
   ·simp at hr
   ·split at hr<;>simp at hr
 |[a],[t],_=>
  simp only [gA,Bool.and_true,beq_iff_eq] at hc
  have h11:e.Op≠11:=by rintro h11;rw [h11] at hr;simp at hr
  rw [w 0 (fun h=>absurd h h11)] at hc
  rw [jB,if_neg (by rw [hc];simp)];simp
 |a::b::r,t::u::s,_=>
  simp only [gA,Bool.and_eq_true,beq_iff_eq] at hc
  have hb:=hc.2.1
  rw [w (0+1) (fun _=>by omega)] at hb
  rw [jB]
  split
  ·rw [jB,if_neg (by rw [hb];simp)];simp
  ·simp
 |[_],[],hl=>simp at hl
 |[_],_::_::_,hl=>simp at hl
 |_::_::_,[],hl=>simp at hl
 |_::_::_,[_],hl=>simp at hl
theorem map_bd {bd:List Bd} {s:St}:(bd++[(⟨s.Name,s.Many⟩:Bd)]).map Bd.Name=bd.map Bd.Name++[s.Name]:=by simp
theorem pln_1 {s:St} (c:((!decide (s.Op=1)&& !decide (s.Op=4))&& !jC s)=true):false=fG s:=by
 unfold fG
 simp only [Bool.and_eq_true,Bool.not_eq_true'] at c
 simp only [c.1.1,c.1.2,c.2,Bool.or_self,Bool.false_and]
theorem pln_2 {s:St} (c:(((!decide (s.Op=1)&&(!decide (s.Many=0)|| !decide (s.Mark=0)))||(!decide (s.Op=3)&& !decide (s.Fold=0)))||(decide (s.Op=4)&& !decide (s.Name=bs [])))=true):false=fG s:=by
 rw [Bool.or_eq_true,Bool.or_eq_true] at c
 rcases c with (c|c)|c
 ·exact syn_3 c
 ·exact syn_4 c
 ·exact syn_2 c
theorem pln_3 {s:St} (c:((!jC s&&decide ((0:Int)<s.Idx.length))||(jC s&&decide ((0:Int)<s.Body.length)))=true):false=fG s:=by
 rw [Bool.or_eq_true] at c
 rcases c with c|c
 ·exact syn_5 c
 ·unfold fG
  rw [Bool.and_eq_true,decide_eq_true_eq] at c
  have:decide ((s.Body.length:Int)=0)=false:=decide_eq_false zA
  simp only [c.1,this,Bool.not_true,Bool.or_self,Bool.and_false]
theorem pln_4 {s:St} (c1:((!decide (s.Op=1)&& !decide (s.Op=4))&& !jC s)=false) (c2:(((!decide (s.Op=1)&&(!decide (s.Many=0)|| !decide (s.Mark=0)))||(!decide (s.Op=3)&& !decide (s.Fold=0)))||(decide (s.Op=4)&& !decide (s.Name=bs [])))=false)
  (c3:((!jC s&&decide ((0:Int)<s.Idx.length))||(jC s&&decide ((0:Int)<s.Body.length)))=false):(!decide (s.Op=1)||decide (s.E=zEx))=fG s:=by
 rw [Bool.or_eq_false_iff,Bool.or_eq_false_iff] at c2
 rw [Bool.or_eq_false_iff] at c3
 have h1:(decide (s.Op=1)||jC s||decide (s.Op=4))=true:=by
  revert c1;cases decide (s.Op=1)<;>cases jC s<;>cases decide (s.Op=4)<;>simp
 have h7:(!jC s||decide ((s.Body.length:Int)=0))=true:=by
  have h:=c3.2
  rw [Bool.and_eq_false_iff,decide_eq_false_iff_not] at h
  rcases h with h|h
  ·rw [h];rfl
  ·rw [show decide ((s.Body.length:Int)=0)=true from decide_eq_true zA,Bool.or_true]
 unfold fG pI
 simp only [h1,c2.1.1,c2.1.2,c2.2,c3.1,h7,Bool.not_false,Bool.true_and,Bool.and_true,Bool.not_and,Bool.not_not]
theorem st3_t {n:Int} {c:Bool} {a b:Ty} (h:(decide (n=0)&&(c|| !bT [cI a.Kind,cI a.Bits,cI a.Frac,cI a.Round,cI a.Over] [cI b.Kind,cI b.Bits,cI b.Frac,cI b.Round,cI b.Over]))=true):n=0/\(c=true∨¬a=b):=by
 rw [Bool.and_eq_true,decide_eq_true_eq] at h
 exact ⟨h.1,st10_t h.2⟩
theorem st3_f {n:Int} {c:Bool} {a b:Ty} (h:(decide (n=0)&&(c|| !bT [cI a.Kind,cI a.Bits,cI a.Frac,cI a.Round,cI a.Over] [cI b.Kind,cI b.Bits,cI b.Frac,cI b.Round,cI b.Over]))=false):n=0->¬(c=true∨¬a=b):=by
 intro h0
 rw [decide_eq_true h0,Bool.true_and] at h
 exact st10_f h
theorem st_fin {B:List Bf} {sc:List ByteArray} {s:St} (h:(dK B sc (rdE s)).2=0) (h2:¬((gU B s.Name).Use=1∨(s.Op=3/\(s.Fold<1∨4<s.Fold)))) (h3:(dK B sc s.E).2=0->¬(bE s.E=true∨¬(dK B sc s.E).1=(gU B s.Name).T)):jW B sc s=(dK B sc s.E).2:=by
 by_cases h4:(dK B sc s.E).2=0
 ·rw [storeE_0 h h2 h4 (h3 h4),h4]
 ·exact storeE_2 h h2 h4
theorem if_t {B:List Bf} {sc:List ByteArray} {s:St} (c:(decide ((dK B sc s.E).2=0)&& !bE s.E)=true):ifE B sc s=10:=by
 rw [Bool.and_eq_true,decide_eq_true_eq] at c
 exact ifE_10 c.1 (by simpa using c.2)
theorem if_fin {B:List Bf} {sc:List ByteArray} {s:St} (c:(decide ((dK B sc s.E).2=0)&& !bE s.E)=false):ifE B sc s=(dK B sc s.E).2:=by
 by_cases h:(dK B sc s.E).2=0
 ·rw [decide_eq_true h,Bool.true_and] at c
  rw [ifE_0 h (by simpa using c),h]
 ·exact ifE_x h
theorem within_f {l:List St} (c:40<mK 41 l):bN 40 l=false:=by
 cases h:bN 40 l with
 |false=>rfl
 |true=>have h2:mK 41 l<=40:=(zIu 40 l).2 h;omega
theorem within_t {l:List St} (c:mK 41 l<=40):bN 40 l=true:=(zIu 40 l).1 c
end Go.Br
end
section
namespace Go.L41
open Go Go.Eng
structure Lifetime where
 Name:ByteArray
 From:Int
 To:Int
 Size:Int
def Lifetime.cells (x:Lifetime):List C:=[cS x.Name,cI x.From,cI x.To,cI x.Size]
abbrev vL (x:Lifetime):V:=.agg x.cells
def eC (p:Int) (y:Lifetime):Bool:=decide (y.From<=p)&&decide (p<=y.To)
def cnt (l:List Lifetime) (p:Int):Int:=((l.filter (eC p)).length:Int)
theorem cnt_le (l:List Lifetime) (p:Int):0<=cnt l p/\cnt l p<=l.length:=by
 unfold cnt
 have:=List.length_filter_le (eC p) l
 omega
end Go.L41
end
section
namespace Go.Br
open Go Go.Eng Go.L41
theorem zTc (a b:List ByteArray) (s:ByteArray):dD (a++b) s=(dD a s||dD b s):=by simp [dD,List.any_append]
structure Sp where
 From:Int
 To:Int
theorem valid_bufs {n:Ns} (h:(bJ n).2=0):dI [] n.Bufs=0/\n.Bufs.length<=128/\bN 40 n.Body=true/\jZ n.Body 2000<=2000/\(bP n.Bufs [] [] [] 0 n.Body).E=0:=by
 unfold bJ at h
 by_cases h1:bN 40 n.Body=true
 ·rw [if_pos h1] at h
  by_cases h2:2000<jZ n.Body 2000∨128<n.Bufs.length
  ·rw [if_pos h2] at h;cases h
  ·rw [if_neg h2] at h
   by_cases h3:dI [] n.Bufs=0
   ·rw [if_pos h3] at h;exact ⟨h3,zA,h1,zA,h⟩
   ·rw [if_neg h3] at h;exact absurd h h3
 ·rw [if_neg h1] at h;cases h
end Go.Br
end
section
namespace Go.Br
open Go Go.Eng Go.L41
/-! ## Statements in preorder,with their paths -/
mutual
def tT (here:List Int):St->List (St×List Int)
 |.mk o nm mn mk fo i e b=>(.mk o nm mn mk fo i e b,here)::gM here 0 b
def gM (way:List Int):Int->List St->List (St×List Int)
 |_,[]=>[]
 |i,s::r=>tT (way++[i]) s++gM way (i+1) r
end
theorem preS_eq (here:List Int) (s:St):tT here s=(s,here)::gM here 0 s.Body:=by cases s;rw [tT];rfl
theorem zMs (way:List Int):∀(a b:List St) (i:Int),gM way i (a++b)=gM way i a++gM way (i+a.length) b
 |[],b,i=>by simp [gM]
 |x::r,b,i=>by
  rw [List.cons_append,gM,gM,zMs way r b,List.append_assoc,List.length_cons]
  rw [show i+1+(r.length:Int)=i+((r.length+1:Nat):Int) by omega]
theorem preL_next {way:List Int} {l:List St} {k:Nat} {s:St} (h:l[k]? =some s):gM way 0 (l.take (k+1))=gM way 0 (l.take k)++tT (way++[(k:Int)]) s:=by
 have hk:=(List.getElem?_eq_some_iff.1 h).1
 rw [yQ h,zMs,List.length_take,Nat.min_eq_left zA,Int.zero_add]
 simp [gM]
theorem preL_at {way:List Int} {l:List St} {k:Nat} {s:St} (h:l[k]? =some s):gM way 0 l=gM way 0 (l.take k)++(tT (way++[(k:Int)]) s++gM way ((k:Int)+1) (l.drop (k+1))):=by
 have hk:=(List.getElem?_eq_some_iff.1 h).1
 have e:l=l.take k++s::l.drop (k+1):=by rw [←qP h,List.take_append_drop]
 have e2:=congrArg (gM way 0) e
 rw [zMs,List.length_take,Nat.min_eq_left zA,Int.zero_add,gM] at e2
 exact e2
theorem pre_at1 {way:List Int} {l:List St} {k:Nat} {s:St} (h:l[k]? =some s):gM way 0 l=gM way 0 (l.take k)++(s,way++[(k:Int)])::(gM (way++[(k:Int)]) 0 s.Body++gM way ((k:Int)+1) (l.drop (k+1))):=by
 rw [preL_at h,preS_eq];rfl
theorem pre_at2 {way:List Int} {l:List St} {k:Nat} {s:St} {pre suf:List (St×List Int)} {x:St×List Int} (h:l[k]? =some s) (hx:gM (way++[(k:Int)]) 0 s.Body=pre++x::suf):gM way 0 l=(gM way 0 (l.take k)++(s,way++[(k:Int)])::pre)++x::(suf++gM way ((k:Int)+1) (l.drop (k+1))):=by
 rw [pre_at1 h,hx];simp
mutual
theorem preS_len (here:List Int):∀s:St,(tT here s).length=stN s
 |.mk o nm mn mk fo i e b=>by rw [tT,stN,List.length_cons,zSw here b];omega
theorem zSw (way:List Int):∀(l:List St) (i:Int),(gM way i l).length=bY l
 |[],i=>by rw [gM,bY];rfl
 |s::r,i=>by rw [gM,bY,List.length_append,preS_len,zSw way r]
end
theorem stsN_take {l:List St} {k:Nat} {s:St} (h:l[k]? =some s):bY (l.take k)+(1+bY s.Body)<=bY l:=by
 have h2:bY l=bY (l.take k)+(stN s+bY (l.drop (k+1))):=by
  rw [←bY,←qP h,←zHy,List.take_append_drop]
 have:=zIy s
 omega
def sZ (s:St):List ByteArray:=if s.Op=1 then [s.Name] else []
mutual
def xM:St->List ByteArray
 |.mk o nm mn mk fo i e b=>sZ (.mk o nm mn mk fo i e b)++dH b
def dH:List St->List ByteArray
 |[]=>[]
 |s::r=>xM s++dH r
end
theorem loopsS_eq (s:St):xM s=sZ s++dH s.Body:=by cases s;rw [xM];rfl
theorem loopsL_next {l:List St} {k:Nat} {s:St} (h:l[k]? =some s):dH (l.take (k+1))=dH (l.take k)++(sZ s++dH s.Body):=by
 have:∀a b:List St,dH (a++b)=dH a++dH b:=by
  intro a b
  induction a with
  |nil=>rw [dH];rfl
  |cons x r ih=>rw [List.cons_append,dH,dH,ih,List.append_assoc]
 rw [yQ h,this,dH,dH,List.append_nil,loopsS_eq]
def nC (t:ByteArray) (s:St):Bool:=decide (s.Op=1)&&decide (s.Name=t)
def tB (t:ByteArray) (x:St×List Int):Bool:=nC t x.1
def mJ (t:ByteArray) (l:List (St×List Int)):Option (List Int):=(l.find? (tB t)).map (·.2)
def lG (l:List St) (t:ByteArray):Option (List Int):=mJ t (gM [] 0 l)
theorem findA_none {t:ByteArray} {l:List (St×List Int)} (h:l.any (tB t)=false):mJ t l=none:=by
 unfold mJ
 rw [List.find?_eq_none.2 (fun x hx hh=>by
  rw [List.any_eq_false] at h
  exact h x hx hh)];rfl
theorem findA_some {t:ByteArray} {pre suf:List (St×List Int)} {x:St×List Int} (h:pre.any (tB t)=false) (hx:tB t x=true):mJ t (pre++x::suf)=some x.2:=by
 unfold mJ
 rw [List.find?_append,List.find?_eq_none.2 (fun y hy hh=>by
  rw [List.any_eq_false] at h
  exact h y hy hh),List.find?_cons_of_pos hx];rfl
theorem any_one {t:ByteArray} {pre:List (St×List Int)} {x:St×List Int} (h:pre.any (tB t)=false) (hx:tB t x=false):(pre++[x]).any (tB t)=false:=by
 rw [List.any_append,h];simp [hx]
mutual
def vY (t:ByteArray):St->Option (List Int)
 |.mk o nm mn mk fo i e b=>if nC t (.mk o nm mn mk fo i e b)=true then some [] else pY t 0 b
def pY (t:ByteArray):Int->List St->Option (List Int)
 |_,[]=>none
 |i,s::r=>match vY t s with|some w=>some (i::w)|none=>pY t (i+1) r
end
theorem findA_append (t:ByteArray) (a b:List (St×List Int)):mJ t (a++b)=match mJ t a with|some w=>some w|none=>mJ t b:=by
 unfold mJ
 rw [List.find?_append]
 cases List.find? (tB t) a<;>rfl
mutual
theorem fndS_find (t:ByteArray):∀(s:St) (here:List Int),mJ t (tT here s)=(vY t s).map (here++ ·)
 |.mk o nm mn mk fo i e b,here=>by
  rw [tT,vY]
  by_cases h:nC t (.mk o nm mn mk fo i e b)=true
  ·rw [if_pos h,mJ,List.find?_cons_of_pos (by exact h)];simp
  ·rw [if_neg h]
   have:mJ t ((.mk o nm mn mk fo i e b,here)::gM here 0 b)=mJ t (gM here 0 b):=by
    unfold mJ;rw [List.find?_cons_of_neg (by exact h)]
   rw [this,zWj t b here 0]
theorem zWj (t:ByteArray):∀(l:List St) (way:List Int) (i:Int),mJ t (gM way i l)=(pY t i l).map (way++ ·)
 |[],way,i=>by rw [gM,pY];rfl
 |s::r,way,i=>by
  rw [gM,pY,findA_append,fndS_find t s,zWj t r]
  cases vY t s<;>simp
end
theorem findN_fnd (l:List St) (t:ByteArray):lG l t=pY t 0 l:=by
 unfold lG;rw [zWj];cases pY t 0 l<;>simp
theorem fndL_ne (t:ByteArray):∀(l:List St) (i:Int) (u:List Int),pY t i l=some u->u≠[]
 |[],i,u,h=>by rw [pY] at h;cases h
 |s::r,i,u,h=>by
  rw [pY] at h
  cases c:vY t s with
  |some w=>rw [c] at h;simp only [Option.some.injEq] at h;rw [←h];simp
  |none=>rw [c] at h;exact fndL_ne t r (i+1) u h
mutual
theorem fndS_len (t:ByteArray):∀(s:St) (w:List Int),vY t s=some w->w.length+1<=stN s
 |.mk o nm mn mk fo i e b,w,h=>by
  rw [vY] at h
  split at h
  ·simp only [Option.some.injEq] at h;rw [←h,stN];simp
  ·rw [stN];have:=fndL_len t b 0 w h;omega
theorem fndL_len (t:ByteArray):∀(l:List St) (i:Int) (w:List Int),pY t i l=some w->w.length<=bY l
 |[],i,w,h=>by rw [pY] at h;cases h
 |s::r,i,w,h=>by
  rw [pY] at h
  rw [bY]
  cases c:vY t s with
  |some u=>rw [c] at h;simp only [Option.some.injEq] at h;rw [←h,List.length_cons];have:=fndS_len t s u c;omega
  |none=>rw [c] at h;have:=fndL_len t r (i+1) w h;omega
end
theorem fndL_getD (t:ByteArray) (l:List St) (i:Int):((pY t i l).getD []).length<=bY l:=by
 cases h:pY t i l with
 |none=>simp
 |some w=>exact fndL_len t l i w h
theorem findN_ne {t:ByteArray} {l:List St} {u:List Int} (h:lG l t=some u):u≠[]:=by rw [findN_fnd] at h;exact fndL_ne t l 0 u h
mutual
def mSt (f:Lf->Lf×Int) (g:ByteArray->ByteArray):St->Except Int St
 |.mk o nm mn mk fo i e b=>match fZ f i with
  |.error y=>.error y
  |.ok i'=>match mEx f e with
   |.error y=>.error y
   |.ok e'=>match gC f g b with
    |.error y=>.error y
    |.ok b'=>.ok (.mk o (if o=1 then g nm else nm) mn mk fo i' e' b')
def gC (f:Lf->Lf×Int) (g:ByteArray->ByteArray):List St->Except Int (List St)
 |[]=>.ok []
 |s::r=>match mSt f g s with
  |.error y=>.error y
  |.ok s'=>match gC f g r with
   |.error y=>.error y
   |.ok r'=>.ok (s'::r')
end
theorem mSt_eq (f:Lf->Lf×Int) (g:ByteArray->ByteArray) (s:St):mSt f g s=match fZ f s.Idx with
  |.error y=>.error y
  |.ok i'=>match mEx f s.E with
   |.error y=>.error y
   |.ok e'=>match gC f g s.Body with
    |.error y=>.error y
    |.ok b'=>.ok (.mk s.Op (if s.Op=1 then g s.Name else s.Name) s.Many s.Mark s.Fold i' e' b'):=by cases s;rw [mSt];rfl
theorem mSt_e1 {f:Lf->Lf×Int} {g:ByteArray->ByteArray} {s:St} {c:Int} (h:fZ f s.Idx=.error c):mSt f g s=.error c:=by rw [mSt_eq,h]
theorem mSt_e2 {f:Lf->Lf×Int} {g:ByteArray->ByteArray} {s:St} {c:Int} {i:List Ix} (h:fZ f s.Idx=.ok i) (h2:mEx f s.E=.error c):mSt f g s=.error c:=by rw [mSt_eq,h];simp only [h2]
theorem mSt_e3 {f:Lf->Lf×Int} {g:ByteArray->ByteArray} {s:St} {c:Int} {i:List Ix} {e:Ex} (h:fZ f s.Idx=.ok i) (h2:mEx f s.E=.ok e) (h3:gC f g s.Body=.error c):mSt f g s=.error c:=by rw [mSt_eq,h];simp only [h2,h3]
theorem mSt_ok {f:Lf->Lf×Int} {g:ByteArray->ByteArray} {s:St} {i:List Ix} {e:Ex} {b:List St} (h:fZ f s.Idx=.ok i) (h2:mEx f s.E=.ok e) (h3:gC f g s.Body=.ok b):mSt f g s=.ok (.mk s.Op (if s.Op=1 then g s.Name else s.Name) s.Many s.Mark s.Fold i e b):=by rw [mSt_eq,h];simp only [h2,h3]
mutual
theorem mSt_ne {f:Lf->Lf×Int} {g:ByteArray->ByteArray}:∀s:St,mSt f g s≠ .error 0
 |.mk o nm mn mk fo i e b=>by
  rw [mSt]
  cases h1:fZ f i with
  |error y=>intro h;cases h;exact mIxs_ne h1
  |ok a=>
   cases h2:mEx f e with
   |error y=>intro h;simp only at h;cases h;exact mEx_ne e h2
   |ok a=>
    cases h3:gC f g b with
    |error y=>intro h;simp only at h;cases h;exact mSts_ne b h3
    |ok a=>simp
theorem mSts_ne {f:Lf->Lf×Int} {g:ByteArray->ByteArray}:∀l:List St,gC f g l≠ .error 0
 |[]=>by simp [gC]
 |x::r=>by
  rw [gC]
  cases h1:mSt f g x with
  |error y=>intro h;cases h;exact mSt_ne x h1
  |ok a=>
   cases h2:gC f g r with
   |error y=>intro h;simp only at h;cases h;exact mSts_ne r h2
   |ok a=>simp
end
def lK:Except Int (List St)->List St
 |.ok l=>l
 |.error _=>[]
theorem mSts_next {f:Lf->Lf×Int} {g:ByteArray->ByteArray} {l:List St} {k:Nat} {x y:St} {done:List St} (h:l[k]? =some x) (hp:gC f g l=dN done (gC f g (l.drop k))) (hx:mSt f g x=.ok y):gC f g l=dN (done++[y]) (gC f g (l.drop (k+1))):=by
 rw [hp,qP h,gC,hx]
 cases gC f g (l.drop (k+1))<;>simp [dN,lI]
theorem zQk {f:Lf->Lf×Int} {g:ByteArray->ByteArray} {l:List St} {k:Nat} {x:St} {done:List St} {c:Int} (h:l[k]? =some x) (hp:gC f g l=dN done (gC f g (l.drop k))) (hx:mSt f g x=.error c):gC f g l=.error c:=by
 rw [hp,qP h,gC,hx];rfl
theorem mSts_end {f:Lf->Lf×Int} {g:ByteArray->ByteArray} {l:List St} {k:Nat} {done:List St} (hp:gC f g l=dN done (gC f g (l.drop k))) (h:¬k<l.length):gC f g l=.ok done:=by
 rw [hp,kK h];simp [gC,dN,lI]
mutual
theorem mSt_id:∀s:St,mSt idF (fun x=>x) s=.ok s
 |.mk o nm mn mk fo i e b=>by
  rw [mSt,mIxs_id,mEx_id];simp only [mSts_id b]
  by_cases h:o=1
  ·rw [if_pos h]
  ·rw [if_neg h]
theorem mSts_id:∀l:List St,gC idF (fun x=>x) l=.ok l
 |[]=>by rw [gC]
 |x::r=>by rw [gC,mSt_id x,mSts_id r]
end
def lY (P:Lf->Prop) (i:List Ix):Prop:=∀x,x∈i->P x.Lin/\∀l,l∈x.At->P l
mutual
def St.allF (P:Lf->Prop):St->Prop
 |.mk _ _ _ _ _ i e b=>lY P i/\e.allF P/\bS P b
def bS (P:Lf->Prop):List St->Prop
 |[]=>True
 |s::r=>s.allF P/\bS P r
end
theorem St.allF_eq {P:Lf->Prop} {s:St} (h:s.allF P):lY P s.Idx/\s.E.allF P/\bS P s.Body:=by cases s;rw [St.allF] at h;exact h
theorem wO {P:Lf->Prop}:∀{l:List St},bS P l->∀s,s∈l->s.allF P
 |[],_,s,hs=>by cases hs
 |x::r,h,s,hs=>by
  rw [bS] at h
  rcases List.mem_cons.1 hs with rfl|hs
  ·exact h.1
  ·exact wO h.2 s hs
theorem zPm {P:Lf->Prop}:∀{l:List St},(∀s,s∈l->s.allF P)->bS P l
 |[],_=>by rw [bS];trivial
 |x::r,h=>by rw [bS];exact ⟨h x uD,zPm fun s hs=>h s (by simp [hs])⟩
end Go.Br
end
section
namespace Go.Br
open Go Go.Eng Go.L41
def zSt:St:=.mk 0 (bs []) 0 0 0 [] zEx []
def trl:List Int->List St->List St->List St
 |[],_,out=>out
 |i::r,l,out=>if 0<=i/\i<l.length then trl r (l.getD i.toNat zSt).Body (out++[l.getD i.toNat zSt]) else []
def fM (l:List St) (way:List Int):List St:=trl way l []
theorem trl_next {way:List Int} {k:Nat} {i:Int} {l:List St} {out R:List St} (h:way[k]? =some i) (hp:R=trl (way.drop k) l out) (hi:0<=i/\i<l.length):R=trl (way.drop (k+1)) (l.getD i.toNat zSt).Body (out++[l.getD i.toNat zSt]):=by
 rw [hp,qP h,trl,if_pos hi]
theorem trl_no {way:List Int} {k:Nat} {i:Int} {l:List St} {out R:List St} (h:way[k]? =some i) (hp:R=trl (way.drop k) l out) (hi:¬(0<=i/\i<l.length)):R=[]:=by
 rw [hp,qP h,trl,if_neg hi]
theorem trl_end {way:List Int} {k:Nat} {l:List St} {out R:List St} (hp:R=trl (way.drop k) l out) (h:¬k<way.length):R=out:=by
 rw [hp,kK h,trl]
theorem zUi {l:List St} {i:Int} (h:0<=i/\i<l.length):l[i.toNat]? =some (l.getD i.toNat zSt):=by
 have:i.toNat<l.length:=by omega
 rw [List.getElem?_eq_getElem this,List.getD,List.getElem?_eq_getElem this];rfl
theorem stD_mem {l:List St} {i:Int} (h:0<=i/\i<l.length):l.getD i.toNat zSt∈l:=qA (zUi h)
def atF:List Int->List St->St->St×Bool
 |[],_,s=>(s,true)
 |i::r,l,_=>if 0<=i/\i<l.length then atF r (l.getD i.toNat zSt).Body (l.getD i.toNat zSt) else (zSt,false)
def atT (l:List St) (way:List Int):St×Bool:=if way=[] then (zSt,false) else atF way l zSt
theorem trl_atF:∀(way:List Int) (l out:List St) (s:St),out≠[]->out.getLast? =some s->(trl way l out=[]/\(atF way l s).2=false/\atF way l s=(zSt,false))∨(trl way l out≠[]/\(trl way l out).getLast? =some (atF way l s).1/\(atF way l s).2=true)
 |[],l,out,s,h,h2=>.inr ⟨h,h2,rfl⟩
 |i::r,l,out,s,h,h2=>by
  rw [trl,atF]
  by_cases hi:0<=i/\i<l.length
  ·rw [if_pos hi,if_pos hi]
   exact trl_atF r _ _ _ uD uD
  ·rw [if_neg hi,if_neg hi];exact .inl ⟨rfl,rfl,rfl⟩
theorem trail_at (l:List St) (way:List Int):(fM l way=[]/\atT l way=(zSt,false))∨(fM l way≠[]/\(fM l way).getLast? =some (atT l way).1/\(atT l way).2=true):=by
 unfold fM atT
 cases way with
 |nil=>exact .inl ⟨rfl,if_pos rfl⟩
 |cons i r=>
  rw [if_neg uD,trl,atF]
  by_cases hi:0<=i/\i<l.length
  ·rw [if_pos hi,if_pos hi]
   rcases trl_atF r (l.getD i.toNat zSt).Body ([]++[l.getD i.toNat zSt]) (l.getD i.toNat zSt) uD uD with ⟨h1,h2,h3⟩|h
   ·exact .inl ⟨h1,h3⟩
   ·exact .inr h
  ·rw [if_neg hi,if_neg hi];exact .inl ⟨rfl,rfl⟩
theorem trl_len:∀(way:List Int) (l out:List St),(trl way l out).length<=out.length+way.length
 |[],l,out=>by simp [trl]
 |i::r,l,out=>by
  rw [trl];split
  ·have:=trl_len r (l.getD i.toNat zSt).Body (out++[l.getD i.toNat zSt])
   simp only [List.length_append,List.length_cons,List.length_nil] at this⊢;omega
  ·simp
def pR:List Int->List St->Prop
 |[],_=>True
 |i::r,l=>(0<=i/\i<l.length)/\pR r (l.getD i.toNat zSt).Body
theorem way_at {l0:List St}:∀{way:List Int} {l:List St} {s:St},(atF way l s).2=true->pR way l
 |[],_,_,_=>trivial
 |i::r,l,s,h=>by
  rw [atF] at h
  by_cases hi:0<=i/\i<l.length
  ·rw [if_pos hi] at h;exact ⟨hi,way_at (l0:=l0) h⟩
  ·rw [if_neg hi] at h;cases h
theorem way_of {l:List St} {way:List Int} (h:(atT l way).2=true):way≠[]/\pR way l:=by
 unfold atT at h
 by_cases hw:way=[]
 ·rw [if_pos hw] at h;cases h
 ·rw [if_neg hw] at h;exact ⟨hw,way_at (l0:=l) h⟩
theorem at_some {l:List St} {way:List Int} (h:fM l way≠[]):(atT l way).2=true:=by
 rcases trail_at l way with ⟨h1,_⟩|⟨_,_,h1⟩
 ·exact absurd h1 h
 ·exact h1
theorem at_none {l:List St} {way:List Int} (h:fM l way=[]):atT l way=(zSt,false):=by
 rcases trail_at l way with ⟨_,h1⟩|⟨h1,_⟩
 ·exact h1
 ·exact absurd h h1
theorem at_last {l:List St} {way:List Int} (h:fM l way≠[]):(fM l way).drop ((fM l way).length-1)=[(atT l way).1]:=by
 rcases trail_at l way with ⟨h1,_⟩|⟨_,h2,_⟩
 ·exact absurd h1 h
 ·have hl:0<(fM l way).length:=List.length_pos_iff.2 h
  have hg:(fM l way)[(fM l way).length-1]? =some (atT l way).1:=by rw [←List.getLast?_eq_getElem?];exact h2
  rw [qP hg,show (fM l way).length-1+1=(fM l way).length by omega,List.drop_length]
theorem atF_le:∀{way:List Int} {l:List St} {s:St} {B:Nat},bC l<=B->s.wt<=B->(atF way l s).1.wt<=B+2
 |[],l,s,B,_,h=>by rw [atF];show s.wt<=_;omega
 |i::r,l,s,B,h,h2=>by
  rw [atF]
  split
  ·rename_i hi
   have h1:=yU (stD_mem hi)
   have h2:=St.body_wt (l.getD i.toNat zSt)
   exact atF_le zA zA
  ·show zSt.wt<=_
   have:zSt.wt=2:=by decide
   omega
theorem atF_le' {way : List Int} {l : List St} {B : Nat} (h : bC l ≤ B) : (atF way l zSt).1.wt ≤ B + 2:= by
  cases way with
  | nil => show zSt.wt ≤ _; have : zSt.wt = 2:= by decide
           omega
  | cons i r =>
    rw [atF]
    split
    · rename_i hi
      have h1 := yU (stD_mem hi)
      have h2 := St.body_wt (l.getD i.toNat zSt)
      exact atF_le zA zA
    · show zSt.wt ≤ _
      have : zSt.wt = 2:= by decide
      omega
theorem zSt_wt:zSt.wt=2:=by decide
theorem atT_wt {l:List St} {way:List Int}:(atT l way).1.wt<=bC l+2:=by
 unfold atT
 split
 ·show zSt.wt<=_;rw [zSt_wt];omega
 ·exact atF_le' (Nat.le_refl _)
end Go.Br
end
section
namespace Go.Br
open Go Go.Eng Go.L41
/-! ## Sets of names -/
end Go.Br
end
section
namespace Go.Br
open Go Go.Eng Go.L41
/-! ## One form: a name for a name -/
def vrL (t:ByteArray):Lf:=⟨0,[⟨t,1⟩]⟩
mutual
def gSt (g:Lf->Lf) (r:ByteArray->ByteArray):St->St
 |.mk o nm mn mk fo i e b=>.mk o (if o=1 then r nm else nm) mn mk fo (i.map (gIx g)) (gEx g e) (rM g r b)
def rM (g:Lf->Lf) (r:ByteArray->ByteArray):List St->List St
 |[]=>[]
 |s::t=>gSt g r s::rM g r t
end
theorem zQg {B:List Bf} {sc:List ByteArray}:∀{l:List Ex},dG B sc l=0↔∀x,x∈l->jG B sc x=0
 |[]=>by simp [dG]
 |x::r=>by
  rw [dG]
  by_cases h:jG B sc x=0
  ·rw [if_pos h,zQg (l:=r)];simp [h]
  ·rw [if_neg h];simp [h]
theorem zMx {B:List Bf} {sc:List ByteArray} {e:Ex} (h:(dK B sc e).2=0):fY e=0/\dG B sc (bW e)=0:=by
 by_cases h1:fY e=0
 ·by_cases h2:dG B sc (bW e)=0
  ·exact ⟨h1,h2⟩
  ·rw [zWo h1 h2] at h;exact absurd h h2
 ·rw [zWp h1] at h;exact absurd h h1
theorem zMl {n:Ns} (h:(bJ n).2=0):bN 40 n.Body=true/\¬(2000<jZ n.Body 2000∨128<n.Bufs.length)/\dI [] n.Bufs=0/\(bP n.Bufs [] [] [] 0 n.Body).E=0:=by
 have h1:bN 40 n.Body=true:=by
  cases c:bN 40 n.Body with
  |true=>rfl
  |false=>rw [zUd c] at h;cases h
 have h2:¬(2000<jZ n.Body 2000∨128<n.Bufs.length):=fun c=>by rw [validN_2 h1 c] at h;cases h
 have h3:dI [] n.Bufs=0:=by
  by_cases c:dI [] n.Bufs=0
  ·exact c
  ·rw [validN_b h1 h2 c] at h;exact absurd h c
 rw [zNf h1 h2 h3] at h
 exact ⟨h1,h2,h3,h⟩
theorem ixsAll_and {P Q:Lf->Prop} {i:List Ix} (h1:lY P i) (h2:lY Q i):lY (fun l=>P l/\Q l) i:=fun x hx=>⟨⟨(h1 x hx).1,(h2 x hx).1⟩,fun l hl=>⟨(h1 x hx).2 l hl,(h2 x hx).2 l hl⟩⟩
theorem syn_parts {s:St} (h:fG s=true):(jC s=false->s.Idx=[])/\(s.Op=1->s.E=zEx):=by
 unfold fG at h
 simp only [Bool.and_eq_true] at h
 obtain ⟨⟨⟨⟨⟨⟨h1,h2⟩,h3⟩,h4⟩,h5⟩,h6⟩,h7⟩:=h
 constructor
 ·intro hs
  rw [hs] at h5
  have:¬(0:Int)<s.Idx.length:=by simpa using h5
  exact List.eq_nil_of_length_eq_zero zA
 ·intro ho
  rw [decide_eq_true ho] at h6
  have:pI s.E=true:=by simpa using h6
  unfold pI at this
  simpa using this
mutual
theorem allF_and {P Q:Lf->Prop}:∀s:St,s.allF P->s.allF Q->s.allF (fun l=>P l/\Q l)
 |.mk o nm mn mk fo i e b,h1,h2=>by
  rw [St.allF] at h1 h2⊢
  exact ⟨ixsAll_and h1.1 h2.1,fun x hx l hl=>⟨h1.2.1 x hx l hl,h2.2.1 x hx l hl⟩,zPn b h1.2.2 h2.2.2⟩
theorem zPn {P Q:Lf->Prop}:∀l:List St,bS P l->bS Q l->bS (fun l=>P l/\Q l) l
 |[],_,_=>by rw [bS];trivial
 |s::r,h1,h2=>by
  rw [bS] at h1 h2⊢
  exact ⟨allF_and s h1.1 h2.1,zPn r h1.2 h2.2⟩
end
def iC:Except Int (List Ix)->List Ix
 |.ok l=>l
 |.error _=>[]
theorem mIxs_0 {f:Lf->Lf×Int} {i:List Ix} (h:jM (fZ f i)=0):∃a,fZ f i=.ok a:=errE_ok h mIxs_ne
theorem mEx_0 {f:Lf->Lf×Int} {e:Ex} (h:jM (mEx f e)=0):∃a,mEx f e=.ok a:=errE_ok h (mEx_ne e)
theorem mSts_0 {f:Lf->Lf×Int} {g:ByteArray->ByteArray} {l:List St} (h:jM (gC f g l)=0):∃a,gC f g l=.ok a:=errE_ok h (mSts_ne l)
theorem err_is {α:Type} {x:Except Int α} (h:¬jM x=0):x=.error (jM x):=by
 cases x with
 |ok a=>exact absurd rfl h
 |error c=>rfl
theorem mIxs_err {f:Lf->Lf×Int} {i:List Ix} (h:¬jM (fZ f i)=0):fZ f i=.error (jM (fZ f i)):=err_is h
theorem mEx_err {f:Lf->Lf×Int} {e:Ex} (h:¬jM (mEx f e)=0):mEx f e=.error (jM (mEx f e)):=err_is h
theorem mSts_err {f:Lf->Lf×Int} {g:ByteArray->ByteArray} {l:List St} (h:¬jM (gC f g l)=0):gC f g l=.error (jM (gC f g l)):=err_is h
theorem ixsAll_of {P:Lf->Prop} {e:Ex} (h:e.allF P):lY P e.Idx:=fun x hx=>⟨Ex.allF_ix h hx,fun l hl=>Ex.allF_at h hx hl⟩
theorem mid_getS {A:List (List C)} {l:List St} {k:Nat} {x:St} (hA:A.length=k) (h:l[k]? =some x):(A++(l.drop k).map St.cells)[k]? =some x.cs:=by
 rw [mid_get hA h,St.cells_eq]
mutual
theorem st_short {B:Nat}:∀s:St,s.wt<=B->s.allF (fun l=>l.L.length<=B)
 |.mk o nm mn mk fo i e b,h=>by
  rw [St.allF]
  rw [St.wt] at h
  refine ⟨fun x hx=>?_,fun x hx l hl=>forms_wt (Nat.le_trans (zFw e x hx) zA) hl,zPw b zA⟩
  have:=zBn hx
  rw [Ix.wt] at this
  exact ⟨zA,fun l hl=>by have:=zDz hl;omega⟩
theorem zPw {B:Nat}:∀l:List St,bC l<=B->bS (fun l=>l.L.length<=B) l
 |[],_=>by rw [bS];trivial
 |s::r,h=>by
  rw [bC] at h
  rw [bS]
  exact ⟨st_short s zA,zPw r zA⟩
end
theorem zJo {l:List St} {B:Nat} (h:bC l<=B):bS (fun l=>l.L.length<=B) l:=zPw l h
/-! ## What renaming keeps -/
theorem vrL_rng (t:ByteArray):(vrL t).rng:=⟨by show r64 0;unfold r64;omega,fun m hm=>by
 simp only [vrL,List.mem_singleton] at hm;subst hm;show r64 1;unfold r64;omega⟩
end Go.Br
end
section
set_option maxRecDepth 100000
namespace Go.Br
open Go Go.Eng Go.L41
noncomputable instance:DecidableEq St:=fun _ _=>Classical.propDecidable _
noncomputable instance:DecidableEq Ns:=fun _ _=>Classical.propDecidable _
theorem St.eq_iff {a b:St}:a=b↔a.Op=b.Op/\a.Name=b.Name/\a.Many=b.Many/\a.Mark=b.Mark/\a.Fold=b.Fold/\a.Idx=b.Idx/\a.E=b.E/\a.Body=b.Body:=by
 constructor
 ·rintro rfl;exact ⟨rfl,rfl,rfl,rfl,rfl,rfl,rfl,rfl⟩
 ·rintro ⟨h1,h2,h3,h4,h5,h6,h7,h8⟩
  rw [St.eta a,St.eta b,h1,h2,h3,h4,h5,h6,h7,h8]
theorem st_eq (a b:St):(((((((decide (a.Op=b.Op)&&decide (a.Name=b.Name))&&decide (a.Many=b.Many))&&decide (a.Mark=b.Mark))&&decide (a.Fold=b.Fold))&&decide (a.Idx=b.Idx))&&decide (a.E=b.E))&&decide (a.Body=b.Body))=decide (a=b):=by
 rw [Bool.eq_iff_iff]
 simp only [Bool.and_eq_true,decide_eq_true_eq,St.eq_iff]
 constructor
 ·rintro ⟨⟨⟨⟨⟨⟨⟨h1,h2⟩,h3⟩,h4⟩,h5⟩,h6⟩,h7⟩,h8⟩;exact ⟨h1,h2,h3,h4,h5,h6,h7,h8⟩
 ·rintro ⟨h1,h2,h3,h4,h5,h6,h7,h8⟩;exact ⟨⟨⟨⟨⟨⟨⟨h1,h2⟩,h3⟩,h4⟩,h5⟩,h6⟩,h7⟩,h8⟩
theorem bf_ne (x y:Bf):(((!decide (x.Name=y.Name)|| !bT [cI x.T.Kind,cI x.T.Bits,cI x.T.Frac,cI x.T.Round,cI x.T.Over] [cI y.T.Kind,cI y.T.Bits,cI y.T.Frac,cI y.T.Round,cI y.T.Over])|| !decide (x.Use=y.Use))|| !decide (x.Dims=y.Dims))= !decide (x=y):=by
 rw [litsEq_ty,←Bool.not_and,←Bool.not_and,←Bool.not_and]
 congr 1
 rw [Bool.eq_iff_iff]
 simp only [Bool.and_eq_true,decide_eq_true_eq]
 cases x;cases y;simp only [Bf.mk.injEq]
 constructor
 ·rintro ⟨⟨⟨h1,h2⟩,h3⟩,h4⟩;exact ⟨h1,h2,h4,h3⟩
 ·rintro ⟨h1,h2,h3,h4⟩;exact ⟨⟨⟨h1,h2⟩,h4⟩,h3⟩
theorem Ns.eq_iff {a b:Ns}:a=b↔a.Bufs=b.Bufs/\a.Body=b.Body:=by
 constructor
 ·rintro rfl;exact ⟨rfl,rfl⟩
 ·rintro ⟨h1,h2⟩;cases a;cases b;simp_all
end Go.Br
end
section
namespace Go.Br
open Go Go.Eng Go.L41
theorem sub_zero {s:ByteArray} {u:Lf} (h:dC u=true/\bD s=true):lV ⟨0,[]⟩ s u=(⟨0,[]⟩,0):=by
 unfold lV;rw [if_pos ⟨rfl,h.1,h.2⟩];rfl
abbrev sbF (s:ByteArray) (u:Lf):Lf->Lf×Int:=fun l=>lV l s u
def sbT (s:ByteArray) (u:Lf) (l:List St):Except Int (List St):=gC (sbF s u) (fun x=>x) l
theorem zrng:Lf.rng ⟨0,[]⟩:=⟨by show r64 0;unfold r64;omega,fun m hm=>by cases hm⟩
mutual
theorem mSt_g {f:Lf->Lf×Int} {r:ByteArray->ByteArray}:∀{s s':St},mSt f r s=.ok s'->s'=gSt (fun l=>(f l).1) r s
 |.mk o nm mn mk fo i e b,s',h=>by
  rw [mSt] at h
  cases h1:fZ f i with
  |error y=>rw [h1] at h;cases h
  |ok a=>
   cases h2:mEx f e with
   |error y=>rw [h1,h2] at h;cases h
   |ok d=>
    cases h3:gC f r b with
    |error y=>rw [h1,h2] at h;simp only [h3] at h;cases h
    |ok t=>
     rw [h1,h2] at h;simp only [h3] at h
     injection h with h
     rw [←h,gSt,(mIxs_g h1).1,(mEx_g h2).1,mSts_g h3]
theorem mSts_g {f:Lf->Lf×Int} {r:ByteArray->ByteArray}:∀{l l':List St},gC f r l=.ok l'->l'=rM (fun l=>(f l).1) r l
 |[],l',h=>by rw [gC] at h;injection h with h;rw [←h,rM]
 |x::t,l',h=>by
  rw [gC] at h
  cases h1:mSt f r x with
  |error y=>rw [h1] at h;cases h
  |ok a=>
   cases h2:gC f r t with
   |error y=>rw [h1] at h;simp only [h2] at h;cases h
   |ok d=>
    rw [h1] at h;simp only [h2] at h
    injection h with h
    rw [←h,rM,mSt_g h1,mSts_g h2]
end
theorem linsWt_20 {g:Lf->Lf} (hg:∀l,(g l).L.length<=l.L.length+20):∀l:List Lf,fC (l.map g)<=fC l+20*l.length
 |[]=>by simp [fC]
 |x::r=>by rw [List.map_cons,fC,fC,List.length_cons];have:=linsWt_20 hg r;have:=hg x;omega
theorem idxWt_20 {g:Lf->Lf} (hg:∀l,(g l).L.length<=l.L.length+20):∀l:List Ix,dL (l.map (gIx g))<=21*dL l+20*l.length
 |[]=>by simp [dL]
 |x::r=>by
  rw [List.map_cons,dL,dL,List.length_cons]
  have h1:=idxWt_20 hg r
  have h2:(gIx g x).wt<=21*x.wt+20:=by
   unfold gIx Ix.wt
   have h3:=linsWt_20 hg x.At
   have h4:=hg x.Lin
   simp only [List.length_map];omega
  omega
mutual
theorem gSt_20 {g:Lf->Lf} {r:ByteArray->ByteArray} (hg:∀l,(g l).L.length<=l.L.length+20):∀s:St,(gSt g r s).wt<=41*s.wt
 |.mk o nm mn mk fo i e b=>by
  rw [gSt,St.wt,St.wt,List.length_map]
  have h1:=idxWt_20 hg i
  have h2:=wt_g hg e
  have h3:=gSts_20 (r:=r) hg b
  omega
theorem gSts_20 {g:Lf->Lf} {r:ByteArray->ByteArray} (hg:∀l,(g l).L.length<=l.L.length+20):∀l:List St,bC (rM g r l)<=41*bC l
 |[]=>by rw [rM];simp [bC]
 |s::t=>by rw [rM,bC,bC];have:=gSt_20 (r:=r) hg s;have:=gSts_20 (r:=r) hg t;omega
end
theorem sbT_wt {s:ByteArray} {u:Lf} {l:List St} (hu:u.L.length<=20):bC (lK (sbT s u l))<=41*bC l:=by
 cases h:sbT s u l with
 |error y=>show bC []<=_;simp [bC]
 |ok a=>
  show bC a<=_
  rw [mSts_g h]
  exact gSts_20 (fun l=>by have:=substR_len l u s;show (lV l s u).1.L.length<=_;omega) l
end Go.Br
end
section
namespace Go.Br
open Go Go.Eng Go.L41
def lB (s:St) (b:List St):St:=.mk s.Op s.Name s.Many s.Mark s.Fold s.Idx s.E b
theorem setB_self (s:St):lB s s.Body=s:=by cases s;rfl
theorem setB_n (s:St) (b:List St):stN (lB s b)=1+bY b:=by rw [zIy];rfl
def mB:List Int->List St->List St->List St
 |[],l,_=>l
 |i::p,l,q=>l.take i.toNat++(if p=[] then q else [lB (l.getD i.toNat zSt) (mB p (l.getD i.toNat zSt).Body q)])++l.drop (i.toNat+1)
theorem replL_one (i:Int) (l q:List St):mB [i] l q=l.take i.toNat++q++l.drop (i.toNat+1):=by rw [mB,if_pos rfl]
theorem replL_in {i:Int} {p:List Int} (h:p≠[]) (l q:List St):mB (i::p) l q=l.take i.toNat++[lB (l.getD i.toNat zSt) (mB p (l.getD i.toNat zSt).Body q)]++l.drop (i.toNat+1):=by rw [mB,if_neg h]
theorem cut_at {l:List St} {i:Int} (h:0<=i/\i<l.length):l.take i.toNat++[l.getD i.toNat zSt]++l.drop (i.toNat+1)=l:=by
 have hg:=zUi h
 rw [List.append_assoc,List.singleton_append,←qP hg,List.take_append_drop]
theorem zNd:∀a b:List St,bC (a++b)=bC a+bC b
 |[],b=>by simp [bC]
 |x::r,b=>by rw [List.cons_append,bC,bC,zNd r b];omega
theorem setB_wt (s:St) (b:List St):(lB s b).wt+bC s.Body=s.wt+bC b:=by
 have h1:=St.wt_eq s
 have h2:=St.wt_eq (lB s b)
 simp only [lB,St.Idx,St.E,St.Body] at h1 h2⊢
 omega
theorem replL_wt:∀{way:List Int} {l q:List St},pR way l->bC (mB way l q)<=bC l+bC q
 |[],l,q,_=>by rw [mB];omega
 |i::p,l,q,h=>by
  have hc:=congrArg bC (cut_at h.1)
  rw [zNd,zNd,bC,bC] at hc
  by_cases hp:p=[]
  ·subst hp;rw [replL_one,zNd,zNd];omega
  ·have ih:=replL_wt (q:=q) h.2
   have hb:=setB_wt (l.getD i.toNat zSt) (mB p (l.getD i.toNat zSt).Body q)
   rw [replL_in hp,zNd,zNd,bC,bC]
   omega
def eM (n:Ns) (way:List Int) (q:List St):Ns:=⟨n.Bufs,mB way n.Body q⟩
def pP (n:Ns) (way:List Int) (q:List St):Ns:=if (atT n.Body way).2=true then eM n way q else ⟨[],[]⟩
end Go.Br
end
section
set_option maxRecDepth 100000
namespace Go.Br
open Go Go.Eng Go.L41
def zNs:Ns:=⟨[],[]⟩
def pT (n:Ns) (s:ByteArray):Bool:=dS n.Bufs s||(lG n.Body s).isSome
def mD (n:Ns) (s:ByteArray):List Int:=(lG n.Body s).getD []
def jH (n:Ns) (s:ByteArray):Int:=if (bJ n).2=0 then (if (lG n.Body s).isSome=true then 0 else 19) else (bJ n).2
def gO (n:Ns) (s:ByteArray):List Int×St×Int:=if jH n s=0 then (mD n s,(atT n.Body (mD n s)).1,0) else ([],zSt,jH n s)
def tL (n:Ns) (way:List Int) (q:List St):Ns×Int:=if (bJ (pP n way q)).2=0 then (pP n way q,0) else (zNs,(bJ (pP n way q)).2)
def lJ (nm:ByteArray) (many pF:Int) (b:List St):St:=.mk 1 nm many pF 0 [] zEx b
def sIf (e:Ex) (b:List St):St:=.mk 4 (bs []) 0 0 0 [] e b
def sF (l:Lf):Ex:=.mk 2 (bs []) ⟨0,0⟩ ⟨0,0,0,0,0⟩ l [] []
def ltE (f:Lf) (m:Int):Ex:=.mk 13 (bs []) ⟨0,0⟩ ⟨0,0,0,0,0⟩ ⟨0,[]⟩ [] [sF f,sF ⟨m,[]⟩]
def lF (by_:Int) (a b:ByteArray):Lf:=(fX (bF (jJ a) by_).1 (jJ b)).1
def cO (s:St) (by_:Int) (f:Lf) (b:List St):List St:=if Int.tmod s.Many by_=0 then b else [sIf (ltE f s.Many) b]
def tF (s:St) (by_:Int) (outer inner:ByteArray) (f:Lf) (b:List St):St:=lJ outer (w64 (Int.tdiv (w64 (w64 (s.Many+by_)-1)) by_)) s.Mark [lJ inner by_ 0 (cO s by_ f b)]
def eB (n:Ns) (loop outer inner:ByteArray):Bool:=decide (outer=inner)||(!decide (outer=loop)&&pT n outer)||(!decide (inner=loop)&&pT n inner)
def sS (n:Ns) (s:St) (loop:ByteArray) (by_:Int) (outer inner:ByteArray):Int:=
 if by_<1∨s.Many<by_ then 1 else if (!bD outer|| !bD inner)=true then 7 else if eB n loop outer inner=true then 8 else jM (sbT loop (lF by_ outer inner) s.Body)
def nK (n:Ns) (loop:ByteArray) (by_:Int) (outer inner:ByteArray):Ns×Int:=
  if jH n loop=0 then
    (if sS n (gO n loop).2.1 loop by_ outer inner=0 then tL n (mD n loop) [tF (gO n loop).2.1 by_ outer inner (lF by_ outer inner) (lK (sbT loop (lF by_ outer inner) (gO n loop).2.1.Body))]
     else (zNs,sS n (gO n loop).2.1 loop by_ outer inner))
  else (zNs,jH n loop)
/-! ## Peeling -/
def pC (many:Int) (rest:ByteArray):Lf:=(fX (jJ rest) ⟨many,[]⟩).1
def nE (n:Ns) (s:St) (loop:ByteArray) (many:Int) (rest:ByteArray):Int:=
 if dH s.Body=[] then (if many<1∨s.Many<=many then 1 else if bD rest=false then 7 else if pT n rest=true then 8 else jM (sbT loop (pC many rest) s.Body)) else 19
def xE (s:St) (many:Int):St:=.mk s.Op s.Name many s.Mark s.Fold s.Idx s.E s.Body
def rW (n:Ns) (loop:ByteArray) (many:Int) (rest:ByteArray):Ns×Int:=
  if jH n loop=0 then
    (if nE n (gO n loop).2.1 loop many rest=0 then tL n (mD n loop) [xE (gO n loop).2.1 many,lJ rest (w64 ((gO n loop).2.1.Many-many)) (gO n loop).2.1.Mark (lK (sbT loop (pC many rest) (gO n loop).2.1.Body))]
     else (zNs,nE n (gO n loop).2.1 loop many rest))
  else (zNs,jH n loop)
/-! ## Collapsing -/
def nG (f:Lf->Bool) (i:List Ix):Bool:=i.all fun x=>f x.Lin&&x.At.all f
def cZ (f:Lf->Bool) (e:Ex):Bool:=(bW e).all fun a=>f a.Lin&&nG f a.Idx
mutual
def evS (f:Lf->Bool):St->Bool
 |.mk _ _ _ _ _ i e b=>nG f i&&evL f b&&cZ f e
def evL (f:Lf->Bool):List St->Bool
 |[]=>true
 |s::r=>evS f s&&evL f r
end
def xN (a b:ByteArray) (many:Int) (l:Lf):Bool:=decide (Int.tmod (nS l.L a) many=0)&&decide (w64 (Int.tdiv (nS l.L a) many)=nS l.L b)
def pQ (n:Ns) (s:St) (outer nm:ByteArray):Int:=
  if s.Body.length=1/\(s.Body.getD 0 zSt).Op=1 then
    (if bD nm=false then 7 else if ((!decide (nm=outer)&& !decide (nm=(s.Body.getD 0 zSt).Name))&&pT n nm)=true then 8
     else if w64 (Int.tdiv 65536 (s.Body.getD 0 zSt).Many)<s.Many then 2
     else if evL (xN outer (s.Body.getD 0 zSt).Name (s.Body.getD 0 zSt).Many) (s.Body.getD 0 zSt).Body=false then 19
     else if jM (sbT outer ⟨0,[]⟩ (s.Body.getD 0 zSt).Body)=0 then jM (sbT (s.Body.getD 0 zSt).Name (jJ nm) (lK (sbT outer ⟨0,[]⟩ (s.Body.getD 0 zSt).Body))) else jM (sbT outer ⟨0,[]⟩ (s.Body.getD 0 zSt).Body)) else 19
def xT (s:St) (outer nm:ByteArray):St:=lJ nm (w64 (s.Many*(s.Body.getD 0 zSt).Many)) s.Mark (lK (sbT (s.Body.getD 0 zSt).Name (jJ nm) (lK (sbT outer ⟨0,[]⟩ (s.Body.getD 0 zSt).Body))))
def xF (n:Ns) (outer nm:ByteArray):Ns×Int:=
 if jH n outer=0 then (if pQ n (gO n outer).2.1 outer nm=0 then tL n (mD n outer) [xT (gO n outer).2.1 outer nm] else (zNs,pQ n (gO n outer).2.1 outer nm)) else (zNs,jH n outer)
/-! ## The examples -/
def cpI (l:Lf):Ix:=⟨l,bs [],[]⟩
def cpB (l:Lf):St:=.mk 2 (bs [99]) 0 0 0 [cpI l] (.mk 3 (bs [97]) ⟨0,0⟩ ⟨0,0,0,0,0⟩ ⟨0,[]⟩ [cpI l] []) []
def cpT:Ty:=⟨3,0,0,0,0⟩
def cpN (b:List St):Ns:=⟨[⟨bs [97],cpT,[8],1⟩,⟨bs [99],cpT,[8],2⟩],b⟩
def vI1:Lf:=⟨0,[⟨bs [105],1⟩]⟩
def cpy (many limit:Int):Ns:=cpN [lJ (bs [105]) many 0 (if 0<limit then [sIf (ltE vI1 limit) [cpB vI1]] else [cpB vI1])]
end Go.Br
end
section
namespace Go.Br
open Go Go.Eng Go.L41
theorem tdiv_back {a b:Int} (ha:r64 a) (hb:r64 b) (hb0:b≠0) (hs:¬(b= -1/\a= -9223372036854775808)) (h:w64 (Int.tdiv (w64 (a*b)) b)=a):r64 (a*b):=by
 have hp:=w64_r (a*b)
 have hpe:=zUb (a*b)
 generalize w64 (a*b)=p at *
 have h1:=Int.mul_tdiv_add_tmod p b
 have h2:(p.tmod b).natAbs=p.natAbs%b.natAbs:=Int.natAbs_tmod p b
 have h3:(p.tdiv b).natAbs=p.natAbs/b.natAbs:=Int.natAbs_tdiv p b
 have hbn:0<b.natAbs:=by omega
 have h4:=Nat.mod_lt p.natAbs hbn
 have h5:=Nat.div_le_self p.natAbs b.natAbs
 have h6:=Nat.div_add_mod p.natAbs b.natAbs
 have hwe:=zUb (p.tdiv b)
 have hq:p.tdiv b=a:=by
  by_cases hbig:p.tdiv b=9223372036854775808
  ·exfalso
   rw [hbig] at h1 h3 hwe
   have hb1:b.natAbs=1:=by
    have h7:p.natAbs/b.natAbs=9223372036854775808:=by omega
    rw [h7] at h6
    unfold r64 at hp
    have h8:b.natAbs*9223372036854775808<=9223372036854775808:=by omega
    omega
   unfold r64 at *
   have hbc:b=1∨b= -1:=by omega
   rcases hbc with rfl|rfl
   ·omega
   ·exact hs ⟨rfl,zA⟩
  ·rw [←h]
   unfold r64 at *
   omega
 rw [hq] at h1
 rw [Int.mul_comm b a] at h1
 generalize a*b=m at *
 generalize p.tmod b=r at *
 unfold r64 at *
 omega
def mC (a b:Int):Int×Bool:=if r64 (a+b) then (a+b,true) else (0,false)
theorem plusT_2 (a b:Int):(mC a b).2=decide (r64 (a+b)):=by unfold mC;by_cases h:r64 (a+b)<;>simp [h]
theorem plusT_1 {a b:Int} (h:(mC a b).2=true):(mC a b).1=a+b:=by rw [plusT_2] at h;unfold mC;rw [if_pos (by simpa using h)]
/-! ## Ascending names -/
end Go.Br
end
section
namespace Go.Br
open Go Go.Eng Go.L41
mutual
def mP (P:St->Prop):St->Prop
 |.mk o nm mn mk fo i e b=>P (.mk o nm mn mk fo i e b)/\dQ P b
def dQ (P:St->Prop):List St->Prop
 |[]=>True
 |s::r=>mP P s/\dQ P r
end
theorem stAll_eq {P:St->Prop} {s:St} (h:mP P s):P s/\dQ P s.Body:=by cases s;rw [mP] at h;exact h
theorem zLh {P:St->Prop}:∀{l:List St},dQ P l->∀s,s∈l->mP P s
 |[],_,s,hs=>by cases hs
 |x::r,h,s,hs=>by
  rw [dQ] at h
  rcases List.mem_cons.1 hs with rfl|hs
  ·exact h.1
  ·exact zLh h.2 s hs
mutual
theorem chkS_all (B:List Bf):∀(s:St) (U sc:List ByteArray) (here:List Int),(gV B U sc here s).E=0->mP (fun s=>∃U sc,stE B U sc s=0) s
 |.mk o nm mn mk fo i e b,U,sc,here,h=>by
  rw [gV] at h
  rw [mP]
  split at h
  ·next c=>exact ⟨⟨U,sc,c⟩,chkL_all B b _ _ _ _ h⟩
  ·next c=>exact absurd h c
theorem chkL_all (B:List Bf):∀(l:List St) (U sc:List ByteArray) (way:List Int) (i:Int),(bP B U sc way i l).E=0->dQ (fun s=>∃U sc,stE B U sc s=0) l
 |[],_,_,_,_,_=>by rw [dQ];trivial
 |s::r,U,sc,way,i,h=>by
  rw [bP] at h
  rw [dQ]
  split at h
  ·next c=>exact ⟨chkS_all B s _ _ _ c,chkL_all B r _ _ _ _ h⟩
  ·next c=>exact absurd h c
end
theorem valid_all {n:Ns} (h:(bJ n).2=0):dQ (fun s=>∃U sc,stE n.Bufs U sc s=0) n.Body:=chkL_all n.Bufs n.Body [] [] [] 0 (zMl h).2.2.2
theorem loop_facts {B:List Bf} {U sc:List ByteArray} {s:St} (h:stE B U sc s=0) (ho:s.Op=1):bD s.Name=true/\dS B s.Name=false/\1<=s.Many/\s.Many<=65536/\s.Fold=0/\s.Idx=[]/\s.E=zEx:=by
 have hs:fG s=true:=by
  cases c:fG s with
  |true=>rfl
  |false=>rw [stE_5 c] at h;cases h
 rw [stE_l hs ho] at h
 unfold nF at h
 by_cases c1:bD s.Name=true
 ·rw [if_pos c1] at h
  by_cases c2:dS B s.Name=true∨dD U s.Name=true
  ·rw [if_pos c2] at h;cases h
  ·rw [if_neg c2] at h
   by_cases c3:s.Many<1∨65536<s.Many∨s.Mark<0∨3<s.Mark
   ·rw [if_pos c3] at h;cases h
   ·have c4:dS B s.Name=false:=by
     cases k:dS B s.Name with
     |false=>rfl
     |true=>exact absurd (.inl k) c2
    unfold fG jC at hs
    simp only [ho,Bool.and_eq_true,Bool.or_eq_true,Bool.not_eq_true',Bool.and_eq_false_iff,decide_eq_true_eq,decide_eq_false_iff_not,Bool.or_eq_false_iff,Bool.not_eq_false',pI] at hs
    obtain ⟨⟨⟨⟨⟨_,_⟩,h4⟩,h5⟩,h6⟩,_⟩:=hs
    refine ⟨c1,c4,zA,zA,?_,?_,?_⟩
    ·rcases h4 with h4|h4
     ·exact absurd h4 zB
     ·exact h4
    ·rcases h5 with h5|h5
     ·exact absurd h5 zB
     ·exact List.eq_nil_of_length_eq_zero zA
    ·rcases h6 with h6|h6
     ·exact absurd trivial h6
     ·exact h6
 ·rw [if_neg c1] at h;cases h
end Go.Br
end
