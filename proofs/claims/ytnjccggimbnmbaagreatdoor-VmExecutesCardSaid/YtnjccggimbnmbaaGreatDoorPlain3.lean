/-
  Loop nests,in plain Lean: buffers,statements,and the cells that dC them.
  What the check of a nest says (30.1),in plain Lean.
  Weights of nests,in plain Lean.
  For the reference's check of nests,in plain Lean.
  Lifetimes as plain data,and what the functions of the layer compute.
  Layer 41 in plain Lean: what statements touch; the spans of buffers.
  Nests walked and mapped,in plain Lean (30.2,30.3).
  Paths in nests,in plain Lean (30.2).
  Names that are not in use,in plain Lean (30.2): numerals,and the first number that is free.
  Conditions: none.
-/
import Derived.Test.YtnjccggimbnmbaaGreatDoorPlain
import Derived.Test.YtnjccggimbnmbaaGreatDoorNames
import Derived.Test.YtnjccggimbnmbaaGreatDoorPlain2
set_option linter.unusedSimpArgs false
set_option linter.unusedVariables false
section
namespace Go.Br
open Go Go.Eng Go.L41
structure Bf where
 Name:ByteArray
 T:Ty
 Dims:List Int
 Use:Int
 deriving DecidableEq
inductive St where
 |mk (op:Int) (name:ByteArray) (many sJ fold:Int) (idx:List Ix) (ex:Ex) (body:List St)
namespace St
def Op:St->Int|mk x _ _ _ _ _ _ _=>x
def Name:St->ByteArray|mk _ x _ _ _ _ _ _=>x
def Many:St->Int|mk _ _ x _ _ _ _ _=>x
def Mark:St->Int|mk _ _ _ x _ _ _ _=>x
def Fold:St->Int|mk _ _ _ _ x _ _ _=>x
def Idx:St->List Ix|mk _ _ _ _ _ x _ _=>x
def E:St->Ex|mk _ _ _ _ _ _ x _=>x
def Body:St->List St|mk _ _ _ _ _ _ _ x=>x
theorem ind {P:St->Prop} (h:∀s:St,(∀a,a∈s.Body->P a)->P s) (s:St):P s:=
 St.rec (motive_1:=P) (motive_2:=fun l=>∀a,a∈l->P a) (fun o n m k f i e b ih=>h (mk o n m k f i e b) ih) (fun a h=>by cases h)
  (fun x l hx hl a ha=>by rcases List.mem_cons.1 ha with rfl|ha;exact hx;exact hl a ha) s
end St
structure Ns where
 Bufs:List Bf
 Body:List St
def Bf.cells (b:Bf):List C:=[cS b.Name,cI b.T.Kind,cI b.T.Bits,cI b.T.Frac,cI b.T.Round,cI b.T.Over,.sl 1 (b.Dims.map fun n=>[cI n]),cI b.Use]
mutual
def St.cells:St->List C
 |.mk o n m k f i e b=>[cI o,cS n,cI m,cI k,cI f,.sl 4 (i.map Ix.cells)]++e.cs++[.sl 20 (nS b)]
def nS:List St->List (List C)
 |[]=>[]
 |s::r=>s.cells::nS r
end
theorem zRz (l:List St):nS l=l.map St.cells:=by
 induction l with
 |nil=>rfl
 |cons s r ih=>rw [nS,ih];rfl
def St.cs (s:St):List C:=[cI s.Op,cS s.Name,cI s.Many,cI s.Mark,cI s.Fold,.sl 4 (s.Idx.map Ix.cells),
 cI s.E.Op,cS s.E.Name,cI s.E.Val.N,cI s.E.Val.D,cI s.E.Ty.Kind,cI s.E.Ty.Bits,cI s.E.Ty.Frac,cI s.E.Ty.Round,cI s.E.Ty.Over,cI s.E.Lin.K,.sl 2 (s.E.Lin.L.map Mono.cells),.sl 4 (s.E.Idx.map Ix.cells),.sl 13 (s.E.Args.map Ex.cells),.sl 20 (s.Body.map St.cells)]
theorem St.cells_eq (s:St):s.cells=s.cs:=by
 cases s;rw [St.cells,zRz];rfl
def Ns.cells (n:Ns):List C:=[.sl 8 (n.Bufs.map Bf.cells),.sl 20 (n.Body.map St.cells)]
abbrev vBf (b:Bf):V:=.agg b.cells
abbrev vSt (s:St):V:=.agg s.cs
abbrev gT (l:List St):V:=.c (.sl 20 (l.map St.cells))
abbrev vNs (n:Ns):V:=.agg n.cells
abbrev vIs (l:List Int):V:=.c (.sl 1 (l.map fun n=>[cI n]))
abbrev xG (l:List Bf):V:=.c (.sl 8 (l.map Bf.cells))
theorem zCg {α:Type} {p:α->Bool} {l:List α} {k:Nat} {x:α} (h:l[k]? =some x) (hp:(l.take k).all p=true) (hx:p x=true):(l.take (k+1)).all p=true:=by
 rw [kK h,List.all_append,hp];simp [hx]
theorem zIt {l:List St} {k:Nat} {x:St} (h:l[k]? =some x):(l.map St.cells)[k]? =some x.cs:=by
 rw [D h,St.cells_eq]
/-! ## Sizes -/
mutual
def St.wt:St->Nat
 |.mk _ _ _ _ _ i e b=>1+e.wt+i.length+gB i+bX b
def bX:List St->Nat
 |[]=>0
 |s::r=>s.wt+bX r
end
theorem St.wt_eq (s:St):s.wt=1+s.E.wt+s.Idx.length+gB s.Idx+bX s.Body:=by cases s;rw [St.wt];rfl
theorem zBy (l:List St):l.length<=bX l:=by
 induction l with
 |nil=>simp [bX]
 |cons y r ih=>rw [bX,List.length_cons];have:=y.wt_eq;omega
theorem zAn {l:List St} {a:St} (h:a∈l):a.wt<=bX l:=by
 induction l with
 |nil=>cases h
 |cons x r ih=>
  rw [bX]
  rcases List.mem_cons.1 h with rfl|h
  ·omega
  ·have:=ih h;omega
theorem St.wt_pos (s:St):1<=s.wt:=by rw [St.wt_eq];omega
theorem St.body_wt (s:St):bX s.Body<s.wt:=by rw [St.wt_eq s];omega
theorem St.parts {s:St} {B:Nat} (h:s.wt<=B):s.E.wt<=B/\s.Idx.length<=B/\gB s.Idx<=B/\s.Body.length<=B/\bX s.Body<=B:=by
 rw [St.wt_eq] at h
 have:=zBy s.Body
 omega
def rdE (s:St):Ex:=.mk 3 s.Name ⟨0,0⟩ ⟨0,0,0,0,0⟩ ⟨0,[]⟩ s.Idx []
theorem rdE_wt (s:St):(rdE s).wt<=s.wt+1:=by
 rw [Ex.wt_eq,St.wt_eq];simp only [rdE,Ex.Lin,Ex.Idx,Ex.Args,gD,List.length_nil];omega
/-! ## Shapes (11.1) -/
def mC (n:Int):Bool:=decide (1<=n)
def bH:Int->List Int->Option Int
 |s,[]=>some s
 |s,n::r=>if 4096<s*n then none else bH (s*n) r
def bR (d:List Int):Int:=if 6<d.length then 2 else if d.all mC=true then (if (bH 1 d).isSome=true then 0 else 2) else 1
def bZ (d:List Int):Int:=if bR d=0 then (bH 1 d).getD 0 else 0
theorem zUe {d:List Int} (h:6<d.length):bR d=2:=by unfold bR;rw [if_pos h]
theorem dims_neg {d:List Int} {k:Nat} {n:Int} (h:¬6<d.length) (hn:d[k]? =some n) (h2:n<1):bR d=1:=by
 unfold bR
 rw [if_neg h,if_neg (by rw [zIo hn (p:=mC) (by unfold mC;exact decide_eq_false (by omega))];simp)]
theorem zMy {d:List Int} (h:¬6<d.length) (h1:d.all mC=true) (h2:bH 1 d=none):bR d=2:=by
 unfold bR;rw [if_neg h,if_pos h1,h2];rfl
theorem dims_ok {d:List Int} {s:Int} (h:¬6<d.length) (h1:d.all mC=true) (h2:bH 1 d=some s):bR d=0:=by
 unfold bR;rw [if_neg h,if_pos h1,h2];rfl
theorem zGr {d:List Int} {k:Nat} {n s:Int} (h:d[k]? =some n) (hs:bH 1 d=bH s (d.drop k)) (h2:¬4096<s*n):bH 1 d=bH (s*n) (d.drop (k+1)):=by
 rw [hs,yA h,bH,if_neg h2]
theorem zJb {d:List Int} {k:Nat} {n s:Int} (h:d[k]? =some n) (hs:bH 1 d=bH s (d.drop k)) (h2:4096<s*n):bH 1 d=none:=by
 rw [hs,yA h,bH,if_pos h2]
theorem zGs {d:List Int} {k:Nat} {s:Int} (hs:bH 1 d=bH s (d.drop k)) (h:¬k<d.length):bH 1 d=some s:=by
 rw [hs,wE h];rfl
theorem quo_lt {s n:Int} (h:1<=s):Int.tdiv 4096 s<n↔4096<s*n:=by
 rw [Int.tdiv_eq_ediv_of_nonneg (by omega),Int.ediv_lt_iff_lt_mul (by omega),Int.mul_comm]
theorem quo_wrap {s:Int} (h:1<=s):IntKind.i64.wrap (Int.tdiv 4096 s)=Int.tdiv 4096 s:=by
 have h1:Int.tdiv 4096 s=4096/s:=Int.tdiv_eq_ediv_of_nonneg (by omega)
 have h2:0<=(4096:Int)/s:=Int.ediv_nonneg (by omega) (by omega)
 have h3:(4096:Int)/s<=4096:=Int.ediv_le_self _ (by omega)
 exact zAv ⟨by omega,by omega⟩
theorem quo_t {s n:Int} (h:1<=s) (c:IntKind.i64.wrap (Int.tdiv 4096 s)<n):4096<s*n:=by rw [quo_wrap h] at c;exact (quo_lt h).1 c
theorem quo_f {s n:Int} (h:1<=s) (c:¬IntKind.i64.wrap (Int.tdiv 4096 s)<n):¬4096<s*n:=by rw [quo_wrap h] at c;exact fun k=>c ((quo_lt h).2 k)
theorem zDi {d:List Int} {k:Nat} {n:Int} (h:d.all mC=true) (hn:d[k]? =some n):1<=n:=by
 have:=(List.all_eq_true.1 h) n (qL hn)
 simpa [mC] using this
theorem zDk {s n:Int} (h:1<=s) (h2:1<=n):1<=s*n/\n<=s*n:=by
 have h3:1*n<=s*n:=Int.mul_le_mul_of_nonneg_right h (by omega)
 omega
theorem zSf:∀{d:List Int} {s t:Int},1<=s->s<=4096->d.all mC=true->bH s d=some t->1<=t/\t<=4096
 |[],s,t,h,h2,_,h3=>by simp only [bH,Option.some.injEq] at h3;omega
 |n::r,s,t,h,h2,hp,h3=>by
  rw [bH] at h3
  simp only [List.all_cons,Bool.and_eq_true] at hp
  have hn:1<=n:=by simpa [mC] using hp.1
  split at h3
  ·cases h3
  ·rename_i h4
   exact zSf (zDk h hn).1 (by omega) hp.2 h3
theorem zMz {d:List Int} (h:bR d=0):d.length<=6/\d.all mC=true/\∃s,bH 1 d=some s/\1<=s/\s<=4096:=by
 unfold bR at h
 split at h
 ·cases h
 ·rename_i h6
  split at h
  ·rename_i hp
   split at h
   ·rename_i hs
    obtain ⟨s,hs⟩:=Option.isSome_iff_exists.1 hs
    have:=zSf (by omega) (by omega) hp hs
    exact ⟨by omega,hp,s,hs,this.1,this.2⟩
   ·cases h
  ·cases h
theorem zHy {d:List Int} {s:Int} (h:bR d=0) (hs:bH 1 d=some s):bZ d=s:=by unfold bZ;rw [if_pos h,hs];rfl
theorem zUf {d:List Int} (h:¬bR d=0):bZ d=0:=by unfold bZ;rw [if_neg h]
theorem size_fit {d:List Int} {k:Nat} {n s t:Int} (h:d[k]? =some n) (hs:bH 1 d=bH s (d.drop k)) (ht:bH 1 d=some t):¬4096<s*n:=by
 intro h2
 rw [zJb h hs h2] at ht;cases ht
/-! ## Buffers -/
def zBf:Bf:=⟨bs [],zTy,[],0⟩
def dZ (l:List Bf) (s:ByteArray):Bool:=l.any fun b=>decide (b.Name=s)
def fY:List Bf->ByteArray->Bf
 |[],_=>zBf
 |b::r,s=>if b.Name=s then b else fY r s
theorem bufD_at {l:List Bf} {k:Nat} {b:Bf} {s:ByteArray} (h:l[k]? =some b) (hb:b.Name=s):fY (l.drop k) s=b:=by rw [yA h,fY,if_pos hb]
theorem bufD_next {l:List Bf} {k:Nat} {b:Bf} {s:ByteArray} (h:l[k]? =some b) (hb:¬b.Name=s):fY (l.drop k) s=fY (l.drop (k+1)) s:=by rw [yA h,fY,if_neg hb]
theorem hasBf_at {l:List Bf} {k:Nat} {b:Bf} {s:ByteArray} (h:l[k]? =some b) (hb:b.Name=s):dZ l s=true:=by
 unfold dZ;rw [List.any_eq_true];exact ⟨b,qL h,decide_eq_true hb⟩
theorem zOk {l:List Bf} {k:Nat} {b:Bf} {s:ByteArray} (h:l[k]? =some b) (hp:dZ (l.take k) s=false) (hb:¬b.Name=s):dZ (l.take (k+1)) s=false:=by
 unfold dZ at *;rw [kK h,List.any_append,hp];simp [hb]
theorem hasBf_lt {l:List Bf} {j k:Nat} {b:Bf} {s:ByteArray} (h:l[j]? =some b) (hj:j<k) (hb:b.Name=s):dZ (l.take k) s=true:=by
 have:(l.take k)[j]? =some b:=by rw [List.getElem?_take];simp [hj,h]
 exact hasBf_at this hb
theorem bufD_no:∀{l:List Bf} {s:ByteArray},dZ l s=false->fY l s=zBf
 |[],_,_=>rfl
 |b::r,s,h=>by
  simp only [dZ,List.any_cons,Bool.or_eq_false_iff,decide_eq_false_iff_not] at h
  rw [fY,if_neg h.1];exact bufD_no h.2
def jB (seen:List Bf) (b:Bf):Int:=
 if bU b.Name=true then (if dZ seen b.Name=true then 8 else if bD b.T=true then (if bR b.Dims=0 then (if b.Use<1∨3<b.Use then 1 else 0) else bR b.Dims) else 10) else 7
def bY:List Bf->List Bf->Int
 |_,[]=>0
 |seen,b::r=>if jB seen b=0 then bY (seen++[b]) r else jB seen b
theorem bfErr_7 {seen:List Bf} {b:Bf} (h:bU b.Name=false):jB seen b=7:=by unfold jB;rw [if_neg (by rw [h];simp)]
theorem bfErr_8 {seen:List Bf} {b:Bf} (h:bU b.Name=true) (h2:dZ seen b.Name=true):jB seen b=8:=by unfold jB;rw [if_pos h,if_pos h2]
theorem zRh {seen:List Bf} {b:Bf} (h:bU b.Name=true) (h2:dZ seen b.Name=false) (h3:bD b.T=false):jB seen b=10:=by unfold jB;rw [if_pos h,if_neg (by rw [h2];simp),if_neg (by rw [h3];simp)]
theorem bfErr_d {seen:List Bf} {b:Bf} (h:bU b.Name=true) (h2:dZ seen b.Name=false) (h3:bD b.T=true) (h4:¬bR b.Dims=0):jB seen b=bR b.Dims:=by unfold jB;rw [if_pos h,if_neg (by rw [h2];simp),if_pos h3,if_neg h4]
theorem bfErr_u {seen:List Bf} {b:Bf} (h:bU b.Name=true) (h2:dZ seen b.Name=false) (h3:bD b.T=true) (h4:bR b.Dims=0) (h5:b.Use<1∨3<b.Use):jB seen b=1:=by unfold jB;rw [if_pos h,if_neg (by rw [h2];simp),if_pos h3,if_pos h4,if_pos h5]
theorem bfErr_0 {seen:List Bf} {b:Bf} (h:bU b.Name=true) (h2:dZ seen b.Name=false) (h3:bD b.T=true) (h4:bR b.Dims=0) (h5:¬(b.Use<1∨3<b.Use)):jB seen b=0:=by unfold jB;rw [if_pos h,if_neg (by rw [h2];simp),if_pos h3,if_pos h4,if_neg h5]
theorem zPt {l:List Bf} {k:Nat} {b:Bf} (h:l[k]? =some b) (hp:bY [] l=bY (l.take k) (l.drop k)) (hb:jB (l.take k) b=0):bY [] l=bY (l.take (k+1)) (l.drop (k+1)):=by
 rw [hp,yA h,bY,if_pos hb,kK h]
theorem zBr {l:List Bf} {k:Nat} {b:Bf} (h:l[k]? =some b) (hp:bY [] l=bY (l.take k) (l.drop k)) (hb:¬jB (l.take k) b=0):bY [] l=jB (l.take k) b:=by
 rw [hp,yA h,bY,if_neg hb]
theorem zUp {l:List Bf} {k:Nat} (hp:bY [] l=bY (l.take k) (l.drop k)) (h:¬k<l.length):bY [] l=0:=by
 rw [hp,wE h];rfl
/-! ## Depth and number of statements -/
def dE:Nat->List St->Bool
 |0,l=>l.isEmpty
 |n+1,l=>l.all fun s=>dE n s.Body
def lG:Nat->List St->Int
 |0,_=>0
 |n+1,l=>l.foldl (fun d s=>max d (1+lG n s.Body)) 0
theorem depF_ge {f:St->Int}:∀(l:List St) (d:Int),d<=l.foldl (fun d s=>max d (1+f s)) d
 |[],d=>Int.le_refl _
 |x::r,d=>by have:=depF_ge (f:=f) r (max d (1+f x));rw [List.foldl_cons];omega
theorem zRc {f:St->Int} {m:Int}:∀(l:List St) (d:Int),l.foldl (fun d s=>max d (1+f s)) d<=m↔d<=m/\∀s,s∈l->1+f s<=m
 |[],d=>by simp
 |x::r,d=>by
  rw [List.foldl_cons,zRc r]
  constructor
  ·rintro ⟨h1,h2⟩
   refine ⟨by omega,fun s hs=>?_⟩
   rcases List.mem_cons.1 hs with rfl|hs
   ·omega
   ·exact h2 s hs
  ·rintro ⟨h1,h2⟩
   have:=h2 x (by simp)
   exact ⟨by omega,fun s hs=>h2 s (by simp [hs])⟩
theorem zIa:∀(n:Nat) (l:List St),lG (n+1) l<=n↔dE n l=true
 |0,l=>by
  rw [lG,zRc]
  cases l with
  |nil=>simp [dE]
  |cons x r=>
   simp only [dE,List.isEmpty_cons,Bool.false_eq_true,iff_false,not_and]
   intro _ h
   have:=h x (by simp)
   simp only [lG] at this;omega
 |n+1,l=>by
  rw [lG,zRc,dE,List.all_eq_true]
  constructor
  ·rintro ⟨_,h⟩ s hs
   have:=h s hs
   exact (zIa n s.Body).1 (by omega)
  ·intro h
   refine ⟨by omega,fun s hs=>?_⟩
   have:=(zIa n s.Body).2 (h s hs)
   omega
theorem depS_le:∀(n:Nat) (l:List St),0<=lG n l/\lG n l<=n
 |0,l=>by simp [lG]
 |n+1,l=>by
  rw [lG]
  refine ⟨depF_ge l 0,(zRc l 0).2 ⟨by omega,fun s _=>?_⟩⟩
  have:=depS_le n s.Body;omega
mutual
def stN:St->Nat
 |.mk _ _ _ _ _ _ _ b=>1+dL b
def dL:List St->Nat
 |[]=>0
 |s::r=>stN s+dL r
end
def pX (n:Nat) (l:List St):Bool:=dE n l
theorem withinG_eq (n:Nat) (l:List St):pX n l=dE n l:=rfl
theorem withinG_next {n:Nat} {l:List St} {k:Nat} {s:St} (h:l[k]? =some s) (hp:pX n (l.take k)=true) (hn:1<=n) (hs:dE (n-1) s.Body=true):pX n (l.take (k+1))=true:=by
 obtain ⟨m,rfl⟩:∃m,n=m+1:=⟨n-1,by omega⟩
 exact zCg h hp hs
theorem within_no {n:Nat} {l:List St} {k:Nat} {s:St} {x:Int} (h:l[k]? =some s) (hx:x=n) (c:(decide (x<1)|| !dE (n-1) s.Body)=true):dE n l=false:=by
 cases n with
 |zero=>cases l with
  |nil=>simp at h
  |cons a r=>rfl
 |succ n=>
  have:dE n s.Body=false:=by
   rw [Bool.or_eq_true] at c
   rcases c with c|c
   ·rw [decide_eq_true_eq] at c;omega
   ·simpa using c
  exact zIo h this
theorem within_yes {n:Nat} {s:St} {x:Int} (hx:x=n) (c:(decide (x<1)|| !dE (n-1) s.Body)=false):1<=n/\dE (n-1) s.Body=true:=by
 rw [Bool.or_eq_false_iff] at c
 refine ⟨?_,by simpa using c.2⟩
 have:=c.1;rw [decide_eq_false_iff_not] at this;omega
theorem depS_next {n:Nat} {l:List St} {k:Nat} {s:St} (h:l[k]? =some s) (hn:1<=n):lG n (l.take (k+1))=max (lG n (l.take k)) (1+lG (n-1) s.Body):=by
 obtain ⟨m,rfl⟩:∃m,n=m+1:=⟨n-1,by omega⟩
 rw [kK h,lG,List.foldl_append];rfl
theorem depS_stop {n:Nat} {l:List St} {k:Nat} {x d:Int} (hx:x=n) (hd:d=lG n (l.take k)) (c:l.length<=k∨x<=0):d=lG n l:=by
 by_cases h0:n=0
 ·subst h0;rw [hd];rfl
 ·rw [hd,yP (by omega)]
theorem zPc (s:St):stN s=1+dL s.Body:=by cases s;rw [stN];rfl
theorem zRx:∀(a b:List St),dL (a++b)=dL a+dL b
 |[],b=>by simp [dL]
 |x::r,b=>by rw [List.cons_append,dL,dL,zRx r b];omega
theorem zEu:∀l:List St,l.length<=dL l
 |[]=>by simp [dL]
 |x::r=>by have:=zEu r;have:=zPc x;rw [dL,List.length_cons];omega
mutual
theorem stN_wt:∀s:St,stN s<=s.wt
 |.mk o n m k f i e b=>by rw [stN,St.wt];have:=stsN_wt b;omega
theorem stsN_wt:∀l:List St,dL l<=bX l
 |[]=>by simp [dL,bX]
 |s::r=>by rw [dL,bX];have:=stN_wt s;have:=stsN_wt r;omega
end
mutual
def rK:St->Nat->Nat
 |.mk _ _ _ _ _ _ _ b,m=>lD b m b.length
def lD:List St->Nat->Nat->Nat
 |[],_,n=>n
 |s::r,m,n=>if n<=m then lD r m (n+rK s (m-n)) else n
end
def jP (l:List St) (m:Nat):Nat:=lD l m l.length
theorem numS_eq (s:St) (m:Nat):rK s m=jP s.Body m:=by cases s;rw [rK];rfl
mutual
theorem numS_le:∀(s:St) (m:Nat),rK s m<=stN s-1
 |.mk _ _ _ _ _ _ _ b,m=>by
  rw [rK,stN]
  have h1:=numL_le b m b.length
  have h2:=zEu b
  omega
theorem numL_le:∀(l:List St) (m n:Nat),lD l m n<=n+(dL l-l.length)
 |[],m,n=>by simp [lD]
 |s::r,m,n=>by
  rw [lD]
  have h3:=zEu r
  have h4:=zPc s
  split
  ·have h1:=numL_le r m (n+rK s (m-n))
   have h2:=numS_le s (m-n)
   rw [dL,List.length_cons];omega
  ·rw [dL,List.length_cons];omega
end
theorem numB_le (l:List St) (m:Nat):jP l m<=dL l:=by
 have h1:=numL_le l m l.length
 have h2:=zEu l
 unfold jP;omega
theorem numL_ge:∀(l:List St) (m n:Nat),n<=lD l m n
 |[],m,n=>by rw [lD];omega
 |s::r,m,n=>by
  rw [lD];split
  ·have:=numL_ge r m (n+rK s (m-n));omega
  ·omega
mutual
theorem numS_ok:∀(s:St) (m:Nat),rK s m<=m->rK s m=stN s-1
 |.mk _ _ _ _ _ _ _ b,m,h=>by
  rw [rK] at h⊢
  rw [stN,numL_ok b m _ h]
  have:=zEu b;omega
theorem numL_ok:∀(l:List St) (m n:Nat),lD l m n<=m->lD l m n=n+(dL l-l.length)
 |[],m,n,h=>by simp [lD,dL]
 |s::r,m,n,h=>by
  have h3:=zEu r
  have h4:=zPc s
  by_cases hn:n<=m
  ·rw [lD,if_pos hn] at h⊢
   have h5:=numL_ge r m (n+rK s (m-n))
   have h6:=numS_ok s (m-n) (by omega)
   rw [numL_ok r m _ h,h6,dL,List.length_cons];omega
  ·rw [lD,if_neg hn] at h;omega
end
theorem numB_ok {l:List St} {m:Nat} (h:jP l m<=m):dL l=jP l m:=by
 have h2:=zEu l
 unfold jP at *
 rw [numL_ok l m _ h];omega
theorem num_next {l:List St} {k m n N:Nat} {s:St} (h:l[k]? =some s) (hp:N=lD (l.drop k) m n) (hn:n<=m):N=lD (l.drop (k+1)) m (n+jP s.Body (m-n)):=by
 rw [hp,yA h,lD,if_pos hn,numS_eq]
theorem num_end {l:List St} {k m n N:Nat} (hp:N=lD (l.drop k) m n) (h:l.length<=k∨m<n):n=N:=by
 rw [hp]
 by_cases hk:k<l.length
 ·obtain ⟨a,ha⟩:=yC l k hk
  rw [yA ha,lD,if_neg (by omega)]
 ·rw [wE hk,lD]
theorem zQj {l:List St} {s:St} (h:s∈l):stN s<=dL l:=by
 induction l with
 |nil=>cases h
 |cons x r ih=>
  rw [dL]
  rcases List.mem_cons.1 h with rfl|h
  ·omega
  ·have:=ih h;omega
theorem stsN_drop {l:List St} {k:Nat} {s:St} (h:l[k]? =some s):dL (l.drop k)=stN s+dL (l.drop (k+1)):=by rw [yA h,dL]
theorem num_sum {l:List St} {k m n:Nat} {s:St} (h:l[k]? =some s) (hp:jP l m=lD (l.drop k) m n) (hn:n<=m):n+jP s.Body (m-n)<=n+dL l:=by
 have h1:=numB_le s.Body (m-n)
 have h2:dL l=dL (l.take k)+(stN s+dL (l.drop (k+1))):=by
  rw [←dL,←yA h,←zRx,List.take_append_drop]
 have:=zPc s
 omega
end Go.Br
end
section
namespace Go.Br
open Go Go.Eng Go.L41
/-! ## Names of a node -/
def lH (sc:List ByteArray) (l:Lf):Bool:=l.L.all fun m=>dW sc m.Name
def vV (sc:List ByteArray) (x:Ix):Bool:=lH sc x.Lin&&x.At.all (lH sc)
def jY (sc:List ByteArray) (e:Ex):Bool:=lH sc e.Lin&&e.Idx.all (vV sc)
def lE (B:List Bf) (x:Ix):Int:=
 if x.From=bs [] then 0 else if dZ B x.From=true then (if (fY B x.From).T.Kind=3 then (if (fY B x.From).Dims.length=x.At.length then 0 else 11) else 10) else 9
def mJ (B:List Bf):List Ix->Int
 |[]=>0
 |x::r=>if lE B x=0 then mJ B r else lE B x
def jA (B:List Bf) (sc:List ByteArray) (e:Ex):Int:=
 if jY sc e=true then (if e.Op=3 then (if dZ B e.Name=true then (if (fY B e.Name).Dims.length=e.Idx.length then mJ B e.Idx else 11) else 9) else 0) else 9
def dF (B:List Bf) (sc:List ByteArray):List Ex->Int
 |[]=>0
 |e::r=>if jA B sc e=0 then dF B sc r else jA B sc e
theorem gathE_0 {B:List Bf} {x:Ix} (h:x.From=bs []):lE B x=0:=by unfold lE;rw [if_pos h]
theorem gathE_9 {B:List Bf} {x:Ix} (h:¬x.From=bs []) (h1:dZ B x.From=false):lE B x=9:=by unfold lE;rw [if_neg h,if_neg (by rw [h1];simp)]
theorem zQy {B:List Bf} {x:Ix} (h:¬x.From=bs []) (h1:dZ B x.From=true) (h2:¬(fY B x.From).T.Kind=3):lE B x=10:=by unfold lE;rw [if_neg h,if_pos h1,if_neg h2]
theorem zQx {B:List Bf} {x:Ix} (h:¬x.From=bs []) (h1:dZ B x.From=true) (h2:(fY B x.From).T.Kind=3) (h3:¬(fY B x.From).Dims.length=x.At.length):lE B x=11:=by unfold lE;rw [if_neg h,if_pos h1,if_pos h2,if_neg h3]
theorem zQw {B:List Bf} {x:Ix} (h:¬x.From=bs []) (h1:dZ B x.From=true) (h2:(fY B x.From).T.Kind=3) (h3:(fY B x.From).Dims.length=x.At.length):lE B x=0:=by unfold lE;rw [if_neg h,if_pos h1,if_pos h2,if_pos h3]
theorem zKk {B:List Bf} {l:List Ix} {k:Nat} {x:Ix} (h:l[k]? =some x) (hx:lE B x=0):mJ B (l.drop k)=mJ B (l.drop (k+1)):=by rw [yA h,mJ,if_pos hx]
theorem zKj {B:List Bf} {l:List Ix} {k:Nat} {x:Ix} (h:l[k]? =some x) (hx:¬lE B x=0):mJ B (l.drop k)=lE B x:=by rw [yA h,mJ,if_neg hx]
theorem nodeN_9 {B:List Bf} {sc:List ByteArray} {e:Ex} (h:jY sc e=false):jA B sc e=9:=by unfold jA;rw [if_neg (by rw [h];simp)]
theorem nodeN_o {B:List Bf} {sc:List ByteArray} {e:Ex} (h:jY sc e=true) (h1:¬e.Op=3):jA B sc e=0:=by unfold jA;rw [if_pos h,if_neg h1]
theorem nodeN_n {B:List Bf} {sc:List ByteArray} {e:Ex} (h:jY sc e=true) (h1:e.Op=3) (h2:dZ B e.Name=false):jA B sc e=9:=by unfold jA;rw [if_pos h,if_pos h1,if_neg (by rw [h2];simp)]
theorem nodeN_r {B:List Bf} {sc:List ByteArray} {e:Ex} (h:jY sc e=true) (h1:e.Op=3) (h2:dZ B e.Name=true) (h3:¬(fY B e.Name).Dims.length=e.Idx.length):jA B sc e=11:=by unfold jA;rw [if_pos h,if_pos h1,if_pos h2,if_neg h3]
theorem zJp {B:List Bf} {sc:List ByteArray} {e:Ex} (h:jY sc e=true) (h1:e.Op=3) (h2:dZ B e.Name=true) (h3:(fY B e.Name).Dims.length=e.Idx.length):jA B sc e=mJ B e.Idx:=by unfold jA;rw [if_pos h,if_pos h1,if_pos h2,if_pos h3]
theorem zHt (B:List Bf) (sc:List ByteArray):∀(a b:List Ex),dF B sc (a++b)=if dF B sc a=0 then dF B sc b else dF B sc a
 |[],b=>by simp [dF]
 |x::r,b=>by
  rw [List.cons_append,dF,dF,zHt B sc r b]
  by_cases h:jA B sc x=0
  ·rw [if_pos h,if_pos h]
  ·rw [if_neg h,if_neg h,if_neg h]
theorem zOf {B:List Bf} {sc:List ByteArray} {pre:List Ex} {x:Ex} (h:dF B sc pre=0):dF B sc (pre++[x])=jA B sc x:=by
 rw [zHt,if_pos h,dF,dF]
 by_cases hx:jA B sc x=0
 ·rw [if_pos hx,hx]
 ·rw [if_neg hx]
theorem nodesN_pre {B:List Bf} {sc:List ByteArray} {pre suf:List Ex} {x:Ex} (h:¬dF B sc (pre++[x])=0):dF B sc (pre++x::suf)=dF B sc (pre++[x]):=by
 rw [show pre++x::suf=(pre++[x])++suf by simp,zHt,if_neg h]
theorem nodesN_at {B:List Bf} {sc:List ByteArray} {l:List Ex} {k:Nat} {x:Ex} (h:l[k]? =some x) (hx:jA B sc x=0):dF B sc (l.drop k)=dF B sc (l.drop (k+1)):=by rw [yA h,dF,if_pos hx]
theorem nodesN_no {B:List Bf} {sc:List ByteArray} {l:List Ex} {k:Nat} {x:Ex} (h:l[k]? =some x) (hx:¬jA B sc x=0):dF B sc (l.drop k)=jA B sc x:=by rw [yA h,dF,if_neg hx]
/-! ## Types -/
def tyF (B:List Bf) (e:Ex) (l:List Ty):Ty×Int:=
 if e.Op=1∨e.Op=12 then (e.Ty,0) else
 if e.Op=2 then (iTy,0) else
 if e.Op=3 then ((fY B e.Name).T,0) else
 if e.Op=8 then (dG l 0,0) else
 if e.Op=16∨e.Op=17∨e.Op=18 then (zTy,0) else
 if dG l (l.length-2)=dG l (l.length-1) then (if bO e=true then (zTy,0) else (dG l (l.length-1),0)) else (zTy,10)
theorem zCk {B:List Bf} {e:Ex} {l:List Ty} (h:e.Op=1∨e.Op=12):tyF B e l=(e.Ty,0):=by unfold tyF;rw [if_pos h]
theorem zCp {B:List Bf} {e:Ex} {l:List Ty} (h:e.Op=2):tyF B e l=(iTy,0):=by unfold tyF;rw [if_neg (by omega),if_pos h]
theorem zCj {B:List Bf} {e:Ex} {l:List Ty} (h:e.Op=3):tyF B e l=((fY B e.Name).T,0):=by unfold tyF;rw [if_neg (by omega),if_neg (by omega),if_pos h]
theorem zCo {B:List Bf} {e:Ex} {l:List Ty} (h:e.Op=8):tyF B e l=(dG l 0,0):=by unfold tyF;rw [if_neg (by omega),if_neg (by omega),if_neg (by omega),if_pos h]
theorem wZ {B:List Bf} {e:Ex} {l:List Ty} (h:e.Op=16∨e.Op=17∨e.Op=18):tyF B e l=(zTy,0):=by unfold tyF;rw [if_neg (by omega),if_neg (by omega),if_neg (by omega),if_neg (by omega),if_pos h]
abbrev gH (o:Int):Prop:=o=1∨o=12∨o=2∨o=3∨o=8∨o=16∨o=17∨o=18
theorem tyF_o {B:List Bf} {e:Ex} {l:List Ty} (h:¬gH e.Op):tyF B e l=if dG l (l.length-2)=dG l (l.length-1) then (if bO e=true then (zTy,0) else (dG l (l.length-1),0)) else (zTy,10):=by
 unfold gH at h;unfold tyF;rw [if_neg (by omega),if_neg (by omega),if_neg (by omega),if_neg (by omega),if_neg (by omega)]
theorem zAa {B:List Bf} {e:Ex} {l:List Ty} (h:¬gH e.Op) (h2:¬dG l (l.length-2)=dG l (l.length-1)):tyF B e l=(zTy,10):=by rw [tyF_o h,if_neg h2]
theorem zCn {B:List Bf} {e:Ex} {l:List Ty} (h:¬gH e.Op) (h2:dG l (l.length-2)=dG l (l.length-1)) (h3:bO e=true):tyF B e l=(zTy,0):=by rw [tyF_o h,if_pos h2,if_pos h3]
theorem zCi {B:List Bf} {e:Ex} {l:List Ty} (h:¬gH e.Op) (h2:dG l (l.length-2)=dG l (l.length-1)) (h3:bO e=false):tyF B e l=(dG l (l.length-1),0):=by rw [tyF_o h,if_pos h2,if_neg (by rw [h3];simp)]
theorem tyF_zero {B:List Bf} {e:Ex} {l:List Ty} (h:¬(tyF B e l).2=0):(tyF B e l).1=zTy:=by
 unfold tyF at h⊢
 repeat' split at h<;>first|exact absurd rfl h|skip
 all_goals simp_all
theorem nodeT_zero {B:List Bf} {e:Ex} (h:¬(dO (tyF B) e).2=0):(dO (tyF B) e).1=zTy:=by
 rw [zQq] at h⊢
 split
 ·rename_i c
  rw [if_pos c] at h
  exact tyF_zero h
 ·rfl
def gC:List Ex->List Ty->List Ty
 |[],_=>[]
 |_::_,[]=>[]
 |a::r,t::ts=>if bO a=true then gC r ts else t::gC r ts
def kiF (B:List Bf) (e:Ex) (l:List Ty):Ty×Int:=
 if l.length=2/\¬dG l 0=dG l 1 then (zTy,10) else
 if e.Op=1∨e.Op=12 then (e.Ty,0) else
 if e.Op=2 then (iTy,0) else
 if e.Op=3 then ((fY B e.Name).T,0) else
 if bO e=true then (zTy,0) else (dG l 0,0)
def kiN (B:List Bf) (e:Ex) (l:List Ty):Ty×Int:=kiF B e (gC e.Args l)
theorem zGz {B:List Bf} {e:Ex} {l:List Ty} (h:l.length=2) (h2:¬dG l 0=dG l 1):kiF B e l=(zTy,10):=by unfold kiF;rw [if_pos ⟨h,h2⟩]
theorem zOi {B:List Bf} {e:Ex} {l:List Ty} (h:¬(l.length=2/\¬dG l 0=dG l 1)) (h1:e.Op=1∨e.Op=12):kiF B e l=(e.Ty,0):=by unfold kiF;rw [if_neg h,if_pos h1]
theorem zQf {B:List Bf} {e:Ex} {l:List Ty} (h:¬(l.length=2/\¬dG l 0=dG l 1)) (h1:e.Op=2):kiF B e l=(iTy,0):=by unfold kiF;rw [if_neg h,if_neg (by omega),if_pos h1]
theorem zQe {B:List Bf} {e:Ex} {l:List Ty} (h:¬(l.length=2/\¬dG l 0=dG l 1)) (h1:e.Op=3):kiF B e l=((fY B e.Name).T,0):=by unfold kiF;rw [if_neg h,if_neg (by omega),if_neg (by omega),if_pos h1]
theorem zMo {B:List Bf} {e:Ex} {l:List Ty} (h:¬(l.length=2/\¬dG l 0=dG l 1)) (h1:bO e=true):kiF B e l=(zTy,0):=by
 have:13<=e.Op:=by unfold bO at h1;simp at h1;omega
 unfold kiF
 by_cases h12:e.Op=1∨e.Op=12
 ·omega
 ·rw [if_neg h,if_neg h12,if_neg (by omega),if_neg (by omega),if_pos h1]
theorem zMn {B:List Bf} {e:Ex} {l:List Ty} (h:¬(l.length=2/\¬dG l 0=dG l 1)) (h1:¬(e.Op=1∨e.Op=12∨e.Op=2∨e.Op=3)) (h2:bO e=false):kiF B e l=(dG l 0,0):=by
 unfold kiF;rw [if_neg h,if_neg (by omega),if_neg (by omega),if_neg (by omega),if_neg (by rw [h2];simp)]
theorem zSw:∀{arg_:List Ex} {ts:List Ty} {a:Ex} {t:Ty},arg_.length=ts.length->gC (arg_++[a]) (ts++[t])=gC arg_ ts++(if bO a=true then [] else [t])
 |[],[],a,t,_=>by simp only [List.nil_append,gC]
 |x::r,y::s,a,t,h=>by
  simp only [List.cons_append,gC]
  rw [zSw (arg_:=r) (ts:=s) (by simpa using h)]
  split<;>rfl
 |[],_::_,_,_,h=>by simp at h
 |_::_,[],_,_,h=>by simp at h
theorem conds_ok {e:Ex} (h:fK e=0):fV e.Op 0 e.Args=true:=by
 have:=(node_all (zGv h)).2.2.2.1
 simp only [gU,Bool.and_eq_true] at this
 exact this.2
theorem ty_ki {B:List Bf} {e:Ex} {l:List Ty} (h:fK e=0) (hl:l.length=e.Args.length):tyF B e l=kiN B e l:=by
 have hr:=zQo h
 have hc:=conds_ok h
 obtain ⟨o1,o2⟩:=node_op (zGv h)
 have hle:l.length=(bK e.Op).toNat:=by omega
 unfold kiN
 generalize hA:e.Args=A at hr hc hl
 have hcond:bO e=true↔13<=e.Op:=by unfold bO;simp;omega
 unfold bK at hr
 by_cases c0:e.Op=1∨e.Op=2∨e.Op=3
 ·rw [if_pos c0] at hr
  match A,l,hr,hl with
  |[],[],_,_=>
   have hn:¬(([]:List Ty).length=2/\¬dG [] 0=dG [] 1):=by simp
   rcases c0 with c|c|c
   ·rw [zCk (.inl c)];exact (zOi hn (.inl c)).symm
   ·rw [zCp c];exact (zQf hn c).symm
   ·rw [zCj c];exact (zQe hn c).symm
  |_::_,_,hr,_=>simp at hr;omega
 rw [if_neg c0] at hr
 by_cases c1:e.Op=8∨e.Op=12∨e.Op=18
 ·rw [if_pos c1] at hr
  match A,l,hr,hl with
  |[a],[t],_,_=>
   simp only [fV,Bool.and_true,beq_iff_eq] at hc
   rcases c1 with c|c|c
   ·have ha:bO a=false:=by rw [hc];simp [fZ,c]
    rw [zCo c,gC,if_neg (by rw [ha];simp),gC,zMn (by simp) (by omega) (by cases hx:bO e;rfl;exact absurd (hcond.1 hx) (by omega))]
   ·have ha:bO a=false:=by rw [hc];simp [fZ,c]
    rw [zCk (.inr c),gC,if_neg (by rw [ha];simp),gC,zOi (by simp) (.inr c)]
   ·have ha:bO a=true:=by rw [hc];simp [fZ,c]
    rw [wZ (by omega),gC,if_pos ha,gC,zMo (by simp) (hcond.2 (by omega))]
  |[],_,hr,_=>simp at hr
  |_::_::_,_,hr,_=>simp at hr;omega
 rw [if_neg c1] at hr
 by_cases c11:e.Op=11
 ·rw [if_pos c11] at hr
  match A,l,hr,hl with
  |[a,b,c],[s,t,u],_,_=>
   simp only [fV,Bool.and_true,Bool.and_eq_true,beq_iff_eq] at hc
   have ha:bO a=true:=by rw [hc.1];simp [fZ,c11]
   have hb:bO b=false:=by rw [hc.2.1];simp [fZ,c11]
   have hd:bO c=false:=by rw [hc.2.2];simp [fZ,c11]
   have hec:bO e=false:=by cases hx:bO e;rfl;exact absurd (hcond.1 hx) (by omega)
   rw [gC,if_pos ha,gC,if_neg (by rw [hb];simp),gC,if_neg (by rw [hd];simp),gC]
   by_cases q:t=u
   ·subst q
    rw [zCi (by unfold gH;omega) rfl hec,zMn (by simp [dG]) (by omega) hec];rfl
   ·rw [zAa (e:=e) (l:=[s,t,u]) (by unfold gH;omega) q,zGz (l:=[t,u]) rfl q]
  |[],_,hr,_=>simp at hr
  |[_],_,hr,_=>simp at hr
  |[_,_],_,hr,_=>simp at hr
  |_::_::_::_::_,_,hr,_=>simp at hr;omega
 rw [if_neg c11] at hr
 match A,l,hr,hl with
 |[a,b],[t,u],_,_=>
  simp only [fV,Bool.and_true,Bool.and_eq_true,beq_iff_eq] at hc
  by_cases c16:e.Op=16∨e.Op=17
  ·have ha:bO a=true:=by rw [hc.1];rcases c16 with c|c<;>simp [fZ,c]
   have hb:bO b=true:=by rw [hc.2];rcases c16 with c|c<;>simp [fZ,c]
   rw [wZ (by omega),gC,if_pos ha,gC,if_pos hb,gC,zMo (by simp) (hcond.2 (by omega))]
  ·have w:∀i,fZ e.Op i=false:=fun i=>by unfold fZ;simp;omega
   have ha:bO a=false:=by rw [hc.1,w]
   have hb:bO b=false:=by rw [hc.2,w]
   rw [gC,if_neg (by rw [ha];simp),gC,if_neg (by rw [hb];simp),gC]
   by_cases q:t=u
   ·subst q
    by_cases ce:bO e=true
    ·rw [zCn (by unfold gH;omega) rfl ce,zMo (by simp [dG]) ce]
    ·have ce':bO e=false:=by simpa using ce
     rw [zCi (by unfold gH;omega) rfl ce',zMn (by simp [dG]) (by omega) ce'];rfl
   ·rw [zAa (e:=e) (l:=[t,u]) (by unfold gH;omega) q,zGz (l:=[t,u]) rfl q]
 |[],_,hr,_=>simp at hr
 |[_],_,hr,_=>simp at hr
 |_::_::_::_,_,hr,_=>simp at hr;omega
mutual
theorem nodeT_ki (B:List Bf):∀e:Ex,fK e=0->dO (tyF B) e=dO (kiN B) e
 |.mk o nm v t l i arg_,h=>by
  have h3:=nodeL_ki B arg_ fun a ha=>zSs h ha
  rw [dO,dO,←h3]
  by_cases c:(bM (tyF B) arg_).2=0
  ·rw [if_pos c,if_pos c]
   exact ty_ki h (zGw _ _ c)
  ·rw [if_neg c,if_neg c]
theorem nodeL_ki (B:List Bf):∀l:List Ex,(∀a,a∈l->fK a=0)->bM (tyF B) l=bM (kiN B) l
 |[],_=>rfl
 |a::r,h=>by
  rw [bM,bM,←nodeT_ki B a (h a (by simp)),←nodeL_ki B r fun x hx=>h x (by simp [hx])]
end
def dD (B:List Bf) (sc:List ByteArray) (e:Ex):Ty×Int:=
 if fX e=0 then (if dF B sc (dI e)=0 then dO (tyF B) e else (zTy,dF B sc (dI e))) else (zTy,fX e)
theorem exprT_1 {B:List Bf} {sc:List ByteArray} {e:Ex} (h:¬fX e=0):dD B sc e=(zTy,fX e):=by unfold dD;rw [if_neg h]
theorem exprT_2 {B:List Bf} {sc:List ByteArray} {e:Ex} (h:fX e=0) (h2:¬dF B sc (dI e)=0):dD B sc e=(zTy,dF B sc (dI e)):=by unfold dD;rw [if_pos h,if_neg h2]
theorem exprT_3 {B:List Bf} {sc:List ByteArray} {e:Ex} (h:fX e=0) (h2:dF B sc (dI e)=0):dD B sc e=dO (tyF B) e:=by unfold dD;rw [if_pos h,if_pos h2]
theorem exprT_k {B:List Bf} {sc:List ByteArray} {e:Ex} (h:fX e=0) (h2:dF B sc (dI e)=0):dD B sc e=dO (kiN B) e:=by rw [exprT_3 h h2];exact nodeT_ki B e (zNt h)
theorem exprT_rd {B:List Bf} {sc:List ByteArray} {s:St} (h:(dD B sc (rdE s)).2=0):(dD B sc (rdE s)).1=(fY B s.Name).T:=by
 by_cases h1:fX (rdE s)=0
 ·by_cases h2:dF B sc (dI (rdE s))=0
  ·rw [exprT_3 h1 h2,zQq]
   have:bM (tyF B) (rdE s).Args=([],0):=rfl
   rw [this,if_pos rfl,zCj rfl];rfl
  ·rw [exprT_2 h1 h2] at h;exact absurd h h2
 ·rw [exprT_1 h1] at h;exact absurd h h1
/-! ## Statements -/
def rN (e:Ex):Bool:=decide (e=zEx)
def jH (s:St):Bool:=decide (s.Op=2)||decide (s.Op=3)
def fR (s:St):Bool:=
 (decide (s.Op=1)||jH s||decide (s.Op=4))&& !(decide (s.Op=4)&& !decide (s.Name=bs []))&& !(!decide (s.Op=1)&&(!decide (s.Many=0)|| !decide (s.Mark=0)))&&
 !(!decide (s.Op=3)&& !decide (s.Fold=0))&& !(!jH s&&decide ((0:Int)<s.Idx.length))&& !(decide (s.Op=1)&& !rN s.E)&&(!jH s||decide ((s.Body.length:Int)=0))
theorem syn_1 {s:St} (c:((!decide (s.Op=1)&& !(decide (s.Op=2)||decide (s.Op=3)))&& !decide (s.Op=4))=true):false=fR s:=by
 unfold fR jH
 simp only [Bool.and_eq_true,Bool.not_eq_true',Bool.or_eq_false_iff] at c
 simp only [c.1.1,c.1.2.1,c.1.2.2,c.2,Bool.or_self,Bool.false_and]
theorem syn_2 {s:St} (c:(decide (s.Op=4)&& !decide (s.Name=bs []))=true):false=fR s:=by
 exact v27
theorem syn_3 {s:St} (c:(!decide (s.Op=1)&&(!decide (s.Many=0)|| !decide (s.Mark=0)))=true):false=fR s:=by
 exact v27
theorem syn_4 {s:St} (c:(!decide (s.Op=3)&& !decide (s.Fold=0))=true):false=fR s:=by
 exact v27
theorem syn_5 {s:St} (c:(!jH s&&decide ((0:Int)<s.Idx.length))=true):false=fR s:=by
 exact v27
theorem syn_6 {s:St} (c:(decide (s.Op=1)&& !rN s.E)=true):false=fR s:=by
 exact v27
theorem syn_7 {s:St} (c1:((!decide (s.Op=1)&& !jH s)&& !decide (s.Op=4))=false) (c2:(decide (s.Op=4)&& !decide (s.Name=bs []))=false) (c3:(!decide (s.Op=1)&&(!decide (s.Many=0)|| !decide (s.Mark=0)))=false) (c4:(!decide (s.Op=3)&& !decide (s.Fold=0))=false)
  (c5:(!jH s&&decide ((0:Int)<s.Idx.length))=false) (c6:(decide (s.Op=1)&& !rN s.E)=false):(!jH s||decide ((s.Body.length:Int)=0))=fR s:=by
 have h1:(decide (s.Op=1)||jH s||decide (s.Op=4))=true:=by
  revert c1;cases decide (s.Op=1)<;>cases jH s<;>cases decide (s.Op=4)<;>simp
 unfold fR
 simp only [h1,c2,c3,c4,c5,c6,Bool.not_false,Bool.true_and]
def mV (B:List Bf) (U:List ByteArray) (s:St):Int:=
 if bU s.Name=true then (if dZ B s.Name=true∨dW U s.Name=true then 8 else if s.Many<1∨65536<s.Many∨s.Mark<0∨3<s.Mark then 1 else 0) else 7
def ifE (B:List Bf) (sc:List ByteArray) (s:St):Int:=if (dD B sc s.E).2=0 then (if bO s.E=true then 0 else 10) else (dD B sc s.E).2
def gV (B:List Bf) (sc:List ByteArray) (s:St):Int:=
 if (dD B sc (rdE s)).2=0 then (if (fY B s.Name).Use=1∨(s.Op=3/\(s.Fold<1∨4<s.Fold)) then 1 else
  if (dD B sc s.E).2=0 then (if bO s.E=true∨¬(dD B sc s.E).1=(fY B s.Name).T then 10 else 0) else (dD B sc s.E).2) else (dD B sc (rdE s)).2
def stE (B:List Bf) (U sc:List ByteArray) (s:St):Int:=
 if fR s=true then (if s.Op=1 then mV B U s else if s.Op=4 then ifE B sc s else gV B sc s) else 5
structure Ck where
 U:List ByteArray
 W:List Int
 E:Int
def lK (U:List ByteArray) (s:St):List ByteArray:=if s.Op=1 then U++[s.Name] else U
mutual
def mH (B:List Bf):List ByteArray->List ByteArray->List Int->St->Ck
 |U,sc,here,.mk o nm mn mk fo i e b=>if stE B U sc (.mk o nm mn mk fo i e b)=0 then fF B (lK U (.mk o nm mn mk fo i e b)) (lK sc (.mk o nm mn mk fo i e b)) here 0 b else ⟨[],here,stE B U sc (.mk o nm mn mk fo i e b)⟩
def fF (B:List Bf):List ByteArray->List ByteArray->List Int->Int->List St->Ck
 |U,_,_,_,[]=>⟨U,[],0⟩
 |U,sc,way,i,s::r=>if (mH B U sc (way++[i]) s).E=0 then fF B (mH B U sc (way++[i]) s).U sc way (i+1) r else mH B U sc (way++[i]) s
end
theorem chkS_eq (B:List Bf) (U sc:List ByteArray) (here:List Int) (s:St):mH B U sc here s=if stE B U sc s=0 then fF B (lK U s) (lK sc s) here 0 s.Body else ⟨[],here,stE B U sc s⟩:=by cases s;rw [mH];rfl
theorem chkS_no {B:List Bf} {U sc:List ByteArray} {here:List Int} {s:St} (h:¬stE B U sc s=0):mH B U sc here s=⟨[],here,stE B U sc s⟩:=by rw [chkS_eq,if_neg h]
theorem chkS_in {B:List Bf} {U sc:List ByteArray} {here:List Int} {s:St} (h:stE B U sc s=0):mH B U sc here s=fF B (lK U s) (lK sc s) here 0 s.Body:=by rw [chkS_eq,if_pos h]
theorem zNl {B:List Bf} {R:Ck} {U sc:List ByteArray} {way:List Int} {l:List St} {k:Nat} {s:St} (h:l[k]? =some s) (hp:R=fF B U sc way k (l.drop k)) (hx:(mH B U sc (way++[(k:Int)]) s).E=0):R=fF B (mH B U sc (way++[(k:Int)]) s).U sc way ((k+1:Nat):Int) (l.drop (k+1)):=by
 rw [hp,yA h,fF,if_pos hx];rfl
theorem zEs {B:List Bf} {R:Ck} {U sc:List ByteArray} {way:List Int} {l:List St} {k:Nat} {s:St} (h:l[k]? =some s) (hp:R=fF B U sc way k (l.drop k)) (hx:¬(mH B U sc (way++[(k:Int)]) s).E=0):R=mH B U sc (way++[(k:Int)]) s:=by
 rw [hp,yA h,fF,if_neg hx]
theorem zRg {B:List Bf} {R:Ck} {U sc:List ByteArray} {way:List Int} {l:List St} {k:Nat} (hp:R=fF B U sc way k (l.drop k)) (h:¬k<l.length):R=⟨U,[],0⟩:=by
 rw [hp,wE h,fF]
theorem chkL_ok:∀{B:List Bf} {l:List St} {U sc:List ByteArray} {way:List Int} {i:Int},(fF B U sc way i l).E=0->(fF B U sc way i l).W=[]
 |B,[],U,sc,way,i,_=>by rw [fF]
 |B,s::r,U,sc,way,i,h=>by
  rw [fF] at h⊢
  by_cases c:(mH B U sc (way++[i]) s).E=0
  ·rw [if_pos c] at h⊢;exact chkL_ok h
  ·rw [if_neg c] at h;exact absurd h c
mutual
theorem chkS_len (B:List Bf):∀(s:St) (U sc:List ByteArray) (here:List Int),(mH B U sc here s).U.length<=U.length+stN s
 |.mk o nm mn mk fo i e b,U,sc,here=>by
  rw [mH,stN]
  split
  ·have h1:=chkL_len B b (lK U (.mk o nm mn mk fo i e b)) (lK sc (.mk o nm mn mk fo i e b)) here 0
   have h2:(lK U (.mk o nm mn mk fo i e b)).length<=U.length+1:=by unfold lK;split<;>simp
   omega
  ·simp
theorem chkL_len (B:List Bf):∀(l:List St) (U sc:List ByteArray) (way:List Int) (i:Int),(fF B U sc way i l).U.length<=U.length+dL l
 |[],U,sc,way,i=>by rw [fF];simp
 |s::r,U,sc,way,i=>by
  rw [fF,dL]
  have h1:=chkS_len B s U sc (way++[i])
  split
  ·have h2:=chkL_len B r (mH B U sc (way++[i]) s).U sc way (i+1)
   omega
  ·omega
end
theorem zMj {U:List ByteArray} {s:St} (h:s.Op=1):lK U s=U++[s.Name]:=by unfold lK;rw [if_pos h]
theorem zQr {U:List ByteArray} {s:St} (h:¬s.Op=1):lK U s=U:=by unfold lK;rw [if_neg h]
theorem scAll_next {S:List ByteArray} {f:Lf} {l:List Ix} {k:Nat} {x:Ix} (h:l[k]? =some x):((lH S f&&(l.take k).all (vV S))&&lH S x.Lin&&x.At.all (lH S))=(lH S f&&(l.take (k+1)).all (vV S)):=by
 rw [kK h,List.all_append]
 simp only [List.all_cons,List.all_nil,Bool.and_true,vV,Bool.and_assoc]
theorem st10_t {c:Bool} {a b:Ty} (h:(c|| !bF [cI a.Kind,cI a.Bits,cI a.Frac,cI a.Round,cI a.Over] [cI b.Kind,cI b.Bits,cI b.Frac,cI b.Round,cI b.Over])=true):c=true∨¬a=b:=by
 rw [zRt,Bool.or_eq_true] at h
 rcases h with h|h
 ·exact .inl h
 ·exact .inr (by simpa using h)
theorem st10_f {c:Bool} {a b:Ty} (h:(c|| !bF [cI a.Kind,cI a.Bits,cI a.Frac,cI a.Round,cI a.Over] [cI b.Kind,cI b.Bits,cI b.Frac,cI b.Round,cI b.Over])=false):¬(c=true∨¬a=b):=by
 rw [zRt,Bool.or_eq_false_iff] at h
 rw [h.1]
 rintro (k|k)
 ·cases k
 ·exact k (by simpa using h.2)
theorem storeE_1 {B:List Bf} {sc:List ByteArray} {s:St} (h:¬(dD B sc (rdE s)).2=0):gV B sc s=(dD B sc (rdE s)).2:=by unfold gV;rw [if_neg h]
theorem storeE_u {B:List Bf} {sc:List ByteArray} {s:St} (h:(dD B sc (rdE s)).2=0) (h2:(fY B s.Name).Use=1∨(s.Op=3/\(s.Fold<1∨4<s.Fold))):gV B sc s=1:=by unfold gV;rw [if_pos h,if_pos h2]
theorem storeE_2 {B:List Bf} {sc:List ByteArray} {s:St} (h:(dD B sc (rdE s)).2=0) (h2:¬((fY B s.Name).Use=1∨(s.Op=3/\(s.Fold<1∨4<s.Fold)))) (h3:¬(dD B sc s.E).2=0):gV B sc s=(dD B sc s.E).2:=by unfold gV;rw [if_pos h,if_neg h2,if_neg h3]
theorem storeE_10 {B:List Bf} {sc:List ByteArray} {s:St} (h:(dD B sc (rdE s)).2=0) (h2:¬((fY B s.Name).Use=1∨(s.Op=3/\(s.Fold<1∨4<s.Fold)))) (h3:(dD B sc s.E).2=0) (h4:bO s.E=true∨¬(dD B sc s.E).1=(fY B s.Name).T):gV B sc s=10:=by unfold gV;rw [if_pos h,if_neg h2,if_pos h3,if_pos h4]
theorem storeE_0 {B:List Bf} {sc:List ByteArray} {s:St} (h:(dD B sc (rdE s)).2=0) (h2:¬((fY B s.Name).Use=1∨(s.Op=3/\(s.Fold<1∨4<s.Fold)))) (h3:(dD B sc s.E).2=0) (h4:¬(bO s.E=true∨¬(dD B sc s.E).1=(fY B s.Name).T)):gV B sc s=0:=by unfold gV;rw [if_pos h,if_neg h2,if_pos h3,if_neg h4]
theorem loopE_7 {B:List Bf} {U:List ByteArray} {s:St} (h:bU s.Name=false):mV B U s=7:=by unfold mV;rw [if_neg (by rw [h];simp)]
theorem loopE_8 {B:List Bf} {U:List ByteArray} {s:St} (h:bU s.Name=true) (h2:dZ B s.Name=true∨dW U s.Name=true):mV B U s=8:=by unfold mV;rw [if_pos h,if_pos h2]
theorem loopE_1 {B:List Bf} {U:List ByteArray} {s:St} (h:bU s.Name=true) (h2:¬(dZ B s.Name=true∨dW U s.Name=true)) (h3:s.Many<1∨65536<s.Many∨s.Mark<0∨3<s.Mark):mV B U s=1:=by unfold mV;rw [if_pos h,if_neg h2,if_pos h3]
theorem loopE_0 {B:List Bf} {U:List ByteArray} {s:St} (h:bU s.Name=true) (h2:¬(dZ B s.Name=true∨dW U s.Name=true)) (h3:¬(s.Many<1∨65536<s.Many∨s.Mark<0∨3<s.Mark)):mV B U s=0:=by unfold mV;rw [if_pos h,if_neg h2,if_neg h3]
theorem ifE_x {B:List Bf} {sc:List ByteArray} {s:St} (h:¬(dD B sc s.E).2=0):ifE B sc s=(dD B sc s.E).2:=by unfold ifE;rw [if_neg h]
theorem ifE_10 {B:List Bf} {sc:List ByteArray} {s:St} (h:(dD B sc s.E).2=0) (h2:bO s.E=false):ifE B sc s=10:=by unfold ifE;rw [if_pos h,if_neg (by rw [h2];simp)]
theorem ifE_0 {B:List Bf} {sc:List ByteArray} {s:St} (h:(dD B sc s.E).2=0) (h2:bO s.E=true):ifE B sc s=0:=by unfold ifE;rw [if_pos h,if_pos h2]
theorem stE_5 {B:List Bf} {U sc:List ByteArray} {s:St} (h:fR s=false):stE B U sc s=5:=by unfold stE;rw [if_neg (by rw [h];simp)]
theorem stE_l {B:List Bf} {U sc:List ByteArray} {s:St} (h:fR s=true) (h2:s.Op=1):stE B U sc s=mV B U s:=by unfold stE;rw [if_pos h,if_pos h2]
theorem stE_i {B:List Bf} {U sc:List ByteArray} {s:St} (h:fR s=true) (h2:s.Op=4):stE B U sc s=ifE B sc s:=by unfold stE;rw [if_pos h,if_neg (by omega),if_pos h2]
theorem stE_s {B:List Bf} {U sc:List ByteArray} {s:St} (h:fR s=true) (h2:¬s.Op=1) (h3:¬s.Op=4):stE B U sc s=gV B sc s:=by unfold stE;rw [if_pos h,if_neg h2,if_neg h3]
def fL (n:Ns):List Int×Int:=
 if dE 40 n.Body=true then (if 2000<jP n.Body 2000∨128<n.Bufs.length then ([],2) else if bY [] n.Bufs=0 then ((fF n.Bufs [] [] [] 0 n.Body).W,(fF n.Bufs [] [] [] 0 n.Body).E) else ([],bY [] n.Bufs)) else ([],13)
theorem validN_13 {n:Ns} (h:dE 40 n.Body=false):fL n=([],13):=by unfold fL;rw [if_neg (by rw [h];simp)]
theorem validN_2 {n:Ns} (h:dE 40 n.Body=true) (h2:2000<jP n.Body 2000∨128<n.Bufs.length):fL n=([],2):=by unfold fL;rw [if_pos h,if_pos h2]
theorem validN_b {n:Ns} (h:dE 40 n.Body=true) (h2:¬(2000<jP n.Body 2000∨128<n.Bufs.length)) (h3:¬bY [] n.Bufs=0):fL n=([],bY [] n.Bufs):=by unfold fL;rw [if_pos h,if_neg h2,if_neg h3]
theorem validN_c {n:Ns} (h:dE 40 n.Body=true) (h2:¬(2000<jP n.Body 2000∨128<n.Bufs.length)) (h3:bY [] n.Bufs=0):fL n=((fF n.Bufs [] [] [] 0 n.Body).W,(fF n.Bufs [] [] [] 0 n.Body).E):=by unfold fL;rw [if_pos h,if_neg h2,if_pos h3]
structure Ns.Ok (n:Ns):Prop where
 bufs:n.Bufs.length<=4294967296
 dims:∀b,b∈n.Bufs->b.Dims.length<=17592186044416
 body:bX n.Body<=536870912
end Go.Br
end
section
namespace Go.Br
open Go Go.Eng Go.L41
def nZ (i:List Ix):Ex:=.mk 0 (bs []) ⟨0,0⟩ ⟨0,0,0,0,0⟩ ⟨0,[]⟩ i []
theorem idxE_wt (i:List Ix):(nZ i).wt=1+i.length+gB i:=by
 rw [Ex.wt_eq];simp only [nZ,Ex.Lin,Ex.Idx,Ex.Args,gD,List.length_nil];omega
mutual
def lN:St->Nat->Nat
 |.mk _ _ _ _ _ _ _ b,m=>dV b m b.length
def dV:List St->Nat->Nat->Nat
 |[],_,n=>n
 |s::r,m,n=>if n<=m then dV r m (n+fE s.E m+fE (nZ s.Idx) m+lN s (m-n)) else n
end
def gK (l:List St) (m:Nat):Nat:=dV l m l.length
theorem weighS_eq (s:St) (m:Nat):lN s m=gK s.Body m:=by cases s;rw [lN];rfl
theorem weighSs_ge:∀(l:List St) (m n:Nat),n<=dV l m n
 |[],m,n=>by rw [dV];omega
 |s::r,m,n=>by
  rw [dV];split
  ·have:=weighSs_ge r m (n+fE s.E m+fE (nZ s.Idx) m+lN s (m-n));omega
  ·omega
mutual
theorem weighS_wt:∀(s:St) (m:Nat),lN s m<=m->bX s.Body<=lN s m
 |.mk _ _ _ _ _ _ _ b,m,h=>by
  rw [lN] at h⊢
  have:=zNq b m _ h
  have:=zBy b
  simp only [St.Body];omega
theorem zNq:∀(l:List St) (m n:Nat),dV l m n<=m->n+(bX l-l.length)<=dV l m n
 |[],m,n,h=>by simp [dV,bX]
 |s::r,m,n,h=>by
  by_cases hn:n<=m
  ·rw [dV,if_pos hn] at h⊢
   have h1:=weighSs_ge r m (n+fE s.E m+fE (nZ s.Idx) m+lN s (m-n))
   have h2:=zNq r m _ h
   have h3:=zRm s.E m (by omega)
   have h4:=zRm (nZ s.Idx) m (by omega)
   have h5:=weighS_wt s (m-n) (by omega)
   have h6:=zBy r
   rw [idxE_wt] at h4
   rw [bX,List.length_cons,St.wt_eq];omega
  ·rw [dV,if_neg hn] at h;omega
end
theorem zRn {l:List St} {m:Nat} (h:gK l m<=m):bX l<=gK l m:=by
 unfold gK at *
 have:=zNq l m _ h
 have:=zBy l
 omega
mutual
def St.fit:St->Prop
 |.mk _ _ _ _ _ i e b=>i.length<=140737488355328/\(∀x,x∈i->x.fit)/\e.fit/\b.length<=140737488355328/\nD b
def nD:List St->Prop
 |[]=>True
 |s::r=>s.fit/\nD r
end
theorem zQz {l:List St} (h:nD l):∀a,a∈l->a.fit:=by
 induction l with
 |nil=>intro a ha;cases ha
 |cons x r ih=>
  intro a ha
  rw [nD] at h
  rcases List.mem_cons.1 ha with rfl|ha
  ·exact h.1
  ·exact ih h.2 a ha
theorem fitS_of {l:List St} (h:∀a,a∈l->a.fit):nD l:=by
 induction l with
 |nil=>rw [nD];trivial
 |cons x r ih=>rw [nD];exact ⟨h x (by simp),ih fun a ha=>h a (by simp [ha])⟩
theorem St.fit_eq {s:St} (h:s.fit):s.Idx.length<=140737488355328/\(∀x,x∈s.Idx->x.fit)/\s.E.fit/\s.Body.length<=140737488355328/\nD s.Body:=by
 cases s with
 |mk o n m k f i e b=>rw [St.fit] at h;exact h
theorem idxE_fit {i:List Ix} (h1:i.length<=140737488355328) (h2:∀x,x∈i->x.fit):(nZ i).fit:=by
 unfold nZ;rw [Ex.fit];exact ⟨by simp,h1,by simp,h2,trivial⟩
abbrev wB (m:Nat):Nat:=140737488355328+m*1125899906857624
mutual
theorem weighS_le:∀(s:St) (m:Nat),s.fit->m<=5000->lN s m<=wB m
 |.mk o nm k f mn i e b,m,h,hm=>by
  rw [St.fit] at h
  obtain ⟨_,_,_,h1,h2⟩:=h
  rw [lN]
  exact weighSs_le b m _ h2 hm (fun hb=>by cases b;exact absurd rfl hb;simp) (by unfold wB;omega)
theorem weighSs_le:∀(l:List St) (m n:Nat),nD l->m<=5000->(l≠[]->1<=n)->n<=wB m->dV l m n<=wB m
 |[],m,n,_,_,_,h=>by rw [dV];exact h
 |s::r,m,n,hf,hm,h1,h=>by
  rw [nD] at hf
  rw [dV]
  have h1:=h1 (by simp)
  obtain ⟨f1,f2,f3,_,_⟩:=St.fit_eq hf.1
  split
  ·rename_i hn
   have h3:=weighS_le s (m-n) hf.1 (by omega)
   have h4:=zGp s.E m f3
   have h5:=zGp (nZ s.Idx) m (idxE_fit f1 f2)
   refine weighSs_le r m _ hf.2 hm (fun _=>by omega) ?_
   unfold wB at *
   omega
  ·exact h
end
theorem weighSs_end {m n k:Nat} {l:List St} {N:Nat} {x:Int} (hp:N=dV (l.drop k) m n) (hx:x=m) (h:l.length<=k∨x<n):n=N:=by
 rw [hp]
 by_cases hk:k<l.length
 ·obtain ⟨a,ha⟩:=yC l k hk
  rw [yA ha,dV,if_neg (by omega)]
 ·rw [wE hk,dV]
theorem weighSs_next {m n k:Nat} {l:List St} {N:Nat} {s:St} (hs:l[k]? =some s) (hp:N=dV (l.drop k) m n) (h:n<=m):N=dV (l.drop (k+1)) m (n+fE s.E m+fE (nZ s.Idx) m+gK s.Body (m-n)):=by
 rw [hp,yA hs,dV,if_pos h,weighS_eq]
theorem weigh_lt {m n:Nat} {l:List St} {k:Nat} {s:St} (hs:l[k]? =some s) (hf:nD l) (hm:m<=5000) (hn:n<=m) (h1:1<=n):n+fE s.E m+fE (nZ s.Idx) m+gK s.Body (m-n)<=wB m:=by
 have hs':=zQz hf s (qL hs)
 obtain ⟨f1,f2,f3,f4,f5⟩:=St.fit_eq hs'
 have h3:=weighS_le s (m-n) hs' (by omega)
 rw [weighS_eq] at h3
 have h4:=zGp s.E m f3
 have h5:=zGp (nZ s.Idx) m (idxE_fit f1 f2)
 unfold wB at *
 omega
/-! ## What the laws of layers 30,36 and 41 take for small -/
mutual
def gW:List St->Bool
 |[]=>true
 |s::r=>nH s&&gW r
def nH:St->Bool
 |.mk o n m k f i e b=>decide (n.size<=100)&&decide (i.length<=20)&&gW b
end
theorem shortT_eq (s:St):nH s=(decide (s.Name.size<=100)&&decide (s.Idx.length<=20)&&gW s.Body):=by cases s;rw [nH];rfl
theorem zSg:∀l:List St,gW l=l.all nH
 |[]=>by rw [gW];rfl
 |s::r=>by rw [gW,zSg r];rfl
def vY (l:List St) (m:Nat):Bool:=decide (gK l m<=m)&&gW l
def pA (b:Bf):Bool:=decide (b.Dims.length<=20)&&decide (b.Name.size<=100)
def rM (n:Ns) (m:Nat):Bool:=decide (n.Bufs.length<=150)&&n.Bufs.all pA&&vY n.Body m
structure Ns.Fit (n:Ns):Prop where
 bufs:n.Bufs.length<=140737488355328
 dims:∀b,b∈n.Bufs->b.Dims.length<=17592186044416
 len:n.Body.length<=140737488355328
 body:nD n.Body
theorem Ns.Fit.ok {n:Ns} (h:n.Fit) {m:Nat} (hm:m<=5000) (hb:n.Bufs.length<=150) (hw:gK n.Body m<=m):n.Ok:=
 ⟨by omega,h.dims,by have:=zRn hw;omega⟩
end Go.Br
end
section
namespace Go.Br
open Go Go.Eng Go.L41
/-! ## For the reference's check -/
structure Bd where
 Name:ByteArray
 Val:Int
 deriving DecidableEq
def Bd.cells (x:Bd):List C:=[cS x.Name,cI x.Val]
theorem any_hasB (bd:List Bd) (s:ByteArray):(bd.any fun d=>decide (d.Name=s))=dW (bd.map Bd.Name) s:=by
 unfold dW;rw [List.any_map];rfl
theorem any_step {bd:List Bd} {i:Nat} {d:Bd} {s:ByteArray} (h:bd[i]? =some d):(((bd.take i).any fun d=>decide (d.Name=s))||decide (d.Name=s))=(bd.take (i+1)).any fun d=>decide (d.Name=s):=by
 rw [kK h,List.any_append];simp
theorem bound_no {l:List Lf} {sc:List ByteArray} {k j:Nat} {x:Lf} {m:Mono} (h:l[k]? =some x) (hm:x.L[j]? =some m) (c:dW sc m.Name=false):l.all (lH sc)=false:=by
 have:lH sc x=false:=zIo hm (p:=fun y:Mono=>dW sc y.Name) c
 exact zIo h this
theorem ixs_len (l:List Ix) (k:Nat):((l.take k).flatMap ixF).length<=l.length+gB l:=by
 have h1:∀l:List Ix,(l.flatMap ixF).length<=l.length+gB l:=by
  intro l
  induction l with
  |nil=>simp
  |cons x r ih=>
   rw [List.flatMap_cons,List.length_append,gB,Ix.wt,List.length_cons]
   simp only [ixF,List.length_cons];omega
 have h2:=h1 (l.take k)
 have h3:gB (l.take k)<=gB l:=by
  have:∀(l:List Ix) (k:Nat),gB (l.take k)<=gB l:=by
   intro l
   induction l with
   |nil=>intro k;simp [gB]
   |cons x r ih=>intro k;cases k with
    |zero=>simp [gB]
    |succ k=>rw [List.take_succ_cons,gB,gB];have:=ih k;omega
  exact this l k
 have h4:=List.length_take_le' k l
 omega
theorem node_sc (sc:List ByteArray) (e:Ex):([e.Lin].all (lH sc)&&(e.Idx.flatMap ixF).all (lH sc))=jY sc e:=by
 unfold jY
 congr 1
 ·simp
 ·rw [List.all_flatMap];rfl
theorem node_sc_f {sc:List ByteArray} {e:Ex} (c:(![e.Lin].all (lH sc)|| !(e.Idx.flatMap ixF).all (lH sc))=true):jY sc e=false:=by
 rw [←Bool.not_and,node_sc] at c;simpa using c
theorem node_sc_t {sc:List ByteArray} {e:Ex} (c:(![e.Lin].all (lH sc)|| !(e.Idx.flatMap ixF).all (lH sc))=false):jY sc e=true:=by
 rw [←Bool.not_and,node_sc] at c;simpa using c
theorem nonC_len:∀(arg_:List Ex) (ts:List Ty),(gC arg_ ts).length<=arg_.length
 |[],_=>by simp [gC]
 |_::_,[]=>by simp [gC]
 |a::r,t::ts=>by
  have:=nonC_len r ts
  rw [gC];split<;>simp<;>omega
theorem ki10_t {l:List Ty} (c:(decide (((l.map tyC).length:Int)=2)&& !bF [cI (dG l 0).Kind,cI (dG l 0).Bits,cI (dG l 0).Frac,cI (dG l 0).Round,cI (dG l 0).Over] [cI (dG l 1).Kind,cI (dG l 1).Bits,cI (dG l 1).Frac,cI (dG l 1).Round,cI (dG l 1).Over])=true):l.length=2/\¬dG l 0=dG l 1:=by
 rw [Bool.and_eq_true,decide_eq_true_eq,List.length_map] at c
 exact ⟨by omega,zHj c.2⟩
theorem ki10_f {l:List Ty} (c:(decide (((l.map tyC).length:Int)=2)&& !bF [cI (dG l 0).Kind,cI (dG l 0).Bits,cI (dG l 0).Frac,cI (dG l 0).Round,cI (dG l 0).Over] [cI (dG l 1).Kind,cI (dG l 1).Bits,cI (dG l 1).Frac,cI (dG l 1).Round,cI (dG l 1).Over])=false):¬(l.length=2/\¬dG l 0=dG l 1):=by
 rintro ⟨h1,h2⟩
 rw [Bool.and_eq_false_iff,decide_eq_false_iff_not,List.length_map] at c
 rcases c with c|c
 ·omega
 ·exact h2 (zHk c)
theorem ki_one {e:Ex} {l:List Ty} (h:fK e=0) (hl:l.length=e.Args.length) (h1:¬(e.Op=1∨e.Op=12∨e.Op=2∨e.Op=3)) (h2:bO e=false):1<=(gC e.Args l).length:=by
 have hr:=zQo h
 have hc:=conds_ok h
 obtain ⟨o1,o2⟩:=node_op (zGv h)
 have h13:e.Op<13:=by
  unfold bO at h2
  simp only [Bool.and_eq_false_iff,decide_eq_false_iff_not] at h2
  omega
 generalize e.Args=A at hr hc hl
 have w:∀i,(e.Op=11->i≠0)->fZ e.Op i=false:=fun i hi=>by
  unfold fZ;simp only [Bool.or_eq_false_iff,Bool.and_eq_false_iff,decide_eq_false_iff_not]
  by_cases h11:e.Op=11
  ·have:=hi h11;omega
  ·omega
 unfold bK at hr
 match A,l,hl with
 |[],_,_=>
  exfalso
  simp only [List.length_nil] at hr
  split at hr
  ·omega
  ·split at hr
   ·simp at hr
   ·split at hr<;>simp at hr
 |[a],[t],_=>
  simp only [fV,Bool.and_true,beq_iff_eq] at hc
  have h11:e.Op≠11:=by rintro h11;rw [h11] at hr;simp at hr
  rw [w 0 (fun h=>absurd h h11)] at hc
  rw [gC,if_neg (by rw [hc];simp)];simp
 |a::b::r,t::u::s,_=>
  simp only [fV,Bool.and_eq_true,beq_iff_eq] at hc
  have hb:=hc.2.1
  rw [w (0+1) (fun _=>by omega)] at hb
  rw [gC]
  split
  ·rw [gC,if_neg (by rw [hb];simp)];simp
  ·simp
 |[_],[],hl=>simp at hl
 |[_],_::_::_,hl=>simp at hl
 |_::_::_,[],hl=>simp at hl
 |_::_::_,[_],hl=>simp at hl
theorem map_bd {bd:List Bd} {s:St}:(bd++[(⟨s.Name,s.Many⟩:Bd)]).map Bd.Name=bd.map Bd.Name++[s.Name]:=by simp
theorem pln_1 {s:St} (c:((!decide (s.Op=1)&& !decide (s.Op=4))&& !jH s)=true):false=fR s:=by
 unfold fR
 simp only [Bool.and_eq_true,Bool.not_eq_true'] at c
 simp only [c.1.1,c.1.2,c.2,Bool.or_self,Bool.false_and]
theorem pln_2 {s:St} (c:(((!decide (s.Op=1)&&(!decide (s.Many=0)|| !decide (s.Mark=0)))||(!decide (s.Op=3)&& !decide (s.Fold=0)))||(decide (s.Op=4)&& !decide (s.Name=bs [])))=true):false=fR s:=by
 rw [Bool.or_eq_true,Bool.or_eq_true] at c
 rcases c with (c|c)|c
 ·exact syn_3 c
 ·exact syn_4 c
 ·exact syn_2 c
theorem pln_3 {s:St} (c:((!jH s&&decide ((0:Int)<s.Idx.length))||(jH s&&decide ((0:Int)<s.Body.length)))=true):false=fR s:=by
 rw [Bool.or_eq_true] at c
 rcases c with c|c
 ·exact syn_5 c
 ·unfold fR
  rw [Bool.and_eq_true,decide_eq_true_eq] at c
  have:decide ((s.Body.length:Int)=0)=false:=decide_eq_false (by omega)
  simp only [c.1,this,Bool.not_true,Bool.or_self,Bool.and_false]
theorem pln_4 {s:St} (c1:((!decide (s.Op=1)&& !decide (s.Op=4))&& !jH s)=false) (c2:(((!decide (s.Op=1)&&(!decide (s.Many=0)|| !decide (s.Mark=0)))||(!decide (s.Op=3)&& !decide (s.Fold=0)))||(decide (s.Op=4)&& !decide (s.Name=bs [])))=false)
  (c3:((!jH s&&decide ((0:Int)<s.Idx.length))||(jH s&&decide ((0:Int)<s.Body.length)))=false):(!decide (s.Op=1)||decide (s.E=zEx))=fR s:=by
 rw [Bool.or_eq_false_iff,Bool.or_eq_false_iff] at c2
 rw [Bool.or_eq_false_iff] at c3
 have h1:(decide (s.Op=1)||jH s||decide (s.Op=4))=true:=by
  revert c1;cases decide (s.Op=1)<;>cases jH s<;>cases decide (s.Op=4)<;>simp
 have h7:(!jH s||decide ((s.Body.length:Int)=0))=true:=by
  have h:=c3.2
  rw [Bool.and_eq_false_iff,decide_eq_false_iff_not] at h
  rcases h with h|h
  ·rw [h];rfl
  ·rw [show decide ((s.Body.length:Int)=0)=true from decide_eq_true (by omega),Bool.or_true]
 unfold fR rN
 simp only [h1,c2.1.1,c2.1.2,c2.2,c3.1,h7,Bool.not_false,Bool.true_and,Bool.and_true,Bool.not_and,Bool.not_not]
theorem st3_t {n:Int} {c:Bool} {a b:Ty} (h:(decide (n=0)&&(c|| !bF [cI a.Kind,cI a.Bits,cI a.Frac,cI a.Round,cI a.Over] [cI b.Kind,cI b.Bits,cI b.Frac,cI b.Round,cI b.Over]))=true):n=0/\(c=true∨¬a=b):=by
 rw [Bool.and_eq_true,decide_eq_true_eq] at h
 exact ⟨h.1,st10_t h.2⟩
theorem st3_f {n:Int} {c:Bool} {a b:Ty} (h:(decide (n=0)&&(c|| !bF [cI a.Kind,cI a.Bits,cI a.Frac,cI a.Round,cI a.Over] [cI b.Kind,cI b.Bits,cI b.Frac,cI b.Round,cI b.Over]))=false):n=0->¬(c=true∨¬a=b):=by
 intro h0
 rw [decide_eq_true h0,Bool.true_and] at h
 exact st10_f h
theorem st_fin {B:List Bf} {sc:List ByteArray} {s:St} (h:(dD B sc (rdE s)).2=0) (h2:¬((fY B s.Name).Use=1∨(s.Op=3/\(s.Fold<1∨4<s.Fold)))) (h3:(dD B sc s.E).2=0->¬(bO s.E=true∨¬(dD B sc s.E).1=(fY B s.Name).T)):gV B sc s=(dD B sc s.E).2:=by
 by_cases h4:(dD B sc s.E).2=0
 ·rw [storeE_0 h h2 h4 (h3 h4),h4]
 ·exact storeE_2 h h2 h4
theorem if_t {B:List Bf} {sc:List ByteArray} {s:St} (c:(decide ((dD B sc s.E).2=0)&& !bO s.E)=true):ifE B sc s=10:=by
 rw [Bool.and_eq_true,decide_eq_true_eq] at c
 exact ifE_10 c.1 (by simpa using c.2)
theorem if_fin {B:List Bf} {sc:List ByteArray} {s:St} (c:(decide ((dD B sc s.E).2=0)&& !bO s.E)=false):ifE B sc s=(dD B sc s.E).2:=by
 by_cases h:(dD B sc s.E).2=0
 ·rw [decide_eq_true h,Bool.true_and] at c
  rw [ifE_0 h (by simpa using c),h]
 ·exact ifE_x h
theorem within_f {l:List St} (c:40<lG 41 l):dE 40 l=false:=by
 cases h:dE 40 l with
 |false=>rfl
 |true=>have h2:lG 41 l<=40:=(zIa 40 l).2 h;omega
theorem within_t {l:List St} (c:lG 41 l<=40):dE 40 l=true:=(zIa 40 l).1 c
end Go.Br
end
section
namespace Go.L41
open Go Go.Eng
structure Lifetime where
 Name:ByteArray
 From:Int
 To:Int
 Size:Int
def Lifetime.cells (x:Lifetime):List C:=[cS x.Name,cI x.From,cI x.To,cI x.Size]
abbrev vL (x:Lifetime):V:=.agg x.cells
end Go.L41
end
section
namespace Go.Br
open Go Go.Eng Go.L41
structure Sp where
 From:Int
 To:Int
theorem valid_bufs {n:Ns} (h:(fL n).2=0):bY [] n.Bufs=0/\n.Bufs.length<=128/\dE 40 n.Body=true/\jP n.Body 2000<=2000/\(fF n.Bufs [] [] [] 0 n.Body).E=0:=by
 unfold fL at h
 by_cases h1:dE 40 n.Body=true
 ·rw [if_pos h1] at h
  by_cases h2:2000<jP n.Body 2000∨128<n.Bufs.length
  ·rw [if_pos h2] at h;cases h
  ·rw [if_neg h2] at h
   by_cases h3:bY [] n.Bufs=0
   ·rw [if_pos h3] at h;exact ⟨h3,by omega,h1,by omega,h⟩
   ·rw [if_neg h3] at h;exact absurd h h3
 ·rw [if_neg h1] at h;cases h
end Go.Br
end
section
namespace Go.Br
open Go Go.Eng Go.L41
/-! ## Statements in preorder,with their paths -/
end Go.Br
end
section
namespace Go.Br
open Go Go.Eng Go.L41
end Go.Br
end
section
namespace Go.Br
open Go Go.Eng Go.L41
/-! ## Sets of names -/
theorem short_t {s:St} (c:((decide ((100:Int)<s.Name.size)||decide ((20:Int)<s.Idx.length))|| !gW s.Body)=true):nH s=false:=by
 rw [shortT_eq]
 rw [Bool.or_eq_true,Bool.or_eq_true,decide_eq_true_eq,decide_eq_true_eq] at c
 rcases c with (c|c)|c
 ·rw [decide_eq_false (show ¬s.Name.size<=100 by omega)];rfl
 ·rw [decide_eq_false (show ¬s.Idx.length<=20 by omega),Bool.and_false];rfl
 ·have:gW s.Body=false:=by simpa using c
  rw [this,Bool.and_false]
theorem short_f {s:St} (c:((decide ((100:Int)<s.Name.size)||decide ((20:Int)<s.Idx.length))|| !gW s.Body)=false):nH s=true:=by
 rw [shortT_eq]
 rw [Bool.or_eq_false_iff,Bool.or_eq_false_iff,decide_eq_false_iff_not,decide_eq_false_iff_not] at c
 rw [decide_eq_true (show s.Name.size<=100 by omega),decide_eq_true (show s.Idx.length<=20 by omega)]
 simpa using c.2
theorem fewB_t {b:Bf} (c:(decide ((20:Int)<b.Dims.length)||decide ((100:Int)<b.Name.size))=true):pA b=false:=by
 unfold pA
 rw [Bool.or_eq_true,decide_eq_true_eq,decide_eq_true_eq] at c
 rcases c with c|c
 ·rw [decide_eq_false (show ¬b.Dims.length<=20 by omega)];rfl
 ·rw [decide_eq_false (show ¬b.Name.size<=100 by omega),Bool.and_false]
theorem fewB_f {b:Bf} (c:(decide ((20:Int)<b.Dims.length)||decide ((100:Int)<b.Name.size))=false):pA b=true:=by
 unfold pA
 rw [Bool.or_eq_false_iff,decide_eq_false_iff_not,decide_eq_false_iff_not] at c
 rw [decide_eq_true (show b.Dims.length<=20 by omega),decide_eq_true (show b.Name.size<=100 by omega)];rfl
theorem few_1 {n:Ns} {m:Nat} (h:150<n.Bufs.length):rM n m=false:=by unfold rM;rw [decide_eq_false (by omega)];rfl
theorem few_2 {n:Ns} {m k:Nat} {b:Bf} (h:n.Bufs[k]? =some b) (hb:pA b=false):rM n m=false:=by unfold rM;rw [zIo h hb,Bool.and_false];rfl
theorem few_3 {n:Ns} {m:Nat} (h:n.Bufs.length<=150) (hb:n.Bufs.all pA=true):vY n.Body m=rM n m:=by unfold rM;rw [hb,decide_eq_true h];rfl
theorem few_parts {n:Ns} {m:Nat} (h:rM n m=true):n.Bufs.length<=150/\n.Bufs.all pA=true/\gK n.Body m<=m/\gW n.Body=true:=by
 unfold rM vY at h
 simp only [Bool.and_eq_true,decide_eq_true_eq] at h
 exact ⟨h.1.1,h.1.2,h.2.1,h.2.2⟩
end Go.Br
end
