/-
  Instructions and slots,in plain Lean,and the cells that hold them.
  The code of a nest (48.2),in plain Lean: the instructions that every part of a nest is compiled to,as if there were no limit to their number; and what the limit makes of them.
  Stable sorting,in plain Lean: sorted by a key,equals in the order of their ties; inserting,merging,turning.
  First fit (42),in plain Lean: the place behind which nothing is in the way,found by going through the placed slots in order,is the least place of all that are free.
  The arena's plan (42.1),in plain Lean.
  What a valid nest gives to the compiler (48): names,arities,types; whether numbers fit; the types of a nest; the answer of Compile.
  Statements that are ready to be compiled; whether numbers fit; what Compile answers (48.2).
  The steps by which code is made (48.2),in plain Lean: jumps whose targets are set later; strides.
  Conditions: none.
-/
import Derived.Test.YtdldhbfgfkebjaaGreatDoorPlain2
import Derived.Test.YtdldhbfgfkebjaaGreatDoorPlain
set_option linter.unusedSimpArgs false
set_option linter.unusedVariables false
section
namespace Go.Br
open Go Go.Eng Go.L41
structure In where
 Op:Int
 A:Int
 B:Int
 C:Int
 Val:Vl
 Ty:Ty
 deriving DecidableEq
def In.cells (x:In):List Eng.C:=[cI x.Op,cI x.A,cI x.B,cI x.C,cI x.Val.N,cI x.Val.D,cI x.Ty.Kind,cI x.Ty.Bits,cI x.Ty.Frac,cI x.Ty.Round,cI x.Ty.Over]
abbrev vIn (x:In):V:=.agg x.cells
abbrev xL (l:List Ty):V:=.c (.sl 5 (l.map tyC))
structure Sl where
 Name:ByteArray
 At:Int
 Len:Int
 deriving DecidableEq
def Sl.cells (x:Sl):List Eng.C:=[cS x.Name,cI x.At,cI x.Len]
abbrev vSl (x:Sl):V:=.agg x.cells
abbrev sZ (l:List Sl):V:=.c (.sl 3 (l.map Sl.cells))
def slD:List Sl->ByteArray->Sl
 |[],_=>⟨bs [],0,0⟩
 |x::r,s=>if x.Name=s then x else slD r s
end Go.Br
end
section
namespace Go.Br
open Go Go.Eng Go.L41
/-! ## Lists -/
def fR {α β:Type} (f:Nat->α->List β):Nat->List α->List β
 |_,[]=>[]
 |i,x::r=>f i x++fR f (i+1) r
theorem mapI_app {α β:Type} (f:Nat->α->List β):∀(a b:List α) (i:Nat),fR f i (a++b)=fR f i a++fR f (i+a.length) b
 |[],b,i=>by simp [fR]
 |x::r,b,i=>by
  rw [List.cons_append,fR,fR,mapI_app f r b (i+1),List.append_assoc,List.length_cons,show i+1+r.length=i+(r.length+1) by omega]
theorem wS {α β:Type} (f:Nat->α->List β) {l:List α} {k:Nat} {x:α} (h:l[k]? =some x):fR f 0 (l.take (k+1))=fR f 0 (l.take k)++f k x:=by
 have hk:k<l.length:=by
  rcases Nat.lt_or_ge k l.length with h1|h1
  ·exact h1
  ·rw [List.getElem?_eq_none h1] at h;cases h
 rw [yD h,mapI_app,fR,fR,List.append_nil,List.length_take,Nat.zero_add,Nat.min_eq_left (by omega)]
def lD {β:Type} (pos:Int) (l:List (Int->List β)):List β:=l.foldl (fun a f=>a++f (pos+a.length)) []
theorem zJu {β:Type} (pos:Int) (l:List (Int->List β)) (f:Int->List β):lD pos (l++[f])=lD pos l++f (pos+(lD pos l).length):=by
 unfold lD;rw [List.foldl_append];rfl
theorem seqC_next {α β:Type} (pos:Int) (g:α->Int->List β) {l:List α} {k:Nat} {x:α} (h:l[k]? =some x):lD pos ((l.take (k+1)).map g)=lD pos ((l.take k).map g)++g x (pos+(lD pos ((l.take k).map g)).length):=by
 rw [yD h,List.map_append];exact zJu pos _ _
theorem seqC_one {β:Type} (pos:Int) (f:Int->List β):lD pos [f]=f pos:=by
 unfold lD;simp
/-! ## Instructions -/
def iN (o a b c:Int):In:=⟨o,a,b,c,⟨0,0⟩,zTy⟩
def iA (o r x f t:Int):In:=⟨o,r,x,t,⟨f,1⟩,zTy⟩
def iO (o k a b c:Int) (t:Ty):In:=⟨o,a,b,c,⟨k,1⟩,t⟩
structure Gn where
 n:Ns
 ty:List Ty
 sl:List Sl
namespace Gn
def dm (g:Gn) (s:ByteArray):List Int:=(dF g.n.Bufs s).Dims
def bs_ (g:Gn) (s:ByteArray):Int:=(slD g.sl s).At
def en (g:Gn) (s:ByteArray):Int:=(slD g.sl s).At+(slD g.sl s).Len
end Gn
def pC:List Int->List Int
 |[]=>[]
 |_::r=>r.foldr (· * ·) 1::pC r
def jD (d:List Int):List Int:=if bW d=0 then pC d else []
def vQ (L:List ByteArray) (x:Int) (m:Mono):List In:=[iN 4 103 (rB L m.Name) m.By,iN 3 x x 103]
def rK (L:List ByteArray) (f:Lf) (x:Int):List In:=iN 1 x f.K 0::f.L.flatMap (vQ L x)
def tY (d:List Int) (r:Int) (j:Nat):List In:=if 2<=d.length then [iA 10 255 r 0 (d.getD j 0)] else []
def atC (L:List ByteArray) (d st:List Int) (j:Nat) (f:Lf):List In:=rK L f 105++tY d 105 j++[iN 4 105 105 (st.getD j 0),iN 3 104 104 105]
def vD (g:Gn) (L:List ByteArray) (x:Ix) (ext:Int):List In:=
 iN 1 104 (g.bs_ x.From) 0::fR (atC L (g.dm x.From) (jD (g.dm x.From))) 0 x.At++[iA 10 254 104 (g.bs_ x.From) (g.en x.From),iN 15 101 254 ext]
def axC (g:Gn) (L:List ByteArray) (d st:List Int) (i:Nat) (x:Ix):List In:=
 (if x.From=bs [] then rK L x.Lin 101++tY d 101 i else vD g L x (d.getD i 0))++[iN 4 101 101 (st.getD i 0),iN 3 100 100 101]
def xB (g:Gn) (L:List ByteArray) (s:ByteArray) (idx:List Ix):List In:=iN 1 100 (g.bs_ s) 0::fR (axC g L (g.dm s) (jD (g.dm s))) 0 idx
/-! ## Types of expressions -/
def sS (B:List Bf) (e:Ex) (l:List Ty):Ty:=
 if e.Op=1∨e.Op=12 then e.Ty else if e.Op=2 then iTy else if e.Op=3 then (dF B e.Name).T else if e.Op=11 then l.getD 1 zTy else l.getD 0 zTy
mutual
def knd (B:List Bf):Ex->Ty
 |.mk o n v t l i arg_=>sS B (.mk o n v t l i arg_) (xH B arg_)
def xH (B:List Bf):List Ex->List Ty
 |[]=>[]
 |a::r=>knd B a::xH B r
end
theorem kndL_eq (B:List Bf) (l:List Ex):xH B l=l.map (knd B):=by
 induction l with
 |nil=>rfl
 |cons a r ih=>rw [xH,ih];rfl
theorem knd_eq (B:List Bf) (e:Ex):knd B e=sS B e (e.Args.map (knd B)):=by cases e;rw [knd,kndL_eq];rfl
def vC (l:List Ty) (t:Ty):Int:=gE (fun x=>decide (t=x)) l
def tE (l:List Ty) (t:Ty):Bool:=l.any fun x=>decide (t=x)
/-! ## Expressions -/
structure G2 where
 v:Int->Int->Int->List In
 t:Int->Int->Int->List In
def z2:G2:=⟨fun _ _ _=>[],fun _ _ _=>[]⟩
def ifC (g0 g1 g2:G2) (p k b:Int):List In:=
 g0.t p k b++[iN 1 (b+1) 1 0,iN 8 (p+(g0.t p k b).length+2+(g1.v (p+(g0.t p k b).length+2) k b).length+1) b (b+1)]++g1.v (p+(g0.t p k b).length+2) k b++
 [iN 7 (p+(g0.t p k b).length+2+(g1.v (p+(g0.t p k b).length+2) k b).length+1+(g2.v (p+(g0.t p k b).length+2+(g1.v (p+(g0.t p k b).length+2) k b).length+1) k b).length) 0 0]++
 g2.v (p+(g0.t p k b).length+2+(g1.v (p+(g0.t p k b).length+2) k b).length+1) k b
def tI (g0 g1:G2) (p k b:Int):List In:=g0.v p k b++g1.v (p+(g0.v p k b).length) (k+1) b
def andC (g0 g1:G2) (p k b:Int):List In:=g0.t p k b++g1.t (p+(g0.t p k b).length) k (b+1)
def rV (g:Gn) (L:List ByteArray) (e:Ex) (K:List Ty) (G:List G2) (p k b:Int):List In:=
 if e.Op=1 then [⟨9,k,0,0,e.Val,zTy⟩] else
 if e.Op=2 then rK L e.Lin 101++[iN 16 k 101 0] else
 if e.Op=3 then xB g L e.Name e.Idx++[iA 10 k 100 (g.bs_ e.Name) (g.en e.Name)] else
 if e.Op=8 then (G.getD 0 z2).v p k b++[iO 12 8 k k 0 (K.getD 0 zTy)] else
 if e.Op=12 then (G.getD 0 z2).v p k b++[iO 13 (vC g.ty (K.getD 0 zTy)) k k 0 e.Ty] else
 if e.Op=11 then ifC (G.getD 0 z2) (G.getD 1 z2) (G.getD 2 z2) p k b else
 tI (G.getD 0 z2) (G.getD 1 z2) p k b++[iO 12 e.Op k k (k+1) (K.getD 0 zTy)]
def vK (e:Ex) (K:List Ty) (G:List G2) (p k b:Int):List In:=
 if e.Op=18 then (G.getD 0 z2).t p k b++[iN 4 b b (-1),iN 1 (b+1) 1 0,iN 3 b b (b+1)] else
 if e.Op=16∨e.Op=17 then andC (G.getD 0 z2) (G.getD 1 z2) p k b++[iN (if e.Op=17 then 6 else 5) b b (b+1)] else
 tI (G.getD 0 z2) (G.getD 1 z2) p k b++[iN 1 b 0 0,iO 14 e.Op (p+(tI (G.getD 0 z2) (G.getD 1 z2) p k b).length+3) k (k+1) (K.getD 0 zTy),iN 1 b 1 0]
mutual
def cgE (g:Gn) (L:List ByteArray):Ex->G2
 |.mk o n v t l i arg_=>⟨rV g L (.mk o n v t l i arg_) (arg_.map (knd g.n.Bufs)) (xA g L arg_),vK (.mk o n v t l i arg_) (arg_.map (knd g.n.Bufs)) (xA g L arg_)⟩
def xA (g:Gn) (L:List ByteArray):List Ex->List G2
 |[]=>[]
 |a::r=>cgE g L a::xA g L r
end
theorem cgEs_eq (g:Gn) (L:List ByteArray) (l:List Ex):xA g L l=l.map (cgE g L):=by
 induction l with
 |nil=>rfl
 |cons a r ih=>rw [xA,ih];rfl
theorem zKv (g:Gn) (L:List ByteArray) (e:Ex):cgE g L e=⟨rV g L e (e.Args.map (knd g.n.Bufs)) (e.Args.map (cgE g L)),vK e (e.Args.map (knd g.n.Bufs)) (e.Args.map (cgE g L))⟩:=by
 cases e;rw [cgE,cgEs_eq];rfl
def fB (g:Gn) (L:List ByteArray) (e:Ex):Int->Int->Int->List In:=(cgE g L e).v
def jC (g:Gn) (L:List ByteArray) (e:Ex):Int->Int->Int->List In:=(cgE g L e).t
/-! ## Statements -/
def pE (f:Int):Int:=if f=1 then 4 else if f=2 then 6 else if f=3 then 9 else 10
def sP (g:Gn) (L:List ByteArray) (s:St) (p:Int):List In:=
 fB g L s.E p 0 120++xB g L s.Name s.Idx++
 (if s.Op=3 then [iA 10 1 100 (g.bs_ s.Name) (g.en s.Name),iO 12 (pE s.Fold) 1 1 0 (dF g.n.Bufs s.Name).T,iA 11 1 100 (g.bs_ s.Name) (g.en s.Name)] else [iA 11 0 100 (g.bs_ s.Name) (g.en s.Name)])
def lV (c:Int->List In) (d p:Int):Nat->List In
 |0=>[]
 |k+1=>lV c d p k++(iN 1 d k 0::c (p+(lV c d p k).length+1))
def tX (at_ x m:Int):List In:=[iN 1 101 1 0,iN 3 x x 101,iN 1 102 m 0,iN 8 at_ x 102]
def vW (c:Int->List In) (d p m:Int):List In:=iN 1 d 0 0::c (p+1)++tX (p+1) d m
def vV (c:List In) (b:Int->List In) (p:Int):List In:=
 c++[iN 1 121 1 0,iN 8 (p+c.length+2+(b (p+c.length+2)).length) 120 121]++b (p+c.length+2)
mutual
def stC (g:Gn):St->List ByteArray->Int->List In
 |.mk o nm mn mk fo i e b,L,p=>
  if o=1 then (if mk=3 then lV (fun q=>lD q (tW g b (L++[nm]))) L.length p mn.toNat else vW (fun q=>lD q (tW g b (L++[nm]))) L.length p mn) else
  if o=4 then vV (jC g L e p 0 120) (fun q=>lD q (tW g b L)) p else sP g L (.mk o nm mn mk fo i e b) p
def tW (g:Gn):List St->List ByteArray->List (Int->List In)
 |[],_=>[]
 |s::r,L=>(fun p=>stC g s L p)::tW g r L
end
theorem stCs_eq (g:Gn) (L:List ByteArray) (l:List St):tW g l L=l.map fun s=>stC g s L:=by
 induction l with
 |nil=>rfl
 |cons a r ih=>rw [tW,ih];rfl
def gF (g:Gn) (l:List St) (L:List ByteArray) (p:Int):List In:=lD p (l.map fun s=>stC g s L)
theorem stC_eq (g:Gn) (s:St) (L:List ByteArray) (p:Int):stC g s L p=
  if s.Op=1 then (if s.Mark=3 then lV (gF g s.Body (L++[s.Name])) L.length p s.Many.toNat else vW (gF g s.Body (L++[s.Name])) L.length p s.Many) else
  if s.Op=4 then vV (jC g L s.E p 0 120) (gF g s.Body L) p else sP g L s p:=by
 cases s;rw [stC,stCs_eq,stCs_eq];rfl
def vZ (g:Gn) (s:ByteArray) (p:Int):List In:=⟨9,0,0,0,⟨0,1⟩,zTy⟩::iN 1 100 (g.bs_ s) 0::iA 11 0 100 (g.bs_ s) (g.en s)::tX (p+2) 100 (g.en s)
def zLf:Lifetime:=⟨bs [],0,0,0⟩
def lfA (l:List Lifetime) (k:Nat):Lifetime:=l.getD k zLf
theorem zLo {l:List Lifetime} {k:Nat} {x:Lifetime} (h:l[k]? =some x):lfA l k=x:=by unfold lfA;rw [List.getD_eq_getElem?_getD,h];rfl
def sV (g:Gn) (lv:List Lifetime) (i k:Nat) (b:Bf):List (Int->List In):=if ¬b.Use=1/\(lfA lv k).From=i then [vZ g b.Name] else []
def sL (g:Gn) (lv:List Lifetime) (i:Nat) (s:St):List (Int->List In):=fR (sV g lv i) 0 g.n.Bufs++[stC g s []]
def xE (g:Gn) (lv:List Lifetime):List In:=lD 0 (fR (sL g lv) 0 g.n.Body)++[iN 0 0 0 0]
/-! ## The limit -/
def Em (pre code:List In) (full:Bool):Prop:=if pre.length<=65536 then code=pre/\full=false else code.length=65536/\full=true
theorem Em.nil:Em [] [] false:=by unfold Em;rw [if_pos (by simp)];exact ⟨rfl,rfl⟩
theorem Em.ok {pre code:List In} {full:Bool} (h:Em pre code full) (hf:full=false):code=pre/\pre.length<=65536:=by
 unfold Em at h
 split at h
 ·exact ⟨h.1,by omega⟩
 ·rw [h.2] at hf;cases hf
theorem Em.no {pre code:List In} {full:Bool} (h:Em pre code full) (hf:full=true):65536<pre.length/\code.length=65536:=by
 unfold Em at h
 split at h
 ·rw [h.2] at hf;cases hf
 ·exact ⟨by omega,h.1⟩
theorem Em.len {pre code:List In} {full:Bool} (h:Em pre code full):code.length=min pre.length 65536:=by
 unfold Em at h
 split at h
 ·rw [h.1];omega
 ·rw [h.1];omega
theorem Em.push {pre code:List In} {full:Bool} (h:Em pre code full) (hl:¬65536<=(code.length:Int)) {i j:In} (hij:pre.length<65536->i=j):Em (pre++[j]) (code++[i]) full:=by
 have hc:=h.len
 unfold Em at h⊢
 have hp:pre.length<65536:=by omega
 rw [if_pos (by omega)] at h
 rw [if_pos (by rw [List.length_append,List.length_singleton];omega),h.1,hij hp]
 exact ⟨rfl,h.2⟩
theorem Em.full {pre code:List In} {full:Bool} (h:Em pre code full) (hl:65536<=(code.length:Int)) (j:In):Em (pre++[j]) code true:=by
 have hc:=h.len
 unfold Em
 rw [if_neg (by rw [List.length_append,List.length_singleton];omega)]
 exact ⟨by omega,rfl⟩
theorem Em.skip {pre code:List In} (h:Em pre code true) (c:List In):Em (pre++c) code true:=by
 have:=h.no rfl
 unfold Em
 rw [if_neg (by rw [List.length_append];omega)]
 exact ⟨this.2,rfl⟩
def gR (l:List In) (i:Nat) (a:Int):List In:=match l[i]? with|some x=>l.set i { x with A:=a }|none=>l
theorem zGm (l:List In) (i:Nat) (a:Int):(gR l i a).length=l.length:=by
 unfold gR;split<;>simp
theorem jmpTo_at (p q:List In) (x:In) (a:Int):gR (p++x::q) p.length a=p++{ x with A:=a }::q:=by
 unfold gR;simp
end Go.Br
end
section
namespace Go.Br
open Go Go.Eng Go.L41
section
variable {α:Type} (key:α->Int) (tie:α->Nat)
def ltS (a b:α):Prop:=key a<key b∨(key a=key b/\tie a<tie b)
def leS (a b:α):Bool:=decide (key a<key b)||(decide (key a=key b)&&decide (tie a<=tie b))
def srt (X:List α):List α:=X.mergeSort (leS key tie)
def Srt (X:List α):Prop:=X.Pairwise (ltS key tie)
def neP (X:List α):Prop:=X.Pairwise fun a b=>¬(key a=key b/\tie a=tie b)
variable {key tie}
theorem ltS.trans {a b c:α} (h:ltS key tie a b) (h2:ltS key tie b c):ltS key tie a c:=by unfold ltS at *;omega
theorem ltS.asymm {a b:α} (h:ltS key tie a b) (h2:ltS key tie b a):False:=by unfold ltS at *;omega
theorem ltS_of {a b:α} (h:tie a<tie b) (h2:¬key b<key a):ltS key tie a b:=by unfold ltS;omega
theorem ltS_to {a b:α} (h:tie a<tie b) (h2:key b<key a):ltS key tie b a:=by unfold ltS;omega
theorem zDe (X:List α):(srt key tie X).Perm X:=List.mergeSort_perm X _
theorem yX (X:List α):(srt key tie X).length=X.length:=(zDe X).length_eq
theorem zDq {X:List α} {x:α}:x∈srt key tie X↔x∈X:=(zDe X).mem_iff
theorem sorted_one:∀{X Z:List α},X.Perm Z->Srt key tie X->Srt key tie Z->X=Z
 |[],Z,h,_,_=>(List.nil_perm.1 h).symm
 |x::X,[],h,_,_=>by have:=h.length_eq;simp at this
 |x::X,z::Z,h,h1,h2=>by
  unfold Srt at h1 h2
  rw [List.pairwise_cons] at h1 h2
  have hx:x∈z::Z:=h.mem_iff.1 (by simp)
  have hz:z∈x::X:=h.mem_iff.2 (by simp)
  have e:x=z:=by
   rcases List.mem_cons.1 hx with e|hx
   ·exact e
   ·rcases List.mem_cons.1 hz with e|hz
    ·exact e.symm
    ·exact ((h1.1 z hz).asymm (h2.1 x hx)).elim
  subst e
  rw [sorted_one (List.Perm.cons_inv h) h1.2 h2.2]
theorem leS_trans (a b c:α) (h:leS key tie a b=true) (h2:leS key tie b c=true):leS key tie a c=true:=by
 unfold leS at *
 simp only [Bool.or_eq_true,Bool.and_eq_true,decide_eq_true_eq] at *
 omega
theorem leS_total (a b:α):(leS key tie a b||leS key tie b a)=true:=by
 unfold leS
 simp only [Bool.or_eq_true,Bool.and_eq_true,decide_eq_true_eq]
 omega
theorem neP.perm {X Z:List α} (h:X.Perm Z) (hn:neP key tie X):neP key tie Z:=(List.Perm.pairwise_iff (fun h=>by intro k;exact h ⟨k.1.symm,k.2.symm⟩) h).1 hn
theorem Srt.ne {X:List α} (h:Srt key tie X):neP key tie X:=List.Pairwise.imp (fun h=>by unfold ltS at h;omega) h
theorem zHe {X:List α} (h:neP key tie X):Srt key tie (srt key tie X):=by
 have h1:(srt key tie X).Pairwise fun a b=>leS key tie a b=true:=List.pairwise_mergeSort leS_trans leS_total X
 have h2:neP key tie (srt key tie X):=neP.perm (zDe X).symm h
 refine List.Pairwise.imp₂ (fun a b ha hb=>?_) h1 h2
 unfold leS at ha;unfold ltS
 simp only [Bool.or_eq_true,Bool.and_eq_true,decide_eq_true_eq] at ha
 omega
theorem srt_is {X Z:List α} (hp:Z.Perm X) (hs:Srt key tie Z):srt key tie X=Z:=
 sorted_one ((zDe X).trans hp.symm) (zHe (neP.perm hp hs.ne)) hs
theorem srt_same {X Z:List α} (hp:Z.Perm X) (hn:neP key tie X):srt key tie X=srt key tie Z:=
 srt_is ((zDe Z).trans hp) (zHe (neP.perm hp.symm hn))
theorem srt_nil:srt key tie ([]:List α)=[]:=by unfold srt;simp
theorem srt_self {X:List α} (hs:Srt key tie X):srt key tie X=X:=srt_is (List.Perm.refl _) hs
theorem zPq {X:List α} (h:X.Pairwise fun a b=>tie a<tie b):neP key tie X:=List.Pairwise.imp (fun h=>by omega) h
/-! ## Inserting -/
theorem ins_srt {S:List α} {x:α} {j:Nat} (hS:Srt key tie S) (h1:∀y,y∈S.drop j->ltS key tie x y) (h2:∀y,y∈S.take j->ltS key tie y x):Srt key tie (S.take j++x::S.drop j):=by
 have hS':Srt key tie (S.take j++S.drop j):=by rw [List.take_append_drop];exact hS
 unfold Srt at *
 rw [List.pairwise_append] at hS'⊢
 refine ⟨hS'.1,?_,?_⟩
 ·rw [List.pairwise_cons];exact ⟨h1,hS'.2.1⟩
 ·intro a ha b hb
  rcases List.mem_cons.1 hb with rfl|hb
  ·exact h2 a ha
  ·exact hS'.2.2 a ha b hb
theorem ins_perm (S:List α) (x:α) (j:Nat):(S.take j++x::S.drop j).Perm (S++[x]):=by
 refine (List.perm_middle).trans ?_
 rw [List.take_append_drop]
 exact (List.perm_append_singleton x S).symm
theorem zRw {S:List α} {x y:α} {h:Nat} (hS:Srt key tie S) (hg:S[h]? =some y) (hl:ltS key tie y x):∀z,z∈S.take (h+1)->ltS key tie z x:=by
 intro z hz
 rw [yD hg] at hz
 rcases List.mem_append.1 hz with hz|hz
 ·refine ltS.trans ?_ hl
  have hS2:Srt key tie (S.take h++S.drop h):=by rw [List.take_append_drop];exact hS
  unfold Srt at hS2
  rw [List.pairwise_append] at hS2
  exact hS2.2.2 z hz y (by rw [yB hg];simp)
 ·rw [List.mem_singleton.1 hz];exact hl
theorem zOz {S:List α} {x y:α} {h:Nat} (hS:Srt key tie S) (hg:S[h]? =some y) (hl:ltS key tie x y):∀z,z∈S.drop h->ltS key tie x z:=by
 intro z hz
 have hS2:Srt key tie (S.drop h):=List.Pairwise.sublist (List.drop_sublist h S) hS
 rw [yB hg] at hz hS2
 unfold Srt at hS2
 rw [List.pairwise_cons] at hS2
 rcases List.mem_cons.1 hz with rfl|hz
 ·exact hl
 ·exact hl.trans (hS2.1 z hz)
theorem ins_is {S:List α} {x:α} {j:Nat} (hS:Srt key tie S) (h1:∀y,y∈S.drop j->ltS key tie x y) (h2:∀y,y∈S.take j->ltS key tie y x):srt key tie (S++[x])=S.take j++x::S.drop j:=
 srt_is (ins_perm S x j) (ins_srt hS h1 h2)
theorem ins_is' {S:List α} {x:α} {j:Nat} (hS:Srt key tie S) (h1:∀y,y∈S.drop j->ltS key tie x y) (h2:∀y,y∈S.take j->ltS key tie y x):srt key tie (x::S)=S.take j++x::S.drop j:=
 srt_is ((ins_perm S x j).trans (List.perm_append_singleton x S)) (ins_srt hS h1 h2)
theorem srt_front {X Y:List α} (hn:neP key tie (X++Y)):srt key tie (srt key tie X++Y)=srt key tie (X++Y):=
 (srt_same ((zDe X).append_right Y) hn).symm
theorem srt_both {X Y:List α} (hn:neP key tie (X++Y)):srt key tie (srt key tie X++srt key tie Y)=srt key tie (X++Y):=
 (srt_same ((zDe X).append (zDe Y)) hn).symm
theorem srt_cat {P Q:List α} (hn:neP key tie (P++Q)) (h:∀a,a∈P->∀b,b∈Q->ltS key tie a b):srt key tie (P++Q)=srt key tie P++srt key tie Q:=by
 refine srt_is ((zDe P).append (zDe Q)) ?_
 unfold neP at hn
 rw [List.pairwise_append] at hn
 unfold Srt
 rw [List.pairwise_append]
 exact ⟨zHe hn.1,zHe hn.2.1,fun a ha b hb=>h a (zDq.1 ha) b (zDq.1 hb)⟩
theorem zAu {X Y:List α} {p q:Nat} (hX:Srt key tie X) (hY:Srt key tie Y) (hn:neP key tie (X++Y))
  (h1:∀x,x∈X.take p->∀y,y∈Y.drop q->ltS key tie x y) (h2:∀x,x∈X.drop p->∀y,y∈Y.take q->ltS key tie y x):
  srt key tie (X.take p++Y.take q)++srt key tie (X.drop p++Y.drop q)=srt key tie (X++Y):=by
 have hp:((X.take p++Y.take q)++(X.drop p++Y.drop q)).Perm (X++Y):=by
  have e:(X.take p++X.drop p)++(Y.take q++Y.drop q)=X++Y:=by rw [List.take_append_drop,List.take_append_drop]
  rw [←e,List.append_assoc,List.append_assoc]
  refine List.Perm.append_left _ ?_
  rw [←List.append_assoc,←List.append_assoc]
  exact List.Perm.append_right _ List.perm_append_comm
 rw [srt_same hp hn]
 refine (srt_cat (neP.perm hp.symm hn) fun a ha b hb=>?_).symm
 have hX2:Srt key tie (X.take p++X.drop p):=by rw [List.take_append_drop];exact hX
 have hY2:Srt key tie (Y.take q++Y.drop q):=by rw [List.take_append_drop];exact hY
 unfold Srt at hX2 hY2
 rw [List.pairwise_append] at hX2 hY2
 rcases List.mem_append.1 ha with ha|ha<;>rcases List.mem_append.1 hb with hb|hb
 ·exact hX2.2.2 a ha b hb
 ·exact h1 a ha b hb
 ·exact h2 b hb a ha
 ·exact hY2.2.2 a ha b hb
/-! ## Moving and turning -/
def mv (A:List α) (x:α) (S:List α) (j:Nat) (R:List α):List α:=A++(S.take j++x::S.drop j)++R
theorem zAz {l:List α} {k:Nat} {x:α} (h:l[k]? =some x):k<l.length:=by
 rcases Nat.lt_or_ge k l.length with h1|h1
 ·exact h1
 ·rw [List.getElem?_eq_none h1] at h;cases h
theorem zTk (P Q:List α) (x:α) {k:Nat} (h:k=P.length):(P++x::Q)[k]? =some x:=by subst h;simp
theorem zCz (A:List α) (x:α) (S:List α) (j:Nat) (R:List α):(mv A x S j R).length=A.length+S.length+1+R.length:=by
 unfold mv;simp only [List.length_append,List.length_cons,List.length_take,List.length_drop];omega
theorem mv_x (A:List α) (x:α) (S:List α) {j:Nat} (R:List α) (hj:j<=S.length):(mv A x S j R)[A.length+j]? =some x:=by
 unfold mv
 rw [show A++(S.take j++x::S.drop j)++R=(A++S.take j)++x::(S.drop j++R) by simp]
 exact zTk _ _ _ (by rw [List.length_append,List.length_take];omega)
theorem mv_dn_eq {A:List α} {x:α} {S:List α} {j:Nat} {R:List α} {y:α} (h:S[j]? =some y):mv A x S j R=(A++S.take j)++x::y::(S.drop (j+1)++R):=by
 unfold mv;rw [yB h];simp
theorem mv_up_eq {A:List α} {x:α} {S:List α} {j:Nat} {R:List α} {y:α} (h:S[j]? =some y):mv A x S (j+1) R=(A++S.take j)++y::x::(S.drop (j+1)++R):=by
 unfold mv;rw [yD h];simp
theorem mv_y {A:List α} {x:α} {S:List α} {j:Nat} {R:List α} {y:α} (h:S[j]? =some y):(mv A x S j R)[A.length+j+1]? =some y:=by
 have hl:=zAz h
 rw [mv_dn_eq h,show (A++S.take j)++x::y::(S.drop (j+1)++R)=(A++S.take j++[x])++y::(S.drop (j+1)++R) by simp]
 exact zTk _ _ _ (by rw [List.length_append,List.length_append,List.length_take,List.length_singleton];omega)
theorem mv_y' {A:List α} {x:α} {S:List α} {j:Nat} {R:List α} {y:α} (h:S[j]? =some y):(mv A x S (j+1) R)[A.length+j]? =some y:=by
 have hl:=zAz h
 rw [mv_up_eq h]
 exact zTk _ _ _ (by rw [List.length_append,List.length_take];omega)
theorem set_two {P Q:List α} {u v u' v':α} {k:Nat} (hk:k=P.length):((P++u::v::Q).set k u').set (k+1) v'=P++u'::v'::Q:=by
 subst hk
 rw [List.set_append_right _ _ (Nat.le_refl _),Nat.sub_self,List.set_cons_zero,List.set_append_right _ _ (by omega),show P.length+1-P.length=1 by omega];rfl
theorem set_two' {P Q:List α} {u v u' v':α} {k:Nat} (hk:k=P.length):((P++u::v::Q).set (k+1) v').set k u'=P++u'::v'::Q:=by
 subst hk
 rw [List.set_append_right _ _ (by omega),show P.length+1-P.length=1 by omega]
 show (P++u::v'::Q).set P.length u'=_
 rw [List.set_append_right _ _ (Nat.le_refl _),Nat.sub_self,List.set_cons_zero]
theorem mv_dn {A:List α} {x:α} {S:List α} {j:Nat} {R:List α} {y:α} (h:S[j]? =some y):((mv A x S (j+1) R).set (A.length+j+1) y).set (A.length+j) x=mv A x S j R:=by
 have hl:=zAz h
 rw [mv_up_eq h,mv_dn_eq h]
 exact set_two' (by rw [List.length_append,List.length_take];omega)
theorem mv_up {A:List α} {x:α} {S:List α} {j:Nat} {R:List α} {y:α} (h:S[j]? =some y):((mv A x S j R).set (A.length+j) y).set (A.length+j+1) x=mv A x S (j+1) R:=by
 have hl:=zAz h
 rw [mv_up_eq h,mv_dn_eq h]
 exact set_two (by rw [List.length_append,List.length_take];omega)
def sw (A X M Y B:List α) (i:Nat):List α:=A++(Y.take i++X.drop i)++M++(X.take i++Y.drop i)++B
theorem sw_0 (A X M Y B:List α):sw A X M Y B 0=A++X++M++Y++B:=by unfold sw;simp
theorem sw_n (A X M Y B:List α) {n:Nat} (hX:X.length=n) (hY:Y.length=n):sw A X M Y B n=A++Y++M++X++B:=by
 unfold sw;subst hX;rw [List.take_of_length_le (by omega),List.drop_eq_nil_of_le (Nat.le_refl _),List.take_of_length_le (Nat.le_refl _),List.drop_eq_nil_of_le (by omega)];simp
theorem sw_len (A X M Y B:List α) (i:Nat) (h:X.length=Y.length):(sw A X M Y B i).length=A.length+X.length+M.length+Y.length+B.length:=by
 unfold sw;simp only [List.length_append,List.length_take,List.length_drop];omega
theorem sw_eq {A X M Y B:List α} {i:Nat} {x y:α} (hx:X[i]? =some x) (hy:Y[i]? =some y):sw A X M Y B i=(A++Y.take i)++x::((X.drop (i+1)++M++X.take i)++y::(Y.drop (i+1)++B)):=by
 unfold sw;rw [yB hx,yB hy];simp
theorem sw_eq' {A X M Y B:List α} {i:Nat} {x y:α} (hx:X[i]? =some x) (hy:Y[i]? =some y):sw A X M Y B (i+1)=(A++Y.take i)++y::((X.drop (i+1)++M++X.take i)++x::(Y.drop (i+1)++B)):=by
 unfold sw;rw [yD hx,yD hy];simp
theorem sw_x {A X M Y B:List α} {i:Nat} {x y:α} (hx:X[i]? =some x) (hy:Y[i]? =some y):(sw A X M Y B i)[A.length+i]? =some x:=by
 have:=zAz hy
 rw [sw_eq hx hy];exact zTk _ _ _ (by rw [List.length_append,List.length_take];omega)
theorem sw_y {A X M Y B:List α} {i:Nat} {x y:α} (hx:X[i]? =some x) (hy:Y[i]? =some y):(sw A X M Y B i)[A.length+X.length+M.length+i]? =some y:=by
 have:=zAz hy;have:=zAz hx
 rw [sw_eq hx hy,show (A++Y.take i)++x::((X.drop (i+1)++M++X.take i)++y::(Y.drop (i+1)++B))=(A++Y.take i++x::(X.drop (i+1)++M++X.take i))++y::(Y.drop (i+1)++B) by simp]
 exact zTk _ _ _ (by simp only [List.length_append,List.length_take,List.length_drop,List.length_cons];omega)
theorem sw_next {A X M Y B:List α} {i:Nat} {x y:α} (hx:X[i]? =some x) (hy:Y[i]? =some y):((sw A X M Y B i).set (A.length+i) y).set (A.length+X.length+M.length+i) x=sw A X M Y B (i+1):=by
 have h1:=zAz hy;have h2:=zAz hx
 rw [sw_eq hx hy,sw_eq' hx hy]
 have e1:A.length+i=(A++Y.take i).length:=by rw [List.length_append,List.length_take];omega
 have e2:A.length+X.length+M.length+i=(A++Y.take i++y::(X.drop (i+1)++M++X.take i)).length:=by simp only [List.length_append,List.length_take,List.length_drop,List.length_cons];omega
 rw [e1,List.set_append_right _ _ (Nat.le_refl _),Nat.sub_self,List.set_cons_zero,e2,
  show (A++Y.take i)++y::((X.drop (i+1)++M++X.take i)++y::(Y.drop (i+1)++B))=(A++Y.take i++y::(X.drop (i+1)++M++X.take i))++y::(Y.drop (i+1)++B) by simp,
  List.set_append_right _ _ (Nat.le_refl _),Nat.sub_self,List.set_cons_zero]
 simp
/-! ## Steps of the walks -/
theorem front_lt {S:List α} {x:α} {j:Nat} (d:α) (hS:Srt key tie S) (ht:∀y,y∈S->tie y<tie x) (hj:j<=S.length) (h:0<j->¬key x<key (S.getD (j-1) d)):∀y,y∈S.take j->ltS key tie y x:=by
 cases j with
 |zero=>intro y hy;simp at hy
 |succ j=>
  have hg:S[j]? =some S[j]:=List.getElem?_eq_getElem (by omega)
  have e:S.getD (j+1-1) d=S[j]:=by rw [Nat.add_sub_cancel,List.getD_eq_getElem?_getD,hg];rfl
  have h0:=h (by omega)
  rw [e] at h0
  exact zRw hS hg (ltS_of (ht _ (List.getElem_mem (by omega))) h0)
theorem getD_at {S:List α} {j:Nat} (d:α) (h:j<S.length):S[j]? =some (S.getD j d):=by
 rw [List.getD_eq_getElem?_getD,List.getElem?_eq_getElem h];rfl
theorem getD_memS {S:List α} {j:Nat} (d:α) (h:j<S.length):S.getD j d∈S:=List.mem_of_getElem? (getD_at d h)
theorem get_X {A X Y B:List α} {u:Nat} {x:α} (h:X[u]? =some x):(A++X++Y++B)[A.length+u]? =some x:=by
 have:=zAz h
 rw [List.append_assoc,List.getElem?_append_left (by rw [List.length_append];omega),List.getElem?_append_right (by omega),Nat.add_sub_cancel_left];exact h
theorem get_Y {A X Y B:List α} {u:Nat} {y:α} (h:Y[u]? =some y):(A++X++Y++B)[A.length+X.length+u]? =some y:=by
 have:=zAz h
 rw [List.getElem?_append_left (by simp only [List.length_append];omega),List.getElem?_append_right (by rw [List.length_append];omega),List.length_append,Nat.add_sub_cancel_left];exact h
theorem sym_up {X Y:List α} {w u:Nat} {x y:α} (hX:Srt key tie X) (hY:Srt key tie Y) (hx:X[u]? =some x) (hy:Y[w-1-u]? =some y) (hw:u+1<=w) (h:ltS key tie x y):∀a,a∈X.take (u+1)->∀b,b∈Y.drop (w-(u+1))->ltS key tie a b:=by
 intro a ha b hb
 rw [show w-(u+1)=w-1-u by omega] at hb
 have h1:ltS key tie a y:=zRw hX hx h a ha
 exact zOz hY hy h1 b hb
theorem sym_dn {X Y:List α} {w u:Nat} {x y:α} (hX:Srt key tie X) (hY:Srt key tie Y) (hx:X[u]? =some x) (hy:Y[w-1-u]? =some y) (hw:u+1<=w) (h:ltS key tie y x):∀a,a∈X.drop u->∀b,b∈Y.take (w-u)->ltS key tie b a:=by
 intro a ha b hb
 rw [show w-u=w-1-u+1 by omega] at hb
 have h1:ltS key tie b x:=zRw hY hy h b hb
 exact zOz hX hx h1 a ha
theorem mv_end {A:List α} {x:α} {S Q:List α} {k:Nat} (h:S.length=k):mv A x S k Q=A++S++x::Q:=by
 unfold mv;rw [List.take_of_length_le (by omega),List.drop_eq_nil_of_le (by omega)];simp
theorem mv_yd {A:List α} {x:α} {S R:List α} {j:Nat} (d:α) (h0:0<j) (hj:j<=S.length):(mv A x S j R)[A.length+(j-1)]? =some (S.getD (j-1) d):=by
 obtain ⟨m,rfl⟩:∃m,j=m+1:=⟨j-1,by omega⟩
 rw [Nat.add_sub_cancel]
 exact mv_y' (getD_at d (by omega))
theorem one_of {X:List α} (h:X.length=1):∃x,X=[x]:=by
 match X,h with
 |[x],_=>exact ⟨x,rfl⟩
theorem sym_ne {X Y:List α} (hX:Srt key tie X) (hY:Srt key tie Y) (hT:∀x,x∈X->∀y,y∈Y->tie x<tie y):neP key tie (X++Y):=by
 unfold neP
 rw [List.pairwise_append]
 exact ⟨hX.ne,hY.ne,fun a ha b hb k=>by have:=hT a ha b hb;omega⟩
theorem Srt.sub {X Y:List α} (h:Srt key tie Y) (hs:X.Sublist Y):Srt key tie X:=List.Pairwise.sublist hs h
theorem sym_no {A X Y B:List α} {p q:Nat} (h:X.length<=p∨q=0):A++X++Y++B=A++X.take p++Y.take q++X.drop p++(Y.drop q++B):=by
 rcases h with h|h
 ·rw [List.take_of_length_le h,List.drop_eq_nil_of_le h];simp
  rw [←List.append_assoc (Y.take q),List.take_append_drop]
 ·subst h;simp
theorem sym_yes {A X Y B:List α} {p q:Nat}:A++X++Y++B=(A++X.take p)++X.drop p++Y.take q++(Y.drop q++B):=by
 have h:(A++X.take p)++X.drop p++Y.take q++(Y.drop q++B)=A++(X.take p++X.drop p)++(Y.take q++Y.drop q)++B:=by simp only [List.append_assoc]
 rw [h,List.take_append_drop,List.take_append_drop]
theorem zCt {X Y:List α} (hX:Srt key tie X) (hY:Srt key tie Y) (h:X.length=0∨Y.length=0):X++Y=srt key tie (X++Y):=by
 rcases h with h|h
 ·rw [List.eq_nil_of_length_eq_zero h,List.nil_append,srt_self hY]
 ·rw [List.eq_nil_of_length_eq_zero h,List.append_nil,srt_self hX]
/-! Blocks of twenty. -/
def hdB (key:α->Int) (tie:α->Nat) (X:List α):Nat->List α
 |0=>[]
 |j+1=>hdB key tie X j++srt key tie ((X.drop (20*j)).take 20)
theorem hdB_len (X:List α):∀j:Nat,20*j<=X.length->(hdB key tie X j).length=20*j
 |0,_=>rfl
 |j+1,h=>by rw [hdB,List.length_append,yX,List.length_take,List.length_drop,hdB_len X j (by omega)];omega
def mbB (key:α->Int) (tie:α->Nat) (X:List α) (s:Nat):List α:=if s=0 then srt key tie (X.take 20)++srt key tie (X.drop 20) else srt key tie X
theorem hdB_end {X:List α} {j:Nat} (h1:20*j<=X.length) (h2:X.length<20*j+20) (h3:X.length<=40):hdB key tie X j++srt key tie (X.drop (20*j))=mbB key tie X 0:=by
 have hj:j=0∨j=1∨j=2:=by omega
 unfold mbB
 rw [if_pos rfl]
 rcases hj with rfl|rfl|rfl
 ·rw [hdB,List.take_of_length_le (by omega),List.drop_eq_nil_of_le (i:=20) (by omega),srt_nil];simp
 ·rw [hdB,hdB];simp
 ·rw [hdB,hdB,hdB,List.drop_eq_nil_of_le (i:=20*2) (by omega),srt_nil,List.take_of_length_le (l:=X.drop (20*1)) (by rw [List.length_drop];omega)];simp
theorem mbB_small {X:List α} (h:X.length<=20):mbB key tie X 0=srt key tie X:=by
 unfold mbB;rw [if_pos rfl,List.take_of_length_le h,List.drop_eq_nil_of_le h,srt_nil,List.append_nil]
theorem mbB_done {X:List α} (hn:neP key tie X):srt key tie (srt key tie (X.take 20)++srt key tie (X.drop 20))=srt key tie X:=by
 have:=srt_both (key:=key) (tie:=tie) (X:=X.take 20) (Y:=X.drop 20) (by rw [List.take_append_drop];exact hn)
 rw [this,List.take_append_drop]
end
end Go.Br
end
section
namespace Go.Br
open Go Go.Eng Go.L41
/-! ## The walk through the slots in order -/
def jF (m:Int):Int->List Sl->Int
 |x,[]=>x
 |x,s::r=>if x+m<=s.At then x else jF m (max x (s.At+s.Len)) r
def hit (m x:Int) (s:Sl):Prop:=x<s.At+s.Len/\s.At<x+m
theorem scan_ge (m:Int):∀(l:List Sl) (x:Int),x<=jF m x l
 |[],x=>Int.le_refl _
 |s::r,x=>by
  rw [jF]
  split
  ·exact Int.le_refl _
  ·have:=scan_ge m r (max x (s.At+s.Len));omega
theorem scan_all (m:Int):∀(l:List Sl) (x:Int),l.Pairwise (fun a b=>a.At<=b.At)->(∀s,s∈l->1<=s.Len)->∀s,s∈l->¬hit m (jF m x l) s
 |[],x,_,_,s,hs=>by cases hs
 |a::r,x,hp,h1,s,hs=>by
  rw [List.pairwise_cons] at hp
  rw [jF]
  split
  ·rename_i c
   unfold hit
   rcases List.mem_cons.1 hs with rfl|hs
   ·omega
   ·have:=hp.1 s hs;omega
  ·rcases List.mem_cons.1 hs with rfl|hs
   ·have:=scan_ge m r (max x (s.At+s.Len))
    unfold hit;omega
   ·exact scan_all m r _ hp.2 (fun s hs=>h1 s (by simp [hs])) s hs
theorem scan_low (m:Int) (hm:1<=m):∀(l:List Sl) (x y:Int),x<=y->y<jF m x l->∃s,s∈l/\hit m y s
 |[],x,y,h,h2=>by rw [jF] at h2;omega
 |a::r,x,y,h,h2=>by
  rw [jF] at h2
  split at h2
  ·omega
  ·rename_i c
   by_cases hy:y<max x (a.At+a.Len)
   ·exact ⟨a,by simp,by unfold hit;omega⟩
   ·obtain ⟨s,hs,hh⟩:=scan_low m hm r _ y (by omega) h2
    exact ⟨s,by simp [hs],hh⟩
theorem scan_cand (m:Int):∀(l:List Sl) (x:Int),jF m x l=x∨∃s,s∈l/\jF m x l=s.At+s.Len
 |[],x=>.inl rfl
 |a::r,x=>by
  rw [jF]
  split
  ·exact .inl rfl
  ·rcases scan_cand m r (max x (a.At+a.Len)) with h|⟨s,hs,h⟩
   ·by_cases hx:a.At+a.Len<=x
    ·exact .inl (by rw [h];omega)
    ·exact .inr ⟨a,by simp,by rw [h];omega⟩
   ·exact .inr ⟨s,by simp [hs],h⟩
/-! ## Places -/
def zSl:Sl:=⟨bs [],0,0⟩
def slo (m:Lifetime) (y:Int):Sl:=if y<0 then zSl else ⟨m.Name,y,m.Size⟩
def gQ (l:List Lifetime) (a:List Int):List Sl:=List.zipWith slo l a
def sJ (l:List Lifetime) (k i:Nat) (s:Sl):List Sl:=if (0<s.Len/\¬(i:Int)=k)/\jZ (lfA l i) (lfA l k)=true then [s] else []
def bsy (l:List Lifetime) (S:List Sl) (k:Nat):List Sl:=fR (sJ l k) 0 S
def tZ (x:Sl×Nat):Int:=x.1.At
def mP (l:List Sl):List Sl:=(srt tZ Prod.snd l.zipIdx).map Prod.fst
def mX (l:List Lifetime) (S:List Sl) (k:Nat):Int:=jF (lfA l k).Size 0 (mP (bsy l S k))
theorem zRm:∀(l:List Sl) (i:Nat),(l.zipIdx i).Pairwise (fun a b=>a.2<b.2)/\∀x,x∈l.zipIdx i->i<=x.2
 |[],i=>by simp
 |a::r,i=>by
  obtain ⟨h1,h2⟩:=zRm r (i+1)
  rw [List.zipIdx_cons]
  refine ⟨?_,fun x hx=>?_⟩
  ·rw [List.pairwise_cons]
   exact ⟨fun b hb=>by have:=h2 b hb;dsimp only;omega,h1⟩
  ·rcases List.mem_cons.1 hx with rfl|hx
   ·exact Nat.le_refl _
   ·have:=h2 x hx;omega
theorem zLz {l:List Sl} {s:Sl}:s∈mP l↔s∈l:=by
 unfold mP
 rw [List.mem_map]
 constructor
 ·rintro ⟨x,hx,rfl⟩
  rw [zDq] at hx
  have:x.1∈l.zipIdx.map Prod.fst:=List.mem_map.2 ⟨x,hx,rfl⟩
  rwa [List.zipIdx_map_fst] at this
 ·intro hs
  have:s∈l.zipIdx.map Prod.fst:=by rw [List.zipIdx_map_fst];exact hs
  obtain ⟨x,hx,rfl⟩:=List.mem_map.1 this
  exact ⟨x,zDq.2 hx,rfl⟩
theorem srtA_ord (l:List Sl):(mP l).Pairwise (fun a b=>a.At<=b.At):=by
 have h:=zHe (zPq (key:=tZ) (zRm l 0).1)
 unfold mP
 rw [List.pairwise_map]
 exact List.Pairwise.imp (fun h=>by unfold ltS tZ at h;omega) h
theorem srtA_len (l:List Sl):(mP l).length=l.length:=by unfold mP;rw [List.length_map,yX,List.length_zipIdx]
theorem mem_mapI {α β:Type} {f:Nat->α->List β} {y:β}:∀{l:List α} {i:Nat},y∈fR f i l↔∃k x,l[k]? =some x/\y∈f (i+k) x
 |[],i=>by simp [fR]
 |a::r,i=>by
  rw [fR,List.mem_append,mem_mapI]
  constructor
  ·rintro (h|⟨k,x,hk,hy⟩)
   ·exact ⟨0,a,rfl,h⟩
   ·exact ⟨k+1,x,by simpa using hk,by rw [show i+(k+1)=i+1+k by omega];exact hy⟩
  ·rintro ⟨k,x,hk,hy⟩
   cases k with
   |zero=>simp only [List.getElem?_cons_zero,Option.some.injEq] at hk;subst hk;exact .inl hy
   |succ k=>exact .inr ⟨k,x,by simpa using hk,by rw [show i+1+k=i+(k+1) by omega];exact hy⟩
theorem zOp {l:List Lifetime} {S:List Sl} {k:Nat} {s:Sl}:s∈bsy l S k↔∃i:Nat,S[i]? =some s/\0<s.Len/\i≠k/\jZ (lfA l i) (lfA l k)=true:=by
 unfold bsy
 rw [mem_mapI]
 constructor
 ·rintro ⟨i,x,hi,hy⟩
  unfold sJ at hy
  split at hy
  ·rename_i c
   rw [List.mem_singleton] at hy
   subst hy
   rw [Nat.zero_add] at c
   exact ⟨i,hi,c.1.1,by have:=c.1.2;omega,c.2⟩
  ·cases hy
 ·rintro ⟨i,hi,h1,h2,h3⟩
  refine ⟨i,s,hi,?_⟩
  unfold sJ
  rw [Nat.zero_add,if_pos ⟨⟨h1,by omega⟩,h3⟩]
  exact List.mem_singleton.2 rfl
def tQ (l:List Lifetime) (S:List Sl) (k:Nat) (x:Int):Prop:=∀s,s∈bsy l S k->¬hit (lfA l k).Size x s
theorem bsy_len {l:List Lifetime} {S:List Sl} {k:Nat} {s:Sl} (h:s∈bsy l S k):1<=s.Len:=by
 obtain ⟨i,_,h1,_⟩:=zOp.1 h;omega
theorem ffit_free (l:List Lifetime) (S:List Sl) (k:Nat):tQ l S k (mX l S k):=fun s hs=>
 scan_all _ _ _ (srtA_ord _) (fun t ht=>bsy_len (zLz.1 ht)) s (zLz.2 hs)
theorem ffit_pos (l:List Lifetime) (S:List Sl) (k:Nat):0<=mX l S k:=scan_ge _ _ _
theorem ffit_low {l:List Lifetime} {S:List Sl} {k:Nat} (hm:1<=(lfA l k).Size) {y:Int} (h:0<=y) (hf:tQ l S k y):mX l S k<=y:=by
 by_cases c:mX l S k<=y
 ·exact c
 ·obtain ⟨s,hs,hh⟩:=scan_low _ hm _ _ y h (show y<mX l S k by omega)
  exact absurd hh (hf s (zLz.1 hs))
theorem ffit_cand (l:List Lifetime) (S:List Sl) (k:Nat):mX l S k=0∨∃s,s∈bsy l S k/\mX l S k=s.At+s.Len:=by
 rcases scan_cand (lfA l k).Size (mP (bsy l S k)) 0 with h|⟨s,hs,h⟩
 ·exact .inl h
 ·exact .inr ⟨s,zLz.1 hs,h⟩
/-! ## The reference's search -/
def gX (p:Int->Bool) (q:Int×Bool) (x:Int):Int×Bool:=if (q.2=true/\q.1<=x) then q else if p x=true then (x,true) else q
theorem cnd_inv (p:Int->Bool):∀(c:List Int) (q:Int×Bool),(q.2=true->p q.1=true)->
  ((c.foldl (gX p) q).2=true->p (c.foldl (gX p) q).1=true)/\(q.2=true->(c.foldl (gX p) q).2=true/\(c.foldl (gX p) q).1<=q.1)/\
  (∀x,x∈c->p x=true->(c.foldl (gX p) q).2=true/\(c.foldl (gX p) q).1<=x)/\((c.foldl (gX p) q).2=true->(q.2=true/\(c.foldl (gX p) q).1=q.1)∨(c.foldl (gX p) q).1∈c)
 |[],q,h=>⟨h,fun h=>⟨h,Int.le_refl _⟩,fun x hx=>(by cases hx),fun h=>.inl ⟨h,rfl⟩⟩
 |a::c,q,h=>by
  have hq:(gX p q a).2=true->p (gX p q a).1=true:=by
   unfold gX;split
   ·exact h
   ·split
    ·intro _;assumption
    ·exact h
  obtain ⟨h1,h2,h3,h4⟩:=cnd_inv p c (gX p q a) hq
  rw [List.foldl_cons]
  refine ⟨h1,fun hq2=>?_,fun x hx hp=>?_,fun hr=>?_⟩
  ·have h5:(gX p q a).2=true/\(gX p q a).1<=q.1:=by
    unfold gX;split
    ·exact ⟨hq2,Int.le_refl _⟩
    ·rename_i c1
     split
     ·exact ⟨rfl,by have:¬q.1<=a:=fun k=>c1 ⟨hq2,k⟩;dsimp only;omega⟩
     ·exact ⟨hq2,Int.le_refl _⟩
   have h6:=h2 h5.1
   exact ⟨h6.1,by omega⟩
  ·rcases List.mem_cons.1 hx with rfl|hx
   ·have h5:(gX p q x).2=true/\(gX p q x).1<=x:=by
     unfold gX
     by_cases c1:q.2=true/\q.1<=x
     ·rw [if_pos c1];exact c1
     ·rw [if_neg c1,if_pos hp];exact ⟨rfl,Int.le_refl _⟩
    have h6:=h2 h5.1
    exact ⟨h6.1,by omega⟩
   ·exact h3 x hx hp
  ·rcases h4 hr with ⟨h5,h6⟩|h5
   ·rw [h6]
    unfold gX at h5⊢
    split
    ·rename_i c1;exact .inl ⟨c1.1,rfl⟩
    ·rename_i c1
     rw [if_neg c1] at h5
     split
     ·exact .inr (by simp)
     ·rename_i c2;rw [if_neg c2] at h5;exact .inl ⟨h5,rfl⟩
   ·exact .inr (by simp [h5])
theorem cnd_is {p:Int->Bool} {c:List Int} {x:Int} (h0:∀y,y∈c->0<=y) (hx:x∈c) (hp:p x=true) (hl:∀y,0<=y->p y=true->x<=y):c.foldl (gX p) (0,false)=(x,true):=by
 obtain ⟨h1,_,h3,h4⟩:=cnd_inv p c (0,false) (fun h=>by cases h)
 obtain ⟨h5,h6⟩:=h3 x hx hp
 have h7:=h1 h5
 rcases h4 h5 with ⟨h8,_⟩|h8
 ·cases h8
 ·have h9:=hl _ (h0 _ h8) h7
  exact Prod.ext (by dsimp only;omega) h5
end Go.Br
end
section
namespace Go.Br
open Go Go.Eng Go.L41
def atA (a:List Int) (k:Nat):Int:=a.getD k (-1)
def clB (p q:Lifetime) (x y:Int):Bool:=(((jZ p q&&decide (0<p.Size))&&decide (0<q.Size))&&decide (x<y+q.Size))&&decide (y<x+p.Size)
def frB (l:List Lifetime) (a:List Int) (k:Nat) (x:Int) (n:Nat):Bool:=(List.range n).all fun j=>decide (atA a j<0)|| !clB (lfA l k) (lfA l j) x (atA a j)
theorem frB_next (l:List Lifetime) (a:List Int) (k:Nat) (x:Int) (n:Nat):frB l a k x (n+1)=(frB l a k x n&&(decide (atA a n<0)|| !clB (lfA l k) (lfA l n) x (atA a n))):=by
 unfold frB;rw [List.range_succ,List.all_append];simp
def xJ (l:List Lifetime) (i:Nat) (y:Int):List Int:=if y<0 then [] else [y+(lfA l i).Size]
def vY (l:List Lifetime) (a:List Int):Nat->List Int
 |0=>[]
 |j+1=>0::fR (xJ l) 0 (a.take j)
def mV (l:List Lifetime) (a:List Int) (k j:Nat):Int×Bool:=(vY l a j).foldl (gX fun x=>frB l a k x l.length) (0,false)
theorem src_next {l:List Lifetime} {a:List Int} {k j:Nat} {y:Int} (h:a[j]? =some y):mV l a k (j+2)=if y<0 then mV l a k (j+1) else gX (fun x=>frB l a k x l.length) (mV l a k (j+1)) (y+(lfA l j).Size):=by
 unfold mV
 rw [vY,vY,wS _ h]
 unfold xJ
 by_cases c:y<0
 ·rw [if_pos c,if_pos c,List.append_nil]
 ·rw [if_neg c,if_neg c,List.foldl_cons,List.foldl_cons,List.foldl_append];rfl
theorem zQb (p q:Lifetime):jZ p q=jZ q p:=by unfold jZ;rw [Bool.and_comm]
structure PlI (l:List Lifetime) (t:Int) (a:List Int):Prop where
 len:a.length=l.length
 rng:∀(j:Nat) (y:Int),a[j]? =some y->y= -1∨(0<=y/\y+(lfA l j).Size<=t)
theorem atA_get {a:List Int} {k:Nat} {x:Int} (h:a[k]? =some x):atA a k=x:=by unfold atA;rw [List.getD_eq_getElem?_getD,h];rfl
theorem zFf {l:List Lifetime} {a:List Int} {k:Nat} {y:Int} (hl:a.length=l.length) (h:a[k]? =some y):(gQ l a)[k]? =some (slo (lfA l k) y):=by
 have hk:=zAz h
 obtain ⟨m,hm⟩:∃m,l[k]? =some m:=⟨l[k]'(by omega),List.getElem?_eq_getElem (by omega)⟩
 unfold gQ
 rw [List.getElem?_zipWith,hm,h,zLo hm]
theorem zDu {l:List Lifetime} {a:List Int} (hl:a.length=l.length):(gQ l a).length=l.length:=by
 unfold gQ;rw [List.length_zipWith];omega
theorem slos_of {l:List Lifetime} {a:List Int} {k:Nat} {s:Sl} (hl:a.length=l.length) (h:(gQ l a)[k]? =some s):∃y,a[k]? =some y/\s=slo (lfA l k) y:=by
 have hk:=zAz h
 rw [zDu hl] at hk
 obtain ⟨y,hy⟩:∃m,a[k]? =some m:=⟨a[k]'(by omega),List.getElem?_eq_getElem (by omega)⟩
 rw [zFf hl hy,Option.some.injEq] at h
 exact ⟨y,hy,h.symm⟩
theorem slos_set {l:List Lifetime} {a:List Int} {k:Nat} {x:Int} (hl:a.length=l.length):gQ l (a.set k x)=(gQ l a).set k (slo (lfA l k) x):=by
 apply List.ext_getElem?
 intro i
 by_cases hi:i<l.length
 ·have h1:(a.set k x)[i]? =some (if k=i then x else a[i]'(by omega)):=by
   rw [List.getElem?_set]
   by_cases c:k=i
   ·subst c;rw [if_pos rfl,if_pos rfl,if_pos (by omega)]
   ·rw [if_neg c,if_neg c];exact List.getElem?_eq_getElem (by omega)
  rw [zFf (by rw [List.length_set];exact hl) h1,List.getElem?_set,zDu hl]
  by_cases c:k=i
  ·subst c;rw [if_pos rfl,if_pos rfl,if_pos hi]
  ·rw [if_neg c,if_neg c,zFf hl (List.getElem?_eq_getElem (by omega))]
 ·rw [List.getElem?_eq_none (by rw [zDu (by rw [List.length_set];exact hl)];omega),List.getElem?_eq_none (by rw [List.length_set,zDu hl];omega)]
def pK (l:List Lifetime):Prop:=∀j:Nat,j<l.length->1<=(lfA l j).Size/\(lfA l j).Size<=4096
theorem valid_from:∀(r p:List Lifetime),fI p r=0->∀x,x∈r->1<=x.Size/\x.Size<=4096/\0<=x.From/\x.From<=x.To
 |[],p,_,x,hx=>by cases hx
 |a::r,p,h,x,hx=>by
  rw [fI] at h
  by_cases c:gP p a=0
  ·rw [if_pos c] at h
   rcases List.mem_cons.1 hx with rfl|hx
   ·unfold gP at c
    split at c
    ·cases c
    ·split at c
     ·cases c
     ·split at c
      ·cases c
      ·omega
   ·exact valid_from r _ h x hx
  ·rw [if_neg c] at h;exact absurd h c
theorem szOk_of {l:List Lifetime} (h:dT l=0):pK l:=fun j hj=>by
 have h1:l[j]? =some l[j]:=List.getElem?_eq_getElem hj
 rw [zLo h1]
 have:=valid_from l [] h l[j] (List.getElem_mem hj)
 omega
theorem frB_iff {l:List Lifetime} {a:List Int} {k:Nat} {x:Int} (hs:pK l) (hl:a.length=l.length) (hr:∀(j:Nat) (y:Int),a[j]? =some y->y= -1∨0<=y) (hk:a[k]? =some (-1)):frB l a k x l.length=true↔tQ l (gQ l a) k x:=by
 have hkl:=zAz hk
 unfold frB tQ
 rw [List.all_eq_true]
 constructor
 ·intro h s hs'
  obtain ⟨i,hi,h1,h2,h3⟩:=zOp.1 hs'
  obtain ⟨y,hy,rfl⟩:=slos_of hl hi
  have hil:=zAz hy
  have h4:=h i (List.mem_range.2 (by omega))
  rw [atA_get hy] at h4
  have hy0:¬y<0:=by
   intro c;unfold slo at h1;rw [if_pos c] at h1;simp [zSl] at h1
  have e:slo (lfA l i) y=⟨(lfA l i).Name,y,(lfA l i).Size⟩:=by unfold slo;rw [if_neg hy0]
  rw [e]
  unfold hit
  dsimp only
  rw [decide_eq_false hy0,Bool.false_or,Bool.not_eq_true'] at h4
  unfold clB at h4
  have s1:=hs k (by omega)
  have s2:=hs i (by omega)
  rw [zQb,h3,decide_eq_true (by omega:0<(lfA l k).Size),decide_eq_true (by omega:0<(lfA l i).Size)] at h4
  simp only [Bool.and_true,Bool.true_and,Bool.and_eq_false_iff,decide_eq_false_iff_not] at h4
  omega
 ·intro h j hj
  rw [List.mem_range] at hj
  obtain ⟨y,hy⟩:∃m,a[j]? =some m:=⟨a[j]'(by omega),List.getElem?_eq_getElem (by omega)⟩
  rw [atA_get hy]
  by_cases hy0:y<0
  ·rw [decide_eq_true hy0];rfl
  ·rw [decide_eq_false hy0,Bool.false_or,Bool.not_eq_true']
   have hjk:j≠k:=by rintro rfl;rw [hk,Option.some.injEq] at hy;omega
   have s2:=hs j hj
   have e:slo (lfA l j) y=⟨(lfA l j).Name,y,(lfA l j).Size⟩:=by unfold slo;rw [if_neg hy0]
   cases ho:jZ (lfA l k) (lfA l j) with
   |false=>unfold clB;rw [ho];rfl
   |true=>
    have hm:slo (lfA l j) y∈bsy l (gQ l a) k:=zOp.2 ⟨j,zFf hl hy,by rw [e];dsimp only;omega,hjk,by rw [zQb];exact ho⟩
    have:=h _ hm
    rw [e] at this
    unfold hit at this
    dsimp only at this
    unfold clB
    rw [ho]
    simp only [Bool.true_and,Bool.and_eq_false_iff,decide_eq_false_iff_not]
    omega
theorem slo_pos {m:Lifetime} {y:Int} (h:0<(slo m y).Len):¬y<0/\slo m y=⟨m.Name,y,m.Size⟩:=by
 unfold slo at h⊢
 by_cases c:y<0
 ·rw [if_pos c] at h;simp [zSl] at h
 ·rw [if_neg c];exact ⟨c,rfl⟩
theorem src_is {l:List Lifetime} {a:List Int} {k:Nat} {t:Int} (hs:pK l) (hp:PlI l t a) (hk:a[k]? =some (-1)):mV l a k (l.length+1)=(mX l (gQ l a) k,true):=by
 have hr:∀(j:Nat) (y:Int),a[j]? =some y->y= -1∨0<=y:=fun j y h=>by rcases hp.rng j y h with h|h;exact .inl h;exact .inr h.1
 have hkl:=zAz hk
 have hkl':=hp.len
 have hc:∀y,y∈vY l a (l.length+1)↔y=0∨∃j z,a[j]? =some z/\¬z<0/\y=z+(lfA l j).Size:=fun y=>by
  rw [vY,List.mem_cons,List.take_of_length_le (by omega),mem_mapI]
  constructor
  ·rintro (h|⟨j,z,hz,hy⟩)
   ·exact .inl h
   ·unfold xJ at hy
    rw [Nat.zero_add] at hy
    by_cases c:z<0
    ·rw [if_pos c] at hy;cases hy
    ·rw [if_neg c,List.mem_singleton] at hy;exact .inr ⟨j,z,hz,c,hy⟩
  ·rintro (h|⟨j,z,hz,c,hy⟩)
   ·exact .inl h
   ·exact .inr ⟨j,z,hz,by unfold xJ;rw [Nat.zero_add,if_neg c];exact List.mem_singleton.2 hy⟩
 unfold mV
 refine cnd_is (fun y hy=>?_) ((hc _).2 ?_) ((frB_iff hs hp.len hr hk).2 (ffit_free l _ k)) fun y hy hf=>ffit_low (hs k (by omega)).1 hy ((frB_iff hs hp.len hr hk).1 hf)
 ·rcases (hc y).1 hy with h|⟨j,z,hz,c,h⟩
  ·omega
  ·have:=hs j (by have:=zAz hz;omega);omega
 ·rcases ffit_cand l (gQ l a) k with h|⟨s,hs',h⟩
  ·exact .inl h
  ·obtain ⟨i,hi,h1,h2,h3⟩:=zOp.1 hs'
   obtain ⟨y,hy,rfl⟩:=slos_of hp.len hi
   obtain ⟨h4,h5⟩:=slo_pos h1
   rw [h5] at h
   exact .inr ⟨i,y,hy,h4,h⟩
/-! ## The order,the plan -/
def lZ (l:List Lifetime) (i:Nat):Int:= -(lfA l i).Size
def dI (l:List Lifetime):List Nat:=srt (lZ l) id (List.range l.length)
def plS (l:List Lifetime) (st:List Int×Int) (k:Nat):List Int×Int:=(st.1.set k (mX l (gQ l st.1) k),max st.2 (mX l (gQ l st.1) k+(lfA l k).Size))
def plF (l:List Lifetime) (o:List Nat):List Int×Int:=o.foldl (plS l) (List.replicate l.length (-1),0)
theorem zFm {l:List Lifetime} {o:List Nat} {t k:Nat} (h:o[t]? =some k):plF l (o.take (t+1))=plS l (plF l (o.take t)) k:=by
 unfold plF;rw [yD h,List.foldl_append];rfl
theorem zSr:∀n:Nat,(List.range n).Pairwise fun a b=>id a<id b:=fun n=>List.pairwise_lt_range
theorem zQt (l:List Lifetime):(dI l).Perm (List.range l.length):=zDe _
theorem zFx (l:List Lifetime):(dI l).length=l.length:=by unfold dI;rw [yX,List.length_range]
theorem ord_lt {l:List Lifetime} {t k:Nat} (h:(dI l)[t]? =some k):k<l.length:=List.mem_range.1 ((zQt l).mem_iff.1 (qE h))
theorem ord_nodup (l:List Lifetime):(dI l).Nodup:=(zQt l).nodup_iff.2 List.nodup_range
structure PlJ (l:List Lifetime) (t:Nat):Prop where
 pl:PlI l (4096*t) (plF l ((dI l).take t)).1
 sz:0<=(plF l ((dI l).take t)).2/\(plF l ((dI l).take t)).2<=4096*t
 no:∀k:Nat,k<l.length->k ∉ (dI l).take t->(plF l ((dI l).take t)).1[k]? =some (-1)
 ys:∀k:Nat,k∈(dI l).take t->∃y,(plF l ((dI l).take t)).1[k]? =some y/\0<=y/\y+(lfA l k).Size<=(plF l ((dI l).take t)).2
theorem ffit_le {l:List Lifetime} {a:List Int} {k:Nat} {t:Int} (hp:PlI l t a) (ht:0<=t):mX l (gQ l a) k<=t:=by
 rcases ffit_cand l (gQ l a) k with h|⟨s,hs',h⟩
 ·omega
 ·obtain ⟨i,hi,h1,h2,h3⟩:=zOp.1 hs'
  obtain ⟨y,hy,rfl⟩:=slos_of hp.len hi
  obtain ⟨h4,h5⟩:=slo_pos h1
  rw [h5] at h
  dsimp only at h
  rcases hp.rng i y hy with h6|h6
  ·omega
  ·omega
theorem not_take {o:List Nat} (hn:o.Nodup) {t k:Nat} (h:o[t]? =some k):k ∉ o.take t:=by
 have e:=yD h
 have h1:(o.take (t+1)).Nodup:=hn.sublist (List.take_sublist _ _)
 rw [e,List.nodup_append] at h1
 intro hk
 exact h1.2.2 k hk k (by simp) rfl
theorem plJ {l:List Lifetime} (hs:pK l):∀t:Nat,t<=l.length->PlJ l t
 |0,_=>by
  have e:plF l ((dI l).take 0)=(List.replicate l.length (-1),0):=rfl
  refine ⟨⟨by rw [e,List.length_replicate],fun j y h=>?_⟩,by rw [e];simp,fun k hk _=>?_,fun k hk=>by simp at hk⟩
  ·rw [e,List.getElem?_replicate] at h
   split at h
   ·rw [Option.some.injEq] at h;exact .inl h.symm
   ·cases h
  ·rw [e,List.getElem?_replicate,if_pos hk]
 |t+1,ht=>by
  have J:=plJ hs t (by omega)
  obtain ⟨k,hk⟩:∃k,(dI l)[t]? =some k:=⟨(dI l)[t]'(by rw [zFx];omega),List.getElem?_eq_getElem (by rw [zFx];omega)⟩
  have hkl:=ord_lt hk
  have hkn:=not_take (ord_nodup l) hk
  have h1:=ffit_le (k:=k) J.pl (by omega)
  have h2:=ffit_pos l (gQ l (plF l ((dI l).take t)).1) k
  have h3:=hs k hkl
  have hl:=J.pl.len
  have hsz:=J.sz
  constructor
  ·rw [zFm hk]
   unfold plS
   dsimp only
   refine ⟨by rw [List.length_set];exact hl,fun j y h=>?_⟩
   rw [List.getElem?_set] at h
   split at h
   ·rename_i c;subst c
    split at h
    ·rw [Option.some.injEq] at h;exact .inr ⟨by omega,by rw [←h];omega⟩
    ·cases h
   ·rcases J.pl.rng j y h with h4|h4
    ·exact .inl h4
    ·exact .inr ⟨h4.1,by omega⟩
  ·rw [zFm hk];unfold plS;dsimp only;omega
  ·intro j hj hn
   rw [yD hk] at hn
   rw [zFm hk];unfold plS;dsimp only
   rw [List.getElem?_set,if_neg (by rintro rfl;exact hn (by simp))]
   exact J.no j hj fun h=>hn (by simp [h])
  ·intro j hj
   rw [yD hk] at hj
   rw [zFm hk];unfold plS;dsimp only
   rw [List.getElem?_set]
   by_cases c:k=j
   ·subst c
    rw [if_pos rfl,if_pos (by omega)]
    exact ⟨_,rfl,h2,by omega⟩
   ·rw [if_neg c]
    obtain ⟨y,h4,h5,h6⟩:=J.ys j (by rcases List.mem_append.1 hj with hj|hj;exact hj;exact absurd (List.mem_singleton.1 hj).symm c)
    exact ⟨y,h4,h5,by omega⟩
theorem zGk {l:List Lifetime} {i:Nat} (h:i<l.length):l[i]? =some (lfA l i):=by
 unfold lfA;rw [List.getD_eq_getElem?_getD,List.getElem?_eq_getElem h];rfl
theorem zNx {a:List Int} {i:Nat} (h:i<a.length):a[i]? =some (atA a i):=by
 unfold atA;rw [List.getD_eq_getElem?_getD,List.getElem?_eq_getElem h];rfl
theorem slos_init (l:List Lifetime):gQ l (List.replicate l.length (-1))=List.replicate l.length zSl:=by
 apply List.ext_getElem?
 intro i
 by_cases hi:i<l.length
 ·rw [zFf (by simp) (show (List.replicate l.length (-1:Int))[i]? =some (-1) by rw [List.getElem?_replicate,if_pos hi]),List.getElem?_replicate,if_pos hi];rfl
 ·rw [List.getElem?_eq_none (by rw [zDu (by simp)];omega),List.getElem?_eq_none (by simp;omega)]
def slB (S:List Sl):Prop:=∀s,s∈S->0<=s.At/\s.At<=600000/\0<=s.Len/\s.Len<=4096
theorem PlI.sl {l:List Lifetime} {a:List Int} {t:Int} (h:PlI l t a) (hs:pK l) (ht:t<=600000):slB (gQ l a):=fun s hm=>by
 obtain ⟨i,hi,rfl⟩:=List.getElem_of_mem hm
 obtain ⟨y,hy,e⟩:=slos_of h.len (List.getElem?_eq_getElem hi)
 rw [e]
 have h1:=hs i (by have:=zAz hy;have:=h.len;omega)
 unfold slo
 split
 ·simp [zSl]
 ·rcases h.rng i y hy with h2|h2
  ·omega
  ·dsimp only;omega
theorem bsy_sub {l:List Lifetime} {S:List Sl} {k:Nat} (h:slB S):slB (bsy l S k):=fun s hs=>by
 obtain ⟨i,hi,_⟩:=zOp.1 hs
 exact h s (List.mem_of_getElem? hi)
theorem zQw {α β:Type} {f:Nat->α->List β} (h:∀i x,(f i x).length<=1):∀(l:List α) (i:Nat),(fR f i l).length<=l.length
 |[],i=>Nat.le_refl _
 |x::r,i=>by rw [fR,List.length_append,List.length_cons];have:=h i x;have:=zQw h r (i+1);omega
theorem bsyF_len (l:List Lifetime) (k i:Nat) (s:Sl):(sJ l k i s).length<=1:=by unfold sJ;split<;>simp
theorem bsy_len2 (l:List Lifetime) (S:List Sl) (k:Nat):(bsy l S k).length<=S.length:=zQw (bsyF_len l k) S 0
theorem zip_enc (b:List Sl):(b.zipIdx.map fun x=>x.1.cells)=b.map Sl.cells:=by
 rw [show (fun x:Sl×Nat=>x.1.cells)=Sl.cells ∘ Prod.fst from rfl,←List.map_map,List.zipIdx_map_fst]
theorem srt_enc (b:List Sl):((srt tZ Prod.snd b.zipIdx).map fun x=>x.1.cells)=(mP b).map Sl.cells:=by
 unfold mP;rw [List.map_map];rfl
theorem zip_inc (b:List Sl):b.zipIdx.Pairwise fun x y=>x.2<y.2:=(zRm b 0).1
theorem zip_mem {b:List Sl} {x:Sl×Nat} (h:x∈b.zipIdx):x.1∈b:=by
 have:x.1∈b.zipIdx.map Prod.fst:=List.mem_map.2 ⟨x,h,rfl⟩
 rwa [List.zipIdx_map_fst] at this
theorem scan_stop {m a:Int} {L:List Sl} {j:Nat} {s:Sl} (h:L[j]? =some s) (c:a+m<=s.At):jF m a (L.drop j)=a:=by rw [yB h,jF,if_pos c]
theorem scan_next {m a:Int} {L:List Sl} {j:Nat} {s:Sl} (h:L[j]? =some s) (c:¬a+m<=s.At):jF m a (L.drop j)=jF m (max a (s.At+s.Len)) (L.drop (j+1)):=by rw [yB h,jF,if_neg c]
theorem cnd_q {p:Int->Bool} {q:Int×Bool} {x:Int} (h:q.2=true/\q.1<=x):gX p q x=q:=by unfold gX;rw [if_pos h]
theorem cnd_t {p:Int->Bool} {q:Int×Bool} {x:Int} (h:¬(q.2=true/\q.1<=x)) (hp:p x=true):gX p q x=(x,true):=by unfold gX;rw [if_neg h,if_pos hp]
theorem cnd_f {p:Int->Bool} {q:Int×Bool} {x:Int} (h:¬(q.2=true/\q.1<=x)) (hp:p x=false):gX p q x=q:=by unfold gX;rw [if_neg h,if_neg (by rw [hp];simp)]
theorem range_next (l:List Lifetime) (i:Nat):srt (lZ l) id (List.range (i+1))=srt (lZ l) id (srt (lZ l) id (List.range i)++[i]):=by
 rw [List.range_succ,srt_front (zPq (by rw [←List.range_succ];exact zSr (i+1)))]
def hC (l:List Lifetime):List Sl×Int:=(gQ l (plF l (dI l)).1,(plF l (dI l)).2)
end Go.Br
end
section
namespace Go.Br
open Go Go.Eng Go.L41
theorem nodesL_of':∀{l:List Ex} {x:Ex},x∈bJ l->∃a,a∈l/\x∈bH a
 |a::r,x,h=>by
  rw [bJ] at h
  rcases List.mem_append.1 h with h|h
  ·exact ⟨a,by simp,h⟩
  ·obtain ⟨b,hb,hx⟩:=nodesL_of' h
   exact ⟨b,by simp [hb],hx⟩
/-! ## Types -/
def adT (l:List Ty) (t:Ty):List Ty:=if t∈l then l else l++[t]
theorem zQx {l:List Ty} {t:Ty}:tE l t=true↔t∈l:=by
 unfold tE;rw [List.any_eq_true]
 exact ⟨fun ⟨x,hx,h⟩=>by rw [of_decide_eq_true h];exact hx,fun h=>⟨t,h,decide_eq_true rfl⟩⟩
theorem adT_t {l:List Ty} {t:Ty} (h:tE l t=true):adT l t=l:=by unfold adT;rw [if_pos (zQx.1 h)]
theorem adT_f {l:List Ty} {t:Ty} (h:tE l t=false):adT l t=l++[t]:=by unfold adT;rw [if_neg (fun k=>by rw [zQx.2 k] at h;cases h)]
def dQ (l:List Ty) (e:Ex):List Ty:=if e.Op=1∨e.Op=12 then adT l e.Ty else if e.Op=2 then adT l iTy else l
mutual
def lN:Ex->List Ty->List Ty
 |.mk o n v t lf i av,l=>dG av (dQ l (.mk o n v t lf i av))
def dG:List Ex->List Ty->List Ty
 |[],l=>l
 |a::r,l=>dG r (lN a l)
end
theorem zJk (e:Ex) (l:List Ty):lN e l=dG e.Args (dQ l e):=by cases e;rw [lN];rfl
theorem exTyL_app:∀(a b:List Ex) (l:List Ty),dG (a++b) l=dG b (dG a l)
 |[],b,l=>rfl
 |x::r,b,l=>by rw [List.cons_append,dG,dG,exTyL_app r b]
theorem zDb {av:List Ex} {k:Nat} {x:Ex} (h:av[k]? =some x) (l:List Ty):dG (av.take (k+1)) l=lN x (dG (av.take k) l):=by
 rw [yD h,exTyL_app,dG,dG]
mutual
def pV:St->List Ty->List Ty
 |.mk o nm mn mk fo i e b,l=>dP b (lN e l)
def dP:List St->List Ty->List Ty
 |[],l=>l
 |s::r,l=>dP r (pV s l)
end
theorem stTy_eq (s:St) (l:List Ty):pV s l=dP s.Body (lN s.E l):=by cases s;rw [pV];rfl
theorem stTyL_app:∀(a b:List St) (l:List Ty),dP (a++b) l=dP b (dP a l)
 |[],b,l=>rfl
 |x::r,b,l=>by rw [List.cons_append,dP,dP,stTyL_app r b]
theorem stTyL_next {ss:List St} {k:Nat} {x:St} (h:ss[k]? =some x) (l:List Ty):dP (ss.take (k+1)) l=pV x (dP (ss.take k) l):=by
 rw [yD h,stTyL_app,dP,dP]
def nO (l:List Bf):List Ty:=l.foldl (fun l b=>adT l b.T) []
theorem bfTy_next {l:List Bf} {k:Nat} {b:Bf} (h:l[k]? =some b):nO (l.take (k+1))=adT (nO (l.take k)) b.T:=by
 unfold nO;rw [yD h,List.foldl_append];rfl
def jB (n:Ns):List Ty:=dP n.Body (nO n.Bufs)
theorem adT_sub (l:List Ty) (t:Ty):∀x,x∈l->x∈adT l t:=fun x hx=>by unfold adT;split;exact hx;simp [hx]
theorem adT_mem (l:List Ty) (t:Ty):t∈adT l t:=by unfold adT;split;assumption;simp
theorem adT_len (l:List Ty) (t:Ty):(adT l t).length<=l.length+1:=by unfold adT;split<;>simp
theorem exT1_sub (l:List Ty) (e:Ex):∀x,x∈l->x∈dQ l e:=fun x hx=>by
 unfold dQ;split
 ·exact adT_sub _ _ x hx
 ·split
  ·exact adT_sub _ _ x hx
  ·exact hx
theorem zEm (l:List Ty) (e:Ex):(dQ l e).length<=l.length+1:=by
 unfold dQ;split
 ·exact adT_len _ _
 ·split
  ·exact adT_len _ _
  ·omega
mutual
theorem exTy_sub:∀(e:Ex) (l:List Ty) (x:Ty),x∈l->x∈lN e l
 |.mk o n v t lf i av,l,x,hx=>by rw [lN];exact zJl av _ x (exT1_sub _ _ x hx)
theorem zJl:∀(av:List Ex) (l:List Ty) (x:Ty),x∈l->x∈dG av l
 |[],l,x,hx=>hx
 |a::r,l,x,hx=>by rw [dG];exact zJl r _ x (exTy_sub a l x hx)
end
mutual
theorem zRd:∀(e:Ex) (l:List Ty),(lN e l).length<=l.length+e.wt
 |.mk o n v t lf i av,l=>by
  rw [lN]
  have h1:=zCp av (dQ l (.mk o n v t lf i av))
  have h2:=zEm l (.mk o n v t lf i av)
  have h3:=Ex.wt_eq (.mk o n v t lf i av)
  have h4:(Ex.mk o n v t lf i av).Args=av:=rfl
  rw [h4] at h3
  omega
theorem zCp:∀(av:List Ex) (l:List Ty),(dG av l).length<=l.length+dK av
 |[],l=>by rw [dG,dK];omega
 |a::r,l=>by
  rw [dG,dK]
  have h1:=zCp r (lN a l);have h2:=zRd a l;omega
end
mutual
theorem stTy_sub:∀(s:St) (l:List Ty) (x:Ty),x∈l->x∈pV s l
 |.mk o nm mn mk fo i e b,l,x,hx=>by rw [pV];exact zIo b _ x (exTy_sub e l x hx)
theorem zIo:∀(ss:List St) (l:List Ty) (x:Ty),x∈l->x∈dP ss l
 |[],l,x,hx=>hx
 |a::r,l,x,hx=>by rw [dP];exact zIo r _ x (stTy_sub a l x hx)
end
mutual
theorem stTy_len:∀(s:St) (l:List Ty),(pV s l).length<=l.length+s.wt
 |.mk o nm mn mk fo i e b,l=>by
  rw [pV,St.wt]
  have h1:=zEr b (lN e l);have h2:=zRd e l;omega
theorem zEr:∀(ss:List St) (l:List Ty),(dP ss l).length<=l.length+bE ss
 |[],l=>by rw [dP,bE];omega
 |a::r,l=>by
  rw [dP,bE]
  have h1:=zEr r (pV a l);have h2:=stTy_len a l;omega
end
theorem bfTy_mem:∀(l:List Bf) (t0:List Ty),(∀x,x∈t0->x∈l.foldl (fun l b=>adT l b.T) t0)/\∀b,b∈l->b.T∈l.foldl (fun l b=>adT l b.T) t0
 |[],t0=>⟨fun x h=>h,fun b h=>by cases h⟩
 |a::r,t0=>by
  obtain ⟨h1,h2⟩:=bfTy_mem r (adT t0 a.T)
  rw [List.foldl_cons]
  refine ⟨fun x hx=>h1 x (adT_sub _ _ x hx),fun b hb=>?_⟩
  rcases List.mem_cons.1 hb with rfl|hb
  ·exact h1 _ (adT_mem _ _)
  ·exact h2 b hb
theorem zNv (l:List Bf):(nO l).length<=l.length:=by
 suffices h:∀(t0:List Ty),(l.foldl (fun l b=>adT l b.T) t0).length<=t0.length+l.length by have:=h [];simpa [nO] using this
 induction l with
 |nil=>intro t0;simp
 |cons a r ih=>intro t0;rw [List.foldl_cons,List.length_cons];have:=ih (adT t0 a.T);have:=adT_len t0 a.T;omega
def tyE (ty:List Ty) (e:Ex):Prop:=∀x,x∈bH e->(x.Op=1∨x.Op=12->x.Ty∈ty)/\(x.Op=2->iTy∈ty)
theorem tyE.mono {a b:List Ty} (h:∀x,x∈a->x∈b) {e:Ex} (he:tyE a e):tyE b e:=fun x hx=>⟨fun c=>h _ ((he x hx).1 c),fun c=>h _ ((he x hx).2 c)⟩
mutual
theorem exTy_all:∀(e:Ex) (l:List Ty),tyE (lN e l) e
 |.mk o n v t lf i av,l=>by
  intro x hx
  rw [zAl] at hx
  rw [lN]
  rcases List.mem_cons.1 hx with rfl|hx
  ·refine ⟨fun c=>zJl av _ _ ?_,fun c=>zJl av _ _ ?_⟩
   ·unfold dQ;rw [if_pos c];exact adT_mem _ _
   ·unfold dQ;rw [if_neg (by omega),if_pos c];exact adT_mem _ _
  ·obtain ⟨a,ha,hxa⟩:=nodesL_of' hx
   exact exTyL_all av _ a ha x hxa
theorem exTyL_all:∀(av:List Ex) (l:List Ty),∀a,a∈av->tyE (dG av l) a
 |[],l,a,ha=>by cases ha
 |b::r,l,a,ha=>by
  rw [dG]
  rcases List.mem_cons.1 ha with h|ha
  ·rw [h];exact (exTy_all b l).mono (zJl r _)
  ·exact exTyL_all r _ a ha
end
mutual
def tyS (ty:List Ty):St->Prop
 |.mk _ _ _ _ _ _ e b=>tyE ty e/\tySs ty b
def tySs (ty:List Ty):List St->Prop
 |[]=>True
 |s::r=>tyS ty s/\tySs ty r
end
mutual
theorem tyS.mono {a b:List Ty} (h:∀x,x∈a->x∈b):∀s:St,tyS a s->tyS b s
 |.mk o nm mn mk fo i e l,hs=>by rw [tyS] at hs⊢;exact ⟨hs.1.mono h,tySs.mono h l hs.2⟩
theorem tySs.mono {a b:List Ty} (h:∀x,x∈a->x∈b):∀l:List St,tySs a l->tySs b l
 |[],_=>by rw [tySs];trivial
 |s::r,hs=>by rw [tySs] at hs⊢;exact ⟨tyS.mono h s hs.1,tySs.mono h r hs.2⟩
end
mutual
theorem stTy_all:∀(s:St) (l:List Ty),tyS (pV s l) s
 |.mk o nm mn mk fo i e b,l=>by rw [pV,tyS];exact ⟨(exTy_all e l).mono (zIo b _),zSa b _⟩
theorem zSa:∀(ss:List St) (l:List Ty),tySs (dP ss l) ss
 |[],l=>by rw [tySs];trivial
 |s::r,l=>by rw [dP,tySs];exact ⟨tyS.mono (zIo r _) s (stTy_all s l),zSa r _⟩
end
theorem typN_bf (n:Ns):∀b,b∈n.Bufs->b.T∈jB n:=fun b hb=>zIo _ _ _ ((bfTy_mem n.Bufs []).2 b hb)
theorem typN_st (n:Ns):tySs (jB n) n.Body:=zSa _ _
theorem typN_len (n:Ns):(jB n).length<=n.Bufs.length+bE n.Body:=by
 unfold jB;have h1:=zEr n.Body (nO n.Bufs);have h2:=zNv n.Bufs;omega
/-! ## Expressions that are ready to be compiled -/
structure Rdy (g:Gn) (L:List ByteArray) (e:Ex):Prop where
 part:fM e=0
 nds:bZ g.n.Bufs L (bH e)=0
 tys:tyE g.ty e
def RdI (g:Gn) (L:List ByteArray) (x:Ix):Prop:=
 (x.From=bs []->jL L x.Lin=true)/\(¬x.From=bs []->bO g.n.Bufs x.From=true/\(g.dm x.From).length=x.At.length/\∀l,l∈x.At->jL L l=true)
theorem Rdy.arg {g:Gn} {L:List ByteArray} {e a:Ex} (h:Rdy g L e) (ha:a∈e.Args):Rdy g L a:=by
 have hs:∀x,x∈bH a->x∈bH e:=fun x hx=>by rw [zAl];exact List.mem_cons_of_mem _ (nodesL_of ha hx)
 exact ⟨zMp h.part ha,zJw.2 fun x hx=>zJw.1 h.nds x (hs x hx),fun x hx=>h.tys x (hs x hx)⟩
theorem Rdy.node {g:Gn} {L:List ByteArray} {e:Ex} (h:Rdy g L e):gC g.n.Bufs L e=0:=zJw.1 h.nds e (by rw [zAl];simp)
theorem nodeN_sc {B:List Bf} {sc:List ByteArray} {e:Ex} (h:gC B sc e=0):gN sc e=true:=by
 cases c:gN sc e with
 |true=>rfl
 |false=>rw [nodeN_9 c] at h;cases h
theorem Rdy.lin {g:Gn} {L:List ByteArray} {e:Ex} (h:Rdy g L e):jL L e.Lin=true:=by
 have:=nodeN_sc h.node
 unfold gN at this
 rw [Bool.and_eq_true] at this
 exact this.1
theorem gathL_mem {B:List Bf}:∀{l:List Ix},lT B l=0->∀x,x∈l->jR B x=0
 |a::r,h,x,hx=>by
  rw [lT] at h
  by_cases c:jR B a=0
  ·rw [if_pos c] at h
   rcases List.mem_cons.1 hx with rfl|hx
   ·exact c
   ·exact gathL_mem h x hx
  ·rw [if_neg c] at h;exact absurd h c
theorem Rdy.read {g:Gn} {L:List ByteArray} {e:Ex} (h:Rdy g L e) (ho:e.Op=3):bO g.n.Bufs e.Name=true/\(g.dm e.Name).length=e.Idx.length/\∀x,x∈e.Idx->RdI g L x:=by
 have hn:=h.node
 have hsc:=nodeN_sc hn
 cases c:bO g.n.Bufs e.Name with
 |false=>rw [nodeN_n hsc ho c] at hn;cases hn
 |true=>
  by_cases c2:(dF g.n.Bufs e.Name).Dims.length=e.Idx.length
  ·rw [zHl hsc ho c c2] at hn
   refine ⟨rfl,c2,fun x hx=>?_⟩
   unfold gN at hsc
   rw [Bool.and_eq_true] at hsc
   have h1:=(List.all_eq_true.1 hsc.2) x hx
   unfold vA at h1
   rw [Bool.and_eq_true] at h1
   refine ⟨fun _=>h1.1,fun hf=>?_⟩
   have h2:=gathL_mem hn x hx
   cases c3:bO g.n.Bufs x.From with
   |false=>rw [zTl hf c3] at h2;cases h2
   |true=>
    by_cases c4:(dF g.n.Bufs x.From).T.Kind=3
    ·by_cases c5:(dF g.n.Bufs x.From).Dims.length=x.At.length
     ·exact ⟨rfl,c5,fun l hl=>(List.all_eq_true.1 h1.2) l hl⟩
     ·rw [zNc hf c3 c4 c5] at h2;cases h2
    ·rw [zNd hf c3 c4] at h2;cases h2
  ·rw [nodeN_r hsc ho c c2] at hn;cases hn
theorem knd_mem {g:Gn} {L:List ByteArray} (hb:∀b,b∈g.n.Bufs->b.T∈g.ty) (e:Ex):Rdy g L e->bC e=false->knd g.n.Bufs e∈g.ty:=by
 induction e using Ex.ind with
 |_ e ih=>
  intro h hc
  have ht:=h.tys e (by rw [zAl];simp)
  have hn:=zMr (zAf h.part)
  have hop:=zLk (zAf h.part)
  have hcs:=zKf h.part
  rw [knd_eq]
  unfold sS
  by_cases c1:e.Op=1∨e.Op=12
  ·rw [if_pos c1];exact ht.1 c1
  rw [if_neg c1]
  by_cases c2:e.Op=2
  ·rw [if_pos c2];exact ht.2 c2
  rw [if_neg c2]
  by_cases c3:e.Op=3
  ·rw [if_pos c3];exact hb _ (bufD_mem (h.read c3).1).1
  rw [if_neg c3]
  have hcond:¬13<=e.Op:=by unfold bC at hc;simp at hc;omega
  by_cases c11:e.Op=11
  ·rw [if_pos c11]
   unfold bI at hn
   rw [if_neg (by omega),if_neg (by omega),if_pos c11] at hn
   match hA:e.Args,hn with
   |[a,b,c],_=>
    rw [hA] at hcs
    simp only [fC,Bool.and_true,Bool.and_eq_true,beq_iff_eq] at hcs
    exact ih b (by rw [hA];simp) (h.arg (by rw [hA];simp)) (by rw [hcs.2.1];simp [fG,c11])
   |[],hn=>simp at hn
   |[_],hn=>simp at hn
   |[_,_],hn=>simp at hn
   |_::_::_::_::_,hn=>simp at hn;omega
  ·rw [if_neg c11]
   have h1:1<=e.Args.length:=by
    unfold bI at hn
    by_cases k1:e.Op=1∨e.Op=2∨e.Op=3
    ·omega
    ·rw [if_neg k1] at hn
     by_cases k2:e.Op=8∨e.Op=12∨e.Op=18
     ·rw [if_pos k2] at hn;omega
     ·rw [if_neg k2,if_neg c11] at hn;omega
   match hA:e.Args,h1 with
   |a::r,_=>
    rw [hA,fC] at hcs
    simp only [Bool.and_eq_true,beq_iff_eq] at hcs
    exact ih a (by rw [hA];simp) (h.arg (by rw [hA];simp)) (by rw [hcs.1];unfold fG;simp;omega)
end Go.Br
end
section
namespace Go.Br
open Go Go.Eng Go.L41
mutual
def RdS (g:Gn):St->List ByteArray->Prop
 |.mk o nm mn mk fo i e b,L=>
  (o=1->(1<=mn/\mn<=65536)/\mG g b (L++[nm]))/\(o=4->Rdy g L e/\bC e=true/\mG g b L)/\
  (o=2∨o=3->Rdy g L e/\bC e=false/\Rdy g L (rdE (.mk o nm mn mk fo i e b)))/\(1<=o/\o<=4)
def mG (g:Gn):List St->List ByteArray->Prop
 |[],_=>True
 |s::r,L=>RdS g s L/\mG g r L
end
theorem RdS_eq (g:Gn) (s:St) (L:List ByteArray):RdS g s L=((s.Op=1->(1<=s.Many/\s.Many<=65536)/\mG g s.Body (L++[s.Name]))/\(s.Op=4->Rdy g L s.E/\bC s.E=true/\mG g s.Body L)/\
  (s.Op=2∨s.Op=3->Rdy g L s.E/\bC s.E=false/\Rdy g L (rdE s))/\(1<=s.Op/\s.Op<=4)):=by cases s;rw [RdS];rfl
theorem zNz {g:Gn}:∀{l:List St} {L:List ByteArray} {s:St},mG g l L->s∈l->RdS g s L
 |a::r,L,s,h,hs=>by
  rw [mG] at h
  rcases List.mem_cons.1 hs with rfl|hs
  ·exact h.1
  ·exact zNz h.2 hs
theorem Rdy.of {g:Gn} {L:List ByteArray} {e:Ex} (h:(dA g.n.Bufs L e).2=0) (ht:tyE g.ty e):Rdy g L e:=
 ⟨zJp (zTw h).1,(zTw h).2,ht⟩
theorem tyE_rd (ty:List Ty) (s:St):tyE ty (rdE s):=fun x hx=>by
 rw [zAl] at hx
 have h1:bJ (rdE s).Args=[]:=rfl
 rw [h1,List.mem_singleton] at hx
 subst hx
 exact ⟨fun c=>by have h3:(rdE s).Op=3:=rfl;omega,fun c=>by have h3:(rdE s).Op=3:=rfl;omega⟩
theorem stE_rdy {g:Gn} {U sc:List ByteArray} {s:St} (h:stE g.n.Bufs U sc s=0) (ht:tyE g.ty s.E):
  (s.Op=1->1<=s.Many/\s.Many<=65536)/\(s.Op=4->Rdy g sc s.E/\bC s.E=true)/\(s.Op=2∨s.Op=3->Rdy g sc s.E/\bC s.E=false/\Rdy g sc (rdE s))/\(1<=s.Op/\s.Op<=4):=by
 have hs:fL s=true:=by
  cases c:fL s with
  |true=>rfl
  |false=>rw [stE_5 c] at h;cases h
 have hs0:=hs
 unfold fL fS at hs0
 simp only [Bool.and_eq_true,Bool.or_eq_true,Bool.not_eq_true',Bool.and_eq_false_iff,Bool.or_eq_false_iff,Bool.not_eq_false',decide_eq_true_eq,decide_eq_false_iff_not] at hs0
 obtain ⟨⟨⟨⟨⟨⟨a1,a2⟩,a3⟩,a4⟩,a5⟩,a6⟩,a7⟩:=hs0
 by_cases h1:s.Op=1
 ·rw [stE_l hs h1] at h
  unfold mO at h
  split at h
  ·split at h
   ·cases h
   ·split at h
    ·cases h
    ·exact ⟨fun _=>by omega,fun c=>by omega,fun c=>by omega,by omega⟩
  ·cases h
 ·by_cases h4:s.Op=4
  ·rw [stE_i hs h4] at h
   unfold ifE at h
   by_cases c:(dA g.n.Bufs sc s.E).2=0
   ·rw [if_pos c] at h
    by_cases c2:bC s.E=true
    ·exact ⟨fun k=>by omega,fun _=>⟨Rdy.of c ht,c2⟩,fun k=>by omega,by omega⟩
    ·rw [if_neg c2] at h;cases h
   ·rw [if_neg c] at h;exact absurd h c
  ·rw [stE_s hs h1 h4] at h
   unfold gL at h
   by_cases c:(dA g.n.Bufs sc (rdE s)).2=0
   ·rw [if_pos c] at h
    split at h
    ·cases h
    ·by_cases c2:(dA g.n.Bufs sc s.E).2=0
     ·rw [if_pos c2] at h
      split at h
      ·cases h
      ·rename_i c3
       exact ⟨fun k=>absurd k h1,fun k=>absurd k h4,fun _=>⟨Rdy.of c2 ht,by cases q:bC s.E;rfl;exact absurd (.inl q) c3,Rdy.of c (tyE_rd _ s)⟩,by omega⟩
     ·rw [if_neg c2] at h;exact absurd h c2
   ·rw [if_neg c] at h;exact absurd h c
mutual
theorem chkS_rdy {g:Gn}:∀(s:St) (U sc:List ByteArray) (here:List Int),(lO g.n.Bufs U sc here s).E=0->tyS g.ty s->RdS g s sc
 |.mk o nm mn mk fo i e b,U,sc,here,h,ht=>by
  have h0:stE g.n.Bufs U sc (.mk o nm mn mk fo i e b)=0:=by
   by_cases c:stE g.n.Bufs U sc (.mk o nm mn mk fo i e b)=0
   ·exact c
   ·rw [chkS_no c] at h;exact absurd h c
  rw [chkS_in h0] at h
  rw [tyS] at ht
  obtain ⟨q1,q2,q3,q4⟩:=stE_rdy h0 ht.1
  have hb:=chkL_rdy b _ _ _ _ h ht.2
  rw [RdS_eq]
  refine ⟨fun c=>⟨q1 c,?_⟩,fun c=>⟨(q2 c).1,(q2 c).2,?_⟩,q3,q4⟩
  ·have e1:jX sc (.mk o nm mn mk fo i e b)=sc++[nm]:=zJc c
   rw [e1] at hb;exact hb
  ·have e1:jX sc (.mk o nm mn mk fo i e b)=sc:=zMs (fun k=>by rw [c] at k;cases k)
   rw [e1] at hb;exact hb
theorem chkL_rdy {g:Gn}:∀(l:List St) (U sc:List ByteArray) (way:List Int) (i:Int),(dV g.n.Bufs U sc way i l).E=0->tySs g.ty l->mG g l sc
 |[],_,_,_,_,_,_=>by rw [mG];trivial
 |s::r,U,sc,way,i,h,ht=>by
  have h0:(lO g.n.Bufs U sc (way++[i]) s).E=0:=by
   by_cases c:(lO g.n.Bufs U sc (way++[i]) s).E=0
   ·exact c
   ·rw [dV,if_neg c] at h;exact absurd h c
  rw [dV,if_pos h0] at h
  rw [tySs] at ht
  rw [mG]
  exact ⟨chkS_rdy s _ _ _ h0 ht.1,chkL_rdy r _ _ _ _ h ht.2⟩
end
theorem valid_rdy {g:Gn} (h:(bY g.n).2=0) (ht:g.ty=jB g.n):mG g g.n.Body []:=
 chkL_rdy g.n.Body [] [] [] 0 (valid_parts h).2.2.2 (by rw [ht];exact typN_st g.n)
/-! ## The slots of a nest -/
def gnN (n:Ns):Gn:=⟨n,jB n,(hC (bL n)).1⟩
structure Gn.Ok (g:Gn):Prop where
 hn:g.n.Ok
 ty:∀b,b∈g.n.Bufs->b.T∈g.ty
 tl:g.ty.length<=4000000
 dims:∀b,b∈g.n.Bufs->bW b.Dims=0
 nb:g.n.Bufs.length<=128
 sl:g.sl.length=g.n.Bufs.length
 at_:∀(i:Nat) b,g.n.Bufs[i]? =some b->∃y,g.sl[i]? =some ⟨b.Name,y,dE b.Dims⟩/\0<=y/\y<=600000
theorem slD_next {l:List Sl} {k:Nat} {x:Sl} {s:ByteArray} (h:l[k]? =some x) (hp:∀(i:Nat) z,i<k->l[i]? =some z->¬z.Name=s) (hx:x.Name=s):slD l s=x:=by
 induction l generalizing k with
 |nil=>simp at h
 |cons a r ih=>
  rw [slD]
  cases k with
  |zero=>simp only [List.getElem?_cons_zero,Option.some.injEq] at h;subst h;rw [if_pos hx]
  |succ k=>
   rw [if_neg (hp 0 a (by omega) rfl)]
   exact ih (by simpa using h) fun i z hi hz=>hp (i+1) z (by omega) (by simpa using hz)
theorem Gn.Ok.slot {g:Gn} (h:g.Ok) {i:Nat} {b:Bf} (hb:g.n.Bufs[i]? =some b) (hp:bO (g.n.Bufs.take i) b.Name=false):g.sl[i]? =some (slD g.sl b.Name)/\(slD g.sl b.Name).Len=dE b.Dims/\0<=(slD g.sl b.Name).At/\(slD g.sl b.Name).At<=600000:=by
 obtain ⟨y,hy,h1,h2⟩:=h.at_ i b hb
 have e:=slD_next (s:=b.Name) hy (fun j z hj hz=>by
  obtain ⟨c,hc⟩:∃c,g.n.Bufs[j]? =some c:=qU _ _ (by have:=zAz hb;omega)
  obtain ⟨y',hy',_⟩:=h.at_ j c hc
  rw [hy',Option.some.injEq] at hz
  subst hz
  intro k
  have:=hasBf_lt hc hj k
  rw [this] at hp;cases hp) rfl
 rw [e]
 exact ⟨hy,rfl,h1,h2⟩
theorem bufD_first:∀{l:List Bf} {s:ByteArray},bO l s=true->∃i:Nat,l[i]? =some (dF l s)/\bO (l.take i) s=false/\(dF l s).Name=s
 |[],s,h=>by simp [bO] at h
 |a::r,s,h=>by
  by_cases c:a.Name=s
  ·exact ⟨0,by rw [dF,if_pos c];rfl,rfl,by rw [dF,if_pos c];exact c⟩
  ·have h1:bO r s=true:=by simpa [bO,c] using h
   obtain ⟨i,h2,h3,h4⟩:=bufD_first h1
   rw [dF,if_neg c]
   exact ⟨i+1,by simpa using h2,by simp only [List.take_succ_cons,bO,List.any_cons,decide_eq_false c,Bool.false_or];exact h3,h4⟩
theorem Gn.Ok.plc {g:Gn} (h:g.Ok) {s:ByteArray} (hs:bO g.n.Bufs s=true):(slD g.sl s).Len=dE (g.dm s)/\0<=g.bs_ s/\g.bs_ s<=600000/\1<=(slD g.sl s).Len/\(slD g.sl s).Len<=4096/\bW (g.dm s)=0/\(g.dm s).length<=6:=by
 obtain ⟨i,h1,h2,h3⟩:=bufD_first hs
 have h4:=h.slot h1 (by rw [h3];exact h2)
 rw [h3] at h4
 have h5:=h.dims _ (qE h1)
 obtain ⟨h6,_,z,h7,h8⟩:=zGs h5
 have h9:=zFa h5 h7
 rw [h9] at h4
 have e:dE (g.dm s)=z:=h9
 exact ⟨by rw [e];exact h4.2.1,h4.2.2.1,h4.2.2.2,by omega,by omega,h5,h6⟩
theorem zDs (n:Ns):(bL n).length=n.Bufs.length:=by unfold bL;rw [List.length_map]
theorem gnN_ok {n:Ns} (hn:n.Ok) (hv:(bY n).2=0) (hl:n.Bufs.length<=40) (hw:bE n.Body<=900000):(gnN n).Ok:=by
 have hs:=szOk_of (zHo hv)
 have J:=plJ hs (bL n).length (Nat.le_refl _)
 have htk:(dI (bL n)).take (bL n).length=dI (bL n):=List.take_of_length_le (by rw [zFx];omega)
 have Jl:=J.pl;have Js:=J.sz;have Jy:=J.ys
 rw [htk] at Jl Js Jy
 have hb:=(valid_bufs hv).1
 refine ⟨hn,typN_bf n,by have:=typN_len n;show (jB n).length<=_;omega,fun b hbm=>?_,by show n.Bufs.length<=128;omega,?_,fun i b hi=>?_⟩
 ·obtain ⟨i,hi,rfl⟩:=List.getElem_of_mem hbm
  exact (bfErr_inv (bufs_in hb i _ (List.getElem?_eq_getElem hi))).2.2
 ·show (gQ (bL n) (plF (bL n) (dI (bL n))).1).length=_
  rw [zDu Jl.len,zDs];rfl
 ·have hi':n.Bufs[i]? =some b:=hi
  have hil:i<n.Bufs.length:=zAz hi'
  have hlv:(bL n)[i]? =some (dU n.Body b):=by unfold bL;rw [List.getElem?_map,hi'];rfl
  obtain ⟨y,h1,h2,h3⟩:=Jy i ((zQt (bL n)).mem_iff.2 (List.mem_range.2 (by rw [zDs];omega)))
  refine ⟨y,?_,h2,?_⟩
  ·show (gQ (bL n) (plF (bL n) (dI (bL n))).1)[i]? =_
   rw [zFf Jl.len h1,zLo hlv]
   unfold slo
   rw [if_neg (by omega)];rfl
  ·have h4:=(hs i (by rw [zDs];omega)).1
   have h5:=Js.2
   have h6:=zDs n
   omega
/-! ## Numbers that fit -/
def nN (n:Int):Bool:=decide (n<=2147483647)&&decide (-2147483647<=n)
def hM (f:Lf):Bool:=nN f.K&&f.L.all fun m=>nN m.By
def lM (x:Ix):Bool:=hM x.Lin&&x.At.all hM
mutual
def lH:Ex->Bool
 |.mk _ _ _ _ lf i av=>hM lf&&i.all lM&&tR av
def tR:List Ex->Bool
 |[]=>true
 |a::r=>lH a&&tR r
end
theorem fitEs_eq (l:List Ex):tR l=l.all lH:=by
 induction l with
 |nil=>rfl
 |cons a r ih=>rw [tR,ih];rfl
theorem zLp (e:Ex):lH e=(hM e.Lin&&e.Idx.all lM&&e.Args.all lH):=by cases e;rw [lH,fitEs_eq];rfl
mutual
def sE:St->Bool
 |.mk _ _ _ _ _ i e b=>i.all lM&&lH e&&gA b
def gA:List St->Bool
 |[]=>true
 |a::r=>sE a&&gA r
end
theorem fitTs_eq (l:List St):gA l=l.all sE:=by
 induction l with
 |nil=>rfl
 |cons a r ih=>rw [gA,ih];rfl
theorem fitT_eq (s:St):sE s=(s.Idx.all lM&&lH s.E&&gA s.Body):=by cases s;rw [sE];rfl
/-! ## The answer -/
structure Un where
 Code:List In
 Types:List Ty
 Slots:List Sl
 Words:Int
def zUn:Un:=⟨[],[],[],0⟩
def lJ (n:Ns):Un×Int:=
 if ¬(bY n).2=0 then (zUn,(bY n).2) else if 256<(jB n).length then (zUn,2) else if gA n.Body=false then (zUn,3) else
 if 65536<(xE (gnN n) (bL n)).length then (zUn,2) else (⟨xE (gnN n) (bL n),jB n,(hC (bL n)).1,(hC (bL n)).2⟩,0)
end Go.Br
end
section
namespace Go.Br
open Go Go.Eng Go.L41
/-! ## Where an instruction stands -/
def psI (i:Nat):Int:=if i<65536 then i else 0
def hrI (i:Nat):Int:=min (i:Int) 65536
theorem Em.hr {pre code:List In} {full:Bool} (h:Em pre code full):(code.length:Int)=hrI pre.length:=by
 have:=h.len;unfold hrI;omega
theorem Em.ps {pre code:List In} {full:Bool} (h:Em pre code full) (hl:¬65536<=(code.length:Int)) (i:In):(((code++[i]).length:Int)-1)=psI pre.length:=by
 have:=h.len
 rw [List.length_append,List.length_singleton]
 unfold psI
 rw [if_pos (by omega)];omega
theorem Em.ps0 {pre code:List In} {full:Bool} (h:Em pre code full) (hl:65536<=(code.length:Int)):(0:Int)=psI pre.length:=by
 have:=h.len
 unfold psI
 rw [if_neg (by omega)]
theorem Em.jmp {pre code:List In} {full:Bool} (h:Em pre code full) {i:Nat} (hi:i<pre.length) (hf:full=false):psI i=i/\i<code.length/\Em (gR pre i pre.length) (gR code i code.length) full:=by
 obtain ⟨h1,h2⟩:=h.ok hf
 refine ⟨by unfold psI;rw [if_pos (by omega)],by rw [h1];exact hi,?_⟩
 unfold Em
 rw [zGm,if_pos h2,h1]
 exact ⟨rfl,hf⟩
theorem Em.jmp0 {pre code:List In} (h:Em pre code true) (i:Nat) (a:Int):Em (gR pre i a) code true:=by
 have:=h.no rfl
 unfold Em
 rw [zGm,if_neg (by omega)]
 exact ⟨this.2,rfl⟩
theorem Em.pat {pre code:List In} {full:Bool} (h:Em pre code full) {i:Nat} (hi:i<pre.length) (hc:hrI i<(code.length:Int)):Em (gR pre i pre.length) (gR code (hrI i).toNat code.length) full:=by
 have hl:=h.len
 cases hf:full with
 |false=>
  obtain ⟨h1,h2⟩:=h.ok hf
  have e:(hrI i).toNat=i:=by unfold hrI;omega
  rw [e]
  unfold Em
  rw [zGm,if_pos h2,h1]
  exact ⟨rfl,rfl⟩
 |true=>
  have:=h.no hf
  unfold Em
  rw [zGm,zGm,if_neg (by omega)]
  exact ⟨this.2,rfl⟩
theorem Em.pat0 {pre code:List In} {full:Bool} (h:Em pre code full) {i:Nat} (hi:i<pre.length) (hc:¬hrI i<(code.length:Int)):Em (gR pre i pre.length) code full:=by
 have hl:=h.len
 cases hf:full with
 |false=>
  obtain ⟨h1,h2⟩:=h.ok hf
  exfalso;apply hc;unfold hrI;rw [h1];omega
 |true=>rw [hf] at h;exact h.jmp0 i _
theorem jmp_rows {l:List In} {i:Nat} {x:In} {a:Int} (h:l[i]? =some x):(gR l i a).map In.cells=(l.map In.cells).set i ({ x with A:=a }:In).cells:=by
 unfold gR;rw [h];dsimp only;rw [List.map_set]
theorem zNa (P Q:List In) (x:In) (a:Int) {i:Nat} (h:i=P.length):gR (P++[x]++Q) i a=P++[{ x with A:=a }]++Q:=by
 subst h
 rw [List.append_assoc,List.singleton_append,jmpTo_at];simp
theorem hr_in {n:Nat} (h:n<65536):hrI n=n:=by unfold hrI;omega
/-! ## Expressions,case by case -/
theorem val_1 {g:Gn} {L:List ByteArray} {e:Ex} (h:e.Op=1) (p k b:Int):fB g L e p k b=[⟨9,k,0,0,e.Val,zTy⟩]:=by unfold fB;rw [zKv];dsimp only;unfold rV;rw [if_pos h]
theorem val_2 {g:Gn} {L:List ByteArray} {e:Ex} (h:e.Op=2) (p k b:Int):fB g L e p k b=rK L e.Lin 101++[iN 16 k 101 0]:=by unfold fB;rw [zKv];dsimp only;unfold rV;rw [if_neg (by omega),if_pos h]
theorem val_3 {g:Gn} {L:List ByteArray} {e:Ex} (h:e.Op=3) (p k b:Int):fB g L e p k b=xB g L e.Name e.Idx++[iA 10 k 100 (g.bs_ e.Name) (g.en e.Name)]:=by
 unfold fB;rw [zKv];dsimp only;unfold rV;rw [if_neg (by omega),if_neg (by omega),if_pos h]
theorem val_8 {g:Gn} {L:List ByteArray} {e a:Ex} (h:e.Op=8) (ha:e.Args=[a]) (p k b:Int):fB g L e p k b=fB g L a p k b++[iO 12 8 k k 0 (knd g.n.Bufs a)]:=by
 unfold fB;rw [zKv g L e];dsimp only;unfold rV;rw [if_neg (by omega),if_neg (by omega),if_neg (by omega),if_pos h,ha];rfl
theorem val_12 {g:Gn} {L:List ByteArray} {e a:Ex} (h:e.Op=12) (ha:e.Args=[a]) (p k b:Int):fB g L e p k b=fB g L a p k b++[iO 13 (vC g.ty (knd g.n.Bufs a)) k k 0 e.Ty]:=by
 unfold fB;rw [zKv g L e];dsimp only;unfold rV;rw [if_neg (by omega),if_neg (by omega),if_neg (by omega),if_neg (by omega),if_pos h,ha];rfl
theorem val_11 {g:Gn} {L:List ByteArray} {e a c d:Ex} (h:e.Op=11) (ha:e.Args=[a,c,d]) (p k b:Int):fB g L e p k b=ifC (cgE g L a) (cgE g L c) (cgE g L d) p k b:=by
 unfold fB;rw [zKv g L e];dsimp only;unfold rV;rw [if_neg (by omega),if_neg (by omega),if_neg (by omega),if_neg (by omega),if_neg (by omega),if_pos h,ha];rfl
theorem val_o {g:Gn} {L:List ByteArray} {e a c:Ex} (h1:¬e.Op=1) (h2:¬e.Op=2) (h3:¬e.Op=3) (h8:¬e.Op=8) (h12:¬e.Op=12) (h11:¬e.Op=11) (ha:e.Args=[a,c]) (p k b:Int):
  fB g L e p k b=fB g L a p k b++fB g L c (p+(fB g L a p k b).length) (k+1) b++[iO 12 e.Op k k (k+1) (knd g.n.Bufs a)]:=by
 unfold fB;rw [zKv g L e];dsimp only;unfold rV;rw [if_neg h1,if_neg h2,if_neg h3,if_neg h8,if_neg h12,if_neg h11,ha];rfl
theorem tst_18 {g:Gn} {L:List ByteArray} {e a:Ex} (h:e.Op=18) (ha:e.Args=[a]) (p k b:Int):jC g L e p k b=jC g L a p k b++[iN 4 b b (-1),iN 1 (b+1) 1 0,iN 3 b b (b+1)]:=by
 unfold jC;rw [zKv g L e];dsimp only;unfold vK;rw [if_pos h,ha];rfl
theorem tst_a {g:Gn} {L:List ByteArray} {e a c:Ex} (h:e.Op=16∨e.Op=17) (ha:e.Args=[a,c]) (p k b:Int):
  jC g L e p k b=jC g L a p k b++jC g L c (p+(jC g L a p k b).length) k (b+1)++[iN (if e.Op=17 then 6 else 5) b b (b+1)]:=by
 unfold jC;rw [zKv g L e];dsimp only;unfold vK;rw [if_neg (by omega),if_pos h,ha];rfl
theorem tst_o {g:Gn} {L:List ByteArray} {e a c:Ex} (h1:¬e.Op=18) (h:¬(e.Op=16∨e.Op=17)) (ha:e.Args=[a,c]) (p k b:Int):
  jC g L e p k b=tI (cgE g L a) (cgE g L c) p k b++[iN 1 b 0 0,iO 14 e.Op (p+(tI (cgE g L a) (cgE g L c) p k b).length+3) k (k+1) (knd g.n.Bufs a),iN 1 b 1 0]:=by
 unfold jC;rw [zKv g L e];dsimp only;unfold vK;rw [if_neg h1,if_neg h,ha];rfl
/-! ## Jumps that are set later -/
theorem lenI (a:List In) (b:List In):((a++b).length:Int)=a.length+b.length:=by rw [List.length_append];omega
theorem len1 (x:In):(([x]:List In).length:Int)=1:=rfl
theorem tst_set {g:Gn} {L:List ByteArray} {e a c:Ex} (h1:¬e.Op=18) (h:¬(e.Op=16∨e.Op=17)) (ha:e.Args=[a,c]) (pre:List In) (k b:Int):
  gR (pre++fB g L a pre.length k b++fB g L c (pre++fB g L a pre.length k b).length (k+1) b++[iN 1 b 0 0]++[iO 14 e.Op 0 k (k+1) (knd g.n.Bufs a)]++[iN 1 b 1 0])
   (pre++fB g L a pre.length k b++fB g L c (pre++fB g L a pre.length k b).length (k+1) b++[iN 1 b 0 0]).length
   (pre++fB g L a pre.length k b++fB g L c (pre++fB g L a pre.length k b).length (k+1) b++[iN 1 b 0 0]++[iO 14 e.Op 0 k (k+1) (knd g.n.Bufs a)]++[iN 1 b 1 0]).length=
  pre++jC g L e pre.length k b:=by
 rw [zNa _ _ _ _ rfl,tst_o h1 h ha]
 have e1:((pre++fB g L a pre.length k b).length:Int)=pre.length+(fB g L a pre.length k b).length:=lenI _ _
 rw [e1]
 have e2:fB g L a pre.length k b++fB g L c (pre.length+(fB g L a pre.length k b).length) (k+1) b=tI (cgE g L a) (cgE g L c) pre.length k b:=rfl
 have e3:∀q:List In,pre++fB g L a pre.length k b++fB g L c (pre.length+(fB g L a pre.length k b).length) (k+1) b++q=pre++(tI (cgE g L a) (cgE g L c) pre.length k b++q):=fun q=>by rw [←e2];simp
 rw [e3]
 simp only [lenI,len1,List.append_assoc,List.singleton_append,iO]
 congr 5<;>omega
def ifA (g0:G2) (pre:List In) (k b:Int):List In:=pre++g0.t pre.length k b
def ifB (g0:G2) (pre:List In) (k b:Int):List In:=ifA g0 pre k b++[iN 1 (b+1) 1 0]
def ifD (g0:G2) (pre:List In) (k b:Int):List In:=ifB g0 pre k b++[iN 8 0 b (b+1)]
def sC (g0 g1:G2) (pre:List In) (k b:Int):List In:=ifD g0 pre k b++g1.v (ifD g0 pre k b).length k b
def ifF (g0 g1:G2) (pre:List In) (k b:Int):List In:=sC g0 g1 pre k b++[iN 7 0 0 0]
def ifG (g0 g1:G2) (pre:List In) (k b:Int):List In:=gR (ifF g0 g1 pre k b) (ifB g0 pre k b).length (ifF g0 g1 pre k b).length
def ifH (g0 g1 g2:G2) (pre:List In) (k b:Int):List In:=ifG g0 g1 pre k b++g2.v (ifG g0 g1 pre k b).length k b
def ifI (g0 g1 g2:G2) (pre:List In) (k b:Int):List In:=gR (ifH g0 g1 g2 pre k b) (sC g0 g1 pre k b).length (ifH g0 g1 g2 pre k b).length
theorem ifG_eq (g0 g1:G2) (pre:List In) (k b:Int):ifG g0 g1 pre k b=ifB g0 pre k b++[iN 8 (ifF g0 g1 pre k b).length b (b+1)]++g1.v (ifD g0 pre k b).length k b++[iN 7 0 0 0]:=by
 unfold ifG
 rw [show ifF g0 g1 pre k b=ifB g0 pre k b++[iN 8 0 b (b+1)]++(g1.v (ifD g0 pre k b).length k b++[iN 7 0 0 0]) by unfold ifF sC;rw [List.append_assoc];rfl,zNa _ _ _ _ rfl]
 simp only [List.append_assoc]
 rfl
theorem ifG_len (g0 g1:G2) (pre:List In) (k b:Int):(ifG g0 g1 pre k b).length=(ifF g0 g1 pre k b).length:=zGm _ _ _
theorem ifI_eq (g0 g1 g2:G2) (pre:List In) (k b:Int):ifI g0 g1 g2 pre k b=pre++ifC g0 g1 g2 pre.length k b:=by
 have d:((ifD g0 pre k b).length:Int)=pre.length+(g0.t pre.length k b).length+2:=by unfold ifD ifB ifA;simp only [lenI,len1];omega
 have f:((ifF g0 g1 pre k b).length:Int)=pre.length+(g0.t pre.length k b).length+2+(g1.v (pre.length+(g0.t pre.length k b).length+2) k b).length+1:=by
  unfold ifF sC;simp only [lenI,len1,d]
 have hh:((ifH g0 g1 g2 pre k b).length:Int)=pre.length+(g0.t pre.length k b).length+2+(g1.v (pre.length+(g0.t pre.length k b).length+2) k b).length+1+(g2.v (pre.length+(g0.t pre.length k b).length+2+(g1.v (pre.length+(g0.t pre.length k b).length+2) k b).length+1) k b).length:=by
  unfold ifH;simp only [lenI,ifG_len,f]
 unfold ifI
 rw [show ifH g0 g1 g2 pre k b=(ifB g0 pre k b++[iN 8 (ifF g0 g1 pre k b).length b (b+1)]++g1.v (ifD g0 pre k b).length k b)++[iN 7 0 0 0]++g2.v (ifG g0 g1 pre k b).length k b by unfold ifH;rw [ifG_eq],
  zNa _ _ _ _ (by unfold sC ifD;simp only [List.length_append,List.length_singleton])]
 rw [←show ifH g0 g1 g2 pre k b=(ifB g0 pre k b++[iN 8 (ifF g0 g1 pre k b).length b (b+1)]++g1.v (ifD g0 pre k b).length k b)++[iN 7 0 0 0]++g2.v (ifG g0 g1 pre k b).length k b by unfold ifH;rw [ifG_eq]]
 rw [hh,ifG_len,f,d]
 unfold ifB ifA ifC iN
 simp only [List.append_assoc,List.singleton_append,List.cons_append,List.nil_append]
def cfA (c:Int->List In) (pre:List In):List In:=pre++c pre.length++[iN 1 121 1 0]
def cfB (c:Int->List In) (pre:List In):List In:=cfA c pre++[iN 8 0 120 121]
def cfC (c b:Int->List In) (pre:List In):List In:=cfB c pre++b (cfB c pre).length
theorem cf_set (c b:Int->List In) (pre:List In):gR (cfC c b pre) (cfA c pre).length (cfC c b pre).length=pre++vV (c pre.length) b pre.length:=by
 have d:((cfB c pre).length:Int)=pre.length+(c pre.length).length+2:=by unfold cfB cfA;simp only [lenI,len1];omega
 have f:((cfC c b pre).length:Int)=pre.length+(c pre.length).length+2+(b (pre.length+(c pre.length).length+2)).length:=by unfold cfC;simp only [lenI,d]
 rw [f,show cfC c b pre=cfA c pre++[iN 8 0 120 121]++b (cfB c pre).length from rfl,zNa _ _ _ _ rfl,d]
 unfold cfA vV iN
 simp only [List.append_assoc,List.singleton_append,List.cons_append,List.nil_append]
theorem zEg {l:List Ex}:∀{k:Nat} {x:Ex},l[k]? =some x->dK (l.take k)+x.wt<=dK l:=by
 induction l with
 |nil=>intro k x h;simp at h
 |cons a r ih=>
  intro k x h
  cases k with
  |zero=>simp only [List.getElem?_cons_zero,Option.some.injEq] at h;subst h;simp [dK]
  |succ k=>
   have:=ih (k:=k) (x:=x) (by simpa using h)
   simp only [List.take_succ_cons,dK];omega
theorem zQm {l:List St}:∀{k:Nat} {x:St},l[k]? =some x->bE (l.take k)+x.wt<=bE l:=by
 induction l with
 |nil=>intro k x h;simp at h
 |cons a r ih=>
  intro k x h
  cases k with
  |zero=>simp only [List.getElem?_cons_zero,Option.some.injEq] at h;subst h;simp [bE]
  |succ k=>
   have:=ih (k:=k) (x:=x) (by simpa using h)
   simp only [List.take_succ_cons,bE];omega
/-! ## Strides -/
def fE (d:List Int):Int:=d.foldr (· * ·) 1
theorem zMo:∀{d:List Int},d.all lL=true->1<=fE d
 |[],_=>Int.le_refl _
 |n::r,h=>by
  simp only [List.all_cons,Bool.and_eq_true] at h
  have hn:1<=n:=by simpa [lL] using h.1
  exact (zDw hn (zMo h.2)).1
theorem zMg:∀{d:List Int} {s t:Int},bG s d=some t->t=s*fE d
 |[],s,t,h=>by simp only [bG,Option.some.injEq] at h;rw [←h];simp [fE]
 |n::r,s,t,h=>by
  rw [bG] at h
  split at h
  ·cases h
  ·have:=zMg h
   rw [this,Int.mul_assoc];rfl
theorem zMf:∀{d:List Int} {s:Int},1<=s->s<=4096->d.all lL=true->s*fE d<=4096->bG s d=some (s*fE d)
 |[],s,_,_,_,_=>by simp [bG,fE]
 |n::r,s,h,h1,hp,hl=>by
  simp only [List.all_cons,Bool.and_eq_true] at hp
  have hn:1<=n:=by simpa [lL] using hp.1
  have hr:=zMo hp.2
  have e:s*fE (n::r)=s*n*fE r:=by show s*(n*fE r)=_;rw [Int.mul_assoc]
  have h2:=(zDw h hn).1
  have h3:s*n*1<=s*n*fE r:=Int.mul_le_mul_of_nonneg_left hr (by omega)
  rw [e] at hl⊢
  rw [bG,if_neg (by omega)]
  exact zMf h2 (by omega) hp.2 hl
theorem zNj {d:List Int} (h:bW d=0) (k:Nat):bW (d.drop k)=0/\dE (d.drop k)=fE (d.drop k)/\1<=fE (d.drop k)/\fE (d.drop k)<=4096:=by
 obtain ⟨h1,h2,s,h3,h4,h5⟩:=zGs h
 have h6:=zMg h3
 rw [Int.one_mul] at h6
 have hp:(d.drop k).all lL=true:=by rw [List.all_eq_true] at h2⊢;exact fun x hx=>h2 x (List.mem_of_mem_drop hx)
 have hq:(d.take k).all lL=true:=by rw [List.all_eq_true] at h2⊢;exact fun x hx=>h2 x (List.mem_of_mem_take hx)
 have h7:=zMo hp
 have h8:=zMo hq
 have h9:∀a b:List Int,fE (a++b)=fE a*fE b:=fun a b=>by
  induction a with
  |nil=>simp [fE]
  |cons x r ih=>show x*fE (r++b)=x*fE r*fE b;rw [ih,Int.mul_assoc]
 have h10:fE d=fE (d.take k)*fE (d.drop k):=by rw [←h9,List.take_append_drop]
 have h11:1*fE (d.drop k)<=fE (d.take k)*fE (d.drop k):=Int.mul_le_mul_of_nonneg_right h8 (by omega)
 have h12:fE (d.drop k)<=4096:=by omega
 have h13:bG 1 (d.drop k)=some (fE (d.drop k)):=by
  have:=zMf (s:=1) (by omega) (by omega) hp (by omega)
  rw [Int.one_mul] at this;exact this
 have h14:bW (d.drop k)=0:=dims_ok (by rw [List.length_drop];omega) hp h13
 exact ⟨h14,zFa h14 h13,h7,h12⟩
theorem zLx (d:List Int):(pC d).length=d.length:=by
 induction d with
 |nil=>rfl
 |cons x r ih=>rw [pC,List.length_cons,List.length_cons,ih]
theorem strF_get:∀{d:List Int} {k:Nat} {x:Int},d[k]? =some x->(pC d)[k]? =some (fE (d.drop (k+1)))
 |n::r,0,x,_=>rfl
 |n::r,k+1,x,h=>by
  rw [pC,List.getElem?_cons_succ,List.drop_succ_cons]
  exact strF_get (by simpa using h)
theorem strF_take {d:List Int} {k:Nat} {x:Int} (h:d[k]? =some x):(pC d).take (k+1)=(pC d).take k++[fE (d.drop (k+1))]:=yD (strF_get h)
theorem st_get {j:Nat} (h:0<j) (X:List (List C)):(List.replicate j [cI 0]++X)[((j:Int)-1).toNat]? =some [cI 0]:=by
 obtain ⟨m,rfl⟩:∃m,j=m+1:=⟨j-1,by omega⟩
 rw [show (((m+1:Nat):Int)-1).toNat=m by omega,List.getElem?_append_left (by simp),List.getElem?_replicate,if_pos (by omega)]
theorem st_set {d:List Int} {j:Nat} {x:Int} (h:0<j) (hx:d[j-1]? =some x):(List.replicate j [cI 0]++((pC d).drop j).map fun n=>[cI n]).set ((j:Int)-1).toNat [cI (fE (d.drop j))]=List.replicate (j-1) [cI 0]++((pC d).drop (j-1)).map fun n=>[cI n]:=by
 obtain ⟨m,rfl⟩:∃m,j=m+1:=⟨j-1,by omega⟩
 rw [Nat.add_sub_cancel] at hx⊢
 rw [show (((m+1:Nat):Int)-1).toNat=m by omega,List.replicate_succ',List.append_assoc,List.set_append_right _ _ (by simp),List.length_replicate,Nat.sub_self,yB (strF_get hx)]
 rfl
theorem prod_next {d:List Int} {k:Nat} {x:Int} (h:d[k]? =some x):fE (d.drop k)=x*fE (d.drop (k+1)):=by rw [yB h];rfl
/-! ## Places -/
def plC (g:Gn) (s:ByteArray):List C:=[cS (dF g.n.Bufs s).Name,cI (dF g.n.Bufs s).T.Kind,cI (dF g.n.Bufs s).T.Bits,cI (dF g.n.Bufs s).T.Frac,cI (dF g.n.Bufs s).T.Round,cI (dF g.n.Bufs s).T.Over,.sl 1 ((g.dm s).map fun n=>[cI n]),cI (dF g.n.Bufs s).Use,cI (g.bs_ s),cI (g.en s),.sl 1 ((jD (g.dm s)).map fun n=>[cI n])]
theorem slD_at {l:List Sl} {k:Nat} {x:Sl} {s:ByteArray} (h:l[k]? =some x) (hx:x.Name=s):slD (l.drop k) s=x:=by rw [yB h,slD,if_pos hx]
theorem slD_nx {l:List Sl} {k:Nat} {x:Sl} {s:ByteArray} (h:l[k]? =some x) (hx:¬x.Name=s):slD (l.drop k) s=slD (l.drop (k+1)) s:=by rw [yB h,slD,if_neg hx]
theorem dimsSize_le (d:List Int):0<=dE d/\dE d<=4096:=by
 by_cases h:bW d=0
 ·have:=zNj h 0
  rw [List.drop_zero] at this
  omega
 ·rw [zLq h];omega
theorem Gn.Ok.slb {g:Gn} (h:g.Ok):∀s,s∈g.sl->0<=s.At/\s.At<=600000/\0<=s.Len/\s.Len<=4096:=fun s hs=>by
 obtain ⟨i,hi,rfl⟩:=List.getElem_of_mem hs
 obtain ⟨b,hb⟩:=qU g.n.Bufs i (by have:=h.sl;omega)
 obtain ⟨y,hy,h1,h2⟩:=h.at_ i b hb
 rw [List.getElem?_eq_getElem hi,Option.some.injEq] at hy
 rw [hy]
 have:=dimsSize_le b.Dims
 dsimp only;omega
theorem zNb {d:List Int} {j:Nat} (h:j<d.length):d[j]? =some (d.getD j 0):=by
 rw [List.getD_eq_getElem?_getD,List.getElem?_eq_getElem h];rfl
theorem strT_at {d:List Int} {j:Nat} (h:bW d=0) (hj:j<d.length):(jD d)[j]? =some ((jD d).getD j 0):=by
 have:(jD d).length=d.length:=by unfold jD;rw [if_pos h,zLx]
 exact zNb (by omega)
theorem flat_next {α β:Type} {f:α->List β} {l:List α} {k:Nat} {x:α} (h:l[k]? =some x):(l.take (k+1)).flatMap f=(l.take k).flatMap f++f x:=by
 rw [yD h,List.flatMap_append];simp
theorem Rdy.args1 {g:Gn} {L:List ByteArray} {e:Ex} (h:Rdy g L e) (ho:e.Op=8∨e.Op=12∨e.Op=18):∃a,e.Args=[a]/\Rdy g L a/\bC a=decide (e.Op=18):=by
 have hn:=zMr (zAf h.part)
 have hc:=zKf h.part
 unfold bI at hn
 rw [if_neg (by omega),if_pos ho] at hn
 match hA:e.Args,hn with
 |[a],_=>
  rw [hA] at hc
  simp only [fC,Bool.and_true,beq_iff_eq] at hc
  refine ⟨a,rfl,h.arg (by rw [hA];simp),?_⟩
  rw [hc];unfold fG
  rcases ho with c|c|c<;>rw [c]<;>rfl
 |[],hn=>simp at hn
 |_::_::_,hn=>simp at hn;omega
theorem Rdy.args3 {g:Gn} {L:List ByteArray} {e:Ex} (h:Rdy g L e) (ho:e.Op=11):∃a c d,e.Args=[a,c,d]/\(Rdy g L a/\bC a=true)/\(Rdy g L c/\bC c=false)/\(Rdy g L d/\bC d=false):=by
 have hn:=zMr (zAf h.part)
 have hc:=zKf h.part
 unfold bI at hn
 rw [if_neg (by omega),if_neg (by omega),if_pos ho] at hn
 match hA:e.Args,hn with
 |[a,c,d],_=>
  rw [hA] at hc
  simp only [fC,Bool.and_true,Bool.and_eq_true,beq_iff_eq] at hc
  exact ⟨a,c,d,rfl,⟨h.arg (by rw [hA];simp),by rw [hc.1];simp [fG,ho]⟩,⟨h.arg (by rw [hA];simp),by rw [hc.2.1];simp [fG,ho]⟩,⟨h.arg (by rw [hA];simp),by rw [hc.2.2];simp [fG,ho]⟩⟩
 |[],hn=>simp at hn
 |[_],hn=>simp at hn
 |[_,_],hn=>simp at hn
 |_::_::_::_::_,hn=>simp at hn;omega
theorem Rdy.args2 {g:Gn} {L:List ByteArray} {e:Ex} (h:Rdy g L e) (h1:¬(e.Op=1∨e.Op=2∨e.Op=3)) (h2:¬(e.Op=8∨e.Op=12∨e.Op=18)) (h3:¬e.Op=11):
  ∃a c,e.Args=[a,c]/\(Rdy g L a/\bC a=decide (e.Op=16∨e.Op=17))/\(Rdy g L c/\bC c=decide (e.Op=16∨e.Op=17)):=by
 have hn:=zMr (zAf h.part)
 have hc:=zKf h.part
 unfold bI at hn
 rw [if_neg h1,if_neg h2,if_neg h3] at hn
 have hw:∀i,fG e.Op i=decide (e.Op=16∨e.Op=17):=fun i=>by
  unfold fG
  rw [decide_eq_false h3,decide_eq_false (fun k=>h2 (.inr (.inr k))),Bool.false_and,Bool.false_or,Bool.or_false,←Bool.decide_or]
 match hA:e.Args,hn with
 |[a,c],_=>
  rw [hA] at hc
  simp only [fC,Bool.and_true,Bool.and_eq_true,beq_iff_eq] at hc
  exact ⟨a,c,rfl,⟨h.arg (by rw [hA];simp),by rw [hc.1,hw]⟩,⟨h.arg (by rw [hA];simp),by rw [hc.2,hw]⟩⟩
 |[],hn=>simp at hn
 |[_],hn=>simp at hn
 |_::_::_::_,hn=>simp at hn;omega
theorem isC_op {e:Ex}:bC e=true↔13<=e.Op/\e.Op<=18:=by unfold bC;simp
theorem Rdy.first {g:Gn} {L:List ByteArray} {e:Ex} (h:Rdy g L e) (h1:¬e.Op=1) (h2:¬e.Op=2) (h3:¬e.Op=3) (h12:¬e.Op=12) (h11:¬e.Op=11) (h13:¬13<=e.Op):∃a r,e.Args=a::r/\Rdy g L a/\bC a=false:=by
 by_cases h8:e.Op=8
 ·obtain ⟨a,ha,hr,hc⟩:=h.args1 (.inl h8)
  exact ⟨a,[],ha,hr,by rw [hc,h8];rfl⟩
 ·obtain ⟨a,c,ha,⟨hr,hc⟩,_⟩:=h.args2 (by omega) (by omega) h11
  exact ⟨a,[c],ha,hr,by rw [hc];exact decide_eq_false (by omega)⟩
theorem knd_1 {B:List Bf} {e:Ex} (h:e.Op=1∨e.Op=12):knd B e=e.Ty:=by rw [knd_eq,sS,if_pos h]
theorem knd_2 {B:List Bf} {e:Ex} (h1:¬e.Op=1) (h12:¬e.Op=12) (h:e.Op=2):knd B e=iTy:=by rw [knd_eq,sS,if_neg (by omega),if_pos h]
theorem knd_3 {B:List Bf} {e:Ex} (h1:¬e.Op=1) (h12:¬e.Op=12) (h2:¬e.Op=2) (h:e.Op=3):knd B e=(dF B e.Name).T:=by rw [knd_eq,sS,if_neg (by omega),if_neg h2,if_pos h]
theorem knd_11 {B:List Bf} {e a c d:Ex} (h:e.Op=11) (ha:e.Args=[a,c,d]):knd B e=knd B c:=by rw [knd_eq,sS,if_neg (by omega),if_neg (by omega),if_neg (by omega),if_pos h,ha];rfl
theorem knd_o {B:List Bf} {e a:Ex} {r:List Ex} (h1:¬e.Op=1) (h12:¬e.Op=12) (h2:¬e.Op=2) (h3:¬e.Op=3) (h11:¬e.Op=11) (ha:e.Args=a::r):knd B e=knd B a:=by
 rw [knd_eq,sS,if_neg (by omega),if_neg h2,if_neg h3,if_neg h11,ha];rfl
end Go.Br
end
