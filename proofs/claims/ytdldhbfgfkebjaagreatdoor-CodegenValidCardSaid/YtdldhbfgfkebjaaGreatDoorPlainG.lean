/-
  Instructions and slots,in plain Lean,and the cells that hold them.
  The code of a nest (48.2),in plain Lean: the instructions that every part of a nest is compiled to,as if there were no limit to their number; and what the limit makes of them.
  Stable sorting,in plain Lean: sorted by a key,equals in the order of their ties; inserting,merging,turning.
  First fit (42),in plain Lean: the place behind which nothing is in the way,found by going through the placed slots in order,is the least place of all that are free.
  The arena's plan (42.1),in plain Lean.
  What a valid nest gives to the compiler (48): names,arities,types; whether numbers fit; the types of a nest; the answer of Compile.
  Statements that are ready to be compiled; whether numbers fit; what Compile answers (48.2).
  The steps by which code is made (48.2),in plain Lean: jumps whose targets are set later; strides.
  Every load and store of a nest's code is bounded by the range of a buffer,or checks an index (48.4),in plain Lean.
  Conditions: none.
-/
import Derived.Test.YtdldhbfgfkebjaaGreatDoorPlain2
import Derived.Test.YtdldhbfgfkebjaaGreatDoorPlain
set_option linter.unusedSimpArgs false
set_option linter.unusedVariables false
section
namespace Go.Br
open Go Go.Eng Go.L41
structure In where
 Op:Int
 A:Int
 B:Int
 C:Int
 Val:Vl
 Ty:Ty
 deriving DecidableEq
def In.cells (x:In):List Eng.C:=[cI x.Op,cI x.A,cI x.B,cI x.C,cI x.Val.N,cI x.Val.D,cI x.Ty.Kind,cI x.Ty.Bits,cI x.Ty.Frac,cI x.Ty.Round,cI x.Ty.Over]
abbrev vIn (x:In):V:=.agg x.cells
abbrev cH (l:List In):V:=.c (.sl 11 (l.map In.cells))
abbrev xR (l:List Ty):V:=.c (.sl 5 (l.map tyC))
structure Sl where
 Name:ByteArray
 At:Int
 Len:Int
 deriving DecidableEq
def Sl.cells (x:Sl):List Eng.C:=[cS x.Name,cI x.At,cI x.Len]
abbrev vSl (x:Sl):V:=.agg x.cells
abbrev vJ (l:List Sl):V:=.c (.sl 3 (l.map Sl.cells))
def slD:List Sl->ByteArray->Sl
 |[],_=>⟨bs [],0,0⟩
 |x::r,s=>if x.Name=s then x else slD r s
end Go.Br
end
section
namespace Go.Br
open Go Go.Eng Go.L41
/-! ## Lists -/
def gK {α β:Type} (f:Nat->α->List β):Nat->List α->List β
 |_,[]=>[]
 |i,x::r=>f i x++gK f (i+1) r
theorem mapI_app {α β:Type} (f:Nat->α->List β):∀(a b:List α) (i:Nat),gK f i (a++b)=gK f i a++gK f (i+a.length) b
 |[],b,i=>by simp [gK]
 |x::r,b,i=>by
  rw [List.cons_append,gK,gK,mapI_app f r b (i+1),List.append_assoc,List.length_cons,show i+1+r.length=i+(r.length+1) by omega]
theorem zCa {α β:Type} (f:Nat->α->List β) {l:List α} {k:Nat} {x:α} (h:l[k]? =some x):gK f 0 (l.take (k+1))=gK f 0 (l.take k)++f k x:=by
 have hk:k<l.length:=by
  rcases Nat.lt_or_ge k l.length with h1|h1
  ·exact h1
  ·rw [List.getElem?_eq_none h1] at h;cases h
 rw [yC h,mapI_app,gK,gK,List.append_nil,List.length_take,Nat.zero_add,Nat.min_eq_left (by omega)]
def lE {β:Type} (pos:Int) (l:List (Int->List β)):List β:=l.foldl (fun a f=>a++f (pos+a.length)) []
theorem zPt {β:Type} (pos:Int) (l:List (Int->List β)) (f:Int->List β):lE pos (l++[f])=lE pos l++f (pos+(lE pos l).length):=by
 unfold lE;rw [List.foldl_append];rfl
theorem seqC_next {α β:Type} (pos:Int) (g:α->Int->List β) {l:List α} {k:Nat} {x:α} (h:l[k]? =some x):lE pos ((l.take (k+1)).map g)=lE pos ((l.take k).map g)++g x (pos+(lE pos ((l.take k).map g)).length):=by
 rw [yC h,List.map_append];exact zPt pos _ _
theorem seqC_one {β:Type} (pos:Int) (f:Int->List β):lE pos [f]=f pos:=by
 unfold lE;simp
/-! ## Instructions -/
def iN (o a b c:Int):In:=⟨o,a,b,c,⟨0,0⟩,zTy⟩
def iA (o r x f t:Int):In:=⟨o,r,x,t,⟨f,1⟩,zTy⟩
def iO (o k a b c:Int) (t:Ty):In:=⟨o,a,b,c,⟨k,1⟩,t⟩
structure Gn where
 n:Ns
 ty:List Ty
 sl:List Sl
namespace Gn
def dm (g:Gn) (s:ByteArray):List Int:=(dI g.n.Bufs s).Dims
def bs_ (g:Gn) (s:ByteArray):Int:=(slD g.sl s).At
def en (g:Gn) (s:ByteArray):Int:=(slD g.sl s).At+(slD g.sl s).Len
end Gn
def sM:List Int->List Int
 |[]=>[]
 |_::r=>r.foldr (· * ·) 1::sM r
def mF (d:List Int):List Int:=if bX d=0 then sM d else []
def cC (L:List ByteArray) (x:Int) (m:Mono):List In:=[iN 4 103 (pV L m.Name) m.By,iN 3 x x 103]
def rN (L:List ByteArray) (f:Lf) (x:Int):List In:=iN 1 x f.K 0::f.L.flatMap (cC L x)
def tI (d:List Int) (r:Int) (j:Nat):List In:=if 2<=d.length then [iA 10 255 r 0 (d.getD j 0)] else []
def atC (L:List ByteArray) (d st:List Int) (j:Nat) (f:Lf):List In:=rN L f 105++tI d 105 j++[iN 4 105 105 (st.getD j 0),iN 3 104 104 105]
def vU (g:Gn) (L:List ByteArray) (x:Ix) (ext:Int):List In:=
 iN 1 104 (g.bs_ x.From) 0::gK (atC L (g.dm x.From) (mF (g.dm x.From))) 0 x.At++[iA 10 254 104 (g.bs_ x.From) (g.en x.From),iN 15 101 254 ext]
def axC (g:Gn) (L:List ByteArray) (d st:List Int) (i:Nat) (x:Ix):List In:=
 (if x.From=bs [] then rN L x.Lin 101++tI d 101 i else vU g L x (d.getD i 0))++[iN 4 101 101 (st.getD i 0),iN 3 100 100 101]
def xA (g:Gn) (L:List ByteArray) (s:ByteArray) (idx:List Ix):List In:=iN 1 100 (g.bs_ s) 0::gK (axC g L (g.dm s) (mF (g.dm s))) 0 idx
/-! ## Types of expressions -/
def tJ (B:List Bf) (e:Ex) (l:List Ty):Ty:=
 if e.Op=1∨e.Op=12 then e.Ty else if e.Op=2 then iTy else if e.Op=3 then (dI B e.Name).T else if e.Op=11 then l.getD 1 zTy else l.getD 0 zTy
mutual
def knd (B:List Bf):Ex->Ty
 |.mk o n v t l i arg_=>tJ B (.mk o n v t l i arg_) (xU B arg_)
def xU (B:List Bf):List Ex->List Ty
 |[]=>[]
 |a::r=>knd B a::xU B r
end
theorem kndL_eq (B:List Bf) (l:List Ex):xU B l=l.map (knd B):=by
 induction l with
 |nil=>rfl
 |cons a r ih=>rw [xU,ih];rfl
theorem knd_eq (B:List Bf) (e:Ex):knd B e=tJ B e (e.Args.map (knd B)):=by cases e;rw [knd,kndL_eq];rfl
def vT (l:List Ty) (t:Ty):Int:=fX (fun x=>decide (t=x)) l
def xK (l:List Ty) (t:Ty):Bool:=l.any fun x=>decide (t=x)
/-! ## Expressions -/
structure G2 where
 v:Int->Int->Int->List In
 t:Int->Int->Int->List In
def z2:G2:=⟨fun _ _ _=>[],fun _ _ _=>[]⟩
def ifC (g0 g1 g2:G2) (p k b:Int):List In:=
 g0.t p k b++[iN 1 (b+1) 1 0,iN 8 (p+(g0.t p k b).length+2+(g1.v (p+(g0.t p k b).length+2) k b).length+1) b (b+1)]++g1.v (p+(g0.t p k b).length+2) k b++
 [iN 7 (p+(g0.t p k b).length+2+(g1.v (p+(g0.t p k b).length+2) k b).length+1+(g2.v (p+(g0.t p k b).length+2+(g1.v (p+(g0.t p k b).length+2) k b).length+1) k b).length) 0 0]++
 g2.v (p+(g0.t p k b).length+2+(g1.v (p+(g0.t p k b).length+2) k b).length+1) k b
def sW (g0 g1:G2) (p k b:Int):List In:=g0.v p k b++g1.v (p+(g0.v p k b).length) (k+1) b
def cG (g0 g1:G2) (p k b:Int):List In:=g0.t p k b++g1.t (p+(g0.t p k b).length) k (b+1)
def sJ (g:Gn) (L:List ByteArray) (e:Ex) (K:List Ty) (G:List G2) (p k b:Int):List In:=
 if e.Op=1 then [⟨9,k,0,0,e.Val,zTy⟩] else
 if e.Op=2 then rN L e.Lin 101++[iN 16 k 101 0] else
 if e.Op=3 then xA g L e.Name e.Idx++[iA 10 k 100 (g.bs_ e.Name) (g.en e.Name)] else
 if e.Op=8 then (G.getD 0 z2).v p k b++[iO 12 8 k k 0 (K.getD 0 zTy)] else
 if e.Op=12 then (G.getD 0 z2).v p k b++[iO 13 (vT g.ty (K.getD 0 zTy)) k k 0 e.Ty] else
 if e.Op=11 then ifC (G.getD 0 z2) (G.getD 1 z2) (G.getD 2 z2) p k b else
 sW (G.getD 0 z2) (G.getD 1 z2) p k b++[iO 12 e.Op k k (k+1) (K.getD 0 zTy)]
def xC (e:Ex) (K:List Ty) (G:List G2) (p k b:Int):List In:=
 if e.Op=18 then (G.getD 0 z2).t p k b++[iN 4 b b (-1),iN 1 (b+1) 1 0,iN 3 b b (b+1)] else
 if e.Op=16∨e.Op=17 then cG (G.getD 0 z2) (G.getD 1 z2) p k b++[iN (if e.Op=17 then 6 else 5) b b (b+1)] else
 sW (G.getD 0 z2) (G.getD 1 z2) p k b++[iN 1 b 0 0,iO 14 e.Op (p+(sW (G.getD 0 z2) (G.getD 1 z2) p k b).length+3) k (k+1) (K.getD 0 zTy),iN 1 b 1 0]
mutual
def cgE (g:Gn) (L:List ByteArray):Ex->G2
 |.mk o n v t l i arg_=>⟨sJ g L (.mk o n v t l i arg_) (arg_.map (knd g.n.Bufs)) (xO g L arg_),xC (.mk o n v t l i arg_) (arg_.map (knd g.n.Bufs)) (xO g L arg_)⟩
def xO (g:Gn) (L:List ByteArray):List Ex->List G2
 |[]=>[]
 |a::r=>cgE g L a::xO g L r
end
theorem cgEs_eq (g:Gn) (L:List ByteArray) (l:List Ex):xO g L l=l.map (cgE g L):=by
 induction l with
 |nil=>rfl
 |cons a r ih=>rw [xO,ih];rfl
theorem zKe (g:Gn) (L:List ByteArray) (e:Ex):cgE g L e=⟨sJ g L e (e.Args.map (knd g.n.Bufs)) (e.Args.map (cgE g L)),xC e (e.Args.map (knd g.n.Bufs)) (e.Args.map (cgE g L))⟩:=by
 cases e;rw [cgE,cgEs_eq];rfl
def fO (g:Gn) (L:List ByteArray) (e:Ex):Int->Int->Int->List In:=(cgE g L e).v
def lS (g:Gn) (L:List ByteArray) (e:Ex):Int->Int->Int->List In:=(cgE g L e).t
/-! ## Statements -/
def rK (f:Int):Int:=if f=1 then 4 else if f=2 then 6 else if f=3 then 9 else 10
def tE (g:Gn) (L:List ByteArray) (s:St) (p:Int):List In:=
 fO g L s.E p 0 120++xA g L s.Name s.Idx++
 (if s.Op=3 then [iA 10 1 100 (g.bs_ s.Name) (g.en s.Name),iO 12 (rK s.Fold) 1 1 0 (dI g.n.Bufs s.Name).T,iA 11 1 100 (g.bs_ s.Name) (g.en s.Name)] else [iA 11 0 100 (g.bs_ s.Name) (g.en s.Name)])
def mE (c:Int->List In) (d p:Int):Nat->List In
 |0=>[]
 |k+1=>mE c d p k++(iN 1 d k 0::c (p+(mE c d p k).length+1))
def tF (at_ x m:Int):List In:=[iN 1 101 1 0,iN 3 x x 101,iN 1 102 m 0,iN 8 at_ x 102]
def xL (c:Int->List In) (d p m:Int):List In:=iN 1 d 0 0::c (p+1)++tF (p+1) d m
def vQ (c:List In) (b:Int->List In) (p:Int):List In:=
 c++[iN 1 121 1 0,iN 8 (p+c.length+2+(b (p+c.length+2)).length) 120 121]++b (p+c.length+2)
mutual
def stC (g:Gn):St->List ByteArray->Int->List In
 |.mk o nm mn mk fo i e b,L,p=>
  if o=1 then (if mk=3 then mE (fun q=>lE q (vK g b (L++[nm]))) L.length p mn.toNat else xL (fun q=>lE q (vK g b (L++[nm]))) L.length p mn) else
  if o=4 then vQ (lS g L e p 0 120) (fun q=>lE q (vK g b L)) p else tE g L (.mk o nm mn mk fo i e b) p
def vK (g:Gn):List St->List ByteArray->List (Int->List In)
 |[],_=>[]
 |s::r,L=>(fun p=>stC g s L p)::vK g r L
end
theorem stCs_eq (g:Gn) (L:List ByteArray) (l:List St):vK g l L=l.map fun s=>stC g s L:=by
 induction l with
 |nil=>rfl
 |cons a r ih=>rw [vK,ih];rfl
def jB (g:Gn) (l:List St) (L:List ByteArray) (p:Int):List In:=lE p (l.map fun s=>stC g s L)
theorem stC_eq (g:Gn) (s:St) (L:List ByteArray) (p:Int):stC g s L p=
  if s.Op=1 then (if s.Mark=3 then mE (jB g s.Body (L++[s.Name])) L.length p s.Many.toNat else xL (jB g s.Body (L++[s.Name])) L.length p s.Many) else
  if s.Op=4 then vQ (lS g L s.E p 0 120) (jB g s.Body L) p else tE g L s p:=by
 cases s;rw [stC,stCs_eq,stCs_eq];rfl
def xN (g:Gn) (s:ByteArray) (p:Int):List In:=⟨9,0,0,0,⟨0,1⟩,zTy⟩::iN 1 100 (g.bs_ s) 0::iA 11 0 100 (g.bs_ s) (g.en s)::tF (p+2) 100 (g.en s)
def zLf:Lifetime:=⟨bs [],0,0,0⟩
def lfA (l:List Lifetime) (k:Nat):Lifetime:=l.getD k zLf
theorem zGv {l:List Lifetime} {k:Nat} {x:Lifetime} (h:l[k]? =some x):lfA l k=x:=by unfold lfA;rw [List.getD_eq_getElem?_getD,h];rfl
def vW (g:Gn) (lv:List Lifetime) (i k:Nat) (b:Bf):List (Int->List In):=if ¬b.Use=1/\(lfA lv k).From=i then [xN g b.Name] else []
def tA (g:Gn) (lv:List Lifetime) (i:Nat) (s:St):List (Int->List In):=gK (vW g lv i) 0 g.n.Bufs++[stC g s []]
def nB (g:Gn) (lv:List Lifetime):List In:=lE 0 (gK (tA g lv) 0 g.n.Body)++[iN 0 0 0 0]
/-! ## The limit -/
def Em (pre code:List In) (full:Bool):Prop:=if pre.length<=65536 then code=pre/\full=false else code.length=65536/\full=true
theorem Em.nil:Em [] [] false:=by unfold Em;rw [if_pos (by simp)];exact ⟨rfl,rfl⟩
theorem Em.ok {pre code:List In} {full:Bool} (h:Em pre code full) (hf:full=false):code=pre/\pre.length<=65536:=by
 unfold Em at h
 split at h
 ·exact ⟨h.1,by omega⟩
 ·rw [h.2] at hf;cases hf
theorem Em.no {pre code:List In} {full:Bool} (h:Em pre code full) (hf:full=true):65536<pre.length/\code.length=65536:=by
 unfold Em at h
 split at h
 ·rw [h.2] at hf;cases hf
 ·exact ⟨by omega,h.1⟩
theorem Em.len {pre code:List In} {full:Bool} (h:Em pre code full):code.length=min pre.length 65536:=by
 unfold Em at h
 split at h
 ·rw [h.1];omega
 ·rw [h.1];omega
theorem Em.push {pre code:List In} {full:Bool} (h:Em pre code full) (hl:¬65536<=(code.length:Int)) {i j:In} (hij:pre.length<65536->i=j):Em (pre++[j]) (code++[i]) full:=by
 have hc:=h.len
 unfold Em at h⊢
 have hp:pre.length<65536:=by omega
 rw [if_pos (by omega)] at h
 rw [if_pos (by rw [List.length_append,List.length_singleton];omega),h.1,hij hp]
 exact ⟨rfl,h.2⟩
theorem Em.full {pre code:List In} {full:Bool} (h:Em pre code full) (hl:65536<=(code.length:Int)) (j:In):Em (pre++[j]) code true:=by
 have hc:=h.len
 unfold Em
 rw [if_neg (by rw [List.length_append,List.length_singleton];omega)]
 exact ⟨by omega,rfl⟩
theorem Em.skip {pre code:List In} (h:Em pre code true) (c:List In):Em (pre++c) code true:=by
 have:=h.no rfl
 unfold Em
 rw [if_neg (by rw [List.length_append];omega)]
 exact ⟨this.2,rfl⟩
def lD (l:List In) (i:Nat) (a:Int):List In:=match l[i]? with|some x=>l.set i { x with A:=a }|none=>l
theorem zSk (l:List In) (i:Nat) (a:Int):(lD l i a).length=l.length:=by
 unfold lD;split<;>simp
theorem jmpTo_at (p q:List In) (x:In) (a:Int):lD (p++x::q) p.length a=p++{ x with A:=a }::q:=by
 unfold lD;simp
end Go.Br
end
section
namespace Go.Br
open Go Go.Eng Go.L41
section
variable {α:Type} (key:α->Int) (tie:α->Nat)
def ltS (a b:α):Prop:=key a<key b∨(key a=key b/\tie a<tie b)
def leS (a b:α):Bool:=decide (key a<key b)||(decide (key a=key b)&&decide (tie a<=tie b))
def srt (X:List α):List α:=X.mergeSort (leS key tie)
def Srt (X:List α):Prop:=X.Pairwise (ltS key tie)
def neP (X:List α):Prop:=X.Pairwise fun a b=>¬(key a=key b/\tie a=tie b)
variable {key tie}
theorem ltS.trans {a b c:α} (h:ltS key tie a b) (h2:ltS key tie b c):ltS key tie a c:=by unfold ltS at *;omega
theorem ltS.asymm {a b:α} (h:ltS key tie a b) (h2:ltS key tie b a):False:=by unfold ltS at *;omega
theorem ltS_of {a b:α} (h:tie a<tie b) (h2:¬key b<key a):ltS key tie a b:=by unfold ltS;omega
theorem ltS_to {a b:α} (h:tie a<tie b) (h2:key b<key a):ltS key tie b a:=by unfold ltS;omega
theorem zCr (X:List α):(srt key tie X).Perm X:=List.mergeSort_perm X _
theorem yT (X:List α):(srt key tie X).length=X.length:=(zCr X).length_eq
theorem zDy {X:List α} {x:α}:x∈srt key tie X↔x∈X:=(zCr X).mem_iff
theorem sorted_one:∀{X Z:List α},X.Perm Z->Srt key tie X->Srt key tie Z->X=Z
 |[],Z,h,_,_=>(List.nil_perm.1 h).symm
 |x::X,[],h,_,_=>by have:=h.length_eq;simp at this
 |x::X,z::Z,h,h1,h2=>by
  unfold Srt at h1 h2
  rw [List.pairwise_cons] at h1 h2
  have hx:x∈z::Z:=h.mem_iff.1 (by simp)
  have hz:z∈x::X:=h.mem_iff.2 (by simp)
  have e:x=z:=by
   rcases List.mem_cons.1 hx with e|hx
   ·exact e
   ·rcases List.mem_cons.1 hz with e|hz
    ·exact e.symm
    ·exact ((h1.1 z hz).asymm (h2.1 x hx)).elim
  subst e
  rw [sorted_one (List.Perm.cons_inv h) h1.2 h2.2]
theorem leS_trans (a b c:α) (h:leS key tie a b=true) (h2:leS key tie b c=true):leS key tie a c=true:=by
 unfold leS at *
 simp only [Bool.or_eq_true,Bool.and_eq_true,decide_eq_true_eq] at *
 omega
theorem leS_total (a b:α):(leS key tie a b||leS key tie b a)=true:=by
 unfold leS
 simp only [Bool.or_eq_true,Bool.and_eq_true,decide_eq_true_eq]
 omega
theorem neP.perm {X Z:List α} (h:X.Perm Z) (hn:neP key tie X):neP key tie Z:=(List.Perm.pairwise_iff (fun h=>by intro k;exact h ⟨k.1.symm,k.2.symm⟩) h).1 hn
theorem Srt.ne {X:List α} (h:Srt key tie X):neP key tie X:=List.Pairwise.imp (fun h=>by unfold ltS at h;omega) h
theorem zHw {X:List α} (h:neP key tie X):Srt key tie (srt key tie X):=by
 have h1:(srt key tie X).Pairwise fun a b=>leS key tie a b=true:=List.pairwise_mergeSort leS_trans leS_total X
 have h2:neP key tie (srt key tie X):=neP.perm (zCr X).symm h
 refine List.Pairwise.imp₂ (fun a b ha hb=>?_) h1 h2
 unfold leS at ha;unfold ltS
 simp only [Bool.or_eq_true,Bool.and_eq_true,decide_eq_true_eq] at ha
 omega
theorem srt_is {X Z:List α} (hp:Z.Perm X) (hs:Srt key tie Z):srt key tie X=Z:=
 sorted_one ((zCr X).trans hp.symm) (zHw (neP.perm hp hs.ne)) hs
theorem srt_same {X Z:List α} (hp:Z.Perm X) (hn:neP key tie X):srt key tie X=srt key tie Z:=
 srt_is ((zCr Z).trans hp) (zHw (neP.perm hp.symm hn))
theorem srt_nil:srt key tie ([]:List α)=[]:=by unfold srt;simp
theorem srt_self {X:List α} (hs:Srt key tie X):srt key tie X=X:=srt_is (List.Perm.refl _) hs
theorem inc_ne {X:List α} (h:X.Pairwise fun a b=>tie a<tie b):neP key tie X:=List.Pairwise.imp (fun h=>by omega) h
/-! ## Inserting -/
theorem ins_srt {S:List α} {x:α} {j:Nat} (hS:Srt key tie S) (h1:∀y,y∈S.drop j->ltS key tie x y) (h2:∀y,y∈S.take j->ltS key tie y x):Srt key tie (S.take j++x::S.drop j):=by
 have hS':Srt key tie (S.take j++S.drop j):=by rw [List.take_append_drop];exact hS
 unfold Srt at *
 rw [List.pairwise_append] at hS'⊢
 refine ⟨hS'.1,?_,?_⟩
 ·rw [List.pairwise_cons];exact ⟨h1,hS'.2.1⟩
 ·intro a ha b hb
  rcases List.mem_cons.1 hb with rfl|hb
  ·exact h2 a ha
  ·exact hS'.2.2 a ha b hb
theorem ins_perm (S:List α) (x:α) (j:Nat):(S.take j++x::S.drop j).Perm (S++[x]):=by
 refine (List.perm_middle).trans ?_
 rw [List.take_append_drop]
 exact (List.perm_append_singleton x S).symm
theorem zRc {S:List α} {x y:α} {h:Nat} (hS:Srt key tie S) (hg:S[h]? =some y) (hl:ltS key tie y x):∀z,z∈S.take (h+1)->ltS key tie z x:=by
 intro z hz
 rw [yC hg] at hz
 rcases List.mem_append.1 hz with hz|hz
 ·refine ltS.trans ?_ hl
  have hS2:Srt key tie (S.take h++S.drop h):=by rw [List.take_append_drop];exact hS
  unfold Srt at hS2
  rw [List.pairwise_append] at hS2
  exact hS2.2.2 z hz y (by rw [qY hg];simp)
 ·rw [List.mem_singleton.1 hz];exact hl
theorem zTe {S:List α} {x y:α} {h:Nat} (hS:Srt key tie S) (hg:S[h]? =some y) (hl:ltS key tie x y):∀z,z∈S.drop h->ltS key tie x z:=by
 intro z hz
 have hS2:Srt key tie (S.drop h):=List.Pairwise.sublist (List.drop_sublist h S) hS
 rw [qY hg] at hz hS2
 unfold Srt at hS2
 rw [List.pairwise_cons] at hS2
 rcases List.mem_cons.1 hz with rfl|hz
 ·exact hl
 ·exact hl.trans (hS2.1 z hz)
theorem ins_is {S:List α} {x:α} {j:Nat} (hS:Srt key tie S) (h1:∀y,y∈S.drop j->ltS key tie x y) (h2:∀y,y∈S.take j->ltS key tie y x):srt key tie (S++[x])=S.take j++x::S.drop j:=
 srt_is (ins_perm S x j) (ins_srt hS h1 h2)
theorem ins_is' {S:List α} {x:α} {j:Nat} (hS:Srt key tie S) (h1:∀y,y∈S.drop j->ltS key tie x y) (h2:∀y,y∈S.take j->ltS key tie y x):srt key tie (x::S)=S.take j++x::S.drop j:=
 srt_is ((ins_perm S x j).trans (List.perm_append_singleton x S)) (ins_srt hS h1 h2)
theorem srt_front {X Y:List α} (hn:neP key tie (X++Y)):srt key tie (srt key tie X++Y)=srt key tie (X++Y):=
 (srt_same ((zCr X).append_right Y) hn).symm
theorem srt_both {X Y:List α} (hn:neP key tie (X++Y)):srt key tie (srt key tie X++srt key tie Y)=srt key tie (X++Y):=
 (srt_same ((zCr X).append (zCr Y)) hn).symm
theorem srt_cat {P Q:List α} (hn:neP key tie (P++Q)) (h:∀a,a∈P->∀b,b∈Q->ltS key tie a b):srt key tie (P++Q)=srt key tie P++srt key tie Q:=by
 refine srt_is ((zCr P).append (zCr Q)) ?_
 unfold neP at hn
 rw [List.pairwise_append] at hn
 unfold Srt
 rw [List.pairwise_append]
 exact ⟨zHw hn.1,zHw hn.2.1,fun a ha b hb=>h a (zDy.1 ha) b (zDy.1 hb)⟩
theorem zAo {X Y:List α} {p q:Nat} (hX:Srt key tie X) (hY:Srt key tie Y) (hn:neP key tie (X++Y))
  (h1:∀x,x∈X.take p->∀y,y∈Y.drop q->ltS key tie x y) (h2:∀x,x∈X.drop p->∀y,y∈Y.take q->ltS key tie y x):
  srt key tie (X.take p++Y.take q)++srt key tie (X.drop p++Y.drop q)=srt key tie (X++Y):=by
 have hp:((X.take p++Y.take q)++(X.drop p++Y.drop q)).Perm (X++Y):=by
  have e:(X.take p++X.drop p)++(Y.take q++Y.drop q)=X++Y:=by rw [List.take_append_drop,List.take_append_drop]
  rw [←e,List.append_assoc,List.append_assoc]
  refine List.Perm.append_left _ ?_
  rw [←List.append_assoc,←List.append_assoc]
  exact List.Perm.append_right _ List.perm_append_comm
 rw [srt_same hp hn]
 refine (srt_cat (neP.perm hp.symm hn) fun a ha b hb=>?_).symm
 have hX2:Srt key tie (X.take p++X.drop p):=by rw [List.take_append_drop];exact hX
 have hY2:Srt key tie (Y.take q++Y.drop q):=by rw [List.take_append_drop];exact hY
 unfold Srt at hX2 hY2
 rw [List.pairwise_append] at hX2 hY2
 rcases List.mem_append.1 ha with ha|ha<;>rcases List.mem_append.1 hb with hb|hb
 ·exact hX2.2.2 a ha b hb
 ·exact h1 a ha b hb
 ·exact h2 b hb a ha
 ·exact hY2.2.2 a ha b hb
/-! ## Moving and turning -/
def mv (A:List α) (x:α) (S:List α) (j:Nat) (R:List α):List α:=A++(S.take j++x::S.drop j)++R
theorem zAf {l:List α} {k:Nat} {x:α} (h:l[k]? =some x):k<l.length:=by
 rcases Nat.lt_or_ge k l.length with h1|h1
 ·exact h1
 ·rw [List.getElem?_eq_none h1] at h;cases h
theorem zSo (P Q:List α) (x:α) {k:Nat} (h:k=P.length):(P++x::Q)[k]? =some x:=by subst h;simp
theorem zFa (A:List α) (x:α) (S:List α) (j:Nat) (R:List α):(mv A x S j R).length=A.length+S.length+1+R.length:=by
 unfold mv;simp only [List.length_append,List.length_cons,List.length_take,List.length_drop];omega
theorem mv_x (A:List α) (x:α) (S:List α) {j:Nat} (R:List α) (hj:j<=S.length):(mv A x S j R)[A.length+j]? =some x:=by
 unfold mv
 rw [show A++(S.take j++x::S.drop j)++R=(A++S.take j)++x::(S.drop j++R) by simp]
 exact zSo _ _ _ (by rw [List.length_append,List.length_take];omega)
theorem mv_dn_eq {A:List α} {x:α} {S:List α} {j:Nat} {R:List α} {y:α} (h:S[j]? =some y):mv A x S j R=(A++S.take j)++x::y::(S.drop (j+1)++R):=by
 unfold mv;rw [qY h];simp
theorem mv_up_eq {A:List α} {x:α} {S:List α} {j:Nat} {R:List α} {y:α} (h:S[j]? =some y):mv A x S (j+1) R=(A++S.take j)++y::x::(S.drop (j+1)++R):=by
 unfold mv;rw [yC h];simp
theorem mv_y {A:List α} {x:α} {S:List α} {j:Nat} {R:List α} {y:α} (h:S[j]? =some y):(mv A x S j R)[A.length+j+1]? =some y:=by
 have hl:=zAf h
 rw [mv_dn_eq h,show (A++S.take j)++x::y::(S.drop (j+1)++R)=(A++S.take j++[x])++y::(S.drop (j+1)++R) by simp]
 exact zSo _ _ _ (by rw [List.length_append,List.length_append,List.length_take,List.length_singleton];omega)
theorem mv_y' {A:List α} {x:α} {S:List α} {j:Nat} {R:List α} {y:α} (h:S[j]? =some y):(mv A x S (j+1) R)[A.length+j]? =some y:=by
 have hl:=zAf h
 rw [mv_up_eq h]
 exact zSo _ _ _ (by rw [List.length_append,List.length_take];omega)
theorem set_two {P Q:List α} {u v u' v':α} {k:Nat} (hk:k=P.length):((P++u::v::Q).set k u').set (k+1) v'=P++u'::v'::Q:=by
 subst hk
 rw [List.set_append_right _ _ (Nat.le_refl _),Nat.sub_self,List.set_cons_zero,List.set_append_right _ _ (by omega),show P.length+1-P.length=1 by omega];rfl
theorem set_two' {P Q:List α} {u v u' v':α} {k:Nat} (hk:k=P.length):((P++u::v::Q).set (k+1) v').set k u'=P++u'::v'::Q:=by
 subst hk
 rw [List.set_append_right _ _ (by omega),show P.length+1-P.length=1 by omega]
 show (P++u::v'::Q).set P.length u'=_
 rw [List.set_append_right _ _ (Nat.le_refl _),Nat.sub_self,List.set_cons_zero]
theorem mv_dn {A:List α} {x:α} {S:List α} {j:Nat} {R:List α} {y:α} (h:S[j]? =some y):((mv A x S (j+1) R).set (A.length+j+1) y).set (A.length+j) x=mv A x S j R:=by
 have hl:=zAf h
 rw [mv_up_eq h,mv_dn_eq h]
 exact set_two' (by rw [List.length_append,List.length_take];omega)
theorem mv_up {A:List α} {x:α} {S:List α} {j:Nat} {R:List α} {y:α} (h:S[j]? =some y):((mv A x S j R).set (A.length+j) y).set (A.length+j+1) x=mv A x S (j+1) R:=by
 have hl:=zAf h
 rw [mv_up_eq h,mv_dn_eq h]
 exact set_two (by rw [List.length_append,List.length_take];omega)
def sw (A X M Y B:List α) (i:Nat):List α:=A++(Y.take i++X.drop i)++M++(X.take i++Y.drop i)++B
theorem sw_0 (A X M Y B:List α):sw A X M Y B 0=A++X++M++Y++B:=by unfold sw;simp
theorem sw_n (A X M Y B:List α) {n:Nat} (hX:X.length=n) (hY:Y.length=n):sw A X M Y B n=A++Y++M++X++B:=by
 unfold sw;subst hX;rw [List.take_of_length_le (by omega),List.drop_eq_nil_of_le (Nat.le_refl _),List.take_of_length_le (Nat.le_refl _),List.drop_eq_nil_of_le (by omega)];simp
theorem sw_len (A X M Y B:List α) (i:Nat) (h:X.length=Y.length):(sw A X M Y B i).length=A.length+X.length+M.length+Y.length+B.length:=by
 unfold sw;simp only [List.length_append,List.length_take,List.length_drop];omega
theorem sw_eq {A X M Y B:List α} {i:Nat} {x y:α} (hx:X[i]? =some x) (hy:Y[i]? =some y):sw A X M Y B i=(A++Y.take i)++x::((X.drop (i+1)++M++X.take i)++y::(Y.drop (i+1)++B)):=by
 unfold sw;rw [qY hx,qY hy];simp
theorem sw_eq' {A X M Y B:List α} {i:Nat} {x y:α} (hx:X[i]? =some x) (hy:Y[i]? =some y):sw A X M Y B (i+1)=(A++Y.take i)++y::((X.drop (i+1)++M++X.take i)++x::(Y.drop (i+1)++B)):=by
 unfold sw;rw [yC hx,yC hy];simp
theorem sw_x {A X M Y B:List α} {i:Nat} {x y:α} (hx:X[i]? =some x) (hy:Y[i]? =some y):(sw A X M Y B i)[A.length+i]? =some x:=by
 have:=zAf hy
 rw [sw_eq hx hy];exact zSo _ _ _ (by rw [List.length_append,List.length_take];omega)
theorem sw_y {A X M Y B:List α} {i:Nat} {x y:α} (hx:X[i]? =some x) (hy:Y[i]? =some y):(sw A X M Y B i)[A.length+X.length+M.length+i]? =some y:=by
 have:=zAf hy;have:=zAf hx
 rw [sw_eq hx hy,show (A++Y.take i)++x::((X.drop (i+1)++M++X.take i)++y::(Y.drop (i+1)++B))=(A++Y.take i++x::(X.drop (i+1)++M++X.take i))++y::(Y.drop (i+1)++B) by simp]
 exact zSo _ _ _ (by simp only [List.length_append,List.length_take,List.length_drop,List.length_cons];omega)
theorem sw_next {A X M Y B:List α} {i:Nat} {x y:α} (hx:X[i]? =some x) (hy:Y[i]? =some y):((sw A X M Y B i).set (A.length+i) y).set (A.length+X.length+M.length+i) x=sw A X M Y B (i+1):=by
 have h1:=zAf hy;have h2:=zAf hx
 rw [sw_eq hx hy,sw_eq' hx hy]
 have e1:A.length+i=(A++Y.take i).length:=by rw [List.length_append,List.length_take];omega
 have e2:A.length+X.length+M.length+i=(A++Y.take i++y::(X.drop (i+1)++M++X.take i)).length:=by simp only [List.length_append,List.length_take,List.length_drop,List.length_cons];omega
 rw [e1,List.set_append_right _ _ (Nat.le_refl _),Nat.sub_self,List.set_cons_zero,e2,
  show (A++Y.take i)++y::((X.drop (i+1)++M++X.take i)++y::(Y.drop (i+1)++B))=(A++Y.take i++y::(X.drop (i+1)++M++X.take i))++y::(Y.drop (i+1)++B) by simp,
  List.set_append_right _ _ (Nat.le_refl _),Nat.sub_self,List.set_cons_zero]
 simp
/-! ## Steps of the walks -/
theorem front_lt {S:List α} {x:α} {j:Nat} (d:α) (hS:Srt key tie S) (ht:∀y,y∈S->tie y<tie x) (hj:j<=S.length) (h:0<j->¬key x<key (S.getD (j-1) d)):∀y,y∈S.take j->ltS key tie y x:=by
 cases j with
 |zero=>intro y hy;simp at hy
 |succ j=>
  have hg:S[j]? =some S[j]:=List.getElem?_eq_getElem (by omega)
  have e:S.getD (j+1-1) d=S[j]:=by rw [Nat.add_sub_cancel,List.getD_eq_getElem?_getD,hg];rfl
  have h0:=h (by omega)
  rw [e] at h0
  exact zRc hS hg (ltS_of (ht _ (List.getElem_mem (by omega))) h0)
theorem getD_at {S:List α} {j:Nat} (d:α) (h:j<S.length):S[j]? =some (S.getD j d):=by
 rw [List.getD_eq_getElem?_getD,List.getElem?_eq_getElem h];rfl
theorem getD_memS {S:List α} {j:Nat} (d:α) (h:j<S.length):S.getD j d∈S:=List.mem_of_getElem? (getD_at d h)
theorem get_X {A X Y B:List α} {u:Nat} {x:α} (h:X[u]? =some x):(A++X++Y++B)[A.length+u]? =some x:=by
 have:=zAf h
 rw [List.append_assoc,List.getElem?_append_left (by rw [List.length_append];omega),List.getElem?_append_right (by omega),Nat.add_sub_cancel_left];exact h
theorem get_Y {A X Y B:List α} {u:Nat} {y:α} (h:Y[u]? =some y):(A++X++Y++B)[A.length+X.length+u]? =some y:=by
 have:=zAf h
 rw [List.getElem?_append_left (by simp only [List.length_append];omega),List.getElem?_append_right (by rw [List.length_append];omega),List.length_append,Nat.add_sub_cancel_left];exact h
theorem sym_up {X Y:List α} {w u:Nat} {x y:α} (hX:Srt key tie X) (hY:Srt key tie Y) (hx:X[u]? =some x) (hy:Y[w-1-u]? =some y) (hw:u+1<=w) (h:ltS key tie x y):∀a,a∈X.take (u+1)->∀b,b∈Y.drop (w-(u+1))->ltS key tie a b:=by
 intro a ha b hb
 rw [show w-(u+1)=w-1-u by omega] at hb
 have h1:ltS key tie a y:=zRc hX hx h a ha
 exact zTe hY hy h1 b hb
theorem sym_dn {X Y:List α} {w u:Nat} {x y:α} (hX:Srt key tie X) (hY:Srt key tie Y) (hx:X[u]? =some x) (hy:Y[w-1-u]? =some y) (hw:u+1<=w) (h:ltS key tie y x):∀a,a∈X.drop u->∀b,b∈Y.take (w-u)->ltS key tie b a:=by
 intro a ha b hb
 rw [show w-u=w-1-u+1 by omega] at hb
 have h1:ltS key tie b x:=zRc hY hy h b hb
 exact zTe hX hx h1 a ha
theorem mv_end {A:List α} {x:α} {S Q:List α} {k:Nat} (h:S.length=k):mv A x S k Q=A++S++x::Q:=by
 unfold mv;rw [List.take_of_length_le (by omega),List.drop_eq_nil_of_le (by omega)];simp
theorem mv_yd {A:List α} {x:α} {S R:List α} {j:Nat} (d:α) (h0:0<j) (hj:j<=S.length):(mv A x S j R)[A.length+(j-1)]? =some (S.getD (j-1) d):=by
 obtain ⟨m,rfl⟩:∃m,j=m+1:=⟨j-1,by omega⟩
 rw [Nat.add_sub_cancel]
 exact mv_y' (getD_at d (by omega))
theorem one_of {X:List α} (h:X.length=1):∃x,X=[x]:=by
 match X,h with
 |[x],_=>exact ⟨x,rfl⟩
theorem sym_ne {X Y:List α} (hX:Srt key tie X) (hY:Srt key tie Y) (hT:∀x,x∈X->∀y,y∈Y->tie x<tie y):neP key tie (X++Y):=by
 unfold neP
 rw [List.pairwise_append]
 exact ⟨hX.ne,hY.ne,fun a ha b hb k=>by have:=hT a ha b hb;omega⟩
theorem Srt.sub {X Y:List α} (h:Srt key tie Y) (hs:X.Sublist Y):Srt key tie X:=List.Pairwise.sublist hs h
theorem sym_no {A X Y B:List α} {p q:Nat} (h:X.length<=p∨q=0):A++X++Y++B=A++X.take p++Y.take q++X.drop p++(Y.drop q++B):=by
 rcases h with h|h
 ·rw [List.take_of_length_le h,List.drop_eq_nil_of_le h];simp
  rw [←List.append_assoc (Y.take q),List.take_append_drop]
 ·subst h;simp
theorem sym_yes {A X Y B:List α} {p q:Nat}:A++X++Y++B=(A++X.take p)++X.drop p++Y.take q++(Y.drop q++B):=by
 have h:(A++X.take p)++X.drop p++Y.take q++(Y.drop q++B)=A++(X.take p++X.drop p)++(Y.take q++Y.drop q)++B:=by simp only [List.append_assoc]
 rw [h,List.take_append_drop,List.take_append_drop]
theorem zCf {X Y:List α} (hX:Srt key tie X) (hY:Srt key tie Y) (h:X.length=0∨Y.length=0):X++Y=srt key tie (X++Y):=by
 rcases h with h|h
 ·rw [List.eq_nil_of_length_eq_zero h,List.nil_append,srt_self hY]
 ·rw [List.eq_nil_of_length_eq_zero h,List.append_nil,srt_self hX]
/-! Blocks of twenty. -/
def hdB (key:α->Int) (tie:α->Nat) (X:List α):Nat->List α
 |0=>[]
 |j+1=>hdB key tie X j++srt key tie ((X.drop (20*j)).take 20)
theorem hdB_len (X:List α):∀j:Nat,20*j<=X.length->(hdB key tie X j).length=20*j
 |0,_=>rfl
 |j+1,h=>by rw [hdB,List.length_append,yT,List.length_take,List.length_drop,hdB_len X j (by omega)];omega
def mbB (key:α->Int) (tie:α->Nat) (X:List α) (s:Nat):List α:=if s=0 then srt key tie (X.take 20)++srt key tie (X.drop 20) else srt key tie X
theorem hdB_end {X:List α} {j:Nat} (h1:20*j<=X.length) (h2:X.length<20*j+20) (h3:X.length<=40):hdB key tie X j++srt key tie (X.drop (20*j))=mbB key tie X 0:=by
 have hj:j=0∨j=1∨j=2:=by omega
 unfold mbB
 rw [if_pos rfl]
 rcases hj with rfl|rfl|rfl
 ·rw [hdB,List.take_of_length_le (by omega),List.drop_eq_nil_of_le (i:=20) (by omega),srt_nil];simp
 ·rw [hdB,hdB];simp
 ·rw [hdB,hdB,hdB,List.drop_eq_nil_of_le (i:=20*2) (by omega),srt_nil,List.take_of_length_le (l:=X.drop (20*1)) (by rw [List.length_drop];omega)];simp
theorem mbB_small {X:List α} (h:X.length<=20):mbB key tie X 0=srt key tie X:=by
 unfold mbB;rw [if_pos rfl,List.take_of_length_le h,List.drop_eq_nil_of_le h,srt_nil,List.append_nil]
theorem mbB_done {X:List α} (hn:neP key tie X):srt key tie (srt key tie (X.take 20)++srt key tie (X.drop 20))=srt key tie X:=by
 have:=srt_both (key:=key) (tie:=tie) (X:=X.take 20) (Y:=X.drop 20) (by rw [List.take_append_drop];exact hn)
 rw [this,List.take_append_drop]
end
end Go.Br
end
section
namespace Go.Br
open Go Go.Eng Go.L41
/-! ## The walk through the slots in order -/
def lN (m:Int):Int->List Sl->Int
 |x,[]=>x
 |x,s::r=>if x+m<=s.At then x else lN m (max x (s.At+s.Len)) r
def hit (m x:Int) (s:Sl):Prop:=x<s.At+s.Len/\s.At<x+m
theorem scan_ge (m:Int):∀(l:List Sl) (x:Int),x<=lN m x l
 |[],x=>Int.le_refl _
 |s::r,x=>by
  rw [lN]
  split
  ·exact Int.le_refl _
  ·have:=scan_ge m r (max x (s.At+s.Len));omega
theorem scan_all (m:Int):∀(l:List Sl) (x:Int),l.Pairwise (fun a b=>a.At<=b.At)->(∀s,s∈l->1<=s.Len)->∀s,s∈l->¬hit m (lN m x l) s
 |[],x,_,_,s,hs=>by cases hs
 |a::r,x,hp,h1,s,hs=>by
  rw [List.pairwise_cons] at hp
  rw [lN]
  split
  ·rename_i c
   unfold hit
   rcases List.mem_cons.1 hs with rfl|hs
   ·omega
   ·have:=hp.1 s hs;omega
  ·rcases List.mem_cons.1 hs with rfl|hs
   ·have:=scan_ge m r (max x (s.At+s.Len))
    unfold hit;omega
   ·exact scan_all m r _ hp.2 (fun s hs=>h1 s (by simp [hs])) s hs
theorem scan_cand (m:Int):∀(l:List Sl) (x:Int),lN m x l=x∨∃s,s∈l/\lN m x l=s.At+s.Len
 |[],x=>.inl rfl
 |a::r,x=>by
  rw [lN]
  split
  ·exact .inl rfl
  ·rcases scan_cand m r (max x (a.At+a.Len)) with h|⟨s,hs,h⟩
   ·by_cases hx:a.At+a.Len<=x
    ·exact .inl (by rw [h];omega)
    ·exact .inr ⟨a,by simp,by rw [h];omega⟩
   ·exact .inr ⟨s,by simp [hs],h⟩
/-! ## Places -/
def zSl:Sl:=⟨bs [],0,0⟩
def slo (m:Lifetime) (y:Int):Sl:=if y<0 then zSl else ⟨m.Name,y,m.Size⟩
def jP (l:List Lifetime) (a:List Int):List Sl:=List.zipWith slo l a
def sV (l:List Lifetime) (k i:Nat) (s:Sl):List Sl:=if (0<s.Len/\¬(i:Int)=k)/\jT (lfA l i) (lfA l k)=true then [s] else []
def bsy (l:List Lifetime) (S:List Sl) (k:Nat):List Sl:=gK (sV l k) 0 S
def vN (x:Sl×Nat):Int:=x.1.At
def nC (l:List Sl):List Sl:=(srt vN Prod.snd l.zipIdx).map Prod.fst
def pO (l:List Lifetime) (S:List Sl) (k:Nat):Int:=lN (lfA l k).Size 0 (nC (bsy l S k))
theorem zQr:∀(l:List Sl) (i:Nat),(l.zipIdx i).Pairwise (fun a b=>a.2<b.2)/\∀x,x∈l.zipIdx i->i<=x.2
 |[],i=>by simp
 |a::r,i=>by
  obtain ⟨h1,h2⟩:=zQr r (i+1)
  rw [List.zipIdx_cons]
  refine ⟨?_,fun x hx=>?_⟩
  ·rw [List.pairwise_cons]
   exact ⟨fun b hb=>by have:=h2 b hb;dsimp only;omega,h1⟩
  ·rcases List.mem_cons.1 hx with rfl|hx
   ·exact Nat.le_refl _
   ·have:=h2 x hx;omega
theorem zPp {l:List Sl} {s:Sl}:s∈nC l↔s∈l:=by
 unfold nC
 rw [List.mem_map]
 constructor
 ·rintro ⟨x,hx,rfl⟩
  rw [zDy] at hx
  have:x.1∈l.zipIdx.map Prod.fst:=List.mem_map.2 ⟨x,hx,rfl⟩
  rwa [List.zipIdx_map_fst] at this
 ·intro hs
  have:s∈l.zipIdx.map Prod.fst:=by rw [List.zipIdx_map_fst];exact hs
  obtain ⟨x,hx,rfl⟩:=List.mem_map.1 this
  exact ⟨x,zDy.2 hx,rfl⟩
theorem srtA_ord (l:List Sl):(nC l).Pairwise (fun a b=>a.At<=b.At):=by
 have h:=zHw (inc_ne (key:=vN) (zQr l 0).1)
 unfold nC
 rw [List.pairwise_map]
 exact List.Pairwise.imp (fun h=>by unfold ltS vN at h;omega) h
theorem srtA_len (l:List Sl):(nC l).length=l.length:=by unfold nC;rw [List.length_map,yT,List.length_zipIdx]
theorem zLx {α β:Type} {f:Nat->α->List β} {y:β}:∀{l:List α} {i:Nat},y∈gK f i l↔∃k x,l[k]? =some x/\y∈f (i+k) x
 |[],i=>by simp [gK]
 |a::r,i=>by
  rw [gK,List.mem_append,zLx]
  constructor
  ·rintro (h|⟨k,x,hk,hy⟩)
   ·exact ⟨0,a,rfl,h⟩
   ·exact ⟨k+1,x,by simpa using hk,by rw [show i+(k+1)=i+1+k by omega];exact hy⟩
  ·rintro ⟨k,x,hk,hy⟩
   cases k with
   |zero=>simp only [List.getElem?_cons_zero,Option.some.injEq] at hk;subst hk;exact .inl hy
   |succ k=>exact .inr ⟨k,x,by simpa using hk,by rw [show i+1+k=i+(k+1) by omega];exact hy⟩
theorem mem_bsy {l:List Lifetime} {S:List Sl} {k:Nat} {s:Sl}:s∈bsy l S k↔∃i:Nat,S[i]? =some s/\0<s.Len/\i≠k/\jT (lfA l i) (lfA l k)=true:=by
 unfold bsy
 rw [zLx]
 constructor
 ·rintro ⟨i,x,hi,hy⟩
  unfold sV at hy
  split at hy
  ·rename_i c
   rw [List.mem_singleton] at hy
   subst hy
   rw [Nat.zero_add] at c
   exact ⟨i,hi,c.1.1,by have:=c.1.2;omega,c.2⟩
  ·cases hy
 ·rintro ⟨i,hi,h1,h2,h3⟩
  refine ⟨i,s,hi,?_⟩
  unfold sV
  rw [Nat.zero_add,if_pos ⟨⟨h1,by omega⟩,h3⟩]
  exact List.mem_singleton.2 rfl
def cJ (l:List Lifetime) (S:List Sl) (k:Nat) (x:Int):Prop:=∀s,s∈bsy l S k->¬hit (lfA l k).Size x s
theorem bsy_len {l:List Lifetime} {S:List Sl} {k:Nat} {s:Sl} (h:s∈bsy l S k):1<=s.Len:=by
 obtain ⟨i,_,h1,_⟩:=mem_bsy.1 h;omega
theorem ffit_free (l:List Lifetime) (S:List Sl) (k:Nat):cJ l S k (pO l S k):=fun s hs=>
 scan_all _ _ _ (srtA_ord _) (fun t ht=>bsy_len (zPp.1 ht)) s (zPp.2 hs)
theorem ffit_pos (l:List Lifetime) (S:List Sl) (k:Nat):0<=pO l S k:=scan_ge _ _ _
theorem ffit_cand (l:List Lifetime) (S:List Sl) (k:Nat):pO l S k=0∨∃s,s∈bsy l S k/\pO l S k=s.At+s.Len:=by
 rcases scan_cand (lfA l k).Size (nC (bsy l S k)) 0 with h|⟨s,hs,h⟩
 ·exact .inl h
 ·exact .inr ⟨s,zPp.1 hs,h⟩
/-! ## The reference's search -/
end Go.Br
end
section
namespace Go.Br
open Go Go.Eng Go.L41
def atA (a:List Int) (k:Nat):Int:=a.getD k (-1)
theorem Overlap_comm (p q:Lifetime):jT p q=jT q p:=by unfold jT;rw [Bool.and_comm]
structure PlI (l:List Lifetime) (t:Int) (a:List Int):Prop where
 len:a.length=l.length
 rng:∀(j:Nat) (y:Int),a[j]? =some y->y= -1∨(0<=y/\y+(lfA l j).Size<=t)
theorem zEt {l:List Lifetime} {a:List Int} {k:Nat} {y:Int} (hl:a.length=l.length) (h:a[k]? =some y):(jP l a)[k]? =some (slo (lfA l k) y):=by
 have hk:=zAf h
 obtain ⟨m,hm⟩:∃m,l[k]? =some m:=⟨l[k]'(by omega),List.getElem?_eq_getElem (by omega)⟩
 unfold jP
 rw [List.getElem?_zipWith,hm,h,zGv hm]
theorem zDn {l:List Lifetime} {a:List Int} (hl:a.length=l.length):(jP l a).length=l.length:=by
 unfold jP;rw [List.length_zipWith];omega
theorem slos_of {l:List Lifetime} {a:List Int} {k:Nat} {s:Sl} (hl:a.length=l.length) (h:(jP l a)[k]? =some s):∃y,a[k]? =some y/\s=slo (lfA l k) y:=by
 have hk:=zAf h
 rw [zDn hl] at hk
 obtain ⟨y,hy⟩:∃m,a[k]? =some m:=⟨a[k]'(by omega),List.getElem?_eq_getElem (by omega)⟩
 rw [zEt hl hy,Option.some.injEq] at h
 exact ⟨y,hy,h.symm⟩
theorem slos_set {l:List Lifetime} {a:List Int} {k:Nat} {x:Int} (hl:a.length=l.length):jP l (a.set k x)=(jP l a).set k (slo (lfA l k) x):=by
 apply List.ext_getElem?
 intro i
 by_cases hi:i<l.length
 ·have h1:(a.set k x)[i]? =some (if k=i then x else a[i]'(by omega)):=by
   rw [List.getElem?_set]
   by_cases c:k=i
   ·subst c;rw [if_pos rfl,if_pos rfl,if_pos (by omega)]
   ·rw [if_neg c,if_neg c];exact List.getElem?_eq_getElem (by omega)
  rw [zEt (by rw [List.length_set];exact hl) h1,List.getElem?_set,zDn hl]
  by_cases c:k=i
  ·subst c;rw [if_pos rfl,if_pos rfl,if_pos hi]
  ·rw [if_neg c,if_neg c,zEt hl (List.getElem?_eq_getElem (by omega))]
 ·rw [List.getElem?_eq_none (by rw [zDn (by rw [List.length_set];exact hl)];omega),List.getElem?_eq_none (by rw [List.length_set,zDn hl];omega)]
def pS (l:List Lifetime):Prop:=∀j:Nat,j<l.length->1<=(lfA l j).Size/\(lfA l j).Size<=4096
theorem valid_from:∀(r p:List Lifetime),fW p r=0->∀x,x∈r->1<=x.Size/\x.Size<=4096/\0<=x.From/\x.From<=x.To
 |[],p,_,x,hx=>by cases hx
 |a::r,p,h,x,hx=>by
  rw [fW] at h
  by_cases c:gY p a=0
  ·rw [if_pos c] at h
   rcases List.mem_cons.1 hx with rfl|hx
   ·unfold gY at c
    split at c
    ·cases c
    ·split at c
     ·cases c
     ·split at c
      ·cases c
      ·omega
   ·exact valid_from r _ h x hx
  ·rw [if_neg c] at h;exact absurd h c
theorem zRd {l:List Lifetime} (h:dW l=0):pS l:=fun j hj=>by
 have h1:l[j]? =some l[j]:=List.getElem?_eq_getElem hj
 rw [zGv h1]
 have:=valid_from l [] h l[j] (List.getElem_mem hj)
 omega
theorem slo_pos {m:Lifetime} {y:Int} (h:0<(slo m y).Len):¬y<0/\slo m y=⟨m.Name,y,m.Size⟩:=by
 unfold slo at h⊢
 by_cases c:y<0
 ·rw [if_pos c] at h;simp [zSl] at h
 ·rw [if_neg c];exact ⟨c,rfl⟩
def xI (l:List Lifetime) (i:Nat):Int:= -(lfA l i).Size
def dV (l:List Lifetime):List Nat:=srt (xI l) id (List.range l.length)
def plS (l:List Lifetime) (st:List Int×Int) (k:Nat):List Int×Int:=(st.1.set k (pO l (jP l st.1) k),max st.2 (pO l (jP l st.1) k+(lfA l k).Size))
def plF (l:List Lifetime) (o:List Nat):List Int×Int:=o.foldl (plS l) (List.replicate l.length (-1),0)
theorem zGo {l:List Lifetime} {o:List Nat} {t k:Nat} (h:o[t]? =some k):plF l (o.take (t+1))=plS l (plF l (o.take t)) k:=by
 unfold plF;rw [yC h,List.foldl_append];rfl
theorem range_inc:∀n:Nat,(List.range n).Pairwise fun a b=>id a<id b:=fun n=>List.pairwise_lt_range
theorem zPy (l:List Lifetime):(dV l).Perm (List.range l.length):=zCr _
theorem zDk (l:List Lifetime):(dV l).length=l.length:=by unfold dV;rw [yT,List.length_range]
theorem ord_lt {l:List Lifetime} {t k:Nat} (h:(dV l)[t]? =some k):k<l.length:=List.mem_range.1 ((zPy l).mem_iff.1 (qA h))
theorem ord_nodup (l:List Lifetime):(dV l).Nodup:=(zPy l).nodup_iff.2 List.nodup_range
structure PlJ (l:List Lifetime) (t:Nat):Prop where
 pl:PlI l (4096*t) (plF l ((dV l).take t)).1
 sz:0<=(plF l ((dV l).take t)).2/\(plF l ((dV l).take t)).2<=4096*t
 no:∀k:Nat,k<l.length->k ∉ (dV l).take t->(plF l ((dV l).take t)).1[k]? =some (-1)
 ys:∀k:Nat,k∈(dV l).take t->∃y,(plF l ((dV l).take t)).1[k]? =some y/\0<=y/\y+(lfA l k).Size<=(plF l ((dV l).take t)).2
theorem ffit_le {l:List Lifetime} {a:List Int} {k:Nat} {t:Int} (hp:PlI l t a) (ht:0<=t):pO l (jP l a) k<=t:=by
 rcases ffit_cand l (jP l a) k with h|⟨s,hs',h⟩
 ·omega
 ·obtain ⟨i,hi,h1,h2,h3⟩:=mem_bsy.1 hs'
  obtain ⟨y,hy,rfl⟩:=slos_of hp.len hi
  obtain ⟨h4,h5⟩:=slo_pos h1
  rw [h5] at h
  dsimp only at h
  rcases hp.rng i y hy with h6|h6
  ·omega
  ·omega
theorem not_take {o:List Nat} (hn:o.Nodup) {t k:Nat} (h:o[t]? =some k):k ∉ o.take t:=by
 have e:=yC h
 have h1:(o.take (t+1)).Nodup:=hn.sublist (List.take_sublist _ _)
 rw [e,List.nodup_append] at h1
 intro hk
 exact h1.2.2 k hk k (by simp) rfl
theorem plJ {l:List Lifetime} (hs:pS l):∀t:Nat,t<=l.length->PlJ l t
 |0,_=>by
  have e:plF l ((dV l).take 0)=(List.replicate l.length (-1),0):=rfl
  refine ⟨⟨by rw [e,List.length_replicate],fun j y h=>?_⟩,by rw [e];simp,fun k hk _=>?_,fun k hk=>by simp at hk⟩
  ·rw [e,List.getElem?_replicate] at h
   split at h
   ·rw [Option.some.injEq] at h;exact .inl h.symm
   ·cases h
  ·rw [e,List.getElem?_replicate,if_pos hk]
 |t+1,ht=>by
  have J:=plJ hs t (by omega)
  obtain ⟨k,hk⟩:∃k,(dV l)[t]? =some k:=⟨(dV l)[t]'(by rw [zDk];omega),List.getElem?_eq_getElem (by rw [zDk];omega)⟩
  have hkl:=ord_lt hk
  have hkn:=not_take (ord_nodup l) hk
  have h1:=ffit_le (k:=k) J.pl (by omega)
  have h2:=ffit_pos l (jP l (plF l ((dV l).take t)).1) k
  have h3:=hs k hkl
  have hl:=J.pl.len
  have hsz:=J.sz
  constructor
  ·rw [zGo hk]
   unfold plS
   dsimp only
   refine ⟨by rw [List.length_set];exact hl,fun j y h=>?_⟩
   rw [List.getElem?_set] at h
   split at h
   ·rename_i c;subst c
    split at h
    ·rw [Option.some.injEq] at h;exact .inr ⟨by omega,by rw [←h];omega⟩
    ·cases h
   ·rcases J.pl.rng j y h with h4|h4
    ·exact .inl h4
    ·exact .inr ⟨h4.1,by omega⟩
  ·rw [zGo hk];unfold plS;dsimp only;omega
  ·intro j hj hn
   rw [yC hk] at hn
   rw [zGo hk];unfold plS;dsimp only
   rw [List.getElem?_set,if_neg (by rintro rfl;exact hn (by simp))]
   exact J.no j hj fun h=>hn (by simp [h])
  ·intro j hj
   rw [yC hk] at hj
   rw [zGo hk];unfold plS;dsimp only
   rw [List.getElem?_set]
   by_cases c:k=j
   ·subst c
    rw [if_pos rfl,if_pos (by omega)]
    exact ⟨_,rfl,h2,by omega⟩
   ·rw [if_neg c]
    obtain ⟨y,h4,h5,h6⟩:=J.ys j (by rcases List.mem_append.1 hj with hj|hj;exact hj;exact absurd (List.mem_singleton.1 hj).symm c)
    exact ⟨y,h4,h5,by omega⟩
theorem lfA_at {l:List Lifetime} {i:Nat} (h:i<l.length):l[i]? =some (lfA l i):=by
 unfold lfA;rw [List.getD_eq_getElem?_getD,List.getElem?_eq_getElem h];rfl
theorem atA_at {a:List Int} {i:Nat} (h:i<a.length):a[i]? =some (atA a i):=by
 unfold atA;rw [List.getD_eq_getElem?_getD,List.getElem?_eq_getElem h];rfl
theorem slos_init (l:List Lifetime):jP l (List.replicate l.length (-1))=List.replicate l.length zSl:=by
 apply List.ext_getElem?
 intro i
 by_cases hi:i<l.length
 ·rw [zEt (by simp) (show (List.replicate l.length (-1:Int))[i]? =some (-1) by rw [List.getElem?_replicate,if_pos hi]),List.getElem?_replicate,if_pos hi];rfl
 ·rw [List.getElem?_eq_none (by rw [zDn (by simp)];omega),List.getElem?_eq_none (by simp;omega)]
def slB (S:List Sl):Prop:=∀s,s∈S->0<=s.At/\s.At<=600000/\0<=s.Len/\s.Len<=4096
theorem PlI.sl {l:List Lifetime} {a:List Int} {t:Int} (h:PlI l t a) (hs:pS l) (ht:t<=600000):slB (jP l a):=fun s hm=>by
 obtain ⟨i,hi,rfl⟩:=List.getElem_of_mem hm
 obtain ⟨y,hy,e⟩:=slos_of h.len (List.getElem?_eq_getElem hi)
 rw [e]
 have h1:=hs i (by have:=zAf hy;have:=h.len;omega)
 unfold slo
 split
 ·simp [zSl]
 ·rcases h.rng i y hy with h2|h2
  ·omega
  ·dsimp only;omega
theorem bsy_sub {l:List Lifetime} {S:List Sl} {k:Nat} (h:slB S):slB (bsy l S k):=fun s hs=>by
 obtain ⟨i,hi,_⟩:=mem_bsy.1 hs
 exact h s (List.mem_of_getElem? hi)
theorem zQa {α β:Type} {f:Nat->α->List β} (h:∀i x,(f i x).length<=1):∀(l:List α) (i:Nat),(gK f i l).length<=l.length
 |[],i=>Nat.le_refl _
 |x::r,i=>by rw [gK,List.length_append,List.length_cons];have:=h i x;have:=zQa h r (i+1);omega
theorem bsyF_len (l:List Lifetime) (k i:Nat) (s:Sl):(sV l k i s).length<=1:=by unfold sV;split<;>simp
theorem bsy_len2 (l:List Lifetime) (S:List Sl) (k:Nat):(bsy l S k).length<=S.length:=zQa (bsyF_len l k) S 0
theorem zip_enc (b:List Sl):(b.zipIdx.map fun x=>x.1.cells)=b.map Sl.cells:=by
 rw [show (fun x:Sl×Nat=>x.1.cells)=Sl.cells ∘ Prod.fst from rfl,←List.map_map,List.zipIdx_map_fst]
theorem srt_enc (b:List Sl):((srt vN Prod.snd b.zipIdx).map fun x=>x.1.cells)=(nC b).map Sl.cells:=by
 unfold nC;rw [List.map_map];rfl
theorem zip_inc (b:List Sl):b.zipIdx.Pairwise fun x y=>x.2<y.2:=(zQr b 0).1
theorem zip_mem {b:List Sl} {x:Sl×Nat} (h:x∈b.zipIdx):x.1∈b:=by
 have:x.1∈b.zipIdx.map Prod.fst:=List.mem_map.2 ⟨x,h,rfl⟩
 rwa [List.zipIdx_map_fst] at this
theorem scan_stop {m a:Int} {L:List Sl} {j:Nat} {s:Sl} (h:L[j]? =some s) (c:a+m<=s.At):lN m a (L.drop j)=a:=by rw [qY h,lN,if_pos c]
theorem scan_next {m a:Int} {L:List Sl} {j:Nat} {s:Sl} (h:L[j]? =some s) (c:¬a+m<=s.At):lN m a (L.drop j)=lN m (max a (s.At+s.Len)) (L.drop (j+1)):=by rw [qY h,lN,if_neg c]
def fF (l:List Lifetime):List Sl×Int:=(jP l (plF l (dV l)).1,(plF l (dV l)).2)
end Go.Br
end
section
namespace Go.Br
open Go Go.Eng Go.L41
theorem nodesL_of':∀{l:List Ex} {x:Ex},x∈bK l->∃a,a∈l/\x∈bF a
 |a::r,x,h=>by
  rw [bK] at h
  rcases List.mem_append.1 h with h|h
  ·exact ⟨a,by simp,h⟩
  ·obtain ⟨b,hb,hx⟩:=nodesL_of' h
   exact ⟨b,by simp [hb],hx⟩
/-! ## Types -/
def adT (l:List Ty) (t:Ty):List Ty:=if t∈l then l else l++[t]
theorem hasT_iff {l:List Ty} {t:Ty}:xK l t=true↔t∈l:=by
 unfold xK;rw [List.any_eq_true]
 exact ⟨fun ⟨x,hx,h⟩=>by rw [of_decide_eq_true h];exact hx,fun h=>⟨t,h,decide_eq_true rfl⟩⟩
theorem adT_t {l:List Ty} {t:Ty} (h:xK l t=true):adT l t=l:=by unfold adT;rw [if_pos (hasT_iff.1 h)]
theorem adT_f {l:List Ty} {t:Ty} (h:xK l t=false):adT l t=l++[t]:=by unfold adT;rw [if_neg (fun k=>by rw [hasT_iff.2 k] at h;cases h)]
def gR (l:List Ty) (e:Ex):List Ty:=if e.Op=1∨e.Op=12 then adT l e.Ty else if e.Op=2 then adT l iTy else l
mutual
def mN:Ex->List Ty->List Ty
 |.mk o n v t lf i av,l=>fK av (gR l (.mk o n v t lf i av))
def fK:List Ex->List Ty->List Ty
 |[],l=>l
 |a::r,l=>fK r (mN a l)
end
theorem exTy_eq (e:Ex) (l:List Ty):mN e l=fK e.Args (gR l e):=by cases e;rw [mN];rfl
theorem exTyL_app:∀(a b:List Ex) (l:List Ty),fK (a++b) l=fK b (fK a l)
 |[],b,l=>rfl
 |x::r,b,l=>by rw [List.cons_append,fK,fK,exTyL_app r b]
theorem zJj {av:List Ex} {k:Nat} {x:Ex} (h:av[k]? =some x) (l:List Ty):fK (av.take (k+1)) l=mN x (fK (av.take k) l):=by
 rw [yC h,exTyL_app,fK,fK]
mutual
def pL:St->List Ty->List Ty
 |.mk o nm mn mk fo i e b,l=>fR b (mN e l)
def fR:List St->List Ty->List Ty
 |[],l=>l
 |s::r,l=>fR r (pL s l)
end
theorem stTy_eq (s:St) (l:List Ty):pL s l=fR s.Body (mN s.E l):=by cases s;rw [pL];rfl
theorem stTyL_app:∀(a b:List St) (l:List Ty),fR (a++b) l=fR b (fR a l)
 |[],b,l=>rfl
 |x::r,b,l=>by rw [List.cons_append,fR,fR,stTyL_app r b]
theorem stTyL_next {ss:List St} {k:Nat} {x:St} (h:ss[k]? =some x) (l:List Ty):fR (ss.take (k+1)) l=pL x (fR (ss.take k) l):=by
 rw [yC h,stTyL_app,fR,fR]
def rS (l:List Bf):List Ty:=l.foldl (fun l b=>adT l b.T) []
theorem bfTy_next {l:List Bf} {k:Nat} {b:Bf} (h:l[k]? =some b):rS (l.take (k+1))=adT (rS (l.take k)) b.T:=by
 unfold rS;rw [yC h,List.foldl_append];rfl
def jA (n:Ns):List Ty:=fR n.Body (rS n.Bufs)
theorem adT_sub (l:List Ty) (t:Ty):∀x,x∈l->x∈adT l t:=fun x hx=>by unfold adT;split;exact hx;simp [hx]
theorem adT_mem (l:List Ty) (t:Ty):t∈adT l t:=by unfold adT;split;assumption;simp
theorem adT_len (l:List Ty) (t:Ty):(adT l t).length<=l.length+1:=by unfold adT;split<;>simp
theorem exT1_sub (l:List Ty) (e:Ex):∀x,x∈l->x∈gR l e:=fun x hx=>by
 unfold gR;split
 ·exact adT_sub _ _ x hx
 ·split
  ·exact adT_sub _ _ x hx
  ·exact hx
theorem zMm (l:List Ty) (e:Ex):(gR l e).length<=l.length+1:=by
 unfold gR;split
 ·exact adT_len _ _
 ·split
  ·exact adT_len _ _
  ·omega
mutual
theorem exTy_sub:∀(e:Ex) (l:List Ty) (x:Ty),x∈l->x∈mN e l
 |.mk o n v t lf i av,l,x,hx=>by rw [mN];exact zIu av _ x (exT1_sub _ _ x hx)
theorem zIu:∀(av:List Ex) (l:List Ty) (x:Ty),x∈l->x∈fK av l
 |[],l,x,hx=>hx
 |a::r,l,x,hx=>by rw [fK];exact zIu r _ x (exTy_sub a l x hx)
end
mutual
theorem exTy_len:∀(e:Ex) (l:List Ty),(mN e l).length<=l.length+e.wt
 |.mk o n v t lf i av,l=>by
  rw [mN]
  have h1:=zGb av (gR l (.mk o n v t lf i av))
  have h2:=zMm l (.mk o n v t lf i av)
  have h3:=Ex.wt_eq (.mk o n v t lf i av)
  have h4:(Ex.mk o n v t lf i av).Args=av:=rfl
  rw [h4] at h3
  omega
theorem zGb:∀(av:List Ex) (l:List Ty),(fK av l).length<=l.length+dQ av
 |[],l=>by rw [fK,dQ];omega
 |a::r,l=>by
  rw [fK,dQ]
  have h1:=zGb r (mN a l);have h2:=exTy_len a l;omega
end
mutual
theorem stTy_sub:∀(s:St) (l:List Ty) (x:Ty),x∈l->x∈pL s l
 |.mk o nm mn mk fo i e b,l,x,hx=>by rw [pL];exact zHu b _ x (exTy_sub e l x hx)
theorem zHu:∀(ss:List St) (l:List Ty) (x:Ty),x∈l->x∈fR ss l
 |[],l,x,hx=>hx
 |a::r,l,x,hx=>by rw [fR];exact zHu r _ x (stTy_sub a l x hx)
end
mutual
theorem stTy_len:∀(s:St) (l:List Ty),(pL s l).length<=l.length+s.wt
 |.mk o nm mn mk fo i e b,l=>by
  rw [pL,St.wt]
  have h1:=zHv b (mN e l);have h2:=exTy_len e l;omega
theorem zHv:∀(ss:List St) (l:List Ty),(fR ss l).length<=l.length+bL ss
 |[],l=>by rw [fR,bL];omega
 |a::r,l=>by
  rw [fR,bL]
  have h1:=zHv r (pL a l);have h2:=stTy_len a l;omega
end
theorem bfTy_mem:∀(l:List Bf) (t0:List Ty),(∀x,x∈t0->x∈l.foldl (fun l b=>adT l b.T) t0)/\∀b,b∈l->b.T∈l.foldl (fun l b=>adT l b.T) t0
 |[],t0=>⟨fun x h=>h,fun b h=>by cases h⟩
 |a::r,t0=>by
  obtain ⟨h1,h2⟩:=bfTy_mem r (adT t0 a.T)
  rw [List.foldl_cons]
  refine ⟨fun x hx=>h1 x (adT_sub _ _ x hx),fun b hb=>?_⟩
  rcases List.mem_cons.1 hb with rfl|hb
  ·exact h1 _ (adT_mem _ _)
  ·exact h2 b hb
theorem bfTy_len (l:List Bf):(rS l).length<=l.length:=by
 suffices h:∀(t0:List Ty),(l.foldl (fun l b=>adT l b.T) t0).length<=t0.length+l.length by have:=h [];simpa [rS] using this
 induction l with
 |nil=>intro t0;simp
 |cons a r ih=>intro t0;rw [List.foldl_cons,List.length_cons];have:=ih (adT t0 a.T);have:=adT_len t0 a.T;omega
def tyE (ty:List Ty) (e:Ex):Prop:=∀x,x∈bF e->(x.Op=1∨x.Op=12->x.Ty∈ty)/\(x.Op=2->iTy∈ty)
theorem tyE.mono {a b:List Ty} (h:∀x,x∈a->x∈b) {e:Ex} (he:tyE a e):tyE b e:=fun x hx=>⟨fun c=>h _ ((he x hx).1 c),fun c=>h _ ((he x hx).2 c)⟩
mutual
theorem exTy_all:∀(e:Ex) (l:List Ty),tyE (mN e l) e
 |.mk o n v t lf i av,l=>by
  intro x hx
  rw [wO] at hx
  rw [mN]
  rcases List.mem_cons.1 hx with rfl|hx
  ·refine ⟨fun c=>zIu av _ _ ?_,fun c=>zIu av _ _ ?_⟩
   ·unfold gR;rw [if_pos c];exact adT_mem _ _
   ·unfold gR;rw [if_neg (by omega),if_pos c];exact adT_mem _ _
  ·obtain ⟨a,ha,hxa⟩:=nodesL_of' hx
   exact exTyL_all av _ a ha x hxa
theorem exTyL_all:∀(av:List Ex) (l:List Ty),∀a,a∈av->tyE (fK av l) a
 |[],l,a,ha=>by cases ha
 |b::r,l,a,ha=>by
  rw [fK]
  rcases List.mem_cons.1 ha with h|ha
  ·rw [h];exact (exTy_all b l).mono (zIu r _)
  ·exact exTyL_all r _ a ha
end
mutual
def tyS (ty:List Ty):St->Prop
 |.mk _ _ _ _ _ _ e b=>tyE ty e/\tySs ty b
def tySs (ty:List Ty):List St->Prop
 |[]=>True
 |s::r=>tyS ty s/\tySs ty r
end
mutual
theorem tyS.mono {a b:List Ty} (h:∀x,x∈a->x∈b):∀s:St,tyS a s->tyS b s
 |.mk o nm mn mk fo i e l,hs=>by rw [tyS] at hs⊢;exact ⟨hs.1.mono h,tySs.mono h l hs.2⟩
theorem tySs.mono {a b:List Ty} (h:∀x,x∈a->x∈b):∀l:List St,tySs a l->tySs b l
 |[],_=>by rw [tySs];trivial
 |s::r,hs=>by rw [tySs] at hs⊢;exact ⟨tyS.mono h s hs.1,tySs.mono h r hs.2⟩
end
mutual
theorem stTy_all:∀(s:St) (l:List Ty),tyS (pL s l) s
 |.mk o nm mn mk fo i e b,l=>by rw [pL,tyS];exact ⟨(exTy_all e l).mono (zHu b _),zRh b _⟩
theorem zRh:∀(ss:List St) (l:List Ty),tySs (fR ss l) ss
 |[],l=>by rw [tySs];trivial
 |s::r,l=>by rw [fR,tySs];exact ⟨tyS.mono (zHu r _) s (stTy_all s l),zRh r _⟩
end
theorem typN_bf (n:Ns):∀b,b∈n.Bufs->b.T∈jA n:=fun b hb=>zHu _ _ _ ((bfTy_mem n.Bufs []).2 b hb)
theorem typN_st (n:Ns):tySs (jA n) n.Body:=zRh _ _
theorem typN_len (n:Ns):(jA n).length<=n.Bufs.length+bL n.Body:=by
 unfold jA;have h1:=zHv n.Body (rS n.Bufs);have h2:=bfTy_len n.Bufs;omega
/-! ## Expressions that are ready to be compiled -/
structure Rdy (g:Gn) (L:List ByteArray) (e:Ex):Prop where
 part:fN e=0
 nds:dD g.n.Bufs L (bF e)=0
 tys:tyE g.ty e
def RdI (g:Gn) (L:List ByteArray) (x:Ix):Prop:=
 (x.From=bs []->jS L x.Lin=true)/\(¬x.From=bs []->bP g.n.Bufs x.From=true/\(g.dm x.From).length=x.At.length/\∀l,l∈x.At->jS L l=true)
theorem Rdy.arg {g:Gn} {L:List ByteArray} {e a:Ex} (h:Rdy g L e) (ha:a∈e.Args):Rdy g L a:=by
 have hs:∀x,x∈bF a->x∈bF e:=fun x hx=>by rw [wO];exact List.mem_cons_of_mem _ (zSa ha hx)
 exact ⟨zLs h.part ha,zJd.2 fun x hx=>zJd.1 h.nds x (hs x hx),fun x hx=>h.tys x (hs x hx)⟩
theorem Rdy.node {g:Gn} {L:List ByteArray} {e:Ex} (h:Rdy g L e):gL g.n.Bufs L e=0:=zJd.1 h.nds e (by rw [wO];simp)
theorem nodeN_sc {B:List Bf} {sc:List ByteArray} {e:Ex} (h:gL B sc e=0):gP sc e=true:=by
 cases c:gP sc e with
 |true=>rfl
 |false=>rw [nodeN_9 c] at h;cases h
theorem Rdy.lin {g:Gn} {L:List ByteArray} {e:Ex} (h:Rdy g L e):jS L e.Lin=true:=by
 have:=nodeN_sc h.node
 unfold gP at this
 rw [Bool.and_eq_true] at this
 exact this.1
theorem gathL_mem {B:List Bf}:∀{l:List Ix},mB B l=0->∀x,x∈l->jU B x=0
 |a::r,h,x,hx=>by
  rw [mB] at h
  by_cases c:jU B a=0
  ·rw [if_pos c] at h
   rcases List.mem_cons.1 hx with rfl|hx
   ·exact c
   ·exact gathL_mem h x hx
  ·rw [if_neg c] at h;exact absurd h c
theorem Rdy.read {g:Gn} {L:List ByteArray} {e:Ex} (h:Rdy g L e) (ho:e.Op=3):bP g.n.Bufs e.Name=true/\(g.dm e.Name).length=e.Idx.length/\∀x,x∈e.Idx->RdI g L x:=by
 have hn:=h.node
 have hsc:=nodeN_sc hn
 cases c:bP g.n.Bufs e.Name with
 |false=>rw [nodeN_n hsc ho c] at hn;cases hn
 |true=>
  by_cases c2:(dI g.n.Bufs e.Name).Dims.length=e.Idx.length
  ·rw [zGq hsc ho c c2] at hn
   refine ⟨rfl,c2,fun x hx=>?_⟩
   unfold gP at hsc
   rw [Bool.and_eq_true] at hsc
   have h1:=(List.all_eq_true.1 hsc.2) x hx
   unfold vO at h1
   rw [Bool.and_eq_true] at h1
   refine ⟨fun _=>h1.1,fun hf=>?_⟩
   have h2:=gathL_mem hn x hx
   cases c3:bP g.n.Bufs x.From with
   |false=>rw [zSp hf c3] at h2;cases h2
   |true=>
    by_cases c4:(dI g.n.Bufs x.From).T.Kind=3
    ·by_cases c5:(dI g.n.Bufs x.From).Dims.length=x.At.length
     ·exact ⟨rfl,c5,fun l hl=>(List.all_eq_true.1 h1.2) l hl⟩
     ·rw [zMg hf c3 c4 c5] at h2;cases h2
    ·rw [zMh hf c3 c4] at h2;cases h2
  ·rw [nodeN_r hsc ho c c2] at hn;cases hn
theorem knd_mem {g:Gn} {L:List ByteArray} (hb:∀b,b∈g.n.Bufs->b.T∈g.ty) (e:Ex):Rdy g L e->bC e=false->knd g.n.Bufs e∈g.ty:=by
 induction e using Ex.ind with
 |_ e ih=>
  intro h hc
  have ht:=h.tys e (by rw [wO];simp)
  have hn:=zLu (wY h.part)
  have hop:=zNr (wY h.part)
  have hcs:=zJl h.part
  rw [knd_eq]
  unfold tJ
  by_cases c1:e.Op=1∨e.Op=12
  ·rw [if_pos c1];exact ht.1 c1
  rw [if_neg c1]
  by_cases c2:e.Op=2
  ·rw [if_pos c2];exact ht.2 c2
  rw [if_neg c2]
  by_cases c3:e.Op=3
  ·rw [if_pos c3];exact hb _ (zQm (h.read c3).1).1
  rw [if_neg c3]
  have hcond:¬13<=e.Op:=by unfold bC at hc;simp at hc;omega
  by_cases c11:e.Op=11
  ·rw [if_pos c11]
   unfold bI at hn
   rw [if_neg (by omega),if_neg (by omega),if_pos c11] at hn
   match hA:e.Args,hn with
   |[a,b,c],_=>
    rw [hA] at hcs
    simp only [fC,Bool.and_true,Bool.and_eq_true,beq_iff_eq] at hcs
    exact ih b (by rw [hA];simp) (h.arg (by rw [hA];simp)) (by rw [hcs.2.1];simp [fI,c11])
   |[],hn=>simp at hn
   |[_],hn=>simp at hn
   |[_,_],hn=>simp at hn
   |_::_::_::_::_,hn=>simp at hn;omega
  ·rw [if_neg c11]
   have h1:1<=e.Args.length:=by
    unfold bI at hn
    by_cases k1:e.Op=1∨e.Op=2∨e.Op=3
    ·omega
    ·rw [if_neg k1] at hn
     by_cases k2:e.Op=8∨e.Op=12∨e.Op=18
     ·rw [if_pos k2] at hn;omega
     ·rw [if_neg k2,if_neg c11] at hn;omega
   match hA:e.Args,h1 with
   |a::r,_=>
    rw [hA,fC] at hcs
    simp only [Bool.and_eq_true,beq_iff_eq] at hcs
    exact ih a (by rw [hA];simp) (h.arg (by rw [hA];simp)) (by rw [hcs.1];unfold fI;simp;omega)
end Go.Br
end
section
namespace Go.Br
open Go Go.Eng Go.L41
mutual
def RdS (g:Gn):St->List ByteArray->Prop
 |.mk o nm mn mk fo i e b,L=>
  (o=1->(1<=mn/\mn<=65536)/\mX g b (L++[nm]))/\(o=4->Rdy g L e/\bC e=true/\mX g b L)/\
  (o=2∨o=3->Rdy g L e/\bC e=false/\Rdy g L (rdE (.mk o nm mn mk fo i e b)))/\(1<=o/\o<=4)
def mX (g:Gn):List St->List ByteArray->Prop
 |[],_=>True
 |s::r,L=>RdS g s L/\mX g r L
end
theorem RdS_eq (g:Gn) (s:St) (L:List ByteArray):RdS g s L=((s.Op=1->(1<=s.Many/\s.Many<=65536)/\mX g s.Body (L++[s.Name]))/\(s.Op=4->Rdy g L s.E/\bC s.E=true/\mX g s.Body L)/\
  (s.Op=2∨s.Op=3->Rdy g L s.E/\bC s.E=false/\Rdy g L (rdE s))/\(1<=s.Op/\s.Op<=4)):=by cases s;rw [RdS];rfl
theorem zNe {g:Gn}:∀{l:List St} {L:List ByteArray} {s:St},mX g l L->s∈l->RdS g s L
 |a::r,L,s,h,hs=>by
  rw [mX] at h
  rcases List.mem_cons.1 hs with rfl|hs
  ·exact h.1
  ·exact zNe h.2 hs
theorem Rdy.of {g:Gn} {L:List ByteArray} {e:Ex} (h:(bW g.n.Bufs L e).2=0) (ht:tyE g.ty e):Rdy g L e:=
 ⟨zFq (zKx h).1,(zKx h).2,ht⟩
theorem tyE_rd (ty:List Ty) (s:St):tyE ty (rdE s):=fun x hx=>by
 rw [wO] at hx
 have h1:bK (rdE s).Args=[]:=rfl
 rw [h1,List.mem_singleton] at hx
 subst hx
 exact ⟨fun c=>by have h3:(rdE s).Op=3:=rfl;omega,fun c=>by have h3:(rdE s).Op=3:=rfl;omega⟩
theorem stE_rdy {g:Gn} {U sc:List ByteArray} {s:St} (h:stE g.n.Bufs U sc s=0) (ht:tyE g.ty s.E):
  (s.Op=1->1<=s.Many/\s.Many<=65536)/\(s.Op=4->Rdy g sc s.E/\bC s.E=true)/\(s.Op=2∨s.Op=3->Rdy g sc s.E/\bC s.E=false/\Rdy g sc (rdE s))/\(1<=s.Op/\s.Op<=4):=by
 have hs:fE s=true:=by
  cases c:fE s with
  |true=>rfl
  |false=>rw [stE_5 c] at h;cases h
 have hs0:=hs
 unfold fE fU at hs0
 simp only [Bool.and_eq_true,Bool.or_eq_true,Bool.not_eq_true',Bool.and_eq_false_iff,Bool.or_eq_false_iff,Bool.not_eq_false',decide_eq_true_eq,decide_eq_false_iff_not] at hs0
 obtain ⟨⟨⟨⟨⟨⟨a1,a2⟩,a3⟩,a4⟩,a5⟩,a6⟩,a7⟩:=hs0
 by_cases h1:s.Op=1
 ·rw [stE_l hs h1] at h
  unfold nA at h
  split at h
  ·split at h
   ·cases h
   ·split at h
    ·cases h
    ·exact ⟨fun _=>by omega,fun c=>by omega,fun c=>by omega,by omega⟩
  ·cases h
 ·by_cases h4:s.Op=4
  ·rw [stE_i hs h4] at h
   unfold ifE at h
   by_cases c:(bW g.n.Bufs sc s.E).2=0
   ·rw [if_pos c] at h
    by_cases c2:bC s.E=true
    ·exact ⟨fun k=>by omega,fun _=>⟨Rdy.of c ht,c2⟩,fun k=>by omega,by omega⟩
    ·rw [if_neg c2] at h;cases h
   ·rw [if_neg c] at h;exact absurd h c
  ·rw [stE_s hs h1 h4] at h
   unfold gO at h
   by_cases c:(bW g.n.Bufs sc (rdE s)).2=0
   ·rw [if_pos c] at h
    split at h
    ·cases h
    ·by_cases c2:(bW g.n.Bufs sc s.E).2=0
     ·rw [if_pos c2] at h
      split at h
      ·cases h
      ·rename_i c3
       exact ⟨fun k=>absurd k h1,fun k=>absurd k h4,fun _=>⟨Rdy.of c2 ht,by cases q:bC s.E;rfl;exact absurd (.inl q) c3,Rdy.of c (tyE_rd _ s)⟩,by omega⟩
     ·rw [if_neg c2] at h;exact absurd h c2
   ·rw [if_neg c] at h;exact absurd h c
mutual
theorem chkS_rdy {g:Gn}:∀(s:St) (U sc:List ByteArray) (here:List Int),(lB g.n.Bufs U sc here s).E=0->tyS g.ty s->RdS g s sc
 |.mk o nm mn mk fo i e b,U,sc,here,h,ht=>by
  have h0:stE g.n.Bufs U sc (.mk o nm mn mk fo i e b)=0:=by
   by_cases c:stE g.n.Bufs U sc (.mk o nm mn mk fo i e b)=0
   ·exact c
   ·rw [chkS_no c] at h;exact absurd h c
  rw [chkS_in h0] at h
  rw [tyS] at ht
  obtain ⟨q1,q2,q3,q4⟩:=stE_rdy h0 ht.1
  have hb:=chkL_rdy b _ _ _ _ h ht.2
  rw [RdS_eq]
  refine ⟨fun c=>⟨q1 c,?_⟩,fun c=>⟨(q2 c).1,(q2 c).2,?_⟩,q3,q4⟩
  ·have e1:lC sc (.mk o nm mn mk fo i e b)=sc++[nm]:=zIk c
   rw [e1] at hb;exact hb
  ·have e1:lC sc (.mk o nm mn mk fo i e b)=sc:=zLv (fun k=>by rw [c] at k;cases k)
   rw [e1] at hb;exact hb
theorem chkL_rdy {g:Gn}:∀(l:List St) (U sc:List ByteArray) (way:List Int) (i:Int),(dR g.n.Bufs U sc way i l).E=0->tySs g.ty l->mX g l sc
 |[],_,_,_,_,_,_=>by rw [mX];trivial
 |s::r,U,sc,way,i,h,ht=>by
  have h0:(lB g.n.Bufs U sc (way++[i]) s).E=0:=by
   by_cases c:(lB g.n.Bufs U sc (way++[i]) s).E=0
   ·exact c
   ·rw [dR,if_neg c] at h;exact absurd h c
  rw [dR,if_pos h0] at h
  rw [tySs] at ht
  rw [mX]
  exact ⟨chkS_rdy s _ _ _ h0 ht.1,chkL_rdy r _ _ _ _ h ht.2⟩
end
theorem valid_rdy {g:Gn} (h:(bZ g.n).2=0) (ht:g.ty=jA g.n):mX g g.n.Body []:=
 chkL_rdy g.n.Body [] [] [] 0 (zKh h).2.2.2 (by rw [ht];exact typN_st g.n)
/-! ## The slots of a nest -/
def gnN (n:Ns):Gn:=⟨n,jA n,(fF (bE n)).1⟩
structure Gn.Ok (g:Gn):Prop where
 hn:g.n.Ok
 ty:∀b,b∈g.n.Bufs->b.T∈g.ty
 tl:g.ty.length<=4000000
 dims:∀b,b∈g.n.Bufs->bX b.Dims=0
 nb:g.n.Bufs.length<=128
 sl:g.sl.length=g.n.Bufs.length
 at_:∀(i:Nat) b,g.n.Bufs[i]? =some b->∃y,g.sl[i]? =some ⟨b.Name,y,dJ b.Dims⟩/\0<=y/\y<=600000
theorem slD_next {l:List Sl} {k:Nat} {x:Sl} {s:ByteArray} (h:l[k]? =some x) (hp:∀(i:Nat) z,i<k->l[i]? =some z->¬z.Name=s) (hx:x.Name=s):slD l s=x:=by
 induction l generalizing k with
 |nil=>simp at h
 |cons a r ih=>
  rw [slD]
  cases k with
  |zero=>simp only [List.getElem?_cons_zero,Option.some.injEq] at h;subst h;rw [if_pos hx]
  |succ k=>
   rw [if_neg (hp 0 a (by omega) rfl)]
   exact ih (by simpa using h) fun i z hi hz=>hp (i+1) z (by omega) (by simpa using hz)
theorem Gn.Ok.slot {g:Gn} (h:g.Ok) {i:Nat} {b:Bf} (hb:g.n.Bufs[i]? =some b) (hp:bP (g.n.Bufs.take i) b.Name=false):g.sl[i]? =some (slD g.sl b.Name)/\(slD g.sl b.Name).Len=dJ b.Dims/\0<=(slD g.sl b.Name).At/\(slD g.sl b.Name).At<=600000:=by
 obtain ⟨y,hy,h1,h2⟩:=h.at_ i b hb
 have e:=slD_next (s:=b.Name) hy (fun j z hj hz=>by
  obtain ⟨c,hc⟩:∃c,g.n.Bufs[j]? =some c:=qU _ _ (by have:=zAf hb;omega)
  obtain ⟨y',hy',_⟩:=h.at_ j c hc
  rw [hy',Option.some.injEq] at hz
  subst hz
  intro k
  have:=hasBf_lt hc hj k
  rw [this] at hp;cases hp) rfl
 rw [e]
 exact ⟨hy,rfl,h1,h2⟩
theorem zOi:∀{l:List Bf} {s:ByteArray},bP l s=true->∃i:Nat,l[i]? =some (dI l s)/\bP (l.take i) s=false/\(dI l s).Name=s
 |[],s,h=>by simp [bP] at h
 |a::r,s,h=>by
  by_cases c:a.Name=s
  ·exact ⟨0,by rw [dI,if_pos c];rfl,rfl,by rw [dI,if_pos c];exact c⟩
  ·have h1:bP r s=true:=by simpa [bP,c] using h
   obtain ⟨i,h2,h3,h4⟩:=zOi h1
   rw [dI,if_neg c]
   exact ⟨i+1,by simpa using h2,by simp only [List.take_succ_cons,bP,List.any_cons,decide_eq_false c,Bool.false_or];exact h3,h4⟩
theorem Gn.Ok.plc {g:Gn} (h:g.Ok) {s:ByteArray} (hs:bP g.n.Bufs s=true):(slD g.sl s).Len=dJ (g.dm s)/\0<=g.bs_ s/\g.bs_ s<=600000/\1<=(slD g.sl s).Len/\(slD g.sl s).Len<=4096/\bX (g.dm s)=0/\(g.dm s).length<=6:=by
 obtain ⟨i,h1,h2,h3⟩:=zOi hs
 have h4:=h.slot h1 (by rw [h3];exact h2)
 rw [h3] at h4
 have h5:=h.dims _ (qA h1)
 obtain ⟨h6,_,z,h7,h8⟩:=zDw h5
 have h9:=zEp h5 h7
 rw [h9] at h4
 have e:dJ (g.dm s)=z:=h9
 exact ⟨by rw [e];exact h4.2.1,h4.2.2.1,h4.2.2.2,by omega,by omega,h5,h6⟩
theorem zCm (n:Ns):(bE n).length=n.Bufs.length:=by unfold bE;rw [List.length_map]
theorem gnN_ok {n:Ns} (hn:n.Ok) (hv:(bZ n).2=0) (hl:n.Bufs.length<=40) (hw:bL n.Body<=900000):(gnN n).Ok:=by
 have hs:=zRd (zGt hv)
 have J:=plJ hs (bE n).length (Nat.le_refl _)
 have htk:(dV (bE n)).take (bE n).length=dV (bE n):=List.take_of_length_le (by rw [zDk];omega)
 have Jl:=J.pl;have Js:=J.sz;have Jy:=J.ys
 rw [htk] at Jl Js Jy
 have hb:=(zNj hv).1
 refine ⟨hn,typN_bf n,by have:=typN_len n;show (jA n).length<=_;omega,fun b hbm=>?_,by show n.Bufs.length<=128;omega,?_,fun i b hi=>?_⟩
 ·obtain ⟨i,hi,rfl⟩:=List.getElem_of_mem hbm
  exact (bfErr_inv (bufs_in hb i _ (List.getElem?_eq_getElem hi))).2.2
 ·show (jP (bE n) (plF (bE n) (dV (bE n))).1).length=_
  rw [zDn Jl.len,zCm];rfl
 ·have hi':n.Bufs[i]? =some b:=hi
  have hil:i<n.Bufs.length:=zAf hi'
  have hlv:(bE n)[i]? =some (fD n.Body b):=by unfold bE;rw [List.getElem?_map,hi'];rfl
  obtain ⟨y,h1,h2,h3⟩:=Jy i ((zPy (bE n)).mem_iff.2 (List.mem_range.2 (by rw [zCm];omega)))
  refine ⟨y,?_,h2,?_⟩
  ·show (jP (bE n) (plF (bE n) (dV (bE n))).1)[i]? =_
   rw [zEt Jl.len h1,zGv hlv]
   unfold slo
   rw [if_neg (by omega)];rfl
  ·have h4:=(hs i (by rw [zCm];omega)).1
   have h5:=Js.2
   have h6:=zCm n
   omega
/-! ## Numbers that fit -/
def rP (n:Int):Bool:=decide (n<=2147483647)&&decide (-2147483647<=n)
def mL (f:Lf):Bool:=rP f.K&&f.L.all fun m=>rP m.By
def nY (x:Ix):Bool:=mL x.Lin&&x.At.all mL
mutual
def nD:Ex->Bool
 |.mk _ _ _ _ lf i av=>mL lf&&i.all nY&&vC av
def vC:List Ex->Bool
 |[]=>true
 |a::r=>nD a&&vC r
end
theorem fitEs_eq (l:List Ex):vC l=l.all nD:=by
 induction l with
 |nil=>rfl
 |cons a r ih=>rw [vC,ih];rfl
theorem zSq (e:Ex):nD e=(mL e.Lin&&e.Idx.all nY&&e.Args.all nD):=by cases e;rw [nD,fitEs_eq];rfl
mutual
def tS:St->Bool
 |.mk _ _ _ _ _ i e b=>i.all nY&&nD e&&jF b
def jF:List St->Bool
 |[]=>true
 |a::r=>tS a&&jF r
end
theorem fitTs_eq (l:List St):jF l=l.all tS:=by
 induction l with
 |nil=>rfl
 |cons a r ih=>rw [jF,ih];rfl
theorem fitT_eq (s:St):tS s=(s.Idx.all nY&&nD s.E&&jF s.Body):=by cases s;rw [tS];rfl
/-! ## The answer -/
structure Un where
 Code:List In
 Types:List Ty
 Slots:List Sl
 Words:Int
def zUn:Un:=⟨[],[],[],0⟩
def lA (n:Ns):Un×Int:=
 if ¬(bZ n).2=0 then (zUn,(bZ n).2) else if 256<(jA n).length then (zUn,2) else if jF n.Body=false then (zUn,3) else
 if 65536<(nB (gnN n) (bE n)).length then (zUn,2) else (⟨nB (gnN n) (bE n),jA n,(fF (bE n)).1,(fF (bE n)).2⟩,0)
end Go.Br
end
section
namespace Go.Br
open Go Go.Eng Go.L41
/-! ## Where an instruction stands -/
def psI (i:Nat):Int:=if i<65536 then i else 0
def hrI (i:Nat):Int:=min (i:Int) 65536
theorem Em.hr {pre code:List In} {full:Bool} (h:Em pre code full):(code.length:Int)=hrI pre.length:=by
 have:=h.len;unfold hrI;omega
theorem Em.ps {pre code:List In} {full:Bool} (h:Em pre code full) (hl:¬65536<=(code.length:Int)) (i:In):(((code++[i]).length:Int)-1)=psI pre.length:=by
 have:=h.len
 rw [List.length_append,List.length_singleton]
 unfold psI
 rw [if_pos (by omega)];omega
theorem Em.ps0 {pre code:List In} {full:Bool} (h:Em pre code full) (hl:65536<=(code.length:Int)):(0:Int)=psI pre.length:=by
 have:=h.len
 unfold psI
 rw [if_neg (by omega)]
theorem Em.jmp {pre code:List In} {full:Bool} (h:Em pre code full) {i:Nat} (hi:i<pre.length) (hf:full=false):psI i=i/\i<code.length/\Em (lD pre i pre.length) (lD code i code.length) full:=by
 obtain ⟨h1,h2⟩:=h.ok hf
 refine ⟨by unfold psI;rw [if_pos (by omega)],by rw [h1];exact hi,?_⟩
 unfold Em
 rw [zSk,if_pos h2,h1]
 exact ⟨rfl,hf⟩
theorem Em.jmp0 {pre code:List In} (h:Em pre code true) (i:Nat) (a:Int):Em (lD pre i a) code true:=by
 have:=h.no rfl
 unfold Em
 rw [zSk,if_neg (by omega)]
 exact ⟨this.2,rfl⟩
theorem jmp_rows {l:List In} {i:Nat} {x:In} {a:Int} (h:l[i]? =some x):(lD l i a).map In.cells=(l.map In.cells).set i ({ x with A:=a }:In).cells:=by
 unfold lD;rw [h];dsimp only;rw [List.map_set]
theorem zMe (P Q:List In) (x:In) (a:Int) {i:Nat} (h:i=P.length):lD (P++[x]++Q) i a=P++[{ x with A:=a }]++Q:=by
 subst h
 rw [List.append_assoc,List.singleton_append,jmpTo_at];simp
theorem hr_in {n:Nat} (h:n<65536):hrI n=n:=by unfold hrI;omega
/-! ## Expressions,case by case -/
theorem val_1 {g:Gn} {L:List ByteArray} {e:Ex} (h:e.Op=1) (p k b:Int):fO g L e p k b=[⟨9,k,0,0,e.Val,zTy⟩]:=by unfold fO;rw [zKe];dsimp only;unfold sJ;rw [if_pos h]
theorem val_2 {g:Gn} {L:List ByteArray} {e:Ex} (h:e.Op=2) (p k b:Int):fO g L e p k b=rN L e.Lin 101++[iN 16 k 101 0]:=by unfold fO;rw [zKe];dsimp only;unfold sJ;rw [if_neg (by omega),if_pos h]
theorem val_3 {g:Gn} {L:List ByteArray} {e:Ex} (h:e.Op=3) (p k b:Int):fO g L e p k b=xA g L e.Name e.Idx++[iA 10 k 100 (g.bs_ e.Name) (g.en e.Name)]:=by
 unfold fO;rw [zKe];dsimp only;unfold sJ;rw [if_neg (by omega),if_neg (by omega),if_pos h]
theorem val_8 {g:Gn} {L:List ByteArray} {e a:Ex} (h:e.Op=8) (ha:e.Args=[a]) (p k b:Int):fO g L e p k b=fO g L a p k b++[iO 12 8 k k 0 (knd g.n.Bufs a)]:=by
 unfold fO;rw [zKe g L e];dsimp only;unfold sJ;rw [if_neg (by omega),if_neg (by omega),if_neg (by omega),if_pos h,ha];rfl
theorem val_12 {g:Gn} {L:List ByteArray} {e a:Ex} (h:e.Op=12) (ha:e.Args=[a]) (p k b:Int):fO g L e p k b=fO g L a p k b++[iO 13 (vT g.ty (knd g.n.Bufs a)) k k 0 e.Ty]:=by
 unfold fO;rw [zKe g L e];dsimp only;unfold sJ;rw [if_neg (by omega),if_neg (by omega),if_neg (by omega),if_neg (by omega),if_pos h,ha];rfl
theorem val_11 {g:Gn} {L:List ByteArray} {e a c d:Ex} (h:e.Op=11) (ha:e.Args=[a,c,d]) (p k b:Int):fO g L e p k b=ifC (cgE g L a) (cgE g L c) (cgE g L d) p k b:=by
 unfold fO;rw [zKe g L e];dsimp only;unfold sJ;rw [if_neg (by omega),if_neg (by omega),if_neg (by omega),if_neg (by omega),if_neg (by omega),if_pos h,ha];rfl
theorem val_o {g:Gn} {L:List ByteArray} {e a c:Ex} (h1:¬e.Op=1) (h2:¬e.Op=2) (h3:¬e.Op=3) (h8:¬e.Op=8) (h12:¬e.Op=12) (h11:¬e.Op=11) (ha:e.Args=[a,c]) (p k b:Int):
  fO g L e p k b=fO g L a p k b++fO g L c (p+(fO g L a p k b).length) (k+1) b++[iO 12 e.Op k k (k+1) (knd g.n.Bufs a)]:=by
 unfold fO;rw [zKe g L e];dsimp only;unfold sJ;rw [if_neg h1,if_neg h2,if_neg h3,if_neg h8,if_neg h12,if_neg h11,ha];rfl
theorem tst_18 {g:Gn} {L:List ByteArray} {e a:Ex} (h:e.Op=18) (ha:e.Args=[a]) (p k b:Int):lS g L e p k b=lS g L a p k b++[iN 4 b b (-1),iN 1 (b+1) 1 0,iN 3 b b (b+1)]:=by
 unfold lS;rw [zKe g L e];dsimp only;unfold xC;rw [if_pos h,ha];rfl
theorem tst_a {g:Gn} {L:List ByteArray} {e a c:Ex} (h:e.Op=16∨e.Op=17) (ha:e.Args=[a,c]) (p k b:Int):
  lS g L e p k b=lS g L a p k b++lS g L c (p+(lS g L a p k b).length) k (b+1)++[iN (if e.Op=17 then 6 else 5) b b (b+1)]:=by
 unfold lS;rw [zKe g L e];dsimp only;unfold xC;rw [if_neg (by omega),if_pos h,ha];rfl
theorem tst_o {g:Gn} {L:List ByteArray} {e a c:Ex} (h1:¬e.Op=18) (h:¬(e.Op=16∨e.Op=17)) (ha:e.Args=[a,c]) (p k b:Int):
  lS g L e p k b=sW (cgE g L a) (cgE g L c) p k b++[iN 1 b 0 0,iO 14 e.Op (p+(sW (cgE g L a) (cgE g L c) p k b).length+3) k (k+1) (knd g.n.Bufs a),iN 1 b 1 0]:=by
 unfold lS;rw [zKe g L e];dsimp only;unfold xC;rw [if_neg h1,if_neg h,ha];rfl
/-! ## Jumps that are set later -/
theorem lenI (a:List In) (b:List In):((a++b).length:Int)=a.length+b.length:=by rw [List.length_append];omega
theorem len1 (x:In):(([x]:List In).length:Int)=1:=rfl
theorem tst_set {g:Gn} {L:List ByteArray} {e a c:Ex} (h1:¬e.Op=18) (h:¬(e.Op=16∨e.Op=17)) (ha:e.Args=[a,c]) (pre:List In) (k b:Int):
  lD (pre++fO g L a pre.length k b++fO g L c (pre++fO g L a pre.length k b).length (k+1) b++[iN 1 b 0 0]++[iO 14 e.Op 0 k (k+1) (knd g.n.Bufs a)]++[iN 1 b 1 0])
   (pre++fO g L a pre.length k b++fO g L c (pre++fO g L a pre.length k b).length (k+1) b++[iN 1 b 0 0]).length
   (pre++fO g L a pre.length k b++fO g L c (pre++fO g L a pre.length k b).length (k+1) b++[iN 1 b 0 0]++[iO 14 e.Op 0 k (k+1) (knd g.n.Bufs a)]++[iN 1 b 1 0]).length=
  pre++lS g L e pre.length k b:=by
 rw [zMe _ _ _ _ rfl,tst_o h1 h ha]
 have e1:((pre++fO g L a pre.length k b).length:Int)=pre.length+(fO g L a pre.length k b).length:=lenI _ _
 rw [e1]
 have e2:fO g L a pre.length k b++fO g L c (pre.length+(fO g L a pre.length k b).length) (k+1) b=sW (cgE g L a) (cgE g L c) pre.length k b:=rfl
 have e3:∀q:List In,pre++fO g L a pre.length k b++fO g L c (pre.length+(fO g L a pre.length k b).length) (k+1) b++q=pre++(sW (cgE g L a) (cgE g L c) pre.length k b++q):=fun q=>by rw [←e2];simp
 rw [e3]
 simp only [lenI,len1,List.append_assoc,List.singleton_append,iO]
 congr 5<;>omega
def ifA (g0:G2) (pre:List In) (k b:Int):List In:=pre++g0.t pre.length k b
def ifB (g0:G2) (pre:List In) (k b:Int):List In:=ifA g0 pre k b++[iN 1 (b+1) 1 0]
def ifD (g0:G2) (pre:List In) (k b:Int):List In:=ifB g0 pre k b++[iN 8 0 b (b+1)]
def tP (g0 g1:G2) (pre:List In) (k b:Int):List In:=ifD g0 pre k b++g1.v (ifD g0 pre k b).length k b
def ifF (g0 g1:G2) (pre:List In) (k b:Int):List In:=tP g0 g1 pre k b++[iN 7 0 0 0]
def ifG (g0 g1:G2) (pre:List In) (k b:Int):List In:=lD (ifF g0 g1 pre k b) (ifB g0 pre k b).length (ifF g0 g1 pre k b).length
def ifH (g0 g1 g2:G2) (pre:List In) (k b:Int):List In:=ifG g0 g1 pre k b++g2.v (ifG g0 g1 pre k b).length k b
def ifI (g0 g1 g2:G2) (pre:List In) (k b:Int):List In:=lD (ifH g0 g1 g2 pre k b) (tP g0 g1 pre k b).length (ifH g0 g1 g2 pre k b).length
theorem ifG_eq (g0 g1:G2) (pre:List In) (k b:Int):ifG g0 g1 pre k b=ifB g0 pre k b++[iN 8 (ifF g0 g1 pre k b).length b (b+1)]++g1.v (ifD g0 pre k b).length k b++[iN 7 0 0 0]:=by
 unfold ifG
 rw [show ifF g0 g1 pre k b=ifB g0 pre k b++[iN 8 0 b (b+1)]++(g1.v (ifD g0 pre k b).length k b++[iN 7 0 0 0]) by unfold ifF tP;rw [List.append_assoc];rfl,zMe _ _ _ _ rfl]
 simp only [List.append_assoc]
 rfl
theorem ifG_len (g0 g1:G2) (pre:List In) (k b:Int):(ifG g0 g1 pre k b).length=(ifF g0 g1 pre k b).length:=zSk _ _ _
theorem ifI_eq (g0 g1 g2:G2) (pre:List In) (k b:Int):ifI g0 g1 g2 pre k b=pre++ifC g0 g1 g2 pre.length k b:=by
 have d:((ifD g0 pre k b).length:Int)=pre.length+(g0.t pre.length k b).length+2:=by unfold ifD ifB ifA;simp only [lenI,len1];omega
 have f:((ifF g0 g1 pre k b).length:Int)=pre.length+(g0.t pre.length k b).length+2+(g1.v (pre.length+(g0.t pre.length k b).length+2) k b).length+1:=by
  unfold ifF tP;simp only [lenI,len1,d]
 have hh:((ifH g0 g1 g2 pre k b).length:Int)=pre.length+(g0.t pre.length k b).length+2+(g1.v (pre.length+(g0.t pre.length k b).length+2) k b).length+1+(g2.v (pre.length+(g0.t pre.length k b).length+2+(g1.v (pre.length+(g0.t pre.length k b).length+2) k b).length+1) k b).length:=by
  unfold ifH;simp only [lenI,ifG_len,f]
 unfold ifI
 rw [show ifH g0 g1 g2 pre k b=(ifB g0 pre k b++[iN 8 (ifF g0 g1 pre k b).length b (b+1)]++g1.v (ifD g0 pre k b).length k b)++[iN 7 0 0 0]++g2.v (ifG g0 g1 pre k b).length k b by unfold ifH;rw [ifG_eq],
  zMe _ _ _ _ (by unfold tP ifD;simp only [List.length_append,List.length_singleton])]
 rw [←show ifH g0 g1 g2 pre k b=(ifB g0 pre k b++[iN 8 (ifF g0 g1 pre k b).length b (b+1)]++g1.v (ifD g0 pre k b).length k b)++[iN 7 0 0 0]++g2.v (ifG g0 g1 pre k b).length k b by unfold ifH;rw [ifG_eq]]
 rw [hh,ifG_len,f,d]
 unfold ifB ifA ifC iN
 simp only [List.append_assoc,List.singleton_append,List.cons_append,List.nil_append]
def cfA (c:Int->List In) (pre:List In):List In:=pre++c pre.length++[iN 1 121 1 0]
def cfB (c:Int->List In) (pre:List In):List In:=cfA c pre++[iN 8 0 120 121]
def cfC (c b:Int->List In) (pre:List In):List In:=cfB c pre++b (cfB c pre).length
theorem cf_set (c b:Int->List In) (pre:List In):lD (cfC c b pre) (cfA c pre).length (cfC c b pre).length=pre++vQ (c pre.length) b pre.length:=by
 have d:((cfB c pre).length:Int)=pre.length+(c pre.length).length+2:=by unfold cfB cfA;simp only [lenI,len1];omega
 have f:((cfC c b pre).length:Int)=pre.length+(c pre.length).length+2+(b (pre.length+(c pre.length).length+2)).length:=by unfold cfC;simp only [lenI,d]
 rw [f,show cfC c b pre=cfA c pre++[iN 8 0 120 121]++b (cfB c pre).length from rfl,zMe _ _ _ _ rfl,d]
 unfold cfA vQ iN
 simp only [List.append_assoc,List.singleton_append,List.cons_append,List.nil_append]
theorem zNc {l:List Ex}:∀{k:Nat} {x:Ex},l[k]? =some x->dQ (l.take k)+x.wt<=dQ l:=by
 induction l with
 |nil=>intro k x h;simp at h
 |cons a r ih=>
  intro k x h
  cases k with
  |zero=>simp only [List.getElem?_cons_zero,Option.some.injEq] at h;subst h;simp [dQ]
  |succ k=>
   have:=ih (k:=k) (x:=x) (by simpa using h)
   simp only [List.take_succ_cons,dQ];omega
theorem sts_take {l:List St}:∀{k:Nat} {x:St},l[k]? =some x->bL (l.take k)+x.wt<=bL l:=by
 induction l with
 |nil=>intro k x h;simp at h
 |cons a r ih=>
  intro k x h
  cases k with
  |zero=>simp only [List.getElem?_cons_zero,Option.some.injEq] at h;subst h;simp [bL]
  |succ k=>
   have:=ih (k:=k) (x:=x) (by simpa using h)
   simp only [List.take_succ_cons,bL];omega
/-! ## Strides -/
def dN (d:List Int):Int:=d.foldr (· * ·) 1
theorem zLr:∀{d:List Int},d.all lF=true->1<=dN d
 |[],_=>Int.le_refl _
 |n::r,h=>by
  simp only [List.all_cons,Bool.and_eq_true] at h
  have hn:1<=n:=by simpa [lF] using h.1
  exact (zDp hn (zLr h.2)).1
theorem zLn:∀{d:List Int} {s t:Int},bG s d=some t->t=s*dN d
 |[],s,t,h=>by simp only [bG,Option.some.injEq] at h;rw [←h];simp [dN]
 |n::r,s,t,h=>by
  rw [bG] at h
  split at h
  ·cases h
  ·have:=zLn h
   rw [this,Int.mul_assoc];rfl
theorem zLm:∀{d:List Int} {s:Int},1<=s->s<=4096->d.all lF=true->s*dN d<=4096->bG s d=some (s*dN d)
 |[],s,_,_,_,_=>by simp [bG,dN]
 |n::r,s,h,h1,hp,hl=>by
  simp only [List.all_cons,Bool.and_eq_true] at hp
  have hn:1<=n:=by simpa [lF] using hp.1
  have hr:=zLr hp.2
  have e:s*dN (n::r)=s*n*dN r:=by show s*(n*dN r)=_;rw [Int.mul_assoc]
  have h2:=(zDp h hn).1
  have h3:s*n*1<=s*n*dN r:=Int.mul_le_mul_of_nonneg_left hr (by omega)
  rw [e] at hl⊢
  rw [bG,if_neg (by omega)]
  exact zLm h2 (by omega) hp.2 hl
theorem zEo {d:List Int} (h:bX d=0) (k:Nat):bX (d.drop k)=0/\dJ (d.drop k)=dN (d.drop k)/\1<=dN (d.drop k)/\dN (d.drop k)<=4096:=by
 obtain ⟨h1,h2,s,h3,h4,h5⟩:=zDw h
 have h6:=zLn h3
 rw [Int.one_mul] at h6
 have hp:(d.drop k).all lF=true:=by rw [List.all_eq_true] at h2⊢;exact fun x hx=>h2 x (List.mem_of_mem_drop hx)
 have hq:(d.take k).all lF=true:=by rw [List.all_eq_true] at h2⊢;exact fun x hx=>h2 x (List.mem_of_mem_take hx)
 have h7:=zLr hp
 have h8:=zLr hq
 have h9:∀a b:List Int,dN (a++b)=dN a*dN b:=fun a b=>by
  induction a with
  |nil=>simp [dN]
  |cons x r ih=>show x*dN (r++b)=x*dN r*dN b;rw [ih,Int.mul_assoc]
 have h10:dN d=dN (d.take k)*dN (d.drop k):=by rw [←h9,List.take_append_drop]
 have h11:1*dN (d.drop k)<=dN (d.take k)*dN (d.drop k):=Int.mul_le_mul_of_nonneg_right h8 (by omega)
 have h12:dN (d.drop k)<=4096:=by omega
 have h13:bG 1 (d.drop k)=some (dN (d.drop k)):=by
  have:=zLm (s:=1) (by omega) (by omega) hp (by omega)
  rw [Int.one_mul] at this;exact this
 have h14:bX (d.drop k)=0:=dims_ok (by rw [List.length_drop];omega) hp h13
 exact ⟨h14,zEp h14 h13,h7,h12⟩
theorem zPo (d:List Int):(sM d).length=d.length:=by
 induction d with
 |nil=>rfl
 |cons x r ih=>rw [sM,List.length_cons,List.length_cons,ih]
theorem strF_get:∀{d:List Int} {k:Nat} {x:Int},d[k]? =some x->(sM d)[k]? =some (dN (d.drop (k+1)))
 |n::r,0,x,_=>rfl
 |n::r,k+1,x,h=>by
  rw [sM,List.getElem?_cons_succ,List.drop_succ_cons]
  exact strF_get (by simpa using h)
theorem st_get {j:Nat} (h:0<j) (X:List (List C)):(List.replicate j [cI 0]++X)[((j:Int)-1).toNat]? =some [cI 0]:=by
 obtain ⟨m,rfl⟩:∃m,j=m+1:=⟨j-1,by omega⟩
 rw [show (((m+1:Nat):Int)-1).toNat=m by omega,List.getElem?_append_left (by simp),List.getElem?_replicate,if_pos (by omega)]
theorem st_set {d:List Int} {j:Nat} {x:Int} (h:0<j) (hx:d[j-1]? =some x):(List.replicate j [cI 0]++((sM d).drop j).map fun n=>[cI n]).set ((j:Int)-1).toNat [cI (dN (d.drop j))]=List.replicate (j-1) [cI 0]++((sM d).drop (j-1)).map fun n=>[cI n]:=by
 obtain ⟨m,rfl⟩:∃m,j=m+1:=⟨j-1,by omega⟩
 rw [Nat.add_sub_cancel] at hx⊢
 rw [show (((m+1:Nat):Int)-1).toNat=m by omega,List.replicate_succ',List.append_assoc,List.set_append_right _ _ (by simp),List.length_replicate,Nat.sub_self,qY (strF_get hx)]
 rfl
theorem zLq {d:List Int} {k:Nat} {x:Int} (h:d[k]? =some x):dN (d.drop k)=x*dN (d.drop (k+1)):=by rw [qY h];rfl
/-! ## Places -/
def plC (g:Gn) (s:ByteArray):List C:=[cS (dI g.n.Bufs s).Name,cI (dI g.n.Bufs s).T.Kind,cI (dI g.n.Bufs s).T.Bits,cI (dI g.n.Bufs s).T.Frac,cI (dI g.n.Bufs s).T.Round,cI (dI g.n.Bufs s).T.Over,.sl 1 ((g.dm s).map fun n=>[cI n]),cI (dI g.n.Bufs s).Use,cI (g.bs_ s),cI (g.en s),.sl 1 ((mF (g.dm s)).map fun n=>[cI n])]
theorem slD_at {l:List Sl} {k:Nat} {x:Sl} {s:ByteArray} (h:l[k]? =some x) (hx:x.Name=s):slD (l.drop k) s=x:=by rw [qY h,slD,if_pos hx]
theorem slD_nx {l:List Sl} {k:Nat} {x:Sl} {s:ByteArray} (h:l[k]? =some x) (hx:¬x.Name=s):slD (l.drop k) s=slD (l.drop (k+1)) s:=by rw [qY h,slD,if_neg hx]
theorem zTg (d:List Int):0<=dJ d/\dJ d<=4096:=by
 by_cases h:bX d=0
 ·have:=zEo h 0
  rw [List.drop_zero] at this
  omega
 ·rw [zKy h];omega
theorem Gn.Ok.slb {g:Gn} (h:g.Ok):∀s,s∈g.sl->0<=s.At/\s.At<=600000/\0<=s.Len/\s.Len<=4096:=fun s hs=>by
 obtain ⟨i,hi,rfl⟩:=List.getElem_of_mem hs
 obtain ⟨b,hb⟩:=qU g.n.Bufs i (by have:=h.sl;omega)
 obtain ⟨y,hy,h1,h2⟩:=h.at_ i b hb
 rw [List.getElem?_eq_getElem hi,Option.some.injEq] at hy
 rw [hy]
 have:=zTg b.Dims
 dsimp only;omega
theorem zMf {d:List Int} {j:Nat} (h:j<d.length):d[j]? =some (d.getD j 0):=by
 rw [List.getD_eq_getElem?_getD,List.getElem?_eq_getElem h];rfl
theorem strT_at {d:List Int} {j:Nat} (h:bX d=0) (hj:j<d.length):(mF d)[j]? =some ((mF d).getD j 0):=by
 have:(mF d).length=d.length:=by unfold mF;rw [if_pos h,zPo]
 exact zMf (by omega)
theorem flat_next {α β:Type} {f:α->List β} {l:List α} {k:Nat} {x:α} (h:l[k]? =some x):(l.take (k+1)).flatMap f=(l.take k).flatMap f++f x:=by
 rw [yC h,List.flatMap_append];simp
theorem hasT_Index {l:List Ty} {t:Ty} (h:t∈l):0<=vT l t:=by
 have:=zCb (fun x=>decide (t=x)) l
 rw [show (l.any fun x=>decide (t=x))=true from hasT_iff.2 h] at this
 exact of_decide_eq_true this
/-! ## Arguments -/
theorem Rdy.args1 {g:Gn} {L:List ByteArray} {e:Ex} (h:Rdy g L e) (ho:e.Op=8∨e.Op=12∨e.Op=18):∃a,e.Args=[a]/\Rdy g L a/\bC a=decide (e.Op=18):=by
 have hn:=zLu (wY h.part)
 have hc:=zJl h.part
 unfold bI at hn
 rw [if_neg (by omega),if_pos ho] at hn
 match hA:e.Args,hn with
 |[a],_=>
  rw [hA] at hc
  simp only [fC,Bool.and_true,beq_iff_eq] at hc
  refine ⟨a,rfl,h.arg (by rw [hA];simp),?_⟩
  rw [hc];unfold fI
  rcases ho with c|c|c<;>rw [c]<;>rfl
 |[],hn=>simp at hn
 |_::_::_,hn=>simp at hn;omega
theorem Rdy.args3 {g:Gn} {L:List ByteArray} {e:Ex} (h:Rdy g L e) (ho:e.Op=11):∃a c d,e.Args=[a,c,d]/\(Rdy g L a/\bC a=true)/\(Rdy g L c/\bC c=false)/\(Rdy g L d/\bC d=false):=by
 have hn:=zLu (wY h.part)
 have hc:=zJl h.part
 unfold bI at hn
 rw [if_neg (by omega),if_neg (by omega),if_pos ho] at hn
 match hA:e.Args,hn with
 |[a,c,d],_=>
  rw [hA] at hc
  simp only [fC,Bool.and_true,Bool.and_eq_true,beq_iff_eq] at hc
  exact ⟨a,c,d,rfl,⟨h.arg (by rw [hA];simp),by rw [hc.1];simp [fI,ho]⟩,⟨h.arg (by rw [hA];simp),by rw [hc.2.1];simp [fI,ho]⟩,⟨h.arg (by rw [hA];simp),by rw [hc.2.2];simp [fI,ho]⟩⟩
 |[],hn=>simp at hn
 |[_],hn=>simp at hn
 |[_,_],hn=>simp at hn
 |_::_::_::_::_,hn=>simp at hn;omega
theorem Rdy.args2 {g:Gn} {L:List ByteArray} {e:Ex} (h:Rdy g L e) (h1:¬(e.Op=1∨e.Op=2∨e.Op=3)) (h2:¬(e.Op=8∨e.Op=12∨e.Op=18)) (h3:¬e.Op=11):
  ∃a c,e.Args=[a,c]/\(Rdy g L a/\bC a=decide (e.Op=16∨e.Op=17))/\(Rdy g L c/\bC c=decide (e.Op=16∨e.Op=17)):=by
 have hn:=zLu (wY h.part)
 have hc:=zJl h.part
 unfold bI at hn
 rw [if_neg h1,if_neg h2,if_neg h3] at hn
 have hw:∀i,fI e.Op i=decide (e.Op=16∨e.Op=17):=fun i=>by
  unfold fI
  rw [decide_eq_false h3,decide_eq_false (fun k=>h2 (.inr (.inr k))),Bool.false_and,Bool.false_or,Bool.or_false,←Bool.decide_or]
 match hA:e.Args,hn with
 |[a,c],_=>
  rw [hA] at hc
  simp only [fC,Bool.and_true,Bool.and_eq_true,beq_iff_eq] at hc
  exact ⟨a,c,rfl,⟨h.arg (by rw [hA];simp),by rw [hc.1,hw]⟩,⟨h.arg (by rw [hA];simp),by rw [hc.2,hw]⟩⟩
 |[],hn=>simp at hn
 |[_],hn=>simp at hn
 |_::_::_::_,hn=>simp at hn;omega
theorem isC_op {e:Ex}:bC e=true↔13<=e.Op/\e.Op<=18:=by unfold bC;simp
theorem Rdy.first {g:Gn} {L:List ByteArray} {e:Ex} (h:Rdy g L e) (h1:¬e.Op=1) (h2:¬e.Op=2) (h3:¬e.Op=3) (h12:¬e.Op=12) (h11:¬e.Op=11) (h13:¬13<=e.Op):∃a r,e.Args=a::r/\Rdy g L a/\bC a=false:=by
 by_cases h8:e.Op=8
 ·obtain ⟨a,ha,hr,hc⟩:=h.args1 (.inl h8)
  exact ⟨a,[],ha,hr,by rw [hc,h8];rfl⟩
 ·obtain ⟨a,c,ha,⟨hr,hc⟩,_⟩:=h.args2 (by omega) (by omega) h11
  exact ⟨a,[c],ha,hr,by rw [hc];exact decide_eq_false (by omega)⟩
theorem knd_1 {B:List Bf} {e:Ex} (h:e.Op=1∨e.Op=12):knd B e=e.Ty:=by rw [knd_eq,tJ,if_pos h]
theorem knd_2 {B:List Bf} {e:Ex} (h1:¬e.Op=1) (h12:¬e.Op=12) (h:e.Op=2):knd B e=iTy:=by rw [knd_eq,tJ,if_neg (by omega),if_pos h]
theorem knd_3 {B:List Bf} {e:Ex} (h1:¬e.Op=1) (h12:¬e.Op=12) (h2:¬e.Op=2) (h:e.Op=3):knd B e=(dI B e.Name).T:=by rw [knd_eq,tJ,if_neg (by omega),if_neg h2,if_pos h]
theorem knd_11 {B:List Bf} {e a c d:Ex} (h:e.Op=11) (ha:e.Args=[a,c,d]):knd B e=knd B c:=by rw [knd_eq,tJ,if_neg (by omega),if_neg (by omega),if_neg (by omega),if_pos h,ha];rfl
theorem knd_o {B:List Bf} {e a:Ex} {r:List Ex} (h1:¬e.Op=1) (h12:¬e.Op=12) (h2:¬e.Op=2) (h3:¬e.Op=3) (h11:¬e.Op=11) (ha:e.Args=a::r):knd B e=knd B a:=by
 rw [knd_eq,tJ,if_neg (by omega),if_neg h2,if_neg h3,if_neg h11,ha];rfl
end Go.Br
end
section
namespace Go.Br
open Go Go.Eng Go.L41
end Go.Br
end
