/-
  Sorting and thinning of lists of strings that are the call's own: slices.Sort and slices.Compact,by the shelf's contracts.
  The names that an expression reads,in plain Lean.
  Sums of linear forms,exactly,in plain Lean: numbers of 64 and of 128 bits,merges of ascending lists,substitution.
  The reference's substitution of forms,in plain Lean: the sum,and the mapping of all forms of an expression.
  What the substitution of a form keeps,in plain Lean: valid forms stay valid,the name is gone,the shape of an expression stays.
  The comparison of expressions is a total order,in plain Lean.
  Layer 14 in plain Lean: short names,replacing,the names in forms,the example that every statement checks.
  Loop nests,in plain Lean: buffers,statements,and the cells that hold them.
  What the check of a nest says (30.1),in plain Lean.
  Weights of nests,in plain Lean.
  For the reference's check of nests,in plain Lean.
  Ascending lists of names,one name added at a time,in plain Lean.
  Names of index variables: both ways to list them give the same names.
  Lifetimes as plain data,and what the functions of the layer compute.
  Layer 41 in plain Lean: what statements touch; the spans of buffers.
  Nests walked and mapped,in plain Lean (30.2,30.3).
  Numerals,and the first number that is free.
  Names that are not in use,in plain Lean (30.2): numerals,and the first number that is free.
  A loop renamed to a name that is not in use,in plain Lean (30.3,30.5).
  Conditions: none.
-/
import Derived.Test.YtdldhbfgfkebjaaGreatDoorCfg
import Derived.Test.YtdldhbfgfkebjaaGreatDoorEngZ
import Derived.Test.YtdldhbfgfkebjaaGreatDoorShelfB
import Derived.Sort.OwnSorted
import Derived.Lib.OwnBridge
import Derived.Test.YtdldhbfgfkebjaaGreatDoorPlain
import Derived.Test.YtdldhbfgfkebjaaGreatDoorNames
import Derived.Lib.ItoaNum
set_option linter.unusedSimpArgs false
set_option linter.unusedVariables false
section
namespace Go.Br
open Go Go.Eng Go.RowKit Go.Proofs Go.L41
abbrev strRows (l:List ByteArray):List (List C):=l.map fun s=>[cS s]
def toB (l:List (List UInt8)):List ByteArray:=l.map fun x=>⟨x.toArray⟩
def ofB (l:List ByteArray):List (List UInt8):=l.map (·.data.toList)
def sortB (l:List ByteArray):List ByteArray:=toB ((ofB l).mergeSort fun x y=>decide (x<=y))
def thinB (l:List ByteArray):List ByteArray:=toB (Lib.compact (ofB l))
theorem ofB_enc (l:List ByteArray):(ofB l).map encStr=l.map Value.string:=Lib.map_encStr l
theorem toB_enc (l:List (List UInt8)):l.map encStr=(toB l).map Value.string:=by
 unfold toB;rw [List.map_map];rfl
theorem sortB_len (l:List ByteArray):(sortB l).length=l.length:=by simp [sortB,toB,ofB,List.length_mergeSort]
theorem flat_str (l:List ByteArray):(strRows l).flatten=l.map fun s=>cS s:=by
 induction l with
 |nil=>rfl
 |cons x r ih=>show cS x::(strRows r).flatten=_;rw [ih];rfl
theorem reps_str {w:World} {I:Nat->Prop}:∀{l:List ByteArray} {xs:List Value},CReps w I (l.map fun s=>cS s) xs->xs=l.map Value.string
 |[],_,.nil=>rfl
 |x::l,_,.cons h t=>by
  have e:=reps_str t
  cases h with
  |lit _ _=>rw [e];rfl
theorem str_reps {w:World} {I:Nat->Prop}:∀l:List ByteArray,CReps w I (l.map fun s=>cS s) (l.map Value.string)
 |[]=>.nil
 |x::l=>.cons (.lit _ rfl) (str_reps l)
theorem rep_str {w:World} {I:Nat->Prop} {sv:Value} {t:TypeId} {l:List ByteArray} (h:w.ownsRow 0 t 1 sv l.length (l.map Value.string)) (hb:svB sv≠[]):ERep w I (.vec sv t 1 (strRows l)):=by
 refine .inr ⟨hb,l.map Value.string,?_,?_,fun r hr=>?_⟩
 ·rw [show (strRows l).length=l.length by simp];exact h
 ·rw [flat_str];exact str_reps l
 ·obtain ⟨x,_,rfl⟩:=List.mem_map.1 hr;rfl
theorem zNh {w:World} {I:Nat->Prop} {sv:Value} {t:TypeId} {l:List ByteArray} (h:ERep w I (.vec sv t 1 (strRows l))):(∃a,sv=.slice a 0 0/\l=[])∨(svB sv≠[]/\w.ownsRow 0 t 1 sv l.length (l.map Value.string)):=by
 rcases h with ⟨a,h1,h2⟩|⟨h1,xs,h2,h3,h4⟩
 ·exact .inl ⟨a,h1,by simpa using h2⟩
 ·rw [flat_str] at h3
  rw [reps_str h3,show (strRows l).length=l.length by simp] at h2
  exact .inr ⟨h1,h2⟩
theorem sort_con (sv:Value) (l:List ByteArray) (hl:l.length<=4294967296):Con cfg 175 [.c (.lit sv)] [.vec sv 9 1 (strRows l)] fun r μ'=>r=.tup []/\μ'=[.vec sv 9 1 (strRows (sortB l))]:=by
 intro w I vs hH ha
 match vs,ha with
 |[v],ha=>
  have e:v=sv:=by cases (ha.1:CRep w I (.lit sv) v) with|lit _ _=>rfl
  subst e
  have hrep:=hH.rep _ (List.mem_singleton.2 rfl)
  rcases zNh hrep with ⟨a,rfl,rfl⟩|⟨hb,hown⟩
  ·refine (Tryz.slices_Sort_string_none a 0 w).mono ?_
   rintro en w' ⟨rfl,rfl⟩
   have e2:sortB []=[]:=by simp [sortB,ofB,toB]
   refine ⟨_,_,_,I,rfl,⟨rfl,by rw [e2]⟩,⟨[],rfl,trivial⟩,hH,Ext.refl _ _ _⟩
  ·have hne:v≠ .slice none 0 0:=by rintro rfl;exact hb rfl
   have hown':=hown
   rw [←ofB_enc] at hown'
   obtain ⟨g,cap,rfl,hbg,hgl,hncap,hcm,hlen,hHo⟩:=Lib.holds_of_ownsRow hown' hne
   obtain ⟨_,hcase⟩:=hown
   rcases hcase with ⟨h0,_⟩|⟨g',cap',cur,hv,_,hcur,hn2,hm2,hcs,htk⟩
   ·exact absurd h0 hne
   ·injection hv with e1 e2 e3
    injection e1 with e1
    injection e1 with e1 _ _
    subst e1 e3
    have hss:(ofB l).length=l.length:=by simp [ofB]
    have hcall:=Tryz.slices_Sort_string g 0 cap (ofB l) w hHo hgl (by omega)
    rw [hss] at hcall
    refine hcall.mono ?_
    rintro en w' ⟨rfl,n,os,rfl⟩
    have hts:((ofB l).mergeSort fun x y=>decide (x<=y)).length=(ofB l).length:=List.length_mergeSort _
    have hs:=ownsRow_sorted (n:=n) (os:=os) (ts:=(ofB l).mergeSort fun x y=>decide (x<=y)) hts (Nat.zero_le g) hcur (by omega) hm2 hcs
    rw [toB_enc,hss] at hs
    have hlen2:(sortB l).length=l.length:=by simp [sortB,toB,hts,hss]
    have hgr:=grownBy_sorted (w:=w) (g:=g) (n:=n) (os:=os) ((ofB l).mergeSort fun x y=>decide (x<=y)).toArray
    have hrep2:ERep (Sort.grow (Sort.putRow encStr (Sort.ahead w n) g 0 ((ofB l).mergeSort fun x y=>decide (x<=y)).toArray) os) I (.vec (.slice (some ⟨g,0,none⟩) l.length cap) 9 1 (strRows (sortB l))):=by
     refine rep_str ?_ hb
     rw [hlen2];exact hs
    obtain ⟨hH',hx'⟩:=Heap.write (w':=Sort.grow (Sort.putRow encStr (Sort.ahead w n) g 0 ((ofB l).mergeSort fun x y=>decide (x<=y)).toArray) os) hH (p:=0) (en:=.vec (.slice (some ⟨g,0,none⟩) l.length cap) 9 1 (strRows l)) (en':=.vec (.slice (some ⟨g,0,none⟩) l.length cap) 9 1 (strRows (sortB l))) rfl hgr.os hgr.tape hgr.output hgr.size
     (fun b hb1 hb2=>hgr.block b hb1 (fun e=>by
      injection e with e
      apply hb2
      have hin:svB (.slice (some ⟨g,0,none⟩) l.length cap)≠[]:=hb
      subst e
      exact zMy hin rfl)) (by have h:=hH.nodup;simp only [blocksOf,List.flatMap_cons,List.flatMap_nil,List.append_nil] at h;exact h) (fun b h=>.inl h) trivial hrep2
    exact ⟨_,_,_,I,rfl,⟨rfl,rfl⟩,⟨[],rfl,trivial⟩,hH',hx'⟩
theorem thin_con (sv:Value) (l:List ByteArray) (hl:l.length<=4294967296):Con cfg 176 [.c (.lit sv)] [.vec sv 9 1 (strRows l)] fun r μ'=>∃sv',r=.c (.lit sv')/\μ'=[.vec sv' 9 1 (strRows (thinB l))]:=by
 intro w I vs hH ha
 match vs,ha with
 |[v],ha=>
  have e:v=sv:=by cases (ha.1:CRep w I (.lit sv) v) with|lit _ _=>rfl
  subst e
  have hrep:=hH.rep _ (List.mem_singleton.2 rfl)
  rcases zNh hrep with ⟨a,rfl,rfl⟩|⟨hb,hown⟩
  ·refine (Tryz.slices_Compact_string_empty a 0 w).mono ?_
   rintro en w' ⟨rfl,rfl⟩
   have e2:thinB []=[]:=by simp [thinB,ofB,toB,Lib.compact,Lib.compactUpTo]
   exact ⟨_,_,_,I,rfl,⟨_,rfl,by rw [e2]⟩,CRep.lit _ rfl,hH,Ext.refl _ _ _⟩
  ·have hne:v≠ .slice none 0 0:=by rintro rfl;exact hb rfl
   have hown':=hown
   rw [←ofB_enc] at hown'
   obtain ⟨g,cap,rfl,hbg,hgl,hncap,hcm,hlen,hHo⟩:=Lib.holds_of_ownsRow hown' hne
   have hss:(ofB l).length=l.length:=by simp [ofB]
   have hcall:=Tryz.slices_Compact_string g 0 cap (ofB l) w hHo (by omega) (by omega)
   rw [hss] at hcall
   refine hcall.mono ?_
   rintro en w' ⟨rfl,q,hw'⟩
   have hcl:=Lib.compact_length_le (ofB l)
   have hs:=Lib.ownsRow_putRow (q:=q) (k:=(Lib.compact (ofB l)).length) (ys:=Lib.compact (ofB l)++List.replicate (l.length-(Lib.compact (ofB l)).length) []) hown' (by simp;omega) (by omega)
   rw [List.take_left' rfl,toB_enc,←hw'] at hs
   have hlen2:(thinB l).length=(Lib.compact (ofB l)).length:=by simp [thinB,toB]
   have hgr:=grownBy_sorted (w:=w) (g:=g) (n:=q) (os:= #[]) (Lib.compact (ofB l)++List.replicate (l.length-(Lib.compact (ofB l)).length) []).toArray
   rw [Sort.grow_empty,←hw'] at hgr
   clear hw' hown' hHo hcall
   obtain ⟨c,hc⟩:∃c,cap=c+1:=by
    cases cap with
    |zero=>exact absurd rfl hb
    |succ c=>exact ⟨c,rfl⟩
   subst hc
   have hrep2:ERep w' I (.vec (.slice (some ⟨g,0,none⟩) (Lib.compact (ofB l)).length (c+1)) 9 1 (strRows (thinB l))):=by
    refine rep_str ?_ (by simp [svB])
    rw [hlen2];exact hs
   obtain ⟨hH',hx'⟩:=Heap.write (w':=w') hH (p:=0) (en:=.vec (.slice (some ⟨g,0,none⟩) l.length (c+1)) 9 1 (strRows l)) (en':=.vec (.slice (some ⟨g,0,none⟩) (Lib.compact (ofB l)).length (c+1)) 9 1 (strRows (thinB l))) rfl hgr.os hgr.tape hgr.output hgr.size
    (fun b hb1 hb2=>hgr.block b hb1 (fun e=>by
     injection e with e
     apply hb2
     have hin:svB (.slice (some ⟨g,0,none⟩) l.length (c+1))≠[]:=hb
     subst e
     exact zMy hin rfl)) (by simp [E.blocks,svB]) (fun b h=>.inl h) trivial hrep2
   exact ⟨_,_,_,I,rfl,⟨_,rfl,rfl⟩,CRep.lit _ rfl,hH',hx'⟩
end Go.Br
end
section
namespace Go.Br
open Go Go.Eng Go.L41
def fromX (x:Ix):List ByteArray:=if x.From=bs [] then [] else [x.From]
def readsI (l:List Ix):List ByteArray:=l.flatMap fromX
def opRead (x:Ex):List ByteArray:=if x.Op=3 then [x.Name] else []
def readsN (x:Ex):List ByteArray:=opRead x++readsI x.Idx
def readsA (l:List Ex):List ByteArray:=l.flatMap readsN
def readsT (e:Ex):List ByteArray:=thinB (sortB (readsA (nodes e)))
theorem zAp {l:List Ix} {k:Nat} {x:Ix} (h:l[k]? =some x):readsI (l.take (k+1))=readsI (l.take k)++fromX x:=by unfold readsI;rw [yG h,List.flatMap_append];simp
theorem zKd (pre:List Ex) (x:Ex):readsA (pre++[x])=readsA pre++opRead x++readsI x.Idx:=by unfold readsA;rw [List.flatMap_append];simp [readsN,List.append_assoc]
theorem mem_toB {s:ByteArray} {l:List (List UInt8)}:s∈toB l↔s.data.toList∈l:=by
 unfold toB
 rw [List.mem_map]
 constructor
 ·rintro ⟨x,hx,rfl⟩;simpa using hx
 ·intro h;exact ⟨_,h,by cases s;simp⟩
theorem mem_ofB {s:ByteArray} {l:List ByteArray}:s.data.toList∈ofB l↔s∈l:=by
 unfold ofB
 rw [List.mem_map]
 constructor
 ·rintro ⟨x,hx,e⟩
  have:x=s:=by cases x;cases s;congr 1;exact Array.toList_inj.1 e
  rw [←this];exact hx
 ·intro h;exact ⟨s,h,rfl⟩
theorem mem_sortB {s:ByteArray} {l:List ByteArray}:s∈sortB l↔s∈l:=by
 unfold sortB;rw [mem_toB,List.mem_mergeSort,mem_ofB]
theorem mem_thinB {s:ByteArray} {l:List ByteArray} (h:s∈thinB l):s∈l:=by
 unfold thinB at h
 rw [mem_toB] at h
 rw [←mem_ofB]
 unfold Lib.compact Lib.compactUpTo at h
 obtain ⟨i,hi,e⟩:=List.mem_map.1 h
 have hi2:=(List.mem_filter.1 hi).1
 have hlt:=List.mem_range.1 hi2
 rw [←e,getElem!_pos _ i (by simpa using hlt)]
 simp
theorem zGr (x:Ex):(opRead x).length<=1:=by unfold opRead;split<;>simp
theorem readsI_len (l:List Ix):(readsI l).length<=l.length:=by
 induction l with
 |nil=>simp [readsI]
 |cons x r ih=>
  have:readsI (x::r)=fromX x++readsI r:=rfl
  rw [this,List.length_append,List.length_cons]
  have:(fromX x).length<=1:=by unfold fromX;split<;>simp
  omega
theorem zEh (l:List Ix) (k:Nat):(readsI (l.take k)).length<=l.length:=by
 have:=readsI_len (l.take k);have:=List.length_take_le' k l;omega
theorem zKe (e:Ex):(readsA (nodes e)).length<=2*e.wt:=by
 have key:∀l:List Ix,(readsI l).length<=l.length:=by
  intro l
  induction l with
  |nil=>simp [readsI]
  |cons x r ih=>
   have:readsI (x::r)=fromX x++readsI r:=rfl
   rw [this,List.length_append,List.length_cons]
   have:(fromX x).length<=1:=by unfold fromX;split<;>simp
   omega
 have node:∀x:Ex,(readsN x).length<=1+x.Idx.length:=fun x=>by
  unfold readsN;rw [List.length_append]
  have h1:=key x.Idx
  have h2:(opRead x).length<=1:=by unfold opRead;split<;>simp
  omega
 induction e using Ex.ind with
 |_ e ih=>
  rw [zBo,Ex.wt_eq]
  have h1:=node e
  have e1:readsA (e::nodesL e.Args)=readsN e++readsA (nodesL e.Args):=rfl
  rw [e1,List.length_append]
  have h2:∀l:List Ex,(∀a,a∈l->(readsA (nodes a)).length<=2*a.wt)->(readsA (nodesL l)).length<=2*argsWt l:=by
   intro l
   induction l with
   |nil=>intro _;simp [readsA,nodesL,argsWt]
   |cons a r ih2=>
    intro h
    have h3:=h a (by simp)
    have h4:=ih2 fun b hb=>h b (by simp [hb])
    have e2:readsA (nodesL (a::r))=readsA (nodes a)++readsA (nodesL r):=by rw [nodesL];unfold readsA;rw [List.flatMap_append]
    rw [e2,List.length_append,argsWt];omega
  have h5:=h2 e.Args ih
  omega
theorem readsP_len {e:Ex} {pre suf:List Ex} (h:nodes e=pre++suf):(readsA pre).length<=2*e.wt:=by
 have h1:=zKe e
 have e1:readsA (nodes e)=readsA pre++readsA suf:=by rw [h];unfold readsA;rw [List.flatMap_append]
 rw [e1,List.length_append] at h1;omega
end Go.Br
end
section
namespace Go.Br
open Go Go.Eng Go.L41
/-! ## The order of names -/
def r64 (n:Int):Prop:= -9223372036854775808<=n/\n<=9223372036854775807
instance (n:Int):Decidable (r64 n):=by unfold r64;infer_instance
def hiN (a b:Nat):Nat:=
 (a/4294967296)*(b/4294967296)+((a/4294967296)*(b%4294967296)+((a%4294967296)*(b%4294967296))/4294967296)/4294967296+
  ((a%4294967296)*(b/4294967296)+((a/4294967296)*(b%4294967296)+((a%4294967296)*(b%4294967296))/4294967296)%4294967296)/4294967296
def Lf.rng (l:Lf):Prop:=r64 l.K/\∀m,m∈l.L->r64 m.By
end Go.Br
end
section
namespace Go.Br
open Go Go.Eng Go.L41
end Go.Br
end
section
namespace Go.Br
open Go Go.Eng Go.L41
/-! ## Ascending triples -/
end Go.Br
end
section
namespace Go.Br
open Go Go.Eng Go.Proofs Go.L41
structure PO {α:Type} (f:α->α->Int) (a:α):Prop where
 anti:∀b,f b a= -f a b
 rng:∀b,-1<=f a b/\f a b<=1
 cong:∀b,f a b=0->∀c,f a c=f b c
 cong':∀b c,f b c=0->f a b=f a c
 trans:∀b c,f a b<0->f b c<0->f a c<0
theorem PO.zero {α:Type} (a:α):PO (fun _ _=>0) a:=
 ⟨fun _=>rfl,fun _=>⟨by show (-1:Int)<=0;omega,by show (0:Int)<=1;omega⟩,fun _ _ _=>rfl,fun _ _ _=>rfl,fun _ _ h _=>h⟩
end Go.Br
end
section
namespace Go.Br
open Go Go.Eng Go.L41
/-! ## Short names -/
end Go.Br
end
section
namespace Go.Br
open Go Go.Eng Go.L41
structure Bf where
 Name:ByteArray
 T:Ty
 Dims:List Int
 Use:Int
 deriving DecidableEq
inductive St where
 |mk (op:Int) (name:ByteArray) (many mark fold:Int) (idx:List Ix) (ex:Ex) (body:List St)
namespace St
def Op:St->Int|mk x _ _ _ _ _ _ _=>x
def Name:St->ByteArray|mk _ x _ _ _ _ _ _=>x
def Many:St->Int|mk _ _ x _ _ _ _ _=>x
def Mark:St->Int|mk _ _ _ x _ _ _ _=>x
def Fold:St->Int|mk _ _ _ _ x _ _ _=>x
def Idx:St->List Ix|mk _ _ _ _ _ x _ _=>x
def E:St->Ex|mk _ _ _ _ _ _ x _=>x
def Body:St->List St|mk _ _ _ _ _ _ _ x=>x
theorem ind {P:St->Prop} (h:∀s:St,(∀a,a∈s.Body->P a)->P s) (s:St):P s:=
 St.rec (motive_1:=P) (motive_2:=fun l=>∀a,a∈l->P a) (fun o n m k f i e b ih=>h (mk o n m k f i e b) ih) (fun a h=>by cases h)
  (fun x l hx hl a ha=>by rcases List.mem_cons.1 ha with rfl|ha;exact hx;exact hl a ha) s
end St
structure Ns where
 Bufs:List Bf
 Body:List St
def Bf.cells (b:Bf):List C:=[cS b.Name,cI b.T.Kind,cI b.T.Bits,cI b.T.Frac,cI b.T.Round,cI b.T.Over,.sl 1 (b.Dims.map fun n=>[cI n]),cI b.Use]
mutual
def St.cells:St->List C
 |.mk o n m k f i e b=>[cI o,cS n,cI m,cI k,cI f,.sl 4 (i.map Ix.cells)]++e.cs++[.sl 20 (stCellsL b)]
def stCellsL:List St->List (List C)
 |[]=>[]
 |s::r=>s.cells::stCellsL r
end
theorem zNb (l:List St):stCellsL l=l.map St.cells:=by
 induction l with
 |nil=>rfl
 |cons s r ih=>rw [stCellsL,ih];rfl
def St.cs (s:St):List C:=[cI s.Op,cS s.Name,cI s.Many,cI s.Mark,cI s.Fold,.sl 4 (s.Idx.map Ix.cells),
 cI s.E.Op,cS s.E.Name,cI s.E.Val.N,cI s.E.Val.D,cI s.E.Ty.Kind,cI s.E.Ty.Bits,cI s.E.Ty.Frac,cI s.E.Ty.Round,cI s.E.Ty.Over,cI s.E.Lin.K,.sl 2 (s.E.Lin.L.map Mono.cells),.sl 4 (s.E.Idx.map Ix.cells),.sl 13 (s.E.Args.map Ex.cells),.sl 20 (s.Body.map St.cells)]
theorem St.cells_eq (s:St):s.cells=s.cs:=by
 cases s;rw [St.cells,zNb];rfl
def Ns.cells (n:Ns):List C:=[.sl 8 (n.Bufs.map Bf.cells),.sl 20 (n.Body.map St.cells)]
abbrev vBf (b:Bf):V:=.agg b.cells
abbrev vSt (s:St):V:=.agg s.cs
abbrev vSts (l:List St):V:=.c (.sl 20 (l.map St.cells))
abbrev vNs (n:Ns):V:=.agg n.cells
abbrev vIs (l:List Int):V:=.c (.sl 1 (l.map fun n=>[cI n]))
abbrev vBfs (l:List Bf):V:=.c (.sl 8 (l.map Bf.cells))
theorem allP_next {α:Type} {p:α->Bool} {l:List α} {k:Nat} {x:α} (h:l[k]? =some x) (hp:(l.take k).all p=true) (hx:p x=true):(l.take (k+1)).all p=true:=by
 rw [yG h,List.all_append,hp];simp [hx]
theorem zLv {l:List St} {k:Nat} {x:St} (h:l[k]? =some x):(l.map St.cells)[k]? =some x.cs:=by
 rw [getm h,St.cells_eq]
/-! ## Sizes -/
mutual
def St.wt:St->Nat
 |.mk _ _ _ _ _ i e b=>1+e.wt+i.length+idxWt i+stsWt b
def stsWt:List St->Nat
 |[]=>0
 |s::r=>s.wt+stsWt r
end
theorem St.wt_eq (s:St):s.wt=1+s.E.wt+s.Idx.length+idxWt s.Idx+stsWt s.Body:=by cases s;rw [St.wt];rfl
theorem wT (l:List St):l.length<=stsWt l:=by
 induction l with
 |nil=>simp [stsWt]
 |cons y r ih=>rw [stsWt,List.length_cons];have:=y.wt_eq;omega
theorem kY {l:List St} {a:St} (h:a∈l):a.wt<=stsWt l:=by
 induction l with
 |nil=>cases h
 |cons x r ih=>
  rw [stsWt]
  rcases List.mem_cons.1 h with rfl|h
  ·omega
  ·have:=ih h;omega
theorem St.wt_pos (s:St):1<=s.wt:=by rw [St.wt_eq];omega
theorem St.body_wt (s:St):stsWt s.Body<s.wt:=by rw [St.wt_eq s];omega
theorem St.parts {s:St} {B:Nat} (h:s.wt<=B):s.E.wt<=B/\s.Idx.length<=B/\idxWt s.Idx<=B/\s.Body.length<=B/\stsWt s.Body<=B:=by
 rw [St.wt_eq] at h
 have:=wT s.Body
 omega
def rdE (s:St):Ex:=.mk 3 s.Name ⟨0,0⟩ ⟨0,0,0,0,0⟩ ⟨0,[]⟩ s.Idx []
theorem rdE_wt (s:St):(rdE s).wt<=s.wt+1:=by
 rw [Ex.wt_eq,St.wt_eq];simp only [rdE,Ex.Lin,Ex.Idx,Ex.Args,argsWt,List.length_nil];omega
/-! ## Shapes (11.1) -/
def posI (n:Int):Bool:=decide (1<=n)
def sizeFrom:Int->List Int->Option Int
 |s,[]=>some s
 |s,n::r=>if 4096<s*n then none else sizeFrom (s*n) r
def dimsErr (d:List Int):Int:=if 6<d.length then 2 else if d.all posI=true then (if (sizeFrom 1 d).isSome=true then 0 else 2) else 1
def dimsSize (d:List Int):Int:=if dimsErr d=0 then (sizeFrom 1 d).getD 0 else 0
theorem dims_long {d:List Int} (h:6<d.length):dimsErr d=2:=by unfold dimsErr;rw [if_pos h]
theorem dims_neg {d:List Int} {k:Nat} {n:Int} (h:¬6<d.length) (hn:d[k]? =some n) (h2:n<1):dimsErr d=1:=by
 unfold dimsErr
 rw [if_neg h,if_neg (by rw [all_no hn (p:=posI) (by unfold posI;exact decide_eq_false (by omega))];simp)]
theorem dims_over {d:List Int} (h:¬6<d.length) (h1:d.all posI=true) (h2:sizeFrom 1 d=none):dimsErr d=2:=by
 unfold dimsErr;rw [if_neg h,if_pos h1,h2];rfl
theorem dims_ok {d:List Int} {s:Int} (h:¬6<d.length) (h1:d.all posI=true) (h2:sizeFrom 1 d=some s):dimsErr d=0:=by
 unfold dimsErr;rw [if_neg h,if_pos h1,h2];rfl
theorem size_next {d:List Int} {k:Nat} {n s:Int} (h:d[k]? =some n) (hs:sizeFrom 1 d=sizeFrom s (d.drop k)) (h2:¬4096<s*n):sizeFrom 1 d=sizeFrom (s*n) (d.drop (k+1)):=by
 rw [hs,qZ h,sizeFrom,if_neg h2]
theorem size_over {d:List Int} {k:Nat} {n s:Int} (h:d[k]? =some n) (hs:sizeFrom 1 d=sizeFrom s (d.drop k)) (h2:4096<s*n):sizeFrom 1 d=none:=by
 rw [hs,qZ h,sizeFrom,if_pos h2]
theorem size_done {d:List Int} {k:Nat} {s:Int} (hs:sizeFrom 1 d=sizeFrom s (d.drop k)) (h:¬k<d.length):sizeFrom 1 d=some s:=by
 rw [hs,wM h];rfl
theorem quo_lt {s n:Int} (h:1<=s):Int.tdiv 4096 s<n↔4096<s*n:=by
 rw [Int.tdiv_eq_ediv_of_nonneg (by omega),Int.ediv_lt_iff_lt_mul (by omega),Int.mul_comm]
theorem quo_wrap {s:Int} (h:1<=s):IntKind.i64.wrap (Int.tdiv 4096 s)=Int.tdiv 4096 s:=by
 have h1:Int.tdiv 4096 s=4096/s:=Int.tdiv_eq_ediv_of_nonneg (by omega)
 have h2:0<=(4096:Int)/s:=Int.ediv_nonneg (by omega) (by omega)
 have h3:(4096:Int)/s<=4096:=Int.ediv_le_self _ (by omega)
 exact zAn ⟨by omega,by omega⟩
theorem quo_t {s n:Int} (h:1<=s) (c:IntKind.i64.wrap (Int.tdiv 4096 s)<n):4096<s*n:=by rw [quo_wrap h] at c;exact (quo_lt h).1 c
theorem quo_f {s n:Int} (h:1<=s) (c:¬IntKind.i64.wrap (Int.tdiv 4096 s)<n):¬4096<s*n:=by rw [quo_wrap h] at c;exact fun k=>c ((quo_lt h).2 k)
theorem posI_get {d:List Int} {k:Nat} {n:Int} (h:d.all posI=true) (hn:d[k]? =some n):1<=n:=by
 have:=(List.all_eq_true.1 h) n (qB hn)
 simpa [posI] using this
theorem zGt {s n:Int} (h:1<=s) (h2:1<=n):1<=s*n/\n<=s*n:=by
 have h3:1*n<=s*n:=Int.mul_le_mul_of_nonneg_right h (by omega)
 omega
theorem zNe:∀{d:List Int} {s t:Int},1<=s->s<=4096->d.all posI=true->sizeFrom s d=some t->1<=t/\t<=4096
 |[],s,t,h,h2,_,h3=>by simp only [sizeFrom,Option.some.injEq] at h3;omega
 |n::r,s,t,h,h2,hp,h3=>by
  rw [sizeFrom] at h3
  simp only [List.all_cons,Bool.and_eq_true] at hp
  have hn:1<=n:=by simpa [posI] using hp.1
  split at h3
  ·cases h3
  ·rename_i h4
   exact zNe (zGt h hn).1 (by omega) hp.2 h3
theorem zGi {d:List Int} (h:dimsErr d=0):d.length<=6/\d.all posI=true/\∃s,sizeFrom 1 d=some s/\1<=s/\s<=4096:=by
 unfold dimsErr at h
 split at h
 ·cases h
 ·rename_i h6
  split at h
  ·rename_i hp
   split at h
   ·rename_i hs
    obtain ⟨s,hs⟩:=Option.isSome_iff_exists.1 hs
    have:=zNe (by omega) (by omega) hp hs
    exact ⟨by omega,hp,s,hs,this.1,this.2⟩
   ·cases h
  ·cases h
theorem zEp {d:List Int} {s:Int} (h:dimsErr d=0) (hs:sizeFrom 1 d=some s):dimsSize d=s:=by unfold dimsSize;rw [if_pos h,hs];rfl
theorem zOq {d:List Int} (h:¬dimsErr d=0):dimsSize d=0:=by unfold dimsSize;rw [if_neg h]
theorem size_fit {d:List Int} {k:Nat} {n s t:Int} (h:d[k]? =some n) (hs:sizeFrom 1 d=sizeFrom s (d.drop k)) (ht:sizeFrom 1 d=some t):¬4096<s*n:=by
 intro h2
 rw [size_over h hs h2] at ht;cases ht
/-! ## Buffers -/
def zBf:Bf:=⟨bs [],zTy,[],0⟩
def hasBf (l:List Bf) (s:ByteArray):Bool:=l.any fun b=>decide (b.Name=s)
def bufD:List Bf->ByteArray->Bf
 |[],_=>zBf
 |b::r,s=>if b.Name=s then b else bufD r s
theorem bufD_at {l:List Bf} {k:Nat} {b:Bf} {s:ByteArray} (h:l[k]? =some b) (hb:b.Name=s):bufD (l.drop k) s=b:=by rw [qZ h,bufD,if_pos hb]
theorem bufD_next {l:List Bf} {k:Nat} {b:Bf} {s:ByteArray} (h:l[k]? =some b) (hb:¬b.Name=s):bufD (l.drop k) s=bufD (l.drop (k+1)) s:=by rw [qZ h,bufD,if_neg hb]
theorem hasBf_at {l:List Bf} {k:Nat} {b:Bf} {s:ByteArray} (h:l[k]? =some b) (hb:b.Name=s):hasBf l s=true:=by
 unfold hasBf;rw [List.any_eq_true];exact ⟨b,qB h,decide_eq_true hb⟩
theorem hasBf_next {l:List Bf} {k:Nat} {b:Bf} {s:ByteArray} (h:l[k]? =some b) (hp:hasBf (l.take k) s=false) (hb:¬b.Name=s):hasBf (l.take (k+1)) s=false:=by
 unfold hasBf at *;rw [yG h,List.any_append,hp];simp [hb]
theorem hasBf_lt {l:List Bf} {j k:Nat} {b:Bf} {s:ByteArray} (h:l[j]? =some b) (hj:j<k) (hb:b.Name=s):hasBf (l.take k) s=true:=by
 have:(l.take k)[j]? =some b:=by rw [List.getElem?_take];simp [hj,h]
 exact hasBf_at this hb
theorem bufD_no:∀{l:List Bf} {s:ByteArray},hasBf l s=false->bufD l s=zBf
 |[],_,_=>rfl
 |b::r,s,h=>by
  simp only [hasBf,List.any_cons,Bool.or_eq_false_iff,decide_eq_false_iff_not] at h
  rw [bufD,if_neg h.1];exact bufD_no h.2
theorem bufD_mem:∀{l:List Bf} {s:ByteArray},hasBf l s=true->bufD l s∈l/\(bufD l s).Name=s
 |[],s,h=>by simp [hasBf] at h
 |b::r,s,h=>by
  rw [bufD]
  by_cases hb:b.Name=s
  ·rw [if_pos hb];exact ⟨by simp,hb⟩
  ·rw [if_neg hb]
   simp only [hasBf,List.any_cons,decide_eq_false hb,Bool.false_or] at h
   obtain ⟨h1,h2⟩:=bufD_mem (l:=r) h
   exact ⟨by simp [h1],h2⟩
def bfErr (seen:List Bf) (b:Bf):Int:=
 if isNameB b.Name=true then (if hasBf seen b.Name=true then 8 else if tyOk b.T=true then (if dimsErr b.Dims=0 then (if b.Use<1∨3<b.Use then 1 else 0) else dimsErr b.Dims) else 10) else 7
def bufsErr:List Bf->List Bf->Int
 |_,[]=>0
 |seen,b::r=>if bfErr seen b=0 then bufsErr (seen++[b]) r else bfErr seen b
theorem bfErr_7 {seen:List Bf} {b:Bf} (h:isNameB b.Name=false):bfErr seen b=7:=by unfold bfErr;rw [if_neg (by rw [h];simp)]
theorem bfErr_8 {seen:List Bf} {b:Bf} (h:isNameB b.Name=true) (h2:hasBf seen b.Name=true):bfErr seen b=8:=by unfold bfErr;rw [if_pos h,if_pos h2]
theorem bfErr_10 {seen:List Bf} {b:Bf} (h:isNameB b.Name=true) (h2:hasBf seen b.Name=false) (h3:tyOk b.T=false):bfErr seen b=10:=by unfold bfErr;rw [if_pos h,if_neg (by rw [h2];simp),if_neg (by rw [h3];simp)]
theorem bfErr_d {seen:List Bf} {b:Bf} (h:isNameB b.Name=true) (h2:hasBf seen b.Name=false) (h3:tyOk b.T=true) (h4:¬dimsErr b.Dims=0):bfErr seen b=dimsErr b.Dims:=by unfold bfErr;rw [if_pos h,if_neg (by rw [h2];simp),if_pos h3,if_neg h4]
theorem bfErr_u {seen:List Bf} {b:Bf} (h:isNameB b.Name=true) (h2:hasBf seen b.Name=false) (h3:tyOk b.T=true) (h4:dimsErr b.Dims=0) (h5:b.Use<1∨3<b.Use):bfErr seen b=1:=by unfold bfErr;rw [if_pos h,if_neg (by rw [h2];simp),if_pos h3,if_pos h4,if_pos h5]
theorem bfErr_0 {seen:List Bf} {b:Bf} (h:isNameB b.Name=true) (h2:hasBf seen b.Name=false) (h3:tyOk b.T=true) (h4:dimsErr b.Dims=0) (h5:¬(b.Use<1∨3<b.Use)):bfErr seen b=0:=by unfold bfErr;rw [if_pos h,if_neg (by rw [h2];simp),if_pos h3,if_pos h4,if_neg h5]
theorem bufsErr_next {l:List Bf} {k:Nat} {b:Bf} (h:l[k]? =some b) (hp:bufsErr [] l=bufsErr (l.take k) (l.drop k)) (hb:bfErr (l.take k) b=0):bufsErr [] l=bufsErr (l.take (k+1)) (l.drop (k+1)):=by
 rw [hp,qZ h,bufsErr,if_pos hb,yG h]
theorem zEa {l:List Bf} {k:Nat} {b:Bf} (h:l[k]? =some b) (hp:bufsErr [] l=bufsErr (l.take k) (l.drop k)) (hb:¬bfErr (l.take k) b=0):bufsErr [] l=bfErr (l.take k) b:=by
 rw [hp,qZ h,bufsErr,if_neg hb]
theorem bufsErr_end {l:List Bf} {k:Nat} (hp:bufsErr [] l=bufsErr (l.take k) (l.drop k)) (h:¬k<l.length):bufsErr [] l=0:=by
 rw [hp,wM h];rfl
/-! ## Depth and number of statements -/
def withinT:Nat->List St->Bool
 |0,l=>l.isEmpty
 |n+1,l=>l.all fun s=>withinT n s.Body
mutual
def stN:St->Nat
 |.mk _ _ _ _ _ _ _ b=>1+stsN b
def stsN:List St->Nat
 |[]=>0
 |s::r=>stN s+stsN r
end
def withinG (n:Nat) (l:List St):Bool:=withinT n l
theorem withinG_eq (n:Nat) (l:List St):withinG n l=withinT n l:=rfl
theorem withinG_next {n:Nat} {l:List St} {k:Nat} {s:St} (h:l[k]? =some s) (hp:withinG n (l.take k)=true) (hn:1<=n) (hs:withinT (n-1) s.Body=true):withinG n (l.take (k+1))=true:=by
 obtain ⟨m,rfl⟩:∃m,n=m+1:=⟨n-1,by omega⟩
 exact allP_next h hp hs
theorem within_no {n:Nat} {l:List St} {k:Nat} {s:St} {x:Int} (h:l[k]? =some s) (hx:x=n) (c:(decide (x<1)|| !withinT (n-1) s.Body)=true):withinT n l=false:=by
 cases n with
 |zero=>cases l with
  |nil=>simp at h
  |cons a r=>rfl
 |succ n=>
  have:withinT n s.Body=false:=by
   rw [Bool.or_eq_true] at c
   rcases c with c|c
   ·rw [decide_eq_true_eq] at c;omega
   ·simpa using c
  exact all_no h this
theorem within_yes {n:Nat} {s:St} {x:Int} (hx:x=n) (c:(decide (x<1)|| !withinT (n-1) s.Body)=false):1<=n/\withinT (n-1) s.Body=true:=by
 rw [Bool.or_eq_false_iff] at c
 refine ⟨?_,by simpa using c.2⟩
 have:=c.1;rw [decide_eq_false_iff_not] at this;omega
theorem stN_eq (s:St):stN s=1+stsN s.Body:=by cases s;rw [stN];rfl
theorem zMz:∀(a b:List St),stsN (a++b)=stsN a+stsN b
 |[],b=>by simp [stsN]
 |x::r,b=>by rw [List.cons_append,stsN,stsN,zMz r b];omega
theorem zDd:∀l:List St,l.length<=stsN l
 |[]=>by simp [stsN]
 |x::r=>by have:=zDd r;have:=stN_eq x;rw [stsN,List.length_cons];omega
mutual
theorem stN_wt:∀s:St,stN s<=s.wt
 |.mk o n m k f i e b=>by rw [stN,St.wt];have:=stsN_wt b;omega
theorem stsN_wt:∀l:List St,stsN l<=stsWt l
 |[]=>by simp [stsN,stsWt]
 |s::r=>by rw [stsN,stsWt];have:=stN_wt s;have:=stsN_wt r;omega
end
mutual
def numS:St->Nat->Nat
 |.mk _ _ _ _ _ _ _ b,m=>numL b m b.length
def numL:List St->Nat->Nat->Nat
 |[],_,n=>n
 |s::r,m,n=>if n<=m then numL r m (n+numS s (m-n)) else n
end
def numB (l:List St) (m:Nat):Nat:=numL l m l.length
theorem numS_eq (s:St) (m:Nat):numS s m=numB s.Body m:=by cases s;rw [numS];rfl
mutual
theorem numS_le:∀(s:St) (m:Nat),numS s m<=stN s-1
 |.mk _ _ _ _ _ _ _ b,m=>by
  rw [numS,stN]
  have h1:=numL_le b m b.length
  have h2:=zDd b
  omega
theorem numL_le:∀(l:List St) (m n:Nat),numL l m n<=n+(stsN l-l.length)
 |[],m,n=>by simp [numL]
 |s::r,m,n=>by
  rw [numL]
  have h3:=zDd r
  have h4:=stN_eq s
  split
  ·have h1:=numL_le r m (n+numS s (m-n))
   have h2:=numS_le s (m-n)
   rw [stsN,List.length_cons];omega
  ·rw [stsN,List.length_cons];omega
end
theorem numB_le (l:List St) (m:Nat):numB l m<=stsN l:=by
 have h1:=numL_le l m l.length
 have h2:=zDd l
 unfold numB;omega
theorem numL_ge:∀(l:List St) (m n:Nat),n<=numL l m n
 |[],m,n=>by rw [numL];omega
 |s::r,m,n=>by
  rw [numL];split
  ·have:=numL_ge r m (n+numS s (m-n));omega
  ·omega
mutual
theorem numS_ok:∀(s:St) (m:Nat),numS s m<=m->numS s m=stN s-1
 |.mk _ _ _ _ _ _ _ b,m,h=>by
  rw [numS] at h⊢
  rw [stN,numL_ok b m _ h]
  have:=zDd b;omega
theorem numL_ok:∀(l:List St) (m n:Nat),numL l m n<=m->numL l m n=n+(stsN l-l.length)
 |[],m,n,h=>by simp [numL,stsN]
 |s::r,m,n,h=>by
  have h3:=zDd r
  have h4:=stN_eq s
  by_cases hn:n<=m
  ·rw [numL,if_pos hn] at h⊢
   have h5:=numL_ge r m (n+numS s (m-n))
   have h6:=numS_ok s (m-n) (by omega)
   rw [numL_ok r m _ h,h6,stsN,List.length_cons];omega
  ·rw [numL,if_neg hn] at h;omega
end
theorem numB_ok {l:List St} {m:Nat} (h:numB l m<=m):stsN l=numB l m:=by
 have h2:=zDd l
 unfold numB at *
 rw [numL_ok l m _ h];omega
theorem num_next {l:List St} {k m n N:Nat} {s:St} (h:l[k]? =some s) (hp:N=numL (l.drop k) m n) (hn:n<=m):N=numL (l.drop (k+1)) m (n+numB s.Body (m-n)):=by
 rw [hp,qZ h,numL,if_pos hn,numS_eq]
theorem num_end {l:List St} {k m n N:Nat} (hp:N=numL (l.drop k) m n) (h:l.length<=k∨m<n):n=N:=by
 rw [hp]
 by_cases hk:k<l.length
 ·obtain ⟨a,ha⟩:=qX l k hk
  rw [qZ ha,numL,if_neg (by omega)]
 ·rw [wM hk,numL]
theorem stsN_mem {l:List St} {s:St} (h:s∈l):stN s<=stsN l:=by
 induction l with
 |nil=>cases h
 |cons x r ih=>
  rw [stsN]
  rcases List.mem_cons.1 h with rfl|h
  ·omega
  ·have:=ih h;omega
theorem stsN_drop {l:List St} {k:Nat} {s:St} (h:l[k]? =some s):stsN (l.drop k)=stN s+stsN (l.drop (k+1)):=by rw [qZ h,stsN]
theorem num_sum {l:List St} {k m n:Nat} {s:St} (h:l[k]? =some s) (hp:numB l m=numL (l.drop k) m n) (hn:n<=m):n+numB s.Body (m-n)<=n+stsN l:=by
 have h1:=numB_le s.Body (m-n)
 have h2:stsN l=stsN (l.take k)+(stN s+stsN (l.drop (k+1))):=by
  rw [←stsN,←qZ h,←zMz,List.take_append_drop]
 have:=stN_eq s
 omega
end Go.Br
end
section
namespace Go.Br
open Go Go.Eng Go.L41
/-! ## Names of a node -/
def inSc (sc:List ByteArray) (l:Lf):Bool:=l.L.all fun m=>hasB sc m.Name
def ixSc (sc:List ByteArray) (x:Ix):Bool:=inSc sc x.Lin&&x.At.all (inSc sc)
def nodeSc (sc:List ByteArray) (e:Ex):Bool:=inSc sc e.Lin&&e.Idx.all (ixSc sc)
def gathE (B:List Bf) (x:Ix):Int:=
 if x.From=bs [] then 0 else if hasBf B x.From=true then (if (bufD B x.From).T.Kind=3 then (if (bufD B x.From).Dims.length=x.At.length then 0 else 11) else 10) else 9
def gathL (B:List Bf):List Ix->Int
 |[]=>0
 |x::r=>if gathE B x=0 then gathL B r else gathE B x
def nodeN (B:List Bf) (sc:List ByteArray) (e:Ex):Int:=
 if nodeSc sc e=true then (if e.Op=3 then (if hasBf B e.Name=true then (if (bufD B e.Name).Dims.length=e.Idx.length then gathL B e.Idx else 11) else 9) else 0) else 9
def nodesN (B:List Bf) (sc:List ByteArray):List Ex->Int
 |[]=>0
 |e::r=>if nodeN B sc e=0 then nodesN B sc r else nodeN B sc e
theorem gathE_0 {B:List Bf} {x:Ix} (h:x.From=bs []):gathE B x=0:=by unfold gathE;rw [if_pos h]
theorem gathE_9 {B:List Bf} {x:Ix} (h:¬x.From=bs []) (h1:hasBf B x.From=false):gathE B x=9:=by unfold gathE;rw [if_neg h,if_neg (by rw [h1];simp)]
theorem gathE_10 {B:List Bf} {x:Ix} (h:¬x.From=bs []) (h1:hasBf B x.From=true) (h2:¬(bufD B x.From).T.Kind=3):gathE B x=10:=by unfold gathE;rw [if_neg h,if_pos h1,if_neg h2]
theorem gathE_11 {B:List Bf} {x:Ix} (h:¬x.From=bs []) (h1:hasBf B x.From=true) (h2:(bufD B x.From).T.Kind=3) (h3:¬(bufD B x.From).Dims.length=x.At.length):gathE B x=11:=by unfold gathE;rw [if_neg h,if_pos h1,if_pos h2,if_neg h3]
theorem gathE_ok {B:List Bf} {x:Ix} (h:¬x.From=bs []) (h1:hasBf B x.From=true) (h2:(bufD B x.From).T.Kind=3) (h3:(bufD B x.From).Dims.length=x.At.length):gathE B x=0:=by unfold gathE;rw [if_neg h,if_pos h1,if_pos h2,if_pos h3]
theorem gathL_next {B:List Bf} {l:List Ix} {k:Nat} {x:Ix} (h:l[k]? =some x) (hx:gathE B x=0):gathL B (l.drop k)=gathL B (l.drop (k+1)):=by rw [qZ h,gathL,if_pos hx]
theorem gathL_no {B:List Bf} {l:List Ix} {k:Nat} {x:Ix} (h:l[k]? =some x) (hx:¬gathE B x=0):gathL B (l.drop k)=gathE B x:=by rw [qZ h,gathL,if_neg hx]
theorem nodeN_9 {B:List Bf} {sc:List ByteArray} {e:Ex} (h:nodeSc sc e=false):nodeN B sc e=9:=by unfold nodeN;rw [if_neg (by rw [h];simp)]
theorem nodeN_o {B:List Bf} {sc:List ByteArray} {e:Ex} (h:nodeSc sc e=true) (h1:¬e.Op=3):nodeN B sc e=0:=by unfold nodeN;rw [if_pos h,if_neg h1]
theorem nodeN_n {B:List Bf} {sc:List ByteArray} {e:Ex} (h:nodeSc sc e=true) (h1:e.Op=3) (h2:hasBf B e.Name=false):nodeN B sc e=9:=by unfold nodeN;rw [if_pos h,if_pos h1,if_neg (by rw [h2];simp)]
theorem nodeN_r {B:List Bf} {sc:List ByteArray} {e:Ex} (h:nodeSc sc e=true) (h1:e.Op=3) (h2:hasBf B e.Name=true) (h3:¬(bufD B e.Name).Dims.length=e.Idx.length):nodeN B sc e=11:=by unfold nodeN;rw [if_pos h,if_pos h1,if_pos h2,if_neg h3]
theorem zNo {B:List Bf} {sc:List ByteArray} {e:Ex} (h:nodeSc sc e=true) (h1:e.Op=3) (h2:hasBf B e.Name=true) (h3:(bufD B e.Name).Dims.length=e.Idx.length):nodeN B sc e=gathL B e.Idx:=by unfold nodeN;rw [if_pos h,if_pos h1,if_pos h2,if_pos h3]
theorem zEi (B:List Bf) (sc:List ByteArray):∀(a b:List Ex),nodesN B sc (a++b)=if nodesN B sc a=0 then nodesN B sc b else nodesN B sc a
 |[],b=>by simp [nodesN]
 |x::r,b=>by
  rw [List.cons_append,nodesN,nodesN,zEi B sc r b]
  by_cases h:nodeN B sc x=0
  ·rw [if_pos h,if_pos h]
  ·rw [if_neg h,if_neg h,if_neg h]
theorem zKf {B:List Bf} {sc:List ByteArray} {pre:List Ex} {x:Ex} (h:nodesN B sc pre=0):nodesN B sc (pre++[x])=nodeN B sc x:=by
 rw [zEi,if_pos h,nodesN,nodesN]
 by_cases hx:nodeN B sc x=0
 ·rw [if_pos hx,hx]
 ·rw [if_neg hx]
theorem nodesN_pre {B:List Bf} {sc:List ByteArray} {pre suf:List Ex} {x:Ex} (h:¬nodesN B sc (pre++[x])=0):nodesN B sc (pre++x::suf)=nodesN B sc (pre++[x]):=by
 rw [show pre++x::suf=(pre++[x])++suf by simp,zEi,if_neg h]
def tyF (B:List Bf) (e:Ex) (l:List Ty):Ty×Int:=
 if e.Op=1∨e.Op=12 then (e.Ty,0) else
 if e.Op=2 then (iTy,0) else
 if e.Op=3 then ((bufD B e.Name).T,0) else
 if e.Op=8 then (tyAt l 0,0) else
 if e.Op=16∨e.Op=17∨e.Op=18 then (zTy,0) else
 if tyAt l (l.length-2)=tyAt l (l.length-1) then (if isCond e=true then (zTy,0) else (tyAt l (l.length-1),0)) else (zTy,10)
theorem zBd {B:List Bf} {e:Ex} {l:List Ty} (h:e.Op=1∨e.Op=12):tyF B e l=(e.Ty,0):=by unfold tyF;rw [if_pos h]
theorem zBc {B:List Bf} {e:Ex} {l:List Ty} (h:e.Op=2):tyF B e l=(iTy,0):=by unfold tyF;rw [if_neg (by omega),if_pos h]
theorem zAy {B:List Bf} {e:Ex} {l:List Ty} (h:e.Op=3):tyF B e l=((bufD B e.Name).T,0):=by unfold tyF;rw [if_neg (by omega),if_neg (by omega),if_pos h]
theorem zBb {B:List Bf} {e:Ex} {l:List Ty} (h:e.Op=8):tyF B e l=(tyAt l 0,0):=by unfold tyF;rw [if_neg (by omega),if_neg (by omega),if_neg (by omega),if_pos h]
theorem wO {B:List Bf} {e:Ex} {l:List Ty} (h:e.Op=16∨e.Op=17∨e.Op=18):tyF B e l=(zTy,0):=by unfold tyF;rw [if_neg (by omega),if_neg (by omega),if_neg (by omega),if_neg (by omega),if_pos h]
abbrev opLow (o:Int):Prop:=o=1∨o=12∨o=2∨o=3∨o=8∨o=16∨o=17∨o=18
theorem tyF_o {B:List Bf} {e:Ex} {l:List Ty} (h:¬opLow e.Op):tyF B e l=if tyAt l (l.length-2)=tyAt l (l.length-1) then (if isCond e=true then (zTy,0) else (tyAt l (l.length-1),0)) else (zTy,10):=by
 unfold opLow at h;unfold tyF;rw [if_neg (by omega),if_neg (by omega),if_neg (by omega),if_neg (by omega),if_neg (by omega)]
theorem wP {B:List Bf} {e:Ex} {l:List Ty} (h:¬opLow e.Op) (h2:¬tyAt l (l.length-2)=tyAt l (l.length-1)):tyF B e l=(zTy,10):=by rw [tyF_o h,if_neg h2]
theorem zBa {B:List Bf} {e:Ex} {l:List Ty} (h:¬opLow e.Op) (h2:tyAt l (l.length-2)=tyAt l (l.length-1)) (h3:isCond e=true):tyF B e l=(zTy,0):=by rw [tyF_o h,if_pos h2,if_pos h3]
theorem zAz {B:List Bf} {e:Ex} {l:List Ty} (h:¬opLow e.Op) (h2:tyAt l (l.length-2)=tyAt l (l.length-1)) (h3:isCond e=false):tyF B e l=(tyAt l (l.length-1),0):=by rw [tyF_o h,if_pos h2,if_neg (by rw [h3];simp)]
theorem tyF_zero {B:List Bf} {e:Ex} {l:List Ty} (h:¬(tyF B e l).2=0):(tyF B e l).1=zTy:=by
 unfold tyF at h⊢
 repeat' split at h<;>first|exact absurd rfl h|skip
 all_goals simp_all
theorem nodeT_zero {B:List Bf} {e:Ex} (h:¬(nodeT (tyF B) e).2=0):(nodeT (tyF B) e).1=zTy:=by
 rw [zMg] at h⊢
 split
 ·rename_i c
  rw [if_pos c] at h
  exact tyF_zero h
 ·rfl
theorem conds_ok {e:Ex} (h:partE e=0):condsOk e.Op 0 e.Args=true:=by
 have:=(zMf (zAu h)).2.2.2.1
 simp only [typesE,Bool.and_eq_true] at this
 exact this.2
def exprT (B:List Bf) (sc:List ByteArray) (e:Ex):Ty×Int:=
 if validE e=0 then (if nodesN B sc (nodes e)=0 then nodeT (tyF B) e else (zTy,nodesN B sc (nodes e))) else (zTy,validE e)
theorem exprT_1 {B:List Bf} {sc:List ByteArray} {e:Ex} (h:¬validE e=0):exprT B sc e=(zTy,validE e):=by unfold exprT;rw [if_neg h]
theorem exprT_2 {B:List Bf} {sc:List ByteArray} {e:Ex} (h:validE e=0) (h2:¬nodesN B sc (nodes e)=0):exprT B sc e=(zTy,nodesN B sc (nodes e)):=by unfold exprT;rw [if_pos h,if_neg h2]
theorem exprT_3 {B:List Bf} {sc:List ByteArray} {e:Ex} (h:validE e=0) (h2:nodesN B sc (nodes e)=0):exprT B sc e=nodeT (tyF B) e:=by unfold exprT;rw [if_pos h,if_pos h2]
theorem exprT_rd {B:List Bf} {sc:List ByteArray} {s:St} (h:(exprT B sc (rdE s)).2=0):(exprT B sc (rdE s)).1=(bufD B s.Name).T:=by
 by_cases h1:validE (rdE s)=0
 ·by_cases h2:nodesN B sc (nodes (rdE s))=0
  ·rw [exprT_3 h1 h2,zMg]
   have:nodeL (tyF B) (rdE s).Args=([],0):=rfl
   rw [this,if_pos rfl,zAy rfl];rfl
  ·rw [exprT_2 h1 h2] at h;exact absurd h h2
 ·rw [exprT_1 h1] at h;exact absurd h h1
/-! ## Statements -/
def emptyE (e:Ex):Bool:=decide (e=zEx)
def isSto (s:St):Bool:=decide (s.Op=2)||decide (s.Op=3)
def synSt (s:St):Bool:=
 (decide (s.Op=1)||isSto s||decide (s.Op=4))&& !(decide (s.Op=4)&& !decide (s.Name=bs []))&& !(!decide (s.Op=1)&&(!decide (s.Many=0)|| !decide (s.Mark=0)))&&
 !(!decide (s.Op=3)&& !decide (s.Fold=0))&& !(!isSto s&&decide ((0:Int)<s.Idx.length))&& !(decide (s.Op=1)&& !emptyE s.E)&&(!isSto s||decide ((s.Body.length:Int)=0))
theorem syn_1 {s:St} (c:((!decide (s.Op=1)&& !(decide (s.Op=2)||decide (s.Op=3)))&& !decide (s.Op=4))=true):false=synSt s:=by
 unfold synSt isSto
 simp only [Bool.and_eq_true,Bool.not_eq_true',Bool.or_eq_false_iff] at c
 simp only [c.1.1,c.1.2.1,c.1.2.2,c.2,Bool.or_self,Bool.false_and]
theorem syn_2 {s:St} (c:(decide (s.Op=4)&& !decide (s.Name=bs []))=true):false=synSt s:=by
 unfold synSt;simp only [c,Bool.not_true,Bool.and_false,Bool.false_and]
theorem syn_3 {s:St} (c:(!decide (s.Op=1)&&(!decide (s.Many=0)|| !decide (s.Mark=0)))=true):false=synSt s:=by
 unfold synSt;simp only [c,Bool.not_true,Bool.and_false,Bool.false_and]
theorem syn_4 {s:St} (c:(!decide (s.Op=3)&& !decide (s.Fold=0))=true):false=synSt s:=by
 unfold synSt;simp only [c,Bool.not_true,Bool.and_false,Bool.false_and]
theorem syn_5 {s:St} (c:(!isSto s&&decide ((0:Int)<s.Idx.length))=true):false=synSt s:=by
 unfold synSt;simp only [c,Bool.not_true,Bool.and_false,Bool.false_and]
theorem syn_6 {s:St} (c:(decide (s.Op=1)&& !emptyE s.E)=true):false=synSt s:=by
 unfold synSt;simp only [c,Bool.not_true,Bool.and_false,Bool.false_and]
theorem syn_7 {s:St} (c1:((!decide (s.Op=1)&& !isSto s)&& !decide (s.Op=4))=false) (c2:(decide (s.Op=4)&& !decide (s.Name=bs []))=false) (c3:(!decide (s.Op=1)&&(!decide (s.Many=0)|| !decide (s.Mark=0)))=false) (c4:(!decide (s.Op=3)&& !decide (s.Fold=0))=false)
  (c5:(!isSto s&&decide ((0:Int)<s.Idx.length))=false) (c6:(decide (s.Op=1)&& !emptyE s.E)=false):(!isSto s||decide ((s.Body.length:Int)=0))=synSt s:=by
 have h1:(decide (s.Op=1)||isSto s||decide (s.Op=4))=true:=by
  revert c1;cases decide (s.Op=1)<;>cases isSto s<;>cases decide (s.Op=4)<;>simp
 unfold synSt
 simp only [h1,c2,c3,c4,c5,c6,Bool.not_false,Bool.true_and]
def loopE (B:List Bf) (U:List ByteArray) (s:St):Int:=
 if isNameB s.Name=true then (if hasBf B s.Name=true∨hasB U s.Name=true then 8 else if s.Many<1∨65536<s.Many∨s.Mark<0∨3<s.Mark then 1 else 0) else 7
def ifE (B:List Bf) (sc:List ByteArray) (s:St):Int:=if (exprT B sc s.E).2=0 then (if isCond s.E=true then 0 else 10) else (exprT B sc s.E).2
def storeE (B:List Bf) (sc:List ByteArray) (s:St):Int:=
 if (exprT B sc (rdE s)).2=0 then (if (bufD B s.Name).Use=1∨(s.Op=3/\(s.Fold<1∨4<s.Fold)) then 1 else
  if (exprT B sc s.E).2=0 then (if isCond s.E=true∨¬(exprT B sc s.E).1=(bufD B s.Name).T then 10 else 0) else (exprT B sc s.E).2) else (exprT B sc (rdE s)).2
def stE (B:List Bf) (U sc:List ByteArray) (s:St):Int:=
 if synSt s=true then (if s.Op=1 then loopE B U s else if s.Op=4 then ifE B sc s else storeE B sc s) else 5
structure Ck where
 U:List ByteArray
 W:List Int
 E:Int
def nextU (U:List ByteArray) (s:St):List ByteArray:=if s.Op=1 then U++[s.Name] else U
mutual
def chkS (B:List Bf):List ByteArray->List ByteArray->List Int->St->Ck
 |U,sc,here,.mk o nm mn mk fo i e b=>if stE B U sc (.mk o nm mn mk fo i e b)=0 then chkL B (nextU U (.mk o nm mn mk fo i e b)) (nextU sc (.mk o nm mn mk fo i e b)) here 0 b else ⟨[],here,stE B U sc (.mk o nm mn mk fo i e b)⟩
def chkL (B:List Bf):List ByteArray->List ByteArray->List Int->Int->List St->Ck
 |U,_,_,_,[]=>⟨U,[],0⟩
 |U,sc,way,i,s::r=>if (chkS B U sc (way++[i]) s).E=0 then chkL B (chkS B U sc (way++[i]) s).U sc way (i+1) r else chkS B U sc (way++[i]) s
end
theorem chkS_eq (B:List Bf) (U sc:List ByteArray) (here:List Int) (s:St):chkS B U sc here s=if stE B U sc s=0 then chkL B (nextU U s) (nextU sc s) here 0 s.Body else ⟨[],here,stE B U sc s⟩:=by cases s;rw [chkS];rfl
theorem chkS_no {B:List Bf} {U sc:List ByteArray} {here:List Int} {s:St} (h:¬stE B U sc s=0):chkS B U sc here s=⟨[],here,stE B U sc s⟩:=by rw [chkS_eq,if_neg h]
theorem chkS_in {B:List Bf} {U sc:List ByteArray} {here:List Int} {s:St} (h:stE B U sc s=0):chkS B U sc here s=chkL B (nextU U s) (nextU sc s) here 0 s.Body:=by rw [chkS_eq,if_pos h]
theorem chkL_next {B:List Bf} {R:Ck} {U sc:List ByteArray} {way:List Int} {l:List St} {k:Nat} {s:St} (h:l[k]? =some s) (hp:R=chkL B U sc way k (l.drop k)) (hx:(chkS B U sc (way++[(k:Int)]) s).E=0):R=chkL B (chkS B U sc (way++[(k:Int)]) s).U sc way ((k+1:Nat):Int) (l.drop (k+1)):=by
 rw [hp,qZ h,chkL,if_pos hx];rfl
theorem zEs {B:List Bf} {R:Ck} {U sc:List ByteArray} {way:List Int} {l:List St} {k:Nat} {s:St} (h:l[k]? =some s) (hp:R=chkL B U sc way k (l.drop k)) (hx:¬(chkS B U sc (way++[(k:Int)]) s).E=0):R=chkS B U sc (way++[(k:Int)]) s:=by
 rw [hp,qZ h,chkL,if_neg hx]
theorem chkL_end {B:List Bf} {R:Ck} {U sc:List ByteArray} {way:List Int} {l:List St} {k:Nat} (hp:R=chkL B U sc way k (l.drop k)) (h:¬k<l.length):R=⟨U,[],0⟩:=by
 rw [hp,wM h,chkL]
theorem chkL_ok:∀{B:List Bf} {l:List St} {U sc:List ByteArray} {way:List Int} {i:Int},(chkL B U sc way i l).E=0->(chkL B U sc way i l).W=[]
 |B,[],U,sc,way,i,_=>by rw [chkL]
 |B,s::r,U,sc,way,i,h=>by
  rw [chkL] at h⊢
  by_cases c:(chkS B U sc (way++[i]) s).E=0
  ·rw [if_pos c] at h⊢;exact chkL_ok h
  ·rw [if_neg c] at h;exact absurd h c
mutual
theorem chkS_len (B:List Bf):∀(s:St) (U sc:List ByteArray) (here:List Int),(chkS B U sc here s).U.length<=U.length+stN s
 |.mk o nm mn mk fo i e b,U,sc,here=>by
  rw [chkS,stN]
  split
  ·have h1:=chkL_len B b (nextU U (.mk o nm mn mk fo i e b)) (nextU sc (.mk o nm mn mk fo i e b)) here 0
   have h2:(nextU U (.mk o nm mn mk fo i e b)).length<=U.length+1:=by unfold nextU;split<;>simp
   omega
  ·simp
theorem chkL_len (B:List Bf):∀(l:List St) (U sc:List ByteArray) (way:List Int) (i:Int),(chkL B U sc way i l).U.length<=U.length+stsN l
 |[],U,sc,way,i=>by rw [chkL];simp
 |s::r,U,sc,way,i=>by
  rw [chkL,stsN]
  have h1:=chkS_len B s U sc (way++[i])
  split
  ·have h2:=chkL_len B r (chkS B U sc (way++[i]) s).U sc way (i+1)
   omega
  ·omega
end
theorem zNq {U:List ByteArray} {s:St} (h:s.Op=1):nextU U s=U++[s.Name]:=by unfold nextU;rw [if_pos h]
theorem nextU_no {U:List ByteArray} {s:St} (h:¬s.Op=1):nextU U s=U:=by unfold nextU;rw [if_neg h]
theorem scAll_next {S:List ByteArray} {f:Lf} {l:List Ix} {k:Nat} {x:Ix} (h:l[k]? =some x):((inSc S f&&(l.take k).all (ixSc S))&&inSc S x.Lin&&x.At.all (inSc S))=(inSc S f&&(l.take (k+1)).all (ixSc S)):=by
 rw [yG h,List.all_append]
 simp only [List.all_cons,List.all_nil,Bool.and_true,ixSc,Bool.and_assoc]
theorem st10_t {c:Bool} {a b:Ty} (h:(c|| !litsEq [cI a.Kind,cI a.Bits,cI a.Frac,cI a.Round,cI a.Over] [cI b.Kind,cI b.Bits,cI b.Frac,cI b.Round,cI b.Over])=true):c=true∨¬a=b:=by
 rw [tyC_eq,Bool.or_eq_true] at h
 rcases h with h|h
 ·exact .inl h
 ·exact .inr (by simpa using h)
theorem st10_f {c:Bool} {a b:Ty} (h:(c|| !litsEq [cI a.Kind,cI a.Bits,cI a.Frac,cI a.Round,cI a.Over] [cI b.Kind,cI b.Bits,cI b.Frac,cI b.Round,cI b.Over])=false):¬(c=true∨¬a=b):=by
 rw [tyC_eq,Bool.or_eq_false_iff] at h
 rw [h.1]
 rintro (k|k)
 ·cases k
 ·exact k (by simpa using h.2)
theorem storeE_1 {B:List Bf} {sc:List ByteArray} {s:St} (h:¬(exprT B sc (rdE s)).2=0):storeE B sc s=(exprT B sc (rdE s)).2:=by unfold storeE;rw [if_neg h]
theorem storeE_u {B:List Bf} {sc:List ByteArray} {s:St} (h:(exprT B sc (rdE s)).2=0) (h2:(bufD B s.Name).Use=1∨(s.Op=3/\(s.Fold<1∨4<s.Fold))):storeE B sc s=1:=by unfold storeE;rw [if_pos h,if_pos h2]
theorem storeE_2 {B:List Bf} {sc:List ByteArray} {s:St} (h:(exprT B sc (rdE s)).2=0) (h2:¬((bufD B s.Name).Use=1∨(s.Op=3/\(s.Fold<1∨4<s.Fold)))) (h3:¬(exprT B sc s.E).2=0):storeE B sc s=(exprT B sc s.E).2:=by unfold storeE;rw [if_pos h,if_neg h2,if_neg h3]
theorem storeE_10 {B:List Bf} {sc:List ByteArray} {s:St} (h:(exprT B sc (rdE s)).2=0) (h2:¬((bufD B s.Name).Use=1∨(s.Op=3/\(s.Fold<1∨4<s.Fold)))) (h3:(exprT B sc s.E).2=0) (h4:isCond s.E=true∨¬(exprT B sc s.E).1=(bufD B s.Name).T):storeE B sc s=10:=by unfold storeE;rw [if_pos h,if_neg h2,if_pos h3,if_pos h4]
theorem storeE_0 {B:List Bf} {sc:List ByteArray} {s:St} (h:(exprT B sc (rdE s)).2=0) (h2:¬((bufD B s.Name).Use=1∨(s.Op=3/\(s.Fold<1∨4<s.Fold)))) (h3:(exprT B sc s.E).2=0) (h4:¬(isCond s.E=true∨¬(exprT B sc s.E).1=(bufD B s.Name).T)):storeE B sc s=0:=by unfold storeE;rw [if_pos h,if_neg h2,if_pos h3,if_neg h4]
theorem loopE_7 {B:List Bf} {U:List ByteArray} {s:St} (h:isNameB s.Name=false):loopE B U s=7:=by unfold loopE;rw [if_neg (by rw [h];simp)]
theorem loopE_8 {B:List Bf} {U:List ByteArray} {s:St} (h:isNameB s.Name=true) (h2:hasBf B s.Name=true∨hasB U s.Name=true):loopE B U s=8:=by unfold loopE;rw [if_pos h,if_pos h2]
theorem loopE_1 {B:List Bf} {U:List ByteArray} {s:St} (h:isNameB s.Name=true) (h2:¬(hasBf B s.Name=true∨hasB U s.Name=true)) (h3:s.Many<1∨65536<s.Many∨s.Mark<0∨3<s.Mark):loopE B U s=1:=by unfold loopE;rw [if_pos h,if_neg h2,if_pos h3]
theorem loopE_0 {B:List Bf} {U:List ByteArray} {s:St} (h:isNameB s.Name=true) (h2:¬(hasBf B s.Name=true∨hasB U s.Name=true)) (h3:¬(s.Many<1∨65536<s.Many∨s.Mark<0∨3<s.Mark)):loopE B U s=0:=by unfold loopE;rw [if_pos h,if_neg h2,if_neg h3]
theorem ifE_x {B:List Bf} {sc:List ByteArray} {s:St} (h:¬(exprT B sc s.E).2=0):ifE B sc s=(exprT B sc s.E).2:=by unfold ifE;rw [if_neg h]
theorem ifE_10 {B:List Bf} {sc:List ByteArray} {s:St} (h:(exprT B sc s.E).2=0) (h2:isCond s.E=false):ifE B sc s=10:=by unfold ifE;rw [if_pos h,if_neg (by rw [h2];simp)]
theorem ifE_0 {B:List Bf} {sc:List ByteArray} {s:St} (h:(exprT B sc s.E).2=0) (h2:isCond s.E=true):ifE B sc s=0:=by unfold ifE;rw [if_pos h,if_pos h2]
theorem stE_5 {B:List Bf} {U sc:List ByteArray} {s:St} (h:synSt s=false):stE B U sc s=5:=by unfold stE;rw [if_neg (by rw [h];simp)]
theorem stE_l {B:List Bf} {U sc:List ByteArray} {s:St} (h:synSt s=true) (h2:s.Op=1):stE B U sc s=loopE B U s:=by unfold stE;rw [if_pos h,if_pos h2]
theorem stE_i {B:List Bf} {U sc:List ByteArray} {s:St} (h:synSt s=true) (h2:s.Op=4):stE B U sc s=ifE B sc s:=by unfold stE;rw [if_pos h,if_neg (by omega),if_pos h2]
theorem stE_s {B:List Bf} {U sc:List ByteArray} {s:St} (h:synSt s=true) (h2:¬s.Op=1) (h3:¬s.Op=4):stE B U sc s=storeE B sc s:=by unfold stE;rw [if_pos h,if_neg h2,if_neg h3]
def validN (n:Ns):List Int×Int:=
 if withinT 40 n.Body=true then (if 2000<numB n.Body 2000∨128<n.Bufs.length then ([],2) else if bufsErr [] n.Bufs=0 then ((chkL n.Bufs [] [] [] 0 n.Body).W,(chkL n.Bufs [] [] [] 0 n.Body).E) else ([],bufsErr [] n.Bufs)) else ([],13)
theorem validN_13 {n:Ns} (h:withinT 40 n.Body=false):validN n=([],13):=by unfold validN;rw [if_neg (by rw [h];simp)]
theorem validN_2 {n:Ns} (h:withinT 40 n.Body=true) (h2:2000<numB n.Body 2000∨128<n.Bufs.length):validN n=([],2):=by unfold validN;rw [if_pos h,if_pos h2]
theorem validN_b {n:Ns} (h:withinT 40 n.Body=true) (h2:¬(2000<numB n.Body 2000∨128<n.Bufs.length)) (h3:¬bufsErr [] n.Bufs=0):validN n=([],bufsErr [] n.Bufs):=by unfold validN;rw [if_pos h,if_neg h2,if_neg h3]
theorem validN_c {n:Ns} (h:withinT 40 n.Body=true) (h2:¬(2000<numB n.Body 2000∨128<n.Bufs.length)) (h3:bufsErr [] n.Bufs=0):validN n=((chkL n.Bufs [] [] [] 0 n.Body).W,(chkL n.Bufs [] [] [] 0 n.Body).E):=by unfold validN;rw [if_pos h,if_neg h2,if_pos h3]
structure Ns.Ok (n:Ns):Prop where
 bufs:n.Bufs.length<=4294967296
 dims:∀b,b∈n.Bufs->b.Dims.length<=17592186044416
 body:stsWt n.Body<=536870912
theorem Ns.Ok.buf {n:Ns} (h:n.Ok) (s:ByteArray):(bufD n.Bufs s).Dims.length<=17592186044416:=by
 cases c:hasBf n.Bufs s
 ·rw [bufD_no c];simp [zBf]
 ·exact h.dims _ (bufD_mem c).1
end Go.Br
end
section
namespace Go.Br
open Go Go.Eng Go.L41
def idxE (i:List Ix):Ex:=.mk 0 (bs []) ⟨0,0⟩ ⟨0,0,0,0,0⟩ ⟨0,[]⟩ i []
theorem idxE_wt (i:List Ix):(idxE i).wt=1+i.length+idxWt i:=by
 rw [Ex.wt_eq];simp only [idxE,Ex.Lin,Ex.Idx,Ex.Args,argsWt,List.length_nil];omega
mutual
def weighS:St->Nat->Nat
 |.mk _ _ _ _ _ _ _ b,m=>weighSs b m b.length
def weighSs:List St->Nat->Nat->Nat
 |[],_,n=>n
 |s::r,m,n=>if n<=m then weighSs r m (n+weighE s.E m+weighE (idxE s.Idx) m+weighS s (m-n)) else n
end
def weighB (l:List St) (m:Nat):Nat:=weighSs l m l.length
theorem weighS_eq (s:St) (m:Nat):weighS s m=weighB s.Body m:=by cases s;rw [weighS];rfl
theorem weighSs_ge:∀(l:List St) (m n:Nat),n<=weighSs l m n
 |[],m,n=>by rw [weighSs];omega
 |s::r,m,n=>by
  rw [weighSs];split
  ·have:=weighSs_ge r m (n+weighE s.E m+weighE (idxE s.Idx) m+weighS s (m-n));omega
  ·omega
mutual
theorem weighS_wt:∀(s:St) (m:Nat),weighS s m<=m->stsWt s.Body<=weighS s m
 |.mk _ _ _ _ _ _ _ b,m,h=>by
  rw [weighS] at h⊢
  have:=zJy b m _ h
  have:=wT b
  simp only [St.Body];omega
theorem zJy:∀(l:List St) (m n:Nat),weighSs l m n<=m->n+(stsWt l-l.length)<=weighSs l m n
 |[],m,n,h=>by simp [weighSs,stsWt]
 |s::r,m,n,h=>by
  by_cases hn:n<=m
  ·rw [weighSs,if_pos hn] at h⊢
   have h1:=weighSs_ge r m (n+weighE s.E m+weighE (idxE s.Idx) m+weighS s (m-n))
   have h2:=zJy r m _ h
   have h3:=zMs s.E m (by omega)
   have h4:=zMs (idxE s.Idx) m (by omega)
   have h5:=weighS_wt s (m-n) (by omega)
   have h6:=wT r
   rw [idxE_wt] at h4
   rw [stsWt,List.length_cons,St.wt_eq];omega
  ·rw [weighSs,if_neg hn] at h;omega
end
theorem weighB_wt {l:List St} {m:Nat} (h:weighB l m<=m):stsWt l<=weighB l m:=by
 unfold weighB at *
 have:=zJy l m _ h
 have:=wT l
 omega
mutual
def St.fit:St->Prop
 |.mk _ _ _ _ _ i e b=>i.length<=140737488355328/\(∀x,x∈i->x.fit)/\e.fit/\b.length<=140737488355328/\fitS b
def fitS:List St->Prop
 |[]=>True
 |s::r=>s.fit/\fitS r
end
theorem zMk {l:List St} (h:fitS l):∀a,a∈l->a.fit:=by
 induction l with
 |nil=>intro a ha;cases ha
 |cons x r ih=>
  intro a ha
  rw [fitS] at h
  rcases List.mem_cons.1 ha with rfl|ha
  ·exact h.1
  ·exact ih h.2 a ha
theorem fitS_of {l:List St} (h:∀a,a∈l->a.fit):fitS l:=by
 induction l with
 |nil=>rw [fitS];trivial
 |cons x r ih=>rw [fitS];exact ⟨h x (by simp),ih fun a ha=>h a (by simp [ha])⟩
theorem St.fit_eq {s:St} (h:s.fit):s.Idx.length<=140737488355328/\(∀x,x∈s.Idx->x.fit)/\s.E.fit/\s.Body.length<=140737488355328/\fitS s.Body:=by
 cases s with
 |mk o n m k f i e b=>rw [St.fit] at h;exact h
theorem idxE_fit {i:List Ix} (h1:i.length<=140737488355328) (h2:∀x,x∈i->x.fit):(idxE i).fit:=by
 unfold idxE;rw [Ex.fit];exact ⟨by simp,h1,by simp,h2,trivial⟩
abbrev wB (m:Nat):Nat:=140737488355328+m*1125899906857624
mutual
theorem weighS_le:∀(s:St) (m:Nat),s.fit->m<=5000->weighS s m<=wB m
 |.mk o nm k f mn i e b,m,h,hm=>by
  rw [St.fit] at h
  obtain ⟨_,_,_,h1,h2⟩:=h
  rw [weighS]
  exact weighSs_le b m _ h2 hm (fun hb=>by cases b;exact absurd rfl hb;simp) (by unfold wB;omega)
theorem weighSs_le:∀(l:List St) (m n:Nat),fitS l->m<=5000->(l≠[]->1<=n)->n<=wB m->weighSs l m n<=wB m
 |[],m,n,_,_,_,h=>by rw [weighSs];exact h
 |s::r,m,n,hf,hm,h1,h=>by
  rw [fitS] at hf
  rw [weighSs]
  have h1:=h1 (by simp)
  obtain ⟨f1,f2,f3,_,_⟩:=St.fit_eq hf.1
  split
  ·rename_i hn
   have h3:=weighS_le s (m-n) hf.1 (by omega)
   have h4:=zDu s.E m f3
   have h5:=zDu (idxE s.Idx) m (idxE_fit f1 f2)
   refine weighSs_le r m _ hf.2 hm (fun _=>by omega) ?_
   unfold wB at *
   omega
  ·exact h
end
theorem weighSs_end {m n k:Nat} {l:List St} {N:Nat} {x:Int} (hp:N=weighSs (l.drop k) m n) (hx:x=m) (h:l.length<=k∨x<n):n=N:=by
 rw [hp]
 by_cases hk:k<l.length
 ·obtain ⟨a,ha⟩:=qX l k hk
  rw [qZ ha,weighSs,if_neg (by omega)]
 ·rw [wM hk,weighSs]
theorem weighSs_next {m n k:Nat} {l:List St} {N:Nat} {s:St} (hs:l[k]? =some s) (hp:N=weighSs (l.drop k) m n) (h:n<=m):N=weighSs (l.drop (k+1)) m (n+weighE s.E m+weighE (idxE s.Idx) m+weighB s.Body (m-n)):=by
 rw [hp,qZ hs,weighSs,if_pos h,weighS_eq]
theorem weigh_lt {m n:Nat} {l:List St} {k:Nat} {s:St} (hs:l[k]? =some s) (hf:fitS l) (hm:m<=5000) (hn:n<=m) (h1:1<=n):n+weighE s.E m+weighE (idxE s.Idx) m+weighB s.Body (m-n)<=wB m:=by
 have hs':=zMk hf s (qB hs)
 obtain ⟨f1,f2,f3,f4,f5⟩:=St.fit_eq hs'
 have h3:=weighS_le s (m-n) hs' (by omega)
 rw [weighS_eq] at h3
 have h4:=zDu s.E m f3
 have h5:=zDu (idxE s.Idx) m (idxE_fit f1 f2)
 unfold wB at *
 omega
/-! ## What the laws of layers 30,36 and 41 take for small -/
structure Ns.Fit (n:Ns):Prop where
 bufs:n.Bufs.length<=140737488355328
 dims:∀b,b∈n.Bufs->b.Dims.length<=17592186044416
 len:n.Body.length<=140737488355328
 body:fitS n.Body
theorem Ns.Fit.ok {n:Ns} (h:n.Fit) {m:Nat} (hm:m<=5000) (hb:n.Bufs.length<=150) (hw:weighB n.Body m<=m):n.Ok:=
 ⟨by omega,h.dims,by have:=weighB_wt hw;omega⟩
end Go.Br
end
section
namespace Go.Br
open Go Go.Eng Go.L41
/-! ## For the reference's check -/
structure Bd where
 Name:ByteArray
 Val:Int
 deriving DecidableEq
def Bd.cells (x:Bd):List C:=[cS x.Name,cI x.Val]
end Go.Br
end
section
namespace Go.Br
open Go Go.Eng Go.L41
def below (s:ByteArray) (x:ByteArray):Bool:=strLt x s
theorem hasB_cons (x:ByteArray) (r:List ByteArray) (s:ByteArray):hasB (x::r) s=(decide (x=s)||hasB r s):=rfl
theorem hasB_mem {l:List ByteArray} {s:ByteArray}:hasB l s=true↔s∈l:=by
 unfold hasB;rw [List.any_eq_true]
 constructor
 ·rintro ⟨x,hx,h⟩;rw [decide_eq_true_eq] at h;rw [←h];exact hx
 ·intro h;exact ⟨s,h,by simp⟩
theorem hasB_congr {a b:List ByteArray} {s:ByteArray} (h:s∈a↔s∈b):hasB a s=hasB b s:=by
 rw [Bool.eq_iff_iff,hasB_mem,hasB_mem];exact h
end Go.Br
end
section
namespace Go.Br
open Go Go.Eng Go.L41
theorem compact_mem {α:Type} [DecidableEq α] [Inhabited α] (d:Array α) (m:Nat):∀i,i<m->d[i]! ∈Lib.compactUpTo d m:=by
 intro i
 induction i with
 |zero=>
  intro h
  unfold Lib.compactUpTo
  exact List.mem_map.2 ⟨0,List.mem_filter.2 ⟨List.mem_range.2 h,Lib.keeps_lt_one d 0 (by omega)⟩,rfl⟩
 |succ i ih=>
  intro h
  by_cases hk:d[i+1]! =d[i+1-1]!
  ·rw [hk];exact ih (by omega)
  ·unfold Lib.compactUpTo
   exact List.mem_map.2 ⟨i+1,List.mem_filter.2 ⟨List.mem_range.2 h,Lib.keeps_pos hk⟩,rfl⟩
theorem thin_mem {s:ByteArray} {l:List ByteArray} (h:s∈l):s∈thinB l:=by
 unfold thinB
 rw [mem_toB]
 rw [←mem_ofB] at h
 obtain ⟨i,hi,e⟩:=List.mem_iff_getElem.1 h
 have:=compact_mem (ofB l).toArray (ofB l).length i hi
 rw [getElem!_pos _ i (by simpa using hi)] at this
 unfold Lib.compact
 rw [←e];simpa using this
end Go.Br
end
section
namespace Go.L41
open Go Go.Eng
structure Lifetime where
 Name:ByteArray
 From:Int
 To:Int
 Size:Int
def Lifetime.cells (x:Lifetime):List C:=[cS x.Name,cI x.From,cI x.To,cI x.Size]
abbrev vL (x:Lifetime):V:=.agg x.cells
abbrev vLs (l:List Lifetime):V:=.c (.sl 4 (l.map Lifetime.cells))
def Overlap (a b:Lifetime):Bool:=decide (a.From<=b.To)&&decide (b.From<=a.To)
def check1 (prev:List Lifetime) (x:Lifetime):Int:=
 if isNameB x.Name=false then 7
 else if (prev.any fun y=>decide (y.Name=x.Name))=true then 8
 else if x.From<0∨x.To<x.From∨x.Size<1∨4096<x.Size then 1 else 0
def validFrom (prev:List Lifetime):List Lifetime->Int
 |[]=>0
 |x::r=>if check1 prev x=0 then validFrom (prev++[x]) r else check1 prev x
def validateL (l:List Lifetime):Int:=validFrom [] l
theorem valid_step {l:List Lifetime} {k:Nat} {x:Lifetime} (h:l[k]? =some x):validFrom (l.take k) (l.drop k)=if check1 (l.take k) x=0 then validFrom (l.take (k+1)) (l.drop (k+1)) else check1 (l.take k) x:=by
 have hlt:=(List.getElem?_eq_some_iff.1 h).1
 rw [List.drop_eq_getElem_cons hlt,(List.getElem?_eq_some_iff.1 h).2,yG h]
 rfl
theorem zMv {l:List Lifetime} {k:Nat} {x:Lifetime} {e:Int} (hv:validateL l=validFrom (l.take k) (l.drop k)) (h:l[k]? =some x) (hc:check1 (l.take k) x=e) (he:e≠0):validateL l=e:=by
 rw [hv,valid_step h,hc,if_neg he]
theorem valid_ok {l:List Lifetime} {k:Nat} {x:Lifetime} (hv:validateL l=validFrom (l.take k) (l.drop k)) (h:l[k]? =some x) (hc:check1 (l.take k) x=0):validateL l=validFrom (l.take (k+1)) (l.drop (k+1)):=by
 rw [hv,valid_step h,hc,if_pos rfl]
theorem valid_end {l:List Lifetime} {k:Nat} (hv:validateL l=validFrom (l.take k) (l.drop k)) (h:¬k<l.length):validateL l=0:=by
 rw [hv,List.drop_of_length_le (by omega)]
 rfl
theorem check_name {prev:List Lifetime} {x:Lifetime} (h:isNameB x.Name=false):check1 prev x=7:=by unfold check1;rw [if_pos h]
theorem check_dup {prev:List Lifetime} {x:Lifetime} (h:isNameB x.Name=true) (h2:(prev.any fun y=>decide (y.Name=x.Name))=true):check1 prev x=8:=by
 unfold check1;rw [if_neg (by simp [h]),if_pos h2]
theorem check_arg {prev:List Lifetime} {x:Lifetime} (h:isNameB x.Name=true) (h2:(prev.any fun y=>decide (y.Name=x.Name))=false) (h3:x.From<0∨x.To<x.From∨x.Size<1∨4096<x.Size):check1 prev x=1:=by
 unfold check1;rw [if_neg (by simp [h]),if_neg (by simp [h2]),if_pos h3]
theorem check_ok {prev:List Lifetime} {x:Lifetime} (h:isNameB x.Name=true) (h2:(prev.any fun y=>decide (y.Name=x.Name))=false) (h3:¬(x.From<0∨x.To<x.From∨x.Size<1∨4096<x.Size)):check1 prev x=0:=by
 unfold check1;rw [if_neg (by simp [h]),if_neg (by simp [h2]),if_neg h3]
def seenM (l:List Lifetime):List (ByteArray×Bool):=l.foldl (fun m x=>mput m x.Name true) []
theorem mget_mput {α:Type} (m:List (ByteArray×α)) (k k':ByteArray) (a:α):mget (mput m k a) k'=if k=k' then some a else mget m k':=by
 induction m with
 |nil=>simp [mput,mget]
 |cons p m ih=>
  obtain ⟨q,b⟩:=p
  simp only [mput]
  by_cases h:q=k
  ·subst h
   rw [if_pos rfl]
   simp only [mget]
   by_cases h2:q=k'<;>simp [h2]
  ·rw [if_neg h]
   simp only [mget,ih]
   by_cases h2:q=k'
   ·subst h2
    rw [if_pos rfl,if_neg (fun e=>h e.symm)]
    simp
   ·rw [if_neg h2,if_neg h2]
theorem seen_get (l:List Lifetime) (k:ByteArray):(mget (seenM l) k).getD false=l.any fun y=>decide (y.Name=k):=by
 unfold seenM
 suffices ∀(m:List (ByteArray×Bool)) (b:Bool),(mget m k).getD false=b->(mget (l.foldl (fun m x=>mput m x.Name true) m) k).getD false=(b||l.any fun y=>decide (y.Name=k)) by
  simpa using this [] false rfl
 induction l with
 |nil=>intro m b h;simpa using h
 |cons x l ih=>
  intro m b h
  rw [List.foldl_cons,ih (mput m x.Name true) (b||decide (x.Name=k)) (by
   rw [mget_mput]
   by_cases hx:x.Name=k
   ·simp [hx]
   ·simpa [hx] using h)]
  simp [Bool.or_assoc]
theorem seen_next {l:List Lifetime} {k:Nat} {x:Lifetime} (h:l[k]? =some x):seenM (l.take (k+1))=mput (seenM (l.take k)) x.Name true:=by
 unfold seenM
 rw [yG h,List.foldl_append]
 rfl
end Go.L41
end
section
namespace Go.Br
open Go Go.Eng Go.L41
theorem readsT_has (e:Ex) (t:ByteArray):hasB (readsT e) t=hasB (readsA (nodes e)) t:=
 hasB_congr ⟨fun h=>mem_sortB.1 (mem_thinB h),fun h=>thin_mem (mem_sortB.2 h)⟩
def accHd (s:St) (t:ByteArray):Bool:=(isSto s&&decide (s.Name=t))||(hasB (readsI s.Idx) t||hasB (readsA (nodes s.E)) t)
mutual
def accS (t:ByteArray):St->Bool
 |.mk o nm mn mk fo i e b=>accHd (.mk o nm mn mk fo i e b) t||accL t b
def accL (t:ByteArray):List St->Bool
 |[]=>false
 |s::r=>accS t s||accL t r
end
def tchHd (s:St):List ByteArray:=(if isSto s=true then [s.Name] else [])++readsI s.Idx++readsT s.E
mutual
def tchS:St->List ByteArray
 |.mk o nm mn mk fo i e b=>tchHd (.mk o nm mn mk fo i e b)++tchL b
def tchL:List St->List ByteArray
 |[]=>[]
 |s::r=>tchS s++tchL r
end
theorem tchS_eq (s:St):tchS s=tchHd s++tchL s.Body:=by cases s;rw [tchS];rfl
theorem zIj:∀l:List St,tchL l=l.flatMap tchS
 |[]=>by rw [tchL];rfl
 |s::r=>by rw [tchL,zIj r];rfl
theorem tchL_one (s:St):tchL [s]=tchS s:=by rw [zIj];simp
theorem tchL_next {l:List St} {k:Nat} {s:St} (h:l[k]? =some s):tchL (l.take (k+1))=tchL (l.take k)++tchS s:=by
 rw [zIj,zIj,yG h,List.flatMap_append];simp
theorem zMj (a b:List ByteArray) (s:ByteArray):hasB (a++b) s=(hasB a s||hasB b s):=by simp [hasB,List.any_append]
theorem tch_sto {s:St} (h:(decide (s.Op=2)||decide (s.Op=3))=true):(if isSto s=true then [s.Name] else [])=[s.Name]:=if_pos h
theorem tch_no {s:St} (h:(decide (s.Op=2)||decide (s.Op=3))=false):(if isSto s=true then [s.Name] else [])=[]:=if_neg (by rw [show isSto s=false from h];simp)
def tchP (s:St):List ByteArray:=if isSto s=true then [s.Name] else []
theorem tch_end (a:List ByteArray) {s:St}:a++tchP s++readsI s.Idx++readsT s.E++tchL s.Body=a++tchS s:=by
 rw [tchS_eq];unfold tchHd tchP;simp [List.append_assoc]
theorem tchHd_has (s:St) (t:ByteArray):hasB (tchHd s) t=accHd s t:=by
 unfold tchHd accHd
 rw [zMj,zMj,readsT_has,Bool.or_assoc]
 congr 1
 cases isSto s<;>simp [hasB]
mutual
theorem tchS_has (t:ByteArray):∀s:St,hasB (tchS s) t=accS t s
 |.mk o nm mn mk fo i e b=>by rw [tchS,accS,zMj,tchHd_has,tchL_has t b]
theorem tchL_has (t:ByteArray):∀l:List St,hasB (tchL l) t=accL t l
 |[]=>by rw [tchL,accL];rfl
 |s::r=>by rw [tchL,accL,zMj,tchS_has t s,tchL_has t r]
end
/-! ## Spans -/
structure Sp where
 From:Int
 To:Int
def vSp (x:Sp):V:=.agg [cI x.From,cI x.To]
abbrev SpM:=List (ByteArray×Sp)
def putSp (k:Int) (m:SpM) (t:ByteArray):SpM:=mput m t ⟨match mget m t with|some x=>x.From|none=>k,k⟩
def spFrom (m:SpM) (i:Int):List St->SpM
 |[]=>m
 |s::r=>spFrom ((tchS s).foldl (putSp i) m) (i+1) r
theorem zIn:∀(a:List St) (m:SpM) (i:Int) (s:St),spFrom m i (a++[s])=(tchS s).foldl (putSp (i+a.length)) (spFrom m i a)
 |[],m,i,s=>by simp [spFrom]
 |x::r,m,i,s=>by
  rw [List.cons_append,spFrom,zIn r,spFrom,List.length_cons]
  rw [show i+1+(r.length:Int)=i+((r.length+1:Nat):Int) by omega]
theorem sp_next {l:List St} {k:Nat} {s:St} (h:l[k]? =some s):spFrom [] 0 (l.take (k+1))=(tchS s).foldl (putSp k) (spFrom [] 0 (l.take k)):=by
 have hk:=(List.getElem?_eq_some_iff.1 h).1
 rw [yG h,zIn,List.length_take,Nat.min_eq_left (by omega),Int.zero_add]
theorem putSp_new {m:SpM} {t:ByteArray} {i:Int} (h:(mget m t).isSome=false):mput m t (⟨i,i⟩:Sp)=putSp i m t:=by
 unfold putSp
 cases hx:mget m t with
 |none=>rfl
 |some x=>rw [hx] at h;cases h
theorem putSp_old {m:SpM} {t:ByteArray} {i:Int} (h:(mget m t).isSome=true):mput m t (⟨((mget m t).getD ⟨0,0⟩).From,i⟩:Sp)=putSp i m t:=by
 unfold putSp
 cases hx:mget m t with
 |none=>rw [hx] at h;cases h
 |some x=>rfl
theorem thin_len (l:List ByteArray):(thinB l).length<=l.length:=by
 unfold thinB toB
 rw [List.length_map]
 unfold Lib.compact Lib.compactUpTo
 rw [List.length_map]
 refine Nat.le_trans (List.length_filter_le _ _) ?_
 simp [ofB]
theorem putSp_get (k:Int) (m:SpM) (t u:ByteArray):mget (putSp k m t) u=if t=u then some ⟨match mget m u with|some x=>x.From|none=>k,k⟩ else mget m u:=by
 unfold putSp
 rw [mget_mput]
 by_cases h:t=u
 ·subst h;rfl
 ·rw [if_neg h,if_neg h]
theorem putSps_get (k:Int) (u:ByteArray):∀(l:List ByteArray) (m:SpM),mget (l.foldl (putSp k) m) u=if hasB l u=true then some ⟨match mget m u with|some x=>x.From|none=>k,k⟩ else mget m u
 |[],m=>by simp [hasB]
 |x::r,m=>by
  rw [List.foldl_cons,putSps_get k u r,putSp_get,hasB_cons]
  by_cases h:x=u
  ·subst h
   simp only [decide_true,Bool.true_or,if_true]
   cases hasB r x<;>simp
  ·simp only [h,decide_false,Bool.false_or,if_false]
def stepA (t:ByteArray) (x:Bool×Sp×Int) (s:St):Bool×Sp×Int:=if accS t s=true then (true,⟨if x.1=true then x.2.1.From else x.2.2,x.2.2⟩,x.2.2+1) else (x.1,x.2.1,x.2.2+1)
def foldA (t:ByteArray) (l:List St):Bool×Sp×Int:=l.foldl (stepA t) (false,⟨0,0⟩,0)
theorem zGu {t:ByteArray} {l:List St} {k:Nat} {s:St} (h:l[k]? =some s):foldA t (l.take (k+1))=stepA t (foldA t (l.take k)) s:=by
 unfold foldA;rw [yG h,List.foldl_append];rfl
theorem foldA_k (t:ByteArray):∀{l:List St} {k:Nat},k<=l.length->(foldA t (l.take k)).2.2=k
 |l,0,_=>by simp [foldA]
 |l,k+1,h=>by
  obtain ⟨s,hs⟩:=qX l k (by omega)
  rw [zGu hs]
  have:=foldA_k t (l:=l) (k:=k) (by omega)
  unfold stepA
  split<;>simp [this]
theorem spans_fold (t:ByteArray):∀{l:List St} {k:Nat},k<=l.length->mget (spFrom [] 0 (l.take k)) t=if (foldA t (l.take k)).1=true then some (foldA t (l.take k)).2.1 else none
 |l,0,_=>by simp [foldA,spFrom,mget]
 |l,k+1,h=>by
  obtain ⟨s,hs⟩:=qX l k (by omega)
  have ih:=spans_fold t (l:=l) (k:=k) (by omega)
  have hk:=foldA_k t (l:=l) (k:=k) (by omega)
  rw [sp_next hs,putSps_get,tchS_has,zGu hs,ih]
  unfold stepA
  rw [hk]
  by_cases h1:accS t s=true
  ·rw [if_pos h1,if_pos h1]
   by_cases h2:(foldA t (l.take k)).1=true
   ·simp [h2]
   ·simp [h2]
  ·rw [if_neg h1,if_neg h1]
theorem foldA_zero (t:ByteArray):∀{l:List St} {k:Nat},k<=l.length->(foldA t (l.take k)).1=false->(foldA t (l.take k)).2.1=⟨0,0⟩
 |l,0,_,_=>by simp [foldA]
 |l,k+1,h,h1=>by
  obtain ⟨s,hs⟩:=qX l k (by omega)
  rw [zGu hs] at h1⊢
  unfold stepA at h1⊢
  split at h1
  ·cases h1
  ·rename_i hc
   rw [if_neg hc]
   exact foldA_zero t (by omega) h1
def spanOf (t:ByteArray) (l:List St):Sp:=(foldA t l).2.1
theorem span_get (t:ByteArray) (l:List St):(mget (spFrom [] 0 l) t).getD ⟨0,0⟩=spanOf t l:=by
 have h:=spans_fold t (l:=l) (k:=l.length) (Nat.le_refl _)
 rw [List.take_length] at h
 rw [h,spanOf]
 by_cases c:(foldA t l).1=true
 ·rw [if_pos c];rfl
 ·rw [if_neg c]
  have:=foldA_zero t (l:=l) (k:=l.length) (Nat.le_refl _) (by rw [List.take_length];simpa using c)
  rw [List.take_length] at this
  rw [this];rfl
def lifeOf (l:List St) (b:Bf):Lifetime:=
 ⟨b.Name,if b.Use=1 then 0 else (spanOf b.Name l).From,if b.Use=2 then max ((l.length:Int)-1) 0 else (spanOf b.Name l).To,dimsSize b.Dims⟩
def lives (n:Ns):List Lifetime:=n.Bufs.map (lifeOf n.Body)
def analyzeT (n:Ns):List Lifetime×Int:=if (validN n).2=0 then (lives n,0) else ([],(validN n).2)
theorem zLc {n:Ns} (h:¬(validN n).2=0):analyzeT n=([],(validN n).2):=by unfold analyzeT;rw [if_neg h]
theorem zLb {n:Ns} (h:(validN n).2=0):analyzeT n=(lives n,0):=by unfold analyzeT;rw [if_pos h]
theorem zKh {n:Ns} {k:Nat} {b:Bf} (h:n.Bufs[k]? =some b):((n.Bufs.take (k+1)).map fun b=>(lifeOf n.Body b).cells)=((n.Bufs.take k).map fun b=>(lifeOf n.Body b).cells)++[(lifeOf n.Body b).cells]:=by
 rw [yG h,List.map_append];rfl
theorem span_cover (t:ByteArray):∀{l:List St} {k:Nat},k<=l.length->(∀(j:Nat) s,l[j]? =some s->j<k->accS t s=true->(foldA t (l.take k)).1=true/\(foldA t (l.take k)).2.1.From<=j/\(j:Int)<=(foldA t (l.take k)).2.1.To)/\
  0<=(foldA t (l.take k)).2.1.From/\(foldA t (l.take k)).2.1.From<=(foldA t (l.take k)).2.1.To/\((foldA t (l.take k)).2.1.To=0∨(foldA t (l.take k)).2.1.To<k)
 |l,0,_=>⟨fun j s _ h=>by omega,by simp [foldA],by simp [foldA],by simp [foldA]⟩
 |l,k+1,h=>by
  obtain ⟨s,hs⟩:=qX l k (by omega)
  obtain ⟨ih,i1,i2,i3⟩:=span_cover t (l:=l) (k:=k) (by omega)
  have hk:=foldA_k t (l:=l) (k:=k) (by omega)
  rw [zGu hs]
  unfold stepA
  rw [hk]
  by_cases c:accS t s=true
  ·simp only [c,if_true]
   refine ⟨fun j s' hj hlt _=>⟨trivial,?_,by omega⟩,?_,?_,.inr (by omega)⟩
   ·by_cases hjk:j=k
    ·split
     ·subst hjk
      rcases i3 with i3|i3<;>omega
     ·omega
    ·rename_i ha
     obtain ⟨q1,q2,q3⟩:=ih j s' hj (by omega) ha
     rw [if_pos q1];exact q2
   ·split<;>omega
   ·split
    ·rcases i3 with i3|i3<;>omega
    ·omega
  ·rw [if_neg c]
   refine ⟨fun j s' hj hlt ha=>?_,i1,i2,?_⟩
   ·have hjk:j≠k:=by
     rintro rfl
     rw [hs] at hj
     cases hj
     exact c ha
    exact ih j s' hj (by omega) ha
   ·rcases i3 with i3|i3
    ·exact .inl i3
    ·refine .inr ?_
     dsimp only
     omega
theorem lifeOf_ok (l:List St) (b:Bf):0<=(lifeOf l b).From/\(lifeOf l b).From<=(lifeOf l b).To/\∀(j:Nat) s,l[j]? =some s->accS b.Name s=true->(lifeOf l b).From<=j/\(j:Int)<=(lifeOf l b).To:=by
 obtain ⟨h,h1,h2,h3⟩:=span_cover b.Name (l:=l) (k:=l.length) (Nat.le_refl _)
 rw [List.take_length] at h h1 h2 h3
 have hF:(lifeOf l b).From=if b.Use=1 then 0 else (foldA b.Name l).2.1.From:=rfl
 have hT:(lifeOf l b).To=if b.Use=2 then max ((l.length:Int)-1) 0 else (foldA b.Name l).2.1.To:=rfl
 rw [hF,hT]
 refine ⟨by split<;>omega,?_,fun j s hj ha=>?_⟩
 ·split<;>split<;>omega
 ·have hj':=(List.getElem?_eq_some_iff.1 hj).1
  obtain ⟨q1,q2,q3⟩:=h j s hj hj' ha
  refine ⟨by split<;>omega,?_⟩
  split<;>omega
theorem bufs_in:∀{l seen:List Bf},bufsErr seen l=0->∀(k:Nat) b,l[k]? =some b->bfErr (seen++l.take k) b=0
 |[],_,_,k,b,h=>by simp at h
 |x::r,seen,h,k,b,hb=>by
  rw [bufsErr] at h
  by_cases c:bfErr seen x=0
  ·rw [if_pos c] at h
   cases k with
   |zero=>simp at hb;subst hb;simpa using c
   |succ k=>
    have:=bufs_in h k b (by simpa using hb)
    simpa using this
  ·rw [if_neg c] at h;exact absurd h c
theorem bfErr_inv {seen:List Bf} {b:Bf} (h:bfErr seen b=0):isNameB b.Name=true/\hasBf seen b.Name=false/\dimsErr b.Dims=0:=by
 unfold bfErr at h
 by_cases h1:isNameB b.Name=true
 ·rw [if_pos h1] at h
  by_cases h2:hasBf seen b.Name=true
  ·rw [if_pos h2] at h;cases h
  ·rw [if_neg h2] at h
   by_cases h3:tyOk b.T=true
   ·rw [if_pos h3] at h
    by_cases h4:dimsErr b.Dims=0
    ·exact ⟨h1,by simpa using h2,h4⟩
    ·rw [if_neg h4] at h;exact absurd h h4
   ·rw [if_neg h3] at h;cases h
 ·rw [if_neg h1] at h;cases h
theorem valid_bufs {n:Ns} (h:(validN n).2=0):bufsErr [] n.Bufs=0/\n.Bufs.length<=128/\withinT 40 n.Body=true/\numB n.Body 2000<=2000/\(chkL n.Bufs [] [] [] 0 n.Body).E=0:=by
 unfold validN at h
 by_cases h1:withinT 40 n.Body=true
 ·rw [if_pos h1] at h
  by_cases h2:2000<numB n.Body 2000∨128<n.Bufs.length
  ·rw [if_pos h2] at h;cases h
  ·rw [if_neg h2] at h
   by_cases h3:bufsErr [] n.Bufs=0
   ·rw [if_pos h3] at h;exact ⟨h3,by omega,h1,by omega,h⟩
   ·rw [if_neg h3] at h;exact absurd h h3
 ·rw [if_neg h1] at h;cases h
theorem zIc {n:Ns} (h:(validN n).2=0):validateL (lives n)=0:=by
 have hb:=(valid_bufs h).1
 have key:∀k,k<=n.Bufs.length->validateL (lives n)=validFrom ((lives n).take k) ((lives n).drop k):=by
  intro k
  induction k with
  |zero=>intro _;rfl
  |succ k ih=>
   intro hk
   obtain ⟨b,hbk⟩:=qX n.Bufs k (by omega)
   have hl:(lives n)[k]? =some (lifeOf n.Body b):=by unfold lives;rw [List.getElem?_map,hbk];rfl
   obtain ⟨q1,q2,q3⟩:=bfErr_inv (bufs_in hb k b hbk)
   obtain ⟨p1,p2,_⟩:=lifeOf_ok n.Body b
   refine valid_ok (ih (by omega)) hl (check_ok q1 ?_ ?_)
   ·have e:((lives n).take k)=(n.Bufs.take k).map (lifeOf n.Body):=by unfold lives;rw [List.map_take]
    rw [e,List.any_map]
    rw [List.nil_append] at q2
    exact q2
   ·obtain ⟨_,_,s,hs,s1,s2⟩:=zGi q3
    have hsz:(lifeOf n.Body b).Size=s:=by show dimsSize b.Dims=s;exact zEp q3 hs
    rw [hsz];omega
 have:=key n.Bufs.length (Nat.le_refl _)
 exact valid_end this (by unfold lives;simp)
end Go.Br
end
section
namespace Go.Br
open Go Go.Eng Go.L41
/-! ## Statements in preorder,with their paths -/
end Go.Br
end
section
namespace Go.Br
open Go Go.Eng Go.L41
/-! ## Numerals -/
end Go.Br
end
section
namespace Go.Br
open Go Go.Eng Go.L41
/-! ## Sets of names -/
end Go.Br
end
section
namespace Go.Br
open Go Go.Eng Go.L41
/-! ## One form: a name for a name -/
theorem zGs {B:List Bf} {sc:List ByteArray}:∀{l:List Ex},nodesN B sc l=0↔∀x,x∈l->nodeN B sc x=0
 |[]=>by simp [nodesN]
 |x::r=>by
  rw [nodesN]
  by_cases h:nodeN B sc x=0
  ·rw [if_pos h,zGs (l:=r)];simp [h]
  ·rw [if_neg h];simp [h]
theorem zOn {B:List Bf} {sc:List ByteArray} {e:Ex} (h:(exprT B sc e).2=0):validE e=0/\nodesN B sc (nodes e)=0:=by
 by_cases h1:validE e=0
 ·by_cases h2:nodesN B sc (nodes e)=0
  ·exact ⟨h1,h2⟩
  ·rw [exprT_2 h1 h2] at h;exact absurd h h2
 ·rw [exprT_1 h1] at h;exact absurd h h1
theorem valid_parts {n:Ns} (h:(validN n).2=0):withinT 40 n.Body=true/\¬(2000<numB n.Body 2000∨128<n.Bufs.length)/\bufsErr [] n.Bufs=0/\(chkL n.Bufs [] [] [] 0 n.Body).E=0:=by
 have h1:withinT 40 n.Body=true:=by
  cases c:withinT 40 n.Body with
  |true=>rfl
  |false=>rw [validN_13 c] at h;cases h
 have h2:¬(2000<numB n.Body 2000∨128<n.Bufs.length):=fun c=>by rw [validN_2 h1 c] at h;cases h
 have h3:bufsErr [] n.Bufs=0:=by
  by_cases c:bufsErr [] n.Bufs=0
  ·exact c
  ·rw [validN_b h1 h2 c] at h;exact absurd h c
 rw [validN_c h1 h2 h3] at h
 exact ⟨h1,h2,h3,h⟩
end Go.Br
end
