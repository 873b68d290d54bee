/-
  Sorting and thinning of lists of strings that are the call's own: slices.Sort and slices.Compact,by the shelf's contracts.
  The names that an expression reads,in plain Lean.
  Sums of linear forms,exactly,in plain Lean: numbers of 64 and of 128 bits,merges of ascending lists,substitution.
  The reference's substitution of forms,in plain Lean: the sum,and the mapping of all forms of an expression.
  What the substitution of a form keeps,in plain Lean: valid forms stay valid,the name is gone,the shape of an expression stays.
  The comparison of expressions is a total order,in plain Lean.
  Layer 14 in plain Lean: short names,replacing,the names in forms,the example that every statement checks.
  Loop nests,in plain Lean: buffers,statements,and the cells that hold them.
  What the check of a nest says (30.1),in plain Lean.
  Weights of nests,in plain Lean.
  For the reference's check of nests,in plain Lean.
  Ascending lists of names,one name added at a time,in plain Lean.
  Names of index variables: both ways to list them give the same names.
  Lifetimes as plain data,and what the functions of the layer compute.
  Layer 41 in plain Lean: what statements touch; the spans of buffers.
  Nests walked and mapped,in plain Lean (30.2,30.3).
  Paths in nests,in plain Lean (30.2).
  Numerals,and the first number that is free.
  Names that are not in use,in plain Lean (30.2): numerals,and the first number that is free.
  A loop renamed to a name that is not in use,in plain Lean (30.3,30.5).
  The example of the laws of layer 30; lengths of paths. In plain Lean.
  Conditions: none.
-/
import Derived.Test.YtmmiedgoamlhpaaGreatDoorCfg
import Derived.Test.YtmmiedgoamlhpaaGreatDoorEngZ
import Derived.Test.YtmmiedgoamlhpaaGreatDoorShelfX
import Derived.Sort.OwnSorted
import Derived.Lib.OwnBridge
import Derived.Test.YtmmiedgoamlhpaaGreatDoorPlain
import Derived.Test.YtmmiedgoamlhpaaGreatDoorNames
import Derived.Lib.ItoaNum
set_option linter.unusedSimpArgs false
set_option linter.unusedVariables false
section
namespace Go.Br
open Go Go.Eng Go.RowKit Go.Proofs Go.L41
abbrev strRows (l:List ByteArray):List (List C):=l.map fun s=>[cS s]
def toB (l:List (List UInt8)):List ByteArray:=l.map fun x=>⟨x.toArray⟩
def ofB (l:List ByteArray):List (List UInt8):=l.map (·.data.toList)
def sortB (l:List ByteArray):List ByteArray:=toB ((ofB l).mergeSort fun x y=>decide (x<=y))
def thinB (l:List ByteArray):List ByteArray:=toB (Lib.compact (ofB l))
theorem ofB_enc (l:List ByteArray):(ofB l).map encStr=l.map Value.string:=Lib.map_encStr l
theorem toB_enc (l:List (List UInt8)):l.map encStr=(toB l).map Value.string:=by
 unfold toB;rw [List.map_map];rfl
theorem zQv (l:List ByteArray):(sortB l).length=l.length:=by simp [sortB,toB,ofB,List.length_mergeSort]
theorem flat_str (l:List ByteArray):(strRows l).flatten=l.map fun s=>cS s:=by
 induction l with
 |nil=>rfl
 |cons x r ih=>show cS x::(strRows r).flatten=_;rw [ih];rfl
theorem reps_str {w:World} {I:Nat->Prop}:∀{l:List ByteArray} {xs:List Value},CReps w I (l.map fun s=>cS s) xs->xs=l.map Value.string
 |[],_,.nil=>rfl
 |x::l,_,.cons h t=>by
  have e:=reps_str t
  cases h with
  |lit _ _=>rw [e];rfl
theorem str_reps {w:World} {I:Nat->Prop}:∀l:List ByteArray,CReps w I (l.map fun s=>cS s) (l.map Value.string)
 |[]=>.nil
 |x::l=>.cons (.lit _ rfl) (str_reps l)
theorem rep_str {w:World} {I:Nat->Prop} {sv:Value} {t:TypeId} {l:List ByteArray} (h:w.ownsRow 0 t 1 sv l.length (l.map Value.string)) (hb:svB sv≠[]):ERep w I (.vec sv t 1 (strRows l)):=by
 refine .inr ⟨hb,l.map Value.string,?_,?_,fun r hr=>?_⟩
 ·rw [show (strRows l).length=l.length by simp];exact h
 ·rw [flat_str];exact str_reps l
 ·obtain ⟨x,_,rfl⟩:=List.mem_map.1 hr;rfl
theorem zRd {w:World} {I:Nat->Prop} {sv:Value} {t:TypeId} {l:List ByteArray} (h:ERep w I (.vec sv t 1 (strRows l))):(∃a,sv=.slice a 0 0/\l=[])∨(svB sv≠[]/\w.ownsRow 0 t 1 sv l.length (l.map Value.string)):=by
 rcases h with ⟨a,h1,h2⟩|⟨h1,xs,h2,h3,h4⟩
 ·exact .inl ⟨a,h1,by simpa using h2⟩
 ·rw [flat_str] at h3
  rw [reps_str h3,show (strRows l).length=l.length by simp] at h2
  exact .inr ⟨h1,h2⟩
theorem sort_con (sv:Value) (l:List ByteArray) (hl:l.length<=4294967296):Con cfg 199 [.c (.lit sv)] [.vec sv 9 1 (strRows l)] fun r μ'=>r=.tup []/\μ'=[.vec sv 9 1 (strRows (sortB l))]:=by
 intro w I vs hH ha
 match vs,ha with
 |[v],ha=>
  have e:v=sv:=by cases (ha.1:CRep w I (.lit sv) v) with|lit _ _=>rfl
  subst e
  have hrep:=hH.rep _ (List.mem_singleton.2 rfl)
  rcases zRd hrep with ⟨a,rfl,rfl⟩|⟨hb,hown⟩
  ·refine (Tryz.slices_Sort_string_none a 0 w).mono ?_
   rintro en w' ⟨rfl,rfl⟩
   have e2:sortB []=[]:=by simp [sortB,ofB,toB]
   refine ⟨_,_,_,I,rfl,⟨rfl,by rw [e2]⟩,⟨[],rfl,trivial⟩,hH,Ext.refl _ _ _⟩
  ·have hne:v≠ .slice none 0 0:=by rintro rfl;exact hb rfl
   have hown':=hown
   rw [←ofB_enc] at hown'
   obtain ⟨g,cap,rfl,hbg,hgl,hncap,hcm,hlen,hHo⟩:=Lib.holds_of_ownsRow hown' hne
   obtain ⟨_,hcase⟩:=hown
   rcases hcase with ⟨h0,_⟩|⟨g',cap',cur,hv,_,hcur,hn2,hm2,hcs,htk⟩
   ·exact absurd h0 hne
   ·injection hv with e1 e2 e3
    injection e1 with e1
    injection e1 with e1 _ _
    subst e1 e3
    have hss:(ofB l).length=l.length:=by simp [ofB]
    have hcall:=Tryz.slices_Sort_string g 0 cap (ofB l) w hHo hgl (by omega)
    rw [hss] at hcall
    refine hcall.mono ?_
    rintro en w' ⟨rfl,n,os,rfl⟩
    have hts:((ofB l).mergeSort fun x y=>decide (x<=y)).length=(ofB l).length:=List.length_mergeSort _
    have hs:=ownsRow_sorted (n:=n) (os:=os) (ts:=(ofB l).mergeSort fun x y=>decide (x<=y)) hts (Nat.zero_le g) hcur (by omega) hm2 hcs
    rw [toB_enc,hss] at hs
    have hlen2:(sortB l).length=l.length:=by simp [sortB,toB,hts,hss]
    have hgr:=grownBy_sorted (w:=w) (g:=g) (n:=n) (os:=os) ((ofB l).mergeSort fun x y=>decide (x<=y)).toArray
    have hrep2:ERep (Sort.grow (Sort.putRow encStr (Sort.ahead w n) g 0 ((ofB l).mergeSort fun x y=>decide (x<=y)).toArray) os) I (.vec (.slice (some ⟨g,0,none⟩) l.length cap) 9 1 (strRows (sortB l))):=by
     refine rep_str ?_ hb
     rw [hlen2];exact hs
    obtain ⟨hH',hx'⟩:=Heap.write (w':=Sort.grow (Sort.putRow encStr (Sort.ahead w n) g 0 ((ofB l).mergeSort fun x y=>decide (x<=y)).toArray) os) hH (p:=0) (en:=.vec (.slice (some ⟨g,0,none⟩) l.length cap) 9 1 (strRows l)) (en':=.vec (.slice (some ⟨g,0,none⟩) l.length cap) 9 1 (strRows (sortB l))) rfl hgr.os hgr.tape hgr.output hgr.size
     (fun b hb1 hb2=>hgr.block b hb1 (fun e=>by
      injection e with e
      apply hb2
      have hin:svB (.slice (some ⟨g,0,none⟩) l.length cap)≠[]:=hb
      subst e
      exact zHq hin rfl)) (by have h:=hH.nodup;simp only [blocksOf,List.flatMap_cons,List.flatMap_nil,List.append_nil] at h;exact h) (fun b h=>.inl h) trivial hrep2
    exact ⟨_,_,_,I,rfl,⟨rfl,rfl⟩,⟨[],rfl,trivial⟩,hH',hx'⟩
theorem thin_con (sv:Value) (l:List ByteArray) (hl:l.length<=4294967296):Con cfg 200 [.c (.lit sv)] [.vec sv 9 1 (strRows l)] fun r μ'=>∃sv',r=.c (.lit sv')/\μ'=[.vec sv' 9 1 (strRows (thinB l))]:=by
 intro w I vs hH ha
 match vs,ha with
 |[v],ha=>
  have e:v=sv:=by cases (ha.1:CRep w I (.lit sv) v) with|lit _ _=>rfl
  subst e
  have hrep:=hH.rep _ (List.mem_singleton.2 rfl)
  rcases zRd hrep with ⟨a,rfl,rfl⟩|⟨hb,hown⟩
  ·refine (Tryz.slices_Compact_string_empty a 0 w).mono ?_
   rintro en w' ⟨rfl,rfl⟩
   have e2:thinB []=[]:=by simp [thinB,ofB,toB,Lib.compact,Lib.compactUpTo]
   exact ⟨_,_,_,I,rfl,⟨_,rfl,by rw [e2]⟩,CRep.lit _ rfl,hH,Ext.refl _ _ _⟩
  ·have hne:v≠ .slice none 0 0:=by rintro rfl;exact hb rfl
   have hown':=hown
   rw [←ofB_enc] at hown'
   obtain ⟨g,cap,rfl,hbg,hgl,hncap,hcm,hlen,hHo⟩:=Lib.holds_of_ownsRow hown' hne
   have hss:(ofB l).length=l.length:=by simp [ofB]
   have hcall:=Tryz.slices_Compact_string g 0 cap (ofB l) w hHo (by omega) (by omega)
   rw [hss] at hcall
   refine hcall.mono ?_
   rintro en w' ⟨rfl,q,hw'⟩
   have hcl:=Lib.compact_length_le (ofB l)
   have hs:=Lib.ownsRow_putRow (q:=q) (k:=(Lib.compact (ofB l)).length) (ys:=Lib.compact (ofB l)++List.replicate (l.length-(Lib.compact (ofB l)).length) []) hown' (by simp;omega) (by omega)
   rw [List.take_left' rfl,toB_enc,←hw'] at hs
   have hlen2:(thinB l).length=(Lib.compact (ofB l)).length:=by simp [thinB,toB]
   have hgr:=grownBy_sorted (w:=w) (g:=g) (n:=q) (os:= #[]) (Lib.compact (ofB l)++List.replicate (l.length-(Lib.compact (ofB l)).length) []).toArray
   rw [Sort.grow_empty,←hw'] at hgr
   clear hw' hown' hHo hcall
   obtain ⟨c,hc⟩:∃c,cap=c+1:=by
    cases cap with
    |zero=>exact absurd rfl hb
    |succ c=>exact ⟨c,rfl⟩
   subst hc
   have hrep2:ERep w' I (.vec (.slice (some ⟨g,0,none⟩) (Lib.compact (ofB l)).length (c+1)) 9 1 (strRows (thinB l))):=by
    refine rep_str ?_ (by simp [svB])
    rw [hlen2];exact hs
   obtain ⟨hH',hx'⟩:=Heap.write (w':=w') hH (p:=0) (en:=.vec (.slice (some ⟨g,0,none⟩) l.length (c+1)) 9 1 (strRows l)) (en':=.vec (.slice (some ⟨g,0,none⟩) (Lib.compact (ofB l)).length (c+1)) 9 1 (strRows (thinB l))) rfl hgr.os hgr.tape hgr.output hgr.size
    (fun b hb1 hb2=>hgr.block b hb1 (fun e=>by
     injection e with e
     apply hb2
     have hin:svB (.slice (some ⟨g,0,none⟩) l.length (c+1))≠[]:=hb
     subst e
     exact zHq hin rfl)) (by simp [E.blocks,svB]) (fun b h=>.inl h) trivial hrep2
   exact ⟨_,_,_,I,rfl,⟨_,rfl,rfl⟩,CRep.lit _ rfl,hH',hx'⟩
end Go.Br
end
section
namespace Go.Br
open Go Go.Eng Go.L41
theorem mem_toB {s:ByteArray} {l:List (List UInt8)}:s∈toB l↔s.data.toList∈l:=by
 unfold toB
 rw [List.mem_map]
 constructor
 ·rintro ⟨x,hx,rfl⟩;simpa using hx
 ·intro h;exact ⟨_,h,by cases s;simp⟩
theorem mem_ofB {s:ByteArray} {l:List ByteArray}:s.data.toList∈ofB l↔s∈l:=by
 unfold ofB
 rw [List.mem_map]
 constructor
 ·rintro ⟨x,hx,e⟩
  have:x=s:=by cases x;cases s;congr 1;exact Array.toList_inj.1 e
  rw [←this];exact hx
 ·intro h;exact ⟨s,h,rfl⟩
theorem mem_sortB {s:ByteArray} {l:List ByteArray}:s∈sortB l↔s∈l:=by
 unfold sortB;rw [mem_toB,List.mem_mergeSort,mem_ofB]
theorem mem_thinB {s:ByteArray} {l:List ByteArray} (h:s∈thinB l):s∈l:=by
 unfold thinB at h
 rw [mem_toB] at h
 rw [←mem_ofB]
 unfold Lib.compact Lib.compactUpTo at h
 obtain ⟨i,hi,e⟩:=List.mem_map.1 h
 have hi2:=(List.mem_filter.1 hi).1
 have hlt:=List.mem_range.1 hi2
 rw [←e,getElem!_pos _ i (by simpa using hlt)]
 simp
end Go.Br
end
section
namespace Go.Br
open Go Go.Eng Go.L41
/-! ## The order of names -/
def r64 (n:Int):Prop:= -9223372036854775808<=n/\n<=9223372036854775807
instance (n:Int):Decidable (r64 n):=by unfold r64;infer_instance
theorem u64_eq (n:Int):IntKind.u64.wrap n=n%18446744073709551616:=by rw [IntKind.wrap_u64]
def hiN (a b:Nat):Nat:=
 (a/4294967296)*(b/4294967296)+((a/4294967296)*(b%4294967296)+((a%4294967296)*(b%4294967296))/4294967296)/4294967296+
  ((a%4294967296)*(b/4294967296)+((a/4294967296)*(b%4294967296)+((a%4294967296)*(b%4294967296))/4294967296)%4294967296)/4294967296
theorem magn_neg {x:Int} (h:r64 x) (hn:x<0):IntKind.u64.wrap (-(IntKind.u64.wrap x))=(x.natAbs:Int):=by
 unfold r64 at h;rw [u64_eq,u64_eq];omega
theorem magn_pos {x:Int} (h:r64 x) (hn:¬x<0):IntKind.u64.wrap x=(x.natAbs:Int):=by
 unfold r64 at h;rw [u64_eq];omega
def Lf.rng (l:Lf):Prop:=r64 l.K/\∀m,m∈l.L->r64 m.By
theorem zL_rng:zL.rng:=⟨by show r64 0;unfold r64;omega,fun m hm=>by cases hm⟩
end Go.Br
end
section
namespace Go.Br
open Go Go.Eng Go.L41
end Go.Br
end
section
namespace Go.Br
open Go Go.Eng Go.L41
/-! ## Ascending triples -/
end Go.Br
end
section
namespace Go.Br
open Go Go.Eng Go.Proofs Go.L41
structure PO {α:Type} (f:α->α->Int) (a:α):Prop where
 anti:∀b,f b a= -f a b
 rng:∀b,-1<=f a b/\f a b<=1
 cong:∀b,f a b=0->∀c,f a c=f b c
 cong':∀b c,f b c=0->f a b=f a c
 trans:∀b c,f a b<0->f b c<0->f a c<0
theorem PO.zero {α:Type} (a:α):PO (fun _ _=>0) a:=
 ⟨fun _=>rfl,fun _=>⟨by show (-1:Int)<=0;omega,by show (0:Int)<=1;omega⟩,fun _ _ _=>rfl,fun _ _ _=>rfl,fun _ _ h _=>h⟩
end Go.Br
end
section
namespace Go.Br
open Go Go.Eng Go.L41
/-! ## Short names -/
theorem nodes_take {e x:Ex} {k:Nat} (h:e.Args[k]? =some x):(nodesL (e.Args.take k)).length+(nodes x).length+1<=(nodes e).length:=by
 have:=congrArg List.length (nodes_at h (x:=x) (pre:=[]) (suf:=nodesL x.Args) (by rw [wJ];rfl))
 rw [wJ x]
 simp only [List.length_append,List.length_cons,List.length_nil] at this⊢
 omega
/-! ## Replacing -/
def namesF (l:Lf):List ByteArray:=l.L.map Mono.Name
def namesN (x:Ex):List ByteArray:=(formsL x).flatMap namesF
def namesA (l:List Ex):List ByteArray:=l.flatMap namesN
def indexT (e:Ex):List ByteArray:=thinB (sortB (namesA (nodes e)))
theorem namesF_one (pre:List Lf) (x:Lf):(pre++[x]).flatMap namesF=pre.flatMap namesF++namesF x:=by rw [List.flatMap_append];simp
theorem namesA_one (pre:List Ex) (x:Ex):namesA (pre++[x])=namesA pre++namesN x:=by unfold namesA;rw [List.flatMap_append];simp
theorem zSb {l:List Mono} {k:Nat} {x:Mono} (h:l[k]? =some x):(l.take (k+1)).map Mono.Name=(l.take k).map Mono.Name++[x.Name]:=by rw [yN h,List.map_append];rfl
theorem namesN_len (x:Ex):(namesN x).length<=x.Lin.L.length+idxWt x.Idx:=by
 unfold namesN formsL
 rw [List.flatMap_cons,List.length_append]
 have h1:∀l:List Lf,(l.flatMap namesF).length=linsWt l:=by
  intro l
  induction l with
  |nil=>rfl
  |cons a r ih=>rw [List.flatMap_cons,List.length_append,ih,linsWt];unfold namesF;rw [List.length_map]
 have h2:∀l:List Ix,((l.flatMap fun x=>x.Lin::x.At).flatMap namesF).length<=idxWt l:=by
  intro l
  induction l with
  |nil=>simp [idxWt]
  |cons a r ih=>
   rw [List.flatMap_cons,List.flatMap_append,List.length_append,idxWt,h1,linsWt,Ix.wt]
   omega
 have:=h2 x.Idx
 have e:(namesF x.Lin).length=x.Lin.L.length:=by unfold namesF;rw [List.length_map]
 omega
theorem zJj (e:Ex):(namesA (nodes e)).length<=e.wt:=by
 induction e using Ex.ind with
 |_ e ih=>
  rw [wJ,Ex.wt_eq]
  have e1:namesA (e::nodesL e.Args)=namesN e++namesA (nodesL e.Args):=rfl
  rw [e1,List.length_append]
  have h2:∀l:List Ex,(∀a,a∈l->(namesA (nodes a)).length<=a.wt)->(namesA (nodesL l)).length<=argsWt l:=by
   intro l
   induction l with
   |nil=>intro _;simp [namesA,nodesL,argsWt]
   |cons a r ih2=>
    intro h
    have h3:=h a (by simp)
    have h4:=ih2 fun b hb=>h b (by simp [hb])
    have e2:namesA (nodesL (a::r))=namesA (nodes a)++namesA (nodesL r):=by rw [nodesL];unfold namesA;rw [List.flatMap_append]
    rw [e2,List.length_append,argsWt];omega
  have h5:=h2 e.Args ih
  have h6:=namesN_len e
  omega
theorem namesP_len {e:Ex} {pre suf:List Ex} (h:nodes e=pre++suf):(namesA pre).length<=e.wt:=by
 have h1:=zJj e
 have e1:namesA (nodes e)=namesA pre++namesA suf:=by rw [h];unfold namesA;rw [List.flatMap_append]
 rw [e1,List.length_append] at h1;omega
theorem namesX_len {x:Ex} {pre suf:List Lf} (h:formsL x=pre++suf):(pre.flatMap namesF).length<=(namesN x).length:=by
 unfold namesN
 rw [h,List.flatMap_append,List.length_append];omega
end Go.Br
end
section
namespace Go.Br
open Go Go.Eng Go.L41
structure Bf where
 Name:ByteArray
 T:Ty
 Dims:List Int
 Use:Int
 deriving DecidableEq
inductive St where
 |mk (op:Int) (name:ByteArray) (many mark fold:Int) (idx:List Ix) (ex:Ex) (body:List St)
namespace St
def Op:St->Int|mk x _ _ _ _ _ _ _=>x
def Name:St->ByteArray|mk _ x _ _ _ _ _ _=>x
def Many:St->Int|mk _ _ x _ _ _ _ _=>x
def Mark:St->Int|mk _ _ _ x _ _ _ _=>x
def Fold:St->Int|mk _ _ _ _ x _ _ _=>x
def Idx:St->List Ix|mk _ _ _ _ _ x _ _=>x
def E:St->Ex|mk _ _ _ _ _ _ x _=>x
def Body:St->List St|mk _ _ _ _ _ _ _ x=>x
theorem eta (s:St):s=mk s.Op s.Name s.Many s.Mark s.Fold s.Idx s.E s.Body:=by cases s;rfl
theorem ind {P:St->Prop} (h:∀s:St,(∀a,a∈s.Body->P a)->P s) (s:St):P s:=
 St.rec (motive_1:=P) (motive_2:=fun l=>∀a,a∈l->P a) (fun o n m k f i e b ih=>h (mk o n m k f i e b) ih) (fun a h=>by cases h)
  (fun x l hx hl a ha=>by rcases List.mem_cons.1 ha with rfl|ha;exact hx;exact hl a ha) s
end St
structure Ns where
 Bufs:List Bf
 Body:List St
def Bf.cells (b:Bf):List C:=[cS b.Name,cI b.T.Kind,cI b.T.Bits,cI b.T.Frac,cI b.T.Round,cI b.T.Over,.sl 1 (b.Dims.map fun n=>[cI n]),cI b.Use]
mutual
def St.cells:St->List C
 |.mk o n m k f i e b=>[cI o,cS n,cI m,cI k,cI f,.sl 4 (i.map Ix.cells)]++e.cs++[.sl 20 (stCellsL b)]
def stCellsL:List St->List (List C)
 |[]=>[]
 |s::r=>s.cells::stCellsL r
end
theorem zQu (l:List St):stCellsL l=l.map St.cells:=by
 induction l with
 |nil=>rfl
 |cons s r ih=>rw [stCellsL,ih];rfl
def St.cs (s:St):List C:=[cI s.Op,cS s.Name,cI s.Many,cI s.Mark,cI s.Fold,.sl 4 (s.Idx.map Ix.cells),
 cI s.E.Op,cS s.E.Name,cI s.E.Val.N,cI s.E.Val.D,cI s.E.Ty.Kind,cI s.E.Ty.Bits,cI s.E.Ty.Frac,cI s.E.Ty.Round,cI s.E.Ty.Over,cI s.E.Lin.K,.sl 2 (s.E.Lin.L.map Mono.cells),.sl 4 (s.E.Idx.map Ix.cells),.sl 13 (s.E.Args.map Ex.cells),.sl 20 (s.Body.map St.cells)]
theorem St.cells_eq (s:St):s.cells=s.cs:=by
 cases s;rw [St.cells,zQu];rfl
def Ns.cells (n:Ns):List C:=[.sl 8 (n.Bufs.map Bf.cells),.sl 20 (n.Body.map St.cells)]
abbrev vBf (b:Bf):V:=.agg b.cells
abbrev vSt (s:St):V:=.agg s.cs
abbrev vSts (l:List St):V:=.c (.sl 20 (l.map St.cells))
abbrev vNs (n:Ns):V:=.agg n.cells
abbrev vIs (l:List Int):V:=.c (.sl 1 (l.map fun n=>[cI n]))
abbrev vBfs (l:List Bf):V:=.c (.sl 8 (l.map Bf.cells))
theorem zEu {α:Type} {p:α->Bool} {l:List α} {k:Nat} {x:α} (h:l[k]? =some x) (hp:(l.take k).all p=true) (hx:p x=true):(l.take (k+1)).all p=true:=by
 rw [yN h,List.all_append,hp];simp [hx]
theorem zDc {l:List St} {k:Nat} {x:St} (h:l[k]? =some x):(l.map St.cells)[k]? =some x.cs:=by
 rw [getm h,St.cells_eq]
/-! ## Sizes -/
mutual
def St.wt:St->Nat
 |.mk _ _ _ _ _ i e b=>1+e.wt+i.length+idxWt i+stsWt b
def stsWt:List St->Nat
 |[]=>0
 |s::r=>s.wt+stsWt r
end
theorem St.wt_eq (s:St):s.wt=1+s.E.wt+s.Idx.length+idxWt s.Idx+stsWt s.Body:=by cases s;rw [St.wt];rfl
theorem zAe (l:List St):l.length<=stsWt l:=by
 induction l with
 |nil=>simp [stsWt]
 |cons y r ih=>rw [stsWt,List.length_cons];have:=y.wt_eq;omega
theorem kK {l:List St} {a:St} (h:a∈l):a.wt<=stsWt l:=by
 induction l with
 |nil=>cases h
 |cons x r ih=>
  rw [stsWt]
  rcases List.mem_cons.1 h with rfl|h
  ·omega
  ·have:=ih h;omega
theorem St.wt_pos (s:St):1<=s.wt:=by rw [St.wt_eq];omega
theorem St.body_wt (s:St):stsWt s.Body<s.wt:=by rw [St.wt_eq s];omega
theorem St.parts {s:St} {B:Nat} (h:s.wt<=B):s.E.wt<=B/\s.Idx.length<=B/\idxWt s.Idx<=B/\s.Body.length<=B/\stsWt s.Body<=B:=by
 rw [St.wt_eq] at h
 have:=zAe s.Body
 omega
def rdE (s:St):Ex:=.mk 3 s.Name ⟨0,0⟩ ⟨0,0,0,0,0⟩ ⟨0,[]⟩ s.Idx []
theorem rdE_wt (s:St):(rdE s).wt<=s.wt+1:=by
 rw [Ex.wt_eq,St.wt_eq];simp only [rdE,Ex.Lin,Ex.Idx,Ex.Args,argsWt,List.length_nil];omega
/-! ## Shapes (11.1) -/
def posI (n:Int):Bool:=decide (1<=n)
def sizeFrom:Int->List Int->Option Int
 |s,[]=>some s
 |s,n::r=>if 4096<s*n then none else sizeFrom (s*n) r
def dimsErr (d:List Int):Int:=if 6<d.length then 2 else if d.all posI=true then (if (sizeFrom 1 d).isSome=true then 0 else 2) else 1
theorem dims_long {d:List Int} (h:6<d.length):dimsErr d=2:=by unfold dimsErr;rw [if_pos h]
theorem dims_neg {d:List Int} {k:Nat} {n:Int} (h:¬6<d.length) (hn:d[k]? =some n) (h2:n<1):dimsErr d=1:=by
 unfold dimsErr
 rw [if_neg h,if_neg (by rw [zKl hn (p:=posI) (by unfold posI;exact decide_eq_false (by omega))];simp)]
theorem zSw {d:List Int} (h:¬6<d.length) (h1:d.all posI=true) (h2:sizeFrom 1 d=none):dimsErr d=2:=by
 unfold dimsErr;rw [if_neg h,if_pos h1,h2];rfl
theorem dims_ok {d:List Int} {s:Int} (h:¬6<d.length) (h1:d.all posI=true) (h2:sizeFrom 1 d=some s):dimsErr d=0:=by
 unfold dimsErr;rw [if_neg h,if_pos h1,h2];rfl
theorem size_next {d:List Int} {k:Nat} {n s:Int} (h:d[k]? =some n) (hs:sizeFrom 1 d=sizeFrom s (d.drop k)) (h2:¬4096<s*n):sizeFrom 1 d=sizeFrom (s*n) (d.drop (k+1)):=by
 rw [hs,qZ h,sizeFrom,if_neg h2]
theorem zQz {d:List Int} {k:Nat} {n s:Int} (h:d[k]? =some n) (hs:sizeFrom 1 d=sizeFrom s (d.drop k)) (h2:4096<s*n):sizeFrom 1 d=none:=by
 rw [hs,qZ h,sizeFrom,if_pos h2]
theorem size_done {d:List Int} {k:Nat} {s:Int} (hs:sizeFrom 1 d=sizeFrom s (d.drop k)) (h:¬k<d.length):sizeFrom 1 d=some s:=by
 rw [hs,kW h];rfl
theorem quo_lt {s n:Int} (h:1<=s):Int.tdiv 4096 s<n↔4096<s*n:=by
 rw [Int.tdiv_eq_ediv_of_nonneg (by omega),Int.ediv_lt_iff_lt_mul (by omega),Int.mul_comm]
theorem quo_wrap {s:Int} (h:1<=s):IntKind.i64.wrap (Int.tdiv 4096 s)=Int.tdiv 4096 s:=by
 have h1:Int.tdiv 4096 s=4096/s:=Int.tdiv_eq_ediv_of_nonneg (by omega)
 have h2:0<=(4096:Int)/s:=Int.ediv_nonneg (by omega) (by omega)
 have h3:(4096:Int)/s<=4096:=Int.ediv_le_self _ (by omega)
 exact zDg ⟨by omega,by omega⟩
theorem quo_t {s n:Int} (h:1<=s) (c:IntKind.i64.wrap (Int.tdiv 4096 s)<n):4096<s*n:=by rw [quo_wrap h] at c;exact (quo_lt h).1 c
theorem quo_f {s n:Int} (h:1<=s) (c:¬IntKind.i64.wrap (Int.tdiv 4096 s)<n):¬4096<s*n:=by rw [quo_wrap h] at c;exact fun k=>c ((quo_lt h).2 k)
theorem zJg {d:List Int} {k:Nat} {n:Int} (h:d.all posI=true) (hn:d[k]? =some n):1<=n:=by
 have:=(List.all_eq_true.1 h) n (zY hn)
 simpa [posI] using this
theorem zLs {s n:Int} (h:1<=s) (h2:1<=n):1<=s*n/\n<=s*n:=by
 have h3:1*n<=s*n:=Int.mul_le_mul_of_nonneg_right h (by omega)
 omega
def zBf:Bf:=⟨bs [],zTy,[],0⟩
def hasBf (l:List Bf) (s:ByteArray):Bool:=l.any fun b=>decide (b.Name=s)
def bufD:List Bf->ByteArray->Bf
 |[],_=>zBf
 |b::r,s=>if b.Name=s then b else bufD r s
theorem bufD_at {l:List Bf} {k:Nat} {b:Bf} {s:ByteArray} (h:l[k]? =some b) (hb:b.Name=s):bufD (l.drop k) s=b:=by rw [qZ h,bufD,if_pos hb]
theorem bufD_next {l:List Bf} {k:Nat} {b:Bf} {s:ByteArray} (h:l[k]? =some b) (hb:¬b.Name=s):bufD (l.drop k) s=bufD (l.drop (k+1)) s:=by rw [qZ h,bufD,if_neg hb]
theorem hasBf_at {l:List Bf} {k:Nat} {b:Bf} {s:ByteArray} (h:l[k]? =some b) (hb:b.Name=s):hasBf l s=true:=by
 unfold hasBf;rw [List.any_eq_true];exact ⟨b,zY h,decide_eq_true hb⟩
theorem zNp {l:List Bf} {k:Nat} {b:Bf} {s:ByteArray} (h:l[k]? =some b) (hp:hasBf (l.take k) s=false) (hb:¬b.Name=s):hasBf (l.take (k+1)) s=false:=by
 unfold hasBf at *;rw [yN h,List.any_append,hp];simp [hb]
theorem hasBf_lt {l:List Bf} {j k:Nat} {b:Bf} {s:ByteArray} (h:l[j]? =some b) (hj:j<k) (hb:b.Name=s):hasBf (l.take k) s=true:=by
 have:(l.take k)[j]? =some b:=by rw [List.getElem?_take];simp [hj,h]
 exact hasBf_at this hb
theorem bufD_no:∀{l:List Bf} {s:ByteArray},hasBf l s=false->bufD l s=zBf
 |[],_,_=>rfl
 |b::r,s,h=>by
  simp only [hasBf,List.any_cons,Bool.or_eq_false_iff,decide_eq_false_iff_not] at h
  rw [bufD,if_neg h.1];exact bufD_no h.2
def bfErr (seen:List Bf) (b:Bf):Int:=
 if isNameB b.Name=true then (if hasBf seen b.Name=true then 8 else if tyOk b.T=true then (if dimsErr b.Dims=0 then (if b.Use<1∨3<b.Use then 1 else 0) else dimsErr b.Dims) else 10) else 7
def bufsErr:List Bf->List Bf->Int
 |_,[]=>0
 |seen,b::r=>if bfErr seen b=0 then bufsErr (seen++[b]) r else bfErr seen b
theorem bfErr_7 {seen:List Bf} {b:Bf} (h:isNameB b.Name=false):bfErr seen b=7:=by unfold bfErr;rw [if_neg (by rw [h];simp)]
theorem bfErr_8 {seen:List Bf} {b:Bf} (h:isNameB b.Name=true) (h2:hasBf seen b.Name=true):bfErr seen b=8:=by unfold bfErr;rw [if_pos h,if_pos h2]
theorem zPy {seen:List Bf} {b:Bf} (h:isNameB b.Name=true) (h2:hasBf seen b.Name=false) (h3:tyOk b.T=false):bfErr seen b=10:=by unfold bfErr;rw [if_pos h,if_neg (by rw [h2];simp),if_neg (by rw [h3];simp)]
theorem bfErr_d {seen:List Bf} {b:Bf} (h:isNameB b.Name=true) (h2:hasBf seen b.Name=false) (h3:tyOk b.T=true) (h4:¬dimsErr b.Dims=0):bfErr seen b=dimsErr b.Dims:=by unfold bfErr;rw [if_pos h,if_neg (by rw [h2];simp),if_pos h3,if_neg h4]
theorem bfErr_u {seen:List Bf} {b:Bf} (h:isNameB b.Name=true) (h2:hasBf seen b.Name=false) (h3:tyOk b.T=true) (h4:dimsErr b.Dims=0) (h5:b.Use<1∨3<b.Use):bfErr seen b=1:=by unfold bfErr;rw [if_pos h,if_neg (by rw [h2];simp),if_pos h3,if_pos h4,if_pos h5]
theorem bfErr_0 {seen:List Bf} {b:Bf} (h:isNameB b.Name=true) (h2:hasBf seen b.Name=false) (h3:tyOk b.T=true) (h4:dimsErr b.Dims=0) (h5:¬(b.Use<1∨3<b.Use)):bfErr seen b=0:=by unfold bfErr;rw [if_pos h,if_neg (by rw [h2];simp),if_pos h3,if_pos h4,if_neg h5]
theorem zOq {l:List Bf} {k:Nat} {b:Bf} (h:l[k]? =some b) (hp:bufsErr [] l=bufsErr (l.take k) (l.drop k)) (hb:bfErr (l.take k) b=0):bufsErr [] l=bufsErr (l.take (k+1)) (l.drop (k+1)):=by
 rw [hp,qZ h,bufsErr,if_pos hb,yN h]
theorem zBg {l:List Bf} {k:Nat} {b:Bf} (h:l[k]? =some b) (hp:bufsErr [] l=bufsErr (l.take k) (l.drop k)) (hb:¬bfErr (l.take k) b=0):bufsErr [] l=bfErr (l.take k) b:=by
 rw [hp,qZ h,bufsErr,if_neg hb]
theorem zTi {l:List Bf} {k:Nat} (hp:bufsErr [] l=bufsErr (l.take k) (l.drop k)) (h:¬k<l.length):bufsErr [] l=0:=by
 rw [hp,kW h];rfl
/-! ## Depth and number of statements -/
def withinT:Nat->List St->Bool
 |0,l=>l.isEmpty
 |n+1,l=>l.all fun s=>withinT n s.Body
def depS:Nat->List St->Int
 |0,_=>0
 |n+1,l=>l.foldl (fun d s=>max d (1+depS n s.Body)) 0
theorem depF_ge {f:St->Int}:∀(l:List St) (d:Int),d<=l.foldl (fun d s=>max d (1+f s)) d
 |[],d=>Int.le_refl _
 |x::r,d=>by have:=depF_ge (f:=f) r (max d (1+f x));rw [List.foldl_cons];omega
theorem zPt {f:St->Int} {m:Int}:∀(l:List St) (d:Int),l.foldl (fun d s=>max d (1+f s)) d<=m↔d<=m/\∀s,s∈l->1+f s<=m
 |[],d=>by simp
 |x::r,d=>by
  rw [List.foldl_cons,zPt r]
  constructor
  ·rintro ⟨h1,h2⟩
   refine ⟨by omega,fun s hs=>?_⟩
   rcases List.mem_cons.1 hs with rfl|hs
   ·omega
   ·exact h2 s hs
  ·rintro ⟨h1,h2⟩
   have:=h2 x (by simp)
   exact ⟨by omega,fun s hs=>h2 s (by simp [hs])⟩
theorem zHd:∀(n:Nat) (l:List St),depS (n+1) l<=n↔withinT n l=true
 |0,l=>by
  rw [depS,zPt]
  cases l with
  |nil=>simp [withinT]
  |cons x r=>
   simp only [withinT,List.isEmpty_cons,Bool.false_eq_true,iff_false,not_and]
   intro _ h
   have:=h x (by simp)
   simp only [depS] at this;omega
 |n+1,l=>by
  rw [depS,zPt,withinT,List.all_eq_true]
  constructor
  ·rintro ⟨_,h⟩ s hs
   have:=h s hs
   exact (zHd n s.Body).1 (by omega)
  ·intro h
   refine ⟨by omega,fun s hs=>?_⟩
   have:=(zHd n s.Body).2 (h s hs)
   omega
theorem depS_le:∀(n:Nat) (l:List St),0<=depS n l/\depS n l<=n
 |0,l=>by simp [depS]
 |n+1,l=>by
  rw [depS]
  refine ⟨depF_ge l 0,(zPt l 0).2 ⟨by omega,fun s _=>?_⟩⟩
  have:=depS_le n s.Body;omega
mutual
def stN:St->Nat
 |.mk _ _ _ _ _ _ _ b=>1+stsN b
def stsN:List St->Nat
 |[]=>0
 |s::r=>stN s+stsN r
end
def withinG (n:Nat) (l:List St):Bool:=withinT n l
theorem withinG_eq (n:Nat) (l:List St):withinG n l=withinT n l:=rfl
theorem withinG_next {n:Nat} {l:List St} {k:Nat} {s:St} (h:l[k]? =some s) (hp:withinG n (l.take k)=true) (hn:1<=n) (hs:withinT (n-1) s.Body=true):withinG n (l.take (k+1))=true:=by
 obtain ⟨m,rfl⟩:∃m,n=m+1:=⟨n-1,by omega⟩
 exact zEu h hp hs
theorem within_no {n:Nat} {l:List St} {k:Nat} {s:St} {x:Int} (h:l[k]? =some s) (hx:x=n) (c:(decide (x<1)|| !withinT (n-1) s.Body)=true):withinT n l=false:=by
 cases n with
 |zero=>cases l with
  |nil=>simp at h
  |cons a r=>rfl
 |succ n=>
  have:withinT n s.Body=false:=by
   rw [Bool.or_eq_true] at c
   rcases c with c|c
   ·rw [decide_eq_true_eq] at c;omega
   ·simpa using c
  exact zKl h this
theorem within_yes {n:Nat} {s:St} {x:Int} (hx:x=n) (c:(decide (x<1)|| !withinT (n-1) s.Body)=false):1<=n/\withinT (n-1) s.Body=true:=by
 rw [Bool.or_eq_false_iff] at c
 refine ⟨?_,by simpa using c.2⟩
 have:=c.1;rw [decide_eq_false_iff_not] at this;omega
theorem depS_next {n:Nat} {l:List St} {k:Nat} {s:St} (h:l[k]? =some s) (hn:1<=n):depS n (l.take (k+1))=max (depS n (l.take k)) (1+depS (n-1) s.Body):=by
 obtain ⟨m,rfl⟩:∃m,n=m+1:=⟨n-1,by omega⟩
 rw [yN h,depS,List.foldl_append];rfl
theorem depS_stop {n:Nat} {l:List St} {k:Nat} {x d:Int} (hx:x=n) (hd:d=depS n (l.take k)) (c:l.length<=k∨x<=0):d=depS n l:=by
 by_cases h0:n=0
 ·subst h0;rw [hd];rfl
 ·rw [hd,yE (by omega)]
theorem zKb (s:St):stN s=1+stsN s.Body:=by cases s;rw [stN];rfl
theorem zKp:∀(a b:List St),stsN (a++b)=stsN a+stsN b
 |[],b=>by simp [stsN]
 |x::r,b=>by rw [List.cons_append,stsN,stsN,zKp r b];omega
theorem zDp:∀l:List St,l.length<=stsN l
 |[]=>by simp [stsN]
 |x::r=>by have:=zDp r;have:=zKb x;rw [stsN,List.length_cons];omega
mutual
theorem stN_wt:∀s:St,stN s<=s.wt
 |.mk o n m k f i e b=>by rw [stN,St.wt];have:=zHr b;omega
theorem zHr:∀l:List St,stsN l<=stsWt l
 |[]=>by simp [stsN,stsWt]
 |s::r=>by rw [stsN,stsWt];have:=stN_wt s;have:=zHr r;omega
end
mutual
def numS:St->Nat->Nat
 |.mk _ _ _ _ _ _ _ b,m=>numL b m b.length
def numL:List St->Nat->Nat->Nat
 |[],_,n=>n
 |s::r,m,n=>if n<=m then numL r m (n+numS s (m-n)) else n
end
def numB (l:List St) (m:Nat):Nat:=numL l m l.length
theorem numS_eq (s:St) (m:Nat):numS s m=numB s.Body m:=by cases s;rw [numS];rfl
mutual
theorem numS_le:∀(s:St) (m:Nat),numS s m<=stN s-1
 |.mk _ _ _ _ _ _ _ b,m=>by
  rw [numS,stN]
  have h1:=numL_le b m b.length
  have h2:=zDp b
  omega
theorem numL_le:∀(l:List St) (m n:Nat),numL l m n<=n+(stsN l-l.length)
 |[],m,n=>by simp [numL]
 |s::r,m,n=>by
  rw [numL]
  have h3:=zDp r
  have h4:=zKb s
  split
  ·have h1:=numL_le r m (n+numS s (m-n))
   have h2:=numS_le s (m-n)
   rw [stsN,List.length_cons];omega
  ·rw [stsN,List.length_cons];omega
end
theorem numB_le (l:List St) (m:Nat):numB l m<=stsN l:=by
 have h1:=numL_le l m l.length
 have h2:=zDp l
 unfold numB;omega
theorem numL_ge:∀(l:List St) (m n:Nat),n<=numL l m n
 |[],m,n=>by rw [numL];omega
 |s::r,m,n=>by
  rw [numL];split
  ·have:=numL_ge r m (n+numS s (m-n));omega
  ·omega
mutual
theorem numS_ok:∀(s:St) (m:Nat),numS s m<=m->numS s m=stN s-1
 |.mk _ _ _ _ _ _ _ b,m,h=>by
  rw [numS] at h⊢
  rw [stN,numL_ok b m _ h]
  have:=zDp b;omega
theorem numL_ok:∀(l:List St) (m n:Nat),numL l m n<=m->numL l m n=n+(stsN l-l.length)
 |[],m,n,h=>by simp [numL,stsN]
 |s::r,m,n,h=>by
  have h3:=zDp r
  have h4:=zKb s
  by_cases hn:n<=m
  ·rw [numL,if_pos hn] at h⊢
   have h5:=numL_ge r m (n+numS s (m-n))
   have h6:=numS_ok s (m-n) (by omega)
   rw [numL_ok r m _ h,h6,stsN,List.length_cons];omega
  ·rw [numL,if_neg hn] at h;omega
end
theorem numB_ok {l:List St} {m:Nat} (h:numB l m<=m):stsN l=numB l m:=by
 have h2:=zDp l
 unfold numB at *
 rw [numL_ok l m _ h];omega
theorem num_next {l:List St} {k m n N:Nat} {s:St} (h:l[k]? =some s) (hp:N=numL (l.drop k) m n) (hn:n<=m):N=numL (l.drop (k+1)) m (n+numB s.Body (m-n)):=by
 rw [hp,qZ h,numL,if_pos hn,numS_eq]
theorem num_end {l:List St} {k m n N:Nat} (hp:N=numL (l.drop k) m n) (h:l.length<=k∨m<n):n=N:=by
 rw [hp]
 by_cases hk:k<l.length
 ·obtain ⟨a,ha⟩:=qY l k hk
  rw [qZ ha,numL,if_neg (by omega)]
 ·rw [kW hk,numL]
theorem zLj {l:List St} {s:St} (h:s∈l):stN s<=stsN l:=by
 induction l with
 |nil=>cases h
 |cons x r ih=>
  rw [stsN]
  rcases List.mem_cons.1 h with rfl|h
  ·omega
  ·have:=ih h;omega
theorem stsN_drop {l:List St} {k:Nat} {s:St} (h:l[k]? =some s):stsN (l.drop k)=stN s+stsN (l.drop (k+1)):=by rw [qZ h,stsN]
theorem num_sum {l:List St} {k m n:Nat} {s:St} (h:l[k]? =some s) (hp:numB l m=numL (l.drop k) m n) (hn:n<=m):n+numB s.Body (m-n)<=n+stsN l:=by
 have h1:=numB_le s.Body (m-n)
 have h2:stsN l=stsN (l.take k)+(stN s+stsN (l.drop (k+1))):=by
  rw [←stsN,←qZ h,←zKp,List.take_append_drop]
 have:=zKb s
 omega
end Go.Br
end
section
namespace Go.Br
open Go Go.Eng Go.L41
/-! ## Names of a node -/
def inSc (sc:List ByteArray) (l:Lf):Bool:=l.L.all fun m=>hasB sc m.Name
def ixSc (sc:List ByteArray) (x:Ix):Bool:=inSc sc x.Lin&&x.At.all (inSc sc)
def nodeSc (sc:List ByteArray) (e:Ex):Bool:=inSc sc e.Lin&&e.Idx.all (ixSc sc)
def gathE (B:List Bf) (x:Ix):Int:=
 if x.From=bs [] then 0 else if hasBf B x.From=true then (if (bufD B x.From).T.Kind=3 then (if (bufD B x.From).Dims.length=x.At.length then 0 else 11) else 10) else 9
def gathL (B:List Bf):List Ix->Int
 |[]=>0
 |x::r=>if gathE B x=0 then gathL B r else gathE B x
def nodeN (B:List Bf) (sc:List ByteArray) (e:Ex):Int:=
 if nodeSc sc e=true then (if e.Op=3 then (if hasBf B e.Name=true then (if (bufD B e.Name).Dims.length=e.Idx.length then gathL B e.Idx else 11) else 9) else 0) else 9
def nodesN (B:List Bf) (sc:List ByteArray):List Ex->Int
 |[]=>0
 |e::r=>if nodeN B sc e=0 then nodesN B sc r else nodeN B sc e
theorem gathE_0 {B:List Bf} {x:Ix} (h:x.From=bs []):gathE B x=0:=by unfold gathE;rw [if_pos h]
theorem gathE_9 {B:List Bf} {x:Ix} (h:¬x.From=bs []) (h1:hasBf B x.From=false):gathE B x=9:=by unfold gathE;rw [if_neg h,if_neg (by rw [h1];simp)]
theorem zPo {B:List Bf} {x:Ix} (h:¬x.From=bs []) (h1:hasBf B x.From=true) (h2:¬(bufD B x.From).T.Kind=3):gathE B x=10:=by unfold gathE;rw [if_neg h,if_pos h1,if_neg h2]
theorem zPn {B:List Bf} {x:Ix} (h:¬x.From=bs []) (h1:hasBf B x.From=true) (h2:(bufD B x.From).T.Kind=3) (h3:¬(bufD B x.From).Dims.length=x.At.length):gathE B x=11:=by unfold gathE;rw [if_neg h,if_pos h1,if_pos h2,if_neg h3]
theorem zPm {B:List Bf} {x:Ix} (h:¬x.From=bs []) (h1:hasBf B x.From=true) (h2:(bufD B x.From).T.Kind=3) (h3:(bufD B x.From).Dims.length=x.At.length):gathE B x=0:=by unfold gathE;rw [if_neg h,if_pos h1,if_pos h2,if_pos h3]
theorem zJn {B:List Bf} {l:List Ix} {k:Nat} {x:Ix} (h:l[k]? =some x) (hx:gathE B x=0):gathL B (l.drop k)=gathL B (l.drop (k+1)):=by rw [qZ h,gathL,if_pos hx]
theorem zJm {B:List Bf} {l:List Ix} {k:Nat} {x:Ix} (h:l[k]? =some x) (hx:¬gathE B x=0):gathL B (l.drop k)=gathE B x:=by rw [qZ h,gathL,if_neg hx]
theorem nodeN_9 {B:List Bf} {sc:List ByteArray} {e:Ex} (h:nodeSc sc e=false):nodeN B sc e=9:=by unfold nodeN;rw [if_neg (by rw [h];simp)]
theorem nodeN_o {B:List Bf} {sc:List ByteArray} {e:Ex} (h:nodeSc sc e=true) (h1:¬e.Op=3):nodeN B sc e=0:=by unfold nodeN;rw [if_pos h,if_neg h1]
theorem nodeN_n {B:List Bf} {sc:List ByteArray} {e:Ex} (h:nodeSc sc e=true) (h1:e.Op=3) (h2:hasBf B e.Name=false):nodeN B sc e=9:=by unfold nodeN;rw [if_pos h,if_pos h1,if_neg (by rw [h2];simp)]
theorem nodeN_r {B:List Bf} {sc:List ByteArray} {e:Ex} (h:nodeSc sc e=true) (h1:e.Op=3) (h2:hasBf B e.Name=true) (h3:¬(bufD B e.Name).Dims.length=e.Idx.length):nodeN B sc e=11:=by unfold nodeN;rw [if_pos h,if_pos h1,if_pos h2,if_neg h3]
theorem zIf {B:List Bf} {sc:List ByteArray} {e:Ex} (h:nodeSc sc e=true) (h1:e.Op=3) (h2:hasBf B e.Name=true) (h3:(bufD B e.Name).Dims.length=e.Idx.length):nodeN B sc e=gathL B e.Idx:=by unfold nodeN;rw [if_pos h,if_pos h1,if_pos h2,if_pos h3]
theorem zGm (B:List Bf) (sc:List ByteArray):∀(a b:List Ex),nodesN B sc (a++b)=if nodesN B sc a=0 then nodesN B sc b else nodesN B sc a
 |[],b=>by simp [nodesN]
 |x::r,b=>by
  rw [List.cons_append,nodesN,nodesN,zGm B sc r b]
  by_cases h:nodeN B sc x=0
  ·rw [if_pos h,if_pos h]
  ·rw [if_neg h,if_neg h,if_neg h]
theorem zNi {B:List Bf} {sc:List ByteArray} {pre:List Ex} {x:Ex} (h:nodesN B sc pre=0):nodesN B sc (pre++[x])=nodeN B sc x:=by
 rw [zGm,if_pos h,nodesN,nodesN]
 by_cases hx:nodeN B sc x=0
 ·rw [if_pos hx,hx]
 ·rw [if_neg hx]
theorem nodesN_pre {B:List Bf} {sc:List ByteArray} {pre suf:List Ex} {x:Ex} (h:¬nodesN B sc (pre++[x])=0):nodesN B sc (pre++x::suf)=nodesN B sc (pre++[x]):=by
 rw [show pre++x::suf=(pre++[x])++suf by simp,zGm,if_neg h]
theorem nodesN_at {B:List Bf} {sc:List ByteArray} {l:List Ex} {k:Nat} {x:Ex} (h:l[k]? =some x) (hx:nodeN B sc x=0):nodesN B sc (l.drop k)=nodesN B sc (l.drop (k+1)):=by rw [qZ h,nodesN,if_pos hx]
theorem nodesN_no {B:List Bf} {sc:List ByteArray} {l:List Ex} {k:Nat} {x:Ex} (h:l[k]? =some x) (hx:¬nodeN B sc x=0):nodesN B sc (l.drop k)=nodeN B sc x:=by rw [qZ h,nodesN,if_neg hx]
/-! ## Types -/
def tyF (B:List Bf) (e:Ex) (l:List Ty):Ty×Int:=
 if e.Op=1∨e.Op=12 then (e.Ty,0) else
 if e.Op=2 then (iTy,0) else
 if e.Op=3 then ((bufD B e.Name).T,0) else
 if e.Op=8 then (tyAt l 0,0) else
 if e.Op=16∨e.Op=17∨e.Op=18 then (zTy,0) else
 if tyAt l (l.length-2)=tyAt l (l.length-1) then (if isCond e=true then (zTy,0) else (tyAt l (l.length-1),0)) else (zTy,10)
theorem zBx {B:List Bf} {e:Ex} {l:List Ty} (h:e.Op=1∨e.Op=12):tyF B e l=(e.Ty,0):=by unfold tyF;rw [if_pos h]
theorem zCf {B:List Bf} {e:Ex} {l:List Ty} (h:e.Op=2):tyF B e l=(iTy,0):=by unfold tyF;rw [if_neg (by omega),if_pos h]
theorem zBw {B:List Bf} {e:Ex} {l:List Ty} (h:e.Op=3):tyF B e l=((bufD B e.Name).T,0):=by unfold tyF;rw [if_neg (by omega),if_neg (by omega),if_pos h]
theorem zCe {B:List Bf} {e:Ex} {l:List Ty} (h:e.Op=8):tyF B e l=(tyAt l 0,0):=by unfold tyF;rw [if_neg (by omega),if_neg (by omega),if_neg (by omega),if_pos h]
theorem wW {B:List Bf} {e:Ex} {l:List Ty} (h:e.Op=16∨e.Op=17∨e.Op=18):tyF B e l=(zTy,0):=by unfold tyF;rw [if_neg (by omega),if_neg (by omega),if_neg (by omega),if_neg (by omega),if_pos h]
abbrev opLow (o:Int):Prop:=o=1∨o=12∨o=2∨o=3∨o=8∨o=16∨o=17∨o=18
theorem tyF_o {B:List Bf} {e:Ex} {l:List Ty} (h:¬opLow e.Op):tyF B e l=if tyAt l (l.length-2)=tyAt l (l.length-1) then (if isCond e=true then (zTy,0) else (tyAt l (l.length-1),0)) else (zTy,10):=by
 unfold opLow at h;unfold tyF;rw [if_neg (by omega),if_neg (by omega),if_neg (by omega),if_neg (by omega),if_neg (by omega)]
theorem wX {B:List Bf} {e:Ex} {l:List Ty} (h:¬opLow e.Op) (h2:¬tyAt l (l.length-2)=tyAt l (l.length-1)):tyF B e l=(zTy,10):=by rw [tyF_o h,if_neg h2]
theorem zCd {B:List Bf} {e:Ex} {l:List Ty} (h:¬opLow e.Op) (h2:tyAt l (l.length-2)=tyAt l (l.length-1)) (h3:isCond e=true):tyF B e l=(zTy,0):=by rw [tyF_o h,if_pos h2,if_pos h3]
theorem zBv {B:List Bf} {e:Ex} {l:List Ty} (h:¬opLow e.Op) (h2:tyAt l (l.length-2)=tyAt l (l.length-1)) (h3:isCond e=false):tyF B e l=(tyAt l (l.length-1),0):=by rw [tyF_o h,if_pos h2,if_neg (by rw [h3];simp)]
theorem tyF_zero {B:List Bf} {e:Ex} {l:List Ty} (h:¬(tyF B e l).2=0):(tyF B e l).1=zTy:=by
 unfold tyF at h⊢
 repeat' split at h<;>first|exact absurd rfl h|skip
 all_goals simp_all
theorem nodeT_zero {B:List Bf} {e:Ex} (h:¬(nodeT (tyF B) e).2=0):(nodeT (tyF B) e).1=zTy:=by
 rw [zPi] at h⊢
 split
 ·rename_i c
  rw [if_pos c] at h
  exact tyF_zero h
 ·rfl
def nonC:List Ex->List Ty->List Ty
 |[],_=>[]
 |_::_,[]=>[]
 |a::r,t::ts=>if isCond a=true then nonC r ts else t::nonC r ts
def kiF (B:List Bf) (e:Ex) (l:List Ty):Ty×Int:=
 if l.length=2/\¬tyAt l 0=tyAt l 1 then (zTy,10) else
 if e.Op=1∨e.Op=12 then (e.Ty,0) else
 if e.Op=2 then (iTy,0) else
 if e.Op=3 then ((bufD B e.Name).T,0) else
 if isCond e=true then (zTy,0) else (tyAt l 0,0)
def kiN (B:List Bf) (e:Ex) (l:List Ty):Ty×Int:=kiF B e (nonC e.Args l)
theorem zFu {B:List Bf} {e:Ex} {l:List Ty} (h:l.length=2) (h2:¬tyAt l 0=tyAt l 1):kiF B e l=(zTy,10):=by unfold kiF;rw [if_pos ⟨h,h2⟩]
theorem zNo {B:List Bf} {e:Ex} {l:List Ty} (h:¬(l.length=2/\¬tyAt l 0=tyAt l 1)) (h1:e.Op=1∨e.Op=12):kiF B e l=(e.Ty,0):=by unfold kiF;rw [if_neg h,if_pos h1]
theorem zOw {B:List Bf} {e:Ex} {l:List Ty} (h:¬(l.length=2/\¬tyAt l 0=tyAt l 1)) (h1:e.Op=2):kiF B e l=(iTy,0):=by unfold kiF;rw [if_neg h,if_neg (by omega),if_pos h1]
theorem zOv {B:List Bf} {e:Ex} {l:List Ty} (h:¬(l.length=2/\¬tyAt l 0=tyAt l 1)) (h1:e.Op=3):kiF B e l=((bufD B e.Name).T,0):=by unfold kiF;rw [if_neg h,if_neg (by omega),if_neg (by omega),if_pos h1]
theorem zLz {B:List Bf} {e:Ex} {l:List Ty} (h:¬(l.length=2/\¬tyAt l 0=tyAt l 1)) (h1:isCond e=true):kiF B e l=(zTy,0):=by
 have:13<=e.Op:=by unfold isCond at h1;simp at h1;omega
 unfold kiF
 by_cases h12:e.Op=1∨e.Op=12
 ·omega
 ·rw [if_neg h,if_neg h12,if_neg (by omega),if_neg (by omega),if_pos h1]
theorem zLy {B:List Bf} {e:Ex} {l:List Ty} (h:¬(l.length=2/\¬tyAt l 0=tyAt l 1)) (h1:¬(e.Op=1∨e.Op=12∨e.Op=2∨e.Op=3)) (h2:isCond e=false):kiF B e l=(tyAt l 0,0):=by
 unfold kiF;rw [if_neg h,if_neg (by omega),if_neg (by omega),if_neg (by omega),if_neg (by rw [h2];simp)]
theorem zRv:∀{arg_:List Ex} {ts:List Ty} {a:Ex} {t:Ty},arg_.length=ts.length->nonC (arg_++[a]) (ts++[t])=nonC arg_ ts++(if isCond a=true then [] else [t])
 |[],[],a,t,_=>by simp only [List.nil_append,nonC]
 |x::r,y::s,a,t,h=>by
  simp only [List.cons_append,nonC]
  rw [zRv (arg_:=r) (ts:=s) (by simpa using h)]
  split<;>rfl
 |[],_::_,_,_,h=>by simp at h
 |_::_,[],_,_,h=>by simp at h
theorem conds_ok {e:Ex} (h:partE e=0):condsOk e.Op 0 e.Args=true:=by
 have:=(zGo (zBe h)).2.2.2.1
 simp only [typesE,Bool.and_eq_true] at this
 exact this.2
theorem ty_ki {B:List Bf} {e:Ex} {l:List Ty} (h:partE e=0) (hl:l.length=e.Args.length):tyF B e l=kiN B e l:=by
 have hr:=zPh h
 have hc:=conds_ok h
 obtain ⟨o1,o2⟩:=node_op (zBe h)
 have hle:l.length=(nArgs e.Op).toNat:=by omega
 unfold kiN
 generalize hA:e.Args=A at hr hc hl
 have hcond:isCond e=true↔13<=e.Op:=by unfold isCond;simp;omega
 unfold nArgs at hr
 by_cases c0:e.Op=1∨e.Op=2∨e.Op=3
 ·rw [if_pos c0] at hr
  match A,l,hr,hl with
  |[],[],_,_=>
   have hn:¬(([]:List Ty).length=2/\¬tyAt [] 0=tyAt [] 1):=by simp
   rcases c0 with c|c|c
   ·rw [zBx (.inl c)];exact (zNo hn (.inl c)).symm
   ·rw [zCf c];exact (zOw hn c).symm
   ·rw [zBw c];exact (zOv hn c).symm
  |_::_,_,hr,_=>simp at hr;omega
 rw [if_neg c0] at hr
 by_cases c1:e.Op=8∨e.Op=12∨e.Op=18
 ·rw [if_pos c1] at hr
  match A,l,hr,hl with
  |[a],[t],_,_=>
   simp only [condsOk,Bool.and_true,beq_iff_eq] at hc
   rcases c1 with c|c|c
   ·have ha:isCond a=false:=by rw [hc];simp [wantC,c]
    rw [zCe c,nonC,if_neg (by rw [ha];simp),nonC,zLy (by simp) (by omega) (by cases hx:isCond e;rfl;exact absurd (hcond.1 hx) (by omega))]
   ·have ha:isCond a=false:=by rw [hc];simp [wantC,c]
    rw [zBx (.inr c),nonC,if_neg (by rw [ha];simp),nonC,zNo (by simp) (.inr c)]
   ·have ha:isCond a=true:=by rw [hc];simp [wantC,c]
    rw [wW (by omega),nonC,if_pos ha,nonC,zLz (by simp) (hcond.2 (by omega))]
  |[],_,hr,_=>simp at hr
  |_::_::_,_,hr,_=>simp at hr;omega
 rw [if_neg c1] at hr
 by_cases c11:e.Op=11
 ·rw [if_pos c11] at hr
  match A,l,hr,hl with
  |[a,b,c],[s,t,u],_,_=>
   simp only [condsOk,Bool.and_true,Bool.and_eq_true,beq_iff_eq] at hc
   have ha:isCond a=true:=by rw [hc.1];simp [wantC,c11]
   have hb:isCond b=false:=by rw [hc.2.1];simp [wantC,c11]
   have hd:isCond c=false:=by rw [hc.2.2];simp [wantC,c11]
   have hec:isCond e=false:=by cases hx:isCond e;rfl;exact absurd (hcond.1 hx) (by omega)
   rw [nonC,if_pos ha,nonC,if_neg (by rw [hb];simp),nonC,if_neg (by rw [hd];simp),nonC]
   by_cases q:t=u
   ·subst q
    rw [zBv (by unfold opLow;omega) rfl hec,zLy (by simp [tyAt]) (by omega) hec];rfl
   ·rw [wX (e:=e) (l:=[s,t,u]) (by unfold opLow;omega) q,zFu (l:=[t,u]) rfl q]
  |[],_,hr,_=>simp at hr
  |[_],_,hr,_=>simp at hr
  |[_,_],_,hr,_=>simp at hr
  |_::_::_::_::_,_,hr,_=>simp at hr;omega
 rw [if_neg c11] at hr
 match A,l,hr,hl with
 |[a,b],[t,u],_,_=>
  simp only [condsOk,Bool.and_true,Bool.and_eq_true,beq_iff_eq] at hc
  by_cases c16:e.Op=16∨e.Op=17
  ·have ha:isCond a=true:=by rw [hc.1];rcases c16 with c|c<;>simp [wantC,c]
   have hb:isCond b=true:=by rw [hc.2];rcases c16 with c|c<;>simp [wantC,c]
   rw [wW (by omega),nonC,if_pos ha,nonC,if_pos hb,nonC,zLz (by simp) (hcond.2 (by omega))]
  ·have w:∀i,wantC e.Op i=false:=fun i=>by unfold wantC;simp;omega
   have ha:isCond a=false:=by rw [hc.1,w]
   have hb:isCond b=false:=by rw [hc.2,w]
   rw [nonC,if_neg (by rw [ha];simp),nonC,if_neg (by rw [hb];simp),nonC]
   by_cases q:t=u
   ·subst q
    by_cases ce:isCond e=true
    ·rw [zCd (by unfold opLow;omega) rfl ce,zLz (by simp [tyAt]) ce]
    ·have ce':isCond e=false:=by simpa using ce
     rw [zBv (by unfold opLow;omega) rfl ce',zLy (by simp [tyAt]) (by omega) ce'];rfl
   ·rw [wX (e:=e) (l:=[t,u]) (by unfold opLow;omega) q,zFu (l:=[t,u]) rfl q]
 |[],_,hr,_=>simp at hr
 |[_],_,hr,_=>simp at hr
 |_::_::_::_,_,hr,_=>simp at hr;omega
mutual
theorem nodeT_ki (B:List Bf):∀e:Ex,partE e=0->nodeT (tyF B) e=nodeT (kiN B) e
 |.mk o nm v t l i arg_,h=>by
  have h3:=nodeL_ki B arg_ fun a ha=>zBc h ha
  rw [nodeT,nodeT,←h3]
  by_cases c:(nodeL (tyF B) arg_).2=0
  ·rw [if_pos c,if_pos c]
   exact ty_ki h (zFs _ _ c)
  ·rw [if_neg c,if_neg c]
theorem nodeL_ki (B:List Bf):∀l:List Ex,(∀a,a∈l->partE a=0)->nodeL (tyF B) l=nodeL (kiN B) l
 |[],_=>rfl
 |a::r,h=>by
  rw [nodeL,nodeL,←nodeT_ki B a (h a (by simp)),←nodeL_ki B r fun x hx=>h x (by simp [hx])]
end
def exprT (B:List Bf) (sc:List ByteArray) (e:Ex):Ty×Int:=
 if validE e=0 then (if nodesN B sc (nodes e)=0 then nodeT (tyF B) e else (zTy,nodesN B sc (nodes e))) else (zTy,validE e)
theorem exprT_1 {B:List Bf} {sc:List ByteArray} {e:Ex} (h:¬validE e=0):exprT B sc e=(zTy,validE e):=by unfold exprT;rw [if_neg h]
theorem exprT_2 {B:List Bf} {sc:List ByteArray} {e:Ex} (h:validE e=0) (h2:¬nodesN B sc (nodes e)=0):exprT B sc e=(zTy,nodesN B sc (nodes e)):=by unfold exprT;rw [if_pos h,if_neg h2]
theorem exprT_3 {B:List Bf} {sc:List ByteArray} {e:Ex} (h:validE e=0) (h2:nodesN B sc (nodes e)=0):exprT B sc e=nodeT (tyF B) e:=by unfold exprT;rw [if_pos h,if_pos h2]
theorem exprT_k {B:List Bf} {sc:List ByteArray} {e:Ex} (h:validE e=0) (h2:nodesN B sc (nodes e)=0):exprT B sc e=nodeT (kiN B) e:=by rw [exprT_3 h h2];exact nodeT_ki B e (zDi h)
theorem exprT_rd {B:List Bf} {sc:List ByteArray} {s:St} (h:(exprT B sc (rdE s)).2=0):(exprT B sc (rdE s)).1=(bufD B s.Name).T:=by
 by_cases h1:validE (rdE s)=0
 ·by_cases h2:nodesN B sc (nodes (rdE s))=0
  ·rw [exprT_3 h1 h2,zPi]
   have:nodeL (tyF B) (rdE s).Args=([],0):=rfl
   rw [this,if_pos rfl,zBw rfl];rfl
  ·rw [exprT_2 h1 h2] at h;exact absurd h h2
 ·rw [exprT_1 h1] at h;exact absurd h h1
/-! ## Statements -/
def emptyE (e:Ex):Bool:=decide (e=zEx)
def isSto (s:St):Bool:=decide (s.Op=2)||decide (s.Op=3)
def synSt (s:St):Bool:=
 (decide (s.Op=1)||isSto s||decide (s.Op=4))&& !(decide (s.Op=4)&& !decide (s.Name=bs []))&& !(!decide (s.Op=1)&&(!decide (s.Many=0)|| !decide (s.Mark=0)))&&
 !(!decide (s.Op=3)&& !decide (s.Fold=0))&& !(!isSto s&&decide ((0:Int)<s.Idx.length))&& !(decide (s.Op=1)&& !emptyE s.E)&&(!isSto s||decide ((s.Body.length:Int)=0))
theorem syn_1 {s:St} (c:((!decide (s.Op=1)&& !(decide (s.Op=2)||decide (s.Op=3)))&& !decide (s.Op=4))=true):false=synSt s:=by
 unfold synSt isSto
 simp only [Bool.and_eq_true,Bool.not_eq_true',Bool.or_eq_false_iff] at c
 simp only [c.1.1,c.1.2.1,c.1.2.2,c.2,Bool.or_self,Bool.false_and]
theorem syn_2 {s:St} (c:(decide (s.Op=4)&& !decide (s.Name=bs []))=true):false=synSt s:=by
 unfold synSt;simp only [c,Bool.not_true,Bool.and_false,Bool.false_and]
theorem syn_3 {s:St} (c:(!decide (s.Op=1)&&(!decide (s.Many=0)|| !decide (s.Mark=0)))=true):false=synSt s:=by
 unfold synSt;simp only [c,Bool.not_true,Bool.and_false,Bool.false_and]
theorem syn_4 {s:St} (c:(!decide (s.Op=3)&& !decide (s.Fold=0))=true):false=synSt s:=by
 unfold synSt;simp only [c,Bool.not_true,Bool.and_false,Bool.false_and]
theorem syn_5 {s:St} (c:(!isSto s&&decide ((0:Int)<s.Idx.length))=true):false=synSt s:=by
 unfold synSt;simp only [c,Bool.not_true,Bool.and_false,Bool.false_and]
theorem syn_6 {s:St} (c:(decide (s.Op=1)&& !emptyE s.E)=true):false=synSt s:=by
 unfold synSt;simp only [c,Bool.not_true,Bool.and_false,Bool.false_and]
theorem syn_7 {s:St} (c1:((!decide (s.Op=1)&& !isSto s)&& !decide (s.Op=4))=false) (c2:(decide (s.Op=4)&& !decide (s.Name=bs []))=false) (c3:(!decide (s.Op=1)&&(!decide (s.Many=0)|| !decide (s.Mark=0)))=false) (c4:(!decide (s.Op=3)&& !decide (s.Fold=0))=false)
  (c5:(!isSto s&&decide ((0:Int)<s.Idx.length))=false) (c6:(decide (s.Op=1)&& !emptyE s.E)=false):(!isSto s||decide ((s.Body.length:Int)=0))=synSt s:=by
 have h1:(decide (s.Op=1)||isSto s||decide (s.Op=4))=true:=by
  revert c1;cases decide (s.Op=1)<;>cases isSto s<;>cases decide (s.Op=4)<;>simp
 unfold synSt
 simp only [h1,c2,c3,c4,c5,c6,Bool.not_false,Bool.true_and]
def loopE (B:List Bf) (U:List ByteArray) (s:St):Int:=
 if isNameB s.Name=true then (if hasBf B s.Name=true∨hasB U s.Name=true then 8 else if s.Many<1∨65536<s.Many∨s.Mark<0∨3<s.Mark then 1 else 0) else 7
def ifE (B:List Bf) (sc:List ByteArray) (s:St):Int:=if (exprT B sc s.E).2=0 then (if isCond s.E=true then 0 else 10) else (exprT B sc s.E).2
def storeE (B:List Bf) (sc:List ByteArray) (s:St):Int:=
 if (exprT B sc (rdE s)).2=0 then (if (bufD B s.Name).Use=1∨(s.Op=3/\(s.Fold<1∨4<s.Fold)) then 1 else
  if (exprT B sc s.E).2=0 then (if isCond s.E=true∨¬(exprT B sc s.E).1=(bufD B s.Name).T then 10 else 0) else (exprT B sc s.E).2) else (exprT B sc (rdE s)).2
def stE (B:List Bf) (U sc:List ByteArray) (s:St):Int:=
 if synSt s=true then (if s.Op=1 then loopE B U s else if s.Op=4 then ifE B sc s else storeE B sc s) else 5
structure Ck where
 U:List ByteArray
 W:List Int
 E:Int
def nextU (U:List ByteArray) (s:St):List ByteArray:=if s.Op=1 then U++[s.Name] else U
mutual
def chkS (B:List Bf):List ByteArray->List ByteArray->List Int->St->Ck
 |U,sc,here,.mk o nm mn mk fo i e b=>if stE B U sc (.mk o nm mn mk fo i e b)=0 then chkL B (nextU U (.mk o nm mn mk fo i e b)) (nextU sc (.mk o nm mn mk fo i e b)) here 0 b else ⟨[],here,stE B U sc (.mk o nm mn mk fo i e b)⟩
def chkL (B:List Bf):List ByteArray->List ByteArray->List Int->Int->List St->Ck
 |U,_,_,_,[]=>⟨U,[],0⟩
 |U,sc,way,i,s::r=>if (chkS B U sc (way++[i]) s).E=0 then chkL B (chkS B U sc (way++[i]) s).U sc way (i+1) r else chkS B U sc (way++[i]) s
end
theorem chkS_eq (B:List Bf) (U sc:List ByteArray) (here:List Int) (s:St):chkS B U sc here s=if stE B U sc s=0 then chkL B (nextU U s) (nextU sc s) here 0 s.Body else ⟨[],here,stE B U sc s⟩:=by cases s;rw [chkS];rfl
theorem chkS_no {B:List Bf} {U sc:List ByteArray} {here:List Int} {s:St} (h:¬stE B U sc s=0):chkS B U sc here s=⟨[],here,stE B U sc s⟩:=by rw [chkS_eq,if_neg h]
theorem chkS_in {B:List Bf} {U sc:List ByteArray} {here:List Int} {s:St} (h:stE B U sc s=0):chkS B U sc here s=chkL B (nextU U s) (nextU sc s) here 0 s.Body:=by rw [chkS_eq,if_pos h]
theorem zMr {B:List Bf} {R:Ck} {U sc:List ByteArray} {way:List Int} {l:List St} {k:Nat} {s:St} (h:l[k]? =some s) (hp:R=chkL B U sc way k (l.drop k)) (hx:(chkS B U sc (way++[(k:Int)]) s).E=0):R=chkL B (chkS B U sc (way++[(k:Int)]) s).U sc way ((k+1:Nat):Int) (l.drop (k+1)):=by
 rw [hp,qZ h,chkL,if_pos hx];rfl
theorem zDz {B:List Bf} {R:Ck} {U sc:List ByteArray} {way:List Int} {l:List St} {k:Nat} {s:St} (h:l[k]? =some s) (hp:R=chkL B U sc way k (l.drop k)) (hx:¬(chkS B U sc (way++[(k:Int)]) s).E=0):R=chkS B U sc (way++[(k:Int)]) s:=by
 rw [hp,qZ h,chkL,if_neg hx]
theorem zPw {B:List Bf} {R:Ck} {U sc:List ByteArray} {way:List Int} {l:List St} {k:Nat} (hp:R=chkL B U sc way k (l.drop k)) (h:¬k<l.length):R=⟨U,[],0⟩:=by
 rw [hp,kW h,chkL]
theorem chkL_ok:∀{B:List Bf} {l:List St} {U sc:List ByteArray} {way:List Int} {i:Int},(chkL B U sc way i l).E=0->(chkL B U sc way i l).W=[]
 |B,[],U,sc,way,i,_=>by rw [chkL]
 |B,s::r,U,sc,way,i,h=>by
  rw [chkL] at h⊢
  by_cases c:(chkS B U sc (way++[i]) s).E=0
  ·rw [if_pos c] at h⊢;exact chkL_ok h
  ·rw [if_neg c] at h;exact absurd h c
mutual
theorem chkS_len (B:List Bf):∀(s:St) (U sc:List ByteArray) (here:List Int),(chkS B U sc here s).U.length<=U.length+stN s
 |.mk o nm mn mk fo i e b,U,sc,here=>by
  rw [chkS,stN]
  split
  ·have h1:=chkL_len B b (nextU U (.mk o nm mn mk fo i e b)) (nextU sc (.mk o nm mn mk fo i e b)) here 0
   have h2:(nextU U (.mk o nm mn mk fo i e b)).length<=U.length+1:=by unfold nextU;split<;>simp
   omega
  ·simp
theorem chkL_len (B:List Bf):∀(l:List St) (U sc:List ByteArray) (way:List Int) (i:Int),(chkL B U sc way i l).U.length<=U.length+stsN l
 |[],U,sc,way,i=>by rw [chkL];simp
 |s::r,U,sc,way,i=>by
  rw [chkL,stsN]
  have h1:=chkS_len B s U sc (way++[i])
  split
  ·have h2:=chkL_len B r (chkS B U sc (way++[i]) s).U sc way (i+1)
   omega
  ·omega
end
theorem zLr {U:List ByteArray} {s:St} (h:s.Op=1):nextU U s=U++[s.Name]:=by unfold nextU;rw [if_pos h]
theorem zPj {U:List ByteArray} {s:St} (h:¬s.Op=1):nextU U s=U:=by unfold nextU;rw [if_neg h]
theorem scAll_next {S:List ByteArray} {f:Lf} {l:List Ix} {k:Nat} {x:Ix} (h:l[k]? =some x):((inSc S f&&(l.take k).all (ixSc S))&&inSc S x.Lin&&x.At.all (inSc S))=(inSc S f&&(l.take (k+1)).all (ixSc S)):=by
 rw [yN h,List.all_append]
 simp only [List.all_cons,List.all_nil,Bool.and_true,ixSc,Bool.and_assoc]
theorem st10_t {c:Bool} {a b:Ty} (h:(c|| !litsEq [cI a.Kind,cI a.Bits,cI a.Frac,cI a.Round,cI a.Over] [cI b.Kind,cI b.Bits,cI b.Frac,cI b.Round,cI b.Over])=true):c=true∨¬a=b:=by
 rw [tyC_eq,Bool.or_eq_true] at h
 rcases h with h|h
 ·exact .inl h
 ·exact .inr (by simpa using h)
theorem st10_f {c:Bool} {a b:Ty} (h:(c|| !litsEq [cI a.Kind,cI a.Bits,cI a.Frac,cI a.Round,cI a.Over] [cI b.Kind,cI b.Bits,cI b.Frac,cI b.Round,cI b.Over])=false):¬(c=true∨¬a=b):=by
 rw [tyC_eq,Bool.or_eq_false_iff] at h
 rw [h.1]
 rintro (k|k)
 ·cases k
 ·exact k (by simpa using h.2)
theorem storeE_1 {B:List Bf} {sc:List ByteArray} {s:St} (h:¬(exprT B sc (rdE s)).2=0):storeE B sc s=(exprT B sc (rdE s)).2:=by unfold storeE;rw [if_neg h]
theorem storeE_u {B:List Bf} {sc:List ByteArray} {s:St} (h:(exprT B sc (rdE s)).2=0) (h2:(bufD B s.Name).Use=1∨(s.Op=3/\(s.Fold<1∨4<s.Fold))):storeE B sc s=1:=by unfold storeE;rw [if_pos h,if_pos h2]
theorem storeE_2 {B:List Bf} {sc:List ByteArray} {s:St} (h:(exprT B sc (rdE s)).2=0) (h2:¬((bufD B s.Name).Use=1∨(s.Op=3/\(s.Fold<1∨4<s.Fold)))) (h3:¬(exprT B sc s.E).2=0):storeE B sc s=(exprT B sc s.E).2:=by unfold storeE;rw [if_pos h,if_neg h2,if_neg h3]
theorem storeE_10 {B:List Bf} {sc:List ByteArray} {s:St} (h:(exprT B sc (rdE s)).2=0) (h2:¬((bufD B s.Name).Use=1∨(s.Op=3/\(s.Fold<1∨4<s.Fold)))) (h3:(exprT B sc s.E).2=0) (h4:isCond s.E=true∨¬(exprT B sc s.E).1=(bufD B s.Name).T):storeE B sc s=10:=by unfold storeE;rw [if_pos h,if_neg h2,if_pos h3,if_pos h4]
theorem storeE_0 {B:List Bf} {sc:List ByteArray} {s:St} (h:(exprT B sc (rdE s)).2=0) (h2:¬((bufD B s.Name).Use=1∨(s.Op=3/\(s.Fold<1∨4<s.Fold)))) (h3:(exprT B sc s.E).2=0) (h4:¬(isCond s.E=true∨¬(exprT B sc s.E).1=(bufD B s.Name).T)):storeE B sc s=0:=by unfold storeE;rw [if_pos h,if_neg h2,if_pos h3,if_neg h4]
theorem loopE_7 {B:List Bf} {U:List ByteArray} {s:St} (h:isNameB s.Name=false):loopE B U s=7:=by unfold loopE;rw [if_neg (by rw [h];simp)]
theorem loopE_8 {B:List Bf} {U:List ByteArray} {s:St} (h:isNameB s.Name=true) (h2:hasBf B s.Name=true∨hasB U s.Name=true):loopE B U s=8:=by unfold loopE;rw [if_pos h,if_pos h2]
theorem loopE_1 {B:List Bf} {U:List ByteArray} {s:St} (h:isNameB s.Name=true) (h2:¬(hasBf B s.Name=true∨hasB U s.Name=true)) (h3:s.Many<1∨65536<s.Many∨s.Mark<0∨3<s.Mark):loopE B U s=1:=by unfold loopE;rw [if_pos h,if_neg h2,if_pos h3]
theorem loopE_0 {B:List Bf} {U:List ByteArray} {s:St} (h:isNameB s.Name=true) (h2:¬(hasBf B s.Name=true∨hasB U s.Name=true)) (h3:¬(s.Many<1∨65536<s.Many∨s.Mark<0∨3<s.Mark)):loopE B U s=0:=by unfold loopE;rw [if_pos h,if_neg h2,if_neg h3]
theorem ifE_x {B:List Bf} {sc:List ByteArray} {s:St} (h:¬(exprT B sc s.E).2=0):ifE B sc s=(exprT B sc s.E).2:=by unfold ifE;rw [if_neg h]
theorem ifE_10 {B:List Bf} {sc:List ByteArray} {s:St} (h:(exprT B sc s.E).2=0) (h2:isCond s.E=false):ifE B sc s=10:=by unfold ifE;rw [if_pos h,if_neg (by rw [h2];simp)]
theorem ifE_0 {B:List Bf} {sc:List ByteArray} {s:St} (h:(exprT B sc s.E).2=0) (h2:isCond s.E=true):ifE B sc s=0:=by unfold ifE;rw [if_pos h,if_pos h2]
theorem stE_5 {B:List Bf} {U sc:List ByteArray} {s:St} (h:synSt s=false):stE B U sc s=5:=by unfold stE;rw [if_neg (by rw [h];simp)]
theorem stE_l {B:List Bf} {U sc:List ByteArray} {s:St} (h:synSt s=true) (h2:s.Op=1):stE B U sc s=loopE B U s:=by unfold stE;rw [if_pos h,if_pos h2]
theorem stE_i {B:List Bf} {U sc:List ByteArray} {s:St} (h:synSt s=true) (h2:s.Op=4):stE B U sc s=ifE B sc s:=by unfold stE;rw [if_pos h,if_neg (by omega),if_pos h2]
theorem stE_s {B:List Bf} {U sc:List ByteArray} {s:St} (h:synSt s=true) (h2:¬s.Op=1) (h3:¬s.Op=4):stE B U sc s=storeE B sc s:=by unfold stE;rw [if_pos h,if_neg h2,if_neg h3]
def validN (n:Ns):List Int×Int:=
 if withinT 40 n.Body=true then (if 2000<numB n.Body 2000∨128<n.Bufs.length then ([],2) else if bufsErr [] n.Bufs=0 then ((chkL n.Bufs [] [] [] 0 n.Body).W,(chkL n.Bufs [] [] [] 0 n.Body).E) else ([],bufsErr [] n.Bufs)) else ([],13)
theorem zQn {n:Ns} (h:withinT 40 n.Body=false):validN n=([],13):=by unfold validN;rw [if_neg (by rw [h];simp)]
theorem validN_2 {n:Ns} (h:withinT 40 n.Body=true) (h2:2000<numB n.Body 2000∨128<n.Bufs.length):validN n=([],2):=by unfold validN;rw [if_pos h,if_pos h2]
theorem validN_b {n:Ns} (h:withinT 40 n.Body=true) (h2:¬(2000<numB n.Body 2000∨128<n.Bufs.length)) (h3:¬bufsErr [] n.Bufs=0):validN n=([],bufsErr [] n.Bufs):=by unfold validN;rw [if_pos h,if_neg h2,if_neg h3]
theorem zPa {n:Ns} (h:withinT 40 n.Body=true) (h2:¬(2000<numB n.Body 2000∨128<n.Bufs.length)) (h3:bufsErr [] n.Bufs=0):validN n=((chkL n.Bufs [] [] [] 0 n.Body).W,(chkL n.Bufs [] [] [] 0 n.Body).E):=by unfold validN;rw [if_pos h,if_neg h2,if_pos h3]
structure Ns.Ok (n:Ns):Prop where
 bufs:n.Bufs.length<=4294967296
 dims:∀b,b∈n.Bufs->b.Dims.length<=17592186044416
 body:stsWt n.Body<=536870912
end Go.Br
end
section
namespace Go.Br
open Go Go.Eng Go.L41
def idxE (i:List Ix):Ex:=.mk 0 (bs []) ⟨0,0⟩ ⟨0,0,0,0,0⟩ ⟨0,[]⟩ i []
theorem idxE_wt (i:List Ix):(idxE i).wt=1+i.length+idxWt i:=by
 rw [Ex.wt_eq];simp only [idxE,Ex.Lin,Ex.Idx,Ex.Args,argsWt,List.length_nil];omega
mutual
def weighS:St->Nat->Nat
 |.mk _ _ _ _ _ _ _ b,m=>weighSs b m b.length
def weighSs:List St->Nat->Nat->Nat
 |[],_,n=>n
 |s::r,m,n=>if n<=m then weighSs r m (n+weighE s.E m+weighE (idxE s.Idx) m+weighS s (m-n)) else n
end
def weighB (l:List St) (m:Nat):Nat:=weighSs l m l.length
theorem weighS_eq (s:St) (m:Nat):weighS s m=weighB s.Body m:=by cases s;rw [weighS];rfl
theorem weighSs_ge:∀(l:List St) (m n:Nat),n<=weighSs l m n
 |[],m,n=>by rw [weighSs];omega
 |s::r,m,n=>by
  rw [weighSs];split
  ·have:=weighSs_ge r m (n+weighE s.E m+weighE (idxE s.Idx) m+weighS s (m-n));omega
  ·omega
mutual
theorem weighS_wt:∀(s:St) (m:Nat),weighS s m<=m->stsWt s.Body<=weighS s m
 |.mk _ _ _ _ _ _ _ b,m,h=>by
  rw [weighS] at h⊢
  have:=zMy b m _ h
  have:=zAe b
  simp only [St.Body];omega
theorem zMy:∀(l:List St) (m n:Nat),weighSs l m n<=m->n+(stsWt l-l.length)<=weighSs l m n
 |[],m,n,h=>by simp [weighSs,stsWt]
 |s::r,m,n,h=>by
  by_cases hn:n<=m
  ·rw [weighSs,if_pos hn] at h⊢
   have h1:=weighSs_ge r m (n+weighE s.E m+weighE (idxE s.Idx) m+weighS s (m-n))
   have h2:=zMy r m _ h
   have h3:=zQf s.E m (by omega)
   have h4:=zQf (idxE s.Idx) m (by omega)
   have h5:=weighS_wt s (m-n) (by omega)
   have h6:=zAe r
   rw [idxE_wt] at h4
   rw [stsWt,List.length_cons,St.wt_eq];omega
  ·rw [weighSs,if_neg hn] at h;omega
end
theorem zQg {l:List St} {m:Nat} (h:weighB l m<=m):stsWt l<=weighB l m:=by
 unfold weighB at *
 have:=zMy l m _ h
 have:=zAe l
 omega
mutual
def St.fit:St->Prop
 |.mk _ _ _ _ _ i e b=>i.length<=140737488355328/\(∀x,x∈i->x.fit)/\e.fit/\b.length<=140737488355328/\fitS b
def fitS:List St->Prop
 |[]=>True
 |s::r=>s.fit/\fitS r
end
theorem zPq {l:List St} (h:fitS l):∀a,a∈l->a.fit:=by
 induction l with
 |nil=>intro a ha;cases ha
 |cons x r ih=>
  intro a ha
  rw [fitS] at h
  rcases List.mem_cons.1 ha with rfl|ha
  ·exact h.1
  ·exact ih h.2 a ha
theorem fitS_of {l:List St} (h:∀a,a∈l->a.fit):fitS l:=by
 induction l with
 |nil=>rw [fitS];trivial
 |cons x r ih=>rw [fitS];exact ⟨h x (by simp),ih fun a ha=>h a (by simp [ha])⟩
theorem St.fit_eq {s:St} (h:s.fit):s.Idx.length<=140737488355328/\(∀x,x∈s.Idx->x.fit)/\s.E.fit/\s.Body.length<=140737488355328/\fitS s.Body:=by
 cases s with
 |mk o n m k f i e b=>rw [St.fit] at h;exact h
theorem idxE_fit {i:List Ix} (h1:i.length<=140737488355328) (h2:∀x,x∈i->x.fit):(idxE i).fit:=by
 unfold idxE;rw [Ex.fit];exact ⟨by simp,h1,by simp,h2,trivial⟩
abbrev wB (m:Nat):Nat:=140737488355328+m*1125899906857624
mutual
theorem weighS_le:∀(s:St) (m:Nat),s.fit->m<=5000->weighS s m<=wB m
 |.mk o nm k f mn i e b,m,h,hm=>by
  rw [St.fit] at h
  obtain ⟨_,_,_,h1,h2⟩:=h
  rw [weighS]
  exact weighSs_le b m _ h2 hm (fun hb=>by cases b;exact absurd rfl hb;simp) (by unfold wB;omega)
theorem weighSs_le:∀(l:List St) (m n:Nat),fitS l->m<=5000->(l≠[]->1<=n)->n<=wB m->weighSs l m n<=wB m
 |[],m,n,_,_,_,h=>by rw [weighSs];exact h
 |s::r,m,n,hf,hm,h1,h=>by
  rw [fitS] at hf
  rw [weighSs]
  have h1:=h1 (by simp)
  obtain ⟨f1,f2,f3,_,_⟩:=St.fit_eq hf.1
  split
  ·rename_i hn
   have h3:=weighS_le s (m-n) hf.1 (by omega)
   have h4:=zFp s.E m f3
   have h5:=zFp (idxE s.Idx) m (idxE_fit f1 f2)
   refine weighSs_le r m _ hf.2 hm (fun _=>by omega) ?_
   unfold wB at *
   omega
  ·exact h
end
theorem weighSs_end {m n k:Nat} {l:List St} {N:Nat} {x:Int} (hp:N=weighSs (l.drop k) m n) (hx:x=m) (h:l.length<=k∨x<n):n=N:=by
 rw [hp]
 by_cases hk:k<l.length
 ·obtain ⟨a,ha⟩:=qY l k hk
  rw [qZ ha,weighSs,if_neg (by omega)]
 ·rw [kW hk,weighSs]
theorem weighSs_next {m n k:Nat} {l:List St} {N:Nat} {s:St} (hs:l[k]? =some s) (hp:N=weighSs (l.drop k) m n) (h:n<=m):N=weighSs (l.drop (k+1)) m (n+weighE s.E m+weighE (idxE s.Idx) m+weighB s.Body (m-n)):=by
 rw [hp,qZ hs,weighSs,if_pos h,weighS_eq]
theorem weigh_lt {m n:Nat} {l:List St} {k:Nat} {s:St} (hs:l[k]? =some s) (hf:fitS l) (hm:m<=5000) (hn:n<=m) (h1:1<=n):n+weighE s.E m+weighE (idxE s.Idx) m+weighB s.Body (m-n)<=wB m:=by
 have hs':=zPq hf s (zY hs)
 obtain ⟨f1,f2,f3,f4,f5⟩:=St.fit_eq hs'
 have h3:=weighS_le s (m-n) hs' (by omega)
 rw [weighS_eq] at h3
 have h4:=zFp s.E m f3
 have h5:=zFp (idxE s.Idx) m (idxE_fit f1 f2)
 unfold wB at *
 omega
/-! ## What the laws of layers 30,36 and 41 take for small -/
mutual
def shortL:List St->Bool
 |[]=>true
 |s::r=>shortT s&&shortL r
def shortT:St->Bool
 |.mk o n m k f i e b=>decide (n.size<=100)&&decide (i.length<=20)&&shortL b
end
theorem shortT_eq (s:St):shortT s=(decide (s.Name.size<=100)&&decide (s.Idx.length<=20)&&shortL s.Body):=by cases s;rw [shortT];rfl
theorem zRa:∀l:List St,shortL l=l.all shortT
 |[]=>by rw [shortL];rfl
 |s::r=>by rw [shortL,zRa r];rfl
def fewS (l:List St) (m:Nat):Bool:=decide (weighB l m<=m)&&shortL l
def fewBf (b:Bf):Bool:=decide (b.Dims.length<=20)&&decide (b.Name.size<=100)
def fewN (n:Ns) (m:Nat):Bool:=decide (n.Bufs.length<=150)&&n.Bufs.all fewBf&&fewS n.Body m
structure Ns.Fit (n:Ns):Prop where
 bufs:n.Bufs.length<=140737488355328
 dims:∀b,b∈n.Bufs->b.Dims.length<=17592186044416
 len:n.Body.length<=140737488355328
 body:fitS n.Body
theorem Ns.Fit.ok {n:Ns} (h:n.Fit) {m:Nat} (hm:m<=5000) (hb:n.Bufs.length<=150) (hw:weighB n.Body m<=m):n.Ok:=
 ⟨by omega,h.dims,by have:=zQg hw;omega⟩
end Go.Br
end
section
namespace Go.Br
open Go Go.Eng Go.L41
/-! ## For the reference's check -/
structure Bd where
 Name:ByteArray
 Val:Int
 deriving DecidableEq
def Bd.cells (x:Bd):List C:=[cS x.Name,cI x.Val]
theorem any_hasB (bd:List Bd) (s:ByteArray):(bd.any fun d=>decide (d.Name=s))=hasB (bd.map Bd.Name) s:=by
 unfold hasB;rw [List.any_map];rfl
theorem any_step {bd:List Bd} {i:Nat} {d:Bd} {s:ByteArray} (h:bd[i]? =some d):(((bd.take i).any fun d=>decide (d.Name=s))||decide (d.Name=s))=(bd.take (i+1)).any fun d=>decide (d.Name=s):=by
 rw [yN h,List.any_append];simp
theorem bound_no {l:List Lf} {sc:List ByteArray} {k j:Nat} {x:Lf} {m:Mono} (h:l[k]? =some x) (hm:x.L[j]? =some m) (c:hasB sc m.Name=false):l.all (inSc sc)=false:=by
 have:inSc sc x=false:=zKl hm (p:=fun y:Mono=>hasB sc y.Name) c
 exact zKl h this
theorem ixs_len (l:List Ix) (k:Nat):((l.take k).flatMap ixF).length<=l.length+idxWt l:=by
 have h1:∀l:List Ix,(l.flatMap ixF).length<=l.length+idxWt l:=by
  intro l
  induction l with
  |nil=>simp
  |cons x r ih=>
   rw [List.flatMap_cons,List.length_append,idxWt,Ix.wt,List.length_cons]
   simp only [ixF,List.length_cons];omega
 have h2:=h1 (l.take k)
 have h3:idxWt (l.take k)<=idxWt l:=by
  have:∀(l:List Ix) (k:Nat),idxWt (l.take k)<=idxWt l:=by
   intro l
   induction l with
   |nil=>intro k;simp [idxWt]
   |cons x r ih=>intro k;cases k with
    |zero=>simp [idxWt]
    |succ k=>rw [List.take_succ_cons,idxWt,idxWt];have:=ih k;omega
  exact this l k
 have h4:=List.length_take_le' k l
 omega
theorem node_sc (sc:List ByteArray) (e:Ex):([e.Lin].all (inSc sc)&&(e.Idx.flatMap ixF).all (inSc sc))=nodeSc sc e:=by
 unfold nodeSc
 congr 1
 ·simp
 ·rw [List.all_flatMap];rfl
theorem node_sc_f {sc:List ByteArray} {e:Ex} (c:(![e.Lin].all (inSc sc)|| !(e.Idx.flatMap ixF).all (inSc sc))=true):nodeSc sc e=false:=by
 rw [←Bool.not_and,node_sc] at c;simpa using c
theorem node_sc_t {sc:List ByteArray} {e:Ex} (c:(![e.Lin].all (inSc sc)|| !(e.Idx.flatMap ixF).all (inSc sc))=false):nodeSc sc e=true:=by
 rw [←Bool.not_and,node_sc] at c;simpa using c
theorem nonC_len:∀(arg_:List Ex) (ts:List Ty),(nonC arg_ ts).length<=arg_.length
 |[],_=>by simp [nonC]
 |_::_,[]=>by simp [nonC]
 |a::r,t::ts=>by
  have:=nonC_len r ts
  rw [nonC];split<;>simp<;>omega
theorem ki10_t {l:List Ty} (c:(decide (((l.map tyC).length:Int)=2)&& !litsEq [cI (tyAt l 0).Kind,cI (tyAt l 0).Bits,cI (tyAt l 0).Frac,cI (tyAt l 0).Round,cI (tyAt l 0).Over] [cI (tyAt l 1).Kind,cI (tyAt l 1).Bits,cI (tyAt l 1).Frac,cI (tyAt l 1).Round,cI (tyAt l 1).Over])=true):l.length=2/\¬tyAt l 0=tyAt l 1:=by
 rw [Bool.and_eq_true,decide_eq_true_eq,List.length_map] at c
 exact ⟨by omega,zGd c.2⟩
theorem ki10_f {l:List Ty} (c:(decide (((l.map tyC).length:Int)=2)&& !litsEq [cI (tyAt l 0).Kind,cI (tyAt l 0).Bits,cI (tyAt l 0).Frac,cI (tyAt l 0).Round,cI (tyAt l 0).Over] [cI (tyAt l 1).Kind,cI (tyAt l 1).Bits,cI (tyAt l 1).Frac,cI (tyAt l 1).Round,cI (tyAt l 1).Over])=false):¬(l.length=2/\¬tyAt l 0=tyAt l 1):=by
 rintro ⟨h1,h2⟩
 rw [Bool.and_eq_false_iff,decide_eq_false_iff_not,List.length_map] at c
 rcases c with c|c
 ·omega
 ·exact h2 (zGe c)
theorem ki_one {e:Ex} {l:List Ty} (h:partE e=0) (hl:l.length=e.Args.length) (h1:¬(e.Op=1∨e.Op=12∨e.Op=2∨e.Op=3)) (h2:isCond e=false):1<=(nonC e.Args l).length:=by
 have hr:=zPh h
 have hc:=conds_ok h
 obtain ⟨o1,o2⟩:=node_op (zBe h)
 have h13:e.Op<13:=by
  unfold isCond at h2
  simp only [Bool.and_eq_false_iff,decide_eq_false_iff_not] at h2
  omega
 generalize e.Args=A at hr hc hl
 have w:∀i,(e.Op=11->i≠0)->wantC e.Op i=false:=fun i hi=>by
  unfold wantC;simp only [Bool.or_eq_false_iff,Bool.and_eq_false_iff,decide_eq_false_iff_not]
  by_cases h11:e.Op=11
  ·have:=hi h11;omega
  ·omega
 unfold nArgs at hr
 match A,l,hl with
 |[],_,_=>
  exfalso
  simp only [List.length_nil] at hr
  split at hr
  ·omega
  ·split at hr
   ·simp at hr
   ·split at hr<;>simp at hr
 |[a],[t],_=>
  simp only [condsOk,Bool.and_true,beq_iff_eq] at hc
  have h11:e.Op≠11:=by rintro h11;rw [h11] at hr;simp at hr
  rw [w 0 (fun h=>absurd h h11)] at hc
  rw [nonC,if_neg (by rw [hc];simp)];simp
 |a::b::r,t::u::s,_=>
  simp only [condsOk,Bool.and_eq_true,beq_iff_eq] at hc
  have hb:=hc.2.1
  rw [w (0+1) (fun _=>by omega)] at hb
  rw [nonC]
  split
  ·rw [nonC,if_neg (by rw [hb];simp)];simp
  ·simp
 |[_],[],hl=>simp at hl
 |[_],_::_::_,hl=>simp at hl
 |_::_::_,[],hl=>simp at hl
 |_::_::_,[_],hl=>simp at hl
theorem map_bd {bd:List Bd} {s:St}:(bd++[(⟨s.Name,s.Many⟩:Bd)]).map Bd.Name=bd.map Bd.Name++[s.Name]:=by simp
theorem pln_1 {s:St} (c:((!decide (s.Op=1)&& !decide (s.Op=4))&& !isSto s)=true):false=synSt s:=by
 unfold synSt
 simp only [Bool.and_eq_true,Bool.not_eq_true'] at c
 simp only [c.1.1,c.1.2,c.2,Bool.or_self,Bool.false_and]
theorem pln_2 {s:St} (c:(((!decide (s.Op=1)&&(!decide (s.Many=0)|| !decide (s.Mark=0)))||(!decide (s.Op=3)&& !decide (s.Fold=0)))||(decide (s.Op=4)&& !decide (s.Name=bs [])))=true):false=synSt s:=by
 rw [Bool.or_eq_true,Bool.or_eq_true] at c
 rcases c with (c|c)|c
 ·exact syn_3 c
 ·exact syn_4 c
 ·exact syn_2 c
theorem pln_3 {s:St} (c:((!isSto s&&decide ((0:Int)<s.Idx.length))||(isSto s&&decide ((0:Int)<s.Body.length)))=true):false=synSt s:=by
 rw [Bool.or_eq_true] at c
 rcases c with c|c
 ·exact syn_5 c
 ·unfold synSt
  rw [Bool.and_eq_true,decide_eq_true_eq] at c
  have:decide ((s.Body.length:Int)=0)=false:=decide_eq_false (by omega)
  simp only [c.1,this,Bool.not_true,Bool.or_self,Bool.and_false]
theorem pln_4 {s:St} (c1:((!decide (s.Op=1)&& !decide (s.Op=4))&& !isSto s)=false) (c2:(((!decide (s.Op=1)&&(!decide (s.Many=0)|| !decide (s.Mark=0)))||(!decide (s.Op=3)&& !decide (s.Fold=0)))||(decide (s.Op=4)&& !decide (s.Name=bs [])))=false)
  (c3:((!isSto s&&decide ((0:Int)<s.Idx.length))||(isSto s&&decide ((0:Int)<s.Body.length)))=false):(!decide (s.Op=1)||decide (s.E=zEx))=synSt s:=by
 rw [Bool.or_eq_false_iff,Bool.or_eq_false_iff] at c2
 rw [Bool.or_eq_false_iff] at c3
 have h1:(decide (s.Op=1)||isSto s||decide (s.Op=4))=true:=by
  revert c1;cases decide (s.Op=1)<;>cases isSto s<;>cases decide (s.Op=4)<;>simp
 have h7:(!isSto s||decide ((s.Body.length:Int)=0))=true:=by
  have h:=c3.2
  rw [Bool.and_eq_false_iff,decide_eq_false_iff_not] at h
  rcases h with h|h
  ·rw [h];rfl
  ·rw [show decide ((s.Body.length:Int)=0)=true from decide_eq_true (by omega),Bool.or_true]
 unfold synSt emptyE
 simp only [h1,c2.1.1,c2.1.2,c2.2,c3.1,h7,Bool.not_false,Bool.true_and,Bool.and_true,Bool.not_and,Bool.not_not]
theorem st3_t {n:Int} {c:Bool} {a b:Ty} (h:(decide (n=0)&&(c|| !litsEq [cI a.Kind,cI a.Bits,cI a.Frac,cI a.Round,cI a.Over] [cI b.Kind,cI b.Bits,cI b.Frac,cI b.Round,cI b.Over]))=true):n=0/\(c=true∨¬a=b):=by
 rw [Bool.and_eq_true,decide_eq_true_eq] at h
 exact ⟨h.1,st10_t h.2⟩
theorem st3_f {n:Int} {c:Bool} {a b:Ty} (h:(decide (n=0)&&(c|| !litsEq [cI a.Kind,cI a.Bits,cI a.Frac,cI a.Round,cI a.Over] [cI b.Kind,cI b.Bits,cI b.Frac,cI b.Round,cI b.Over]))=false):n=0->¬(c=true∨¬a=b):=by
 intro h0
 rw [decide_eq_true h0,Bool.true_and] at h
 exact st10_f h
theorem st_fin {B:List Bf} {sc:List ByteArray} {s:St} (h:(exprT B sc (rdE s)).2=0) (h2:¬((bufD B s.Name).Use=1∨(s.Op=3/\(s.Fold<1∨4<s.Fold)))) (h3:(exprT B sc s.E).2=0->¬(isCond s.E=true∨¬(exprT B sc s.E).1=(bufD B s.Name).T)):storeE B sc s=(exprT B sc s.E).2:=by
 by_cases h4:(exprT B sc s.E).2=0
 ·rw [storeE_0 h h2 h4 (h3 h4),h4]
 ·exact storeE_2 h h2 h4
theorem if_t {B:List Bf} {sc:List ByteArray} {s:St} (c:(decide ((exprT B sc s.E).2=0)&& !isCond s.E)=true):ifE B sc s=10:=by
 rw [Bool.and_eq_true,decide_eq_true_eq] at c
 exact ifE_10 c.1 (by simpa using c.2)
theorem if_fin {B:List Bf} {sc:List ByteArray} {s:St} (c:(decide ((exprT B sc s.E).2=0)&& !isCond s.E)=false):ifE B sc s=(exprT B sc s.E).2:=by
 by_cases h:(exprT B sc s.E).2=0
 ·rw [decide_eq_true h,Bool.true_and] at c
  rw [ifE_0 h (by simpa using c),h]
 ·exact ifE_x h
theorem within_f {l:List St} (c:40<depS 41 l):withinT 40 l=false:=by
 cases h:withinT 40 l with
 |false=>rfl
 |true=>have h2:depS 41 l<=40:=(zHd 40 l).2 h;omega
theorem within_t {l:List St} (c:depS 41 l<=40):withinT 40 l=true:=(zHd 40 l).1 c
end Go.Br
end
section
namespace Go.Br
open Go Go.Eng Go.L41
def insW:List ByteArray->ByteArray->List ByteArray
 |[],s=>[s]
 |x::r,s=>if strLt x s=true then x::insW r s else if x=s then x::r else s::x::r
def insWs (l:List ByteArray) (m:List ByteArray):List ByteArray:=m.foldl insW l
def below (s:ByteArray) (x:ByteArray):Bool:=strLt x s
theorem zFv (x:ByteArray) (r:List ByteArray) (s:ByteArray):hasB (x::r) s=(decide (x=s)||hasB r s):=rfl
theorem insW_has (t:ByteArray):∀(l:List ByteArray) (s:ByteArray),hasB (insW l s) t=(hasB l t||decide (s=t))
 |[],s=>by simp [insW,hasB]
 |x::r,s=>by
  rw [insW]
  split
  ·rw [zFv,zFv,insW_has t r s,Bool.or_assoc]
  ·split
   ·rename_i h;subst h;rw [zFv];cases decide (x=t)<;>simp
   ·rw [zFv s,Bool.or_comm]
theorem insWs_has (t:ByteArray):∀(m l:List ByteArray),hasB (insWs l m) t=(hasB l t||hasB m t)
 |[],l=>by simp [insWs,hasB]
 |x::m,l=>by
  have:=insWs_has t m (insW l x)
  unfold insWs at *
  rw [List.foldl_cons,this,insW_has,zFv,Bool.or_assoc]
theorem hasB_mem {l:List ByteArray} {s:ByteArray}:hasB l s=true↔s∈l:=by
 unfold hasB;rw [List.any_eq_true]
 constructor
 ·rintro ⟨x,hx,h⟩;rw [decide_eq_true_eq] at h;rw [←h];exact hx
 ·intro h;exact ⟨s,h,by simp⟩
theorem hasB_congr {a b:List ByteArray} {s:ByteArray} (h:s∈a↔s∈b):hasB a s=hasB b s:=by
 rw [Bool.eq_iff_iff,hasB_mem,hasB_mem];exact h
end Go.Br
end
section
namespace Go.Br
open Go Go.Eng Go.L41
theorem compact_mem {α:Type} [DecidableEq α] [Inhabited α] (d:Array α) (m:Nat):∀i,i<m->d[i]! ∈Lib.compactUpTo d m:=by
 intro i
 induction i with
 |zero=>
  intro h
  unfold Lib.compactUpTo
  exact List.mem_map.2 ⟨0,List.mem_filter.2 ⟨List.mem_range.2 h,Lib.keeps_lt_one d 0 (by omega)⟩,rfl⟩
 |succ i ih=>
  intro h
  by_cases hk:d[i+1]! =d[i+1-1]!
  ·rw [hk];exact ih (by omega)
  ·unfold Lib.compactUpTo
   exact List.mem_map.2 ⟨i+1,List.mem_filter.2 ⟨List.mem_range.2 h,Lib.keeps_pos hk⟩,rfl⟩
theorem thin_mem {s:ByteArray} {l:List ByteArray} (h:s∈l):s∈thinB l:=by
 unfold thinB
 rw [mem_toB]
 rw [←mem_ofB] at h
 obtain ⟨i,hi,e⟩:=List.mem_iff_getElem.1 h
 have:=compact_mem (ofB l).toArray (ofB l).length i hi
 rw [getElem!_pos _ i (by simpa using hi)] at this
 unfold Lib.compact
 rw [←e];simpa using this
def indexW (e:Ex):List ByteArray:=insWs [] (namesA (nodes e))
theorem indexW_has (e:Ex) (t:ByteArray):hasB (indexW e) t=hasB (namesA (nodes e)) t:=by unfold indexW;rw [insWs_has];simp [hasB]
theorem indexT_has (e:Ex) (t:ByteArray):hasB (indexT e) t=hasB (namesA (nodes e)) t:=hasB_congr ⟨fun h=>mem_sortB.1 (mem_thinB h),fun h=>thin_mem (mem_sortB.2 h)⟩
theorem linsP_len:∀(l:List Lf) (i:Nat),((l.take i).flatMap namesF).length<=linsWt l
 |[],i=>by simp
 |x::r,0=>by simp
 |x::r,i+1=>by
  rw [List.take_succ_cons,List.flatMap_cons,List.length_append,linsWt]
  have:=linsP_len r i
  have:(namesF x).length=x.L.length:=by unfold namesF;rw [List.length_map]
  omega
theorem idxP_len:∀(l:List Ix) (i:Nat),(((l.take i).flatMap ixF).flatMap namesF).length<=idxWt l
 |[],i=>by simp
 |x::r,0=>by simp
 |x::r,i+1=>by
  rw [List.take_succ_cons,List.flatMap_cons,List.flatMap_append,List.length_append,idxWt]
  have h1:=idxP_len r i
  have h2:=linsP_len x.At x.At.length
  rw [List.take_length] at h2
  have h3:(namesF x.Lin).length=x.Lin.L.length:=by unfold namesF;rw [List.length_map]
  have h4:((ixF x).flatMap namesF).length=(namesF x.Lin).length+(x.At.flatMap namesF).length:=by
   show ((x.Lin::x.At).flatMap namesF).length=_
   rw [List.flatMap_cons,List.length_append]
  rw [Ix.wt];omega
end Go.Br
end
section
namespace Go.L41
open Go Go.Eng
structure Lifetime where
 Name:ByteArray
 From:Int
 To:Int
 Size:Int
def Lifetime.cells (x:Lifetime):List C:=[cS x.Name,cI x.From,cI x.To,cI x.Size]
abbrev vL (x:Lifetime):V:=.agg x.cells
theorem mget_mput {α:Type} (m:List (ByteArray×α)) (k k':ByteArray) (a:α):mget (mput m k a) k'=if k=k' then some a else mget m k':=by
 induction m with
 |nil=>simp [mput,mget]
 |cons p m ih=>
  obtain ⟨q,b⟩:=p
  simp only [mput]
  by_cases h:q=k
  ·subst h
   rw [if_pos rfl]
   simp only [mget]
   by_cases h2:q=k'<;>simp [h2]
  ·rw [if_neg h]
   simp only [mget,ih]
   by_cases h2:q=k'
   ·subst h2
    rw [if_pos rfl,if_neg (fun e=>h e.symm)]
    simp
   ·rw [if_neg h2,if_neg h2]
end Go.L41
end
section
namespace Go.Br
open Go Go.Eng Go.L41
theorem zDq (a b:List ByteArray) (s:ByteArray):hasB (a++b) s=(hasB a s||hasB b s):=by simp [hasB,List.any_append]
structure Sp where
 From:Int
 To:Int
theorem thin_len (l:List ByteArray):(thinB l).length<=l.length:=by
 unfold thinB toB
 rw [List.length_map]
 unfold Lib.compact Lib.compactUpTo
 rw [List.length_map]
 refine Nat.le_trans (List.length_filter_le _ _) ?_
 simp [ofB]
end Go.Br
end
section
namespace Go.Br
open Go Go.Eng Go.L41
/-! ## Statements in preorder,with their paths -/
mutual
def preS (here:List Int):St->List (St×List Int)
 |.mk o nm mn mk fo i e b=>(.mk o nm mn mk fo i e b,here)::preL here 0 b
def preL (way:List Int):Int->List St->List (St×List Int)
 |_,[]=>[]
 |i,s::r=>preS (way++[i]) s++preL way (i+1) r
end
theorem preS_eq (here:List Int) (s:St):preS here s=(s,here)::preL here 0 s.Body:=by cases s;rw [preS];rfl
theorem zKv (way:List Int):∀(a b:List St) (i:Int),preL way i (a++b)=preL way i a++preL way (i+a.length) b
 |[],b,i=>by simp [preL]
 |x::r,b,i=>by
  rw [List.cons_append,preL,preL,zKv way r b,List.append_assoc,List.length_cons]
  rw [show i+1+(r.length:Int)=i+((r.length+1:Nat):Int) by omega]
theorem preL_next {way:List Int} {l:List St} {k:Nat} {s:St} (h:l[k]? =some s):preL way 0 (l.take (k+1))=preL way 0 (l.take k)++preS (way++[(k:Int)]) s:=by
 have hk:=(List.getElem?_eq_some_iff.1 h).1
 rw [yN h,zKv,List.length_take,Nat.min_eq_left (by omega),Int.zero_add]
 simp [preL]
theorem preL_at {way:List Int} {l:List St} {k:Nat} {s:St} (h:l[k]? =some s):preL way 0 l=preL way 0 (l.take k)++(preS (way++[(k:Int)]) s++preL way ((k:Int)+1) (l.drop (k+1))):=by
 have hk:=(List.getElem?_eq_some_iff.1 h).1
 have e:l=l.take k++s::l.drop (k+1):=by rw [←qZ h,List.take_append_drop]
 have e2:=congrArg (preL way 0) e
 rw [zKv,List.length_take,Nat.min_eq_left (by omega),Int.zero_add,preL] at e2
 exact e2
theorem pre_at1 {way:List Int} {l:List St} {k:Nat} {s:St} (h:l[k]? =some s):preL way 0 l=preL way 0 (l.take k)++(s,way++[(k:Int)])::(preL (way++[(k:Int)]) 0 s.Body++preL way ((k:Int)+1) (l.drop (k+1))):=by
 rw [preL_at h,preS_eq];rfl
theorem pre_at2 {way:List Int} {l:List St} {k:Nat} {s:St} {pre suf:List (St×List Int)} {x:St×List Int} (h:l[k]? =some s) (hx:preL (way++[(k:Int)]) 0 s.Body=pre++x::suf):preL way 0 l=(preL way 0 (l.take k)++(s,way++[(k:Int)])::pre)++x::(suf++preL way ((k:Int)+1) (l.drop (k+1))):=by
 rw [pre_at1 h,hx];simp
mutual
theorem preS_len (here:List Int):∀s:St,(preS here s).length=stN s
 |.mk o nm mn mk fo i e b=>by rw [preS,stN,List.length_cons,zLp here b];omega
theorem zLp (way:List Int):∀(l:List St) (i:Int),(preL way i l).length=stsN l
 |[],i=>by rw [preL,stsN];rfl
 |s::r,i=>by rw [preL,stsN,List.length_append,preS_len,zLp way r]
end
theorem stsN_take {l:List St} {k:Nat} {s:St} (h:l[k]? =some s):stsN (l.take k)+(1+stsN s.Body)<=stsN l:=by
 have h2:stsN l=stsN (l.take k)+(stN s+stsN (l.drop (k+1))):=by
  rw [←stsN,←qZ h,←zKp,List.take_append_drop]
 have:=zKb s
 omega
def loopNm (s:St):List ByteArray:=if s.Op=1 then [s.Name] else []
theorem loopNm_len (s:St):(loopNm s).length<=1:=by unfold loopNm;split<;>simp
def isLoop (t:ByteArray) (s:St):Bool:=decide (s.Op=1)&&decide (s.Name=t)
def hitN (t:ByteArray) (x:St×List Int):Bool:=isLoop t x.1
def findA (t:ByteArray) (l:List (St×List Int)):Option (List Int):=(l.find? (hitN t)).map (·.2)
def findN (l:List St) (t:ByteArray):Option (List Int):=findA t (preL [] 0 l)
theorem findA_none {t:ByteArray} {l:List (St×List Int)} (h:l.any (hitN t)=false):findA t l=none:=by
 unfold findA
 rw [List.find?_eq_none.2 (fun x hx hh=>by
  rw [List.any_eq_false] at h
  exact h x hx hh)];rfl
theorem findA_some {t:ByteArray} {pre suf:List (St×List Int)} {x:St×List Int} (h:pre.any (hitN t)=false) (hx:hitN t x=true):findA t (pre++x::suf)=some x.2:=by
 unfold findA
 rw [List.find?_append,List.find?_eq_none.2 (fun y hy hh=>by
  rw [List.any_eq_false] at h
  exact h y hy hh),List.find?_cons_of_pos hx];rfl
theorem any_one {t:ByteArray} {pre:List (St×List Int)} {x:St×List Int} (h:pre.any (hitN t)=false) (hx:hitN t x=false):(pre++[x]).any (hitN t)=false:=by
 rw [List.any_append,h];simp [hx]
mutual
def fndS (t:ByteArray):St->Option (List Int)
 |.mk o nm mn mk fo i e b=>if isLoop t (.mk o nm mn mk fo i e b)=true then some [] else fndL t 0 b
def fndL (t:ByteArray):Int->List St->Option (List Int)
 |_,[]=>none
 |i,s::r=>match fndS t s with|some w=>some (i::w)|none=>fndL t (i+1) r
end
theorem findA_append (t:ByteArray) (a b:List (St×List Int)):findA t (a++b)=match findA t a with|some w=>some w|none=>findA t b:=by
 unfold findA
 rw [List.find?_append]
 cases List.find? (hitN t) a<;>rfl
mutual
theorem fndS_find (t:ByteArray):∀(s:St) (here:List Int),findA t (preS here s)=(fndS t s).map (here++ ·)
 |.mk o nm mn mk fo i e b,here=>by
  rw [preS,fndS]
  by_cases h:isLoop t (.mk o nm mn mk fo i e b)=true
  ·rw [if_pos h,findA,List.find?_cons_of_pos (by exact h)];simp
  ·rw [if_neg h]
   have:findA t ((.mk o nm mn mk fo i e b,here)::preL here 0 b)=findA t (preL here 0 b):=by
    unfold findA;rw [List.find?_cons_of_neg (by exact h)]
   rw [this,zSq t b here 0]
theorem zSq (t:ByteArray):∀(l:List St) (way:List Int) (i:Int),findA t (preL way i l)=(fndL t i l).map (way++ ·)
 |[],way,i=>by rw [preL,fndL];rfl
 |s::r,way,i=>by
  rw [preL,fndL,findA_append,fndS_find t s,zSq t r]
  cases fndS t s<;>simp
end
theorem findN_fnd (l:List St) (t:ByteArray):findN l t=fndL t 0 l:=by
 unfold findN;rw [zSq];cases fndL t 0 l<;>simp
theorem fndL_ne (t:ByteArray):∀(l:List St) (i:Int) (u:List Int),fndL t i l=some u->u≠[]
 |[],i,u,h=>by rw [fndL] at h;cases h
 |s::r,i,u,h=>by
  rw [fndL] at h
  cases c:fndS t s with
  |some w=>rw [c] at h;simp only [Option.some.injEq] at h;rw [←h];simp
  |none=>rw [c] at h;exact fndL_ne t r (i+1) u h
theorem findN_ne {t:ByteArray} {l:List St} {u:List Int} (h:findN l t=some u):u≠[]:=by rw [findN_fnd] at h;exact fndL_ne t l 0 u h
def ixsAll (P:Lf->Prop) (i:List Ix):Prop:=∀x,x∈i->P x.Lin/\∀l,l∈x.At->P l
mutual
def St.allF (P:Lf->Prop):St->Prop
 |.mk _ _ _ _ _ i e b=>ixsAll P i/\e.allF P/\allSs P b
def allSs (P:Lf->Prop):List St->Prop
 |[]=>True
 |s::r=>s.allF P/\allSs P r
end
theorem St.allF_eq {P:Lf->Prop} {s:St} (h:s.allF P):ixsAll P s.Idx/\s.E.allF P/\allSs P s.Body:=by cases s;rw [St.allF] at h;exact h
theorem allSs_of {P:Lf->Prop}:∀{l:List St},(∀s,s∈l->s.allF P)->allSs P l
 |[],_=>by rw [allSs];trivial
 |x::r,h=>by rw [allSs];exact ⟨h x (by simp),allSs_of fun s hs=>h s (by simp [hs])⟩
end Go.Br
end
section
namespace Go.Br
open Go Go.Eng Go.L41
def zSt:St:=.mk 0 (bs []) 0 0 0 [] zEx []
def trl:List Int->List St->List St->List St
 |[],_,out=>out
 |i::r,l,out=>if 0<=i/\i<l.length then trl r (l.getD i.toNat zSt).Body (out++[l.getD i.toNat zSt]) else []
def trailT (l:List St) (way:List Int):List St:=trl way l []
theorem trl_next {way:List Int} {k:Nat} {i:Int} {l:List St} {out R:List St} (h:way[k]? =some i) (hp:R=trl (way.drop k) l out) (hi:0<=i/\i<l.length):R=trl (way.drop (k+1)) (l.getD i.toNat zSt).Body (out++[l.getD i.toNat zSt]):=by
 rw [hp,qZ h,trl,if_pos hi]
theorem trl_no {way:List Int} {k:Nat} {i:Int} {l:List St} {out R:List St} (h:way[k]? =some i) (hp:R=trl (way.drop k) l out) (hi:¬(0<=i/\i<l.length)):R=[]:=by
 rw [hp,qZ h,trl,if_neg hi]
theorem trl_end {way:List Int} {k:Nat} {l:List St} {out R:List St} (hp:R=trl (way.drop k) l out) (h:¬k<way.length):R=out:=by
 rw [hp,kW h,trl]
theorem stD_get {l:List St} {i:Int} (h:0<=i/\i<l.length):l[i.toNat]? =some (l.getD i.toNat zSt):=by
 have:i.toNat<l.length:=by omega
 rw [List.getElem?_eq_getElem this,List.getD,List.getElem?_eq_getElem this];rfl
theorem trl_len:∀(way:List Int) (l out:List St),(trl way l out).length<=out.length+way.length
 |[],l,out=>by simp [trl]
 |i::r,l,out=>by
  rw [trl];split
  ·have:=trl_len r (l.getD i.toNat zSt).Body (out++[l.getD i.toNat zSt])
   simp only [List.length_append,List.length_cons,List.length_nil] at this⊢;omega
  ·simp
def bdNm (s:St):List Bd:=if s.Op=1 then [⟨s.Name,s.Many⟩] else []
def enclT (l:List St) (way:List Int):List Bd:=(trailT l way).dropLast.flatMap bdNm
theorem bdNm_yes {s:St} (h:s.Op=1):bdNm s=[⟨s.Name,s.Many⟩]:=by unfold bdNm;rw [if_pos h]
theorem bdNm_no {s:St} (h:¬s.Op=1):bdNm s=[]:=by unfold bdNm;rw [if_neg h]
theorem enc_step {l:List St} {way:List Int} {k:Nat} {s:St} (h:(trailT l way)[k]? =some s):((trailT l way).take (k+1)).flatMap bdNm=((trailT l way).take k).flatMap bdNm++bdNm s:=by
 rw [yN h,List.flatMap_append];simp
theorem enc_all {l:List St} {way:List Int} {k:Nat} (h:k=(trailT l way).length-1):((trailT l way).take k).flatMap bdNm=enclT l way:=by
 unfold enclT;rw [List.dropLast_eq_take,h]
theorem bdNm_len (s:St):(bdNm s).length<=1:=by unfold bdNm;split<;>simp
theorem enc_len:∀(l:List St),(l.flatMap bdNm).length<=l.length
 |[]=>by simp
 |x::r=>by rw [List.flatMap_cons,List.length_append,List.length_cons];have:=enc_len r;have:=bdNm_len x;omega
end Go.Br
end
section
namespace Go.Br
open Go Go.Eng Go.L41
/-! ## Numerals -/
def decB (n:Nat):ByteArray:=⟨(Lib.decDigits n).toArray⟩
def valD (l:List UInt8):Nat:=l.foldl (fun a c=>a*10+(c.toNat-48)) 0
theorem byte_dig {n:Nat} (h:n<10):(UInt8.ofNat (48+n)).toNat=48+n:=by
 rw [UInt8.toNat_ofNat'];omega
theorem dec_big {u:Nat} (h:¬u<10):Lib.decDigits u=Lib.decDigits (u/10)++[UInt8.ofNat (48+u%10)]:=by rw [Lib.decDigits,dif_neg h]
theorem valD_dec (u:Nat):valD (Lib.decDigits u)=u:=by
 induction u using Nat.strongRecOn with
 |_ u ih=>
  by_cases h:u<10
  ·rw [Lib.decDigits_one h]
   unfold valD
   simp only [List.foldl_cons,List.foldl_nil]
   rw [byte_dig h];omega
  ·rw [dec_big h]
   unfold valD at *
   rw [List.foldl_append,ih (u/10) (by omega)]
   simp only [List.foldl_cons,List.foldl_nil]
   rw [byte_dig (by omega)];omega
theorem decB_inj {j k:Nat} (h:decB j=decB k):j=k:=by
 unfold decB at h
 have h:=congrArg (fun b:ByteArray=>valD b.data.toList) h
 have h:valD (Lib.decDigits j)=valD (Lib.decDigits k):=h
 rw [valD_dec,valD_dec] at h;exact h
theorem nDig_le:∀(k u:Nat),1<=k->u<10^k->Lib.nDigits u<=k
 |0,u,h,_=>by omega
 |k+1,u,_,h=>by
  by_cases h1:u<10
  ·rw [Lib.nDigits_small h1];omega
  ·rw [Lib.nDigits_big h1]
   by_cases hk:k=0
   ·subst hk;omega
   ·have:=nDig_le k (u/10) (by omega) (by rw [Nat.pow_succ] at h;omega)
    omega
theorem zBu {n:Nat} (h:n<10^19):(decB n).size<=19:=by
 have:(decB n).size=(Lib.decDigits n).length:=by unfold decB;simp [ByteArray.size]
 rw [this,Lib.decDigits_length]
 exact nDig_le 19 n (by omega) h
def digS (n:Nat):List UInt8:=if n=0 then [] else Lib.decDigits n
theorem digS_step {n:Nat} (h:0<n):digS n=digS (n/10)++[UInt8.ofNat (48+n%10)]:=by
 unfold digS
 rw [if_neg (by omega)]
 by_cases h1:n<10
 ·rw [if_pos (by omega),Lib.decDigits_one h1,Nat.mod_eq_of_lt h1];rfl
 ·rw [if_neg (by omega),dec_big h1]
def digB (n:Nat):ByteArray:=⟨(digS n).toArray⟩
theorem digB_pos {n:Nat} (h:0<n):digB n=decB n:=by unfold digB digS decB;rw [if_neg (by omega)]
theorem dig_next {N:ByteArray} {n:Nat} {s:ByteArray} (h:0<n) (hp:N=digB n++s):N=digB (n/10)++(bs [UInt8.ofNat (48+n%10)]++s):=by
 rw [hp,←ByteArray.append_assoc]
 congr 1
 unfold digB
 rw [digS_step h]
 apply ByteArray.ext
 simp
theorem dig_end {N:ByteArray} {n:Nat} {s:ByteArray} (h:¬0<n) (hp:N=digB n++s):s=N:=by
 have h0:n=0:=by omega
 subst h0
 rw [hp]
 apply ByteArray.ext
 simp [digB,digS]
/-! ## The first free number -/
def nmK (base:ByteArray) (k:Nat):ByteArray:=if k=0 then base else base++decB k
theorem app_left {a b c:ByteArray} (h:a++b=a++c):b=c:=by
 have:=congrArg (fun x:ByteArray=>x.data.toList) h
 simp only [ByteArray.data_append,Array.toList_append] at this
 have:=List.append_cancel_left this
 apply ByteArray.ext
 exact Array.toList_inj.1 this
theorem decB_ne (k:Nat):(decB k).size≠0:=by
 have:(decB k).size=(Lib.decDigits k).length:=by unfold decB;simp [ByteArray.size]
 rw [this,Lib.decDigits_length]
 have:=Lib.nDigits_pos k;omega
theorem nmK_inj {base:ByteArray} {j k:Nat} (h:nmK base j=nmK base k):j=k:=by
 unfold nmK at h
 by_cases hj:j=0
 ·rw [if_pos hj] at h
  by_cases hk:k=0
  ·omega
  ·rw [if_neg hk] at h
   have:=congrArg ByteArray.size h
   rw [ByteArray.size_append] at this
   exact absurd (show (decB k).size=0 by omega) (decB_ne k)
 ·rw [if_neg hj] at h
  by_cases hk:k=0
  ·rw [if_pos hk] at h
   have:=congrArg ByteArray.size h
   rw [ByteArray.size_append] at this
   exact absurd (show (decB j).size=0 by omega) (decB_ne j)
  ·rw [if_neg hk] at h
   exact decB_inj (app_left h)
theorem nodup_len {α:Type} [DecidableEq α]:∀{l L:List α},l.Nodup->(∀x,x∈l->x∈L)->l.length<=L.length
 |[],_,_,_=>by simp
 |x::r,L,h,hs=>by
  rw [List.nodup_cons] at h
  have hx:=hs x (by simp)
  have:=nodup_len (l:=r) (L:=L.erase x) h.2 fun y hy=>by
   have hne:y≠x:=fun e=>h.1 (e ▸ hy)
   exact (List.mem_erase_of_ne hne).2 (hs y (by simp [hy]))
  rw [List.length_erase_of_mem hx] at this
  have:=List.length_pos_of_mem hx
  rw [List.length_cons];omega
theorem fresh_lt {L:List ByteArray} {base:ByteArray} {k:Nat} (h:∀j,j<k->hasB L (nmK base j)=true):k<=L.length:=by
 have:=nodup_len (l:=(List.range k).map (nmK base)) (L:=L) ?_ ?_
 ·simpa using this
 ·exact List.Pairwise.map _ (fun a b hab h=>hab (nmK_inj h)) List.nodup_range
 ·intro x hx
  obtain ⟨j,hj,rfl⟩:=List.mem_map.1 hx
  exact hasB_mem.1 (h j (List.mem_range.1 hj))
def freshK (L:List ByteArray) (base:ByteArray):Nat:=((List.range (L.length+1)).find? fun k=> !hasB L (nmK base k)).getD 0
def freshT (L:List ByteArray) (base:ByteArray):ByteArray:=nmK base (freshK L base)
theorem zMd {L:List ByteArray} {base:ByteArray} {k:Nat} (h:∀j,j<k->hasB L (nmK base j)=true) (hk:hasB L (nmK base k)=false):freshT L base=nmK base k:=by
 have hle:=fresh_lt h
 unfold freshT freshK
 have:(List.range (L.length+1)).find? (fun k=> !hasB L (nmK base k))=some k:=by
  rw [List.find?_range_eq_some]
  exact ⟨by rw [hk];rfl,List.mem_range.2 (by omega),fun j hj=>by rw [h j hj];rfl⟩
 rw [this];rfl
theorem fresh_is (L:List ByteArray) (base:ByteArray):(∀j,j<freshK L base->hasB L (nmK base j)=true)/\hasB L (freshT L base)=false:=by
 have hex:∃k,(∀j,j<k->hasB L (nmK base j)=true)/\hasB L (nmK base k)=false:=by
  apply Classical.byContradiction
  intro hn
  have hall:∀k,∀j,j<k->hasB L (nmK base j)=true:=by
   intro k
   induction k with
   |zero=>intro j hj;omega
   |succ k ih=>
    intro j hj
    by_cases h:j<k
    ·exact ih j h
    ·have:j=k:=by omega
     subst this
     cases hh:hasB L (nmK base j) with
     |true=>rfl
     |false=>exact absurd ⟨j,ih,hh⟩ hn
  have:=fresh_lt (hall (L.length+1))
  omega
 obtain ⟨k,h1,h2⟩:=hex
 have e:=zMd h1 h2
 have e2:freshK L base=k:=nmK_inj e
 rw [e,e2]
 exact ⟨h1,h2⟩
theorem fresh_congr {L M:List ByteArray} (h:∀t,hasB L t=hasB M t) (base:ByteArray):freshT L base=freshT M base:=by
 obtain ⟨h1,h2⟩:=fresh_is L base
 exact (zMd (fun j hj=>by rw [←h];exact h1 j hj) (by rw [←h];exact h2)).symm
theorem fresh_next {L:List ByteArray} {base:ByteArray} {k:Nat} (h:∀j,j<k->hasB L (nmK base j)=true) (hk:hasB L (nmK base k)=true):∀j,j<k+1->hasB L (nmK base j)=true:=by
 intro j hj
 by_cases hjk:j<k
 ·exact h j hjk
 ·rw [show j=k by omega];exact hk
theorem nmK_succ (base:ByteArray) (k:Nat):base++decB (k+1)=nmK base (k+1):=by unfold nmK;rw [if_neg (by omega)]
end Go.Br
end
section
namespace Go.Br
open Go Go.Eng Go.L41
/-! ## Sets of names -/
abbrev BM:=List (ByteArray×Bool)
def putB (m:BM) (t:ByteArray):BM:=mput m t true
theorem putB_get (u:ByteArray):∀(l:List ByteArray) (m:BM),mget (l.foldl putB m) u=if hasB l u=true then some true else mget m u
 |[],m=>by simp [hasB]
 |t::r,m=>by
  rw [List.foldl_cons,putB_get u r,zFv]
  unfold putB
  rw [mget_mput]
  by_cases h:t=u
  ·subst h;simp
  ·rw [if_neg h,decide_eq_false h,Bool.false_or]
theorem set_has (l:List ByteArray) (u:ByteArray):(mget (l.foldl putB []) u).getD false=hasB l u:=by
 rw [putB_get]
 by_cases h:hasB l u=true
 ·rw [if_pos h,h];rfl
 ·rw [if_neg h];simp only [mget,Option.getD_none];simpa using h
theorem set_next (m:BM) (l:List ByteArray) (t:ByteArray):putB (l.foldl putB m) t=(l++[t]).foldl putB m:=by rw [List.foldl_append];rfl
/-! ## Names in use -/
def namesI (i:List Ix):List ByteArray:=(i.flatMap ixF).flatMap namesF
def rdX (i:List Ix):Ex:=.mk 3 (bs []) ⟨0,0⟩ ⟨0,0,0,0,0⟩ ⟨0,[]⟩ i []
theorem rdX_names (i:List Ix):namesA (nodes (rdX i))=namesI i:=by
 rw [wJ]
 have:nodesL (rdX i).Args=[]:=rfl
 rw [this]
 simp [namesA,namesN,formsL,rdX,Ex.Lin,Ex.Idx,namesF,namesI,ixF]
def takHd (s:St):List ByteArray:=loopNm s++indexW (rdX s.Idx)++indexW s.E
mutual
def takS:St->List ByteArray
 |.mk o nm mn mk fo i e b=>takHd (.mk o nm mn mk fo i e b)++takL b
def takL:List St->List ByteArray
 |[]=>[]
 |s::r=>takS s++takL r
end
def markHd (s:St):List ByteArray:=loopNm s++indexT s.E++namesI s.Idx
def markA (l:List (St×List Int)):List ByteArray:=l.flatMap fun x=>markHd x.1
theorem zIi (a b:List (St×List Int)):markA (a++b)=markA a++markA b:=by unfold markA;rw [List.flatMap_append]
theorem markA_one (pre:List (St×List Int)) (x:St×List Int):markA (pre++[x])=markA pre++markHd x.1:=by rw [zIi];simp [markA]
theorem markHd_has (s:St) (t:ByteArray):hasB (markHd s) t=hasB (takHd s) t:=by
 unfold markHd takHd
 rw [zDq,zDq,zDq,zDq,indexT_has,indexW_has,indexW_has,rdX_names,Bool.or_assoc,Bool.or_assoc,Bool.or_comm (hasB (namesI s.Idx) t)]
mutual
theorem markS_has (t:ByteArray):∀(s:St) (here:List Int),hasB (markA (preS here s)) t=hasB (takS s) t
 |.mk o nm mn mk fo i e b,here=>by
  rw [preS,takS,zDq,←markHd_has,←zSf t b here 0,←zDq];rfl
theorem zSf (t:ByteArray):∀(l:List St) (way:List Int) (i:Int),hasB (markA (preL way i l)) t=hasB (takL l) t
 |[],way,i=>by rw [preL,takL];rfl
 |s::r,way,i=>by rw [preL,takL,zIi,zDq,zDq,markS_has t s,zSf t r]
end
def usedT (n:Ns):List ByteArray:=takL n.Body++n.Bufs.map Bf.Name
def usedP (n:Ns):List ByteArray:=n.Bufs.map Bf.Name++markA (preL [] 0 n.Body)
theorem used_has (n:Ns) (t:ByteArray):hasB (usedP n) t=hasB (usedT n) t:=by
 unfold usedP usedT
 rw [zDq,zDq,zSf,Bool.or_comm]
def freshN (n:Ns) (base:ByteArray):ByteArray:=freshT (usedT n) base
theorem freshP (n:Ns) (base:ByteArray):freshT (usedP n) base=freshN n base:=fresh_congr (used_has n) base
/-! ## Bounds and steps of the reference's lists -/
theorem dig_conv (m:Nat):bs [UInt8.ofNat (48+m%10)]=[IntKind.u8.wrap (48+Int.tmod (m:Int) 10)].foldl (fun r n=>r.push (UInt8.ofNat n.toNat)) ByteArray.empty:=by
 have h1:Int.tmod (m:Int) 10=((m%10:Nat):Int):=by rw [Int.tmod_eq_emod_of_nonneg (by omega)];omega
 have h2:IntKind.u8.wrap (48+((m%10:Nat):Int))=((48+m%10:Nat):Int):=by rw [IntKind.wrap_u8];omega
 rw [h1,h2];rfl
theorem dig_quo (m:Nat) (h:m<=4611686018427387904):IntKind.i64.wrap (Int.tdiv (m:Int) 10)=((m/10:Nat):Int):=by
 have h1:Int.tdiv (m:Int) 10=((m/10:Nat):Int):=by rw [Int.tdiv_eq_ediv_of_nonneg (by omega)];omega
 rw [h1];exact IntWalk.i64_in _ ⟨by omega,by omega⟩
theorem dig_rem (m:Nat):0<=Int.tmod (m:Int) 10/\Int.tmod (m:Int) 10<10:=by
 rw [Int.tmod_eq_emod_of_nonneg (by omega)];omega
theorem short_t {s:St} (c:((decide ((100:Int)<s.Name.size)||decide ((20:Int)<s.Idx.length))|| !shortL s.Body)=true):shortT s=false:=by
 rw [shortT_eq]
 rw [Bool.or_eq_true,Bool.or_eq_true,decide_eq_true_eq,decide_eq_true_eq] at c
 rcases c with (c|c)|c
 ·rw [decide_eq_false (show ¬s.Name.size<=100 by omega)];rfl
 ·rw [decide_eq_false (show ¬s.Idx.length<=20 by omega),Bool.and_false];rfl
 ·have:shortL s.Body=false:=by simpa using c
  rw [this,Bool.and_false]
theorem short_f {s:St} (c:((decide ((100:Int)<s.Name.size)||decide ((20:Int)<s.Idx.length))|| !shortL s.Body)=false):shortT s=true:=by
 rw [shortT_eq]
 rw [Bool.or_eq_false_iff,Bool.or_eq_false_iff,decide_eq_false_iff_not,decide_eq_false_iff_not] at c
 rw [decide_eq_true (show s.Name.size<=100 by omega),decide_eq_true (show s.Idx.length<=20 by omega)]
 simpa using c.2
theorem fewB_t {b:Bf} (c:(decide ((20:Int)<b.Dims.length)||decide ((100:Int)<b.Name.size))=true):fewBf b=false:=by
 unfold fewBf
 rw [Bool.or_eq_true,decide_eq_true_eq,decide_eq_true_eq] at c
 rcases c with c|c
 ·rw [decide_eq_false (show ¬b.Dims.length<=20 by omega)];rfl
 ·rw [decide_eq_false (show ¬b.Name.size<=100 by omega),Bool.and_false]
theorem fewB_f {b:Bf} (c:(decide ((20:Int)<b.Dims.length)||decide ((100:Int)<b.Name.size))=false):fewBf b=true:=by
 unfold fewBf
 rw [Bool.or_eq_false_iff,decide_eq_false_iff_not,decide_eq_false_iff_not] at c
 rw [decide_eq_true (show b.Dims.length<=20 by omega),decide_eq_true (show b.Name.size<=100 by omega)];rfl
theorem few_1 {n:Ns} {m:Nat} (h:150<n.Bufs.length):fewN n m=false:=by unfold fewN;rw [decide_eq_false (by omega)];rfl
theorem few_2 {n:Ns} {m k:Nat} {b:Bf} (h:n.Bufs[k]? =some b) (hb:fewBf b=false):fewN n m=false:=by unfold fewN;rw [zKl h hb,Bool.and_false];rfl
theorem few_3 {n:Ns} {m:Nat} (h:n.Bufs.length<=150) (hb:n.Bufs.all fewBf=true):fewS n.Body m=fewN n m:=by unfold fewN;rw [hb,decide_eq_true h];rfl
theorem few_parts {n:Ns} {m:Nat} (h:fewN n m=true):n.Bufs.length<=150/\n.Bufs.all fewBf=true/\weighB n.Body m<=m/\shortL n.Body=true:=by
 unfold fewN fewS at h
 simp only [Bool.and_eq_true,decide_eq_true_eq] at h
 exact ⟨h.1.1,h.1.2,h.2.1,h.2.2⟩
def rdZ (i:List Ix):Ex:=.mk 0 (bs []) ⟨0,0⟩ ⟨0,0,0,0,0⟩ ⟨0,[]⟩ i []
theorem rdZ_wt (i:List Ix):(rdZ i).wt=1+i.length+idxWt i:=by
 rw [Ex.wt_eq];simp only [rdZ,Ex.Lin,Ex.Idx,Ex.Args,argsWt,List.length_nil];omega
theorem markHd_len (s:St):(markHd s).length+stsWt s.Body<=s.wt:=by
 unfold markHd
 rw [List.length_append,List.length_append,St.wt_eq]
 have h1:=loopNm_len s
 have h2:(indexT s.E).length<=s.E.wt:=by
  unfold indexT
  have h1:=thin_len (sortB (namesA (nodes s.E)))
  have h2:=zQv (namesA (nodes s.E))
  have h3:=zJj s.E
  omega
 have h3:(namesI s.Idx).length<=idxWt s.Idx:=by
  have:=idxP_len s.Idx s.Idx.length
  rw [List.take_length] at this;exact this
 omega
mutual
theorem markS_len:∀(s:St) (here:List Int),(markA (preS here s)).length<=s.wt
 |.mk o nm mn mk fo i e b,here=>by
  have q:markA (preS here (.mk o nm mn mk fo i e b))=markHd (.mk o nm mn mk fo i e b)++markA (preL here 0 b):=by rw [preS];rfl
  rw [q,List.length_append]
  have h1:=markHd_len (.mk o nm mn mk fo i e b)
  have h2:=zSe b here 0
  simp only [St.Body] at h1
  omega
theorem zSe:∀(l:List St) (way:List Int) (i:Int),(markA (preL way i l)).length<=stsWt l
 |[],way,i=>by rw [preL];simp [markA]
 |s::r,way,i=>by rw [preL,stsWt,zIi,List.length_append];have:=markS_len s (way++[i]);have:=zSe r way (i+1);omega
end
theorem usedP_len (n:Ns):(usedP n).length<=stsWt n.Body+n.Bufs.length:=by
 unfold usedP
 rw [List.length_append,List.length_map]
 have:=zSe n.Body [] 0;omega
theorem mark_ix {i:List Ix} {k:Nat} {x:Ix} {m:BM} (h:i[k]? =some x):(x.At.flatMap namesF).foldl putB ((namesF x.Lin).foldl putB ((((i.take k).flatMap ixF).flatMap namesF).foldl putB m))=(((i.take (k+1)).flatMap ixF).flatMap namesF).foldl putB m:=by
 rw [yN h,List.flatMap_append,List.flatMap_append,List.foldl_append,←List.foldl_append]
 simp [ixF]
theorem mark_at {l:List Lf} {j:Nat} {x:Lf} {m:BM} (h:l[j]? =some x):(namesF x).foldl putB (((l.take j).flatMap namesF).foldl putB m)=((l.take (j+1)).flatMap namesF).foldl putB m:=by
 rw [yN h,List.flatMap_append,List.foldl_append]
 simp
theorem set_at {A L:List ByteArray} {k:Nat} {t:ByteArray} {m:BM} (h:L[k]? =some t):putB ((A++L.take k).foldl putB m) t=(A++L.take (k+1)).foldl putB m:=by
 rw [yN h,←List.append_assoc];exact set_next m (A++L.take k) t
end Go.Br
end
section
namespace Go.Br
open Go Go.Eng Go.L41
/-! ## One form: a name for a name -/
theorem exprT_parts {B:List Bf} {sc:List ByteArray} {e:Ex} (h:(exprT B sc e).2=0):validE e=0/\nodesN B sc (nodes e)=0:=by
 by_cases h1:validE e=0
 ·by_cases h2:nodesN B sc (nodes e)=0
  ·exact ⟨h1,h2⟩
  ·rw [exprT_2 h1 h2] at h;exact absurd h h2
 ·rw [exprT_1 h1] at h;exact absurd h h1
theorem zQm {n:Ns} (h:(validN n).2=0):withinT 40 n.Body=true/\¬(2000<numB n.Body 2000∨128<n.Bufs.length)/\bufsErr [] n.Bufs=0/\(chkL n.Bufs [] [] [] 0 n.Body).E=0:=by
 have h1:withinT 40 n.Body=true:=by
  cases c:withinT 40 n.Body with
  |true=>rfl
  |false=>rw [zQn c] at h;cases h
 have h2:¬(2000<numB n.Body 2000∨128<n.Bufs.length):=fun c=>by rw [validN_2 h1 c] at h;cases h
 have h3:bufsErr [] n.Bufs=0:=by
  by_cases c:bufsErr [] n.Bufs=0
  ·exact c
  ·rw [validN_b h1 h2 c] at h;exact absurd h c
 rw [zPa h1 h2 h3] at h
 exact ⟨h1,h2,h3,h⟩
theorem stE_name {B:List Bf} {U sc:List ByteArray} {s:St} (h:stE B U sc s=0) (ho:s.Op=1):isNameB s.Name=true:=by
 have hs:synSt s=true:=by
  cases c:synSt s with
  |true=>rfl
  |false=>rw [stE_5 c] at h;cases h
 rw [stE_l hs ho] at h
 cases c:isNameB s.Name with
 |true=>rfl
 |false=>rw [loopE_7 c] at h;cases h
end Go.Br
end
section
set_option maxRecDepth 100000
namespace Go.Br
open Go Go.Eng Go.L41
def lvnI:Ix:=⟨⟨0,[⟨bs [105],1⟩]⟩,bs [],[]⟩
def lvnE:Ex:=.mk 3 (bs [97]) ⟨0,0⟩ ⟨0,0,0,0,0⟩ ⟨0,[]⟩ [lvnI] []
def lvnS:St:=.mk 2 (bs [99]) 0 0 0 [lvnI] lvnE []
def lvnF:St:=.mk 1 (bs [105]) 2 0 0 [] zEx [lvnS]
def lvnT:Ty:=⟨1,0,0,0,0⟩
def lvN:Ns:=⟨[⟨bs [97],lvnT,[2],1⟩,⟨bs [99],lvnT,[2],2⟩],[lvnF]⟩
def lvM:Ns:=⟨[⟨bs [97],lvnT,[2],1⟩,⟨bs [99],lvnT,[2],1⟩],[lvnF]⟩
theorem lvN_wt:stsWt lvN.Body<=100/\stsWt lvM.Body<=100:=by decide+kernel
theorem lvN_valid:validN lvN=([],0)/\validN lvM=([0,0],1):=by decide+kernel
theorem lvN_find:findN lvN.Body (bs [105])=some [0]:=by decide+kernel
theorem lvN_encl:enclT lvN.Body [0,0]=[⟨bs [105],2⟩]:=by rfl
theorem lvN_size:stsN lvN.Body=2:=by decide+kernel
theorem lvN_fresh:freshN lvN (bs [105])=bs [105,49]:=by
 have e:nmK (bs [105]) 1=bs [105,49]:=by
  unfold nmK decB
  rw [if_neg (by omega),Lib.decDigits_one (by omega)];rfl
 unfold freshN
 rw [←e]
 refine zMd (k:=1) (fun j hj=>?_) ?_
 ·have:j=0:=by omega
  subst this
  have:nmK (bs [105]) 0=bs [105]:=if_pos rfl
  rw [this];decide+kernel
 ·rw [e];decide+kernel
theorem lvN_ok:lvN.Ok/\lvM.Ok:=by
 refine ⟨⟨by decide,fun b hb=>?_,by have:=lvN_wt;omega⟩,⟨by decide,fun b hb=>?_,by have:=lvN_wt;omega⟩⟩<;>
 ·simp only [lvN,lvM,List.mem_cons,List.not_mem_nil,or_false] at hb
  rcases hb with rfl|rfl<;>decide
noncomputable instance:DecidableEq St:=fun _ _=>Classical.propDecidable _
noncomputable instance:DecidableEq Ns:=fun _ _=>Classical.propDecidable _
theorem St.eq_iff {a b:St}:a=b↔a.Op=b.Op/\a.Name=b.Name/\a.Many=b.Many/\a.Mark=b.Mark/\a.Fold=b.Fold/\a.Idx=b.Idx/\a.E=b.E/\a.Body=b.Body:=by
 constructor
 ·rintro rfl;exact ⟨rfl,rfl,rfl,rfl,rfl,rfl,rfl,rfl⟩
 ·rintro ⟨h1,h2,h3,h4,h5,h6,h7,h8⟩
  rw [St.eta a,St.eta b,h1,h2,h3,h4,h5,h6,h7,h8]
theorem Ns.eq_iff {a b:Ns}:a=b↔a.Bufs=b.Bufs/\a.Body=b.Body:=by
 constructor
 ·rintro rfl;exact ⟨rfl,rfl⟩
 ·rintro ⟨h1,h2⟩;cases a;cases b;simp_all
end Go.Br
end
