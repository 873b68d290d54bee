/-
  Sorting and thinning of lists of strings that are the call's own: slices.Sort and slices.Compact,by the shelf's contracts.
  The names that an expression reads,in plain Lean.
  Sums of linear forms,exactly,in plain Lean: numbers of 64 and of 128 bits,merges of ascending lists,substitution.
  The reference's substitution of forms,in plain Lean: the sum,and the mapping of all forms of an expression.
  What the substitution of a form keeps,in plain Lean: valid forms stay valid,the name is gone,the shape of an expression stays.
  The comparison of expressions is a total order,in plain Lean.
  Layer 14 in plain Lean: short names,replacing,the names in forms,the example that every statement checks.
  Loop nests,in plain Lean: buffers,statements,and the cells that hold them.
  What the check of a nest says (30.1),in plain Lean.
  Weights of nests,in plain Lean.
  For the reference's check of nests,in plain Lean.
  Ascending lists of names,one name added at a time,in plain Lean.
  Names of index variables: both ways to list them give the same names.
  Lifetimes as plain data,and what the functions of the layer compute.
  Layer 41 in plain Lean: what statements touch; the spans of buffers.
  Nests walked and mapped,in plain Lean (30.2,30.3).
  Paths in nests,in plain Lean (30.2).
  Numerals,and the first number that is free.
  Names that are not in use,in plain Lean (30.2): numerals,and the first number that is free.
  A loop renamed to a name that is not in use,in plain Lean (30.3,30.5).
  Conditions: none.
-/
import Derived.Test.YtdldhbfgfkebjaaGreatDoorCfg
import Derived.Test.YtdldhbfgfkebjaaGreatDoorEngZ
import Derived.Test.YtdldhbfgfkebjaaGreatDoorShelfB
import Derived.Sort.OwnSorted
import Derived.Lib.OwnBridge
import Derived.Test.YtdldhbfgfkebjaaGreatDoorPlain
import Derived.Test.YtdldhbfgfkebjaaGreatDoorNames
import Derived.Lib.ItoaNum
set_option linter.unusedSimpArgs false
set_option linter.unusedVariables false
section
namespace Go.Br
open Go Go.Eng Go.RowKit Go.Proofs Go.L41
abbrev bV (l:List ByteArray):List (List C):=l.map fun s=>[cS s]
def toB (l:List (List UInt8)):List ByteArray:=l.map fun x=>⟨x.toArray⟩
def ofB (l:List ByteArray):List (List UInt8):=l.map (·.data.toList)
def lC (l:List ByteArray):List ByteArray:=toB ((ofB l).mergeSort fun x y=>decide (x<=y))
def lA (l:List ByteArray):List ByteArray:=toB (Lib.compact (ofB l))
theorem ofB_enc (l:List ByteArray):(ofB l).map encStr=l.map Value.string:=Lib.map_encStr l
theorem toB_enc (l:List (List UInt8)):l.map encStr=(toB l).map Value.string:=by
 unfold toB;rw [List.map_map];rfl
theorem sortB_len (l:List ByteArray):(lC l).length=l.length:=by simp [lC,toB,ofB,List.length_mergeSort]
theorem flat_str (l:List ByteArray):(bV l).flatten=l.map fun s=>cS s:=by
 induction l with
 |nil=>rfl
 |cons x r ih=>show cS x::(bV r).flatten=_;rw [ih];rfl
theorem reps_str {w:World} {I:Nat->Prop}:∀{l:List ByteArray} {xs:List Value},CReps w I (l.map fun s=>cS s) xs->xs=l.map Value.string
 |[],_,.nil=>rfl
 |x::l,_,.cons h t=>by
  have e:=reps_str t
  cases h with
  |lit _ _=>rw [e];rfl
theorem str_reps {w:World} {I:Nat->Prop}:∀l:List ByteArray,CReps w I (l.map fun s=>cS s) (l.map Value.string)
 |[]=>.nil
 |x::l=>.cons (.lit _ rfl) (str_reps l)
theorem rep_str {w:World} {I:Nat->Prop} {sv:Value} {t:TypeId} {l:List ByteArray} (h:w.ownsRow 0 t 1 sv l.length (l.map Value.string)) (hb:svB sv≠[]):ERep w I (.vec sv t 1 (bV l)):=by
 refine .inr ⟨hb,l.map Value.string,?_,?_,fun r hr=>?_⟩
 ·rw [show (bV l).length=l.length by simp];exact h
 ·rw [flat_str];exact str_reps l
 ·obtain ⟨x,_,rfl⟩:=List.mem_map.1 hr;rfl
theorem zSh {w:World} {I:Nat->Prop} {sv:Value} {t:TypeId} {l:List ByteArray} (h:ERep w I (.vec sv t 1 (bV l))):(∃a,sv=.slice a 0 0/\l=[])∨(svB sv≠[]/\w.ownsRow 0 t 1 sv l.length (l.map Value.string)):=by
 rcases h with ⟨a,h1,h2⟩|⟨h1,xs,h2,h3,h4⟩
 ·exact .inl ⟨a,h1,by simpa using h2⟩
 ·rw [flat_str] at h3
  rw [reps_str h3,show (bV l).length=l.length by simp] at h2
  exact .inr ⟨h1,h2⟩
theorem sort_con (sv:Value) (l:List ByteArray) (hl:l.length<=4294967296):Con cfg 175 [.c (.lit sv)] [.vec sv 9 1 (bV l)] fun r μ'=>r=.tup []/\μ'=[.vec sv 9 1 (bV (lC l))]:=by
 intro w I vs hH ha
 match vs,ha with
 |[v],ha=>
  have e:v=sv:=by cases (ha.1:CRep w I (.lit sv) v) with|lit _ _=>rfl
  subst e
  have hrep:=hH.rep _ (List.mem_singleton.2 rfl)
  rcases zSh hrep with ⟨a,rfl,rfl⟩|⟨hb,hown⟩
  ·refine (Tryz.slices_Sort_string_none a 0 w).mono ?_
   rintro en w' ⟨rfl,rfl⟩
   have e2:lC []=[]:=by simp [lC,ofB,toB]
   refine ⟨_,_,_,I,rfl,⟨rfl,by rw [e2]⟩,⟨[],rfl,trivial⟩,hH,Ext.refl _ _ _⟩
  ·have hne:v≠ .slice none 0 0:=by rintro rfl;exact hb rfl
   have hown':=hown
   rw [←ofB_enc] at hown'
   obtain ⟨g,cap,rfl,hbg,hgl,hncap,hcm,hlen,hHo⟩:=Lib.holds_of_ownsRow hown' hne
   obtain ⟨_,hcase⟩:=hown
   rcases hcase with ⟨h0,_⟩|⟨g',cap',cur,hv,_,hcur,hn2,hm2,hcs,htk⟩
   ·exact absurd h0 hne
   ·injection hv with e1 e2 e3
    injection e1 with e1
    injection e1 with e1 _ _
    subst e1 e3
    have hss:(ofB l).length=l.length:=by simp [ofB]
    have hcall:=Tryz.slices_Sort_string g 0 cap (ofB l) w hHo hgl (by omega)
    rw [hss] at hcall
    refine hcall.mono ?_
    rintro en w' ⟨rfl,n,os,rfl⟩
    have hts:((ofB l).mergeSort fun x y=>decide (x<=y)).length=(ofB l).length:=List.length_mergeSort _
    have hs:=ownsRow_sorted (n:=n) (os:=os) (ts:=(ofB l).mergeSort fun x y=>decide (x<=y)) hts (Nat.zero_le g) hcur (by omega) hm2 hcs
    rw [toB_enc,hss] at hs
    have hlen2:(lC l).length=l.length:=by simp [lC,toB,hts,hss]
    have hgr:=grownBy_sorted (w:=w) (g:=g) (n:=n) (os:=os) ((ofB l).mergeSort fun x y=>decide (x<=y)).toArray
    have hrep2:ERep (Sort.grow (Sort.putRow encStr (Sort.ahead w n) g 0 ((ofB l).mergeSort fun x y=>decide (x<=y)).toArray) os) I (.vec (.slice (some ⟨g,0,none⟩) l.length cap) 9 1 (bV (lC l))):=by
     refine rep_str ?_ hb
     rw [hlen2];exact hs
    obtain ⟨hH',hx'⟩:=Heap.write (w':=Sort.grow (Sort.putRow encStr (Sort.ahead w n) g 0 ((ofB l).mergeSort fun x y=>decide (x<=y)).toArray) os) hH (p:=0) (en:=.vec (.slice (some ⟨g,0,none⟩) l.length cap) 9 1 (bV l)) (en':=.vec (.slice (some ⟨g,0,none⟩) l.length cap) 9 1 (bV (lC l))) rfl hgr.os hgr.tape hgr.output hgr.size
     (fun b hb1 hb2=>hgr.block b hb1 (fun e=>by
      injection e with e
      apply hb2
      have hin:svB (.slice (some ⟨g,0,none⟩) l.length cap)≠[]:=hb
      subst e
      exact zRx hin rfl)) (by have h:=hH.nodup;simp only [bB,List.flatMap_cons,List.flatMap_nil,List.append_nil] at h;exact h) (fun b h=>.inl h) trivial hrep2
    exact ⟨_,_,_,I,rfl,⟨rfl,rfl⟩,⟨[],rfl,trivial⟩,hH',hx'⟩
theorem thin_con (sv:Value) (l:List ByteArray) (hl:l.length<=4294967296):Con cfg 176 [.c (.lit sv)] [.vec sv 9 1 (bV l)] fun r μ'=>∃sv',r=.c (.lit sv')/\μ'=[.vec sv' 9 1 (bV (lA l))]:=by
 intro w I vs hH ha
 match vs,ha with
 |[v],ha=>
  have e:v=sv:=by cases (ha.1:CRep w I (.lit sv) v) with|lit _ _=>rfl
  subst e
  have hrep:=hH.rep _ (List.mem_singleton.2 rfl)
  rcases zSh hrep with ⟨a,rfl,rfl⟩|⟨hb,hown⟩
  ·refine (Tryz.slices_Compact_string_empty a 0 w).mono ?_
   rintro en w' ⟨rfl,rfl⟩
   have e2:lA []=[]:=by simp [lA,ofB,toB,Lib.compact,Lib.compactUpTo]
   exact ⟨_,_,_,I,rfl,⟨_,rfl,by rw [e2]⟩,CRep.lit _ rfl,hH,Ext.refl _ _ _⟩
  ·have hne:v≠ .slice none 0 0:=by rintro rfl;exact hb rfl
   have hown':=hown
   rw [←ofB_enc] at hown'
   obtain ⟨g,cap,rfl,hbg,hgl,hncap,hcm,hlen,hHo⟩:=Lib.holds_of_ownsRow hown' hne
   have hss:(ofB l).length=l.length:=by simp [ofB]
   have hcall:=Tryz.slices_Compact_string g 0 cap (ofB l) w hHo (by omega) (by omega)
   rw [hss] at hcall
   refine hcall.mono ?_
   rintro en w' ⟨rfl,q,hw'⟩
   have hcl:=Lib.compact_length_le (ofB l)
   have hs:=Lib.ownsRow_putRow (q:=q) (k:=(Lib.compact (ofB l)).length) (ys:=Lib.compact (ofB l)++List.replicate (l.length-(Lib.compact (ofB l)).length) []) hown' (by simp;omega) (by omega)
   rw [List.take_left' rfl,toB_enc,←hw'] at hs
   have hlen2:(lA l).length=(Lib.compact (ofB l)).length:=by simp [lA,toB]
   have hgr:=grownBy_sorted (w:=w) (g:=g) (n:=q) (os:= #[]) (Lib.compact (ofB l)++List.replicate (l.length-(Lib.compact (ofB l)).length) []).toArray
   rw [Sort.grow_empty,←hw'] at hgr
   clear hw' hown' hHo hcall
   obtain ⟨c,hc⟩:∃c,cap=c+1:=by
    cases cap with
    |zero=>exact absurd rfl hb
    |succ c=>exact ⟨c,rfl⟩
   subst hc
   have hrep2:ERep w' I (.vec (.slice (some ⟨g,0,none⟩) (Lib.compact (ofB l)).length (c+1)) 9 1 (bV (lA l))):=by
    refine rep_str ?_ (by simp [svB])
    rw [hlen2];exact hs
   obtain ⟨hH',hx'⟩:=Heap.write (w':=w') hH (p:=0) (en:=.vec (.slice (some ⟨g,0,none⟩) l.length (c+1)) 9 1 (bV l)) (en':=.vec (.slice (some ⟨g,0,none⟩) (Lib.compact (ofB l)).length (c+1)) 9 1 (bV (lA l))) rfl hgr.os hgr.tape hgr.output hgr.size
    (fun b hb1 hb2=>hgr.block b hb1 (fun e=>by
     injection e with e
     apply hb2
     have hin:svB (.slice (some ⟨g,0,none⟩) l.length (c+1))≠[]:=hb
     subst e
     exact zRx hin rfl)) (by simp [E.blocks,svB]) (fun b h=>.inl h) trivial hrep2
   exact ⟨_,_,_,I,rfl,⟨_,rfl,rfl⟩,CRep.lit _ rfl,hH',hx'⟩
end Go.Br
end
section
namespace Go.Br
open Go Go.Eng Go.L41
def jG (x:Ix):List ByteArray:=if x.From=bs [] then [] else [x.From]
def bP (l:List Ix):List ByteArray:=l.flatMap jG
def fN (x:Ex):List ByteArray:=if x.Op=3 then [x.Name] else []
def pD (x:Ex):List ByteArray:=fN x++bP x.Idx
def bQ (l:List Ex):List ByteArray:=l.flatMap pD
def fV (e:Ex):List ByteArray:=lA (lC (bQ (bH e)))
theorem zAt {l:List Ix} {k:Nat} {x:Ix} (h:l[k]? =some x):bP (l.take (k+1))=bP (l.take k)++jG x:=by unfold bP;rw [yD h,List.flatMap_append];simp
theorem zGg (pre:List Ex) (x:Ex):bQ (pre++[x])=bQ pre++fN x++bP x.Idx:=by unfold bQ;rw [List.flatMap_append];simp [pD,List.append_assoc]
theorem mem_toB {s:ByteArray} {l:List (List UInt8)}:s∈toB l↔s.data.toList∈l:=by
 unfold toB
 rw [List.mem_map]
 constructor
 ·rintro ⟨x,hx,rfl⟩;simpa using hx
 ·intro h;exact ⟨_,h,by cases s;simp⟩
theorem mem_ofB {s:ByteArray} {l:List ByteArray}:s.data.toList∈ofB l↔s∈l:=by
 unfold ofB
 rw [List.mem_map]
 constructor
 ·rintro ⟨x,hx,e⟩
  have:x=s:=by cases x;cases s;congr 1;exact Array.toList_inj.1 e
  rw [←this];exact hx
 ·intro h;exact ⟨s,h,rfl⟩
theorem mem_sortB {s:ByteArray} {l:List ByteArray}:s∈lC l↔s∈l:=by
 unfold lC;rw [mem_toB,List.mem_mergeSort,mem_ofB]
theorem mem_thinB {s:ByteArray} {l:List ByteArray} (h:s∈lA l):s∈l:=by
 unfold lA at h
 rw [mem_toB] at h
 rw [←mem_ofB]
 unfold Lib.compact Lib.compactUpTo at h
 obtain ⟨i,hi,e⟩:=List.mem_map.1 h
 have hi2:=(List.mem_filter.1 hi).1
 have hlt:=List.mem_range.1 hi2
 rw [←e,getElem!_pos _ i (by simpa using hlt)]
 simp
theorem zEo (x:Ex):(fN x).length<=1:=by unfold fN;split<;>simp
theorem readsI_len (l:List Ix):(bP l).length<=l.length:=by
 induction l with
 |nil=>simp [bP]
 |cons x r ih=>
  have:bP (x::r)=jG x++bP r:=rfl
  rw [this,List.length_append,List.length_cons]
  have:(jG x).length<=1:=by unfold jG;split<;>simp
  omega
theorem zDr (l:List Ix) (k:Nat):(bP (l.take k)).length<=l.length:=by
 have:=readsI_len (l.take k);have:=List.length_take_le' k l;omega
theorem zGh (e:Ex):(bQ (bH e)).length<=2*e.wt:=by
 have key:∀l:List Ix,(bP l).length<=l.length:=by
  intro l
  induction l with
  |nil=>simp [bP]
  |cons x r ih=>
   have:bP (x::r)=jG x++bP r:=rfl
   rw [this,List.length_append,List.length_cons]
   have:(jG x).length<=1:=by unfold jG;split<;>simp
   omega
 have node:∀x:Ex,(pD x).length<=1+x.Idx.length:=fun x=>by
  unfold pD;rw [List.length_append]
  have h1:=key x.Idx
  have h2:(fN x).length<=1:=by unfold fN;split<;>simp
  omega
 induction e using Ex.ind with
 |_ e ih=>
  rw [zAl,Ex.wt_eq]
  have h1:=node e
  have e1:bQ (e::bJ e.Args)=pD e++bQ (bJ e.Args):=rfl
  rw [e1,List.length_append]
  have h2:∀l:List Ex,(∀a,a∈l->(bQ (bH a)).length<=2*a.wt)->(bQ (bJ l)).length<=2*dK l:=by
   intro l
   induction l with
   |nil=>intro _;simp [bQ,bJ,dK]
   |cons a r ih2=>
    intro h
    have h3:=h a (by simp)
    have h4:=ih2 fun b hb=>h b (by simp [hb])
    have e2:bQ (bJ (a::r))=bQ (bH a)++bQ (bJ r):=by rw [bJ];unfold bQ;rw [List.flatMap_append]
    rw [e2,List.length_append,dK];omega
  have h5:=h2 e.Args ih
  omega
theorem zOl {e:Ex} {pre suf:List Ex} (h:bH e=pre++suf):(bQ pre).length<=2*e.wt:=by
 have h1:=zGh e
 have e1:bQ (bH e)=bQ pre++bQ suf:=by rw [h];unfold bQ;rw [List.flatMap_append]
 rw [e1,List.length_append] at h1;omega
end Go.Br
end
section
namespace Go.Br
open Go Go.Eng Go.L41
/-! ## The order of names -/
def r64 (n:Int):Prop:= -9223372036854775808<=n/\n<=9223372036854775807
instance (n:Int):Decidable (r64 n):=by unfold r64;infer_instance
def hiN (a b:Nat):Nat:=
 (a/4294967296)*(b/4294967296)+((a/4294967296)*(b%4294967296)+((a%4294967296)*(b%4294967296))/4294967296)/4294967296+
  ((a%4294967296)*(b/4294967296)+((a/4294967296)*(b%4294967296)+((a%4294967296)*(b%4294967296))/4294967296)%4294967296)/4294967296
def Lf.rng (l:Lf):Prop:=r64 l.K/\∀m,m∈l.L->r64 m.By
end Go.Br
end
section
namespace Go.Br
open Go Go.Eng Go.L41
end Go.Br
end
section
namespace Go.Br
open Go Go.Eng Go.L41
/-! ## Ascending triples -/
end Go.Br
end
section
namespace Go.Br
open Go Go.Eng Go.Proofs Go.L41
structure PO {α:Type} (f:α->α->Int) (a:α):Prop where
 anti:∀b,f b a= -f a b
 rng:∀b,-1<=f a b/\f a b<=1
 cong:∀b,f a b=0->∀c,f a c=f b c
 cong':∀b c,f b c=0->f a b=f a c
 trans:∀b c,f a b<0->f b c<0->f a c<0
theorem PO.zero {α:Type} (a:α):PO (fun _ _=>0) a:=
 ⟨fun _=>rfl,fun _=>⟨by show (-1:Int)<=0;omega,by show (0:Int)<=1;omega⟩,fun _ _ _=>rfl,fun _ _ _=>rfl,fun _ _ h _=>h⟩
end Go.Br
end
section
namespace Go.Br
open Go Go.Eng Go.L41
/-! ## Short names -/
theorem nodes_take {e x:Ex} {k:Nat} (h:e.Args[k]? =some x):(bJ (e.Args.take k)).length+(bH x).length+1<=(bH e).length:=by
 have:=congrArg List.length (nodes_at h (x:=x) (pre:=[]) (suf:=bJ x.Args) (by rw [zAl];rfl))
 rw [zAl x]
 simp only [List.length_append,List.length_cons,List.length_nil] at this⊢
 omega
/-! ## Replacing -/
end Go.Br
end
section
namespace Go.Br
open Go Go.Eng Go.L41
structure Bf where
 Name:ByteArray
 T:Ty
 Dims:List Int
 Use:Int
 deriving DecidableEq
inductive St where
 |mk (op:Int) (name:ByteArray) (many rI fold:Int) (idx:List Ix) (ex:Ex) (body:List St)
namespace St
def Op:St->Int|mk x _ _ _ _ _ _ _=>x
def Name:St->ByteArray|mk _ x _ _ _ _ _ _=>x
def Many:St->Int|mk _ _ x _ _ _ _ _=>x
def Mark:St->Int|mk _ _ _ x _ _ _ _=>x
def Fold:St->Int|mk _ _ _ _ x _ _ _=>x
def Idx:St->List Ix|mk _ _ _ _ _ x _ _=>x
def E:St->Ex|mk _ _ _ _ _ _ x _=>x
def Body:St->List St|mk _ _ _ _ _ _ _ x=>x
theorem eta (s:St):s=mk s.Op s.Name s.Many s.Mark s.Fold s.Idx s.E s.Body:=by cases s;rfl
theorem ind {P:St->Prop} (h:∀s:St,(∀a,a∈s.Body->P a)->P s) (s:St):P s:=
 St.rec (motive_1:=P) (motive_2:=fun l=>∀a,a∈l->P a) (fun o n m k f i e b ih=>h (mk o n m k f i e b) ih) (fun a h=>by cases h)
  (fun x l hx hl a ha=>by rcases List.mem_cons.1 ha with rfl|ha;exact hx;exact hl a ha) s
end St
structure Ns where
 Bufs:List Bf
 Body:List St
def Bf.cells (b:Bf):List C:=[cS b.Name,cI b.T.Kind,cI b.T.Bits,cI b.T.Frac,cI b.T.Round,cI b.T.Over,.sl 1 (b.Dims.map fun n=>[cI n]),cI b.Use]
mutual
def St.cells:St->List C
 |.mk o n m k f i e b=>[cI o,cS n,cI m,cI k,cI f,.sl 4 (i.map Ix.cells)]++e.cs++[.sl 20 (nT b)]
def nT:List St->List (List C)
 |[]=>[]
 |s::r=>s.cells::nT r
end
theorem zSb (l:List St):nT l=l.map St.cells:=by
 induction l with
 |nil=>rfl
 |cons s r ih=>rw [nT,ih];rfl
def St.cs (s:St):List C:=[cI s.Op,cS s.Name,cI s.Many,cI s.Mark,cI s.Fold,.sl 4 (s.Idx.map Ix.cells),
 cI s.E.Op,cS s.E.Name,cI s.E.Val.N,cI s.E.Val.D,cI s.E.Ty.Kind,cI s.E.Ty.Bits,cI s.E.Ty.Frac,cI s.E.Ty.Round,cI s.E.Ty.Over,cI s.E.Lin.K,.sl 2 (s.E.Lin.L.map Mono.cells),.sl 4 (s.E.Idx.map Ix.cells),.sl 13 (s.E.Args.map Ex.cells),.sl 20 (s.Body.map St.cells)]
theorem St.cells_eq (s:St):s.cells=s.cs:=by
 cases s;rw [St.cells,zSb];rfl
def Ns.cells (n:Ns):List C:=[.sl 8 (n.Bufs.map Bf.cells),.sl 20 (n.Body.map St.cells)]
abbrev vBf (b:Bf):V:=.agg b.cells
abbrev vSt (s:St):V:=.agg s.cs
abbrev dM (l:List St):V:=.c (.sl 20 (l.map St.cells))
abbrev vNs (n:Ns):V:=.agg n.cells
abbrev vIs (l:List Int):V:=.c (.sl 1 (l.map fun n=>[cI n]))
abbrev xM (l:List Bf):V:=.c (.sl 8 (l.map Bf.cells))
theorem zJo {α:Type} {p:α->Bool} {l:List α} {k:Nat} {x:α} (h:l[k]? =some x) (hp:(l.take k).all p=true) (hx:p x=true):(l.take (k+1)).all p=true:=by
 rw [yD h,List.all_append,hp];simp [hx]
theorem zCc {l:List St} {k:Nat} {x:St} (h:l[k]? =some x):(l.map St.cells)[k]? =some x.cs:=by
 rw [v h,St.cells_eq]
/-! ## Sizes -/
mutual
def St.wt:St->Nat
 |.mk _ _ _ _ _ i e b=>1+e.wt+i.length+fQ i+bE b
def bE:List St->Nat
 |[]=>0
 |s::r=>s.wt+bE r
end
theorem St.wt_eq (s:St):s.wt=1+s.E.wt+s.Idx.length+fQ s.Idx+bE s.Body:=by cases s;rw [St.wt];rfl
theorem wH (l:List St):l.length<=bE l:=by
 induction l with
 |nil=>simp [bE]
 |cons y r ih=>rw [bE,List.length_cons];have:=y.wt_eq;omega
theorem kC {l:List St} {a:St} (h:a∈l):a.wt<=bE l:=by
 induction l with
 |nil=>cases h
 |cons x r ih=>
  rw [bE]
  rcases List.mem_cons.1 h with rfl|h
  ·omega
  ·have:=ih h;omega
theorem St.wt_pos (s:St):1<=s.wt:=by rw [St.wt_eq];omega
theorem St.body_wt (s:St):bE s.Body<s.wt:=by rw [St.wt_eq s];omega
theorem St.parts {s:St} {B:Nat} (h:s.wt<=B):s.E.wt<=B/\s.Idx.length<=B/\fQ s.Idx<=B/\s.Body.length<=B/\bE s.Body<=B:=by
 rw [St.wt_eq] at h
 have:=wH s.Body
 omega
def rdE (s:St):Ex:=.mk 3 s.Name ⟨0,0⟩ ⟨0,0,0,0,0⟩ ⟨0,[]⟩ s.Idx []
theorem rdE_wt (s:St):(rdE s).wt<=s.wt+1:=by
 rw [Ex.wt_eq,St.wt_eq];simp only [rdE,Ex.Lin,Ex.Idx,Ex.Args,dK,List.length_nil];omega
/-! ## Shapes (11.1) -/
def lL (n:Int):Bool:=decide (1<=n)
def bG:Int->List Int->Option Int
 |s,[]=>some s
 |s,n::r=>if 4096<s*n then none else bG (s*n) r
def bW (d:List Int):Int:=if 6<d.length then 2 else if d.all lL=true then (if (bG 1 d).isSome=true then 0 else 2) else 1
def dE (d:List Int):Int:=if bW d=0 then (bG 1 d).getD 0 else 0
theorem dims_long {d:List Int} (h:6<d.length):bW d=2:=by unfold bW;rw [if_pos h]
theorem dims_neg {d:List Int} {k:Nat} {n:Int} (h:¬6<d.length) (hn:d[k]? =some n) (h2:n<1):bW d=1:=by
 unfold bW
 rw [if_neg h,if_neg (by rw [zQa hn (p:=lL) (by unfold lL;exact decide_eq_false (by omega))];simp)]
theorem zTz {d:List Int} (h:¬6<d.length) (h1:d.all lL=true) (h2:bG 1 d=none):bW d=2:=by
 unfold bW;rw [if_neg h,if_pos h1,h2];rfl
theorem dims_ok {d:List Int} {s:Int} (h:¬6<d.length) (h1:d.all lL=true) (h2:bG 1 d=some s):bW d=0:=by
 unfold bW;rw [if_neg h,if_pos h1,h2];rfl
theorem zMd {d:List Int} {k:Nat} {n s:Int} (h:d[k]? =some n) (hs:bG 1 d=bG s (d.drop k)) (h2:¬4096<s*n):bG 1 d=bG (s*n) (d.drop (k+1)):=by
 rw [hs,yB h,bG,if_neg h2]
theorem zMc {d:List Int} {k:Nat} {n s:Int} (h:d[k]? =some n) (hs:bG 1 d=bG s (d.drop k)) (h2:4096<s*n):bG 1 d=none:=by
 rw [hs,yB h,bG,if_pos h2]
theorem zMe {d:List Int} {k:Nat} {s:Int} (hs:bG 1 d=bG s (d.drop k)) (h:¬k<d.length):bG 1 d=some s:=by
 rw [hs,wG h];rfl
theorem quo_lt {s n:Int} (h:1<=s):Int.tdiv 4096 s<n↔4096<s*n:=by
 rw [Int.tdiv_eq_ediv_of_nonneg (by omega),Int.ediv_lt_iff_lt_mul (by omega),Int.mul_comm]
theorem quo_wrap {s:Int} (h:1<=s):IntKind.i64.wrap (Int.tdiv 4096 s)=Int.tdiv 4096 s:=by
 have h1:Int.tdiv 4096 s=4096/s:=Int.tdiv_eq_ediv_of_nonneg (by omega)
 have h2:0<=(4096:Int)/s:=Int.ediv_nonneg (by omega) (by omega)
 have h3:(4096:Int)/s<=4096:=Int.ediv_le_self _ (by omega)
 exact zDp ⟨by omega,by omega⟩
theorem quo_t {s n:Int} (h:1<=s) (c:IntKind.i64.wrap (Int.tdiv 4096 s)<n):4096<s*n:=by rw [quo_wrap h] at c;exact (quo_lt h).1 c
theorem quo_f {s n:Int} (h:1<=s) (c:¬IntKind.i64.wrap (Int.tdiv 4096 s)<n):¬4096<s*n:=by rw [quo_wrap h] at c;exact fun k=>c ((quo_lt h).2 k)
theorem zFl {d:List Int} {k:Nat} {n:Int} (h:d.all lL=true) (hn:d[k]? =some n):1<=n:=by
 have:=(List.all_eq_true.1 h) n (qE hn)
 simpa [lL] using this
theorem zDw {s n:Int} (h:1<=s) (h2:1<=n):1<=s*n/\n<=s*n:=by
 have h3:1*n<=s*n:=Int.mul_le_mul_of_nonneg_right h (by omega)
 omega
theorem zSe:∀{d:List Int} {s t:Int},1<=s->s<=4096->d.all lL=true->bG s d=some t->1<=t/\t<=4096
 |[],s,t,h,h2,_,h3=>by simp only [bG,Option.some.injEq] at h3;omega
 |n::r,s,t,h,h2,hp,h3=>by
  rw [bG] at h3
  simp only [List.all_cons,Bool.and_eq_true] at hp
  have hn:1<=n:=by simpa [lL] using hp.1
  split at h3
  ·cases h3
  ·rename_i h4
   exact zSe (zDw h hn).1 (by omega) hp.2 h3
theorem zGs {d:List Int} (h:bW d=0):d.length<=6/\d.all lL=true/\∃s,bG 1 d=some s/\1<=s/\s<=4096:=by
 unfold bW at h
 split at h
 ·cases h
 ·rename_i h6
  split at h
  ·rename_i hp
   split at h
   ·rename_i hs
    obtain ⟨s,hs⟩:=Option.isSome_iff_exists.1 hs
    have:=zSe (by omega) (by omega) hp hs
    exact ⟨by omega,hp,s,hs,this.1,this.2⟩
   ·cases h
  ·cases h
theorem zFa {d:List Int} {s:Int} (h:bW d=0) (hs:bG 1 d=some s):dE d=s:=by unfold dE;rw [if_pos h,hs];rfl
theorem zLq {d:List Int} (h:¬bW d=0):dE d=0:=by unfold dE;rw [if_neg h]
theorem size_fit {d:List Int} {k:Nat} {n s t:Int} (h:d[k]? =some n) (hs:bG 1 d=bG s (d.drop k)) (ht:bG 1 d=some t):¬4096<s*n:=by
 intro h2
 rw [zMc h hs h2] at ht;cases ht
/-! ## Buffers -/
def zBf:Bf:=⟨bs [],zTy,[],0⟩
def bO (l:List Bf) (s:ByteArray):Bool:=l.any fun b=>decide (b.Name=s)
def dF:List Bf->ByteArray->Bf
 |[],_=>zBf
 |b::r,s=>if b.Name=s then b else dF r s
theorem bufD_at {l:List Bf} {k:Nat} {b:Bf} {s:ByteArray} (h:l[k]? =some b) (hb:b.Name=s):dF (l.drop k) s=b:=by rw [yB h,dF,if_pos hb]
theorem bufD_next {l:List Bf} {k:Nat} {b:Bf} {s:ByteArray} (h:l[k]? =some b) (hb:¬b.Name=s):dF (l.drop k) s=dF (l.drop (k+1)) s:=by rw [yB h,dF,if_neg hb]
theorem zQy {l:List Bf} {k:Nat} {b:Bf} {s:ByteArray} (h:l[k]? =some b) (hb:b.Name=s):bO l s=true:=by
 unfold bO;rw [List.any_eq_true];exact ⟨b,qE h,decide_eq_true hb⟩
theorem zJy {l:List Bf} {k:Nat} {b:Bf} {s:ByteArray} (h:l[k]? =some b) (hp:bO (l.take k) s=false) (hb:¬b.Name=s):bO (l.take (k+1)) s=false:=by
 unfold bO at *;rw [yD h,List.any_append,hp];simp [hb]
theorem hasBf_lt {l:List Bf} {j k:Nat} {b:Bf} {s:ByteArray} (h:l[j]? =some b) (hj:j<k) (hb:b.Name=s):bO (l.take k) s=true:=by
 have:(l.take k)[j]? =some b:=by rw [List.getElem?_take];simp [hj,h]
 exact zQy this hb
theorem bufD_no:∀{l:List Bf} {s:ByteArray},bO l s=false->dF l s=zBf
 |[],_,_=>rfl
 |b::r,s,h=>by
  simp only [bO,List.any_cons,Bool.or_eq_false_iff,decide_eq_false_iff_not] at h
  rw [dF,if_neg h.1];exact bufD_no h.2
theorem bufD_mem:∀{l:List Bf} {s:ByteArray},bO l s=true->dF l s∈l/\(dF l s).Name=s
 |[],s,h=>by simp [bO] at h
 |b::r,s,h=>by
  rw [dF]
  by_cases hb:b.Name=s
  ·rw [if_pos hb];exact ⟨by simp,hb⟩
  ·rw [if_neg hb]
   simp only [bO,List.any_cons,decide_eq_false hb,Bool.false_or] at h
   obtain ⟨h1,h2⟩:=bufD_mem (l:=r) h
   exact ⟨by simp [h1],h2⟩
def gT (seen:List Bf) (b:Bf):Int:=
 if bM b.Name=true then (if bO seen b.Name=true then 8 else if gV b.T=true then (if bW b.Dims=0 then (if b.Use<1∨3<b.Use then 1 else 0) else bW b.Dims) else 10) else 7
def bX:List Bf->List Bf->Int
 |_,[]=>0
 |seen,b::r=>if gT seen b=0 then bX (seen++[b]) r else gT seen b
theorem bfErr_7 {seen:List Bf} {b:Bf} (h:bM b.Name=false):gT seen b=7:=by unfold gT;rw [if_neg (by rw [h];simp)]
theorem bfErr_8 {seen:List Bf} {b:Bf} (h:bM b.Name=true) (h2:bO seen b.Name=true):gT seen b=8:=by unfold gT;rw [if_pos h,if_pos h2]
theorem zRi {seen:List Bf} {b:Bf} (h:bM b.Name=true) (h2:bO seen b.Name=false) (h3:gV b.T=false):gT seen b=10:=by unfold gT;rw [if_pos h,if_neg (by rw [h2];simp),if_neg (by rw [h3];simp)]
theorem bfErr_d {seen:List Bf} {b:Bf} (h:bM b.Name=true) (h2:bO seen b.Name=false) (h3:gV b.T=true) (h4:¬bW b.Dims=0):gT seen b=bW b.Dims:=by unfold gT;rw [if_pos h,if_neg (by rw [h2];simp),if_pos h3,if_neg h4]
theorem bfErr_u {seen:List Bf} {b:Bf} (h:bM b.Name=true) (h2:bO seen b.Name=false) (h3:gV b.T=true) (h4:bW b.Dims=0) (h5:b.Use<1∨3<b.Use):gT seen b=1:=by unfold gT;rw [if_pos h,if_neg (by rw [h2];simp),if_pos h3,if_pos h4,if_pos h5]
theorem bfErr_0 {seen:List Bf} {b:Bf} (h:bM b.Name=true) (h2:bO seen b.Name=false) (h3:gV b.T=true) (h4:bW b.Dims=0) (h5:¬(b.Use<1∨3<b.Use)):gT seen b=0:=by unfold gT;rw [if_pos h,if_neg (by rw [h2];simp),if_pos h3,if_pos h4,if_neg h5]
theorem zPz {l:List Bf} {k:Nat} {b:Bf} (h:l[k]? =some b) (hp:bX [] l=bX (l.take k) (l.drop k)) (hb:gT (l.take k) b=0):bX [] l=bX (l.take (k+1)) (l.drop (k+1)):=by
 rw [hp,yB h,bX,if_pos hb,yD h]
theorem zBl {l:List Bf} {k:Nat} {b:Bf} (h:l[k]? =some b) (hp:bX [] l=bX (l.take k) (l.drop k)) (hb:¬gT (l.take k) b=0):bX [] l=gT (l.take k) b:=by
 rw [hp,yB h,bX,if_neg hb]
theorem zUh {l:List Bf} {k:Nat} (hp:bX [] l=bX (l.take k) (l.drop k)) (h:¬k<l.length):bX [] l=0:=by
 rw [hp,wG h];rfl
/-! ## Depth and number of statements -/
def dC:Nat->List St->Bool
 |0,l=>l.isEmpty
 |n+1,l=>l.all fun s=>dC n s.Body
def lI:Nat->List St->Int
 |0,_=>0
 |n+1,l=>l.foldl (fun d s=>max d (1+lI n s.Body)) 0
theorem depF_ge {f:St->Int}:∀(l:List St) (d:Int),d<=l.foldl (fun d s=>max d (1+f s)) d
 |[],d=>Int.le_refl _
 |x::r,d=>by have:=depF_ge (f:=f) r (max d (1+f x));rw [List.foldl_cons];omega
theorem zRe {f:St->Int} {m:Int}:∀(l:List St) (d:Int),l.foldl (fun d s=>max d (1+f s)) d<=m↔d<=m/\∀s,s∈l->1+f s<=m
 |[],d=>by simp
 |x::r,d=>by
  rw [List.foldl_cons,zRe r]
  constructor
  ·rintro ⟨h1,h2⟩
   refine ⟨by omega,fun s hs=>?_⟩
   rcases List.mem_cons.1 hs with rfl|hs
   ·omega
   ·exact h2 s hs
  ·rintro ⟨h1,h2⟩
   have:=h2 x (by simp)
   exact ⟨by omega,fun s hs=>h2 s (by simp [hs])⟩
theorem zHt:∀(n:Nat) (l:List St),lI (n+1) l<=n↔dC n l=true
 |0,l=>by
  rw [lI,zRe]
  cases l with
  |nil=>simp [dC]
  |cons x r=>
   simp only [dC,List.isEmpty_cons,Bool.false_eq_true,iff_false,not_and]
   intro _ h
   have:=h x (by simp)
   simp only [lI] at this;omega
 |n+1,l=>by
  rw [lI,zRe,dC,List.all_eq_true]
  constructor
  ·rintro ⟨_,h⟩ s hs
   have:=h s hs
   exact (zHt n s.Body).1 (by omega)
  ·intro h
   refine ⟨by omega,fun s hs=>?_⟩
   have:=(zHt n s.Body).2 (h s hs)
   omega
theorem depS_le:∀(n:Nat) (l:List St),0<=lI n l/\lI n l<=n
 |0,l=>by simp [lI]
 |n+1,l=>by
  rw [lI]
  refine ⟨depF_ge l 0,(zRe l 0).2 ⟨by omega,fun s _=>?_⟩⟩
  have:=depS_le n s.Body;omega
mutual
def stN:St->Nat
 |.mk _ _ _ _ _ _ _ b=>1+dJ b
def dJ:List St->Nat
 |[]=>0
 |s::r=>stN s+dJ r
end
def pQ (n:Nat) (l:List St):Bool:=dC n l
theorem withinG_eq (n:Nat) (l:List St):pQ n l=dC n l:=rfl
theorem withinG_next {n:Nat} {l:List St} {k:Nat} {s:St} (h:l[k]? =some s) (hp:pQ n (l.take k)=true) (hn:1<=n) (hs:dC (n-1) s.Body=true):pQ n (l.take (k+1))=true:=by
 obtain ⟨m,rfl⟩:∃m,n=m+1:=⟨n-1,by omega⟩
 exact zJo h hp hs
theorem within_no {n:Nat} {l:List St} {k:Nat} {s:St} {x:Int} (h:l[k]? =some s) (hx:x=n) (c:(decide (x<1)|| !dC (n-1) s.Body)=true):dC n l=false:=by
 cases n with
 |zero=>cases l with
  |nil=>simp at h
  |cons a r=>rfl
 |succ n=>
  have:dC n s.Body=false:=by
   rw [Bool.or_eq_true] at c
   rcases c with c|c
   ·rw [decide_eq_true_eq] at c;omega
   ·simpa using c
  exact zQa h this
theorem within_yes {n:Nat} {s:St} {x:Int} (hx:x=n) (c:(decide (x<1)|| !dC (n-1) s.Body)=false):1<=n/\dC (n-1) s.Body=true:=by
 rw [Bool.or_eq_false_iff] at c
 refine ⟨?_,by simpa using c.2⟩
 have:=c.1;rw [decide_eq_false_iff_not] at this;omega
theorem depS_next {n:Nat} {l:List St} {k:Nat} {s:St} (h:l[k]? =some s) (hn:1<=n):lI n (l.take (k+1))=max (lI n (l.take k)) (1+lI (n-1) s.Body):=by
 obtain ⟨m,rfl⟩:∃m,n=m+1:=⟨n-1,by omega⟩
 rw [yD h,lI,List.foldl_append];rfl
theorem depS_stop {n:Nat} {l:List St} {k:Nat} {x d:Int} (hx:x=n) (hd:d=lI n (l.take k)) (c:l.length<=k∨x<=0):d=lI n l:=by
 by_cases h0:n=0
 ·subst h0;rw [hd];rfl
 ·rw [hd,qX (by omega)]
theorem zPk (s:St):stN s=1+dJ s.Body:=by cases s;rw [stN];rfl
theorem zRy:∀(a b:List St),dJ (a++b)=dJ a+dJ b
 |[],b=>by simp [dJ]
 |x::r,b=>by rw [List.cons_append,dJ,dJ,zRy r b];omega
theorem zEl:∀l:List St,l.length<=dJ l
 |[]=>by simp [dJ]
 |x::r=>by have:=zEl r;have:=zPk x;rw [dJ,List.length_cons];omega
mutual
theorem stN_wt:∀s:St,stN s<=s.wt
 |.mk o n m k f i e b=>by rw [stN,St.wt];have:=stsN_wt b;omega
theorem stsN_wt:∀l:List St,dJ l<=bE l
 |[]=>by simp [dJ,bE]
 |s::r=>by rw [dJ,bE];have:=stN_wt s;have:=stsN_wt r;omega
end
mutual
def rA:St->Nat->Nat
 |.mk _ _ _ _ _ _ _ b,m=>lF b m b.length
def lF:List St->Nat->Nat->Nat
 |[],_,n=>n
 |s::r,m,n=>if n<=m then lF r m (n+rA s (m-n)) else n
end
def jA (l:List St) (m:Nat):Nat:=lF l m l.length
theorem numS_eq (s:St) (m:Nat):rA s m=jA s.Body m:=by cases s;rw [rA];rfl
mutual
theorem numS_le:∀(s:St) (m:Nat),rA s m<=stN s-1
 |.mk _ _ _ _ _ _ _ b,m=>by
  rw [rA,stN]
  have h1:=numL_le b m b.length
  have h2:=zEl b
  omega
theorem numL_le:∀(l:List St) (m n:Nat),lF l m n<=n+(dJ l-l.length)
 |[],m,n=>by simp [lF]
 |s::r,m,n=>by
  rw [lF]
  have h3:=zEl r
  have h4:=zPk s
  split
  ·have h1:=numL_le r m (n+rA s (m-n))
   have h2:=numS_le s (m-n)
   rw [dJ,List.length_cons];omega
  ·rw [dJ,List.length_cons];omega
end
theorem numB_le (l:List St) (m:Nat):jA l m<=dJ l:=by
 have h1:=numL_le l m l.length
 have h2:=zEl l
 unfold jA;omega
theorem numL_ge:∀(l:List St) (m n:Nat),n<=lF l m n
 |[],m,n=>by rw [lF];omega
 |s::r,m,n=>by
  rw [lF];split
  ·have:=numL_ge r m (n+rA s (m-n));omega
  ·omega
mutual
theorem numS_ok:∀(s:St) (m:Nat),rA s m<=m->rA s m=stN s-1
 |.mk _ _ _ _ _ _ _ b,m,h=>by
  rw [rA] at h⊢
  rw [stN,numL_ok b m _ h]
  have:=zEl b;omega
theorem numL_ok:∀(l:List St) (m n:Nat),lF l m n<=m->lF l m n=n+(dJ l-l.length)
 |[],m,n,h=>by simp [lF,dJ]
 |s::r,m,n,h=>by
  have h3:=zEl r
  have h4:=zPk s
  by_cases hn:n<=m
  ·rw [lF,if_pos hn] at h⊢
   have h5:=numL_ge r m (n+rA s (m-n))
   have h6:=numS_ok s (m-n) (by omega)
   rw [numL_ok r m _ h,h6,dJ,List.length_cons];omega
  ·rw [lF,if_neg hn] at h;omega
end
theorem numB_ok {l:List St} {m:Nat} (h:jA l m<=m):dJ l=jA l m:=by
 have h2:=zEl l
 unfold jA at *
 rw [numL_ok l m _ h];omega
theorem num_next {l:List St} {k m n N:Nat} {s:St} (h:l[k]? =some s) (hp:N=lF (l.drop k) m n) (hn:n<=m):N=lF (l.drop (k+1)) m (n+jA s.Body (m-n)):=by
 rw [hp,yB h,lF,if_pos hn,numS_eq]
theorem num_end {l:List St} {k m n N:Nat} (hp:N=lF (l.drop k) m n) (h:l.length<=k∨m<n):n=N:=by
 rw [hp]
 by_cases hk:k<l.length
 ·obtain ⟨a,ha⟩:=qU l k hk
  rw [yB ha,lF,if_neg (by omega)]
 ·rw [wG hk,lF]
theorem zQn {l:List St} {s:St} (h:s∈l):stN s<=dJ l:=by
 induction l with
 |nil=>cases h
 |cons x r ih=>
  rw [dJ]
  rcases List.mem_cons.1 h with rfl|h
  ·omega
  ·have:=ih h;omega
theorem stsN_drop {l:List St} {k:Nat} {s:St} (h:l[k]? =some s):dJ (l.drop k)=stN s+dJ (l.drop (k+1)):=by rw [yB h,dJ]
theorem num_sum {l:List St} {k m n:Nat} {s:St} (h:l[k]? =some s) (hp:jA l m=lF (l.drop k) m n) (hn:n<=m):n+jA s.Body (m-n)<=n+dJ l:=by
 have h1:=numB_le s.Body (m-n)
 have h2:dJ l=dJ (l.take k)+(stN s+dJ (l.drop (k+1))):=by
  rw [←dJ,←yB h,←zRy,List.take_append_drop]
 have:=zPk s
 omega
end Go.Br
end
section
namespace Go.Br
open Go Go.Eng Go.L41
/-! ## Names of a node -/
def jL (sc:List ByteArray) (l:Lf):Bool:=l.L.all fun m=>bR sc m.Name
def vA (sc:List ByteArray) (x:Ix):Bool:=jL sc x.Lin&&x.At.all (jL sc)
def gN (sc:List ByteArray) (e:Ex):Bool:=jL sc e.Lin&&e.Idx.all (vA sc)
def jR (B:List Bf) (x:Ix):Int:=
 if x.From=bs [] then 0 else if bO B x.From=true then (if (dF B x.From).T.Kind=3 then (if (dF B x.From).Dims.length=x.At.length then 0 else 11) else 10) else 9
def lT (B:List Bf):List Ix->Int
 |[]=>0
 |x::r=>if jR B x=0 then lT B r else jR B x
def gC (B:List Bf) (sc:List ByteArray) (e:Ex):Int:=
 if gN sc e=true then (if e.Op=3 then (if bO B e.Name=true then (if (dF B e.Name).Dims.length=e.Idx.length then lT B e.Idx else 11) else 9) else 0) else 9
def bZ (B:List Bf) (sc:List ByteArray):List Ex->Int
 |[]=>0
 |e::r=>if gC B sc e=0 then bZ B sc r else gC B sc e
theorem gathE_0 {B:List Bf} {x:Ix} (h:x.From=bs []):jR B x=0:=by unfold jR;rw [if_pos h]
theorem zTl {B:List Bf} {x:Ix} (h:¬x.From=bs []) (h1:bO B x.From=false):jR B x=9:=by unfold jR;rw [if_neg h,if_neg (by rw [h1];simp)]
theorem zNd {B:List Bf} {x:Ix} (h:¬x.From=bs []) (h1:bO B x.From=true) (h2:¬(dF B x.From).T.Kind=3):jR B x=10:=by unfold jR;rw [if_neg h,if_pos h1,if_neg h2]
theorem zNc {B:List Bf} {x:Ix} (h:¬x.From=bs []) (h1:bO B x.From=true) (h2:(dF B x.From).T.Kind=3) (h3:¬(dF B x.From).Dims.length=x.At.length):jR B x=11:=by unfold jR;rw [if_neg h,if_pos h1,if_pos h2,if_neg h3]
theorem zRa {B:List Bf} {x:Ix} (h:¬x.From=bs []) (h1:bO B x.From=true) (h2:(dF B x.From).T.Kind=3) (h3:(dF B x.From).Dims.length=x.At.length):jR B x=0:=by unfold jR;rw [if_neg h,if_pos h1,if_pos h2,if_pos h3]
theorem zKa {B:List Bf} {l:List Ix} {k:Nat} {x:Ix} (h:l[k]? =some x) (hx:jR B x=0):lT B (l.drop k)=lT B (l.drop (k+1)):=by rw [yB h,lT,if_pos hx]
theorem zJz {B:List Bf} {l:List Ix} {k:Nat} {x:Ix} (h:l[k]? =some x) (hx:¬jR B x=0):lT B (l.drop k)=jR B x:=by rw [yB h,lT,if_neg hx]
theorem nodeN_9 {B:List Bf} {sc:List ByteArray} {e:Ex} (h:gN sc e=false):gC B sc e=9:=by unfold gC;rw [if_neg (by rw [h];simp)]
theorem nodeN_o {B:List Bf} {sc:List ByteArray} {e:Ex} (h:gN sc e=true) (h1:¬e.Op=3):gC B sc e=0:=by unfold gC;rw [if_pos h,if_neg h1]
theorem nodeN_n {B:List Bf} {sc:List ByteArray} {e:Ex} (h:gN sc e=true) (h1:e.Op=3) (h2:bO B e.Name=false):gC B sc e=9:=by unfold gC;rw [if_pos h,if_pos h1,if_neg (by rw [h2];simp)]
theorem nodeN_r {B:List Bf} {sc:List ByteArray} {e:Ex} (h:gN sc e=true) (h1:e.Op=3) (h2:bO B e.Name=true) (h3:¬(dF B e.Name).Dims.length=e.Idx.length):gC B sc e=11:=by unfold gC;rw [if_pos h,if_pos h1,if_pos h2,if_neg h3]
theorem zHl {B:List Bf} {sc:List ByteArray} {e:Ex} (h:gN sc e=true) (h1:e.Op=3) (h2:bO B e.Name=true) (h3:(dF B e.Name).Dims.length=e.Idx.length):gC B sc e=lT B e.Idx:=by unfold gC;rw [if_pos h,if_pos h1,if_pos h2,if_pos h3]
theorem zHk (B:List Bf) (sc:List ByteArray):∀(a b:List Ex),bZ B sc (a++b)=if bZ B sc a=0 then bZ B sc b else bZ B sc a
 |[],b=>by simp [bZ]
 |x::r,b=>by
  rw [List.cons_append,bZ,bZ,zHk B sc r b]
  by_cases h:gC B sc x=0
  ·rw [if_pos h,if_pos h]
  ·rw [if_neg h,if_neg h,if_neg h]
theorem zOo {B:List Bf} {sc:List ByteArray} {pre:List Ex} {x:Ex} (h:bZ B sc pre=0):bZ B sc (pre++[x])=gC B sc x:=by
 rw [zHk,if_pos h,bZ,bZ]
 by_cases hx:gC B sc x=0
 ·rw [if_pos hx,hx]
 ·rw [if_neg hx]
theorem nodesN_pre {B:List Bf} {sc:List ByteArray} {pre suf:List Ex} {x:Ex} (h:¬bZ B sc (pre++[x])=0):bZ B sc (pre++x::suf)=bZ B sc (pre++[x]):=by
 rw [show pre++x::suf=(pre++[x])++suf by simp,zHk,if_neg h]
theorem nodesN_at {B:List Bf} {sc:List ByteArray} {l:List Ex} {k:Nat} {x:Ex} (h:l[k]? =some x) (hx:gC B sc x=0):bZ B sc (l.drop k)=bZ B sc (l.drop (k+1)):=by rw [yB h,bZ,if_pos hx]
theorem nodesN_no {B:List Bf} {sc:List ByteArray} {l:List Ex} {k:Nat} {x:Ex} (h:l[k]? =some x) (hx:¬gC B sc x=0):bZ B sc (l.drop k)=gC B sc x:=by rw [yB h,bZ,if_neg hx]
/-! ## Types -/
def tyF (B:List Bf) (e:Ex) (l:List Ty):Ty×Int:=
 if e.Op=1∨e.Op=12 then (e.Ty,0) else
 if e.Op=2 then (iTy,0) else
 if e.Op=3 then ((dF B e.Name).T,0) else
 if e.Op=8 then (dH l 0,0) else
 if e.Op=16∨e.Op=17∨e.Op=18 then (zTy,0) else
 if dH l (l.length-2)=dH l (l.length-1) then (if bC e=true then (zTy,0) else (dH l (l.length-1),0)) else (zTy,10)
theorem zCa {B:List Bf} {e:Ex} {l:List Ty} (h:e.Op=1∨e.Op=12):tyF B e l=(e.Ty,0):=by unfold tyF;rw [if_pos h]
theorem zCi {B:List Bf} {e:Ex} {l:List Ty} (h:e.Op=2):tyF B e l=(iTy,0):=by unfold tyF;rw [if_neg (by omega),if_pos h]
theorem zBz {B:List Bf} {e:Ex} {l:List Ty} (h:e.Op=3):tyF B e l=((dF B e.Name).T,0):=by unfold tyF;rw [if_neg (by omega),if_neg (by omega),if_pos h]
theorem zCh {B:List Bf} {e:Ex} {l:List Ty} (h:e.Op=8):tyF B e l=(dH l 0,0):=by unfold tyF;rw [if_neg (by omega),if_neg (by omega),if_neg (by omega),if_pos h]
theorem zAd {B:List Bf} {e:Ex} {l:List Ty} (h:e.Op=16∨e.Op=17∨e.Op=18):tyF B e l=(zTy,0):=by unfold tyF;rw [if_neg (by omega),if_neg (by omega),if_neg (by omega),if_neg (by omega),if_pos h]
abbrev gG (o:Int):Prop:=o=1∨o=12∨o=2∨o=3∨o=8∨o=16∨o=17∨o=18
theorem tyF_o {B:List Bf} {e:Ex} {l:List Ty} (h:¬gG e.Op):tyF B e l=if dH l (l.length-2)=dH l (l.length-1) then (if bC e=true then (zTy,0) else (dH l (l.length-1),0)) else (zTy,10):=by
 unfold gG at h;unfold tyF;rw [if_neg (by omega),if_neg (by omega),if_neg (by omega),if_neg (by omega),if_neg (by omega)]
theorem zAe {B:List Bf} {e:Ex} {l:List Ty} (h:¬gG e.Op) (h2:¬dH l (l.length-2)=dH l (l.length-1)):tyF B e l=(zTy,10):=by rw [tyF_o h,if_neg h2]
theorem zCg {B:List Bf} {e:Ex} {l:List Ty} (h:¬gG e.Op) (h2:dH l (l.length-2)=dH l (l.length-1)) (h3:bC e=true):tyF B e l=(zTy,0):=by rw [tyF_o h,if_pos h2,if_pos h3]
theorem zBy {B:List Bf} {e:Ex} {l:List Ty} (h:¬gG e.Op) (h2:dH l (l.length-2)=dH l (l.length-1)) (h3:bC e=false):tyF B e l=(dH l (l.length-1),0):=by rw [tyF_o h,if_pos h2,if_neg (by rw [h3];simp)]
theorem tyF_zero {B:List Bf} {e:Ex} {l:List Ty} (h:¬(tyF B e l).2=0):(tyF B e l).1=zTy:=by
 unfold tyF at h⊢
 repeat' split at h<;>first|exact absurd rfl h|skip
 all_goals simp_all
theorem nodeT_zero {B:List Bf} {e:Ex} (h:¬(dO (tyF B) e).2=0):(dO (tyF B) e).1=zTy:=by
 rw [zQv] at h⊢
 split
 ·rename_i c
  rw [if_pos c] at h
  exact tyF_zero h
 ·rfl
def gB:List Ex->List Ty->List Ty
 |[],_=>[]
 |_::_,[]=>[]
 |a::r,t::ts=>if bC a=true then gB r ts else t::gB r ts
def kiF (B:List Bf) (e:Ex) (l:List Ty):Ty×Int:=
 if l.length=2/\¬dH l 0=dH l 1 then (zTy,10) else
 if e.Op=1∨e.Op=12 then (e.Ty,0) else
 if e.Op=2 then (iTy,0) else
 if e.Op=3 then ((dF B e.Name).T,0) else
 if bC e=true then (zTy,0) else (dH l 0,0)
def kiN (B:List Bf) (e:Ex) (l:List Ty):Ty×Int:=kiF B e (gB e.Args l)
theorem zGl {B:List Bf} {e:Ex} {l:List Ty} (h:l.length=2) (h2:¬dH l 0=dH l 1):kiF B e l=(zTy,10):=by unfold kiF;rw [if_pos ⟨h,h2⟩]
theorem zOt {B:List Bf} {e:Ex} {l:List Ty} (h:¬(l.length=2/\¬dH l 0=dH l 1)) (h1:e.Op=1∨e.Op=12):kiF B e l=(e.Ty,0):=by unfold kiF;rw [if_neg h,if_pos h1]
theorem zQg {B:List Bf} {e:Ex} {l:List Ty} (h:¬(l.length=2/\¬dH l 0=dH l 1)) (h1:e.Op=2):kiF B e l=(iTy,0):=by unfold kiF;rw [if_neg h,if_neg (by omega),if_pos h1]
theorem zQf {B:List Bf} {e:Ex} {l:List Ty} (h:¬(l.length=2/\¬dH l 0=dH l 1)) (h1:e.Op=3):kiF B e l=((dF B e.Name).T,0):=by unfold kiF;rw [if_neg h,if_neg (by omega),if_neg (by omega),if_pos h1]
theorem zMy {B:List Bf} {e:Ex} {l:List Ty} (h:¬(l.length=2/\¬dH l 0=dH l 1)) (h1:bC e=true):kiF B e l=(zTy,0):=by
 have:13<=e.Op:=by unfold bC at h1;simp at h1;omega
 unfold kiF
 by_cases h12:e.Op=1∨e.Op=12
 ·omega
 ·rw [if_neg h,if_neg h12,if_neg (by omega),if_neg (by omega),if_pos h1]
theorem zMx {B:List Bf} {e:Ex} {l:List Ty} (h:¬(l.length=2/\¬dH l 0=dH l 1)) (h1:¬(e.Op=1∨e.Op=12∨e.Op=2∨e.Op=3)) (h2:bC e=false):kiF B e l=(dH l 0,0):=by
 unfold kiF;rw [if_neg h,if_neg (by omega),if_neg (by omega),if_neg (by omega),if_neg (by rw [h2];simp)]
theorem zSw:∀{arg_:List Ex} {ts:List Ty} {a:Ex} {t:Ty},arg_.length=ts.length->gB (arg_++[a]) (ts++[t])=gB arg_ ts++(if bC a=true then [] else [t])
 |[],[],a,t,_=>by simp only [List.nil_append,gB]
 |x::r,y::s,a,t,h=>by
  simp only [List.cons_append,gB]
  rw [zSw (arg_:=r) (ts:=s) (by simpa using h)]
  split<;>rfl
 |[],_::_,_,_,h=>by simp at h
 |_::_,[],_,_,h=>by simp at h
theorem zKf {e:Ex} (h:fM e=0):fC e.Op 0 e.Args=true:=by
 have:=(zQu (zAf h)).2.2.2.1
 simp only [gU,Bool.and_eq_true] at this
 exact this.2
theorem ty_ki {B:List Bf} {e:Ex} {l:List Ty} (h:fM e=0) (hl:l.length=e.Args.length):tyF B e l=kiN B e l:=by
 have hr:=zQs h
 have hc:=zKf h
 obtain ⟨o1,o2⟩:=zLk (zAf h)
 have hle:l.length=(bI e.Op).toNat:=by omega
 unfold kiN
 generalize hA:e.Args=A at hr hc hl
 have hcond:bC e=true↔13<=e.Op:=by unfold bC;simp;omega
 unfold bI at hr
 by_cases c0:e.Op=1∨e.Op=2∨e.Op=3
 ·rw [if_pos c0] at hr
  match A,l,hr,hl with
  |[],[],_,_=>
   have hn:¬(([]:List Ty).length=2/\¬dH [] 0=dH [] 1):=by simp
   rcases c0 with c|c|c
   ·rw [zCa (.inl c)];exact (zOt hn (.inl c)).symm
   ·rw [zCi c];exact (zQg hn c).symm
   ·rw [zBz c];exact (zQf hn c).symm
  |_::_,_,hr,_=>simp at hr;omega
 rw [if_neg c0] at hr
 by_cases c1:e.Op=8∨e.Op=12∨e.Op=18
 ·rw [if_pos c1] at hr
  match A,l,hr,hl with
  |[a],[t],_,_=>
   simp only [fC,Bool.and_true,beq_iff_eq] at hc
   rcases c1 with c|c|c
   ·have ha:bC a=false:=by rw [hc];simp [fG,c]
    rw [zCh c,gB,if_neg (by rw [ha];simp),gB,zMx (by simp) (by omega) (by cases hx:bC e;rfl;exact absurd (hcond.1 hx) (by omega))]
   ·have ha:bC a=false:=by rw [hc];simp [fG,c]
    rw [zCa (.inr c),gB,if_neg (by rw [ha];simp),gB,zOt (by simp) (.inr c)]
   ·have ha:bC a=true:=by rw [hc];simp [fG,c]
    rw [zAd (by omega),gB,if_pos ha,gB,zMy (by simp) (hcond.2 (by omega))]
  |[],_,hr,_=>simp at hr
  |_::_::_,_,hr,_=>simp at hr;omega
 rw [if_neg c1] at hr
 by_cases c11:e.Op=11
 ·rw [if_pos c11] at hr
  match A,l,hr,hl with
  |[a,b,c],[s,t,u],_,_=>
   simp only [fC,Bool.and_true,Bool.and_eq_true,beq_iff_eq] at hc
   have ha:bC a=true:=by rw [hc.1];simp [fG,c11]
   have hb:bC b=false:=by rw [hc.2.1];simp [fG,c11]
   have hd:bC c=false:=by rw [hc.2.2];simp [fG,c11]
   have hec:bC e=false:=by cases hx:bC e;rfl;exact absurd (hcond.1 hx) (by omega)
   rw [gB,if_pos ha,gB,if_neg (by rw [hb];simp),gB,if_neg (by rw [hd];simp),gB]
   by_cases q:t=u
   ·subst q
    rw [zBy (by unfold gG;omega) rfl hec,zMx (by simp [dH]) (by omega) hec];rfl
   ·rw [zAe (e:=e) (l:=[s,t,u]) (by unfold gG;omega) q,zGl (l:=[t,u]) rfl q]
  |[],_,hr,_=>simp at hr
  |[_],_,hr,_=>simp at hr
  |[_,_],_,hr,_=>simp at hr
  |_::_::_::_::_,_,hr,_=>simp at hr;omega
 rw [if_neg c11] at hr
 match A,l,hr,hl with
 |[a,b],[t,u],_,_=>
  simp only [fC,Bool.and_true,Bool.and_eq_true,beq_iff_eq] at hc
  by_cases c16:e.Op=16∨e.Op=17
  ·have ha:bC a=true:=by rw [hc.1];rcases c16 with c|c<;>simp [fG,c]
   have hb:bC b=true:=by rw [hc.2];rcases c16 with c|c<;>simp [fG,c]
   rw [zAd (by omega),gB,if_pos ha,gB,if_pos hb,gB,zMy (by simp) (hcond.2 (by omega))]
  ·have w:∀i,fG e.Op i=false:=fun i=>by unfold fG;simp;omega
   have ha:bC a=false:=by rw [hc.1,w]
   have hb:bC b=false:=by rw [hc.2,w]
   rw [gB,if_neg (by rw [ha];simp),gB,if_neg (by rw [hb];simp),gB]
   by_cases q:t=u
   ·subst q
    by_cases ce:bC e=true
    ·rw [zCg (by unfold gG;omega) rfl ce,zMy (by simp [dH]) ce]
    ·have ce':bC e=false:=by simpa using ce
     rw [zBy (by unfold gG;omega) rfl ce',zMx (by simp [dH]) (by omega) ce'];rfl
   ·rw [zAe (e:=e) (l:=[t,u]) (by unfold gG;omega) q,zGl (l:=[t,u]) rfl q]
 |[],_,hr,_=>simp at hr
 |[_],_,hr,_=>simp at hr
 |_::_::_::_,_,hr,_=>simp at hr;omega
mutual
theorem nodeT_ki (B:List Bf):∀e:Ex,fM e=0->dO (tyF B) e=dO (kiN B) e
 |.mk o nm v t l i arg_,h=>by
  have h3:=nodeL_ki B arg_ fun a ha=>zMp h ha
  rw [dO,dO,←h3]
  by_cases c:(bK (tyF B) arg_).2=0
  ·rw [if_pos c,if_pos c]
   exact ty_ki h (zGj _ _ c)
  ·rw [if_neg c,if_neg c]
theorem nodeL_ki (B:List Bf):∀l:List Ex,(∀a,a∈l->fM a=0)->bK (tyF B) l=bK (kiN B) l
 |[],_=>rfl
 |a::r,h=>by
  rw [bK,bK,←nodeT_ki B a (h a (by simp)),←nodeL_ki B r fun x hx=>h x (by simp [hx])]
end
def dA (B:List Bf) (sc:List ByteArray) (e:Ex):Ty×Int:=
 if fT e=0 then (if bZ B sc (bH e)=0 then dO (tyF B) e else (zTy,bZ B sc (bH e))) else (zTy,fT e)
theorem exprT_1 {B:List Bf} {sc:List ByteArray} {e:Ex} (h:¬fT e=0):dA B sc e=(zTy,fT e):=by unfold dA;rw [if_neg h]
theorem exprT_2 {B:List Bf} {sc:List ByteArray} {e:Ex} (h:fT e=0) (h2:¬bZ B sc (bH e)=0):dA B sc e=(zTy,bZ B sc (bH e)):=by unfold dA;rw [if_pos h,if_neg h2]
theorem exprT_3 {B:List Bf} {sc:List ByteArray} {e:Ex} (h:fT e=0) (h2:bZ B sc (bH e)=0):dA B sc e=dO (tyF B) e:=by unfold dA;rw [if_pos h,if_pos h2]
theorem exprT_k {B:List Bf} {sc:List ByteArray} {e:Ex} (h:fT e=0) (h2:bZ B sc (bH e)=0):dA B sc e=dO (kiN B) e:=by rw [exprT_3 h h2];exact nodeT_ki B e (zJp h)
theorem exprT_rd {B:List Bf} {sc:List ByteArray} {s:St} (h:(dA B sc (rdE s)).2=0):(dA B sc (rdE s)).1=(dF B s.Name).T:=by
 by_cases h1:fT (rdE s)=0
 ·by_cases h2:bZ B sc (bH (rdE s))=0
  ·rw [exprT_3 h1 h2,zQv]
   have:bK (tyF B) (rdE s).Args=([],0):=rfl
   rw [this,if_pos rfl,zBz rfl];rfl
  ·rw [exprT_2 h1 h2] at h;exact absurd h h2
 ·rw [exprT_1 h1] at h;exact absurd h h1
/-! ## Statements -/
def rC (e:Ex):Bool:=decide (e=zEx)
def fS (s:St):Bool:=decide (s.Op=2)||decide (s.Op=3)
def fL (s:St):Bool:=
 (decide (s.Op=1)||fS s||decide (s.Op=4))&& !(decide (s.Op=4)&& !decide (s.Name=bs []))&& !(!decide (s.Op=1)&&(!decide (s.Many=0)|| !decide (s.Mark=0)))&&
 !(!decide (s.Op=3)&& !decide (s.Fold=0))&& !(!fS s&&decide ((0:Int)<s.Idx.length))&& !(decide (s.Op=1)&& !rC s.E)&&(!fS s||decide ((s.Body.length:Int)=0))
theorem syn_1 {s:St} (c:((!decide (s.Op=1)&& !(decide (s.Op=2)||decide (s.Op=3)))&& !decide (s.Op=4))=true):false=fL s:=by
 unfold fL fS
 simp only [Bool.and_eq_true,Bool.not_eq_true',Bool.or_eq_false_iff] at c
 simp only [c.1.1,c.1.2.1,c.1.2.2,c.2,Bool.or_self,Bool.false_and]
theorem syn_2 {s:St} (c:(decide (s.Op=4)&& !decide (s.Name=bs []))=true):false=fL s:=by
 exact v22
theorem syn_3 {s:St} (c:(!decide (s.Op=1)&&(!decide (s.Many=0)|| !decide (s.Mark=0)))=true):false=fL s:=by
 exact v22
theorem syn_4 {s:St} (c:(!decide (s.Op=3)&& !decide (s.Fold=0))=true):false=fL s:=by
 exact v22
theorem syn_5 {s:St} (c:(!fS s&&decide ((0:Int)<s.Idx.length))=true):false=fL s:=by
 exact v22
theorem syn_6 {s:St} (c:(decide (s.Op=1)&& !rC s.E)=true):false=fL s:=by
 exact v22
theorem syn_7 {s:St} (c1:((!decide (s.Op=1)&& !fS s)&& !decide (s.Op=4))=false) (c2:(decide (s.Op=4)&& !decide (s.Name=bs []))=false) (c3:(!decide (s.Op=1)&&(!decide (s.Many=0)|| !decide (s.Mark=0)))=false) (c4:(!decide (s.Op=3)&& !decide (s.Fold=0))=false)
  (c5:(!fS s&&decide ((0:Int)<s.Idx.length))=false) (c6:(decide (s.Op=1)&& !rC s.E)=false):(!fS s||decide ((s.Body.length:Int)=0))=fL s:=by
 have h1:(decide (s.Op=1)||fS s||decide (s.Op=4))=true:=by
  revert c1;cases decide (s.Op=1)<;>cases fS s<;>cases decide (s.Op=4)<;>simp
 unfold fL
 simp only [h1,c2,c3,c4,c5,c6,Bool.not_false,Bool.true_and]
def mO (B:List Bf) (U:List ByteArray) (s:St):Int:=
 if bM s.Name=true then (if bO B s.Name=true∨bR U s.Name=true then 8 else if s.Many<1∨65536<s.Many∨s.Mark<0∨3<s.Mark then 1 else 0) else 7
def ifE (B:List Bf) (sc:List ByteArray) (s:St):Int:=if (dA B sc s.E).2=0 then (if bC s.E=true then 0 else 10) else (dA B sc s.E).2
def gL (B:List Bf) (sc:List ByteArray) (s:St):Int:=
 if (dA B sc (rdE s)).2=0 then (if (dF B s.Name).Use=1∨(s.Op=3/\(s.Fold<1∨4<s.Fold)) then 1 else
  if (dA B sc s.E).2=0 then (if bC s.E=true∨¬(dA B sc s.E).1=(dF B s.Name).T then 10 else 0) else (dA B sc s.E).2) else (dA B sc (rdE s)).2
def stE (B:List Bf) (U sc:List ByteArray) (s:St):Int:=
 if fL s=true then (if s.Op=1 then mO B U s else if s.Op=4 then ifE B sc s else gL B sc s) else 5
structure Ck where
 U:List ByteArray
 W:List Int
 E:Int
def jX (U:List ByteArray) (s:St):List ByteArray:=if s.Op=1 then U++[s.Name] else U
mutual
def lO (B:List Bf):List ByteArray->List ByteArray->List Int->St->Ck
 |U,sc,here,.mk o nm mn mk fo i e b=>if stE B U sc (.mk o nm mn mk fo i e b)=0 then dV B (jX U (.mk o nm mn mk fo i e b)) (jX sc (.mk o nm mn mk fo i e b)) here 0 b else ⟨[],here,stE B U sc (.mk o nm mn mk fo i e b)⟩
def dV (B:List Bf):List ByteArray->List ByteArray->List Int->Int->List St->Ck
 |U,_,_,_,[]=>⟨U,[],0⟩
 |U,sc,way,i,s::r=>if (lO B U sc (way++[i]) s).E=0 then dV B (lO B U sc (way++[i]) s).U sc way (i+1) r else lO B U sc (way++[i]) s
end
theorem chkS_eq (B:List Bf) (U sc:List ByteArray) (here:List Int) (s:St):lO B U sc here s=if stE B U sc s=0 then dV B (jX U s) (jX sc s) here 0 s.Body else ⟨[],here,stE B U sc s⟩:=by cases s;rw [lO];rfl
theorem chkS_no {B:List Bf} {U sc:List ByteArray} {here:List Int} {s:St} (h:¬stE B U sc s=0):lO B U sc here s=⟨[],here,stE B U sc s⟩:=by rw [chkS_eq,if_neg h]
theorem chkS_in {B:List Bf} {U sc:List ByteArray} {here:List Int} {s:St} (h:stE B U sc s=0):lO B U sc here s=dV B (jX U s) (jX sc s) here 0 s.Body:=by rw [chkS_eq,if_pos h]
theorem zNr {B:List Bf} {R:Ck} {U sc:List ByteArray} {way:List Int} {l:List St} {k:Nat} {s:St} (h:l[k]? =some s) (hp:R=dV B U sc way k (l.drop k)) (hx:(lO B U sc (way++[(k:Int)]) s).E=0):R=dV B (lO B U sc (way++[(k:Int)]) s).U sc way ((k+1:Nat):Int) (l.drop (k+1)):=by
 rw [hp,yB h,dV,if_pos hx];rfl
theorem zEh {B:List Bf} {R:Ck} {U sc:List ByteArray} {way:List Int} {l:List St} {k:Nat} {s:St} (h:l[k]? =some s) (hp:R=dV B U sc way k (l.drop k)) (hx:¬(lO B U sc (way++[(k:Int)]) s).E=0):R=lO B U sc (way++[(k:Int)]) s:=by
 rw [hp,yB h,dV,if_neg hx]
theorem zRh {B:List Bf} {R:Ck} {U sc:List ByteArray} {way:List Int} {l:List St} {k:Nat} (hp:R=dV B U sc way k (l.drop k)) (h:¬k<l.length):R=⟨U,[],0⟩:=by
 rw [hp,wG h,dV]
theorem chkL_ok:∀{B:List Bf} {l:List St} {U sc:List ByteArray} {way:List Int} {i:Int},(dV B U sc way i l).E=0->(dV B U sc way i l).W=[]
 |B,[],U,sc,way,i,_=>by rw [dV]
 |B,s::r,U,sc,way,i,h=>by
  rw [dV] at h⊢
  by_cases c:(lO B U sc (way++[i]) s).E=0
  ·rw [if_pos c] at h⊢;exact chkL_ok h
  ·rw [if_neg c] at h;exact absurd h c
mutual
theorem chkS_len (B:List Bf):∀(s:St) (U sc:List ByteArray) (here:List Int),(lO B U sc here s).U.length<=U.length+stN s
 |.mk o nm mn mk fo i e b,U,sc,here=>by
  rw [lO,stN]
  split
  ·have h1:=chkL_len B b (jX U (.mk o nm mn mk fo i e b)) (jX sc (.mk o nm mn mk fo i e b)) here 0
   have h2:(jX U (.mk o nm mn mk fo i e b)).length<=U.length+1:=by unfold jX;split<;>simp
   omega
  ·simp
theorem chkL_len (B:List Bf):∀(l:List St) (U sc:List ByteArray) (way:List Int) (i:Int),(dV B U sc way i l).U.length<=U.length+dJ l
 |[],U,sc,way,i=>by rw [dV];simp
 |s::r,U,sc,way,i=>by
  rw [dV,dJ]
  have h1:=chkS_len B s U sc (way++[i])
  split
  ·have h2:=chkL_len B r (lO B U sc (way++[i]) s).U sc way (i+1)
   omega
  ·omega
end
theorem zJc {U:List ByteArray} {s:St} (h:s.Op=1):jX U s=U++[s.Name]:=by unfold jX;rw [if_pos h]
theorem zMs {U:List ByteArray} {s:St} (h:¬s.Op=1):jX U s=U:=by unfold jX;rw [if_neg h]
theorem scAll_next {S:List ByteArray} {f:Lf} {l:List Ix} {k:Nat} {x:Ix} (h:l[k]? =some x):((jL S f&&(l.take k).all (vA S))&&jL S x.Lin&&x.At.all (jL S))=(jL S f&&(l.take (k+1)).all (vA S)):=by
 rw [yD h,List.all_append]
 simp only [List.all_cons,List.all_nil,Bool.and_true,vA,Bool.and_assoc]
theorem st10_t {c:Bool} {a b:Ty} (h:(c|| !bF [cI a.Kind,cI a.Bits,cI a.Frac,cI a.Round,cI a.Over] [cI b.Kind,cI b.Bits,cI b.Frac,cI b.Round,cI b.Over])=true):c=true∨¬a=b:=by
 rw [tyC_eq,Bool.or_eq_true] at h
 rcases h with h|h
 ·exact .inl h
 ·exact .inr (by simpa using h)
theorem st10_f {c:Bool} {a b:Ty} (h:(c|| !bF [cI a.Kind,cI a.Bits,cI a.Frac,cI a.Round,cI a.Over] [cI b.Kind,cI b.Bits,cI b.Frac,cI b.Round,cI b.Over])=false):¬(c=true∨¬a=b):=by
 rw [tyC_eq,Bool.or_eq_false_iff] at h
 rw [h.1]
 rintro (k|k)
 ·cases k
 ·exact k (by simpa using h.2)
theorem storeE_1 {B:List Bf} {sc:List ByteArray} {s:St} (h:¬(dA B sc (rdE s)).2=0):gL B sc s=(dA B sc (rdE s)).2:=by unfold gL;rw [if_neg h]
theorem storeE_u {B:List Bf} {sc:List ByteArray} {s:St} (h:(dA B sc (rdE s)).2=0) (h2:(dF B s.Name).Use=1∨(s.Op=3/\(s.Fold<1∨4<s.Fold))):gL B sc s=1:=by unfold gL;rw [if_pos h,if_pos h2]
theorem storeE_2 {B:List Bf} {sc:List ByteArray} {s:St} (h:(dA B sc (rdE s)).2=0) (h2:¬((dF B s.Name).Use=1∨(s.Op=3/\(s.Fold<1∨4<s.Fold)))) (h3:¬(dA B sc s.E).2=0):gL B sc s=(dA B sc s.E).2:=by unfold gL;rw [if_pos h,if_neg h2,if_neg h3]
theorem storeE_10 {B:List Bf} {sc:List ByteArray} {s:St} (h:(dA B sc (rdE s)).2=0) (h2:¬((dF B s.Name).Use=1∨(s.Op=3/\(s.Fold<1∨4<s.Fold)))) (h3:(dA B sc s.E).2=0) (h4:bC s.E=true∨¬(dA B sc s.E).1=(dF B s.Name).T):gL B sc s=10:=by unfold gL;rw [if_pos h,if_neg h2,if_pos h3,if_pos h4]
theorem storeE_0 {B:List Bf} {sc:List ByteArray} {s:St} (h:(dA B sc (rdE s)).2=0) (h2:¬((dF B s.Name).Use=1∨(s.Op=3/\(s.Fold<1∨4<s.Fold)))) (h3:(dA B sc s.E).2=0) (h4:¬(bC s.E=true∨¬(dA B sc s.E).1=(dF B s.Name).T)):gL B sc s=0:=by unfold gL;rw [if_pos h,if_neg h2,if_pos h3,if_neg h4]
theorem loopE_7 {B:List Bf} {U:List ByteArray} {s:St} (h:bM s.Name=false):mO B U s=7:=by unfold mO;rw [if_neg (by rw [h];simp)]
theorem loopE_8 {B:List Bf} {U:List ByteArray} {s:St} (h:bM s.Name=true) (h2:bO B s.Name=true∨bR U s.Name=true):mO B U s=8:=by unfold mO;rw [if_pos h,if_pos h2]
theorem loopE_1 {B:List Bf} {U:List ByteArray} {s:St} (h:bM s.Name=true) (h2:¬(bO B s.Name=true∨bR U s.Name=true)) (h3:s.Many<1∨65536<s.Many∨s.Mark<0∨3<s.Mark):mO B U s=1:=by unfold mO;rw [if_pos h,if_neg h2,if_pos h3]
theorem loopE_0 {B:List Bf} {U:List ByteArray} {s:St} (h:bM s.Name=true) (h2:¬(bO B s.Name=true∨bR U s.Name=true)) (h3:¬(s.Many<1∨65536<s.Many∨s.Mark<0∨3<s.Mark)):mO B U s=0:=by unfold mO;rw [if_pos h,if_neg h2,if_neg h3]
theorem ifE_x {B:List Bf} {sc:List ByteArray} {s:St} (h:¬(dA B sc s.E).2=0):ifE B sc s=(dA B sc s.E).2:=by unfold ifE;rw [if_neg h]
theorem ifE_10 {B:List Bf} {sc:List ByteArray} {s:St} (h:(dA B sc s.E).2=0) (h2:bC s.E=false):ifE B sc s=10:=by unfold ifE;rw [if_pos h,if_neg (by rw [h2];simp)]
theorem ifE_0 {B:List Bf} {sc:List ByteArray} {s:St} (h:(dA B sc s.E).2=0) (h2:bC s.E=true):ifE B sc s=0:=by unfold ifE;rw [if_pos h,if_pos h2]
theorem stE_5 {B:List Bf} {U sc:List ByteArray} {s:St} (h:fL s=false):stE B U sc s=5:=by unfold stE;rw [if_neg (by rw [h];simp)]
theorem stE_l {B:List Bf} {U sc:List ByteArray} {s:St} (h:fL s=true) (h2:s.Op=1):stE B U sc s=mO B U s:=by unfold stE;rw [if_pos h,if_pos h2]
theorem stE_i {B:List Bf} {U sc:List ByteArray} {s:St} (h:fL s=true) (h2:s.Op=4):stE B U sc s=ifE B sc s:=by unfold stE;rw [if_pos h,if_neg (by omega),if_pos h2]
theorem stE_s {B:List Bf} {U sc:List ByteArray} {s:St} (h:fL s=true) (h2:¬s.Op=1) (h3:¬s.Op=4):stE B U sc s=gL B sc s:=by unfold stE;rw [if_pos h,if_neg h2,if_neg h3]
def bY (n:Ns):List Int×Int:=
 if dC 40 n.Body=true then (if 2000<jA n.Body 2000∨128<n.Bufs.length then ([],2) else if bX [] n.Bufs=0 then ((dV n.Bufs [] [] [] 0 n.Body).W,(dV n.Bufs [] [] [] 0 n.Body).E) else ([],bX [] n.Bufs)) else ([],13)
theorem zRu {n:Ns} (h:dC 40 n.Body=false):bY n=([],13):=by unfold bY;rw [if_neg (by rw [h];simp)]
theorem validN_2 {n:Ns} (h:dC 40 n.Body=true) (h2:2000<jA n.Body 2000∨128<n.Bufs.length):bY n=([],2):=by unfold bY;rw [if_pos h,if_pos h2]
theorem validN_b {n:Ns} (h:dC 40 n.Body=true) (h2:¬(2000<jA n.Body 2000∨128<n.Bufs.length)) (h3:¬bX [] n.Bufs=0):bY n=([],bX [] n.Bufs):=by unfold bY;rw [if_pos h,if_neg h2,if_neg h3]
theorem zQk {n:Ns} (h:dC 40 n.Body=true) (h2:¬(2000<jA n.Body 2000∨128<n.Bufs.length)) (h3:bX [] n.Bufs=0):bY n=((dV n.Bufs [] [] [] 0 n.Body).W,(dV n.Bufs [] [] [] 0 n.Body).E):=by unfold bY;rw [if_pos h,if_neg h2,if_pos h3]
structure Ns.Ok (n:Ns):Prop where
 bufs:n.Bufs.length<=4294967296
 dims:∀b,b∈n.Bufs->b.Dims.length<=17592186044416
 body:bE n.Body<=536870912
theorem Ns.Ok.buf {n:Ns} (h:n.Ok) (s:ByteArray):(dF n.Bufs s).Dims.length<=17592186044416:=by
 cases c:bO n.Bufs s
 ·rw [bufD_no c];simp [zBf]
 ·exact h.dims _ (bufD_mem c).1
end Go.Br
end
section
namespace Go.Br
open Go Go.Eng Go.L41
def lG (i:List Ix):Ex:=.mk 0 (bs []) ⟨0,0⟩ ⟨0,0,0,0,0⟩ ⟨0,[]⟩ i []
theorem idxE_wt (i:List Ix):(lG i).wt=1+i.length+fQ i:=by
 rw [Ex.wt_eq];simp only [lG,Ex.Lin,Ex.Idx,Ex.Args,dK,List.length_nil];omega
mutual
def lU:St->Nat->Nat
 |.mk _ _ _ _ _ _ _ b,m=>fA b m b.length
def fA:List St->Nat->Nat->Nat
 |[],_,n=>n
 |s::r,m,n=>if n<=m then fA r m (n+fF s.E m+fF (lG s.Idx) m+lU s (m-n)) else n
end
def gJ (l:List St) (m:Nat):Nat:=fA l m l.length
theorem weighS_eq (s:St) (m:Nat):lU s m=gJ s.Body m:=by cases s;rw [lU];rfl
theorem weighSs_ge:∀(l:List St) (m n:Nat),n<=fA l m n
 |[],m,n=>by rw [fA];omega
 |s::r,m,n=>by
  rw [fA];split
  ·have:=weighSs_ge r m (n+fF s.E m+fF (lG s.Idx) m+lU s (m-n));omega
  ·omega
mutual
theorem weighS_wt:∀(s:St) (m:Nat),lU s m<=m->bE s.Body<=lU s m
 |.mk _ _ _ _ _ _ _ b,m,h=>by
  rw [lU] at h⊢
  have:=zOa b m _ h
  have:=wH b
  simp only [St.Body];omega
theorem zOa:∀(l:List St) (m n:Nat),fA l m n<=m->n+(bE l-l.length)<=fA l m n
 |[],m,n,h=>by simp [fA,bE]
 |s::r,m,n,h=>by
  by_cases hn:n<=m
  ·rw [fA,if_pos hn] at h⊢
   have h1:=weighSs_ge r m (n+fF s.E m+fF (lG s.Idx) m+lU s (m-n))
   have h2:=zOa r m _ h
   have h3:=zRq s.E m (by omega)
   have h4:=zRq (lG s.Idx) m (by omega)
   have h5:=weighS_wt s (m-n) (by omega)
   have h6:=wH r
   rw [idxE_wt] at h4
   rw [bE,List.length_cons,St.wt_eq];omega
  ·rw [fA,if_neg hn] at h;omega
end
theorem weighB_wt {l:List St} {m:Nat} (h:gJ l m<=m):bE l<=gJ l m:=by
 unfold gJ at *
 have:=zOa l m _ h
 have:=wH l
 omega
mutual
def St.fit:St->Prop
 |.mk _ _ _ _ _ i e b=>i.length<=140737488355328/\(∀x,x∈i->x.fit)/\e.fit/\b.length<=140737488355328/\nM b
def nM:List St->Prop
 |[]=>True
 |s::r=>s.fit/\nM r
end
theorem zRb {l:List St} (h:nM l):∀a,a∈l->a.fit:=by
 induction l with
 |nil=>intro a ha;cases ha
 |cons x r ih=>
  intro a ha
  rw [nM] at h
  rcases List.mem_cons.1 ha with rfl|ha
  ·exact h.1
  ·exact ih h.2 a ha
theorem fitS_of {l:List St} (h:∀a,a∈l->a.fit):nM l:=by
 induction l with
 |nil=>rw [nM];trivial
 |cons x r ih=>rw [nM];exact ⟨h x (by simp),ih fun a ha=>h a (by simp [ha])⟩
theorem St.fit_eq {s:St} (h:s.fit):s.Idx.length<=140737488355328/\(∀x,x∈s.Idx->x.fit)/\s.E.fit/\s.Body.length<=140737488355328/\nM s.Body:=by
 cases s with
 |mk o n m k f i e b=>rw [St.fit] at h;exact h
theorem idxE_fit {i:List Ix} (h1:i.length<=140737488355328) (h2:∀x,x∈i->x.fit):(lG i).fit:=by
 unfold lG;rw [Ex.fit];exact ⟨by simp,h1,by simp,h2,trivial⟩
abbrev wB (m:Nat):Nat:=140737488355328+m*1125899906857624
mutual
theorem weighS_le:∀(s:St) (m:Nat),s.fit->m<=5000->lU s m<=wB m
 |.mk o nm k f mn i e b,m,h,hm=>by
  rw [St.fit] at h
  obtain ⟨_,_,_,h1,h2⟩:=h
  rw [lU]
  exact weighSs_le b m _ h2 hm (fun hb=>by cases b;exact absurd rfl hb;simp) (by unfold wB;omega)
theorem weighSs_le:∀(l:List St) (m n:Nat),nM l->m<=5000->(l≠[]->1<=n)->n<=wB m->fA l m n<=wB m
 |[],m,n,_,_,_,h=>by rw [fA];exact h
 |s::r,m,n,hf,hm,h1,h=>by
  rw [nM] at hf
  rw [fA]
  have h1:=h1 (by simp)
  obtain ⟨f1,f2,f3,_,_⟩:=St.fit_eq hf.1
  split
  ·rename_i hn
   have h3:=weighS_le s (m-n) hf.1 (by omega)
   have h4:=zGb s.E m f3
   have h5:=zGb (lG s.Idx) m (idxE_fit f1 f2)
   refine weighSs_le r m _ hf.2 hm (fun _=>by omega) ?_
   unfold wB at *
   omega
  ·exact h
end
theorem weighSs_end {m n k:Nat} {l:List St} {N:Nat} {x:Int} (hp:N=fA (l.drop k) m n) (hx:x=m) (h:l.length<=k∨x<n):n=N:=by
 rw [hp]
 by_cases hk:k<l.length
 ·obtain ⟨a,ha⟩:=qU l k hk
  rw [yB ha,fA,if_neg (by omega)]
 ·rw [wG hk,fA]
theorem weighSs_next {m n k:Nat} {l:List St} {N:Nat} {s:St} (hs:l[k]? =some s) (hp:N=fA (l.drop k) m n) (h:n<=m):N=fA (l.drop (k+1)) m (n+fF s.E m+fF (lG s.Idx) m+gJ s.Body (m-n)):=by
 rw [hp,yB hs,fA,if_pos h,weighS_eq]
theorem weigh_lt {m n:Nat} {l:List St} {k:Nat} {s:St} (hs:l[k]? =some s) (hf:nM l) (hm:m<=5000) (hn:n<=m) (h1:1<=n):n+fF s.E m+fF (lG s.Idx) m+gJ s.Body (m-n)<=wB m:=by
 have hs':=zRb hf s (qE hs)
 obtain ⟨f1,f2,f3,f4,f5⟩:=St.fit_eq hs'
 have h3:=weighS_le s (m-n) hs' (by omega)
 rw [weighS_eq] at h3
 have h4:=zGb s.E m f3
 have h5:=zGb (lG s.Idx) m (idxE_fit f1 f2)
 unfold wB at *
 omega
/-! ## What the laws of layers 30,36 and 41 take for small -/
structure Ns.Fit (n:Ns):Prop where
 bufs:n.Bufs.length<=140737488355328
 dims:∀b,b∈n.Bufs->b.Dims.length<=17592186044416
 len:n.Body.length<=140737488355328
 body:nM n.Body
theorem Ns.Fit.ok {n:Ns} (h:n.Fit) {m:Nat} (hm:m<=5000) (hb:n.Bufs.length<=150) (hw:gJ n.Body m<=m):n.Ok:=
 ⟨by omega,h.dims,by have:=weighB_wt hw;omega⟩
end Go.Br
end
section
namespace Go.Br
open Go Go.Eng Go.L41
/-! ## For the reference's check -/
structure Bd where
 Name:ByteArray
 Val:Int
 deriving DecidableEq
def Bd.cells (x:Bd):List C:=[cS x.Name,cI x.Val]
theorem any_hasB (bd:List Bd) (s:ByteArray):(bd.any fun d=>decide (d.Name=s))=bR (bd.map Bd.Name) s:=by
 unfold bR;rw [List.any_map];rfl
theorem any_step {bd:List Bd} {i:Nat} {d:Bd} {s:ByteArray} (h:bd[i]? =some d):(((bd.take i).any fun d=>decide (d.Name=s))||decide (d.Name=s))=(bd.take (i+1)).any fun d=>decide (d.Name=s):=by
 rw [yD h,List.any_append];simp
theorem bound_no {l:List Lf} {sc:List ByteArray} {k j:Nat} {x:Lf} {m:Mono} (h:l[k]? =some x) (hm:x.L[j]? =some m) (c:bR sc m.Name=false):l.all (jL sc)=false:=by
 have:jL sc x=false:=zQa hm (p:=fun y:Mono=>bR sc y.Name) c
 exact zQa h this
theorem ixs_len (l:List Ix) (k:Nat):((l.take k).flatMap ixF).length<=l.length+fQ l:=by
 have h1:∀l:List Ix,(l.flatMap ixF).length<=l.length+fQ l:=by
  intro l
  induction l with
  |nil=>simp
  |cons x r ih=>
   rw [List.flatMap_cons,List.length_append,fQ,Ix.wt,List.length_cons]
   simp only [ixF,List.length_cons];omega
 have h2:=h1 (l.take k)
 have h3:fQ (l.take k)<=fQ l:=by
  have:∀(l:List Ix) (k:Nat),fQ (l.take k)<=fQ l:=by
   intro l
   induction l with
   |nil=>intro k;simp [fQ]
   |cons x r ih=>intro k;cases k with
    |zero=>simp [fQ]
    |succ k=>rw [List.take_succ_cons,fQ,fQ];have:=ih k;omega
  exact this l k
 have h4:=List.length_take_le' k l
 omega
theorem node_sc (sc:List ByteArray) (e:Ex):([e.Lin].all (jL sc)&&(e.Idx.flatMap ixF).all (jL sc))=gN sc e:=by
 unfold gN
 congr 1
 ·simp
 ·rw [List.all_flatMap];rfl
theorem node_sc_f {sc:List ByteArray} {e:Ex} (c:(![e.Lin].all (jL sc)|| !(e.Idx.flatMap ixF).all (jL sc))=true):gN sc e=false:=by
 rw [←Bool.not_and,node_sc] at c;simpa using c
theorem node_sc_t {sc:List ByteArray} {e:Ex} (c:(![e.Lin].all (jL sc)|| !(e.Idx.flatMap ixF).all (jL sc))=false):gN sc e=true:=by
 rw [←Bool.not_and,node_sc] at c;simpa using c
theorem nonC_len:∀(arg_:List Ex) (ts:List Ty),(gB arg_ ts).length<=arg_.length
 |[],_=>by simp [gB]
 |_::_,[]=>by simp [gB]
 |a::r,t::ts=>by
  have:=nonC_len r ts
  rw [gB];split<;>simp<;>omega
theorem ki10_t {l:List Ty} (c:(decide (((l.map tyC).length:Int)=2)&& !bF [cI (dH l 0).Kind,cI (dH l 0).Bits,cI (dH l 0).Frac,cI (dH l 0).Round,cI (dH l 0).Over] [cI (dH l 1).Kind,cI (dH l 1).Bits,cI (dH l 1).Frac,cI (dH l 1).Round,cI (dH l 1).Over])=true):l.length=2/\¬dH l 0=dH l 1:=by
 rw [Bool.and_eq_true,decide_eq_true_eq,List.length_map] at c
 exact ⟨by omega,zHc c.2⟩
theorem ki10_f {l:List Ty} (c:(decide (((l.map tyC).length:Int)=2)&& !bF [cI (dH l 0).Kind,cI (dH l 0).Bits,cI (dH l 0).Frac,cI (dH l 0).Round,cI (dH l 0).Over] [cI (dH l 1).Kind,cI (dH l 1).Bits,cI (dH l 1).Frac,cI (dH l 1).Round,cI (dH l 1).Over])=false):¬(l.length=2/\¬dH l 0=dH l 1):=by
 rintro ⟨h1,h2⟩
 rw [Bool.and_eq_false_iff,decide_eq_false_iff_not,List.length_map] at c
 rcases c with c|c
 ·omega
 ·exact h2 (zHd c)
theorem ki_one {e:Ex} {l:List Ty} (h:fM e=0) (hl:l.length=e.Args.length) (h1:¬(e.Op=1∨e.Op=12∨e.Op=2∨e.Op=3)) (h2:bC e=false):1<=(gB e.Args l).length:=by
 have hr:=zQs h
 have hc:=zKf h
 obtain ⟨o1,o2⟩:=zLk (zAf h)
 have h13:e.Op<13:=by
  unfold bC at h2
  simp only [Bool.and_eq_false_iff,decide_eq_false_iff_not] at h2
  omega
 generalize e.Args=A at hr hc hl
 have w:∀i,(e.Op=11->i≠0)->fG e.Op i=false:=fun i hi=>by
  unfold fG;simp only [Bool.or_eq_false_iff,Bool.and_eq_false_iff,decide_eq_false_iff_not]
  by_cases h11:e.Op=11
  ·have:=hi h11;omega
  ·omega
 unfold bI at hr
 match A,l,hl with
 |[],_,_=>
  exfalso
  simp only [List.length_nil] at hr
  split at hr
  ·omega
  ·split at hr
   ·simp at hr
   ·split at hr<;>simp at hr
 |[a],[t],_=>
  simp only [fC,Bool.and_true,beq_iff_eq] at hc
  have h11:e.Op≠11:=by rintro h11;rw [h11] at hr;simp at hr
  rw [w 0 (fun h=>absurd h h11)] at hc
  rw [gB,if_neg (by rw [hc];simp)];simp
 |a::b::r,t::u::s,_=>
  simp only [fC,Bool.and_eq_true,beq_iff_eq] at hc
  have hb:=hc.2.1
  rw [w (0+1) (fun _=>by omega)] at hb
  rw [gB]
  split
  ·rw [gB,if_neg (by rw [hb];simp)];simp
  ·simp
 |[_],[],hl=>simp at hl
 |[_],_::_::_,hl=>simp at hl
 |_::_::_,[],hl=>simp at hl
 |_::_::_,[_],hl=>simp at hl
theorem map_bd {bd:List Bd} {s:St}:(bd++[(⟨s.Name,s.Many⟩:Bd)]).map Bd.Name=bd.map Bd.Name++[s.Name]:=by simp
theorem pln_1 {s:St} (c:((!decide (s.Op=1)&& !decide (s.Op=4))&& !fS s)=true):false=fL s:=by
 unfold fL
 simp only [Bool.and_eq_true,Bool.not_eq_true'] at c
 simp only [c.1.1,c.1.2,c.2,Bool.or_self,Bool.false_and]
theorem pln_2 {s:St} (c:(((!decide (s.Op=1)&&(!decide (s.Many=0)|| !decide (s.Mark=0)))||(!decide (s.Op=3)&& !decide (s.Fold=0)))||(decide (s.Op=4)&& !decide (s.Name=bs [])))=true):false=fL s:=by
 rw [Bool.or_eq_true,Bool.or_eq_true] at c
 rcases c with (c|c)|c
 ·exact syn_3 c
 ·exact syn_4 c
 ·exact syn_2 c
theorem pln_3 {s:St} (c:((!fS s&&decide ((0:Int)<s.Idx.length))||(fS s&&decide ((0:Int)<s.Body.length)))=true):false=fL s:=by
 rw [Bool.or_eq_true] at c
 rcases c with c|c
 ·exact syn_5 c
 ·unfold fL
  rw [Bool.and_eq_true,decide_eq_true_eq] at c
  have:decide ((s.Body.length:Int)=0)=false:=decide_eq_false (by omega)
  simp only [c.1,this,Bool.not_true,Bool.or_self,Bool.and_false]
theorem pln_4 {s:St} (c1:((!decide (s.Op=1)&& !decide (s.Op=4))&& !fS s)=false) (c2:(((!decide (s.Op=1)&&(!decide (s.Many=0)|| !decide (s.Mark=0)))||(!decide (s.Op=3)&& !decide (s.Fold=0)))||(decide (s.Op=4)&& !decide (s.Name=bs [])))=false)
  (c3:((!fS s&&decide ((0:Int)<s.Idx.length))||(fS s&&decide ((0:Int)<s.Body.length)))=false):(!decide (s.Op=1)||decide (s.E=zEx))=fL s:=by
 rw [Bool.or_eq_false_iff,Bool.or_eq_false_iff] at c2
 rw [Bool.or_eq_false_iff] at c3
 have h1:(decide (s.Op=1)||fS s||decide (s.Op=4))=true:=by
  revert c1;cases decide (s.Op=1)<;>cases fS s<;>cases decide (s.Op=4)<;>simp
 have h7:(!fS s||decide ((s.Body.length:Int)=0))=true:=by
  have h:=c3.2
  rw [Bool.and_eq_false_iff,decide_eq_false_iff_not] at h
  rcases h with h|h
  ·rw [h];rfl
  ·rw [show decide ((s.Body.length:Int)=0)=true from decide_eq_true (by omega),Bool.or_true]
 unfold fL rC
 simp only [h1,c2.1.1,c2.1.2,c2.2,c3.1,h7,Bool.not_false,Bool.true_and,Bool.and_true,Bool.not_and,Bool.not_not]
theorem st3_t {n:Int} {c:Bool} {a b:Ty} (h:(decide (n=0)&&(c|| !bF [cI a.Kind,cI a.Bits,cI a.Frac,cI a.Round,cI a.Over] [cI b.Kind,cI b.Bits,cI b.Frac,cI b.Round,cI b.Over]))=true):n=0/\(c=true∨¬a=b):=by
 rw [Bool.and_eq_true,decide_eq_true_eq] at h
 exact ⟨h.1,st10_t h.2⟩
theorem st3_f {n:Int} {c:Bool} {a b:Ty} (h:(decide (n=0)&&(c|| !bF [cI a.Kind,cI a.Bits,cI a.Frac,cI a.Round,cI a.Over] [cI b.Kind,cI b.Bits,cI b.Frac,cI b.Round,cI b.Over]))=false):n=0->¬(c=true∨¬a=b):=by
 intro h0
 rw [decide_eq_true h0,Bool.true_and] at h
 exact st10_f h
theorem st_fin {B:List Bf} {sc:List ByteArray} {s:St} (h:(dA B sc (rdE s)).2=0) (h2:¬((dF B s.Name).Use=1∨(s.Op=3/\(s.Fold<1∨4<s.Fold)))) (h3:(dA B sc s.E).2=0->¬(bC s.E=true∨¬(dA B sc s.E).1=(dF B s.Name).T)):gL B sc s=(dA B sc s.E).2:=by
 by_cases h4:(dA B sc s.E).2=0
 ·rw [storeE_0 h h2 h4 (h3 h4),h4]
 ·exact storeE_2 h h2 h4
theorem if_t {B:List Bf} {sc:List ByteArray} {s:St} (c:(decide ((dA B sc s.E).2=0)&& !bC s.E)=true):ifE B sc s=10:=by
 rw [Bool.and_eq_true,decide_eq_true_eq] at c
 exact ifE_10 c.1 (by simpa using c.2)
theorem if_fin {B:List Bf} {sc:List ByteArray} {s:St} (c:(decide ((dA B sc s.E).2=0)&& !bC s.E)=false):ifE B sc s=(dA B sc s.E).2:=by
 by_cases h:(dA B sc s.E).2=0
 ·rw [decide_eq_true h,Bool.true_and] at c
  rw [ifE_0 h (by simpa using c),h]
 ·exact ifE_x h
theorem within_f {l:List St} (c:40<lI 41 l):dC 40 l=false:=by
 cases h:dC 40 l with
 |false=>rfl
 |true=>have h2:lI 41 l<=40:=(zHt 40 l).2 h;omega
theorem within_t {l:List St} (c:lI 41 l<=40):dC 40 l=true:=(zHt 40 l).1 c
end Go.Br
end
section
namespace Go.Br
open Go Go.Eng Go.L41
def jY:List ByteArray->ByteArray->List ByteArray
 |[],s=>[s]
 |x::r,s=>if jE x s=true then x::jY r s else if x=s then x::r else s::x::r
def fX (l:List ByteArray) (m:List ByteArray):List ByteArray:=m.foldl jY l
def below (s:ByteArray) (x:ByteArray):Bool:=jE x s
theorem insW_end:∀{l:List ByteArray} {s:ByteArray},l.all (below s)=true->jY l s=l++[s]
 |[],s,_=>rfl
 |x::r,s,h=>by
  simp only [List.all_cons,Bool.and_eq_true] at h
  rw [jY,if_pos (show jE x s=true from h.1),insW_end h.2];rfl
theorem insW_is:∀{l:List ByteArray} {s:ByteArray} {k:Nat},(l.take k).all (below s)=true->l[k]? =some s->jE s s=false->jY l s=l
 |[],s,k,_,h,_=>by simp at h
 |x::r,s,0,_,h,h2=>by
  have hx:x=s:=by simpa using h
  subst hx
  rw [jY,if_neg (by rw [h2];simp),if_pos rfl]
 |x::r,s,k+1,h0,h,h2=>by
  simp only [List.take_succ_cons,List.all_cons,Bool.and_eq_true] at h0
  rw [jY,if_pos (show jE x s=true from h0.1),insW_is h0.2 (by simpa using h) h2]
theorem insW_mid:∀{l:List ByteArray} {s x:ByteArray} {k:Nat},(l.take k).all (below s)=true->l[k]? =some x->jE x s=false->¬x=s->jY l s=l.take k++s::l.drop k
 |[],s,x,k,_,h,_,_=>by simp at h
 |y::r,s,x,0,_,h,h2,h3=>by
  have hx:y=x:=by simpa using h
  subst hx
  rw [jY,if_neg (by rw [h2];simp),if_neg h3];rfl
 |y::r,s,x,k+1,h0,h,h2,h3=>by
  simp only [List.take_succ_cons,List.all_cons,Bool.and_eq_true] at h0
  rw [jY,if_pos (show jE y s=true from h0.1),insW_mid h0.2 (by simpa using h) h2 h3];rfl
theorem zGo (x:ByteArray) (r:List ByteArray) (s:ByteArray):bR (x::r) s=(decide (x=s)||bR r s):=rfl
theorem insW_has (t:ByteArray):∀(l:List ByteArray) (s:ByteArray),bR (jY l s) t=(bR l t||decide (s=t))
 |[],s=>by simp [jY,bR]
 |x::r,s=>by
  rw [jY]
  split
  ·rw [zGo,zGo,insW_has t r s,Bool.or_assoc]
  ·split
   ·rename_i h;subst h;rw [zGo];cases decide (x=t)<;>simp
   ·rw [zGo s,Bool.or_comm]
theorem insWs_has (t:ByteArray):∀(m l:List ByteArray),bR (fX l m) t=(bR l t||bR m t)
 |[],l=>by simp [fX,bR]
 |x::m,l=>by
  have:=insWs_has t m (jY l x)
  unfold fX at *
  rw [List.foldl_cons,this,insW_has,zGo,Bool.or_assoc]
theorem insW_len:∀(l:List ByteArray) (s:ByteArray),(jY l s).length<=l.length+1
 |[],s=>by simp [jY]
 |x::r,s=>by
  rw [jY]
  have:=insW_len r s
  split
  ·simp;omega
  ·split<;>simp
theorem insWs_len:∀(m l:List ByteArray),(fX l m).length<=l.length+m.length
 |[],l=>by simp [fX]
 |x::m,l=>by
  have h1:=insWs_len m (jY l x)
  have h2:=insW_len l x
  unfold fX at *
  rw [List.foldl_cons,List.length_cons];omega
theorem zPp (l a b:List ByteArray):fX l (a++b)=fX (fX l a) b:=by unfold fX;rw [List.foldl_append]
theorem below_next {l:List ByteArray} {s x:ByteArray} {k:Nat} (h:l[k]? =some x) (hp:(l.take k).all (below s)=true) (hx:jE x s=true):(l.take (k+1)).all (below s)=true:=by
 rw [yD h,List.all_append,hp];simp [below,hx]
def atB (l:List ByteArray) (k:Nat):ByteArray:=l.getD k (bs [])
theorem zUk {l:List ByteArray} {k:Nat} (h:k<l.length):l[k]? =some (atB l k):=by
 rw [List.getElem?_eq_getElem h];simp [atB,List.getD,List.getElem?_eq_getElem h]
theorem with_1t {l:List ByteArray} {k:Nat} {s:ByteArray} (c:(decide ((k:Int)<l.length)&&jE (atB l k) s)=true):k<l.length/\jE (atB l k) s=true:=by
 rw [Bool.and_eq_true,decide_eq_true_eq] at c;exact ⟨by omega,c.2⟩
theorem with_1f {l:List ByteArray} {k:Nat} {s:ByteArray} (c:(decide ((k:Int)<l.length)&&jE (atB l k) s)=false):k<l.length->jE (atB l k) s=false:=by
 intro h
 rw [decide_eq_true (show (k:Int)<l.length by omega),Bool.true_and] at c;exact c
theorem with_2t {l:List ByteArray} {k:Nat} {s:ByteArray} (c:(decide ((k:Int)<l.length)&&decide (atB l k=s))=true):k<l.length/\atB l k=s:=by
 rw [Bool.and_eq_true,decide_eq_true_eq,decide_eq_true_eq] at c;exact ⟨by omega,c.2⟩
theorem with_2f {l:List ByteArray} {k:Nat} {s:ByteArray} (c:(decide ((k:Int)<l.length)&&decide (atB l k=s))=false):k<l.length->¬atB l k=s:=by
 intro h
 rw [decide_eq_true (show (k:Int)<l.length by omega),Bool.true_and,decide_eq_false_iff_not] at c;exact c
theorem with_is {l:List ByteArray} {k:Nat} {s:ByteArray} (hp:(l.take k).all (below s)=true) (h1:k<l.length->jE (atB l k) s=false) (h2:k<l.length/\atB l k=s):jY l s=l:=by
 have h3:=h1 h2.1
 rw [h2.2] at h3
 exact insW_is hp (by rw [zUk h2.1,h2.2]) h3
theorem with_new {l:List ByteArray} {k:Nat} {s:ByteArray} (hk:k<=l.length) (hp:(l.take k).all (below s)=true) (h1:k<l.length->jE (atB l k) s=false) (h2:k<l.length->¬atB l k=s):jY l s=l.take k++s::l.drop k:=by
 by_cases h:k<l.length
 ·exact insW_mid hp (zUk h) (h1 h) (h2 h)
 ·have hkl:k=l.length:=by omega
  subst hkl
  rw [List.take_length] at hp⊢
  rw [insW_end hp,List.drop_length]
theorem reads_0t {w:List ByteArray} {x:Ex} (h:x.Op=3):jY (fX [] w) x.Name=fX [] (w++fN x++bP (x.Idx.take 0)):=by
 simp [fN,h,zPp,bP,fX]
theorem reads_0f {w:List ByteArray} {x:Ex} (h:¬x.Op=3):fX [] w=fX [] (w++fN x++bP (x.Idx.take 0)):=by
 simp [fN,h,bP]
theorem zQq {w:List ByteArray} {l:List Ix} {j:Nat} {i:Ix} (h:l[j]? =some i) (hf:¬i.From=bs []):jY (fX [] (w++bP (l.take j))) i.From=fX [] (w++bP (l.take (j+1))):=by
 rw [zAt h,jG,if_neg hf,←List.append_assoc,zPp [] (w++bP (l.take j))];rfl
theorem zQr {w:List ByteArray} {l:List Ix} {j:Nat} {i:Ix} (h:l[j]? =some i) (hf:i.From=bs []):fX [] (w++bP (l.take j))=fX [] (w++bP (l.take (j+1))):=by
 rw [zAt h,jG,if_pos hf,List.append_nil]
theorem zGn (m:List ByteArray):(fX [] m).length<=m.length:=by have:=insWs_len m [];simpa using this
def lE (e:Ex):List ByteArray:=fX [] (bQ (bH e))
theorem zJv (e:Ex) (t:ByteArray):bR (lE e) t=bR (bQ (bH e)) t:=by
 unfold lE;rw [insWs_has];simp [bR]
theorem hasB_mem {l:List ByteArray} {s:ByteArray}:bR l s=true↔s∈l:=by
 unfold bR;rw [List.any_eq_true]
 constructor
 ·rintro ⟨x,hx,h⟩;rw [decide_eq_true_eq] at h;rw [←h];exact hx
 ·intro h;exact ⟨s,h,by simp⟩
theorem hasB_congr {a b:List ByteArray} {s:ByteArray} (h:s∈a↔s∈b):bR a s=bR b s:=by
 rw [Bool.eq_iff_iff,hasB_mem,hasB_mem];exact h
end Go.Br
end
section
namespace Go.Br
open Go Go.Eng Go.L41
theorem compact_mem {α:Type} [DecidableEq α] [Inhabited α] (d:Array α) (m:Nat):∀i,i<m->d[i]! ∈Lib.compactUpTo d m:=by
 intro i
 induction i with
 |zero=>
  intro h
  unfold Lib.compactUpTo
  exact List.mem_map.2 ⟨0,List.mem_filter.2 ⟨List.mem_range.2 h,Lib.keeps_lt_one d 0 (by omega)⟩,rfl⟩
 |succ i ih=>
  intro h
  by_cases hk:d[i+1]! =d[i+1-1]!
  ·rw [hk];exact ih (by omega)
  ·unfold Lib.compactUpTo
   exact List.mem_map.2 ⟨i+1,List.mem_filter.2 ⟨List.mem_range.2 h,Lib.keeps_pos hk⟩,rfl⟩
theorem thin_mem {s:ByteArray} {l:List ByteArray} (h:s∈l):s∈lA l:=by
 unfold lA
 rw [mem_toB]
 rw [←mem_ofB] at h
 obtain ⟨i,hi,e⟩:=List.mem_iff_getElem.1 h
 have:=compact_mem (ofB l).toArray (ofB l).length i hi
 rw [getElem!_pos _ i (by simpa using hi)] at this
 unfold Lib.compact
 rw [←e];simpa using this
end Go.Br
end
section
namespace Go.L41
open Go Go.Eng
structure Lifetime where
 Name:ByteArray
 From:Int
 To:Int
 Size:Int
def Lifetime.cells (x:Lifetime):List C:=[cS x.Name,cI x.From,cI x.To,cI x.Size]
abbrev vL (x:Lifetime):V:=.agg x.cells
abbrev vLs (l:List Lifetime):V:=.c (.sl 4 (l.map Lifetime.cells))
def jZ (a b:Lifetime):Bool:=decide (a.From<=b.To)&&decide (b.From<=a.To)
def gP (prev:List Lifetime) (x:Lifetime):Int:=
 if bM x.Name=false then 7
 else if (prev.any fun y=>decide (y.Name=x.Name))=true then 8
 else if x.From<0∨x.To<x.From∨x.Size<1∨4096<x.Size then 1 else 0
def fI (prev:List Lifetime):List Lifetime->Int
 |[]=>0
 |x::r=>if gP prev x=0 then fI (prev++[x]) r else gP prev x
def dT (l:List Lifetime):Int:=fI [] l
theorem valid_step {l:List Lifetime} {k:Nat} {x:Lifetime} (h:l[k]? =some x):fI (l.take k) (l.drop k)=if gP (l.take k) x=0 then fI (l.take (k+1)) (l.drop (k+1)) else gP (l.take k) x:=by
 have hlt:=(List.getElem?_eq_some_iff.1 h).1
 rw [List.drop_eq_getElem_cons hlt,(List.getElem?_eq_some_iff.1 h).2,yD h]
 rfl
theorem zGc {l:List Lifetime} {k:Nat} {x:Lifetime} {e:Int} (hv:dT l=fI (l.take k) (l.drop k)) (h:l[k]? =some x) (hc:gP (l.take k) x=e) (he:e≠0):dT l=e:=by
 rw [hv,valid_step h,hc,if_neg he]
theorem valid_ok {l:List Lifetime} {k:Nat} {x:Lifetime} (hv:dT l=fI (l.take k) (l.drop k)) (h:l[k]? =some x) (hc:gP (l.take k) x=0):dT l=fI (l.take (k+1)) (l.drop (k+1)):=by
 rw [hv,valid_step h,hc,if_pos rfl]
theorem zRt {l:List Lifetime} {k:Nat} (hv:dT l=fI (l.take k) (l.drop k)) (h:¬k<l.length):dT l=0:=by
 rw [hv,List.drop_of_length_le (by omega)]
 rfl
theorem check_name {prev:List Lifetime} {x:Lifetime} (h:bM x.Name=false):gP prev x=7:=by unfold gP;rw [if_pos h]
theorem check_dup {prev:List Lifetime} {x:Lifetime} (h:bM x.Name=true) (h2:(prev.any fun y=>decide (y.Name=x.Name))=true):gP prev x=8:=by
 unfold gP;rw [if_neg (by simp [h]),if_pos h2]
theorem check_arg {prev:List Lifetime} {x:Lifetime} (h:bM x.Name=true) (h2:(prev.any fun y=>decide (y.Name=x.Name))=false) (h3:x.From<0∨x.To<x.From∨x.Size<1∨4096<x.Size):gP prev x=1:=by
 unfold gP;rw [if_neg (by simp [h]),if_neg (by simp [h2]),if_pos h3]
theorem check_ok {prev:List Lifetime} {x:Lifetime} (h:bM x.Name=true) (h2:(prev.any fun y=>decide (y.Name=x.Name))=false) (h3:¬(x.From<0∨x.To<x.From∨x.Size<1∨4096<x.Size)):gP prev x=0:=by
 unfold gP;rw [if_neg (by simp [h]),if_neg (by simp [h2]),if_neg h3]
def rN (l:List Lifetime):List (ByteArray×Bool):=l.foldl (fun m x=>jW m x.Name true) []
theorem mget_mput {α:Type} (m:List (ByteArray×α)) (k k':ByteArray) (a:α):fK (jW m k a) k'=if k=k' then some a else fK m k':=by
 induction m with
 |nil=>simp [jW,fK]
 |cons p m ih=>
  obtain ⟨q,b⟩:=p
  simp only [jW]
  by_cases h:q=k
  ·subst h
   rw [if_pos rfl]
   simp only [fK]
   by_cases h2:q=k'<;>simp [h2]
  ·rw [if_neg h]
   simp only [fK,ih]
   by_cases h2:q=k'
   ·subst h2
    rw [if_pos rfl,if_neg (fun e=>h e.symm)]
    simp
   ·rw [if_neg h2,if_neg h2]
theorem seen_get (l:List Lifetime) (k:ByteArray):(fK (rN l) k).getD false=l.any fun y=>decide (y.Name=k):=by
 unfold rN
 suffices ∀(m:List (ByteArray×Bool)) (b:Bool),(fK m k).getD false=b->(fK (l.foldl (fun m x=>jW m x.Name true) m) k).getD false=(b||l.any fun y=>decide (y.Name=k)) by
  simpa using this [] false rfl
 induction l with
 |nil=>intro m b h;simpa using h
 |cons x l ih=>
  intro m b h
  rw [List.foldl_cons,ih (jW m x.Name true) (b||decide (x.Name=k)) (by
   rw [mget_mput]
   by_cases hx:x.Name=k
   ·simp [hx]
   ·simpa [hx] using h)]
  simp [Bool.or_assoc]
theorem seen_next {l:List Lifetime} {k:Nat} {x:Lifetime} (h:l[k]? =some x):rN (l.take (k+1))=jW (rN (l.take k)) x.Name true:=by
 unfold rN
 rw [yD h,List.foldl_append]
 rfl
theorem any_next_no {l:List Lifetime} {k:Nat} {y:Lifetime} {s:ByteArray} (h:l[k]? =some y) (hp:((l.take k).any fun y=>decide (y.Name=s))=false) (hn:¬y.Name=s):((l.take (k+1)).any fun y=>decide (y.Name=s))=false:=by
 rw [yD h,List.any_append,hp]
 simp [hn]
theorem any_of_get {l:List Lifetime} {k j:Nat} {y:Lifetime} {s:ByteArray} (h:l[j]? =some y) (hj:j<k) (he:y.Name=s):((l.take k).any fun y=>decide (y.Name=s))=true:=by
 rw [List.any_eq_true]
 have hlt:=(List.getElem?_eq_some_iff.1 h).1
 exact ⟨y,List.mem_take_iff_getElem.2 ⟨j,by omega,(List.getElem?_eq_some_iff.1 h).2⟩,by simpa using he⟩
/-! ## Counts: at the latest beginning every interval around a point is still there -/
end Go.L41
end
section
namespace Go.Br
open Go Go.Eng Go.L41
theorem readsT_has (e:Ex) (t:ByteArray):bR (fV e) t=bR (bQ (bH e)) t:=
 hasB_congr ⟨fun h=>mem_sortB.1 (mem_thinB h),fun h=>thin_mem (mem_sortB.2 h)⟩
theorem reads_idx (i:List Ix):bQ (bH (lG i))=bP i:=by
 rw [zAl]
 have:bJ (lG i).Args=[]:=rfl
 rw [this]
 simp [bQ,pD,fN,lG,Ex.Op,Ex.Idx]
def rE (s:St) (t:ByteArray):Bool:=(fS s&&decide (s.Name=t))||(bR (bP s.Idx) t||bR (bQ (bH s.E)) t)
mutual
def mY (t:ByteArray):St->Bool
 |.mk o nm mn mk fo i e b=>rE (.mk o nm mn mk fo i e b) t||pP t b
def pP (t:ByteArray):List St->Bool
 |[]=>false
 |s::r=>mY t s||pP t r
end
theorem accS_eq (t:ByteArray) (s:St):mY t s=(rE s t||pP t s.Body):=by cases s;rw [mY];rfl
def sO (s:St):List ByteArray:=(if fS s=true then [s.Name] else [])++bP s.Idx++fV s.E
mutual
def pB:St->List ByteArray
 |.mk o nm mn mk fo i e b=>sO (.mk o nm mn mk fo i e b)++lB b
def lB:List St->List ByteArray
 |[]=>[]
 |s::r=>pB s++lB r
end
theorem tchS_eq (s:St):pB s=sO s++lB s.Body:=by cases s;rw [pB];rfl
theorem zLv:∀l:List St,lB l=l.flatMap pB
 |[]=>by rw [lB];rfl
 |s::r=>by rw [lB,zLv r];rfl
theorem tchL_one (s:St):lB [s]=pB s:=by rw [zLv];simp
theorem tchL_next {l:List St} {k:Nat} {s:St} (h:l[k]? =some s):lB (l.take (k+1))=lB (l.take k)++pB s:=by
 rw [zLv,zLv,yD h,List.flatMap_append];simp
theorem zQz (a b:List ByteArray) (s:ByteArray):bR (a++b) s=(bR a s||bR b s):=by simp [bR,List.any_append]
theorem acc_1 {s:St} {t:ByteArray} (c:((decide (s.Op=2)||decide (s.Op=3))&&decide (s.Name=t))=true):mY t s=true:=by
 rw [accS_eq,rE,show (fS s&&decide (s.Name=t))=true from c];rfl
theorem acc_2 {s:St} {t:ByteArray} (c:(bR (lE (lG s.Idx)) t||bR (lE s.E) t)=true):mY t s=true:=by
 rw [zJv,zJv,reads_idx] at c
 rw [accS_eq,rE,c,Bool.or_true];rfl
theorem acc_0 {s:St} {t:ByteArray} (c1:((decide (s.Op=2)||decide (s.Op=3))&&decide (s.Name=t))=false) (c2:(bR (lE (lG s.Idx)) t||bR (lE s.E) t)=false):mY t s=pP t s.Body:=by
 rw [zJv,zJv,reads_idx] at c2
 rw [accS_eq,rE,show (fS s&&decide (s.Name=t))=false from c1,c2];rfl
theorem tch_sto {s:St} (h:(decide (s.Op=2)||decide (s.Op=3))=true):(if fS s=true then [s.Name] else [])=[s.Name]:=if_pos h
theorem tch_no {s:St} (h:(decide (s.Op=2)||decide (s.Op=3))=false):(if fS s=true then [s.Name] else [])=[]:=if_neg (by rw [show fS s=false from h];simp)
def sN (s:St):List ByteArray:=if fS s=true then [s.Name] else []
theorem tch_end (a:List ByteArray) {s:St}:a++sN s++bP s.Idx++fV s.E++lB s.Body=a++pB s:=by
 rw [tchS_eq];unfold sO sN;simp [List.append_assoc]
theorem tchHd_has (s:St) (t:ByteArray):bR (sO s) t=rE s t:=by
 unfold sO rE
 rw [zQz,zQz,readsT_has,Bool.or_assoc]
 congr 1
 cases fS s<;>simp [bR]
mutual
theorem tchS_has (t:ByteArray):∀s:St,bR (pB s) t=mY t s
 |.mk o nm mn mk fo i e b=>by rw [pB,mY,zQz,tchHd_has,tchL_has t b]
theorem tchL_has (t:ByteArray):∀l:List St,bR (lB l) t=pP t l
 |[]=>by rw [lB,pP];rfl
 |s::r=>by rw [lB,pP,zQz,tchS_has t s,tchL_has t r]
end
/-! ## Spans -/
structure Sp where
 From:Int
 To:Int
def vSp (x:Sp):V:=.agg [cI x.From,cI x.To]
abbrev SpM:=List (ByteArray×Sp)
def lP (k:Int) (m:SpM) (t:ByteArray):SpM:=jW m t ⟨match fK m t with|some x=>x.From|none=>k,k⟩
def jJ (m:SpM) (i:Int):List St->SpM
 |[]=>m
 |s::r=>jJ ((pB s).foldl (lP i) m) (i+1) r
theorem zMa:∀(a:List St) (m:SpM) (i:Int) (s:St),jJ m i (a++[s])=(pB s).foldl (lP (i+a.length)) (jJ m i a)
 |[],m,i,s=>by simp [jJ]
 |x::r,m,i,s=>by
  rw [List.cons_append,jJ,zMa r,jJ,List.length_cons]
  rw [show i+1+(r.length:Int)=i+((r.length+1:Nat):Int) by omega]
theorem sp_next {l:List St} {k:Nat} {s:St} (h:l[k]? =some s):jJ [] 0 (l.take (k+1))=(pB s).foldl (lP k) (jJ [] 0 (l.take k)):=by
 have hk:=(List.getElem?_eq_some_iff.1 h).1
 rw [yD h,zMa,List.length_take,Nat.min_eq_left (by omega),Int.zero_add]
theorem putSp_new {m:SpM} {t:ByteArray} {i:Int} (h:(fK m t).isSome=false):jW m t (⟨i,i⟩:Sp)=lP i m t:=by
 unfold lP
 cases hx:fK m t with
 |none=>rfl
 |some x=>rw [hx] at h;cases h
theorem putSp_old {m:SpM} {t:ByteArray} {i:Int} (h:(fK m t).isSome=true):jW m t (⟨((fK m t).getD ⟨0,0⟩).From,i⟩:Sp)=lP i m t:=by
 unfold lP
 cases hx:fK m t with
 |none=>rw [hx] at h;cases h
 |some x=>rfl
theorem thin_len (l:List ByteArray):(lA l).length<=l.length:=by
 unfold lA toB
 rw [List.length_map]
 unfold Lib.compact Lib.compactUpTo
 rw [List.length_map]
 refine Nat.le_trans (List.length_filter_le _ _) ?_
 simp [ofB]
theorem putSp_get (k:Int) (m:SpM) (t u:ByteArray):fK (lP k m t) u=if t=u then some ⟨match fK m u with|some x=>x.From|none=>k,k⟩ else fK m u:=by
 unfold lP
 rw [mget_mput]
 by_cases h:t=u
 ·subst h;rfl
 ·rw [if_neg h,if_neg h]
theorem putSps_get (k:Int) (u:ByteArray):∀(l:List ByteArray) (m:SpM),fK (l.foldl (lP k) m) u=if bR l u=true then some ⟨match fK m u with|some x=>x.From|none=>k,k⟩ else fK m u
 |[],m=>by simp [bR]
 |x::r,m=>by
  rw [List.foldl_cons,putSps_get k u r,putSp_get,zGo]
  by_cases h:x=u
  ·subst h
   simp only [decide_true,Bool.true_or,if_true]
   cases bR r x<;>simp
  ·simp only [h,decide_false,Bool.false_or,if_false]
def mM (t:ByteArray) (x:Bool×Sp×Int) (s:St):Bool×Sp×Int:=if mY t s=true then (true,⟨if x.1=true then x.2.1.From else x.2.2,x.2.2⟩,x.2.2+1) else (x.1,x.2.1,x.2.2+1)
def dW (t:ByteArray) (l:List St):Bool×Sp×Int:=l.foldl (mM t) (false,⟨0,0⟩,0)
theorem zBk {t:ByteArray} {l:List St} {k:Nat} {s:St} (h:l[k]? =some s):dW t (l.take (k+1))=mM t (dW t (l.take k)) s:=by
 unfold dW;rw [yD h,List.foldl_append];rfl
theorem foldA_k (t:ByteArray):∀{l:List St} {k:Nat},k<=l.length->(dW t (l.take k)).2.2=k
 |l,0,_=>by simp [dW]
 |l,k+1,h=>by
  obtain ⟨s,hs⟩:=qU l k (by omega)
  rw [zBk hs]
  have:=foldA_k t (l:=l) (k:=k) (by omega)
  unfold mM
  split<;>simp [this]
theorem spans_fold (t:ByteArray):∀{l:List St} {k:Nat},k<=l.length->fK (jJ [] 0 (l.take k)) t=if (dW t (l.take k)).1=true then some (dW t (l.take k)).2.1 else none
 |l,0,_=>by simp [dW,jJ,fK]
 |l,k+1,h=>by
  obtain ⟨s,hs⟩:=qU l k (by omega)
  have ih:=spans_fold t (l:=l) (k:=k) (by omega)
  have hk:=foldA_k t (l:=l) (k:=k) (by omega)
  rw [sp_next hs,putSps_get,tchS_has,zBk hs,ih]
  unfold mM
  rw [hk]
  by_cases h1:mY t s=true
  ·rw [if_pos h1,if_pos h1]
   by_cases h2:(dW t (l.take k)).1=true
   ·simp [h2]
   ·simp [h2]
  ·rw [if_neg h1,if_neg h1]
theorem foldA_zero (t:ByteArray):∀{l:List St} {k:Nat},k<=l.length->(dW t (l.take k)).1=false->(dW t (l.take k)).2.1=⟨0,0⟩
 |l,0,_,_=>by simp [dW]
 |l,k+1,h,h1=>by
  obtain ⟨s,hs⟩:=qU l k (by omega)
  rw [zBk hs] at h1⊢
  unfold mM at h1⊢
  split at h1
  ·cases h1
  ·rename_i hc
   rw [if_neg hc]
   exact foldA_zero t (by omega) h1
def nE (t:ByteArray) (l:List St):Sp:=(dW t l).2.1
theorem span_get (t:ByteArray) (l:List St):(fK (jJ [] 0 l) t).getD ⟨0,0⟩=nE t l:=by
 have h:=spans_fold t (l:=l) (k:=l.length) (Nat.le_refl _)
 rw [List.take_length] at h
 rw [h,nE]
 by_cases c:(dW t l).1=true
 ·rw [if_pos c];rfl
 ·rw [if_neg c]
  have:=foldA_zero t (l:=l) (k:=l.length) (Nat.le_refl _) (by rw [List.take_length];simpa using c)
  rw [List.take_length] at this
  rw [this];rfl
def dU (l:List St) (b:Bf):Lifetime:=
 ⟨b.Name,if b.Use=1 then 0 else (nE b.Name l).From,if b.Use=2 then max ((l.length:Int)-1) 0 else (nE b.Name l).To,dE b.Dims⟩
def bL (n:Ns):List Lifetime:=n.Bufs.map (dU n.Body)
def jS (n:Ns):List Lifetime×Int:=if (bY n).2=0 then (bL n,0) else ([],(bY n).2)
theorem zKh {n:Ns} (h:¬(bY n).2=0):jS n=([],(bY n).2):=by unfold jS;rw [if_neg h]
theorem zGy {n:Ns} (h:(bY n).2=0):jS n=(bL n,0):=by unfold jS;rw [if_pos h]
theorem zEq {n:Ns} {k:Nat} {b:Bf} (h:n.Bufs[k]? =some b):((n.Bufs.take (k+1)).map fun b=>(dU n.Body b).cells)=((n.Bufs.take k).map fun b=>(dU n.Body b).cells)++[(dU n.Body b).cells]:=by
 rw [yD h,List.map_append];rfl
theorem span_cover (t:ByteArray):∀{l:List St} {k:Nat},k<=l.length->(∀(j:Nat) s,l[j]? =some s->j<k->mY t s=true->(dW t (l.take k)).1=true/\(dW t (l.take k)).2.1.From<=j/\(j:Int)<=(dW t (l.take k)).2.1.To)/\
  0<=(dW t (l.take k)).2.1.From/\(dW t (l.take k)).2.1.From<=(dW t (l.take k)).2.1.To/\((dW t (l.take k)).2.1.To=0∨(dW t (l.take k)).2.1.To<k)
 |l,0,_=>⟨fun j s _ h=>by omega,by simp [dW],by simp [dW],by simp [dW]⟩
 |l,k+1,h=>by
  obtain ⟨s,hs⟩:=qU l k (by omega)
  obtain ⟨ih,i1,i2,i3⟩:=span_cover t (l:=l) (k:=k) (by omega)
  have hk:=foldA_k t (l:=l) (k:=k) (by omega)
  rw [zBk hs]
  unfold mM
  rw [hk]
  by_cases c:mY t s=true
  ·simp only [c,if_true]
   refine ⟨fun j s' hj hlt _=>⟨trivial,?_,by omega⟩,?_,?_,.inr (by omega)⟩
   ·by_cases hjk:j=k
    ·split
     ·subst hjk
      rcases i3 with i3|i3<;>omega
     ·omega
    ·rename_i ha
     obtain ⟨q1,q2,q3⟩:=ih j s' hj (by omega) ha
     rw [if_pos q1];exact q2
   ·split<;>omega
   ·split
    ·rcases i3 with i3|i3<;>omega
    ·omega
  ·rw [if_neg c]
   refine ⟨fun j s' hj hlt ha=>?_,i1,i2,?_⟩
   ·have hjk:j≠k:=by
     rintro rfl
     rw [hs] at hj
     cases hj
     exact c ha
    exact ih j s' hj (by omega) ha
   ·rcases i3 with i3|i3
    ·exact .inl i3
    ·refine .inr ?_
     dsimp only
     omega
theorem lifeOf_ok (l:List St) (b:Bf):0<=(dU l b).From/\(dU l b).From<=(dU l b).To/\∀(j:Nat) s,l[j]? =some s->mY b.Name s=true->(dU l b).From<=j/\(j:Int)<=(dU l b).To:=by
 obtain ⟨h,h1,h2,h3⟩:=span_cover b.Name (l:=l) (k:=l.length) (Nat.le_refl _)
 rw [List.take_length] at h h1 h2 h3
 have hF:(dU l b).From=if b.Use=1 then 0 else (dW b.Name l).2.1.From:=rfl
 have hT:(dU l b).To=if b.Use=2 then max ((l.length:Int)-1) 0 else (dW b.Name l).2.1.To:=rfl
 rw [hF,hT]
 refine ⟨by split<;>omega,?_,fun j s hj ha=>?_⟩
 ·split<;>split<;>omega
 ·have hj':=(List.getElem?_eq_some_iff.1 hj).1
  obtain ⟨q1,q2,q3⟩:=h j s hj hj' ha
  refine ⟨by split<;>omega,?_⟩
  split<;>omega
theorem bufs_in:∀{l seen:List Bf},bX seen l=0->∀(k:Nat) b,l[k]? =some b->gT (seen++l.take k) b=0
 |[],_,_,k,b,h=>by simp at h
 |x::r,seen,h,k,b,hb=>by
  rw [bX] at h
  by_cases c:gT seen x=0
  ·rw [if_pos c] at h
   cases k with
   |zero=>simp at hb;subst hb;simpa using c
   |succ k=>
    have:=bufs_in h k b (by simpa using hb)
    simpa using this
  ·rw [if_neg c] at h;exact absurd h c
theorem bfErr_inv {seen:List Bf} {b:Bf} (h:gT seen b=0):bM b.Name=true/\bO seen b.Name=false/\bW b.Dims=0:=by
 unfold gT at h
 by_cases h1:bM b.Name=true
 ·rw [if_pos h1] at h
  by_cases h2:bO seen b.Name=true
  ·rw [if_pos h2] at h;cases h
  ·rw [if_neg h2] at h
   by_cases h3:gV b.T=true
   ·rw [if_pos h3] at h
    by_cases h4:bW b.Dims=0
    ·exact ⟨h1,by simpa using h2,h4⟩
    ·rw [if_neg h4] at h;exact absurd h h4
   ·rw [if_neg h3] at h;cases h
 ·rw [if_neg h1] at h;cases h
theorem valid_bufs {n:Ns} (h:(bY n).2=0):bX [] n.Bufs=0/\n.Bufs.length<=128/\dC 40 n.Body=true/\jA n.Body 2000<=2000/\(dV n.Bufs [] [] [] 0 n.Body).E=0:=by
 unfold bY at h
 by_cases h1:dC 40 n.Body=true
 ·rw [if_pos h1] at h
  by_cases h2:2000<jA n.Body 2000∨128<n.Bufs.length
  ·rw [if_pos h2] at h;cases h
  ·rw [if_neg h2] at h
   by_cases h3:bX [] n.Bufs=0
   ·rw [if_pos h3] at h;exact ⟨h3,by omega,h1,by omega,h⟩
   ·rw [if_neg h3] at h;exact absurd h h3
 ·rw [if_neg h1] at h;cases h
theorem zHo {n:Ns} (h:(bY n).2=0):dT (bL n)=0:=by
 have hb:=(valid_bufs h).1
 have key:∀k,k<=n.Bufs.length->dT (bL n)=fI ((bL n).take k) ((bL n).drop k):=by
  intro k
  induction k with
  |zero=>intro _;rfl
  |succ k ih=>
   intro hk
   obtain ⟨b,hbk⟩:=qU n.Bufs k (by omega)
   have hl:(bL n)[k]? =some (dU n.Body b):=by unfold bL;rw [List.getElem?_map,hbk];rfl
   obtain ⟨q1,q2,q3⟩:=bfErr_inv (bufs_in hb k b hbk)
   obtain ⟨p1,p2,_⟩:=lifeOf_ok n.Body b
   refine valid_ok (ih (by omega)) hl (check_ok q1 ?_ ?_)
   ·have e:((bL n).take k)=(n.Bufs.take k).map (dU n.Body):=by unfold bL;rw [List.map_take]
    rw [e,List.any_map]
    rw [List.nil_append] at q2
    exact q2
   ·obtain ⟨_,_,s,hs,s1,s2⟩:=zGs q3
    have hsz:(dU n.Body b).Size=s:=by show dE b.Dims=s;exact zFa q3 hs
    rw [hsz];omega
 have:=key n.Bufs.length (Nat.le_refl _)
 exact zRt this (by unfold bL;simp)
end Go.Br
end
section
namespace Go.Br
open Go Go.Eng Go.L41
/-! ## Statements in preorder,with their paths -/
end Go.Br
end
section
namespace Go.Br
open Go Go.Eng Go.L41
end Go.Br
end
section
namespace Go.Br
open Go Go.Eng Go.L41
/-! ## Numerals -/
end Go.Br
end
section
namespace Go.Br
open Go Go.Eng Go.L41
/-! ## Sets of names -/
def rdZ (i:List Ix):Ex:=.mk 0 (bs []) ⟨0,0⟩ ⟨0,0,0,0,0⟩ ⟨0,[]⟩ i []
theorem rdZ_wt (i:List Ix):(rdZ i).wt=1+i.length+fQ i:=by
 rw [Ex.wt_eq];simp only [rdZ,Ex.Lin,Ex.Idx,Ex.Args,dK,List.length_nil];omega
end Go.Br
end
section
namespace Go.Br
open Go Go.Eng Go.L41
/-! ## One form: a name for a name -/
theorem zJw {B:List Bf} {sc:List ByteArray}:∀{l:List Ex},bZ B sc l=0↔∀x,x∈l->gC B sc x=0
 |[]=>by simp [bZ]
 |x::r=>by
  rw [bZ]
  by_cases h:gC B sc x=0
  ·rw [if_pos h,zJw (l:=r)];simp [h]
  ·rw [if_neg h];simp [h]
theorem zTw {B:List Bf} {sc:List ByteArray} {e:Ex} (h:(dA B sc e).2=0):fT e=0/\bZ B sc (bH e)=0:=by
 by_cases h1:fT e=0
 ·by_cases h2:bZ B sc (bH e)=0
  ·exact ⟨h1,h2⟩
  ·rw [exprT_2 h1 h2] at h;exact absurd h h2
 ·rw [exprT_1 h1] at h;exact absurd h h1
theorem valid_parts {n:Ns} (h:(bY n).2=0):dC 40 n.Body=true/\¬(2000<jA n.Body 2000∨128<n.Bufs.length)/\bX [] n.Bufs=0/\(dV n.Bufs [] [] [] 0 n.Body).E=0:=by
 have h1:dC 40 n.Body=true:=by
  cases c:dC 40 n.Body with
  |true=>rfl
  |false=>rw [zRu c] at h;cases h
 have h2:¬(2000<jA n.Body 2000∨128<n.Bufs.length):=fun c=>by rw [validN_2 h1 c] at h;cases h
 have h3:bX [] n.Bufs=0:=by
  by_cases c:bX [] n.Bufs=0
  ·exact c
  ·rw [validN_b h1 h2 c] at h;exact absurd h c
 rw [zQk h1 h2 h3] at h
 exact ⟨h1,h2,h3,h⟩
end Go.Br
end
