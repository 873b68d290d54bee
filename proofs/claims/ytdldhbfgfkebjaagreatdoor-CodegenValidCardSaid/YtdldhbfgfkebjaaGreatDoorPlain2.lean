/-
  Sorting and thinning of lists of strings that are the call's own: slices.Sort and slices.Compact,by the shelf's contracts.
  The names that an expression reads,in plain Lean.
  Sums of linear forms,exactly,in plain Lean: numbers of 64 and of 128 bits,merges of ascending lists,substitution.
  The reference's substitution of forms,in plain Lean: the sum,and the mapping of all forms of an expression.
  What the substitution of a form keeps,in plain Lean: valid forms stay valid,the name is gone,the shape of an expression stays.
  The comparison of expressions is a total order,in plain Lean.
  Layer 14 in plain Lean: short names,replacing,the names in forms,the example that every statement checks.
  Loop nests,in plain Lean: buffers,statements,and the cells that hold them.
  What the check of a nest says (30.1),in plain Lean.
  Weights of nests,in plain Lean.
  For the reference's check of nests,in plain Lean.
  Ascending lists of names,one name added at a time,in plain Lean.
  Names of index variables: both ways to list them give the same names.
  Lifetimes as plain data,and what the functions of the layer compute.
  Layer 41 in plain Lean: what statements touch; the spans of buffers.
  Nests walked and mapped,in plain Lean (30.2,30.3).
  Numerals,and the first number that is free.
  Names that are not in use,in plain Lean (30.2): numerals,and the first number that is free.
  A loop renamed to a name that is not in use,in plain Lean (30.3,30.5).
  Conditions: none.
-/
import Derived.Test.YtdldhbfgfkebjaaGreatDoorCfg
import Derived.Test.YtdldhbfgfkebjaaGreatDoorEngZ
import Derived.Test.YtdldhbfgfkebjaaGreatDoorShelfB
import Derived.Sort.OwnSorted
import Derived.Lib.OwnBridge
import Derived.Test.YtdldhbfgfkebjaaGreatDoorPlain
import Derived.Test.YtdldhbfgfkebjaaGreatDoorNames
import Derived.Lib.ItoaNum
set_option linter.unusedSimpArgs false
set_option linter.unusedVariables false
section
namespace Go.Br
open Go Go.Eng Go.RowKit Go.Proofs Go.L41
abbrev dA (l:List ByteArray):List (List C):=l.map fun s=>[cS s]
def toB (l:List (List UInt8)):List ByteArray:=l.map fun x=>⟨x.toArray⟩
def ofB (l:List ByteArray):List (List UInt8):=l.map (·.data.toList)
def lM (l:List ByteArray):List ByteArray:=toB ((ofB l).mergeSort fun x y=>decide (x<=y))
def lJ (l:List ByteArray):List ByteArray:=toB (Lib.compact (ofB l))
theorem ofB_enc (l:List ByteArray):(ofB l).map encStr=l.map Value.string:=Lib.map_encStr l
theorem toB_enc (l:List (List UInt8)):l.map encStr=(toB l).map Value.string:=by
 unfold toB;rw [List.map_map];rfl
theorem sortB_len (l:List ByteArray):(lM l).length=l.length:=by simp [lM,toB,ofB,List.length_mergeSort]
theorem flat_str (l:List ByteArray):(dA l).flatten=l.map fun s=>cS s:=by
 induction l with
 |nil=>rfl
 |cons x r ih=>show cS x::(dA r).flatten=_;rw [ih];rfl
theorem reps_str {w:World} {I:Nat->Prop}:∀{l:List ByteArray} {xs:List Value},CReps w I (l.map fun s=>cS s) xs->xs=l.map Value.string
 |[],_,.nil=>rfl
 |x::l,_,.cons h t=>by
  have e:=reps_str t
  cases h with
  |lit _ _=>rw [e];rfl
theorem str_reps {w:World} {I:Nat->Prop}:∀l:List ByteArray,CReps w I (l.map fun s=>cS s) (l.map Value.string)
 |[]=>.nil
 |x::l=>.cons (.lit _ rfl) (str_reps l)
theorem rep_str {w:World} {I:Nat->Prop} {sv:Value} {t:TypeId} {l:List ByteArray} (h:w.ownsRow 0 t 1 sv l.length (l.map Value.string)) (hb:svB sv≠[]):ERep w I (.vec sv t 1 (dA l)):=by
 refine .inr ⟨hb,l.map Value.string,?_,?_,fun r hr=>?_⟩
 ·rw [show (dA l).length=l.length by simp];exact h
 ·rw [flat_str];exact str_reps l
 ·obtain ⟨x,_,rfl⟩:=List.mem_map.1 hr;rfl
theorem zRo {w:World} {I:Nat->Prop} {sv:Value} {t:TypeId} {l:List ByteArray} (h:ERep w I (.vec sv t 1 (dA l))):(∃a,sv=.slice a 0 0/\l=[])∨(svB sv≠[]/\w.ownsRow 0 t 1 sv l.length (l.map Value.string)):=by
 rcases h with ⟨a,h1,h2⟩|⟨h1,xs,h2,h3,h4⟩
 ·exact .inl ⟨a,h1,by simpa using h2⟩
 ·rw [flat_str] at h3
  rw [reps_str h3,show (dA l).length=l.length by simp] at h2
  exact .inr ⟨h1,h2⟩
theorem sort_con (sv:Value) (l:List ByteArray) (hl:l.length<=4294967296):Con cfg 175 [.c (.lit sv)] [.vec sv 9 1 (dA l)] fun r μ'=>r=.tup []/\μ'=[.vec sv 9 1 (dA (lM l))]:=by
 intro w I vs hH ha
 match vs,ha with
 |[v],ha=>
  have e:v=sv:=by cases (ha.1:CRep w I (.lit sv) v) with|lit _ _=>rfl
  subst e
  have hrep:=hH.rep _ (List.mem_singleton.2 rfl)
  rcases zRo hrep with ⟨a,rfl,rfl⟩|⟨hb,hown⟩
  ·refine (Tryz.slices_Sort_string_none a 0 w).mono ?_
   rintro en w' ⟨rfl,rfl⟩
   have e2:lM []=[]:=by simp [lM,ofB,toB]
   refine ⟨_,_,_,I,rfl,⟨rfl,by rw [e2]⟩,⟨[],rfl,trivial⟩,hH,Ext.refl _ _ _⟩
  ·have hne:v≠ .slice none 0 0:=by rintro rfl;exact hb rfl
   have hown':=hown
   rw [←ofB_enc] at hown'
   obtain ⟨g,cap,rfl,hbg,hgl,hncap,hcm,hlen,hHo⟩:=Lib.holds_of_ownsRow hown' hne
   obtain ⟨_,hcase⟩:=hown
   rcases hcase with ⟨h0,_⟩|⟨g',cap',cur,hv,_,hcur,hn2,hm2,hcs,htk⟩
   ·exact absurd h0 hne
   ·injection hv with e1 e2 e3
    injection e1 with e1
    injection e1 with e1 _ _
    subst e1 e3
    have hss:(ofB l).length=l.length:=by simp [ofB]
    have hcall:=Tryz.slices_Sort_string g 0 cap (ofB l) w hHo hgl (by omega)
    rw [hss] at hcall
    refine hcall.mono ?_
    rintro en w' ⟨rfl,n,os,rfl⟩
    have hts:((ofB l).mergeSort fun x y=>decide (x<=y)).length=(ofB l).length:=List.length_mergeSort _
    have hs:=ownsRow_sorted (n:=n) (os:=os) (ts:=(ofB l).mergeSort fun x y=>decide (x<=y)) hts (Nat.zero_le g) hcur (by omega) hm2 hcs
    rw [toB_enc,hss] at hs
    have hlen2:(lM l).length=l.length:=by simp [lM,toB,hts,hss]
    have hgr:=grownBy_sorted (w:=w) (g:=g) (n:=n) (os:=os) ((ofB l).mergeSort fun x y=>decide (x<=y)).toArray
    have hrep2:ERep (Sort.grow (Sort.putRow encStr (Sort.ahead w n) g 0 ((ofB l).mergeSort fun x y=>decide (x<=y)).toArray) os) I (.vec (.slice (some ⟨g,0,none⟩) l.length cap) 9 1 (dA (lM l))):=by
     refine rep_str ?_ hb
     rw [hlen2];exact hs
    obtain ⟨hH',hx'⟩:=Heap.write (w':=Sort.grow (Sort.putRow encStr (Sort.ahead w n) g 0 ((ofB l).mergeSort fun x y=>decide (x<=y)).toArray) os) hH (p:=0) (en:=.vec (.slice (some ⟨g,0,none⟩) l.length cap) 9 1 (dA l)) (en':=.vec (.slice (some ⟨g,0,none⟩) l.length cap) 9 1 (dA (lM l))) rfl hgr.os hgr.tape hgr.output hgr.size
     (fun b hb1 hb2=>hgr.block b hb1 (fun e=>by
      injection e with e
      apply hb2
      have hin:svB (.slice (some ⟨g,0,none⟩) l.length cap)≠[]:=hb
      subst e
      exact zRe hin rfl)) (by have h:=hH.nodup;simp only [bB,List.flatMap_cons,List.flatMap_nil,List.append_nil] at h;exact h) (fun b h=>.inl h) trivial hrep2
    exact ⟨_,_,_,I,rfl,⟨rfl,rfl⟩,⟨[],rfl,trivial⟩,hH',hx'⟩
theorem thin_con (sv:Value) (l:List ByteArray) (hl:l.length<=4294967296):Con cfg 176 [.c (.lit sv)] [.vec sv 9 1 (dA l)] fun r μ'=>∃sv',r=.c (.lit sv')/\μ'=[.vec sv' 9 1 (dA (lJ l))]:=by
 intro w I vs hH ha
 match vs,ha with
 |[v],ha=>
  have e:v=sv:=by cases (ha.1:CRep w I (.lit sv) v) with|lit _ _=>rfl
  subst e
  have hrep:=hH.rep _ (List.mem_singleton.2 rfl)
  rcases zRo hrep with ⟨a,rfl,rfl⟩|⟨hb,hown⟩
  ·refine (Tryz.slices_Compact_string_empty a 0 w).mono ?_
   rintro en w' ⟨rfl,rfl⟩
   have e2:lJ []=[]:=by simp [lJ,ofB,toB,Lib.compact,Lib.compactUpTo]
   exact ⟨_,_,_,I,rfl,⟨_,rfl,by rw [e2]⟩,CRep.lit _ rfl,hH,Ext.refl _ _ _⟩
  ·have hne:v≠ .slice none 0 0:=by rintro rfl;exact hb rfl
   have hown':=hown
   rw [←ofB_enc] at hown'
   obtain ⟨g,cap,rfl,hbg,hgl,hncap,hcm,hlen,hHo⟩:=Lib.holds_of_ownsRow hown' hne
   have hss:(ofB l).length=l.length:=by simp [ofB]
   have hcall:=Tryz.slices_Compact_string g 0 cap (ofB l) w hHo (by omega) (by omega)
   rw [hss] at hcall
   refine hcall.mono ?_
   rintro en w' ⟨rfl,q,hw'⟩
   have hcl:=Lib.compact_length_le (ofB l)
   have hs:=Lib.ownsRow_putRow (q:=q) (k:=(Lib.compact (ofB l)).length) (ys:=Lib.compact (ofB l)++List.replicate (l.length-(Lib.compact (ofB l)).length) []) hown' (by simp;omega) (by omega)
   rw [List.take_left' rfl,toB_enc,←hw'] at hs
   have hlen2:(lJ l).length=(Lib.compact (ofB l)).length:=by simp [lJ,toB]
   have hgr:=grownBy_sorted (w:=w) (g:=g) (n:=q) (os:= #[]) (Lib.compact (ofB l)++List.replicate (l.length-(Lib.compact (ofB l)).length) []).toArray
   rw [Sort.grow_empty,←hw'] at hgr
   clear hw' hown' hHo hcall
   obtain ⟨c,hc⟩:∃c,cap=c+1:=by
    cases cap with
    |zero=>exact absurd rfl hb
    |succ c=>exact ⟨c,rfl⟩
   subst hc
   have hrep2:ERep w' I (.vec (.slice (some ⟨g,0,none⟩) (Lib.compact (ofB l)).length (c+1)) 9 1 (dA (lJ l))):=by
    refine rep_str ?_ (by simp [svB])
    rw [hlen2];exact hs
   obtain ⟨hH',hx'⟩:=Heap.write (w':=w') hH (p:=0) (en:=.vec (.slice (some ⟨g,0,none⟩) l.length (c+1)) 9 1 (dA l)) (en':=.vec (.slice (some ⟨g,0,none⟩) (Lib.compact (ofB l)).length (c+1)) 9 1 (dA (lJ l))) rfl hgr.os hgr.tape hgr.output hgr.size
    (fun b hb1 hb2=>hgr.block b hb1 (fun e=>by
     injection e with e
     apply hb2
     have hin:svB (.slice (some ⟨g,0,none⟩) l.length (c+1))≠[]:=hb
     subst e
     exact zRe hin rfl)) (by simp [E.blocks,svB]) (fun b h=>.inl h) trivial hrep2
   exact ⟨_,_,_,I,rfl,⟨_,rfl,rfl⟩,CRep.lit _ rfl,hH',hx'⟩
end Go.Br
end
section
namespace Go.Br
open Go Go.Eng Go.L41
def jL (x:Ix):List ByteArray:=if x.From=bs [] then [] else [x.From]
def bQ (l:List Ix):List ByteArray:=l.flatMap jL
def fS (x:Ex):List ByteArray:=if x.Op=3 then [x.Name] else []
def pM (x:Ex):List ByteArray:=fS x++bQ x.Idx
def bR (l:List Ex):List ByteArray:=l.flatMap pM
def gC (e:Ex):List ByteArray:=lJ (lM (bR (bF e)))
theorem zAm {l:List Ix} {k:Nat} {x:Ix} (h:l[k]? =some x):bQ (l.take (k+1))=bQ (l.take k)++jL x:=by unfold bQ;rw [yC h,List.flatMap_append];simp
theorem zFs (pre:List Ex) (x:Ex):bR (pre++[x])=bR pre++fS x++bQ x.Idx:=by unfold bR;rw [List.flatMap_append];simp [pM,List.append_assoc]
theorem mem_toB {s:ByteArray} {l:List (List UInt8)}:s∈toB l↔s.data.toList∈l:=by
 unfold toB
 rw [List.mem_map]
 constructor
 ·rintro ⟨x,hx,rfl⟩;simpa using hx
 ·intro h;exact ⟨_,h,by cases s;simp⟩
theorem mem_ofB {s:ByteArray} {l:List ByteArray}:s.data.toList∈ofB l↔s∈l:=by
 unfold ofB
 rw [List.mem_map]
 constructor
 ·rintro ⟨x,hx,e⟩
  have:x=s:=by cases x;cases s;congr 1;exact Array.toList_inj.1 e
  rw [←this];exact hx
 ·intro h;exact ⟨s,h,rfl⟩
theorem mem_sortB {s:ByteArray} {l:List ByteArray}:s∈lM l↔s∈l:=by
 unfold lM;rw [mem_toB,List.mem_mergeSort,mem_ofB]
theorem mem_thinB {s:ByteArray} {l:List ByteArray} (h:s∈lJ l):s∈l:=by
 unfold lJ at h
 rw [mem_toB] at h
 rw [←mem_ofB]
 unfold Lib.compact Lib.compactUpTo at h
 obtain ⟨i,hi,e⟩:=List.mem_map.1 h
 have hi2:=(List.mem_filter.1 hi).1
 have hlt:=List.mem_range.1 hi2
 rw [←e,getElem!_pos _ i (by simpa using hlt)]
 simp
theorem zEd (x:Ex):(fS x).length<=1:=by unfold fS;split<;>simp
theorem readsI_len (l:List Ix):(bQ l).length<=l.length:=by
 induction l with
 |nil=>simp [bQ]
 |cons x r ih=>
  have:bQ (x::r)=jL x++bQ r:=rfl
  rw [this,List.length_append,List.length_cons]
  have:(jL x).length<=1:=by unfold jL;split<;>simp
  omega
theorem zDj (l:List Ix) (k:Nat):(bQ (l.take k)).length<=l.length:=by
 have:=readsI_len (l.take k);have:=List.length_take_le' k l;omega
theorem zFt (e:Ex):(bR (bF e)).length<=2*e.wt:=by
 have key:∀l:List Ix,(bQ l).length<=l.length:=by
  intro l
  induction l with
  |nil=>simp [bQ]
  |cons x r ih=>
   have:bQ (x::r)=jL x++bQ r:=rfl
   rw [this,List.length_append,List.length_cons]
   have:(jL x).length<=1:=by unfold jL;split<;>simp
   omega
 have node:∀x:Ex,(pM x).length<=1+x.Idx.length:=fun x=>by
  unfold pM;rw [List.length_append]
  have h1:=key x.Idx
  have h2:(fS x).length<=1:=by unfold fS;split<;>simp
  omega
 induction e using Ex.ind with
 |_ e ih=>
  rw [wO,Ex.wt_eq]
  have h1:=node e
  have e1:bR (e::bK e.Args)=pM e++bR (bK e.Args):=rfl
  rw [e1,List.length_append]
  have h2:∀l:List Ex,(∀a,a∈l->(bR (bF a)).length<=2*a.wt)->(bR (bK l)).length<=2*dQ l:=by
   intro l
   induction l with
   |nil=>intro _;simp [bR,bK,dQ]
   |cons a r ih2=>
    intro h
    have h3:=h a (by simp)
    have h4:=ih2 fun b hb=>h b (by simp [hb])
    have e2:bR (bK (a::r))=bR (bF a)++bR (bK r):=by rw [bK];unfold bR;rw [List.flatMap_append]
    rw [e2,List.length_append,dQ];omega
  have h5:=h2 e.Args ih
  omega
theorem zNo {e:Ex} {pre suf:List Ex} (h:bF e=pre++suf):(bR pre).length<=2*e.wt:=by
 have h1:=zFt e
 have e1:bR (bF e)=bR pre++bR suf:=by rw [h];unfold bR;rw [List.flatMap_append]
 rw [e1,List.length_append] at h1;omega
end Go.Br
end
section
namespace Go.Br
open Go Go.Eng Go.L41
/-! ## The order of names -/
def r64 (n:Int):Prop:= -9223372036854775808<=n/\n<=9223372036854775807
instance (n:Int):Decidable (r64 n):=by unfold r64;infer_instance
def hiN (a b:Nat):Nat:=
 (a/4294967296)*(b/4294967296)+((a/4294967296)*(b%4294967296)+((a%4294967296)*(b%4294967296))/4294967296)/4294967296+
  ((a%4294967296)*(b/4294967296)+((a/4294967296)*(b%4294967296)+((a%4294967296)*(b%4294967296))/4294967296)%4294967296)/4294967296
def Lf.rng (l:Lf):Prop:=r64 l.K/\∀m,m∈l.L->r64 m.By
end Go.Br
end
section
namespace Go.Br
open Go Go.Eng Go.L41
end Go.Br
end
section
namespace Go.Br
open Go Go.Eng Go.L41
/-! ## Ascending triples -/
end Go.Br
end
section
namespace Go.Br
open Go Go.Eng Go.Proofs Go.L41
structure PO {α:Type} (f:α->α->Int) (a:α):Prop where
 anti:∀b,f b a= -f a b
 rng:∀b,-1<=f a b/\f a b<=1
 cong:∀b,f a b=0->∀c,f a c=f b c
 cong':∀b c,f b c=0->f a b=f a c
 trans:∀b c,f a b<0->f b c<0->f a c<0
theorem PO.zero {α:Type} (a:α):PO (fun _ _=>0) a:=
 ⟨fun _=>rfl,fun _=>⟨by show (-1:Int)<=0;omega,by show (0:Int)<=1;omega⟩,fun _ _ _=>rfl,fun _ _ _=>rfl,fun _ _ h _=>h⟩
end Go.Br
end
section
namespace Go.Br
open Go Go.Eng Go.L41
/-! ## Short names -/
theorem nodes_take {e x:Ex} {k:Nat} (h:e.Args[k]? =some x):(bK (e.Args.take k)).length+(bF x).length+1<=(bF e).length:=by
 have:=congrArg List.length (nodes_at h (x:=x) (pre:=[]) (suf:=bK x.Args) (by rw [wO];rfl))
 rw [wO x]
 simp only [List.length_append,List.length_cons,List.length_nil] at this⊢
 omega
/-! ## Replacing -/
end Go.Br
end
section
namespace Go.Br
open Go Go.Eng Go.L41
structure Bf where
 Name:ByteArray
 T:Ty
 Dims:List Int
 Use:Int
 deriving DecidableEq
inductive St where
 |mk (op:Int) (name:ByteArray) (many rY fold:Int) (idx:List Ix) (ex:Ex) (body:List St)
namespace St
def Op:St->Int|mk x _ _ _ _ _ _ _=>x
def Name:St->ByteArray|mk _ x _ _ _ _ _ _=>x
def Many:St->Int|mk _ _ x _ _ _ _ _=>x
def Mark:St->Int|mk _ _ _ x _ _ _ _=>x
def Fold:St->Int|mk _ _ _ _ x _ _ _=>x
def Idx:St->List Ix|mk _ _ _ _ _ x _ _=>x
def E:St->Ex|mk _ _ _ _ _ _ x _=>x
def Body:St->List St|mk _ _ _ _ _ _ _ x=>x
theorem ind {P:St->Prop} (h:∀s:St,(∀a,a∈s.Body->P a)->P s) (s:St):P s:=
 St.rec (motive_1:=P) (motive_2:=fun l=>∀a,a∈l->P a) (fun o n m k f i e b ih=>h (mk o n m k f i e b) ih) (fun a h=>by cases h)
  (fun x l hx hl a ha=>by rcases List.mem_cons.1 ha with rfl|ha;exact hx;exact hl a ha) s
end St
structure Ns where
 Bufs:List Bf
 Body:List St
def Bf.cells (b:Bf):List C:=[cS b.Name,cI b.T.Kind,cI b.T.Bits,cI b.T.Frac,cI b.T.Round,cI b.T.Over,.sl 1 (b.Dims.map fun n=>[cI n]),cI b.Use]
mutual
def St.cells:St->List C
 |.mk o n m k f i e b=>[cI o,cS n,cI m,cI k,cI f,.sl 4 (i.map Ix.cells)]++e.cs++[.sl 20 (pC b)]
def pC:List St->List (List C)
 |[]=>[]
 |s::r=>s.cells::pC r
end
theorem zRi (l:List St):pC l=l.map St.cells:=by
 induction l with
 |nil=>rfl
 |cons s r ih=>rw [pC,ih];rfl
def St.cs (s:St):List C:=[cI s.Op,cS s.Name,cI s.Many,cI s.Mark,cI s.Fold,.sl 4 (s.Idx.map Ix.cells),
 cI s.E.Op,cS s.E.Name,cI s.E.Val.N,cI s.E.Val.D,cI s.E.Ty.Kind,cI s.E.Ty.Bits,cI s.E.Ty.Frac,cI s.E.Ty.Round,cI s.E.Ty.Over,cI s.E.Lin.K,.sl 2 (s.E.Lin.L.map Mono.cells),.sl 4 (s.E.Idx.map Ix.cells),.sl 13 (s.E.Args.map Ex.cells),.sl 20 (s.Body.map St.cells)]
theorem St.cells_eq (s:St):s.cells=s.cs:=by
 cases s;rw [St.cells,zRi];rfl
def Ns.cells (n:Ns):List C:=[.sl 8 (n.Bufs.map Bf.cells),.sl 20 (n.Body.map St.cells)]
abbrev vBf (b:Bf):V:=.agg b.cells
abbrev vSt (s:St):V:=.agg s.cs
abbrev fV (l:List St):V:=.c (.sl 20 (l.map St.cells))
abbrev vNs (n:Ns):V:=.agg n.cells
abbrev vIs (l:List Int):V:=.c (.sl 1 (l.map fun n=>[cI n]))
abbrev xX (l:List Bf):V:=.c (.sl 8 (l.map Bf.cells))
theorem zIz {α:Type} {p:α->Bool} {l:List α} {k:Nat} {x:α} (h:l[k]? =some x) (hp:(l.take k).all p=true) (hx:p x=true):(l.take (k+1)).all p=true:=by
 rw [yC h,List.all_append,hp];simp [hx]
theorem zEl {l:List St} {k:Nat} {x:St} (h:l[k]? =some x):(l.map St.cells)[k]? =some x.cs:=by
 rw [B h,St.cells_eq]
/-! ## Sizes -/
mutual
def St.wt:St->Nat
 |.mk _ _ _ _ _ i e b=>1+e.wt+i.length+gF i+bL b
def bL:List St->Nat
 |[]=>0
 |s::r=>s.wt+bL r
end
theorem St.wt_eq (s:St):s.wt=1+s.E.wt+s.Idx.length+gF s.Idx+bL s.Body:=by cases s;rw [St.wt];rfl
theorem wL (l:List St):l.length<=bL l:=by
 induction l with
 |nil=>simp [bL]
 |cons y r ih=>rw [bL,List.length_cons];have:=y.wt_eq;omega
theorem kL {l:List St} {a:St} (h:a∈l):a.wt<=bL l:=by
 induction l with
 |nil=>cases h
 |cons x r ih=>
  rw [bL]
  rcases List.mem_cons.1 h with rfl|h
  ·omega
  ·have:=ih h;omega
theorem St.wt_pos (s:St):1<=s.wt:=by rw [St.wt_eq];omega
theorem St.body_wt (s:St):bL s.Body<s.wt:=by rw [St.wt_eq s];omega
theorem St.parts {s:St} {B:Nat} (h:s.wt<=B):s.E.wt<=B/\s.Idx.length<=B/\gF s.Idx<=B/\s.Body.length<=B/\bL s.Body<=B:=by
 rw [St.wt_eq] at h
 have:=wL s.Body
 omega
def rdE (s:St):Ex:=.mk 3 s.Name ⟨0,0⟩ ⟨0,0,0,0,0⟩ ⟨0,[]⟩ s.Idx []
theorem rdE_wt (s:St):(rdE s).wt<=s.wt+1:=by
 rw [Ex.wt_eq,St.wt_eq];simp only [rdE,Ex.Lin,Ex.Idx,Ex.Args,dQ,List.length_nil];omega
/-! ## Shapes (11.1) -/
def lF (n:Int):Bool:=decide (1<=n)
def bG:Int->List Int->Option Int
 |s,[]=>some s
 |s,n::r=>if 4096<s*n then none else bG (s*n) r
def bX (d:List Int):Int:=if 6<d.length then 2 else if d.all lF=true then (if (bG 1 d).isSome=true then 0 else 2) else 1
def dJ (d:List Int):Int:=if bX d=0 then (bG 1 d).getD 0 else 0
theorem dims_long {d:List Int} (h:6<d.length):bX d=2:=by unfold bX;rw [if_pos h]
theorem dims_neg {d:List Int} {k:Nat} {n:Int} (h:¬6<d.length) (hn:d[k]? =some n) (h2:n<1):bX d=1:=by
 unfold bX
 rw [if_neg h,if_neg (by rw [zPa hn (p:=lF) (by unfold lF;exact decide_eq_false (by omega))];simp)]
theorem zTf {d:List Int} (h:¬6<d.length) (h1:d.all lF=true) (h2:bG 1 d=none):bX d=2:=by
 unfold bX;rw [if_neg h,if_pos h1,h2];rfl
theorem dims_ok {d:List Int} {s:Int} (h:¬6<d.length) (h1:d.all lF=true) (h2:bG 1 d=some s):bX d=0:=by
 unfold bX;rw [if_neg h,if_pos h1,h2];rfl
theorem zLk {d:List Int} {k:Nat} {n s:Int} (h:d[k]? =some n) (hs:bG 1 d=bG s (d.drop k)) (h2:¬4096<s*n):bG 1 d=bG (s*n) (d.drop (k+1)):=by
 rw [hs,qY h,bG,if_neg h2]
theorem zLj {d:List Int} {k:Nat} {n s:Int} (h:d[k]? =some n) (hs:bG 1 d=bG s (d.drop k)) (h2:4096<s*n):bG 1 d=none:=by
 rw [hs,qY h,bG,if_pos h2]
theorem zLl {d:List Int} {k:Nat} {s:Int} (hs:bG 1 d=bG s (d.drop k)) (h:¬k<d.length):bG 1 d=some s:=by
 rw [hs,kV h];rfl
theorem quo_lt {s n:Int} (h:1<=s):Int.tdiv 4096 s<n↔4096<s*n:=by
 rw [Int.tdiv_eq_ediv_of_nonneg (by omega),Int.ediv_lt_iff_lt_mul (by omega),Int.mul_comm]
theorem quo_wrap {s:Int} (h:1<=s):IntKind.i64.wrap (Int.tdiv 4096 s)=Int.tdiv 4096 s:=by
 have h1:Int.tdiv 4096 s=4096/s:=Int.tdiv_eq_ediv_of_nonneg (by omega)
 have h2:0<=(4096:Int)/s:=Int.ediv_nonneg (by omega) (by omega)
 have h3:(4096:Int)/s<=4096:=Int.ediv_le_self _ (by omega)
 exact zDi ⟨by omega,by omega⟩
theorem quo_t {s n:Int} (h:1<=s) (c:IntKind.i64.wrap (Int.tdiv 4096 s)<n):4096<s*n:=by rw [quo_wrap h] at c;exact (quo_lt h).1 c
theorem quo_f {s n:Int} (h:1<=s) (c:¬IntKind.i64.wrap (Int.tdiv 4096 s)<n):¬4096<s*n:=by rw [quo_wrap h] at c;exact fun k=>c ((quo_lt h).2 k)
theorem zEw {d:List Int} {k:Nat} {n:Int} (h:d.all lF=true) (hn:d[k]? =some n):1<=n:=by
 have:=(List.all_eq_true.1 h) n (qA hn)
 simpa [lF] using this
theorem zDp {s n:Int} (h:1<=s) (h2:1<=n):1<=s*n/\n<=s*n:=by
 have h3:1*n<=s*n:=Int.mul_le_mul_of_nonneg_right h (by omega)
 omega
theorem zRl:∀{d:List Int} {s t:Int},1<=s->s<=4096->d.all lF=true->bG s d=some t->1<=t/\t<=4096
 |[],s,t,h,h2,_,h3=>by simp only [bG,Option.some.injEq] at h3;omega
 |n::r,s,t,h,h2,hp,h3=>by
  rw [bG] at h3
  simp only [List.all_cons,Bool.and_eq_true] at hp
  have hn:1<=n:=by simpa [lF] using hp.1
  split at h3
  ·cases h3
  ·rename_i h4
   exact zRl (zDp h hn).1 (by omega) hp.2 h3
theorem zDw {d:List Int} (h:bX d=0):d.length<=6/\d.all lF=true/\∃s,bG 1 d=some s/\1<=s/\s<=4096:=by
 unfold bX at h
 split at h
 ·cases h
 ·rename_i h6
  split at h
  ·rename_i hp
   split at h
   ·rename_i hs
    obtain ⟨s,hs⟩:=Option.isSome_iff_exists.1 hs
    have:=zRl (by omega) (by omega) hp hs
    exact ⟨by omega,hp,s,hs,this.1,this.2⟩
   ·cases h
  ·cases h
theorem zEp {d:List Int} {s:Int} (h:bX d=0) (hs:bG 1 d=some s):dJ d=s:=by unfold dJ;rw [if_pos h,hs];rfl
theorem zKy {d:List Int} (h:¬bX d=0):dJ d=0:=by unfold dJ;rw [if_neg h]
theorem size_fit {d:List Int} {k:Nat} {n s t:Int} (h:d[k]? =some n) (hs:bG 1 d=bG s (d.drop k)) (ht:bG 1 d=some t):¬4096<s*n:=by
 intro h2
 rw [zLj h hs h2] at ht;cases ht
/-! ## Buffers -/
def zBf:Bf:=⟨bs [],zTy,[],0⟩
def bP (l:List Bf) (s:ByteArray):Bool:=l.any fun b=>decide (b.Name=s)
def dI:List Bf->ByteArray->Bf
 |[],_=>zBf
 |b::r,s=>if b.Name=s then b else dI r s
theorem bufD_at {l:List Bf} {k:Nat} {b:Bf} {s:ByteArray} (h:l[k]? =some b) (hb:b.Name=s):dI (l.drop k) s=b:=by rw [qY h,dI,if_pos hb]
theorem bufD_next {l:List Bf} {k:Nat} {b:Bf} {s:ByteArray} (h:l[k]? =some b) (hb:¬b.Name=s):dI (l.drop k) s=dI (l.drop (k+1)) s:=by rw [qY h,dI,if_neg hb]
theorem zQb {l:List Bf} {k:Nat} {b:Bf} {s:ByteArray} (h:l[k]? =some b) (hb:b.Name=s):bP l s=true:=by
 unfold bP;rw [List.any_eq_true];exact ⟨b,qA h,decide_eq_true hb⟩
theorem zNv {l:List Bf} {k:Nat} {b:Bf} {s:ByteArray} (h:l[k]? =some b) (hp:bP (l.take k) s=false) (hb:¬b.Name=s):bP (l.take (k+1)) s=false:=by
 unfold bP at *;rw [yC h,List.any_append,hp];simp [hb]
theorem hasBf_lt {l:List Bf} {j k:Nat} {b:Bf} {s:ByteArray} (h:l[j]? =some b) (hj:j<k) (hb:b.Name=s):bP (l.take k) s=true:=by
 have:(l.take k)[j]? =some b:=by rw [List.getElem?_take];simp [hj,h]
 exact zQb this hb
theorem bufD_no:∀{l:List Bf} {s:ByteArray},bP l s=false->dI l s=zBf
 |[],_,_=>rfl
 |b::r,s,h=>by
  simp only [bP,List.any_cons,Bool.or_eq_false_iff,decide_eq_false_iff_not] at h
  rw [dI,if_neg h.1];exact bufD_no h.2
theorem zQm:∀{l:List Bf} {s:ByteArray},bP l s=true->dI l s∈l/\(dI l s).Name=s
 |[],s,h=>by simp [bP] at h
 |b::r,s,h=>by
  rw [dI]
  by_cases hb:b.Name=s
  ·rw [if_pos hb];exact ⟨by simp,hb⟩
  ·rw [if_neg hb]
   simp only [bP,List.any_cons,decide_eq_false hb,Bool.false_or] at h
   obtain ⟨h1,h2⟩:=zQm (l:=r) h
   exact ⟨by simp [h1],h2⟩
def gQ (seen:List Bf) (b:Bf):Int:=
 if bO b.Name=true then (if bP seen b.Name=true then 8 else if dO b.T=true then (if bX b.Dims=0 then (if b.Use<1∨3<b.Use then 1 else 0) else bX b.Dims) else 10) else 7
def dC:List Bf->List Bf->Int
 |_,[]=>0
 |seen,b::r=>if gQ seen b=0 then dC (seen++[b]) r else gQ seen b
theorem bfErr_7 {seen:List Bf} {b:Bf} (h:bO b.Name=false):gQ seen b=7:=by unfold gQ;rw [if_neg (by rw [h];simp)]
theorem bfErr_8 {seen:List Bf} {b:Bf} (h:bO b.Name=true) (h2:bP seen b.Name=true):gQ seen b=8:=by unfold gQ;rw [if_pos h,if_pos h2]
theorem zQn {seen:List Bf} {b:Bf} (h:bO b.Name=true) (h2:bP seen b.Name=false) (h3:dO b.T=false):gQ seen b=10:=by unfold gQ;rw [if_pos h,if_neg (by rw [h2];simp),if_neg (by rw [h3];simp)]
theorem bfErr_d {seen:List Bf} {b:Bf} (h:bO b.Name=true) (h2:bP seen b.Name=false) (h3:dO b.T=true) (h4:¬bX b.Dims=0):gQ seen b=bX b.Dims:=by unfold gQ;rw [if_pos h,if_neg (by rw [h2];simp),if_pos h3,if_neg h4]
theorem bfErr_u {seen:List Bf} {b:Bf} (h:bO b.Name=true) (h2:bP seen b.Name=false) (h3:dO b.T=true) (h4:bX b.Dims=0) (h5:b.Use<1∨3<b.Use):gQ seen b=1:=by unfold gQ;rw [if_pos h,if_neg (by rw [h2];simp),if_pos h3,if_pos h4,if_pos h5]
theorem bfErr_0 {seen:List Bf} {b:Bf} (h:bO b.Name=true) (h2:bP seen b.Name=false) (h3:dO b.T=true) (h4:bX b.Dims=0) (h5:¬(b.Use<1∨3<b.Use)):gQ seen b=0:=by unfold gQ;rw [if_pos h,if_neg (by rw [h2];simp),if_pos h3,if_pos h4,if_neg h5]
theorem zOz {l:List Bf} {k:Nat} {b:Bf} (h:l[k]? =some b) (hp:dC [] l=dC (l.take k) (l.drop k)) (hb:gQ (l.take k) b=0):dC [] l=dC (l.take (k+1)) (l.drop (k+1)):=by
 rw [hp,qY h,dC,if_pos hb,yC h]
theorem zBd {l:List Bf} {k:Nat} {b:Bf} (h:l[k]? =some b) (hp:dC [] l=dC (l.take k) (l.drop k)) (hb:¬gQ (l.take k) b=0):dC [] l=gQ (l.take k) b:=by
 rw [hp,qY h,dC,if_neg hb]
theorem zTp {l:List Bf} {k:Nat} (hp:dC [] l=dC (l.take k) (l.drop k)) (h:¬k<l.length):dC [] l=0:=by
 rw [hp,kV h];rfl
/-! ## Depth and number of statements -/
def bV:Nat->List St->Bool
 |0,l=>l.isEmpty
 |n+1,l=>l.all fun s=>bV n s.Body
def lR:Nat->List St->Int
 |0,_=>0
 |n+1,l=>l.foldl (fun d s=>max d (1+lR n s.Body)) 0
theorem depF_ge {f:St->Int}:∀(l:List St) (d:Int),d<=l.foldl (fun d s=>max d (1+f s)) d
 |[],d=>Int.le_refl _
 |x::r,d=>by have:=depF_ge (f:=f) r (max d (1+f x));rw [List.foldl_cons];omega
theorem zQi {f:St->Int} {m:Int}:∀(l:List St) (d:Int),l.foldl (fun d s=>max d (1+f s)) d<=m↔d<=m/\∀s,s∈l->1+f s<=m
 |[],d=>by simp
 |x::r,d=>by
  rw [List.foldl_cons,zQi r]
  constructor
  ·rintro ⟨h1,h2⟩
   refine ⟨by omega,fun s hs=>?_⟩
   rcases List.mem_cons.1 hs with rfl|hs
   ·omega
   ·exact h2 s hs
  ·rintro ⟨h1,h2⟩
   have:=h2 x (by simp)
   exact ⟨by omega,fun s hs=>h2 s (by simp [hs])⟩
theorem zGx:∀(n:Nat) (l:List St),lR (n+1) l<=n↔bV n l=true
 |0,l=>by
  rw [lR,zQi]
  cases l with
  |nil=>simp [bV]
  |cons x r=>
   simp only [bV,List.isEmpty_cons,Bool.false_eq_true,iff_false,not_and]
   intro _ h
   have:=h x (by simp)
   simp only [lR] at this;omega
 |n+1,l=>by
  rw [lR,zQi,bV,List.all_eq_true]
  constructor
  ·rintro ⟨_,h⟩ s hs
   have:=h s hs
   exact (zGx n s.Body).1 (by omega)
  ·intro h
   refine ⟨by omega,fun s hs=>?_⟩
   have:=(zGx n s.Body).2 (h s hs)
   omega
theorem depS_le:∀(n:Nat) (l:List St),0<=lR n l/\lR n l<=n
 |0,l=>by simp [lR]
 |n+1,l=>by
  rw [lR]
  refine ⟨depF_ge l 0,(zQi l 0).2 ⟨by omega,fun s _=>?_⟩⟩
  have:=depS_le n s.Body;omega
mutual
def stN:St->Nat
 |.mk _ _ _ _ _ _ _ b=>1+dK b
def dK:List St->Nat
 |[]=>0
 |s::r=>stN s+dK r
end
def rA (n:Nat) (l:List St):Bool:=bV n l
theorem withinG_eq (n:Nat) (l:List St):rA n l=bV n l:=rfl
theorem withinG_next {n:Nat} {l:List St} {k:Nat} {s:St} (h:l[k]? =some s) (hp:rA n (l.take k)=true) (hn:1<=n) (hs:bV (n-1) s.Body=true):rA n (l.take (k+1))=true:=by
 obtain ⟨m,rfl⟩:∃m,n=m+1:=⟨n-1,by omega⟩
 exact zIz h hp hs
theorem within_no {n:Nat} {l:List St} {k:Nat} {s:St} {x:Int} (h:l[k]? =some s) (hx:x=n) (c:(decide (x<1)|| !bV (n-1) s.Body)=true):bV n l=false:=by
 cases n with
 |zero=>cases l with
  |nil=>simp at h
  |cons a r=>rfl
 |succ n=>
  have:bV n s.Body=false:=by
   rw [Bool.or_eq_true] at c
   rcases c with c|c
   ·rw [decide_eq_true_eq] at c;omega
   ·simpa using c
  exact zPa h this
theorem within_yes {n:Nat} {s:St} {x:Int} (hx:x=n) (c:(decide (x<1)|| !bV (n-1) s.Body)=false):1<=n/\bV (n-1) s.Body=true:=by
 rw [Bool.or_eq_false_iff] at c
 refine ⟨?_,by simpa using c.2⟩
 have:=c.1;rw [decide_eq_false_iff_not] at this;omega
theorem depS_next {n:Nat} {l:List St} {k:Nat} {s:St} (h:l[k]? =some s) (hn:1<=n):lR n (l.take (k+1))=max (lR n (l.take k)) (1+lR (n-1) s.Body):=by
 obtain ⟨m,rfl⟩:∃m,n=m+1:=⟨n-1,by omega⟩
 rw [yC h,lR,List.foldl_append];rfl
theorem depS_stop {n:Nat} {l:List St} {k:Nat} {x d:Int} (hx:x=n) (hd:d=lR n (l.take k)) (c:l.length<=k∨x<=0):d=lR n l:=by
 by_cases h0:n=0
 ·subst h0;rw [hd];rfl
 ·rw [hd,yA (by omega)]
theorem zOn (s:St):stN s=1+dK s.Body:=by cases s;rw [stN];rfl
theorem zRf:∀(a b:List St),dK (a++b)=dK a+dK b
 |[],b=>by simp [dK]
 |x::r,b=>by rw [List.cons_append,dK,dK,zRf r b];omega
theorem zEc:∀l:List St,l.length<=dK l
 |[]=>by simp [dK]
 |x::r=>by have:=zEc r;have:=zOn x;rw [dK,List.length_cons];omega
mutual
theorem stN_wt:∀s:St,stN s<=s.wt
 |.mk o n m k f i e b=>by rw [stN,St.wt];have:=stsN_wt b;omega
theorem stsN_wt:∀l:List St,dK l<=bL l
 |[]=>by simp [dK,bL]
 |s::r=>by rw [dK,bL];have:=stN_wt s;have:=stsN_wt r;omega
end
mutual
def rL:St->Nat->Nat
 |.mk _ _ _ _ _ _ _ b,m=>lP b m b.length
def lP:List St->Nat->Nat->Nat
 |[],_,n=>n
 |s::r,m,n=>if n<=m then lP r m (n+rL s (m-n)) else n
end
def jI (l:List St) (m:Nat):Nat:=lP l m l.length
theorem numS_eq (s:St) (m:Nat):rL s m=jI s.Body m:=by cases s;rw [rL];rfl
mutual
theorem numS_le:∀(s:St) (m:Nat),rL s m<=stN s-1
 |.mk _ _ _ _ _ _ _ b,m=>by
  rw [rL,stN]
  have h1:=numL_le b m b.length
  have h2:=zEc b
  omega
theorem numL_le:∀(l:List St) (m n:Nat),lP l m n<=n+(dK l-l.length)
 |[],m,n=>by simp [lP]
 |s::r,m,n=>by
  rw [lP]
  have h3:=zEc r
  have h4:=zOn s
  split
  ·have h1:=numL_le r m (n+rL s (m-n))
   have h2:=numS_le s (m-n)
   rw [dK,List.length_cons];omega
  ·rw [dK,List.length_cons];omega
end
theorem numB_le (l:List St) (m:Nat):jI l m<=dK l:=by
 have h1:=numL_le l m l.length
 have h2:=zEc l
 unfold jI;omega
theorem numL_ge:∀(l:List St) (m n:Nat),n<=lP l m n
 |[],m,n=>by rw [lP];omega
 |s::r,m,n=>by
  rw [lP];split
  ·have:=numL_ge r m (n+rL s (m-n));omega
  ·omega
mutual
theorem numS_ok:∀(s:St) (m:Nat),rL s m<=m->rL s m=stN s-1
 |.mk _ _ _ _ _ _ _ b,m,h=>by
  rw [rL] at h⊢
  rw [stN,numL_ok b m _ h]
  have:=zEc b;omega
theorem numL_ok:∀(l:List St) (m n:Nat),lP l m n<=m->lP l m n=n+(dK l-l.length)
 |[],m,n,h=>by simp [lP,dK]
 |s::r,m,n,h=>by
  have h3:=zEc r
  have h4:=zOn s
  by_cases hn:n<=m
  ·rw [lP,if_pos hn] at h⊢
   have h5:=numL_ge r m (n+rL s (m-n))
   have h6:=numS_ok s (m-n) (by omega)
   rw [numL_ok r m _ h,h6,dK,List.length_cons];omega
  ·rw [lP,if_neg hn] at h;omega
end
theorem numB_ok {l:List St} {m:Nat} (h:jI l m<=m):dK l=jI l m:=by
 have h2:=zEc l
 unfold jI at *
 rw [numL_ok l m _ h];omega
theorem num_next {l:List St} {k m n N:Nat} {s:St} (h:l[k]? =some s) (hp:N=lP (l.drop k) m n) (hn:n<=m):N=lP (l.drop (k+1)) m (n+jI s.Body (m-n)):=by
 rw [hp,qY h,lP,if_pos hn,numS_eq]
theorem num_end {l:List St} {k m n N:Nat} (hp:N=lP (l.drop k) m n) (h:l.length<=k∨m<n):n=N:=by
 rw [hp]
 by_cases hk:k<l.length
 ·obtain ⟨a,ha⟩:=qU l k hk
  rw [qY ha,lP,if_neg (by omega)]
 ·rw [kV hk,lP]
theorem zPn {l:List St} {s:St} (h:s∈l):stN s<=dK l:=by
 induction l with
 |nil=>cases h
 |cons x r ih=>
  rw [dK]
  rcases List.mem_cons.1 h with rfl|h
  ·omega
  ·have:=ih h;omega
theorem stsN_drop {l:List St} {k:Nat} {s:St} (h:l[k]? =some s):dK (l.drop k)=stN s+dK (l.drop (k+1)):=by rw [qY h,dK]
theorem num_sum {l:List St} {k m n:Nat} {s:St} (h:l[k]? =some s) (hp:jI l m=lP (l.drop k) m n) (hn:n<=m):n+jI s.Body (m-n)<=n+dK l:=by
 have h1:=numB_le s.Body (m-n)
 have h2:dK l=dK (l.take k)+(stN s+dK (l.drop (k+1))):=by
  rw [←dK,←qY h,←zRf,List.take_append_drop]
 have:=zOn s
 omega
end Go.Br
end
section
namespace Go.Br
open Go Go.Eng Go.L41
/-! ## Names of a node -/
def jS (sc:List ByteArray) (l:Lf):Bool:=l.L.all fun m=>bS sc m.Name
def vO (sc:List ByteArray) (x:Ix):Bool:=jS sc x.Lin&&x.At.all (jS sc)
def gP (sc:List ByteArray) (e:Ex):Bool:=jS sc e.Lin&&e.Idx.all (vO sc)
def jU (B:List Bf) (x:Ix):Int:=
 if x.From=bs [] then 0 else if bP B x.From=true then (if (dI B x.From).T.Kind=3 then (if (dI B x.From).Dims.length=x.At.length then 0 else 11) else 10) else 9
def mB (B:List Bf):List Ix->Int
 |[]=>0
 |x::r=>if jU B x=0 then mB B r else jU B x
def gL (B:List Bf) (sc:List ByteArray) (e:Ex):Int:=
 if gP sc e=true then (if e.Op=3 then (if bP B e.Name=true then (if (dI B e.Name).Dims.length=e.Idx.length then mB B e.Idx else 11) else 9) else 0) else 9
def dD (B:List Bf) (sc:List ByteArray):List Ex->Int
 |[]=>0
 |e::r=>if gL B sc e=0 then dD B sc r else gL B sc e
theorem gathE_0 {B:List Bf} {x:Ix} (h:x.From=bs []):jU B x=0:=by unfold jU;rw [if_pos h]
theorem zSp {B:List Bf} {x:Ix} (h:¬x.From=bs []) (h1:bP B x.From=false):jU B x=9:=by unfold jU;rw [if_neg h,if_neg (by rw [h1];simp)]
theorem zMh {B:List Bf} {x:Ix} (h:¬x.From=bs []) (h1:bP B x.From=true) (h2:¬(dI B x.From).T.Kind=3):jU B x=10:=by unfold jU;rw [if_neg h,if_pos h1,if_neg h2]
theorem zMg {B:List Bf} {x:Ix} (h:¬x.From=bs []) (h1:bP B x.From=true) (h2:(dI B x.From).T.Kind=3) (h3:¬(dI B x.From).Dims.length=x.At.length):jU B x=11:=by unfold jU;rw [if_neg h,if_pos h1,if_pos h2,if_neg h3]
theorem zQd {B:List Bf} {x:Ix} (h:¬x.From=bs []) (h1:bP B x.From=true) (h2:(dI B x.From).T.Kind=3) (h3:(dI B x.From).Dims.length=x.At.length):jU B x=0:=by unfold jU;rw [if_neg h,if_pos h1,if_pos h2,if_pos h3]
theorem zJh {B:List Bf} {l:List Ix} {k:Nat} {x:Ix} (h:l[k]? =some x) (hx:jU B x=0):mB B (l.drop k)=mB B (l.drop (k+1)):=by rw [qY h,mB,if_pos hx]
theorem zJg {B:List Bf} {l:List Ix} {k:Nat} {x:Ix} (h:l[k]? =some x) (hx:¬jU B x=0):mB B (l.drop k)=jU B x:=by rw [qY h,mB,if_neg hx]
theorem nodeN_9 {B:List Bf} {sc:List ByteArray} {e:Ex} (h:gP sc e=false):gL B sc e=9:=by unfold gL;rw [if_neg (by rw [h];simp)]
theorem nodeN_o {B:List Bf} {sc:List ByteArray} {e:Ex} (h:gP sc e=true) (h1:¬e.Op=3):gL B sc e=0:=by unfold gL;rw [if_pos h,if_neg h1]
theorem nodeN_n {B:List Bf} {sc:List ByteArray} {e:Ex} (h:gP sc e=true) (h1:e.Op=3) (h2:bP B e.Name=false):gL B sc e=9:=by unfold gL;rw [if_pos h,if_pos h1,if_neg (by rw [h2];simp)]
theorem nodeN_r {B:List Bf} {sc:List ByteArray} {e:Ex} (h:gP sc e=true) (h1:e.Op=3) (h2:bP B e.Name=true) (h3:¬(dI B e.Name).Dims.length=e.Idx.length):gL B sc e=11:=by unfold gL;rw [if_pos h,if_pos h1,if_pos h2,if_neg h3]
theorem zGq {B:List Bf} {sc:List ByteArray} {e:Ex} (h:gP sc e=true) (h1:e.Op=3) (h2:bP B e.Name=true) (h3:(dI B e.Name).Dims.length=e.Idx.length):gL B sc e=mB B e.Idx:=by unfold gL;rw [if_pos h,if_pos h1,if_pos h2,if_pos h3]
theorem zGp (B:List Bf) (sc:List ByteArray):∀(a b:List Ex),dD B sc (a++b)=if dD B sc a=0 then dD B sc b else dD B sc a
 |[],b=>by simp [dD]
 |x::r,b=>by
  rw [List.cons_append,dD,dD,zGp B sc r b]
  by_cases h:gL B sc x=0
  ·rw [if_pos h,if_pos h]
  ·rw [if_neg h,if_neg h,if_neg h]
theorem zNq {B:List Bf} {sc:List ByteArray} {pre:List Ex} {x:Ex} (h:dD B sc pre=0):dD B sc (pre++[x])=gL B sc x:=by
 rw [zGp,if_pos h,dD,dD]
 by_cases hx:gL B sc x=0
 ·rw [if_pos hx,hx]
 ·rw [if_neg hx]
theorem nodesN_pre {B:List Bf} {sc:List ByteArray} {pre suf:List Ex} {x:Ex} (h:¬dD B sc (pre++[x])=0):dD B sc (pre++x::suf)=dD B sc (pre++[x]):=by
 rw [show pre++x::suf=(pre++[x])++suf by simp,zGp,if_neg h]
theorem nodesN_at {B:List Bf} {sc:List ByteArray} {l:List Ex} {k:Nat} {x:Ex} (h:l[k]? =some x) (hx:gL B sc x=0):dD B sc (l.drop k)=dD B sc (l.drop (k+1)):=by rw [qY h,dD,if_pos hx]
theorem nodesN_no {B:List Bf} {sc:List ByteArray} {l:List Ex} {k:Nat} {x:Ex} (h:l[k]? =some x) (hx:¬gL B sc x=0):dD B sc (l.drop k)=gL B sc x:=by rw [qY h,dD,if_neg hx]
/-! ## Types -/
def tyF (B:List Bf) (e:Ex) (l:List Ty):Ty×Int:=
 if e.Op=1∨e.Op=12 then (e.Ty,0) else
 if e.Op=2 then (iTy,0) else
 if e.Op=3 then ((dI B e.Name).T,0) else
 if e.Op=8 then (dH l 0,0) else
 if e.Op=16∨e.Op=17∨e.Op=18 then (zTy,0) else
 if dH l (l.length-2)=dH l (l.length-1) then (if bC e=true then (zTy,0) else (dH l (l.length-1),0)) else (zTy,10)
theorem zBr {B:List Bf} {e:Ex} {l:List Ty} (h:e.Op=1∨e.Op=12):tyF B e l=(e.Ty,0):=by unfold tyF;rw [if_pos h]
theorem zBx {B:List Bf} {e:Ex} {l:List Ty} (h:e.Op=2):tyF B e l=(iTy,0):=by unfold tyF;rw [if_neg (by omega),if_pos h]
theorem zBq {B:List Bf} {e:Ex} {l:List Ty} (h:e.Op=3):tyF B e l=((dI B e.Name).T,0):=by unfold tyF;rw [if_neg (by omega),if_neg (by omega),if_pos h]
theorem zBw {B:List Bf} {e:Ex} {l:List Ty} (h:e.Op=8):tyF B e l=(dH l 0,0):=by unfold tyF;rw [if_neg (by omega),if_neg (by omega),if_neg (by omega),if_pos h]
theorem wW {B:List Bf} {e:Ex} {l:List Ty} (h:e.Op=16∨e.Op=17∨e.Op=18):tyF B e l=(zTy,0):=by unfold tyF;rw [if_neg (by omega),if_neg (by omega),if_neg (by omega),if_neg (by omega),if_pos h]
abbrev gS (o:Int):Prop:=o=1∨o=12∨o=2∨o=3∨o=8∨o=16∨o=17∨o=18
theorem tyF_o {B:List Bf} {e:Ex} {l:List Ty} (h:¬gS e.Op):tyF B e l=if dH l (l.length-2)=dH l (l.length-1) then (if bC e=true then (zTy,0) else (dH l (l.length-1),0)) else (zTy,10):=by
 unfold gS at h;unfold tyF;rw [if_neg (by omega),if_neg (by omega),if_neg (by omega),if_neg (by omega),if_neg (by omega)]
theorem wX {B:List Bf} {e:Ex} {l:List Ty} (h:¬gS e.Op) (h2:¬dH l (l.length-2)=dH l (l.length-1)):tyF B e l=(zTy,10):=by rw [tyF_o h,if_neg h2]
theorem zBv {B:List Bf} {e:Ex} {l:List Ty} (h:¬gS e.Op) (h2:dH l (l.length-2)=dH l (l.length-1)) (h3:bC e=true):tyF B e l=(zTy,0):=by rw [tyF_o h,if_pos h2,if_pos h3]
theorem zBp {B:List Bf} {e:Ex} {l:List Ty} (h:¬gS e.Op) (h2:dH l (l.length-2)=dH l (l.length-1)) (h3:bC e=false):tyF B e l=(dH l (l.length-1),0):=by rw [tyF_o h,if_pos h2,if_neg (by rw [h3];simp)]
theorem tyF_zero {B:List Bf} {e:Ex} {l:List Ty} (h:¬(tyF B e l).2=0):(tyF B e l).1=zTy:=by
 unfold tyF at h⊢
 repeat' split at h<;>first|exact absurd rfl h|skip
 all_goals simp_all
theorem nodeT_zero {B:List Bf} {e:Ex} (h:¬(dP (tyF B) e).2=0):(dP (tyF B) e).1=zTy:=by
 rw [zPz] at h⊢
 split
 ·rename_i c
  rw [if_pos c] at h
  exact tyF_zero h
 ·rfl
def gJ:List Ex->List Ty->List Ty
 |[],_=>[]
 |_::_,[]=>[]
 |a::r,t::ts=>if bC a=true then gJ r ts else t::gJ r ts
def kiF (B:List Bf) (e:Ex) (l:List Ty):Ty×Int:=
 if l.length=2/\¬dH l 0=dH l 1 then (zTy,10) else
 if e.Op=1∨e.Op=12 then (e.Ty,0) else
 if e.Op=2 then (iTy,0) else
 if e.Op=3 then ((dI B e.Name).T,0) else
 if bC e=true then (zTy,0) else (dH l 0,0)
def kiN (B:List Bf) (e:Ex) (l:List Ty):Ty×Int:=kiF B e (gJ e.Args l)
theorem zFx {B:List Bf} {e:Ex} {l:List Ty} (h:l.length=2) (h2:¬dH l 0=dH l 1):kiF B e l=(zTy,10):=by unfold kiF;rw [if_pos ⟨h,h2⟩]
theorem zNu {B:List Bf} {e:Ex} {l:List Ty} (h:¬(l.length=2/\¬dH l 0=dH l 1)) (h1:e.Op=1∨e.Op=12):kiF B e l=(e.Ty,0):=by unfold kiF;rw [if_neg h,if_pos h1]
theorem zPg {B:List Bf} {e:Ex} {l:List Ty} (h:¬(l.length=2/\¬dH l 0=dH l 1)) (h1:e.Op=2):kiF B e l=(iTy,0):=by unfold kiF;rw [if_neg h,if_neg (by omega),if_pos h1]
theorem zPf {B:List Bf} {e:Ex} {l:List Ty} (h:¬(l.length=2/\¬dH l 0=dH l 1)) (h1:e.Op=3):kiF B e l=((dI B e.Name).T,0):=by unfold kiF;rw [if_neg h,if_neg (by omega),if_neg (by omega),if_pos h1]
theorem zMc {B:List Bf} {e:Ex} {l:List Ty} (h:¬(l.length=2/\¬dH l 0=dH l 1)) (h1:bC e=true):kiF B e l=(zTy,0):=by
 have:13<=e.Op:=by unfold bC at h1;simp at h1;omega
 unfold kiF
 by_cases h12:e.Op=1∨e.Op=12
 ·omega
 ·rw [if_neg h,if_neg h12,if_neg (by omega),if_neg (by omega),if_pos h1]
theorem zMb {B:List Bf} {e:Ex} {l:List Ty} (h:¬(l.length=2/\¬dH l 0=dH l 1)) (h1:¬(e.Op=1∨e.Op=12∨e.Op=2∨e.Op=3)) (h2:bC e=false):kiF B e l=(dH l 0,0):=by
 unfold kiF;rw [if_neg h,if_neg (by omega),if_neg (by omega),if_neg (by omega),if_neg (by rw [h2];simp)]
theorem zRy:∀{arg_:List Ex} {ts:List Ty} {a:Ex} {t:Ty},arg_.length=ts.length->gJ (arg_++[a]) (ts++[t])=gJ arg_ ts++(if bC a=true then [] else [t])
 |[],[],a,t,_=>by simp only [List.nil_append,gJ]
 |x::r,y::s,a,t,h=>by
  simp only [List.cons_append,gJ]
  rw [zRy (arg_:=r) (ts:=s) (by simpa using h)]
  split<;>rfl
 |[],_::_,_,_,h=>by simp at h
 |_::_,[],_,_,h=>by simp at h
theorem zJl {e:Ex} (h:fN e=0):fC e.Op 0 e.Args=true:=by
 have:=(zJe (wY h)).2.2.2.1
 simp only [gN,Bool.and_eq_true] at this
 exact this.2
theorem ty_ki {B:List Bf} {e:Ex} {l:List Ty} (h:fN e=0) (hl:l.length=e.Args.length):tyF B e l=kiN B e l:=by
 have hr:=zPx h
 have hc:=zJl h
 obtain ⟨o1,o2⟩:=zNr (wY h)
 have hle:l.length=(bI e.Op).toNat:=by omega
 unfold kiN
 generalize hA:e.Args=A at hr hc hl
 have hcond:bC e=true↔13<=e.Op:=by unfold bC;simp;omega
 unfold bI at hr
 by_cases c0:e.Op=1∨e.Op=2∨e.Op=3
 ·rw [if_pos c0] at hr
  match A,l,hr,hl with
  |[],[],_,_=>
   have hn:¬(([]:List Ty).length=2/\¬dH [] 0=dH [] 1):=by simp
   rcases c0 with c|c|c
   ·rw [zBr (.inl c)];exact (zNu hn (.inl c)).symm
   ·rw [zBx c];exact (zPg hn c).symm
   ·rw [zBq c];exact (zPf hn c).symm
  |_::_,_,hr,_=>simp at hr;omega
 rw [if_neg c0] at hr
 by_cases c1:e.Op=8∨e.Op=12∨e.Op=18
 ·rw [if_pos c1] at hr
  match A,l,hr,hl with
  |[a],[t],_,_=>
   simp only [fC,Bool.and_true,beq_iff_eq] at hc
   rcases c1 with c|c|c
   ·have ha:bC a=false:=by rw [hc];simp [fI,c]
    rw [zBw c,gJ,if_neg (by rw [ha];simp),gJ,zMb (by simp) (by omega) (by cases hx:bC e;rfl;exact absurd (hcond.1 hx) (by omega))]
   ·have ha:bC a=false:=by rw [hc];simp [fI,c]
    rw [zBr (.inr c),gJ,if_neg (by rw [ha];simp),gJ,zNu (by simp) (.inr c)]
   ·have ha:bC a=true:=by rw [hc];simp [fI,c]
    rw [wW (by omega),gJ,if_pos ha,gJ,zMc (by simp) (hcond.2 (by omega))]
  |[],_,hr,_=>simp at hr
  |_::_::_,_,hr,_=>simp at hr;omega
 rw [if_neg c1] at hr
 by_cases c11:e.Op=11
 ·rw [if_pos c11] at hr
  match A,l,hr,hl with
  |[a,b,c],[s,t,u],_,_=>
   simp only [fC,Bool.and_true,Bool.and_eq_true,beq_iff_eq] at hc
   have ha:bC a=true:=by rw [hc.1];simp [fI,c11]
   have hb:bC b=false:=by rw [hc.2.1];simp [fI,c11]
   have hd:bC c=false:=by rw [hc.2.2];simp [fI,c11]
   have hec:bC e=false:=by cases hx:bC e;rfl;exact absurd (hcond.1 hx) (by omega)
   rw [gJ,if_pos ha,gJ,if_neg (by rw [hb];simp),gJ,if_neg (by rw [hd];simp),gJ]
   by_cases q:t=u
   ·subst q
    rw [zBp (by unfold gS;omega) rfl hec,zMb (by simp [dH]) (by omega) hec];rfl
   ·rw [wX (e:=e) (l:=[s,t,u]) (by unfold gS;omega) q,zFx (l:=[t,u]) rfl q]
  |[],_,hr,_=>simp at hr
  |[_],_,hr,_=>simp at hr
  |[_,_],_,hr,_=>simp at hr
  |_::_::_::_::_,_,hr,_=>simp at hr;omega
 rw [if_neg c11] at hr
 match A,l,hr,hl with
 |[a,b],[t,u],_,_=>
  simp only [fC,Bool.and_true,Bool.and_eq_true,beq_iff_eq] at hc
  by_cases c16:e.Op=16∨e.Op=17
  ·have ha:bC a=true:=by rw [hc.1];rcases c16 with c|c<;>simp [fI,c]
   have hb:bC b=true:=by rw [hc.2];rcases c16 with c|c<;>simp [fI,c]
   rw [wW (by omega),gJ,if_pos ha,gJ,if_pos hb,gJ,zMc (by simp) (hcond.2 (by omega))]
  ·have w:∀i,fI e.Op i=false:=fun i=>by unfold fI;simp;omega
   have ha:bC a=false:=by rw [hc.1,w]
   have hb:bC b=false:=by rw [hc.2,w]
   rw [gJ,if_neg (by rw [ha];simp),gJ,if_neg (by rw [hb];simp),gJ]
   by_cases q:t=u
   ·subst q
    by_cases ce:bC e=true
    ·rw [zBv (by unfold gS;omega) rfl ce,zMc (by simp [dH]) ce]
    ·have ce':bC e=false:=by simpa using ce
     rw [zBp (by unfold gS;omega) rfl ce',zMb (by simp [dH]) (by omega) ce'];rfl
   ·rw [wX (e:=e) (l:=[t,u]) (by unfold gS;omega) q,zFx (l:=[t,u]) rfl q]
 |[],_,hr,_=>simp at hr
 |[_],_,hr,_=>simp at hr
 |_::_::_::_,_,hr,_=>simp at hr;omega
mutual
theorem nodeT_ki (B:List Bf):∀e:Ex,fN e=0->dP (tyF B) e=dP (kiN B) e
 |.mk o nm v t l i arg_,h=>by
  have h3:=nodeL_ki B arg_ fun a ha=>zLs h ha
  rw [dP,dP,←h3]
  by_cases c:(bM (tyF B) arg_).2=0
  ·rw [if_pos c,if_pos c]
   exact ty_ki h (zFv _ _ c)
  ·rw [if_neg c,if_neg c]
theorem nodeL_ki (B:List Bf):∀l:List Ex,(∀a,a∈l->fN a=0)->bM (tyF B) l=bM (kiN B) l
 |[],_=>rfl
 |a::r,h=>by
  rw [bM,bM,←nodeT_ki B a (h a (by simp)),←nodeL_ki B r fun x hx=>h x (by simp [hx])]
end
def bW (B:List Bf) (sc:List ByteArray) (e:Ex):Ty×Int:=
 if fQ e=0 then (if dD B sc (bF e)=0 then dP (tyF B) e else (zTy,dD B sc (bF e))) else (zTy,fQ e)
theorem exprT_1 {B:List Bf} {sc:List ByteArray} {e:Ex} (h:¬fQ e=0):bW B sc e=(zTy,fQ e):=by unfold bW;rw [if_neg h]
theorem exprT_2 {B:List Bf} {sc:List ByteArray} {e:Ex} (h:fQ e=0) (h2:¬dD B sc (bF e)=0):bW B sc e=(zTy,dD B sc (bF e)):=by unfold bW;rw [if_pos h,if_neg h2]
theorem exprT_3 {B:List Bf} {sc:List ByteArray} {e:Ex} (h:fQ e=0) (h2:dD B sc (bF e)=0):bW B sc e=dP (tyF B) e:=by unfold bW;rw [if_pos h,if_pos h2]
theorem exprT_k {B:List Bf} {sc:List ByteArray} {e:Ex} (h:fQ e=0) (h2:dD B sc (bF e)=0):bW B sc e=dP (kiN B) e:=by rw [exprT_3 h h2];exact nodeT_ki B e (zFq h)
theorem exprT_rd {B:List Bf} {sc:List ByteArray} {s:St} (h:(bW B sc (rdE s)).2=0):(bW B sc (rdE s)).1=(dI B s.Name).T:=by
 by_cases h1:fQ (rdE s)=0
 ·by_cases h2:dD B sc (bF (rdE s))=0
  ·rw [exprT_3 h1 h2,zPz]
   have:bM (tyF B) (rdE s).Args=([],0):=rfl
   rw [this,if_pos rfl,zBq rfl];rfl
  ·rw [exprT_2 h1 h2] at h;exact absurd h h2
 ·rw [exprT_1 h1] at h;exact absurd h h1
/-! ## Statements -/
def rQ (e:Ex):Bool:=decide (e=zEx)
def fU (s:St):Bool:=decide (s.Op=2)||decide (s.Op=3)
def fE (s:St):Bool:=
 (decide (s.Op=1)||fU s||decide (s.Op=4))&& !(decide (s.Op=4)&& !decide (s.Name=bs []))&& !(!decide (s.Op=1)&&(!decide (s.Many=0)|| !decide (s.Mark=0)))&&
 !(!decide (s.Op=3)&& !decide (s.Fold=0))&& !(!fU s&&decide ((0:Int)<s.Idx.length))&& !(decide (s.Op=1)&& !rQ s.E)&&(!fU s||decide ((s.Body.length:Int)=0))
theorem syn_1 {s:St} (c:((!decide (s.Op=1)&& !(decide (s.Op=2)||decide (s.Op=3)))&& !decide (s.Op=4))=true):false=fE s:=by
 unfold fE fU
 simp only [Bool.and_eq_true,Bool.not_eq_true',Bool.or_eq_false_iff] at c
 simp only [c.1.1,c.1.2.1,c.1.2.2,c.2,Bool.or_self,Bool.false_and]
theorem syn_2 {s:St} (c:(decide (s.Op=4)&& !decide (s.Name=bs []))=true):false=fE s:=by
 exact v24
theorem syn_3 {s:St} (c:(!decide (s.Op=1)&&(!decide (s.Many=0)|| !decide (s.Mark=0)))=true):false=fE s:=by
 exact v24
theorem syn_4 {s:St} (c:(!decide (s.Op=3)&& !decide (s.Fold=0))=true):false=fE s:=by
 exact v24
theorem syn_5 {s:St} (c:(!fU s&&decide ((0:Int)<s.Idx.length))=true):false=fE s:=by
 exact v24
theorem syn_6 {s:St} (c:(decide (s.Op=1)&& !rQ s.E)=true):false=fE s:=by
 exact v24
theorem syn_7 {s:St} (c1:((!decide (s.Op=1)&& !fU s)&& !decide (s.Op=4))=false) (c2:(decide (s.Op=4)&& !decide (s.Name=bs []))=false) (c3:(!decide (s.Op=1)&&(!decide (s.Many=0)|| !decide (s.Mark=0)))=false) (c4:(!decide (s.Op=3)&& !decide (s.Fold=0))=false)
  (c5:(!fU s&&decide ((0:Int)<s.Idx.length))=false) (c6:(decide (s.Op=1)&& !rQ s.E)=false):(!fU s||decide ((s.Body.length:Int)=0))=fE s:=by
 have h1:(decide (s.Op=1)||fU s||decide (s.Op=4))=true:=by
  revert c1;cases decide (s.Op=1)<;>cases fU s<;>cases decide (s.Op=4)<;>simp
 unfold fE
 simp only [h1,c2,c3,c4,c5,c6,Bool.not_false,Bool.true_and]
def nA (B:List Bf) (U:List ByteArray) (s:St):Int:=
 if bO s.Name=true then (if bP B s.Name=true∨bS U s.Name=true then 8 else if s.Many<1∨65536<s.Many∨s.Mark<0∨3<s.Mark then 1 else 0) else 7
def ifE (B:List Bf) (sc:List ByteArray) (s:St):Int:=if (bW B sc s.E).2=0 then (if bC s.E=true then 0 else 10) else (bW B sc s.E).2
def gO (B:List Bf) (sc:List ByteArray) (s:St):Int:=
 if (bW B sc (rdE s)).2=0 then (if (dI B s.Name).Use=1∨(s.Op=3/\(s.Fold<1∨4<s.Fold)) then 1 else
  if (bW B sc s.E).2=0 then (if bC s.E=true∨¬(bW B sc s.E).1=(dI B s.Name).T then 10 else 0) else (bW B sc s.E).2) else (bW B sc (rdE s)).2
def stE (B:List Bf) (U sc:List ByteArray) (s:St):Int:=
 if fE s=true then (if s.Op=1 then nA B U s else if s.Op=4 then ifE B sc s else gO B sc s) else 5
structure Ck where
 U:List ByteArray
 W:List Int
 E:Int
def lC (U:List ByteArray) (s:St):List ByteArray:=if s.Op=1 then U++[s.Name] else U
mutual
def lB (B:List Bf):List ByteArray->List ByteArray->List Int->St->Ck
 |U,sc,here,.mk o nm mn mk fo i e b=>if stE B U sc (.mk o nm mn mk fo i e b)=0 then dR B (lC U (.mk o nm mn mk fo i e b)) (lC sc (.mk o nm mn mk fo i e b)) here 0 b else ⟨[],here,stE B U sc (.mk o nm mn mk fo i e b)⟩
def dR (B:List Bf):List ByteArray->List ByteArray->List Int->Int->List St->Ck
 |U,_,_,_,[]=>⟨U,[],0⟩
 |U,sc,way,i,s::r=>if (lB B U sc (way++[i]) s).E=0 then dR B (lB B U sc (way++[i]) s).U sc way (i+1) r else lB B U sc (way++[i]) s
end
theorem chkS_eq (B:List Bf) (U sc:List ByteArray) (here:List Int) (s:St):lB B U sc here s=if stE B U sc s=0 then dR B (lC U s) (lC sc s) here 0 s.Body else ⟨[],here,stE B U sc s⟩:=by cases s;rw [lB];rfl
theorem chkS_no {B:List Bf} {U sc:List ByteArray} {here:List Int} {s:St} (h:¬stE B U sc s=0):lB B U sc here s=⟨[],here,stE B U sc s⟩:=by rw [chkS_eq,if_neg h]
theorem chkS_in {B:List Bf} {U sc:List ByteArray} {here:List Int} {s:St} (h:stE B U sc s=0):lB B U sc here s=dR B (lC U s) (lC sc s) here 0 s.Body:=by rw [chkS_eq,if_pos h]
theorem zMx {B:List Bf} {R:Ck} {U sc:List ByteArray} {way:List Int} {l:List St} {k:Nat} {s:St} (h:l[k]? =some s) (hp:R=dR B U sc way k (l.drop k)) (hx:(lB B U sc (way++[(k:Int)]) s).E=0):R=dR B (lB B U sc (way++[(k:Int)]) s).U sc way ((k+1:Nat):Int) (l.drop (k+1)):=by
 rw [hp,qY h,dR,if_pos hx];rfl
theorem zEa {B:List Bf} {R:Ck} {U sc:List ByteArray} {way:List Int} {l:List St} {k:Nat} {s:St} (h:l[k]? =some s) (hp:R=dR B U sc way k (l.drop k)) (hx:¬(lB B U sc (way++[(k:Int)]) s).E=0):R=lB B U sc (way++[(k:Int)]) s:=by
 rw [hp,qY h,dR,if_neg hx]
theorem zQl {B:List Bf} {R:Ck} {U sc:List ByteArray} {way:List Int} {l:List St} {k:Nat} (hp:R=dR B U sc way k (l.drop k)) (h:¬k<l.length):R=⟨U,[],0⟩:=by
 rw [hp,kV h,dR]
theorem chkL_ok:∀{B:List Bf} {l:List St} {U sc:List ByteArray} {way:List Int} {i:Int},(dR B U sc way i l).E=0->(dR B U sc way i l).W=[]
 |B,[],U,sc,way,i,_=>by rw [dR]
 |B,s::r,U,sc,way,i,h=>by
  rw [dR] at h⊢
  by_cases c:(lB B U sc (way++[i]) s).E=0
  ·rw [if_pos c] at h⊢;exact chkL_ok h
  ·rw [if_neg c] at h;exact absurd h c
mutual
theorem chkS_len (B:List Bf):∀(s:St) (U sc:List ByteArray) (here:List Int),(lB B U sc here s).U.length<=U.length+stN s
 |.mk o nm mn mk fo i e b,U,sc,here=>by
  rw [lB,stN]
  split
  ·have h1:=chkL_len B b (lC U (.mk o nm mn mk fo i e b)) (lC sc (.mk o nm mn mk fo i e b)) here 0
   have h2:(lC U (.mk o nm mn mk fo i e b)).length<=U.length+1:=by unfold lC;split<;>simp
   omega
  ·simp
theorem chkL_len (B:List Bf):∀(l:List St) (U sc:List ByteArray) (way:List Int) (i:Int),(dR B U sc way i l).U.length<=U.length+dK l
 |[],U,sc,way,i=>by rw [dR];simp
 |s::r,U,sc,way,i=>by
  rw [dR,dK]
  have h1:=chkS_len B s U sc (way++[i])
  split
  ·have h2:=chkL_len B r (lB B U sc (way++[i]) s).U sc way (i+1)
   omega
  ·omega
end
theorem zIk {U:List ByteArray} {s:St} (h:s.Op=1):lC U s=U++[s.Name]:=by unfold lC;rw [if_pos h]
theorem zLv {U:List ByteArray} {s:St} (h:¬s.Op=1):lC U s=U:=by unfold lC;rw [if_neg h]
theorem scAll_next {S:List ByteArray} {f:Lf} {l:List Ix} {k:Nat} {x:Ix} (h:l[k]? =some x):((jS S f&&(l.take k).all (vO S))&&jS S x.Lin&&x.At.all (jS S))=(jS S f&&(l.take (k+1)).all (vO S)):=by
 rw [yC h,List.all_append]
 simp only [List.all_cons,List.all_nil,Bool.and_true,vO,Bool.and_assoc]
theorem st10_t {c:Bool} {a b:Ty} (h:(c|| !bH [cI a.Kind,cI a.Bits,cI a.Frac,cI a.Round,cI a.Over] [cI b.Kind,cI b.Bits,cI b.Frac,cI b.Round,cI b.Over])=true):c=true∨¬a=b:=by
 rw [tyC_eq,Bool.or_eq_true] at h
 rcases h with h|h
 ·exact .inl h
 ·exact .inr (by simpa using h)
theorem st10_f {c:Bool} {a b:Ty} (h:(c|| !bH [cI a.Kind,cI a.Bits,cI a.Frac,cI a.Round,cI a.Over] [cI b.Kind,cI b.Bits,cI b.Frac,cI b.Round,cI b.Over])=false):¬(c=true∨¬a=b):=by
 rw [tyC_eq,Bool.or_eq_false_iff] at h
 rw [h.1]
 rintro (k|k)
 ·cases k
 ·exact k (by simpa using h.2)
theorem storeE_1 {B:List Bf} {sc:List ByteArray} {s:St} (h:¬(bW B sc (rdE s)).2=0):gO B sc s=(bW B sc (rdE s)).2:=by unfold gO;rw [if_neg h]
theorem storeE_u {B:List Bf} {sc:List ByteArray} {s:St} (h:(bW B sc (rdE s)).2=0) (h2:(dI B s.Name).Use=1∨(s.Op=3/\(s.Fold<1∨4<s.Fold))):gO B sc s=1:=by unfold gO;rw [if_pos h,if_pos h2]
theorem storeE_2 {B:List Bf} {sc:List ByteArray} {s:St} (h:(bW B sc (rdE s)).2=0) (h2:¬((dI B s.Name).Use=1∨(s.Op=3/\(s.Fold<1∨4<s.Fold)))) (h3:¬(bW B sc s.E).2=0):gO B sc s=(bW B sc s.E).2:=by unfold gO;rw [if_pos h,if_neg h2,if_neg h3]
theorem storeE_10 {B:List Bf} {sc:List ByteArray} {s:St} (h:(bW B sc (rdE s)).2=0) (h2:¬((dI B s.Name).Use=1∨(s.Op=3/\(s.Fold<1∨4<s.Fold)))) (h3:(bW B sc s.E).2=0) (h4:bC s.E=true∨¬(bW B sc s.E).1=(dI B s.Name).T):gO B sc s=10:=by unfold gO;rw [if_pos h,if_neg h2,if_pos h3,if_pos h4]
theorem storeE_0 {B:List Bf} {sc:List ByteArray} {s:St} (h:(bW B sc (rdE s)).2=0) (h2:¬((dI B s.Name).Use=1∨(s.Op=3/\(s.Fold<1∨4<s.Fold)))) (h3:(bW B sc s.E).2=0) (h4:¬(bC s.E=true∨¬(bW B sc s.E).1=(dI B s.Name).T)):gO B sc s=0:=by unfold gO;rw [if_pos h,if_neg h2,if_pos h3,if_neg h4]
theorem loopE_7 {B:List Bf} {U:List ByteArray} {s:St} (h:bO s.Name=false):nA B U s=7:=by unfold nA;rw [if_neg (by rw [h];simp)]
theorem loopE_8 {B:List Bf} {U:List ByteArray} {s:St} (h:bO s.Name=true) (h2:bP B s.Name=true∨bS U s.Name=true):nA B U s=8:=by unfold nA;rw [if_pos h,if_pos h2]
theorem loopE_1 {B:List Bf} {U:List ByteArray} {s:St} (h:bO s.Name=true) (h2:¬(bP B s.Name=true∨bS U s.Name=true)) (h3:s.Many<1∨65536<s.Many∨s.Mark<0∨3<s.Mark):nA B U s=1:=by unfold nA;rw [if_pos h,if_neg h2,if_pos h3]
theorem loopE_0 {B:List Bf} {U:List ByteArray} {s:St} (h:bO s.Name=true) (h2:¬(bP B s.Name=true∨bS U s.Name=true)) (h3:¬(s.Many<1∨65536<s.Many∨s.Mark<0∨3<s.Mark)):nA B U s=0:=by unfold nA;rw [if_pos h,if_neg h2,if_neg h3]
theorem ifE_x {B:List Bf} {sc:List ByteArray} {s:St} (h:¬(bW B sc s.E).2=0):ifE B sc s=(bW B sc s.E).2:=by unfold ifE;rw [if_neg h]
theorem ifE_10 {B:List Bf} {sc:List ByteArray} {s:St} (h:(bW B sc s.E).2=0) (h2:bC s.E=false):ifE B sc s=10:=by unfold ifE;rw [if_pos h,if_neg (by rw [h2];simp)]
theorem ifE_0 {B:List Bf} {sc:List ByteArray} {s:St} (h:(bW B sc s.E).2=0) (h2:bC s.E=true):ifE B sc s=0:=by unfold ifE;rw [if_pos h,if_pos h2]
theorem stE_5 {B:List Bf} {U sc:List ByteArray} {s:St} (h:fE s=false):stE B U sc s=5:=by unfold stE;rw [if_neg (by rw [h];simp)]
theorem stE_l {B:List Bf} {U sc:List ByteArray} {s:St} (h:fE s=true) (h2:s.Op=1):stE B U sc s=nA B U s:=by unfold stE;rw [if_pos h,if_pos h2]
theorem stE_i {B:List Bf} {U sc:List ByteArray} {s:St} (h:fE s=true) (h2:s.Op=4):stE B U sc s=ifE B sc s:=by unfold stE;rw [if_pos h,if_neg (by omega),if_pos h2]
theorem stE_s {B:List Bf} {U sc:List ByteArray} {s:St} (h:fE s=true) (h2:¬s.Op=1) (h3:¬s.Op=4):stE B U sc s=gO B sc s:=by unfold stE;rw [if_pos h,if_neg h2,if_neg h3]
def bZ (n:Ns):List Int×Int:=
 if bV 40 n.Body=true then (if 2000<jI n.Body 2000∨128<n.Bufs.length then ([],2) else if dC [] n.Bufs=0 then ((dR n.Bufs [] [] [] 0 n.Body).W,(dR n.Bufs [] [] [] 0 n.Body).E) else ([],dC [] n.Bufs)) else ([],13)
theorem zQz {n:Ns} (h:bV 40 n.Body=false):bZ n=([],13):=by unfold bZ;rw [if_neg (by rw [h];simp)]
theorem validN_2 {n:Ns} (h:bV 40 n.Body=true) (h2:2000<jI n.Body 2000∨128<n.Bufs.length):bZ n=([],2):=by unfold bZ;rw [if_pos h,if_pos h2]
theorem validN_b {n:Ns} (h:bV 40 n.Body=true) (h2:¬(2000<jI n.Body 2000∨128<n.Bufs.length)) (h3:¬dC [] n.Bufs=0):bZ n=([],dC [] n.Bufs):=by unfold bZ;rw [if_pos h,if_neg h2,if_neg h3]
theorem zPj {n:Ns} (h:bV 40 n.Body=true) (h2:¬(2000<jI n.Body 2000∨128<n.Bufs.length)) (h3:dC [] n.Bufs=0):bZ n=((dR n.Bufs [] [] [] 0 n.Body).W,(dR n.Bufs [] [] [] 0 n.Body).E):=by unfold bZ;rw [if_pos h,if_neg h2,if_pos h3]
structure Ns.Ok (n:Ns):Prop where
 bufs:n.Bufs.length<=4294967296
 dims:∀b,b∈n.Bufs->b.Dims.length<=17592186044416
 body:bL n.Body<=536870912
theorem Ns.Ok.buf {n:Ns} (h:n.Ok) (s:ByteArray):(dI n.Bufs s).Dims.length<=17592186044416:=by
 cases c:bP n.Bufs s
 ·rw [bufD_no c];simp [zBf]
 ·exact h.dims _ (zQm c).1
end Go.Br
end
section
namespace Go.Br
open Go Go.Eng Go.L41
def lQ (i:List Ix):Ex:=.mk 0 (bs []) ⟨0,0⟩ ⟨0,0,0,0,0⟩ ⟨0,[]⟩ i []
theorem idxE_wt (i:List Ix):(lQ i).wt=1+i.length+gF i:=by
 rw [Ex.wt_eq];simp only [lQ,Ex.Lin,Ex.Idx,Ex.Args,dQ,List.length_nil];omega
mutual
def mC:St->Nat->Nat
 |.mk _ _ _ _ _ _ _ b,m=>fB b m b.length
def fB:List St->Nat->Nat->Nat
 |[],_,n=>n
 |s::r,m,n=>if n<=m then fB r m (n+fH s.E m+fH (lQ s.Idx) m+mC s (m-n)) else n
end
def gV (l:List St) (m:Nat):Nat:=fB l m l.length
theorem weighS_eq (s:St) (m:Nat):mC s m=gV s.Body m:=by cases s;rw [mC];rfl
theorem weighSs_ge:∀(l:List St) (m n:Nat),n<=fB l m n
 |[],m,n=>by rw [fB];omega
 |s::r,m,n=>by
  rw [fB];split
  ·have:=weighSs_ge r m (n+fH s.E m+fH (lQ s.Idx) m+mC s (m-n));omega
  ·omega
mutual
theorem weighS_wt:∀(s:St) (m:Nat),mC s m<=m->bL s.Body<=mC s m
 |.mk _ _ _ _ _ _ _ b,m,h=>by
  rw [mC] at h⊢
  have:=zNf b m _ h
  have:=wL b
  simp only [St.Body];omega
theorem zNf:∀(l:List St) (m n:Nat),fB l m n<=m->n+(bL l-l.length)<=fB l m n
 |[],m,n,h=>by simp [fB,bL]
 |s::r,m,n,h=>by
  by_cases hn:n<=m
  ·rw [fB,if_pos hn] at h⊢
   have h1:=weighSs_ge r m (n+fH s.E m+fH (lQ s.Idx) m+mC s (m-n))
   have h2:=zNf r m _ h
   have h3:=zQv s.E m (by omega)
   have h4:=zQv (lQ s.Idx) m (by omega)
   have h5:=weighS_wt s (m-n) (by omega)
   have h6:=wL r
   rw [idxE_wt] at h4
   rw [bL,List.length_cons,St.wt_eq];omega
  ·rw [fB,if_neg hn] at h;omega
end
theorem weighB_wt {l:List St} {m:Nat} (h:gV l m<=m):bL l<=gV l m:=by
 unfold gV at *
 have:=zNf l m _ h
 have:=wL l
 omega
mutual
def St.fit:St->Prop
 |.mk _ _ _ _ _ i e b=>i.length<=140737488355328/\(∀x,x∈i->x.fit)/\e.fit/\b.length<=140737488355328/\nZ b
def nZ:List St->Prop
 |[]=>True
 |s::r=>s.fit/\nZ r
end
theorem zQf {l:List St} (h:nZ l):∀a,a∈l->a.fit:=by
 induction l with
 |nil=>intro a ha;cases ha
 |cons x r ih=>
  intro a ha
  rw [nZ] at h
  rcases List.mem_cons.1 ha with rfl|ha
  ·exact h.1
  ·exact ih h.2 a ha
theorem fitS_of {l:List St} (h:∀a,a∈l->a.fit):nZ l:=by
 induction l with
 |nil=>rw [nZ];trivial
 |cons x r ih=>rw [nZ];exact ⟨h x (by simp),ih fun a ha=>h a (by simp [ha])⟩
theorem St.fit_eq {s:St} (h:s.fit):s.Idx.length<=140737488355328/\(∀x,x∈s.Idx->x.fit)/\s.E.fit/\s.Body.length<=140737488355328/\nZ s.Body:=by
 cases s with
 |mk o n m k f i e b=>rw [St.fit] at h;exact h
theorem idxE_fit {i:List Ix} (h1:i.length<=140737488355328) (h2:∀x,x∈i->x.fit):(lQ i).fit:=by
 unfold lQ;rw [Ex.fit];exact ⟨by simp,h1,by simp,h2,trivial⟩
abbrev wB (m:Nat):Nat:=140737488355328+m*1125899906857624
mutual
theorem weighS_le:∀(s:St) (m:Nat),s.fit->m<=5000->mC s m<=wB m
 |.mk o nm k f mn i e b,m,h,hm=>by
  rw [St.fit] at h
  obtain ⟨_,_,_,h1,h2⟩:=h
  rw [mC]
  exact weighSs_le b m _ h2 hm (fun hb=>by cases b;exact absurd rfl hb;simp) (by unfold wB;omega)
theorem weighSs_le:∀(l:List St) (m n:Nat),nZ l->m<=5000->(l≠[]->1<=n)->n<=wB m->fB l m n<=wB m
 |[],m,n,_,_,_,h=>by rw [fB];exact h
 |s::r,m,n,hf,hm,h1,h=>by
  rw [nZ] at hf
  rw [fB]
  have h1:=h1 (by simp)
  obtain ⟨f1,f2,f3,_,_⟩:=St.fit_eq hf.1
  split
  ·rename_i hn
   have h3:=weighS_le s (m-n) hf.1 (by omega)
   have h4:=zFp s.E m f3
   have h5:=zFp (lQ s.Idx) m (idxE_fit f1 f2)
   refine weighSs_le r m _ hf.2 hm (fun _=>by omega) ?_
   unfold wB at *
   omega
  ·exact h
end
theorem weighSs_end {m n k:Nat} {l:List St} {N:Nat} {x:Int} (hp:N=fB (l.drop k) m n) (hx:x=m) (h:l.length<=k∨x<n):n=N:=by
 rw [hp]
 by_cases hk:k<l.length
 ·obtain ⟨a,ha⟩:=qU l k hk
  rw [qY ha,fB,if_neg (by omega)]
 ·rw [kV hk,fB]
theorem weighSs_next {m n k:Nat} {l:List St} {N:Nat} {s:St} (hs:l[k]? =some s) (hp:N=fB (l.drop k) m n) (h:n<=m):N=fB (l.drop (k+1)) m (n+fH s.E m+fH (lQ s.Idx) m+gV s.Body (m-n)):=by
 rw [hp,qY hs,fB,if_pos h,weighS_eq]
theorem weigh_lt {m n:Nat} {l:List St} {k:Nat} {s:St} (hs:l[k]? =some s) (hf:nZ l) (hm:m<=5000) (hn:n<=m) (h1:1<=n):n+fH s.E m+fH (lQ s.Idx) m+gV s.Body (m-n)<=wB m:=by
 have hs':=zQf hf s (qA hs)
 obtain ⟨f1,f2,f3,f4,f5⟩:=St.fit_eq hs'
 have h3:=weighS_le s (m-n) hs' (by omega)
 rw [weighS_eq] at h3
 have h4:=zFp s.E m f3
 have h5:=zFp (lQ s.Idx) m (idxE_fit f1 f2)
 unfold wB at *
 omega
/-! ## What the laws of layers 30,36 and 41 take for small -/
structure Ns.Fit (n:Ns):Prop where
 bufs:n.Bufs.length<=140737488355328
 dims:∀b,b∈n.Bufs->b.Dims.length<=17592186044416
 len:n.Body.length<=140737488355328
 body:nZ n.Body
theorem Ns.Fit.ok {n:Ns} (h:n.Fit) {m:Nat} (hm:m<=5000) (hb:n.Bufs.length<=150) (hw:gV n.Body m<=m):n.Ok:=
 ⟨by omega,h.dims,by have:=weighB_wt hw;omega⟩
end Go.Br
end
section
namespace Go.Br
open Go Go.Eng Go.L41
/-! ## For the reference's check -/
structure Bd where
 Name:ByteArray
 Val:Int
 deriving DecidableEq
def Bd.cells (x:Bd):List C:=[cS x.Name,cI x.Val]
theorem any_hasB (bd:List Bd) (s:ByteArray):(bd.any fun d=>decide (d.Name=s))=bS (bd.map Bd.Name) s:=by
 unfold bS;rw [List.any_map];rfl
theorem any_step {bd:List Bd} {i:Nat} {d:Bd} {s:ByteArray} (h:bd[i]? =some d):(((bd.take i).any fun d=>decide (d.Name=s))||decide (d.Name=s))=(bd.take (i+1)).any fun d=>decide (d.Name=s):=by
 rw [yC h,List.any_append];simp
theorem bound_no {l:List Lf} {sc:List ByteArray} {k j:Nat} {x:Lf} {m:Mono} (h:l[k]? =some x) (hm:x.L[j]? =some m) (c:bS sc m.Name=false):l.all (jS sc)=false:=by
 have:jS sc x=false:=zPa hm (p:=fun y:Mono=>bS sc y.Name) c
 exact zPa h this
theorem ixs_len (l:List Ix) (k:Nat):((l.take k).flatMap ixF).length<=l.length+gF l:=by
 have h1:∀l:List Ix,(l.flatMap ixF).length<=l.length+gF l:=by
  intro l
  induction l with
  |nil=>simp
  |cons x r ih=>
   rw [List.flatMap_cons,List.length_append,gF,Ix.wt,List.length_cons]
   simp only [ixF,List.length_cons];omega
 have h2:=h1 (l.take k)
 have h3:gF (l.take k)<=gF l:=by
  have:∀(l:List Ix) (k:Nat),gF (l.take k)<=gF l:=by
   intro l
   induction l with
   |nil=>intro k;simp [gF]
   |cons x r ih=>intro k;cases k with
    |zero=>simp [gF]
    |succ k=>rw [List.take_succ_cons,gF,gF];have:=ih k;omega
  exact this l k
 have h4:=List.length_take_le' k l
 omega
theorem node_sc (sc:List ByteArray) (e:Ex):([e.Lin].all (jS sc)&&(e.Idx.flatMap ixF).all (jS sc))=gP sc e:=by
 unfold gP
 congr 1
 ·simp
 ·rw [List.all_flatMap];rfl
theorem node_sc_f {sc:List ByteArray} {e:Ex} (c:(![e.Lin].all (jS sc)|| !(e.Idx.flatMap ixF).all (jS sc))=true):gP sc e=false:=by
 rw [←Bool.not_and,node_sc] at c;simpa using c
theorem node_sc_t {sc:List ByteArray} {e:Ex} (c:(![e.Lin].all (jS sc)|| !(e.Idx.flatMap ixF).all (jS sc))=false):gP sc e=true:=by
 rw [←Bool.not_and,node_sc] at c;simpa using c
theorem nonC_len:∀(arg_:List Ex) (ts:List Ty),(gJ arg_ ts).length<=arg_.length
 |[],_=>by simp [gJ]
 |_::_,[]=>by simp [gJ]
 |a::r,t::ts=>by
  have:=nonC_len r ts
  rw [gJ];split<;>simp<;>omega
theorem ki10_t {l:List Ty} (c:(decide (((l.map tyC).length:Int)=2)&& !bH [cI (dH l 0).Kind,cI (dH l 0).Bits,cI (dH l 0).Frac,cI (dH l 0).Round,cI (dH l 0).Over] [cI (dH l 1).Kind,cI (dH l 1).Bits,cI (dH l 1).Frac,cI (dH l 1).Round,cI (dH l 1).Over])=true):l.length=2/\¬dH l 0=dH l 1:=by
 rw [Bool.and_eq_true,decide_eq_true_eq,List.length_map] at c
 exact ⟨by omega,zGi c.2⟩
theorem ki10_f {l:List Ty} (c:(decide (((l.map tyC).length:Int)=2)&& !bH [cI (dH l 0).Kind,cI (dH l 0).Bits,cI (dH l 0).Frac,cI (dH l 0).Round,cI (dH l 0).Over] [cI (dH l 1).Kind,cI (dH l 1).Bits,cI (dH l 1).Frac,cI (dH l 1).Round,cI (dH l 1).Over])=false):¬(l.length=2/\¬dH l 0=dH l 1):=by
 rintro ⟨h1,h2⟩
 rw [Bool.and_eq_false_iff,decide_eq_false_iff_not,List.length_map] at c
 rcases c with c|c
 ·omega
 ·exact h2 (zGj c)
theorem ki_one {e:Ex} {l:List Ty} (h:fN e=0) (hl:l.length=e.Args.length) (h1:¬(e.Op=1∨e.Op=12∨e.Op=2∨e.Op=3)) (h2:bC e=false):1<=(gJ e.Args l).length:=by
 have hr:=zPx h
 have hc:=zJl h
 obtain ⟨o1,o2⟩:=zNr (wY h)
 have h13:e.Op<13:=by
  unfold bC at h2
  simp only [Bool.and_eq_false_iff,decide_eq_false_iff_not] at h2
  omega
 generalize e.Args=A at hr hc hl
 have w:∀i,(e.Op=11->i≠0)->fI e.Op i=false:=fun i hi=>by
  unfold fI;simp only [Bool.or_eq_false_iff,Bool.and_eq_false_iff,decide_eq_false_iff_not]
  by_cases h11:e.Op=11
  ·have:=hi h11;omega
  ·omega
 unfold bI at hr
 match A,l,hl with
 |[],_,_=>
  exfalso
  simp only [List.length_nil] at hr
  split at hr
  ·omega
  ·split at hr
   ·simp at hr
   ·split at hr<;>simp at hr
 |[a],[t],_=>
  simp only [fC,Bool.and_true,beq_iff_eq] at hc
  have h11:e.Op≠11:=by rintro h11;rw [h11] at hr;simp at hr
  rw [w 0 (fun h=>absurd h h11)] at hc
  rw [gJ,if_neg (by rw [hc];simp)];simp
 |a::b::r,t::u::s,_=>
  simp only [fC,Bool.and_eq_true,beq_iff_eq] at hc
  have hb:=hc.2.1
  rw [w (0+1) (fun _=>by omega)] at hb
  rw [gJ]
  split
  ·rw [gJ,if_neg (by rw [hb];simp)];simp
  ·simp
 |[_],[],hl=>simp at hl
 |[_],_::_::_,hl=>simp at hl
 |_::_::_,[],hl=>simp at hl
 |_::_::_,[_],hl=>simp at hl
theorem map_bd {bd:List Bd} {s:St}:(bd++[(⟨s.Name,s.Many⟩:Bd)]).map Bd.Name=bd.map Bd.Name++[s.Name]:=by simp
theorem pln_1 {s:St} (c:((!decide (s.Op=1)&& !decide (s.Op=4))&& !fU s)=true):false=fE s:=by
 unfold fE
 simp only [Bool.and_eq_true,Bool.not_eq_true'] at c
 simp only [c.1.1,c.1.2,c.2,Bool.or_self,Bool.false_and]
theorem pln_2 {s:St} (c:(((!decide (s.Op=1)&&(!decide (s.Many=0)|| !decide (s.Mark=0)))||(!decide (s.Op=3)&& !decide (s.Fold=0)))||(decide (s.Op=4)&& !decide (s.Name=bs [])))=true):false=fE s:=by
 rw [Bool.or_eq_true,Bool.or_eq_true] at c
 rcases c with (c|c)|c
 ·exact syn_3 c
 ·exact syn_4 c
 ·exact syn_2 c
theorem pln_3 {s:St} (c:((!fU s&&decide ((0:Int)<s.Idx.length))||(fU s&&decide ((0:Int)<s.Body.length)))=true):false=fE s:=by
 rw [Bool.or_eq_true] at c
 rcases c with c|c
 ·exact syn_5 c
 ·unfold fE
  rw [Bool.and_eq_true,decide_eq_true_eq] at c
  have:decide ((s.Body.length:Int)=0)=false:=decide_eq_false (by omega)
  simp only [c.1,this,Bool.not_true,Bool.or_self,Bool.and_false]
theorem pln_4 {s:St} (c1:((!decide (s.Op=1)&& !decide (s.Op=4))&& !fU s)=false) (c2:(((!decide (s.Op=1)&&(!decide (s.Many=0)|| !decide (s.Mark=0)))||(!decide (s.Op=3)&& !decide (s.Fold=0)))||(decide (s.Op=4)&& !decide (s.Name=bs [])))=false)
  (c3:((!fU s&&decide ((0:Int)<s.Idx.length))||(fU s&&decide ((0:Int)<s.Body.length)))=false):(!decide (s.Op=1)||decide (s.E=zEx))=fE s:=by
 rw [Bool.or_eq_false_iff,Bool.or_eq_false_iff] at c2
 rw [Bool.or_eq_false_iff] at c3
 have h1:(decide (s.Op=1)||fU s||decide (s.Op=4))=true:=by
  revert c1;cases decide (s.Op=1)<;>cases fU s<;>cases decide (s.Op=4)<;>simp
 have h7:(!fU s||decide ((s.Body.length:Int)=0))=true:=by
  have h:=c3.2
  rw [Bool.and_eq_false_iff,decide_eq_false_iff_not] at h
  rcases h with h|h
  ·rw [h];rfl
  ·rw [show decide ((s.Body.length:Int)=0)=true from decide_eq_true (by omega),Bool.or_true]
 unfold fE rQ
 simp only [h1,c2.1.1,c2.1.2,c2.2,c3.1,h7,Bool.not_false,Bool.true_and,Bool.and_true,Bool.not_and,Bool.not_not]
theorem st3_t {n:Int} {c:Bool} {a b:Ty} (h:(decide (n=0)&&(c|| !bH [cI a.Kind,cI a.Bits,cI a.Frac,cI a.Round,cI a.Over] [cI b.Kind,cI b.Bits,cI b.Frac,cI b.Round,cI b.Over]))=true):n=0/\(c=true∨¬a=b):=by
 rw [Bool.and_eq_true,decide_eq_true_eq] at h
 exact ⟨h.1,st10_t h.2⟩
theorem st3_f {n:Int} {c:Bool} {a b:Ty} (h:(decide (n=0)&&(c|| !bH [cI a.Kind,cI a.Bits,cI a.Frac,cI a.Round,cI a.Over] [cI b.Kind,cI b.Bits,cI b.Frac,cI b.Round,cI b.Over]))=false):n=0->¬(c=true∨¬a=b):=by
 intro h0
 rw [decide_eq_true h0,Bool.true_and] at h
 exact st10_f h
theorem st_fin {B:List Bf} {sc:List ByteArray} {s:St} (h:(bW B sc (rdE s)).2=0) (h2:¬((dI B s.Name).Use=1∨(s.Op=3/\(s.Fold<1∨4<s.Fold)))) (h3:(bW B sc s.E).2=0->¬(bC s.E=true∨¬(bW B sc s.E).1=(dI B s.Name).T)):gO B sc s=(bW B sc s.E).2:=by
 by_cases h4:(bW B sc s.E).2=0
 ·rw [storeE_0 h h2 h4 (h3 h4),h4]
 ·exact storeE_2 h h2 h4
theorem if_t {B:List Bf} {sc:List ByteArray} {s:St} (c:(decide ((bW B sc s.E).2=0)&& !bC s.E)=true):ifE B sc s=10:=by
 rw [Bool.and_eq_true,decide_eq_true_eq] at c
 exact ifE_10 c.1 (by simpa using c.2)
theorem if_fin {B:List Bf} {sc:List ByteArray} {s:St} (c:(decide ((bW B sc s.E).2=0)&& !bC s.E)=false):ifE B sc s=(bW B sc s.E).2:=by
 by_cases h:(bW B sc s.E).2=0
 ·rw [decide_eq_true h,Bool.true_and] at c
  rw [ifE_0 h (by simpa using c),h]
 ·exact ifE_x h
theorem within_f {l:List St} (c:40<lR 41 l):bV 40 l=false:=by
 cases h:bV 40 l with
 |false=>rfl
 |true=>have h2:lR 41 l<=40:=(zGx 40 l).2 h;omega
theorem within_t {l:List St} (c:lR 41 l<=40):bV 40 l=true:=(zGx 40 l).1 c
end Go.Br
end
section
namespace Go.Br
open Go Go.Eng Go.L41
def lG:List ByteArray->ByteArray->List ByteArray
 |[],s=>[s]
 |x::r,s=>if jK x s=true then x::lG r s else if x=s then x::r else s::x::r
def gE (l:List ByteArray) (m:List ByteArray):List ByteArray:=m.foldl lG l
def below (s:ByteArray) (x:ByteArray):Bool:=jK x s
theorem insW_end:∀{l:List ByteArray} {s:ByteArray},l.all (below s)=true->lG l s=l++[s]
 |[],s,_=>rfl
 |x::r,s,h=>by
  simp only [List.all_cons,Bool.and_eq_true] at h
  rw [lG,if_pos (show jK x s=true from h.1),insW_end h.2];rfl
theorem insW_is:∀{l:List ByteArray} {s:ByteArray} {k:Nat},(l.take k).all (below s)=true->l[k]? =some s->jK s s=false->lG l s=l
 |[],s,k,_,h,_=>by simp at h
 |x::r,s,0,_,h,h2=>by
  have hx:x=s:=by simpa using h
  subst hx
  rw [lG,if_neg (by rw [h2];simp),if_pos rfl]
 |x::r,s,k+1,h0,h,h2=>by
  simp only [List.take_succ_cons,List.all_cons,Bool.and_eq_true] at h0
  rw [lG,if_pos (show jK x s=true from h0.1),insW_is h0.2 (by simpa using h) h2]
theorem insW_mid:∀{l:List ByteArray} {s x:ByteArray} {k:Nat},(l.take k).all (below s)=true->l[k]? =some x->jK x s=false->¬x=s->lG l s=l.take k++s::l.drop k
 |[],s,x,k,_,h,_,_=>by simp at h
 |y::r,s,x,0,_,h,h2,h3=>by
  have hx:y=x:=by simpa using h
  subst hx
  rw [lG,if_neg (by rw [h2];simp),if_neg h3];rfl
 |y::r,s,x,k+1,h0,h,h2,h3=>by
  simp only [List.take_succ_cons,List.all_cons,Bool.and_eq_true] at h0
  rw [lG,if_pos (show jK y s=true from h0.1),insW_mid h0.2 (by simpa using h) h2 h3];rfl
theorem zFz (x:ByteArray) (r:List ByteArray) (s:ByteArray):bS (x::r) s=(decide (x=s)||bS r s):=rfl
theorem insW_has (t:ByteArray):∀(l:List ByteArray) (s:ByteArray),bS (lG l s) t=(bS l t||decide (s=t))
 |[],s=>by simp [lG,bS]
 |x::r,s=>by
  rw [lG]
  split
  ·rw [zFz,zFz,insW_has t r s,Bool.or_assoc]
  ·split
   ·rename_i h;subst h;rw [zFz];cases decide (x=t)<;>simp
   ·rw [zFz s,Bool.or_comm]
theorem insWs_has (t:ByteArray):∀(m l:List ByteArray),bS (gE l m) t=(bS l t||bS m t)
 |[],l=>by simp [gE,bS]
 |x::m,l=>by
  have:=insWs_has t m (lG l x)
  unfold gE at *
  rw [List.foldl_cons,this,insW_has,zFz,Bool.or_assoc]
theorem insW_len:∀(l:List ByteArray) (s:ByteArray),(lG l s).length<=l.length+1
 |[],s=>by simp [lG]
 |x::r,s=>by
  rw [lG]
  have:=insW_len r s
  split
  ·simp;omega
  ·split<;>simp
theorem insWs_len:∀(m l:List ByteArray),(gE l m).length<=l.length+m.length
 |[],l=>by simp [gE]
 |x::m,l=>by
  have h1:=insWs_len m (lG l x)
  have h2:=insW_len l x
  unfold gE at *
  rw [List.foldl_cons,List.length_cons];omega
theorem zOs (l a b:List ByteArray):gE l (a++b)=gE (gE l a) b:=by unfold gE;rw [List.foldl_append]
theorem below_next {l:List ByteArray} {s x:ByteArray} {k:Nat} (h:l[k]? =some x) (hp:(l.take k).all (below s)=true) (hx:jK x s=true):(l.take (k+1)).all (below s)=true:=by
 rw [yC h,List.all_append,hp];simp [below,hx]
def atB (l:List ByteArray) (k:Nat):ByteArray:=l.getD k (bs [])
theorem zTs {l:List ByteArray} {k:Nat} (h:k<l.length):l[k]? =some (atB l k):=by
 rw [List.getElem?_eq_getElem h];simp [atB,List.getD,List.getElem?_eq_getElem h]
theorem with_1t {l:List ByteArray} {k:Nat} {s:ByteArray} (c:(decide ((k:Int)<l.length)&&jK (atB l k) s)=true):k<l.length/\jK (atB l k) s=true:=by
 rw [Bool.and_eq_true,decide_eq_true_eq] at c;exact ⟨by omega,c.2⟩
theorem with_1f {l:List ByteArray} {k:Nat} {s:ByteArray} (c:(decide ((k:Int)<l.length)&&jK (atB l k) s)=false):k<l.length->jK (atB l k) s=false:=by
 intro h
 rw [decide_eq_true (show (k:Int)<l.length by omega),Bool.true_and] at c;exact c
theorem with_2t {l:List ByteArray} {k:Nat} {s:ByteArray} (c:(decide ((k:Int)<l.length)&&decide (atB l k=s))=true):k<l.length/\atB l k=s:=by
 rw [Bool.and_eq_true,decide_eq_true_eq,decide_eq_true_eq] at c;exact ⟨by omega,c.2⟩
theorem with_2f {l:List ByteArray} {k:Nat} {s:ByteArray} (c:(decide ((k:Int)<l.length)&&decide (atB l k=s))=false):k<l.length->¬atB l k=s:=by
 intro h
 rw [decide_eq_true (show (k:Int)<l.length by omega),Bool.true_and,decide_eq_false_iff_not] at c;exact c
theorem with_is {l:List ByteArray} {k:Nat} {s:ByteArray} (hp:(l.take k).all (below s)=true) (h1:k<l.length->jK (atB l k) s=false) (h2:k<l.length/\atB l k=s):lG l s=l:=by
 have h3:=h1 h2.1
 rw [h2.2] at h3
 exact insW_is hp (by rw [zTs h2.1,h2.2]) h3
theorem with_new {l:List ByteArray} {k:Nat} {s:ByteArray} (hk:k<=l.length) (hp:(l.take k).all (below s)=true) (h1:k<l.length->jK (atB l k) s=false) (h2:k<l.length->¬atB l k=s):lG l s=l.take k++s::l.drop k:=by
 by_cases h:k<l.length
 ·exact insW_mid hp (zTs h) (h1 h) (h2 h)
 ·have hkl:k=l.length:=by omega
  subst hkl
  rw [List.take_length] at hp⊢
  rw [insW_end hp,List.drop_length]
theorem reads_0t {w:List ByteArray} {x:Ex} (h:x.Op=3):lG (gE [] w) x.Name=gE [] (w++fS x++bQ (x.Idx.take 0)):=by
 simp [fS,h,zOs,bQ,gE]
theorem reads_0f {w:List ByteArray} {x:Ex} (h:¬x.Op=3):gE [] w=gE [] (w++fS x++bQ (x.Idx.take 0)):=by
 simp [fS,h,bQ]
theorem zPv {w:List ByteArray} {l:List Ix} {j:Nat} {i:Ix} (h:l[j]? =some i) (hf:¬i.From=bs []):lG (gE [] (w++bQ (l.take j))) i.From=gE [] (w++bQ (l.take (j+1))):=by
 rw [zAm h,jL,if_neg hf,←List.append_assoc,zOs [] (w++bQ (l.take j))];rfl
theorem zPw {w:List ByteArray} {l:List Ix} {j:Nat} {i:Ix} (h:l[j]? =some i) (hf:i.From=bs []):gE [] (w++bQ (l.take j))=gE [] (w++bQ (l.take (j+1))):=by
 rw [zAm h,jL,if_pos hf,List.append_nil]
theorem zFy (m:List ByteArray):(gE [] m).length<=m.length:=by have:=insWs_len m [];simpa using this
def lO (e:Ex):List ByteArray:=gE [] (bR (bF e))
theorem zJc (e:Ex) (t:ByteArray):bS (lO e) t=bS (bR (bF e)) t:=by
 unfold lO;rw [insWs_has];simp [bS]
theorem hasB_mem {l:List ByteArray} {s:ByteArray}:bS l s=true↔s∈l:=by
 unfold bS;rw [List.any_eq_true]
 constructor
 ·rintro ⟨x,hx,h⟩;rw [decide_eq_true_eq] at h;rw [←h];exact hx
 ·intro h;exact ⟨s,h,by simp⟩
theorem hasB_congr {a b:List ByteArray} {s:ByteArray} (h:s∈a↔s∈b):bS a s=bS b s:=by
 rw [Bool.eq_iff_iff,hasB_mem,hasB_mem];exact h
end Go.Br
end
section
namespace Go.Br
open Go Go.Eng Go.L41
theorem compact_mem {α:Type} [DecidableEq α] [Inhabited α] (d:Array α) (m:Nat):∀i,i<m->d[i]! ∈Lib.compactUpTo d m:=by
 intro i
 induction i with
 |zero=>
  intro h
  unfold Lib.compactUpTo
  exact List.mem_map.2 ⟨0,List.mem_filter.2 ⟨List.mem_range.2 h,Lib.keeps_lt_one d 0 (by omega)⟩,rfl⟩
 |succ i ih=>
  intro h
  by_cases hk:d[i+1]! =d[i+1-1]!
  ·rw [hk];exact ih (by omega)
  ·unfold Lib.compactUpTo
   exact List.mem_map.2 ⟨i+1,List.mem_filter.2 ⟨List.mem_range.2 h,Lib.keeps_pos hk⟩,rfl⟩
theorem thin_mem {s:ByteArray} {l:List ByteArray} (h:s∈l):s∈lJ l:=by
 unfold lJ
 rw [mem_toB]
 rw [←mem_ofB] at h
 obtain ⟨i,hi,e⟩:=List.mem_iff_getElem.1 h
 have:=compact_mem (ofB l).toArray (ofB l).length i hi
 rw [getElem!_pos _ i (by simpa using hi)] at this
 unfold Lib.compact
 rw [←e];simpa using this
end Go.Br
end
section
namespace Go.L41
open Go Go.Eng
structure Lifetime where
 Name:ByteArray
 From:Int
 To:Int
 Size:Int
def Lifetime.cells (x:Lifetime):List C:=[cS x.Name,cI x.From,cI x.To,cI x.Size]
abbrev vL (x:Lifetime):V:=.agg x.cells
abbrev vLs (l:List Lifetime):V:=.c (.sl 4 (l.map Lifetime.cells))
def jT (a b:Lifetime):Bool:=decide (a.From<=b.To)&&decide (b.From<=a.To)
def gY (prev:List Lifetime) (x:Lifetime):Int:=
 if bO x.Name=false then 7
 else if (prev.any fun y=>decide (y.Name=x.Name))=true then 8
 else if x.From<0∨x.To<x.From∨x.Size<1∨4096<x.Size then 1 else 0
def fW (prev:List Lifetime):List Lifetime->Int
 |[]=>0
 |x::r=>if gY prev x=0 then fW (prev++[x]) r else gY prev x
def dW (l:List Lifetime):Int:=fW [] l
theorem valid_step {l:List Lifetime} {k:Nat} {x:Lifetime} (h:l[k]? =some x):fW (l.take k) (l.drop k)=if gY (l.take k) x=0 then fW (l.take (k+1)) (l.drop (k+1)) else gY (l.take k) x:=by
 have hlt:=(List.getElem?_eq_some_iff.1 h).1
 rw [List.drop_eq_getElem_cons hlt,(List.getElem?_eq_some_iff.1 h).2,yC h]
 rfl
theorem zQy {l:List Lifetime} {k:Nat} {x:Lifetime} {e:Int} (hv:dW l=fW (l.take k) (l.drop k)) (h:l[k]? =some x) (hc:gY (l.take k) x=e) (he:e≠0):dW l=e:=by
 rw [hv,valid_step h,hc,if_neg he]
theorem valid_ok {l:List Lifetime} {k:Nat} {x:Lifetime} (hv:dW l=fW (l.take k) (l.drop k)) (h:l[k]? =some x) (hc:gY (l.take k) x=0):dW l=fW (l.take (k+1)) (l.drop (k+1)):=by
 rw [hv,valid_step h,hc,if_pos rfl]
theorem valid_end {l:List Lifetime} {k:Nat} (hv:dW l=fW (l.take k) (l.drop k)) (h:¬k<l.length):dW l=0:=by
 rw [hv,List.drop_of_length_le (by omega)]
 rfl
theorem check_name {prev:List Lifetime} {x:Lifetime} (h:bO x.Name=false):gY prev x=7:=by unfold gY;rw [if_pos h]
theorem check_dup {prev:List Lifetime} {x:Lifetime} (h:bO x.Name=true) (h2:(prev.any fun y=>decide (y.Name=x.Name))=true):gY prev x=8:=by
 unfold gY;rw [if_neg (by simp [h]),if_pos h2]
theorem check_arg {prev:List Lifetime} {x:Lifetime} (h:bO x.Name=true) (h2:(prev.any fun y=>decide (y.Name=x.Name))=false) (h3:x.From<0∨x.To<x.From∨x.Size<1∨4096<x.Size):gY prev x=1:=by
 unfold gY;rw [if_neg (by simp [h]),if_neg (by simp [h2]),if_pos h3]
theorem check_ok {prev:List Lifetime} {x:Lifetime} (h:bO x.Name=true) (h2:(prev.any fun y=>decide (y.Name=x.Name))=false) (h3:¬(x.From<0∨x.To<x.From∨x.Size<1∨4096<x.Size)):gY prev x=0:=by
 unfold gY;rw [if_neg (by simp [h]),if_neg (by simp [h2]),if_neg h3]
def sB (l:List Lifetime):List (ByteArray×Bool):=l.foldl (fun m x=>jZ m x.Name true) []
theorem mget_mput {α:Type} (m:List (ByteArray×α)) (k k':ByteArray) (a:α):fP (jZ m k a) k'=if k=k' then some a else fP m k':=by
 induction m with
 |nil=>simp [jZ,fP]
 |cons p m ih=>
  obtain ⟨q,b⟩:=p
  simp only [jZ]
  by_cases h:q=k
  ·subst h
   rw [if_pos rfl]
   simp only [fP]
   by_cases h2:q=k'<;>simp [h2]
  ·rw [if_neg h]
   simp only [fP,ih]
   by_cases h2:q=k'
   ·subst h2
    rw [if_pos rfl,if_neg (fun e=>h e.symm)]
    simp
   ·rw [if_neg h2,if_neg h2]
theorem seen_get (l:List Lifetime) (k:ByteArray):(fP (sB l) k).getD false=l.any fun y=>decide (y.Name=k):=by
 unfold sB
 suffices ∀(m:List (ByteArray×Bool)) (b:Bool),(fP m k).getD false=b->(fP (l.foldl (fun m x=>jZ m x.Name true) m) k).getD false=(b||l.any fun y=>decide (y.Name=k)) by
  simpa using this [] false rfl
 induction l with
 |nil=>intro m b h;simpa using h
 |cons x l ih=>
  intro m b h
  rw [List.foldl_cons,ih (jZ m x.Name true) (b||decide (x.Name=k)) (by
   rw [mget_mput]
   by_cases hx:x.Name=k
   ·simp [hx]
   ·simpa [hx] using h)]
  simp [Bool.or_assoc]
theorem seen_next {l:List Lifetime} {k:Nat} {x:Lifetime} (h:l[k]? =some x):sB (l.take (k+1))=jZ (sB (l.take k)) x.Name true:=by
 unfold sB
 rw [yC h,List.foldl_append]
 rfl
end Go.L41
end
section
namespace Go.Br
open Go Go.Eng Go.L41
theorem readsT_has (e:Ex) (t:ByteArray):bS (gC e) t=bS (bR (bF e)) t:=
 hasB_congr ⟨fun h=>mem_sortB.1 (mem_thinB h),fun h=>thin_mem (mem_sortB.2 h)⟩
theorem reads_idx (i:List Ix):bR (bF (lQ i))=bQ i:=by
 rw [wO]
 have:bK (lQ i).Args=[]:=rfl
 rw [this]
 simp [bR,pM,fS,lQ,Ex.Op,Ex.Idx]
def rT (s:St) (t:ByteArray):Bool:=(fU s&&decide (s.Name=t))||(bS (bQ s.Idx) t||bS (bR (bF s.E)) t)
mutual
def nL (t:ByteArray):St->Bool
 |.mk o nm mn mk fo i e b=>rT (.mk o nm mn mk fo i e b) t||pZ t b
def pZ (t:ByteArray):List St->Bool
 |[]=>false
 |s::r=>nL t s||pZ t r
end
theorem accS_eq (t:ByteArray) (s:St):nL t s=(rT s t||pZ t s.Body):=by cases s;rw [nL];rfl
def tD (s:St):List ByteArray:=(if fU s=true then [s.Name] else [])++bQ s.Idx++gC s.E
mutual
def pK:St->List ByteArray
 |.mk o nm mn mk fo i e b=>tD (.mk o nm mn mk fo i e b)++lL b
def lL:List St->List ByteArray
 |[]=>[]
 |s::r=>pK s++lL r
end
theorem tchS_eq (s:St):pK s=tD s++lL s.Body:=by cases s;rw [pK];rfl
theorem zLe:∀l:List St,lL l=l.flatMap pK
 |[]=>by rw [lL];rfl
 |s::r=>by rw [lL,zLe r];rfl
theorem tchL_one (s:St):lL [s]=pK s:=by rw [zLe];simp
theorem tchL_next {l:List St} {k:Nat} {s:St} (h:l[k]? =some s):lL (l.take (k+1))=lL (l.take k)++pK s:=by
 rw [zLe,zLe,yC h,List.flatMap_append];simp
theorem zQc (a b:List ByteArray) (s:ByteArray):bS (a++b) s=(bS a s||bS b s):=by simp [bS,List.any_append]
theorem acc_1 {s:St} {t:ByteArray} (c:((decide (s.Op=2)||decide (s.Op=3))&&decide (s.Name=t))=true):nL t s=true:=by
 rw [accS_eq,rT,show (fU s&&decide (s.Name=t))=true from c];rfl
theorem acc_2 {s:St} {t:ByteArray} (c:(bS (lO (lQ s.Idx)) t||bS (lO s.E) t)=true):nL t s=true:=by
 rw [zJc,zJc,reads_idx] at c
 rw [accS_eq,rT,c,Bool.or_true];rfl
theorem acc_0 {s:St} {t:ByteArray} (c1:((decide (s.Op=2)||decide (s.Op=3))&&decide (s.Name=t))=false) (c2:(bS (lO (lQ s.Idx)) t||bS (lO s.E) t)=false):nL t s=pZ t s.Body:=by
 rw [zJc,zJc,reads_idx] at c2
 rw [accS_eq,rT,show (fU s&&decide (s.Name=t))=false from c1,c2];rfl
theorem tch_sto {s:St} (h:(decide (s.Op=2)||decide (s.Op=3))=true):(if fU s=true then [s.Name] else [])=[s.Name]:=if_pos h
theorem tch_no {s:St} (h:(decide (s.Op=2)||decide (s.Op=3))=false):(if fU s=true then [s.Name] else [])=[]:=if_neg (by rw [show fU s=false from h];simp)
def tC (s:St):List ByteArray:=if fU s=true then [s.Name] else []
theorem tch_end (a:List ByteArray) {s:St}:a++tC s++bQ s.Idx++gC s.E++lL s.Body=a++pK s:=by
 rw [tchS_eq];unfold tD tC;simp [List.append_assoc]
theorem tchHd_has (s:St) (t:ByteArray):bS (tD s) t=rT s t:=by
 unfold tD rT
 rw [zQc,zQc,readsT_has,Bool.or_assoc]
 congr 1
 cases fU s<;>simp [bS]
mutual
theorem tchS_has (t:ByteArray):∀s:St,bS (pK s) t=nL t s
 |.mk o nm mn mk fo i e b=>by rw [pK,nL,zQc,tchHd_has,tchL_has t b]
theorem tchL_has (t:ByteArray):∀l:List St,bS (lL l) t=pZ t l
 |[]=>by rw [lL,pZ];rfl
 |s::r=>by rw [lL,pZ,zQc,tchS_has t s,tchL_has t r]
end
/-! ## Spans -/
structure Sp where
 From:Int
 To:Int
def vSp (x:Sp):V:=.agg [cI x.From,cI x.To]
abbrev SpM:=List (ByteArray×Sp)
def lV (k:Int) (m:SpM) (t:ByteArray):SpM:=jZ m t ⟨match fP m t with|some x=>x.From|none=>k,k⟩
def jO (m:SpM) (i:Int):List St->SpM
 |[]=>m
 |s::r=>jO ((pK s).foldl (lV i) m) (i+1) r
theorem zLh:∀(a:List St) (m:SpM) (i:Int) (s:St),jO m i (a++[s])=(pK s).foldl (lV (i+a.length)) (jO m i a)
 |[],m,i,s=>by simp [jO]
 |x::r,m,i,s=>by
  rw [List.cons_append,jO,zLh r,jO,List.length_cons]
  rw [show i+1+(r.length:Int)=i+((r.length+1:Nat):Int) by omega]
theorem sp_next {l:List St} {k:Nat} {s:St} (h:l[k]? =some s):jO [] 0 (l.take (k+1))=(pK s).foldl (lV k) (jO [] 0 (l.take k)):=by
 have hk:=(List.getElem?_eq_some_iff.1 h).1
 rw [yC h,zLh,List.length_take,Nat.min_eq_left (by omega),Int.zero_add]
theorem putSp_new {m:SpM} {t:ByteArray} {i:Int} (h:(fP m t).isSome=false):jZ m t (⟨i,i⟩:Sp)=lV i m t:=by
 unfold lV
 cases hx:fP m t with
 |none=>rfl
 |some x=>rw [hx] at h;cases h
theorem putSp_old {m:SpM} {t:ByteArray} {i:Int} (h:(fP m t).isSome=true):jZ m t (⟨((fP m t).getD ⟨0,0⟩).From,i⟩:Sp)=lV i m t:=by
 unfold lV
 cases hx:fP m t with
 |none=>rw [hx] at h;cases h
 |some x=>rfl
theorem thin_len (l:List ByteArray):(lJ l).length<=l.length:=by
 unfold lJ toB
 rw [List.length_map]
 unfold Lib.compact Lib.compactUpTo
 rw [List.length_map]
 refine Nat.le_trans (List.length_filter_le _ _) ?_
 simp [ofB]
theorem putSp_get (k:Int) (m:SpM) (t u:ByteArray):fP (lV k m t) u=if t=u then some ⟨match fP m u with|some x=>x.From|none=>k,k⟩ else fP m u:=by
 unfold lV
 rw [mget_mput]
 by_cases h:t=u
 ·subst h;rfl
 ·rw [if_neg h,if_neg h]
theorem putSps_get (k:Int) (u:ByteArray):∀(l:List ByteArray) (m:SpM),fP (l.foldl (lV k) m) u=if bS l u=true then some ⟨match fP m u with|some x=>x.From|none=>k,k⟩ else fP m u
 |[],m=>by simp [bS]
 |x::r,m=>by
  rw [List.foldl_cons,putSps_get k u r,putSp_get,zFz]
  by_cases h:x=u
  ·subst h
   simp only [decide_true,Bool.true_or,if_true]
   cases bS r x<;>simp
  ·simp only [h,decide_false,Bool.false_or,if_false]
def mY (t:ByteArray) (x:Bool×Sp×Int) (s:St):Bool×Sp×Int:=if nL t s=true then (true,⟨if x.1=true then x.2.1.From else x.2.2,x.2.2⟩,x.2.2+1) else (x.1,x.2.1,x.2.2+1)
def dZ (t:ByteArray) (l:List St):Bool×Sp×Int:=l.foldl (mY t) (false,⟨0,0⟩,0)
theorem zBc {t:ByteArray} {l:List St} {k:Nat} {s:St} (h:l[k]? =some s):dZ t (l.take (k+1))=mY t (dZ t (l.take k)) s:=by
 unfold dZ;rw [yC h,List.foldl_append];rfl
theorem foldA_k (t:ByteArray):∀{l:List St} {k:Nat},k<=l.length->(dZ t (l.take k)).2.2=k
 |l,0,_=>by simp [dZ]
 |l,k+1,h=>by
  obtain ⟨s,hs⟩:=qU l k (by omega)
  rw [zBc hs]
  have:=foldA_k t (l:=l) (k:=k) (by omega)
  unfold mY
  split<;>simp [this]
theorem spans_fold (t:ByteArray):∀{l:List St} {k:Nat},k<=l.length->fP (jO [] 0 (l.take k)) t=if (dZ t (l.take k)).1=true then some (dZ t (l.take k)).2.1 else none
 |l,0,_=>by simp [dZ,jO,fP]
 |l,k+1,h=>by
  obtain ⟨s,hs⟩:=qU l k (by omega)
  have ih:=spans_fold t (l:=l) (k:=k) (by omega)
  have hk:=foldA_k t (l:=l) (k:=k) (by omega)
  rw [sp_next hs,putSps_get,tchS_has,zBc hs,ih]
  unfold mY
  rw [hk]
  by_cases h1:nL t s=true
  ·rw [if_pos h1,if_pos h1]
   by_cases h2:(dZ t (l.take k)).1=true
   ·simp [h2]
   ·simp [h2]
  ·rw [if_neg h1,if_neg h1]
theorem foldA_zero (t:ByteArray):∀{l:List St} {k:Nat},k<=l.length->(dZ t (l.take k)).1=false->(dZ t (l.take k)).2.1=⟨0,0⟩
 |l,0,_,_=>by simp [dZ]
 |l,k+1,h,h1=>by
  obtain ⟨s,hs⟩:=qU l k (by omega)
  rw [zBc hs] at h1⊢
  unfold mY at h1⊢
  split at h1
  ·cases h1
  ·rename_i hc
   rw [if_neg hc]
   exact foldA_zero t (by omega) h1
def nQ (t:ByteArray) (l:List St):Sp:=(dZ t l).2.1
theorem span_get (t:ByteArray) (l:List St):(fP (jO [] 0 l) t).getD ⟨0,0⟩=nQ t l:=by
 have h:=spans_fold t (l:=l) (k:=l.length) (Nat.le_refl _)
 rw [List.take_length] at h
 rw [h,nQ]
 by_cases c:(dZ t l).1=true
 ·rw [if_pos c];rfl
 ·rw [if_neg c]
  have:=foldA_zero t (l:=l) (k:=l.length) (Nat.le_refl _) (by rw [List.take_length];simpa using c)
  rw [List.take_length] at this
  rw [this];rfl
def fD (l:List St) (b:Bf):Lifetime:=
 ⟨b.Name,if b.Use=1 then 0 else (nQ b.Name l).From,if b.Use=2 then max ((l.length:Int)-1) 0 else (nQ b.Name l).To,dJ b.Dims⟩
def bE (n:Ns):List Lifetime:=n.Bufs.map (fD n.Body)
def jW (n:Ns):List Lifetime×Int:=if (bZ n).2=0 then (bE n,0) else ([],(bZ n).2)
theorem zJn {n:Ns} (h:¬(bZ n).2=0):jW n=([],(bZ n).2):=by unfold jW;rw [if_neg h]
theorem zGe {n:Ns} (h:(bZ n).2=0):jW n=(bE n,0):=by unfold jW;rw [if_pos h]
theorem zEf {n:Ns} {k:Nat} {b:Bf} (h:n.Bufs[k]? =some b):((n.Bufs.take (k+1)).map fun b=>(fD n.Body b).cells)=((n.Bufs.take k).map fun b=>(fD n.Body b).cells)++[(fD n.Body b).cells]:=by
 rw [yC h,List.map_append];rfl
theorem span_cover (t:ByteArray):∀{l:List St} {k:Nat},k<=l.length->(∀(j:Nat) s,l[j]? =some s->j<k->nL t s=true->(dZ t (l.take k)).1=true/\(dZ t (l.take k)).2.1.From<=j/\(j:Int)<=(dZ t (l.take k)).2.1.To)/\
  0<=(dZ t (l.take k)).2.1.From/\(dZ t (l.take k)).2.1.From<=(dZ t (l.take k)).2.1.To/\((dZ t (l.take k)).2.1.To=0∨(dZ t (l.take k)).2.1.To<k)
 |l,0,_=>⟨fun j s _ h=>by omega,by simp [dZ],by simp [dZ],by simp [dZ]⟩
 |l,k+1,h=>by
  obtain ⟨s,hs⟩:=qU l k (by omega)
  obtain ⟨ih,i1,i2,i3⟩:=span_cover t (l:=l) (k:=k) (by omega)
  have hk:=foldA_k t (l:=l) (k:=k) (by omega)
  rw [zBc hs]
  unfold mY
  rw [hk]
  by_cases c:nL t s=true
  ·simp only [c,if_true]
   refine ⟨fun j s' hj hlt _=>⟨trivial,?_,by omega⟩,?_,?_,.inr (by omega)⟩
   ·by_cases hjk:j=k
    ·split
     ·subst hjk
      rcases i3 with i3|i3<;>omega
     ·omega
    ·rename_i ha
     obtain ⟨q1,q2,q3⟩:=ih j s' hj (by omega) ha
     rw [if_pos q1];exact q2
   ·split<;>omega
   ·split
    ·rcases i3 with i3|i3<;>omega
    ·omega
  ·rw [if_neg c]
   refine ⟨fun j s' hj hlt ha=>?_,i1,i2,?_⟩
   ·have hjk:j≠k:=by
     rintro rfl
     rw [hs] at hj
     cases hj
     exact c ha
    exact ih j s' hj (by omega) ha
   ·rcases i3 with i3|i3
    ·exact .inl i3
    ·refine .inr ?_
     dsimp only
     omega
theorem lifeOf_ok (l:List St) (b:Bf):0<=(fD l b).From/\(fD l b).From<=(fD l b).To/\∀(j:Nat) s,l[j]? =some s->nL b.Name s=true->(fD l b).From<=j/\(j:Int)<=(fD l b).To:=by
 obtain ⟨h,h1,h2,h3⟩:=span_cover b.Name (l:=l) (k:=l.length) (Nat.le_refl _)
 rw [List.take_length] at h h1 h2 h3
 have hF:(fD l b).From=if b.Use=1 then 0 else (dZ b.Name l).2.1.From:=rfl
 have hT:(fD l b).To=if b.Use=2 then max ((l.length:Int)-1) 0 else (dZ b.Name l).2.1.To:=rfl
 rw [hF,hT]
 refine ⟨by split<;>omega,?_,fun j s hj ha=>?_⟩
 ·split<;>split<;>omega
 ·have hj':=(List.getElem?_eq_some_iff.1 hj).1
  obtain ⟨q1,q2,q3⟩:=h j s hj hj' ha
  refine ⟨by split<;>omega,?_⟩
  split<;>omega
theorem bufs_in:∀{l seen:List Bf},dC seen l=0->∀(k:Nat) b,l[k]? =some b->gQ (seen++l.take k) b=0
 |[],_,_,k,b,h=>by simp at h
 |x::r,seen,h,k,b,hb=>by
  rw [dC] at h
  by_cases c:gQ seen x=0
  ·rw [if_pos c] at h
   cases k with
   |zero=>simp at hb;subst hb;simpa using c
   |succ k=>
    have:=bufs_in h k b (by simpa using hb)
    simpa using this
  ·rw [if_neg c] at h;exact absurd h c
theorem bfErr_inv {seen:List Bf} {b:Bf} (h:gQ seen b=0):bO b.Name=true/\bP seen b.Name=false/\bX b.Dims=0:=by
 unfold gQ at h
 by_cases h1:bO b.Name=true
 ·rw [if_pos h1] at h
  by_cases h2:bP seen b.Name=true
  ·rw [if_pos h2] at h;cases h
  ·rw [if_neg h2] at h
   by_cases h3:dO b.T=true
   ·rw [if_pos h3] at h
    by_cases h4:bX b.Dims=0
    ·exact ⟨h1,by simpa using h2,h4⟩
    ·rw [if_neg h4] at h;exact absurd h h4
   ·rw [if_neg h3] at h;cases h
 ·rw [if_neg h1] at h;cases h
theorem zNj {n:Ns} (h:(bZ n).2=0):dC [] n.Bufs=0/\n.Bufs.length<=128/\bV 40 n.Body=true/\jI n.Body 2000<=2000/\(dR n.Bufs [] [] [] 0 n.Body).E=0:=by
 unfold bZ at h
 by_cases h1:bV 40 n.Body=true
 ·rw [if_pos h1] at h
  by_cases h2:2000<jI n.Body 2000∨128<n.Bufs.length
  ·rw [if_pos h2] at h;cases h
  ·rw [if_neg h2] at h
   by_cases h3:dC [] n.Bufs=0
   ·rw [if_pos h3] at h;exact ⟨h3,by omega,h1,by omega,h⟩
   ·rw [if_neg h3] at h;exact absurd h h3
 ·rw [if_neg h1] at h;cases h
theorem zGt {n:Ns} (h:(bZ n).2=0):dW (bE n)=0:=by
 have hb:=(zNj h).1
 have key:∀k,k<=n.Bufs.length->dW (bE n)=fW ((bE n).take k) ((bE n).drop k):=by
  intro k
  induction k with
  |zero=>intro _;rfl
  |succ k ih=>
   intro hk
   obtain ⟨b,hbk⟩:=qU n.Bufs k (by omega)
   have hl:(bE n)[k]? =some (fD n.Body b):=by unfold bE;rw [List.getElem?_map,hbk];rfl
   obtain ⟨q1,q2,q3⟩:=bfErr_inv (bufs_in hb k b hbk)
   obtain ⟨p1,p2,_⟩:=lifeOf_ok n.Body b
   refine valid_ok (ih (by omega)) hl (check_ok q1 ?_ ?_)
   ·have e:((bE n).take k)=(n.Bufs.take k).map (fD n.Body):=by unfold bE;rw [List.map_take]
    rw [e,List.any_map]
    rw [List.nil_append] at q2
    exact q2
   ·obtain ⟨_,_,s,hs,s1,s2⟩:=zDw q3
    have hsz:(fD n.Body b).Size=s:=by show dJ b.Dims=s;exact zEp q3 hs
    rw [hsz];omega
 have:=key n.Bufs.length (Nat.le_refl _)
 exact valid_end this (by unfold bE;simp)
end Go.Br
end
section
namespace Go.Br
open Go Go.Eng Go.L41
/-! ## Statements in preorder,with their paths -/
end Go.Br
end
section
namespace Go.Br
open Go Go.Eng Go.L41
/-! ## Numerals -/
end Go.Br
end
section
namespace Go.Br
open Go Go.Eng Go.L41
/-! ## Sets of names -/
end Go.Br
end
section
namespace Go.Br
open Go Go.Eng Go.L41
/-! ## One form: a name for a name -/
theorem zJd {B:List Bf} {sc:List ByteArray}:∀{l:List Ex},dD B sc l=0↔∀x,x∈l->gL B sc x=0
 |[]=>by simp [dD]
 |x::r=>by
  rw [dD]
  by_cases h:gL B sc x=0
  ·rw [if_pos h,zJd (l:=r)];simp [h]
  ·rw [if_neg h];simp [h]
theorem zKx {B:List Bf} {sc:List ByteArray} {e:Ex} (h:(bW B sc e).2=0):fQ e=0/\dD B sc (bF e)=0:=by
 by_cases h1:fQ e=0
 ·by_cases h2:dD B sc (bF e)=0
  ·exact ⟨h1,h2⟩
  ·rw [exprT_2 h1 h2] at h;exact absurd h h2
 ·rw [exprT_1 h1] at h;exact absurd h h1
theorem zKh {n:Ns} (h:(bZ n).2=0):bV 40 n.Body=true/\¬(2000<jI n.Body 2000∨128<n.Bufs.length)/\dC [] n.Bufs=0/\(dR n.Bufs [] [] [] 0 n.Body).E=0:=by
 have h1:bV 40 n.Body=true:=by
  cases c:bV 40 n.Body with
  |true=>rfl
  |false=>rw [zQz c] at h;cases h
 have h2:¬(2000<jI n.Body 2000∨128<n.Bufs.length):=fun c=>by rw [validN_2 h1 c] at h;cases h
 have h3:dC [] n.Bufs=0:=by
  by_cases c:dC [] n.Bufs=0
  ·exact c
  ·rw [validN_b h1 h2 c] at h;exact absurd h c
 rw [zPj h1 h2 h3] at h
 exact ⟨h1,h2,h3,h⟩
end Go.Br
end
