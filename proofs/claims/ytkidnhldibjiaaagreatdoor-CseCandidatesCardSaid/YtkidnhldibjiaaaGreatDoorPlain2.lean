/-
  Sorting and thinning of lists of strings that are the call's own: slices.Sort and slices.Compact,by the shelf's contracts.
  The names that an expression reads,in plain Lean.
  Layer 17 in plain Lean: a valid program without its last definitions; what a definition reads.
  Sums of linear forms,exactly,in plain Lean: numbers of 64 and of 128 bits,merges of ascending lists,substitution.
  The reference's substitution of forms,in plain Lean: the sum,and the mapping of all forms of an expression.
  What the substitution of a form keeps,in plain Lean: valid forms stay valid,the name is gone,the shape of an expression stays.
  The comparison of expressions is a total order,in plain Lean.
  Layer 14 in plain Lean: short names,replacing,the names in forms,the example that every statement checks.
  Layer 14 in plain Lean: what the statement on elimination asks of a substitution.
  Layer 14 in plain Lean: what the statement on walks asks; and four pieces of memory at once.
  Layer 22,the conjuncts of a condition,in plain Lean.
  Layer 22,the replacing of a reduction axis,in plain Lean.
  Layer 22,the replacing of a reduction axis,in plain Lean: the whole chain,and what it needs of what it meets.
  Ascending lists of names,one name added at a time,in plain Lean.
  Names of index variables: both ways to list them give the same names.
  Forward differentiation in plain Lean: the tangent of an expression,what is read,what is lost.
  Forward differentiation of programs in plain Lean; a program with tangents keeps what the original one has.
  Conditions: none.
-/
import Derived.Test.YtkidnhldibjiaaaGreatDoorCfg
import Derived.Test.YtkidnhldibjiaaaGreatDoorEngZ
import Derived.Test.YtkidnhldibjiaaaGreatDoorShelfX
import Derived.Sort.OwnSorted
import Derived.Lib.OwnBridge
import Derived.Test.YtkidnhldibjiaaaGreatDoorPlain
set_option linter.unusedSimpArgs false
set_option linter.unusedVariables false
section
namespace Go.Br
open Go Go.Eng Go.RowKit Go.Proofs Go.L41
abbrev strRows (l:List ByteArray):List (List C):=l.map fun s=>[cS s]
def toB (l:List (List UInt8)):List ByteArray:=l.map fun x=>⟨x.toArray⟩
def ofB (l:List ByteArray):List (List UInt8):=l.map (·.data.toList)
def sortB (l:List ByteArray):List ByteArray:=toB ((ofB l).mergeSort fun x y=>decide (x<=y))
def thinB (l:List ByteArray):List ByteArray:=toB (Lib.compact (ofB l))
theorem ofB_enc (l:List ByteArray):(ofB l).map encStr=l.map Value.string:=Lib.map_encStr l
theorem toB_enc (l:List (List UInt8)):l.map encStr=(toB l).map Value.string:=by
 unfold toB;rw [List.map_map];rfl
theorem sortB_len (l:List ByteArray):(sortB l).length=l.length:=by simp [sortB,toB,ofB,List.length_mergeSort]
theorem flat_str (l:List ByteArray):(strRows l).flatten=l.map fun s=>cS s:=by
 induction l with
 |nil=>rfl
 |cons x r ih=>show cS x::(strRows r).flatten=_;rw [ih];rfl
theorem reps_str {w:World} {I:Nat->Prop}:∀{l:List ByteArray} {xs:List Value},CReps w I (l.map fun s=>cS s) xs->xs=l.map Value.string
 |[],_,.nil=>rfl
 |x::l,_,.cons h t=>by
  have e:=reps_str t
  cases h with
  |lit _ _=>rw [e];rfl
theorem str_reps {w:World} {I:Nat->Prop}:∀l:List ByteArray,CReps w I (l.map fun s=>cS s) (l.map Value.string)
 |[]=>.nil
 |x::l=>.cons (.lit _ rfl) (str_reps l)
theorem rep_str {w:World} {I:Nat->Prop} {sv:Value} {t:TypeId} {l:List ByteArray} (h:w.ownsRow 0 t 1 sv l.length (l.map Value.string)) (hb:svB sv≠[]):ERep w I (.vec sv t 1 (strRows l)):=by
 refine .inr ⟨hb,l.map Value.string,?_,?_,fun r hr=>?_⟩
 ·rw [show (strRows l).length=l.length by simp];exact h
 ·rw [flat_str];exact str_reps l
 ·obtain ⟨x,_,rfl⟩:=List.mem_map.1 hr;rfl
theorem zNz {w:World} {I:Nat->Prop} {sv:Value} {t:TypeId} {l:List ByteArray} (h:ERep w I (.vec sv t 1 (strRows l))):(∃a,sv=.slice a 0 0/\l=[])∨(svB sv≠[]/\w.ownsRow 0 t 1 sv l.length (l.map Value.string)):=by
 rcases h with ⟨a,h1,h2⟩|⟨h1,xs,h2,h3,h4⟩
 ·exact .inl ⟨a,h1,by simpa using h2⟩
 ·rw [flat_str] at h3
  rw [reps_str h3,show (strRows l).length=l.length by simp] at h2
  exact .inr ⟨h1,h2⟩
theorem sort_con (sv:Value) (l:List ByteArray) (hl:l.length<=4294967296):Con cfg 238 [.c (.lit sv)] [.vec sv 9 1 (strRows l)] fun r μ'=>r=.tup []/\μ'=[.vec sv 9 1 (strRows (sortB l))]:=by
 intro w I vs hH ha
 match vs,ha with
 |[v],ha=>
  have e:v=sv:=by cases (ha.1:CRep w I (.lit sv) v) with|lit _ _=>rfl
  subst e
  have hrep:=hH.rep _ (List.mem_singleton.2 rfl)
  rcases zNz hrep with ⟨a,rfl,rfl⟩|⟨hb,hown⟩
  ·refine (Tryz.slices_Sort_string_none a 0 w).mono ?_
   rintro en w' ⟨rfl,rfl⟩
   have e2:sortB []=[]:=by simp [sortB,ofB,toB]
   refine ⟨_,_,_,I,rfl,⟨rfl,by rw [e2]⟩,⟨[],rfl,trivial⟩,hH,Ext.refl _ _ _⟩
  ·have hne:v≠ .slice none 0 0:=by rintro rfl;exact hb rfl
   have hown':=hown
   rw [←ofB_enc] at hown'
   obtain ⟨g,cap,rfl,hbg,hgl,hncap,hcm,hlen,hHo⟩:=Lib.holds_of_ownsRow hown' hne
   obtain ⟨_,hcase⟩:=hown
   rcases hcase with ⟨h0,_⟩|⟨g',cap',cur,hv,_,hcur,hn2,hm2,hcs,htk⟩
   ·exact absurd h0 hne
   ·injection hv with e1 e2 e3
    injection e1 with e1
    injection e1 with e1 _ _
    subst e1 e3
    have hss:(ofB l).length=l.length:=by simp [ofB]
    have hcall:=Tryz.slices_Sort_string g 0 cap (ofB l) w hHo hgl (by omega)
    rw [hss] at hcall
    refine hcall.mono ?_
    rintro en w' ⟨rfl,n,os,rfl⟩
    have hts:((ofB l).mergeSort fun x y=>decide (x<=y)).length=(ofB l).length:=List.length_mergeSort _
    have hs:=ownsRow_sorted (n:=n) (os:=os) (ts:=(ofB l).mergeSort fun x y=>decide (x<=y)) hts (Nat.zero_le g) hcur (by omega) hm2 hcs
    rw [toB_enc,hss] at hs
    have hlen2:(sortB l).length=l.length:=by simp [sortB,toB,hts,hss]
    have hgr:=grownBy_sorted (w:=w) (g:=g) (n:=n) (os:=os) ((ofB l).mergeSort fun x y=>decide (x<=y)).toArray
    have hrep2:ERep (Sort.grow (Sort.putRow encStr (Sort.ahead w n) g 0 ((ofB l).mergeSort fun x y=>decide (x<=y)).toArray) os) I (.vec (.slice (some ⟨g,0,none⟩) l.length cap) 9 1 (strRows (sortB l))):=by
     refine rep_str ?_ hb
     rw [hlen2];exact hs
    obtain ⟨hH',hx'⟩:=Heap.write (w':=Sort.grow (Sort.putRow encStr (Sort.ahead w n) g 0 ((ofB l).mergeSort fun x y=>decide (x<=y)).toArray) os) hH (p:=0) (en:=.vec (.slice (some ⟨g,0,none⟩) l.length cap) 9 1 (strRows l)) (en':=.vec (.slice (some ⟨g,0,none⟩) l.length cap) 9 1 (strRows (sortB l))) rfl hgr.os hgr.tape hgr.output hgr.size
     (fun b hb1 hb2=>hgr.block b hb1 (fun e=>by
      injection e with e
      apply hb2
      have hin:svB (.slice (some ⟨g,0,none⟩) l.length cap)≠[]:=hb
      subst e
      exact zLp hin rfl)) (by have h:=hH.nodup;simp only [blocksOf,List.flatMap_cons,List.flatMap_nil,List.append_nil] at h;exact h) (fun b h=>.inl h) trivial hrep2
    exact ⟨_,_,_,I,rfl,⟨rfl,rfl⟩,⟨[],rfl,trivial⟩,hH',hx'⟩
theorem thin_con (sv:Value) (l:List ByteArray) (hl:l.length<=4294967296):Con cfg 239 [.c (.lit sv)] [.vec sv 9 1 (strRows l)] fun r μ'=>∃sv',r=.c (.lit sv')/\μ'=[.vec sv' 9 1 (strRows (thinB l))]:=by
 intro w I vs hH ha
 match vs,ha with
 |[v],ha=>
  have e:v=sv:=by cases (ha.1:CRep w I (.lit sv) v) with|lit _ _=>rfl
  subst e
  have hrep:=hH.rep _ (List.mem_singleton.2 rfl)
  rcases zNz hrep with ⟨a,rfl,rfl⟩|⟨hb,hown⟩
  ·refine (Tryz.slices_Compact_string_empty a 0 w).mono ?_
   rintro en w' ⟨rfl,rfl⟩
   have e2:thinB []=[]:=by simp [thinB,ofB,toB,Lib.compact,Lib.compactUpTo]
   exact ⟨_,_,_,I,rfl,⟨_,rfl,by rw [e2]⟩,CRep.lit _ rfl,hH,Ext.refl _ _ _⟩
  ·have hne:v≠ .slice none 0 0:=by rintro rfl;exact hb rfl
   have hown':=hown
   rw [←ofB_enc] at hown'
   obtain ⟨g,cap,rfl,hbg,hgl,hncap,hcm,hlen,hHo⟩:=Lib.holds_of_ownsRow hown' hne
   have hss:(ofB l).length=l.length:=by simp [ofB]
   have hcall:=Tryz.slices_Compact_string g 0 cap (ofB l) w hHo (by omega) (by omega)
   rw [hss] at hcall
   refine hcall.mono ?_
   rintro en w' ⟨rfl,q,hw'⟩
   have hcl:=Lib.compact_length_le (ofB l)
   have hs:=Lib.ownsRow_putRow (q:=q) (k:=(Lib.compact (ofB l)).length) (ys:=Lib.compact (ofB l)++List.replicate (l.length-(Lib.compact (ofB l)).length) []) hown' (by simp;omega) (by omega)
   rw [List.take_left' rfl,toB_enc,←hw'] at hs
   have hlen2:(thinB l).length=(Lib.compact (ofB l)).length:=by simp [thinB,toB]
   have hgr:=grownBy_sorted (w:=w) (g:=g) (n:=q) (os:= #[]) (Lib.compact (ofB l)++List.replicate (l.length-(Lib.compact (ofB l)).length) []).toArray
   rw [Sort.grow_empty,←hw'] at hgr
   clear hw' hown' hHo hcall
   obtain ⟨c,hc⟩:∃c,cap=c+1:=by
    cases cap with
    |zero=>exact absurd rfl hb
    |succ c=>exact ⟨c,rfl⟩
   subst hc
   have hrep2:ERep w' I (.vec (.slice (some ⟨g,0,none⟩) (Lib.compact (ofB l)).length (c+1)) 9 1 (strRows (thinB l))):=by
    refine rep_str ?_ (by simp [svB])
    rw [hlen2];exact hs
   obtain ⟨hH',hx'⟩:=Heap.write (w':=w') hH (p:=0) (en:=.vec (.slice (some ⟨g,0,none⟩) l.length (c+1)) 9 1 (strRows l)) (en':=.vec (.slice (some ⟨g,0,none⟩) (Lib.compact (ofB l)).length (c+1)) 9 1 (strRows (thinB l))) rfl hgr.os hgr.tape hgr.output hgr.size
    (fun b hb1 hb2=>hgr.block b hb1 (fun e=>by
     injection e with e
     apply hb2
     have hin:svB (.slice (some ⟨g,0,none⟩) l.length (c+1))≠[]:=hb
     subst e
     exact zLp hin rfl)) (by simp [E.blocks,svB]) (fun b h=>.inl h) trivial hrep2
   exact ⟨_,_,_,I,rfl,⟨_,rfl,rfl⟩,CRep.lit _ rfl,hH',hx'⟩
end Go.Br
end
section
namespace Go.Br
open Go Go.Eng Go.L41
def fromX (x:Ix):List ByteArray:=if x.From=bs [] then [] else [x.From]
def readsI (l:List Ix):List ByteArray:=l.flatMap fromX
def opRead (x:Ex):List ByteArray:=if x.Op=3 then [x.Name] else []
def readsN (x:Ex):List ByteArray:=opRead x++readsI x.Idx
def readsA (l:List Ex):List ByteArray:=l.flatMap readsN
def readsT (e:Ex):List ByteArray:=thinB (sortB (readsA (nodes e)))
theorem mem_toB {s:ByteArray} {l:List (List UInt8)}:s∈toB l↔s.data.toList∈l:=by
 unfold toB
 rw [List.mem_map]
 constructor
 ·rintro ⟨x,hx,rfl⟩;simpa using hx
 ·intro h;exact ⟨_,h,by cases s;simp⟩
theorem mem_ofB {s:ByteArray} {l:List ByteArray}:s.data.toList∈ofB l↔s∈l:=by
 unfold ofB
 rw [List.mem_map]
 constructor
 ·rintro ⟨x,hx,e⟩
  have:x=s:=by cases x;cases s;congr 1;exact Array.toList_inj.1 e
  rw [←this];exact hx
 ·intro h;exact ⟨s,h,rfl⟩
theorem zOx {s:ByteArray} {l:List ByteArray}:s∈sortB l↔s∈l:=by
 unfold sortB;rw [mem_toB,List.mem_mergeSort,mem_ofB]
theorem mem_thinB {s:ByteArray} {l:List ByteArray} (h:s∈thinB l):s∈l:=by
 unfold thinB at h
 rw [mem_toB] at h
 rw [←mem_ofB]
 unfold Lib.compact Lib.compactUpTo at h
 obtain ⟨i,hi,e⟩:=List.mem_map.1 h
 have hi2:=(List.mem_filter.1 hi).1
 have hlt:=List.mem_range.1 hi2
 rw [←e,getElem!_pos _ i (by simpa using hlt)]
 simp
theorem mem_readsT {s:ByteArray} {e:Ex} (h:s∈readsT e):∃x,x∈nodes e/\((x.Op=3/\s=x.Name)∨∃i,i∈x.Idx/\i.From≠bs []/\s=i.From):=by
 unfold readsT at h
 have h:=zOx.1 (mem_thinB h)
 obtain ⟨x,hx,h⟩:=List.mem_flatMap.1 h
 refine ⟨x,hx,?_⟩
 unfold readsN at h
 rcases List.mem_append.1 h with h|h
 ·left;unfold opRead at h;split at h
  ·rename_i h3;exact ⟨h3,by simpa using h⟩
  ·cases h
 ·right
  obtain ⟨i,hi,h⟩:=List.mem_flatMap.1 h
  unfold fromX at h
  split at h
  ·cases h
  ·rename_i h3;exact ⟨i,hi,h3,by simpa using h⟩
end Go.Br
end
section
namespace Go.Br
open Go Go.Eng Go.L41
/-! ## More definitions -/
theorem findD_take {s:ByteArray}:∀(l:List Df) (k:Nat),(findD s (l.take k)).ok=true->findD s l=findD s (l.take k)
 |[],k,h=>by simp
 |d::r,0,h=>by simp [findD] at h
 |d::r,k+1,h=>by
  rw [List.take_succ_cons] at h⊢
  unfold findD at h⊢
  by_cases c:d.Name=s
  ·rw [decide_eq_true c];rfl
  ·rw [decide_eq_false c] at h⊢
   exact findD_take r k h
theorem findP_take {s:ByteArray} {ds:List Df} {k:Nat}:∀(l:List Pm),(findP s (ds.take k) l).ok=true->findP s ds l=findP s (ds.take k) l
 |[],h=>findD_take ds k h
 |x::r,h=>by
  unfold findP at h⊢
  by_cases c:x.Name=s
  ·rw [decide_eq_true c];rfl
  ·rw [decide_eq_false c] at h⊢
   exact findP_take r h
theorem findD_mem {s:ByteArray}:∀(l:List Df),(findD s l).ok=true->∃d,d∈l/\d.Name=s
 |[],h=>by simp [findD] at h
 |d::r,h=>by
  unfold findD at h
  by_cases c:d.Name=s
  ·exact ⟨d,by simp,c⟩
  ·rw [decide_eq_false c] at h
   obtain ⟨y,hy,e⟩:=findD_mem r h
   exact ⟨y,by simp [hy],e⟩
theorem findP_mem {s:ByteArray} {ds:List Df}:∀(l:List Pm),(findP s ds l).ok=true->(∃x,x∈l/\x.Name=s)∨∃d,d∈ds/\d.Name=s
 |[],h=>.inr (findD_mem ds h)
 |x::r,h=>by
  unfold findP at h
  by_cases c:x.Name=s
  ·exact .inl ⟨x,by simp,c⟩
  ·rw [decide_eq_false c] at h
   rcases findP_mem r h with ⟨y,hy,e⟩|h2
   ·exact .inl ⟨y,by simp [hy],e⟩
   ·exact .inr h2
def More (a b:En):Prop:=∀s,(a.find s).ok=true->b.find s=a.find s
theorem indexK_more {a b:En} (h:More a b) {k:ByteArray->Bool} {x:Ix} (hx:indexK a k x=0):indexK b k x=0:=by
 unfold indexK at hx⊢
 by_cases c:x.From=bs []
 ·rw [decide_eq_true c] at hx⊢;exact hx
 ·rw [decide_eq_false c] at hx⊢
  cases c2:(a.find x.From).ok with
  |false=>rw [c2] at hx;simp at hx
  |true=>rw [h _ c2];exact hx
theorem zPe {a b:En} (h:More a b) {k:ByteArray->Bool}:∀l:List Ix,indexL a k l=0->indexL b k l=0
 |[],_=>rfl
 |x::r,hx=>by
  unfold indexL at hx⊢
  by_cases c:indexK a k x=0
  ·rw [decide_eq_true c] at hx
   rw [decide_eq_true (indexK_more h c)]
   exact zPe h r hx
  ·rw [decide_eq_false c] at hx
   exact absurd hx c
theorem readK_of {a:En} {k:ByteArray->Bool} {e:Ex} (hx:(readK a k e).2=0):(a.find e.Name).ok=true/\e.Idx.length=(a.find e.Name).dims.length/\indexL a k e.Idx=0:=by
 unfold readK at hx
 cases c:(a.find e.Name).ok with
 |false=>rw [c] at hx;simp at hx
 |true=>
  rw [c] at hx
  by_cases c2:e.Idx.length=(a.find e.Name).dims.length
  ·rw [decide_eq_true c2] at hx
   by_cases c3:indexL a k e.Idx=0
   ·exact ⟨rfl,c2,c3⟩
   ·rw [decide_eq_false c3] at hx;exact absurd hx c3
  ·rw [decide_eq_false c2] at hx;simp at hx
theorem readK_more {a b:En} (h:More a b) {k:ByteArray->Bool} {e:Ex} (hx:(readK a k e).2=0):readK b k e=readK a k e:=by
 obtain ⟨h1,h2,h3⟩:=readK_of hx
 have e1:=h _ h1
 rw [readK_0 h1 h2 h3,readK_0 (by rw [e1];exact h1) (by rw [e1];exact h2) (zPe h _ h3),e1]
theorem ofN_more {a b:En} (h:More a b) {k:ByteArray->Bool} {e:Ex} {l:List Ty} (hx:(ofN a k e l).2=0):ofN b k e l=ofN a k e l:=by
 unfold ofN at hx⊢
 by_cases c1:e.Op=1∨e.Op=12
 ·rw [if_pos c1,if_pos c1]
 rw [if_neg c1] at hx⊢
 rw [if_neg c1]
 by_cases c2:e.Op=2
 ·rw [if_pos c2,if_pos c2]
 rw [if_neg c2] at hx⊢
 rw [if_neg c2]
 by_cases c3:e.Op=3
 ·rw [if_pos c3] at hx⊢
  rw [if_pos c3]
  exact readK_more h hx
 ·rw [if_neg c3,if_neg c3]
mutual
theorem nodeT_more {a b:En} (h:More a b) (k:ByteArray->Bool):∀e:Ex,(nodeT (ofN a k) e).2=0->nodeT (ofN b k) e=nodeT (ofN a k) e
 |.mk o nm v t l i xs,hx=>by
  rw [nodeT] at hx⊢
  rw [nodeT]
  by_cases c:(nodeL (ofN a k) xs).2=0
  ·rw [if_pos c] at hx⊢
   rw [nodeL_more h k xs c,if_pos c]
   exact ofN_more h hx
  ·rw [if_neg c] at hx;exact absurd hx c
theorem nodeL_more {a b:En} (h:More a b) (k:ByteArray->Bool):∀l:List Ex,(nodeL (ofN a k) l).2=0->nodeL (ofN b k) l=nodeL (ofN a k) l
 |[],_=>rfl
 |x::r,hx=>by
  rw [nodeL] at hx⊢
  rw [nodeL]
  by_cases c:(nodeT (ofN a k) x).2=0
  ·rw [if_pos c] at hx⊢
   by_cases d:(nodeL (ofN a k) r).2=0
   ·rw [nodeT_more h k x c,nodeL_more h k r d,if_pos c]
   ·rw [if_neg d] at hx;exact absurd hx d
  ·rw [if_neg c] at hx;exact absurd hx c
end
theorem zEb {n:En} {vars:List ByteArray} {e:Ex} (h:(typeT n vars e).2=0):validE e=0/\isCond e=false/\(nodeT (ofN n (knB n.sz vars)) e).2=0:=by
 unfold typeT typeBy at h
 by_cases c:validE e=0
 ·rw [if_pos c] at h
  by_cases d:isCond e=true
  ·rw [if_pos d] at h;cases h
  ·rw [if_neg d] at h
   by_cases f:(nodeT (ofN n (knB n.sz vars)) e).2=0
   ·exact ⟨c,by simpa using d,f⟩
   ·rw [if_neg f] at h;exact absurd h f
 ·rw [if_neg c] at h;exact absurd h c
theorem typeT_more {a b:En} (h:More a b) (hs:b.sz=a.sz) {vars:List ByteArray} {e:Ex} (hx:(typeT a vars e).2=0):typeT b vars e=typeT a vars e:=by
 obtain ⟨h1,h2,h3⟩:=zEb hx
 rw [typeT_of rfl h1 h2,typeT_of rfl h1 h2,hs,nodeT_more h _ e h3]
/-! ## What an expression reads is found -/
theorem nodeT_all (N:Ex->List Ty->Ty×Int) (e:Ex):(nodeT N e).2=0->∀x,x∈nodes e->∃l,(N x l).2=0:=by
 induction e using Ex.ind with
 |_ e ih=>
  intro h x hx
  rw [zMy] at h
  by_cases c:(nodeL N e.Args).2=0
  ·rw [if_pos c] at h
   rw [kH] at hx
   rcases List.mem_cons.1 hx with rfl|hx
   ·exact ⟨_,h⟩
   ·have key:∀l:List Ex,(∀a,a∈l->a∈e.Args)->(nodeL N l).2=0->x∈nodesL l->∃t,(N x t).2=0:=by
     intro l
     induction l with
     |nil=>intro _ _ h;simp [nodesL] at h
     |cons a r ih2=>
      intro hm hl hx
      rw [nodeL] at hl
      by_cases c1:(nodeT N a).2=0
      ·rw [if_pos c1] at hl
       by_cases c2:(nodeL N r).2=0
       ·rw [nodesL] at hx
        rcases List.mem_append.1 hx with hx|hx
        ·exact ih a (hm a (by simp)) c1 x hx
        ·exact ih2 (fun b hb=>hm b (by simp [hb])) c2 hx
       ·rw [if_neg c2] at hl;exact absurd hl c2
      ·rw [if_neg c1] at hl;exact absurd hl c1
    exact key e.Args (fun _ h=>h) c hx
  ·rw [if_neg c] at h;exact absurd h c
theorem indexL_of {a:En} {k:ByteArray->Bool}:∀l:List Ix,indexL a k l=0->∀x,x∈l->x.From≠bs []->(a.find x.From).ok=true
 |[],_,x,hx,_=>by cases hx
 |y::r,h,x,hx,hf=>by
  unfold indexL at h
  by_cases c:indexK a k y=0
  ·rw [decide_eq_true c] at h
   rcases List.mem_cons.1 hx with rfl|hx
   ·unfold indexK at c
    rw [decide_eq_false hf] at c
    cases d:(a.find x.From).ok with
    |true=>rfl
    |false=>rw [d] at c;simp at c
   ·exact indexL_of r h x hx hf
  ·rw [decide_eq_false c] at h;exact absurd h c
theorem reads_found {n:En} {vars:List ByteArray} {e:Ex} (h:(typeT n vars e).2=0):∀s,s∈readsT e->(n.find s).ok=true:=by
 intro s hs
 obtain ⟨h1,h2,h3⟩:=zEb h
 obtain ⟨x,hx,hr⟩:=mem_readsT hs
 obtain ⟨l,hl⟩:=nodeT_all _ e h3 x hx
 have hn:=zGi (zBy h1) x hx
 have hsy:=(zJg hn).1
 by_cases c:x.Op=3
 ·rw [zJe c] at hl
  obtain ⟨k1,_,k3⟩:=readK_of hl
  rcases hr with ⟨_,rfl⟩|⟨i,hi,hf,rfl⟩
  ·exact k1
  ·exact indexL_of _ k3 i hi hf
 ·have h0:x.Idx.length=0:=by
   unfold synOk at hsy
   simp only [Bool.and_eq_true,Bool.not_eq_true',Bool.and_eq_false_iff,Bool.not_eq_false',Bool.or_eq_false_iff,decide_eq_true_eq,decide_eq_false_iff_not] at hsy
   rcases hsy.1.2 with h|h
   ·exact absurd h c
   ·have:=h.2;omega
  rcases hr with ⟨h,_⟩|⟨i,hi,_,_⟩
  ·exact absurd h c
  ·have:=List.length_pos_of_mem hi;omega
theorem thinB_len (l:List ByteArray):(thinB l).length<=l.length:=by
 unfold thinB toB
 rw [List.length_map]
 unfold Lib.compact Lib.compactUpTo
 rw [List.length_map]
 refine Nat.le_trans (List.length_filter_le _ _) ?_
 simp [ofB]
theorem defsR_at (p:Pg):∀(l:List Df) (a:Int) (t:List ByteArray) (b:List Df),(defsR p a t b l).2=0->∀(i:Nat) (d:Df),l[i]? =some d->defR ⟨p.Sizes,p.Params,b++l.take i⟩ d (t++(l.take i).map Df.Name)=0
 |[],a,t,b,_,i,d,hd=>by simp at hd
 |x::r,a,t,b,h,i,d,hd=>by
  rw [defsR] at h
  by_cases c:defR ⟨p.Sizes,p.Params,b⟩ x t=0
  ·rw [if_pos c] at h
   cases i with
   |zero=>simp at hd;subst hd;simpa using c
   |succ i=>
    have:=defsR_at p r _ _ _ h i d (by simpa using hd)
    simpa [List.append_assoc] using this
  ·rw [if_neg c] at h;exact absurd h c
theorem zKr (p q:Pg) (hs:q.Sizes=p.Sizes):∀(l:List Pm) (a:Int) (t:List ByteArray),(paramsR p a t l).2=0->∃a',(defsR p a' (t++l.map Pm.Name) [] p.Defs).2=0/\paramsR q a t l=defsR q a' (t++l.map Pm.Name) [] q.Defs
 |[],a,t,h=>⟨a,by rw [paramsR] at h;simpa using h,by rw [paramsR];simp⟩
 |x::r,a,t,h=>by
  rw [paramsR] at h
  by_cases c:paramR x p.Sizes t=0
  ·rw [if_pos c] at h
   obtain ⟨a',h1,h2⟩:=zKr p q hs r _ _ h
   exact ⟨a',by simpa [List.append_assoc] using h1,by rw [paramsR,hs,if_pos c,h2];simp [List.append_assoc]⟩
  ·rw [if_neg c] at h;exact absurd h c
theorem validR_of {p:Pg} (h:(validR p).2=0):limitOk p/\sizesR [] p.Sizes=0/\whereR p.Sizes p.Where=0/\(paramsR p 2 p.Sizes p.Params).2=0:=by
 unfold validR at h
 by_cases c1:limitOk p
 ·rw [if_pos c1] at h
  by_cases c2:sizesR [] p.Sizes=0
  ·rw [if_pos c2] at h
   by_cases c3:whereR p.Sizes p.Where=0
   ·rw [if_pos c3] at h;exact ⟨c1,c2,c3,h⟩
   ·rw [if_neg c3] at h;exact absurd h c3
  ·rw [if_neg c2] at h;exact absurd h c2
 ·rw [if_neg c1] at h;cases h
theorem hasB_mem17 {l:List ByteArray} {s:ByteArray} (h:hasB l s=false):s ∉ l:=fun k=>by
 unfold hasB at h
 rw [List.any_eq_false] at h
 exact h s k (by simp)
theorem defR_of {n:En} {d:Df} {t:List ByteArray} (h:defR n d t=0):d.Name ∉ t/\typeT n (namesD d) d.Body=(d.T,0):=by
 have h1:nameR d.Name t=0:=Decidable.byContradiction fun c=>by rw [defR_1 c] at h;exact c h
 have h2:tyOk d.T=true:=by
  cases c:tyOk d.T with
  |true=>rfl
  |false=>rw [defR_10 h1 c] at h;cases h
 have h3:¬(6<d.Dims.length∨6<d.Red.length):=fun c=>by rw [defR_11 h1 h2 c] at h;cases h
 rw [defR_ok h1 h2 h3] at h
 have h4:axesR n.sz n.sz (d.Dims++d.Red)=0:=Decidable.byContradiction fun c=>by rw [if_neg c] at h;exact c h
 rw [if_pos h4] at h
 have h5:foldR d=0:=Decidable.byContradiction fun c=>by rw [if_neg c] at h;exact c h
 rw [if_pos h5,←typeT_R] at h
 unfold tyErrD at h
 have h6:(typeT n (namesD d) d.Body).2=0:=Decidable.byContradiction fun c=>by rw [if_neg c] at h;exact c h
 rw [if_pos h6] at h
 have h7:(typeT n (namesD d) d.Body).1=d.T:=Decidable.byContradiction fun c=>by rw [if_neg c] at h;cases h
 refine ⟨hasB_mem17 ?_,Prod.ext h7 h6⟩
 cases c:hasB t d.Name with
 |false=>rfl
 |true=>
  unfold nameR at h1
  by_cases c2:isNameB d.Name=true
  ·rw [if_pos c2,if_pos c] at h1;cases h1
  ·rw [if_neg c2] at h1;cases h1
theorem defOf_lt {s:ByteArray}:∀(l:List Df) (i:Nat),(∃d,d∈l.take i/\d.Name=s)->defOf s l<i
 |[],i,⟨d,hd,_⟩=>by simp at hd
 |x::r,0,⟨d,hd,_⟩=>by simp at hd
 |x::r,i+1,⟨d,hd,e⟩=>by
  unfold defOf idxOf
  by_cases c:x.Name=s
  ·rw [decide_eq_true c];show (0:Int)<_;omega
  ·rw [decide_eq_false c]
   have h2:defOf s r<i:=defOf_lt r i ⟨d,by
    rw [List.take_succ_cons] at hd
    rcases List.mem_cons.1 hd with rfl|hd
    ·exact absurd e c
    ·exact hd,e⟩
   unfold defOf at h2
   simp only [cond_false]
   by_cases c3:idxOf (fun d:Df=>decide (d.Name=s)) r= -1
   ·rw [decide_eq_true c3];show (-1:Int)<_;omega
   ·rw [decide_eq_false c3];show _+1<_;push_cast;omega
theorem zOh {p:Pg} (h:(validM p).2=0) {i:Nat} {d:Df} (hd:p.Defs[i]? =some d):typeT p.en (namesD d) d.Body=(d.T,0)/\defOf d.Name p.Defs=i/\∀s,s∈readsT d.Body->(p.en.find s).ok=true/\defOf s p.Defs<i:=by
 rw [zMo] at h
 obtain ⟨h1,h2,h3,h4⟩:=validR_of h
 obtain ⟨a',h5,_⟩:=zKr p p rfl p.Params _ _ h4
 have key:=defsR_at p p.Defs _ _ _ h5
 have names:∀j y,p.Defs[j]? =some y->y.Name ∉ (p.Sizes++p.Params.map Pm.Name)++(p.Defs.take j).map Df.Name:=fun j y hy=>(defR_of (key j y hy)).1
 obtain ⟨_,ht⟩:=defR_of (key i d hd)
 rw [List.nil_append] at ht
 have hm:More ⟨p.Sizes,p.Params,p.Defs.take i⟩ p.en:=fun s hs=>findP_take p.Params hs
 refine ⟨?_,?_,fun s hs=>?_⟩
 ·rw [typeT_more hm rfl (by rw [ht]),ht]
 ·refine zCx hd (by simp) ?_
  rw [List.any_eq_false]
  intro y hy e
  have e2:y.Name=d.Name:=by simpa using e
  exact names i d hd (by rw [←e2];exact List.mem_append.2 (.inr (List.mem_map.2 ⟨y,hy,rfl⟩)))
 ·have hf:=reads_found (n:=⟨p.Sizes,p.Params,p.Defs.take i⟩) (by rw [ht]) s hs
  refine ⟨by rw [hm s hf];exact hf,?_⟩
  rcases findP_mem p.Params hf with ⟨x,hx,e⟩|⟨y,hy,e⟩
  ·have:defOf s p.Defs= -1:=by
    refine zBm ?_
    rw [List.any_eq_false]
    intro y hy e2
    have e3:y.Name=s:=by simpa using e2
    obtain ⟨j,hj⟩:=List.getElem?_of_mem hy
    exact names j y hj (List.mem_append.2 (.inl (List.mem_append.2 (.inr (List.mem_map.2 ⟨x,hx,by rw [e,e3]⟩)))))
   rw [this];omega
  ·exact defOf_lt p.Defs i ⟨y,hy,e⟩
end Go.Br
end
section
namespace Go.Br
open Go Go.Eng Go.L41
/-! ## The order of names -/
theorem bl_cons (a b:UInt8) (x y:List UInt8):Op.bytesLess (a::x) (b::y)=true↔a<b∨(a=b/\Op.bytesLess x y=true):=by
 rw [Op.bytesLess]
 by_cases h1:a<b<;>by_cases h2:a=b<;>simp [h1,h2]
theorem bl_trans:∀(x y z:List UInt8),Op.bytesLess x y=true->Op.bytesLess y z=true->Op.bytesLess x z=true
 |[],[],_,h,_=>by simp [Op.bytesLess] at h
 |[],_::_,[],_,h=>by simp [Op.bytesLess] at h
 |[],_::_,_::_,_,_=>by simp [Op.bytesLess]
 |_::_,[],_,h,_=>by simp [Op.bytesLess] at h
 |_::_,_::_,[],_,h=>by simp [Op.bytesLess] at h
 |a::x,b::y,c::z,h,k=>by
  rw [bl_cons] at h k⊢
  rcases h with h|⟨rfl,h⟩
  ·rcases k with k|⟨rfl,k⟩
   ·exact .inl (UInt8.lt_trans h k)
   ·exact .inl h
  ·rcases k with k|⟨rfl,k⟩
   ·exact .inl k
   ·exact .inr ⟨rfl,bl_trans x y z h k⟩
theorem bl_tri:∀(x y:List UInt8),Op.bytesLess x y=false->Op.bytesLess y x=false->x=y
 |[],[],_,_=>rfl
 |[],_::_,h,_=>by simp [Op.bytesLess] at h
 |_::_,[],_,h=>by simp [Op.bytesLess] at h
 |a::x,b::y,h,k=>by
  have h1:¬Op.bytesLess (a::x) (b::y)=true:=by rw [h];simp
  have k1:¬Op.bytesLess (b::y) (a::x)=true:=by rw [k];simp
  rw [bl_cons] at h1 k1
  have e:a=b:=UInt8.le_antisymm (UInt8.not_lt.1 fun c=>k1 (.inl c)) (UInt8.not_lt.1 fun c=>h1 (.inl c))
  subst e
  have h2:Op.bytesLess x y=false:=by
   cases c:Op.bytesLess x y with
   |false=>rfl
   |true=>exact absurd (.inr ⟨rfl,c⟩) h1
  have k2:Op.bytesLess y x=false:=by
   cases c:Op.bytesLess y x with
   |false=>rfl
   |true=>exact absurd (.inr ⟨rfl,c⟩) k1
  rw [bl_tri x y h2 k2]
theorem bl_irr:∀(x:List UInt8),Op.bytesLess x x=false
 |[]=>by simp [Op.bytesLess]
 |a::x=>by
  cases c:Op.bytesLess (a::x) (a::x) with
  |false=>rfl
  |true=>
   rw [bl_cons] at c
   rcases c with c|⟨_,c⟩
   ·exact absurd c (UInt8.lt_irrefl a)
   ·rw [bl_irr x] at c;cases c
theorem zIw {a b:ByteArray} (h:strLt a b=false) (k:strLt b a=false):a=b:=by
 have h1:=bl_tri _ _ h k
 rw [ByteArray.toList_eq,ByteArray.toList_eq] at h1
 exact ByteArray.ext (Array.toList_inj.1 h1)
theorem zNq (a:ByteArray):strLt a a=false:=bl_irr _
theorem zDf {a b c:ByteArray} (h:strLt a b=true) (k:strLt b c=true):strLt a c=true:=bl_trans _ _ _ h k
/-! ## Numbers -/
def r64 (n:Int):Prop:= -9223372036854775808<=n/\n<=9223372036854775807
instance (n:Int):Decidable (r64 n):=by unfold r64;infer_instance
def hiN (a b:Nat):Nat:=
 (a/4294967296)*(b/4294967296)+((a/4294967296)*(b%4294967296)+((a%4294967296)*(b%4294967296))/4294967296)/4294967296+
  ((a%4294967296)*(b/4294967296)+((a/4294967296)*(b%4294967296)+((a%4294967296)*(b%4294967296))/4294967296)%4294967296)/4294967296
def Lf.rng (l:Lf):Prop:=r64 l.K/\∀m,m∈l.L->r64 m.By
end Go.Br
end
section
namespace Go.Br
open Go Go.Eng Go.L41
end Go.Br
end
section
namespace Go.Br
open Go Go.Eng Go.L41
/-! ## Ascending triples -/
theorem zOv:∀{q:ByteArray} {l:List Mono},monosOk (some q) l=true->∀m,m∈l->strLt q m.Name=true
 |_,[],_,m,hm=>by cases hm
 |q,x::r,h,m,hm=>by
  simp only [monosOk,Bool.and_eq_true] at h
  rcases List.mem_cons.1 hm with rfl|hm
  ·exact h.1.2
  ·exact zDf h.1.2 (zOv h.2 m hm)
def gIx (g:Lf->Lf) (x:Ix):Ix:=⟨g x.Lin,x.From,x.At.map g⟩
mutual
def gEx (g:Lf->Lf):Ex->Ex
 |.mk o n v t l i arg_=>.mk o n v t (g l) (i.map (gIx g)) (gExs g arg_)
def gExs (g:Lf->Lf):List Ex->List Ex
 |[]=>[]
 |a::r=>gEx g a::gExs g r
end
theorem gExs_map (g:Lf->Lf) (l:List Ex):gExs g l=l.map (gEx g):=by
 induction l with
 |nil=>rfl
 |cons a r ih=>rw [gExs,ih];rfl
theorem gEx_eq (g:Lf->Lf) (e:Ex):gEx g e=.mk e.Op e.Name e.Val e.Ty (g e.Lin) (e.Idx.map (gIx g)) (e.Args.map (gEx g)):=by
 cases e;rw [gEx,gExs_map];rfl
theorem nodes_allF {P:Lf->Prop} {e:Ex} (h1:∀l,l∈formsL e->P l) (h2:∀a,a∈e.Args->a.allF P):e.allF P:=by
 intro x hx
 rw [kH] at hx
 rcases List.mem_cons.1 hx with rfl|hx
 ·exact h1
 ·have:∀l:List Ex,(∀a,a∈l->a.allF P)->x∈nodesL l->∀y,y∈formsL x->P y:=by
   intro l
   induction l with
   |nil=>intro _ h;simp [nodesL] at h
   |cons a r ih=>
    intro h hm
    rw [nodesL] at hm
    rcases List.mem_append.1 hm with k|k
    ·exact h a (by simp) x k
    ·exact ih (fun b hb=>h b (by simp [hb])) k
  exact this e.Args h2 hx
theorem valid_lin {e:Ex} (h:validE e=0):e.allF fun l=>linOk l=true:=by
 intro x hx l hl
 have:=(zJg (zGi (zBy h) x hx)).2.2.2.2
 unfold formOk at this
 rw [Bool.and_eq_true] at this
 exact List.all_eq_true.1 this.2 l hl
/-! ## Weights -/
end Go.Br
end
section
namespace Go.Br
open Go Go.Eng Go.Proofs Go.L41
structure PO {α:Type} (f:α->α->Int) (a:α):Prop where
 anti:∀b,f b a= -f a b
 rng:∀b,-1<=f a b/\f a b<=1
 cong:∀b,f a b=0->∀c,f a c=f b c
 cong':∀b c,f b c=0->f a b=f a c
 trans:∀b c,f a b<0->f b c<0->f a c<0
theorem PO.zero {α:Type} (a:α):PO (fun _ _=>0) a:=
 ⟨fun _=>rfl,fun _=>⟨by show (-1:Int)<=0;omega,by show (0:Int)<=1;omega⟩,fun _ _ _=>rfl,fun _ _ _=>rfl,fun _ _ h _=>h⟩
end Go.Br
end
section
namespace Go.Br
open Go Go.Eng Go.L41
/-! ## Short names -/
theorem nodes_take {e x:Ex} {k:Nat} (h:e.Args[k]? =some x):(nodesL (e.Args.take k)).length+(nodes x).length+1<=(nodes e).length:=by
 have:=congrArg List.length (nodes_at h (x:=x) (pre:=[]) (suf:=nodesL x.Args) (by rw [kH];rfl))
 rw [kH x]
 simp only [List.length_append,List.length_cons,List.length_nil] at this⊢
 omega
/-! ## Replacing -/
def namesF (l:Lf):List ByteArray:=l.L.map Mono.Name
def namesN (x:Ex):List ByteArray:=(formsL x).flatMap namesF
def namesA (l:List Ex):List ByteArray:=l.flatMap namesN
def indexT (e:Ex):List ByteArray:=thinB (sortB (namesA (nodes e)))
theorem namesF_one (pre:List Lf) (x:Lf):(pre++[x]).flatMap namesF=pre.flatMap namesF++namesF x:=by rw [List.flatMap_append];simp
theorem zKz (pre:List Ex) (x:Ex):namesA (pre++[x])=namesA pre++namesN x:=by unfold namesA;rw [List.flatMap_append];simp
theorem zOu {l:List Mono} {k:Nat} {x:Mono} (h:l[k]? =some x):(l.take (k+1)).map Mono.Name=(l.take k).map Mono.Name++[x.Name]:=by rw [qM h,List.map_append];rfl
theorem namesN_len (x:Ex):(namesN x).length<=x.Lin.L.length+idxWt x.Idx:=by
 unfold namesN formsL
 rw [List.flatMap_cons,List.length_append]
 have h1:∀l:List Lf,(l.flatMap namesF).length=linsWt l:=by
  intro l
  induction l with
  |nil=>rfl
  |cons a r ih=>rw [List.flatMap_cons,List.length_append,ih,linsWt];unfold namesF;rw [List.length_map]
 have h2:∀l:List Ix,((l.flatMap fun x=>x.Lin::x.At).flatMap namesF).length<=idxWt l:=by
  intro l
  induction l with
  |nil=>simp [idxWt]
  |cons a r ih=>
   rw [List.flatMap_cons,List.flatMap_append,List.length_append,idxWt,h1,linsWt,Ix.wt]
   omega
 have:=h2 x.Idx
 have e:(namesF x.Lin).length=x.Lin.L.length:=by unfold namesF;rw [List.length_map]
 omega
theorem zGv (e:Ex):(namesA (nodes e)).length<=e.wt:=by
 induction e using Ex.ind with
 |_ e ih=>
  rw [kH,Ex.wt_eq]
  have e1:namesA (e::nodesL e.Args)=namesN e++namesA (nodesL e.Args):=rfl
  rw [e1,List.length_append]
  have h2:∀l:List Ex,(∀a,a∈l->(namesA (nodes a)).length<=a.wt)->(namesA (nodesL l)).length<=argsWt l:=by
   intro l
   induction l with
   |nil=>intro _;simp [namesA,nodesL,argsWt]
   |cons a r ih2=>
    intro h
    have h3:=h a (by simp)
    have h4:=ih2 fun b hb=>h b (by simp [hb])
    have e2:namesA (nodesL (a::r))=namesA (nodes a)++namesA (nodesL r):=by rw [nodesL];unfold namesA;rw [List.flatMap_append]
    rw [e2,List.length_append,argsWt];omega
  have h5:=h2 e.Args ih
  have h6:=namesN_len e
  omega
theorem namesP_len {e:Ex} {pre suf:List Ex} (h:nodes e=pre++suf):(namesA pre).length<=e.wt:=by
 have h1:=zGv e
 have e1:namesA (nodes e)=namesA pre++namesA suf:=by rw [h];unfold namesA;rw [List.flatMap_append]
 rw [e1,List.length_append] at h1;omega
theorem namesX_len {x:Ex} {pre suf:List Lf} (h:formsL x=pre++suf):(pre.flatMap namesF).length<=(namesN x).length:=by
 unfold namesN
 rw [h,List.flatMap_append,List.length_append];omega
end Go.Br
end
section
namespace Go.Br
open Go Go.Eng Go.L41
theorem indexT_len (e:Ex):(indexT e).length<=e.wt:=by
 unfold indexT
 have h1:=thinB_len (sortB (namesA (nodes e)))
 rw [sortB_len] at h1
 have:=zGv e
 omega
end Go.Br
end
section
namespace Go.Br
open Go Go.Eng Go.L41
theorem mem4_eq {e1 e2:E} {sv:Value} {t u:TypeId} {n b:Nat} {rows rows':List (List C)} {cs:List C} {bμ:List E} (h:rows=rows'):e1::e2::E.vec sv t n rows::E.row b u cs::bμ=[e1,e2,E.vec sv t n rows',E.row b u cs]++bμ:=by rw [h];rfl
end Go.Br
end
section
namespace Go.Br
open Go Go.Eng Go.L41
structure Gd where
 conds:List Ex
 val:Ex
 ok:Bool
end Go.Br
end
section
namespace Go.Br
open Go Go.Eng Go.L41
def Df.okC (d:Df):Prop:=d.Dims.length<=1073741824/\d.Red.length<=1073741824/\(∀a,a∈d.Dims->a.Size.L.length<=5864062014805)/\(∀a,a∈d.Red->a.Size.L.length<=5864062014805)/\d.Body.allF (fun l=>l.L.length<=5864062014805)/\d.Body.cnt<=4294967296
structure Pg.OkC (p:Pg):Prop where
 sizes:p.Sizes.length<=4294967296
 wh:p.Where.length<=4294967296
 params:p.Params.length<=4294967296
 defs:p.Defs.length<=4294967296
 outs:p.Outs.length<=4294967296
 whs:∀c,c∈p.Where->c.Lin.L.length<=5864062014805
 ps:∀x,x∈p.Params->x.Dims.length<=4294967296/\∀l,l∈x.Dims->l.L.length<=5864062014805
 ds:∀d,d∈p.Defs->d.okC
theorem allF_wt {e:Ex} {B:Nat} (h:e.wt<=B):e.allF fun l=>l.L.length<=B:=fun x hx l hl=>forms_wt (Nat.le_trans (zAo e x hx) h) hl
end Go.Br
end
section
namespace Go.Br
open Go Go.Eng Go.L41
end Go.Br
end
section
namespace Go.Br
open Go Go.Eng Go.L41
def insW:List ByteArray->ByteArray->List ByteArray
 |[],s=>[s]
 |x::r,s=>if strLt x s=true then x::insW r s else if x=s then x::r else s::x::r
def insWs (l:List ByteArray) (m:List ByteArray):List ByteArray:=m.foldl insW l
def below (s:ByteArray) (x:ByteArray):Bool:=strLt x s
theorem insW_end:∀{l:List ByteArray} {s:ByteArray},l.all (below s)=true->insW l s=l++[s]
 |[],s,_=>rfl
 |x::r,s,h=>by
  simp only [List.all_cons,Bool.and_eq_true] at h
  rw [insW,if_pos (show strLt x s=true from h.1),insW_end h.2];rfl
theorem insW_is:∀{l:List ByteArray} {s:ByteArray} {k:Nat},(l.take k).all (below s)=true->l[k]? =some s->strLt s s=false->insW l s=l
 |[],s,k,_,h,_=>by simp at h
 |x::r,s,0,_,h,h2=>by
  have hx:x=s:=by simpa using h
  subst hx
  rw [insW,if_neg (by rw [h2];simp),if_pos rfl]
 |x::r,s,k+1,h0,h,h2=>by
  simp only [List.take_succ_cons,List.all_cons,Bool.and_eq_true] at h0
  rw [insW,if_pos (show strLt x s=true from h0.1),insW_is h0.2 (by simpa using h) h2]
theorem insW_mid:∀{l:List ByteArray} {s x:ByteArray} {k:Nat},(l.take k).all (below s)=true->l[k]? =some x->strLt x s=false->¬x=s->insW l s=l.take k++s::l.drop k
 |[],s,x,k,_,h,_,_=>by simp at h
 |y::r,s,x,0,_,h,h2,h3=>by
  have hx:y=x:=by simpa using h
  subst hx
  rw [insW,if_neg (by rw [h2];simp),if_neg h3];rfl
 |y::r,s,x,k+1,h0,h,h2,h3=>by
  simp only [List.take_succ_cons,List.all_cons,Bool.and_eq_true] at h0
  rw [insW,if_pos (show strLt y s=true from h0.1),insW_mid h0.2 (by simpa using h) h2 h3];rfl
theorem zGe (x:ByteArray) (r:List ByteArray) (s:ByteArray):hasB (x::r) s=(decide (x=s)||hasB r s):=rfl
theorem insW_has (t:ByteArray):∀(l:List ByteArray) (s:ByteArray),hasB (insW l s) t=(hasB l t||decide (s=t))
 |[],s=>by simp [insW,hasB]
 |x::r,s=>by
  rw [insW]
  split
  ·rw [zGe,zGe,insW_has t r s,Bool.or_assoc]
  ·split
   ·rename_i h;subst h;rw [zGe];cases decide (x=t)<;>simp
   ·rw [zGe s,Bool.or_comm]
theorem insWs_has (t:ByteArray):∀(m l:List ByteArray),hasB (insWs l m) t=(hasB l t||hasB m t)
 |[],l=>by simp [insWs,hasB]
 |x::m,l=>by
  have:=insWs_has t m (insW l x)
  unfold insWs at *
  rw [List.foldl_cons,this,insW_has,zGe,Bool.or_assoc]
theorem insW_len:∀(l:List ByteArray) (s:ByteArray),(insW l s).length<=l.length+1
 |[],s=>by simp [insW]
 |x::r,s=>by
  rw [insW]
  have:=insW_len r s
  split
  ·simp;omega
  ·split<;>simp
theorem zPc:∀(m l:List ByteArray),(insWs l m).length<=l.length+m.length
 |[],l=>by simp [insWs]
 |x::m,l=>by
  have h1:=zPc m (insW l x)
  have h2:=insW_len l x
  unfold insWs at *
  rw [List.foldl_cons,List.length_cons];omega
theorem zDt (l a b:List ByteArray):insWs l (a++b)=insWs (insWs l a) b:=by unfold insWs;rw [List.foldl_append]
theorem below_next {l:List ByteArray} {s x:ByteArray} {k:Nat} (h:l[k]? =some x) (hp:(l.take k).all (below s)=true) (hx:strLt x s=true):(l.take (k+1)).all (below s)=true:=by
 rw [qM h,List.all_append,hp];simp [below,hx]
def atB (l:List ByteArray) (k:Nat):ByteArray:=l.getD k (bs [])
theorem zQj {l:List ByteArray} {k:Nat} (h:k<l.length):l[k]? =some (atB l k):=by
 rw [List.getElem?_eq_getElem h];simp [atB,List.getD,List.getElem?_eq_getElem h]
theorem with_1t {l:List ByteArray} {k:Nat} {s:ByteArray} (c:(decide ((k:Int)<l.length)&&strLt (atB l k) s)=true):k<l.length/\strLt (atB l k) s=true:=by
 rw [Bool.and_eq_true,decide_eq_true_eq] at c;exact ⟨by omega,c.2⟩
theorem with_1f {l:List ByteArray} {k:Nat} {s:ByteArray} (c:(decide ((k:Int)<l.length)&&strLt (atB l k) s)=false):k<l.length->strLt (atB l k) s=false:=by
 intro h
 rw [decide_eq_true (show (k:Int)<l.length by omega),Bool.true_and] at c;exact c
theorem with_2t {l:List ByteArray} {k:Nat} {s:ByteArray} (c:(decide ((k:Int)<l.length)&&decide (atB l k=s))=true):k<l.length/\atB l k=s:=by
 rw [Bool.and_eq_true,decide_eq_true_eq,decide_eq_true_eq] at c;exact ⟨by omega,c.2⟩
theorem with_2f {l:List ByteArray} {k:Nat} {s:ByteArray} (c:(decide ((k:Int)<l.length)&&decide (atB l k=s))=false):k<l.length->¬atB l k=s:=by
 intro h
 rw [decide_eq_true (show (k:Int)<l.length by omega),Bool.true_and,decide_eq_false_iff_not] at c;exact c
theorem with_is {l:List ByteArray} {k:Nat} {s:ByteArray} (hp:(l.take k).all (below s)=true) (h1:k<l.length->strLt (atB l k) s=false) (h2:k<l.length/\atB l k=s):insW l s=l:=by
 have h3:=h1 h2.1
 rw [h2.2] at h3
 exact insW_is hp (by rw [zQj h2.1,h2.2]) h3
theorem with_new {l:List ByteArray} {k:Nat} {s:ByteArray} (hk:k<=l.length) (hp:(l.take k).all (below s)=true) (h1:k<l.length->strLt (atB l k) s=false) (h2:k<l.length->¬atB l k=s):insW l s=l.take k++s::l.drop k:=by
 by_cases h:k<l.length
 ·exact insW_mid hp (zQj h) (h1 h) (h2 h)
 ·have hkl:k=l.length:=by omega
  subst hkl
  rw [List.take_length] at hp⊢
  rw [insW_end hp,List.drop_length]
theorem zGx (m:List ByteArray):(insWs [] m).length<=m.length:=by have:=zPc m [];simpa using this
theorem zGz {l:List ByteArray} {s:ByteArray}:hasB l s=true↔s∈l:=by
 unfold hasB;rw [List.any_eq_true]
 constructor
 ·rintro ⟨x,hx,h⟩;rw [decide_eq_true_eq] at h;rw [←h];exact hx
 ·intro h;exact ⟨s,h,by simp⟩
theorem hasB_congr {a b:List ByteArray} {s:ByteArray} (h:s∈a↔s∈b):hasB a s=hasB b s:=by
 rw [Bool.eq_iff_iff,zGz,zGz];exact h
end Go.Br
end
section
namespace Go.Br
open Go Go.Eng Go.L41
theorem compact_mem {α:Type} [DecidableEq α] [Inhabited α] (d:Array α) (m:Nat):∀i,i<m->d[i]! ∈Lib.compactUpTo d m:=by
 intro i
 induction i with
 |zero=>
  intro h
  unfold Lib.compactUpTo
  exact List.mem_map.2 ⟨0,List.mem_filter.2 ⟨List.mem_range.2 h,Lib.keeps_lt_one d 0 (by omega)⟩,rfl⟩
 |succ i ih=>
  intro h
  by_cases hk:d[i+1]! =d[i+1-1]!
  ·rw [hk];exact ih (by omega)
  ·unfold Lib.compactUpTo
   exact List.mem_map.2 ⟨i+1,List.mem_filter.2 ⟨List.mem_range.2 h,Lib.keeps_pos hk⟩,rfl⟩
theorem thin_mem {s:ByteArray} {l:List ByteArray} (h:s∈l):s∈thinB l:=by
 unfold thinB
 rw [mem_toB]
 rw [←mem_ofB] at h
 obtain ⟨i,hi,e⟩:=List.mem_iff_getElem.1 h
 have:=compact_mem (ofB l).toArray (ofB l).length i hi
 rw [getElem!_pos _ i (by simpa using hi)] at this
 unfold Lib.compact
 rw [←e];simpa using this
def indexW (e:Ex):List ByteArray:=insWs [] (namesA (nodes e))
theorem indexW_has (e:Ex) (t:ByteArray):hasB (indexW e) t=hasB (namesA (nodes e)) t:=by unfold indexW;rw [insWs_has];simp [hasB]
theorem indexT_has (e:Ex) (t:ByteArray):hasB (indexT e) t=hasB (namesA (nodes e)) t:=hasB_congr ⟨fun h=>zOx.1 (mem_thinB h),fun h=>thin_mem (zOx.2 h)⟩
theorem indexW_len (e:Ex):(indexW e).length<=e.wt:=by
 have:=zGx (namesA (nodes e))
 have:=zGv e
 unfold indexW;omega
theorem zPa:∀(l:List Lf) (i:Nat),((l.take i).flatMap namesF).length<=linsWt l
 |[],i=>by simp
 |x::r,0=>by simp
 |x::r,i+1=>by
  rw [List.take_succ_cons,List.flatMap_cons,List.length_append,linsWt]
  have:=zPa r i
  have:(namesF x).length=x.L.length:=by unfold namesF;rw [List.length_map]
  omega
theorem idxP_len:∀(l:List Ix) (i:Nat),(((l.take i).flatMap ixF).flatMap namesF).length<=idxWt l
 |[],i=>by simp
 |x::r,0=>by simp
 |x::r,i+1=>by
  rw [List.take_succ_cons,List.flatMap_cons,List.flatMap_append,List.length_append,idxWt]
  have h1:=idxP_len r i
  have h2:=zPa x.At x.At.length
  rw [List.take_length] at h2
  have h3:(namesF x.Lin).length=x.Lin.L.length:=by unfold namesF;rw [List.length_map]
  have h4:((ixF x).flatMap namesF).length=(namesF x.Lin).length+(x.At.flatMap namesF).length:=by
   show ((x.Lin::x.At).flatMap namesF).length=_
   rw [List.flatMap_cons,List.length_append]
  rw [Ix.wt];omega
theorem zKy (l:Lf):(namesF l).length=l.L.length:=by unfold namesF;rw [List.length_map]
theorem iw_1 (w:List ByteArray) (l:Lf):insWs (insWs [] w) (namesF l)=insWs [] (w++namesF l++(([]:List Ix).flatMap ixF).flatMap namesF):=by
 rw [←zDt];simp
theorem iw_2 (w:List ByteArray) (l:Lf):insWs (insWs [] w) (namesF l)=insWs [] (w++namesF l++([]:List Lf).flatMap namesF):=by
 rw [←zDt];simp
theorem iw_at {w:List ByteArray} {l:List Lf} {i:Nat} {x:Lf} (h:l[i]? =some x):insWs (insWs [] (w++(l.take i).flatMap namesF)) (namesF x)=insWs [] (w++(l.take (i+1)).flatMap namesF):=by
 rw [←zDt,qM h,List.flatMap_append,List.append_assoc];simp
theorem iw_ix {w:List ByteArray} {l:List Ix} {j:Nat} {y:Ix} (h:l[j]? =some y):insWs [] (w++((l.take j).flatMap ixF).flatMap namesF++namesF y.Lin++y.At.flatMap namesF)=insWs [] (w++((l.take (j+1)).flatMap ixF).flatMap namesF):=by
 rw [qM h,List.flatMap_append,List.flatMap_append]
 simp [ixF]
theorem iw_nd {l:List Ex} {k:Nat} {x:Ex} (h:l[k]? =some x):insWs [] (namesA (l.take k)++namesF x.Lin++(x.Idx.flatMap ixF).flatMap namesF)=insWs [] (namesA (l.take (k+1))):=by
 rw [qM h,zKz]
 congr 1
 rw [List.append_assoc]
 congr 1
theorem zKx {e:Ex} {k:Nat}:(namesA ((nodes e).take k)).length<=e.wt:=namesP_len (List.take_append_drop k (nodes e)).symm
end Go.Br
end
section
namespace Go.Br
open Go Go.Eng Go.L41
theorem nodeT_args {N:Ex->List Ty->Ty×Int} {e:Ex} (h:(nodeT N e).2=0):(nodeL N e.Args).2=0/\nodeT N e=N e (nodeL N e.Args).1:=by
 rw [zMy] at h⊢
 by_cases c:(nodeL N e.Args).2=0
 ·rw [if_pos c] at h⊢;exact ⟨c,rfl⟩
 ·rw [if_neg c] at h;exact absurd h c
theorem nodeL_cons {N:Ex->List Ty->Ty×Int} {a:Ex} {r:List Ex} (h:(nodeL N (a::r)).2=0):(nodeT N a).2=0/\(nodeL N r).2=0/\(nodeL N (a::r)).1=(nodeT N a).1::(nodeL N r).1:=by
 rw [nodeL] at h⊢
 by_cases c:(nodeT N a).2=0
 ·rw [if_pos c] at h⊢
  by_cases d:(nodeL N r).2=0
  ·rw [if_pos d];exact ⟨c,d,rfl⟩
  ·rw [if_neg d] at h;exact absurd h d
 ·rw [if_neg c] at h;exact absurd h c
section
variable {fr:Ex->Bool} {o_:List ByteArray} {e a b c:Ex}
end
/-! ## Weights -/
section
variable {n:En} {o_:List ByteArray} {e:Ex} {t:Ty×Int}
end
end Go.Br
end
section
namespace Go.Br
open Go Go.Eng Go.L41
section
variable {p:Pg} {o_:List ByteArray} {R:List Df×List ByteArray×Int}
end
section
variable {n:En} {d:Df} {A:List ByteArray} {X:Ex×Int}
end
end Go.Br
end
