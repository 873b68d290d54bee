/-
  Sorting and thinning of lists of strings that are the call's own: slices.Sort and slices.Compact,by the shelf's contracts.
  The names that an expression reads,in plain Lean.
  Layer 17 in plain Lean: a valid program without its last definitions; what a definition reads.
  Sums of linear forms,exactly,in plain Lean: numbers of 64 and of 128 bits,merges of ascending lists,substitution.
  The reference's substitution of forms,in plain Lean: the sum,and the mapping of all forms of an expression.
  What the substitution of a form keeps,in plain Lean: valid forms stay valid,the name is gone,the shape of an expression stays.
  The comparison of expressions is a total order,in plain Lean.
  Layer 14 in plain Lean: short names,replacing,the names in forms,the example that every statement checks.
  Layer 14 in plain Lean: what the statement on elimination asks of a substitution.
  Layer 14 in plain Lean: what the statement on walks asks; and four pieces of memory at once.
  Layer 22,the conjuncts of a condition,in plain Lean.
  Layer 22,the replacing of a reduction axis,in plain Lean.
  Ascending lists of names,one name added at a time,in plain Lean.
  Names of index variables: both ways to list them give the same names.
  Forward differentiation in plain Lean: the tangent of an expression,what is read,what is lost.
  Forward differentiation of programs in plain Lean; a program with tangents keeps what the original one has.
  Conditions: none.
-/
import Derived.Test.YtkijgodlhljgdaaGreatDoorCfg
import Derived.Test.YtkijgodlhljgdaaGreatDoorEngZ
import Derived.Test.YtkijgodlhljgdaaGreatDoorShelfB
import Derived.Sort.OwnSorted
import Derived.Lib.OwnBridge
import Derived.Test.YtkijgodlhljgdaaGreatDoorPlain
set_option linter.unusedSimpArgs false
set_option linter.unusedVariables false
section
namespace Go.Br
open Go Go.Eng Go.RowKit Go.Proofs Go.L41
abbrev strRows (l:List ByteArray):List (List C):=l.map fun s=>[cS s]
def toB (l:List (List UInt8)):List ByteArray:=l.map fun x=>⟨x.toArray⟩
def ofB (l:List ByteArray):List (List UInt8):=l.map (·.data.toList)
def sortB (l:List ByteArray):List ByteArray:=toB ((ofB l).mergeSort fun x y=>decide (x<=y))
def thinB (l:List ByteArray):List ByteArray:=toB (Lib.compact (ofB l))
theorem ofB_enc (l:List ByteArray):(ofB l).map encStr=l.map Value.string:=Lib.map_encStr l
theorem toB_enc (l:List (List UInt8)):l.map encStr=(toB l).map Value.string:=by
 unfold toB;rw [List.map_map];rfl
theorem sortB_len (l:List ByteArray):(sortB l).length=l.length:=by simp [sortB,toB,ofB,List.length_mergeSort]
theorem flat_str (l:List ByteArray):(strRows l).flatten=l.map fun s=>cS s:=by
 induction l with
 |nil=>rfl
 |cons x r ih=>show cS x::(strRows r).flatten=_;rw [ih];rfl
theorem reps_str {w:World} {I:Nat->Prop}:∀{l:List ByteArray} {xs:List Value},CReps w I (l.map fun s=>cS s) xs->xs=l.map Value.string
 |[],_,.nil=>rfl
 |x::l,_,.cons h t=>by
  have e:=reps_str t
  cases h with
  |lit _ _=>rw [e];rfl
theorem str_reps {w:World} {I:Nat->Prop}:∀l:List ByteArray,CReps w I (l.map fun s=>cS s) (l.map Value.string)
 |[]=>.nil
 |x::l=>.cons (.lit _ rfl) (str_reps l)
theorem rep_str {w:World} {I:Nat->Prop} {sv:Value} {t:TypeId} {l:List ByteArray} (h:w.ownsRow 0 t 1 sv l.length (l.map Value.string)) (hb:svB sv≠[]):ERep w I (.vec sv t 1 (strRows l)):=by
 refine .inr ⟨hb,l.map Value.string,?_,?_,fun r hr=>?_⟩
 ·rw [show (strRows l).length=l.length by simp];exact h
 ·rw [flat_str];exact str_reps l
 ·obtain ⟨x,_,rfl⟩:=List.mem_map.1 hr;rfl
theorem zMq {w:World} {I:Nat->Prop} {sv:Value} {t:TypeId} {l:List ByteArray} (h:ERep w I (.vec sv t 1 (strRows l))):(∃a,sv=.slice a 0 0/\l=[])∨(svB sv≠[]/\w.ownsRow 0 t 1 sv l.length (l.map Value.string)):=by
 rcases h with ⟨a,h1,h2⟩|⟨h1,xs,h2,h3,h4⟩
 ·exact .inl ⟨a,h1,by simpa using h2⟩
 ·rw [flat_str] at h3
  rw [reps_str h3,show (strRows l).length=l.length by simp] at h2
  exact .inr ⟨h1,h2⟩
theorem sort_con (sv:Value) (l:List ByteArray) (hl:l.length<=4294967296):Con cfg 153 [.c (.lit sv)] [.vec sv 9 1 (strRows l)] fun r μ'=>r=.tup []/\μ'=[.vec sv 9 1 (strRows (sortB l))]:=by
 intro w I vs hH ha
 match vs,ha with
 |[v],ha=>
  have e:v=sv:=by cases (ha.1:CRep w I (.lit sv) v) with|lit _ _=>rfl
  subst e
  have hrep:=hH.rep _ (List.mem_singleton.2 rfl)
  rcases zMq hrep with ⟨a,rfl,rfl⟩|⟨hb,hown⟩
  ·refine (Tryz.slices_Sort_string_none a 0 w).mono ?_
   rintro en w' ⟨rfl,rfl⟩
   have e2:sortB []=[]:=by simp [sortB,ofB,toB]
   refine ⟨_,_,_,I,rfl,⟨rfl,by rw [e2]⟩,⟨[],rfl,trivial⟩,hH,Ext.refl _ _ _⟩
  ·have hne:v≠ .slice none 0 0:=by rintro rfl;exact hb rfl
   have hown':=hown
   rw [←ofB_enc] at hown'
   obtain ⟨g,cap,rfl,hbg,hgl,hncap,hcm,hlen,hHo⟩:=Lib.holds_of_ownsRow hown' hne
   obtain ⟨_,hcase⟩:=hown
   rcases hcase with ⟨h0,_⟩|⟨g',cap',cur,hv,_,hcur,hn2,hm2,hcs,htk⟩
   ·exact absurd h0 hne
   ·injection hv with e1 e2 e3
    injection e1 with e1
    injection e1 with e1 _ _
    subst e1 e3
    have hss:(ofB l).length=l.length:=by simp [ofB]
    have hcall:=Tryz.slices_Sort_string g 0 cap (ofB l) w hHo hgl (by omega)
    rw [hss] at hcall
    refine hcall.mono ?_
    rintro en w' ⟨rfl,n,os,rfl⟩
    have hts:((ofB l).mergeSort fun x y=>decide (x<=y)).length=(ofB l).length:=List.length_mergeSort _
    have hs:=ownsRow_sorted (n:=n) (os:=os) (ts:=(ofB l).mergeSort fun x y=>decide (x<=y)) hts (Nat.zero_le g) hcur (by omega) hm2 hcs
    rw [toB_enc,hss] at hs
    have hlen2:(sortB l).length=l.length:=by simp [sortB,toB,hts,hss]
    have hgr:=grownBy_sorted (w:=w) (g:=g) (n:=n) (os:=os) ((ofB l).mergeSort fun x y=>decide (x<=y)).toArray
    have hrep2:ERep (Sort.grow (Sort.putRow encStr (Sort.ahead w n) g 0 ((ofB l).mergeSort fun x y=>decide (x<=y)).toArray) os) I (.vec (.slice (some ⟨g,0,none⟩) l.length cap) 9 1 (strRows (sortB l))):=by
     refine rep_str ?_ hb
     rw [hlen2];exact hs
    obtain ⟨hH',hx'⟩:=Heap.write (w':=Sort.grow (Sort.putRow encStr (Sort.ahead w n) g 0 ((ofB l).mergeSort fun x y=>decide (x<=y)).toArray) os) hH (p:=0) (en:=.vec (.slice (some ⟨g,0,none⟩) l.length cap) 9 1 (strRows l)) (en':=.vec (.slice (some ⟨g,0,none⟩) l.length cap) 9 1 (strRows (sortB l))) rfl hgr.os hgr.tape hgr.output hgr.size
     (fun b hb1 hb2=>hgr.block b hb1 (fun e=>by
      injection e with e
      apply hb2
      have hin:svB (.slice (some ⟨g,0,none⟩) l.length cap)≠[]:=hb
      subst e
      exact zMf hin rfl)) (by have h:=hH.nodup;simp only [blocksOf,List.flatMap_cons,List.flatMap_nil,List.append_nil] at h;exact h) (fun b h=>.inl h) trivial hrep2
    exact ⟨_,_,_,I,rfl,⟨rfl,rfl⟩,⟨[],rfl,trivial⟩,hH',hx'⟩
theorem thin_con (sv:Value) (l:List ByteArray) (hl:l.length<=4294967296):Con cfg 154 [.c (.lit sv)] [.vec sv 9 1 (strRows l)] fun r μ'=>∃sv',r=.c (.lit sv')/\μ'=[.vec sv' 9 1 (strRows (thinB l))]:=by
 intro w I vs hH ha
 match vs,ha with
 |[v],ha=>
  have e:v=sv:=by cases (ha.1:CRep w I (.lit sv) v) with|lit _ _=>rfl
  subst e
  have hrep:=hH.rep _ (List.mem_singleton.2 rfl)
  rcases zMq hrep with ⟨a,rfl,rfl⟩|⟨hb,hown⟩
  ·refine (Tryz.slices_Compact_string_empty a 0 w).mono ?_
   rintro en w' ⟨rfl,rfl⟩
   have e2:thinB []=[]:=by simp [thinB,ofB,toB,Lib.compact,Lib.compactUpTo]
   exact ⟨_,_,_,I,rfl,⟨_,rfl,by rw [e2]⟩,CRep.lit _ rfl,hH,Ext.refl _ _ _⟩
  ·have hne:v≠ .slice none 0 0:=by rintro rfl;exact hb rfl
   have hown':=hown
   rw [←ofB_enc] at hown'
   obtain ⟨g,cap,rfl,hbg,hgl,hncap,hcm,hlen,hHo⟩:=Lib.holds_of_ownsRow hown' hne
   have hss:(ofB l).length=l.length:=by simp [ofB]
   have hcall:=Tryz.slices_Compact_string g 0 cap (ofB l) w hHo (by omega) (by omega)
   rw [hss] at hcall
   refine hcall.mono ?_
   rintro en w' ⟨rfl,q,hw'⟩
   have hcl:=Lib.compact_length_le (ofB l)
   have hs:=Lib.ownsRow_putRow (q:=q) (k:=(Lib.compact (ofB l)).length) (ys:=Lib.compact (ofB l)++List.replicate (l.length-(Lib.compact (ofB l)).length) []) hown' (by simp;omega) (by omega)
   rw [List.take_left' rfl,toB_enc,←hw'] at hs
   have hlen2:(thinB l).length=(Lib.compact (ofB l)).length:=by simp [thinB,toB]
   have hgr:=grownBy_sorted (w:=w) (g:=g) (n:=q) (os:= #[]) (Lib.compact (ofB l)++List.replicate (l.length-(Lib.compact (ofB l)).length) []).toArray
   rw [Sort.grow_empty,←hw'] at hgr
   clear hw' hown' hHo hcall
   obtain ⟨c,hc⟩:∃c,cap=c+1:=by
    cases cap with
    |zero=>exact absurd rfl hb
    |succ c=>exact ⟨c,rfl⟩
   subst hc
   have hrep2:ERep w' I (.vec (.slice (some ⟨g,0,none⟩) (Lib.compact (ofB l)).length (c+1)) 9 1 (strRows (thinB l))):=by
    refine rep_str ?_ (by simp [svB])
    rw [hlen2];exact hs
   obtain ⟨hH',hx'⟩:=Heap.write (w':=w') hH (p:=0) (en:=.vec (.slice (some ⟨g,0,none⟩) l.length (c+1)) 9 1 (strRows l)) (en':=.vec (.slice (some ⟨g,0,none⟩) (Lib.compact (ofB l)).length (c+1)) 9 1 (strRows (thinB l))) rfl hgr.os hgr.tape hgr.output hgr.size
    (fun b hb1 hb2=>hgr.block b hb1 (fun e=>by
     injection e with e
     apply hb2
     have hin:svB (.slice (some ⟨g,0,none⟩) l.length (c+1))≠[]:=hb
     subst e
     exact zMf hin rfl)) (by simp [E.blocks,svB]) (fun b h=>.inl h) trivial hrep2
   exact ⟨_,_,_,I,rfl,⟨_,rfl,rfl⟩,CRep.lit _ rfl,hH',hx'⟩
end Go.Br
end
section
namespace Go.Br
open Go Go.Eng Go.L41
def fromX (x:Ix):List ByteArray:=if x.From=bs [] then [] else [x.From]
def readsI (l:List Ix):List ByteArray:=l.flatMap fromX
def opRead (x:Ex):List ByteArray:=if x.Op=3 then [x.Name] else []
def readsN (x:Ex):List ByteArray:=opRead x++readsI x.Idx
def readsA (l:List Ex):List ByteArray:=l.flatMap readsN
def readsT (e:Ex):List ByteArray:=thinB (sortB (readsA (nodes e)))
theorem mem_toB {s:ByteArray} {l:List (List UInt8)}:s∈toB l↔s.data.toList∈l:=by
 unfold toB
 rw [List.mem_map]
 constructor
 ·rintro ⟨x,hx,rfl⟩;simpa using hx
 ·intro h;exact ⟨_,h,by cases s;simp⟩
theorem mem_ofB {s:ByteArray} {l:List ByteArray}:s.data.toList∈ofB l↔s∈l:=by
 unfold ofB
 rw [List.mem_map]
 constructor
 ·rintro ⟨x,hx,e⟩
  have:x=s:=by cases x;cases s;congr 1;exact Array.toList_inj.1 e
  rw [←this];exact hx
 ·intro h;exact ⟨s,h,rfl⟩
theorem mem_sortB {s:ByteArray} {l:List ByteArray}:s∈sortB l↔s∈l:=by
 unfold sortB;rw [mem_toB,List.mem_mergeSort,mem_ofB]
theorem mem_thinB {s:ByteArray} {l:List ByteArray} (h:s∈thinB l):s∈l:=by
 unfold thinB at h
 rw [mem_toB] at h
 rw [←mem_ofB]
 unfold Lib.compact Lib.compactUpTo at h
 obtain ⟨i,hi,e⟩:=List.mem_map.1 h
 have hi2:=(List.mem_filter.1 hi).1
 have hlt:=List.mem_range.1 hi2
 rw [←e,getElem!_pos _ i (by simpa using hlt)]
 simp
theorem mem_readsT {s:ByteArray} {e:Ex} (h:s∈readsT e):∃x,x∈nodes e/\((x.Op=3/\s=x.Name)∨∃i,i∈x.Idx/\i.From≠bs []/\s=i.From):=by
 unfold readsT at h
 have h:=mem_sortB.1 (mem_thinB h)
 obtain ⟨x,hx,h⟩:=List.mem_flatMap.1 h
 refine ⟨x,hx,?_⟩
 unfold readsN at h
 rcases List.mem_append.1 h with h|h
 ·left;unfold opRead at h;split at h
  ·rename_i h3;exact ⟨h3,by simpa using h⟩
  ·cases h
 ·right
  obtain ⟨i,hi,h⟩:=List.mem_flatMap.1 h
  unfold fromX at h
  split at h
  ·cases h
  ·rename_i h3;exact ⟨i,hi,h3,by simpa using h⟩
end Go.Br
end
section
namespace Go.Br
open Go Go.Eng Go.L41
/-! ## More definitions -/
theorem findD_take {s:ByteArray}:∀(l:List Df) (k:Nat),(findD s (l.take k)).ok=true->findD s l=findD s (l.take k)
 |[],k,h=>by simp
 |d::r,0,h=>by simp [findD] at h
 |d::r,k+1,h=>by
  rw [List.take_succ_cons] at h⊢
  unfold findD at h⊢
  by_cases c:d.Name=s
  ·rw [decide_eq_true c];rfl
  ·rw [decide_eq_false c] at h⊢
   exact findD_take r k h
theorem findP_take {s:ByteArray} {ds:List Df} {k:Nat}:∀(l:List Pm),(findP s (ds.take k) l).ok=true->findP s ds l=findP s (ds.take k) l
 |[],h=>findD_take ds k h
 |x::r,h=>by
  unfold findP at h⊢
  by_cases c:x.Name=s
  ·rw [decide_eq_true c];rfl
  ·rw [decide_eq_false c] at h⊢
   exact findP_take r h
theorem findD_mem {s:ByteArray}:∀(l:List Df),(findD s l).ok=true->∃d,d∈l/\d.Name=s
 |[],h=>by simp [findD] at h
 |d::r,h=>by
  unfold findD at h
  by_cases c:d.Name=s
  ·exact ⟨d,by simp,c⟩
  ·rw [decide_eq_false c] at h
   obtain ⟨y,hy,e⟩:=findD_mem r h
   exact ⟨y,by simp [hy],e⟩
theorem findP_mem {s:ByteArray} {ds:List Df}:∀(l:List Pm),(findP s ds l).ok=true->(∃x,x∈l/\x.Name=s)∨∃d,d∈ds/\d.Name=s
 |[],h=>.inr (findD_mem ds h)
 |x::r,h=>by
  unfold findP at h
  by_cases c:x.Name=s
  ·exact .inl ⟨x,by simp,c⟩
  ·rw [decide_eq_false c] at h
   rcases findP_mem r h with ⟨y,hy,e⟩|h2
   ·exact .inl ⟨y,by simp [hy],e⟩
   ·exact .inr h2
def More (a b:En):Prop:=∀s,(a.find s).ok=true->b.find s=a.find s
theorem indexK_more {a b:En} (h:More a b) {k:ByteArray->Bool} {x:Ix} (hx:indexK a k x=0):indexK b k x=0:=by
 unfold indexK at hx⊢
 by_cases c:x.From=bs []
 ·rw [decide_eq_true c] at hx⊢;exact hx
 ·rw [decide_eq_false c] at hx⊢
  cases c2:(a.find x.From).ok with
  |false=>rw [c2] at hx;simp at hx
  |true=>rw [h _ c2];exact hx
theorem zNm {a b:En} (h:More a b) {k:ByteArray->Bool}:∀l:List Ix,indexL a k l=0->indexL b k l=0
 |[],_=>rfl
 |x::r,hx=>by
  unfold indexL at hx⊢
  by_cases c:indexK a k x=0
  ·rw [decide_eq_true c] at hx
   rw [decide_eq_true (indexK_more h c)]
   exact zNm h r hx
  ·rw [decide_eq_false c] at hx
   exact absurd hx c
theorem readK_of {a:En} {k:ByteArray->Bool} {e:Ex} (hx:(readK a k e).2=0):(a.find e.Name).ok=true/\e.Idx.length=(a.find e.Name).dims.length/\indexL a k e.Idx=0:=by
 unfold readK at hx
 cases c:(a.find e.Name).ok with
 |false=>rw [c] at hx;simp at hx
 |true=>
  rw [c] at hx
  by_cases c2:e.Idx.length=(a.find e.Name).dims.length
  ·rw [decide_eq_true c2] at hx
   by_cases c3:indexL a k e.Idx=0
   ·exact ⟨rfl,c2,c3⟩
   ·rw [decide_eq_false c3] at hx;exact absurd hx c3
  ·rw [decide_eq_false c2] at hx;simp at hx
theorem readK_more {a b:En} (h:More a b) {k:ByteArray->Bool} {e:Ex} (hx:(readK a k e).2=0):readK b k e=readK a k e:=by
 obtain ⟨h1,h2,h3⟩:=readK_of hx
 have e1:=h _ h1
 rw [readK_0 h1 h2 h3,readK_0 (by rw [e1];exact h1) (by rw [e1];exact h2) (zNm h _ h3),e1]
theorem ofN_more {a b:En} (h:More a b) {k:ByteArray->Bool} {e:Ex} {l:List Ty} (hx:(ofN a k e l).2=0):ofN b k e l=ofN a k e l:=by
 unfold ofN at hx⊢
 by_cases c1:e.Op=1∨e.Op=12
 ·rw [if_pos c1,if_pos c1]
 rw [if_neg c1] at hx⊢
 rw [if_neg c1]
 by_cases c2:e.Op=2
 ·rw [if_pos c2,if_pos c2]
 rw [if_neg c2] at hx⊢
 rw [if_neg c2]
 by_cases c3:e.Op=3
 ·rw [if_pos c3] at hx⊢
  rw [if_pos c3]
  exact readK_more h hx
 ·rw [if_neg c3,if_neg c3]
mutual
theorem nodeT_more {a b:En} (h:More a b) (k:ByteArray->Bool):∀e:Ex,(nodeT (ofN a k) e).2=0->nodeT (ofN b k) e=nodeT (ofN a k) e
 |.mk o nm v t l i xs,hx=>by
  rw [nodeT] at hx⊢
  rw [nodeT]
  by_cases c:(nodeL (ofN a k) xs).2=0
  ·rw [if_pos c] at hx⊢
   rw [nodeL_more h k xs c,if_pos c]
   exact ofN_more h hx
  ·rw [if_neg c] at hx;exact absurd hx c
theorem nodeL_more {a b:En} (h:More a b) (k:ByteArray->Bool):∀l:List Ex,(nodeL (ofN a k) l).2=0->nodeL (ofN b k) l=nodeL (ofN a k) l
 |[],_=>rfl
 |x::r,hx=>by
  rw [nodeL] at hx⊢
  rw [nodeL]
  by_cases c:(nodeT (ofN a k) x).2=0
  ·rw [if_pos c] at hx⊢
   by_cases d:(nodeL (ofN a k) r).2=0
   ·rw [nodeT_more h k x c,nodeL_more h k r d,if_pos c]
   ·rw [if_neg d] at hx;exact absurd hx d
  ·rw [if_neg c] at hx;exact absurd hx c
end
theorem typeT_of0 {n:En} {vars:List ByteArray} {e:Ex} (h:(typeT n vars e).2=0):validE e=0/\isCond e=false/\(nodeT (ofN n (knB n.sz vars)) e).2=0:=by
 unfold typeT typeBy at h
 by_cases c:validE e=0
 ·rw [if_pos c] at h
  by_cases d:isCond e=true
  ·rw [if_pos d] at h;cases h
  ·rw [if_neg d] at h
   by_cases f:(nodeT (ofN n (knB n.sz vars)) e).2=0
   ·exact ⟨c,by simpa using d,f⟩
   ·rw [if_neg f] at h;exact absurd h f
 ·rw [if_neg c] at h;exact absurd h c
theorem typeT_more {a b:En} (h:More a b) (hs:b.sz=a.sz) {vars:List ByteArray} {e:Ex} (hx:(typeT a vars e).2=0):typeT b vars e=typeT a vars e:=by
 obtain ⟨h1,h2,h3⟩:=typeT_of0 hx
 rw [typeT_of rfl h1 h2,typeT_of rfl h1 h2,hs,nodeT_more h _ e h3]
/-! ## What an expression reads is found -/
theorem nodeT_all (N:Ex->List Ty->Ty×Int) (e:Ex):(nodeT N e).2=0->∀x,x∈nodes e->∃l,(N x l).2=0:=by
 induction e using Ex.ind with
 |_ e ih=>
  intro h x hx
  rw [zLl] at h
  by_cases c:(nodeL N e.Args).2=0
  ·rw [if_pos c] at h
   rw [zAl] at hx
   rcases List.mem_cons.1 hx with rfl|hx
   ·exact ⟨_,h⟩
   ·have key:∀l:List Ex,(∀a,a∈l->a∈e.Args)->(nodeL N l).2=0->x∈nodesL l->∃t,(N x t).2=0:=by
     intro l
     induction l with
     |nil=>intro _ _ h;simp [nodesL] at h
     |cons a r ih2=>
      intro hm hl hx
      rw [nodeL] at hl
      by_cases c1:(nodeT N a).2=0
      ·rw [if_pos c1] at hl
       by_cases c2:(nodeL N r).2=0
       ·rw [nodesL] at hx
        rcases List.mem_append.1 hx with hx|hx
        ·exact ih a (hm a (by simp)) c1 x hx
        ·exact ih2 (fun b hb=>hm b (by simp [hb])) c2 hx
       ·rw [if_neg c2] at hl;exact absurd hl c2
      ·rw [if_neg c1] at hl;exact absurd hl c1
    exact key e.Args (fun _ h=>h) c hx
  ·rw [if_neg c] at h;exact absurd h c
theorem indexL_of {a:En} {k:ByteArray->Bool}:∀l:List Ix,indexL a k l=0->∀x,x∈l->x.From≠bs []->(a.find x.From).ok=true
 |[],_,x,hx,_=>by cases hx
 |y::r,h,x,hx,hf=>by
  unfold indexL at h
  by_cases c:indexK a k y=0
  ·rw [decide_eq_true c] at h
   rcases List.mem_cons.1 hx with rfl|hx
   ·unfold indexK at c
    rw [decide_eq_false hf] at c
    cases d:(a.find x.From).ok with
    |true=>rfl
    |false=>rw [d] at c;simp at c
   ·exact indexL_of r h x hx hf
  ·rw [decide_eq_false c] at h;exact absurd h c
theorem reads_found {n:En} {vars:List ByteArray} {e:Ex} (h:(typeT n vars e).2=0):∀s,s∈readsT e->(n.find s).ok=true:=by
 intro s hs
 obtain ⟨h1,h2,h3⟩:=typeT_of0 h
 obtain ⟨x,hx,hr⟩:=mem_readsT hs
 obtain ⟨l,hl⟩:=nodeT_all _ e h3 x hx
 have hn:=errsL_mem (zCx h1) x hx
 have hsy:=(zIl hn).1
 by_cases c:x.Op=3
 ·rw [zIj c] at hl
  obtain ⟨k1,_,k3⟩:=readK_of hl
  rcases hr with ⟨_,rfl⟩|⟨i,hi,hf,rfl⟩
  ·exact k1
  ·exact indexL_of _ k3 i hi hf
 ·have h0:x.Idx.length=0:=by
   unfold synOk at hsy
   simp only [Bool.and_eq_true,Bool.not_eq_true',Bool.and_eq_false_iff,Bool.not_eq_false',Bool.or_eq_false_iff,decide_eq_true_eq,decide_eq_false_iff_not] at hsy
   rcases hsy.1.2 with h|h
   ·exact absurd h c
   ·have:=h.2;omega
  rcases hr with ⟨h,_⟩|⟨i,hi,_,_⟩
  ·exact absurd h c
  ·have:=List.length_pos_of_mem hi;omega
theorem thinB_len (l:List ByteArray):(thinB l).length<=l.length:=by
 unfold thinB toB
 rw [List.length_map]
 unfold Lib.compact Lib.compactUpTo
 rw [List.length_map]
 refine Nat.le_trans (List.length_filter_le _ _) ?_
 simp [ofB]
theorem defsR_at (p:Pg):∀(l:List Df) (a:Int) (t:List ByteArray) (b:List Df),(defsR p a t b l).2=0->∀(i:Nat) (d:Df),l[i]? =some d->defR ⟨p.Sizes,p.Params,b++l.take i⟩ d (t++(l.take i).map Df.Name)=0
 |[],a,t,b,_,i,d,hd=>by simp at hd
 |x::r,a,t,b,h,i,d,hd=>by
  rw [defsR] at h
  by_cases c:defR ⟨p.Sizes,p.Params,b⟩ x t=0
  ·rw [if_pos c] at h
   cases i with
   |zero=>simp at hd;subst hd;simpa using c
   |succ i=>
    have:=defsR_at p r _ _ _ h i d (by simpa using hd)
    simpa [List.append_assoc] using this
  ·rw [if_neg c] at h;exact absurd h c
theorem zJt (p q:Pg) (hs:q.Sizes=p.Sizes):∀(l:List Pm) (a:Int) (t:List ByteArray),(paramsR p a t l).2=0->∃a',(defsR p a' (t++l.map Pm.Name) [] p.Defs).2=0/\paramsR q a t l=defsR q a' (t++l.map Pm.Name) [] q.Defs
 |[],a,t,h=>⟨a,by rw [paramsR] at h;simpa using h,by rw [paramsR];simp⟩
 |x::r,a,t,h=>by
  rw [paramsR] at h
  by_cases c:paramR x p.Sizes t=0
  ·rw [if_pos c] at h
   obtain ⟨a',h1,h2⟩:=zJt p q hs r _ _ h
   exact ⟨a',by simpa [List.append_assoc] using h1,by rw [paramsR,hs,if_pos c,h2];simp [List.append_assoc]⟩
  ·rw [if_neg c] at h;exact absurd h c
theorem validR_of {p:Pg} (h:(validR p).2=0):limitOk p/\sizesR [] p.Sizes=0/\whereR p.Sizes p.Where=0/\(paramsR p 2 p.Sizes p.Params).2=0:=by
 unfold validR at h
 by_cases c1:limitOk p
 ·rw [if_pos c1] at h
  by_cases c2:sizesR [] p.Sizes=0
  ·rw [if_pos c2] at h
   by_cases c3:whereR p.Sizes p.Where=0
   ·rw [if_pos c3] at h;exact ⟨c1,c2,c3,h⟩
   ·rw [if_neg c3] at h;exact absurd h c3
  ·rw [if_neg c2] at h;exact absurd h c2
 ·rw [if_neg c1] at h;cases h
theorem hasB_mem17 {l:List ByteArray} {s:ByteArray} (h:hasB l s=false):s ∉ l:=fun k=>by
 unfold hasB at h
 rw [List.any_eq_false] at h
 exact h s k (by simp)
theorem defR_of {n:En} {d:Df} {t:List ByteArray} (h:defR n d t=0):d.Name ∉ t/\typeT n (namesD d) d.Body=(d.T,0):=by
 have h1:nameR d.Name t=0:=Decidable.byContradiction fun c=>by rw [defR_1 c] at h;exact c h
 have h2:tyOk d.T=true:=by
  cases c:tyOk d.T with
  |true=>rfl
  |false=>rw [defR_10 h1 c] at h;cases h
 have h3:¬(6<d.Dims.length∨6<d.Red.length):=fun c=>by rw [defR_11 h1 h2 c] at h;cases h
 rw [defR_ok h1 h2 h3] at h
 have h4:axesR n.sz n.sz (d.Dims++d.Red)=0:=Decidable.byContradiction fun c=>by rw [if_neg c] at h;exact c h
 rw [if_pos h4] at h
 have h5:foldR d=0:=Decidable.byContradiction fun c=>by rw [if_neg c] at h;exact c h
 rw [if_pos h5,←typeT_R] at h
 unfold tyErrD at h
 have h6:(typeT n (namesD d) d.Body).2=0:=Decidable.byContradiction fun c=>by rw [if_neg c] at h;exact c h
 rw [if_pos h6] at h
 have h7:(typeT n (namesD d) d.Body).1=d.T:=Decidable.byContradiction fun c=>by rw [if_neg c] at h;cases h
 refine ⟨hasB_mem17 ?_,Prod.ext h7 h6⟩
 cases c:hasB t d.Name with
 |false=>rfl
 |true=>
  unfold nameR at h1
  by_cases c2:isNameB d.Name=true
  ·rw [if_pos c2,if_pos c] at h1;cases h1
  ·rw [if_neg c2] at h1;cases h1
theorem defOf_lt {s:ByteArray}:∀(l:List Df) (i:Nat),(∃d,d∈l.take i/\d.Name=s)->defOf s l<i
 |[],i,⟨d,hd,_⟩=>by simp at hd
 |x::r,0,⟨d,hd,_⟩=>by simp at hd
 |x::r,i+1,⟨d,hd,e⟩=>by
  unfold defOf idxOf
  by_cases c:x.Name=s
  ·rw [decide_eq_true c];show (0:Int)<_;omega
  ·rw [decide_eq_false c]
   have h2:defOf s r<i:=defOf_lt r i ⟨d,by
    rw [List.take_succ_cons] at hd
    rcases List.mem_cons.1 hd with rfl|hd
    ·exact absurd e c
    ·exact hd,e⟩
   unfold defOf at h2
   simp only [cond_false]
   by_cases c3:idxOf (fun d:Df=>decide (d.Name=s)) r= -1
   ·rw [decide_eq_true c3];show (-1:Int)<_;omega
   ·rw [decide_eq_false c3];show _+1<_;push_cast;omega
theorem pre_def {p:Pg} (h:(validM p).2=0) {i:Nat} {d:Df} (hd:p.Defs[i]? =some d):typeT p.en (namesD d) d.Body=(d.T,0)/\defOf d.Name p.Defs=i/\∀s,s∈readsT d.Body->(p.en.find s).ok=true/\defOf s p.Defs<i:=by
 rw [validM_R] at h
 obtain ⟨h1,h2,h3,h4⟩:=validR_of h
 obtain ⟨a',h5,_⟩:=zJt p p rfl p.Params _ _ h4
 have key:=defsR_at p p.Defs _ _ _ h5
 have names:∀j y,p.Defs[j]? =some y->y.Name ∉ (p.Sizes++p.Params.map Pm.Name)++(p.Defs.take j).map Df.Name:=fun j y hy=>(defR_of (key j y hy)).1
 obtain ⟨_,ht⟩:=defR_of (key i d hd)
 rw [List.nil_append] at ht
 have hm:More ⟨p.Sizes,p.Params,p.Defs.take i⟩ p.en:=fun s hs=>findP_take p.Params hs
 refine ⟨?_,?_,fun s hs=>?_⟩
 ·rw [typeT_more hm rfl (by rw [ht]),ht]
 ·refine zLn hd (by simp) ?_
  rw [List.any_eq_false]
  intro y hy e
  have e2:y.Name=d.Name:=by simpa using e
  exact names i d hd (by rw [←e2];exact List.mem_append.2 (.inr (List.mem_map.2 ⟨y,hy,rfl⟩)))
 ·have hf:=reads_found (n:=⟨p.Sizes,p.Params,p.Defs.take i⟩) (by rw [ht]) s hs
  refine ⟨by rw [hm s hf];exact hf,?_⟩
  rcases findP_mem p.Params hf with ⟨x,hx,e⟩|⟨y,hy,e⟩
  ·have:defOf s p.Defs= -1:=by
    refine zGj ?_
    rw [List.any_eq_false]
    intro y hy e2
    have e3:y.Name=s:=by simpa using e2
    obtain ⟨j,hj⟩:=List.getElem?_of_mem hy
    exact names j y hj (List.mem_append.2 (.inl (List.mem_append.2 (.inr (List.mem_map.2 ⟨x,hx,by rw [e,e3]⟩)))))
   rw [this];omega
  ·exact defOf_lt p.Defs i ⟨y,hy,e⟩
end Go.Br
end
section
namespace Go.Br
open Go Go.Eng Go.L41
/-! ## The order of names -/
def r64 (n:Int):Prop:= -9223372036854775808<=n/\n<=9223372036854775807
instance (n:Int):Decidable (r64 n):=by unfold r64;infer_instance
def hiN (a b:Nat):Nat:=
 (a/4294967296)*(b/4294967296)+((a/4294967296)*(b%4294967296)+((a%4294967296)*(b%4294967296))/4294967296)/4294967296+
  ((a%4294967296)*(b/4294967296)+((a/4294967296)*(b%4294967296)+((a%4294967296)*(b%4294967296))/4294967296)%4294967296)/4294967296
def Lf.rng (l:Lf):Prop:=r64 l.K/\∀m,m∈l.L->r64 m.By
end Go.Br
end
section
namespace Go.Br
open Go Go.Eng Go.L41
end Go.Br
end
section
namespace Go.Br
open Go Go.Eng Go.L41
/-! ## Ascending triples -/
end Go.Br
end
section
namespace Go.Br
open Go Go.Eng Go.Proofs Go.L41
structure PO {α:Type} (f:α->α->Int) (a:α):Prop where
 anti:∀b,f b a= -f a b
 rng:∀b,-1<=f a b/\f a b<=1
 cong:∀b,f a b=0->∀c,f a c=f b c
 cong':∀b c,f b c=0->f a b=f a c
 trans:∀b c,f a b<0->f b c<0->f a c<0
theorem PO.zero {α:Type} (a:α):PO (fun _ _=>0) a:=
 ⟨fun _=>rfl,fun _=>⟨by show (-1:Int)<=0;omega,by show (0:Int)<=1;omega⟩,fun _ _ _=>rfl,fun _ _ _=>rfl,fun _ _ h _=>h⟩
end Go.Br
end
section
namespace Go.Br
open Go Go.Eng Go.L41
/-! ## Short names -/
def namesF (l:Lf):List ByteArray:=l.L.map Mono.Name
def namesN (x:Ex):List ByteArray:=(formsL x).flatMap namesF
def namesA (l:List Ex):List ByteArray:=l.flatMap namesN
def indexT (e:Ex):List ByteArray:=thinB (sortB (namesA (nodes e)))
theorem namesF_one (pre:List Lf) (x:Lf):(pre++[x]).flatMap namesF=pre.flatMap namesF++namesF x:=by rw [List.flatMap_append];simp
theorem namesA_one (pre:List Ex) (x:Ex):namesA (pre++[x])=namesA pre++namesN x:=by unfold namesA;rw [List.flatMap_append];simp
theorem namesM_next {l:List Mono} {k:Nat} {x:Mono} (h:l[k]? =some x):(l.take (k+1)).map Mono.Name=(l.take k).map Mono.Name++[x.Name]:=by rw [qR h,List.map_append];rfl
theorem namesN_len (x:Ex):(namesN x).length<=x.Lin.L.length+idxWt x.Idx:=by
 unfold namesN formsL
 rw [List.flatMap_cons,List.length_append]
 have h1:∀l:List Lf,(l.flatMap namesF).length=linsWt l:=by
  intro l
  induction l with
  |nil=>rfl
  |cons a r ih=>rw [List.flatMap_cons,List.length_append,ih,linsWt];unfold namesF;rw [List.length_map]
 have h2:∀l:List Ix,((l.flatMap fun x=>x.Lin::x.At).flatMap namesF).length<=idxWt l:=by
  intro l
  induction l with
  |nil=>simp [idxWt]
  |cons a r ih=>
   rw [List.flatMap_cons,List.flatMap_append,List.length_append,idxWt,h1,linsWt,Ix.wt]
   omega
 have:=h2 x.Idx
 have e:(namesF x.Lin).length=x.Lin.L.length:=by unfold namesF;rw [List.length_map]
 omega
theorem zJz (e:Ex):(namesA (nodes e)).length<=e.wt:=by
 induction e using Ex.ind with
 |_ e ih=>
  rw [zAl,Ex.wt_eq]
  have e1:namesA (e::nodesL e.Args)=namesN e++namesA (nodesL e.Args):=rfl
  rw [e1,List.length_append]
  have h2:∀l:List Ex,(∀a,a∈l->(namesA (nodes a)).length<=a.wt)->(namesA (nodesL l)).length<=argsWt l:=by
   intro l
   induction l with
   |nil=>intro _;simp [namesA,nodesL,argsWt]
   |cons a r ih2=>
    intro h
    have h3:=h a (by simp)
    have h4:=ih2 fun b hb=>h b (by simp [hb])
    have e2:namesA (nodesL (a::r))=namesA (nodes a)++namesA (nodesL r):=by rw [nodesL];unfold namesA;rw [List.flatMap_append]
    rw [e2,List.length_append,argsWt];omega
  have h5:=h2 e.Args ih
  have h6:=namesN_len e
  omega
theorem namesP_len {e:Ex} {pre suf:List Ex} (h:nodes e=pre++suf):(namesA pre).length<=e.wt:=by
 have h1:=zJz e
 have e1:namesA (nodes e)=namesA pre++namesA suf:=by rw [h];unfold namesA;rw [List.flatMap_append]
 rw [e1,List.length_append] at h1;omega
theorem namesX_len {x:Ex} {pre suf:List Lf} (h:formsL x=pre++suf):(pre.flatMap namesF).length<=(namesN x).length:=by
 unfold namesN
 rw [h,List.flatMap_append,List.length_append];omega
end Go.Br
end
section
namespace Go.Br
open Go Go.Eng Go.L41
theorem zKd (e:Ex):(indexT e).length<=e.wt:=by
 unfold indexT
 have h1:=thinB_len (sortB (namesA (nodes e)))
 rw [sortB_len] at h1
 have:=zJz e
 omega
end Go.Br
end
section
namespace Go.Br
open Go Go.Eng Go.L41
theorem mem4_eq {e1 e2:E} {sv:Value} {t u:TypeId} {n b:Nat} {rows rows':List (List C)} {cs:List C} {bμ:List E} (h:rows=rows'):e1::e2::E.vec sv t n rows::E.row b u cs::bμ=[e1,e2,E.vec sv t n rows',E.row b u cs]++bμ:=by rw [h];rfl
end Go.Br
end
section
namespace Go.Br
open Go Go.Eng Go.L41
structure Gd where
 conds:List Ex
 val:Ex
 ok:Bool
end Go.Br
end
section
namespace Go.Br
open Go Go.Eng Go.L41
def Df.okC (d:Df):Prop:=d.Dims.length<=1073741824/\d.Red.length<=1073741824/\(∀a,a∈d.Dims->a.Size.L.length<=5864062014805)/\(∀a,a∈d.Red->a.Size.L.length<=5864062014805)/\d.Body.allF (fun l=>l.L.length<=5864062014805)/\d.Body.cnt<=4294967296
structure Pg.OkC (p:Pg):Prop where
 sizes:p.Sizes.length<=4294967296
 wh:p.Where.length<=4294967296
 params:p.Params.length<=4294967296
 defs:p.Defs.length<=4294967296
 outs:p.Outs.length<=4294967296
 whs:∀c,c∈p.Where->c.Lin.L.length<=5864062014805
 ps:∀x,x∈p.Params->x.Dims.length<=4294967296/\∀l,l∈x.Dims->l.L.length<=5864062014805
 ds:∀d,d∈p.Defs->d.okC
theorem allF_wt {e:Ex} {B:Nat} (h:e.wt<=B):e.allF fun l=>l.L.length<=B:=fun x hx l hl=>forms_wt (Nat.le_trans (zEr e x hx) h) hl
end Go.Br
end
section
namespace Go.Br
open Go Go.Eng Go.L41
def below (s:ByteArray) (x:ByteArray):Bool:=strLt x s
theorem hasB_mem {l:List ByteArray} {s:ByteArray}:hasB l s=true↔s∈l:=by
 unfold hasB;rw [List.any_eq_true]
 constructor
 ·rintro ⟨x,hx,h⟩;rw [decide_eq_true_eq] at h;rw [←h];exact hx
 ·intro h;exact ⟨s,h,by simp⟩
end Go.Br
end
section
namespace Go.Br
open Go Go.Eng Go.L41
end Go.Br
end
section
namespace Go.Br
open Go Go.Eng Go.L41
def opE (o:Int) (l:List Ex):Ex:=.mk o (bs []) ⟨0,0⟩ ⟨0,0,0,0,0⟩ ⟨0,[]⟩ [] l
def frT:Ty:=⟨1,0,0,0,0⟩
def zeroX:Ex:=.mk 1 (bs []) ⟨0,1⟩ frT ⟨0,[]⟩ [] []
def dNm (s:ByteArray):ByteArray:=bs [100,95]++s
def isFr (n:En) (e:Ex):Bool:=decide ((typeT n (indexT e) e).2=0)&&decide ((typeT n (indexT e) e).1.Kind=1)
def sumT (o:Int) (a b:Ex):Ex:=if b=zeroX then a else if a=zeroX/\o=5 then opE 8 [b] else if a=zeroX then b else opE o [a,b]
def prodT (a b x y:Ex):Ex:=if x=zeroX/\y=zeroX then zeroX else if x=zeroX then opE 6 [a,y] else if y=zeroX then opE 6 [x,b] else opE 4 [opE 6 [x,b],opE 6 [a,y]]
def quoT (a b x y:Ex):Ex:=
 if y=zeroX then (if x=zeroX then zeroX else opE 7 [x,b]) else if x=zeroX then opE 7 [opE 8 [opE 6 [opE 7 [a,b],y]],b] else opE 7 [opE 5 [x,opE 6 [opE 7 [a,b],y]],b]
def choT (c x y:Ex):Ex:=if x=zeroX/\y=zeroX then zeroX else opE 11 [c,x,y]
def tanN (fr:Ex->Bool) (o_:List ByteArray) (e:Ex) (A T:List Ex):Ex:=
 if e.Op=3 then (if hasB o_ e.Name=true then .mk 3 (dNm e.Name) ⟨0,0⟩ ⟨0,0,0,0,0⟩ ⟨0,[]⟩ e.Idx [] else zeroX) else
 if e.Op=4∨e.Op=5 then sumT e.Op (T.getD 0 zEx) (T.getD 1 zEx) else
 if e.Op=6 then prodT (A.getD 0 zEx) (A.getD 1 zEx) (T.getD 0 zEx) (T.getD 1 zEx) else
 if e.Op=7 then quoT (A.getD 0 zEx) (A.getD 1 zEx) (T.getD 0 zEx) (T.getD 1 zEx) else
 if e.Op=8 then (if T.getD 0 zEx=zeroX then zeroX else opE 8 [T.getD 0 zEx]) else
 if e.Op=9 then choT (opE 14 [A.getD 0 zEx,A.getD 1 zEx]) (T.getD 0 zEx) (T.getD 1 zEx) else
 if e.Op=10 then choT (opE 14 [A.getD 1 zEx,A.getD 0 zEx]) (T.getD 0 zEx) (T.getD 1 zEx) else
 if e.Op=11 then choT (A.getD 0 zEx) (T.getD 1 zEx) (T.getD 2 zEx) else
 if e.Op=12 then (if fr (A.getD 0 zEx)=true then T.getD 0 zEx else zeroX) else zeroX
mutual
def tanE (fr:Ex->Bool) (o_:List ByteArray):Ex->Ex
 |.mk o nm v t l i q=>tanN fr o_ (.mk o nm v t l i q) q (tanL fr o_ q)
def tanL (fr:Ex->Bool) (o_:List ByteArray):List Ex->List Ex
 |[]=>[]
 |a::r=>tanE fr o_ a::tanL fr o_ r
end
theorem tanL_map (fr:Ex->Bool) (o_:List ByteArray):∀l,tanL fr o_ l=l.map (tanE fr o_)
 |[]=>by rw [tanL];rfl
 |a::r=>by rw [tanL,tanL_map fr o_ r];rfl
theorem zDf (fr:Ex->Bool) (o_:List ByteArray) (e:Ex):tanE fr o_ e=tanN fr o_ e e.Args (e.Args.map (tanE fr o_)):=by
 cases e;rw [tanE,tanL_map];rfl
/-! ## What is read,what is lost -/
def vArgs {α:Type} (o:Int) (l:List α):List α:=if o=11 then l.tail else l
mutual
def rdsE (o_:List ByteArray):Ex->Bool
 |.mk o nm _ _ _ _ q=>if o=3 then hasB o_ nm else (vArgs o (rdsL o_ q)).any id
def rdsL (o_:List ByteArray):List Ex->List Bool
 |[]=>[]
 |a::r=>rdsE o_ a::rdsL o_ r
end
theorem rdsL_map (o_:List ByteArray):∀l,rdsL o_ l=l.map (rdsE o_)
 |[]=>by rw [rdsL];rfl
 |a::r=>by rw [rdsL,rdsL_map o_ r];rfl
theorem vArgs_any {f:Ex->Bool} (o:Int) (l:List Ex):(vArgs o (l.map f)).any id=(vArgs o l).any f:=by
 unfold vArgs
 split
 ·cases l with
  |nil=>rfl
  |cons a r=>simp [Function.comp_def]
 ·simp [Function.comp_def]
theorem zJp (o_:List ByteArray) (e:Ex):rdsE o_ e=if e.Op=3 then hasB o_ e.Name else (vArgs e.Op e.Args).any (rdsE o_):=by
 cases e;rw [rdsE,rdsL_map,vArgs_any];rfl
mutual
def losE (fr:Ex->Bool) (o_:List ByteArray):Ex->Bool
 |.mk o _ _ t _ _ q=>(decide (o=12)&& !decide (t.Kind=1)&&fr (q.getD 0 zEx)&&rdsE o_ (q.getD 0 zEx))||(vArgs o (losL fr o_ q)).any id
def losL (fr:Ex->Bool) (o_:List ByteArray):List Ex->List Bool
 |[]=>[]
 |a::r=>losE fr o_ a::losL fr o_ r
end
theorem losL_map (fr:Ex->Bool) (o_:List ByteArray):∀l,losL fr o_ l=l.map (losE fr o_)
 |[]=>by rw [losL];rfl
 |a::r=>by rw [losL,losL_map fr o_ r];rfl
theorem losE_eq (fr:Ex->Bool) (o_:List ByteArray) (e:Ex):losE fr o_ e=((decide (e.Op=12)&& !decide (e.Ty.Kind=1)&&fr (e.Args.getD 0 zEx)&&rdsE o_ (e.Args.getD 0 zEx))||(vArgs e.Op e.Args).any (losE fr o_)):=by
 cases e;rw [losE,losL_map,vArgs_any];rfl
/-! ## Operands of valid nodes -/
theorem zGz {e:Ex} (h:partE e=0):(e.Args.length:Int)=nArgs e.Op:=by
 have h1:=(zIl (zCz h)).2.2.1
 unfold rankE at h1
 rw [Bool.and_eq_true] at h1
 have h2:=h1.1
 rw [Bool.not_eq_true',Bool.or_eq_false_iff] at h2
 simpa using h2.1
theorem args_1 {l:List Ex} (h:l.length=1):∃a,l=[a]:=by
 match l,h with
 |[a],_=>exact ⟨a,rfl⟩
theorem args_2 {l:List Ex} (h:l.length=2):∃a b,l=[a,b]:=by
 match l,h with
 |[a,b],_=>exact ⟨a,b,rfl⟩
theorem args_3 {l:List Ex} (h:l.length=3):∃a b c,l=[a,b,c]:=by
 match l,h with
 |[a,b,c],_=>exact ⟨a,b,c,rfl⟩
theorem read_node {e:Ex} (h:partE e=0) (ho:e.Op=3):e=.mk 3 e.Name ⟨0,0⟩ ⟨0,0,0,0,0⟩ ⟨0,[]⟩ e.Idx []:=by
 have h1:=(zIl (zCz h)).1
 have h2:=zGz h
 rw [ho] at h2
 have h3:e.Args=[]:=List.eq_nil_of_length_eq_zero (by have:nArgs 3=0:=(by decide);omega)
 unfold synOk at h1
 simp only [Bool.and_eq_true] at h1
 obtain ⟨⟨⟨⟨⟨_,a2⟩,a3⟩,a4⟩,_⟩,_⟩:=h1
 cases e with
 |mk o nm v t l i q=>
  have ho':o=3:=ho
  subst ho'
  have h3':q=[]:=h3
  subst h3'
  have b2:val0 v=true:=by simpa [Ex.Op,Ex.Val] using a2
  have b3:ty0 t=true:=by simpa [Ex.Op,Ex.Ty] using a3
  have b4:zeroL l=true:=by simpa [Ex.Op,Ex.Lin] using a4
  have c2:v=⟨0,0⟩:=of_decide_eq_true ((litsEq_val v ⟨0,0⟩).symm.trans b2)
  have c3:t=⟨0,0,0,0,0⟩:=of_decide_eq_true ((litsEq_ty t ⟨0,0,0,0,0⟩).symm.trans b3)
  unfold zeroL at b4
  simp only [Bool.and_eq_true,decide_eq_true_eq] at b4
  obtain ⟨l1,l2⟩:=l
  have c4:l1=0:=b4.1
  have c6:(l2.length:Int)=0:=b4.2
  have c5:l2=[]:=List.eq_nil_of_length_eq_zero (by omega)
  subst c2;subst c3;subst c4;subst c5
  rfl
/-! ## Expressions of the type of fractions -/
def FrK (n:En) (e:Ex):Prop:=partE e=0/\∃k:ByteArray->Bool,(nodeT (ofN n k) e).2=0/\(nodeT (ofN n k) e).1.Kind=1
theorem zGg {N:Ex->List Ty->Ty×Int} {e:Ex} (h:(nodeT N e).2=0):(nodeL N e.Args).2=0/\nodeT N e=N e (nodeL N e.Args).1:=by
 rw [zLl] at h⊢
 by_cases c:(nodeL N e.Args).2=0
 ·rw [if_pos c] at h⊢;exact ⟨c,rfl⟩
 ·rw [if_neg c] at h;exact absurd h c
theorem zDa {N:Ex->List Ty->Ty×Int} {a:Ex} {r:List Ex} (h:(nodeL N (a::r)).2=0):(nodeT N a).2=0/\(nodeL N r).2=0/\(nodeL N (a::r)).1=(nodeT N a).1::(nodeL N r).1:=by
 rw [nodeL] at h⊢
 by_cases c:(nodeT N a).2=0
 ·rw [if_pos c] at h⊢
  by_cases d:(nodeL N r).2=0
  ·rw [if_pos d];exact ⟨c,d,rfl⟩
  ·rw [if_neg d] at h;exact absurd h d
 ·rw [if_neg c] at h;exact absurd h c
theorem frk_op {n:En} {e:Ex} (h:FrK n e):e.Op=1∨e.Op=3∨e.Op=4∨e.Op=5∨e.Op=6∨e.Op=7∨e.Op=8∨e.Op=9∨e.Op=10∨e.Op=11∨e.Op=12:=by
 obtain ⟨hp,k,h1,h2⟩:=h
 obtain ⟨a1,a2⟩:=node_op (zCz hp)
 obtain ⟨b1,b2⟩:=zGg h1
 rw [b2] at h2
 unfold ofN at h2
 by_cases c2:e.Op=2
 ·rw [if_neg (by omega),if_pos c2] at h2;exact absurd (show (3:Int)=1 from h2) (by decide)
 by_cases c13:13<=e.Op
 ·rw [if_neg (by omega),if_neg c2,if_neg (by omega),if_neg (by omega),if_neg (by omega)] at h2
  by_cases c16:e.Op=16∨e.Op=17∨e.Op=18
  ·rw [if_pos c16] at h2;exact absurd (show (0:Int)=1 from h2) (by decide)
  ·rw [if_neg c16,if_pos (by omega)] at h2;exact absurd (show (0:Int)=1 from h2) (by decide)
 omega
theorem zAj {n:En} {e:Ex} (h:FrK n e) (ho:e.Op=4∨e.Op=5∨e.Op=6∨e.Op=7∨e.Op=9∨e.Op=10):∃a b,e.Args=[a,b]/\FrK n a/\FrK n b:=by
 obtain ⟨hp,k,h1,h2⟩:=h
 have hl:=zGz hp
 have h4:nArgs e.Op=2:=by unfold nArgs;rw [if_neg (by omega),if_neg (by omega),if_neg (by omega)]
 obtain ⟨a,b,hab⟩:=args_2 (l:=e.Args) (by omega)
 obtain ⟨b1,b2⟩:=zGg h1
 rw [hab] at b1 b2
 obtain ⟨c1,c2,c3⟩:=zDa b1
 obtain ⟨d1,d2,d3⟩:=zDa c2
 rw [c3,d3] at b2
 have e1:ofN n k e ((nodeT (ofN n k) a).1::(nodeT (ofN n k) b).1::(nodeL (ofN n k) []).1)=((nodeT (ofN n k) a).1,unlike (nodeT (ofN n k) a).1 (nodeT (ofN n k) b).1):=by
  unfold ofN
  rw [if_neg (by omega),if_neg (by omega),if_neg (by omega),if_neg (by omega),if_neg (by omega),if_neg (by omega),if_neg (by omega)]
  rfl
 rw [b2,e1] at h1 h2
 have h5:=(unlike_eq _ _).1 h1
 refine ⟨a,b,hab,⟨wW hp (by rw [hab];simp),k,c1,h2⟩,⟨wW hp (by rw [hab];simp),k,d1,?_⟩⟩
 rw [←h5];exact h2
theorem frk_neg {n:En} {e:Ex} (h:FrK n e) (ho:e.Op=8):∃a,e.Args=[a]/\FrK n a:=by
 obtain ⟨hp,k,h1,h2⟩:=h
 have hl:=zGz hp
 have h4:nArgs e.Op=1:=by rw [ho];decide
 obtain ⟨a,hab⟩:=args_1 (l:=e.Args) (by omega)
 obtain ⟨b1,b2⟩:=zGg h1
 rw [hab] at b1 b2
 obtain ⟨c1,c2,c3⟩:=zDa b1
 rw [c3] at b2
 have e1:ofN n k e ((nodeT (ofN n k) a).1::(nodeL (ofN n k) []).1)=((nodeT (ofN n k) a).1,0):=by
  unfold ofN
  rw [if_neg (by omega),if_neg (by omega),if_neg (by omega),if_pos ho]
  rfl
 rw [b2,e1] at h2
 exact ⟨a,hab,⟨wW hp (by rw [hab];simp),k,c1,h2⟩⟩
theorem frk_if {n:En} {e:Ex} (h:FrK n e) (ho:e.Op=11):∃c a b,e.Args=[c,a,b]/\FrK n a/\FrK n b:=by
 obtain ⟨hp,k,h1,h2⟩:=h
 have hl:=zGz hp
 have h4:nArgs e.Op=3:=by rw [ho];decide
 obtain ⟨c,a,b,hab⟩:=args_3 (l:=e.Args) (by omega)
 obtain ⟨b1,b2⟩:=zGg h1
 rw [hab] at b1 b2
 obtain ⟨x1,x2,x3⟩:=zDa b1
 obtain ⟨c1,c2,c3⟩:=zDa x2
 obtain ⟨d1,d2,d3⟩:=zDa c2
 rw [x3,c3,d3] at b2
 have e1:ofN n k e ((nodeT (ofN n k) c).1::(nodeT (ofN n k) a).1::(nodeT (ofN n k) b).1::(nodeL (ofN n k) []).1)=((nodeT (ofN n k) a).1,unlike (nodeT (ofN n k) a).1 (nodeT (ofN n k) b).1):=by
  unfold ofN
  rw [if_neg (by omega),if_neg (by omega),if_neg (by omega),if_neg (by omega),if_pos ho]
  rfl
 rw [b2,e1] at h1 h2
 have h5:=(unlike_eq _ _).1 h1
 refine ⟨c,a,b,hab,⟨wW hp (by rw [hab];simp),k,c1,h2⟩,⟨wW hp (by rw [hab];simp),k,d1,?_⟩⟩
 rw [←h5];exact h2
theorem zIz {e:Ex} (h:partE e=0) (ho:e.Op=12):∃a,e.Args=[a]/\partE a=0:=by
 have hl:=zGz h
 have h4:nArgs e.Op=1:=by rw [ho];decide
 obtain ⟨a,hab⟩:=args_1 (l:=e.Args) (by omega)
 exact ⟨a,hab,wW h (by rw [hab];simp)⟩
theorem zLh {n:En} {vars:List ByteArray} {e:Ex} (h1:(typeT n vars e).2=0) (h2:(typeT n vars e).1.Kind=1):FrK n e:=by
 unfold typeT typeBy at h1 h2
 by_cases c:validE e=0
 ·rw [if_pos c] at h1 h2
  by_cases d:isCond e=true
  ·rw [if_pos d] at h1;exact absurd h1 (by decide)
  ·rw [if_neg d] at h1 h2
   by_cases f:(nodeT (ofN n (knB n.sz vars)) e).2=0
   ·rw [if_pos f] at h2;exact ⟨zCx c,_,f,h2⟩
   ·rw [if_neg f] at h1;exact absurd h1 f
 ·rw [if_neg c] at h1;exact absurd h1 c
theorem zLm {n:En} {e:Ex} (h:isFr n e=true):FrK n e:=by
 unfold isFr at h
 simp only [Bool.and_eq_true,decide_eq_true_eq] at h
 exact zLh h.1 h.2
theorem zJj {n:En} {vars:List ByteArray} {e:Ex} (h:(typeT n vars e).2=0):partE e=0:=by
 unfold typeT typeBy at h
 by_cases c:validE e=0
 ·exact zCx c
 ·rw [if_neg c] at h;exact absurd h c
/-! ## The tangent,case by case -/
section
variable {fr:Ex->Bool} {o_:List ByteArray} {e a b c:Ex}
theorem tan_read (ho:e.Op=3) (h:hasB o_ e.Name=true):tanE fr o_ e=.mk 3 (dNm e.Name) ⟨0,0⟩ ⟨0,0,0,0,0⟩ ⟨0,[]⟩ e.Idx []:=by
 rw [zDf,tanN,if_pos ho,if_pos h]
theorem zMd (ho:e.Op=3) (h:¬hasB o_ e.Name=true):tanE fr o_ e=zeroX:=by
 rw [zDf,tanN,if_pos ho,if_neg h]
theorem zJk (ho:e.Op=4∨e.Op=5) (h:e.Args=[a,b]):tanE fr o_ e=sumT e.Op (tanE fr o_ a) (tanE fr o_ b):=by
 rw [zDf,tanN,if_neg (by omega),if_pos ho,h];rfl
theorem tan_mul (ho:e.Op=6) (h:e.Args=[a,b]):tanE fr o_ e=prodT a b (tanE fr o_ a) (tanE fr o_ b):=by
 rw [zDf,tanN,if_neg (by omega),if_neg (by omega),if_pos ho,h];rfl
theorem tan_div (ho:e.Op=7) (h:e.Args=[a,b]):tanE fr o_ e=quoT a b (tanE fr o_ a) (tanE fr o_ b):=by
 rw [zDf,tanN,if_neg (by omega),if_neg (by omega),if_neg (by omega),if_pos ho,h];rfl
theorem zMe (ho:e.Op=8) (h:e.Args=[a]):tanE fr o_ e=if tanE fr o_ a=zeroX then zeroX else opE 8 [tanE fr o_ a]:=by
 rw [zDf,tanN,if_neg (by omega),if_neg (by omega),if_neg (by omega),if_neg (by omega),if_pos ho,h];rfl
theorem tan_min (ho:e.Op=9) (h:e.Args=[a,b]):tanE fr o_ e=choT (opE 14 [a,b]) (tanE fr o_ a) (tanE fr o_ b):=by
 rw [zDf,tanN,if_neg (by omega),if_neg (by omega),if_neg (by omega),if_neg (by omega),if_neg (by omega),if_pos ho,h];rfl
theorem tan_max (ho:e.Op=10) (h:e.Args=[a,b]):tanE fr o_ e=choT (opE 14 [b,a]) (tanE fr o_ a) (tanE fr o_ b):=by
 rw [zDf,tanN,if_neg (by omega),if_neg (by omega),if_neg (by omega),if_neg (by omega),if_neg (by omega),if_neg (by omega),if_pos ho,h];rfl
theorem tan_if (ho:e.Op=11) (h:e.Args=[c,a,b]):tanE fr o_ e=choT c (tanE fr o_ a) (tanE fr o_ b):=by
 rw [zDf,tanN,if_neg (by omega),if_neg (by omega),if_neg (by omega),if_neg (by omega),if_neg (by omega),if_neg (by omega),if_neg (by omega),if_pos ho,h];rfl
theorem zHz (ho:e.Op=12) (h:e.Args=[a]):tanE fr o_ e=if fr a=true then tanE fr o_ a else zeroX:=by
 rw [zDf,tanN,if_neg (by omega),if_neg (by omega),if_neg (by omega),if_neg (by omega),if_neg (by omega),if_neg (by omega),if_neg (by omega),if_neg (by omega),if_pos ho,h];rfl
theorem tan_val (ho:e.Op=1):tanE fr o_ e=zeroX:=by
 rw [zDf,tanN,if_neg (by omega),if_neg (by omega),if_neg (by omega),if_neg (by omega),if_neg (by omega),if_neg (by omega),if_neg (by omega),if_neg (by omega),if_neg (by omega)]
end
/-! ## Weights -/
theorem opE_wt1 (o:Int) (a:Ex):(opE o [a]).wt=1+a.wt:=by unfold opE;rw [Ex.wt];simp [idxWt,argsWt]
theorem zNb (o:Int) (a b:Ex):(opE o [a,b]).wt=1+a.wt+b.wt:=by unfold opE;rw [Ex.wt];simp [idxWt,argsWt];omega
theorem opE_wt3 (o:Int) (a b c:Ex):(opE o [a,b,c]).wt=1+a.wt+b.wt+c.wt:=by unfold opE;rw [Ex.wt];simp [idxWt,argsWt];omega
theorem zDp:zeroX.wt=1:=by decide+kernel
theorem sumT_wt (o:Int) (a b:Ex):(sumT o a b).wt<=1+a.wt+b.wt:=by
 unfold sumT
 repeat' split
 all_goals first|omega|(rw [opE_wt1];omega)|(rw [zNb];omega)
theorem prodT_wt (a b x y:Ex):(prodT a b x y).wt<=3+a.wt+b.wt+x.wt+y.wt:=by
 unfold prodT
 repeat' split
 all_goals first|(rw [zDp];omega)|(simp only [zNb];omega)
theorem quoT_wt (a b x y:Ex):(quoT a b x y).wt<=4+a.wt+2*b.wt+x.wt+y.wt:=by
 unfold quoT
 repeat' split
 all_goals first|(rw [zDp];omega)|(simp only [zNb,opE_wt1];omega)
theorem choT_wt (c x y:Ex):(choT c x y).wt<=1+c.wt+x.wt+y.wt:=by
 unfold choT
 split
 ·rw [zDp];omega
 ·rw [opE_wt3];omega
theorem zMg {w a b t x y:Nat} (hw:1+a+b<=w) (hx:x<=4*(a*a)) (hy:y<=4*(b*b)) (ht:t<=4+a+b+(a+b)+x+y):t<=4*(w*w):=by
 have h1:(1+a+b)*(1+a+b)<=w*w:=Nat.mul_le_mul hw hw
 have h2:(1+a+b)*(1+a+b)=1+2*a+2*b+a*a+b*b+2*(a*b):=by
  simp only [Nat.add_mul,Nat.mul_add,Nat.mul_one,Nat.one_mul,Nat.mul_comm b a];omega
 omega
theorem sq_one {w a t x:Nat} (hw:1+a<=w) (hx:x<=4*(a*a)) (ht:t<=4+x):t<=4*(w*w):=by
 have h1:(1+a)*(1+a)<=w*w:=Nat.mul_le_mul hw hw
 have h2:(1+a)*(1+a)=1+2*a+a*a:=by
  simp only [Nat.add_mul,Nat.mul_add,Nat.mul_one,Nat.one_mul];omega
 omega
theorem zGq {e a:Ex} (h:e.Args=[a]):1+a.wt<=e.wt:=by rw [Ex.wt_eq e,h];simp [argsWt];omega
theorem wI {e a b:Ex} (h:e.Args=[a,b]):1+a.wt+b.wt<=e.wt:=by rw [Ex.wt_eq e,h];simp [argsWt];omega
theorem args_wt3 {e a b c:Ex} (h:e.Args=[a,b,c]):1+a.wt+b.wt+c.wt<=e.wt:=by rw [Ex.wt_eq e,h];simp [argsWt];omega
theorem tan_wt {fr:Ex->Bool} {n:En} (hfr:∀a,fr a=true->FrK n a) (o_:List ByteArray) (e:Ex):FrK n e->(tanE fr o_ e).wt<=4*(e.wt*e.wt):=by
 induction e using Ex.ind with
 |_ e ih=>
  intro h
  have hpos:1*1<=e.wt*e.wt:=Nat.mul_le_mul e.wt_pos e.wt_pos
  rcases frk_op h with ho|ho|ho|ho|ho|ho|ho|ho|ho|ho|ho
  ·rw [tan_val ho,zDp];omega
  ·by_cases c:hasB o_ e.Name=true
   ·rw [tan_read ho c,Ex.wt]
    have:=Ex.wt_eq e
    have h2:e.wt*1<=e.wt*e.wt:=Nat.mul_le_mul (Nat.le_refl _) e.wt_pos
    simp only [argsWt,List.length_nil];omega
   ·rw [zMd ho c,zDp];omega
  ·obtain ⟨a,b,hab,ha,hb⟩:=zAj h (by omega)
   have h1:=ih a (by rw [hab];simp) ha
   have h2:=ih b (by rw [hab];simp) hb
   rw [zJk (by omega) hab]
   exact zMg (wI hab) h1 h2 (by have:=sumT_wt e.Op (tanE fr o_ a) (tanE fr o_ b);omega)
  ·obtain ⟨a,b,hab,ha,hb⟩:=zAj h (by omega)
   have h1:=ih a (by rw [hab];simp) ha
   have h2:=ih b (by rw [hab];simp) hb
   rw [zJk (by omega) hab]
   exact zMg (wI hab) h1 h2 (by have:=sumT_wt e.Op (tanE fr o_ a) (tanE fr o_ b);omega)
  ·obtain ⟨a,b,hab,ha,hb⟩:=zAj h (by omega)
   have h1:=ih a (by rw [hab];simp) ha
   have h2:=ih b (by rw [hab];simp) hb
   rw [tan_mul ho hab]
   exact zMg (wI hab) h1 h2 (by have:=prodT_wt a b (tanE fr o_ a) (tanE fr o_ b);omega)
  ·obtain ⟨a,b,hab,ha,hb⟩:=zAj h (by omega)
   have h1:=ih a (by rw [hab];simp) ha
   have h2:=ih b (by rw [hab];simp) hb
   rw [tan_div ho hab]
   exact zMg (wI hab) h1 h2 (by have:=quoT_wt a b (tanE fr o_ a) (tanE fr o_ b);omega)
  ·obtain ⟨a,hab,ha⟩:=frk_neg h ho
   have h1:=ih a (by rw [hab];simp) ha
   rw [zMe ho hab]
   refine sq_one (zGq hab) h1 ?_
   split
   ·rw [zDp];omega
   ·rw [opE_wt1];omega
  ·obtain ⟨a,b,hab,ha,hb⟩:=zAj h (by omega)
   have h1:=ih a (by rw [hab];simp) ha
   have h2:=ih b (by rw [hab];simp) hb
   rw [tan_min ho hab]
   exact zMg (wI hab) h1 h2 (by have:=choT_wt (opE 14 [a,b]) (tanE fr o_ a) (tanE fr o_ b);rw [zNb] at this;omega)
  ·obtain ⟨a,b,hab,ha,hb⟩:=zAj h (by omega)
   have h1:=ih a (by rw [hab];simp) ha
   have h2:=ih b (by rw [hab];simp) hb
   rw [tan_max ho hab]
   exact zMg (wI hab) h1 h2 (by have:=choT_wt (opE 14 [b,a]) (tanE fr o_ a) (tanE fr o_ b);rw [zNb] at this;omega)
  ·obtain ⟨c,a,b,hab,ha,hb⟩:=frk_if h ho
   have h1:=ih a (by rw [hab];simp) ha
   have h2:=ih b (by rw [hab];simp) hb
   rw [tan_if ho hab]
   have h3:=choT_wt c (tanE fr o_ a) (tanE fr o_ b)
   have h4:=args_wt3 hab
   have h5:(tanE fr o_ a).wt+(tanE fr o_ b).wt+4+(a.wt+b.wt)<=4*((1+a.wt+b.wt)*(1+a.wt+b.wt)):=zMg (w:=1+a.wt+b.wt) (Nat.le_refl _) h1 h2 (by omega)
   have h6:(1+a.wt+b.wt+c.wt)*(1+a.wt+b.wt+c.wt)<=e.wt*e.wt:=Nat.mul_le_mul (by omega) (by omega)
   have h7:(1+a.wt+b.wt)*(1+a.wt+b.wt)+c.wt*1<=(1+a.wt+b.wt+c.wt)*(1+a.wt+b.wt+c.wt):=by
    rw [Nat.add_mul (1+a.wt+b.wt) c.wt]
    exact Nat.add_le_add (Nat.mul_le_mul (Nat.le_refl _) (by omega)) (Nat.mul_le_mul (Nat.le_refl _) (by omega))
   omega
  ·obtain ⟨a,hab,hp⟩:=zIz h.1 ho
   rw [zHz ho hab]
   split
   ·next hf=>
    have h1:=ih a (by rw [hab];simp) (hfr a hf)
    exact sq_one (zGq hab) h1 (by omega)
   ·rw [zDp];omega
/-! ## Expr -/
def exprF (n:En) (o_:List ByteArray) (e:Ex):Ex×Int:=
  if (typeT n (indexT e) e).2=0 then
    (if (typeT n (indexT e) e).1.Kind=1/\losE (isFr n) o_ e=false then
      (if validE (tanE (isFr n) o_ e)=0 then (tanE (isFr n) o_ e,0) else (zEx,validE (tanE (isFr n) o_ e)))
     else (zEx,20))
  else (zEx,(typeT n (indexT e) e).2)
theorem mapCs (l:List Ex):l.map Ex.cs=l.map Ex.cells:=by
 refine List.map_congr_left fun a _=>(Ex.cells_eq a).symm
theorem read_cs {e:Ex} (h:partE e=0) (ho:e.Op=3) (s:ByteArray):[cI e.Op,cS s,cI e.Val.N,cI e.Val.D,cI e.Ty.Kind,cI e.Ty.Bits,cI e.Ty.Frac,cI e.Ty.Round,cI e.Ty.Over,cI e.Lin.K,.sl 2 (e.Lin.L.map Mono.cells),.sl 4 (e.Idx.map Ix.cells),.sl 13 (e.Args.map Ex.cells)]=(Ex.mk 3 s ⟨0,0⟩ ⟨0,0,0,0,0⟩ ⟨0,[]⟩ e.Idx []).cs:=by
 have h2:=read_node h ho
 cases e with
 |mk o nm v t l i q=>
  injection h2 with e1 e2 e3 e4 e5 e6 e7
  subst e1;subst e3;subst e4;subst e5;subst e7
  rfl
theorem zAz {o:Int} {l:List Ex} {x:Ex} (h:x∈vArgs o l):x∈l:=by
 unfold vArgs at h
 split at h
 ·exact List.mem_of_mem_tail h
 ·exact h
theorem zHt {o:Int} {l:List Ex}:(vArgs o l).length<=l.length:=by
 unfold vArgs
 split
 ·rw [List.length_tail];omega
 ·exact Nat.le_refl _
theorem getD_wt {l:List Ex} {e:Ex} (h:l=e.Args) (k:Nat):(l.getD k zEx).wt<=e.wt:=by
 subst h
 rw [List.getD_eq_getElem?_getD]
 cases c:e.Args[k]? with
 |none=>have:=e.wt_pos;show zEx.wt<=_;have:zEx.wt=1:=(by decide+kernel);omega
 |some a=>have:=Ex.arg_wt (List.mem_of_getElem? c);show a.wt<=_;omega
theorem zCg {e:Ex} (h:partE e=0) (ho:e.Op=12):e.Args.length=1:=by
 obtain ⟨a,hab,_⟩:=zIz h ho;rw [hab];rfl
theorem cast_getD {e a:Ex} (h:partE e=0) (ho:e.Op=12) (ha:e.Args.getD 0 zEx=a):partE a=0:=by
 obtain ⟨x,hab,hx⟩:=zIz h ho
 rw [hab] at ha
 have:x=a:=ha
 rw [←this];exact hx
theorem if_len {e:Ex} (h:partE e=0) (ho:e.Op=11):1<=e.Args.length:=by
 have hl:=zGz h
 rw [ho] at hl
 have h4:nArgs 11=3:=by decide
 omega
section
variable {n:En} {o_:List ByteArray} {e:Ex} {t:Ty×Int}
theorem exprF_1 (ht:typeT n (indexT e) e=t) (h:¬t.2=0):exprF n o_ e=(zEx,t.2):=by unfold exprF;rw [ht,if_neg h]
theorem exprF_2 (ht:typeT n (indexT e) e=t) (h:t.2=0) (h2:¬(t.1.Kind=1/\losE (isFr n) o_ e=false)):exprF n o_ e=(zEx,20):=by unfold exprF;rw [ht,if_pos h,if_neg h2]
theorem exprF_3 (ht:typeT n (indexT e) e=t) (h:t.2=0) (h2:t.1.Kind=1/\losE (isFr n) o_ e=false) (h3:¬validE (tanE (isFr n) o_ e)=0):exprF n o_ e=(zEx,validE (tanE (isFr n) o_ e)):=by unfold exprF;rw [ht,if_pos h,if_pos h2,if_neg h3]
theorem exprF_4 (ht:typeT n (indexT e) e=t) (h:t.2=0) (h2:t.1.Kind=1/\losE (isFr n) o_ e=false) (h3:validE (tanE (isFr n) o_ e)=0):exprF n o_ e=(tanE (isFr n) o_ e,0):=by unfold exprF;rw [ht,if_pos h,if_pos h2,if_pos h3]
end
end Go.Br
end
section
namespace Go.Br
open Go Go.Eng Go.L41
def nPm:Pm:=⟨bs [],⟨0,0,0,0,0⟩,[]⟩
def nDf:Df:=⟨bs [],⟨0,0,0,0,0⟩,[],[],0,zEx⟩
def nPg:Pg:=⟨[],[],[],[],[]⟩
def fndP (s:ByteArray):List Pm->Option Pm
 |[]=>none
 |x::r=>if x.Name=s then some x else fndP s r
theorem fndP_yes {s:ByteArray} {l:List Pm} {k:Nat} {x:Pm} {R:Option Pm} (h:l[k]? =some x) (hp:R=fndP s (l.drop k)) (c:x.Name=s):R=some x:=by
 rw [hp,qM h,fndP,if_pos c]
theorem fndP_no {s:ByteArray} {l:List Pm} {k:Nat} {x:Pm} {R:Option Pm} (h:l[k]? =some x) (hp:R=fndP s (l.drop k)) (c:¬x.Name=s):R=fndP s (l.drop (k+1)):=by
 rw [hp,qM h,fndP,if_neg c]
theorem fndP_end {s:ByteArray} {l:List Pm} {k:Nat} {R:Option Pm} (hp:R=fndP s (l.drop k)) (c:¬k<l.length):R=none:=by
 rw [hp,kB c,fndP]
theorem fndP_mem {s:ByteArray} {x:Pm}:∀{l:List Pm},fndP s l=some x->x∈l/\x.Name=s
 |y::r,h=>by
  rw [fndP] at h
  by_cases c:y.Name=s
  ·rw [if_pos c] at h;injection h with h;subst h;exact ⟨by simp,c⟩
  ·rw [if_neg c] at h;have:=fndP_mem h;exact ⟨by simp [this.1],this.2⟩
def pmOf (p:Pg) (s:ByteArray):Pm:=(fndP s p.Params).getD nPm
def nmE (x:Option Pm) (dup:Bool):Int:=match x with
 |none=>9
 |some x=>if dup=true then 8 else if x.T.Kind=1 then 0 else 20
def chkO (p:Pg):List ByteArray->List ByteArray->Int
 |_,[]=>0
 |seen,s::r=>if nmE (fndP s p.Params) (hasB seen s)=0 then chkO p (seen++[s]) r else nmE (fndP s p.Params) (hasB seen s)
theorem chkO_next {p:Pg} {l:List ByteArray} {k:Nat} {s:ByteArray} {R:Int} (h:l[k]? =some s) (hp:R=chkO p (l.take k) (l.drop k)) (c:nmE (fndP s p.Params) (hasB (l.take k) s)=0):R=chkO p (l.take (k+1)) (l.drop (k+1)):=by
 rw [hp,qM h,chkO,if_pos c,qR h]
theorem chkO_no {p:Pg} {l:List ByteArray} {k:Nat} {s:ByteArray} {R e:Int} (h:l[k]? =some s) (hp:R=chkO p (l.take k) (l.drop k)) (c:nmE (fndP s p.Params) (hasB (l.take k) s)=e) (h0:¬e=0):R=e:=by
 rw [hp,qM h,chkO,c,if_neg h0]
theorem chkO_end {p:Pg} {l:List ByteArray} {k:Nat} {R:Int} (hp:R=chkO p (l.take k) (l.drop k)) (c:¬k<l.length):R=0:=by
 rw [hp,kB c,chkO]
def morP (p:Pg) (l:List ByteArray):List Pm:=l.map fun s=>⟨dNm s,(pmOf p s).T,(pmOf p s).Dims⟩
theorem valid_defs {p:Pg} (h:(validM p).2=0):∀d,d∈p.Defs->isNameB d.Name=true:=by
 rw [validM_R] at h
 obtain ⟨a',h5,_⟩:=zJt p p rfl p.Params _ _ (validR_of h).2.2.2
 intro d hd
 obtain ⟨i,hi⟩:=List.getElem?_of_mem hd
 have h1:=defsR_at p p.Defs _ _ _ h5 i d hi
 have h2:nameR d.Name ((p.Sizes++p.Params.map Pm.Name)++(p.Defs.take i).map Df.Name)=0:=Decidable.byContradiction fun c=>by rw [defR_1 c] at h1;exact c h1
 unfold nameR at h2
 by_cases g:isNameB d.Name=true
 ·exact g
 ·rw [if_neg g] at h2;exact absurd h2 (by decide)
theorem name_size {s:ByteArray} (h:isNameB s=true):s.size<=16:=by
 rcases Nat.lt_or_ge 16 s.size with c|c
 ·rw [name_short (by rw [Bool.or_eq_true,Bool.or_eq_true];exact .inl (.inr (decide_eq_true (by omega))))] at h;cases h
 ·exact c
def dDf (d:Df) (b:Ex):Df:=⟨dNm d.Name,d.T,d.Dims,d.Red,d.Fold,b⟩
def derF (n:En) (d:Df) (A:List ByteArray):Df×Bool×Int:=
 if losE (isFr n) A d.Body=true then (nDf,false,20) else
 if ¬d.T.Kind=1∨rdsE A d.Body=false then (nDf,false,0) else
 if d.Fold=2∨d.Fold=3∨d.Fold=4 then (nDf,false,20) else
 if (exprF n A d.Body).2=0 then (dDf d (exprF n A d.Body).1,true,0) else (nDf,false,(exprF n A d.Body).2)
def defG (n:En):List Df->List ByteArray->List Df->List Df×List ByteArray×Int
 |O,A,[]=>(O,A,0)
 |O,A,d::r=>if (derF n d A).2.2=0 then (if (derF n d A).2.1=true then defG n (O++[d,(derF n d A).1]) (A++[d.Name]) r else defG n (O++[d]) A r) else ([],[],(derF n d A).2.2)
theorem defG_err {n:En} {O:List Df} {A:List ByteArray} {l:List Df} {k:Nat} {d:Df} {R:List Df×List ByteArray×Int} (h:l[k]? =some d) (hp:R=defG n O A (l.drop k)) (c:¬(derF n d A).2.2=0):R=([],[],(derF n d A).2.2):=by
 rw [hp,qM h,defG,if_neg c]
theorem defG_yes {n:En} {O:List Df} {A:List ByteArray} {l:List Df} {k:Nat} {d:Df} {R:List Df×List ByteArray×Int} (h:l[k]? =some d) (hp:R=defG n O A (l.drop k)) (c:(derF n d A).2.2=0) (c2:(derF n d A).2.1=true):R=defG n (O++[d,(derF n d A).1]) (A++[d.Name]) (l.drop (k+1)):=by
 rw [hp,qM h,defG,if_pos c,if_pos c2]
theorem defG_no {n:En} {O:List Df} {A:List ByteArray} {l:List Df} {k:Nat} {d:Df} {R:List Df×List ByteArray×Int} (h:l[k]? =some d) (hp:R=defG n O A (l.drop k)) (c:(derF n d A).2.2=0) (c2:(derF n d A).2.1=false):R=defG n (O++[d]) A (l.drop (k+1)):=by
 rw [hp,qM h,defG,if_pos c,if_neg (by rw [c2];simp)]
theorem defG_end {n:En} {O:List Df} {A:List ByteArray} {l:List Df} {k:Nat} {R:List Df×List ByteArray×Int} (hp:R=defG n O A (l.drop k)) (c:¬k<l.length):R=(O,A,0):=by
 rw [hp,kB c,defG]
theorem zOa (n:En):∀(l O:List Df) (A:List ByteArray),(defG n O A l).2.2=0->∀d,d∈O∨d∈l->d∈(defG n O A l).1
 |[],O,A,_,d,hd=>by
  rw [defG]
  rcases hd with hd|hd
  ·exact hd
  ·cases hd
 |x::r,O,A,h,d,hd=>by
  rw [defG] at h⊢
  by_cases c:(derF n x A).2.2=0
  ·rw [if_pos c] at h⊢
   by_cases c2:(derF n x A).2.1=true
   ·rw [if_pos c2] at h⊢
    refine zOa n r _ _ h d ?_
    rcases hd with hd|hd
    ·exact .inl (by simp [hd])
    ·rcases List.mem_cons.1 hd with rfl|hd
     ·exact .inl (by simp)
     ·exact .inr hd
   ·rw [if_neg c2] at h⊢
    refine zOa n r _ _ h d ?_
    rcases hd with hd|hd
    ·exact .inl (by simp [hd])
    ·rcases List.mem_cons.1 hd with rfl|hd
     ·exact .inl (by simp)
     ·exact .inr hd
  ·rw [if_neg c] at h;exact absurd h c
theorem expr_wt (n:En) (A:List ByteArray) (e:Ex):(exprF n A e).1.wt<=4*(e.wt*e.wt):=by
 have hpos:1*1<=e.wt*e.wt:=Nat.mul_le_mul e.wt_pos e.wt_pos
 have hz:zEx.wt=1:=by decide+kernel
 unfold exprF
 by_cases c:(typeT n (indexT e) e).2=0
 ·rw [if_pos c]
  by_cases d:(typeT n (indexT e) e).1.Kind=1/\losE (isFr n) A e=false
  ·rw [if_pos d]
   have:=tan_wt (fr:=isFr n) (fun a ha=>zLm ha) A e (zLh c d.1)
   split
   ·exact this
   ·show zEx.wt<=_;omega
  ·rw [if_neg d];show zEx.wt<=_;omega
 ·rw [if_neg c];show zEx.wt<=_;omega
/-! ## Prog -/
def outG (p:Pg) (O:List Df) (A:List ByteArray) (M:List Pm):Pg:=⟨p.Sizes,p.Where,p.Params++M,O,p.Outs++(p.Outs.filter (hasB A)).map dNm⟩
def progF (p:Pg) (o_:List ByteArray):Pg×Int:=
  if (validM p).2=0 then
    (if chkO p [] o_=0 then
      (if (defG p.en [] o_ p.Defs).2.2=0 then
        (if (validM (outG p (defG p.en [] o_ p.Defs).1 (defG p.en [] o_ p.Defs).2.1 (morP p o_))).2=0 then (outG p (defG p.en [] o_ p.Defs).1 (defG p.en [] o_ p.Defs).2.1 (morP p o_),0)
         else (nPg,(validM (outG p (defG p.en [] o_ p.Defs).1 (defG p.en [] o_ p.Defs).2.1 (morP p o_))).2))
       else (nPg,(defG p.en [] o_ p.Defs).2.2))
     else (nPg,chkO p [] o_))
  else (nPg,(validM p).2)
section
variable {p:Pg} {o_:List ByteArray} {R:List Df×List ByteArray×Int}
theorem progF_1 (h:¬(validM p).2=0):progF p o_=(nPg,(validM p).2):=by unfold progF;rw [if_neg h]
theorem progF_2 (h:(validM p).2=0) (h2:¬chkO p [] o_=0):progF p o_=(nPg,chkO p [] o_):=by unfold progF;rw [if_pos h,if_neg h2]
theorem progF_3 (h:(validM p).2=0) (h2:chkO p [] o_=0) (hR:defG p.en [] o_ p.Defs=R) (h3:¬R.2.2=0):progF p o_=(nPg,R.2.2):=by unfold progF;rw [if_pos h,if_pos h2,hR,if_neg h3]
theorem progF_4 (h:(validM p).2=0) (h2:chkO p [] o_=0) (hR:defG p.en [] o_ p.Defs=R) (h3:R.2.2=0) (h4:¬(validM (outG p R.1 R.2.1 (morP p o_))).2=0):progF p o_=(nPg,(validM (outG p R.1 R.2.1 (morP p o_))).2):=by unfold progF;rw [if_pos h,if_pos h2,hR,if_pos h3,if_neg h4]
theorem progF_5 (h:(validM p).2=0) (h2:chkO p [] o_=0) (hR:defG p.en [] o_ p.Defs=R) (h3:R.2.2=0) (h4:(validM (outG p R.1 R.2.1 (morP p o_))).2=0):progF p o_=(outG p R.1 R.2.1 (morP p o_),0):=by unfold progF;rw [if_pos h,if_pos h2,hR,if_pos h3,if_pos h4]
end
theorem progF_err {p:Pg} {o_:List ByteArray} (h:¬(progF p o_).2=0):(progF p o_).1=nPg:=by
 unfold progF at h⊢
 by_cases c1:(validM p).2=0
 ·rw [if_pos c1] at h⊢
  by_cases c2:chkO p [] o_=0
  ·rw [if_pos c2] at h⊢
   by_cases c3:(defG p.en [] o_ p.Defs).2.2=0
   ·rw [if_pos c3] at h⊢
    split
    ·next c4=>rw [if_pos c4] at h;exact absurd rfl h
    ·rfl
   ·rw [if_neg c3]
  ·rw [if_neg c2]
 ·rw [if_neg c1]
theorem progF_ok {p:Pg} {o_:List ByteArray} (h:(progF p o_).2=0):(validM (progF p o_).1).2=0/\(progF p o_).1.Params.length=p.Params.length+o_.length/\(∃X,(progF p o_).1.Outs=p.Outs++X)/\∀d,d∈p.Defs->∃k,defOf d.Name (progF p o_).1.Defs=(k:Nat)/\(progF p o_).1.Defs[k]? =some d:=by
 unfold progF at h⊢
 by_cases c1:(validM p).2=0
 ·rw [if_pos c1] at h⊢
  by_cases c2:chkO p [] o_=0
  ·rw [if_pos c2] at h⊢
   by_cases c3:(defG p.en [] o_ p.Defs).2.2=0
   ·rw [if_pos c3] at h⊢
    split
    ·next c4=>
     refine ⟨c4,?_,⟨_,rfl⟩,fun d hd=>?_⟩
     ·show (p.Params++morP p o_).length=_
      unfold morP
      rw [List.length_append,List.length_map]
     ·obtain ⟨k,hk⟩:=List.getElem?_of_mem (zOa p.en p.Defs [] o_ c3 d (.inr hd))
      exact ⟨k,(pre_def c4 (i:=k) hk).2.1,hk⟩
    ·next c4=>rw [if_neg c4] at h;exact absurd h c4
   ·rw [if_neg c3] at h;exact absurd h c3
  ·rw [if_neg c2] at h;exact absurd h c2
 ·rw [if_neg c1] at h;exact absurd h c1
/-! ## For the walks -/
theorem nmE_1 {s:ByteArray} {l:List Pm} {d:Bool} (h:(fndP s l).isSome=false):nmE (fndP s l) d=9:=by
 cases c:fndP s l with
 |none=>rfl
 |some x=>rw [c] at h;cases h
theorem nmE_2 {s:ByteArray} {l:List Pm} (h:(fndP s l).isSome=true):nmE (fndP s l) true=8:=by
 cases c:fndP s l with
 |none=>rw [c] at h;cases h
 |some x=>rfl
theorem nmE_3 {s:ByteArray} {l:List Pm} (h:(fndP s l).isSome=true) (hk:¬((fndP s l).getD nPm).T.Kind=1):nmE (fndP s l) false=20:=by
 cases c:fndP s l with
 |none=>rw [c] at h;cases h
 |some x=>rw [c] at hk;exact if_neg hk
theorem nmE_4 {s:ByteArray} {l:List Pm} (h:(fndP s l).isSome=true) (hk:((fndP s l).getD nPm).T.Kind=1):nmE (fndP s l) false=0:=by
 cases c:fndP s l with
 |none=>rw [c] at h;cases h
 |some x=>rw [c] at hk;exact if_pos hk
section
variable {n:En} {d:Df} {A:List ByteArray} {X:Ex×Int}
theorem derF_1 (h:losE (isFr n) A d.Body=true):derF n d A=(nDf,false,20):=by unfold derF;rw [if_pos h]
theorem derF_2 (h:losE (isFr n) A d.Body=false) (h2:¬d.T.Kind=1∨rdsE A d.Body=false):derF n d A=(nDf,false,0):=by unfold derF;rw [if_neg (by rw [h];simp),if_pos h2]
theorem derF_3 (h:losE (isFr n) A d.Body=false) (h2:¬(¬d.T.Kind=1∨rdsE A d.Body=false)) (h3:d.Fold=2∨d.Fold=3∨d.Fold=4):derF n d A=(nDf,false,20):=by unfold derF;rw [if_neg (by rw [h];simp),if_neg h2,if_pos h3]
theorem derF_4 (h:losE (isFr n) A d.Body=false) (h2:¬(¬d.T.Kind=1∨rdsE A d.Body=false)) (h3:¬(d.Fold=2∨d.Fold=3∨d.Fold=4)) (hX:exprF n A d.Body=X) (h4:¬X.2=0):derF n d A=(nDf,false,X.2):=by unfold derF;rw [if_neg (by rw [h];simp),if_neg h2,if_neg h3,hX,if_neg h4]
theorem derF_5 (h:losE (isFr n) A d.Body=false) (h2:¬(¬d.T.Kind=1∨rdsE A d.Body=false)) (h3:¬(d.Fold=2∨d.Fold=3∨d.Fold=4)) (hX:exprF n A d.Body=X) (h4:X.2=0):derF n d A=(dDf d X.1,true,0):=by unfold derF;rw [if_neg (by rw [h];simp),if_neg h2,if_neg h3,hX,if_pos h4]
end
end Go.Br
end
