/-
  Lists of strings,sorted and thinned (for a seat without slices.Sort at strings).
  The names that an expression reads,in plain Lean.
  Layer 17 in plain Lean: a valid program without its last definitions; what a definition reads.
  Sums of linear forms,exactly,in plain Lean: numbers of 64 and of 128 bits,merges of ascending lists,substitution.
  The reference's substitution of forms,in plain Lean: the sum,and the mapping of all forms of an expression.
  What the substitution of a form keeps,in plain Lean: valid forms stay valid,the name is gone,the shape of an expression stays.
  The comparison of expressions is a total order,in plain Lean.
  Layer 14 in plain Lean: short names,replacing,the names in forms,the example that every statement checks.
  Ascending lists of names,one name added at a time,in plain Lean.
  Names of index variables: both ways to list them give the same names.
  Forward differentiation in plain Lean: the tangent of an expression,what is read,what is lost.
  Forward differentiation of programs in plain Lean; a program with tangents keeps what the original one has.
  Small programs and few names; the bounds of a program with tangents; the chapter's example.
  Numerals,and the first number that is free.
  Repeated subexpressions in plain Lean: occurrences,classes,replacing.
  Extraction of repeated subexpressions in plain Lean: the first definition of a class,the best class,the new definition.
  Definitions that repeat an earlier one,in plain Lean: forms with names exchanged.
  Definitions that repeat an earlier one,in plain Lean: expressions and definitions; the merging of definitions.
  What a valid program's definitions have: axes of different names,none of them a size; forms over axes and sizes alone.
  Tables of names and where something stands in a list,as the walks of chapter 32 need them (parts of CseZ and CseW).
  Conditions: none.
-/
import Derived.Test.YtgfomfnjionbeaaGreatDoorCfg
import Derived.Test.YtgfomfnjionbeaaGreatDoorEngZ
import Derived.Sort.OwnSorted
import Derived.Lib.OwnBridge
import Derived.Test.YtgfomfnjionbeaaGreatDoorPlain
import Derived.Lib.ItoaNum
set_option linter.unusedSimpArgs false
set_option linter.unusedVariables false
section
namespace Go.Br
open Go Go.Eng Go.RowKit Go.Proofs Go.L41
def toB (l:List (List UInt8)):List ByteArray:=l.map fun x=>⟨x.toArray⟩
def ofB (l:List ByteArray):List (List UInt8):=l.map (·.data.toList)
def sortB (l:List ByteArray):List ByteArray:=toB ((ofB l).mergeSort fun x y=>decide (x<=y))
def thinB (l:List ByteArray):List ByteArray:=toB (Lib.compact (ofB l))
end Go.Br
end
section
namespace Go.Br
open Go Go.Eng Go.L41
def fromX (x:Ix):List ByteArray:=if x.From=bs [] then [] else [x.From]
def readsI (l:List Ix):List ByteArray:=l.flatMap fromX
def opRead (x:Ex):List ByteArray:=if x.Op=3 then [x.Name] else []
def readsN (x:Ex):List ByteArray:=opRead x++readsI x.Idx
def readsA (l:List Ex):List ByteArray:=l.flatMap readsN
def readsT (e:Ex):List ByteArray:=thinB (sortB (readsA (nodes e)))
theorem mem_toB {s:ByteArray} {l:List (List UInt8)}:s∈toB l↔s.data.toList∈l:=by
 unfold toB
 rw [List.mem_map]
 constructor
 ·rintro ⟨x,hx,rfl⟩;simpa using hx
 ·intro h;exact ⟨_,h,by cases s;simp⟩
theorem mem_ofB {s:ByteArray} {l:List ByteArray}:s.data.toList∈ofB l↔s∈l:=by
 unfold ofB
 rw [List.mem_map]
 constructor
 ·rintro ⟨x,hx,e⟩
  have:x=s:=by cases x;cases s;congr 1;exact Array.toList_inj.1 e
  rw [←this];exact hx
 ·intro h;exact ⟨s,h,rfl⟩
theorem mem_sortB {s:ByteArray} {l:List ByteArray}:s∈sortB l↔s∈l:=by
 unfold sortB;rw [mem_toB,List.mem_mergeSort,mem_ofB]
theorem mem_thinB {s:ByteArray} {l:List ByteArray} (h:s∈thinB l):s∈l:=by
 unfold thinB at h
 rw [mem_toB] at h
 rw [←mem_ofB]
 unfold Lib.compact Lib.compactUpTo at h
 obtain ⟨i,hi,e⟩:=List.mem_map.1 h
 have hi2:=(List.mem_filter.1 hi).1
 have hlt:=List.mem_range.1 hi2
 rw [←e,getElem!_pos _ i (by simpa using hlt)]
 simp
theorem mem_readsT {s:ByteArray} {e:Ex} (h:s∈readsT e):∃x,x∈nodes e/\((x.Op=3/\s=x.Name)∨∃i,i∈x.Idx/\i.From≠bs []/\s=i.From):=by
 unfold readsT at h
 have h:=mem_sortB.1 (mem_thinB h)
 obtain ⟨x,hx,h⟩:=List.mem_flatMap.1 h
 refine ⟨x,hx,?_⟩
 unfold readsN at h
 rcases List.mem_append.1 h with h|h
 ·left;unfold opRead at h;split at h
  ·rename_i h3;exact ⟨h3,by simpa using h⟩
  ·cases h
 ·right
  obtain ⟨i,hi,h⟩:=List.mem_flatMap.1 h
  unfold fromX at h
  split at h
  ·cases h
  ·rename_i h3;exact ⟨i,hi,h3,by simpa using h⟩
end Go.Br
end
section
namespace Go.Br
open Go Go.Eng Go.L41
/-! ## More definitions -/
theorem findD_take {s:ByteArray}:∀(l:List Df) (k:Nat),(findD s (l.take k)).ok=true->findD s l=findD s (l.take k)
 |[],k,h=>by simp
 |d::r,0,h=>by simp [findD] at h
 |d::r,k+1,h=>by
  rw [List.take_succ_cons] at h⊢
  unfold findD at h⊢
  by_cases c:d.Name=s
  ·rw [decide_eq_true c];rfl
  ·rw [decide_eq_false c] at h⊢
   exact findD_take r k h
theorem findP_take {s:ByteArray} {ds:List Df} {k:Nat}:∀(l:List Pm),(findP s (ds.take k) l).ok=true->findP s ds l=findP s (ds.take k) l
 |[],h=>findD_take ds k h
 |x::r,h=>by
  unfold findP at h⊢
  by_cases c:x.Name=s
  ·rw [decide_eq_true c];rfl
  ·rw [decide_eq_false c] at h⊢
   exact findP_take r h
theorem findD_mem {s:ByteArray}:∀(l:List Df),(findD s l).ok=true->∃d,d∈l/\d.Name=s
 |[],h=>by simp [findD] at h
 |d::r,h=>by
  unfold findD at h
  by_cases c:d.Name=s
  ·exact ⟨d,by simp,c⟩
  ·rw [decide_eq_false c] at h
   obtain ⟨y,hy,e⟩:=findD_mem r h
   exact ⟨y,by simp [hy],e⟩
theorem findP_mem {s:ByteArray} {ds:List Df}:∀(l:List Pm),(findP s ds l).ok=true->(∃x,x∈l/\x.Name=s)∨∃d,d∈ds/\d.Name=s
 |[],h=>.inr (findD_mem ds h)
 |x::r,h=>by
  unfold findP at h
  by_cases c:x.Name=s
  ·exact .inl ⟨x,by simp,c⟩
  ·rw [decide_eq_false c] at h
   rcases findP_mem r h with ⟨y,hy,e⟩|h2
   ·exact .inl ⟨y,by simp [hy],e⟩
   ·exact .inr h2
def More (a b:En):Prop:=∀s,(a.find s).ok=true->b.find s=a.find s
theorem indexK_more {a b:En} (h:More a b) {k:ByteArray->Bool} {x:Ix} (hx:indexK a k x=0):indexK b k x=0:=by
 unfold indexK at hx⊢
 by_cases c:x.From=bs []
 ·rw [decide_eq_true c] at hx⊢;exact hx
 ·rw [decide_eq_false c] at hx⊢
  cases c2:(a.find x.From).ok with
  |false=>rw [c2] at hx;simp at hx
  |true=>rw [h _ c2];exact hx
theorem zPs {a b:En} (h:More a b) {k:ByteArray->Bool}:∀l:List Ix,indexL a k l=0->indexL b k l=0
 |[],_=>rfl
 |x::r,hx=>by
  unfold indexL at hx⊢
  by_cases c:indexK a k x=0
  ·rw [decide_eq_true c] at hx
   rw [decide_eq_true (indexK_more h c)]
   exact zPs h r hx
  ·rw [decide_eq_false c] at hx
   exact absurd hx c
theorem readK_of {a:En} {k:ByteArray->Bool} {e:Ex} (hx:(readK a k e).2=0):(a.find e.Name).ok=true/\e.Idx.length=(a.find e.Name).dims.length/\indexL a k e.Idx=0:=by
 unfold readK at hx
 cases c:(a.find e.Name).ok with
 |false=>rw [c] at hx;simp at hx
 |true=>
  rw [c] at hx
  by_cases c2:e.Idx.length=(a.find e.Name).dims.length
  ·rw [decide_eq_true c2] at hx
   by_cases c3:indexL a k e.Idx=0
   ·exact ⟨rfl,c2,c3⟩
   ·rw [decide_eq_false c3] at hx;exact absurd hx c3
  ·rw [decide_eq_false c2] at hx;simp at hx
theorem readK_more {a b:En} (h:More a b) {k:ByteArray->Bool} {e:Ex} (hx:(readK a k e).2=0):readK b k e=readK a k e:=by
 obtain ⟨h1,h2,h3⟩:=readK_of hx
 have e1:=h _ h1
 rw [readK_0 h1 h2 h3,readK_0 (by rw [e1];exact h1) (by rw [e1];exact h2) (zPs h _ h3),e1]
theorem ofN_more {a b:En} (h:More a b) {k:ByteArray->Bool} {e:Ex} {l:List Ty} (hx:(ofN a k e l).2=0):ofN b k e l=ofN a k e l:=by
 unfold ofN at hx⊢
 by_cases c1:e.Op=1∨e.Op=12
 ·rw [if_pos c1,if_pos c1]
 rw [if_neg c1] at hx⊢
 rw [if_neg c1]
 by_cases c2:e.Op=2
 ·rw [if_pos c2,if_pos c2]
 rw [if_neg c2] at hx⊢
 rw [if_neg c2]
 by_cases c3:e.Op=3
 ·rw [if_pos c3] at hx⊢
  rw [if_pos c3]
  exact readK_more h hx
 ·rw [if_neg c3,if_neg c3]
mutual
theorem nodeT_more {a b:En} (h:More a b) (k:ByteArray->Bool):∀e:Ex,(nodeT (ofN a k) e).2=0->nodeT (ofN b k) e=nodeT (ofN a k) e
 |.mk o nm v t l i xs,hx=>by
  rw [nodeT] at hx⊢
  rw [nodeT]
  by_cases c:(nodeL (ofN a k) xs).2=0
  ·rw [if_pos c] at hx⊢
   rw [nodeL_more h k xs c,if_pos c]
   exact ofN_more h hx
  ·rw [if_neg c] at hx;exact absurd hx c
theorem nodeL_more {a b:En} (h:More a b) (k:ByteArray->Bool):∀l:List Ex,(nodeL (ofN a k) l).2=0->nodeL (ofN b k) l=nodeL (ofN a k) l
 |[],_=>rfl
 |x::r,hx=>by
  rw [nodeL] at hx⊢
  rw [nodeL]
  by_cases c:(nodeT (ofN a k) x).2=0
  ·rw [if_pos c] at hx⊢
   by_cases d:(nodeL (ofN a k) r).2=0
   ·rw [nodeT_more h k x c,nodeL_more h k r d,if_pos c]
   ·rw [if_neg d] at hx;exact absurd hx d
  ·rw [if_neg c] at hx;exact absurd hx c
end
theorem zJu {n:En} {vars:List ByteArray} {e:Ex} (h:(typeT n vars e).2=0):validE e=0/\isCond e=false/\(nodeT (ofN n (knB n.sz vars)) e).2=0:=by
 unfold typeT typeBy at h
 by_cases c:validE e=0
 ·rw [if_pos c] at h
  by_cases d:isCond e=true
  ·rw [if_pos d] at h;cases h
  ·rw [if_neg d] at h
   by_cases f:(nodeT (ofN n (knB n.sz vars)) e).2=0
   ·exact ⟨c,by simpa using d,f⟩
   ·rw [if_neg f] at h;exact absurd h f
 ·rw [if_neg c] at h;exact absurd h c
theorem typeT_more {a b:En} (h:More a b) (hs:b.sz=a.sz) {vars:List ByteArray} {e:Ex} (hx:(typeT a vars e).2=0):typeT b vars e=typeT a vars e:=by
 obtain ⟨h1,h2,h3⟩:=zJu hx
 rw [typeT_of rfl h1 h2,typeT_of rfl h1 h2,hs,nodeT_more h _ e h3]
/-! ## What an expression reads is found -/
theorem nodeT_all (N:Ex->List Ty->Ty×Int) (e:Ex):(nodeT N e).2=0->∀x,x∈nodes e->∃l,(N x l).2=0:=by
 induction e using Ex.ind with
 |_ e ih=>
  intro h x hx
  rw [zIl] at h
  by_cases c:(nodeL N e.Args).2=0
  ·rw [if_pos c] at h
   rw [zAl] at hx
   rcases List.mem_cons.1 hx with rfl|hx
   ·exact ⟨_,h⟩
   ·have key:∀l:List Ex,(∀a,a∈l->a∈e.Args)->(nodeL N l).2=0->x∈nodesL l->∃t,(N x t).2=0:=by
     intro l
     induction l with
     |nil=>intro _ _ h;simp [nodesL] at h
     |cons a r ih2=>
      intro hm hl hx
      rw [nodeL] at hl
      by_cases c1:(nodeT N a).2=0
      ·rw [if_pos c1] at hl
       by_cases c2:(nodeL N r).2=0
       ·rw [nodesL] at hx
        rcases List.mem_append.1 hx with hx|hx
        ·exact ih a (hm a (by simp)) c1 x hx
        ·exact ih2 (fun b hb=>hm b (by simp [hb])) c2 hx
       ·rw [if_neg c2] at hl;exact absurd hl c2
      ·rw [if_neg c1] at hl;exact absurd hl c1
    exact key e.Args (fun _ h=>h) c hx
  ·rw [if_neg c] at h;exact absurd h c
theorem indexL_of {a:En} {k:ByteArray->Bool}:∀l:List Ix,indexL a k l=0->∀x,x∈l->x.From≠bs []->(a.find x.From).ok=true
 |[],_,x,hx,_=>by cases hx
 |y::r,h,x,hx,hf=>by
  unfold indexL at h
  by_cases c:indexK a k y=0
  ·rw [decide_eq_true c] at h
   rcases List.mem_cons.1 hx with rfl|hx
   ·unfold indexK at c
    rw [decide_eq_false hf] at c
    cases d:(a.find x.From).ok with
    |true=>rfl
    |false=>rw [d] at c;simp at c
   ·exact indexL_of r h x hx hf
  ·rw [decide_eq_false c] at h;exact absurd h c
theorem reads_found {n:En} {vars:List ByteArray} {e:Ex} (h:(typeT n vars e).2=0):∀s,s∈readsT e->(n.find s).ok=true:=by
 intro s hs
 obtain ⟨h1,h2,h3⟩:=zJu h
 obtain ⟨x,hx,hr⟩:=mem_readsT hs
 obtain ⟨l,hl⟩:=nodeT_all _ e h3 x hx
 have hn:=zKz (zDm h1) x hx
 have hsy:=(zKj hn).1
 by_cases c:x.Op=3
 ·rw [zKh c] at hl
  obtain ⟨k1,_,k3⟩:=readK_of hl
  rcases hr with ⟨_,rfl⟩|⟨i,hi,hf,rfl⟩
  ·exact k1
  ·exact indexL_of _ k3 i hi hf
 ·have h0:x.Idx.length=0:=by
   unfold synOk at hsy
   simp only [Bool.and_eq_true,Bool.not_eq_true',Bool.and_eq_false_iff,Bool.not_eq_false',Bool.or_eq_false_iff,decide_eq_true_eq,decide_eq_false_iff_not] at hsy
   rcases hsy.1.2 with h|h
   ·exact absurd h c
   ·have:=h.2;omega
  rcases hr with ⟨h,_⟩|⟨i,hi,_,_⟩
  ·exact absurd h c
  ·have:=List.length_pos_of_mem hi;omega
theorem zGf (p:Pg):∀(l:List Df) (a:Int) (t:List ByteArray) (b:List Df),(defsR p a t b l).2=0->∀(i:Nat) (d:Df),l[i]? =some d->defR ⟨p.Sizes,p.Params,b++l.take i⟩ d (t++(l.take i).map Df.Name)=0
 |[],a,t,b,_,i,d,hd=>by simp at hd
 |x::r,a,t,b,h,i,d,hd=>by
  rw [defsR] at h
  by_cases c:defR ⟨p.Sizes,p.Params,b⟩ x t=0
  ·rw [if_pos c] at h
   cases i with
   |zero=>simp at hd;subst hd;simpa using c
   |succ i=>
    have:=zGf p r _ _ _ h i d (by simpa using hd)
    simpa [List.append_assoc] using this
  ·rw [if_neg c] at h;exact absurd h c
theorem zCn (p q:Pg) (hs:q.Sizes=p.Sizes):∀(l:List Pm) (a:Int) (t:List ByteArray),(paramsR p a t l).2=0->∃a',(defsR p a' (t++l.map Pm.Name) [] p.Defs).2=0/\paramsR q a t l=defsR q a' (t++l.map Pm.Name) [] q.Defs
 |[],a,t,h=>⟨a,by rw [paramsR] at h;simpa using h,by rw [paramsR];simp⟩
 |x::r,a,t,h=>by
  rw [paramsR] at h
  by_cases c:paramR x p.Sizes t=0
  ·rw [if_pos c] at h
   obtain ⟨a',h1,h2⟩:=zCn p q hs r _ _ h
   exact ⟨a',by simpa [List.append_assoc] using h1,by rw [paramsR,hs,if_pos c,h2];simp [List.append_assoc]⟩
  ·rw [if_neg c] at h;exact absurd h c
theorem zDq {p:Pg} (h:(validR p).2=0):limitOk p/\sizesR [] p.Sizes=0/\whereR p.Sizes p.Where=0/\(paramsR p 2 p.Sizes p.Params).2=0:=by
 unfold validR at h
 by_cases c1:limitOk p
 ·rw [if_pos c1] at h
  by_cases c2:sizesR [] p.Sizes=0
  ·rw [if_pos c2] at h
   by_cases c3:whereR p.Sizes p.Where=0
   ·rw [if_pos c3] at h;exact ⟨c1,c2,c3,h⟩
   ·rw [if_neg c3] at h;exact absurd h c3
  ·rw [if_neg c2] at h;exact absurd h c2
 ·rw [if_neg c1] at h;cases h
theorem hasB_mem17 {l:List ByteArray} {s:ByteArray} (h:hasB l s=false):s ∉ l:=fun k=>by
 unfold hasB at h
 rw [List.any_eq_false] at h
 exact h s k (by simp)
theorem defR_of {n:En} {d:Df} {t:List ByteArray} (h:defR n d t=0):d.Name ∉ t/\typeT n (namesD d) d.Body=(d.T,0):=by
 have h1:nameR d.Name t=0:=Decidable.byContradiction fun c=>by rw [defR_1 c] at h;exact c h
 have h2:tyOk d.T=true:=by
  cases c:tyOk d.T with
  |true=>rfl
  |false=>rw [defR_10 h1 c] at h;cases h
 have h3:¬(6<d.Dims.length∨6<d.Red.length):=fun c=>by rw [defR_11 h1 h2 c] at h;cases h
 rw [defR_ok h1 h2 h3] at h
 have h4:axesR n.sz n.sz (d.Dims++d.Red)=0:=Decidable.byContradiction fun c=>by rw [if_neg c] at h;exact c h
 rw [if_pos h4] at h
 have h5:foldR d=0:=Decidable.byContradiction fun c=>by rw [if_neg c] at h;exact c h
 rw [if_pos h5,←typeT_R] at h
 unfold tyErrD at h
 have h6:(typeT n (namesD d) d.Body).2=0:=Decidable.byContradiction fun c=>by rw [if_neg c] at h;exact c h
 rw [if_pos h6] at h
 have h7:(typeT n (namesD d) d.Body).1=d.T:=Decidable.byContradiction fun c=>by rw [if_neg c] at h;cases h
 refine ⟨hasB_mem17 ?_,Prod.ext h7 h6⟩
 cases c:hasB t d.Name with
 |false=>rfl
 |true=>
  unfold nameR at h1
  by_cases c2:isNameB d.Name=true
  ·rw [if_pos c2,if_pos c] at h1;cases h1
  ·rw [if_neg c2] at h1;cases h1
theorem defOf_lt {s:ByteArray}:∀(l:List Df) (i:Nat),(∃d,d∈l.take i/\d.Name=s)->defOf s l<i
 |[],i,⟨d,hd,_⟩=>by simp at hd
 |x::r,0,⟨d,hd,_⟩=>by simp at hd
 |x::r,i+1,⟨d,hd,e⟩=>by
  unfold defOf idxOf
  by_cases c:x.Name=s
  ·rw [decide_eq_true c];show (0:Int)<_;omega
  ·rw [decide_eq_false c]
   have h2:defOf s r<i:=defOf_lt r i ⟨d,by
    rw [List.take_succ_cons] at hd
    rcases List.mem_cons.1 hd with rfl|hd
    ·exact absurd e c
    ·exact hd,e⟩
   unfold defOf at h2
   simp only [cond_false]
   by_cases c3:idxOf (fun d:Df=>decide (d.Name=s)) r= -1
   ·rw [decide_eq_true c3];show (-1:Int)<_;omega
   ·rw [decide_eq_false c3];show _+1<_;push_cast;omega
theorem pre_def {p:Pg} (h:(validM p).2=0) {i:Nat} {d:Df} (hd:p.Defs[i]? =some d):typeT p.en (namesD d) d.Body=(d.T,0)/\defOf d.Name p.Defs=i/\∀s,s∈readsT d.Body->(p.en.find s).ok=true/\defOf s p.Defs<i:=by
 rw [zFn] at h
 obtain ⟨h1,h2,h3,h4⟩:=zDq h
 obtain ⟨a',h5,_⟩:=zCn p p rfl p.Params _ _ h4
 have key:=zGf p p.Defs _ _ _ h5
 have names:∀j y,p.Defs[j]? =some y->y.Name ∉ (p.Sizes++p.Params.map Pm.Name)++(p.Defs.take j).map Df.Name:=fun j y hy=>(defR_of (key j y hy)).1
 obtain ⟨_,ht⟩:=defR_of (key i d hd)
 rw [List.nil_append] at ht
 have hm:More ⟨p.Sizes,p.Params,p.Defs.take i⟩ p.en:=fun s hs=>findP_take p.Params hs
 refine ⟨?_,?_,fun s hs=>?_⟩
 ·rw [typeT_more hm rfl (by rw [ht]),ht]
 ·refine zCt hd (by simp) ?_
  rw [List.any_eq_false]
  intro y hy e
  have e2:y.Name=d.Name:=by simpa using e
  exact names i d hd (by rw [←e2];exact List.mem_append.2 (.inr (List.mem_map.2 ⟨y,hy,rfl⟩)))
 ·have hf:=reads_found (n:=⟨p.Sizes,p.Params,p.Defs.take i⟩) (by rw [ht]) s hs
  refine ⟨by rw [hm s hf];exact hf,?_⟩
  rcases findP_mem p.Params hf with ⟨x,hx,e⟩|⟨y,hy,e⟩
  ·have:defOf s p.Defs= -1:=by
    refine zAu ?_
    rw [List.any_eq_false]
    intro y hy e2
    have e3:y.Name=s:=by simpa using e2
    obtain ⟨j,hj⟩:=List.getElem?_of_mem hy
    exact names j y hj (List.mem_append.2 (.inl (List.mem_append.2 (.inr (List.mem_map.2 ⟨x,hx,by rw [e,e3]⟩)))))
   rw [this];omega
  ·exact defOf_lt p.Defs i ⟨y,hy,e⟩
end Go.Br
end
section
namespace Go.Br
open Go Go.Eng Go.L41
/-! ## The order of names -/
theorem bl_cons (a b:UInt8) (x y:List UInt8):Op.bytesLess (a::x) (b::y)=true↔a<b∨(a=b/\Op.bytesLess x y=true):=by
 rw [Op.bytesLess]
 by_cases h1:a<b<;>by_cases h2:a=b<;>simp [h1,h2]
theorem bl_trans:∀(x y z:List UInt8),Op.bytesLess x y=true->Op.bytesLess y z=true->Op.bytesLess x z=true
 |[],[],_,h,_=>by simp [Op.bytesLess] at h
 |[],_::_,[],_,h=>by simp [Op.bytesLess] at h
 |[],_::_,_::_,_,_=>by simp [Op.bytesLess]
 |_::_,[],_,h,_=>by simp [Op.bytesLess] at h
 |_::_,_::_,[],_,h=>by simp [Op.bytesLess] at h
 |a::x,b::y,c::z,h,k=>by
  rw [bl_cons] at h k⊢
  rcases h with h|⟨rfl,h⟩
  ·rcases k with k|⟨rfl,k⟩
   ·exact .inl (UInt8.lt_trans h k)
   ·exact .inl h
  ·rcases k with k|⟨rfl,k⟩
   ·exact .inl k
   ·exact .inr ⟨rfl,bl_trans x y z h k⟩
theorem bl_tri:∀(x y:List UInt8),Op.bytesLess x y=false->Op.bytesLess y x=false->x=y
 |[],[],_,_=>rfl
 |[],_::_,h,_=>by simp [Op.bytesLess] at h
 |_::_,[],_,h=>by simp [Op.bytesLess] at h
 |a::x,b::y,h,k=>by
  have h1:¬Op.bytesLess (a::x) (b::y)=true:=by rw [h];simp
  have k1:¬Op.bytesLess (b::y) (a::x)=true:=by rw [k];simp
  rw [bl_cons] at h1 k1
  have e:a=b:=UInt8.le_antisymm (UInt8.not_lt.1 fun c=>k1 (.inl c)) (UInt8.not_lt.1 fun c=>h1 (.inl c))
  subst e
  have h2:Op.bytesLess x y=false:=by
   cases c:Op.bytesLess x y with
   |false=>rfl
   |true=>exact absurd (.inr ⟨rfl,c⟩) h1
  have k2:Op.bytesLess y x=false:=by
   cases c:Op.bytesLess y x with
   |false=>rfl
   |true=>exact absurd (.inr ⟨rfl,c⟩) k1
  rw [bl_tri x y h2 k2]
theorem bl_irr:∀(x:List UInt8),Op.bytesLess x x=false
 |[]=>by simp [Op.bytesLess]
 |a::x=>by
  cases c:Op.bytesLess (a::x) (a::x) with
  |false=>rfl
  |true=>
   rw [bl_cons] at c
   rcases c with c|⟨_,c⟩
   ·exact absurd c (UInt8.lt_irrefl a)
   ·rw [bl_irr x] at c;cases c
theorem zGy {a b:ByteArray} (h:strLt a b=false) (k:strLt b a=false):a=b:=by
 have h1:=bl_tri _ _ h k
 rw [ByteArray.toList_eq,ByteArray.toList_eq] at h1
 exact ByteArray.ext (Array.toList_inj.1 h1)
theorem zOq (a:ByteArray):strLt a a=false:=bl_irr _
theorem zBq {a b c:ByteArray} (h:strLt a b=true) (k:strLt b c=true):strLt a c=true:=bl_trans _ _ _ h k
/-! ## Numbers -/
def r64 (n:Int):Prop:= -9223372036854775808<=n/\n<=9223372036854775807
instance (n:Int):Decidable (r64 n):=by unfold r64;infer_instance
def w64 (n:Int):Int:=IntKind.i64.wrap n
theorem w64_in {n:Int} (h:r64 n):w64 n=n:=IntWalk.i64_in n h
theorem w64_eq (n:Int):w64 n=(n+9223372036854775808)%18446744073709551616-9223372036854775808:=by unfold w64;rw [IntKind.wrap_i64]
theorem w64_r (n:Int):r64 (w64 n):=by rw [w64_eq];unfold r64;omega
theorem u64_eq (n:Int):IntKind.u64.wrap n=n%18446744073709551616:=by rw [IntKind.wrap_u64]
theorem plus_ok {a b:Int} (ha:r64 a) (hb:r64 b):decide (decide (a<w64 (a+b))=decide (0<b))=decide (r64 (a+b)):=by
 refine decide_eq_decide.2 ?_
 rw [w64_eq,decide_eq_decide]
 unfold r64 at *
 omega
theorem sq_le {a b:Nat} (ha:a<=4294967295) (hb:b<=4294967295):a*b<=18446744065119617025:=Nat.mul_le_mul ha hb
def hiN (a b:Nat):Nat:=
 (a/4294967296)*(b/4294967296)+((a/4294967296)*(b%4294967296)+((a%4294967296)*(b%4294967296))/4294967296)/4294967296+
  ((a%4294967296)*(b/4294967296)+((a/4294967296)*(b%4294967296)+((a%4294967296)*(b%4294967296))/4294967296)%4294967296)/4294967296
theorem mul_parts (a b:Nat):a*b=(a/4294967296)*(b/4294967296)*18446744073709551616+((a/4294967296)*(b%4294967296)+(a%4294967296)*(b/4294967296))*4294967296+(a%4294967296)*(b%4294967296):=by
 have ea:a=(a/4294967296)*4294967296+a%4294967296:=by omega
 have eb:b=(b/4294967296)*4294967296+b%4294967296:=by omega
 generalize a/4294967296=a1 at *
 generalize a%4294967296=a0 at *
 generalize b/4294967296=b1 at *
 generalize b%4294967296=b0 at *
 subst ea eb
 rw [Nat.add_mul,Nat.mul_add,Nat.mul_add,Nat.add_mul]
 have e1:a1*4294967296*(b1*4294967296)=a1*b1*18446744073709551616:=by
  rw [Nat.mul_mul_mul_comm]
 have e2:a1*4294967296*b0=a1*b0*4294967296:=by rw [Nat.mul_right_comm]
 have e3:a0*(b1*4294967296)=a0*b1*4294967296:=by rw [Nat.mul_assoc]
 rw [e1,e2,e3]
 omega
theorem hi_lo (a b:Nat):hiN a b*18446744073709551616+(a*b)%18446744073709551616=a*b:=by
 have h:=mul_parts a b
 unfold hiN
 generalize a*b=n at *
 generalize (a/4294967296)*(b/4294967296)=p11 at *
 generalize (a/4294967296)*(b%4294967296)=p10 at *
 generalize (a%4294967296)*(b/4294967296)=p01 at *
 generalize (a%4294967296)*(b%4294967296)=p00 at *
 omega
theorem part_le {a b:Nat} (ha:a<18446744073709551616) (hb:b<18446744073709551616):
  (a/4294967296)*(b/4294967296)<=18446744065119617025/\(a/4294967296)*(b%4294967296)<=18446744065119617025/\(a%4294967296)*(b/4294967296)<=18446744065119617025/\(a%4294967296)*(b%4294967296)<=18446744065119617025:=
 ⟨sq_le (by omega) (by omega),sq_le (by omega) (by omega),sq_le (by omega) (by omega),sq_le (by omega) (by omega)⟩
theorem hi_zero {a b:Nat}:hiN a b=0↔a*b<18446744073709551616:=by
 have h:=hi_lo a b
 constructor
 ·intro e;rw [e] at h;omega
 ·intro e
  by_cases c:hiN a b=0
  ·exact c
  ·exfalso;generalize a*b=n at *;generalize hiN a b=m at *;omega
theorem hi_le {a b:Nat} (ha:a<=9223372036854775808) (hb:b<=9223372036854775808):hiN a b<=4611686018427387904:=by
 have h:=hi_lo a b
 have:a*b<=9223372036854775808*9223372036854775808:=Nat.mul_le_mul ha hb
 generalize a*b=n at *;generalize hiN a b=m at *;omega
theorem hi_bounds {a b:Nat} (ha:a<18446744073709551616) (hb:b<18446744073709551616):
  (a/4294967296)*(b%4294967296)+((a%4294967296)*(b%4294967296))/4294967296<18446744073709551616/\
  (a%4294967296)*(b/4294967296)+((a/4294967296)*(b%4294967296)+((a%4294967296)*(b%4294967296))/4294967296)%4294967296<18446744073709551616/\
  (a/4294967296)*(b/4294967296)+((a/4294967296)*(b%4294967296)+((a%4294967296)*(b%4294967296))/4294967296)/4294967296<18446744073709551616/\hiN a b<18446744073709551616:=by
 obtain ⟨h1,h2,h3,h4⟩:=part_le ha hb
 have h5:=hi_lo a b
 have h6:a*b<=18446744073709551615*18446744073709551615:=Nat.mul_le_mul (by omega) (by omega)
 refine ⟨?_,?_,?_,?_⟩
 ·generalize (a/4294967296)*(b%4294967296)=p10 at *
  generalize (a%4294967296)*(b%4294967296)=p00 at *
  omega
 ·generalize (a/4294967296)*(b%4294967296)=p10 at *
  generalize (a%4294967296)*(b/4294967296)=p01 at *
  generalize (a%4294967296)*(b%4294967296)=p00 at *
  omega
 ·generalize (a/4294967296)*(b/4294967296)=p11 at *
  generalize (a/4294967296)*(b%4294967296)=p10 at *
  generalize (a%4294967296)*(b%4294967296)=p00 at *
  omega
 ·generalize a*b=n at *
  generalize hiN a b=m at *
  omega
def timesT (x y:Int):Int×Bool:=if r64 (x*y) then (x*y,true) else (0,false)
theorem magn_neg {x:Int} (h:r64 x) (hn:x<0):IntKind.u64.wrap (-(IntKind.u64.wrap x))=(x.natAbs:Int):=by
 unfold r64 at h;rw [u64_eq,u64_eq];omega
theorem magn_pos {x:Int} (h:r64 x) (hn:¬x<0):IntKind.u64.wrap x=(x.natAbs:Int):=by
 unfold r64 at h;rw [u64_eq];omega
theorem zEv {x:Int} (h:r64 x):x.natAbs<=9223372036854775808:=by unfold r64 at h;omega
theorem zMz (x y:Int):(x*y).natAbs=x.natAbs*y.natAbs:=Int.natAbs_mul x y
theorem sign_mul {x y:Int} (hx:x<0) (hy:¬y<0):x*y<=0:=Int.mul_nonpos_of_nonpos_of_nonneg (by omega) (by omega)
theorem sign_mul2 {x y:Int} (hx:¬x<0) (hy:y<0):x*y<=0:=Int.mul_nonpos_of_nonneg_of_nonpos (by omega) (by omega)
theorem sign_mul3 {x y:Int} (hx:x<0) (hy:y<0):0<=x*y:=Int.mul_nonneg_of_nonpos_of_nonpos (by omega) (by omega)
theorem sign_mul4 {x y:Int} (hx:¬x<0) (hy:¬y<0):0<=x*y:=Int.mul_nonneg (by omega) (by omega)
theorem neg_mul {x y:Int} (h:(decide (x<0)==decide (y<0))=false):x*y<=0:=by
 by_cases hx:x<0<;>by_cases hy:y<0
 ·simp [hx,hy] at h
 ·exact sign_mul hx hy
 ·exact sign_mul2 hx hy
 ·simp [hx,hy] at h
theorem pos_mul {x y:Int} (h:(decide (x<0)==decide (y<0))=true):0<=x*y:=by
 by_cases hx:x<0<;>by_cases hy:y<0
 ·exact sign_mul3 hx hy
 ·simp [hx,hy] at h
 ·simp [hx,hy] at h
 ·exact sign_mul4 hx hy
theorem times_big {x y:Int} (hx:r64 x) (hy:r64 y) (h:hiN x.natAbs y.natAbs≠0∨9223372036854775808<x.natAbs*y.natAbs%18446744073709551616):timesT x y=(0,false):=by
 unfold timesT
 refine if_neg fun k=>?_
 have h1:=zMz x y
 unfold r64 at k
 have h2:x.natAbs*y.natAbs<18446744073709551616:=by rw [←h1];omega
 rcases h with h|h
 ·exact h (hi_zero.2 h2)
 ·rw [Nat.mod_eq_of_lt h2,←h1] at h;omega
theorem times_edge {x y:Int} (h:(decide (x<0)==decide (y<0))=true) (h2:x.natAbs*y.natAbs%18446744073709551616=9223372036854775808):timesT x y=(0,false):=by
 unfold timesT
 refine if_neg fun k=>?_
 have h1:=zMz x y
 have h3:=pos_mul h
 unfold r64 at k
 rw [←h1] at h2
 omega
theorem times_neg {x y:Int} (h:(decide (x<0)==decide (y<0))=false) (h0:hiN x.natAbs y.natAbs=0) (hl:x.natAbs*y.natAbs%18446744073709551616<=9223372036854775808):timesT x y=(IntKind.i64.wrap (IntKind.u64.wrap (-((x.natAbs*y.natAbs%18446744073709551616:Nat):Int))),true):=by
 have h1:=zMz x y
 have h3:=neg_mul h
 have h4:=hi_zero.1 h0
 rw [Nat.mod_eq_of_lt h4] at hl⊢
 rw [←h1] at hl⊢
 unfold timesT
 rw [if_pos (by unfold r64;omega),u64_eq]
 congr 1
 show _=w64 _
 rw [w64_eq];omega
theorem times_pos {x y:Int} (h:(decide (x<0)==decide (y<0))=true) (h0:hiN x.natAbs y.natAbs=0) (hl:x.natAbs*y.natAbs%18446744073709551616<9223372036854775808):timesT x y=(IntKind.i64.wrap ((x.natAbs*y.natAbs%18446744073709551616:Nat):Int),true):=by
 have h1:=zMz x y
 have h3:=pos_mul h
 have h4:=hi_zero.1 h0
 rw [Nat.mod_eq_of_lt h4] at hl⊢
 rw [←h1] at hl⊢
 unfold timesT
 rw [if_pos (by unfold r64;omega)]
 congr 1
 show _=w64 _
 rw [w64_eq];omega
theorem times_f {x y:Int} (hx:r64 x) (hy:r64 y) (c:(¬((hiN x.natAbs y.natAbs:Nat):Int)=0∨9223372036854775808<((x.natAbs*y.natAbs%18446744073709551616:Nat):Int))∨((x.natAbs*y.natAbs%18446744073709551616:Nat):Int)=9223372036854775808/\(decide (x<0)==decide (y<0))=true):timesT x y=(0,false):=by
 rcases c with (c|c)|⟨c,d⟩
 ·exact times_big hx hy (.inl (by omega))
 ·exact times_big hx hy (.inr (by omega))
 ·exact times_edge d (by omega)
abbrev Tr:=ByteArray×Int×Int
def mergeN:Nat->List Mono->List Mono->List Tr
 |0,_,_=>[]
 |_+1,[],[]=>[]
 |n+1,a::ar,[]=>(a.Name,a.By,0)::mergeN n ar []
 |n+1,[],b::bs=>(b.Name,0,b.By)::mergeN n [] bs
 |n+1,a::ar,b::bs=>
  bif strLt a.Name b.Name then (a.Name,a.By,0)::mergeN n ar (b::bs)
  else bif strLt b.Name a.Name then (b.Name,0,b.By)::mergeN n (a::ar) bs
  else (a.Name,a.By,b.By)::mergeN n ar bs
theorem wO:∀(n:Nat) (a b:List Mono),a.length+b.length<=n->mergeN n a b=mergeN (a.length+b.length) a b
 |0,a,b,h=>by rw [show a.length+b.length=0 by omega]
 |n+1,[],[],_=>rfl
 |n+1,a::ar,[],h=>by
  have ih:=wO n ar [] (by simp at h⊢;omega)
  show (a.Name,a.By,0)::mergeN n ar []=(a.Name,a.By,0)::mergeN (ar.length) ar []
  rw [ih];rfl
 |n+1,[],b::bs,h=>by
  have ih:=wO n [] bs (by simp at h⊢;omega)
  have e:([]:List Mono).length+(b::bs).length=bs.length+1:=by simp
  rw [e,mergeN,mergeN,ih];simp
 |n+1,a::ar,b::bs,h=>by
  have h':ar.length+1+(bs.length+1)<=n+1:=by simpa using h
  have i1:=wO n ar (b::bs) (by simp;omega)
  have i2:=wO n (a::ar) bs (by simp;omega)
  have i3:=wO n ar bs (by omega)
  have j1:=wO (ar.length+bs.length+1) ar (b::bs) (by simp;omega)
  have j2:=wO (ar.length+bs.length+1) (a::ar) bs (by simp;omega)
  have j3:=wO (ar.length+bs.length+1) ar bs (by omega)
  have e:(a::ar).length+(b::bs).length=(ar.length+bs.length+1)+1:=by simp;omega
  rw [e,mergeN,mergeN,i1,i2,i3,j1,j2,j3]
def mergeL (a b:List Mono):List Tr:=mergeN (a.length+b.length) a b
theorem mergeL_nil:mergeL [] []=[]:=rfl
theorem zKm (a:Mono) (ar:List Mono):mergeL (a::ar) []=(a.Name,a.By,0)::mergeL ar []:=rfl
theorem zKl (b:Mono) (bs:List Mono):mergeL [] (b::bs)=(b.Name,0,b.By)::mergeL [] bs:=by
 unfold mergeL;rw [show ([]:List Mono).length+(b::bs).length=bs.length+1 by simp,mergeN];simp
theorem zFv (a b:Mono) (ar bs:List Mono):mergeL (a::ar) (b::bs)=bif strLt a.Name b.Name then (a.Name,a.By,0)::mergeL ar (b::bs) else bif strLt b.Name a.Name then (b.Name,0,b.By)::mergeL (a::ar) bs else (a.Name,a.By,b.By)::mergeL ar bs:=by
 unfold mergeL
 rw [show (a::ar).length+(b::bs).length=(ar.length+bs.length+1)+1 by simp;omega,mergeN]
 rw [wO _ ar (b::bs) (by simp;omega),wO _ (a::ar) bs (by simp;omega),wO _ ar bs (by omega)]
theorem zMi (a b:List Mono):(mergeL a b).length<=a.length+b.length:=by
 have:∀(n:Nat) (a b:List Mono),(mergeN n a b).length<=n:=by
  intro n
  induction n with
  |zero=>intro a b;simp [mergeN]
  |succ n ih=>
   intro a b
   cases a with
   |nil=>
    cases b with
    |nil=>simp [mergeN]
    |cons b bs=>simp only [mergeN,List.length_cons];have:=ih [] bs;omega
   |cons a ar=>
    cases b with
    |nil=>simp only [mergeN,List.length_cons];have:=ih ar [];omega
    |cons b bs=>
     have h1:=ih ar (b::bs)
     have h2:=ih (a::ar) bs
     have h3:=ih ar bs
     simp only [mergeN]
     cases strLt a.Name b.Name<;>cases strLt b.Name a.Name<;>simp only [cond_true,cond_false,List.length_cons]<;>omega
 exact this _ a b
def hdM (l:List Mono):Mono:=l.headD ⟨bs [],0⟩
theorem zHv {l:List Mono} (h:0<l.length):l[0]? =some (hdM l):=by
 cases l with
 |nil=>simp at h
 |cons x r=>rfl
def mC2 (a b:List Mono):Bool:=decide ((b.length:Int)=0)||(decide ((0:Int)<a.length)&&strLt (hdM a).Name (hdM b).Name)
def mC3 (a b:List Mono):Bool:=decide ((a.length:Int)=0)||strLt (hdM b).Name (hdM a).Name
theorem mC2_b {a b:List Mono} (c:mC2 a b=false):0<b.length:=by
 unfold mC2 at c
 cases b with
 |nil=>simp at c
 |cons y s=>simp
theorem merge_left {a b:List Mono} (h:0<a.length∨0<b.length) (c:mC2 a b=true):0<a.length/\mergeL a b=((hdM a).Name,(hdM a).By,0)::mergeL (a.drop 1) b:=by
 unfold mC2 at c
 cases a with
 |nil=>
  cases b with
  |nil=>simp at h
  |cons y s=>simp at c;omega
 |cons x r=>
  refine ⟨by simp,?_⟩
  cases b with
  |nil=>rw [zKm];rfl
  |cons y s=>
   have c2:strLt x.Name y.Name=true:=by
    rw [Bool.or_eq_true,Bool.and_eq_true,decide_eq_true_eq] at c
    rcases c with c|c
    ·simp at c;omega
    ·exact c.2
   rw [zFv,c2];rfl
theorem merge_right {a b:List Mono} (h:0<a.length∨0<b.length) (c:mC2 a b=false) (c3:mC3 a b=true):0<b.length/\mergeL a b=((hdM b).Name,0,(hdM b).By)::mergeL a (b.drop 1):=by
 unfold mC2 at c
 unfold mC3 at c3
 cases b with
 |nil=>simp at c
 |cons y s=>
  refine ⟨by simp,?_⟩
  cases a with
  |nil=>rw [zKl];rfl
  |cons x r=>
   have c2:strLt x.Name y.Name=false:=by
    rw [Bool.or_eq_false_iff,Bool.and_eq_false_iff] at c
    rcases c.2 with c|c
    ·simp at c
    ·exact c
   have c4:strLt y.Name x.Name=true:=by
    rw [Bool.or_eq_true,decide_eq_true_eq] at c3
    rcases c3 with c|c
    ·simp at c;omega
    ·exact c
   rw [zFv,c2,c4];rfl
theorem merge_both {a b:List Mono} (c:mC2 a b=false) (c3:mC3 a b=false):0<a.length/\0<b.length/\mergeL a b=((hdM a).Name,(hdM a).By,(hdM b).By)::mergeL (a.drop 1) (b.drop 1):=by
 unfold mC2 at c
 unfold mC3 at c3
 cases b with
 |nil=>simp at c
 |cons y s=>
  cases a with
  |nil=>simp at c3
  |cons x r=>
   refine ⟨by simp,by simp,?_⟩
   have c2:strLt x.Name y.Name=false:=by
    rw [Bool.or_eq_false_iff,Bool.and_eq_false_iff] at c
    rcases c.2 with c|c
    ·simp at c
    ·exact c
   have c4:strLt y.Name x.Name=false:=by
    rw [Bool.or_eq_false_iff] at c3
    exact c3.2
   rw [zFv,c2,c4];rfl
/-! ## Sums -/
def trV (t:Tr):Int:=t.2.1+t.2.2
def trOk (t:Tr):Bool:=decide (r64 (trV t))
def sumW (ts:List Tr):List Mono:=ts.filterMap fun t=>if w64 (trV t)=0 then none else some ⟨t.1,w64 (trV t)⟩
theorem sumW_next (d:List Tr) (t:Tr):sumW (d++[t])=sumW d++(if w64 (trV t)=0 then [] else [⟨t.1,w64 (trV t)⟩]):=by
 unfold sumW;rw [List.filterMap_append];congr 1
 by_cases h:w64 (trV t)=0<;>simp [h]
theorem zNy (d:List Tr):(sumW d).length<=d.length:=List.length_filterMap_le _ _
def okF (ok:Bool) (d:List Tr):Bool:=d.foldl (fun b t=>b&&decide (r64 (t.2.1+t.2.2))) ok
theorem okF_next (ok:Bool) (d:List Tr) (t:Tr):okF ok (d++[t])=(okF ok d&&decide (r64 (t.2.1+t.2.2))):=by unfold okF;rw [List.foldl_append];rfl
theorem okF_all (ok:Bool) (d:List Tr):okF ok d=(ok&&d.all trOk):=by
 induction d generalizing ok with
 |nil=>simp [okF]
 |cons t r ih=>
  show okF (ok&&trOk t) r=_
  rw [ih,List.all_cons,Bool.and_assoc]
theorem zDn:∀(n:Nat) (a b:List Mono),(∀m,m∈a->r64 m.By)->(∀m,m∈b->r64 m.By)->∀t,t∈mergeN n a b->r64 t.2.1/\r64 t.2.2
 |0,_,_,_,_,t,ht=>by simp [mergeN] at ht
 |_+1,[],[],_,_,t,ht=>by simp [mergeN] at ht
 |n+1,x::r,[],h1,h2,t,ht=>by
  simp only [mergeN] at ht
  rcases List.mem_cons.1 ht with rfl|ht
  ·exact ⟨h1 x (by simp),by show r64 0;unfold r64;omega⟩
  ·exact zDn n r [] (fun m hm=>h1 m (by simp [hm])) h2 t ht
 |n+1,[],y::s,h1,h2,t,ht=>by
  simp only [mergeN] at ht
  rcases List.mem_cons.1 ht with rfl|ht
  ·exact ⟨by show r64 0;unfold r64;omega,h2 y (by simp)⟩
  ·exact zDn n [] s h1 (fun m hm=>h2 m (by simp [hm])) t ht
 |n+1,x::r,y::s,h1,h2,t,ht=>by
  have g1:=zDn n r (y::s) (fun m hm=>h1 m (by simp [hm])) h2 t
  have g2:=zDn n (x::r) s h1 (fun m hm=>h2 m (by simp [hm])) t
  have g3:=zDn n r s (fun m hm=>h1 m (by simp [hm])) (fun m hm=>h2 m (by simp [hm])) t
  have z0:r64 0:=by unfold r64;omega
  simp only [mergeN] at ht
  cases c1:strLt x.Name y.Name with
  |true=>
   rw [c1,cond_true] at ht
   rcases List.mem_cons.1 ht with rfl|ht
   ·exact ⟨h1 x (by simp),z0⟩
   ·exact g1 ht
  |false=>
   rw [c1,cond_false] at ht
   cases c2:strLt y.Name x.Name with
   |true=>
    rw [c2,cond_true] at ht
    rcases List.mem_cons.1 ht with rfl|ht
    ·exact ⟨z0,h2 y (by simp)⟩
    ·exact g2 ht
   |false=>
    rw [c2,cond_false] at ht
    rcases List.mem_cons.1 ht with rfl|ht
    ·exact ⟨h1 x (by simp),h2 y (by simp)⟩
    ·exact g3 ht
theorem merge_rng {a b:List Mono} (h1:∀m,m∈a->r64 m.By) (h2:∀m,m∈b->r64 m.By) {d s:List Tr} {t:Tr} (h:mergeL a b=d++t::s):r64 t.2.1/\r64 t.2.2/\d.length<=a.length+b.length:=by
 have h3:=zMi a b
 rw [h] at h3
 simp only [List.length_append,List.length_cons] at h3
 obtain ⟨k1,k2⟩:=zDn _ a b h1 h2 t (by rw [show mergeN (a.length+b.length) a b=mergeL a b from rfl,h];simp)
 exact ⟨k1,k2,by omega⟩
def addT (k:Int) (ts:List Tr):Lf×Int:=if r64 k/\ts.all trOk=true then (⟨k,sumW ts⟩,0) else (zL,3)
def addL (a b:Lf):Lf×Int:=if linOk a=true/\linOk b=true then addT (a.K+b.K) (mergeL a.L b.L) else (zL,1)
theorem add_bad {a b:Lf} (h:¬(linOk a=true/\linOk b=true)):addL a b=(zL,1):=by unfold addL;rw [if_neg h]
theorem add_c1 {a b:Lf} (c:¬linErr a=0∨¬linErr b=0):addL a b=(zL,1):=add_bad fun h=>by
 rcases c with c|c
 ·have:=zHs c;rw [h.1] at this;cases this
 ·have:=zHs c;rw [h.2] at this;cases this
theorem add_no {a b:Lf} (h1:linOk a=true) (h2:linOk b=true) (h:okF (decide (r64 (a.K+b.K))) (mergeL a.L b.L)=false):addL a b=(zL,3):=by
 unfold addL addT
 rw [if_pos ⟨h1,h2⟩,if_neg fun k=>?_]
 rw [okF_all,decide_eq_true k.1,k.2] at h
 cases h
theorem add_ok {a b:Lf} (h1:linOk a=true) (h2:linOk b=true) (h:okF (decide (r64 (a.K+b.K))) (mergeL a.L b.L)=true):addL a b=(⟨w64 (a.K+b.K),sumW (mergeL a.L b.L)⟩,0):=by
 rw [okF_all,Bool.and_eq_true,decide_eq_true_eq] at h
 unfold addL addT
 rw [if_pos ⟨h1,h2⟩,if_pos h,w64_in h.1]
def scaleM (by_:Int) (l:List Mono):List Mono:=l.map fun m=>⟨m.Name,m.By*by_⟩
def scaleOk (by_:Int) (l:List Mono):Bool:=l.all fun m=>decide (r64 (m.By*by_))
def scaleL (a:Lf) (by_:Int):Lf×Int:=if linOk a=true then (if by_=0 then (zL,0) else if r64 (a.K*by_)/\scaleOk by_ a.L=true then (⟨a.K*by_,scaleM by_ a.L⟩,0) else (zL,3)) else (zL,1)
def restL (l:Lf) (s:ByteArray):Lf:=⟨l.K,l.L.filter fun m=> !decide (m.Name=s)⟩
def lastBy (l:List Mono) (s:ByteArray):Int:=l.foldl (fun by_ m=>if m.Name=s then m.By else by_) 0
def substP (l:Lf) (s:ByteArray) (to_:Lf):Lf×Int:=
 if linOk l=true/\isNameB s=true/\linOk to_=true then (if (scaleL to_ (lastBy l.L s)).2=0 then addL (restL l s) (scaleL to_ (lastBy l.L s)).1 else (zL,(scaleL to_ (lastBy l.L s)).2)) else (zL,1)
def mulT (by_:Int) (ts:List Tr):List Tr:=ts.map fun t=>(t.1,t.2.1,t.2.2*by_)
def substR (l:Lf) (s:ByteArray) (to_:Lf):Lf×Int:=
 if linOk l=true/\linOk to_=true/\isNameB s=true then
  (if lastBy l.L s=0 then (l,0) else if r64 (to_.K*lastBy l.L s)/\scaleOk (lastBy l.L s) to_.L=true then addT (l.K+to_.K*lastBy l.L s) (mulT (lastBy l.L s) (mergeL (restL l s).L to_.L)) else (zL,3))
 else (zL,1)
def scaleW (by_:Int) (l:List Mono):List Mono:=l.map fun m=>⟨m.Name,(timesT m.By by_).1⟩
def scaleB (by_:Int) (l:List Mono):Bool:=l.all fun m=>(timesT m.By by_).2
theorem scaleW_len (by_:Int) (l:List Mono):(scaleW by_ l).length=l.length:=by simp [scaleW]
theorem scaleW_next {by_:Int} {l:List Mono} {k:Nat} {x:Mono} (h:l[k]? =some x):scaleW by_ (l.take (k+1))=scaleW by_ (l.take k)++[⟨x.Name,(timesT x.By by_).1⟩]:=by unfold scaleW;rw [qW h,List.map_append];rfl
theorem scaleB_next {by_:Int} {l:List Mono} {k:Nat} {x:Mono} (h:l[k]? =some x):scaleB by_ (l.take (k+1))=(scaleB by_ (l.take k)&&(timesT x.By by_).2):=by unfold scaleB;rw [qW h,List.all_append];simp
theorem timesT_2 (x y:Int):(timesT x y).2=decide (r64 (x*y)):=by unfold timesT;by_cases h:r64 (x*y)<;>simp [h]
theorem timesT_1 {x y:Int} (h:r64 (x*y)):(timesT x y).1=x*y:=by unfold timesT;rw [if_pos h]
theorem scaleB_ok (by_:Int) (l:List Mono):scaleB by_ l=scaleOk by_ l:=by unfold scaleB scaleOk;congr 1;funext m;exact timesT_2 _ _
theorem scaleW_ok {by_:Int} {l:List Mono} (h:scaleOk by_ l=true):scaleW by_ l=scaleM by_ l:=by
 unfold scaleOk at h
 rw [List.all_eq_true] at h
 unfold scaleW scaleM
 refine List.map_congr_left fun m hm=>?_
 rw [timesT_1 (by simpa using h m hm)]
theorem scale_ok {l:Lf} {by_:Int} (h1:linOk l=true) (h2:¬by_=0) (h3:(timesT l.K by_).2=true/\scaleB by_ l.L=true):scaleL l by_=(⟨(timesT l.K by_).1,scaleW by_ l.L⟩,0):=by
 rw [timesT_2,decide_eq_true_eq,scaleB_ok] at h3
 unfold scaleL
 rw [if_pos h1,if_neg h2,if_pos h3,timesT_1 h3.1,scaleW_ok h3.2]
theorem scale_no {l:Lf} {by_:Int} (h1:linOk l=true) (h2:¬by_=0) (h3:(timesT l.K by_).2=false∨scaleB by_ l.L=false):scaleL l by_=(zL,3):=by
 unfold scaleL
 rw [if_pos h1,if_neg h2,if_neg fun h=>?_]
 rw [timesT_2,scaleB_ok,decide_eq_true h.1,h.2] at h3
 rcases h3 with h3|h3<;>cases h3
theorem scale_zero {l:Lf} {by_:Int} (h1:linOk l=true) (h2:by_=0):scaleL l by_=(zL,0):=by unfold scaleL;rw [if_pos h1,if_pos h2]
theorem scale_bad {l:Lf} {by_:Int} (h1:linOk l=false):scaleL l by_=(zL,1):=by unfold scaleL;rw [if_neg (by rw [h1];simp)]
theorem zBw (by_:Int):∀(n:Nat) (a b:List Mono),a.length+b.length<=n->mergeL a (scaleM by_ b)=mulT by_ (mergeL a b)
 |_,[],[],_=>rfl
 |0,_::_,_,h=>by simp at h
 |0,[],_::_,h=>by simp at h
 |n+1,a::ar,[],h=>by
  have ih:=zBw by_ n ar [] (by simp at h⊢;omega)
  show mergeL (a::ar) []=_
  rw [zKm]
  show _=(a.Name,a.By,0*by_)::mulT by_ (mergeL ar [])
  rw [←ih,Int.zero_mul];rfl
 |n+1,[],b::bs,h=>by
  have ih:=zBw by_ n [] bs (by simp at h⊢;omega)
  show mergeL [] (⟨b.Name,b.By*by_⟩::scaleM by_ bs)=_
  rw [zKl,zKl,ih];rfl
 |n+1,a::ar,b::bs,h=>by
  have h':ar.length+1+(bs.length+1)<=n+1:=by simpa using h
  have i1:=zBw by_ n ar (b::bs) (by simp;omega)
  have i2:=zBw by_ n (a::ar) bs (by simp;omega)
  have i3:=zBw by_ n ar bs (by omega)
  have e:scaleM by_ (b::bs)=⟨b.Name,b.By*by_⟩::scaleM by_ bs:=rfl
  rw [e] at i1⊢
  rw [zFv,zFv,i1,i2,i3]
  cases strLt a.Name b.Name<;>cases strLt b.Name a.Name<;>simp [mulT]
theorem zPr {l:List Mono} {k:Nat} {x:Mono} {s:ByteArray} (h:l[k]? =some x):lastBy (l.take (k+1)) s=if x.Name=s then x.By else lastBy (l.take k) s:=by
 unfold lastBy;rw [qW h,List.foldl_append];rfl
theorem rest_next {l:List Mono} {k:Nat} {x:Mono} {s:ByteArray} (h:l[k]? =some x):(l.take (k+1)).filter (fun m=> !decide (m.Name=s))=(l.take k).filter (fun m=> !decide (m.Name=s))++(if x.Name=s then [] else [x]):=by
 rw [qW h,List.filter_append];by_cases e:x.Name=s<;>simp [e]
theorem zMg:∀{p:Option ByteArray} {l:List Mono},monosOk p l=true->∀m,m∈l->m.By≠0/\isNameB m.Name=true
 |_,[],_,m,hm=>by cases hm
 |p,x::r,h,m,hm=>by
  simp only [monosOk,Bool.and_eq_true,Bool.not_eq_true',decide_eq_false_iff_not] at h
  rcases List.mem_cons.1 hm with rfl|hm
  ·exact ⟨h.1.1.2,h.1.1.1⟩
  ·exact zMg h.2 m hm
theorem last_none {l:List Mono} {s:ByteArray} (h:∀m,m∈l->m.Name≠s):lastBy l s=0/\l.filter (fun m=> !decide (m.Name=s))=l:=by
 constructor
 ·have:∀(l:List Mono) (b:Int),(∀m,m∈l->m.Name≠s)->l.foldl (fun by_ m=>if m.Name=s then m.By else by_) b=b:=by
   intro l
   induction l with
   |nil=>intro b _;rfl
   |cons x r ih=>intro b hl;rw [List.foldl_cons,if_neg (hl x (by simp)),ih b fun m hm=>hl m (by simp [hm])]
  exact this l 0 h
 ·rw [List.filter_eq_self];intro m hm;simp [h m hm]
theorem last_zero {p:Option ByteArray} {l:List Mono} {s:ByteArray} (h:monosOk p l=true) (hz:lastBy l s=0):∀m,m∈l->m.Name≠s:=by
 have key:∀(l:List Mono) (b:Int),(∀m,m∈l->m.By≠0)->l.foldl (fun by_ m=>if m.Name=s then m.By else by_) b=0->∀m,m∈l->m.Name≠s:=by
  intro l
  induction l with
  |nil=>intro b _ _ m hm;cases hm
  |cons x r ih=>
   intro b hl h m hm
   rw [List.foldl_cons] at h
   rcases List.mem_cons.1 hm with rfl|hm
   ·intro e
    rw [if_pos e] at h
    by_cases c:∀y,y∈r->y.Name≠s
    ·have:r.foldl (fun by_ m=>if m.Name=s then m.By else by_) m.By=m.By:=by
      clear ih h hl hm
      generalize m.By=z
      induction r generalizing z with
      |nil=>rfl
      |cons y r ih2=>rw [List.foldl_cons,if_neg (c y (by simp)),ih2 (fun q hq=>c q (by simp [hq]))]
     rw [this] at h
     exact hl m (by simp) h
    ·exact c (ih _ (fun y hy=>hl y (by simp [hy])) h)
   ·exact ih _ (fun y hy=>hl y (by simp [hy])) h m hm
 exact key l 0 (fun m hm=>(zMg h m hm).1) hz
def Lf.rng (l:Lf):Prop:=r64 l.K/\∀m,m∈l.L->r64 m.By
theorem zKk:∀{l:List Mono},(∀m,m∈l->r64 m.By/\m.By≠0)->(mergeL l []).all trOk=true/\sumW (mergeL l [])=l
 |[],_=>⟨rfl,rfl⟩
 |a::ar,h=>by
  obtain ⟨h1,h2⟩:=zKk (l:=ar) fun m hm=>h m (by simp [hm])
  obtain ⟨h3,h4⟩:=h a (by simp)
  rw [zKm]
  have e:trV (a.Name,a.By,0)=a.By:=by simp [trV]
  constructor
  ·rw [List.all_cons,h1,trOk,e,decide_eq_true h3];rfl
  ·show List.filterMap _ _=_
   rw [List.filterMap_cons]
   simp only [e,w64_in h3,if_neg h4]
   exact congrArg (a:: ·) h2
theorem last_rng {l:Lf} (h:l.rng) (s:ByteArray):r64 (lastBy l.L s):=by
 have key:∀(l:List Mono) (b:Int),(∀m,m∈l->r64 m.By)->r64 b->r64 (l.foldl (fun by_ m=>if m.Name=s then m.By else by_) b):=by
  intro l
  induction l with
  |nil=>intro b _ h;exact h
  |cons x r ih=>
   intro b hl hb
   rw [List.foldl_cons]
   refine ih _ (fun m hm=>hl m (by simp [hm])) ?_
   split
   ·exact hl x (by simp)
   ·exact hb
 exact key l.L 0 h.2 (by unfold r64;omega)
theorem zNa:zL.rng:=⟨by show r64 0;unfold r64;omega,fun m hm=>by cases hm⟩
theorem scale_rng (l:Lf) (b:Int):(scaleL l b).1.rng/\(scaleL l b).1.L.length<=l.L.length:=by
 unfold scaleL
 split
 ·split
  ·exact ⟨zNa,by simp [zL]⟩
  ·split
   ·rename_i h
    refine ⟨⟨h.1,fun m hm=>?_⟩,by simp [scaleM]⟩
    obtain ⟨x,hx,rfl⟩:=List.mem_map.1 hm
    have:=h.2
    unfold scaleOk at this
    rw [List.all_eq_true] at this
    simpa using this x hx
   ·exact ⟨zNa,by simp [zL]⟩
 ·exact ⟨zNa,by simp [zL]⟩
theorem rest_rng {l:Lf} (h:l.rng) (s:ByteArray):(restL l s).rng/\(restL l s).L.length<=l.L.length:=
 ⟨⟨h.1,fun m hm=>h.2 m (List.mem_filter.1 hm).1⟩,List.length_filter_le _ _⟩
theorem subst_c1 {l to_:Lf} {s:ByteArray} (c:(¬linErr l=0∨isNameB s=false)∨¬linErr to_=0):substP l s to_=(zL,1):=by
 unfold substP
 refine if_neg fun h=>?_
 rcases c with (c|c)|c
 ·have:=zHs c;rw [h.1] at this;cases this
 ·rw [h.2.1] at c;cases c
 ·have:=zHs c;rw [h.2.2] at this;cases this
theorem subst_c4 {l to_:Lf} {s:ByteArray} (c:(linErr l=0/\isNameB s=true)/\linErr to_=0) (c4:¬(scaleL to_ (lastBy l.L s)).2=0):substP l s to_=(zL,(scaleL to_ (lastBy l.L s)).2):=by
 unfold substP
 rw [if_pos ⟨zHt c.1.1,c.1.2,zHt c.2⟩,if_neg c4]
theorem subst_ok {l to_:Lf} {s:ByteArray} (c:(linErr l=0/\isNameB s=true)/\linErr to_=0) (c4:(scaleL to_ (lastBy l.L s)).2=0):substP l s to_=addL (restL l s) (scaleL to_ (lastBy l.L s)).1:=by
 unfold substP
 rw [if_pos ⟨zHt c.1.1,c.1.2,zHt c.2⟩,if_pos c4]
theorem strLt_trans' {a b c:ByteArray} (h:strLt a b=true) (k:strLt b c=true):strLt a c=true:=zBq h k
theorem monos_weak {p q:Option ByteArray} {l:List Mono} (h:monosOk p l=true) (hpq:∀n,ltO p n=true->ltO q n=true):monosOk q l=true:=by
 cases l with
 |nil=>rfl
 |cons x r=>
  simp only [monosOk,Bool.and_eq_true] at h⊢
  exact ⟨⟨h.1.1,hpq _ h.1.2⟩,h.2⟩
theorem zHl (f:Mono->Bool):∀{p:Option ByteArray} {l:List Mono},monosOk p l=true->monosOk p (l.filter f)=true
 |_,[],_=>rfl
 |p,x::r,h=>by
  simp only [monosOk,Bool.and_eq_true] at h
  have ih:=zHl f h.2
  rw [List.filter_cons]
  by_cases c:f x=true
  ·rw [if_pos c];simp only [monosOk,Bool.and_eq_true];exact ⟨h.1,ih⟩
  ·rw [if_neg c]
   refine monos_weak ih fun n hn=>?_
   cases p with
   |none=>rfl
   |some q=>exact strLt_trans' h.1.2 hn
theorem zPh {b:Int} (hb:b≠0):∀{p:Option ByteArray} {l:List Mono},monosOk p l=true->monosOk p (scaleM b l)=true
 |_,[],_=>rfl
 |p,x::r,h=>by
  simp only [monosOk,Bool.and_eq_true,Bool.not_eq_true',decide_eq_false_iff_not] at h
  have ih:=zPh hb h.2
  show monosOk p (⟨x.Name,x.By*b⟩::scaleM b r)=true
  simp only [monosOk,Bool.and_eq_true,Bool.not_eq_true',decide_eq_false_iff_not]
  exact ⟨⟨⟨h.1.1.1,Int.mul_ne_zero h.1.1.2 hb⟩,h.1.2⟩,ih⟩
theorem subst_eq {l to_:Lf} {s:ByteArray} (hl:l.rng):substP l s to_=substR l s to_:=by
 unfold substP substR
 by_cases h:linOk l=true/\isNameB s=true/\linOk to_=true
 ·obtain ⟨h1,h2,h3⟩:=h
  rw [if_pos (⟨h1,h2,h3⟩:linOk l=true/\isNameB s=true/\linOk to_=true),if_pos (⟨h1,h3,h2⟩:linOk l=true/\linOk to_=true/\isNameB s=true)]
  by_cases c:lastBy l.L s=0
  ·rw [if_pos c]
   have hn:=last_zero h1 c
   have e:scaleL to_ (lastBy l.L s)=(zL,0):=by unfold scaleL;rw [if_pos h3,if_pos c]
   rw [e,if_pos rfl]
   have er:restL l s=l:=by unfold restL;rw [(last_none hn).2]
   rw [er]
   unfold addL
   rw [if_pos ⟨h1,rfl⟩]
   obtain ⟨g1,g2⟩:=zKk (l:=l.L) fun m hm=>⟨hl.2 m hm,(zMg h1 m hm).1⟩
   show addT (l.K+0) (mergeL l.L [])=_
   unfold addT
   rw [Int.add_zero,if_pos ⟨hl.1,g1⟩,g2]
  ·rw [if_neg c]
   by_cases d:r64 (to_.K*lastBy l.L s)/\scaleOk (lastBy l.L s) to_.L=true
   ·rw [if_pos d]
    have e:scaleL to_ (lastBy l.L s)=(⟨to_.K*lastBy l.L s,scaleM (lastBy l.L s) to_.L⟩,0):=by unfold scaleL;rw [if_pos h3,if_neg c,if_pos d]
    rw [e,if_pos rfl]
    unfold addL
    rw [if_pos ⟨zHl _ h1,zPh c h3⟩]
    show addT (l.K+to_.K*lastBy l.L s) (mergeL (restL l s).L (scaleM (lastBy l.L s) to_.L))=_
    rw [zBw _ _ _ _ (Nat.le_refl _)]
   ·rw [if_neg d]
    have e:scaleL to_ (lastBy l.L s)=(zL,3):=by unfold scaleL;rw [if_pos h3,if_neg c,if_neg d]
    rw [e,if_neg (by decide)]
 ·rw [if_neg h,if_neg fun k=>h ⟨k.1,k.2.2,k.2.1⟩]
end Go.Br
end
section
namespace Go.Br
open Go Go.Eng Go.L41
theorem sumM_len (by_:Int) (d:List Tr):(sumW (mulT by_ d)).length<=d.length:=by
 have:=zNy (mulT by_ d);simpa [mulT] using this
end Go.Br
end
section
namespace Go.Br
open Go Go.Eng Go.L41
/-! ## Ascending triples -/
def trsOk:Option ByteArray->List Tr->Bool
 |_,[]=>true
 |p,t::r=>isNameB t.1&&ltO p t.1&&trsOk (some t.1) r
theorem ltO_trans {p:Option ByteArray} {a b:ByteArray} (h:ltO p a=true) (k:strLt a b=true):ltO p b=true:=by
 cases p with
 |none=>rfl
 |some q=>exact zBq h k
theorem zFi:∀(n:Nat) (p:Option ByteArray) (a b:List Mono),a.length+b.length<=n->monosOk p a=true->monosOk p b=true->trsOk p (mergeL a b)=true
 |_,p,[],[],_,_,_=>rfl
 |0,_,_::_,_,h,_,_=>by simp at h
 |0,_,[],_::_,h,_,_=>by simp at h
 |n+1,p,x::r,[],h,ha,hb=>by
  simp only [monosOk,Bool.and_eq_true] at ha
  rw [zKm,trsOk,Bool.and_eq_true,Bool.and_eq_true]
  exact ⟨⟨ha.1.1.1,ha.1.2⟩,zFi n _ r [] (by simp at h⊢;omega) ha.2 rfl⟩
 |n+1,p,[],y::s,h,ha,hb=>by
  simp only [monosOk,Bool.and_eq_true] at hb
  rw [zKl,trsOk,Bool.and_eq_true,Bool.and_eq_true]
  exact ⟨⟨hb.1.1.1,hb.1.2⟩,zFi n _ [] s (by simp at h⊢;omega) rfl hb.2⟩
 |n+1,p,x::r,y::s,h,ha,hb=>by
  have ha0:=ha
  have hb0:=hb
  simp only [monosOk,Bool.and_eq_true] at ha hb
  rw [zFv]
  cases h1:strLt x.Name y.Name with
  |true=>
   rw [cond_true,trsOk,Bool.and_eq_true,Bool.and_eq_true]
   refine ⟨⟨ha.1.1.1,ha.1.2⟩,zFi n _ r (y::s) (by simp at h⊢;omega) ha.2 ?_⟩
   simp only [monosOk,Bool.and_eq_true]
   exact ⟨⟨hb.1.1,h1⟩,hb.2⟩
  |false=>
   rw [cond_false]
   cases h2:strLt y.Name x.Name with
   |true=>
    rw [cond_true,trsOk,Bool.and_eq_true,Bool.and_eq_true]
    refine ⟨⟨hb.1.1.1,hb.1.2⟩,zFi n _ (x::r) s (by simp at h⊢;omega) ?_ hb.2⟩
    simp only [monosOk,Bool.and_eq_true]
    exact ⟨⟨ha.1.1,h2⟩,ha.2⟩
   |false=>
    rw [cond_false,trsOk,Bool.and_eq_true,Bool.and_eq_true]
    have e:x.Name=y.Name:=zGy h1 h2
    refine ⟨⟨ha.1.1.1,ha.1.2⟩,zFi n _ r s (by simp at h⊢;omega) ha.2 ?_⟩
    show monosOk (some x.Name) s=true
    rw [e];exact hb.2
theorem mul_asc (b:Int):∀{p:Option ByteArray} {l:List Tr},trsOk p l=true->trsOk p (mulT b l)=true
 |_,[],_=>rfl
 |p,t::r,h=>by
  simp only [trsOk,Bool.and_eq_true] at h
  show trsOk p ((t.1,t.2.1,t.2.2*b)::mulT b r)=true
  simp only [trsOk,Bool.and_eq_true]
  exact ⟨h.1,mul_asc b h.2⟩
theorem sum_asc:∀{p:Option ByteArray} {l:List Tr},trsOk p l=true->monosOk p (sumW l)=true
 |_,[],_=>rfl
 |p,t::r,h=>by
  simp only [trsOk,Bool.and_eq_true] at h
  have ih:=sum_asc h.2
  unfold sumW at ih⊢
  rw [List.filterMap_cons]
  by_cases c:w64 (trV t)=0
  ·rw [if_pos c]
   exact monos_weak ih fun n hn=>ltO_trans h.1.2 hn
  ·rw [if_neg c]
   simp only [monosOk,Bool.and_eq_true,Bool.not_eq_true',decide_eq_false_iff_not]
   exact ⟨⟨⟨h.1.1,c⟩,h.1.2⟩,ih⟩
theorem sum_rng {l:List Tr} {m:Mono} (h:m∈sumW l):r64 m.By:=by
 unfold sumW at h
 obtain ⟨t,ht,e⟩:=List.mem_filterMap.1 h
 by_cases c:w64 (trV t)=0
 ·rw [if_pos c] at e;cases e
 ·rw [if_neg c] at e;injection e with e;subst e;exact w64_r _
/-! ## One form -/
theorem substR_len (l to_:Lf) (s:ByteArray):(substR l s to_).1.L.length<=l.L.length+to_.L.length:=by
 unfold substR
 split
 ·split
  ·exact Nat.le_add_right _ _
  ·split
   ·unfold addT
    split
    ·show (sumW (mulT _ _)).length<=_
     have h1:=sumM_len (lastBy l.L s) (mergeL (restL l s).L to_.L)
     have h2:=zMi (restL l s).L to_.L
     have h3:(restL l s).L.length<=l.L.length:=List.length_filter_le _ _
     omega
    ·exact Nat.zero_le _
   ·exact Nat.zero_le _
 ·exact Nat.zero_le _
theorem substR_rng {l to_:Lf} (s:ByteArray) (hl:l.rng):(substR l s to_).1.rng:=by
 unfold substR
 split
 ·split
  ·exact hl
  ·split
   ·unfold addT
    split
    ·rename_i h;exact ⟨h.1,fun m hm=>sum_rng hm⟩
    ·exact zNa
   ·exact zNa
 ·exact zNa
theorem substR_ok {l to_:Lf} {s:ByteArray} (h1:linOk l=true) (h2:linOk to_=true) (h3:isNameB s=true) (h:(substR l s to_).2=0):linOk (substR l s to_).1=true:=by
 unfold substR at h⊢
 rw [if_pos ⟨h1,h2,h3⟩] at h⊢
 by_cases c:lastBy l.L s=0
 ·rw [if_pos c] at h⊢;exact h1
 ·rw [if_neg c] at h⊢
  by_cases d:r64 (to_.K*lastBy l.L s)/\scaleOk (lastBy l.L s) to_.L=true
  ·rw [if_pos d] at h⊢
   unfold addT at h⊢
   split
   ·exact sum_asc (mul_asc _ (zFi _ none _ _ (Nat.le_refl _) (zHl _ h1) h2))
   ·rfl
  ·rw [if_neg d] at h⊢;rfl
theorem zPi:∀{q:ByteArray} {l:List Mono},monosOk (some q) l=true->∀m,m∈l->strLt q m.Name=true
 |_,[],_,m,hm=>by cases hm
 |q,x::r,h,m,hm=>by
  simp only [monosOk,Bool.and_eq_true] at h
  rcases List.mem_cons.1 hm with rfl|hm
  ·exact h.1.2
  ·exact zBq h.1.2 (zPi h.2 m hm)
def gIx (g:Lf->Lf) (x:Ix):Ix:=⟨g x.Lin,x.From,x.At.map g⟩
mutual
def gEx (g:Lf->Lf):Ex->Ex
 |.mk o n v t l i arg_=>.mk o n v t (g l) (i.map (gIx g)) (gExs g arg_)
def gExs (g:Lf->Lf):List Ex->List Ex
 |[]=>[]
 |a::r=>gEx g a::gExs g r
end
theorem gExs_map (g:Lf->Lf) (l:List Ex):gExs g l=l.map (gEx g):=by
 induction l with
 |nil=>rfl
 |cons a r ih=>rw [gExs,ih];rfl
theorem gEx_eq (g:Lf->Lf) (e:Ex):gEx g e=.mk e.Op e.Name e.Val e.Ty (g e.Lin) (e.Idx.map (gIx g)) (e.Args.map (gEx g)):=by
 cases e;rw [gEx,gExs_map];rfl
theorem mLins_g {f:Lf->Lf×Int}:∀{l r:List Lf},mLins f l=.ok r->r=l.map (fun x=>(f x).1)/\∀x,x∈l->(f x).2=0
 |[],r,h=>by rw [mLins] at h;injection h with h;subst h;exact ⟨rfl,fun x hx=>by cases hx⟩
 |a::t,r,h=>by
  rw [mLins] at h
  by_cases c:(f a).2=0
  ·rw [zNq c] at h
   cases hm:mLins f t with
   |error y=>rw [hm] at h;cases h
   |ok u=>
    rw [hm] at h
    injection h with h
    subst h
    obtain ⟨h1,h2⟩:=mLins_g hm
    exact ⟨by rw [h1];rfl,fun x hx=>by rcases List.mem_cons.1 hx with rfl|hx;exact c;exact h2 x hx⟩
  ·rw [fE_err c] at h;cases h
theorem mIx_g {f:Lf->Lf×Int} {x y:Ix} (h:mIx f x=.ok y):y=gIx (fun l=>(f l).1) x/\(f x.Lin).2=0/\∀l,l∈x.At->(f l).2=0:=by
 rw [mIx] at h
 by_cases c:(f x.Lin).2=0
 ·rw [zNq c] at h
  cases hm:mLins f x.At with
  |error y=>rw [hm] at h;cases h
  |ok u=>
   rw [hm] at h
   injection h with h
   subst h
   obtain ⟨h1,h2⟩:=mLins_g hm
   exact ⟨by rw [h1];rfl,c,h2⟩
 ·rw [fE_err c] at h;cases h
theorem mIxs_g {f:Lf->Lf×Int}:∀{l r:List Ix},mIxs f l=.ok r->r=l.map (gIx fun x=>(f x).1)/\∀x,x∈l->(f x.Lin).2=0/\∀y,y∈x.At->(f y).2=0
 |[],r,h=>by rw [mIxs] at h;injection h with h;subst h;exact ⟨rfl,fun x hx=>by cases hx⟩
 |a::t,r,h=>by
  rw [mIxs] at h
  cases h1:mIx f a with
  |error y=>rw [h1] at h;cases h
  |ok a'=>
   rw [h1] at h
   cases hm:mIxs f t with
   |error y=>rw [hm] at h;cases h
   |ok u=>
    rw [hm] at h
    injection h with h
    subst h
    obtain ⟨k1,k2⟩:=mIx_g h1
    obtain ⟨k3,k4⟩:=mIxs_g hm
    exact ⟨by rw [k1,k3];rfl,fun x hx=>by rcases List.mem_cons.1 hx with rfl|hx;exact k2;exact k4 x hx⟩
theorem nodes_allF {P:Lf->Prop} {e:Ex} (h1:∀l,l∈formsL e->P l) (h2:∀a,a∈e.Args->a.allF P):e.allF P:=by
 intro x hx
 rw [zAl] at hx
 rcases List.mem_cons.1 hx with rfl|hx
 ·exact h1
 ·have:∀l:List Ex,(∀a,a∈l->a.allF P)->x∈nodesL l->∀y,y∈formsL x->P y:=by
   intro l
   induction l with
   |nil=>intro _ h;simp [nodesL] at h
   |cons a r ih=>
    intro h hm
    rw [nodesL] at hm
    rcases List.mem_append.1 hm with k|k
    ·exact h a (by simp) x k
    ·exact ih (fun b hb=>h b (by simp [hb])) k
  exact this e.Args h2 hx
mutual
theorem mEx_g {f:Lf->Lf×Int}:∀{e e':Ex},mEx f e=.ok e'->e'=gEx (fun l=>(f l).1) e/\e.allF fun l=>(f l).2=0
 |.mk o n v t l i arg_,e',h=>by
  rw [mEx] at h
  by_cases c:(f l).2=0
  ·rw [zNq c] at h
   cases h1:mIxs f i with
   |error y=>rw [h1] at h;cases h
   |ok i'=>
    rw [h1] at h
    cases h2:mExs f arg_ with
    |error y=>rw [h2] at h;cases h
    |ok as'=>
     rw [h2] at h
     injection h with h
     subst h
     obtain ⟨k1,k2⟩:=mIxs_g h1
     obtain ⟨k3,k4⟩:=mExs_g h2
     refine ⟨by rw [gEx,k1,k3,gExs_map],nodes_allF ?_ k4⟩
     intro y hy
     unfold formsL at hy
     rcases List.mem_cons.1 hy with rfl|hy
     ·exact c
     ·obtain ⟨x,hx,hy⟩:=List.mem_flatMap.1 hy
      rcases List.mem_cons.1 hy with rfl|hy
      ·exact (k2 x hx).1
      ·exact (k2 x hx).2 y hy
  ·rw [fE_err c] at h;cases h
theorem mExs_g {f:Lf->Lf×Int}:∀{l r:List Ex},mExs f l=.ok r->r=l.map (gEx fun l=>(f l).1)/\∀a,a∈l->a.allF fun l=>(f l).2=0
 |[],r,h=>by rw [mExs] at h;injection h with h;subst h;exact ⟨rfl,fun x hx=>by cases hx⟩
 |a::t,r,h=>by
  rw [mExs] at h
  cases h1:mEx f a with
  |error y=>rw [h1] at h;cases h
  |ok a'=>
   rw [h1] at h
   cases hm:mExs f t with
   |error y=>rw [hm] at h;cases h
   |ok u=>
    rw [hm] at h
    injection h with h
    subst h
    obtain ⟨k1,k2⟩:=mEx_g h1
    obtain ⟨k3,k4⟩:=mExs_g hm
    exact ⟨by rw [k1,k3];rfl,fun x hx=>by rcases List.mem_cons.1 hx with rfl|hx;exact k2;exact k4 x hx⟩
end
theorem forms_g (g:Lf->Lf) (e:Ex):formsL (gEx g e)=(formsL e).map g:=by
 rw [gEx_eq]
 show g e.Lin::(e.Idx.map (gIx g)).flatMap (fun x=>x.Lin::x.At)=(e.Lin::e.Idx.flatMap fun x=>x.Lin::x.At).map g
 rw [List.map_cons]
 congr 1
 induction e.Idx with
 |nil=>rfl
 |cons x r ih=>rw [List.map_cons,List.flatMap_cons,List.flatMap_cons,List.map_append,ih];rfl
mutual
theorem nodes_g (g:Lf->Lf):∀e:Ex,nodes (gEx g e)=(nodes e).map (gEx g)
 |.mk o n v t l i arg_=>by rw [gEx,nodes,nodes,nodesL_g g arg_,List.map_cons,gEx]
theorem nodesL_g (g:Lf->Lf):∀l:List Ex,nodesL (gExs g l)=(nodesL l).map (gEx g)
 |[]=>by rw [gExs,nodesL];rfl
 |a::r=>by rw [gExs,nodesL,nodesL,nodes_g g a,nodesL_g g r,List.map_append]
end
theorem allF_g {g:Lf->Lf} {P:Lf->Prop} {e:Ex} (h:e.allF fun l=>P (g l)):(gEx g e).allF P:=by
 intro x hx l hl
 rw [nodes_g] at hx
 obtain ⟨y,hy,rfl⟩:=List.mem_map.1 hx
 rw [forms_g] at hl
 obtain ⟨k,hk,rfl⟩:=List.mem_map.1 hl
 exact h y hy k hk
theorem valid_lin {e:Ex} (h:validE e=0):e.allF fun l=>linOk l=true:=by
 intro x hx l hl
 have:=(zKj (zKz (zDm h) x hx)).2.2.2.2
 unfold formOk at this
 rw [Bool.and_eq_true] at this
 exact List.all_eq_true.1 this.2 l hl
/-! ## Weights -/
end Go.Br
end
section
namespace Go.Br
open Go Go.Eng Go.Proofs Go.L41
structure PO {α:Type} (f:α->α->Int) (a:α):Prop where
 anti:∀b,f b a= -f a b
 rng:∀b,-1<=f a b/\f a b<=1
 cong:∀b,f a b=0->∀c,f a c=f b c
 cong':∀b c,f b c=0->f a b=f a c
 trans:∀b c,f a b<0->f b c<0->f a c<0
theorem PO.zero {α:Type} (a:α):PO (fun _ _=>0) a:=
 ⟨fun _=>rfl,fun _=>⟨by show (-1:Int)<=0;omega,by show (0:Int)<=1;omega⟩,fun _ _ _=>rfl,fun _ _ _=>rfl,fun _ _ h _=>h⟩
end Go.Br
end
section
namespace Go.Br
open Go Go.Eng Go.L41
/-! ## Short names -/
def namesF (l:Lf):List ByteArray:=l.L.map Mono.Name
def namesN (x:Ex):List ByteArray:=(formsL x).flatMap namesF
def namesA (l:List Ex):List ByteArray:=l.flatMap namesN
end Go.Br
end
section
namespace Go.Br
open Go Go.Eng Go.L41
def insW:List ByteArray->ByteArray->List ByteArray
 |[],s=>[s]
 |x::r,s=>if strLt x s=true then x::insW r s else if x=s then x::r else s::x::r
def insWs (l:List ByteArray) (m:List ByteArray):List ByteArray:=m.foldl insW l
def below (s:ByteArray) (x:ByteArray):Bool:=strLt x s
theorem hasB_mem {l:List ByteArray} {s:ByteArray}:hasB l s=true↔s∈l:=by
 unfold hasB;rw [List.any_eq_true]
 constructor
 ·rintro ⟨x,hx,h⟩;rw [decide_eq_true_eq] at h;rw [←h];exact hx
 ·intro h;exact ⟨s,h,by simp⟩
end Go.Br
end
section
namespace Go.Br
open Go Go.Eng Go.L41
def indexW (e:Ex):List ByteArray:=insWs [] (namesA (nodes e))
end Go.Br
end
section
namespace Go.Br
open Go Go.Eng Go.L41
theorem nodeT_args {N:Ex->List Ty->Ty×Int} {e:Ex} (h:(nodeT N e).2=0):(nodeL N e.Args).2=0/\nodeT N e=N e (nodeL N e.Args).1:=by
 rw [zIl] at h⊢
 by_cases c:(nodeL N e.Args).2=0
 ·rw [if_pos c] at h⊢;exact ⟨c,rfl⟩
 ·rw [if_neg c] at h;exact absurd h c
theorem nodeL_cons {N:Ex->List Ty->Ty×Int} {a:Ex} {r:List Ex} (h:(nodeL N (a::r)).2=0):(nodeT N a).2=0/\(nodeL N r).2=0/\(nodeL N (a::r)).1=(nodeT N a).1::(nodeL N r).1:=by
 rw [nodeL] at h⊢
 by_cases c:(nodeT N a).2=0
 ·rw [if_pos c] at h⊢
  by_cases d:(nodeL N r).2=0
  ·rw [if_pos d];exact ⟨c,d,rfl⟩
  ·rw [if_neg d] at h;exact absurd h d
 ·rw [if_neg c] at h;exact absurd h c
section
variable {fr:Ex->Bool} {o_:List ByteArray} {e a b c:Ex}
end
/-! ## Weights -/
section
variable {n:En} {o_:List ByteArray} {e:Ex} {t:Ty×Int}
end
end Go.Br
end
section
namespace Go.Br
open Go Go.Eng Go.L41
theorem valid_defs {p:Pg} (h:(validM p).2=0):∀d,d∈p.Defs->isNameB d.Name=true:=by
 rw [zFn] at h
 obtain ⟨a',h5,_⟩:=zCn p p rfl p.Params _ _ (zDq h).2.2.2
 intro d hd
 obtain ⟨i,hi⟩:=List.getElem?_of_mem hd
 have h1:=zGf p p.Defs _ _ _ h5 i d hi
 have h2:nameR d.Name ((p.Sizes++p.Params.map Pm.Name)++(p.Defs.take i).map Df.Name)=0:=Decidable.byContradiction fun c=>by rw [defR_1 c] at h1;exact c h1
 unfold nameR at h2
 by_cases g:isNameB d.Name=true
 ·exact g
 ·rw [if_neg g] at h2;exact absurd h2 (by decide)
theorem name_size {s:ByteArray} (h:isNameB s=true):s.size<=16:=by
 rcases Nat.lt_or_ge 16 s.size with c|c
 ·rw [name_short (by rw [Bool.or_eq_true,Bool.or_eq_true];exact .inl (.inr (decide_eq_true (by omega))))] at h;cases h
 ·exact c
section
variable {p:Pg} {o_:List ByteArray} {R:List Df×List ByteArray×Int}
end
section
variable {n:En} {d:Df} {A:List ByteArray} {X:Ex×Int}
end
end Go.Br
end
section
namespace Go.Br
open Go Go.Eng Go.L41
structure Pg.Frm (p:Pg):Prop where
 whs:∀c,c∈p.Where->c.Lin.L.length<=5864062014805
 ps:∀x,x∈p.Params->∀l,l∈x.Dims->l.L.length<=5864062014805
 ds:∀d,d∈p.Defs->(∀a,a∈d.Dims->a.Size.L.length<=5864062014805)/\∀a,a∈d.Red->a.Size.L.length<=5864062014805
structure Pg.Sm (p:Pg):Prop where
 sizes:p.Sizes.length<=80
 wh:p.Where.length<=80
 params:p.Params.length<=40
 defs:p.Defs.length<=40
 outs:p.Outs.length<=40
 frm:p.Frm
 ps:∀x,x∈p.Params->x.Dims.length<=1500
 ds:∀d,d∈p.Defs->d.Dims.length<=1500/\d.Red.length<=1500/\d.Body.wt<=1500
theorem Pg.Sm.ok {p:Pg} (h:p.Sm):p.Ok:=
 ⟨Nat.le_trans h.sizes (by decide),Nat.le_trans h.wh (by decide),Nat.le_trans h.params (by decide),Nat.le_trans h.defs (by decide),Nat.le_trans h.outs (by decide),h.frm.whs,
  fun x hx=>⟨Nat.le_trans (h.ps x hx) (by decide),h.frm.ps x hx⟩,
  fun d hd=>⟨Nat.le_trans (h.ds d hd).1 (by decide),Nat.le_trans (h.ds d hd).2.1 (by decide),(h.frm.ds d hd).1,(h.frm.ds d hd).2,Nat.le_trans (h.ds d hd).2.2 (by decide)⟩⟩
/-! ## What the loop over the definitions makes is small -/
theorem Pg.Sm.df {p:Pg} (h:p.Sm) {d:Df} (hd:d∈p.Defs):d.Dims.length<=1500/\d.Red.length<=1500/\(∀a,a∈d.Dims->a.Size.L.length<=5864062014805)/\(∀a,a∈d.Red->a.Size.L.length<=5864062014805)/\d.Body.wt<=1500:=
 ⟨(h.ds d hd).1,(h.ds d hd).2.1,(h.frm.ds d hd).1,(h.frm.ds d hd).2,(h.ds d hd).2.2⟩
end Go.Br
end
section
namespace Go.Br
open Go Go.Eng Go.L41
/-! ## Numerals -/
end Go.Br
end
section
namespace Go.Br
open Go Go.Eng Go.L41
/-! ## Occurrences -/
def axsN (d:Df) (e:Ex):List Ax:=(d.Dims++d.Red).filter fun a=>hasB (indexW e) a.Name
structure Cl where
 e:Ex
 axes:List Ax
 first:Nat
 n:Nat
 deriving DecidableEq
structure Cl.Ok (c:Cl) (D:List Df):Prop where
 op:3<c.e.Op
 cond:isCond c.e=false
 axes:c.axes.length<=6
 n:1<=c.n
 first:∃d,D[c.first]? =some d/\c.e∈nodes d.Body/\c.axes=axsN d c.e
def Ex.ops (e:Ex):Prop:=∀x,x∈nodes e->1<=x.Op
end Go.Br
end
section
namespace Go.Br
open Go Go.Eng Go.L41
/-! ## A class begins with its first occurrence -/
end Go.Br
end
section
namespace Go.Br
open Go Go.Eng Go.L41
/-! ## Ascending monomials -/
def ascM (l:List Mono):Prop:=l.Pairwise fun a b=>strLt a.Name b.Name=true
theorem monos_asc:∀{p:Option ByteArray} {l:List Mono},monosOk p l=true->ascM l
 |_,[],_=>List.Pairwise.nil
 |p,x::r,h=>by
  simp only [monosOk,Bool.and_eq_true] at h
  exact List.Pairwise.cons (fun m hm=>zPi h.2 m hm) (monos_asc h.2)
theorem asc_ne {x y:ByteArray} (h:strLt x y=true):x≠y:=by rintro rfl;rw [zOq] at h;cases h
theorem asc_not {x y:ByteArray} (h:strLt x y=true):strLt y x=false:=by
 cases k:strLt y x with
 |false=>rfl
 |true=>have:=zBq h k;rw [zOq] at this;cases this
theorem asc_ext:∀{a b:List Mono},ascM a->ascM b->(∀m,m∈a↔m∈b)->a=b
 |[],[],_,_,_=>rfl
 |[],y::s,_,_,h=>by have:=(h y).2 (by simp);cases this
 |x::r,[],_,_,h=>by have:=(h x).1 (by simp);cases this
 |x::r,y::s,ha,hb,h=>by
  unfold ascM at ha hb
  rw [List.pairwise_cons] at ha hb
  have hxy:x=y:=by
   rcases List.mem_cons.1 ((h x).1 (by simp)) with e|e
   ·exact e
   ·rcases List.mem_cons.1 ((h y).2 (by simp)) with e2|e2
    ·exact e2.symm
    ·have h1:=hb.1 x e
     have h2:=ha.1 y e2
     rw [asc_not h1] at h2;cases h2
  subst hxy
  rw [asc_ext (a:=r) (b:=s) ha.2 hb.2 fun m=>?_]
  constructor
  ·intro hm
   rcases List.mem_cons.1 ((h m).1 (by simp [hm])) with e|e
   ·subst e;exact absurd rfl (asc_ne (ha.1 m hm))
   ·exact e
  ·intro hm
   rcases List.mem_cons.1 ((h m).2 (by simp [hm])) with e|e
   ·subst e;exact absurd rfl (asc_ne (hb.1 m hm))
   ·exact e
def sortM (l:List Mono):List Mono:=l.mergeSort fun a b=> !strLt b.Name a.Name
theorem sortM_mem {l:List Mono} {m:Mono}:m∈sortM l↔m∈l:=(List.mergeSort_perm l _).mem_iff
theorem zOr (l:List Mono):(sortM l).length=l.length:=(List.mergeSort_perm l _).length_eq
theorem sortM_asc {l:List Mono} (h:(l.map Mono.Name).Nodup):ascM (sortM l):=by
 have h1:(sortM l).Pairwise fun a b=>(!strLt b.Name a.Name)=true:=by
  apply List.pairwise_mergeSort
  ·intro a b c hab hbc
   simp only [Bool.not_eq_true'] at hab hbc⊢
   cases k:strLt c.Name a.Name with
   |false=>rfl
   |true=>
    cases k2:strLt c.Name b.Name with
    |true=>rw [k2] at hbc;cases hbc
    |false=>
     cases k3:strLt b.Name c.Name with
     |true=>have:=zBq k3 k;rw [this] at hab;cases hab
     |false=>have e:=zGy k2 k3;rw [←e,k] at hab;cases hab
  ·intro a b
   cases k:strLt b.Name a.Name with
   |false=>simp
   |true=>simp [asc_not k]
 have h2:((sortM l).map Mono.Name).Nodup:=((List.mergeSort_perm l _).map Mono.Name).nodup_iff.2 h
 unfold List.Nodup at h2
 rw [List.pairwise_map] at h2
 unfold ascM
 refine (h1.and h2).imp fun {a b} hh=>?_
 cases k:strLt a.Name b.Name with
 |true=>rfl
 |false=>exact absurd (zGy k (by simpa using hh.1)) hh.2
/-! ## Names exchanged -/
def ixB (A:List ByteArray) (s:ByteArray):Int:=idxOf (fun x=>decide (x=s)) A
def swpB (A B:List ByteArray) (s:ByteArray):ByteArray:=if 0<=ixB B s then A.getD (ixB B s).toNat (bs []) else s
theorem ixB_no {A:List ByteArray} {s:ByteArray} (h:s ∉ A):ixB A s= -1:=zAu (by rw [List.any_eq_false];intro x hx hh;exact h (by simpa using (show x=s by simpa using hh) ▸ hx))
theorem ixB_at {A:List ByteArray} {k:Nat} {s:ByteArray} (hn:A.Nodup) (h:A[k]? =some s):ixB A s=(k:Nat):=by
 refine zCt h (by simp) ?_
 rw [List.any_eq_false]
 intro x hx hh
 have e:x=s:=by simpa using hh
 subst e
 obtain ⟨j,hj,hj2⟩:=List.mem_iff_getElem.1 hx
 rw [List.length_take] at hj
 have hk:k<A.length:=by
  rcases Nat.lt_or_ge k A.length with h1|h1
  ·exact h1
  ·rw [List.getElem?_eq_none h1] at h;cases h
 rw [List.getElem_take] at hj2
 rw [List.getElem?_eq_getElem hk] at h
 injection h with h
 exact (List.pairwise_iff_getElem.1 hn) j k (by omega) hk (by omega) (by rw [hj2,h])
theorem mem_ix {A:List ByteArray} {s:ByteArray} (h:s∈A):∃k:Nat,A[k]? =some s:=List.getElem?_of_mem h
theorem renB_no {A B:List ByteArray} {s:ByteArray} (h:s ∉ B):swpB A B s=s:=by unfold swpB;rw [ixB_no h,if_neg (by decide)]
theorem renB_at {A B:List ByteArray} {k:Nat} {s t:ByteArray} (hB:B.Nodup) (h:B[k]? =some s) (hA:A[k]? =some t):swpB A B s=t:=by
 unfold swpB
 rw [ixB_at hB h,if_pos (by omega)]
 simp [hA]
theorem get_len {α:Type} {l:List α} {k:Nat} {x:α} (h:l[k]? =some x):k<l.length:=by
 rcases Nat.lt_or_ge k l.length with h1|h1
 ·exact h1
 ·rw [List.getElem?_eq_none h1] at h;cases h
theorem ren_back {A B:List ByteArray} (hA:A.Nodup) (hB:B.Nodup) (hl:A.length=B.length) {s:ByteArray} (h:s ∉ B->s ∉ A):swpB B A (swpB A B s)=s:=by
 by_cases c:s∈B
 ·obtain ⟨k,hk⟩:=mem_ix c
  have hkl:=get_len hk
  have ha:A[k]? =some (A[k]'(by omega)):=List.getElem?_eq_getElem (by omega)
  rw [renB_at hB hk ha,renB_at hA ha hk]
 ·rw [renB_no c,renB_no (h c)]
def renF (A B:List ByteArray) (l:Lf):Lf:=⟨l.K,sortM (l.L.map fun m=>⟨swpB A B m.Name,m.By⟩)⟩
end Go.Br
end
section
namespace Go.Br
open Go Go.Eng Go.L41
section
variable {A B:List ByteArray}
def swpOk (A B:List ByteArray) (l:Lf):Prop:=linOk l=true/\∀m,m∈l.L->m.Name ∉ B->m.Name ∉ A
end
/-! ## Definitions -/
structure twnOk (a b:Df):Prop where
 na:(namesD a).Nodup
 nb:(namesD b).Nodup
 fa:a.Body.allF fun l=>linOk l=true
 fb:b.Body.allF (swpOk (namesD a) (namesD b))
end Go.Br
end
section
namespace Go.Br
open Go Go.Eng Go.L41
theorem nameR_not {s:ByteArray} {t:List ByteArray} (h:nameR s t=0):s ∉ t:=fun hm=>by
 unfold nameR at h
 by_cases c:isNameB s=true
 ·rw [if_pos c,if_pos (hasB_mem.2 hm)] at h;cases h
 ·rw [if_neg c] at h;cases h
theorem axesR_of {sz:List ByteArray}:∀(l:List Ax) (t:List ByteArray),axesR sz t l=0->(l.map Ax.Name).Nodup/\∀a,a∈l->a.Name ∉ t
 |[],t,_=>⟨List.nodup_nil,fun a ha=>by cases ha⟩
 |x::r,t,h=>by
  rw [axesR] at h
  by_cases c:nameR x.Name t=0
  ·rw [if_pos c] at h
   by_cases c2:formR x.Size sz=0
   ·rw [if_pos c2] at h
    obtain ⟨h1,h2⟩:=axesR_of r _ h
    refine ⟨?_,fun a ha=>?_⟩
    ·rw [List.map_cons,List.nodup_cons]
     refine ⟨fun hm=>?_,h1⟩
     obtain ⟨a,ha,e⟩:=List.mem_map.1 hm
     exact h2 a ha (by rw [e];simp)
    ·rcases List.mem_cons.1 ha with rfl|ha
     ·exact nameR_not c
     ·exact fun hm=>h2 a ha (List.mem_append_left _ hm)
   ·rw [if_neg c2] at h;exact absurd h c2
  ·rw [if_neg c] at h;exact absurd h c
theorem defR_axes {n:En} {d:Df} {t:List ByteArray} (h:defR n d t=0):axesR n.sz n.sz (d.Dims++d.Red)=0:=by
 have h1:nameR d.Name t=0:=Decidable.byContradiction fun c=>by rw [defR_1 c] at h;exact c h
 have h2:tyOk d.T=true:=by
  cases c:tyOk d.T with
  |true=>rfl
  |false=>rw [defR_10 h1 c] at h;cases h
 have h3:¬(6<d.Dims.length∨6<d.Red.length):=fun c=>by rw [defR_11 h1 h2 c] at h;cases h
 rw [defR_ok h1 h2 h3] at h
 exact Decidable.byContradiction fun c=>by rw [if_neg c] at h;exact c h
theorem knL_mem {k:ByteArray->Bool} {l:List Mono} (h:knL k l=true):∀m,m∈l->k m.Name=true:=fun m hm=>List.all_eq_true.1 h m hm
theorem formK_of {k:ByteArray->Bool} {l:Lf} (h:formK k l=0):knL k l.L=true:=by
 unfold formK at h
 cases c:knL k l.L with
 |true=>rfl
 |false=>rw [c] at h;cases h
theorem formsK_of {k:ByteArray->Bool} {l:List Lf} (h:formsK k l=0):∀x,x∈l->knL k x.L=true:=by
 unfold formsK at h
 cases c:l.all (fun x=>knL k x.L) with
 |true=>exact List.all_eq_true.1 c
 |false=>rw [c] at h;cases h
theorem zeroL_L {l:Lf} (h:zeroL l=true):l.L=[]:=by
 unfold zeroL at h
 simp only [Bool.and_eq_true,decide_eq_true_eq] at h
 exact List.eq_nil_of_length_eq_zero (by omega)
theorem zPt {n:En} {k:ByteArray->Bool}:∀l:List Ix,indexL n k l=0->∀x,x∈l->indexK n k x=0
 |[],_,x,hx=>by cases hx
 |y::r,h,x,hx=>by
  rw [indexL] at h
  by_cases c:indexK n k y=0
  ·rw [decide_eq_true c,cond_true] at h
   rcases List.mem_cons.1 hx with rfl|hx
   ·exact c
   ·exact zPt r h x hx
  ·rw [decide_eq_false c,cond_false] at h;exact absurd h c
theorem indexK_of {n:En} {k:ByteArray->Bool} {x:Ix} (hw:wellIx x=true) (h:indexK n k x=0):∀l,l∈x.Lin::x.At->∀m,m∈l.L->k m.Name=true:=by
 unfold wellIx at hw
 unfold indexK at h
 by_cases c:x.From=bs []
 ·rw [decide_eq_true c,cond_true] at hw h
  have hA:x.At=[]:=List.eq_nil_of_length_eq_zero (by have:=of_decide_eq_true hw;omega)
  intro l hl
  rw [hA,List.mem_singleton] at hl
  subst hl
  exact knL_mem (formK_of h)
 ·rw [decide_eq_false c,cond_false] at hw h
  cases c1:(n.find x.From).ok with
  |false=>rw [c1] at h;cases h
  |true=>
   rw [c1,Bool.not_true,cond_false] at h
   by_cases c2:(n.find x.From).ty.Kind=3
   ·rw [decide_eq_true c2,Bool.not_true,cond_false] at h
    by_cases c3:x.At.length=(n.find x.From).dims.length
    ·rw [decide_eq_true c3,Bool.not_true,cond_false] at h
     intro l hl m hm
     rcases List.mem_cons.1 hl with rfl|hl
     ·rw [zeroL_L hw] at hm;cases hm
     ·exact knL_mem (formsK_of h l hl) m hm
    ·rw [decide_eq_false c3,Bool.not_false,cond_true] at h;cases h
   ·rw [decide_eq_false c2,Bool.not_false,cond_true] at h;cases h
theorem node_known {n:En} {k:ByteArray->Bool} {e:Ex} {tys:List Ty} (hs:synOk e=true) (h:(ofN n k e tys).2=0):∀l,l∈formsL e->∀m,m∈l.L->k m.Name=true:=by
 unfold synOk at hs
 simp only [Bool.and_eq_true,Bool.not_eq_true',Bool.and_eq_false_iff,Bool.or_eq_false_iff,Bool.not_eq_false',decide_eq_true_eq,decide_eq_false_iff_not,List.all_eq_true] at hs
 obtain ⟨⟨⟨⟨⟨_,_⟩,_⟩,h4⟩,h5⟩,h6⟩:=hs
 intro l hl m hm
 unfold formsL at hl
 rcases List.mem_cons.1 hl with rfl|hl
 ·by_cases c:e.Op=2
  ·unfold ofN at h
   rw [if_neg (by omega),if_pos c] at h
   exact knL_mem (formK_of h) m hm
  ·rcases h4 with h4|h4
   ·exact absurd h4 c
   ·rw [zeroL_L h4] at hm;cases hm
 ·obtain ⟨x,hx,hlx⟩:=List.mem_flatMap.1 hl
  have h3:e.Op=3:=by
   rcases h5 with h5|h5
   ·exact h5
   ·have:=List.length_pos_of_mem hx
    exact absurd (show (0:Int)<e.Idx.length by omega) (by simpa using h5.2)
  unfold ofN at h
  rw [if_neg (by omega),if_neg (by omega),if_pos h3] at h
  exact indexK_of (h6 x hx) (zPt _ (readK_of h).2.2 x hx) l hlx m hm
theorem nodeL_each {N:Ex->List Ty->Ty×Int}:∀l:List Ex,(nodeL N l).2=0->∀a,a∈l->(nodeT N a).2=0
 |[],_,a,ha=>by cases ha
 |x::r,h,a,ha=>by
  obtain ⟨h1,h2,_⟩:=nodeL_cons h
  rcases List.mem_cons.1 ha with rfl|ha
  ·exact h1
  ·exact nodeL_each r h2 a ha
theorem tree_known {n:En} {k:ByteArray->Bool} (e:Ex):(∀x,x∈nodes e->nodeErr x=0)->(nodeT (ofN n k) e).2=0->e.allF fun l=>∀m,m∈l.L->k m.Name=true:=by
 induction e using Ex.ind with
 |_ e ih=>
  intro hn h
  obtain ⟨h1,h2⟩:=nodeT_args h
  rw [h2] at h
  exact nodes_allF (node_known (zKj (hn e (by rw [zAl];exact List.mem_cons_self))).1 h) fun a ha=>
   ih a ha (fun x hx=>hn x (by rw [zAl];exact List.mem_cons_of_mem _ (zPe ha hx))) (nodeL_each _ h1 a ha)
theorem typed_known {n:En} {vars:List ByteArray} {e:Ex} (h:(typeT n vars e).2=0):e.allF fun l=>∀m,m∈l.L->knB n.sz vars m.Name=true:=by
 obtain ⟨h1,_,h3⟩:=zJu h
 exact tree_known e (zKz (zDm h1)) h3
theorem valid_axes {p:Pg} (h:(validM p).2=0):∀d,d∈p.Defs->(namesD d).Nodup/\∀s,s∈namesD d->s ∉ p.Sizes:=by
 rw [zFn] at h
 obtain ⟨a',h5,_⟩:=zCn p p rfl p.Params _ _ (zDq h).2.2.2
 intro d hd
 obtain ⟨i,hi⟩:=List.getElem?_of_mem hd
 have h1:=defR_axes (zGf p p.Defs _ _ _ h5 i d hi)
 obtain ⟨h2,h3⟩:=axesR_of _ _ h1
 have e:namesD d=(d.Dims++d.Red).map Ax.Name:=by unfold namesD;rw [List.map_append]
 rw [e]
 refine ⟨h2,fun s hs=>?_⟩
 obtain ⟨a,ha,rfl⟩:=List.mem_map.1 hs
 exact h3 a ha
end Go.Br
end
section
namespace Go.Br
open Go Go.Eng Go.L41
abbrev SmM:Type:=List (ByteArray×ByteArray)
theorem mgetS_put (m:SmM) (k s a:ByteArray):mget (mput m k a) s=if k=s then some a else mget m s:=by
 induction m with
 |nil=>rfl
 |cons q r ih=>
  obtain ⟨k',b⟩:=q
  rw [mput]
  split
  ·next h=>subst h;simp only [mget];split<;>rfl
  ·next h=>
   simp only [mget]
   rw [ih]
   split
   ·next h2=>subst h2;rw [if_neg (fun e=>h e.symm)]
   ·rfl
def mapAB (A B:List ByteArray) (k:Nat):SmM:=((B.zip A).take k).foldl (fun m q=>mput m q.1 q.2) []
theorem foldS_get (s:ByteArray):∀(l:SmM) (m:SmM),(l.map Prod.fst).Nodup->mget (l.foldl (fun m q=>mput m q.1 q.2) m) s=(match l.find? fun q=>decide (q.1=s) with|some q=>some q.2|none=>mget m s)
 |[],m,_=>rfl
 |q::r,m,h=>by
  rw [List.foldl_cons,foldS_get s r _ (by rw [List.map_cons,List.nodup_cons] at h;exact h.2),List.find?_cons]
  rw [List.map_cons,List.nodup_cons] at h
  by_cases c:q.1=s
  ·have hn:r.find? (fun q=>decide (q.1=s))=none:=by
    rw [List.find?_eq_none]
    intro x hx hh
    exact h.1 (by rw [c,←of_decide_eq_true hh];exact List.mem_map_of_mem hx)
   rw [hn,decide_eq_true c,mgetS_put,if_pos c]
  ·rw [decide_eq_false c,mgetS_put,if_neg c]
theorem mapAB_end {A B:List ByteArray} (hB:B.Nodup) (hl:A.length=B.length) {k:Nat} (hk:¬k<B.length) (s:ByteArray):(mget (mapAB A B k) s).getD s=swpB A B s:=by
 unfold mapAB
 rw [yC (by rw [List.length_zip];omega),foldS_get s _ _ (by rw [List.map_fst_zip (by omega)];exact hB)]
 by_cases c:s∈B
 ·obtain ⟨i,hi⟩:=List.getElem?_of_mem c
  have hiB:=get_len hi
  have hA:A[i]? =some (A[i]'(by omega)):=List.getElem?_eq_getElem (by omega)
  rw [renB_at hB hi hA]
  cases hf:(B.zip A).find? (fun q=>decide (q.1=s)) with
  |none=>
   rw [List.find?_eq_none] at hf
   exact absurd (by simp:decide (s=s)=true) (hf (s,A[i]'(by omega)) (by rw [List.mem_iff_getElem?];exact ⟨i,by rw [List.getElem?_zip_eq_some];exact ⟨hi,hA⟩⟩))
  |some q=>
   have h1:=List.find?_some hf
   have h2:=List.mem_of_find?_eq_some hf
   obtain ⟨j,hj⟩:=List.getElem?_of_mem h2
   rw [List.getElem?_zip_eq_some] at hj
   have e1:q.1=s:=of_decide_eq_true h1
   have hjB:=get_len hj.1
   have e2:j=i:=by
    have e3:=ixB_at hB hi
    have e4:=ixB_at (s:=s) hB (e1 ▸ hj.1)
    omega
   subst e2
   rw [hA] at hj
   exact (Option.some.inj hj.2).symm
 ·rw [renB_no c]
  cases hf:(B.zip A).find? (fun q=>decide (q.1=s)) with
  |none=>rfl
  |some q=>
   have h1:=List.find?_some hf
   have h2:=List.mem_of_find?_eq_some hf
   exact absurd (by rw [←of_decide_eq_true h1];exact (List.of_mem_zip h2).1) c
theorem ren_nodup {A B:List ByteArray} {l:Lf} (hA:A.Nodup) (hB:B.Nodup) (hl:A.length=B.length) (h:swpOk A B l):((l.L.map fun x=>(⟨swpB A B x.Name,x.By⟩:Mono)).map Mono.Name).Nodup:=by
 have h1:=monos_asc (p:=none) (l:=l.L) (by have:=h.1;unfold linOk at this;exact this)
 unfold List.Nodup
 rw [List.map_map,List.pairwise_map]
 refine (List.Pairwise.and_mem.1 h1).imp fun {a b} hh e=>?_
 obtain ⟨ha,hb,hlt⟩:=hh
 have e:swpB A B a.Name=swpB A B b.Name:=e
 have e1:=ren_back hA hB hl (h.2 a ha)
 have e2:=ren_back hA hB hl (h.2 b hb)
 rw [e,e2] at e1
 exact asc_ne hlt e1.symm
theorem idx_le {α:Type} {p:α->Bool} {l:List α} (h:0<=idxOf p l):∃i x,idxOf p l=(i:Nat)/\l[i]? =some x/\p x=true/\(l.take i).any p=false:=by
 obtain ⟨i,hi⟩:∃i:Nat,idxOf p l=i:=⟨(idxOf p l).toNat,by omega⟩
 rcases Bool.eq_false_or_eq_true (l.any p) with ha|ha
 ·obtain ⟨x,hx,hp⟩:=List.any_eq_true.1 ha
  have:∀l:List α,l.any p=true->∃i x,l[i]? =some x/\p x=true/\(l.take i).any p=false:=by
   intro l
   induction l with
   |nil=>intro h;cases h
   |cons y r ih=>
    exact j7
  obtain ⟨j,z,h1,h2,h3⟩:=this l ha
  exact ⟨j,z,zCt h1 h2 h3,h1,h2,h3⟩
 ·rw [zAu ha] at h;exact absurd h (by decide)
theorem idx_lt {α:Type} {p:α->Bool} {l:List α} (h:idxOf p l<0):l.any p=false:=by
 refine Bool.eq_false_iff.2 fun ha=>?_
 obtain ⟨x,hx,hp⟩:=List.any_eq_true.1 ha
 have:∀l:List α,l.any p=true->∃i x,l[i]? =some x/\p x=true/\(l.take i).any p=false:=by
  intro l
  induction l with
  |nil=>intro h;cases h
  |cons y r ih=>
   exact j7
 obtain ⟨j,z,h1,h2,h3⟩:=this l ha
 rw [zCt h1 h2 h3] at h;omega
end Go.Br
end
