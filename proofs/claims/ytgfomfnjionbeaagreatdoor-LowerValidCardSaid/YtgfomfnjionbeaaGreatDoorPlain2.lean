/-
  Lists of strings,sorted and thinned (for a seat without slices.Sort at strings).
  The names that an expression reads,in plain Lean.
  Layer 17 in plain Lean: a valid program without its last definitions; what a definition reads.
  Sums of linear forms,exactly,in plain Lean: numbers of 64 and of 128 bits,merges of ascending lists,substitution.
  The reference's substitution of forms,in plain Lean: the sum,and the mapping of all forms of an expression.
  What the substitution of a form keeps,in plain Lean: valid forms stay valid,the name is gone,the shape of an expression stays.
  The comparison of expressions is a total order,in plain Lean.
  Layer 14 in plain Lean: short names,replacing,the names in forms,the example that every statement checks.
  Ascending lists of names,one name added at a time,in plain Lean.
  Names of index variables: both ways to list them give the same names.
  Forward differentiation in plain Lean: the tangent of an expression,what is read,what is lost.
  Forward differentiation of programs in plain Lean; a program with tangents keeps what the original one has.
  Small programs and few names; the bounds of a program with tangents; the chapter's example.
  Numerals,and the first number that is free.
  Repeated subexpressions in plain Lean: occurrences,classes,replacing.
  Extraction of repeated subexpressions in plain Lean: the first definition of a class,the best class,the new definition.
  Definitions that repeat an earlier one,in plain Lean: forms with names exchanged.
  Definitions that repeat an earlier one,in plain Lean: expressions and definitions; the merging of definitions.
  What a valid program's definitions have: axes of different names,none of them a size; forms over axes and sizes alone.
  Tables of names and where something stands in a list,as the walks of chapter 32 need them (parts of CseZ and CseW).
  Conditions: none.
-/
import Derived.Test.YtgfomfnjionbeaaGreatDoorCfg
import Derived.Test.YtgfomfnjionbeaaGreatDoorEngZ
import Derived.Sort.OwnSorted
import Derived.Lib.OwnBridge
import Derived.Test.YtgfomfnjionbeaaGreatDoorPlain
import Derived.Lib.ItoaNum
set_option linter.unusedSimpArgs false
set_option linter.unusedVariables false
section
namespace Go.Br
open Go Go.Eng Go.RowKit Go.Proofs Go.L41
def toB (l:List (List UInt8)):List ByteArray:=l.map fun x=>⟨x.toArray⟩
def ofB (l:List ByteArray):List (List UInt8):=l.map (·.data.toList)
def cE (l:List ByteArray):List ByteArray:=toB ((ofB l).mergeSort fun x y=>decide (x<=y))
def cD (l:List ByteArray):List ByteArray:=toB (Lib.compact (ofB l))
end Go.Br
end
section
namespace Go.Br
open Go Go.Eng Go.L41
def eH (x:Ix):List ByteArray:=if x.From=bs [] then [] else [x.From]
def eL (l:List Ix):List ByteArray:=l.flatMap eH
def cK (x:Ex):List ByteArray:=if x.Op=3 then [x.Name] else []
def cH (x:Ex):List ByteArray:=cK x++eL x.Idx
def eM (l:List Ex):List ByteArray:=l.flatMap cH
def tI (e:Ex):List ByteArray:=cD (cE (eM (bY e)))
theorem mem_toB {s:ByteArray} {l:List (List UInt8)}:s∈toB l↔s.data.toList∈l:=by
 unfold toB
 rw [List.mem_map]
 constructor
 ·rintro ⟨x,hx,rfl⟩;simpa using hx
 ·intro h;exact ⟨_,h,by cases s;simp⟩
theorem mem_ofB {s:ByteArray} {l:List ByteArray}:s.data.toList∈ofB l↔s∈l:=by
 unfold ofB
 rw [List.mem_map]
 constructor
 ·rintro ⟨x,hx,e⟩
  have:x=s:=by cases x;cases s;congr 1;exact Array.toList_inj.1 e
  rw [←this];exact hx
 ·intro h;exact ⟨s,h,rfl⟩
theorem mem_sortB {s:ByteArray} {l:List ByteArray}:s∈cE l↔s∈l:=by
 unfold cE;rw [mem_toB,List.mem_mergeSort,mem_ofB]
theorem mem_thinB {s:ByteArray} {l:List ByteArray} (h:s∈cD l):s∈l:=by
 unfold cD at h
 rw [mem_toB] at h
 rw [←mem_ofB]
 unfold Lib.compact Lib.compactUpTo at h
 obtain ⟨i,hi,e⟩:=List.mem_map.1 h
 have hi2:=(List.mem_filter.1 hi).1
 have hlt:=List.mem_range.1 hi2
 rw [←e,getElem!_pos _ i (by simpa using hlt)]
 simp
theorem mem_readsT {s:ByteArray} {e:Ex} (h:s∈tI e):∃x,x∈bY e/\((x.Op=3/\s=x.Name)∨∃i,i∈x.Idx/\i.From≠bs []/\s=i.From):=by
 unfold tI at h
 have h:=mem_sortB.1 (mem_thinB h)
 obtain ⟨x,hx,h⟩:=List.mem_flatMap.1 h
 refine ⟨x,hx,?_⟩
 unfold cH at h
 rcases List.mem_append.1 h with h|h
 ·left;unfold cK at h;split at h
  ·rename_i h3;exact ⟨h3,by simpa using h⟩
  ·cases h
 ·right
  obtain ⟨i,hi,h⟩:=List.mem_flatMap.1 h
  unfold eH at h
  split at h
  ·cases h
  ·rename_i h3;exact ⟨i,hi,h3,by simpa using h⟩
end Go.Br
end
section
namespace Go.Br
open Go Go.Eng Go.L41
/-! ## tC definitions -/
theorem findD_take {s:ByteArray}:∀(l:List Df) (k:Nat),(fZ s (l.take k)).ok=true->fZ s l=fZ s (l.take k)
 |[],k,h=>by simp
 |d::r,0,h=>by simp [fZ] at h
 |d::r,k+1,h=>by
  rw [List.take_succ_cons] at h⊢
  unfold fZ at h⊢
  by_cases c:d.Name=s
  ·rw [decide_eq_true c];rfl
  ·rw [decide_eq_false c] at h⊢
   exact findD_take r k h
theorem findP_take {s:ByteArray} {ds:List Df} {k:Nat}:∀(l:List Pm),(fS s (ds.take k) l).ok=true->fS s ds l=fS s (ds.take k) l
 |[],h=>findD_take ds k h
 |x::r,h=>by
  unfold fS at h⊢
  by_cases c:x.Name=s
  ·rw [decide_eq_true c];rfl
  ·rw [decide_eq_false c] at h⊢
   exact findP_take r h
theorem findD_mem {s:ByteArray}:∀(l:List Df),(fZ s l).ok=true->∃d,d∈l/\d.Name=s
 |[],h=>by simp [fZ] at h
 |d::r,h=>by
  unfold fZ at h
  by_cases c:d.Name=s
  ·exact ⟨d,uG,c⟩
  ·rw [decide_eq_false c] at h
   obtain ⟨y,hy,e⟩:=findD_mem r h
   exact ⟨y,by simp [hy],e⟩
theorem findP_mem {s:ByteArray} {ds:List Df}:∀(l:List Pm),(fS s ds l).ok=true->(∃x,x∈l/\x.Name=s)∨∃d,d∈ds/\d.Name=s
 |[],h=>.inr (findD_mem ds h)
 |x::r,h=>by
  unfold fS at h
  by_cases c:x.Name=s
  ·exact .inl ⟨x,uG,c⟩
  ·rw [decide_eq_false c] at h
   rcases findP_mem r h with ⟨y,hy,e⟩|h2
   ·exact .inl ⟨y,by simp [hy],e⟩
   ·exact .inr h2
def tC (a b:En):Prop:=∀s,(a.find s).ok=true->b.find s=a.find s
theorem indexK_more {a b:En} (h:tC a b) {k:ByteArray->Bool} {x:Ix} (hx:fV a k x=0):fV b k x=0:=by
 unfold fV at hx⊢
 by_cases c:x.From=bs []
 ·rw [decide_eq_true c] at hx⊢;exact hx
 ·rw [decide_eq_false c] at hx⊢
  cases c2:(a.find x.From).ok with
  |false=>rw [c2] at hx;simp at hx
  |true=>rw [h _ c2];exact hx
theorem zTk {a b:En} (h:tC a b) {k:ByteArray->Bool}:∀l:List Ix,fU a k l=0->fU b k l=0
 |[],_=>rfl
 |x::r,hx=>by
  unfold fU at hx⊢
  by_cases c:fV a k x=0
  ·rw [decide_eq_true c] at hx
   rw [decide_eq_true (indexK_more h c)]
   exact zTk h r hx
  ·rw [decide_eq_false c] at hx
   exact absurd hx c
theorem readK_of {a:En} {k:ByteArray->Bool} {e:Ex} (hx:(lG a k e).2=0):(a.find e.Name).ok=true/\e.Idx.length=(a.find e.Name).dims.length/\fU a k e.Idx=0:=by
 unfold lG at hx
 cases c:(a.find e.Name).ok with
 |false=>rw [c] at hx;simp at hx
 |true=>
  rw [c] at hx
  by_cases c2:e.Idx.length=(a.find e.Name).dims.length
  ·rw [decide_eq_true c2] at hx
   by_cases c3:fU a k e.Idx=0
   ·exact ⟨rfl,c2,c3⟩
   ·rw [decide_eq_false c3] at hx;exact absurd hx c3
  ·rw [decide_eq_false c2] at hx;simp at hx
theorem readK_more {a b:En} (h:tC a b) {k:ByteArray->Bool} {e:Ex} (hx:(lG a k e).2=0):lG b k e=lG a k e:=by
 obtain ⟨h1,h2,h3⟩:=readK_of hx
 have e1:=h _ h1
 rw [readK_0 h1 h2 h3,readK_0 (by rw [e1];exact h1) (by rw [e1];exact h2) (zTk h _ h3),e1]
theorem ofN_more {a b:En} (h:tC a b) {k:ByteArray->Bool} {e:Ex} {l:List Ty} (hx:(ofN a k e l).2=0):ofN b k e l=ofN a k e l:=by
 unfold ofN at hx⊢
 by_cases c1:e.Op=1∨e.Op=12
 ·rw [if_pos c1,if_pos c1]
 rw [if_neg c1] at hx⊢
 rw [if_neg c1]
 by_cases c2:e.Op=2
 ·rw [if_pos c2,if_pos c2]
 rw [if_neg c2] at hx⊢
 rw [if_neg c2]
 by_cases c3:e.Op=3
 ·rw [if_pos c3] at hx⊢
  rw [if_pos c3]
  exact readK_more h hx
 ·rw [if_neg c3,if_neg c3]
mutual
theorem nodeT_more {a b:En} (h:tC a b) (k:ByteArray->Bool):∀e:Ex,(bL (ofN a k) e).2=0->bL (ofN b k) e=bL (ofN a k) e
 |.mk o nm v t l i xs,hx=>by
  rw [bL] at hx⊢
  rw [bL]
  by_cases c:(bE (ofN a k) xs).2=0
  ·rw [if_pos c] at hx⊢
   rw [nodeL_more h k xs c,if_pos c]
   exact ofN_more h hx
  ·rw [if_neg c] at hx;exact absurd hx c
theorem nodeL_more {a b:En} (h:tC a b) (k:ByteArray->Bool):∀l:List Ex,(bE (ofN a k) l).2=0->bE (ofN b k) l=bE (ofN a k) l
 |[],_=>rfl
 |x::r,hx=>by
  rw [bE] at hx⊢
  rw [bE]
  by_cases c:(bL (ofN a k) x).2=0
  ·rw [if_pos c] at hx⊢
   by_cases d:(bE (ofN a k) r).2=0
   ·rw [nodeT_more h k x c,nodeL_more h k r d,if_pos c]
   ·rw [if_neg d] at hx;exact absurd hx d
  ·rw [if_neg c] at hx;exact absurd hx c
end
theorem zLu {n:En} {vars:List ByteArray} {e:Ex} (h:(gK n vars e).2=0):dQ e=0/\bO e=false/\(bL (ofN n (knB n.sz vars)) e).2=0:=by
 unfold gK pO at h
 by_cases c:dQ e=0
 ·rw [if_pos c] at h
  by_cases d:bO e=true
  ·rw [if_pos d] at h;cases h
  ·rw [if_neg d] at h
   by_cases f:(bL (ofN n (knB n.sz vars)) e).2=0
   ·exact ⟨c,by simpa using d,f⟩
   ·rw [if_neg f] at h;exact absurd h f
 ·rw [if_neg c] at h;exact absurd h c
theorem typeT_more {a b:En} (h:tC a b) (hs:b.sz=a.sz) {vars:List ByteArray} {e:Ex} (hx:(gK a vars e).2=0):gK b vars e=gK a vars e:=by
 obtain ⟨h1,h2,h3⟩:=zLu hx
 rw [typeT_of rfl h1 h2,typeT_of rfl h1 h2,hs,nodeT_more h _ e h3]
/-! ## What an expression reads is found -/
theorem nodeT_all (N:Ex->List Ty->Ty×Int) (e:Ex):(bL N e).2=0->∀x,x∈bY e->∃l,(N x l).2=0:=by
 induction e using Ex.ind with
 |_ e ih=>
  intro h x hx
  rw [zKe] at h
  by_cases c:(bE N e.Args).2=0
  ·rw [if_pos c] at h
   rw [wZ] at hx
   rcases List.mem_cons.1 hx with rfl|hx
   ·exact ⟨_,h⟩
   ·have key:∀l:List Ex,(∀a,a∈l->a∈e.Args)->(bE N l).2=0->x∈bM l->∃t,(N x t).2=0:=by
     intro l
     induction l with
     |nil=>intro _ _ h;simp [bM] at h
     |cons a r ih2=>
      intro hm hl hx
      rw [bE] at hl
      by_cases c1:(bL N a).2=0
      ·rw [if_pos c1] at hl
       by_cases c2:(bE N r).2=0
       ·rw [bM] at hx
        rcases List.mem_append.1 hx with hx|hx
        ·exact ih a (hm a uG) c1 x hx
        ·exact ih2 (fun b hb=>hm b (by simp [hb])) c2 hx
       ·rw [if_neg c2] at hl;exact absurd hl c2
      ·rw [if_neg c1] at hl;exact absurd hl c1
    exact key e.Args (fun _ h=>h) c hx
  ·rw [if_neg c] at h;exact absurd h c
theorem indexL_of {a:En} {k:ByteArray->Bool}:∀l:List Ix,fU a k l=0->∀x,x∈l->x.From≠bs []->(a.find x.From).ok=true
 |[],_,x,hx,_=>by cases hx
 |y::r,h,x,hx,hf=>by
  unfold fU at h
  by_cases c:fV a k y=0
  ·rw [decide_eq_true c] at h
   rcases List.mem_cons.1 hx with rfl|hx
   ·unfold fV at c
    rw [decide_eq_false hf] at c
    cases d:(a.find x.From).ok with
    |true=>rfl
    |false=>rw [d] at c;simp at c
   ·exact indexL_of r h x hx hf
  ·rw [decide_eq_false c] at h;exact absurd h c
theorem reads_found {n:En} {vars:List ByteArray} {e:Ex} (h:(gK n vars e).2=0):∀s,s∈tI e->(n.find s).ok=true:=by
 intro s hs
 obtain ⟨h1,h2,h3⟩:=zLu h
 obtain ⟨x,hx,hr⟩:=mem_readsT hs
 obtain ⟨l,hl⟩:=nodeT_all _ e h3 x hx
 have hn:=zNb (zCs h1) x hx
 have hsy:=(zKd hn).1
 by_cases c:x.Op=3
 ·rw [zMg c] at hl
  obtain ⟨k1,_,k3⟩:=readK_of hl
  rcases hr with ⟨_,rfl⟩|⟨i,hi,hf,rfl⟩
  ·exact k1
  ·exact indexL_of _ k3 i hi hf
 ·have h0:x.Idx.length=0:=by
   unfold gX at hsy
   simp only [Bool.and_eq_true,Bool.not_eq_true',Bool.and_eq_false_iff,Bool.not_eq_false',Bool.or_eq_false_iff,decide_eq_true_eq,decide_eq_false_iff_not] at hsy
   rcases hsy.1.2 with h|h
   ·exact absurd h c
   ·have:=h.2;omega
  rcases hr with ⟨h,_⟩|⟨i,hi,_,_⟩
  ·exact absurd h c
  ·have:=List.length_pos_of_mem hi;omega
theorem zHu (p:Pg):∀(l:List Df) (a:Int) (t:List ByteArray) (b:List Df),(rG p a t b l).2=0->∀(i:Nat) (d:Df),l[i]? =some d->mV ⟨p.Sizes,p.Params,b++l.take i⟩ d (t++(l.take i).map Df.Name)=0
 |[],a,t,b,_,i,d,hd=>by simp at hd
 |x::r,a,t,b,h,i,d,hd=>by
  rw [rG] at h
  by_cases c:mV ⟨p.Sizes,p.Params,b⟩ x t=0
  ·rw [if_pos c] at h
   cases i with
   |zero=>simp at hd;subst hd;simpa using c
   |succ i=>
    have:=zHu p r _ _ _ h i d (by simpa using hd)
    simpa [List.append_assoc] using this
  ·rw [if_neg c] at h;exact absurd h c
theorem zDo (p q:Pg) (hs:q.Sizes=p.Sizes):∀(l:List Pm) (a:Int) (t:List ByteArray),(jM p a t l).2=0->∃a',(rG p a' (t++l.map Pm.Name) [] p.Defs).2=0/\jM q a t l=rG q a' (t++l.map Pm.Name) [] q.Defs
 |[],a,t,h=>⟨a,by rw [jM] at h;simpa using h,by rw [jM];simp⟩
 |x::r,a,t,h=>by
  rw [jM] at h
  by_cases c:rM x p.Sizes t=0
  ·rw [if_pos c] at h
   obtain ⟨a',h1,h2⟩:=zDo p q hs r _ _ h
   exact ⟨a',by simpa [List.append_assoc] using h1,by rw [jM,hs,if_pos c,h2];simp [List.append_assoc]⟩
  ·rw [if_neg c] at h;exact absurd h c
theorem zFc {p:Pg} (h:(tF p).2=0):gF p/\nC [] p.Sizes=0/\pN p.Sizes p.Where=0/\(jM p 2 p.Sizes p.Params).2=0:=by
 unfold tF at h
 by_cases c1:gF p
 ·rw [if_pos c1] at h
  by_cases c2:nC [] p.Sizes=0
  ·rw [if_pos c2] at h
   by_cases c3:pN p.Sizes p.Where=0
   ·rw [if_pos c3] at h;exact ⟨c1,c2,c3,h⟩
   ·rw [if_neg c3] at h;exact absurd h c3
  ·rw [if_neg c2] at h;exact absurd h c2
 ·rw [if_neg c1] at h;cases h
theorem hasB_mem17 {l:List ByteArray} {s:ByteArray} (h:bQ l s=false):s ∉ l:=fun k=>by
 unfold bQ at h
 rw [List.any_eq_false] at h
 exact h s k uG
theorem defR_of {n:En} {d:Df} {t:List ByteArray} (h:mV n d t=0):d.Name ∉ t/\gK n (bH d) d.Body=(d.T,0):=by
 have h1:fR d.Name t=0:=Decidable.byContradiction fun c=>by rw [defR_1 c] at h;exact c h
 have h2:dV d.T=true:=by
  cases c:dV d.T with
  |true=>rfl
  |false=>rw [defR_10 h1 c] at h;cases h
 have h3:¬(6<d.Dims.length∨6<d.Red.length):=fun c=>by rw [defR_11 h1 h2 c] at h;cases h
 rw [defR_ok h1 h2 h3] at h
 have h4:mZ n.sz n.sz (d.Dims++d.Red)=0:=Decidable.byContradiction fun c=>by rw [if_neg c] at h;exact c h
 rw [if_pos h4] at h
 have h5:rE d=0:=Decidable.byContradiction fun c=>by rw [if_neg c] at h;exact c h
 rw [if_pos h5,←typeT_R] at h
 unfold rK at h
 have h6:(gK n (bH d) d.Body).2=0:=Decidable.byContradiction fun c=>by rw [if_neg c] at h;exact c h
 rw [if_pos h6] at h
 have h7:(gK n (bH d) d.Body).1=d.T:=Decidable.byContradiction fun c=>by rw [if_neg c] at h;cases h
 refine ⟨hasB_mem17 ?_,Prod.ext h7 h6⟩
 cases c:bQ t d.Name with
 |false=>rfl
 |true=>
  unfold fR at h1
  by_cases c2:bC d.Name=true
  ·rw [if_pos c2,if_pos c] at h1;cases h1
  ·rw [if_neg c2] at h1;cases h1
theorem defOf_lt {s:ByteArray}:∀(l:List Df) (i:Nat),(∃d,d∈l.take i/\d.Name=s)->mW s l<i
 |[],i,⟨d,hd,_⟩=>by simp at hd
 |x::r,0,⟨d,hd,_⟩=>by simp at hd
 |x::r,i+1,⟨d,hd,e⟩=>by
  unfold mW dJ
  by_cases c:x.Name=s
  ·rw [decide_eq_true c];show (0:Int)<_;omega
  ·rw [decide_eq_false c]
   have h2:mW s r<i:=defOf_lt r i ⟨d,by
    rw [List.take_succ_cons] at hd
    rcases List.mem_cons.1 hd with rfl|hd
    ·exact absurd e c
    ·exact hd,e⟩
   unfold mW at h2
   simp only [cond_false]
   by_cases c3:dJ (fun d:Df=>decide (d.Name=s)) r= -1
   ·rw [decide_eq_true c3];show (-1:Int)<_;omega
   ·rw [decide_eq_false c3];show _+1<_;push_cast;omega
theorem pre_def {p:Pg} (h:(bK p).2=0) {i:Nat} {d:Df} (hd:p.Defs[i]? =some d):gK p.en (bH d) d.Body=(d.T,0)/\mW d.Name p.Defs=i/\∀s,s∈tI d.Body->(p.en.find s).ok=true/\mW s p.Defs<i:=by
 rw [zGy] at h
 obtain ⟨h1,h2,h3,h4⟩:=zFc h
 obtain ⟨a',h5,_⟩:=zDo p p rfl p.Params _ _ h4
 have key:=zHu p p.Defs _ _ _ h5
 have names:∀j y,p.Defs[j]? =some y->y.Name ∉ (p.Sizes++p.Params.map Pm.Name)++(p.Defs.take j).map Df.Name:=fun j y hy=>(defR_of (key j y hy)).1
 obtain ⟨_,ht⟩:=defR_of (key i d hd)
 rw [List.nil_append] at ht
 have hm:tC ⟨p.Sizes,p.Params,p.Defs.take i⟩ p.en:=fun s hs=>findP_take p.Params hs
 refine ⟨?_,?_,fun s hs=>?_⟩
 ·rw [typeT_more hm rfl (by rw [ht]),ht]
 ·refine zDt hd uG ?_
  rw [List.any_eq_false]
  intro y hy e
  have e2:y.Name=d.Name:=by simpa using e
  exact names i d hd (by rw [←e2];exact List.mem_append.2 (.inr (List.mem_map.2 ⟨y,hy,rfl⟩)))
 ·have hf:=reads_found (n:=⟨p.Sizes,p.Params,p.Defs.take i⟩) (by rw [ht]) s hs
  refine ⟨by rw [hm s hf];exact hf,?_⟩
  rcases findP_mem p.Params hf with ⟨x,hx,e⟩|⟨y,hy,e⟩
  ·have:mW s p.Defs= -1:=by
    refine zCa ?_
    rw [List.any_eq_false]
    intro y hy e2
    have e3:y.Name=s:=by simpa using e2
    obtain ⟨j,hj⟩:=List.getElem?_of_mem hy
    exact names j y hj (List.mem_append.2 (.inl (List.mem_append.2 (.inr (List.mem_map.2 ⟨x,hx,by rw [e,e3]⟩)))))
   rw [this];omega
  ·exact defOf_lt p.Defs i ⟨y,hy,e⟩
end Go.Br
end
section
namespace Go.Br
open Go Go.Eng Go.L41
/-! ## The order of names -/
theorem bl_cons (a b:UInt8) (x y:List UInt8):Op.bytesLess (a::x) (b::y)=true↔a<b∨(a=b/\Op.bytesLess x y=true):=by
 rw [Op.bytesLess]
 by_cases h1:a<b<;>by_cases h2:a=b<;>simp [h1,h2]
theorem bl_trans:∀(x y z:List UInt8),Op.bytesLess x y=true->Op.bytesLess y z=true->Op.bytesLess x z=true
 |[],[],_,h,_=>by simp [Op.bytesLess] at h
 |[],_::_,[],_,h=>by simp [Op.bytesLess] at h
 |[],_::_,_::_,_,_=>by simp [Op.bytesLess]
 |_::_,[],_,h,_=>by simp [Op.bytesLess] at h
 |_::_,_::_,[],_,h=>by simp [Op.bytesLess] at h
 |a::x,b::y,c::z,h,k=>by
  rw [bl_cons] at h k⊢
  rcases h with h|⟨rfl,h⟩
  ·rcases k with k|⟨rfl,k⟩
   ·exact .inl (UInt8.lt_trans h k)
   ·exact .inl h
  ·rcases k with k|⟨rfl,k⟩
   ·exact .inl k
   ·exact .inr ⟨rfl,bl_trans x y z h k⟩
theorem bl_tri:∀(x y:List UInt8),Op.bytesLess x y=false->Op.bytesLess y x=false->x=y
 |[],[],_,_=>rfl
 |[],_::_,h,_=>by simp [Op.bytesLess] at h
 |_::_,[],_,h=>by simp [Op.bytesLess] at h
 |a::x,b::y,h,k=>by
  have h1:¬Op.bytesLess (a::x) (b::y)=true:=by rw [h];simp
  have k1:¬Op.bytesLess (b::y) (a::x)=true:=by rw [k];simp
  rw [bl_cons] at h1 k1
  have e:a=b:=UInt8.le_antisymm (UInt8.not_lt.1 fun c=>k1 (.inl c)) (UInt8.not_lt.1 fun c=>h1 (.inl c))
  subst e
  have h2:Op.bytesLess x y=false:=by
   cases c:Op.bytesLess x y with
   |false=>rfl
   |true=>exact absurd (.inr ⟨rfl,c⟩) h1
  have k2:Op.bytesLess y x=false:=by
   cases c:Op.bytesLess y x with
   |false=>rfl
   |true=>exact absurd (.inr ⟨rfl,c⟩) k1
  rw [bl_tri x y h2 k2]
theorem bl_irr:∀(x:List UInt8),Op.bytesLess x x=false
 |[]=>by simp [Op.bytesLess]
 |a::x=>by
  cases c:Op.bytesLess (a::x) (a::x) with
  |false=>rfl
  |true=>
   rw [bl_cons] at c
   rcases c with c|⟨_,c⟩
   ·exact absurd c (UInt8.lt_irrefl a)
   ·rw [bl_irr x] at c;cases c
theorem zIm {a b:ByteArray} (h:bX a b=false) (k:bX b a=false):a=b:=by
 have h1:=bl_tri _ _ h k
 rw [ByteArray.toList_eq,ByteArray.toList_eq] at h1
 exact ByteArray.ext (Array.toList_inj.1 h1)
theorem zRy (a:ByteArray):bX a a=false:=bl_irr _
theorem zCn {a b c:ByteArray} (h:bX a b=true) (k:bX b c=true):bX a c=true:=bl_trans _ _ _ h k
/-! ## Numbers -/
def r64 (n:Int):Prop:= -9223372036854775808<=n/\n<=9223372036854775807
instance (n:Int):Decidable (r64 n):=by unfold r64;infer_instance
def w64 (n:Int):Int:=IntKind.i64.wrap n
theorem w64_in {n:Int} (h:r64 n):w64 n=n:=IntWalk.i64_in n h
theorem w64_eq (n:Int):w64 n=(n+9223372036854775808)%18446744073709551616-9223372036854775808:=by unfold w64;rw [IntKind.wrap_i64]
theorem w64_r (n:Int):r64 (w64 n):=by rw [w64_eq];unfold r64;omega
theorem u64_eq (n:Int):IntKind.u64.wrap n=n%18446744073709551616:=by rw [IntKind.wrap_u64]
theorem plus_ok {a b:Int} (ha:r64 a) (hb:r64 b):decide (decide (a<w64 (a+b))=decide (0<b))=decide (r64 (a+b)):=by
 refine decide_eq_decide.2 ?_
 rw [w64_eq,decide_eq_decide]
 unfold r64 at *
 omega
theorem sq_le {a b:Nat} (ha:a<=4294967295) (hb:b<=4294967295):a*b<=18446744065119617025:=Nat.mul_le_mul ha hb
def hiN (a b:Nat):Nat:=
 (a/4294967296)*(b/4294967296)+((a/4294967296)*(b%4294967296)+((a%4294967296)*(b%4294967296))/4294967296)/4294967296+
  ((a%4294967296)*(b/4294967296)+((a/4294967296)*(b%4294967296)+((a%4294967296)*(b%4294967296))/4294967296)%4294967296)/4294967296
theorem mul_parts (a b:Nat):a*b=(a/4294967296)*(b/4294967296)*18446744073709551616+((a/4294967296)*(b%4294967296)+(a%4294967296)*(b/4294967296))*4294967296+(a%4294967296)*(b%4294967296):=by
 have ea:a=(a/4294967296)*4294967296+a%4294967296:=by omega
 have eb:b=(b/4294967296)*4294967296+b%4294967296:=by omega
 generalize a/4294967296=a1 at *
 generalize a%4294967296=a0 at *
 generalize b/4294967296=b1 at *
 generalize b%4294967296=b0 at *
 subst ea eb
 rw [Nat.add_mul,Nat.mul_add,Nat.mul_add,Nat.add_mul]
 have e1:a1*4294967296*(b1*4294967296)=a1*b1*18446744073709551616:=by
  rw [Nat.mul_mul_mul_comm]
 have e2:a1*4294967296*b0=a1*b0*4294967296:=by rw [Nat.mul_right_comm]
 have e3:a0*(b1*4294967296)=a0*b1*4294967296:=by rw [Nat.mul_assoc]
 rw [e1,e2,e3]
 omega
theorem hi_lo (a b:Nat):hiN a b*18446744073709551616+(a*b)%18446744073709551616=a*b:=by
 have h:=mul_parts a b
 unfold hiN
 generalize a*b=n at *
 generalize (a/4294967296)*(b/4294967296)=p11 at *
 generalize (a/4294967296)*(b%4294967296)=p10 at *
 generalize (a%4294967296)*(b/4294967296)=p01 at *
 generalize (a%4294967296)*(b%4294967296)=p00 at *
 omega
theorem part_le {a b:Nat} (ha:a<18446744073709551616) (hb:b<18446744073709551616):
  (a/4294967296)*(b/4294967296)<=18446744065119617025/\(a/4294967296)*(b%4294967296)<=18446744065119617025/\(a%4294967296)*(b/4294967296)<=18446744065119617025/\(a%4294967296)*(b%4294967296)<=18446744065119617025:=
 ⟨sq_le zC zC,sq_le zC zC,sq_le zC zC,sq_le zC zC⟩
theorem hi_zero {a b:Nat}:hiN a b=0↔a*b<18446744073709551616:=by
 have h:=hi_lo a b
 constructor
 ·intro e;rw [e] at h;omega
 ·intro e
  by_cases c:hiN a b=0
  ·exact c
  ·exfalso;generalize a*b=n at *;generalize hiN a b=m at *;omega
theorem hi_le {a b:Nat} (ha:a<=9223372036854775808) (hb:b<=9223372036854775808):hiN a b<=4611686018427387904:=by
 have h:=hi_lo a b
 have:a*b<=9223372036854775808*9223372036854775808:=Nat.mul_le_mul ha hb
 generalize a*b=n at *;generalize hiN a b=m at *;omega
theorem hi_bounds {a b:Nat} (ha:a<18446744073709551616) (hb:b<18446744073709551616):
  (a/4294967296)*(b%4294967296)+((a%4294967296)*(b%4294967296))/4294967296<18446744073709551616/\
  (a%4294967296)*(b/4294967296)+((a/4294967296)*(b%4294967296)+((a%4294967296)*(b%4294967296))/4294967296)%4294967296<18446744073709551616/\
  (a/4294967296)*(b/4294967296)+((a/4294967296)*(b%4294967296)+((a%4294967296)*(b%4294967296))/4294967296)/4294967296<18446744073709551616/\hiN a b<18446744073709551616:=by
 obtain ⟨h1,h2,h3,h4⟩:=part_le ha hb
 have h5:=hi_lo a b
 have h6:a*b<=18446744073709551615*18446744073709551615:=Nat.mul_le_mul zC zC
 refine ⟨?_,?_,?_,?_⟩
 ·generalize (a/4294967296)*(b%4294967296)=p10 at *
  generalize (a%4294967296)*(b%4294967296)=p00 at *
  omega
 ·generalize (a/4294967296)*(b%4294967296)=p10 at *
  generalize (a%4294967296)*(b/4294967296)=p01 at *
  generalize (a%4294967296)*(b%4294967296)=p00 at *
  omega
 ·generalize (a/4294967296)*(b/4294967296)=p11 at *
  generalize (a/4294967296)*(b%4294967296)=p10 at *
  generalize (a%4294967296)*(b%4294967296)=p00 at *
  omega
 ·generalize a*b=n at *
  generalize hiN a b=m at *
  omega
def dW (x y:Int):Int×Bool:=if r64 (x*y) then (x*y,true) else (0,false)
theorem magn_neg {x:Int} (h:r64 x) (hn:x<0):IntKind.u64.wrap (-(IntKind.u64.wrap x))=(x.natAbs:Int):=by
 unfold r64 at h;rw [u64_eq,u64_eq];omega
theorem magn_pos {x:Int} (h:r64 x) (hn:¬x<0):IntKind.u64.wrap x=(x.natAbs:Int):=by
 unfold r64 at h;rw [u64_eq];omega
theorem zGe {x:Int} (h:r64 x):x.natAbs<=9223372036854775808:=by unfold r64 at h;omega
theorem zPl (x y:Int):(x*y).natAbs=x.natAbs*y.natAbs:=Int.natAbs_mul x y
theorem sign_mul {x y:Int} (hx:x<0) (hy:¬y<0):x*y<=0:=Int.mul_nonpos_of_nonpos_of_nonneg zC zC
theorem sign_mul2 {x y:Int} (hx:¬x<0) (hy:y<0):x*y<=0:=Int.mul_nonpos_of_nonneg_of_nonpos zC zC
theorem sign_mul3 {x y:Int} (hx:x<0) (hy:y<0):0<=x*y:=Int.mul_nonneg_of_nonpos_of_nonpos zC zC
theorem sign_mul4 {x y:Int} (hx:¬x<0) (hy:¬y<0):0<=x*y:=Int.mul_nonneg zC zC
theorem neg_mul {x y:Int} (h:(decide (x<0)==decide (y<0))=false):x*y<=0:=by
 by_cases hx:x<0<;>by_cases hy:y<0
 ·simp [hx,hy] at h
 ·exact sign_mul hx hy
 ·exact sign_mul2 hx hy
 ·simp [hx,hy] at h
theorem pos_mul {x y:Int} (h:(decide (x<0)==decide (y<0))=true):0<=x*y:=by
 by_cases hx:x<0<;>by_cases hy:y<0
 ·exact sign_mul3 hx hy
 ·simp [hx,hy] at h
 ·simp [hx,hy] at h
 ·exact sign_mul4 hx hy
theorem times_big {x y:Int} (hx:r64 x) (hy:r64 y) (h:hiN x.natAbs y.natAbs≠0∨9223372036854775808<x.natAbs*y.natAbs%18446744073709551616):dW x y=(0,false):=by
 unfold dW
 refine if_neg fun k=>?_
 have h1:=zPl x y
 unfold r64 at k
 have h2:x.natAbs*y.natAbs<18446744073709551616:=by rw [←h1];omega
 rcases h with h|h
 ·exact h (hi_zero.2 h2)
 ·rw [Nat.mod_eq_of_lt h2,←h1] at h;omega
theorem times_edge {x y:Int} (h:(decide (x<0)==decide (y<0))=true) (h2:x.natAbs*y.natAbs%18446744073709551616=9223372036854775808):dW x y=(0,false):=by
 unfold dW
 refine if_neg fun k=>?_
 have h1:=zPl x y
 have h3:=pos_mul h
 unfold r64 at k
 rw [←h1] at h2
 omega
theorem times_neg {x y:Int} (h:(decide (x<0)==decide (y<0))=false) (h0:hiN x.natAbs y.natAbs=0) (hl:x.natAbs*y.natAbs%18446744073709551616<=9223372036854775808):dW x y=(IntKind.i64.wrap (IntKind.u64.wrap (-((x.natAbs*y.natAbs%18446744073709551616:Nat):Int))),true):=by
 have h1:=zPl x y
 have h3:=neg_mul h
 have h4:=hi_zero.1 h0
 rw [Nat.mod_eq_of_lt h4] at hl⊢
 rw [←h1] at hl⊢
 unfold dW
 rw [if_pos (by unfold r64;omega),u64_eq]
 congr 1
 show _=w64 _
 rw [w64_eq];omega
theorem times_pos {x y:Int} (h:(decide (x<0)==decide (y<0))=true) (h0:hiN x.natAbs y.natAbs=0) (hl:x.natAbs*y.natAbs%18446744073709551616<9223372036854775808):dW x y=(IntKind.i64.wrap ((x.natAbs*y.natAbs%18446744073709551616:Nat):Int),true):=by
 have h1:=zPl x y
 have h3:=pos_mul h
 have h4:=hi_zero.1 h0
 rw [Nat.mod_eq_of_lt h4] at hl⊢
 rw [←h1] at hl⊢
 unfold dW
 rw [if_pos (by unfold r64;omega)]
 congr 1
 show _=w64 _
 rw [w64_eq];omega
theorem times_f {x y:Int} (hx:r64 x) (hy:r64 y) (c:(¬((hiN x.natAbs y.natAbs:Nat):Int)=0∨9223372036854775808<((x.natAbs*y.natAbs%18446744073709551616:Nat):Int))∨((x.natAbs*y.natAbs%18446744073709551616:Nat):Int)=9223372036854775808/\(decide (x<0)==decide (y<0))=true):dW x y=(0,false):=by
 rcases c with (c|c)|⟨c,d⟩
 ·exact times_big hx hy (.inl zC)
 ·exact times_big hx hy (.inr zC)
 ·exact times_edge d zC
abbrev Tr:=ByteArray×Int×Int
def dR:Nat->List Mono->List Mono->List Tr
 |0,_,_=>[]
 |_+1,[],[]=>[]
 |n+1,a::ar,[]=>(a.Name,a.By,0)::dR n ar []
 |n+1,[],b::bs=>(b.Name,0,b.By)::dR n [] bs
 |n+1,a::ar,b::bs=>
  bif bX a.Name b.Name then (a.Name,a.By,0)::dR n ar (b::bs)
  else bif bX b.Name a.Name then (b.Name,0,b.By)::dR n (a::ar) bs
  else (a.Name,a.By,b.By)::dR n ar bs
theorem zAj:∀(n:Nat) (a b:List Mono),a.length+b.length<=n->dR n a b=dR (a.length+b.length) a b
 |0,a,b,h=>by rw [show a.length+b.length=0 by omega]
 |n+1,[],[],_=>rfl
 |n+1,a::ar,[],h=>by
  have ih:=zAj n ar [] (by simp at h⊢;omega)
  show (a.Name,a.By,0)::dR n ar []=(a.Name,a.By,0)::dR (ar.length) ar []
  rw [ih];rfl
 |n+1,[],b::bs,h=>by
  have ih:=zAj n [] bs (by simp at h⊢;omega)
  have e:([]:List Mono).length+(b::bs).length=bs.length+1:=by simp
  rw [e,dR,dR,ih];simp
 |n+1,a::ar,b::bs,h=>by
  have h':ar.length+1+(bs.length+1)<=n+1:=by simpa using h
  have i1:=zAj n ar (b::bs) uF
  have i2:=zAj n (a::ar) bs uF
  have i3:=zAj n ar bs zC
  have j1:=zAj (ar.length+bs.length+1) ar (b::bs) uF
  have j2:=zAj (ar.length+bs.length+1) (a::ar) bs uF
  have j3:=zAj (ar.length+bs.length+1) ar bs zC
  have e:(a::ar).length+(b::bs).length=(ar.length+bs.length+1)+1:=by simp;omega
  rw [e,dR,dR,i1,i2,i3,j1,j2,j3]
def bR (a b:List Mono):List Tr:=dR (a.length+b.length) a b
theorem mergeL_nil:bR [] []=[]:=rfl
theorem zMn (a:Mono) (ar:List Mono):bR (a::ar) []=(a.Name,a.By,0)::bR ar []:=rfl
theorem zMm (b:Mono) (bs:List Mono):bR [] (b::bs)=(b.Name,0,b.By)::bR [] bs:=by
 unfold bR;rw [show ([]:List Mono).length+(b::bs).length=bs.length+1 by simp,dR];simp
theorem zHi (a b:Mono) (ar bs:List Mono):bR (a::ar) (b::bs)=bif bX a.Name b.Name then (a.Name,a.By,0)::bR ar (b::bs) else bif bX b.Name a.Name then (b.Name,0,b.By)::bR (a::ar) bs else (a.Name,a.By,b.By)::bR ar bs:=by
 unfold bR
 rw [show (a::ar).length+(b::bs).length=(ar.length+bs.length+1)+1 by simp;omega,dR]
 rw [zAj _ ar (b::bs) uF,zAj _ (a::ar) bs uF,zAj _ ar bs zC]
theorem zOn (a b:List Mono):(bR a b).length<=a.length+b.length:=by
 have:∀(n:Nat) (a b:List Mono),(dR n a b).length<=n:=by
  intro n
  induction n with
  |zero=>intro a b;simp [dR]
  |succ n ih=>
   intro a b
   cases a with
   |nil=>
    cases b with
    |nil=>simp [dR]
    |cons b bs=>simp only [dR,List.length_cons];have:=ih [] bs;omega
   |cons a ar=>
    cases b with
    |nil=>simp only [dR,List.length_cons];have:=ih ar [];omega
    |cons b bs=>
     have h1:=ih ar (b::bs)
     have h2:=ih (a::ar) bs
     have h3:=ih ar bs
     simp only [dR]
     cases bX a.Name b.Name<;>cases bX b.Name a.Name<;>simp only [cond_true,cond_false,List.length_cons]<;>omega
 exact this _ a b
def hdM (l:List Mono):Mono:=l.headD ⟨bs [],0⟩
theorem zJn {l:List Mono} (h:0<l.length):l[0]? =some (hdM l):=by
 cases l with
 |nil=>simp at h
 |cons x r=>rfl
def mC2 (a b:List Mono):Bool:=decide ((b.length:Int)=0)||(decide ((0:Int)<a.length)&&bX (hdM a).Name (hdM b).Name)
def mC3 (a b:List Mono):Bool:=decide ((a.length:Int)=0)||bX (hdM b).Name (hdM a).Name
theorem mC2_b {a b:List Mono} (c:mC2 a b=false):0<b.length:=by
 unfold mC2 at c
 cases b with
 |nil=>simp at c
 |cons y s=>simp
theorem merge_left {a b:List Mono} (h:0<a.length∨0<b.length) (c:mC2 a b=true):0<a.length/\bR a b=((hdM a).Name,(hdM a).By,0)::bR (a.drop 1) b:=by
 unfold mC2 at c
 cases a with
 |nil=>
  cases b with
  |nil=>simp at h
  |cons y s=>simp at c;omega
 |cons x r=>
  refine ⟨uG,?_⟩
  cases b with
  |nil=>rw [zMn];rfl
  |cons y s=>
   have c2:bX x.Name y.Name=true:=by
    rw [Bool.or_eq_true,Bool.and_eq_true,decide_eq_true_eq] at c
    rcases c with c|c
    ·simp at c;omega
    ·exact c.2
   rw [zHi,c2];rfl
theorem merge_right {a b:List Mono} (h:0<a.length∨0<b.length) (c:mC2 a b=false) (c3:mC3 a b=true):0<b.length/\bR a b=((hdM b).Name,0,(hdM b).By)::bR a (b.drop 1):=by
 unfold mC2 at c
 unfold mC3 at c3
 cases b with
 |nil=>simp at c
 |cons y s=>
  refine ⟨uG,?_⟩
  cases a with
  |nil=>rw [zMm];rfl
  |cons x r=>
   have c2:bX x.Name y.Name=false:=by
    rw [Bool.or_eq_false_iff,Bool.and_eq_false_iff] at c
    rcases c.2 with c|c
    ·simp at c
    ·exact c
   have c4:bX y.Name x.Name=true:=by
    rw [Bool.or_eq_true,decide_eq_true_eq] at c3
    rcases c3 with c|c
    ·simp at c;omega
    ·exact c
   rw [zHi,c2,c4];rfl
theorem merge_both {a b:List Mono} (c:mC2 a b=false) (c3:mC3 a b=false):0<a.length/\0<b.length/\bR a b=((hdM a).Name,(hdM a).By,(hdM b).By)::bR (a.drop 1) (b.drop 1):=by
 unfold mC2 at c
 unfold mC3 at c3
 cases b with
 |nil=>simp at c
 |cons y s=>
  cases a with
  |nil=>simp at c3
  |cons x r=>
   refine ⟨uG,uG,?_⟩
   have c2:bX x.Name y.Name=false:=by
    rw [Bool.or_eq_false_iff,Bool.and_eq_false_iff] at c
    rcases c.2 with c|c
    ·simp at c
    ·exact c
   have c4:bX y.Name x.Name=false:=by
    rw [Bool.or_eq_false_iff] at c3
    exact c3.2
   rw [zHi,c2,c4];rfl
/-! ## Sums -/
def trV (t:Tr):Int:=t.2.1+t.2.2
def cC (t:Tr):Bool:=decide (r64 (trV t))
def nB (ts:List Tr):List Mono:=ts.filterMap fun t=>if w64 (trV t)=0 then none else some ⟨t.1,w64 (trV t)⟩
theorem sumW_next (d:List Tr) (t:Tr):nB (d++[t])=nB d++(if w64 (trV t)=0 then [] else [⟨t.1,w64 (trV t)⟩]):=by
 unfold nB;rw [List.filterMap_append];congr 1
 by_cases h:w64 (trV t)=0<;>simp [h]
theorem zQu (d:List Tr):(nB d).length<=d.length:=List.length_filterMap_le _ _
def okF (ok:Bool) (d:List Tr):Bool:=d.foldl (fun b t=>b&&decide (r64 (t.2.1+t.2.2))) ok
theorem okF_next (ok:Bool) (d:List Tr) (t:Tr):okF ok (d++[t])=(okF ok d&&decide (r64 (t.2.1+t.2.2))):=by unfold okF;rw [List.foldl_append];rfl
theorem okF_all (ok:Bool) (d:List Tr):okF ok d=(ok&&d.all cC):=by
 induction d generalizing ok with
 |nil=>simp [okF]
 |cons t r ih=>
  show okF (ok&&cC t) r=_
  rw [ih,List.all_cons,Bool.and_assoc]
theorem zEy:∀(n:Nat) (a b:List Mono),(∀m,m∈a->r64 m.By)->(∀m,m∈b->r64 m.By)->∀t,t∈dR n a b->r64 t.2.1/\r64 t.2.2
 |0,_,_,_,_,t,ht=>by simp [dR] at ht
 |_+1,[],[],_,_,t,ht=>by simp [dR] at ht
 |n+1,x::r,[],h1,h2,t,ht=>by
  simp only [dR] at ht
  rcases List.mem_cons.1 ht with rfl|ht
  ·exact ⟨h1 x uG,by show r64 0;unfold r64;omega⟩
  ·exact zEy n r [] (fun m hm=>h1 m (by simp [hm])) h2 t ht
 |n+1,[],y::s,h1,h2,t,ht=>by
  simp only [dR] at ht
  rcases List.mem_cons.1 ht with rfl|ht
  ·exact ⟨by show r64 0;unfold r64;omega,h2 y uG⟩
  ·exact zEy n [] s h1 (fun m hm=>h2 m (by simp [hm])) t ht
 |n+1,x::r,y::s,h1,h2,t,ht=>by
  have g1:=zEy n r (y::s) (fun m hm=>h1 m (by simp [hm])) h2 t
  have g2:=zEy n (x::r) s h1 (fun m hm=>h2 m (by simp [hm])) t
  have g3:=zEy n r s (fun m hm=>h1 m (by simp [hm])) (fun m hm=>h2 m (by simp [hm])) t
  have z0:r64 0:=by unfold r64;omega
  simp only [dR] at ht
  cases c1:bX x.Name y.Name with
  |true=>
   rw [c1,cond_true] at ht
   rcases List.mem_cons.1 ht with rfl|ht
   ·exact ⟨h1 x uG,z0⟩
   ·exact g1 ht
  |false=>
   rw [c1,cond_false] at ht
   cases c2:bX y.Name x.Name with
   |true=>
    rw [c2,cond_true] at ht
    rcases List.mem_cons.1 ht with rfl|ht
    ·exact ⟨z0,h2 y uG⟩
    ·exact g2 ht
   |false=>
    rw [c2,cond_false] at ht
    rcases List.mem_cons.1 ht with rfl|ht
    ·exact ⟨h1 x uG,h2 y uG⟩
    ·exact g3 ht
theorem merge_rng {a b:List Mono} (h1:∀m,m∈a->r64 m.By) (h2:∀m,m∈b->r64 m.By) {d s:List Tr} {t:Tr} (h:bR a b=d++t::s):r64 t.2.1/\r64 t.2.2/\d.length<=a.length+b.length:=by
 have h3:=zOn a b
 rw [h] at h3
 simp only [List.length_append,List.length_cons] at h3
 obtain ⟨k1,k2⟩:=zEy _ a b h1 h2 t (by rw [show dR (a.length+b.length) a b=bR a b from rfl,h];simp)
 exact ⟨k1,k2,zC⟩
def rH (k:Int) (ts:List Tr):Lf×Int:=if r64 k/\ts.all cC=true then (⟨k,nB ts⟩,0) else (zL,3)
def lE (a b:Lf):Lf×Int:=if bP a=true/\bP b=true then rH (a.K+b.K) (bR a.L b.L) else (zL,1)
theorem add_bad {a b:Lf} (h:¬(bP a=true/\bP b=true)):lE a b=(zL,1):=by unfold lE;rw [if_neg h]
theorem add_c1 {a b:Lf} (c:¬fM a=0∨¬fM b=0):lE a b=(zL,1):=add_bad fun h=>by
 rcases c with c|c
 ·have:=zJk c;rw [h.1] at this;cases this
 ·have:=zJk c;rw [h.2] at this;cases this
theorem add_no {a b:Lf} (h1:bP a=true) (h2:bP b=true) (h:okF (decide (r64 (a.K+b.K))) (bR a.L b.L)=false):lE a b=(zL,3):=by
 unfold lE rH
 rw [if_pos ⟨h1,h2⟩,if_neg fun k=>?_]
 rw [okF_all,decide_eq_true k.1,k.2] at h
 cases h
theorem add_ok {a b:Lf} (h1:bP a=true) (h2:bP b=true) (h:okF (decide (r64 (a.K+b.K))) (bR a.L b.L)=true):lE a b=(⟨w64 (a.K+b.K),nB (bR a.L b.L)⟩,0):=by
 rw [okF_all,Bool.and_eq_true,decide_eq_true_eq] at h
 unfold lE rH
 rw [if_pos ⟨h1,h2⟩,if_pos h,w64_in h.1]
def lT (by_:Int) (l:List Mono):List Mono:=l.map fun m=>⟨m.Name,m.By*by_⟩
def lX (by_:Int) (l:List Mono):Bool:=l.all fun m=>decide (r64 (m.By*by_))
def dX (a:Lf) (by_:Int):Lf×Int:=if bP a=true then (if by_=0 then (zL,0) else if r64 (a.K*by_)/\lX by_ a.L=true then (⟨a.K*by_,lT by_ a.L⟩,0) else (zL,3)) else (zL,1)
def nJ (l:Lf) (s:ByteArray):Lf:=⟨l.K,l.L.filter fun m=> !decide (m.Name=s)⟩
def dA (l:List Mono) (s:ByteArray):Int:=l.foldl (fun by_ m=>if m.Name=s then m.By else by_) 0
def fC (l:Lf) (s:ByteArray) (to_:Lf):Lf×Int:=
 if bP l=true/\bC s=true/\bP to_=true then (if (dX to_ (dA l.L s)).2=0 then lE (nJ l s) (dX to_ (dA l.L s)).1 else (zL,(dX to_ (dA l.L s)).2)) else (zL,1)
def sP (by_:Int) (ts:List Tr):List Tr:=ts.map fun t=>(t.1,t.2.1,t.2.2*by_)
def lZ (l:Lf) (s:ByteArray) (to_:Lf):Lf×Int:=
 if bP l=true/\bP to_=true/\bC s=true then
  (if dA l.L s=0 then (l,0) else if r64 (to_.K*dA l.L s)/\lX (dA l.L s) to_.L=true then rH (l.K+to_.K*dA l.L s) (sP (dA l.L s) (bR (nJ l s).L to_.L)) else (zL,3))
 else (zL,1)
def mA (by_:Int) (l:List Mono):List Mono:=l.map fun m=>⟨m.Name,(dW m.By by_).1⟩
def mQ (by_:Int) (l:List Mono):Bool:=l.all fun m=>(dW m.By by_).2
theorem scaleW_len (by_:Int) (l:List Mono):(mA by_ l).length=l.length:=by simp [mA]
theorem scaleW_next {by_:Int} {l:List Mono} {k:Nat} {x:Mono} (h:l[k]? =some x):mA by_ (l.take (k+1))=mA by_ (l.take k)++[⟨x.Name,(dW x.By by_).1⟩]:=by unfold mA;rw [yB h,List.map_append];rfl
theorem scaleB_next {by_:Int} {l:List Mono} {k:Nat} {x:Mono} (h:l[k]? =some x):mQ by_ (l.take (k+1))=(mQ by_ (l.take k)&&(dW x.By by_).2):=by unfold mQ;rw [yB h,List.all_append];simp
theorem timesT_2 (x y:Int):(dW x y).2=decide (r64 (x*y)):=by unfold dW;by_cases h:r64 (x*y)<;>simp [h]
theorem timesT_1 {x y:Int} (h:r64 (x*y)):(dW x y).1=x*y:=by unfold dW;rw [if_pos h]
theorem scaleB_ok (by_:Int) (l:List Mono):mQ by_ l=lX by_ l:=by unfold mQ lX;congr 1;funext m;exact timesT_2 _ _
theorem scaleW_ok {by_:Int} {l:List Mono} (h:lX by_ l=true):mA by_ l=lT by_ l:=by
 unfold lX at h
 rw [List.all_eq_true] at h
 unfold mA lT
 refine List.map_congr_left fun m hm=>?_
 rw [timesT_1 (by simpa using h m hm)]
theorem scale_ok {l:Lf} {by_:Int} (h1:bP l=true) (h2:¬by_=0) (h3:(dW l.K by_).2=true/\mQ by_ l.L=true):dX l by_=(⟨(dW l.K by_).1,mA by_ l.L⟩,0):=by
 rw [timesT_2,decide_eq_true_eq,scaleB_ok] at h3
 unfold dX
 rw [if_pos h1,if_neg h2,if_pos h3,timesT_1 h3.1,scaleW_ok h3.2]
theorem scale_no {l:Lf} {by_:Int} (h1:bP l=true) (h2:¬by_=0) (h3:(dW l.K by_).2=false∨mQ by_ l.L=false):dX l by_=(zL,3):=by
 unfold dX
 rw [if_pos h1,if_neg h2,if_neg fun h=>?_]
 rw [timesT_2,scaleB_ok,decide_eq_true h.1,h.2] at h3
 rcases h3 with h3|h3<;>cases h3
theorem scale_zero {l:Lf} {by_:Int} (h1:bP l=true) (h2:by_=0):dX l by_=(zL,0):=by unfold dX;rw [if_pos h1,if_pos h2]
theorem scale_bad {l:Lf} {by_:Int} (h1:bP l=false):dX l by_=(zL,1):=by unfold dX;rw [if_neg (by rw [h1];simp)]
theorem zCv (by_:Int):∀(n:Nat) (a b:List Mono),a.length+b.length<=n->bR a (lT by_ b)=sP by_ (bR a b)
 |_,[],[],_=>rfl
 |0,_::_,_,h=>by simp at h
 |0,[],_::_,h=>by simp at h
 |n+1,a::ar,[],h=>by
  have ih:=zCv by_ n ar [] (by simp at h⊢;omega)
  show bR (a::ar) []=_
  rw [zMn]
  show _=(a.Name,a.By,0*by_)::sP by_ (bR ar [])
  rw [←ih,Int.zero_mul];rfl
 |n+1,[],b::bs,h=>by
  have ih:=zCv by_ n [] bs (by simp at h⊢;omega)
  show bR [] (⟨b.Name,b.By*by_⟩::lT by_ bs)=_
  rw [zMm,zMm,ih];rfl
 |n+1,a::ar,b::bs,h=>by
  have h':ar.length+1+(bs.length+1)<=n+1:=by simpa using h
  have i1:=zCv by_ n ar (b::bs) uF
  have i2:=zCv by_ n (a::ar) bs uF
  have i3:=zCv by_ n ar bs zC
  have e:lT by_ (b::bs)=⟨b.Name,b.By*by_⟩::lT by_ bs:=rfl
  rw [e] at i1⊢
  rw [zHi,zHi,i1,i2,i3]
  cases bX a.Name b.Name<;>cases bX b.Name a.Name<;>simp [sP]
theorem zTj {l:List Mono} {k:Nat} {x:Mono} {s:ByteArray} (h:l[k]? =some x):dA (l.take (k+1)) s=if x.Name=s then x.By else dA (l.take k) s:=by
 unfold dA;rw [yB h,List.foldl_append];rfl
theorem rest_next {l:List Mono} {k:Nat} {x:Mono} {s:ByteArray} (h:l[k]? =some x):(l.take (k+1)).filter (fun m=> !decide (m.Name=s))=(l.take k).filter (fun m=> !decide (m.Name=s))++(if x.Name=s then [] else [x]):=by
 rw [yB h,List.filter_append];by_cases e:x.Name=s<;>simp [e]
theorem zOl:∀{p:Option ByteArray} {l:List Mono},bT p l=true->∀m,m∈l->m.By≠0/\bC m.Name=true
 |_,[],_,m,hm=>by cases hm
 |p,x::r,h,m,hm=>by
  simp only [bT,Bool.and_eq_true,Bool.not_eq_true',decide_eq_false_iff_not] at h
  rcases List.mem_cons.1 hm with rfl|hm
  ·exact ⟨h.1.1.2,h.1.1.1⟩
  ·exact zOl h.2 m hm
theorem last_none {l:List Mono} {s:ByteArray} (h:∀m,m∈l->m.Name≠s):dA l s=0/\l.filter (fun m=> !decide (m.Name=s))=l:=by
 constructor
 ·have:∀(l:List Mono) (b:Int),(∀m,m∈l->m.Name≠s)->l.foldl (fun by_ m=>if m.Name=s then m.By else by_) b=b:=by
   intro l
   induction l with
   |nil=>intro b _;rfl
   |cons x r ih=>intro b hl;rw [List.foldl_cons,if_neg (hl x uG),ih b fun m hm=>hl m (by simp [hm])]
  exact this l 0 h
 ·rw [List.filter_eq_self];intro m hm;simp [h m hm]
theorem last_zero {p:Option ByteArray} {l:List Mono} {s:ByteArray} (h:bT p l=true) (hz:dA l s=0):∀m,m∈l->m.Name≠s:=by
 have key:∀(l:List Mono) (b:Int),(∀m,m∈l->m.By≠0)->l.foldl (fun by_ m=>if m.Name=s then m.By else by_) b=0->∀m,m∈l->m.Name≠s:=by
  intro l
  induction l with
  |nil=>intro b _ _ m hm;cases hm
  |cons x r ih=>
   intro b hl h m hm
   rw [List.foldl_cons] at h
   rcases List.mem_cons.1 hm with rfl|hm
   ·intro e
    rw [if_pos e] at h
    by_cases c:∀y,y∈r->y.Name≠s
    ·have:r.foldl (fun by_ m=>if m.Name=s then m.By else by_) m.By=m.By:=by
      clear ih h hl hm
      generalize m.By=z
      induction r generalizing z with
      |nil=>rfl
      |cons y r ih2=>rw [List.foldl_cons,if_neg (c y uG),ih2 (fun q hq=>c q (by simp [hq]))]
     rw [this] at h
     exact hl m uG h
    ·exact c (ih _ (fun y hy=>hl y (by simp [hy])) h)
   ·exact ih _ (fun y hy=>hl y (by simp [hy])) h m hm
 exact key l 0 (fun m hm=>(zOl h m hm).1) hz
def Lf.rng (l:Lf):Prop:=r64 l.K/\∀m,m∈l.L->r64 m.By
theorem zMl:∀{l:List Mono},(∀m,m∈l->r64 m.By/\m.By≠0)->(bR l []).all cC=true/\nB (bR l [])=l
 |[],_=>⟨rfl,rfl⟩
 |a::ar,h=>by
  obtain ⟨h1,h2⟩:=zMl (l:=ar) fun m hm=>h m (by simp [hm])
  obtain ⟨h3,h4⟩:=h a uG
  rw [zMn]
  have e:trV (a.Name,a.By,0)=a.By:=by simp [trV]
  constructor
  ·rw [List.all_cons,h1,cC,e,decide_eq_true h3];rfl
  ·show List.filterMap _ _=_
   rw [List.filterMap_cons]
   simp only [e,w64_in h3,if_neg h4]
   exact congrArg (a:: ·) h2
theorem last_rng {l:Lf} (h:l.rng) (s:ByteArray):r64 (dA l.L s):=by
 have key:∀(l:List Mono) (b:Int),(∀m,m∈l->r64 m.By)->r64 b->r64 (l.foldl (fun by_ m=>if m.Name=s then m.By else by_) b):=by
  intro l
  induction l with
  |nil=>intro b _ h;exact h
  |cons x r ih=>
   intro b hl hb
   rw [List.foldl_cons]
   refine ih _ (fun m hm=>hl m (by simp [hm])) ?_
   split
   ·exact hl x uG
   ·exact hb
 exact key l.L 0 h.2 (by unfold r64;omega)
theorem zPm:zL.rng:=⟨by show r64 0;unfold r64;omega,fun m hm=>by cases hm⟩
theorem scale_rng (l:Lf) (b:Int):(dX l b).1.rng/\(dX l b).1.L.length<=l.L.length:=by
 unfold dX
 split
 ·split
  ·exact ⟨zPm,by simp [zL]⟩
  ·split
   ·rename_i h
    refine ⟨⟨h.1,fun m hm=>?_⟩,by simp [lT]⟩
    obtain ⟨x,hx,rfl⟩:=List.mem_map.1 hm
    have:=h.2
    unfold lX at this
    rw [List.all_eq_true] at this
    simpa using this x hx
   ·exact ⟨zPm,by simp [zL]⟩
 ·exact ⟨zPm,by simp [zL]⟩
theorem rest_rng {l:Lf} (h:l.rng) (s:ByteArray):(nJ l s).rng/\(nJ l s).L.length<=l.L.length:=
 ⟨⟨h.1,fun m hm=>h.2 m (List.mem_filter.1 hm).1⟩,List.length_filter_le _ _⟩
theorem subst_c1 {l to_:Lf} {s:ByteArray} (c:(¬fM l=0∨bC s=false)∨¬fM to_=0):fC l s to_=(zL,1):=by
 unfold fC
 refine if_neg fun h=>?_
 rcases c with (c|c)|c
 ·have:=zJk c;rw [h.1] at this;cases this
 ·rw [h.2.1] at c;cases c
 ·have:=zJk c;rw [h.2.2] at this;cases this
theorem subst_c4 {l to_:Lf} {s:ByteArray} (c:(fM l=0/\bC s=true)/\fM to_=0) (c4:¬(dX to_ (dA l.L s)).2=0):fC l s to_=(zL,(dX to_ (dA l.L s)).2):=by
 unfold fC
 rw [if_pos ⟨zJl c.1.1,c.1.2,zJl c.2⟩,if_neg c4]
theorem subst_ok {l to_:Lf} {s:ByteArray} (c:(fM l=0/\bC s=true)/\fM to_=0) (c4:(dX to_ (dA l.L s)).2=0):fC l s to_=lE (nJ l s) (dX to_ (dA l.L s)).1:=by
 unfold fC
 rw [if_pos ⟨zJl c.1.1,c.1.2,zJl c.2⟩,if_pos c4]
theorem strLt_trans' {a b c:ByteArray} (h:bX a b=true) (k:bX b c=true):bX a c=true:=zCn h k
theorem monos_weak {p q:Option ByteArray} {l:List Mono} (h:bT p l=true) (hpq:∀n,ltO p n=true->ltO q n=true):bT q l=true:=by
 cases l with
 |nil=>rfl
 |cons x r=>
  simp only [bT,Bool.and_eq_true] at h⊢
  exact ⟨⟨h.1.1,hpq _ h.1.2⟩,h.2⟩
theorem zJd (f:Mono->Bool):∀{p:Option ByteArray} {l:List Mono},bT p l=true->bT p (l.filter f)=true
 |_,[],_=>rfl
 |p,x::r,h=>by
  simp only [bT,Bool.and_eq_true] at h
  have ih:=zJd f h.2
  rw [List.filter_cons]
  by_cases c:f x=true
  ·rw [if_pos c];simp only [bT,Bool.and_eq_true];exact ⟨h.1,ih⟩
  ·rw [if_neg c]
   refine monos_weak ih fun n hn=>?_
   cases p with
   |none=>rfl
   |some q=>exact strLt_trans' h.1.2 hn
theorem zSy {b:Int} (hb:b≠0):∀{p:Option ByteArray} {l:List Mono},bT p l=true->bT p (lT b l)=true
 |_,[],_=>rfl
 |p,x::r,h=>by
  simp only [bT,Bool.and_eq_true,Bool.not_eq_true',decide_eq_false_iff_not] at h
  have ih:=zSy hb h.2
  show bT p (⟨x.Name,x.By*b⟩::lT b r)=true
  simp only [bT,Bool.and_eq_true,Bool.not_eq_true',decide_eq_false_iff_not]
  exact ⟨⟨⟨h.1.1.1,Int.mul_ne_zero h.1.1.2 hb⟩,h.1.2⟩,ih⟩
theorem subst_eq {l to_:Lf} {s:ByteArray} (hl:l.rng):fC l s to_=lZ l s to_:=by
 unfold fC lZ
 by_cases h:bP l=true/\bC s=true/\bP to_=true
 ·obtain ⟨h1,h2,h3⟩:=h
  rw [if_pos (⟨h1,h2,h3⟩:bP l=true/\bC s=true/\bP to_=true),if_pos (⟨h1,h3,h2⟩:bP l=true/\bP to_=true/\bC s=true)]
  by_cases c:dA l.L s=0
  ·rw [if_pos c]
   have hn:=last_zero h1 c
   have e:dX to_ (dA l.L s)=(zL,0):=by unfold dX;rw [if_pos h3,if_pos c]
   rw [e,if_pos rfl]
   have er:nJ l s=l:=by unfold nJ;rw [(last_none hn).2]
   rw [er]
   unfold lE
   rw [if_pos ⟨h1,rfl⟩]
   obtain ⟨g1,g2⟩:=zMl (l:=l.L) fun m hm=>⟨hl.2 m hm,(zOl h1 m hm).1⟩
   show rH (l.K+0) (bR l.L [])=_
   unfold rH
   rw [Int.add_zero,if_pos ⟨hl.1,g1⟩,g2]
  ·rw [if_neg c]
   by_cases d:r64 (to_.K*dA l.L s)/\lX (dA l.L s) to_.L=true
   ·rw [if_pos d]
    have e:dX to_ (dA l.L s)=(⟨to_.K*dA l.L s,lT (dA l.L s) to_.L⟩,0):=by unfold dX;rw [if_pos h3,if_neg c,if_pos d]
    rw [e,if_pos rfl]
    unfold lE
    rw [if_pos ⟨zJd _ h1,zSy c h3⟩]
    show rH (l.K+to_.K*dA l.L s) (bR (nJ l s).L (lT (dA l.L s) to_.L))=_
    rw [zCv _ _ _ _ (Nat.le_refl _)]
   ·rw [if_neg d]
    have e:dX to_ (dA l.L s)=(zL,3):=by unfold dX;rw [if_pos h3,if_neg c,if_neg d]
    rw [e,if_neg uA]
 ·rw [if_neg h,if_neg fun k=>h ⟨k.1,k.2.2,k.2.1⟩]
end Go.Br
end
section
namespace Go.Br
open Go Go.Eng Go.L41
theorem sumM_len (by_:Int) (d:List Tr):(nB (sP by_ d)).length<=d.length:=by
 have:=zQu (sP by_ d);simpa [sP] using this
end Go.Br
end
section
namespace Go.Br
open Go Go.Eng Go.L41
/-! ## Ascending triples -/
def mK:Option ByteArray->List Tr->Bool
 |_,[]=>true
 |p,t::r=>bC t.1&&ltO p t.1&&mK (some t.1) r
theorem ltO_trans {p:Option ByteArray} {a b:ByteArray} (h:ltO p a=true) (k:bX a b=true):ltO p b=true:=by
 cases p with
 |none=>rfl
 |some q=>exact zCn h k
theorem zGs:∀(n:Nat) (p:Option ByteArray) (a b:List Mono),a.length+b.length<=n->bT p a=true->bT p b=true->mK p (bR a b)=true
 |_,p,[],[],_,_,_=>rfl
 |0,_,_::_,_,h,_,_=>by simp at h
 |0,_,[],_::_,h,_,_=>by simp at h
 |n+1,p,x::r,[],h,ha,hb=>by
  simp only [bT,Bool.and_eq_true] at ha
  rw [zMn,mK,Bool.and_eq_true,Bool.and_eq_true]
  exact ⟨⟨ha.1.1.1,ha.1.2⟩,zGs n _ r [] (by simp at h⊢;omega) ha.2 rfl⟩
 |n+1,p,[],y::s,h,ha,hb=>by
  simp only [bT,Bool.and_eq_true] at hb
  rw [zMm,mK,Bool.and_eq_true,Bool.and_eq_true]
  exact ⟨⟨hb.1.1.1,hb.1.2⟩,zGs n _ [] s (by simp at h⊢;omega) rfl hb.2⟩
 |n+1,p,x::r,y::s,h,ha,hb=>by
  have ha0:=ha
  have hb0:=hb
  simp only [bT,Bool.and_eq_true] at ha hb
  rw [zHi]
  cases h1:bX x.Name y.Name with
  |true=>
   rw [cond_true,mK,Bool.and_eq_true,Bool.and_eq_true]
   refine ⟨⟨ha.1.1.1,ha.1.2⟩,zGs n _ r (y::s) (by simp at h⊢;omega) ha.2 ?_⟩
   simp only [bT,Bool.and_eq_true]
   exact ⟨⟨hb.1.1,h1⟩,hb.2⟩
  |false=>
   rw [cond_false]
   cases h2:bX y.Name x.Name with
   |true=>
    rw [cond_true,mK,Bool.and_eq_true,Bool.and_eq_true]
    refine ⟨⟨hb.1.1.1,hb.1.2⟩,zGs n _ (x::r) s (by simp at h⊢;omega) ?_ hb.2⟩
    simp only [bT,Bool.and_eq_true]
    exact ⟨⟨ha.1.1,h2⟩,ha.2⟩
   |false=>
    rw [cond_false,mK,Bool.and_eq_true,Bool.and_eq_true]
    have e:x.Name=y.Name:=zIm h1 h2
    refine ⟨⟨ha.1.1.1,ha.1.2⟩,zGs n _ r s (by simp at h⊢;omega) ha.2 ?_⟩
    show bT (some x.Name) s=true
    rw [e];exact hb.2
theorem mul_asc (b:Int):∀{p:Option ByteArray} {l:List Tr},mK p l=true->mK p (sP b l)=true
 |_,[],_=>rfl
 |p,t::r,h=>by
  simp only [mK,Bool.and_eq_true] at h
  show mK p ((t.1,t.2.1,t.2.2*b)::sP b r)=true
  simp only [mK,Bool.and_eq_true]
  exact ⟨h.1,mul_asc b h.2⟩
theorem sum_asc:∀{p:Option ByteArray} {l:List Tr},mK p l=true->bT p (nB l)=true
 |_,[],_=>rfl
 |p,t::r,h=>by
  simp only [mK,Bool.and_eq_true] at h
  have ih:=sum_asc h.2
  unfold nB at ih⊢
  rw [List.filterMap_cons]
  by_cases c:w64 (trV t)=0
  ·rw [if_pos c]
   exact monos_weak ih fun n hn=>ltO_trans h.1.2 hn
  ·rw [if_neg c]
   simp only [bT,Bool.and_eq_true,Bool.not_eq_true',decide_eq_false_iff_not]
   exact ⟨⟨⟨h.1.1,c⟩,h.1.2⟩,ih⟩
theorem sum_rng {l:List Tr} {m:Mono} (h:m∈nB l):r64 m.By:=by
 unfold nB at h
 obtain ⟨t,ht,e⟩:=List.mem_filterMap.1 h
 by_cases c:w64 (trV t)=0
 ·rw [if_pos c] at e;cases e
 ·rw [if_neg c] at e;injection e with e;subst e;exact w64_r _
/-! ## One form -/
theorem substR_len (l to_:Lf) (s:ByteArray):(lZ l s to_).1.L.length<=l.L.length+to_.L.length:=by
 unfold lZ
 split
 ·split
  ·exact Nat.le_add_right _ _
  ·split
   ·unfold rH
    split
    ·show (nB (sP _ _)).length<=_
     have h1:=sumM_len (dA l.L s) (bR (nJ l s).L to_.L)
     have h2:=zOn (nJ l s).L to_.L
     have h3:(nJ l s).L.length<=l.L.length:=List.length_filter_le _ _
     omega
    ·exact Nat.zero_le _
   ·exact Nat.zero_le _
 ·exact Nat.zero_le _
theorem substR_rng {l to_:Lf} (s:ByteArray) (hl:l.rng):(lZ l s to_).1.rng:=by
 unfold lZ
 split
 ·split
  ·exact hl
  ·split
   ·unfold rH
    split
    ·rename_i h;exact ⟨h.1,fun m hm=>sum_rng hm⟩
    ·exact zPm
   ·exact zPm
 ·exact zPm
theorem substR_ok {l to_:Lf} {s:ByteArray} (h1:bP l=true) (h2:bP to_=true) (h3:bC s=true) (h:(lZ l s to_).2=0):bP (lZ l s to_).1=true:=by
 unfold lZ at h⊢
 rw [if_pos ⟨h1,h2,h3⟩] at h⊢
 by_cases c:dA l.L s=0
 ·rw [if_pos c] at h⊢;exact h1
 ·rw [if_neg c] at h⊢
  by_cases d:r64 (to_.K*dA l.L s)/\lX (dA l.L s) to_.L=true
  ·rw [if_pos d] at h⊢
   unfold rH at h⊢
   split
   ·exact sum_asc (mul_asc _ (zGs _ none _ _ (Nat.le_refl _) (zJd _ h1) h2))
   ·rfl
  ·rw [if_neg d] at h⊢;rfl
theorem zSz:∀{q:ByteArray} {l:List Mono},bT (some q) l=true->∀m,m∈l->bX q m.Name=true
 |_,[],_,m,hm=>by cases hm
 |q,x::r,h,m,hm=>by
  simp only [bT,Bool.and_eq_true] at h
  rcases List.mem_cons.1 hm with rfl|hm
  ·exact h.1.2
  ·exact zCn h.1.2 (zSz h.2 m hm)
def gIx (g:Lf->Lf) (x:Ix):Ix:=⟨g x.Lin,x.From,x.At.map g⟩
mutual
def gEx (g:Lf->Lf):Ex->Ex
 |.mk o n v t l i arg_=>.mk o n v t (g l) (i.map (gIx g)) (vX g arg_)
def vX (g:Lf->Lf):List Ex->List Ex
 |[]=>[]
 |a::r=>gEx g a::vX g r
end
theorem gExs_map (g:Lf->Lf) (l:List Ex):vX g l=l.map (gEx g):=by
 induction l with
 |nil=>rfl
 |cons a r ih=>rw [vX,ih];rfl
theorem gEx_eq (g:Lf->Lf) (e:Ex):gEx g e=.mk e.Op e.Name e.Val e.Ty (g e.Lin) (e.Idx.map (gIx g)) (e.Args.map (gEx g)):=by
 cases e;rw [gEx,gExs_map];rfl
theorem mLins_g {f:Lf->Lf×Int}:∀{l r:List Lf},fG f l=.ok r->r=l.map (fun x=>(f x).1)/\∀x,x∈l->(f x).2=0
 |[],r,h=>by rw [fG] at h;injection h with h;subst h;exact ⟨rfl,fun x hx=>by cases hx⟩
 |a::t,r,h=>by
  rw [fG] at h
  by_cases c:(f a).2=0
  ·rw [zQn c] at h
   cases hm:fG f t with
   |error y=>rw [hm] at h;cases h
   |ok u=>
    rw [hm] at h
    injection h with h
    subst h
    obtain ⟨h1,h2⟩:=mLins_g hm
    exact ⟨by rw [h1];rfl,fun x hx=>by rcases List.mem_cons.1 hx with rfl|hx;exact c;exact h2 x hx⟩
  ·rw [fE_err c] at h;cases h
theorem mIx_g {f:Lf->Lf×Int} {x y:Ix} (h:mIx f x=.ok y):y=gIx (fun l=>(f l).1) x/\(f x.Lin).2=0/\∀l,l∈x.At->(f l).2=0:=by
 rw [mIx] at h
 by_cases c:(f x.Lin).2=0
 ·rw [zQn c] at h
  cases hm:fG f x.At with
  |error y=>rw [hm] at h;cases h
  |ok u=>
   rw [hm] at h
   injection h with h
   subst h
   obtain ⟨h1,h2⟩:=mLins_g hm
   exact ⟨by rw [h1];rfl,c,h2⟩
 ·rw [fE_err c] at h;cases h
theorem mIxs_g {f:Lf->Lf×Int}:∀{l r:List Ix},fJ f l=.ok r->r=l.map (gIx fun x=>(f x).1)/\∀x,x∈l->(f x.Lin).2=0/\∀y,y∈x.At->(f y).2=0
 |[],r,h=>by rw [fJ] at h;injection h with h;subst h;exact ⟨rfl,fun x hx=>by cases hx⟩
 |a::t,r,h=>by
  rw [fJ] at h
  cases h1:mIx f a with
  |error y=>rw [h1] at h;cases h
  |ok a'=>
   rw [h1] at h
   cases hm:fJ f t with
   |error y=>rw [hm] at h;cases h
   |ok u=>
    rw [hm] at h
    injection h with h
    subst h
    obtain ⟨k1,k2⟩:=mIx_g h1
    obtain ⟨k3,k4⟩:=mIxs_g hm
    exact ⟨by rw [k1,k3];rfl,fun x hx=>by rcases List.mem_cons.1 hx with rfl|hx;exact k2;exact k4 x hx⟩
theorem nodes_allF {P:Lf->Prop} {e:Ex} (h1:∀l,l∈dI e->P l) (h2:∀a,a∈e.Args->a.allF P):e.allF P:=by
 exact j0
mutual
theorem mEx_g {f:Lf->Lf×Int}:∀{e e':Ex},mEx f e=.ok e'->e'=gEx (fun l=>(f l).1) e/\e.allF fun l=>(f l).2=0
 |.mk o n v t l i arg_,e',h=>by
  rw [mEx] at h
  by_cases c:(f l).2=0
  ·rw [zQn c] at h
   cases h1:fJ f i with
   |error y=>rw [h1] at h;cases h
   |ok i'=>
    rw [h1] at h
    cases h2:gW f arg_ with
    |error y=>rw [h2] at h;cases h
    |ok as'=>
     rw [h2] at h
     injection h with h
     subst h
     obtain ⟨k1,k2⟩:=mIxs_g h1
     obtain ⟨k3,k4⟩:=mExs_g h2
     refine ⟨by rw [gEx,k1,k3,gExs_map],nodes_allF ?_ k4⟩
     intro y hy
     unfold dI at hy
     rcases List.mem_cons.1 hy with rfl|hy
     ·exact c
     ·obtain ⟨x,hx,hy⟩:=List.mem_flatMap.1 hy
      rcases List.mem_cons.1 hy with rfl|hy
      ·exact (k2 x hx).1
      ·exact (k2 x hx).2 y hy
  ·rw [fE_err c] at h;cases h
theorem mExs_g {f:Lf->Lf×Int}:∀{l r:List Ex},gW f l=.ok r->r=l.map (gEx fun l=>(f l).1)/\∀a,a∈l->a.allF fun l=>(f l).2=0
 |[],r,h=>by rw [gW] at h;injection h with h;subst h;exact ⟨rfl,fun x hx=>by cases hx⟩
 |a::t,r,h=>by
  rw [gW] at h
  cases h1:mEx f a with
  |error y=>rw [h1] at h;cases h
  |ok a'=>
   rw [h1] at h
   cases hm:gW f t with
   |error y=>rw [hm] at h;cases h
   |ok u=>
    rw [hm] at h
    injection h with h
    subst h
    obtain ⟨k1,k2⟩:=mEx_g h1
    obtain ⟨k3,k4⟩:=mExs_g hm
    exact ⟨by rw [k1,k3];rfl,fun x hx=>by rcases List.mem_cons.1 hx with rfl|hx;exact k2;exact k4 x hx⟩
end
theorem forms_g (g:Lf->Lf) (e:Ex):dI (gEx g e)=(dI e).map g:=by
 rw [gEx_eq]
 show g e.Lin::(e.Idx.map (gIx g)).flatMap (fun x=>x.Lin::x.At)=(e.Lin::e.Idx.flatMap fun x=>x.Lin::x.At).map g
 rw [List.map_cons]
 congr 1
 induction e.Idx with
 |nil=>rfl
 |cons x r ih=>rw [List.map_cons,List.flatMap_cons,List.flatMap_cons,List.map_append,ih];rfl
mutual
theorem nodes_g (g:Lf->Lf):∀e:Ex,bY (gEx g e)=(bY e).map (gEx g)
 |.mk o n v t l i arg_=>by rw [gEx,bY,bY,nodesL_g g arg_,List.map_cons,gEx]
theorem nodesL_g (g:Lf->Lf):∀l:List Ex,bM (vX g l)=(bM l).map (gEx g)
 |[]=>by rw [vX,bM];rfl
 |a::r=>by rw [vX,bM,bM,nodes_g g a,nodesL_g g r,List.map_append]
end
theorem allF_g {g:Lf->Lf} {P:Lf->Prop} {e:Ex} (h:e.allF fun l=>P (g l)):(gEx g e).allF P:=by
 intro x hx l hl
 rw [nodes_g] at hx
 obtain ⟨y,hy,rfl⟩:=List.mem_map.1 hx
 rw [forms_g] at hl
 obtain ⟨k,hk,rfl⟩:=List.mem_map.1 hl
 exact h y hy k hk
theorem valid_lin {e:Ex} (h:dQ e=0):e.allF fun l=>bP l=true:=by
 intro x hx l hl
 have:=(zKd (zNb (zCs h) x hx)).2.2.2.2
 unfold lB at this
 rw [Bool.and_eq_true] at this
 exact List.all_eq_true.1 this.2 l hl
/-! ## Weights -/
end Go.Br
end
section
namespace Go.Br
open Go Go.Eng Go.Proofs Go.L41
structure PO {α:Type} (f:α->α->Int) (a:α):Prop where
 anti:∀b,f b a= -f a b
 rng:∀b,-1<=f a b/\f a b<=1
 cong:∀b,f a b=0->∀c,f a c=f b c
 cong':∀b c,f b c=0->f a b=f a c
 trans:∀b c,f a b<0->f b c<0->f a c<0
theorem PO.zero {α:Type} (a:α):PO (fun _ _=>0) a:=
 ⟨fun _=>rfl,fun _=>⟨by show (-1:Int)<=0;omega,by show (0:Int)<=1;omega⟩,fun _ _ _=>rfl,fun _ _ _=>rfl,fun _ _ h _=>h⟩
end Go.Br
end
section
namespace Go.Br
open Go Go.Eng Go.L41
/-! ## Short names -/
theorem nodes_take {e x:Ex} {k:Nat} (h:e.Args[k]? =some x):(bM (e.Args.take k)).length+(bY x).length+1<=(bY e).length:=by
 have:=congrArg List.length (nodes_at h (x:=x) (pre:=[]) (suf:=bM x.Args) (by rw [wZ];rfl))
 rw [wZ x]
 simp only [List.length_append,List.length_cons,List.length_nil] at this⊢
 omega
/-! ## Replacing -/
def eO (l:Lf):List ByteArray:=l.L.map Mono.Name
def eN (x:Ex):List ByteArray:=(dI x).flatMap eO
def eP (l:List Ex):List ByteArray:=l.flatMap eN
end Go.Br
end
section
namespace Go.Br
open Go Go.Eng Go.L41
def eX:List ByteArray->ByteArray->List ByteArray
 |[],s=>[s]
 |x::r,s=>if bX x s=true then x::eX r s else if x=s then x::r else s::x::r
def eW (l:List ByteArray) (m:List ByteArray):List ByteArray:=m.foldl eX l
def below (s:ByteArray) (x:ByteArray):Bool:=bX x s
theorem hasB_mem {l:List ByteArray} {s:ByteArray}:bQ l s=true↔s∈l:=by
 unfold bQ;rw [List.any_eq_true]
 constructor
 ·rintro ⟨x,hx,h⟩;rw [decide_eq_true_eq] at h;rw [←h];exact hx
 ·intro h;exact ⟨s,h,uG⟩
end Go.Br
end
section
namespace Go.Br
open Go Go.Eng Go.L41
def eT (e:Ex):List ByteArray:=eW [] (eP (bY e))
end Go.Br
end
section
namespace Go.Br
open Go Go.Eng Go.L41
theorem nodeT_args {N:Ex->List Ty->Ty×Int} {e:Ex} (h:(bL N e).2=0):(bE N e.Args).2=0/\bL N e=N e (bE N e.Args).1:=by
 rw [zKe] at h⊢
 by_cases c:(bE N e.Args).2=0
 ·rw [if_pos c] at h⊢;exact ⟨c,rfl⟩
 ·rw [if_neg c] at h;exact absurd h c
theorem nodeL_cons {N:Ex->List Ty->Ty×Int} {a:Ex} {r:List Ex} (h:(bE N (a::r)).2=0):(bL N a).2=0/\(bE N r).2=0/\(bE N (a::r)).1=(bL N a).1::(bE N r).1:=by
 rw [bE] at h⊢
 by_cases c:(bL N a).2=0
 ·rw [if_pos c] at h⊢
  by_cases d:(bE N r).2=0
  ·rw [if_pos d];exact ⟨c,d,rfl⟩
  ·rw [if_neg d] at h;exact absurd h d
 ·rw [if_neg c] at h;exact absurd h c
section
variable {fr:Ex->Bool} {o_:List ByteArray} {e a b c:Ex}
end
/-! ## Weights -/
section
variable {n:En} {o_:List ByteArray} {e:Ex} {t:Ty×Int}
end
end Go.Br
end
section
namespace Go.Br
open Go Go.Eng Go.L41
theorem valid_defs {p:Pg} (h:(bK p).2=0):∀d,d∈p.Defs->bC d.Name=true:=by
 rw [zGy] at h
 obtain ⟨a',h5,_⟩:=zDo p p rfl p.Params _ _ (zFc h).2.2.2
 intro d hd
 obtain ⟨i,hi⟩:=List.getElem?_of_mem hd
 have h1:=zHu p p.Defs _ _ _ h5 i d hi
 have h2:fR d.Name ((p.Sizes++p.Params.map Pm.Name)++(p.Defs.take i).map Df.Name)=0:=Decidable.byContradiction fun c=>by rw [defR_1 c] at h1;exact c h1
 unfold fR at h2
 by_cases g:bC d.Name=true
 ·exact g
 ·rw [if_neg g] at h2;exact absurd h2 uA
theorem name_size {s:ByteArray} (h:bC s=true):s.size<=16:=by
 rcases Nat.lt_or_ge 16 s.size with c|c
 ·rw [name_short (by rw [Bool.or_eq_true,Bool.or_eq_true];exact .inl (.inr (decide_eq_true zC)))] at h;cases h
 ·exact c
section
variable {p:Pg} {o_:List ByteArray} {R:List Df×List ByteArray×Int}
end
section
variable {n:En} {d:Df} {A:List ByteArray} {X:Ex×Int}
end
end Go.Br
end
section
namespace Go.Br
open Go Go.Eng Go.L41
def dWt (d:Df):Nat:=d.Dims.length+d.Red.length+gJ d.Body 1500
def smD:List Df->Nat->Nat
 |[],n=>n
 |d::r,n=>if n<=1500 then smD r (n+dWt d) else n
def smP:List Pm->Nat->Nat
 |[],n=>n
 |x::r,n=>if n<=1500 then smP r (n+x.Dims.length) else n
def vD (p:Pg):Bool:=((((!decide (40<p.Params.length)&& !decide (40<p.Defs.length))&& !decide (40<p.Outs.length))&& !decide (80<p.Sizes.length))&& !decide (80<p.Where.length))
def vQ (p:Pg):Bool:=vD p&&decide (smP p.Params (smD p.Defs 0)<=1500)
theorem smD_ge:∀(l:List Df) (n:Nat),n<=smD l n
 |[],n=>Nat.le_refl _
 |d::r,n=>by
  rw [smD]
  split
  ·have:=smD_ge r (n+dWt d);omega
  ·exact Nat.le_refl _
theorem smP_ge:∀(l:List Pm) (n:Nat),n<=smP l n
 |[],n=>Nat.le_refl _
 |d::r,n=>by
  rw [smP]
  split
  ·have:=smP_ge r (n+d.Dims.length);omega
  ·exact Nat.le_refl _
theorem smD_all:∀(l:List Df) (n:Nat),smD l n<=1500->∀d,d∈l->dWt d<=1500
 |x::r,n,h,d,hd=>by
  rw [smD] at h
  by_cases c:n<=1500
  ·rw [if_pos c] at h
   rcases List.mem_cons.1 hd with rfl|hd
   ·have:=smD_ge r (n+dWt d);omega
   ·exact smD_all r _ h d hd
  ·rw [if_neg c] at h;exact absurd h c
theorem smP_all:∀(l:List Pm) (n:Nat),smP l n<=1500->∀d,d∈l->d.Dims.length<=1500
 |x::r,n,h,d,hd=>by
  rw [smP] at h
  by_cases c:n<=1500
  ·rw [if_pos c] at h
   rcases List.mem_cons.1 hd with rfl|hd
   ·have:=smP_ge r (n+d.Dims.length);omega
   ·exact smP_all r _ h d hd
  ·rw [if_neg c] at h;exact absurd h c
theorem smD_next {l:List Df} {k n N:Nat} {d:Df} (h:l[k]? =some d) (hp:N=smD (l.drop k) n) (c:n<=1500):N=smD (l.drop (k+1)) (n+dWt d):=by
 rw [hp,qO h,smD,if_pos c]
theorem smD_end {l:List Df} {k n N:Nat} (hp:N=smD (l.drop k) n) (c:¬(k<l.length/\n<=1500)):N=n:=by
 rw [hp]
 by_cases h:k<l.length
 ·obtain ⟨x,hx⟩:=qV l k h
  rw [qO hx,smD,if_neg (fun d=>c ⟨h,d⟩)]
 ·rw [kJ h,smD]
theorem smP_next {l:List Pm} {k n N:Nat} {d:Pm} (h:l[k]? =some d) (hp:N=smP (l.drop k) n) (c:n<=1500):N=smP (l.drop (k+1)) (n+d.Dims.length):=by
 rw [hp,qO h,smP,if_pos c]
theorem smP_end {l:List Pm} {k n N:Nat} (hp:N=smP (l.drop k) n) (c:¬(k<l.length/\n<=1500)):N=n:=by
 rw [hp]
 by_cases h:k<l.length
 ·obtain ⟨x,hx⟩:=qV l k h
  rw [qO hx,smP,if_neg (fun d=>c ⟨h,d⟩)]
 ·rw [kJ h,smP]
structure Pg.Frm (p:Pg):Prop where
 whs:∀c,c∈p.Where->c.Lin.L.length<=5864062014805
 ps:∀x,x∈p.Params->∀l,l∈x.Dims->l.L.length<=5864062014805
 ds:∀d,d∈p.Defs->(∀a,a∈d.Dims->a.Size.L.length<=5864062014805)/\∀a,a∈d.Red->a.Size.L.length<=5864062014805
structure Pg.Sm (p:Pg):Prop where
 sizes:p.Sizes.length<=80
 wh:p.Where.length<=80
 params:p.Params.length<=40
 defs:p.Defs.length<=40
 outs:p.Outs.length<=40
 frm:p.Frm
 ps:∀x,x∈p.Params->x.Dims.length<=1500
 ds:∀d,d∈p.Defs->d.Dims.length<=1500/\d.Red.length<=1500/\d.Body.wt<=1500
theorem sml_is {p:Pg} (h:vQ p=true) (hf:p.Frm):p.Sm:=by
 unfold vQ vD at h
 simp only [Bool.and_eq_true,Bool.not_eq_true',decide_eq_false_iff_not,decide_eq_true_eq] at h
 obtain ⟨⟨⟨⟨⟨h1,h2⟩,h3⟩,h4⟩,h5⟩,h6⟩:=h
 refine ⟨zC,zC,zC,zC,zC,hf,smP_all _ _ h6,fun d hd=>?_⟩
 have h7:=smD_all p.Defs 0 (Nat.le_trans (smP_ge _ _) h6) d hd
 unfold dWt at h7
 have:=zLs d.Body 1500 zC
 exact ⟨zC,zC,zC⟩
theorem Pg.Sm.ok {p:Pg} (h:p.Sm):p.Ok:=
 ⟨Nat.le_trans h.sizes uA,Nat.le_trans h.wh uA,Nat.le_trans h.params uA,Nat.le_trans h.defs uA,Nat.le_trans h.outs uA,h.frm.whs,
  fun x hx=>⟨Nat.le_trans (h.ps x hx) uA,h.frm.ps x hx⟩,
  fun d hd=>⟨Nat.le_trans (h.ds d hd).1 uA,Nat.le_trans (h.ds d hd).2.1 uA,(h.frm.ds d hd).1,(h.frm.ds d hd).2,Nat.le_trans (h.ds d hd).2.2 uA⟩⟩
/-! ## What the loop over the definitions makes is small -/
theorem Pg.Sm.df {p:Pg} (h:p.Sm) {d:Df} (hd:d∈p.Defs):d.Dims.length<=1500/\d.Red.length<=1500/\(∀a,a∈d.Dims->a.Size.L.length<=5864062014805)/\(∀a,a∈d.Red->a.Size.L.length<=5864062014805)/\d.Body.wt<=1500:=
 ⟨(h.ds d hd).1,(h.ds d hd).2.1,(h.frm.ds d hd).1,(h.frm.ds d hd).2,(h.ds d hd).2.2⟩
end Go.Br
end
section
namespace Go.Br
open Go Go.Eng Go.L41
/-! ## Numerals -/
end Go.Br
end
section
namespace Go.Br
open Go Go.Eng Go.L41
/-! ## Occurrences -/
def axsN (d:Df) (e:Ex):List Ax:=(d.Dims++d.Red).filter fun a=>bQ (eT e) a.Name
structure Cl where
 e:Ex
 axes:List Ax
 first:Nat
 n:Nat
 deriving DecidableEq
structure Cl.Ok (c:Cl) (D:List Df):Prop where
 op:3<c.e.Op
 cond:bO c.e=false
 axes:c.axes.length<=6
 n:1<=c.n
 first:∃d,D[c.first]? =some d/\c.e∈bY d.Body/\c.axes=axsN d c.e
def Ex.ops (e:Ex):Prop:=∀x,x∈bY e->1<=x.Op
end Go.Br
end
section
namespace Go.Br
open Go Go.Eng Go.L41
/-! ## A class begins with its first occurrence -/
end Go.Br
end
section
namespace Go.Br
open Go Go.Eng Go.L41
/-! ## Ascending monomials -/
def xB (l:List Mono):Prop:=l.Pairwise fun a b=>bX a.Name b.Name=true
theorem monos_asc:∀{p:Option ByteArray} {l:List Mono},bT p l=true->xB l
 |_,[],_=>List.Pairwise.nil
 |p,x::r,h=>by
  simp only [bT,Bool.and_eq_true] at h
  exact List.Pairwise.cons (fun m hm=>zSz h.2 m hm) (monos_asc h.2)
theorem asc_ne {x y:ByteArray} (h:bX x y=true):x≠y:=by rintro rfl;rw [zRy] at h;cases h
theorem asc_not {x y:ByteArray} (h:bX x y=true):bX y x=false:=by
 cases k:bX y x with
 |false=>rfl
 |true=>have:=zCn h k;rw [zRy] at this;cases this
theorem asc_ext:∀{a b:List Mono},xB a->xB b->(∀m,m∈a↔m∈b)->a=b
 |[],[],_,_,_=>rfl
 |[],y::s,_,_,h=>by have:=(h y).2 uG;cases this
 |x::r,[],_,_,h=>by have:=(h x).1 uG;cases this
 |x::r,y::s,ha,hb,h=>by
  unfold xB at ha hb
  rw [List.pairwise_cons] at ha hb
  have hxy:x=y:=by
   rcases List.mem_cons.1 ((h x).1 uG) with e|e
   ·exact e
   ·rcases List.mem_cons.1 ((h y).2 uG) with e2|e2
    ·exact e2.symm
    ·have h1:=hb.1 x e
     have h2:=ha.1 y e2
     rw [asc_not h1] at h2;cases h2
  subst hxy
  rw [asc_ext (a:=r) (b:=s) ha.2 hb.2 fun m=>?_]
  constructor
  ·intro hm
   rcases List.mem_cons.1 ((h m).1 (by simp [hm])) with e|e
   ·subst e;exact absurd rfl (asc_ne (ha.1 m hm))
   ·exact e
  ·intro hm
   rcases List.mem_cons.1 ((h m).2 (by simp [hm])) with e|e
   ·subst e;exact absurd rfl (asc_ne (hb.1 m hm))
   ·exact e
def gY (l:List Mono):List Mono:=l.mergeSort fun a b=> !bX b.Name a.Name
theorem sortM_mem {l:List Mono} {m:Mono}:m∈gY l↔m∈l:=(List.mergeSort_perm l _).mem_iff
theorem zRz (l:List Mono):(gY l).length=l.length:=(List.mergeSort_perm l _).length_eq
theorem sortM_asc {l:List Mono} (h:(l.map Mono.Name).Nodup):xB (gY l):=by
 have h1:(gY l).Pairwise fun a b=>(!bX b.Name a.Name)=true:=by
  apply List.pairwise_mergeSort
  ·intro a b c hab hbc
   simp only [Bool.not_eq_true'] at hab hbc⊢
   cases k:bX c.Name a.Name with
   |false=>rfl
   |true=>
    cases k2:bX c.Name b.Name with
    |true=>rw [k2] at hbc;cases hbc
    |false=>
     cases k3:bX b.Name c.Name with
     |true=>have:=zCn k3 k;rw [this] at hab;cases hab
     |false=>have e:=zIm k2 k3;rw [←e,k] at hab;cases hab
  ·intro a b
   cases k:bX b.Name a.Name with
   |false=>simp
   |true=>simp [asc_not k]
 have h2:((gY l).map Mono.Name).Nodup:=((List.mergeSort_perm l _).map Mono.Name).nodup_iff.2 h
 unfold List.Nodup at h2
 rw [List.pairwise_map] at h2
 unfold xB
 refine (h1.and h2).imp fun {a b} hh=>?_
 cases k:bX a.Name b.Name with
 |true=>rfl
 |false=>exact absurd (zIm k (by simpa using hh.1)) hh.2
/-! ## Names exchanged -/
def ixB (A:List ByteArray) (s:ByteArray):Int:=dJ (fun x=>decide (x=s)) A
def lW (A B:List ByteArray) (s:ByteArray):ByteArray:=if 0<=ixB B s then A.getD (ixB B s).toNat (bs []) else s
theorem ixB_no {A:List ByteArray} {s:ByteArray} (h:s ∉ A):ixB A s= -1:=zCa (by rw [List.any_eq_false];intro x hx hh;exact h (by simpa using (show x=s by simpa using hh) ▸ hx))
theorem ixB_at {A:List ByteArray} {k:Nat} {s:ByteArray} (hn:A.Nodup) (h:A[k]? =some s):ixB A s=(k:Nat):=by
 refine zDt h uG ?_
 rw [List.any_eq_false]
 intro x hx hh
 have e:x=s:=by simpa using hh
 subst e
 obtain ⟨j,hj,hj2⟩:=List.mem_iff_getElem.1 hx
 rw [List.length_take] at hj
 have hk:k<A.length:=by
  rcases Nat.lt_or_ge k A.length with h1|h1
  ·exact h1
  ·rw [List.getElem?_eq_none h1] at h;cases h
 rw [List.getElem_take] at hj2
 rw [List.getElem?_eq_getElem hk] at h
 injection h with h
 exact (List.pairwise_iff_getElem.1 hn) j k zC hk zC (by rw [hj2,h])
theorem mem_ix {A:List ByteArray} {s:ByteArray} (h:s∈A):∃k:Nat,A[k]? =some s:=List.getElem?_of_mem h
theorem renB_no {A B:List ByteArray} {s:ByteArray} (h:s ∉ B):lW A B s=s:=by unfold lW;rw [ixB_no h,if_neg uA]
theorem renB_at {A B:List ByteArray} {k:Nat} {s t:ByteArray} (hB:B.Nodup) (h:B[k]? =some s) (hA:A[k]? =some t):lW A B s=t:=by
 unfold lW
 rw [ixB_at hB h,if_pos zC]
 simp [hA]
theorem get_len {α:Type} {l:List α} {k:Nat} {x:α} (h:l[k]? =some x):k<l.length:=by
 rcases Nat.lt_or_ge k l.length with h1|h1
 ·exact h1
 ·rw [List.getElem?_eq_none h1] at h;cases h
theorem ren_back {A B:List ByteArray} (hA:A.Nodup) (hB:B.Nodup) (hl:A.length=B.length) {s:ByteArray} (h:s ∉ B->s ∉ A):lW B A (lW A B s)=s:=by
 by_cases c:s∈B
 ·obtain ⟨k,hk⟩:=mem_ix c
  have hkl:=get_len hk
  have ha:A[k]? =some (A[k]'zC):=List.getElem?_eq_getElem zC
  rw [renB_at hB hk ha,renB_at hA ha hk]
 ·rw [renB_no c,renB_no (h c)]
def jF (A B:List ByteArray) (l:Lf):Lf:=⟨l.K,gY (l.L.map fun m=>⟨lW A B m.Name,m.By⟩)⟩
end Go.Br
end
section
namespace Go.Br
open Go Go.Eng Go.L41
section
variable {A B:List ByteArray}
def pV (A B:List ByteArray) (l:Lf):Prop:=bP l=true/\∀m,m∈l.L->m.Name ∉ B->m.Name ∉ A
end
/-! ## Definitions -/
structure twnOk (a b:Df):Prop where
 na:(bH a).Nodup
 nb:(bH b).Nodup
 fa:a.Body.allF fun l=>bP l=true
 fb:b.Body.allF (pV (bH a) (bH b))
end Go.Br
end
section
namespace Go.Br
open Go Go.Eng Go.L41
theorem nameR_not {s:ByteArray} {t:List ByteArray} (h:fR s t=0):s ∉ t:=fun hm=>by
 unfold fR at h
 by_cases c:bC s=true
 ·rw [if_pos c,if_pos (hasB_mem.2 hm)] at h;cases h
 ·rw [if_neg c] at h;cases h
theorem axesR_of {sz:List ByteArray}:∀(l:List Ax) (t:List ByteArray),mZ sz t l=0->(l.map Ax.Name).Nodup/\∀a,a∈l->a.Name ∉ t
 |[],t,_=>⟨List.nodup_nil,fun a ha=>by cases ha⟩
 |x::r,t,h=>by
  rw [mZ] at h
  by_cases c:fR x.Name t=0
  ·rw [if_pos c] at h
   by_cases c2:pK x.Size sz=0
   ·rw [if_pos c2] at h
    obtain ⟨h1,h2⟩:=axesR_of r _ h
    refine ⟨?_,fun a ha=>?_⟩
    ·rw [List.map_cons,List.nodup_cons]
     refine ⟨fun hm=>?_,h1⟩
     obtain ⟨a,ha,e⟩:=List.mem_map.1 hm
     exact h2 a ha (by rw [e];simp)
    ·rcases List.mem_cons.1 ha with rfl|ha
     ·exact nameR_not c
     ·exact fun hm=>h2 a ha (List.mem_append_left _ hm)
   ·rw [if_neg c2] at h;exact absurd h c2
  ·rw [if_neg c] at h;exact absurd h c
theorem defR_axes {n:En} {d:Df} {t:List ByteArray} (h:mV n d t=0):mZ n.sz n.sz (d.Dims++d.Red)=0:=by
 have h1:fR d.Name t=0:=Decidable.byContradiction fun c=>by rw [defR_1 c] at h;exact c h
 have h2:dV d.T=true:=by
  cases c:dV d.T with
  |true=>rfl
  |false=>rw [defR_10 h1 c] at h;cases h
 have h3:¬(6<d.Dims.length∨6<d.Red.length):=fun c=>by rw [defR_11 h1 h2 c] at h;cases h
 rw [defR_ok h1 h2 h3] at h
 exact Decidable.byContradiction fun c=>by rw [if_neg c] at h;exact c h
theorem knL_mem {k:ByteArray->Bool} {l:List Mono} (h:knL k l=true):∀m,m∈l->k m.Name=true:=fun m hm=>List.all_eq_true.1 h m hm
theorem formK_of {k:ByteArray->Bool} {l:Lf} (h:mD k l=0):knL k l.L=true:=by
 unfold mD at h
 cases c:knL k l.L with
 |true=>rfl
 |false=>rw [c] at h;cases h
theorem formsK_of {k:ByteArray->Bool} {l:List Lf} (h:mT k l=0):∀x,x∈l->knL k x.L=true:=by
 unfold mT at h
 cases c:l.all (fun x=>knL k x.L) with
 |true=>exact List.all_eq_true.1 c
 |false=>rw [c] at h;cases h
theorem zeroL_L {l:Lf} (h:nR l=true):l.L=[]:=by
 unfold nR at h
 simp only [Bool.and_eq_true,decide_eq_true_eq] at h
 exact List.eq_nil_of_length_eq_zero zC
theorem zTl {n:En} {k:ByteArray->Bool}:∀l:List Ix,fU n k l=0->∀x,x∈l->fV n k x=0
 |[],_,x,hx=>by cases hx
 |y::r,h,x,hx=>by
  rw [fU] at h
  by_cases c:fV n k y=0
  ·rw [decide_eq_true c,cond_true] at h
   rcases List.mem_cons.1 hx with rfl|hx
   ·exact c
   ·exact zTl r h x hx
  ·rw [decide_eq_false c,cond_false] at h;exact absurd h c
theorem indexK_of {n:En} {k:ByteArray->Bool} {x:Ix} (hw:jW x=true) (h:fV n k x=0):∀l,l∈x.Lin::x.At->∀m,m∈l.L->k m.Name=true:=by
 unfold jW at hw
 unfold fV at h
 by_cases c:x.From=bs []
 ·rw [decide_eq_true c,cond_true] at hw h
  have hA:x.At=[]:=List.eq_nil_of_length_eq_zero (by have:=of_decide_eq_true hw;omega)
  intro l hl
  rw [hA,List.mem_singleton] at hl
  subst hl
  exact knL_mem (formK_of h)
 ·rw [decide_eq_false c,cond_false] at hw h
  cases c1:(n.find x.From).ok with
  |false=>rw [c1] at h;cases h
  |true=>
   rw [c1,Bool.not_true,cond_false] at h
   by_cases c2:(n.find x.From).ty.Kind=3
   ·rw [decide_eq_true c2,Bool.not_true,cond_false] at h
    by_cases c3:x.At.length=(n.find x.From).dims.length
    ·rw [decide_eq_true c3,Bool.not_true,cond_false] at h
     intro l hl m hm
     rcases List.mem_cons.1 hl with rfl|hl
     ·rw [zeroL_L hw] at hm;cases hm
     ·exact knL_mem (formsK_of h l hl) m hm
    ·rw [decide_eq_false c3,Bool.not_false,cond_true] at h;cases h
   ·rw [decide_eq_false c2,Bool.not_false,cond_true] at h;cases h
theorem node_known {n:En} {k:ByteArray->Bool} {e:Ex} {tys:List Ty} (hs:gX e=true) (h:(ofN n k e tys).2=0):∀l,l∈dI e->∀m,m∈l.L->k m.Name=true:=by
 unfold gX at hs
 simp only [Bool.and_eq_true,Bool.not_eq_true',Bool.and_eq_false_iff,Bool.or_eq_false_iff,Bool.not_eq_false',decide_eq_true_eq,decide_eq_false_iff_not,List.all_eq_true] at hs
 obtain ⟨⟨⟨⟨⟨_,_⟩,_⟩,h4⟩,h5⟩,h6⟩:=hs
 intro l hl m hm
 unfold dI at hl
 rcases List.mem_cons.1 hl with rfl|hl
 ·by_cases c:e.Op=2
  ·unfold ofN at h
   rw [if_neg zC,if_pos c] at h
   exact knL_mem (formK_of h) m hm
  ·rcases h4 with h4|h4
   ·exact absurd h4 c
   ·rw [zeroL_L h4] at hm;cases hm
 ·obtain ⟨x,hx,hlx⟩:=List.mem_flatMap.1 hl
  have h3:e.Op=3:=by
   rcases h5 with h5|h5
   ·exact h5
   ·have:=List.length_pos_of_mem hx
    exact absurd (show (0:Int)<e.Idx.length by omega) (by simpa using h5.2)
  unfold ofN at h
  rw [if_neg zC,if_neg zC,if_pos h3] at h
  exact indexK_of (h6 x hx) (zTl _ (readK_of h).2.2 x hx) l hlx m hm
theorem nodeL_each {N:Ex->List Ty->Ty×Int}:∀l:List Ex,(bE N l).2=0->∀a,a∈l->(bL N a).2=0
 |[],_,a,ha=>by cases ha
 |x::r,h,a,ha=>by
  obtain ⟨h1,h2,_⟩:=nodeL_cons h
  rcases List.mem_cons.1 ha with rfl|ha
  ·exact h1
  ·exact nodeL_each r h2 a ha
theorem tree_known {n:En} {k:ByteArray->Bool} (e:Ex):(∀x,x∈bY e->bW x=0)->(bL (ofN n k) e).2=0->e.allF fun l=>∀m,m∈l.L->k m.Name=true:=by
 induction e using Ex.ind with
 |_ e ih=>
  intro hn h
  obtain ⟨h1,h2⟩:=nodeT_args h
  rw [h2] at h
  exact nodes_allF (node_known (zKd (hn e (by rw [wZ];exact List.mem_cons_self))).1 h) fun a ha=>
   ih a ha (fun x hx=>hn x (by rw [wZ];exact List.mem_cons_of_mem _ (zSu ha hx))) (nodeL_each _ h1 a ha)
theorem typed_known {n:En} {vars:List ByteArray} {e:Ex} (h:(gK n vars e).2=0):e.allF fun l=>∀m,m∈l.L->knB n.sz vars m.Name=true:=by
 obtain ⟨h1,_,h3⟩:=zLu h
 exact tree_known e (zNb (zCs h1)) h3
theorem valid_axes {p:Pg} (h:(bK p).2=0):∀d,d∈p.Defs->(bH d).Nodup/\∀s,s∈bH d->s ∉ p.Sizes:=by
 rw [zGy] at h
 obtain ⟨a',h5,_⟩:=zDo p p rfl p.Params _ _ (zFc h).2.2.2
 intro d hd
 obtain ⟨i,hi⟩:=List.getElem?_of_mem hd
 have h1:=defR_axes (zHu p p.Defs _ _ _ h5 i d hi)
 obtain ⟨h2,h3⟩:=axesR_of _ _ h1
 have e:bH d=(d.Dims++d.Red).map Ax.Name:=by unfold bH;rw [List.map_append]
 rw [e]
 refine ⟨h2,fun s hs=>?_⟩
 obtain ⟨a,ha,rfl⟩:=List.mem_map.1 hs
 exact h3 a ha
end Go.Br
end
section
namespace Go.Br
open Go Go.Eng Go.L41
abbrev SmM:Type:=List (ByteArray×ByteArray)
theorem mgetS_put (m:SmM) (k s a:ByteArray):fD (dY m k a) s=if k=s then some a else fD m s:=by
 induction m with
 |nil=>rfl
 |cons q r ih=>
  obtain ⟨k',b⟩:=q
  rw [dY]
  split
  ·next h=>subst h;simp only [fD];split<;>rfl
  ·next h=>
   simp only [fD]
   rw [ih]
   split
   ·next h2=>subst h2;rw [if_neg (fun e=>h e.symm)]
   ·rfl
def xG (A B:List ByteArray) (k:Nat):SmM:=((B.zip A).take k).foldl (fun m q=>dY m q.1 q.2) []
theorem foldS_get (s:ByteArray):∀(l:SmM) (m:SmM),(l.map Prod.fst).Nodup->fD (l.foldl (fun m q=>dY m q.1 q.2) m) s=(match l.find? fun q=>decide (q.1=s) with|some q=>some q.2|none=>fD m s)
 |[],m,_=>rfl
 |q::r,m,h=>by
  rw [List.foldl_cons,foldS_get s r _ (by rw [List.map_cons,List.nodup_cons] at h;exact h.2),List.find?_cons]
  rw [List.map_cons,List.nodup_cons] at h
  by_cases c:q.1=s
  ·have hn:r.find? (fun q=>decide (q.1=s))=none:=by
    rw [List.find?_eq_none]
    intro x hx hh
    exact h.1 (by rw [c,←of_decide_eq_true hh];exact List.mem_map_of_mem hx)
   rw [hn,decide_eq_true c,mgetS_put,if_pos c]
  ·rw [decide_eq_false c,mgetS_put,if_neg c]
theorem mapAB_end {A B:List ByteArray} (hB:B.Nodup) (hl:A.length=B.length) {k:Nat} (hk:¬k<B.length) (s:ByteArray):(fD (xG A B k) s).getD s=lW A B s:=by
 unfold xG
 rw [yD (by rw [List.length_zip];omega),foldS_get s _ _ (by rw [List.map_fst_zip zC];exact hB)]
 by_cases c:s∈B
 ·obtain ⟨i,hi⟩:=List.getElem?_of_mem c
  have hiB:=get_len hi
  have hA:A[i]? =some (A[i]'zC):=List.getElem?_eq_getElem zC
  rw [renB_at hB hi hA]
  cases hf:(B.zip A).find? (fun q=>decide (q.1=s)) with
  |none=>
   rw [List.find?_eq_none] at hf
   exact absurd (by simp:decide (s=s)=true) (hf (s,A[i]'zC) (by rw [List.mem_iff_getElem?];exact ⟨i,by rw [List.getElem?_zip_eq_some];exact ⟨hi,hA⟩⟩))
  |some q=>
   have h1:=List.find?_some hf
   have h2:=List.mem_of_find?_eq_some hf
   obtain ⟨j,hj⟩:=List.getElem?_of_mem h2
   rw [List.getElem?_zip_eq_some] at hj
   have e1:q.1=s:=of_decide_eq_true h1
   have hjB:=get_len hj.1
   have e2:j=i:=by
    have e3:=ixB_at hB hi
    have e4:=ixB_at (s:=s) hB (e1 ▸ hj.1)
    omega
   subst e2
   rw [hA] at hj
   exact (Option.some.inj hj.2).symm
 ·rw [renB_no c]
  cases hf:(B.zip A).find? (fun q=>decide (q.1=s)) with
  |none=>rfl
  |some q=>
   have h1:=List.find?_some hf
   have h2:=List.mem_of_find?_eq_some hf
   exact absurd (by rw [←of_decide_eq_true h1];exact (List.of_mem_zip h2).1) c
theorem ren_nodup {A B:List ByteArray} {l:Lf} (hA:A.Nodup) (hB:B.Nodup) (hl:A.length=B.length) (h:pV A B l):((l.L.map fun x=>(⟨lW A B x.Name,x.By⟩:Mono)).map Mono.Name).Nodup:=by
 have h1:=monos_asc (p:=none) (l:=l.L) (by have:=h.1;unfold bP at this;exact this)
 unfold List.Nodup
 rw [List.map_map,List.pairwise_map]
 refine (List.Pairwise.and_mem.1 h1).imp fun {a b} hh e=>?_
 obtain ⟨ha,hb,hlt⟩:=hh
 have e:lW A B a.Name=lW A B b.Name:=e
 have e1:=ren_back hA hB hl (h.2 a ha)
 have e2:=ren_back hA hB hl (h.2 b hb)
 rw [e,e2] at e1
 exact asc_ne hlt e1.symm
theorem idx_le {α:Type} {p:α->Bool} {l:List α} (h:0<=dJ p l):∃i x,dJ p l=(i:Nat)/\l[i]? =some x/\p x=true/\(l.take i).any p=false:=by
 obtain ⟨i,hi⟩:∃i:Nat,dJ p l=i:=⟨(dJ p l).toNat,zC⟩
 rcases Bool.eq_false_or_eq_true (l.any p) with ha|ha
 ·obtain ⟨x,hx,hp⟩:=List.any_eq_true.1 ha
  have:∀l:List α,l.any p=true->∃i x,l[i]? =some x/\p x=true/\(l.take i).any p=false:=by
   intro l
   induction l with
   |nil=>intro h;cases h
   |cons y r ih=>
    exact v18
  obtain ⟨j,z,h1,h2,h3⟩:=this l ha
  exact ⟨j,z,zDt h1 h2 h3,h1,h2,h3⟩
 ·rw [zCa ha] at h;exact absurd h uA
theorem idx_lt {α:Type} {p:α->Bool} {l:List α} (h:dJ p l<0):l.any p=false:=by
 refine Bool.eq_false_iff.2 fun ha=>?_
 obtain ⟨x,hx,hp⟩:=List.any_eq_true.1 ha
 have:∀l:List α,l.any p=true->∃i x,l[i]? =some x/\p x=true/\(l.take i).any p=false:=by
  intro l
  induction l with
  |nil=>intro h;cases h
  |cons y r ih=>
   exact v18
 obtain ⟨j,z,h1,h2,h3⟩:=this l ha
 rw [zDt h1 h2 h3] at h;omega
end Go.Br
end
