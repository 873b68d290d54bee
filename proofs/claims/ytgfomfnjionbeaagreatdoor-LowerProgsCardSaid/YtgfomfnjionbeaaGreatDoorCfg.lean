/-
  The program's configuration: the table that strings.Fields FZ holds what its initialiser lays.
  Conditions: none.
-/
import Derived.Test.YtgfomfnjionbeaaGreatDoorNames
import Derived.Test.YtgfomfnjionbeaaGreatDoorShelfX
import Derived.KernelRfl
set_option linter.unusedSimpArgs false
set_option linter.unusedVariables false
set_option linter.defProp false
namespace Go.L41
open Go Go.Eng Go.RowKit Go.Proofs Tryz
def Yi: prog.globalNamed "strings.asciiSpace" = some 0 := by kernel_rfl
def RQ (w w' : World) (h : ∀ b, b < 0 + 1 → w'.heap[b]? = w.heap[b]?) (k : Lib.TabIs prog w "strings.asciiSpace" .u8 Lib.asciiSpaceTab) : Lib.TabIs prog w' "strings.asciiSpace" .u8 Lib.asciiSpaceTab := by
 unfold Lib.TabIs World.var? at *
 rw [Yi] at *
 simp only [i6] at *
 rw [h _ zB]
 exact k
noncomputable def cfg : Cfg := ⟨prog, 0 + 1, fun w => Lib.TabIs prog w "strings.asciiSpace" .u8 Lib.asciiSpaceTab, RQ⟩
def RH {w:World} {I:Nat->Prop} {l:List nq} {a:Addr} {cap:Nat} (hI:I a.block) (hcap:l.length<=cap) (hc:∀(j:Nat) s,l[j]? =some s->w.cell? (a.add j)=some (.string s)):CRep w I (.sl 1 (l.map λs=>[cS s])) (.slice (some a) l.length cap):=by
 have:=CRep.sl (w:=w) (I:=I) 1 (l.map λs=>[cS s]) a cap (λi _=>.string (l.getD i ByteArray.empty)) hI (λr hr=>by obtain ⟨s,_,rfl⟩:=aY.1 hr;rfl) (by simpa using hcap) (λi j hi hj=>by
  have hj0:j=0:=by omega
  subst hj0
  have hi':i<l.length:=by simpa using hi
  have:=hc i l[i] (ak hi')
  rw [show i*1+0=i by omega,this]
  simp [List.getD,ak hi']) (λi r hi j c hj=>by
  rw [cg] at hi
  obtain ⟨s,hs,rfl⟩:=lj.1 hi
  have hj0:j=0:=by have:=(af.1 hj).1;simp at this;omega
  subst hj0
  simp only [gm,ay] at hj
  subst hj
  have:l.getD i ByteArray.empty=s:=by simp [List.getD,hs]
  rw [this]
  exact .lit _ rfl)
 simpa using this
def strings_Fields (s:nq) (hs:s.size<4294967281) (hascii:∀(j:Nat) b,s.data.toList[j]? =some b->b.toNat<128):oK cfg 175 [vS s] (sy ((Lib.fields s.data.toList).map bs)):=by
 intro w I vs hH ha
 match vs,ha with
 |[v],ha=>
  have hv:CRep w I (cS s) v:=ha.1
  cases hv
  refine (Tryz.strings_Fields s w hs hascii hH.glob).mono ?_
  rintro e w' ⟨rfl,rfl⟩
  let l:=(Lib.fields s.data.toList).map bs
  have hlen:(Lib.fields s.data.toList).length=l.length:=by simp [l]
  have hcells:((Lib.fields s.data.toList).map λl=>Value.string ⟨l.toArray⟩)=l.map Value.string:=by simp [l]
  rw [hcells,hlen]
  have hold:∀b,b<w.heap.size->(w.alloc (.cells (l.map Value.string).toArray 9)).heap[b]? =w.heap[b]? :=λb hb=>Below.heap_alloc w _ b hb
  have hsz:(w.alloc (.cells (l.map Value.string).toArray 9)).heap.size=w.heap.size+1:=by show (w.heap.push _).size=_;simp
  refine ⟨_,_,[],λb=>I b∨b=w.heap.size,rfl,rfl,?_,?_,?_⟩
  ·show CRep _ _ (.sl 1 (l.map λs=>[cS s])) _
   refine RH (.inr rfl) (aC _) λj s' hj=>?_
   rw [S5,cd,kj _ w.heap.size j _ 9 (0,0) (d8 w _)]
   simp [hj]
  ·refine ⟨by have:=hH.lo;omega,cfg.hG _ _ (λb hb=>hold b xJ5) hH.glob,by simp [bC],λb hb=>by simp [bC] at hb,?_,λen hen=>by simp at hen,λen hen=>by simp at hen⟩
   rintro b (h|h)
   ·have:=hH.imm b h;omega
   ·omega
  ·exact ⟨rfl,rfl,rfl,zB,λb hb _=>hold b hb,λb hb=>.inl hb,λb hb=>hb.imp id λh=>.inr zB,λb hb=>by simp [bC] at hb⟩
end Go.L41
