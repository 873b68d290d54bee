/-
  The program's configuration: the table that strings.Fields reads holds what its initialiser lays.
  Conditions: none.
-/
import Derived.Test.YthgichbbgocmoaaGreatDoorNames
import Derived.Test.YthgichbbgocmoaaGreatDoorShelf
import Derived.KernelRfl
set_option linter.unusedSimpArgs false
set_option linter.unusedVariables false
set_option linter.defProp false
namespace Go.L41
open Go Go.Eng Go.RowKit Go.Proofs Tryz
def gTab: prog.globalNamed "strings.asciiSpace" = some 0 := by kernel_rfl
def tab_kept (w w' : World) (h : ∀ b, b < 0 + 1 → w'.heap[b]? = w.heap[b]?) (k : Lib.TabIs prog w "strings.asciiSpace" .u8 Lib.asciiSpaceTab) : Lib.TabIs prog w' "strings.asciiSpace" .u8 Lib.asciiSpaceTab := by
 unfold Lib.TabIs World.var? at *
 rw [gTab] at *
 simp only [ip] at *
 rw [h _ zA]
 exact k
noncomputable def cfg : Cfg := ⟨prog, 0 + 1, fun w => Lib.TabIs prog w "strings.asciiSpace" .u8 Lib.asciiSpaceTab, tab_kept⟩
def str_rows {w:World} {I:Nat->Prop} {l:List lr} {a:Addr} {cap:Nat} (hI:I a.block) (hcap:l.length<=cap) (hc:∀(j:Nat) s,l[j]? =some s->w.cell? (a.add j)=some (.string s)):CRep w I (.sl 1 (l.map fun s=>[cS s])) (.slice (some a) l.length cap):=by
 have:=CRep.sl (w:=w) (I:=I) 1 (l.map fun s=>[cS s]) a cap (fun i _=>.string (l.getD i ByteArray.empty)) hI (fun r hr=>by obtain ⟨s,_,rfl⟩:=bq.1 hr;rfl) (by simpa using hcap) (fun i j hi hj=>by
  have hj0:j=0:=by omega
  subst hj0
  have hi':i<l.length:=by simpa using hi
  have:=hc i l[i] (ak hi')
  rw [show i*1+0=i by omega,this]
  simp [List.getD,ak hi']) (fun i r hi j c hj=>by
  rw [bu] at hi
  obtain ⟨s,hs,rfl⟩:=jw.1 hi
  have hj0:j=0:=by have:=(ai.1 hj).1;simp at this;omega
  subst hj0
  simp only [ir,ap] at hj
  subst hj
  have:l.getD i ByteArray.empty=s:=by simp [List.getD,hs]
  rw [this]
  exact .lit _ rfl)
 simpa using this
def strings_Fields (s:lr) (hs:s.size<4294967281) (hascii:∀(j:Nat) b,s.data.toList[j]? =some b->b.toNat<128):Pur cfg 119 [vS s] (vSs ((Lib.fields s.data.toList).map bs)):=by
 intro w I vs hH ha
 match vs,ha with
 |[v],ha=>
  have hv:CRep w I (cS s) v:=ha.1
  cases hv
  refine (Tryz.strings_Fields s w hs hascii hH.glob).mono ?_
  rintro e w' ⟨rfl,rfl⟩
  let l:=(Lib.fields s.data.toList).map bs
  have hlen:(Lib.fields s.data.toList).length=l.length:=by simp [l]
  have hcells:((Lib.fields s.data.toList).map fun l=>Value.string ⟨l.toArray⟩)=l.map Value.string:=by simp [l]
  rw [hcells,hlen]
  have hold:∀b,b<w.heap.size->(w.alloc (.cells (l.map Value.string).toArray 9)).heap[b]? =w.heap[b]? :=fun b hb=>Below.heap_alloc w _ b hb
  have hsz:(w.alloc (.cells (l.map Value.string).toArray 9)).heap.size=w.heap.size+1:=by show (w.heap.push _).size=_;simp
  refine ⟨_,_,[],fun b=>I b∨b=w.heap.size,rfl,rfl,?_,?_,?_⟩
  ·show CRep _ _ (.sl 1 (l.map fun s=>[cS s])) _
   refine str_rows (.inr rfl) (aH _) fun j s' hj=>?_
   rw [zFb,bt,jg _ w.heap.size j _ 9 (0,0) (dh w _)]
   simp [hj]
  ·refine ⟨by have:=hH.lo;omega,cfg.hG _ _ (fun b hb=>hold b (by have:=hH.lo;omega)) hH.glob,by simp [bC],fun b hb=>by simp [bC] at hb,?_,fun en hen=>by simp at hen,fun en hen=>by simp at hen⟩
   rintro b (h|h)
   ·have:=hH.imm b h;omega
   ·omega
  ·exact ⟨rfl,rfl,rfl,zA,fun b hb _=>hold b hb,fun b hb=>.inl hb,fun b hb=>hb.imp id fun h=>.inr zA,fun b hb=>by simp [bC] at hb⟩
end Go.L41
