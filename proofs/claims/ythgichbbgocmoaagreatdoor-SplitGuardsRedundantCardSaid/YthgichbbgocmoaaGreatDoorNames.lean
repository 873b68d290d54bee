/-
  Names and keywords as plain data.
  Conditions: none.
-/
import Derived.Test.YthgichbbgocmoaaGreatDoorEngX
set_option linter.unusedSimpArgs false
set_option linter.unusedVariables false
namespace Go.L41
open Go Go.Eng
abbrev bs (l:List UInt8):ByteArray:=⟨l.toArray⟩
def fQ:List ByteArray:=[bs [115,105,122,101],bs [119,104,101,114,101],bs [105,110],bs [100,101,102],bs [111,117,116],bs [115,117,109],bs [112,114,111,100],bs [109,105,110],bs [109,97,120],bs [115,99,97,110],bs [111,118,101,114],bs [105,102],bs [99,97,115,116],bs [102,114,97,99],bs [105,110,116],bs [102,105,120],bs [99,101,105,108],bs [102,108,111,111,114],bs [122,101,114,111],bs [101,118,101,110],bs [115,97,116],bs [119,114,97,112]]
def kwBytes:List UInt8:=[115,105,122,101,32,119,104,101,114,101,32,105,110,32,100,101,102,32,111,117,116,32,115,117,109,32,112,114,111,100,32,109,105,110,32,109,97,120,32,115,99,97,110,32,111,118,101,114,32,105,102,32,99,97,115,116,32,102,114,97,99,32,105,110,116,32,102,105,120,32,99,101,105,108,32,102,108,111,111,114,32,122,101,114,111,32,101,118,101,110,32,115,97,116,32,119,114,97,112]
abbrev vSs (l:List ByteArray):V:=.c (.sl 1 (l.map fun s=>[cS s]))
def mU (n:Int):Bool:=decide (97<=n)&&decide (n<=122)
def vD (n:Int):Bool:=decide (48<=n)&&decide (n<=57)
def rJ (n:Int):Bool:=mU n||vD n||decide (n=95)
def nP (c:UInt8):Bool:=mU c.toNat
def gQ (c:UInt8):Bool:=rJ c.toNat
abbrev vR (n:Int):V:=.c (.lit (.int .i32 n))
def dD (l:List ByteArray) (s:ByteArray):Bool:=l.any fun t=>decide (t=s)
def bD (s:ByteArray):Bool:=
 decide (1<=s.size)&&decide (s.size<=16)&&(s.data.toList.head?.all nP)&&s.data.toList.all gQ&& !dD fQ s
def sT (p:UInt8->Bool) (l:List UInt8):Nat:=(l.takeWhile p).length
theorem spanB_eq (p:UInt8->Bool) (l:List UInt8):decide ((sT p l:Int)=(l.length:Int))=l.all p:=by
 unfold sT
 rw [Bool.eq_iff_iff]
 simp only [decide_eq_true_eq,List.all_eq_true]
 constructor
 ·intro h
  have h':(l.takeWhile p).length=l.length:=by omega
  have e:l.takeWhile p=l:=(List.takeWhile_sublist p).eq_of_length h'
  intro x hx
  rw [←e] at hx
  exact List.all_eq_true.1 List.all_takeWhile x hx
 ·intro h
  have:l.takeWhile p=l:=by
   induction l with
   |nil=>rfl
   |cons x l ih=>simp [h x uD,ih fun y hy=>h y (by simp [hy])]
  rw [this]
theorem zRk {l:List ByteArray} {s t:ByteArray} {k:Nat} (h:l[k]? =some t) (hp:dD (l.take k) s=false) (hn:¬t=s):dD (l.take (k+1)) s=false:=by
 unfold dD at *
 rw [yQ h,List.any_append,hp]
 simp [hn]
theorem kF {l:List ByteArray} {s t:ByteArray} {k:Nat} (h:l[k]? =some t) (e:t=s):dD l s=true:=by
 unfold dD
 rw [List.any_eq_true]
 exact ⟨t,List.mem_of_getElem? h,by simp [e]⟩
theorem zPl {l:List UInt8} {p:UInt8->Bool} {c:UInt8} {k:Nat} (h:l[k]? =some c):(l.take (k+1)).all p=((l.take k).all p&&p c):=by
 rw [yQ h,List.all_append];simp
theorem span_stop {l:List UInt8} {p:UInt8->Bool} {k:Nat} (hp:(l.take k).all p=true) (hs:k=l.length∨∃c,l[k]? =some c/\p c=false):sT p l=k:=by
 unfold sT
 induction l generalizing k with
 |nil=>rcases hs with h|⟨c,h,_⟩<;>simp at h⊢;omega
 |cons x l ih=>
  cases k with
  |zero=>
   rcases hs with h|⟨c,h,hc⟩
   ·simp at h
   ·simp at h;subst h;simp [hc]
  |succ k=>
   simp only [List.take_succ_cons,List.all_cons,Bool.and_eq_true] at hp
   have:=ih (k:=k) hp.2 (by
    rcases hs with h|⟨c,h,hc⟩
    ·left;simpa using h
    ·right;exact ⟨c,by simpa using h,hc⟩)
   simp [hp.1,this]
theorem byte_lt (c:UInt8):0<=(c.toNat:Int)/\(c.toNat:Int)<=255:=by
 have:=c.toNat_lt
 omega
theorem zMj (c:UInt8):IntKind.i32.wrap (c.toNat:Int)=c.toNat:=by
 have:=byte_lt c
 exact IntWalk.i32_in _ zA
theorem size_pos {s:ByteArray} (h:¬s=bs []):0<s.size:=by
 rcases Nat.eq_zero_or_pos s.size with h0|h0
 ·exfalso
  apply h
  apply ByteArray.ext
  have:s.data.size=0:=h0
  exact Array.eq_empty_of_size_eq_zero this
 ·exact h0
theorem zEi {s:ByteArray} {k:Nat} (h:k<s.size):s.data.toList[k]? =some (s.data.toList.getD k 0):=by
 have:k<s.data.toList.length:=by simpa using h
 simp [List.getD,List.getElem?_eq_getElem this]
theorem isName_eq (s:ByteArray):
  ((((!decide (s=bs []))&&decide ((s.size:Int)<=16))&&mU (IntKind.i32.wrap ((s.data.toList.getD 0 0).toNat:Int))&&decide ((sT gQ s.data.toList:Int)=(s.size:Int)))&& !dD fQ s)=bD s:=by
 have hs:s.data.toList.length=s.size:=by simp
 rw [show (s.size:Int)=(s.data.toList.length:Int) by rw [hs],spanB_eq,zMj]
 unfold bD
 rw [hs]
 by_cases he:s=bs []
 ·subst he
  rfl
 ·have h1:=size_pos he
  have h2:s.data.toList.head? =some (s.data.toList.getD 0 0):=by
   rw [List.head?_eq_getElem?]
   exact zEi h1
  rw [h2]
  have h3:decide (1<=s.size)=true:=by simp;omega
  have h4:decide ((s.size:Int)<=16)=decide (s.size<=16):=by
   rw [Bool.eq_iff_iff];simp only [decide_eq_true_eq];omega
  simp [he,h3,h4,nP]
def pW (i:Nat) (c:UInt8):Bool:=mU c.toNat||(decide ((0:Int)<(i:Int))&&(vD c.toNat||decide ((c.toNat:Int)=95)))
def sD (s:ByteArray) (k:Nat):Bool:=(List.range k).all fun i=>pW i (s.data.toList.getD i 0)
theorem okTo_next (s:ByteArray) (k:Nat):sD s (k+1)=(sD s k&&pW k (s.data.toList.getD k 0)):=by
 unfold sD
 rw [List.range_succ,List.all_append]
 simp
theorem okTo_le {s:ByteArray}:∀{k m:Nat},k<=m->sD s m=true->sD s k=true:=by
 intro k m h h'
 unfold sD at *
 rw [List.all_eq_true] at *
 intro i hi
 exact h' i (List.mem_range.2 (by have:=List.mem_range.1 hi;omega))
theorem name_short {s:ByteArray} (h:((decide ((s.size:Int)<1)||decide ((16:Int)<(s.size:Int)))||dD fQ s)=true):bD s=false:=by
 unfold bD
 simp only [Bool.or_eq_true,decide_eq_true_eq] at h
 rcases h with (h|h)|h
 ·have:decide (1<=s.size)=false:=decide_eq_false zA
  simp [this]
 ·have:decide (s.size<=16)=false:=by simp;omega
  simp [this]
 ·simp [h]
theorem name_end {s:ByteArray} (h1:1<=s.size) (h2:s.size<=16) (h3:dD fQ s=false):bD s=sD s s.size:=by
 unfold bD
 have d1:decide (1<=s.size)=true:=by simpa using h1
 have d2:decide (s.size<=16)=true:=by simpa using h2
 rw [d1,d2,h3]
 have h4:s.data.toList.head? =some (s.data.toList.getD 0 0):=by
  rw [List.head?_eq_getElem?]
  exact zEi h1
 rw [h4]
 simp only [Bool.true_and,Option.all_some,Bool.not_false,Bool.and_true]
 rw [Bool.eq_iff_iff]
 unfold sD
 simp only [Bool.and_eq_true,List.all_eq_true]
 constructor
 ·rintro ⟨ha,hb⟩ i hi
  have hi':=List.mem_range.1 hi
  have hm:=List.mem_of_getElem? (zEi hi')
  have:=hb _ hm
  unfold pW
  cases i with
  |zero=>simp only [nP] at ha;rw [ha];rfl
  |succ i=>
   simp only [gQ,rJ,Bool.or_eq_true] at this
   have h0:(0:Int)<((i+1:Nat):Int):=by omega
   simp only [h0,decide_true,Bool.true_and,Bool.or_eq_true]
   rcases this with (h|h)|h
   ·exact .inl h
   ·exact .inr (.inl h)
   ·exact .inr (.inr h)
 ·intro h
  refine ⟨?_,fun c hc=>?_⟩
  ·have:=h 0 (List.mem_range.2 h1)
   unfold pW at this
   simpa [nP] using this
  ·obtain ⟨i,hi⟩:=List.getElem?_of_mem hc
   have hlt:i<s.size:=by have:=(List.getElem?_eq_some_iff.1 hi).1;simpa using this
   have hg:=zEi hlt
   rw [hi] at hg
   have hc':=Option.some.inj hg
   have:=h i (List.mem_range.2 hlt)
   rw [←hc'] at this
   unfold pW at this
   simp only [gQ,rJ]
   simp only [Bool.or_eq_true,Bool.and_eq_true] at this⊢
   rcases this with h|⟨_,h|h⟩
   ·exact .inl (.inl h)
   ·exact .inl (.inr h)
   ·exact .inr h
def xO (l:List ByteArray) (s:ByteArray):Int:=match l.findIdx? (fun t=>decide (s=t)) with|some i=>i|none=> -1
theorem idxB_some {l:List ByteArray} {s t:ByteArray} {k:Nat} (h:l[k]? =some t) (e:s=t) (hp:dD (l.take k) s=false):xO l s=k:=by
 unfold xO
 have:l.findIdx? (fun t=>decide (s=t))=some k:=by
  rw [List.findIdx?_eq_some_iff_getElem]
  have hlt:=(List.getElem?_eq_some_iff.1 h).1
  refine ⟨hlt,by rw [(List.getElem?_eq_some_iff.1 h).2];simp [e],fun j hj=>?_⟩
  unfold dD at hp
  rw [List.any_eq_false] at hp
  have:=hp l[j] (List.mem_take_iff_getElem.2 ⟨j,zA,rfl⟩)
  simp only [decide_eq_true_eq] at this⊢
  exact fun e'=>this e'.symm
 rw [this]
theorem idxB_none {l:List ByteArray} {s:ByteArray} (hp:dD l s=false):xO l s= -1:=by
 unfold xO
 have:l.findIdx? (fun t=>decide (s=t))=none:=by
  rw [List.findIdx?_eq_none_iff]
  intro x hx
  unfold dD at hp
  rw [List.any_eq_false] at hp
  have:=hp x hx
  simp only [decide_eq_true_eq,decide_eq_false_iff_not] at this⊢
  exact fun e'=>this e'.symm
 rw [this]
theorem idxB_has (l:List ByteArray) (s:ByteArray):decide (0<=xO l s)=dD l s:=by
 cases h:dD l s with
 |false=>rw [idxB_none h];rfl
 |true=>
  unfold dD at h
  rw [List.any_eq_true] at h
  obtain ⟨x,hx,he⟩:=h
  unfold xO
  cases hf:l.findIdx? (fun t=>decide (s=t)) with
  |none=>
   rw [List.findIdx?_eq_none_iff] at hf
   have:=hf x hx
   simp only [decide_eq_true_eq,decide_eq_false_iff_not] at he this
   exact absurd he.symm this
  |some i=>simp
end Go.L41
