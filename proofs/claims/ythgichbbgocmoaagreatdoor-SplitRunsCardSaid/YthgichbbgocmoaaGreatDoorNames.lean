/-
  Names and keywords as plain data.
  Conditions: none.
-/
import Derived.Test.YthgichbbgocmoaaGreatDoorEngX
set_option linter.unusedSimpArgs false
set_option linter.unusedVariables false
set_option linter.defProp false
namespace Go.L41
open Go Go.Eng
abbrev bs (l:List UInt8):lr:=⟨l.toArray⟩
def fX:List lr:=[bs [115,105,122,101],bs [119,104,101,114,101],bs [105,110],bs [100,101,102],bs [111,117,116],bs [115,117,109],bs [112,114,111,100],bs [109,105,110],bs [109,97,120],bs [115,99,97,110],bs [111,118,101,114],bs [105,102],bs [99,97,115,116],bs [102,114,97,99],bs [105,110,116],bs [102,105,120],bs [99,101,105,108],bs [102,108,111,111,114],bs [122,101,114,111],bs [101,118,101,110],bs [115,97,116],bs [119,114,97,112]]
def kwBytes:List UInt8:=[115,105,122,101,32,119,104,101,114,101,32,105,110,32,100,101,102,32,111,117,116,32,115,117,109,32,112,114,111,100,32,109,105,110,32,109,97,120,32,115,99,97,110,32,111,118,101,114,32,105,102,32,99,97,115,116,32,102,114,97,99,32,105,110,116,32,102,105,120,32,99,101,105,108,32,102,108,111,111,114,32,122,101,114,111,32,101,118,101,110,32,115,97,116,32,119,114,97,112]
abbrev vSs (l:List lr):V:=.c (.sl 1 (l.map fun s=>[cS s]))
def nI (n:Int):Bool:=decide (97<=n)&&decide (n<=122)
def vU (n:Int):Bool:=decide (48<=n)&&decide (n<=57)
def rX (n:Int):Bool:=nI n||vU n||decide (n=95)
def pD (c:UInt8):Bool:=nI c.toNat
def jE (c:UInt8):Bool:=rX c.toNat
abbrev vR (n:Int):V:=.c (.lit (.int .i32 n))
def bP (l:List lr) (s:lr):Bool:=l.any fun t=>decide (t=s)
def bB (s:lr):Bool:=
 decide (1<=s.size)&&decide (s.size<=16)&&(s.data.toList.head?.all pD)&&s.data.toList.all jE&& !bP fX s
def tE (p:UInt8->Bool) (l:List UInt8):Nat:=(l.takeWhile p).length
def spanB_eq (p:UInt8->Bool) (l:List UInt8):decide ((tE p l:Int)=(l.length:Int))=l.all p:=by
 unfold tE
 rw [bz]
 simp only [ah,lAe]
 constructor
 ·intro h
  have h':(l.takeWhile p).length=l.length:=by omega
  have e:l.takeWhile p=l:=(List.takeWhile_sublist p).eq_of_length h'
  intro x hx
  rw [←e] at hx
  exact ax.1 List.all_takeWhile x hx
 ·intro h
  have:l.takeWhile p=l:=by
   induction l with
   |nil=>rfl
   |cons x l ih=>simp [h x uD,ih fun y hy=>h y (by simp [hy])]
  rw [this]
def zTq {l:List lr} {s t:lr} {k:Nat} (h:l[k]? =some t) (hp:bP (l.take k) s=false) (hn:¬t=s):bP (l.take (k+1)) s=false:=by
 unfold bP at *
 rw [yR h,fm,hp]
 simp [hn]
def kH {l:List lr} {s t:lr} {k:Nat} (h:l[k]? =some t) (e:t=s):bP l s=true:=by
 unfold bP
 rw [fe]
 exact ⟨t,bg h,by simp [e]⟩
def zRm {l:List UInt8} {p:UInt8->Bool} {c:UInt8} {k:Nat} (h:l[k]? =some c):(l.take (k+1)).all p=((l.take k).all p&&p c):=by
 rw [yR h,bx];simp
def span_stop {l:List UInt8} {p:UInt8->Bool} {k:Nat} (hp:(l.take k).all p=true) (hs:k=l.length∨∃c,l[k]? =some c/\p c=false):tE p l=k:=by
 unfold tE
 induction l generalizing k with
 |nil=>rcases hs with h|⟨c,h,_⟩<;>simp at h⊢;omega
 |cons x l ih=>
  cases k with
  |zero=>
   rcases hs with h|⟨c,h,hc⟩
   ·simp at h
   ·simp at h;subst h;simp [hc]
  |succ k=>
   simp only [aF,aW,ae] at hp
   have:=ih (k:=k) hp.2 (by
    rcases hs with h|⟨c,h,hc⟩
    ·left;simpa using h
    ·right;exact ⟨c,by simpa using h,hc⟩)
   simp [hp.1,this]
def byte_lt (c:UInt8):0<=(c.toNat:Int)/\(c.toNat:Int)<=255:=by
 have:=c.toNat_lt
 omega
def zOe (c:UInt8):IntKind.i32.wrap (c.toNat:Int)=c.toNat:=by
 have:=byte_lt c
 exact IntWalk.i32_in _ zA
def size_pos {s:lr} (h:¬s=bs []):0<s.size:=by
 rcases ku s.size with h0|h0
 ·exfalso
  apply h
  apply jt
  have:s.data.size=0:=h0
  exact Array.eq_empty_of_size_eq_zero this
 ·exact h0
def zEy {s:lr} {k:Nat} (h:k<s.size):s.data.toList[k]? =some (s.data.toList.getD k 0):=by
 have:k<s.data.toList.length:=by simpa using h
 simp [List.getD,ak this]
def isName_eq (s:lr):
  ((((!decide (s=bs []))&&decide ((s.size:Int)<=16))&&nI (IntKind.i32.wrap ((s.data.toList.getD 0 0).toNat:Int))&&decide ((tE jE s.data.toList:Int)=(s.size:Int)))&& !bP fX s)=bB s:=by
 have hs:s.data.toList.length=s.size:=by simp
 rw [show (s.size:Int)=(s.data.toList.length:Int) by rw [hs],spanB_eq,zOe]
 unfold bB
 rw [hs]
 by_cases he:s=bs []
 ·subst he
  rfl
 ·have h1:=size_pos he
  have h2:s.data.toList.head? =some (s.data.toList.getD 0 0):=by
   rw [gm]
   exact zEy h1
  rw [h2]
  have h3:decide (1<=s.size)=true:=by simp;omega
  have h4:decide ((s.size:Int)<=16)=decide (s.size<=16):=by
   rw [bz];simp only [ah];omega
  simp [he,h3,h4,pD]
def rH (i:Nat) (c:UInt8):Bool:=nI c.toNat||(decide ((0:Int)<(i:Int))&&(vU c.toNat||decide ((c.toNat:Int)=95)))
def sR (s:lr) (k:Nat):Bool:=(List.range k).all fun i=>rH i (s.data.toList.getD i 0)
def okTo_next (s:lr) (k:Nat):sR s (k+1)=(sR s k&&rH k (s.data.toList.getD k 0)):=by
 unfold sR
 rw [ey,bx]
 simp
def okTo_le {s:lr}:∀{k m:Nat},k<=m->sR s m=true->sR s k=true:=by
 intro k m h h'
 unfold sR at *
 rw [lAe] at *
 intro i hi
 exact h' i (cn.2 (by have:=cn.1 hi;omega))
def name_short {s:lr} (h:((decide ((s.size:Int)<1)||decide ((16:Int)<(s.size:Int)))||bP fX s)=true):bB s=false:=by
 unfold bB
 simp only [aI,ah] at h
 rcases h with (h|h)|h
 ·have:decide (1<=s.size)=false:=aB zA
  simp [this]
 ·have:decide (s.size<=16)=false:=by simp;omega
  simp [this]
 ·simp [h]
def name_end {s:lr} (h1:1<=s.size) (h2:s.size<=16) (h3:bP fX s=false):bB s=sR s s.size:=by
 unfold bB
 have d1:decide (1<=s.size)=true:=by simpa using h1
 have d2:decide (s.size<=16)=true:=by simpa using h2
 rw [d1,d2,h3]
 have h4:s.data.toList.head? =some (s.data.toList.getD 0 0):=by
  rw [gm]
  exact zEy h1
 rw [h4]
 simp only [aL,jk,ca,bv]
 rw [bz]
 unfold sR
 simp only [ae,lAe]
 constructor
 ·rintro ⟨ha,hb⟩ i hi
  have hi':=cn.1 hi
  have hm:=bg (zEy hi')
  have:=hb _ hm
  unfold rH
  cases i with
  |zero=>simp only [pD] at ha;rw [ha];rfl
  |succ i=>
   simp only [jE,rX,aI] at this
   have h0:(0:Int)<((i+1:Nat):Int):=by omega
   simp only [h0,jf,aL,aI]
   rcases this with (h|h)|h
   ·exact .inl h
   ·exact .inr (.inl h)
   ·exact .inr (.inr h)
 ·intro h
  refine ⟨?_,fun c hc=>?_⟩
  ·have:=h 0 (cn.2 h1)
   unfold rH at this
   simpa [pD] using this
  ·obtain ⟨i,hi⟩:=kj hc
   have hlt:i<s.size:=by have:=(ai.1 hi).1;simpa using this
   have hg:=zEy hlt
   rw [hi] at hg
   have hc':=Option.some.inj hg
   have:=h i (cn.2 hlt)
   rw [←hc'] at this
   unfold rH at this
   simp only [jE,rX]
   simp only [aI,ae] at this⊢
   rcases this with h|⟨_,h|h⟩
   ·exact .inl (.inl h)
   ·exact .inl (.inr h)
   ·exact .inr h
def xU (l:List lr) (s:lr):Int:=match l.findIdx? (fun t=>decide (s=t)) with|some i=>i|none=> -1
def idxB_some {l:List lr} {s t:lr} {k:Nat} (h:l[k]? =some t) (e:s=t) (hp:bP (l.take k) s=false):xU l s=k:=by
 unfold xU
 have:l.findIdx? (fun t=>decide (s=t))=some k:=by
  rw [List.findIdx?_eq_some_iff_getElem]
  have hlt:=(ai.1 h).1
  refine ⟨hlt,by rw [(ai.1 h).2];simp [e],fun j hj=>?_⟩
  unfold bP at hp
  rw [io] at hp
  have:=hp l[j] (List.mem_take_iff_getElem.2 ⟨j,zA,rfl⟩)
  simp only [ah] at this⊢
  exact fun e'=>this e'.symm
 rw [this]
def idxB_none {l:List lr} {s:lr} (hp:bP l s=false):xU l s= -1:=by
 unfold xU
 have:l.findIdx? (fun t=>decide (s=t))=none:=by
  rw [js]
  intro x hx
  unfold bP at hp
  rw [io] at hp
  have:=hp x hx
  simp only [ah,aj] at this⊢
  exact fun e'=>this e'.symm
 rw [this]
def idxB_has (l:List lr) (s:lr):decide (0<=xU l s)=bP l s:=by
 cases h:bP l s with
 |false=>rw [idxB_none h];rfl
 |true=>
  unfold bP at h
  rw [fe] at h
  obtain ⟨x,hx,he⟩:=h
  unfold xU
  cases hf:l.findIdx? (fun t=>decide (s=t)) with
  |none=>
   rw [js] at hf
   have:=hf x hx
   simp only [ah,aj] at he this
   exact absurd he.symm this
  |some i=>simp
end Go.L41
