/-
  Names and keywords as plain data.
  Conditions: none.
-/
import Derived.Test.YtgfomfnjionbeaaGreatDoorEngX
set_option linter.unusedSimpArgs false
set_option linter.unusedVariables false
set_option linter.defProp false
namespace Go.L41
open Go Go.Eng
abbrev bs (l:List UInt8):nn:=⟨l.toArray⟩
def fO:List nn:=[bs [115,105,122,101],bs [119,104,101,114,101],bs [105,110],bs [100,101,102],bs [111,117,116],bs [115,117,109],bs [112,114,111,100],bs [109,105,110],bs [109,97,120],bs [115,99,97,110],bs [111,118,101,114],bs [105,102],bs [99,97,115,116],bs [102,114,97,99],bs [105,110,116],bs [102,105,120],bs [99,101,105,108],bs [102,108,111,111,114],bs [122,101,114,111],bs [101,118,101,110],bs [115,97,116],bs [119,114,97,112]]
def kwBytes:List UInt8:=[115,105,122,101,32,119,104,101,114,101,32,105,110,32,100,101,102,32,111,117,116,32,115,117,109,32,112,114,111,100,32,109,105,110,32,109,97,120,32,115,99,97,110,32,111,118,101,114,32,105,102,32,99,97,115,116,32,102,114,97,99,32,105,110,116,32,102,105,120,32,99,101,105,108,32,102,108,111,111,114,32,122,101,114,111,32,101,118,101,110,32,115,97,116,32,119,114,97,112]
abbrev vSs (l:List nn):V:=.c (.sl 1 (l.map fun s=>[cS s]))
def nP (n:Int):Bool:=decide (97<=n)&&decide (n<=122)
def xG (n:Int):Bool:=decide (48<=n)&&decide (n<=57)
def sG (n:Int):Bool:=nP n||xG n||decide (n=95)
def pK (c:UInt8):Bool:=nP c.toNat
def gV (c:UInt8):Bool:=sG c.toNat
abbrev vR (n:Int):V:=.c (.lit (.int .i32 n))
def bQ (l:List nn) (s:nn):Bool:=l.any fun t=>decide (t=s)
def bB (s:nn):Bool:=
 decide (1<=s.size)&&decide (s.size<=16)&&(s.data.toList.head?.all pK)&&s.data.toList.all gV&& !bQ fO s
def tF (p:UInt8->Bool) (l:List UInt8):Nat:=(l.takeWhile p).length
def spanB_eq (p:UInt8->Bool) (l:List UInt8):decide ((tF p l:Int)=(l.length:Int))=l.all p:=by
 unfold tF
 rw [cw]
 simp only [aj,lAe]
 constructor
 ·intro h
  have h':(l.takeWhile p).length=l.length:=by omega
  have e:l.takeWhile p=l:=(List.takeWhile_sublist p).eq_of_length h'
  intro x hx
  rw [←e] at hx
  exact aT.1 List.all_takeWhile x hx
 ·intro h
  have:l.takeWhile p=l:=by
   induction l with
   |nil=>rfl
   |cons x l ih=>simp [h x uF,ih fun y hy=>h y (by simp [hy])]
  rw [this]
def zSu {l:List nn} {s t:nn} {k:Nat} (h:l[k]? =some t) (hp:bQ (l.take k) s=false) (hn:¬t=s):bQ (l.take (k+1)) s=false:=by
 unfold bQ at *
 rw [yA h,gb,hp]
 simp [hn]
def kO {l:List nn} {s t:nn} {k:Nat} (h:l[k]? =some t) (e:t=s):bQ l s=true:=by
 unfold bQ
 rw [dm]
 exact ⟨t,bv h,by simp [e]⟩
def zQo {l:List UInt8} {p:UInt8->Bool} {c:UInt8} {k:Nat} (h:l[k]? =some c):(l.take (k+1)).all p=((l.take k).all p&&p c):=by
 rw [yA h,ce];simp
def span_stop {l:List UInt8} {p:UInt8->Bool} {k:Nat} (hp:(l.take k).all p=true) (hs:k=l.length∨∃c,l[k]? =some c/\p c=false):tF p l=k:=by
 unfold tF
 induction l generalizing k with
 |nil=>rcases hs with h|⟨c,h,_⟩<;>simp at h⊢;omega
 |cons x l ih=>
  cases k with
  |zero=>
   rcases hs with h|⟨c,h,hc⟩
   ·simp at h
   ·simp at h;subst h;simp [hc]
  |succ k=>
   simp only [au,bi,ae] at hp
   have:=ih (k:=k) hp.2 (by
    rcases hs with h|⟨c,h,hc⟩
    ·left;simpa using h
    ·right;exact ⟨c,by simpa using h,hc⟩)
   simp [hp.1,this]
def byte_lt (c:UInt8):0<=(c.toNat:Int)/\(c.toNat:Int)<=255:=by
 have:=c.toNat_lt
 omega
def zNv (c:UInt8):IntKind.i32.wrap (c.toNat:Int)=c.toNat:=by
 have:=byte_lt c
 exact IntWalk.i32_in _ zB
def size_pos {s:nn} (h:¬s=bs []):0<s.size:=by
 rcases jq s.size with h0|h0
 ·exfalso
  apply h
  apply iy
  have:s.data.size=0:=h0
  exact kf this
 ·exact h0
def zFr {s:nn} {k:Nat} (h:k<s.size):s.data.toList[k]? =some (s.data.toList.getD k 0):=by
 have:k<s.data.toList.length:=by simpa using h
 simp [List.getD,ak this]
def isName_eq (s:nn):
  ((((!decide (s=bs []))&&decide ((s.size:Int)<=16))&&nP (IntKind.i32.wrap ((s.data.toList.getD 0 0).toNat:Int))&&decide ((tF gV s.data.toList:Int)=(s.size:Int)))&& !bQ fO s)=bB s:=by
 have hs:s.data.toList.length=s.size:=by simp
 rw [show (s.size:Int)=(s.data.toList.length:Int) by rw [hs],spanB_eq,zNv]
 unfold bB
 rw [hs]
 by_cases he:s=bs []
 ·subst he
  rfl
 ·have h1:=size_pos he
  have h2:s.data.toList.head? =some (s.data.toList.getD 0 0):=by
   rw [gp]
   exact zFr h1
  rw [h2]
  have h3:decide (1<=s.size)=true:=by simp;omega
  have h4:decide ((s.size:Int)<=16)=decide (s.size<=16):=by
   rw [cw];simp only [aj];omega
  simp [he,h3,h4,pK]
def rQ (i:Nat) (c:UInt8):Bool:=nP c.toNat||(decide ((0:Int)<(i:Int))&&(xG c.toNat||decide ((c.toNat:Int)=95)))
def sT (s:nn) (k:Nat):Bool:=(List.range k).all fun i=>rQ i (s.data.toList.getD i 0)
def okTo_next (s:nn) (k:Nat):sT s (k+1)=(sT s k&&rQ k (s.data.toList.getD k 0)):=by
 unfold sT
 rw [g9,ce]
 simp
def okTo_le {s:nn}:∀{k m:Nat},k<=m->sT s m=true->sT s k=true:=by
 intro k m h h'
 unfold sT at *
 rw [lAe] at *
 intro i hi
 exact h' i (cr.2 (by have:=cr.1 hi;omega))
def name_short {s:nn} (h:((decide ((s.size:Int)<1)||decide ((16:Int)<(s.size:Int)))||bQ fO s)=true):bB s=false:=by
 unfold bB
 simp only [aE,aj] at h
 rcases h with (h|h)|h
 ·have:decide (1<=s.size)=false:=am zB
  simp [this]
 ·have:decide (s.size<=16)=false:=by simp;omega
  simp [this]
 ·simp [h]
def name_end {s:nn} (h1:1<=s.size) (h2:s.size<=16) (h3:bQ fO s=false):bB s=sT s s.size:=by
 unfold bB
 have d1:decide (1<=s.size)=true:=by simpa using h1
 have d2:decide (s.size<=16)=true:=by simpa using h2
 rw [d1,d2,h3]
 have h4:s.data.toList.head? =some (s.data.toList.getD 0 0):=by
  rw [gp]
  exact zFr h1
 rw [h4]
 simp only [aQ,kl,cf,ck]
 rw [cw]
 unfold sT
 simp only [ae,lAe]
 constructor
 ·rintro ⟨ha,hb⟩ i hi
  have hi':=cr.1 hi
  have hm:=bv (zFr hi')
  have:=hb _ hm
  unfold rQ
  cases i with
  |zero=>simp only [pK] at ha;rw [ha];rfl
  |succ i=>
   simp only [gV,sG,aE] at this
   have h0:(0:Int)<((i+1:Nat):Int):=by omega
   simp only [h0,jg,aQ,aE]
   rcases this with (h|h)|h
   ·exact .inl h
   ·exact .inr (.inl h)
   ·exact .inr (.inr h)
 ·intro h
  refine ⟨?_,fun c hc=>?_⟩
  ·have:=h 0 (cr.2 h1)
   unfold rQ at this
   simpa [pK] using this
  ·obtain ⟨i,hi⟩:=bn hc
   have hlt:i<s.size:=by have:=(af.1 hi).1;simpa using this
   have hg:=zFr hlt
   rw [hi] at hg
   have hc':=Option.some.inj hg
   have:=h i (cr.2 hlt)
   rw [←hc'] at this
   unfold rQ at this
   simp only [gV,sG]
   simp only [aE,ae] at this⊢
   rcases this with h|⟨_,h|h⟩
   ·exact .inl (.inl h)
   ·exact .inl (.inr h)
   ·exact .inr h
def cK (l:List nn) (s:nn):Int:=match l.findIdx? (fun t=>decide (s=t)) with|some i=>i|none=> -1
def idxB_some {l:List nn} {s t:nn} {k:Nat} (h:l[k]? =some t) (e:s=t) (hp:bQ (l.take k) s=false):cK l s=k:=by
 unfold cK
 have:l.findIdx? (fun t=>decide (s=t))=some k:=by
  rw [List.findIdx?_eq_some_iff_getElem]
  have hlt:=(af.1 h).1
  refine ⟨hlt,by rw [(af.1 h).2];simp [e],fun j hj=>?_⟩
  unfold bQ at hp
  rw [ei] at hp
  have:=hp l[j] (ku.2 ⟨j,zB,rfl⟩)
  simp only [aj] at this⊢
  exact fun e'=>this e'.symm
 rw [this]
def idxB_none {l:List nn} {s:nn} (hp:bQ l s=false):cK l s= -1:=by
 unfold cK
 have:l.findIdx? (fun t=>decide (s=t))=none:=by
  rw [kw]
  intro x hx
  unfold bQ at hp
  rw [ei] at hp
  have:=hp x hx
  simp only [aj,aw] at this⊢
  exact fun e'=>this e'.symm
 rw [this]
def idxB_has (l:List nn) (s:nn):decide (0<=cK l s)=bQ l s:=by
 cases h:bQ l s with
 |false=>rw [idxB_none h];rfl
 |true=>
  unfold bQ at h
  rw [dm] at h
  obtain ⟨x,hx,he⟩:=h
  unfold cK
  cases hf:l.findIdx? (fun t=>decide (s=t)) with
  |none=>
   rw [kw] at hf
   have:=hf x hx
   simp only [aj,aw] at he this
   exact absurd he.symm this
  |some i=>simp
end Go.L41
