/-
  Names and keywords as plain data.
  Conditions: none.
-/
import Derived.Test.YtgfomfnjionbeaaGreatDoorEngX
set_option linter.unusedSimpArgs false
set_option linter.unusedVariables false
set_option linter.defProp false
namespace Go.L41
open Go Go.Eng
abbrev bs (l:List UInt8):nq:=⟨l.toArray⟩
def fV:List nq:=[bs [115,105,122,101],bs [119,104,101,114,101],bs [105,110],bs [100,101,102],bs [111,117,116],bs [115,117,109],bs [112,114,111,100],bs [109,105,110],bs [109,97,120],bs [115,99,97,110],bs [111,118,101,114],bs [105,102],bs [99,97,115,116],bs [102,114,97,99],bs [105,110,116],bs [102,105,120],bs [99,101,105,108],bs [102,108,111,111,114],bs [122,101,114,111],bs [101,118,101,110],bs [115,97,116],bs [119,114,97,112]]
def kwBytes:List UInt8:=[115,105,122,101,32,119,104,101,114,101,32,105,110,32,100,101,102,32,111,117,116,32,115,117,109,32,112,114,111,100,32,109,105,110,32,109,97,120,32,115,99,97,110,32,111,118,101,114,32,105,102,32,99,97,115,116,32,102,114,97,99,32,105,110,116,32,102,105,120,32,99,101,105,108,32,102,108,111,111,114,32,122,101,114,111,32,101,118,101,110,32,115,97,116,32,119,114,97,112]
abbrev sy (l:List nq):V:=.c (.sl 1 (l.map λs=>[cS s]))
def nX (n:Int):Bool:=decide (97<=n)&&decide (n<=122)
def xJ (n:Int):Bool:=decide (48<=n)&&decide (n<=57)
def sJ (n:Int):Bool:=nX n||xJ n||decide (n=95)
def pQ (c:UInt8):Bool:=nX c.toNat
def gY (c:UInt8):Bool:=sJ c.toNat
abbrev vR (n:Int):V:=.c (.lit (.int .i32 n))
def bQ (l:List nq) (s:nq):Bool:=l.any λt=>decide (t=s)
def bB (s:nq):Bool:=
 decide (1<=s.size)&&decide (s.size<=16)&&(s.data.toList.head?.all pQ)&&s.data.toList.all gY&& !bQ fV s
def tI (p:UInt8->Bool) (l:List UInt8):Nat:=(l.takeWhile p).length
def RB (p:UInt8->Bool) (l:List UInt8):decide ((tI p l:Int)=(l.length:Int))=l.all p:=by
 unfold tI
 rw [cv]
 simp only [aj,rl]
 constructor
 ·intro h
  have h':(l.takeWhile p).length=l.length:=by omega
  have e:l.takeWhile p=l:=(List.takeWhile_sublist p).eq_of_length h'
  intro x hx
  rw [<-e] at hx
  exact aT.1 List.all_takeWhile x hx
 ·intro h
  have:l.takeWhile p=l:=by
   induction l with
   |nil=>rfl
   |cons x l ih=>simp [h x uF,ih λy hy=>h y Ac]
  rw [this]
def zUk {l:List nq} {s t:nq} {k:Nat} (h:l[k]? =some t) (hp:bQ (l.take k) s=false) (hn:¬t=s):bQ (l.take (k+1)) s=false:=by
 unfold bQ at *
 rw [yB h,fj,hp]
 simp [hn]
def kS {l:List nq} {s t:nq} {k:Nat} (h:l[k]? =some t) (e:t=s):bQ l s=true:=by
 unfold bQ
 rw [cn]
 exact ⟨t,bw h,by simp [e]⟩
def zRx {l:List UInt8} {p:UInt8->Bool} {c:UInt8} {k:Nat} (h:l[k]? =some c):(l.take (k+1)).all p=((l.take k).all p&&p c):=by
 rw [yB h,cj];simp
def NS {l:List UInt8} {p:UInt8->Bool} {k:Nat} (hp:(l.take k).all p=true) (hs:k=l.length∨∃c,l[k]? =some c/\p c=false):tI p l=k:=by
 unfold tI
 induction l generalizing k with
 |nil=>rcases hs with h|⟨c,h,_⟩<;>simp at h⊢;omega
 |cons x l ih=>
  cases k with
  |zero=>
   rcases hs with h|⟨c,h,hc⟩
   ·simp at h
   ·simp at h;subst h;simp [hc]
  |succ k=>
   simp only [av,bm,ae] at hp
   have:=ih (k:=k) hp.2 (by
    rcases hs with h|⟨c,h,hc⟩
    ·left;simpa using h
    ·right;exact ⟨c,by simpa using h,hc⟩)
   simp [hp.1,this]
def Tn (c:UInt8):0<=(c.toNat:Int)/\(c.toNat:Int)<=255:=by
 have:=c.toNat_lt
 omega
def zPc (c:UInt8):IntKind.i32.wrap (c.toNat:Int)=c.toNat:=by
 have:=Tn c
 exact IntWalk.i32_in _ zB
def Gv {s:nq} (h:¬s=bs []):0<s.size:=by
 rcases jt s.size with h0|h0
 ·exfalso
  apply h
  apply i5
  have:s.data.size=0:=h0
  exact ki this
 ·exact h0
def S3 {s:nq} {k:Nat} (h:k<s.size):s.data.toList[k]? =some (s.data.toList.getD k 0):=by
 have:k<s.data.toList.length:=by simpa using h
 simp [List.getD,ak this]
def MD (s:nq):
  ((((!decide (s=bs []))&&decide ((s.size:Int)<=16))&&nX (IntKind.i32.wrap ((s.data.toList.getD 0 0).toNat:Int))&&decide ((tI gY s.data.toList:Int)=(s.size:Int)))&& !bQ fV s)=bB s:=by
 have hs:s.data.toList.length=s.size:=by simp
 rw [show (s.size:Int)=(s.data.toList.length:Int) by rw [hs],RB,zPc]
 unfold bB
 rw [hs]
 by_cases he:s=bs []
 ·subst he
  rfl
 ·have h1:=Gv he
  have h2:s.data.toList.head? =some (s.data.toList.getD 0 0):=by
   rw [gu]
   exact S3 h1
  rw [h2]
  have h3:decide (1<=s.size)=true:=by simp;omega
  have h4:decide ((s.size:Int)<=16)=decide (s.size<=16):=by
   rw [cv];simp only [aj];omega
  simp [he,h3,h4,pQ]
def rW (i:Nat) (c:UInt8):Bool:=nX c.toNat||(decide ((0:Int)<(i:Int))&&(xJ c.toNat||decide ((c.toNat:Int)=95)))
def sW (s:nq) (k:Nat):Bool:=(List.range k).all λi=>rW i (s.data.toList.getD i 0)
def BF (s:nq) (k:Nat):sW s (k+1)=(sW s k&&rW k (s.data.toList.getD k 0)):=by
 unfold sW
 rw [ig,cj]
 simp
def UD {s:nq}:∀{k m:Nat},k<=m->sW s m=true->sW s k=true:=by
 intro k m h h'
 unfold sW at *
 rw [rl] at *
 intro i hi
 exact h' i (cw.2 (by have:=cw.1 hi;omega))
def yd {s:nq} (h:((decide ((s.size:Int)<1)||decide ((16:Int)<(s.size:Int)))||bQ fV s)=true):bB s=false:=by
 unfold bB
 simp only [aD,aj] at h
 rcases h with (h|h)|h
 ·have:decide (1<=s.size)=false:=am zB
  simp [this]
 ·have:decide (s.size<=16)=false:=by simp;omega
  simp [this]
 ·simp [h]
def QD {s:nq} (h1:1<=s.size) (h2:s.size<=16) (h3:bQ fV s=false):bB s=sW s s.size:=by
 unfold bB
 have d1:decide (1<=s.size)=true:=by simpa using h1
 have d2:decide (s.size<=16)=true:=by simpa using h2
 rw [d1,d2,h3]
 have h4:s.data.toList.head? =some (s.data.toList.getD 0 0):=by
  rw [gu]
  exact S3 h1
 rw [h4]
 simp only [aM,kp,cf,bq]
 rw [cv]
 unfold sW
 simp only [ae,rl]
 constructor
 ·rintro ⟨ha,hb⟩ i hi
  have hi':=cw.1 hi
  have hm:=bw (S3 hi')
  have:=hb _ hm
  unfold rW
  cases i with
  |zero=>simp only [pQ] at ha;rw [ha];rfl
  |succ i=>
   simp only [gY,sJ,aD] at this
   have h0:(0:Int)<((i+1:Nat):Int):=by omega
   simp only [h0,jk,aM,aD]
   rcases this with (h|h)|h
   ·exact .inl h
   ·exact .inr (.inl h)
   ·exact .inr (.inr h)
 ·intro h
  refine ⟨?_,λc hc=>?_⟩
  ·have:=h 0 (cw.2 h1)
   unfold rW at this
   simpa [pQ] using this
  ·obtain ⟨i,hi⟩:=bh hc
   have hlt:i<s.size:=by have:=(af.1 hi).1;simpa using this
   have hg:=S3 hlt
   rw [hi] at hg
   have hc':=Option.some.inj hg
   have:=h i (cw.2 hlt)
   rw [<-hc'] at this
   unfold rW at this
   simp only [gY,sJ]
   simp only [aD,ae] at this⊢
   rcases this with h|⟨_,h|h⟩
   ·exact .inl (.inl h)
   ·exact .inl (.inr h)
   ·exact .inr h
def cM (l:List nq) (s:nq):Int:=match l.findIdx? (λt=>decide (s=t)) with|some i=>i|none=> -1
def Mw {l:List nq} {s t:nq} {k:Nat} (h:l[k]? =some t) (e:s=t) (hp:bQ (l.take k) s=false):cM l s=k:=by
 unfold cM
 have:l.findIdx? (λt=>decide (s=t))=some k:=by
  rw [List.findIdx?_eq_some_iff_getElem]
  have hlt:=(af.1 h).1
  refine ⟨hlt,by rw [(af.1 h).2];simp [e],λj hj=>?_⟩
  unfold bQ at hp
  rw [ek] at hp
  have:=hp l[j] (kx.2 ⟨j,zB,rfl⟩)
  simp only [aj] at this⊢
  exact λe'=>this e'.symm
 rw [this]
def Be {l:List nq} {s:nq} (hp:bQ l s=false):cM l s= -1:=by
 unfold cM
 have:l.findIdx? (λt=>decide (s=t))=none:=by
  rw [kz]
  intro x hx
  unfold bQ at hp
  rw [ek] at hp
  have:=hp x hx
  simp only [aj,ao] at this⊢
  exact λe'=>this e'.symm
 rw [this]
def PM (l:List nq) (s:nq):decide (0<=cM l s)=bQ l s:=by
 cases h:bQ l s with
 |false=>rw [Be h];rfl
 |true=>
  unfold bQ at h
  rw [cn] at h
  obtain ⟨x,hx,he⟩:=h
  unfold cM
  cases hf:l.findIdx? (λt=>decide (s=t)) with
  |none=>
   rw [kz] at hf
   have:=hf x hx
   simp only [aj,ao] at he this
   exact absurd he.symm this
  |some i=>simp
end Go.L41
