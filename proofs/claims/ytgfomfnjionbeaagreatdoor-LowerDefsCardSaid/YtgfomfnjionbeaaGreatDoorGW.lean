/-
  What functions compute.
  And what the laws need besides.
  Conditions: none.
-/
import Derived.Test.YtgfomfnjionbeaaGreatDoorFacts
import Derived.Test.YtgfomfnjionbeaaGreatDoorPlain
import Derived.Test.YtgfomfnjionbeaaGreatDoorEngZ
import Derived.Test.YtgfomfnjionbeaaGreatDoorPlain2
set_option linter.unusedSimpArgs false
set_option linter.unusedVariables false
set_option linter.defProp false
section
set_option maxRecDepth 10000
namespace Go.W
open Go Go.Eng Go.Proofs Go.L41 Go.Br Tryz
attribute [local irreducible] AWP RWP TD fY
def kw_ascii:∀(j:Nat) (b:UInt8),(bs kwBytes).data.toList[j]? =some b->b.toNat<128:=by
  intro j b h
  have:(kwBytes.all fun c=>decide (c.toNat<128))=true:=by decide
  rw [lAe] at this
  simpa using this b (bv h)
def kw_fields:(Lib.fields kwBytes).map bs=fO:=by decide+kernel
def nm1 {s:nn} (h:Lz (!decide (s=bs [])&&decide ((s.size:Int)<=16)) true=true):¬s=bs []:=by
  simp only [Lz,aD,ae,az,aw] at h
  exact h.1
def nm2 {s:nn} {p:Bool} (h:Lz (!decide (s=bs [])&&decide ((s.size:Int)<=16)&&p) true=true):s.size<=1000000:=by
  simp only [Lz,aD,ae,aj] at h
  omega
def yV:nJ prog 59=some 2:=by kernel_rfl
def zGp:nJ prog 93=some 4:=by kernel_rfl
def zFb:nJ prog 139=some 2:=by kernel_rfl
def el25:dV prog 25=some (9,1,16):=by kernel_rfl
def el52:dV prog 52=some (93,4,72):=by kernel_rfl
def D:dV prog 57=some (139,2,24):=by kernel_rfl
def zCc:bH prog 59 0=some (0,2):=by kernel_rfl
def kC:bH prog 59 1=some (1,57):=by kernel_rfl
def wE:bH prog 139 0=some (0,9):=by kernel_rfl
def zBm:bH prog 139 1=some (1,2):=by kernel_rfl
def fl139:flatK prog 139=some [.str,.int]:=by kernel_rfl
def ik21:vG prog 21=some .i32:=by kernel_rfl
def mixed:prog.follows .mixedOrders=true:=by kernel_rfl
def W:fP prog 2=true:=by kernel_rfl
def one9:fP prog 9=true:=by kernel_rfl
def wA:fP prog 57=true:=by kernel_rfl
def pl59:fA prog 59=some [(0,1),(1,1)]:=by kernel_rfl
def pl139:fA prog 139=some [(0,1),(1,1)]:=by kernel_rfl
def sz59:(prog.info? 59).map (·.size)=some 2:=by kernel_rfl
def sz139:(prog.info? 139).map (·.size)=some 2:=by kernel_rfl
def un9:prog.underlying 9=some .string:=by kernel_rfl
def us5:(prog.underlying 5).isSome=true:=by kernel_rfl
def zr9:dZ prog 9=some [(Value.string (ByteArray.mk #[]))]:=by kernel_rfl
def U:dZ prog 59=some [(Value.int IntKind.i64 0),(Value.slice none 0 0)]:=by kernel_rfl
def zEk:dZ prog 139=some [(Value.string (ByteArray.mk #[])),(Value.int IntKind.i64 0)]:=by kernel_rfl
def zSs (n:Int):
    Pur cfg 53 [vR n] (vB (nP n)):=by
 refine zV func53 O ntmps53 results53 O ?_
 exact m7
def lexer_digit (n:Int):
    Pur cfg 110 [vR n] (vB (xG n)):=by
 refine zV func110 O ntmps110 results110 O ?_
 exact m7
def lexer_inWord (n:Int):
    Pur cfg 55 [vR n] (vB (sG n)):=by
 refine zV func55 O ntmps55 results55 O fun z hz=>oh O O<|ol O O<|qL O uB (zSs _) (vlr O)<|G O<|rL0 O (fun g1_2=>zQ O O) O<|rL1 6 O (fun g1_2=>qP O uB (lexer_digit _) (vlr O)) O<|r_or O (fun h=>(lzf h))<|G O<|rL0 O (fun g1_6=>zQ O O) O<|rL1 10 O (fun g1_6=>yX O O O) O<|r_or O (fun h=>(lzf h))<|oi O<|zM<|zX O ?_
 exact O
def zRz (s:nn) (hs:s.size<=1000000):
    Pur cfg 54 [vS s,.c (.fn (.func 55) [] [])] (vI (tF gV s.data.toList)):=by
 refine zV func54 O ntmps54 results54 O fun z hz=>oh O O<|oh O O<|zF<|zS<|zW ⟨[(5,.c _),(0,.c _),(1,.c _)],[]⟩ (Weak.mk [] ⟨zD,zD,zD,T⟩ O)<|qG 1 0 O O (Nat) (fun k=>[(5,vI k)]) (fun k=>[]) (fun k=>k<=s.size/\(s.data.toList.take k).all gV=true) (fun k=>s.size-k) ⟨0,⟨zB,O⟩,Weak.mk [] ⟨zD,zD,zD,T⟩ O⟩ ?_
 rintro k ⟨hk,hp⟩
 refine zF<|ol O O<|G O<|zT O (zBn O un9 O)<|yC O<|G O<|rL0 O (fun g2_4=>zQ O O) O<|rL0 O (fun g2_4=>zQ O O) O<|rL0 O (fun g2_4=>zQ O O) O<|rLz [(12,_),(13,_)] O gv1 ⟨O,O,O,O,T⟩ (fun g2_4=>zFk O un9 O O zB (by simp only [Lz,aD,aj] at g2_4;omega)) O<|rL1 14 O (fun g2_4=>kX O us5 ik21 O) O<|rLz [(11,_),(15,_)] O gv1 ⟨O,O,O,O,T⟩ (fun g2_4=>zEi O O uB (lexer_inWord _) (vlr O)) O<|kH O (fun h=>h)<|zA<|zK O ?_ ?_<;>intro c1<;>try simp only [sx] at c1
 ·obtain ⟨hlt,hcc⟩:=c1
  have hlt:k<s.size:=by omega
  rw [zNv] at hcc
  refine zH<|zS<|zP O<|G O<|qH O ⟨zB,zB⟩<|G O<|zA ?_
  have hg:=zFr hlt
  refine ⟨k+1,⟨zB,by rw [zQo hg,hp];exact hcc⟩,zB,Weak.mk [] ⟨zD,zD,zD,T⟩ O⟩
 ·have hsp:tF gV s.data.toList=k:=span_stop hp (by
    by_cases hlt:k<s.size
    · right;refine ⟨_,zFr hlt,?_⟩;rcases c1 with c1|c1;omega;rw [zNv] at c1;exact c1
    · left;simp;omega)
  refine qM<|ol O O<|oi O<|zM<|zX O ?_
  rw [hsp]
def zTf (l:List nn) (s:nn) (hl:l.length<=6000000000000):
    Pur cfg 102 [vSs l,vS s] (vI (cK l s)):=by
 refine zV func102 O ntmps102 results102 O fun z hz=>oh O O<|zF<|ol O O<|qC O el25<|oi O<|zS<|zW ⟨[(8,.c _),(0,.c _),(1,.c _),(7,.c _)],[]⟩ (Weak.mk [] ⟨zD,zD,zD,zD,T⟩ O)<|qG 1 0 O O (Nat) (fun k=>[(8,vI k)]) (fun k=>[]) (fun k=>k<=l.length/\bQ (l.take k) s=false) (fun k=>l.length-k) ⟨0,⟨zB,O⟩,Weak.mk [] ⟨zD,zD,zD,zD,T⟩ O⟩ ?_
 rintro k ⟨hk,hp⟩
 refine Y O<|yC O<|zA<|zF<|zK O ?_ ?_<;>intro c1<;>try simp only [sx] at c1
 ·obtain ⟨t,ht⟩:=qX l k zB
  refine zH<|zF<|zS<|ol O O<|oi O<|ol O O<|G O<|G O<|qE O el25 zB (getm ht)<|zE one9 qF O<|wC O<|zA<|zK O ?_ ?_<;>intro c2<;>try simp only [sx] at c2
  ·refine ol O O<|oi O<|zM<|zX O ?_
   rw [idxB_some ht c2 hp]
  ·refine zH<|zP O<|qH O ⟨zB,zB⟩<|G O<|zA ?_
   refine ⟨k+1,⟨zB,zSu ht hp (fun e=>c2 e.symm)⟩,zB,Weak.mk [] ⟨zD,zD,zD,zD,T⟩ O⟩
 ·refine qM<|oh O O<|zM<|zX O ?_
  rw [idxB_none (by rw [yI zB] at hp;exact hp)]
def zAv (l:List nn) (s:nn) (hl:l.length<=6000000000000):
    Pur cfg 44 [vSs l,vS s] (vB (bQ l s)):=by
 refine zV func44 O ntmps44 results44 O fun z hz=>oh O O<|ol O O<|G O<|qL O uB (zTf l s hl) (vlr O)<|zT O (wG O O O)<|oi O<|zM<|zX O ?_
 rw [idxB_has]
def lexer_keywords:
    Pur cfg 111 [] (vSs fO):=by
 refine zV func111 O ntmps111 results111 O fun z hz=>Y O<|qY 1 O<|zA<|Y O<|qL O uB (strings_Fields _ uA kw_ascii) (vlr O)<|oi O<|zM<|zX O ?_
 exact ai vSs kw_fields
def zWt (s:nn):
    Pur cfg 56 [vS s] (vB (bQ fO s)):=by
 refine zV func56 O ntmps56 results56 O fun z hz=>oh O O<|Y O<|qL O uB (lexer_keywords) T<|G O<|qL O uB (zAv _ _ uA) (vlr O)<|oi O<|zM<|zX O ?_
 exact O
def zCw (s:nn):
    Pur cfg 19 [vS s] (vB (bB s)):=by
 refine zV func19 O ntmps19 results19 O fun z hz=>oh O O<|ol O O<|zT O (zIe O O O)<|G O<|rL0 O (fun g1_2=>zQ O O) O<|rL1 6 O (fun g1_2=>zBn O un9 O) O<|rL1 7 O (fun g1_2=>zAh O O O) O<|kH O (fun h=>h)<|G O<|rL0 O (fun g1_7=>zQ O O) O<|rL1 11 O (fun g1_7=>zFk O un9 O O uA (size_pos (nm1 g1_7))) O<|rL1 12 O (fun g1_7=>kX O us5 ik21 O) O<|rL1 13 O (fun g1_7=>qP O uB (zSs _) (vlr O)) O<|kH O (fun h=>h)<|G O<|rL0 O (fun g1_13=>zQ O O) O<|rL1 17 O (fun g1_13=>qP O uB (zRz s (nm2 g1_13)) (vlr O)) O<|rL0 O (fun g1_13=>zQ O O) O<|rL1 19 O (fun g1_13=>zBn O un9 O) O<|rLz [(18,_),(20,_)] O gv1 ⟨O,O,O,O,T⟩ (fun g1_13=>yX O O O) O<|kH O (fun h=>h)<|G O<|rL0 O (fun g1_20=>zQ O O) O<|rL1 24 O (fun g1_20=>qP O uB (zWt _) (vlr O)) O<|rL1 25 O (fun g1_20=>wV O O) O<|kH O (fun h=>h)<|oi O<|zM<|zX O ?_
 exact ai vB (isName_eq s)
def base_Words:
    Pur cfg 57 [] (vSs fO):=by
 refine zV func57 O ntmps57 results57 O fun z hz=>Y O<|qY 1 O<|zA<|Y O<|yY O el25 zr9<|oi O<|zM<|zX O ?_
 exact O
def zNf (l:List nn) (s:nn) (hl:l.length<=6000000000000):
    Pur cfg 46 [vSs l,vS s] (vB (bQ l s)):=by
 refine zV func46 O ntmps46 results46 O fun z hz=>oh O O<|zF<|oh O O<|zS<|zW ⟨[(5,.c _),(0,.c _),(1,.c _)],[]⟩ (Weak.mk [] ⟨zD,zD,zD,T⟩ O)<|qG 1 0 O O (Nat) (fun k=>[(5,vI k)]) (fun k=>[]) (fun k=>k<=l.length/\bQ (l.take k) s=false) (fun k=>l.length-k) ⟨0,⟨zB,O⟩,Weak.mk [] ⟨zD,zD,zD,T⟩ O⟩ ?_
 rintro k ⟨hk,hp⟩
 refine zF<|ol O O<|G O<|qC O el25<|yC O<|zA<|zK O ?_ ?_<;>intro c1<;>try simp only [sx] at c1
 ·obtain ⟨t,ht⟩:=qX l k zB
  refine zH<|zF<|zS<|ol O O<|G O<|qE O el25 zB (getm ht)<|zE one9 qF O<|G O<|wC O<|zA<|zK O ?_ ?_<;>intro c2<;>try simp only [sx] at c2
  ·refine oh O O<|zM<|zX O ?_
   rw [kO ht c2]
  ·refine zH<|zP O<|G O<|qH O ⟨zB,zB⟩<|G O<|zA ?_
   refine ⟨k+1,⟨zB,zSu ht hp c2⟩,zB,Weak.mk [] ⟨zD,zD,zD,T⟩ O⟩
 ·refine qM<|oh O O<|zM<|zX O ?_
  rw [show bQ l s=false by rw [yI zB] at hp;exact hp]
def zHr (s:nn):
    Pur cfg 20 [vS s] (vB (bB s)):=by
 refine zV func20 O ntmps20 results20 O fun z hz=>oh O O<|zF<|ol O O<|zT O (zBn O un9 O)<|yC O<|G O<|rL0 O (fun g1_3=>zQ O O) O<|rL1 9 O (fun g1_3=>zBn O un9 O) O<|rL1 10 O (fun g1_3=>yN O O O) O<|r_or O (fun h=>(lzf h))<|G O<|rL0 O (fun g1_8=>qP O uB (base_Words) T) O<|rL0 O (fun g1_8=>zQ O O) O<|rLz [(14,_),(15,_)] O gv1 ⟨O,O,O,O,T⟩ (fun g1_8=>qP O uB (zNf _ _ uA) (vlr O)) O<|r_or O (fun h=>(lzf h))<|zA<|zK O ?_ ?_<;>intro c1<;>try simp only [sx] at c1
 ·have hno:=name_short (s:=s) (by simpa using c1)
  refine oh O O<|zM<|zX O ?_
  rw [hno]
 ·obtain ⟨⟨n1,n2⟩,n3⟩:=c1
  have n1:1<=s.size:=by omega
  have n2:s.size<=16:=by omega
  have hne:=name_end n1 n2 n3
  refine zH<|zF<|oh O O<|zS<|zW ⟨[(3,.c _),(0,.c _)],[]⟩ (Weak.mk [] ⟨zD,zD,T⟩ O)<|qG 1 0 O O (Nat) (fun k=>[(3,vI k)]) (fun k=>[]) (fun k=>k<=s.size/\sT s k=true) (fun k=>s.size-k) ⟨0,⟨zB,O⟩,Weak.mk [] ⟨zD,zD,T⟩ O⟩ ?_
  rintro k ⟨hk,hp⟩
  refine zF<|ol O O<|G O<|zT O (zBn O un9 O)<|yC O<|zA<|zK O ?_ ?_<;>intro c2<;>try simp only [sx] at c2
  ·have hlt:k<s.size:=by omega
   refine zH<|zF<|zS<|ol O O<|G O<|zT O (zFk O un9 O O zB zB)<|oi O<|ol O O<|zT O (wG O O O)<|G O<|rL0 O (fun g7_2=>zQ O O) O<|rL1 30 O (fun g7_2=>zAh O O O) O<|kH O (fun h=>h)<|G O<|rL0 O (fun g7_6=>zQ O O) O<|rL1 34 O (fun g7_6=>yN O O O) O<|rL1 35 O (fun g7_6=>zQ O O) O<|rLz [] O gv2 T (fun g7_9=>zQ O O) O<|rLz [(37,_)] O gv2 ⟨O,O,T⟩ (fun g7_9=>wG O O O) O<|rLz [(38,_)] O gv2 ⟨O,O,T⟩ (fun g7_9=>zQ O O) O<|rLz [] O gv2 T (fun g7_12=>zQ O O) O<|rLz [(40,_)] O gv2 ⟨O,O,T⟩ (fun g7_12=>zAh O O O) O<|rLz [(39,_)] O gv2 ⟨O,O,T⟩ (fun g7_9=>zAd O O O (fun h=>kR uC h) O) O<|rLz [(42,_)] O gv2 ⟨O,O,T⟩ (fun g7_9=>zQ O O) O<|rLz [] O gv2 T (fun g7_16=>zQ O O) O<|rLz [(44,_)] O gv2 ⟨O,O,T⟩ (fun g7_16=>yX O O O) O<|rLz [(43,_)] O gv2 ⟨O,O,T⟩ (fun g7_9=>zCo O O O O (fun h=>kR uC (lzf h))) O<|rL1 36 O (fun g7_6=>zAd O O O (fun h=>kR uC h) O) O<|r_or O (fun h=>(lzf h))<|kU O<|zA<|zK O (fun c3=>?_) (fun c3=>?_)
   ·have hbad:sT s (k+1)=false:=by rw [okTo_next,show rQ k (s.data.toList.getD k 0)=false from (az _).mp c3];simp
    refine oh O O<|zM<|zX O ?_
    rw [hne];cases ho:sT s s.size;rfl;exact absurd (okTo_le (k:=k+1) zB ho) (by rw [hbad];simp)
   ·have hgood:sT s (k+1)=true:=by rw [okTo_next,hp,show rQ k (s.data.toList.getD k 0)=true from (eu _).mp c3];rfl
    refine zH<|zP O<|G O<|qH O ⟨zB,zB⟩<|G O<|zA ?_
    refine ⟨k+1,⟨zB,hgood⟩,zB,Weak.mk [] ⟨zD,zD,T⟩ O⟩
  ·refine qM<|oh O O<|zM<|zX O ?_
   rw [hne,show s.size=k by omega,hp]
def lin_reserved (s:nn):
    Pur cfg 136 [vS s] (vB (bQ fO s)):=by
 refine zV func136 O ntmps136 results136 O fun z hz=>oh O O<|zF<|oh O O<|zS<|zF<|Y O<|wC O<|oi O<|zK O ?_ ?_<;>intro c1<;>try simp only [sx] at c1
 ·refine zH<|zK O (fun c22=>?_) (fun c22=>?_)
  ·refine oh O O<|zM<|zX O ?_
   rw [kO (l:=fO) (k:=0) rfl c1.symm]
  ·try simp only [sx] at c22
   refine zH<|oh O O<|zM<|zX O ?_
   exact absurd c1 c22
 ·refine Y O<|wC O<|oi O<|zK O ?_ ?_<;>intro c2<;>try simp only [sx] at c2
  ·refine zH<|zK O (fun c22=>?_) (fun c22=>?_)
   ·refine oh O O<|zM<|zX O ?_
    rw [kO (l:=fO) (k:=1) rfl c2.symm]
   ·try simp only [sx] at c22
    refine zH<|oh O O<|zM<|zX O ?_
    exact absurd c2 c22
  ·refine Y O<|wC O<|oi O<|zK O ?_ ?_<;>intro c3<;>try simp only [sx] at c3
   ·refine zH<|zK O (fun c22=>?_) (fun c22=>?_)
    ·refine oh O O<|zM<|zX O ?_
     rw [kO (l:=fO) (k:=2) rfl c3.symm]
    ·try simp only [sx] at c22
     refine zH<|oh O O<|zM<|zX O ?_
     exact absurd c3 c22
   ·refine Y O<|wC O<|oi O<|zK O ?_ ?_<;>intro c4<;>try simp only [sx] at c4
    ·refine zH<|zK O (fun c22=>?_) (fun c22=>?_)
     ·refine oh O O<|zM<|zX O ?_
      rw [kO (l:=fO) (k:=3) rfl c4.symm]
     ·try simp only [sx] at c22
      refine zH<|oh O O<|zM<|zX O ?_
      exact absurd c4 c22
    ·refine Y O<|wC O<|oi O<|zK O ?_ ?_<;>intro c5<;>try simp only [sx] at c5
     ·refine zH<|zK O (fun c22=>?_) (fun c22=>?_)
      ·refine oh O O<|zM<|zX O ?_
       rw [kO (l:=fO) (k:=4) rfl c5.symm]
      ·try simp only [sx] at c22
       refine zH<|oh O O<|zM<|zX O ?_
       exact absurd c5 c22
     ·refine Y O<|wC O<|oi O<|zK O ?_ ?_<;>intro c6<;>try simp only [sx] at c6
      ·refine zH<|zK O (fun c22=>?_) (fun c22=>?_)
       ·refine oh O O<|zM<|zX O ?_
        rw [kO (l:=fO) (k:=5) rfl c6.symm]
       ·try simp only [sx] at c22
        refine zH<|oh O O<|zM<|zX O ?_
        exact absurd c6 c22
      ·refine Y O<|wC O<|oi O<|zK O ?_ ?_<;>intro c7<;>try simp only [sx] at c7
       ·refine zH<|zK O (fun c22=>?_) (fun c22=>?_)
        ·refine oh O O<|zM<|zX O ?_
         rw [kO (l:=fO) (k:=6) rfl c7.symm]
        ·try simp only [sx] at c22
         refine zH<|oh O O<|zM<|zX O ?_
         exact absurd c7 c22
       ·refine Y O<|wC O<|oi O<|zK O ?_ ?_<;>intro c8<;>try simp only [sx] at c8
        ·refine zH<|zK O (fun c22=>?_) (fun c22=>?_)
         ·refine oh O O<|zM<|zX O ?_
          rw [kO (l:=fO) (k:=7) rfl c8.symm]
         ·try simp only [sx] at c22
          refine zH<|oh O O<|zM<|zX O ?_
          exact absurd c8 c22
        ·refine Y O<|wC O<|oi O<|zK O ?_ ?_<;>intro c9<;>try simp only [sx] at c9
         ·refine zH<|zK O (fun c22=>?_) (fun c22=>?_)
          ·refine oh O O<|zM<|zX O ?_
           rw [kO (l:=fO) (k:=8) rfl c9.symm]
          ·try simp only [sx] at c22
           refine zH<|oh O O<|zM<|zX O ?_
           exact absurd c9 c22
         ·refine Y O<|wC O<|oi O<|zK O ?_ ?_<;>intro c10<;>try simp only [sx] at c10
          ·refine zH<|zK O (fun c22=>?_) (fun c22=>?_)
           ·refine oh O O<|zM<|zX O ?_
            rw [kO (l:=fO) (k:=9) rfl c10.symm]
           ·try simp only [sx] at c22
            refine zH<|oh O O<|zM<|zX O ?_
            exact absurd c10 c22
          ·refine Y O<|wC O<|oi O<|zK O ?_ ?_<;>intro c11<;>try simp only [sx] at c11
           ·refine zH<|zK O (fun c22=>?_) (fun c22=>?_)
            ·refine oh O O<|zM<|zX O ?_
             rw [kO (l:=fO) (k:=10) rfl c11.symm]
            ·try simp only [sx] at c22
             refine zH<|oh O O<|zM<|zX O ?_
             exact absurd c11 c22
           ·refine Y O<|wC O<|oi O<|zK O ?_ ?_<;>intro c12<;>try simp only [sx] at c12
            ·refine zH<|zK O (fun c22=>?_) (fun c22=>?_)
             ·refine oh O O<|zM<|zX O ?_
              rw [kO (l:=fO) (k:=11) rfl c12.symm]
             ·try simp only [sx] at c22
              refine zH<|oh O O<|zM<|zX O ?_
              exact absurd c12 c22
            ·refine Y O<|wC O<|oi O<|zK O ?_ ?_<;>intro c13<;>try simp only [sx] at c13
             ·refine zH<|zK O (fun c22=>?_) (fun c22=>?_)
              ·refine oh O O<|zM<|zX O ?_
               rw [kO (l:=fO) (k:=12) rfl c13.symm]
              ·try simp only [sx] at c22
               refine zH<|oh O O<|zM<|zX O ?_
               exact absurd c13 c22
             ·refine Y O<|wC O<|oi O<|zK O ?_ ?_<;>intro c14<;>try simp only [sx] at c14
              ·refine zH<|zK O (fun c22=>?_) (fun c22=>?_)
               ·refine oh O O<|zM<|zX O ?_
                rw [kO (l:=fO) (k:=13) rfl c14.symm]
               ·try simp only [sx] at c22
                refine zH<|oh O O<|zM<|zX O ?_
                exact absurd c14 c22
              ·refine Y O<|wC O<|oi O<|zK O ?_ ?_<;>intro c15<;>try simp only [sx] at c15
               ·refine zH<|zK O (fun c22=>?_) (fun c22=>?_)
                ·refine oh O O<|zM<|zX O ?_
                 rw [kO (l:=fO) (k:=14) rfl c15.symm]
                ·try simp only [sx] at c22
                 refine zH<|oh O O<|zM<|zX O ?_
                 exact absurd c15 c22
               ·refine Y O<|wC O<|oi O<|zK O ?_ ?_<;>intro c16<;>try simp only [sx] at c16
                ·refine zH<|zK O (fun c22=>?_) (fun c22=>?_)
                 ·refine oh O O<|zM<|zX O ?_
                  rw [kO (l:=fO) (k:=15) rfl c16.symm]
                 ·try simp only [sx] at c22
                  refine zH<|oh O O<|zM<|zX O ?_
                  exact absurd c16 c22
                ·refine Y O<|wC O<|oi O<|zK O ?_ ?_<;>intro c17<;>try simp only [sx] at c17
                 ·refine zH<|zK O (fun c22=>?_) (fun c22=>?_)
                  ·refine oh O O<|zM<|zX O ?_
                   rw [kO (l:=fO) (k:=16) rfl c17.symm]
                  ·try simp only [sx] at c22
                   refine zH<|oh O O<|zM<|zX O ?_
                   exact absurd c17 c22
                 ·refine Y O<|wC O<|oi O<|zK O ?_ ?_<;>intro c18<;>try simp only [sx] at c18
                  ·refine zH<|zK O (fun c22=>?_) (fun c22=>?_)
                   ·refine oh O O<|zM<|zX O ?_
                    rw [kO (l:=fO) (k:=17) rfl c18.symm]
                   ·try simp only [sx] at c22
                    refine zH<|oh O O<|zM<|zX O ?_
                    exact absurd c18 c22
                  ·refine Y O<|wC O<|oi O<|zK O ?_ ?_<;>intro c19<;>try simp only [sx] at c19
                   ·refine zH<|zK O (fun c22=>?_) (fun c22=>?_)
                    ·refine oh O O<|zM<|zX O ?_
                     rw [kO (l:=fO) (k:=18) rfl c19.symm]
                    ·try simp only [sx] at c22
                     refine zH<|oh O O<|zM<|zX O ?_
                     exact absurd c19 c22
                   ·refine Y O<|wC O<|oi O<|zK O ?_ ?_<;>intro c20<;>try simp only [sx] at c20
                    ·refine zH<|zK O (fun c22=>?_) (fun c22=>?_)
                     ·refine oh O O<|zM<|zX O ?_
                      rw [kO (l:=fO) (k:=19) rfl c20.symm]
                     ·try simp only [sx] at c22
                      refine zH<|oh O O<|zM<|zX O ?_
                      exact absurd c20 c22
                    ·refine Y O<|wC O<|oi O<|zK O ?_ ?_<;>intro c21<;>try simp only [sx] at c21
                     ·refine zH<|zK O (fun c22=>?_) (fun c22=>?_)
                      ·refine oh O O<|zM<|zX O ?_
                       rw [kO (l:=fO) (k:=20) rfl c21.symm]
                      ·try simp only [sx] at c22
                       refine zH<|oh O O<|zM<|zX O ?_
                       exact absurd c21 c22
                     ·refine zP O<|wC O<|oi O<|zK O ?_ ?_<;>intro c22<;>try simp only [sx] at c22
                      ·refine oh O O<|zM<|zX O ?_
                       rw [kO (l:=fO) (k:=21) rfl c22.symm]
                      ·refine zH<|oh O O<|zM<|zX O ?_
                       rw [show bQ fO s=false by
                         simp only [bQ,fO,ed,List.any_nil,aC,aw]
                         exact ⟨fun h=>c1 h.symm,fun h=>c2 h.symm,fun h=>c3 h.symm,fun h=>c4 h.symm,fun h=>c5 h.symm,fun h=>c6 h.symm,fun h=>c7 h.symm,fun h=>c8 h.symm,fun h=>c9 h.symm,fun h=>c10 h.symm,fun h=>c11 h.symm,fun h=>c12 h.symm,fun h=>c13 h.symm,fun h=>c14 h.symm,fun h=>c15 h.symm,fun h=>c16 h.symm,fun h=>c17 h.symm,fun h=>c18 h.symm,fun h=>c19 h.symm,fun h=>c20 h.symm,fun h=>c21 h.symm,fun h=>c22 h.symm,T⟩]
def zIm (s:nn):
    Pur cfg 73 [vS s] (vB (bB s)):=by
 refine zV func73 O ntmps73 results73 O fun z hz=>oh O O<|zF<|ol O O<|zT O (zBn O un9 O)<|yC O<|G O<|rL0 O (fun g1_3=>zQ O O) O<|rL1 9 O (fun g1_3=>zBn O un9 O) O<|rL1 10 O (fun g1_3=>yN O O O) O<|r_or O (fun h=>(lzf h))<|G O<|rL0 O (fun g1_8=>zQ O O) O<|rL1 14 O (fun g1_8=>qP O uB (lin_reserved _) (vlr O)) O<|r_or O (fun h=>(lzf h))<|G O<|rL0 O (fun g1_12=>zQ O O) O<|rL1 18 O (fun g1_12=>zFk O un9 O O uA (by simp only [Lz,aD,av,sx] at g1_12;omega)) O<|rL1 19 O (fun g1_12=>zAz O O O) O<|r_or O (fun h=>(lzf h))<|G O<|rL0 O (fun g1_17=>zQ O O) O<|rL1 23 O (fun g1_17=>zFk O un9 O O uA (by simp only [Lz,aD,av,sx] at g1_17;omega)) O<|rL1 24 O (fun g1_17=>yN O O O) O<|r_or O (fun h=>(lzf h))<|zA<|zK O (fun c1=>?_) (fun c1=>?_)
 ·have hno:=ident_no c1
  refine oh O O<|zM<|zX O ?_
  rw [hno]
 ·obtain ⟨n1,n2,hne⟩:=ident_yes c1
  refine zH<|zF<|ol O O<|zT O (zBn O un9 O)<|oi O<|zS<|zW ⟨[(29,.c _),(0,.c _),(28,.c _)],[]⟩ (Weak.mk [] ⟨zD,zD,zD,T⟩ O)<|qG 1 0 O O (Nat) (fun k=>[(29,vI k)]) (fun k=>[]) (fun k=>k<=s.size/\(s.data.toList.take k).all gV=true) (fun k=>s.size-k) ⟨0,⟨zB,O⟩,Weak.mk [] ⟨zD,zD,zD,T⟩ O⟩ ?_
  rintro k ⟨hk,hp⟩
  refine Y O<|yC O<|zA<|zF<|zK O ?_ ?_<;>intro c2<;>try simp only [sx] at c2
  ·have hlt:k<s.size:=by omega
   refine zH<|zF<|zS<|ol O O<|oi O<|ol O O<|G O<|zT O (zFk O un9 O O zB zB)<|oi O<|ol O O<|yC O<|G O<|rL0 O (fun g7_2=>zQ O O) O<|rL1 38 O (fun g7_2=>yN O O O) O<|r_or O (fun h=>(lzf h))<|G O<|rL0 O (fun g7_6=>zQ O O) O<|rL1 42 O (fun g7_6=>zAz O O O) O<|rL1 43 O (fun g7_6=>zQ O O) O<|rLz [] O gv2 T (fun g7_9=>zQ O O) O<|rLz [(45,_)] O gv2 ⟨O,O,T⟩ (fun g7_9=>yN O O O) O<|rL1 44 O (fun g7_6=>zCo O O O O (fun h=>kR uC (lzf h))) O<|kH O (fun h=>h)<|G O<|rL0 O (fun g7_14=>zQ O O) O<|rL1 50 O (fun g7_14=>wW O O O) O<|kH O (fun h=>h)<|zA<|zK O (fun c3=>?_) (fun c3=>?_)
   ·have hbad:=word_no hlt c3
    refine oh O O<|zM<|zX O ?_
    rw [hne,hbad]
   ·have hgood:=word_yes hlt hp c3
    refine zH<|zP O<|qH O ⟨zB,zB⟩<|G O<|zA ?_
    refine ⟨k+1,⟨zB,hgood⟩,zB,Weak.mk [] ⟨zD,zD,zD,T⟩ O⟩
  ·refine qM<|oh O O<|zM<|zX O ?_
   rw [hne,word_all hp zB]
def zBd (l:Lf) (hl:l.L.length<=6000000000000):
    Pur cfg 122 [dC l] (vI (dH l)):=by
 refine zV func122 O ntmps122 results122 O fun z hz=>Y O<|og O fun b1=>oi O<|zF<|Y O<|zC O kC<|zE wA (J 0 O) O<|qC O D<|oi O<|zS<|zW ⟨[(8,.c _),(1,.c _),(6,.c _),(7,.c _)],[_]⟩ (Weak.mk [true] ⟨zD,zD,zD,zD,T⟩ O)<|qG 1 0 O O (Nat) (fun k=>[(8,vI k)]) (fun k=>[]) (fun k=>k<=l.L.length/\(bG l=bM (pH l.L k) (l.L.drop k))) (fun k=>l.L.length-k) ⟨0,⟨zB,O⟩,Weak.mk [true] ⟨zD,zD,zD,zD,T⟩ O⟩ ?_
 rintro k ⟨hk,hp⟩
 refine Y O<|yC O<|zA<|zF<|zK O ?_ ?_<;>intro c1<;>try simp only [sx] at c1
 ·obtain ⟨x,hx⟩:=qX l.L k zB
  refine zH<|zF<|zS<|ol O O<|qE O D zB (getm uC)<|zN zFb qF O<|qA O O (qZ O zEk) ?_
  rintro _ _ ⟨b2,rfl,rfl⟩
  refine G O<|rStR 0 sz139 O<|zA<|zF<|yH 25 mixed uB O O<|oo O (zG O wE O)<|oo O (zJ O one9 O (J 0 O) O)<|oo O (qP O uB (zIm _) (vlr O))<|oo O (wV O O)<|oo O (zQ O O)<|qU [] O O O O gv1 T (fun g4_4=>zG O zBm O) O<|qU [(18,_)] O O O O gv1 ⟨O,O,T⟩ (fun g4_4=>zJ O W O (J 0 O) O) O<|qU [(19,_)] O O O O gv1 ⟨O,O,T⟩ (fun g4_4=>yX O O O) O<|oo O (zCo O O O O (fun h=>(lzf h)))<|oo O (zQ O O)<|qU [] O O O O gv1 T (fun g4_9=>zQ O O) O<|qU [(23,_)] O O O O gv1 ⟨O,O,T⟩ (fun g4_9=>yN O O O) O<|qU [(24,_)] O O O O gv1 ⟨O,O,T⟩ (fun g4_9=>zQ O O) O<|qU [] O O O O gv2 T (fun g4_12=>zG O kC O) O<|qU [(26,_)] O O O O gv2 ⟨O,O,T⟩ (fun g4_12=>zJ O wA O (J 1 O) O) O<|qU [] O O O O gv2 T (fun g4_12=>zQ O O) O<|qU [(28,_)] O O O O gv2 ⟨O,O,T⟩ (fun g4_12=>yL O O O ⟨zB,zB⟩) O<|qU [(27,_),(29,_)] O O O O gv2 ⟨O,O,O,O,T⟩ (fun g4_12=>qK O D O O (by simp only [Lz,aD,av,sx] at g4_12;omega) (pv_get (by simp only [Lz,aD,av,sx] at g4_12;omega) zB)) O<|qU [(30,_)] O O O O gv2 ⟨O,O,T⟩ (fun g4_12=>qV O wE O) O<|qU [(31,_)] O O O O gv2 ⟨O,O,T⟩ (fun g4_12=>zJ O one9 O qF O) O<|qU [] O O O O gv2 T (fun g4_12=>zG O wE O) O<|qU [(33,_)] O O O O gv2 ⟨O,O,T⟩ (fun g4_12=>zJ O one9 O (J 0 O) O) O<|qU [(32,_),(34,_)] O O O O gv2 ⟨O,O,O,O,T⟩ (fun g4_12=>det_sgeq O O O) O<|qU [(25,_)] O O O O gv1 ⟨O,O,T⟩ (fun g4_9=>zAd O O O (fun h=>kR uC h) O) O<|oo O (zCo O O O O (fun h=>(lzf h)))<|kE<|zA<|zK O (fun c2=>?_) (fun c2=>?_)
  ·refine oh O O<|zM<|zX O ?_
   rw [dH,hp,zMz hx,show eD l.L k x=true from c2];rfl
  ·refine zH<|zP O<|qH O ⟨zB,zB⟩<|G O<|zA ?_
   refine ⟨k+1,⟨zB,by rw [hp,zMz hx,show eD l.L k x=false from c2];rfl⟩,zB,Weak.mk [false,true] ⟨zD,zD,zD,zD,T⟩ O⟩
 ·refine qM<|oh O O<|zM<|zX O ?_
  rw [dH,hp,monos_end zB];rfl
def zCh (l:Lf) (hl:l.L.length<=6000000000000):
    Pur cfg 146 [dC l] (vB (bG l)):=by
 refine zV func146 O ntmps146 results146 O fun z hz=>Y O<|og O fun b1=>oi O<|zF<|oh O O<|zS<|zW ⟨[(3,.c _),(1,.c _)],[_]⟩ (Weak.mk [true] ⟨zD,zD,T⟩ O)<|qG 1 0 O O (Nat) (fun k=>[(3,vI k)]) (fun k=>[]) (fun k=>k<=l.L.length/\(bG l=bM (pH l.L k) (l.L.drop k))) (fun k=>l.L.length-k) ⟨0,⟨zB,O⟩,Weak.mk [true] ⟨zD,zD,T⟩ O⟩ ?_
 rintro k ⟨hk,hp⟩
 refine zF<|ol O O<|zC O kC<|zE wA (J 0 O) O<|qC O D<|yC O<|zA<|zK O ?_ ?_<;>intro c1<;>try simp only [sx] at c1
 ·obtain ⟨x,hx⟩:=qX l.L k zB
  refine zH<|zF<|zS<|zF<|yH 37 mixed uB O O<|oo O (zG O kC O)<|oo O (zJ O wA O (J 0 O) O)<|oo O (zQ O O)<|oo O (qK O D O O zB (getm uC))<|oo O (qV O wE O)<|oo O (zJ O one9 O qF O)<|oo O (qP O uB (zHr _) (vlr O))<|oo O (wV O O)<|oo O (zQ O O)<|qU [] O O O O gv1 T (fun g4_8=>zG O kC O) O<|qU [(20,_)] O O O O gv1 ⟨O,O,T⟩ (fun g4_8=>zJ O wA O (J 0 O) O) O<|qU [] O O O O gv1 T (fun g4_8=>zQ O O) O<|qU [(21,_),(22,_)] O O O O gv1 ⟨O,O,O,O,T⟩ (fun g4_8=>qK O D O O zB (getm uC)) O<|qU [(23,_)] O O O O gv1 ⟨O,O,T⟩ (fun g4_8=>qV O zBm O) O<|qU [(24,_)] O O O O gv1 ⟨O,O,T⟩ (fun g4_8=>zJ O W O qF O) O<|qU [(25,_)] O O O O gv1 ⟨O,O,T⟩ (fun g4_8=>yX O O O) O<|oo O (zCo O O O O (fun h=>(lzf h)))<|oo O (zQ O O)<|qU [] O O O O gv1 T (fun g4_17=>zQ O O) O<|qU [(29,_)] O O O O gv1 ⟨O,O,T⟩ (fun g4_17=>yN O O O) O<|qU [(30,_)] O O O O gv1 ⟨O,O,T⟩ (fun g4_17=>zQ O O) O<|qU [] O O O O gv2 T (fun g4_20=>zG O kC O) O<|qU [(32,_)] O O O O gv2 ⟨O,O,T⟩ (fun g4_20=>zJ O wA O (J 0 O) O) O<|qU [] O O O O gv2 T (fun g4_20=>zQ O O) O<|qU [(34,_)] O O O O gv2 ⟨O,O,T⟩ (fun g4_20=>yL O O O ⟨zB,zB⟩) O<|qU [(33,_),(35,_)] O O O O gv2 ⟨O,O,O,O,T⟩ (fun g4_20=>qK O D O O (by simp only [Lz,aD,av,sx] at g4_20;omega) (pv_get (by simp only [Lz,aD,av,sx] at g4_20;omega) zB)) O<|qU [(36,_)] O O O O gv2 ⟨O,O,T⟩ (fun g4_20=>qV O wE O) O<|qU [(37,_)] O O O O gv2 ⟨O,O,T⟩ (fun g4_20=>zJ O one9 O qF O) O<|qU [] O O O O gv2 T (fun g4_20=>zG O kC O) O<|qU [(39,_)] O O O O gv2 ⟨O,O,T⟩ (fun g4_20=>zJ O wA O (J 0 O) O) O<|qU [] O O O O gv2 T (fun g4_20=>zQ O O) O<|qU [(40,_),(41,_)] O O O O gv2 ⟨O,O,O,O,T⟩ (fun g4_20=>qK O D O O zB (getm uC)) O<|qU [(42,_)] O O O O gv2 ⟨O,O,T⟩ (fun g4_20=>qV O wE O) O<|qU [(43,_)] O O O O gv2 ⟨O,O,T⟩ (fun g4_20=>zJ O one9 O qF O) O<|qU [(38,_),(44,_)] O O O O gv2 ⟨O,O,O,O,T⟩ (fun g4_20=>det_sgeq O O O) O<|qU [(31,_)] O O O O gv1 ⟨O,O,T⟩ (fun g4_17=>zAd O O O (fun h=>kR uC h) O) O<|oo O (zCo O O O O (fun h=>(lzf h)))<|kE<|zA<|zK O (fun c2=>?_) (fun c2=>?_)
  ·refine oh O O<|zM<|zX O ?_
   rw [hp,zMz hx,show eD l.L k x=true from c2];rfl
  ·refine zH<|zP O<|G O<|qH O ⟨zB,zB⟩<|G O<|zA ?_
   refine ⟨k+1,⟨zB,by rw [hp,zMz hx,show eD l.L k x=false from c2];rfl⟩,zB,Weak.mk [true] ⟨zD,zD,T⟩ O⟩
 ·refine qM<|oh O O<|zM<|zX O ?_
  rw [hp,monos_end zB]
def lin_Var (s:nn):
    Pur cfg 31 [vS s] (dC (dF s)):=by
 refine zV func31 O ntmps31 results31 O fun z hz=>Y O<|qA O O (qI [none,some 2] O U O) ?_
 rintro _ _ ⟨b1,rfl,rfl⟩
 refine zA<|zF<|ol O O<|qL O uB (zIm _) (vlr O)<|kU O<|zA<|zK O ?_ ?_<;>intro c1<;>try simp only [sx] at c1
 ·refine Y O<|yQ [none,some 2] O U pl59<|rStR 0 sz59 O<|zA<|zM<|fin1 (zZ yV O (J 0 O) O) ?_
  rw [dF,c1];rfl
 ·refine zH<|ol O O<|yJ O zEk pl139<|yY O D zEk<|yJ O U pl59<|rStR 0 sz59 O<|zA<|zM<|fin1 (zZ yV O (J 0 O) O) ?_
  rw [dF,c1];rfl
def lin_Const (k:Int):
    Pur cfg 28 [vI k] (dC ⟨k,[]⟩):=by
 refine zV func28 O ntmps28 results28 O fun z hz=>Y O<|qA O O (qI [none,some 2] O U O) ?_
 rintro _ _ ⟨b1,rfl,rfl⟩
 refine zA<|ol O O<|yQ [none,some 2] O U pl59<|rStR 0 sz59 O<|zA<|zM<|fin1 (zZ yV O (J 0 O) O) ?_
 exact O
def zCp (s:nn):
    Pur cfg 52 [vS s] (dC (dF s)):=by
 refine zV func52 O ntmps52 results52 O fun z hz=>Y O<|qA O O (qI [none,some 2] O U O) ?_
 rintro _ _ ⟨b1,rfl,rfl⟩
 refine zA<|zF<|ol O O<|qL O uB (zHr _) (vlr O)<|kU O<|zA<|zK O ?_ ?_<;>intro c1<;>try simp only [sx] at c1
 ·refine Y O<|yQ [none,some 2] O U pl59<|rStR 0 sz59 O<|zA<|zM<|fin1 (zZ yV O (J 0 O) O) ?_
  rw [dF,c1];rfl
 ·refine zH<|ol O O<|yJ O zEk pl139<|yY O D zEk<|yJ O U pl59<|rStR 0 sz59 O<|zA<|zM<|fin1 (zZ yV O (J 0 O) O) ?_
  rw [dF,c1];rfl
def base_Lin (a b:Lf) (ha:a.L.length<=6000000000000):
    Pur cfg 163 [dC a,dC b] (vB (decide (a=b))):=by
 refine zV func163 O ntmps163 results163 O fun z hz=>Y O<|og O fun b1=>og O fun b2=>oi O<|zF<|Y O<|zC O zCc<|zE W (J 1 O) O<|zC O zCc<|zE W (J 0 O) O<|yM O<|G O<|rL0 O (fun g1_5=>zG O kC O) O<|rL1 12 O (fun g1_5=>zJ O wA O (J 1 O) O) O<|rL1 13 O (fun g1_5=>yG O D O) O<|rL0 O (fun g1_5=>zG O kC O) O<|rL1 15 O (fun g1_5=>zJ O wA O (J 0 O) O) O<|rL1 16 O (fun g1_5=>yG O D O) O<|rLz [(14,_),(17,_)] O gv1 ⟨O,O,O,O,T⟩ (fun g1_5=>wW O O O) O<|r_or O (fun h=>(lzf h))<|zA<|zK O ?_ ?_<;>intro c1<;>try simp only [sx] at c1
 ·refine oh O O<|zM<|zX O ?_
  rw [kK (fun h=>by rw [h] at c1;simp at c1)]
 ·refine zH<|zF<|oh O O<|zS<|zW ⟨[(5,.c _),(2,.c _),(3,.c _)],[_,_]⟩ (Weak.mk [true,true] ⟨zD,zD,zD,T⟩ O)<|qG 1 0 O O (Nat) (fun k=>[(5,vI k)]) (fun k=>[]) (fun k=>k<=a.L.length/\(a.L.take k=b.L.take k)) (fun k=>a.L.length-k) ⟨0,⟨zB,O⟩,Weak.mk [true,true] ⟨zD,zD,zD,T⟩ O⟩ ?_
  rintro k ⟨hk,hp⟩
  refine zF<|ol O O<|zC O kC<|zE wA (J 1 O) O<|qC O D<|yC O<|zA<|zK O ?_ ?_<;>intro c2<;>try simp only [sx] at c2
  ·obtain ⟨x,hx⟩:=qX a.L k zB
   obtain ⟨y,hy⟩:=qX b.L k zB
   refine zH<|zF<|zS<|zF<|yH 11 mixed uB O O<|oo O (zG O kC O)<|oo O (zJ O wA O (J 1 O) O)<|oo O (zQ O O)<|oo O (qK O D O O zB (getm uC))<|oo O (qB O zFb O qF O)<|oo O (zG O kC O)<|oo O (zJ O wA O (J 0 O) O)<|oo O (zQ O O)<|oo O (qK O D O O zB (getm uC))<|oo O (qB O zFb O qF O)<|oo O (zBg O fl139 O O O)<|kE<|zA<|zK O (fun c3=>?_) (fun c3=>?_)
   ·have hne:=mono_ne c3
    refine oh O O<|zM<|zX O ?_
    rw [kK (fun h=>zLu hx hy hne (by rw [h]))]
   ·have heq:=mono_eq c3
    refine zH<|zP O<|G O<|qH O ⟨zB,zB⟩<|G O<|zA ?_
    refine ⟨k+1,⟨zB,zFv hx hy hp heq⟩,zB,Weak.mk [true,true] ⟨zD,zD,zD,T⟩ O⟩
  ·refine qM<|oh O O<|zM<|zX O ?_
   rw [zAp (lin_mk zB (zJa hp zB zB))]
def zVt (l:Lf) (s:nn) (hl:l.L.length<=6000000000000):
    Pur cfg 161 [dC l,vS s] (vI (dG l.L s)):=by
 refine zV func161 O ntmps161 results161 O fun z hz=>Y O<|og O fun b1=>oi O<|zF<|oh O O<|zS<|zW ⟨[(5,.c _),(1,.c _),(2,.c _)],[_]⟩ (Weak.mk [true] ⟨zD,zD,zD,T⟩ O)<|qG 1 0 O O (Nat) (fun k=>[(5,vI k)]) (fun k=>[]) (fun k=>k<=l.L.length/\(dG l.L s=dG (l.L.drop k) s)) (fun k=>l.L.length-k) ⟨0,⟨zB,O⟩,Weak.mk [true] ⟨zD,zD,zD,T⟩ O⟩ ?_
 rintro k ⟨hk,hp⟩
 refine zF<|ol O O<|zC O kC<|zE wA (J 0 O) O<|qC O D<|yC O<|zA<|zK O ?_ ?_<;>intro c1<;>try simp only [sx] at c1
 ·obtain ⟨x,hx⟩:=qX l.L k zB
  refine zH<|zF<|zS<|Y O<|zC O kC<|zE wA (J 0 O) O<|G O<|qE O D zB (getm uC)<|qR O wE<|zE one9 qF O<|G O<|wC O<|zA<|zK O ?_ ?_<;>intro c2<;>try simp only [sx] at c2
  ·refine Y O<|zC O kC<|zE wA (J 0 O) O<|G O<|qE O D zB (getm uC)<|qR O zBm<|zE W qF O<|oi O<|zM<|zX O ?_
   rw [hp,qJ hx,dG,ab c2]
  ·refine zH<|zP O<|G O<|qH O ⟨zB,zB⟩<|G O<|zA ?_
   refine ⟨k+1,⟨zB,by rw [hp,qJ hx,dG,aa c2]⟩,zB,Weak.mk [true] ⟨zD,zD,zD,T⟩ O⟩
 ·refine qM<|oh O O<|zM<|zX O ?_
  rw [hp,kL zB];rfl
def zNy (l:List Ix) (c:C) (p:Ix->Bool) (hl:l.length<=6000000000000) (hc:∀x,x∈l->FnPur cfg c [jN x] (vB (p x))):
    Pur cfg 303 [nD l,.c c] (vI (dT p l)):=by
 refine zV func303 O ntmps303 results303 O fun z hz=>oh O O<|zF<|ol O O<|qC O el52<|oi O<|zS<|zW ⟨[(8,.c _),(0,.c _),(1,.c _),(7,.c _)],[]⟩ (Weak.mk [] ⟨zD,zD,zD,zD,T⟩ O)<|qG 1 0 O O (Nat) (fun k=>[(8,vI k)]) (fun k=>[]) (fun k=>k<=l.length/\((l.take k).any p=false)) (fun k=>l.length-k) ⟨0,⟨zB,O⟩,Weak.mk [] ⟨zD,zD,zD,zD,T⟩ O⟩ ?_
 rintro k ⟨hk,hp⟩
 refine Y O<|yC O<|zA<|zF<|zK O (fun c1=>?_) (fun c1=>?_)
 ·try simp only [sx] at c1
  obtain ⟨x,hx⟩:=qX l k zB
  refine zH<|zF<|zS<|ol O O<|oi O<|ol O O<|G O<|G O<|qE O el52 zB (getm uC)<|zN zGp qF O<|zT O (wL O O (hc _ (qD hx)) (vlr O))<|zA<|zK O (fun c2=>?_) (fun c2=>?_)
  ·exact v58
  ·exact k9
 ·exact v26
def zCq (l:List Ix) (c:C) (p:Ix->Bool) (hl:l.length<=6000000000000) (hc:∀x,x∈l->FnPur cfg c [jN x] (vB (p x))):
    Pur cfg 285 [nD l,.c c] (vB (l.any p)):=by
 refine zV func285 O ntmps285 results285 O fun z hz=>oh O O<|ol O O<|G O<|qL O uB (zNy l c p hl hc) (vlr O)<|zT O (wG O O O)<|oi O<|zM<|zX O ?_
 rw [zPu]
end Go.W
end
section
set_option maxRecDepth 10000
namespace Go.W
open Go Go.Eng Go.Proofs Go.L41 Go.Br Tryz
attribute [local irreducible] AWP RWP TD fY
def zBy:nJ prog 54=some 2:=by kernel_rfl
def yE:nJ prog 56=some 5:=by kernel_rfl
def zIb:bH prog 54 0=some (0,2):=by kernel_rfl
def zKu:bH prog 54 1=some (1,2):=by kernel_rfl
def zGm:bH prog 56 0=some (0,3):=by kernel_rfl
def zNt:bH prog 56 1=some (1,3):=by kernel_rfl
def zPx:bH prog 56 2=some (2,3):=by kernel_rfl
def zXe:bH prog 56 3=some (3,3):=by kernel_rfl
def zXd:bH prog 56 4=some (4,3):=by kernel_rfl
def fl56:flatK prog 56=some [.int,.int,.int,.int,.int]:=by kernel_rfl
def zWx:vG prog 154=some .u64:=by kernel_rfl
def ik240:vG prog 240=some .u64:=by kernel_rfl
def one3:fP prog 3=true:=by kernel_rfl
def pl54:fA prog 54=some [(0,1),(1,1)]:=by kernel_rfl
def pl56:fA prog 56=some [(0,1),(1,1),(2,1),(3,1),(4,1)]:=by kernel_rfl
def sz54:(prog.info? 54).map (·.size)=some 2:=by kernel_rfl
def us2:(prog.underlying 2).isSome=true:=by kernel_rfl
def us3:(prog.underlying 3).isSome=true:=by kernel_rfl
def zr54:dZ prog 54=some [(Value.int IntKind.i64 0),(Value.int IntKind.i64 0)]:=by kernel_rfl
def v:dZ prog 56=some [(Value.int IntKind.i64 0),(Value.int IntKind.i64 0),(Value.int IntKind.i64 0),(Value.int IntKind.i64 0),(Value.int IntKind.i64 0)]:=by kernel_rfl
def zUy (t:Ty):
    Pur cfg 206 [vTy t] (vB (vU t)):=by
 refine zV func206 O ntmps206 results206 O fun z hz=>Y O<|og O fun b1=>oi O<|Y O<|zN yE (J 0 O) O<|zC O zGm<|zE one3 (J 0 O) O<|yJ O v pl56<|zT O (det_aeql O fl56 O O O)<|oi O<|zM<|zX O ?_
 exact ai vB (plainT_eq t)
def zEr (t:Ty):
    Pur cfg 207 [vTy t] (vI (bif gL t then 0 else 10)):=by
 refine zV func207 O ntmps207 results207 O fun z hz=>Y O<|og O fun b1=>oi O<|Y O<|zC O zXe<|zE one3 (J 0 O) O<|zT O (wG O O O)<|G O<|rL0 O (fun g1_3=>zG O zXe O) O<|rL1 8 O (fun g1_3=>zJ O one3 O (J 0 O) O) O<|rL1 9 O (fun g1_3=>zAh O O O) O<|kH O (fun h=>h)<|G O<|rL0 O (fun g1_8=>zG O zXd O) O<|rL1 13 O (fun g1_8=>zJ O one3 O (J 0 O) O) O<|rL1 14 O (fun g1_8=>yX O O O) O<|rL1 15 O (fun g1_8=>zQ O O) O<|rLz [] O gv2 T (fun g1_12=>zG O zXd O) O<|rLz [(17,_)] O gv2 ⟨O,O,T⟩ (fun g1_12=>zJ O one3 O (J 0 O) O) O<|rLz [(18,_)] O gv2 ⟨O,O,T⟩ (fun g1_12=>yX O O O) O<|rL1 16 O (fun g1_8=>zCo O O O O (fun h=>kR uC (lzf h))) O<|kH O (fun h=>h)<|oi O<|zF<|Y O<|zC O zGm<|zE one3 (J 0 O) O<|yM O<|G O<|rL0 O (fun g2_3=>zG O zNt O) O<|rL1 26 O (fun g2_3=>zJ O one3 O (J 0 O) O) O<|rL1 27 O (fun g2_3=>zAz O O O) O<|r_or O (fun h=>(lzf h))<|G O<|rL0 O (fun g2_8=>zG O zNt O) O<|rL1 31 O (fun g2_8=>zJ O one3 O (J 0 O) O) O<|rL1 32 O (fun g2_8=>yN O O O) O<|r_or O (fun h=>(lzf h))<|G O<|rL0 O (fun g2_13=>zG O zPx O) O<|rL1 36 O (fun g2_13=>zJ O one3 O (J 0 O) O) O<|rL1 37 O (fun g2_13=>zAz O O O) O<|r_or O (fun h=>(lzf h))<|G O<|rL0 O (fun g2_18=>zG O zPx O) O<|rL1 41 O (fun g2_18=>zJ O one3 O (J 0 O) O) O<|rL1 42 O (fun g2_18=>yN O O O) O<|r_or O (fun h=>(lzf h))<|G O<|rL0 O (fun g2_23=>zQ O O) O<|rL1 46 O (fun g2_23=>wV O O) O<|r_or O (fun h=>(lzf h))<|zA<|zK O (fun c1=>?_) (fun c1=>?_)
 ·refine oh O O<|zM<|zX O ?_
  rw [show gL t=false from fix_no c1];rfl
 ·refine zH<|oh O O<|zM<|zX O ?_
  rw [show gL t=true from fix_yes c1];rfl
def wY (t:Ty):
    Pur cfg 167 [vTy t] (vI (bX t)):=by
 refine zV func167 O ntmps167 results167 O fun z hz=>Y O<|og O fun b1=>oi O<|zF<|Y O<|zC O zGm<|zE one3 (J 0 O) O<|zA<|zS<|zF<|Y O<|yT O<|oi O<|qO O (fun c1=>?_) (fun c1=>?_)
 ·refine zH<|zK O ?_ ?_<;>intro c2<;>try simp only [sx] at c2
  ·exact v44
  ·exact v27
 ·refine zP O<|yT O<|oi O<|qO O (fun c2=>?_) (fun c2=>?_)
  ·exact v44
  ·exact v27
def zJf (t:Ty):
    Pur cfg 107 [vTy t] (vB (dJ t)):=by
 refine zV func107 O ntmps107 results107 O fun z hz=>Y O<|og O fun b1=>oi O<|zF<|Y O<|zC O zGm<|zE one3 (J 0 O) O<|yT O<|G O<|rL0 O (fun g1_3=>zG O zGm O) O<|rL1 7 O (fun g1_3=>zJ O one3 O (J 0 O) O) O<|rL1 8 O (fun g1_3=>yX O O O) O<|r_or O (fun h=>(lzf h))<|zA<|zK O (fun c1=>?_) (fun c1=>?_)
 ·refine Y O<|zC O zNt<|zE one3 (J 0 O) O<|yT O<|G O<|rL0 O (fun g2_3=>zG O zPx O) O<|rL1 15 O (fun g2_3=>zJ O one3 O (J 0 O) O) O<|rL1 16 O (fun g2_3=>yX O O O) O<|kH O (fun h=>h)<|G O<|rL0 O (fun g2_8=>zG O zXe O) O<|rL1 20 O (fun g2_8=>zJ O one3 O (J 0 O) O) O<|rL1 21 O (fun g2_8=>yX O O O) O<|kH O (fun h=>h)<|G O<|rL0 O (fun g2_13=>zG O zXd O) O<|rL1 25 O (fun g2_13=>zJ O one3 O (J 0 O) O) O<|rL1 26 O (fun g2_13=>yX O O O) O<|kH O (fun h=>h)<|oi O<|zM<|zX O ?_
  exact ai vB (type1 c1)
 ·refine zH<|Y O<|zC O zGm<|zE one3 (J 0 O) O<|yT O<|G O<|rL0 O (fun g3_3=>zG O zNt O) O<|rL1 33 O (fun g3_3=>zJ O one3 O (J 0 O) O) O<|rL1 34 O (fun g3_3=>wG O O O) O<|kH O (fun h=>h)<|G O<|rL0 O (fun g3_8=>zG O zNt O) O<|rL1 38 O (fun g3_8=>zJ O one3 O (J 0 O) O) O<|rL1 39 O (fun g3_8=>zAh O O O) O<|kH O (fun h=>h)<|G O<|rL0 O (fun g3_13=>zG O zPx O) O<|rL1 43 O (fun g3_13=>zJ O one3 O (J 0 O) O) O<|rL1 44 O (fun g3_13=>wG O O O) O<|kH O (fun h=>h)<|G O<|rL0 O (fun g3_18=>zG O zPx O) O<|rL1 48 O (fun g3_18=>zJ O one3 O (J 0 O) O) O<|rL1 49 O (fun g3_18=>zAh O O O) O<|kH O (fun h=>h)<|G O<|rL0 O (fun g3_23=>zG O zXe O) O<|rL1 53 O (fun g3_23=>zJ O one3 O (J 0 O) O) O<|rL1 54 O (fun g3_23=>wG O O O) O<|kH O (fun h=>h)<|G O<|rL0 O (fun g3_28=>zG O zXe O) O<|rL1 58 O (fun g3_28=>zJ O one3 O (J 0 O) O) O<|rL1 59 O (fun g3_28=>zAh O O O) O<|kH O (fun h=>h)<|G O<|rL0 O (fun g3_33=>zG O zXd O) O<|rL1 63 O (fun g3_33=>zJ O one3 O (J 0 O) O) O<|rL1 64 O (fun g3_33=>yX O O O) O<|rL1 65 O (fun g3_33=>zQ O O) O<|rLz [] O gv2 T (fun g3_37=>zG O zXd O) O<|rLz [(67,_)] O gv2 ⟨O,O,T⟩ (fun g3_37=>zJ O one3 O (J 0 O) O) O<|rLz [(68,_)] O gv2 ⟨O,O,T⟩ (fun g3_37=>yX O O O) O<|rL1 66 O (fun g3_33=>zCo O O O O (fun h=>kR uC (lzf h))) O<|kH O (fun h=>h)<|oi O<|zM<|zX O ?_
  exact ai vB (type2 c1)
def zVm (b:Int):
    Pur cfg 296 [vI b] (vB (decide (2<=b)&&decide (b<=31))):=by
 refine zV func296 O ntmps296 results296 O ?_
 exact m7
def round_MinInt (b:Int) (h1:2<=b) (h2:b<=31):
    Pur cfg 268 [vI b] (vI (-mP b)):=by
 refine zV func268 O ntmps268 results268 O fun z hz=>oh O O<|zF<|ol O O<|qL O uB (zVm _) (vlr O)<|kU O<|zA<|zK O ?_ ?_<;>intro c1<;>try simp only [sx] at c1
 ·exact absurd c1 zB
 ·refine zH<|ol O O<|zT O (yL O O O ⟨zB,zB⟩)<|zT O (kX O us3 ik240 O)<|zT O (zXt O O O (by rw [zJg zB];omega))<|zT O (zHq O O)<|oi O<|zM<|zX O ?_
  exact ai vI (min_eq h1 h2)
def round_MaxInt (b:Int) (h1:2<=b) (h2:b<=31):
    Pur cfg 269 [vI b] (vI (mP b-1)):=by
 refine zV func269 O ntmps269 results269 O fun z hz=>oh O O<|zF<|ol O O<|qL O uB (zVm _) (vlr O)<|kU O<|zA<|zK O ?_ ?_<;>intro c1<;>try simp only [sx] at c1
 ·exact absurd c1 zB
 ·refine zH<|ol O O<|zT O (yL O O O ⟨zB,zB⟩)<|zT O (kX O us3 ik240 O)<|zT O (zXt O O O (by rw [zJg zB];omega))<|zT O (zXs O O O)<|oi O<|zM<|zX O ?_
  exact ai vI (max_eq h1 h2)
def zWz (t:Ty) (v:Vl):
    Pur cfg 238 [vTy t,tW v] (vB (gL t&&(decide (v.D=1)&&decide (-mP t.Bits<=v.N)&&decide (v.N<mP t.Bits)))):=by
 refine zV func238 O ntmps238 results238 O fun z hz=>Y O<|og O fun b1=>og O fun b2=>oi O<|zF<|yH 25 mixed uB O O<|oo O (qB O yE O (J 1 O) O)<|oo O (qP O uB (zEr _) (vlr O))<|oo O (yX O O O)<|oo O (zQ O O)<|qU [] O O O O gv1 T (fun g1_3=>zG O zKu O) O<|qU [(9,_)] O O O O gv1 ⟨O,O,T⟩ (fun g1_3=>zJ O W O (J 0 O) O) O<|qU [(10,_)] O O O O gv1 ⟨O,O,T⟩ (fun g1_3=>yX O O O) O<|oo O (zAd O O O (fun h=>h) O)<|oo O (zQ O O)<|qU [] O O O O gv1 T (fun g1_8=>zG O zIb O) O<|qU [(14,_)] O O O O gv1 ⟨O,O,T⟩ (fun g1_8=>zJ O W O (J 0 O) O) O<|qU [] O O O O gv1 T (fun g1_8=>zG O zNt O) O<|qU [(16,_)] O O O O gv1 ⟨O,O,T⟩ (fun g1_8=>zJ O one3 O (J 1 O) O) O<|qU [(17,_)] O O O O gv1 ⟨O,O,T⟩ (fun g1_8=>qP O uB (round_MinInt _ (fixB (fxa g1_8)).1 (fixB (fxa g1_8)).2) (vlr O)) O<|qU [(15,_),(18,_)] O O O O gv1 ⟨O,O,O,O,T⟩ (fun g1_8=>wG O O O) O<|oo O (zAd O O O (fun h=>h) O)<|oo O (zQ O O)<|qU [] O O O O gv1 T (fun g1_16=>zG O zIb O) O<|qU [(22,_)] O O O O gv1 ⟨O,O,T⟩ (fun g1_16=>zJ O W O (J 0 O) O) O<|qU [] O O O O gv1 T (fun g1_16=>zG O zNt O) O<|qU [(24,_)] O O O O gv1 ⟨O,O,T⟩ (fun g1_16=>zJ O one3 O (J 1 O) O) O<|qU [(25,_)] O O O O gv1 ⟨O,O,T⟩ (fun g1_16=>qP O uB (round_MaxInt _ (fixB (fxb g1_16)).1 (fixB (fxb g1_16)).2) (vlr O)) O<|qU [(23,_),(26,_)] O O O O gv1 ⟨O,O,O,O,T⟩ (fun g1_16=>zAh O O O) O<|oo O (zAd O O O (fun h=>h) O)<|oo O (yR O O)<|kE<|zA<|zM<|zX O ?_
 exact ai vB (fixV t v)
def value_whole (n:Int):
    Pur cfg 292 [vI n] (vB (rJ n)):=by
 refine zV func292 O ntmps292 results292 O ?_
 exact m7
def frac_inRange (n:Int):
    Pur cfg 304 [vI n] (vB (rJ n)):=by
 refine zV func304 O ntmps304 results304 O ?_
 exact m7
def frac_magnitude (n:Int) (hn: -9223372036854775808<=n) (hm:n<=9223372036854775807):
    Pur cfg 306 [vI n] (sI n.natAbs):=by
 refine zV func306 O ntmps306 results306 O fun z hz=>oh O O<|zF<|ol O O<|yC O<|zA<|zK O ?_ ?_<;>intro c1<;>try simp only [sx] at c1
 ·refine ol O O<|zT O (kX O us2 zWx O)<|zT O (zHq O O)<|oi O<|zM<|zX O ?_
  exact ai sI (mag_neg c1 hn)
 ·refine zH<|ol O O<|zT O (kX O us2 zWx O)<|oi O<|zM<|zX O ?_
  exact ai sI (mag_pos zB hm)
def frac_gcd (a b:Nat):
    Pur cfg 305 [sI a,sI b] (sI (Nat.gcd a b)):=by
 refine zV func305 O ntmps305 results305 O fun z hz=>oh O O<|zF<|zS<|zW ⟨[(0,.c _),(1,.c _)],[]⟩ (Weak.mk [] ⟨zD,zD,T⟩ O)<|qG 2 0 O O (Nat×Nat) (fun ⟨x,y⟩=>[(0,sI x),(1,sI y)]) (fun ⟨x,y⟩=>[]) (fun ⟨x,y⟩=>Nat.gcd a b=Nat.gcd x y) (fun ⟨x,y⟩=>y) ⟨⟨a,b⟩,O,Weak.mk [] ⟨zD,zD,T⟩ O⟩ ?_
 rintro ⟨x,y⟩ hg
 refine zF<|ol O O<|yM O<|zA<|zK O ?_ ?_<;>intro c1<;>try simp only [sx] at c1
 ·refine zH<|zS<|yH 6 mixed uB O O<|oo O (zQ O O)<|oo O (zQ O O)<|oo O (zQ O O)<|oo O (det_rem O O O zB)<|oo O (yR O O)<|oo O (yR O O)<|kE<|zA ?_
  refine ⟨⟨y,x%y⟩,(by rw [hg];exact gcd_step zB),(gv _ zB),Weak.mk [] ⟨zD,VLe.of_eq (ai sI (Int.ofNat_tmod x y).symm),T⟩ O⟩
 ·refine qM<|ol O O<|oi O<|zM<|zX O ?_
  exact ai sI (by rw [hg,show y=0 by omega,mc])
def base_gcd (a b:Nat):
    Pur cfg 245 [vI a,vI b] (vI (Nat.gcd a b)):=by
 refine zV func245 O ntmps245 results245 O fun z hz=>oh O O<|zF<|zS<|zW ⟨[(0,.c _),(1,.c _)],[]⟩ (Weak.mk [] ⟨zD,zD,T⟩ O)<|qG 2 0 O O (Nat×Nat) (fun ⟨x,y⟩=>[(0,vI x),(1,vI y)]) (fun ⟨x,y⟩=>[]) (fun ⟨x,y⟩=>Nat.gcd a b=Nat.gcd x y) (fun ⟨x,y⟩=>y) ⟨⟨a,b⟩,O,Weak.mk [] ⟨zD,zD,T⟩ O⟩ ?_
 rintro ⟨x,y⟩ hg
 refine zF<|ol O O<|yM O<|zA<|zK O ?_ ?_<;>intro c1<;>try simp only [sx] at c1
 ·refine zH<|zS<|yH 6 mixed uB O O<|oo O (zQ O O)<|oo O (zQ O O)<|oo O (zQ O O)<|oo O (det_rem O O O zB)<|oo O (yR O O)<|oo O (yR O O)<|kE<|zA ?_
  refine ⟨⟨y,x%y⟩,(by rw [hg];exact gcd_step zB),(gv _ zB),Weak.mk [] ⟨zD,VLe.of_eq (ai vI (Int.ofNat_tmod x y).symm),T⟩ O⟩
 ·refine qM<|ol O O<|oi O<|zM<|zX O ?_
  exact ai vI (by rw [hg,show y=0 by omega,mc])
def frac_Valid (v:Vl):
    Pur cfg 293 [tW v] (vB (decide (1<=v.D)&&decide (v.D<=2147483647)&&rJ v.N&&decide (Int.gcd v.N v.D=1))):=by
 refine zV func293 O ntmps293 results293 O fun z hz=>Y O<|og O fun b1=>oi O<|zF<|yH 24 mixed uB O O<|oo O (zG O zKu O)<|oo O (zJ O W O (J 0 O) O)<|oo O (wG O O O)<|oo O (zQ O O)<|qU [] O O O O gv1 T (fun g1_3=>zG O zKu O) O<|qU [(7,_)] O O O O gv1 ⟨O,O,T⟩ (fun g1_3=>zJ O W O (J 0 O) O) O<|qU [(8,_)] O O O O gv1 ⟨O,O,T⟩ (fun g1_3=>zAh O O O) O<|oo O (zAd O O O (fun h=>h) O)<|oo O (zQ O O)<|qU [] O O O O gv1 T (fun g1_8=>zG O zIb O) O<|qU [(12,_)] O O O O gv1 ⟨O,O,T⟩ (fun g1_8=>zJ O W O (J 0 O) O) O<|qU [(13,_)] O O O O gv1 ⟨O,O,T⟩ (fun g1_8=>qP O uB (frac_inRange _) (vlr O)) O<|oo O (zAd O O O (fun h=>h) O)<|oo O (zQ O O)<|qU [] O O O O gv1 T (fun g1_13=>zG O zIb O) O<|qU [(17,_)] O O O O gv1 ⟨O,O,T⟩ (fun g1_13=>zJ O W O (J 0 O) O) O<|qU [(18,_)] O O O O gv1 ⟨O,O,T⟩ (fun g1_13=>qP O uB (frac_magnitude v.N (frV g1_13).2.2.1 (frV g1_13).2.2.2) (vlr O)) O<|qU [] O O O O gv1 T (fun g1_13=>zG O zKu O) O<|qU [(20,_)] O O O O gv1 ⟨O,O,T⟩ (fun g1_13=>zJ O W O (J 0 O) O) O<|qU [(21,_)] O O O O gv1 ⟨O,O,T⟩ (fun g1_13=>kX O us2 zWx O) O<|qU [(19,_),(22,_)] O O O O gv1 ⟨O,O,O,O,T⟩ (fun g1_13=>qP O uB (show Pur cfg 305 [sI v.N.natAbs,sI (IntKind.u64.wrap v.D)] (sI (Nat.gcd v.N.natAbs v.D.natAbs)) from by rw [u64_D (frV g1_13).1 (frV g1_13).2.1];exact frac_gcd _ _) (vlr O)) O<|qU [(23,_)] O O O O gv1 ⟨O,O,T⟩ (fun g1_13=>yX O O O) O<|oo O (zAd O O O (fun h=>h) O)<|oo O (yR O O)<|kE<|zA<|zM<|zX O ?_
 exact ai vB (by rw [show (decide (((Nat.gcd v.N.natAbs v.D.natAbs:Nat):Int)=1))=decide (Int.gcd v.N v.D=1) from dl.2 (by unfold Int.gcd;omega)])
def value_Valid (t:Ty) (v:Vl):
    Pur cfg 260 [vTy t,tW v] (vB (dJ t&&jI t v)):=by
 refine zV func260 O ntmps260 results260 O fun z hz=>Y O<|og O fun b1=>og O fun b2=>oi O<|zF<|Y O<|zN yE (J 1 O) O<|qL O uB (wY _) (vlr O)<|yM O<|zA<|zK O ?_ ?_<;>intro c1<;>try simp only [sx] at c1
 ·have ht:dJ t=false:=zMs c1
  refine oh O O<|zM<|zX O ?_
  rw [ht];rfl
 ·have ht:dJ t=true:=zCd c1
  refine zH<|zF<|Y O<|zC O zGm<|zE one3 (J 1 O) O<|zA<|zS<|Y O<|yT O<|oi O<|qO O (fun c2=>?_) (fun c2=>?_)
  ·refine Y O<|zN yE (J 1 O) O<|zN zBy (J 0 O) O<|qL O uB (zWz _ _) (vlr O)<|oi O<|zM<|zX O ?_
   exact ai vB (by rw [ht,jI,c2,←zCm c2,ht];rfl)
  ·refine Y O<|yT O<|oi O<|qO O (fun c3=>?_) (fun c3=>?_)
   ·refine Y O<|zC O zKu<|zE W (J 0 O) O<|yT O<|G O<|rL0 O (fun g7_3=>zG O zIb O) O<|rL1 21 O (fun g7_3=>zJ O W O (J 0 O) O) O<|rL1 22 O (fun g7_3=>qP O uB (value_whole _) (vlr O)) O<|kH O (fun h=>h)<|oi O<|zM<|zX O ?_
    exact ai vB (by rw [ht,jI,kK c2,c3];rfl)
   ·refine zH<|Y O<|zN zBy (J 0 O) O<|qL O uB (frac_Valid _) (vlr O)<|oi O<|zM<|zX O ?_
    exact ai vB (by rw [ht,jI,kK c2,kK c3];rfl)
def base_Val (t:Ty) (v:Vl) (ht:dJ t=true):
    Pur cfg 202 [vTy t,tW v] (vB (jI t v)):=by
 refine zV func202 O ntmps202 results202 O fun z hz=>Y O<|og O fun b1=>og O fun b2=>oi O<|zF<|Y O<|zC O zGm<|zE one3 (J 1 O) O<|yT O<|zA<|qO O (fun c1=>?_) (fun c1=>?_)
 ·obtain ⟨b1,b2⟩:=fixB (by rw [←zCm c1];exact ht)
  refine Y O<|zC O zNt<|zE one3 (J 1 O) O<|zT O (yL O O O ⟨zB,zB⟩)<|zT O (zXt O O O zB)<|oi O<|Y O<|zC O zKu<|zE W (J 0 O) O<|yT O<|G O<|rL0 O (fun g3_3=>zG O zIb O) O<|rL1 17 O (fun g3_3=>zJ O W O (J 0 O) O) O<|rL0 O (fun g3_3=>zQ O O) O<|rL1 19 O (fun g3_3=>zHq O O) O<|rLz [(18,_),(20,_)] O gv1 ⟨O,O,O,O,T⟩ (fun g3_3=>wG O O O) O<|kH O (fun h=>h)<|G O<|rL0 O (fun g3_10=>zG O zIb O) O<|rL1 24 O (fun g3_10=>zJ O W O (J 0 O) O) O<|rL0 O (fun g3_10=>zQ O O) O<|rLz [(25,_),(26,_)] O gv1 ⟨O,O,O,O,T⟩ (fun g3_10=>zAz O O O) O<|kH O (fun h=>h)<|oi O<|zM<|zX O ?_
  exact ai vB (valfix c1 b1 b2)
 ·refine zH<|zF<|Y O<|zC O zIb<|zE W (J 0 O) O<|zT O (yN O O O)<|G O<|rL0 O (fun g4_3=>zG O zIb O) O<|rL1 33 O (fun g4_3=>zJ O W O (J 0 O) O) O<|rL1 34 O (fun g4_3=>zAz O O O) O<|r_or O (fun h=>(lzf h))<|G O<|rL0 O (fun g4_8=>zG O zKu O) O<|rL1 38 O (fun g4_8=>zJ O W O (J 0 O) O) O<|rL1 39 O (fun g4_8=>zAz O O O) O<|r_or O (fun h=>(lzf h))<|G O<|rL0 O (fun g4_13=>zG O zKu O) O<|rL1 43 O (fun g4_13=>zJ O W O (J 0 O) O) O<|rL1 44 O (fun g4_13=>yN O O O) O<|r_or O (fun h=>(lzf h))<|zA<|zK O (fun c2=>?_) (fun c2=>?_)
  ·refine oh O O<|zM<|zX O ?_
   exact ai vB (val_out c1 c2).symm
  ·obtain ⟨hN1,hN2,hD1,hD2⟩:=val_in c2
   refine zH<|zF<|Y O<|zC O zGm<|zE one3 (J 1 O) O<|yT O<|zA<|qO O (fun c3=>?_) (fun c3=>?_)
   ·refine Y O<|zC O zKu<|zE W (J 0 O) O<|yT O<|oi O<|zM<|zX O ?_
    exact ai vB (by rw [jI,kK c1,c3];simp [rJ,hN1,hN2])
   ·refine zH<|Y O<|zC O zIb<|zE W (J 0 O) O<|zC O zIb<|zE W (J 0 O) O<|zT O (zHq O O)<|zT O (det_max O O O)<|zC O zKu<|zE W (J 0 O) O<|qL O uB (show Pur cfg 245 [vI (max v.N (IntKind.i64.wrap (-v.N))),vI v.D] (vI (Int.gcd v.N v.D)) from by rw [max_abs hN1 hN2,show v.D=(v.D.natAbs:Int) by omega];exact base_gcd _ _) (vlr O)<|yT O<|oi O<|zM<|zX O ?_
    exact ai vB (by rw [jI,kK c1,kK c3];simp [rJ,hN1,hN2,hD1,hD2];omega)
def value_Zero (t:Ty):
    Pur cfg 191 [vTy t] (tW (rU t)):=by
 refine zV func191 O ntmps191 results191 O fun z hz=>Y O<|og O fun b1=>qA O O (qZ O zr54) ?_
 rintro _ _ ⟨b2,rfl,rfl⟩
 refine zA<|zF<|Y O<|zN yE (J 1 O) O<|qL O uB (wY _) (vlr O)<|yM O<|zA<|zK O ?_ ?_<;>intro c1<;>try simp only [sx] at c1
 ·refine Y O<|yJ O zr54 pl54<|rStR 0 sz54 O<|zA<|zM<|fin1 (zZ zBy O (J 0 O) O) ?_
  rw [rU,zMs c1];rfl
 ·refine zH<|Y O<|yJ O zr54 pl54<|rStR 0 sz54 O<|zA<|zM<|fin1 (zZ zBy O (J 0 O) O) ?_
  rw [rU,zCd c1];rfl
def ref04_Zero (t:Ty):
    Pur cfg 157 [vTy t] (tW (rU t)):=by
 refine zV func157 O ntmps157 results157 O fun z hz=>Y O<|og O fun b1=>qA O O (qZ O zr54) ?_
 rintro _ _ ⟨b2,rfl,rfl⟩
 refine zA<|zF<|Y O<|zN yE (J 1 O) O<|qL O uB (zJf _) (vlr O)<|kU O<|zA<|zK O ?_ ?_<;>intro c1<;>try simp only [sx] at c1
 ·refine Y O<|yJ O zr54 pl54<|rStR 0 sz54 O<|zA<|zM<|fin1 (zZ zBy O (J 0 O) O) ?_
  rw [rU,c1];rfl
 ·refine zH<|Y O<|yJ O zr54 pl54<|rStR 0 sz54 O<|zA<|zM<|fin1 (zZ zBy O (J 0 O) O) ?_
  rw [rU,c1];rfl
end Go.W
end
section
set_option maxRecDepth 10000
namespace Go.W
open Go Go.Eng Go.Proofs Go.L41 Go.Br Tryz
attribute [local irreducible] AWP RWP TD fY
def yZ:nJ prog 62=some 13:=by kernel_rfl
def el60:dV prog 60=some (62,13,160):=by kernel_rfl
def el72:dV prog 72=some (59,2,32):=by kernel_rfl
def wH:bH prog 62 0=some (0,3):=by kernel_rfl
def zIa:bH prog 62 1=some (1,9):=by kernel_rfl
def zMj:bH prog 62 2=some (2,54):=by kernel_rfl
def zGl:bH prog 62 3=some (4,56):=by kernel_rfl
def zDt:bH prog 62 4=some (9,59):=by kernel_rfl
def wB:bH prog 62 5=some (11,52):=by kernel_rfl
def zAc:bH prog 62 6=some (12,60):=by kernel_rfl
def zCy:bH prog 93 0=some (0,59):=by kernel_rfl
def zEs:bH prog 93 1=some (2,9):=by kernel_rfl
def zAi:bH prog 93 2=some (3,72):=by kernel_rfl
def fl54:flatK prog 54=some [.int,.int]:=by kernel_rfl
def wX:fP prog 52=true:=by kernel_rfl
def zDc:fP prog 60=true:=by kernel_rfl
def zBs:fP prog 72=true:=by kernel_rfl
def sz62:(prog.info? 62).map (·.size)=some 13:=by kernel_rfl
def sz93:(prog.info? 93).map (·.size)=some 4:=by kernel_rfl
def un4:prog.underlying 4=some .bool:=by kernel_rfl
def zr62:dZ prog 62=some [(Value.int IntKind.i64 0),(Value.string (ByteArray.mk #[])),(Value.int IntKind.i64 0),(Value.int IntKind.i64 0),(Value.int IntKind.i64 0),(Value.int IntKind.i64 0),(Value.int IntKind.i64 0),(Value.int IntKind.i64 0),(Value.int IntKind.i64 0),(Value.int IntKind.i64 0),(Value.slice none 0 0),(Value.slice none 0 0),(Value.slice none 0 0)]:=by kernel_rfl
def zr93:dZ prog 93=some [(Value.int IntKind.i64 0),(Value.slice none 0 0),(Value.string (ByteArray.mk #[])),(Value.slice none 0 0)]:=by kernel_rfl
def expr_operands (op:Int):
    Pur cfg 289 [vI op] (vI (bT op)):=by
 refine zV func289 O ntmps289 results289 O ?_
 exact k8
def wM (e:Ex):
    Pur cfg 179 [vE e] (vB (fS e)):=by
 refine zV func179 O ntmps179 results179 O fun z hz=>Y O<|og O fun b1=>oi O<|Y O<|zC O wH<|zE one3 (J 0 O) O<|zT O (zAh O O O)<|G O<|rL0 O (fun g1_3=>zG O wH O) O<|rL1 7 O (fun g1_3=>zJ O one3 O (J 0 O) O) O<|rL1 8 O (fun g1_3=>zAh O O O) O<|kH O (fun h=>h)<|oi O<|zM<|zX O ?_
 exact O
def zSk (op:Int):
    Pur cfg 297 [vI op] (vI (bT op)):=by
 refine zV func297 O ntmps297 results297 O ?_
 exact k8
def zEj (e:Ex):
    Pur cfg 173 [vE e] (vB (fS e)):=by
 refine zV func173 O ntmps173 results173 O fun z hz=>Y O<|og O fun b1=>oi O<|Y O<|zC O wH<|zE one3 (J 0 O) O<|zT O (wG O O O)<|G O<|rL0 O (fun g1_3=>zG O wH O) O<|rL1 7 O (fun g1_3=>zJ O one3 O (J 0 O) O) O<|rL1 8 O (fun g1_3=>zAh O O O) O<|kH O (fun h=>h)<|oi O<|zM<|zX O ?_
 exact O
def zKz (op i:Int):
    Pur cfg 291 [vI op,vI i] (vB (nZ op i)):=by
 refine zV func291 O ntmps291 results291 O fun z hz=>oh O O<|zF<|oh O O<|zS<|zF<|Y O<|yT O<|oi O<|qO O (fun c1=>?_) (fun c1=>?_)
 ·exact v30
 ·refine Y O<|yT O<|oi O<|qO O (fun c2=>?_) (fun c2=>?_)
  ·exact v30
  ·refine zP O<|yT O<|oi O<|qO O (fun c3=>?_) (fun c3=>?_)
   ·refine oh O O<|zM<|zX O ?_
    exact n7
   ·refine zH<|ol O O<|yT O<|G O<|rL0 O (fun g6_2=>zQ O O) O<|rL1 13 O (fun g6_2=>yX O O O) O<|kH O (fun h=>h)<|oi O<|zM<|zX O ?_
    exact n7
def ref14_wants (op i:Int):
    Pur cfg 298 [vI op,vI i] (vB (nZ op i)):=by
 refine zV func298 O ntmps298 results298 O fun z hz=>oh O O<|ol O O<|yT O<|G O<|rL0 O (fun g1_2=>zQ O O) O<|rL1 8 O (fun g1_2=>yX O O O) O<|kH O (fun h=>h)<|G O<|rL0 O (fun g1_6=>zQ O O) O<|rL1 12 O (fun g1_6=>yX O O O) O<|r_or O (fun h=>(lzf h))<|G O<|rL0 O (fun g1_10=>zQ O O) O<|rL1 16 O (fun g1_10=>yX O O O) O<|r_or O (fun h=>(lzf h))<|G O<|rL0 O (fun g1_14=>zQ O O) O<|rL1 20 O (fun g1_14=>yX O O O) O<|r_or O (fun h=>(lzf h))<|oi O<|zM<|zX O ?_
 exact O
def zXk (l:Lf):
    Pur cfg 284 [dC l] (vB (pU l)):=by
 refine zV func284 O ntmps284 results284 O fun z hz=>Y O<|og O fun b1=>oi O<|Y O<|zC O zCc<|zE W (J 0 O) O<|yT O<|G O<|rL0 O (fun g1_3=>zG O kC O) O<|rL1 7 O (fun g1_3=>zJ O wA O (J 0 O) O) O<|rL1 8 O (fun g1_3=>yG O D O) O<|rL1 9 O (fun g1_3=>yX O O O) O<|kH O (fun h=>h)<|oi O<|zM<|zX O ?_
 exact O
def zXj (x:Ix):
    Pur cfg 287 [jN x] (vB (lO x)):=by
 refine zV func287 O ntmps287 results287 O fun z hz=>Y O<|og O fun b1=>oi O<|zF<|Y O<|zC O zEs<|zE one9 (J 0 O) O<|wC O<|zA<|zK O ?_ ?_<;>intro c1<;>try simp only [sx] at c1
 ·refine Y O<|zC O zAi<|zE zBs (J 0 O) O<|qC O el72<|yT O<|oi O<|zM<|zX O ?_
  rw [lO,zAp c1];rfl
 ·refine zH<|Y O<|zC O zCy<|zN yV (J 0 O) O<|qL O uB (zXk x.Lin) (vlr O)<|oi O<|zM<|zX O ?_
  rw [lO,kK c1];rfl
def expr_syntax_1 (x:Ix):
    Pur cfg 286 [jN x] (vB (!lO x)):=by
 refine zV func286 O ntmps286 results286 O fun z hz=>Y O<|og O fun b1=>oi O<|Y O<|zN zGp (J 0 O) O<|qL O uB (zXj x) (vlr O)<|kU O<|oi O<|zM<|zX O ?_
 exact O
def expr_names_1 (x:Ix):
    Pur cfg 288 [jN x] (vB (!vX x)):=by
 refine zV func288 O ntmps288 results288 O fun z hz=>Y O<|og O fun b1=>oi O<|Y O<|zC O zEs<|zE one9 (J 0 O) O<|zT O (zIe O O O)<|G O<|rL0 O (fun g1_3=>zG O zEs O) O<|rL1 7 O (fun g1_3=>zJ O one9 O (J 0 O) O) O<|rL1 8 O (fun g1_3=>qP O uB (zCw _) (vlr O)) O<|rL1 9 O (fun g1_3=>wV O O) O<|kH O (fun h=>h)<|oi O<|zM<|zX O ?_
 exact ai vB (by unfold vX;simp)
def expr_rank_1 (x:Ix):
    Pur cfg 290 [jN x] (vB (!vQ x)):=by
 refine zV func290 O ntmps290 results290 O fun z hz=>Y O<|og O fun b1=>oi O<|Y O<|zC O zAi<|zE zBs (J 0 O) O<|qC O el72<|zT O (yN O O O)<|oi O<|zM<|zX O ?_
 exact ai vB (by unfold vQ;simp)
def expr_syntax (e:Ex) (he:e.wt<=6000000000000):
    Pur cfg 256 [vE e] (vB (jO e)):=by
 refine zV func256 O ntmps256 results256 O ?_
 intro z hz
 obtain ⟨hL,hI,hA⟩:=e.parts he
 refine Y O<|og O fun b1=>oi O<|zF<|yH 13 mixed uB O O<|oo O (zG O wH O)<|oo O (zJ O one3 O (J 0 O) O)<|oo O (yX O O O)<|oo O (zG O wH O)<|oo O (zJ O one3 O (J 0 O) O)<|oo O (yX O O O)<|oo O (zQ O O)<|qU [] O O O O gv1 T (fun g1_6=>zG O wH O) O<|qU [(14,_)] O O O O gv1 ⟨O,O,T⟩ (fun g1_6=>zJ O one3 O (J 0 O) O) O<|qU [(15,_)] O O O O gv1 ⟨O,O,T⟩ (fun g1_6=>yX O O O) O<|oo O (zCo O O O O (fun h=>(lzf h)))<|oo O (yR O O)<|oo O (yR O O)<|kE<|zA<|zF<|yH 8 mixed uB O O<|oo O (zG O wH O)<|oo O (zJ O one3 O (J 0 O) O)<|oo O (yX O O O)<|oo O (zG O wH O)<|oo O (zJ O one3 O (J 0 O) O)<|oo O (yX O O O)<|oo O (yR O O)<|oo O (yR O O)<|kE<|zA<|zF<|zS<|Y O<|zC O wH<|zE one3 (J 0 O) O<|yC O<|G O<|rL0 O (fun g3_3=>zG O wH O) O<|rL1 29 O (fun g3_3=>zJ O one3 O (J 0 O) O) O<|rL1 30 O (fun g3_3=>yN O O O) O<|r_or O (fun h=>(lzf h))<|oi O<|zK O (fun c1=>?_) (fun c1=>?_)
 ·refine oh O O<|zM<|zX O ?_
  exact ai vB (by simp only [jO,c1,aU,cf,aQ,ck,bj,dj])
 ·refine ol O O<|kU O<|G O<|rL0 O (fun g5_2=>zG O zMj O) O<|rL1 37 O (fun g5_2=>qB O zBy O (J 0 O) O) O<|rL0 O (fun g5_2=>zBx O zr54 pl54 O) O<|rLz [(38,_),(39,_)] O gv1 ⟨O,O,O,O,T⟩ (fun g5_2=>zBg O fl54 O O O) O<|kH O (fun h=>h)<|oi O<|zK O (fun c2=>?_) (fun c2=>?_)
  ·have c2:(!decide (e.Op=1)&& !cD e.Val)=true:=c2
   refine oh O O<|zM<|zX O ?_
   exact ai vB (by simp only [jO,c2,aU,cf,aQ,ck,bj,dj])
  ·have c2:(!decide (e.Op=1)&& !cD e.Val)=false:=c2
   refine ol O O<|kU O<|G O<|rL0 O (fun g7_2=>zG O zGl O) O<|rL1 46 O (fun g7_2=>qB O yE O (J 0 O) O) O<|rL0 O (fun g7_2=>zBx O v pl56 O) O<|rLz [(47,_),(48,_)] O gv1 ⟨O,O,O,O,T⟩ (fun g7_2=>zBg O fl56 O O O) O<|kH O (fun h=>h)<|oi O<|zK O (fun c3=>?_) (fun c3=>?_)
   ·have c3:(!(decide (e.Op=1)||decide (e.Op=12))&& !ty0 e.Ty)=true:=c3
    refine oh O O<|zM<|zX O ?_
    exact ai vB (by simp only [jO,c3,aU,cf,aQ,ck,bj,dj])
   ·have c3:(!(decide (e.Op=1)||decide (e.Op=12))&& !ty0 e.Ty)=false:=c3
    refine ol O O<|kU O<|G O<|rL0 O (fun g9_2=>zG O zDt O) O<|rL1 55 O (fun g9_2=>qB O yV O (J 0 O) O) O<|rL1 56 O (fun g9_2=>qP O uB (zXk e.Lin) (vlr O)) O<|rL1 57 O (fun g9_2=>wV O O) O<|kH O (fun h=>h)<|oi O<|zK O (fun c4=>?_) (fun c4=>?_)
    ·refine oh O O<|zM<|zX O ?_
     exact ai vB (by simp only [jO,c4,aU,cf,aQ,ck,bj,dj])
    ·refine ol O O<|kU O<|G O<|rL0 O (fun g11_2=>zG O zIa O) O<|rL1 64 O (fun g11_2=>zJ O one9 O (J 0 O) O) O<|rL1 65 O (fun g11_2=>zIe O O O) O<|rL1 66 O (fun g11_2=>zQ O O) O<|rLz [] O gv2 T (fun g11_6=>zG O wB O) O<|rLz [(68,_)] O gv2 ⟨O,O,T⟩ (fun g11_6=>zJ O wX O (J 0 O) O) O<|rLz [(69,_)] O gv2 ⟨O,O,T⟩ (fun g11_6=>yG O el52 O) O<|rLz [(70,_)] O gv2 ⟨O,O,T⟩ (fun g11_6=>yN O O O) O<|rL1 67 O (fun g11_2=>zCo O O O O (fun h=>kR uC (lzf h))) O<|kH O (fun h=>h)<|oi O<|zK O (fun c5=>?_) (fun c5=>?_)
     ·refine oh O O<|zM<|zX O ?_
      exact ai vB (by simp only [jO,c5,aU,cf,aQ,ck,bj,dj])
     ·refine zH<|Y O<|zC O wB<|zE wX (J 0 O) O<|qL O uB (zCq e.Idx _ (fun x=> !lO x) hI (fun x _=>FnPur.of_pur (first:=[]) (cap:=[]) uB (expr_syntax_1 x))) (vlr O)<|kU O<|oi O<|zM<|zX O ?_
      exact ai vB (by rw [zLs];simp only [jO,c1,c2,c3,c4,c5,aU,cf,aQ,ck,bj,dj])
def expr_names (e:Ex) (he:e.wt<=6000000000000):
    Pur cfg 257 [vE e] (vB (nX e)):=by
 refine zV func257 O ntmps257 results257 O ?_
 intro z hz
 obtain ⟨hL,hI,hA⟩:=e.parts he
 refine Y O<|og O fun b1=>oi O<|zF<|Y O<|zC O wH<|zE one3 (J 0 O) O<|yT O<|G O<|rL0 O (fun g1_3=>zG O zIa O) O<|rL1 7 O (fun g1_3=>zJ O one9 O (J 0 O) O) O<|rL1 8 O (fun g1_3=>qP O uB (zCw _) (vlr O)) O<|rL1 9 O (fun g1_3=>wV O O) O<|kH O (fun h=>h)<|zA<|zK O (fun c1=>?_) (fun c1=>?_)
 ·refine oh O O<|zM<|zX O ?_
  exact ai vB (by simp only [nX,c1,aU,bj])
 ·refine zH<|Y O<|zC O wB<|zE wX (J 0 O) O<|qL O uB (zCq e.Idx _ (fun x=> !vX x) hI (fun x _=>FnPur.of_pur (first:=[]) (cap:=[]) uB (expr_names_1 x))) (vlr O)<|kU O<|oi O<|zM<|zX O ?_
  exact ai vB (by rw [zLs];simp only [nX,c1,cf,aQ])
def expr_rank (e:Ex) (he:e.wt<=6000000000000):
    Pur cfg 258 [vE e] (vB (pV e)):=by
 refine zV func258 O ntmps258 results258 O ?_
 intro z hz
 obtain ⟨hL,hI,hA⟩:=e.parts he
 refine Y O<|og O fun b1=>oi O<|zF<|zF<|yH 13 mixed uB O O<|oo O (zG O zAc O)<|oo O (zJ O zDc O (J 0 O) O)<|oo O (yG O el60 O)<|oo O (zG O wH O)<|oo O (zJ O one3 O (J 0 O) O)<|oo O (qP O uB (expr_operands _) (vlr O))<|oo O (wW O O O)<|oo O (zQ O O)<|qU [] O O O O gv1 T (fun g1_7=>zG O wB O) O<|qU [(11,_)] O O O O gv1 ⟨O,O,T⟩ (fun g1_7=>zJ O wX O (J 0 O) O) O<|qU [(12,_)] O O O O gv1 ⟨O,O,T⟩ (fun g1_7=>yG O el52 O) O<|qU [(13,_)] O O O O gv1 ⟨O,O,T⟩ (fun g1_7=>yN O O O) O<|oo O (zCo O O O O (fun h=>(lzf h)))<|kE<|zA<|zK O (fun c1=>?_) (fun c1=>?_)
 ·refine oh O O<|zM<|zX O ?_
  exact ai vB (by simp only [pV,c1,aU,bj])
 ·refine zH<|Y O<|zC O wB<|zE wX (J 0 O) O<|qL O uB (zCq e.Idx _ (fun x=> !vQ x) hI (fun x _=>FnPur.of_pur (first:=[]) (cap:=[]) uB (expr_rank_1 x))) (vlr O)<|kU O<|oi O<|zM<|zX O ?_
  exact ai vB (by rw [zLs];simp only [pV,c1,cf,aQ])
def expr_types (e:Ex) (he:e.wt<=6000000000000):
    Pur cfg 259 [vE e] (vB (lQ e)):=by
 refine zV func259 O ntmps259 results259 O ?_
 intro z hz
 obtain ⟨hL,hI,hA⟩:=e.parts he
 refine Y O<|og O fun b1=>oi O<|zF<|Y O<|zC O wH<|zE one3 (J 0 O) O<|yT O<|G O<|rL0 O (fun g1_3=>zG O wH O) O<|rL1 9 O (fun g1_3=>zJ O one3 O (J 0 O) O) O<|rL1 10 O (fun g1_3=>yX O O O) O<|r_or O (fun h=>(lzf h))<|G O<|rL0 O (fun g1_8=>zG O zGl O) O<|rL1 14 O (fun g1_8=>qB O yE O (J 0 O) O) O<|rL1 15 O (fun g1_8=>qP O uB (wY _) (vlr O)) O<|rL1 16 O (fun g1_8=>wW O O O) O<|kH O (fun h=>h)<|zA<|zK O (fun c1=>?_) (fun c1=>?_)
 ·rw [tyErr_dec] at c1
  refine oh O O<|zM<|zX O ?_
  exact ai vB (by simp only [lQ,c1,aU,bj])
 ·rw [tyErr_dec] at c1
  refine zH<|zF<|Y O<|zC O zAc<|zE zDc (J 0 O) O<|qC O el60<|oi O<|zS<|zW ⟨[(22,.c _),(1,.c _),(20,.c _),(21,.c _)],[_]⟩ (Weak.mk [true] ⟨zD,zD,zD,zD,T⟩ O)<|qG 1 0 O O (Nat) (fun k=>[(22,vI k)]) (fun k=>[]) (fun k=>k<=e.Args.length/\(mM e.Op 0 e.Args=mM e.Op k (e.Args.drop k))) (fun k=>e.Args.length-k) ⟨0,⟨zB,O⟩,Weak.mk [true] ⟨zD,zD,zD,zD,T⟩ O⟩ ?_
  rintro k ⟨hk,hp⟩
  refine Y O<|yC O<|zA<|zF<|zK O ?_ ?_<;>intro c2<;>try simp only [sx] at c2
  ·obtain ⟨a,ha⟩:=qX e.Args k zB
   refine zH<|zF<|zS<|ol O O<|qE O el60 zB (zJz uC)<|zN yZ qF O<|qA O O (qI nr O zr62 O) ?_
   rintro _ _ ⟨b2,rfl,rfl⟩
   refine G O<|rStR 0 sz62 O<|zA<|zF<|yH 7 mixed uB O O<|oo O (qB O yZ O (J 0 O) O)<|oo O (qP O uB (wM a) (vlr O))<|oo O (zG O wH O)<|oo O (zJ O one3 O (J 1 O) O)<|oo O (zQ O O)<|oo O (qP O uB (zKz _ _) (vlr O))<|oo O (zKf O un4 O O)<|kE<|zA<|zK O (fun c3=>?_) (fun c3=>?_)
   ·exact v81
   ·refine zH<|zP O<|qH O ⟨zB,zB⟩<|G O<|zA ?_
    refine ⟨k+1,⟨zB,(by rw [hp,qJ ha,mM,show (fS a==nZ e.Op k)=true by simpa using c3,aQ];rfl)⟩,zB,Weak.mk [false,true] ⟨zD,zD,zD,zD,T⟩ O⟩
  ·refine qM<|oh O O<|zM<|zX O ?_
   exact ai vB (by simp only [lQ,c1,cf,aQ];rw [hp,kL zB];rfl)
def ref14_typed (e:Ex) (he:e.wt<=6000000000000):
    Pur cfg 275 [vE e] (vB (lQ e)):=by
 refine zV func275 O ntmps275 results275 O ?_
 intro z hz
 obtain ⟨hL,hI,hA⟩:=e.parts he
 refine Y O<|og O fun b1=>oi O<|zF<|Y O<|zC O wH<|zE one3 (J 0 O) O<|yT O<|G O<|rL0 O (fun g1_3=>zG O wH O) O<|rL1 8 O (fun g1_3=>zJ O one3 O (J 0 O) O) O<|rL1 9 O (fun g1_3=>yX O O O) O<|r_or O (fun h=>(lzf h))<|G O<|rL0 O (fun g1_8=>zG O zGl O) O<|rL1 13 O (fun g1_8=>qB O yE O (J 0 O) O) O<|rL1 14 O (fun g1_8=>qP O uB (zJf _) (vlr O)) O<|rL1 15 O (fun g1_8=>wV O O) O<|kH O (fun h=>h)<|zA<|zK O (fun c1=>?_) (fun c1=>?_)
 ·refine oh O O<|zM<|zX O ?_
  exact ai vB (by simp only [lQ,c1,aU,bj])
 ·refine zH<|zF<|oh O O<|zS<|zW ⟨[(3,.c _),(1,.c _)],[_]⟩ (Weak.mk [true] ⟨zD,zD,T⟩ O)<|qG 1 0 O O (Nat) (fun k=>[(3,vI k)]) (fun k=>[]) (fun k=>k<=e.Args.length/\(mM e.Op 0 e.Args=mM e.Op k (e.Args.drop k))) (fun k=>e.Args.length-k) ⟨0,⟨zB,O⟩,Weak.mk [true] ⟨zD,zD,T⟩ O⟩ ?_
  rintro k ⟨hk,hp⟩
  refine zF<|ol O O<|zC O zAc<|zE zDc (J 0 O) O<|qC O el60<|yC O<|zA<|zK O ?_ ?_<;>intro c2<;>try simp only [sx] at c2
  ·obtain ⟨a,ha⟩:=qX e.Args k zB
   refine zH<|zF<|zS<|zF<|yH 11 mixed uB O O<|oo O (zG O zAc O)<|oo O (zJ O zDc O (J 0 O) O)<|oo O (zQ O O)<|oo O (qK O el60 O O zB (zJz uC))<|oo O (qB O yZ O qF O)<|oo O (qP O uB (zEj a) (vlr O))<|oo O (zG O wH O)<|oo O (zJ O one3 O (J 0 O) O)<|oo O (zQ O O)<|oo O (qP O uB (ref14_wants _ _) (vlr O))<|oo O (zKf O un4 O O)<|kE<|zA<|zK O (fun c3=>?_) (fun c3=>?_)
   ·exact v81
   ·refine zH<|zP O<|G O<|qH O ⟨zB,zB⟩<|G O<|zA ?_
    refine ⟨k+1,⟨zB,(by rw [hp,qJ ha,mM,show (fS a==nZ e.Op k)=true by simpa using c3,aQ];rfl)⟩,zB,Weak.mk [true] ⟨zD,zD,T⟩ O⟩
  ·refine qM<|oh O O<|zM<|zX O ?_
   exact ai vB (by simp only [lQ,c1,cf,aQ];rw [hp,kL zB];rfl)
def ref14_plain (e:Ex) (he:e.wt<=6000000000000):
    Pur cfg 272 [vE e] (vB (jO e)):=by
 refine zV func272 O ntmps272 results272 O ?_
 intro z hz
 obtain ⟨hL,hI,hA⟩:=e.parts he
 refine Y O<|og O fun b1=>oi O<|zF<|Y O<|zC O wH<|zE one3 (J 0 O) O<|yC O<|G O<|rL0 O (fun g1_3=>zG O wH O) O<|rL1 9 O (fun g1_3=>zJ O one3 O (J 0 O) O) O<|rL1 10 O (fun g1_3=>yN O O O) O<|r_or O (fun h=>(lzf h))<|zA<|zK O (fun c1=>?_) (fun c1=>?_)
 ·refine oh O O<|zM<|zX O ?_
  exact ai vB (by simp only [jO,c1,aU,bj])
 ·refine zH<|zF<|Y O<|zC O wH<|zE one3 (J 0 O) O<|yM O<|G O<|rL0 O (fun g3_3=>zG O zMj O) O<|rL1 17 O (fun g3_3=>qB O zBy O (J 0 O) O) O<|rL0 O (fun g3_3=>zBx O zr54 pl54 O) O<|rLz [(18,_),(19,_)] O gv1 ⟨O,O,O,O,T⟩ (fun g3_3=>zBg O fl54 O O O) O<|kH O (fun h=>h)<|G O<|rL0 O (fun g3_9=>zG O wH O) O<|rL1 23 O (fun g3_9=>zJ O one3 O (J 0 O) O) O<|rL1 24 O (fun g3_9=>wW O O O) O<|rL1 25 O (fun g3_9=>zQ O O) O<|rLz [] O gv2 T (fun g3_13=>zG O wH O) O<|rLz [(27,_)] O gv2 ⟨O,O,T⟩ (fun g3_13=>zJ O one3 O (J 0 O) O) O<|rLz [(28,_)] O gv2 ⟨O,O,T⟩ (fun g3_13=>wW O O O) O<|rL1 26 O (fun g3_9=>zAd O O O (fun h=>kR uC h) O) O<|rL1 30 O (fun g3_9=>zQ O O) O<|rLz [] O gv2 T (fun g3_18=>zG O zGl O) O<|rLz [(32,_)] O gv2 ⟨O,O,T⟩ (fun g3_18=>qB O yE O (J 0 O) O) O<|rLz [] O gv2 T (fun g3_18=>zBx O v pl56 O) O<|rLz [(33,_),(34,_)] O gv2 ⟨O,O,O,O,T⟩ (fun g3_18=>zBg O fl56 O O O) O<|rL1 31 O (fun g3_9=>zAd O O O (fun h=>kR uC h) O) O<|r_or O (fun h=>(lzf h))<|zA<|zK O (fun c2=>?_) (fun c2=>?_)
  ·have h2:=plain2 (e:=e) c2
   refine oh O O<|zM<|zX O ?_
   exact ai vB (syn2 h2)
  ·have h2:=plain2 (e:=e) c2
   refine zH<|zF<|Y O<|zC O wH<|zE one3 (J 0 O) O<|yM O<|G O<|rL0 O (fun g5_3=>zG O zDt O) O<|rL1 42 O (fun g5_3=>zG O zCc O) O<|rL1 43 O (fun g5_3=>zJ O W O (J 0 O) O) O<|rL1 44 O (fun g5_3=>wW O O O) O<|rL1 45 O (fun g5_3=>zQ O O) O<|rLz [] O gv2 T (fun g5_8=>zG O zDt O) O<|rLz [(47,_)] O gv2 ⟨O,O,T⟩ (fun g5_8=>zG O kC O) O<|rLz [(48,_)] O gv2 ⟨O,O,T⟩ (fun g5_8=>zJ O wA O (J 0 O) O) O<|rLz [(49,_)] O gv2 ⟨O,O,T⟩ (fun g5_8=>yG O D O) O<|rLz [(50,_)] O gv2 ⟨O,O,T⟩ (fun g5_8=>yN O O O) O<|rL1 46 O (fun g5_3=>zCo O O O O (fun h=>kR uC (lzf h))) O<|kH O (fun h=>h)<|G O<|rL0 O (fun g5_16=>zG O wH O) O<|rL1 55 O (fun g5_16=>zJ O one3 O (J 0 O) O) O<|rL1 56 O (fun g5_16=>wW O O O) O<|rL1 57 O (fun g5_16=>zQ O O) O<|rLz [] O gv2 T (fun g5_20=>zG O zIa O) O<|rLz [(59,_)] O gv2 ⟨O,O,T⟩ (fun g5_20=>zJ O one9 O (J 0 O) O) O<|rLz [(60,_)] O gv2 ⟨O,O,T⟩ (fun g5_20=>zIe O O O) O<|rLz [(61,_)] O gv2 ⟨O,O,T⟩ (fun g5_20=>zQ O O) O<|rLz [] O gv2 T (fun g5_24=>zG O wB O) O<|rLz [(63,_)] O gv2 ⟨O,O,T⟩ (fun g5_24=>zJ O wX O (J 0 O) O) O<|rLz [(64,_)] O gv2 ⟨O,O,T⟩ (fun g5_24=>yG O el52 O) O<|rLz [(65,_)] O gv2 ⟨O,O,T⟩ (fun g5_24=>yN O O O) O<|rLz [(62,_)] O gv2 ⟨O,O,T⟩ (fun g5_20=>zCo O O O O (fun h=>kR uC (lzf h))) O<|rL1 58 O (fun g5_16=>zAd O O O (fun h=>kR uC h) O) O<|r_or O (fun h=>(lzf h))<|zA<|zK O (fun c3=>?_) (fun c3=>?_)
   ·have h3:=plain3 (e:=e) c3
    refine oh O O<|zM<|zX O ?_
    exact ai vB (syn3 h3)
   ·have h3:=plain3 (e:=e) c3
    refine zH<|zF<|oh O O<|zS<|zW ⟨[(3,.c _),(1,.c _)],[_]⟩ (Weak.mk [true] ⟨zD,zD,T⟩ O)<|qG 1 0 O O (Nat) (fun k=>[(3,vI k)]) (fun k=>[]) (fun k=>k<=e.Idx.length/\(e.Idx.all lO=(e.Idx.drop k).all lO)) (fun k=>e.Idx.length-k) ⟨0,⟨zB,O⟩,Weak.mk [true] ⟨zD,zD,T⟩ O⟩ ?_
    rintro k ⟨hk,hp⟩
    refine zF<|ol O O<|zC O wB<|zE wX (J 0 O) O<|qC O el52<|yC O<|zA<|zK O ?_ ?_<;>intro c4<;>try simp only [sx] at c4
    ·obtain ⟨x,hx⟩:=qX e.Idx k zB
     refine zH<|zF<|zS<|Y O<|zC O wB<|zE wX (J 0 O) O<|G O<|qE O el52 zB (getm uC)<|zN zGp qF O<|qA O O (qI ns O zr93 O) ?_
     rintro _ _ ⟨b2,rfl,rfl⟩
     refine rStR 0 sz93 O<|zA<|Y O<|zC O zEs<|zE one9 (J 0 O) O<|wC O<|G O<|rL0 O (fun g11_3=>zG O zAi O) O<|rL1 86 O (fun g11_3=>zJ O zBs O (J 0 O) O) O<|rL1 87 O (fun g11_3=>yG O el72 O) O<|rL1 88 O (fun g11_3=>yN O O O) O<|kH O (fun h=>h)<|G O<|rL0 O (fun g11_9=>zG O zEs O) O<|rL1 92 O (fun g11_9=>zJ O one9 O (J 0 O) O) O<|rL1 93 O (fun g11_9=>zIe O O O) O<|rL1 94 O (fun g11_9=>zQ O O) O<|rLz [] O gv2 T (fun g11_13=>zG O zCy O) O<|rLz [(96,_)] O gv2 ⟨O,O,T⟩ (fun g11_13=>zG O zCc O) O<|rLz [(97,_)] O gv2 ⟨O,O,T⟩ (fun g11_13=>zJ O W O (J 0 O) O) O<|rLz [(98,_)] O gv2 ⟨O,O,T⟩ (fun g11_13=>wW O O O) O<|rLz [(99,_)] O gv2 ⟨O,O,T⟩ (fun g11_13=>zQ O O) O<|rLz [] O gv2 T (fun g11_18=>zG O zCy O) O<|rLz [(101,_)] O gv2 ⟨O,O,T⟩ (fun g11_18=>zG O kC O) O<|rLz [(102,_)] O gv2 ⟨O,O,T⟩ (fun g11_18=>zJ O wA O (J 0 O) O) O<|rLz [(103,_)] O gv2 ⟨O,O,T⟩ (fun g11_18=>yG O D O) O<|rLz [(104,_)] O gv2 ⟨O,O,T⟩ (fun g11_18=>yN O O O) O<|rLz [(100,_)] O gv2 ⟨O,O,T⟩ (fun g11_13=>zCo O O O O (fun h=>kR uC (lzf h))) O<|rL1 95 O (fun g11_9=>zAd O O O (fun h=>kR uC h) O) O<|r_or O (fun h=>(lzf h))<|zA<|zK O (fun c5=>?_) (fun c5=>?_)
     ·have h5:=well_dec (x:=x) c5
      refine oh O O<|zM<|zX O ?_
      exact ai vB (by rw [jO,zYh hx (p:=lO) (by simpa using h5)];simp)
     ·have h5:=well_dec (x:=x) c5
      refine zH<|zP O<|G O<|qH O ⟨zB,zB⟩<|G O<|zA ?_
      refine ⟨k+1,⟨zB,zUq hx hp (by simpa using h5)⟩,zB,Weak.mk [false,true] ⟨zD,zD,T⟩ O⟩
    ·refine qM<|oh O O<|zM<|zX O ?_
     exact ai vB (syn5 c1 h2 h3 (all_end hp zB))
def ref14_named (e:Ex) (he:e.wt<=6000000000000):
    Pur cfg 273 [vE e] (vB (nX e)):=by
 refine zV func273 O ntmps273 results273 O ?_
 intro z hz
 obtain ⟨hL,hI,hA⟩:=e.parts he
 refine Y O<|og O fun b1=>oi O<|zF<|Y O<|zC O wH<|zE one3 (J 0 O) O<|yT O<|G O<|rL0 O (fun g1_3=>zG O zIa O) O<|rL1 8 O (fun g1_3=>zJ O one9 O (J 0 O) O) O<|rL1 9 O (fun g1_3=>qP O uB (zHr _) (vlr O)) O<|rL1 10 O (fun g1_3=>wV O O) O<|kH O (fun h=>h)<|zA<|zK O (fun c1=>?_) (fun c1=>?_)
 ·refine oh O O<|zM<|zX O ?_
  exact ai vB (by simp only [nX,c1,aU,bj])
 ·refine zH<|zF<|oh O O<|zS<|zW ⟨[(3,.c _),(1,.c _)],[_]⟩ (Weak.mk [true] ⟨zD,zD,T⟩ O)<|qG 1 0 O O (Nat) (fun k=>[(3,vI k)]) (fun k=>[]) (fun k=>k<=e.Idx.length/\(e.Idx.all vX=(e.Idx.drop k).all vX)) (fun k=>e.Idx.length-k) ⟨0,⟨zB,O⟩,Weak.mk [true] ⟨zD,zD,T⟩ O⟩ ?_
  rintro k ⟨hk,hp⟩
  refine zF<|ol O O<|zC O wB<|zE wX (J 0 O) O<|qC O el52<|yC O<|zA<|zK O ?_ ?_<;>intro c2<;>try simp only [sx] at c2
  ·obtain ⟨x,hx⟩:=qX e.Idx k zB
   refine zH<|zF<|zS<|Y O<|zC O wB<|zE wX (J 0 O) O<|G O<|qE O el52 zB (getm uC)<|qR O zEs<|zE one9 qF O<|zT O (zIe O O O)<|G O<|rL0 O (fun g6_7=>zG O wB O) O<|rL1 28 O (fun g6_7=>zJ O wX O (J 0 O) O) O<|rL0 O (fun g6_7=>zQ O O) O<|rLz [(29,_),(30,_)] O gv1 ⟨O,O,O,O,T⟩ (fun g6_7=>qK O el52 O O zB (getm uC)) O<|rL1 31 O (fun g6_7=>qV O zEs O) O<|rL1 32 O (fun g6_7=>zJ O one9 O qF O) O<|rL1 33 O (fun g6_7=>qP O uB (zHr _) (vlr O)) O<|rL1 34 O (fun g6_7=>wV O O) O<|kH O (fun h=>h)<|zA<|zK O (fun c3=>?_) (fun c3=>?_)
   ·refine oh O O<|zM<|zX O ?_
    exact ai vB (by rw [nX,zYh hx (p:=vX) (by unfold vX;rw [c3];rfl)];simp)
   ·refine zH<|zP O<|G O<|qH O ⟨zB,zB⟩<|G O<|zA ?_
    refine ⟨k+1,⟨zB,zUq hx hp (by unfold vX;rw [c3];rfl)⟩,zB,Weak.mk [true] ⟨zD,zD,T⟩ O⟩
  ·refine qM<|oh O O<|zM<|zX O ?_
   exact ai vB (by rw [nX,c1,all_end hp zB];rfl)
def ref14_ranked (e:Ex) (he:e.wt<=6000000000000):
    Pur cfg 274 [vE e] (vB (pV e)):=by
 refine zV func274 O ntmps274 results274 O ?_
 intro z hz
 obtain ⟨hL,hI,hA⟩:=e.parts he
 refine Y O<|og O fun b1=>oi O<|zF<|zF<|yH 13 mixed uB O O<|oo O (zG O zAc O)<|oo O (zJ O zDc O (J 0 O) O)<|oo O (yG O el60 O)<|oo O (zG O wH O)<|oo O (zJ O one3 O (J 0 O) O)<|oo O (qP O uB (zSk _) (vlr O))<|oo O (wW O O O)<|oo O (zQ O O)<|qU [] O O O O gv1 T (fun g1_7=>zG O wB O) O<|qU [(12,_)] O O O O gv1 ⟨O,O,T⟩ (fun g1_7=>zJ O wX O (J 0 O) O) O<|qU [(13,_)] O O O O gv1 ⟨O,O,T⟩ (fun g1_7=>yG O el52 O) O<|qU [(14,_)] O O O O gv1 ⟨O,O,T⟩ (fun g1_7=>yN O O O) O<|oo O (zCo O O O O (fun h=>(lzf h)))<|kE<|zA<|zK O (fun c1=>?_) (fun c1=>?_)
 ·refine oh O O<|zM<|zX O ?_
  exact ai vB (by simp only [pV,c1,aU,bj])
 ·refine zH<|zF<|oh O O<|zS<|zW ⟨[(3,.c _),(1,.c _)],[_]⟩ (Weak.mk [true] ⟨zD,zD,T⟩ O)<|qG 1 0 O O (Nat) (fun k=>[(3,vI k)]) (fun k=>[]) (fun k=>k<=e.Idx.length/\(e.Idx.all vQ=(e.Idx.drop k).all vQ)) (fun k=>e.Idx.length-k) ⟨0,⟨zB,O⟩,Weak.mk [true] ⟨zD,zD,T⟩ O⟩ ?_
  rintro k ⟨hk,hp⟩
  refine zF<|ol O O<|zC O wB<|zE wX (J 0 O) O<|qC O el52<|yC O<|zA<|zK O ?_ ?_<;>intro c2<;>try simp only [sx] at c2
  ·obtain ⟨x,hx⟩:=qX e.Idx k zB
   refine zH<|zF<|zS<|Y O<|zC O wB<|zE wX (J 0 O) O<|G O<|qE O el52 zB (getm uC)<|qR O zAi<|zE zBs qF O<|qC O el72<|zT O (yN O O O)<|zA<|zK O (fun c3=>?_) (fun c3=>?_)
   ·refine oh O O<|zM<|zX O ?_
    exact ai vB (by rw [pV,zYh hx (p:=vQ) (by unfold vQ;rw [c3];rfl)];simp)
   ·refine zH<|zP O<|G O<|qH O ⟨zB,zB⟩<|G O<|zA ?_
    refine ⟨k+1,⟨zB,zUq hx hp (by unfold vQ;rw [c3];rfl)⟩,zB,Weak.mk [true] ⟨zD,zD,T⟩ O⟩
  ·refine qM<|oh O O<|zM<|zX O ?_
   exact ai vB (by rw [pV,c1,all_end hp zB];rfl)
def ref14_formed (e:Ex) (he:e.wt<=6000000000000) (hty:e.Op=1->dJ e.Ty=true):
    Pur cfg 276 [vE e] (vB (lV e)):=by
 refine zV func276 O ntmps276 results276 O ?_
 intro z hz
 obtain ⟨hL,hI,hA⟩:=e.parts he
 refine Y O<|og O fun b1=>oi O<|zF<|Y O<|zC O wH<|zE one3 (J 0 O) O<|yT O<|G O<|rL0 O (fun g1_3=>zG O zGl O) O<|rL1 9 O (fun g1_3=>qB O yE O (J 0 O) O) O<|rL0 O (fun g1_3=>zG O zMj O) O<|rL1 11 O (fun g1_3=>qB O zBy O (J 0 O) O) O<|rLz [(10,_),(12,_)] O gv1 ⟨O,O,O,O,T⟩ (fun g1_3=>qP O uB (base_Val e.Ty e.Val (hty (by simp only [Lz,aD,av,sx] at g1_3;exact g1_3))) (vlr O)) O<|rL1 13 O (fun g1_3=>wV O O) O<|kH O (fun h=>h)<|G O<|rL0 O (fun g1_11=>zG O zDt O) O<|rL1 17 O (fun g1_11=>qB O yV O (J 0 O) O) O<|rL1 18 O (fun g1_11=>qP O uB (zCh e.Lin hL) (vlr O)) O<|rL1 19 O (fun g1_11=>wV O O) O<|r_or O (fun h=>(lzf h))<|zA<|zK O (fun c1=>?_) (fun c1=>?_)
 ·refine oh O O<|zM<|zX O ?_
  exact ai vB (form_no c1)
 ·refine zH<|zF<|oh O O<|zS<|zW ⟨[(3,.c _),(1,.c _)],[_]⟩ (Weak.mk [true] ⟨zD,zD,T⟩ O)<|qG 1 0 O O (Nat) (fun k=>[(3,vI k)]) (fun k=>[]) (fun k=>k<=e.Idx.length/\((dD e).all bG=((e.Idx.drop k).flatMap fun x=>x.Lin::x.At).all bG)) (fun k=>e.Idx.length-k) ⟨0,⟨zB,form_start c1⟩,Weak.mk [true] ⟨zD,zD,T⟩ O⟩ ?_
  rintro k ⟨hk,hp⟩
  refine zF<|ol O O<|zC O wB<|zE wX (J 0 O) O<|qC O el52<|yC O<|zA<|zK O ?_ ?_<;>intro c2<;>try simp only [sx] at c2
  ·obtain ⟨x,hx⟩:=qX e.Idx k zB
   have hxw:=Ex.idx_wt (qD hx)
   refine zH<|zF<|zS<|zF<|Y O<|zC O wB<|zE wX (J 0 O) O<|G O<|qE O el52 zB (getm uC)<|qR O zCy<|zN yV qF O<|qL O uB (zCh x.Lin zB) (vlr O)<|kU O<|zA<|zK O ?_ ?_<;>intro c3<;>try simp only [sx] at c3
   ·refine oh O O<|zM<|zX O ?_
    exact ai vB (form_no2 hp (by rw [qJ hx,cc,ce,bi,c3];rfl))
   ·refine zH<|oh O O<|zS<|zW ⟨[(4,.c _),(1,.c _),(3,.c _)],[_]⟩ (Weak.mk [true] ⟨zD,zD,zD,T⟩ O)<|qG 1 0 O O (Nat) (fun j=>[(4,vI j)]) (fun j=>[]) (fun j=>j<=x.At.length/\(x.At.all bG=(x.At.drop j).all bG)) (fun j=>x.At.length-j) ⟨0,⟨zB,O⟩,Weak.mk [true] ⟨zD,zD,zD,T⟩ O⟩ ?_
    rintro j ⟨hj,hq⟩
    refine zF<|ol O O<|zC O wB<|zE wX (J 0 O) O<|G O<|qE O el52 zB (getm uC)<|qR O zAi<|zE zBs qF O<|qC O el72<|yC O<|zA<|zK O ?_ ?_<;>intro c4<;>try simp only [sx] at c4
    ·obtain ⟨l,hl⟩:=qX x.At j zB
     have hlw:=zBw (qD hl)
     refine zH<|zF<|zS<|Y O<|zC O wB<|zE wX (J 0 O) O<|G O<|qE O el52 zB (getm uC)<|qR O zAi<|zE zBs qF O<|G O<|qE O el72 zB (getm uC)<|zN yV qF O<|qL O uB (zCh l zB) (vlr O)<|kU O<|zA<|zK O ?_ ?_<;>intro c5<;>try simp only [sx] at c5
     ·refine oh O O<|zM<|zX O ?_
      exact ai vB (form_no2 hp (by rw [qJ hx,cc,ce,bi,zYh hl (p:=bG) c5];simp))
     ·refine zH<|zP O<|G O<|qH O ⟨zB,zB⟩<|G O<|zA ?_
      refine ⟨j+1,⟨zB,zUq hl hq c5⟩,zB,Weak.mk [true] ⟨zD,zD,zD,T⟩ O⟩
    ·refine qM<|zP O<|G O<|qH O ⟨zB,zB⟩<|G O<|zA ?_
     refine ⟨k+1,⟨zB,(by rw [hp,qJ hx,cc,ce,bi,c3,all_end hq zB];rfl)⟩,zB,Weak.mk [true] ⟨zD,zD,T⟩ O⟩
  ·refine qM<|oh O O<|zM<|zX O ?_
   exact ai vB (form_yes c1 (by rw [hp,kL zB];rfl))
def zVr (e:Ex) (ih:∀a,a∈e.Args->a.wt<=6000000000000->Pur cfg 241 [vE a] (vI (gF a))) (he:e.wt<=6000000000000):
    Pur cfg 241 [vE e] (vI (gF e)):=by
 refine zV func241 O ntmps241 results241 O ?_
 intro z hz
 obtain ⟨hL,hI,hA⟩:=e.parts he
 refine Y O<|og O fun b1=>oi O<|zF<|zS<|Y O<|zN yZ (J 0 O) O<|qL O uB (ref14_plain e he) (vlr O)<|kU O<|oi O<|zK O ?_ ?_<;>intro c1<;>try simp only [sx] at c1
 ·refine oh O O<|zM<|zX O ?_
  exact ai vI (by rw [zHv,show bZ e=5 by simp only [bZ,c1];rfl];rfl)
 ·refine Y O<|zN yZ (J 0 O) O<|qL O uB (ref14_named e he) (vlr O)<|kU O<|oi O<|zK O ?_ ?_<;>intro c2<;>try simp only [sx] at c2
  ·refine oh O O<|zM<|zX O ?_
   exact ai vI (by rw [zHv,show bZ e=7 by simp only [bZ,c1,c2];rfl];rfl)
  ·refine Y O<|zN yZ (J 0 O) O<|qL O uB (ref14_ranked e he) (vlr O)<|kU O<|oi O<|zK O ?_ ?_<;>intro c3<;>try simp only [sx] at c3
   ·refine oh O O<|zM<|zX O ?_
    exact ai vI (by rw [zHv,show bZ e=11 by simp only [bZ,c1,c2,c3];rfl];rfl)
   ·refine Y O<|zN yZ (J 0 O) O<|qL O uB (ref14_typed e he) (vlr O)<|kU O<|oi O<|zK O ?_ ?_<;>intro c4<;>try simp only [sx] at c4
    ·refine oh O O<|zM<|zX O ?_
     exact ai vI (by rw [zHv,show bZ e=10 by simp only [bZ,c1,c2,c3,c4];rfl];rfl)
    ·refine Y O<|zN yZ (J 0 O) O<|qL O uB (ref14_formed e he (types_ty c4)) (vlr O)<|kU O<|oi O<|zK O ?_ ?_<;>intro c5<;>try simp only [sx] at c5
     ·refine oh O O<|zM<|zX O ?_
      exact ai vI (by rw [zHv,show bZ e=1 by simp only [bZ,c1,c2,c3,c4,c5];rfl];rfl)
     ·have hn:bZ e=0:=by simp only [bZ,c1,c2,c3,c4,c5];rfl
      refine zH<|zF<|oh O O<|zS<|zW ⟨[(3,.c _),(1,.c _)],[_]⟩ (Weak.mk [true] ⟨zD,zD,T⟩ O)<|qG 1 0 O O (Nat) (fun k=>[(3,vI k)]) (fun k=>[]) (fun k=>k<=e.Args.length/\(tJ e.Args=tJ (e.Args.drop k))) (fun k=>e.Args.length-k) ⟨0,⟨zB,O⟩,Weak.mk [true] ⟨zD,zD,T⟩ O⟩ ?_
      rintro k ⟨hk,hp⟩
      refine zF<|ol O O<|zC O zAc<|zE zDc (J 0 O) O<|qC O el60<|yC O<|zA<|zK O ?_ ?_<;>intro c6<;>try simp only [sx] at c6
      ·obtain ⟨a,ha⟩:=qX e.Args k zB
       refine zH<|zF<|zS<|Y O<|zC O zAc<|zE zDc (J 0 O) O<|G O<|qE O el60 zB (zJz uC)<|zN yZ qF O<|qL O uB (ih a (qD ha) (by have:=Ex.arg_wt (qD ha);omega)) (vlr O)<|oi O<|ol O O<|yM O<|zA<|zK O ?_ ?_<;>intro c7<;>try simp only [sx] at c7
       ·refine ol O O<|oi O<|zM<|zX O ?_
        exact ai vI (by rw [zHv e,hn,zAp rfl,aD,hp,qJ ha,zRj,kK c7];rfl)
       ·refine zH<|zP O<|G O<|qH O ⟨zB,zB⟩<|G O<|zA ?_
        refine ⟨k+1,⟨zB,(by rw [hp,qJ ha,zRj,zAp c7];rfl)⟩,zB,Weak.mk [true] ⟨zD,zD,T⟩ O⟩
      ·refine qM<|oh O O<|zM<|zX O ?_
       exact ai vI (by rw [zHv,hn,zAp rfl,aD,hp,kL zB];rfl)
def ref14_part (e:Ex) (he:e.wt<=6000000000000):Pur cfg 241 [vE e] (vI (gF e)):=by
  induction e using Ex.ind with
  |_ e ih=>exact zVr e ih he
def zMm (n:Nat) (ih:n≠0->∀(a:Ex) (l:Int),a.wt<=6000000000000->l=n->Pur cfg 253 [vE a,vI l] (vI (mJ (n-1) a))) (hn:n<=100) (e:Ex) (l:Int) (he:e.wt<=6000000000000) (hl:l=n+1):
    Pur cfg 253 [vE e,vI l] (vI (mJ n e)):=by
 refine zV func253 O ntmps253 results253 O ?_
 intro z hz
 obtain ⟨hL,hI,hA⟩:=e.parts he
 refine Y O<|og O fun b1=>oi O<|zF<|ol O O<|zT O (zAh O O O)<|zA<|zK O ?_ ?_<;>intro c1<;>try simp only [sx] at c1
 ·obtain rfl:n=0:=by omega
  refine ol O O<|oi O<|zM<|zX O ?_
  exact ai vI (by rw [hl];rfl)
 ·obtain ⟨m,rfl⟩:∃m,n=m+1:=⟨n-1,zB⟩
  refine zH<|oh O O<|zF<|Y O<|zC O zAc<|zE zDc (J 0 O) O<|qC O el60<|oi O<|zS<|zW ⟨[(14,.c _),(5,.c _),(1,.c _),(12,.c _),(13,.c _)],[]⟩ (Weak.mk [false] ⟨zD,zD,zD,zD,zD,T⟩ O)<|qG 2 0 O O (Nat×Int) (fun ⟨k,d⟩=>[(14,vI k),(5,vI d)]) (fun ⟨k,d⟩=>[]) (fun ⟨k,d⟩=>k<=e.Args.length/\(1<=d)/\(d<=m+2)/\(mJ (m+1) e=vH (mJ m) d (e.Args.drop k))) (fun ⟨k,d⟩=>e.Args.length-k) ⟨⟨0,1⟩,⟨zB,zB,zB,O⟩,Weak.mk [] ⟨zD,VLe.of_eq (O),zD,zD,zD,T⟩ O⟩ ?_
  rintro ⟨k,d⟩ ⟨hk,hd1,hd2,hd3⟩
  show AWP _ _ _ _ _ ⟨[(14,vI k),(5,vI d)]++_,[]++_⟩
  refine Y O<|yC O<|zA<|zF<|zK O ?_ ?_<;>intro c2<;>try simp only [sx] at c2
  ·obtain ⟨a,ha⟩:=qX e.Args k zB
   have hda:=depT_le m a
   refine zH<|zF<|zS<|Y O<|qE O el60 zB (zJz uC)<|zN yZ qF O<|qA O O (qI nr O zr62 O) ?_
   rintro _ _ ⟨b2,rfl,rfl⟩
   refine rStR 0 sz62 O<|zA<|zP O<|G O<|zN yZ (J 0 O) O<|G O<|zT O (yL O O O ⟨zB,zB⟩)<|qL O uB (show Pur cfg 253 [vE a,vI (l-1)] (vI (mJ m a)) from ih zB a _ (by have:=Ex.arg_wt (qD ha);omega) zB) (vlr O)<|qH O ⟨zB,zB⟩<|zT O (det_max O O O)<|oi O<|zP O<|qH O ⟨zB,zB⟩<|G O<|zA ?_
   refine ⟨⟨k+1,max d (1+mJ m a)⟩,⟨zB,zB,zB,by rw [hd3,qJ ha,vH]⟩,(by show e.Args.length-(k+1)<e.Args.length-k;omega),Weak.mk [false] ⟨zD,zD,zD,zD,zD,T⟩ O⟩
  ·refine qM<|ol O O<|oi O<|zM<|zX O ?_
   exact ai vI (by rw [hd3,kL zB];rfl)
def expr_depth (n:Nat) (e:Ex) (l:Int) (hn:n<=100) (he:e.wt<=6000000000000) (hl:l=n+1):Pur cfg 253 [vE e,vI l] (vI (mJ n e)):=by
  induction n generalizing e l with
  |zero=>exact zMm 0 (fun h=>absurd rfl h) hn e l he hl
  |succ n ih=>exact zMm (n+1) (fun _ a l h1 h2=>ih a l zB h1 zB) hn e l he hl
def zKp (n:Nat) (ih:n≠0->∀(a:Ex) (l:Int),a.wt<=6000000000000->l=n->Pur cfg 270 [vE a,vI l] (vI (mJ (n-1) a))) (hn:n<=100) (e:Ex) (l:Int) (he:e.wt<=6000000000000) (hl:l=n+1):
    Pur cfg 270 [vE e,vI l] (vI (mJ n e)):=by
 refine zV func270 O ntmps270 results270 O ?_
 intro z hz
 obtain ⟨hL,hI,hA⟩:=e.parts he
 refine Y O<|og O fun b1=>oi O<|oh O O<|zF<|oh O O<|zS<|zW ⟨[(6,.c _),(5,.c _),(1,.c _),(2,.c _)],[_]⟩ (Weak.mk [true] ⟨zD,zD,zD,zD,T⟩ O)<|qG 2 0 O O (Nat×Int) (fun ⟨k,d⟩=>[(6,vI k),(5,vI d)]) (fun ⟨k,d⟩=>[]) (fun ⟨k,d⟩=>k<=e.Args.length/\(1<=d)/\(d<=n+1)/\(n≠0->mJ n e=vH (mJ (n-1)) d (e.Args.drop k))/\(n=0->d=1)) (fun ⟨k,d⟩=>e.Args.length-k) ⟨⟨0,1⟩,⟨zB,zB,zB,fun h0=>dep_start h0,fun _=>O⟩,Weak.mk [true] ⟨zD,VLe.of_eq (O),zD,zD,T⟩ O⟩ ?_
 rintro ⟨k,d⟩ ⟨hk,hd1,hd2,hd3,hd4⟩
 show AWP _ _ _ _ _ ⟨[(6,vI k),(5,vI d)]++_,[]++_⟩
 refine zF<|ol O O<|zC O zAc<|zE zDc (J 0 O) O<|qC O el60<|yC O<|G O<|rL0 O (fun g3_5=>zQ O O) O<|rL1 13 O (fun g3_5=>yN O O O) O<|kH O (fun h=>h)<|zA<|zK O ?_ ?_<;>intro c1<;>try simp only [sx] at c1
 ·obtain ⟨a,ha⟩:=qX e.Args k zB
  have hda:=depT_le (n-1) a
  refine zH<|zF<|zS<|zP O<|G O<|zC O zAc<|zE zDc (J 0 O) O<|G O<|qE O el60 zB (zJz uC)<|zN yZ qF O<|G O<|zT O (yL O O O ⟨zB,zB⟩)<|qL O uB (ih zB a _ (by have:=Ex.arg_wt (qD ha);omega) zB) (vlr O)<|qH O ⟨zB,zB⟩<|zT O (det_max O O O)<|oi O<|zP O<|G O<|qH O ⟨zB,zB⟩<|G O<|zA ?_
  refine ⟨⟨k+1,max d (1+mJ (n-1) a)⟩,⟨zB,zB,zB,fun h0=>by rw [hd3 h0,qJ ha,vH],fun h0=>by omega⟩,(by show e.Args.length-(k+1)<e.Args.length-k;omega),Weak.mk [true] ⟨zD,zD,zD,zD,T⟩ O⟩
 ·refine qM<|ol O O<|oi O<|zM<|zX O ?_
  exact ai vI (dep_end hl zB hd3 hd4)
def ref14_depth (n:Nat) (e:Ex) (l:Int) (hn:n<=100) (he:e.wt<=6000000000000) (hl:l=n+1):Pur cfg 270 [vE e,vI l] (vI (mJ n e)):=by
  induction n generalizing e l with
  |zero=>exact zKp 0 (fun h=>absurd rfl h) hn e l he hl
  |succ n ih=>exact zKp (n+1) (fun _ a l h1 h2=>ih a l zB h1 zB) hn e l he hl
def expr_Depth (e:Ex) (he:e.wt<=6000000000000):
    Pur cfg 218 [vE e] (vI (mJ 40 e)):=by
 refine zV func218 O ntmps218 results218 O fun z hz=>Y O<|og O fun b1=>oi O<|Y O<|zN yZ (J 0 O) O<|qL O uB (expr_depth 40 e 41 zB he zB) (vlr O)<|oi O<|zM<|zX O ?_
 exact O
def ref14_Depth (e:Ex) (he:e.wt<=6000000000000):
    Pur cfg 239 [vE e] (vI (mJ 40 e)):=by
 refine zV func239 O ntmps239 results239 O fun z hz=>Y O<|og O fun b1=>oi O<|Y O<|zN yZ (J 0 O) O<|qL O uB (ref14_depth 40 e 41 zB he zB) (vlr O)<|oi O<|zM<|zX O ?_
 exact O
def zVq (e:Ex) (ih:∀a,a∈e.Args->∀(m:Nat) (l:Int),a.wt<=6000000000000->m<=1000000->l=m->Pur cfg 271 [vE a,vI l] (vI (tX a m))) (m:Nat) (l:Int) (he:e.wt<=6000000000000) (hm:m<=1000000) (hl:l=m):
    Pur cfg 271 [vE e,vI l] (vI (tX e m)):=by
 refine zV func271 O ntmps271 results271 O ?_
 intro z hz
 obtain ⟨hL,hI,hA⟩:=e.parts he
 refine Y O<|og O fun b1=>oi O<|oh O O<|zF<|oh O O<|zS<|zW ⟨[(6,.c _),(5,.c _),(1,.c _),(2,.c _)],[_]⟩ (Weak.mk [true] ⟨zD,zD,zD,zD,T⟩ O)<|qG 2 0 O O (Nat×Nat) (fun ⟨k,n⟩=>[(6,vI k),(5,vI n)]) (fun ⟨k,n⟩=>[]) (fun ⟨k,n⟩=>k<=e.Args.length/\(n<=m+1)/\(tX e m=tG (e.Args.drop k) m n)) (fun ⟨k,n⟩=>e.Args.length-k) ⟨⟨0,1⟩,⟨zB,zB,sizE_eq e m⟩,Weak.mk [true] ⟨zD,VLe.of_eq (O),zD,zD,T⟩ O⟩ ?_
 rintro ⟨k,n⟩ ⟨hk,hn1,hn2⟩
 show AWP _ _ _ _ _ ⟨[(6,vI k),(5,vI n)]++_,[]++_⟩
 refine zF<|ol O O<|zC O zAc<|zE zDc (J 0 O) O<|qC O el60<|yC O<|G O<|rL0 O (fun g3_5=>zQ O O) O<|rL0 O (fun g3_5=>zQ O O) O<|rLz [(13,_),(14,_)] O gv1 ⟨O,O,O,O,T⟩ (fun g3_5=>zAh O O O) O<|kH O (fun h=>h)<|zA<|zK O ?_ ?_<;>intro c1<;>try simp only [sx] at c1
 ·obtain ⟨a,ha⟩:=qX e.Args k zB
  have hsa:=sizE_min a (m-n)
  refine zH<|zF<|zS<|zP O<|G O<|zC O zAc<|zE zDc (J 0 O) O<|G O<|qE O el60 zB (zJz uC)<|zN yZ qF O<|G O<|G O<|zT O (yL O O O ⟨zB,zB⟩)<|qL O uB (ih a (qD ha) (m-n) _ (by have:=Ex.arg_wt (qD ha);omega) zB zB) (vlr O)<|qH O ⟨zB,zB⟩<|oi O<|zP O<|G O<|qH O ⟨zB,zB⟩<|G O<|zA ?_
  refine ⟨⟨k+1,n+tX a (m-n)⟩,⟨zB,zB,by rw [hn2,qJ ha,tG,ab zB]⟩,(by show e.Args.length-(k+1)<e.Args.length-k;omega),Weak.mk [true] ⟨zD,VLe.of_eq (ai vI zB),zD,zD,T⟩ O⟩
 ·refine qM<|ol O O<|oi O<|zM<|zX O ?_
  exact ai vI (by rw [hn2];exact ai Nat.cast (siz_end hl zB))
def ref14_size (e:Ex) (m:Nat) (l:Int) (he:e.wt<=6000000000000) (hm:m<=1000000) (hl:l=m):Pur cfg 271 [vE e,vI l] (vI (tX e m)):=by
  induction e using Ex.ind generalizing m l with
  |_ e ih=>exact zVq e (fun a ha m l h1 h2 h3=>ih a ha m l h1 h2 h3) m l he hm hl
def ref14_Size (e:Ex) (he:e.wt<=6000000000000):
    Pur cfg 240 [vE e] (vI (szT e)):=by
 refine zV func240 O ntmps240 results240 O fun z hz=>Y O<|og O fun b1=>oi O<|Y O<|zN yZ (J 0 O) O<|qL O uB (ref14_size e 2000 2000 he zB O) (vlr O)<|zT O (det_min O O O)<|oi O<|zM<|zX O ?_
 exact ai vI (by rw [sizE_min,szT];omega)
def ref14_Validate (e:Ex) (he:e.wt<=6000000000000):
    Pur cfg 197 [vE e] (vI (dO e)):=by
 refine zV func197 O ntmps197 results197 O fun z hz=>Y O<|og O fun b1=>oi O<|zF<|Y O<|zN yZ (J 0 O) O<|qL O uB (ref14_Depth e he) (vlr O)<|zT O (yN O O O)<|zA<|zK O ?_ ?_<;>intro c1<;>try simp only [sx] at c1
 ·refine oh O O<|zM<|zX O ?_
  rw [dO,zAp c1];rfl
 ·refine zH<|zF<|Y O<|zN yZ (J 0 O) O<|qL O uB (ref14_Size e he) (vlr O)<|zT O (yN O O O)<|zA<|zK O ?_ ?_<;>intro c2<;>try simp only [sx] at c2
  ·refine oh O O<|zM<|zX O ?_
   rw [dO,kK zB,zAp c2];rfl
  ·refine zH<|Y O<|zN yZ (J 0 O) O<|qL O uB (ref14_part e he) (vlr O)<|oi O<|zM<|zX O ?_
   rw [dO,kK zB,kK zB];rfl
end Go.W
end
section
set_option maxRecDepth 10000
namespace Go.W
open Go Go.Eng Go.Proofs Go.L41 Go.Br Tryz
attribute [local irreducible] AWP RWP TD fY
def zPk:fP prog 34=true:=by kernel_rfl
def sz3:(prog.info? 3).map (·.size)=some 1:=by kernel_rfl
def sz34:(prog.info? 34).map (·.size)=some 1:=by kernel_rfl
def zr3:dZ prog 3=some [(Value.int IntKind.i64 0)]:=by kernel_rfl
def zr34:dZ prog 34=some [(Value.int IntKind.i64 0)]:=by kernel_rfl
def expr_forms (e:Ex):
    Pur cfg 261 [vE e] (.c (.fn (.func 294) [] [.iptr e.cs])):=by
 refine zV func261 O ntmps261 results261 O ?_
 exact v62
def forms_iter (e:Ex) (he:e.wt<=6000000000000):
    iH cfg 294 [] [.iptr e.cs] (dD e) fun l=>[dC l]:=by
 obtain ⟨hL,hI,hA⟩:=e.parts he
 intro y J Jx μ hy0 h0
 have hy:=fun pre x suf μ h1 h2=>fn_bool (hy0 pre x suf μ h1 h2)
 refine zV func294 O ntmps294 results294 O fun z hz=>zF<|ol O O<|qR O zDt<|zN yV qF O<|qA O O (zBb O O (hy [] e.Lin _ _ O h0) (vlr O)) ?_
 rintro _ m0 ⟨y0,rfl,t0,f0⟩
 refine kU O<|zA<|zK O ?_ ?_<;>intro c1<;>try simp only [sx] at c1
 ·refine zM<|fin0 ?_
  exact .inr ⟨[],e.Lin,_,O,f0 c1⟩
 ·refine zH<|Y O<|qR O wB<|zE wX qF O<|qC O el52<|oi O<|zS<|zW ⟨[(15,.c _),(0,.c _),(13,.c _),(14,.c _)],_⟩ (Weak.regs ⟨zD,zD,zD,zD,T⟩)<|zGy 1 O (Nat×List E) (fun ⟨k,m⟩=>[(15,vI k)]) (fun ⟨k,m⟩=>m) (fun ⟨k,m⟩=>k<=e.Idx.length/\(J (e.Lin::(e.Idx.take k).flatMap ixF) m)) (fun ⟨k,m⟩=>e.Idx.length-k) ⟨⟨0,m0⟩,⟨zB,t0 c1⟩,Weak.regs ⟨zD,zD,zD,zD,T⟩⟩ ?_
  rintro ⟨k,m⟩ ⟨hk,hJ⟩
  refine Y O<|yC O<|zA<|zF<|zK O ?_ ?_<;>intro c2<;>try simp only [sx] at c2
  ·obtain ⟨x,hx⟩:=qX e.Idx k zB
   have hxw:=Ex.idx_wt (qD hx)
   refine zH<|zF<|zS<|Y O<|qE O el52 zB (getm uC)<|zN zGp qF O<|qA O O (qI ns O zr93 O) ?_
   rintro _ _ ⟨b1,rfl,rfl⟩
   refine rStR 0 sz93 O<|yP _ (kN 0 O 4 _ PLe.ptr)<|zA<|zF<|ol O O<|qR O zCy<|zN yV qF O<|qA O O (zBb O O (hy _ x.Lin _ _ (forms_at hx) hJ) (vlr O)) ?_
   rintro _ m1 ⟨y1,rfl,t1,f1⟩
   refine kU O<|zA<|zK O ?_ ?_<;>intro c3<;>try simp only [sx] at c3
   ·refine zM<|fin0 ?_
    exact .inr ⟨_,x.Lin,_,forms_at hx,f1 c3⟩
   ·refine zH<|Y O<|qR O zAi<|zE zBs qF O<|qC O el72<|oi O<|zS<|zW ⟨[(27,.c _),(0,.c _),(13,.c _),(14,.c _),(15,.c _),(25,.c _),(26,.c _)],_⟩ (Weak.regs ⟨zD,zD,zD,zD,zD,zD,zD,T⟩)<|zGy 1 O (Nat×List E) (fun ⟨j,n⟩=>[(27,vI j)]) (fun ⟨j,n⟩=>n) (fun ⟨j,n⟩=>j<=x.At.length/\(J ((e.Lin::(e.Idx.take k).flatMap ixF)++[x.Lin]++x.At.take j) n)) (fun ⟨j,n⟩=>x.At.length-j) ⟨⟨0,m1⟩,⟨zB,by simpa using t1 c3⟩,Weak.regs ⟨zD,zD,zD,zD,zD,zD,zD,T⟩⟩ ?_
    rintro ⟨j,n⟩ ⟨hj,hJ2⟩
    refine Y O<|yC O<|zA<|zF<|zK O ?_ ?_<;>intro c4<;>try simp only [sx] at c4
    ·obtain ⟨l,hl⟩:=qX x.At j zB
     refine zH<|zF<|zS<|Y O<|qE O el72 zB (getm uC)<|zN yV qF O<|qA O O (qI [none,some 2] O U O) ?_
     rintro _ _ ⟨b2,rfl,rfl⟩
     refine rStR 0 sz59 O<|yP _ (kN 0 O 6 _ PLe.ptr)<|zA<|ol O O<|zN yV qF O<|qA O O (zBb O O (hy _ l _ _ (forms_at2 hx hl) hJ2) (vlr O)) ?_
     rintro _ m2 ⟨y2,rfl,t2,f2⟩
     refine kU O<|zA<|zK O ?_ ?_<;>intro c5<;>try simp only [sx] at c5
     ·refine zM<|fin0 ?_
      exact .inr ⟨_,l,_,forms_at2 hx hl,f2 c5⟩
     ·refine zH<|zP O<|qH O ⟨zB,zB⟩<|G O<|zA ?_
      refine ⟨⟨j+1,m2⟩,⟨zB,by rw [yA hl];simpa [lAa] using t2 c5⟩,(by show x.At.length-(j+1)<x.At.length-j;omega),Weak.regs ⟨zD,zD,zD,zD,zD,zD,zD,T⟩⟩
    ·refine qM<|zP O<|qH O ⟨zB,zB⟩<|G O<|zA ?_
     refine ⟨⟨k+1,n⟩,⟨zB,by rw [forms_next hx];rw [yI (l:=x.At) zB] at hJ2;exact hJ2⟩,(by show e.Idx.length-(k+1)<e.Idx.length-k;omega),Weak.regs ⟨zD,zD,zD,zD,T⟩⟩
  ·refine qM ?_
   repeat (first|refine kG ?_|refine kB ?_)
   refine wD<|fin0 ?_
   rw [yI zB] at hJ;exact .inl hJ
def zXl (e:Ex):
    Pur cfg 220 [vE e] (.c (.fn (.func 254) [] [.iptr e.cs])):=by
 refine zV func220 O ntmps220 results220 O ?_
 exact v62
def walk_step (e:Ex) (he:e.wt<=6000000000000) (ih:∀a,a∈e.Args->a.wt<=6000000000000->(∀(y:C) (J Jx:List Ex->List E->Prop) (pre0:List Ex) (μ:List E),(∀pre x suf μ,dQ a=pre++x::suf->J (pre0++pre) μ->FnCon cfg y [vE x] μ fun r μ'=>∃b,r=.c (.lit (.bool b))/\(b=true->J (pre0++pre++[x]) μ')/\(b=false->Jx (pre0++pre++[x]) μ'))->J pre0 μ->Con cfg 255 [vE a,.c y] μ fun r μ'=>∃b,r=.c (.lit (.bool b))/\(b=true->J (pre0++dQ a) μ')/\(b=false->∃pre x suf,dQ a=pre++x::suf/\Jx (pre0++pre++[x]) μ'))):
    ∀(y:C) (J Jx:List Ex->List E->Prop) (pre0:List Ex) (μ:List E),(∀pre x suf μ,dQ e=pre++x::suf->J (pre0++pre) μ->FnCon cfg y [vE x] μ fun r μ'=>∃b,r=.c (.lit (.bool b))/\(b=true->J (pre0++pre++[x]) μ')/\(b=false->Jx (pre0++pre++[x]) μ'))->J pre0 μ->Con cfg 255 [vE e,.c y] μ fun r μ'=>∃b,r=.c (.lit (.bool b))/\(b=true->J (pre0++dQ e) μ')/\(b=false->∃pre x suf,dQ e=pre++x::suf/\Jx (pre0++pre++[x]) μ'):=by
 obtain ⟨hL,hI,hA⟩:=e.parts he
 intro y J Jx pre0 μ hy h0
 refine zV func255 O ntmps255 results255 O fun z hz=>Y O<|og O fun b1=>yP _ (kN 0 O 2 _ PLe.ptr)<|oi O<|zF<|ol O O<|zN yZ qF O<|qA O O (zBb O O (hy [] e _ _ (zAl e) (show J (pre0++[]) μ by simpa using h0)) (vlr O)) ?_
 rintro _ m0 ⟨y0,rfl,t0,f0⟩
 refine kU O<|zA<|zK O ?_ ?_<;>intro c1<;>try simp only [sx] at c1
 ·refine oh O O<|zM<|zX O ?_
  exact ⟨false,O,fun h=>(by cases h),fun _=>⟨[],e,_,zAl e,by simpa using f0 c1⟩⟩
 ·refine zH<|zF<|Y O<|qR O zAc<|zE zDc qF O<|qC O el60<|oi O<|zS<|zW ⟨[(14,.c _),(1,.c _),(12,.c _),(13,.c _)],_⟩ (Weak.regs ⟨zD,zD,zD,zD,T⟩)<|zGy 1 O (Nat×List E) (fun ⟨k,m⟩=>[(14,vI k)]) (fun ⟨k,m⟩=>m) (fun ⟨k,m⟩=>k<=e.Args.length/\(J (pre0++e::bV (e.Args.take k)) m)) (fun ⟨k,m⟩=>e.Args.length-k) ⟨⟨0,m0⟩,⟨zB,by simpa [bV] using t0 c1⟩,Weak.regs ⟨zD,zD,zD,zD,T⟩⟩ ?_
  rintro ⟨k,m⟩ ⟨hk,hJ⟩
  refine Y O<|yC O<|zA<|zF<|zK O ?_ ?_<;>intro c2<;>try simp only [sx] at c2
  ·obtain ⟨a,ha⟩:=qX e.Args k zB
   refine zH<|zF<|zS<|Y O<|qE O el60 zB (zJz uC)<|zN yZ qF O<|qA O O (qI nr O zr62 O) ?_
   rintro _ _ ⟨b2,rfl,rfl⟩
   refine rStR 0 sz62 O<|yP _ (kN 0 O 6 _ PLe.ptr)<|zA<|Y O<|zN yZ qF O<|G O<|qA O O (zEo O uB (ih a (qD ha) (by have:=Ex.arg_wt (qD ha);omega) y J Jx (pre0++e::bV (e.Args.take k)) _ (fun pre x suf μ hx hj=>by have:=hy _ x _ μ (nodes_at ha hx) (by simpa using hj);simpa using this) hJ) (vlr O)) ?_
   rintro _ m1 ⟨y1,rfl,t1,f1⟩
   refine kU O<|zA<|zK O ?_ ?_<;>intro c3<;>try simp only [sx] at c3
   ·refine oh O O<|zM<|zX O ?_
    obtain ⟨pre,x,suf,h1,h2⟩:=f1 c3
    exact ⟨false,O,fun h=>(by cases h),fun _=>⟨_,x,_,nodes_at ha h1,by simpa using h2⟩⟩
   ·refine zH<|zP O<|qH O ⟨zB,zB⟩<|G O<|zA ?_
    refine ⟨⟨k+1,m1⟩,⟨zB,by rw [nodesL_next ha];simpa using t1 c3⟩,(by show e.Args.length-(k+1)<e.Args.length-k;omega),Weak.regs ⟨zD,zD,zD,zD,T⟩⟩
  ·refine qM<|oh O O<|zM<|zX O ?_
   rw [yI zB] at hJ
   exact ⟨true,O,fun _=>(by rw [zAl];exact hJ),fun h=>(by cases h)⟩
def walk_con (e:Ex) (he:e.wt<=6000000000000):∀(y:C) (J Jx:List Ex->List E->Prop) (pre0:List Ex) (μ:List E),(∀pre x suf μ,dQ e=pre++x::suf->J (pre0++pre) μ->FnCon cfg y [vE x] μ fun r μ'=>∃b,r=.c (.lit (.bool b))/\(b=true->J (pre0++pre++[x]) μ')/\(b=false->Jx (pre0++pre++[x]) μ'))->J pre0 μ->Con cfg 255 [vE e,.c y] μ fun r μ'=>∃b,r=.c (.lit (.bool b))/\(b=true->J (pre0++dQ e) μ')/\(b=false->∃pre x suf,dQ e=pre++x::suf/\Jx (pre0++pre++[x]) μ'):=by
  induction e using Ex.ind with
  |_ e ih=>exact walk_step e he ih
def zUx (e:Ex) (he:e.wt<=6000000000000):
    iH cfg 254 [] [.iptr e.cs] (dQ e) fun x=>[vE x]:=by
 intro y J Jx μ hy0 h0
 have hy:=fun pre x suf μ h1 h2=>fn_bool (hy0 pre x suf μ h1 h2)
 refine zV func254 O ntmps254 results254 O fun z hz=>zP O<|zN yZ qF O<|G O<|qA O O (zEo O uB (walk_con e he y J Jx [] _ (fun pre x suf μ h1 h2=>hy pre x suf μ h1 h2) h0) (vlr O)) ?_
 rintro _ m0 ⟨y0,rfl,t0,f0⟩
 refine zA ?_
 repeat (first|refine kG ?_|refine kB ?_)
 refine wD<|fin0 ?_
 cases y0
 · exact .inr (f0 rfl)
 · exact .inl (t0 rfl)
def expr_validNode (e:Ex) (he:e.wt<=6000000000000):
    Pur cfg 221 [vE e] (vI (bZ e)):=by
 refine zV func221 O ntmps221 results221 O ?_
 intro z hz
 obtain ⟨hL,hI,hA⟩:=e.parts he
 refine Y O<|og O fun b1=>qA O O (qZ O zr34) ?_
 rintro _ _ ⟨b2,rfl,rfl⟩
 refine zA<|zF<|zS<|Y O<|zN yZ (J 1 O) O<|qL O uB (expr_syntax e he) (vlr O)<|kU O<|oi O<|zK O ?_ ?_<;>intro c1<;>try simp only [sx] at c1
 ·refine Y O<|rStR 0 sz34 O<|zA<|zM<|fin1 (wZ zPk O (J 0 O) O) ?_
  rw [bZ,c1];rfl
 ·refine Y O<|zN yZ (J 1 O) O<|qL O uB (expr_names e he) (vlr O)<|kU O<|oi O<|zK O ?_ ?_<;>intro c2<;>try simp only [sx] at c2
  ·refine Y O<|rStR 0 sz34 O<|zA<|zM<|fin1 (wZ zPk O (J 0 O) O) ?_
   rw [bZ,c1,c2];rfl
  ·refine Y O<|zN yZ (J 1 O) O<|qL O uB (expr_rank e he) (vlr O)<|kU O<|oi O<|zK O ?_ ?_<;>intro c3<;>try simp only [sx] at c3
   ·refine Y O<|rStR 0 sz34 O<|zA<|zM<|fin1 (wZ zPk O (J 0 O) O) ?_
    rw [bZ,c1,c2,c3];rfl
   ·refine Y O<|zN yZ (J 1 O) O<|qL O uB (expr_types e he) (vlr O)<|kU O<|oi O<|zK O ?_ ?_<;>intro c4<;>try simp only [sx] at c4
    ·refine Y O<|rStR 0 sz34 O<|zA<|zM<|fin1 (wZ zPk O (J 0 O) O) ?_
     rw [bZ,c1,c2,c3,c4];rfl
    ·refine Y O<|zC O wH<|zE one3 (J 1 O) O<|yT O<|G O<|rL0 O (fun g9_3=>zG O zGl O) O<|rL1 25 O (fun g9_3=>qB O yE O (J 1 O) O) O<|rL0 O (fun g9_3=>zG O zMj O) O<|rL1 27 O (fun g9_3=>qB O zBy O (J 1 O) O) O<|rLz [(26,_),(28,_)] O gv1 ⟨O,O,O,O,T⟩ (fun g9_3=>qP O uB (value_Valid e.Ty e.Val) (vlr O)) O<|rL1 29 O (fun g9_3=>wV O O) O<|kH O (fun h=>h)<|oi O<|zK O (fun c5=>?_) (fun c5=>?_)
     ·have h5:=node5 c4 c5
      refine Y O<|rStR 0 sz34 O<|zA<|zM<|fin1 (wZ zPk O (J 0 O) O) ?_
      rw [bZ,c1,c2,c3,c4,lV,h5];rfl
     ·have h5:=node5 c4 c5
      refine zH<|zF<|Y O<|zN yZ (J 1 O) O<|qL O uB (expr_forms _) (vlr O)<|zA<|zS<|zW _ (Weak.mem [true,false] O)<|zKl (ps:=[34]) hz 1 O O uB (forms_iter e he) (fun _ _=>O) O (fun pre=>pre.all bG=true) (fun pre=>[E.row b2 34 [cI 0]]) (fun c pre=>(c=.ret/\pre.all bG=false)) (fun c pre=>[E.row b2 34 [cI 1]]) ⟨O,O⟩ ?_ ?_ ?_ ?_
      ·intro pre x suf hxs hi z hz
       refine zP O<|qA O O (qI [none,some 2] O U O) ?_
       rintro _ _ ⟨b3,rfl,rfl⟩
       refine rStR 0 sz59 O<|zA ?_
       intro z hz
       refine zS<|Y O<|zN yV (J 0 O) O<|qL O uB (zBd x (forms_wt he (by rw [hxs];simp))) (vlr O)<|yM O<|zA<|zK O ?_ ?_<;>intro c6<;>try simp only [sx] at c6
       ·refine Y O<|rStR 1 sz34 O<|zA<|zM ?_
        exact zFy (τ:=⟨[],_⟩) (Weak.mk [false,true] T O) ⟨⟨O,by simp only [ce,bi,zMe c6,bj,dj]⟩,O⟩
       ·refine zH ?_
        exact zFy (τ:=⟨[],_⟩) (Weak.mk [false,true] T O) ⟨by simp only [ce,hi,bi,e8,zMf c6,Bool.and_self],O⟩
      ·intro hd
       refine Y O<|rStR 0 sz34 O<|zA<|zM<|fin1 (wZ zPk O (J 0 O) O) ?_
       rw [bZ,c1,c2,c3,c4,lV,h5,hd];rfl
      ·rintro pre x suf hxs hx
       rcases hx with ⟨hc,hx⟩
       clear hc
       repeat (first|refine zVc ?_|refine zSl ?_)
       refine fin1 (wZ zPk O (J 0 O) O) ?_
       rw [bZ,c1,c2,c3,c4,lV,h5,hxs,all_app_no hx];rfl
      ·rintro i pre x suf hxs hx
       rcases hx with ⟨hc,hx⟩
       cases hc
def expr_Size (e:Ex) (he:e.wt<=6000000000000):
    Pur cfg 219 [vE e] (vI (szT e)):=by
 refine zV func219 O ntmps219 results219 O fun z hz=>Y O<|og O fun b1=>oi O<|Y O<|qA O O (qZ O zr3) ?_
 rintro _ _ ⟨b2,rfl,rfl⟩
 refine rStR 0 sz3 O<|zA<|zF<|Y O<|zN yZ (J 1 O) O<|qL O uB (zXl _) (vlr O)<|zA<|zS<|zW _ (Weak.mem [true,false] O)<|zKl (ps:=[6]) hz 1 O O uB (zUx e he) (fun _ _=>O) O (fun pre=>pre.length<=2000) (fun pre=>[E.row b2 3 [cI (pre.length:Int)]]) (fun c pre=>(c=.exit 0/\pre.length=2001)) (fun c pre=>[E.row b2 3 [cI (pre.length:Int)]]) ⟨uF,O⟩ ?_ ?_ ?_ ?_
 ·intro pre x suf hxs hi z hz
  refine zH ?_
  intro z hz
  refine zS<|Y O<|zE one3 (J 0 O) O<|qH O ⟨zB,zB⟩<|rStR 0 sz3 O<|zA<|Y O<|zE one3 (J 0 O) O<|zT O (yN O O O)<|zA<|zK O ?_ ?_<;>intro c1<;>try simp only [sx] at c1
  ·refine qM ?_
   exact zFy (τ:=⟨[],_⟩) (Weak.mk [true] T O) ⟨⟨O,uD⟩,(by dsimp only;rw [show ((pre++[x]).length:Int)=pre.length+1 by simp];rfl)⟩
  ·refine zH ?_
   exact zFy (τ:=⟨[],_⟩) (Weak.mk [true] T O) ⟨uD,(by dsimp only;rw [show ((pre++[x]).length:Int)=pre.length+1 by simp];rfl)⟩
 ·intro hd
  refine Y O<|zE one3 (J 0 O) O<|oi O<|zM<|zX O ?_
  exact ai vI (by rw [szT];omega)
 ·rintro pre x suf hxs hx
  rcases hx with ⟨hc,hx⟩
  cases hc
 ·rintro i pre x suf hxs hx
  rcases hx with ⟨hc,hx⟩
  injection hc with hc
  subst hc
  refine Y O<|zE one3 (J 0 O) O<|oi O<|zM<|zX O ?_
  exact ai vI (by rw [szT,hxs];simp at hx⊢;omega)
def zQa (e:Ex) (he:e.wt<=6000000000000):
    Pur cfg 178 [vE e] (vI (dO e)):=by
 refine zV func178 O ntmps178 results178 O fun z hz=>Y O<|og O fun b1=>qA O O (qZ O zr34) ?_
 rintro _ _ ⟨b2,rfl,rfl⟩
 refine zA<|zF<|Y O<|zN yZ (J 1 O) O<|qL O uB (expr_Depth e he) (vlr O)<|zT O (yN O O O)<|zA<|zK O ?_ ?_<;>intro c1<;>try simp only [sx] at c1
 ·refine Y O<|rStR 0 sz34 O<|zA<|zM<|fin1 (wZ zPk O (J 0 O) O) ?_
  rw [dO,zAp c1];rfl
 ·refine zH<|zF<|Y O<|zN yZ (J 1 O) O<|qL O uB (expr_Size e he) (vlr O)<|zT O (yN O O O)<|zA<|zK O ?_ ?_<;>intro c2<;>try simp only [sx] at c2
  ·refine Y O<|rStR 0 sz34 O<|zA<|zM<|fin1 (wZ zPk O (J 0 O) O) ?_
   rw [dO,kK zB,zAp c2];rfl
  ·refine zH<|zF<|Y O<|zN yZ (J 1 O) O<|qL O uB (zXl _) (vlr O)<|zA<|zS<|zW _ (Weak.mem [true,false] O)<|zKl (ps:=[13]) hz 1 O O uB (zUx e he) (fun _ _=>O) O (fun pre=>jU pre=0) (fun pre=>[E.row b2 34 [cI 0]]) (fun c pre=>(c=.ret/\¬jU pre=0)) (fun c pre=>[E.row b2 34 [cI (jU pre)]]) ⟨O,O⟩ ?_ ?_ ?_ ?_
   ·intro pre x suf hxs hi z hz
    have hxw:x.wt<=6000000000000:=by have:=zJs e x (by rw [hxs];simp);omega
    refine zP O<|qA O O (qI nr O zr62 O) ?_
    rintro _ _ ⟨b3,rfl,rfl⟩
    refine rStR 0 sz62 O<|zA ?_
    intro z hz
    refine zS<|Y O<|zN yZ (J 0 O) O<|qL O uB (expr_validNode x hxw) (vlr O)<|oi O<|ol O O<|yM O<|zA<|zK O ?_ ?_<;>intro c3<;>try simp only [sx] at c3
    ·refine ol O O<|rStR 1 sz34 O<|zA<|zM ?_
     exact zFy (τ:=⟨[],_⟩) (Weak.mk [false,true] T O) ⟨⟨O,by rw [errs_one hi c3];exact c3⟩,(by dsimp only;rw [errs_one hi c3];rfl)⟩
    ·refine zH ?_
     exact zFy (τ:=⟨[],_⟩) (Weak.mk [false,true] T O) ⟨(by dsimp only;rw [zIc,hi,jU,c3];rfl),O⟩
   ·intro hd
    refine Y O<|rStR 0 sz34 O<|zA<|zM<|fin1 (wZ zPk O (J 0 O) O) ?_
    rw [dO,kK zB,kK zB,av,av,gF,hd]
   ·rintro pre x suf hxs hx
    rcases hx with ⟨hc,hx⟩
    clear hc
    repeat (first|refine zVc ?_|refine zSl ?_)
    refine fin1 (wZ zPk O (J 0 O) O) ?_
    rw [dO,kK zB,kK zB,av,av,gF,hxs,errs_pre (suf:=suf) hx]
   ·rintro i pre x suf hxs hx
    rcases hx with ⟨hc,hx⟩
    cases hc
end Go.W
end
section
set_option maxRecDepth 10000
namespace Go.W
open Go Go.Eng Go.Proofs Go.L41 Go.Br Tryz
attribute [local irreducible] AWP RWP TD fY
def base_LinsF (a b:List Lf) (ha:a.length<=6000000000000) (hw:∀x,x∈a->x.L.length<=6000000000000):
    Pur cfg 204 [mN a,mN b] (vB (decide (a=b))):=by
 refine zV func204 O ntmps204 results204 O fun z hz=>oh O O<|zF<|ol O O<|qC O el72<|G O<|qC O el72<|yM O<|zA<|zK O (fun c1=>?_) (fun c1=>?_)
 ·exact v38
 ·try simp only [sx] at c1
  refine zH<|zF<|oh O O<|zS<|zW ⟨[(5,.c _),(0,.c _),(1,.c _)],[]⟩ (Weak.mk [] ⟨zD,zD,zD,T⟩ O)<|qG 1 0 O O (Nat) (fun k=>[(5,vI k)]) (fun k=>[]) (fun k=>k<=a.length/\(a.take k=b.take k)) (fun k=>a.length-k) ⟨0,⟨zB,O⟩,Weak.mk [] ⟨zD,zD,zD,T⟩ O⟩ ?_
  rintro k ⟨hk,hp⟩
  refine zF<|ol O O<|G O<|qC O el72<|yC O<|zA<|zK O (fun c2=>?_) (fun c2=>?_)
  ·try simp only [sx] at c2
   obtain ⟨x,hx⟩:=qX a k zB
   obtain ⟨y,hy⟩:=qX b k zB
   refine zH<|zF<|zS<|zF<|yH 10 mixed uB O O<|oo O (zQ O O)<|oo O (zQ O O)<|oo O (qK O el72 O O zB (getm uC))<|oo O (qB O yV O qF O)<|oo O (zQ O O)<|oo O (zQ O O)<|oo O (qK O el72 O O zB (getm uC))<|oo O (qB O yV O qF O)<|oo O (qP O uB (base_Lin x y (hw x (qD hx))) (vlr O))<|oo O (wV O O)<|kE<|zA<|zK O (fun c3=>?_) (fun c3=>?_)
   ·exact v57
   ·exact k7
  ·exact v29
def base_Lins (a b:List Lf) (ha:a.length<=6000000000000) (hw:fR a<=6000000000000):Pur cfg 204 [mN a,mN b] (vB (decide (a=b))):=
  base_LinsF a b ha fun x hx=>by have:=zBw hx;omega
def base_Index (a b:Ix) (ha:a.wt<=6000000000000):
    Pur cfg 162 [jN a,jN b] (vB (decide (a=b))):=by
 refine zV func162 O ntmps162 results162 O ?_
 intro z hz
 have hw:=ha
 unfold Ix.wt at hw
 refine Y O<|og O fun b1=>og O fun b2=>oi O<|Y O<|zC O zEs<|zE one9 (J 1 O) O<|zC O zEs<|zE one9 (J 0 O) O<|wC O<|G O<|rL0 O (fun g1_5=>zG O zCy O) O<|rL1 11 O (fun g1_5=>qB O yV O (J 1 O) O) O<|rL0 O (fun g1_5=>zG O zCy O) O<|rL1 13 O (fun g1_5=>qB O yV O (J 0 O) O) O<|rLz [(12,_),(14,_)] O gv1 ⟨O,O,O,O,T⟩ (fun g1_5=>qP O uB (base_Lin a.Lin b.Lin zB) (vlr O)) O<|kH O (fun h=>h)<|G O<|rL0 O (fun g1_12=>zG O zAi O) O<|rL1 18 O (fun g1_12=>zJ O zBs O (J 1 O) O) O<|rL0 O (fun g1_12=>zG O zAi O) O<|rL1 20 O (fun g1_12=>zJ O zBs O (J 0 O) O) O<|rLz [(19,_),(21,_)] O gv1 ⟨O,O,O,O,T⟩ (fun g1_12=>qP O uB (base_Lins a.At b.At zB zB) (vlr O)) O<|kH O (fun h=>h)<|oi O<|zM<|zX O ?_
 exact ai vB (ix_eq a b)
def zTc (a b:List Ix) (ha:a.length<=6000000000000) (hw:fC a<=6000000000000):
    Pur cfg 100 [nD a,nD b] (vB (decide (a=b))):=by
 refine zV func100 O ntmps100 results100 O fun z hz=>oh O O<|zF<|ol O O<|qC O el52<|G O<|qC O el52<|yM O<|zA<|zK O (fun c1=>?_) (fun c1=>?_)
 ·exact v38
 ·try simp only [sx] at c1
  refine zH<|zF<|oh O O<|zS<|zW ⟨[(5,.c _),(0,.c _),(1,.c _)],[]⟩ (Weak.mk [] ⟨zD,zD,zD,T⟩ O)<|qG 1 0 O O (Nat) (fun k=>[(5,vI k)]) (fun k=>[]) (fun k=>k<=a.length/\(a.take k=b.take k)) (fun k=>a.length-k) ⟨0,⟨zB,O⟩,Weak.mk [] ⟨zD,zD,zD,T⟩ O⟩ ?_
  rintro k ⟨hk,hp⟩
  refine zF<|ol O O<|G O<|qC O el52<|yC O<|zA<|zK O (fun c2=>?_) (fun c2=>?_)
  ·try simp only [sx] at c2
   obtain ⟨x,hx⟩:=qX a k zB
   obtain ⟨y,hy⟩:=qX b k zB
   have hxw:=zDs (qD hx)
   refine zH<|zF<|zS<|zF<|yH 10 mixed uB O O<|oo O (zQ O O)<|oo O (zQ O O)<|oo O (qK O el52 O O zB (getm uC))<|oo O (qB O zGp O qF O)<|oo O (zQ O O)<|oo O (zQ O O)<|oo O (qK O el52 O O zB (getm uC))<|oo O (qB O zGp O qF O)<|oo O (qP O uB (base_Index x y zB) (vlr O))<|oo O (wV O O)<|kE<|zA<|zK O (fun c3=>?_) (fun c3=>?_)
   ·exact v57
   ·exact k7
  ·exact v29
def base_Exprs_of (a b:List Ex) (hE:∀x,x∈a->∀y,Pur cfg 101 [vE x,vE y] (vB (decide (x=y)))) (ha:a.length<=6000000000000):
    Pur cfg 164 [vEs a,vEs b] (vB (decide (a=b))):=by
 refine zV func164 O ntmps164 results164 O fun z hz=>oh O O<|zF<|ol O O<|qC O el60<|G O<|qC O el60<|yM O<|zA<|zK O (fun c1=>?_) (fun c1=>?_)
 ·exact v38
 ·try simp only [sx] at c1
  refine zH<|zF<|oh O O<|zS<|zW ⟨[(5,.c _),(0,.c _),(1,.c _)],[]⟩ (Weak.mk [] ⟨zD,zD,zD,T⟩ O)<|qG 1 0 O O (Nat) (fun k=>[(5,vI k)]) (fun k=>[]) (fun k=>k<=a.length/\(a.take k=b.take k)) (fun k=>a.length-k) ⟨0,⟨zB,O⟩,Weak.mk [] ⟨zD,zD,zD,T⟩ O⟩ ?_
  rintro k ⟨hk,hp⟩
  refine zF<|ol O O<|G O<|qC O el60<|yC O<|zA<|zK O (fun c2=>?_) (fun c2=>?_)
  ·try simp only [sx] at c2
   obtain ⟨x,hx⟩:=qX a k zB
   obtain ⟨y,hy⟩:=qX b k zB
   refine zH<|zF<|zS<|zF<|yH 10 mixed uB O O<|oo O (zQ O O)<|oo O (zQ O O)<|oo O (qK O el60 O O zB (zJz uC))<|oo O (qB O yZ O qF O)<|oo O (zQ O O)<|oo O (zQ O O)<|oo O (qK O el60 O O zB (zJz uC))<|oo O (qB O yZ O qF O)<|oo O (qP O uB (hE x (qD hx) y) (vlr O))<|oo O (wV O O)<|kE<|zA<|zK O (fun c3=>?_) (fun c3=>?_)
   ·exact v57
   ·exact k7
  ·exact v29
def base_Expr_step (a:Ex) (ih:∀x,x∈a.Args->x.wt<=6000000000000->∀y,Pur cfg 101 [vE x,vE y] (vB (decide (x=y)))) (ha:a.wt<=6000000000000) (b:Ex):
    Pur cfg 101 [vE a,vE b] (vB (decide (a=b))):=by
 refine zV func101 O ntmps101 results101 O ?_
 intro z hz
 obtain ⟨hL,hI,hA⟩:=a.parts ha
 have hw:=Ex.wt_eq a
 refine Y O<|og O fun b1=>og O fun b2=>oi O<|Y O<|zC O wH<|zE one3 (J 1 O) O<|zC O wH<|zE one3 (J 0 O) O<|yT O<|G O<|rL0 O (fun g1_5=>zG O zIa O) O<|rL1 11 O (fun g1_5=>zJ O one9 O (J 1 O) O) O<|rL0 O (fun g1_5=>zG O zIa O) O<|rL1 13 O (fun g1_5=>zJ O one9 O (J 0 O) O) O<|rLz [(12,_),(14,_)] O gv1 ⟨O,O,O,O,T⟩ (fun g1_5=>zKe O O O) O<|kH O (fun h=>h)<|G O<|rL0 O (fun g1_12=>zG O zMj O) O<|rL1 18 O (fun g1_12=>qB O zBy O (J 1 O) O) O<|rL0 O (fun g1_12=>zG O zMj O) O<|rL1 20 O (fun g1_12=>qB O zBy O (J 0 O) O) O<|rLz [(19,_),(21,_)] O gv1 ⟨O,O,O,O,T⟩ (fun g1_12=>det_aeql O fl54 O O O) O<|kH O (fun h=>h)<|G O<|rL0 O (fun g1_19=>zG O zGl O) O<|rL1 25 O (fun g1_19=>qB O yE O (J 1 O) O) O<|rL0 O (fun g1_19=>zG O zGl O) O<|rL1 27 O (fun g1_19=>qB O yE O (J 0 O) O) O<|rLz [(26,_),(28,_)] O gv1 ⟨O,O,O,O,T⟩ (fun g1_19=>det_aeql O fl56 O O O) O<|kH O (fun h=>h)<|G O<|rL0 O (fun g1_26=>zG O zDt O) O<|rL1 32 O (fun g1_26=>qB O yV O (J 1 O) O) O<|rL0 O (fun g1_26=>zG O zDt O) O<|rL1 34 O (fun g1_26=>qB O yV O (J 0 O) O) O<|rLz [(33,_),(35,_)] O gv1 ⟨O,O,O,O,T⟩ (fun g1_26=>qP O uB (base_Lin a.Lin b.Lin hL) (vlr O)) O<|kH O (fun h=>h)<|G O<|rL0 O (fun g1_33=>zG O wB O) O<|rL1 39 O (fun g1_33=>zJ O wX O (J 1 O) O) O<|rL0 O (fun g1_33=>zG O wB O) O<|rL1 41 O (fun g1_33=>zJ O wX O (J 0 O) O) O<|rLz [(40,_),(42,_)] O gv1 ⟨O,O,O,O,T⟩ (fun g1_33=>qP O uB (zTc a.Idx b.Idx hI zB) (vlr O)) O<|kH O (fun h=>h)<|G O<|rL0 O (fun g1_40=>zG O zAc O) O<|rL1 46 O (fun g1_40=>zJ O zDc O (J 1 O) O) O<|rL0 O (fun g1_40=>zG O zAc O) O<|rL1 48 O (fun g1_40=>zJ O zDc O (J 0 O) O) O<|rLz [(47,_),(49,_)] O gv1 ⟨O,O,O,O,T⟩ (fun g1_40=>qP O uB (base_Exprs_of a.Args b.Args (fun x hx y=>ih x hx (by have:=Ex.arg_wt hx;omega) y) hA) (vlr O)) O<|kH O (fun h=>h)<|oi O<|zM<|zX O ?_
 exact ai vB (ex_eq a b)
def base_Expr (a b:Ex) (ha:a.wt<=6000000000000):Pur cfg 101 [vE a,vE b] (vB (decide (a=b))):=by
  induction a using Ex.ind generalizing b with
  |_ a ih=>exact base_Expr_step a (fun x hx h y=>ih x hx y h) ha b
def zYe (e:Ex) (ih:∀a,a∈e.Args->∀(m:Nat) (x:Int),a.fit->m<=1000000->x=m->Pur cfg 21 [vE a,vI x] (vI (gW a m))) (m:Nat) (x:Int) (hf:e.fit) (hm:m<=1000000) (hx:x=m):
    Pur cfg 21 [vE e,vI x] (vI (gW e m)):=by
 refine zV func21 O ntmps21 results21 O ?_
 intro z hz
 obtain ⟨f1,f2,f3,f4,f5⟩:=Ex.fit_eq hf
 have hW:=weighE_eq e m
 refine Y O<|og O fun b1=>oi O<|Y O<|zC O zDt<|zC O kC<|zE wA (J 0 O) O<|qC O D<|qH O ⟨zB,zB⟩<|zC O wB<|zE wX (J 0 O) O<|qC O el52<|qH O ⟨zB,zB⟩<|oi O<|zF<|oh O O<|zS<|zW ⟨[(6,.c _),(5,.c _),(1,.c _),(2,.c _)],[_]⟩ (Weak.mk [true] ⟨zD,zD,zD,zD,T⟩ O) ?_
 refine qG 2 0 O O (Nat×Nat) (fun ⟨k,n⟩=>[(6,vI k),(5,vI n)]) (fun ⟨k,n⟩=>[]) (fun ⟨k,n⟩=>k<=e.Idx.length/\(n<=m+4*140737488355328)/\(fF m (1+e.Lin.L.length+e.Idx.length) e.Idx=fF m n (e.Idx.drop k))) (fun ⟨k,n⟩=>e.Idx.length-k) ⟨⟨0,1+e.Lin.L.length+e.Idx.length⟩,⟨zB,zB,O⟩,Weak.mk [true] ⟨zD,VLe.of_eq (ai vI zB),zD,zD,T⟩ O⟩ ?_
 rintro ⟨k,n⟩ ⟨hk,hn1,hn2⟩
 show AWP _ _ _ _ _ ⟨[(6,vI k),(5,vI n)]++_,[]++_⟩
 refine zF<|ol O O<|zC O wB<|zE wX (J 0 O) O<|qC O el52<|yC O<|G O<|rL0 O (fun g3_5=>zQ O O) O<|rL0 O (fun g3_5=>zQ O O) O<|rLz [(24,_),(25,_)] O gv1 ⟨O,O,O,O,T⟩ (fun g3_5=>zAh O O O) O<|kH O (fun h=>h)<|zA<|zK O ?_ ?_<;>intro c1<;>try simp only [sx] at c1
 ·obtain ⟨y,hy⟩:=qX e.Idx k zB
  obtain ⟨i1,i2,i3⟩:=f4 y (qD hy)
  refine zH<|zF<|zS<|zF<|yH 19 mixed uB O O<|oo O (zQ O O)<|oo O (zG O wB O)<|oo O (zJ O wX O (J 0 O) O)<|oo O (zQ O O)<|oo O (qK O el52 O O zB (getm uC))<|oo O (qV O zCy O)<|oo O (qV O kC O)<|oo O (zJ O wA O qF O)<|oo O (yG O D O)<|oo O (zJd O O O ⟨zB,zB⟩)<|oo O (zG O wB O)<|oo O (zJ O wX O (J 0 O) O)<|oo O (zQ O O)<|oo O (qK O el52 O O zB (getm uC))<|oo O (qV O zAi O)<|oo O (zJ O zBs O qF O)<|oo O (yG O el72 O)<|oo O (zJd O O O ⟨zB,zB⟩)<|oo O (yR O O)<|kE<|zA<|oh O O<|zS<|zW ⟨[(7,.c _),(5,.c _),(1,.c _),(2,.c _),(6,.c _)],[_]⟩ (Weak.mk [true] ⟨zD,zD,zD,zD,zD,T⟩ O) ?_
  refine qG 2 0 O O (Nat×Nat) (fun ⟨j,p⟩=>[(7,vI j),(5,vI p)]) (fun ⟨j,p⟩=>[]) (fun ⟨j,p⟩=>j<=y.At.length/\(p<=m+4*140737488355328)/\(gH m (n+y.Lin.L.length+y.At.length) y.At=gH m p (y.At.drop j))) (fun ⟨j,p⟩=>y.At.length-j) ⟨⟨0,n+y.Lin.L.length+y.At.length⟩,⟨zB,zB,O⟩,Weak.mk [true] ⟨zD,VLe.of_eq (ai vI zB),zD,zD,zD,T⟩ O⟩ ?_
  rintro ⟨j,p⟩ ⟨hj,hp1,hp2⟩
  show AWP _ _ _ _ _ ⟨[(7,vI j),(5,vI p)]++_,[]++_⟩
  refine zF<|ol O O<|zC O wB<|zE wX (J 0 O) O<|G O<|qE O el52 zB (getm uC)<|qR O zAi<|zE zBs qF O<|qC O el72<|yC O<|G O<|rL0 O (fun g7_9=>zQ O O) O<|rL0 O (fun g7_9=>zQ O O) O<|rLz [(58,_),(59,_)] O gv1 ⟨O,O,O,O,T⟩ (fun g7_9=>zAh O O O) O<|kH O (fun h=>h)<|zA<|zK O ?_ ?_<;>intro c2<;>try simp only [sx] at c2
  ·obtain ⟨l,hl⟩:=qX y.At j zB
   have hl2:=i3 l (qD hl)
   refine zH<|zF<|zS<|zP O<|G O<|zC O wB<|zE wX (J 0 O) O<|G O<|qE O el52 zB (getm uC)<|qR O zAi<|zE zBs qF O<|G O<|qE O el72 zB (getm uC)<|qR O kC<|zE wA qF O<|qC O D<|qH O ⟨zB,zB⟩<|oi O<|zP O<|G O<|qH O ⟨zB,zB⟩<|G O<|zA ?_
   refine ⟨⟨j+1,p+l.L.length⟩,⟨zB,zB,by rw [hp2,qJ hl,gH,ab zB]⟩,(by show y.At.length-(j+1)<y.At.length-j;omega),Weak.mk [true] ⟨zD,VLe.of_eq (ai vI zB),zD,zD,zD,T⟩ O⟩
  ·have hN2:=weighAt_end (l:=y.At) (k:=j) (n:=p) hx zB
   refine qM<|zP O<|G O<|qH O ⟨zB,zB⟩<|G O<|zA ?_
   refine ⟨⟨k+1,p⟩,⟨zB,hp1,by rw [hn2,qJ hy,fF,ab zB,hp2,←hN2]⟩,(by show e.Idx.length-(k+1)<e.Idx.length-k;omega),Weak.mk [true] ⟨zD,zD,zD,zD,T⟩ O⟩
 ·have hN:=weighIdx_end (l:=e.Idx) (k:=k) (n:=n) hx zB
  refine qM<|zF<|oh O O<|zS<|zW ⟨[(8,.c _),(5,.c _),(1,.c _),(2,.c _)],[_]⟩ (Weak.mk [true] ⟨zD,zD,zD,zD,T⟩ O)<|qG 2 0 O O (Nat×Nat) (fun ⟨k,n⟩=>[(8,vI k),(5,vI n)]) (fun ⟨k,n⟩=>[]) (fun ⟨k,n⟩=>k<=e.Args.length/\(n<=m+4*140737488355328)/\(gW e m=jW (e.Args.drop k) m n)) (fun ⟨k,n⟩=>e.Args.length-k) ⟨⟨0,n⟩,⟨zB,hn1,by rw [hW,hn2,←hN];rfl⟩,Weak.mk [true] ⟨zD,zD,zD,zD,T⟩ O⟩ ?_
  rintro ⟨k,n⟩ ⟨hk3,hn3,hn4⟩
  show AWP _ _ _ _ _ ⟨[(8,vI k),(5,vI n)]++_,[]++_⟩
  refine zF<|ol O O<|zC O zAc<|zE zDc (J 0 O) O<|qC O el60<|yC O<|G O<|rL0 O (fun g11_5=>zQ O O) O<|rL0 O (fun g11_5=>zQ O O) O<|rLz [(83,_),(84,_)] O gv1 ⟨O,O,O,O,T⟩ (fun g11_5=>zAh O O O) O<|kH O (fun h=>h)<|zA<|zK O ?_ ?_<;>intro c3<;>try simp only [sx] at c3
  ·obtain ⟨a,ha⟩:=qX e.Args k zB
   have hwa:=zUv a (m-n) (f5 a (qD ha))
   refine zH<|zF<|zS<|zP O<|G O<|zC O zAc<|zE zDc (J 0 O) O<|G O<|qE O el60 zB (zJz uC)<|zN yZ qF O<|G O<|G O<|zT O (yL O O O ⟨zB,zB⟩)<|qL O uB (ih a (qD ha) (m-n) _ (f5 a (qD ha)) zB zB) (vlr O)<|qH O ⟨zB,zB⟩<|oi O<|zP O<|G O<|qH O ⟨zB,zB⟩<|G O<|zA ?_
   refine ⟨⟨k+1,n+gW a (m-n)⟩,⟨zB,zB,by rw [hn4,qJ ha,jW,ab zB]⟩,(by show e.Args.length-(k+1)<e.Args.length-k;omega),Weak.mk [true] ⟨zD,VLe.of_eq (ai vI zB),zD,zD,T⟩ O⟩
  ·refine qM<|ol O O<|oi O<|zM<|zX O ?_
   exact ai vI (by rw [hn4,←weighL_end hx zB])
def base_Weigh (e:Ex) (m:Nat) (x:Int) (hf:e.fit) (hm:m<=1000000) (hx:x=m):Pur cfg 21 [vE e,vI x] (vI (gW e m)):=by
  induction e using Ex.ind generalizing m x with
  |_ e ih=>exact zYe e (fun a ha m x h1 h2 h3=>ih a ha m x h1 h2 h3) m x hf hm hx
def zIr (l:List Mono) (hl:l.length<=5864062014805):
    OwnR cfg 196 [cE l] 139 2 (l.map Mono.cells):=by
 refine zV func196 O ntmps196 results196 O fun z hz=>Y O<|qY 2 O<|zA<|zF<|ol O O<|qA O O (zIt O D O O) ?_
 rintro _ _ ⟨nb1,rfl,hnil1,rfl⟩
 refine zA<|zK O ?_ ?_<;>intro c1<;>try simp only [sx] at c1
 ·refine ol O O<|yP _ (kF 139 2)<|zA<|zM<|zX O ?_
  exact ⟨_,O,by rw [hnil1 c1]⟩
 ·refine zH<|Y O<|qA O O (zAt O D zEk O O O O) ?_
  rintro _ _ ⟨sv3,rfl,rfl⟩
  refine G O<|qA O O (yB 0 O D O O O uJ uJ) ?_
  exact v14
def zKn (l:List Lf) (hl:l.length<=4294967296):
    OwnR cfg 129 [mN l] 59 2 (l.map Lf.cells):=by
 refine zV func129 O ntmps129 results129 O fun z hz=>Y O<|qY 2 O<|zA<|zF<|ol O O<|qA O O (zIt O el72 O O) ?_
 rintro _ _ ⟨nb1,rfl,hnil1,rfl⟩
 refine zA<|zK O ?_ ?_<;>intro c1<;>try simp only [sx] at c1
 ·refine ol O O<|yP _ (kF 59 2)<|zA<|zM<|zX O ?_
  exact ⟨_,O,by rw [hnil1 c1]⟩
 ·refine zH<|Y O<|qA O O (zAt O el72 U O O O O) ?_
  rintro _ _ ⟨sv3,rfl,rfl⟩
  refine G O<|qA O O (yB 0 O el72 O O O uJ uJ) ?_
  exact v14
def zLj (l:List Ix) (hl:l.length<=4294967296):
    OwnR cfg 128 [nD l] 93 4 (l.map Ix.cells):=by
 refine zV func128 O ntmps128 results128 O fun z hz=>Y O<|qY 4 O<|zA<|zF<|ol O O<|qA O O (zIt O el52 O O) ?_
 rintro _ _ ⟨nb1,rfl,hnil1,rfl⟩
 refine zA<|zK O ?_ ?_<;>intro c1<;>try simp only [sx] at c1
 ·refine ol O O<|yP _ (kF 93 4)<|zA<|zM<|zX O ?_
  exact ⟨_,O,by rw [hnil1 c1]⟩
 ·refine zH<|Y O<|qA O O (zAt O el52 zr93 O O O O) ?_
  rintro _ _ ⟨sv3,rfl,rfl⟩
  refine G O<|qA O O (yB 0 O el52 O O O uJ uJ) ?_
  exact v14
def zLk (l:List Ex) (hl:l.length<=4294967296):
    OwnR cfg 130 [vEs l] 62 13 (l.map Ex.cells):=by
 refine zV func130 O ntmps130 results130 O fun z hz=>Y O<|qY 13 O<|zA<|zF<|ol O O<|qA O O (zIt O el60 O O) ?_
 rintro _ _ ⟨nb1,rfl,hnil1,rfl⟩
 refine zA<|zK O ?_ ?_<;>intro c1<;>try simp only [sx] at c1
 ·refine ol O O<|yP _ (kF 62 13)<|zA<|zM<|zX O ?_
  exact ⟨_,O,by rw [hnil1 c1]⟩
 ·refine zH<|Y O<|qA O O (zAt O el60 zr62 O O O O) ?_
  rintro _ _ ⟨sv3,rfl,rfl⟩
  refine G O<|qA O O (yB 0 O el60 O O O uJ uJ) ?_
  exact v14
end Go.W
end
section
set_option maxRecDepth 10000
namespace Go.W
open Go Go.Eng Go.Proofs Go.L41 Go.Br Tryz
attribute [local irreducible] AWP RWP TD fY
def pl62:fA prog 62=some [(0,1),(1,1),(2,2),(4,5),(9,2),(11,1),(12,1)]:=by kernel_rfl
def sz52:(prog.info? 52).map (·.size)=some 1:=by kernel_rfl
def sz60:(prog.info? 60).map (·.size)=some 1:=by kernel_rfl
def sz72:(prog.info? 72).map (·.size)=some 1:=by kernel_rfl
def mapForms_step (f:Lf->Lf×Int) (c:C) (P:Lf->Prop) (hf:∀l,P l->FnPur cfg c [dC l] (.tup [dC (f l).1,vI (f l).2])) (e:Ex) (hP:e.allF P) (ih:∀a,a∈e.Args->a.allF P->a.cnt<=4294967296->Pur cfg 69 [vE a,.c c] (.tup [vE (jZ (mEx f a)),vI (gG (mEx f a))])) (he:e.cnt<=4294967296):
    Pur cfg 69 [vE e,.c c] (.tup [vE (jZ (mEx f e)),vI (gG (mEx f e))]):=by
 refine zV func69 O ntmps69 results69 O ?_
 intro z hz
 obtain ⟨hI,hA,hAt⟩:=e.cparts he
 refine Y O<|og O fun b1=>qA O O (qI nr O zr62 O) ?_
 rintro _ _ ⟨b2,rfl,rfl⟩
 refine oi O<|Y O<|zN yZ (J 1 O) O<|qA O O (qI nr O zr62 O) ?_
 rintro _ _ ⟨b3,rfl,rfl⟩
 refine rStR 0 sz62 O<|zA<|oh O O<|zF<|ol O O<|zC O zDt<|zN yV (J 2 O) O<|zT O (wL O O (hf e.Lin (Ex.allF_lin hP)) (vlr O))<|qW O<|zT O (yD O O O)<|yF O<|zC O zDt<|rStR 0 sz59 O<|oi O<|ol O O<|yM O<|zA<|zK O (fun c1=>?_) (fun c1=>?_)
 ·exact v61
 ·try simp only [sx] at c1
  refine zH<|Y O<|zC O wB<|zE wX (J 2 O) O<|qA O O (zCa O uB (zLj e.Idx hI) (vlr O)) ?_
  rintro _ _ ⟨sv4,rfl,rfl⟩
  refine zC O wB<|rStR 1 sz52 O<|zA<|zF<|Y O<|zC O wB<|zE wX (J 3 O) O<|qC O el52<|oi O<|zS<|zW ⟨[(34,.c _),(1,.c _),(2,.c _),(4,.c _),(6,.c _),(32,.c _),(33,.c _)],[_,_,_,_]⟩ (Weak.mk [true,true,true,true] ⟨zD,zD,zD,zD,zD,zD,zD,T⟩ O)<|qG 1 1 O O (Nat×List Ix) (fun ⟨k,outs⟩=>[(34,vI k)]) (fun ⟨k,outs⟩=>[E.vec sv4 93 4 (outs.map Ix.cells++(e.Idx.drop k).map Ix.cells)]) (fun ⟨k,outs⟩=>k<=e.Idx.length/\(outs.length=k)/\(dM f e.Idx=bW outs (dM f (e.Idx.drop k)))) (fun ⟨k,outs⟩=>e.Idx.length-k) ⟨⟨0,[]⟩,⟨zB,O,(zBj _).symm⟩,Weak.mk [true,true,true,true] ⟨zD,zD,zD,zD,zD,zD,zD,T⟩ O⟩ ?_
  rintro ⟨k,outs⟩ ⟨hk,ho,hp⟩
  show AWP _ _ _ _ _ ⟨[(34,vI k)]++_,[E.vec sv4 93 4 (outs.map Ix.cells++(e.Idx.drop k).map Ix.cells)]++_⟩
  refine Y O<|yC O<|zA<|zF<|zK O ?_ ?_<;>intro c2<;>try simp only [sx] at c2
  ·obtain ⟨x,hx⟩:=qX e.Idx k zB
   have hxw:=hAt x (qD hx)
   refine zH<|zF<|zS<|ol O O<|qE O el52 zB (getm uC)<|zN zGp qF O<|qA O O (qI ns O zr93 O) ?_
   rintro _ _ ⟨b5,rfl,rfl⟩
   refine G O<|rStR 0 sz93 O<|zA<|zF<|zF<|zSm 12 [false,false,false,false,false,false,false,false,false,true,false,false] eG mixed uB O O O<|wO O O (zG O wB O)<|wO O O (zJ O wX O (J 2 O) O)<|wO O O (zQ O O)<|wO O O (zQ O O)<|wO O O (zG O zCy O)<|wO O O (qB O yV O (J 0 O) O)<|wO O O (wL O O (hf x.Lin (Ex.allF_ix hP (qD hx))) (vlr O))<|wO O O (yW O O)<|wO O O (yD O O O)<|td2_detA O O (fun _=>kM O O O)<|wO O O (qT 1 O el52 O O O zB (zLx uD zB))<|wO O O (wF O zCy O)<|td2_nil ?_
   refine ⟨_,yO O sz59 O O O (zEw 1 O (zRs uD hx) O),fun _ _ _=>T,?_⟩
   rintro _ _ ⟨rfl,rfl⟩
   refine oi O<|ol O O<|yM O<|zA<|zK O ?_ ?_<;>intro c3<;>try simp only [sx] at c3
   ·refine Y O<|yQ nr O zr62 pl62<|G O<|rStR 3 sz62 O<|oi O<|zM<|fin2 (zZ yZ O (J 3 O) O) (rs_c O) ?_
    rw [mEx_e2 c1 (zWi hx hp (mIx_e1 c3))];rfl
   ·refine zH<|zF<|awp_draw_f 8 [.q,.q,.q,.q,.q,.f,.q,.q] eG mixed uB O O O<|wN O O (zG O wB O)<|wN O O (zJ O wX O (J 2 O) O)<|wN O O (zQ O O)<|wN O O (zG O zAi O)<|wN O O (zJ O zBs O (J 0 O) O)<|zTt<|wN O O (qT 1 O el52 O O O zB uD)<|wN O O (wF O zAi O)<|tdq_nil<|zDj<|zDj<|zDj<|zDj<|zDj<|zOw (fresh_own (zCa O uB (zKn x.At zB) (vlr O)))<|zDj<|zDj<|tdf_nil<|zNg ?_
    rintro _ _ ⟨sv6,rfl,rfl⟩
    refine zQn ?_
    refine ⟨_,yO O sz72 O O O (zEw 2 O (zHd uD) O),(fun _ _ _=>T),?_⟩
    rintro _ _ ⟨rfl,rfl⟩
    refine zA<|Y O<|zC O zAi<|zE zBs (J 1 O) O<|qC O el72<|oi O<|zS<|zW ⟨[(66,.c _),(1,.c _),(2,.c _),(4,.c _),(6,.c _),(8,.c _),(32,.c _),(33,.c _),(34,.c _),(64,.c _),(65,.c _)],[_,_,_,_,_]⟩ (Weak.mk [true,false,true,true,true,true] ⟨zD,zD,zD,zD,zD,zD,zD,zD,zD,zD,zD,T⟩ O)<|qG 1 1 O O (Nat×List Lf) (fun ⟨j,lins⟩=>[(66,vI j)]) (fun ⟨j,lins⟩=>[E.vec sv6 59 2 (lins.map Lf.cells++(x.At.drop j).map Lf.cells)]) (fun ⟨j,lins⟩=>j<=x.At.length/\(lins.length=j)/\(dL f x.At=bW lins (dL f (x.At.drop j)))) (fun ⟨j,lins⟩=>x.At.length-j) ⟨⟨0,[]⟩,⟨zB,O,(zBj _).symm⟩,Weak.mk [true,true,true,true,true] ⟨zD,zD,zD,zD,zD,zD,zD,zD,zD,zD,zD,T⟩ O⟩ ?_
    rintro ⟨j,lins⟩ ⟨hj,hlo,hq⟩
    show AWP _ _ _ _ _ ⟨[(66,vI j)]++_,[E.vec sv6 59 2 (lins.map Lf.cells++(x.At.drop j).map Lf.cells)]++_⟩
    refine Y O<|yC O<|zA<|zF<|zK O ?_ ?_<;>intro c4<;>try simp only [sx] at c4
    ·obtain ⟨l,hl⟩:=qX x.At j zB
     have hlw:=hAt x (qD hx)
     refine zH<|zF<|zS<|ol O O<|qE O el72 zB (getm uC)<|zN yV qF O<|qA O O (qI [none,some 2] O U O) ?_
     rintro _ _ ⟨b7,rfl,rfl⟩
     refine G O<|rStR 0 sz59 O<|zA<|zF<|zSm 14 [false,false,false,false,false,false,false,false,false,false,false,false,true,false] eG mixed uB O O O<|wO O O (zG O wB O)<|wO O O (zJ O wX O (J 3 O) O)<|wO O O (zQ O O)<|wO O O (qT 2 O el52 O O O zB uD)<|wO O O (wF O zAi O)<|wO O O (zJ O zBs O (kQ 2 O (zHd uD)) O)<|wO O O (zQ O O)<|wO O O (zQ O O)<|wO O O (qB O yV O (J 0 O) O)<|wO O O (wL O O (hf l (Ex.allF_at hP (qD hx) (qD hl))) (vlr O))<|wO O O (yW O O)<|wO O O (yD O O O)<|td2_detA O O (fun _=>kM O O O)<|wO O O (qT 1 O el72 O O O zB (zLx uD zB))<|td2_nil ?_
     refine ⟨_,yO O sz59 O O O (zEw 1 O (zRs uD hl) O),fun _ _ _=>T,?_⟩
     rintro _ _ ⟨rfl,rfl⟩
     refine oi O<|ol O O<|yM O<|zA<|zK O ?_ ?_<;>intro c5<;>try simp only [sx] at c5
     ·refine Y O<|yQ nr O zr62 pl62<|G O<|rStR 4 sz62 O<|oi O<|zM<|fin2 (zZ yZ O (J 4 O) O) (rs_c O) ?_
      rw [mEx_e2 c1 (zWi hx hp (mIx_e2 c3 (mLins_no hl hq c5)))];rfl
     ·refine zH<|zP O<|qH O ⟨zB,zB⟩<|G O<|zA ?_
      refine ⟨⟨j+1,lins++[(f l).1]⟩,⟨zB,uD,zRu hl hq c5⟩,(by show x.At.length-(j+1)<x.At.length-j;omega),Weak.mk [false,true,true,true,true,true] ⟨zD,zD,zD,zD,zD,zD,zD,zD,zD,zD,zD,T⟩ (by simp only [bq];rw [zLw uD hl];simp only [ah,aH,bp];rfl)⟩
    ·have hml:=zWg hq zB
     rw [kL (l:=x.At) (k:=j) zB]
     simp only [bp,lAn]
     refine zW _ (yK 0 O (regs':=[]) (μ':=[_,_,_,_]) T ⟨EFle.vec (r':=[_,_,_,_]) (zHd uD) ⟨.inl O,.inl O,.inl O,.inr ⟨O,O⟩,T⟩,EFle.refl _,EFle.refl _,EFle.refl _,T⟩)<|qM<|zP O<|qH O ⟨zB,zB⟩<|G O<|zA ?_
     refine ⟨⟨k+1,outs++[⟨(f x.Lin).1,x.From,lins⟩]⟩,⟨zB,uD,zWj hx hp (mIx_ok c3 hml)⟩,(by show e.Idx.length-(k+1)<e.Idx.length-k;omega),Weak.mk [true,true,true,true] ⟨zD,zD,zD,zD,zD,zD,zD,T⟩ (by simp only [bq,ij];rw [zLw uD hx];simp only [ah,aH,bp];rfl)⟩
  ·have hmi:=mIxs_end hp zB
   rw [kL (l:=e.Idx) (k:=k) zB]
   simp only [bp,lAn]
   refine zW _ (yK 0 O (regs':=[]) (μ':=[_,_,_]) T ⟨EFle.row (ds:=[_,_,_,_,_,_,_,_,_,_,_,_,_]) ⟨.inl O,.inl O,.inl O,.inl O,.inl O,.inl O,.inl O,.inl O,.inl O,.inl O,.inl O,.inr ⟨O,O⟩,.inl O,T⟩,EFle.refl _,EFle.refl _,T⟩)<|qM<|Y O<|zC O zAc<|zE zDc (J 2 O) O<|qA O O (zCa O uB (zLk e.Args hA) (vlr O)) ?_
   rintro _ _ ⟨sv8,rfl,rfl⟩
   refine zC O zAc<|rStR 1 sz60 O<|zA<|zF<|Y O<|zC O zAc<|zE zDc (J 3 O) O<|qC O el60<|oi O<|zS<|zW ⟨[(98,.c _),(1,.c _),(4,.c _),(6,.c _),(96,.c _),(97,.c _)],[_,_,_]⟩ (Weak.mk [true,true,true,false] ⟨zD,zD,zD,zD,zD,zD,T⟩ O)<|qG 1 1 O O (Nat×List Ex) (fun ⟨n,exs⟩=>[(98,vI n)]) (fun ⟨n,exs⟩=>[E.vec sv8 62 13 (exs.map Ex.cells++(e.Args.drop n).map Ex.cells)]) (fun ⟨n,exs⟩=>n<=e.Args.length/\(exs.length=n)/\(gB f e.Args=bW exs (gB f (e.Args.drop n)))) (fun ⟨n,exs⟩=>e.Args.length-n) ⟨⟨0,[]⟩,⟨zB,O,(zBj _).symm⟩,Weak.mk [true,true,true] ⟨zD,zD,zD,zD,zD,zD,T⟩ O⟩ ?_
   rintro ⟨n,exs⟩ ⟨hn,hno,hr⟩
   show AWP _ _ _ _ _ ⟨[(98,vI n)]++_,[E.vec sv8 62 13 (exs.map Ex.cells++(e.Args.drop n).map Ex.cells)]++_⟩
   refine Y O<|yC O<|zA<|zF<|zK O ?_ ?_<;>intro c6<;>try simp only [sx] at c6
   ·obtain ⟨a,ha⟩:=qX e.Args n zB
    refine zH<|zF<|zS<|ol O O<|qE O el60 zB (zJz uC)<|zN yZ qF O<|qA O O (qI nr O zr62 O) ?_
    rintro _ _ ⟨b9,rfl,rfl⟩
    refine G O<|rStR 0 sz62 O<|zA<|zF<|zSm 10 [false,false,false,false,false,false,false,false,true,false] eG mixed uB O O O<|wO O O (zG O zAc O)<|wO O O (zJ O zDc O (J 2 O) O)<|wO O O (zQ O O)<|wO O O (qB O yZ O (J 0 O) O)<|wO O O (zQ O O)<|wO O O (qP O uB (ih a (qD ha) (Ex.allF_arg hP (qD ha)) (by have:=Ex.arg_cnt (qD ha);omega)) (vlr O))<|wO O O (yW O O)<|wO O O (yD O O O)<|td2_detA O O (fun _=>kM O O O)<|wO O O (qT 1 O el60 O O O zB (zLx uD zB))<|td2_nil ?_
    refine ⟨_,yO O sz62 O O O (zEw 1 O (mid_getE uD ha) O),fun _ _ _=>T,?_⟩
    rintro _ _ ⟨rfl,rfl⟩
    refine oi O<|ol O O<|yM O<|zA<|zK O ?_ ?_<;>intro c7<;>try simp only [sx] at c7
    ·refine Y O<|yQ nr O zr62 pl62<|G O<|rStR 3 sz62 O<|oi O<|zM<|fin2 (zZ yZ O (J 3 O) O) (rs_c O) ?_
     rw [mEx_e3 c1 hmi (mExs_no ha hr c7)];rfl
    ·refine zH<|zP O<|qH O ⟨zB,zB⟩<|G O<|zA ?_
     refine ⟨⟨n+1,exs++[jZ (mEx f a)]⟩,⟨zB,uD,zWk ha hr c7⟩,(by show e.Args.length-(n+1)<e.Args.length-n;omega),Weak.mk [false,true,true,true] ⟨zD,zD,zD,zD,zD,zD,T⟩ (by simp only [bq];rw [zLw uD ha];simp only [ah,aH,bp,Ex.cells_eq (jZ (mEx f a))];rfl)⟩
   ·have hme:=mExs_end hr zB
    rw [kL (l:=e.Args) (k:=n) zB]
    simp only [bp,lAn]
    refine zW _ (yK 0 O (regs':=[]) (μ':=[_,_]) T ⟨EFle.row (ds:=[_,_,_,_,_,_,_,_,_,_,_,_,_]) ⟨.inl O,.inl O,.inl O,.inl O,.inl O,.inl O,.inl O,.inl O,.inl O,.inl O,.inl O,.inl O,.inr ⟨O,O⟩,T⟩,EFle.refl _,T⟩)<|qM<|Y O<|zN yZ (J 0 O) O<|rStR 1 sz62 O<|oi O<|zM<|fin2 (zZ yZ O (J 1 O) O) (rs_c O) ?_
    rw [mEx_ok c1 hmi hme];rfl
def mapForms_conW (f:Lf->Lf×Int) (c:C) (P:Lf->Prop) (hf:∀l,P l->FnPur cfg c [dC l] (.tup [dC (f l).1,vI (f l).2])) (e:Ex) (hP:e.allF P) (he:e.cnt<=4294967296):Pur cfg 69 [vE e,.c c] (.tup [vE (jZ (mEx f e)),vI (gG (mEx f e))]):=by
  induction e using Ex.ind with
  |_ e ih=>exact mapForms_step f c P hf e hP ih he
def mapForms_con (f:Lf->Lf×Int) (c:C) (P:Lf->Prop) (hf:∀l,P l->l.L.length<=4294967296->FnPur cfg c [dC l] (.tup [dC (f l).1,vI (f l).2])) (e:Ex) (hP:e.allF P) (he:e.wt<=4294967296):Pur cfg 69 [vE e,.c c] (.tup [vE (jZ (mEx f e)),vI (gG (mEx f e))]):=
  mapForms_conW f c (fun l=>P l/\l.L.length<=4294967296) (fun l h=>hf l h.1 h.2) e (fun x hx l hl=>⟨hP x hx l hl,forms_wt (aL (zJs e x hx) he) hl⟩) (aL e.cnt_le he)
end Go.W
end
section
set_option maxRecDepth 10000
namespace Go.W
open Go Go.Eng Go.Proofs Go.L41 Go.Br Tryz
attribute [local irreducible] AWP RWP TD fY
end Go.W
end
section
set_option maxRecDepth 10000
namespace Go.W
open Go Go.Eng Go.Proofs Go.L41 Go.Br Tryz
attribute [local irreducible] AWP RWP TD fY
def zLa:nJ prog 70=some 22:=by kernel_rfl
def el28:dV prog 28=some (70,22,272):=by kernel_rfl
def zAo:bH prog 30 3=some (3,28):=by kernel_rfl
def zCn:bH prog 70 0=some (0,9):=by kernel_rfl
def zDr:fP prog 28=true:=by kernel_rfl
def zKr (l:Lf) (hl:l.L.length<=5864062014805):
    Pur cfg 183 [dC l] (dC l):=by
 refine zV func183 O ntmps183 results183 O fun z hz=>Y O<|og O fun b1=>qA O O (qI [none,some 2] O U O) ?_
 rintro _ _ ⟨b2,rfl,rfl⟩
 refine zA<|zF<|yH 6 mixed uB O O<|oo O (zG O zCc O)<|oo O (zJ O W O (J 1 O) O)<|oo O (zG O kC O)<|oo O (zJ O wA O (J 1 O) O)<|oo O (qP O uB (OwnR.pur (zIr l.L hl)) (vlr O))<|oo O (zBx O U pl59 O)<|kE<|rStR 0 sz59 O<|zA<|zM<|fin1 (zZ yV O (J 0 O) O) ?_
 exact O
def zRg (l:List Lf) (hl:l.length<=4294967296) (hx:∀x,x∈l->x.L.length<=5864062014805):
    OwnR cfg 181 [mN l] 59 2 (l.map Lf.cells):=by
 refine zV func181 O ntmps181 results181 O ?_
 intro z hz
 have hl0:=hx
 clear hx
 refine Y O<|qY 2 O<|zA<|ol O O<|yP _ (kF 59 2)<|zA<|zF<|ol O O<|qC O el72<|oi O<|zS<|zW ⟨[(8,.c _),(3,.c _),(6,.c _),(7,.c _)],[_]⟩ (Weak.mk [true] ⟨zD,zD,zD,zD,T⟩ O)<|qG 2 1 O O (Nat×Value) (fun ⟨k,sv⟩=>[(8,vI k),(3,.c (.lit sv))]) (fun ⟨k,sv⟩=>[E.vec sv 59 2 ((l.take k).map Lf.cells)]) (fun ⟨k,sv⟩=>k<=l.length) (fun ⟨k,sv⟩=>l.length-k) ⟨⟨0,(.slice none 0 0)⟩,zB,Weak.mk [true] ⟨zD,zD,zD,zD,T⟩ O⟩ ?_
 rintro ⟨k,sv⟩ hk
 show AWP _ _ _ _ _ ⟨[(8,vI k),(3,.c (.lit sv))]++_,[E.vec sv 59 2 ((l.take k).map Lf.cells)]++_⟩
 refine Y O<|yC O<|zA<|zF<|zK O ?_ ?_<;>intro c1<;>try simp only [sx] at c1
 ·obtain ⟨x,hx⟩:=qX l k zB
  refine zH<|zF<|zS<|Y O<|qE O el72 zB (getm uC)<|zN yV qF O<|qA O O (qI [none,some 2] O U O) ?_
  rintro _ _ ⟨b2,rfl,rfl⟩
  refine rStR 0 sz59 O<|zA<|zP O<|G O<|zN yV (J 0 O) O<|qL O uB (zKr _ (hl0 _ (qD hx))) (vlr O)<|yY O el72 U<|qA O O (yB 1 O el72 O O O (by first|omega|(simp only [aq,lLm,lLa,lLn,lLc];omega)) (by first|omega|(simp only [aq,lLm,lLa,lLn,lLc];omega))) ?_
  rintro _ _ ⟨sv3,rfl,rfl⟩
  refine oi O<|zP O<|qH O ⟨zB,zB⟩<|G O<|zA ?_
  refine ⟨⟨k+1,sv3⟩,zB,(by show l.length-(k+1)<l.length-k;omega),Weak.mk [false,true] ⟨zD,zD,zD,zD,T⟩ (by show _=[E.vec sv3 _ 2 ((l.take (k+1)).map Lf.cells)]++_;rw [yA hx,ah];rfl)⟩
 ·refine qM<|ol O O<|oi O<|zM<|zX O ?_
  exact ⟨_,O,by rw [yI zB];rfl⟩
def zRh (d:Df) (s:nn):
    Pur cfg 226 [vDf d,.c (.iptr [cS s])] (vB (decide (d.Name=s))):=by
 refine zV func226 O ntmps226 results226 O fun z hz=>Y O<|og O fun b1=>oi O<|Y O<|zC O zCn<|zE one9 (J 0 O) O<|zE one9 qF O<|wC O<|oi O<|zM<|zX O ?_
 exact O
def zNz (l:List Df) (c:C) (p:Df->Bool) (hl:l.length<=4294967296) (hc:∀x,x∈l->FnPur cfg c [vDf x] (vB (p x))):
    Pur cfg 225 [.c (.sl 22 (l.map Df.cells)),.c c] (vI (dT p l)):=by
 refine zV func225 O ntmps225 results225 O fun z hz=>oh O O<|zF<|ol O O<|qC O el28<|oi O<|zS<|zW ⟨[(8,.c _),(0,.c _),(1,.c _),(7,.c _)],[]⟩ (Weak.mk [] ⟨zD,zD,zD,zD,T⟩ O)<|qG 1 0 O O (Nat) (fun k=>[(8,vI k)]) (fun k=>[]) (fun k=>k<=l.length/\((l.take k).any p=false)) (fun k=>l.length-k) ⟨0,⟨zB,O⟩,Weak.mk [] ⟨zD,zD,zD,zD,T⟩ O⟩ ?_
 rintro k ⟨hk,hp⟩
 refine Y O<|yC O<|zA<|zF<|zK O (fun c1=>?_) (fun c1=>?_)
 ·try simp only [sx] at c1
  obtain ⟨x,hx⟩:=qX l k zB
  refine zH<|zF<|zS<|ol O O<|oi O<|ol O O<|G O<|G O<|qE O el28 zB (getm uC)<|zN zLa qF O<|zT O (wL O O (hc _ (qD hx)) (vlr O))<|zA<|zK O (fun c2=>?_) (fun c2=>?_)
  ·exact v58
  ·exact k9
 ·exact v26
def zVu (p:Pg) (s:nn) (hd:p.Defs.length<=4294967296):
    Pur cfg 182 [vPg p,vS s] (vI (pC s p.Defs)):=by
 refine zV func182 O ntmps182 results182 O fun z hz=>Y O<|og O fun b1=>og O fun b2=>oi O<|Y O<|zC O zAo<|zE zDr (J 1 O) O<|zT O (zFs O O O O O)<|yP _ (kN 0 O 7 (.c (.fn _ _ [_])) (PLe.fn ⟨.inr ⟨O,O⟩,T⟩))<|qL O uB (zNz p.Defs _ (fun d=>decide (d.Name=s)) hd (fun x _=>FnPur.of_pur (first:=[]) (cap:=[.iptr [cS s]]) uB (zRh x s))) (vlr O)<|oi O<|zM<|zX O ?_
 exact O
def zOd (l:Lf) (v sz:List nn) (hl:l.L.length<=5864062014805) (hv:v.length<=4294967296) (hz0:sz.length<=4294967296):
    Pur cfg 147 [dC l,vSs v,vSs sz] (vB (knL (knB sz v) l.L)):=by
 refine zV func147 O ntmps147 results147 O fun z hz=>Y O<|og O fun b1=>oi O<|zF<|oh O O<|zS<|zW ⟨[(7,.c _),(1,.c _),(2,.c _),(3,.c _)],[_]⟩ (Weak.mk [true] ⟨zD,zD,zD,zD,T⟩ O)<|qG 1 0 O O (Nat) (fun k=>[(7,vI k)]) (fun k=>[]) (fun k=>k<=l.L.length/\(knL (knB sz v) (l.L.take k)=true)) (fun k=>l.L.length-k) ⟨0,⟨zB,O⟩,Weak.mk [true] ⟨zD,zD,zD,zD,T⟩ O⟩ ?_
 rintro k ⟨hk,hp⟩
 refine zF<|ol O O<|zC O kC<|zE wA (J 0 O) O<|qC O D<|yC O<|zA<|zK O ?_ ?_<;>intro c1<;>try simp only [sx] at c1
 ·obtain ⟨x,hx⟩:=qX l.L k zB
  refine zH<|zF<|zS<|ol O O<|zC O kC<|zE wA (J 0 O) O<|G O<|qE O D zB (getm uC)<|qR O wE<|zE one9 qF O<|qL O uB (zNf v x.Name zB) (vlr O)<|kU O<|G O<|rL0 O (fun g4_9=>zQ O O) O<|rL0 O (fun g4_9=>zG O kC O) O<|rL1 26 O (fun g4_9=>zJ O wA O (J 0 O) O) O<|rL0 O (fun g4_9=>zQ O O) O<|rLz [(27,_),(28,_)] O gv1 ⟨O,O,O,O,T⟩ (fun g4_9=>qK O D O O zB (getm uC)) O<|rL1 29 O (fun g4_9=>qV O wE O) O<|rL1 30 O (fun g4_9=>zJ O one9 O qF O) O<|rLz [(25,_),(31,_)] O gv1 ⟨O,O,O,O,T⟩ (fun g4_9=>qP O uB (zNf sz x.Name zB) (vlr O)) O<|rL1 32 O (fun g4_9=>wV O O) O<|kH O (fun h=>h)<|zA<|zK O (fun c2=>?_) (fun c2=>?_)
  ·refine oh O O<|zM<|zX O ?_
   rw [kn_no hx c2]
  ·refine zH<|zP O<|G O<|qH O ⟨zB,zB⟩<|G O<|zA ?_
   refine ⟨k+1,⟨zB,kn_next hx hp c2⟩,zB,Weak.mk [true] ⟨zD,zD,zD,zD,T⟩ O⟩
 ·refine qM<|oh O O<|zM<|zX O ?_
  rw [yI zB] at hp;rw [hp]
end Go.W
end
section
set_option maxRecDepth 10000
namespace Go.W
open Go Go.Eng Go.Proofs Go.L41 Go.Br Tryz
attribute [local irreducible] AWP RWP TD fY
def agg99:nJ prog 99=some 3:=by kernel_rfl
def el26:dV prog 26=some (123,3,40):=by kernel_rfl
def el27:dV prog 27=some (74,7,80):=by kernel_rfl
def el46:dV prog 46=some (3,1,8):=by kernel_rfl
def el68:dV prog 68=some (99,3,48):=by kernel_rfl
def el260:dV prog 260=some (68,1,24):=by kernel_rfl
def zCt:bH prog 30 0=some (0,25):=by kernel_rfl
def zPy:bH prog 30 1=some (1,26):=by kernel_rfl
def zDu:bH prog 30 2=some (2,27):=by kernel_rfl
def zMk:bH prog 30 4=some (4,25):=by kernel_rfl
def zDg:bH prog 70 2=some (6,68):=by kernel_rfl
def zCb:bH prog 70 3=some (7,68):=by kernel_rfl
def zHz:bH prog 70 4=some (8,3):=by kernel_rfl
def zHy:bH prog 99 0=some (0,9):=by kernel_rfl
def zXf:bH prog 123 0=some (0,59):=by kernel_rfl
def ik3:vG prog 3=some .i64:=by kernel_rfl
def zBp:fP prog 25=true:=by kernel_rfl
def one26:fP prog 26=true:=by kernel_rfl
def zIk:fP prog 27=true:=by kernel_rfl
def zAn:fP prog 68=true:=by kernel_rfl
def sz99:(prog.info? 99).map (·.size)=some 3:=by kernel_rfl
def zr68:dZ prog 68=some [(Value.slice none 0 0)]:=by kernel_rfl
def zr99:dZ prog 99=some [(Value.string (ByteArray.mk #[])),(Value.int IntKind.i64 0),(Value.slice none 0 0)]:=by kernel_rfl
def slices_Grow_ax (n:Nat) (hn:n<=4294967296):
    OwnR cfg 217 [.c (.lit (.slice none 0 0)),vI n] 99 3 ([]):=by
 refine zV func217 O ntmps217 results217 O fun z hz=>Y O<|qY 3 O<|zA<|zF<|ol O O<|yC O<|zA<|zK O ?_ ?_<;>intro c1<;>try simp only [sx] at c1
 ·exact absurd c1 zB
 ·refine zH<|zF<|ol O O<|G O<|zT O (zXv O el68 O)<|G O<|zT O (zXu O el68 O)<|zT O (yL O O O ⟨zB,zB⟩)<|zT O (yL O O O ⟨zB,zB⟩)<|oi O<|ol O O<|zT O (yN O O O)<|zA<|zK O (fun c2=>?_) (fun c2=>?_)
  ·try simp only [sx] at c2
   refine zP O<|G O<|G O<|zT O (zXv O el68 O)<|zT O (det_cut_nil O el68 O O)<|G O<|qA O O (ope_grow n O el68 ik3 O O zB zB zB zB) ?_
   rintro _ _ ⟨b1,cap1,rfl,hcap1,rfl⟩
   refine G O<|zT O (zXu O el68 O)<|zT O (det_cut_row 0 O el68 O O O ⟨zB,hcap1⟩)<|oi O<|ol O O<|oi O<|zM<|zX O ?_
   exact ⟨_,O,O⟩
  ·refine zH<|ol O O<|yP _ (kF 99 3)<|oi O<|zM<|zX O ?_
   exact ⟨_,O,O⟩
def zTg (ls:List (List Ax)) (hl:ls.length<=4294967296) (ht:lL ls<=4294967296):
    OwnR cfg 177 [.c (.sl 1 (ls.map fun l=>[.sl 3 (l.map Ax.cells)]))] 99 3 (ls.flatten.map Ax.cells):=by
 refine zV func177 O ntmps177 results177 O fun z hz=>Y O<|qY 3 O<|zA<|oh O O<|zF<|ol O O<|qC O el260<|oi O<|zS<|zW ⟨[(11,.c _),(3,.c _),(0,.c _),(9,.c _),(10,.c _)],[]⟩ (Weak.mk [] ⟨zD,zD,zD,zD,zD,T⟩ O)<|qG 2 0 O O (Nat) (fun k=>[(11,vI k),(3,vI (lL (ls.take k)))]) (fun k=>[]) (fun k=>k<=ls.length) (fun k=>ls.length-k) ⟨0,zB,Weak.mk [] ⟨zD,zD,zD,zD,zD,T⟩ O⟩ ?_
 rintro k hk
 refine Y O<|yC O<|zA<|zF<|zK O ?_ ?_<;>intro c1<;>try simp only [sx] at c1
 ·obtain ⟨x,hx⟩:=qX ls k zB
  have hb1:=tot_get hx
  refine zH<|zF<|zS<|Y O<|qE O el260 zB (getm uC)<|zE zAn qF O<|oi O<|ol O O<|G O<|qC O el68<|qH O ⟨zB,zB⟩<|oi O<|ol O O<|yC O<|zA<|zK O ?_ ?_<;>intro c2<;>try simp only [sx] at c2
  ·exact absurd c2 zB
  ·refine zH<|zP O<|qH O ⟨zB,zB⟩<|G O<|zA ?_
   refine ⟨k+1,zB,zB,Weak.mk [] ⟨zD,VLe.of_eq (ai vI (by rw [tot_next hx];simp)),zD,zD,zD,T⟩ O⟩
 ·have hT:lL (ls.take k)=lL ls:=by rw [yI zB]
  refine qM<|ol O O<|qA O O (zCa O uB (slices_Grow_ax (lL (ls.take k)) zB) (vlr O)) ?_
  rintro _ _ ⟨sv1,rfl,rfl⟩
  refine oi O<|zF<|ol O O<|qC O el260<|oi O<|zS<|zW ⟨[(27,.c _),(6,.c _),(25,.c _),(26,.c _)],[_]⟩ (Weak.mk [true] ⟨zD,zD,zD,zD,T⟩ O)<|qG 2 1 O O (Nat×Value) (fun ⟨k,sv⟩=>[(27,vI k),(6,.c (.lit sv))]) (fun ⟨k,sv⟩=>[E.vec sv 99 3 ((ls.take k).flatten.map Ax.cells)]) (fun ⟨k,sv⟩=>k<=ls.length) (fun ⟨k,sv⟩=>ls.length-k) ⟨⟨0,_⟩,zB,Weak.mk [true] ⟨zD,zD,zD,zD,T⟩ O⟩ ?_
  rintro ⟨k,sv⟩ hk
  show AWP _ _ _ _ _ ⟨[(27,vI k),(6,.c (.lit sv))]++_,[E.vec sv 99 3 ((ls.take k).flatten.map Ax.cells)]++_⟩
  refine Y O<|yC O<|zA<|zF<|zK O ?_ ?_<;>intro c3<;>try simp only [sx] at c3
  ·obtain ⟨x,hx⟩:=qX ls k zB
   refine zH<|zF<|zS<|Y O<|qE O el260 zB (getm uC)<|zE zAn qF O<|oi O<|zP O<|G O<|G O<|qA O O (yB 0 O el68 O O O (by have:=tot_flat hx;simp only [lLm];omega) (by have:=tot_flat hx;simp only [lLm];omega)) ?_
   rintro _ _ ⟨sv2,rfl,rfl⟩
   refine oi O<|zP O<|qH O ⟨zB,zB⟩<|G O<|zA ?_
   refine ⟨⟨k+1,sv2⟩,zB,(by show ls.length-(k+1)<ls.length-k;omega),Weak.mk [true] ⟨zD,zD,zD,zD,T⟩ (by show _=[E.vec sv2 _ 3 ((ls.take (k+1)).flatten.map Ax.cells)]++_;rw [yA hx,lw,ah];simp only [ef,List.flatten_nil,lAn];rfl)⟩
  ·refine qM<|ol O O<|oi O<|zM<|zX O ?_
   exact ⟨_,O,by rw [yI zB];rfl⟩
def zIq (x y:List Ax) (hx:x.length<=1073741824) (hy:y.length<=1073741824):OwnR cfg 177 [.c (.sl 1 [[.sl 3 (x.map Ax.cells)],[.sl 3 (y.map Ax.cells)]])] 99 3 ((x++y).map Ax.cells):=by
  have h:=zTg [x,y] uF (by simp only [lL];omega)
  simpa using h
def zPf (d:Df) (hD:d.Dims.length<=1073741824) (hR:d.Red.length<=1073741824):
    OwnR cfg 118 [vDf d] 9 1 ((bD d).map fun s=>[cS s]):=by
 refine zV func118 O ntmps118 results118 O fun z hz=>Y O<|og O fun b1=>qY 1 O<|zA<|ol O O<|yP _ (kF 9 1)<|zA<|zF<|Y O<|zC O zDg<|zE zAn (J 1 O) O<|zC O zCb<|zE zAn (J 1 O) O<|yY O el260 zr68<|qL O uB (OwnR.pur (zIq d.Dims d.Red hD hR)) (vlr O)<|qC O el68<|oi O<|zS<|zW ⟨[(13,.c _),(3,.c _),(11,.c _),(12,.c _)],[_]⟩ (Weak.mk [true,false] ⟨zD,zD,zD,zD,T⟩ O)<|qG 2 1 O O (Nat×Value) (fun ⟨k,sv⟩=>[(13,vI k),(3,.c (.lit sv))]) (fun ⟨k,sv⟩=>[E.vec sv 9 1 (((d.Dims++d.Red).take k).map fun a=>[cS a.Name])]) (fun ⟨k,sv⟩=>k<=(d.Dims++d.Red).length) (fun ⟨k,sv⟩=>(d.Dims++d.Red).length-k) ⟨⟨0,(.slice none 0 0)⟩,zB,Weak.mk [true] ⟨zD,zD,zD,zD,T⟩ O⟩ ?_
 rintro ⟨k,sv⟩ hk
 show AWP _ _ _ _ _ ⟨[(13,vI k),(3,.c (.lit sv))]++_,[E.vec sv 9 1 (((d.Dims++d.Red).take k).map fun a=>[cS a.Name])]++_⟩
 refine Y O<|yC O<|zA<|zF<|zK O ?_ ?_<;>intro c1<;>try simp only [sx] at c1
 ·obtain ⟨x,hx⟩:=qX (d.Dims++d.Red) k zB
  have hlen:(d.Dims++d.Red).length<=2147483648:=by rw [lLa];omega
  refine zH<|zF<|zS<|Y O<|qE O el68 zB (getm uC)<|zN agg99 qF O<|qA O O (qI [none,none,some 2] O zr99 O) ?_
  rintro _ _ ⟨b3,rfl,rfl⟩
  refine rStR 0 sz99 O<|zA<|zP O<|G O<|zC O zHy<|zE one9 (J 0 O) O<|yY O el25 zr9<|qA O O (yB 1 O el25 O O O (by simp only [aq,lLm,lLc,lLn];omega) (by simp only [aq,lLm,lLc,lLn];omega)) ?_
  rintro _ _ ⟨sv4,rfl,rfl⟩
  refine oi O<|zP O<|qH O ⟨zB,zB⟩<|G O<|zA ?_
  refine ⟨⟨k+1,sv4⟩,zB,(by show (d.Dims++d.Red).length-(k+1)<(d.Dims++d.Red).length-k;omega),Weak.mk [false,true] ⟨zD,zD,zD,zD,T⟩ (by show _=[E.vec sv4 _ 1 (((d.Dims++d.Red).take (k+1)).map fun a=>[cS a.Name])]++_;rw [yA hx,ah (f:=fun a:Ax=>[cS a.Name])];rfl)⟩
 ·refine qM<|ol O O<|oi O<|zM<|zX O ?_
  exact ⟨_,O,by rw [yI zB,names_rows];rfl⟩
def program_limits (p:Pg):
    Pur cfg 58 [vPg p] (vB (decide (dK p))):=by
 refine zV func58 O ntmps58 results58 O fun z hz=>Y O<|og O fun b1=>oi O<|Y O<|zC O zCt<|zE zBp (J 0 O) O<|qC O el25<|zC O zDu<|zE zIk (J 0 O) O<|qC O el27<|zC O zAo<|zE zDr (J 0 O) O<|qC O el28<|zC O zMk<|zE zBp (J 0 O) O<|qC O el25<|zT O (det_max4 O O O O O)<|zT O (zAh O O O)<|G O<|rL0 O (fun g1_14=>zG O zPy O) O<|rL1 18 O (fun g1_14=>zJ O one26 O (J 0 O) O) O<|rL1 19 O (fun g1_14=>yG O el26 O) O<|rL1 20 O (fun g1_14=>zAh O O O) O<|kH O (fun h=>h)<|oi O<|zM<|zX O ?_
 exact ai vB (limit_eq p)
def slices_Max_int (l:List Int) (x0:Int) (h0:l[0]? =some x0) (hl:l.length<=4294967296):
    Pur cfg 176 [.c (.sl 1 (l.map fun n=>[cI n]))] (vI (vF l l.length)):=by
 refine zV func176 O ntmps176 results176 O ?_
 intro z hz
 have hlen:=zSa h0
 refine oh O O<|zF<|ol O O<|qC O el46<|yC O<|zA<|zK O ?_ ?_<;>intro c1<;>try simp only [sx] at c1
 ·exact absurd c1 zB
 ·refine zH<|ol O O<|qE O el46 zB (getm h0)<|zE one3 qF O<|oi O<|zF<|oh O O<|zS<|zW ⟨[(4,.c _),(3,.c _),(0,.c _)],[]⟩ (Weak.mk [] ⟨zD,zD,zD,T⟩ O) ?_
  refine qG 2 0 O O (Nat) (fun k=>[(4,vI k),(3,vI (vF l k))]) (fun k=>[]) (fun k=>1<=k/\k<=l.length) (fun k=>l.length-k) ⟨1,⟨zB,zB⟩,Weak.mk [] ⟨zD,VLe.of_eq (ai vI (maxT_one h0)),zD,T⟩ O⟩ ?_
  rintro k ⟨hk1,hk⟩
  refine zF<|ol O O<|G O<|qC O el46<|yC O<|zA<|zK O ?_ ?_<;>intro c2<;>try simp only [sx] at c2
  ·obtain ⟨x,hx⟩:=qX l k zB
   refine zH<|zF<|zS<|zP O<|G O<|G O<|G O<|qE O el46 zB (getm uC)<|zE one3 qF O<|zT O (det_max O O O)<|oi O<|zP O<|G O<|qH O ⟨zB,zB⟩<|G O<|zA ?_
   refine ⟨k+1,⟨zB,zB⟩,zB,Weak.mk [] ⟨zD,VLe.of_eq (ai vI (maxT_next hx)),zD,T⟩ O⟩
  ·refine qM<|ol O O<|oi O<|zM<|zX O ?_
   exact ai vI (by rw [show k=l.length by omega])
def zKq (t:Ty) (l:List Int) (x0:Int) (h0:l[0]? =some x0) (hl:l.length<=4294967296):
    Pur cfg 114 [vTy t,.c (.sl 1 (l.map fun n=>[cI n]))] (vI (nR t l)):=by
 refine zV func114 O ntmps114 results114 O fun z hz=>Y O<|og O fun b1=>oi O<|zF<|Y O<|zN yE (J 0 O) O<|qL O uB (wY _) (vlr O)<|yM O<|zA<|zK O ?_ ?_<;>intro c1<;>try simp only [sx] at c1
 ·refine oh O O<|zM<|zX O ?_
  exact ai vI (by rw [nR,aa (by rw [tyErr_no c1];simp)])
 ·refine zH<|zF<|ol O O<|qL O uB (slices_Max_int l x0 h0 hl) (vlr O)<|zT O (yN O O O)<|zA<|zK O ?_ ?_<;>intro c2<;>try simp only [sx] at c2
  ·refine oh O O<|zM<|zX O ?_
   exact ai vI (by rw [nR,ab (tyErr_yes c1),ab c2])
  ·refine zH<|oh O O<|zM<|zX O ?_
   exact ai vI (by rw [nR,ab (tyErr_yes c1),aa zB])
def zOl (x:Cn) (hl:x.Lin.L.length<=5864062014805):
    Pur cfg 112 [vCn x] (vI (dH x.Lin)):=by
 refine zV func112 O ntmps112 results112 O fun z hz=>Y O<|og O fun b1=>oi O<|Y O<|zC O zXf<|zN yV (J 0 O) O<|qL O uB (zBd x.Lin zB) (vlr O)<|oi O<|zM<|zX O ?_
 exact O
def program_fold (d:Df):
    Pur cfg 116 [vDf d] (vI (gO d)):=by
 refine zV func116 O ntmps116 results116 O fun z hz=>Y O<|og O fun b1=>oi O<|zF<|Y O<|zC O zHz<|zE one3 (J 0 O) O<|zA<|zS<|Y O<|yT O<|oi O<|qO O (fun c1=>?_) (fun c1=>?_)
 ·refine Y O<|zC O zCb<|zE zAn (J 0 O) O<|qC O el68<|zT O (yN O O O)<|zA<|zK O ?_ ?_<;>intro c2<;>try simp only [sx] at c2
  ·refine oh O O<|zM<|zX O ?_
   exact w5
  ·refine zH<|oh O O<|zM<|zX O ?_
   exact w5
 ·refine zF<|Y O<|yT O<|oi O<|qO O (fun c3=>?_) (fun c3=>?_)
  ·exact t8
  ·refine Y O<|yT O<|oi O<|qO O (fun c4=>?_) (fun c4=>?_)
   ·exact t8
   ·refine Y O<|yT O<|oi O<|qO O (fun c5=>?_) (fun c5=>?_)
    ·exact t8
    ·refine zP O<|yT O<|oi O<|qO O (fun c6=>?_) (fun c6=>?_)
     ·exact v75
     ·exact l7
end Go.W
end
section
set_option maxRecDepth 10000
namespace Go.W
open Go Go.Eng Go.Proofs Go.L41 Go.Br Tryz
attribute [local irreducible] AWP RWP TD fY
def zBa:nJ prog 30=some 5:=by kernel_rfl
def agg74:nJ prog 74=some 7:=by kernel_rfl
def agg123:nJ prog 123=some 3:=by kernel_rfl
def zKt:bH prog 70 1=some (1,56):=by kernel_rfl
def zPw:bH prog 74 0=some (0,9):=by kernel_rfl
def fd74_1:bH prog 74 1=some (1,56):=by kernel_rfl
def zPv:bH prog 74 2=some (6,72):=by kernel_rfl
def zXb:bH prog 99 1=some (1,59):=by kernel_rfl
def zXg:bH prog 119 1=some (5,117):=by kernel_rfl
def fd236_0:bH prog 236 0=some (0,30):=by kernel_rfl
def fd236_1:bH prog 236 1=some (5,117):=by kernel_rfl
def zSr:fP prog 117=true:=by kernel_rfl
def sm117:rZ prog 117=some (Value.int IntKind.i64 0):=by kernel_rfl
def sm232:rZ prog 232=some (Value.bool false):=by kernel_rfl
def N:(prog.info? 56).map (·.size)=some 5:=by kernel_rfl
def sz74:(prog.info? 74).map (·.size)=some 7:=by kernel_rfl
def zr74:dZ prog 74=some [(Value.string (ByteArray.mk #[])),(Value.int IntKind.i64 0),(Value.int IntKind.i64 0),(Value.int IntKind.i64 0),(Value.int IntKind.i64 0),(Value.int IntKind.i64 0),(Value.slice none 0 0)]:=by kernel_rfl
def zMq (b mb:Nat) (p:Pg) (m:Kn) (s:nn) (k:Int):
    Con cfg 59 [vP b,vS s,vI k] (ckE b mb p m) fun r μ'=>r=vI (fL m s)/\μ'=ckE b mb p (jD m s k):=by
 refine zV func59 O ntmps59 results59 O fun z hz=>oh O O<|zF<|ol O O<|qL O uB (zCw _) (vlr O)<|kU O<|zA<|zK O ?_ ?_<;>intro c1<;>try simp only [sx] at c1
 ·refine oh O O<|zM<|zX O ?_
  exact ⟨by rw [nameM_bad c1],by rw [←nmap_bad (nameM_bad c1) uA]⟩
 ·refine zH<|zF<|ol O O<|zU O<|zC O zXg<|zE zSr (J 0 O) O<|G O<|zT O (zGw 1 (0:Int) O sm117 O O O (fun _ _=>CRep.lit _ O))<|yM O<|zA<|zK O ?_ ?_<;>intro c2<;>try simp only [sx] at c2
  ·refine oh O O<|zM<|zX O ?_
   exact ⟨by rw [nameM_dup c1 c2],by rw [←nmap_bad (nameM_dup c1 c2) uA]⟩
  ·refine zH<|ol O O<|zU O<|zC O zXg<|zE zSr (J 0 O) O<|G O<|G O<|wI O O (zJb 1 k O sm117 O O O (zD) O)<|zA<|oh O O<|zM<|zX O ?_
   exact ⟨by rw [nameM_ok c1 c2],by rw [zRr (nameM_ok c1 c2)];rfl⟩
def zKk (b mb:Nat) (p:Pg) (m:Kn) (l:Lf) (hl:l.L.length<=5864062014805):
    Con cfg 113 [vP b,dC l] (ckE b mb p m) fun r μ'=>r=vI (fW m l)/\μ'=ckE b mb p m:=by
 refine zV func113 O ntmps113 results113 O fun z hz=>Y O<|og O fun b1=>oi O<|zF<|Y O<|zN yV (J 0 O) O<|qL O uB (zBd l zB) (vlr O)<|yM O<|zA<|zK O ?_ ?_<;>intro c1<;>try simp only [sx] at c1
 ·refine oh O O<|zW _ (Weak.mem [false,true,true] O)<|zM<|zX O ?_
  exact ⟨by rw [sized_arg (zWs c1)],O⟩
 ·refine zH<|zF<|Y O<|zC O kC<|zE wA (J 0 O) O<|qC O D<|oi O<|zS<|zW ⟨[(13,.c _),(0,.c _),(11,.c _),(12,.c _)],[_,_]⟩ (Weak.mk [false,true,true] ⟨zD,zD,zD,zD,T⟩ O)<|qG 1 0 O O (Nat) (fun k=>[(13,vI k)]) (fun k=>[]) (fun k=>k<=l.L.length/\(knL (fun s=>decide (gT m s=1)) (l.L.take k)=true)) (fun k=>l.L.length-k) ⟨0,⟨zB,O⟩,Weak.mk [true,true] ⟨zD,zD,zD,zD,T⟩ O⟩ ?_
  rintro k ⟨hk,hp⟩
  refine Y O<|yC O<|zA<|zF<|zK O ?_ ?_<;>intro c2<;>try simp only [sx] at c2
  ·obtain ⟨x,hx⟩:=qX l.L k zB
   refine zH<|zF<|zS<|Y O<|qE O D zB (getm uC)<|zN zFb qF O<|qA O O (qZ O zEk) ?_
   rintro _ _ ⟨b2,rfl,rfl⟩
   refine rStR 0 sz139 O<|zA<|zF<|yH 8 mixed uB O O<|oo O (zQ O O)<|oo O (qS O O)<|oo O (zG O zXg O)<|oo O (zJ O zSr O (J 1 O) O)<|oo O (zG O wE O)<|oo O (zJ O one9 O (J 0 O) O)<|oo O (zGw 2 (0:Int) O sm117 O O O (fun _ _=>CRep.lit _ O))<|oo O (wW O O O)<|kE<|zA<|zK O ?_ ?_<;>intro c3<;>try simp only [sx] at c3
   ·refine oh O O<|zW _ (Weak.mem [false,true,true] O)<|zM<|zX O ?_
    exact ⟨by rw [sized_nf (zFh c1) (knF_no hx (kK c3))],O⟩
   ·refine zH<|zP O<|qH O ⟨zB,zB⟩<|G O<|zA ?_
    refine ⟨k+1,⟨zB,knF_next hx hp (zAp c3)⟩,zB,Weak.mk [false,true,true] ⟨zD,zD,zD,zD,T⟩ O⟩
  ·refine qM<|oh O O<|zM<|zX O ?_
   exact ⟨by rw [yI zB] at hp;rw [sized_ok (zFh c1) hp],O⟩
def zQj (b mb:Nat) (p:Pg) (m:Kn) (x:Cn) (hl:x.Lin.L.length<=5864062014805):
    Con cfg 60 [vP b,vCn x] (ckE b mb p m) fun r μ'=>r=vI (fW m x.Lin)/\μ'=ckE b mb p m:=by
 refine zV func60 O ntmps60 results60 O fun z hz=>Y O<|og O fun b1=>oi O<|zF<|Y O<|zN agg123 (J 0 O) O<|qL O uB (zOl x hl) (vlr O)<|yM O<|zA<|zK O (fun c1=>?_) (fun c1=>?_)
 ·try simp only [sx] at c1
  refine oh O O<|zW _ (Weak.mem [false,true,true] O)<|zM<|zX O ?_
  exact ⟨by rw [sized_arg (zWs c1)],O⟩
 ·refine zH<|ol O O<|zC O zXf<|zN yV (J 0 O) O<|zT O (kI [1,1] O uB (zKk b mb p m x.Lin hl) (vlr O) O)<|oi O<|zW _ (Weak.mem [false,true,true] O)<|zM<|zX O ?_
  exact ⟨O,O⟩
def checker_param (b mb:Nat) (p:Pg) (m:Kn) (x:Pm) (hl:x.Dims.length<=4294967296) (hx0:∀l,l∈x.Dims->l.L.length<=5864062014805):
    Con cfg 61 [vP b,vPm x] (ckE b mb p m) fun r μ'=>r=vI (jP m x)/\μ'=ckE b mb p (jD m x.Name 2):=by
 refine zV func61 O ntmps61 results61 O fun z hz=>Y O<|og O fun b1=>oi O<|zF<|ol O O<|zC O zPw<|zE one9 (J 0 O) O<|zT O (kI [1,1] O uB (zMq b mb p m x.Name 2) (vlr O) O)<|oi O<|ol O O<|yM O<|zA<|zK O ?_ ?_<;>intro c1<;>try simp only [sx] at c1
 ·refine ol O O<|oi O<|zW _ (Weak.mem [false,true,true] O)<|zM<|zX O ?_
  exact ⟨by unfold jP;rw [aa c1],O⟩
 ·refine zH<|zF<|Y O<|zC O fd74_1<|zN yE (J 0 O) O<|zC O zPv<|zE zBs (J 0 O) O<|qC O el72<|yY O el46 zr3<|qL O uB (zKq x.T [(x.Dims.length:Int)] _ O uF) (vlr O)<|oi O<|ol O O<|yM O<|zA<|zK O ?_ ?_<;>intro c2<;>try simp only [sx] at c2
  ·have hP:=param_bad c1 c2
   refine ol O O<|oi O<|zW _ (Weak.mem [false,true,true] O)<|zM<|zX O ?_
   exact ⟨by rw [hP],O⟩
  ·have hP:=param_ok c1 c2
   refine zH<|zF<|Y O<|zC O zPv<|zE zBs (J 0 O) O<|qC O el72<|oi O<|zS<|zW ⟨[(30,.c _),(0,.c _),(28,.c _),(29,.c _)],[_,_]⟩ (Weak.mk [false,true,true] ⟨zD,zD,zD,zD,T⟩ O)<|qG 1 0 O O (Nat) (fun k=>[(30,vI k)]) (fun k=>[]) (fun k=>k<=x.Dims.length/\(lF (jD m x.Name 2) x.Dims=lF (jD m x.Name 2) (x.Dims.drop k))) (fun k=>x.Dims.length-k) ⟨0,⟨zB,O⟩,Weak.mk [true,true] ⟨zD,zD,zD,zD,T⟩ O⟩ ?_
   rintro k ⟨hk,hp⟩
   refine Y O<|yC O<|zA<|zF<|zK O ?_ ?_<;>intro c3<;>try simp only [sx] at c3
   ·obtain ⟨y,hy⟩:=qX x.Dims k zB
    refine zH<|zF<|zS<|Y O<|qE O el72 zB (getm uC)<|zN yV qF O<|qA O O (qI [none,some 2] O U O) ?_
    rintro _ _ ⟨b2,rfl,rfl⟩
    refine rStR 0 sz59 O<|zA<|ol O O<|zN yV (J 0 O) O<|zT O (kI [1,1] O uB (zKk b mb p _ y (hx0 _ (qD hy))) (vlr O) O)<|oi O<|ol O O<|yM O<|zA<|zK O ?_ ?_<;>intro c4<;>try simp only [sx] at c4
    ·refine ol O O<|oi O<|zW _ (Weak.mem [false,true,true] O)<|zM<|zX O ?_
     exact ⟨by rw [hP,hp,sizeds_no hy c4],O⟩
    ·refine zH<|zP O<|qH O ⟨zB,zB⟩<|G O<|zA ?_
     refine ⟨k+1,⟨zB,hp.trans (sizeds_at hy c4)⟩,zB,Weak.mk [false,true,true] ⟨zD,zD,zD,zD,T⟩ O⟩
   ·refine qM<|oh O O<|zM<|zX O ?_
    exact ⟨by rw [hP,hp,zAa zB];rfl,O⟩
def checker_axes (b mb:Nat) (p:Pg) (m:Kn) (d:Df) (hD:d.Dims.length<=1073741824) (hR:d.Red.length<=1073741824) (hA:∀a,a∈d.Dims->a.Size.L.length<=5864062014805) (hA2:∀a,a∈d.Red->a.Size.L.length<=5864062014805):
    Con cfg 115 [vP b,vDf d] (ckE b mb p m) fun r μ'=>r=vI (lY m [] (d.Dims++d.Red))/\μ'=ckE b mb p m:=by
 refine zV func115 O ntmps115 results115 O fun z hz=>Y O<|og O fun b1=>oi O<|Y O<|qA O O (zPi vB O O) ?_
 rintro _ _ ⟨b2,rfl,rfl⟩
 refine oi O<|zF<|Y O<|zC O zDg<|zE zAn (J 1 O) O<|zC O zCb<|zE zAn (J 1 O) O<|yY O el260 zr68<|qL O uB (OwnR.pur (zIq d.Dims d.Red hD hR)) (vlr O)<|qC O el68<|oi O<|zS<|zW ⟨[(17,.c _),(0,.c _),(5,.c _),(15,.c _),(16,.c _)],[_,_,_]⟩ (Weak.mk [true,false,true,true] ⟨zD,zD,zD,zD,zD,T⟩ O)<|qG 1 1 O O (Nat) (fun k=>[(17,vI k)]) (fun k=>[E.blk b2 (MapR vB (cH ((d.Dims++d.Red).take k)))]) (fun k=>k<=(d.Dims++d.Red).length/\(lY m [] (d.Dims++d.Red)=lY m (((d.Dims++d.Red).take k).map Ax.Name) ((d.Dims++d.Red).drop k))) (fun k=>(d.Dims++d.Red).length-k) ⟨0,⟨zB,O⟩,Weak.mk [true,true,true] ⟨zD,zD,zD,zD,zD,T⟩ O⟩ ?_
 rintro k ⟨hk,hp⟩
 refine Y O<|yC O<|zA<|zF<|zK O ?_ ?_<;>intro c1<;>try simp only [sx] at c1
 ·obtain ⟨x,hx⟩:=qX (d.Dims++d.Red) k zB
  have hlen:(d.Dims++d.Red).length=d.Dims.length+d.Red.length:=lLa
  have hog:=own_get x.Name ((d.Dims++d.Red).take k)
  refine zH<|zF<|zS<|Y O<|qE O el68 zB (getm uC)<|zN agg99 qF O<|qA O O (qI [none,none,some 2] O zr99 O) ?_
  rintro _ _ ⟨b3,rfl,rfl⟩
  refine rStR 0 sz99 O<|zA<|zF<|zS<|Y O<|zC O zHy<|zE one9 (J 0 O) O<|qL O uB (zCw _) (vlr O)<|kU O<|oi O<|zK O ?_ ?_<;>intro c2<;>try simp only [sx] at c2
  ·refine oh O O<|zW _ (Weak.mem [false,false,true,true] O)<|zM<|zX O ?_
   exact ⟨by rw [hp,axes_7 hx c2],O⟩
  ·refine zF<|yH 15 mixed uB O O<|oo O (zQ O O)<|oo O (zG O zHy O)<|oo O (zJ O one9 O (J 0 O) O)<|oo O (zGw 1 false O sm232 O O O (fun _ _=>CRep.lit _ O))<|oo O (zQ O O)<|qU [] O O O O gv1 T (fun g7_4=>zQ O O) O<|qU [(32,_)] O O O O gv1 ⟨O,O,T⟩ (fun g7_4=>qS O O) O<|qU [(33,_)] O O O O gv1 ⟨O,O,T⟩ (fun g7_4=>zG O zXg O) O<|qU [(34,_)] O O O O gv1 ⟨O,O,T⟩ (fun g7_4=>zJ O zSr O (J 2 O) O) O<|qU [] O O O O gv1 T (fun g7_4=>zG O zHy O) O<|qU [(36,_)] O O O O gv1 ⟨O,O,T⟩ (fun g7_4=>zJ O one9 O (J 0 O) O) O<|qU [(35,_),(37,_)] O O O O gv1 ⟨O,O,O,O,T⟩ (fun g7_4=>zGw 3 (0:Int) O sm117 O O O (fun _ _=>CRep.lit _ O)) O<|qU [(38,_)] O O O O gv1 ⟨O,O,T⟩ (fun g7_4=>yX O O O) O<|oo O (zCo O O O O (fun h=>(lzf h)))<|oo O (yR O O)<|kE<|zA<|zK O (fun c3=>?_) (fun c3=>?_)
   ·have h8:=ax_yes hog c3
    refine oh O O<|zW _ (Weak.mem [false,false,true,true] O)<|zM<|zX O ?_
    exact ⟨by rw [hp,axes_8 hx c2 h8],O⟩
   ·have h8:=ax_no hog c3
    refine zH<|ol O O<|zC O zHy<|zE one9 (J 0 O) O<|wI O O (zJb 1 true O sm232 O O O (zD) O)<|zA<|ol O O<|zC O zXb<|zN yV (J 0 O) O<|zT O (kI [2,2] O uB (zKk b mb p m x.Size (by rcases ao.1 (qD hx) with h|h;exact hA _ h;exact hA2 _ h)) (vlr O) O)<|oi O<|ol O O<|yM O<|zA<|zK O ?_ ?_<;>intro c4<;>try simp only [sx] at c4
    ·refine ol O O<|oi O<|zW _ (Weak.mem [false,false,true,true] O)<|zM<|zX O ?_
     exact ⟨by rw [hp,axes_s hx c2 h8 c4],O⟩
    ·refine zH<|zP O<|qH O ⟨zB,zB⟩<|G O<|zA ?_
     refine ⟨k+1,⟨zB,by rw [hp,axes_at hx c2 h8 c4,yA hx,ah];rfl⟩,zB,Weak.mk [false,true,true,true] ⟨zD,zD,zD,zD,zD,T⟩ (by show _=[E.blk b2 (MapR vB (cH ((d.Dims++d.Red).take (k+1))))]++_;rw [ownT_next hx];rfl)⟩
 ·refine qM<|oh O O<|zW _ (Weak.mem [false,true,true] O)<|zM<|zX O ?_
  exact ⟨by rw [hp,zAa zB];rfl,O⟩
def zLq (p:Pg) (s:nn) (hP:p.Ok):
    Pur cfg 119 [vPg p,vS s] (.tup [vTy (p.en.find s).ty,mN (p.en.find s).dims,vB (p.en.find s).ok]):=by
 refine zV func119 O ntmps119 results119 O ?_
 intro z hz
 have hpl:=hP.params
 refine Y O<|og O fun b1=>qA O O (qZ O v) ?_
 rintro _ _ ⟨b2,rfl,rfl⟩
 refine qY 2 O<|oi O<|zF<|Y O<|zC O zDu<|zE zIk (J 1 O) O<|qC O el27<|oi O<|zS<|zW ⟨[(16,.c _),(1,.c _),(2,.c _),(4,.c _),(14,.c _),(15,.c _)],[_,_]⟩ (Weak.mk [true,true] ⟨zD,zD,zD,zD,zD,zD,T⟩ O)<|qG 1 0 O O (Nat) (fun k=>[(16,vI k)]) (fun k=>[]) (fun k=>k<=p.Params.length/\(fV s p.Defs p.Params=fV s p.Defs (p.Params.drop k))) (fun k=>p.Params.length-k) ⟨0,⟨zB,O⟩,Weak.mk [true,true] ⟨zD,zD,zD,zD,zD,zD,T⟩ O⟩ ?_
 rintro k ⟨hk,hp⟩
 refine Y O<|yC O<|zA<|zF<|zK O ?_ ?_<;>intro c1<;>try simp only [sx] at c1
 ·obtain ⟨x,hx⟩:=qX p.Params k zB
  refine zH<|zF<|zS<|Y O<|qE O el27 zB (getm uC)<|zN agg74 qF O<|qA O O (qI ny O zr74 O) ?_
  rintro _ _ ⟨b3,rfl,rfl⟩
  refine rStR 0 sz74 O<|zA<|Y O<|zC O zPw<|zE one9 (J 0 O) O<|G O<|wC O<|zA<|zK O ?_ ?_<;>intro c2<;>try simp only [sx] at c2
  ·refine zF<|yH 5 mixed uB O O<|oo O (zG O fd74_1 O)<|oo O (qB O yE O (J 0 O) O)<|oo O (zG O zPv O)<|oo O (zJ O zBs O (J 0 O) O)<|oo O (qP O uB (OwnR.pur (zRg x.Dims (hP.ps x (qD hx)).1 (fun y hy=>aL ((hP.ps x (qD hx)).2 y hy) uA))) (vlr O))<|kE<|rStR 1 N O<|G O<|oi O<|zM<|fin3 (zZ yE O (J 1 O) O) (rs_c O) (rs_c O) ?_
   exact v83
  ·refine zH<|zP O<|qH O ⟨zB,zB⟩<|G O<|zA ?_
   refine ⟨k+1,⟨zB,hp.trans (zXa hx c2)⟩,zB,Weak.mk [false,true,true] ⟨zD,zD,zD,zD,zD,zD,T⟩ O⟩
 ·have hF:p.en.find s=dY s p.Defs:=by rw [En.find,show p.en.pm=p.Params from rfl,show p.en.df=p.Defs from rfl,hp,zAa zB];rfl
  refine qM<|zF<|Y O<|zN zBa (J 1 O) O<|G O<|qL O uB (zVu p s hP.defs) (vlr O)<|oi O<|ol O O<|zT O (wG O O O)<|zA<|zK O ?_ ?_<;>intro c3<;>try simp only [sx] at c3
  ·obtain ⟨d,hd,hfd⟩:=(find_def s p.Defs).1 c3
   have hdd:=(hP.ds d (qD hd)).1
   refine ol O O<|yP _ (kF 59 2)<|zA<|zF<|Y O<|zC O zAo<|zE zDr (J 2 O) O<|G O<|qE O el28 zB (getm hd)<|qR O zDg<|zE zAn qF O<|qC O el68<|oi O<|zS<|zW ⟨[(42,.c _),(10,.c _),(2,.c _),(4,.c _),(9,.c _),(40,.c _),(41,.c _)],[_,_,_]⟩ (Weak.mk [true,true,true] ⟨zD,zD,zD,zD,zD,zD,zD,T⟩ O)<|qG 2 1 O O (Nat×Value) (fun ⟨j,sv⟩=>[(42,vI j),(10,.c (.lit sv))]) (fun ⟨j,sv⟩=>[E.vec sv 59 2 ((d.Dims.take j).map fun a=>a.Size.cells)]) (fun ⟨j,sv⟩=>j<=d.Dims.length) (fun ⟨j,sv⟩=>d.Dims.length-j) ⟨⟨0,(.slice none 0 0)⟩,zB,Weak.mk [true,true,true] ⟨zD,zD,zD,zD,zD,zD,zD,T⟩ O⟩ ?_
   rintro ⟨j,sv⟩ hj
   show AWP _ _ _ _ _ ⟨[(42,vI j),(10,.c (.lit sv))]++_,[E.vec sv 59 2 ((d.Dims.take j).map fun a=>a.Size.cells)]++_⟩
   refine Y O<|yC O<|zA<|zF<|zK O ?_ ?_<;>intro c4<;>try simp only [sx] at c4
   ·obtain ⟨a,ha⟩:=qX d.Dims j zB
    refine zH<|zF<|zS<|Y O<|qE O el68 zB (getm uC)<|zN agg99 qF O<|qA O O (qI [none,none,some 2] O zr99 O) ?_
    rintro _ _ ⟨b5,rfl,rfl⟩
    refine rStR 0 sz99 O<|zA<|zP O<|G O<|zC O zXb<|zN yV (J 0 O) O<|qL O uB (zKr a.Size (aL ((hP.ds d (qD hd)).2.2.1 a (qD ha)) uA)) (vlr O)<|yY O el72 U<|qA O O (yB 1 O el72 O O O (by first|omega|(simp only [aq,lLm,lLa,lLn,lLc];omega)) (by first|omega|(simp only [aq,lLm,lLa,lLn,lLc];omega))) ?_
    rintro _ _ ⟨sv6,rfl,rfl⟩
    refine oi O<|zP O<|qH O ⟨zB,zB⟩<|G O<|zA ?_
    refine ⟨⟨j+1,sv6⟩,zB,(by show d.Dims.length-(j+1)<d.Dims.length-j;omega),Weak.mk [false,true,true,true] ⟨zD,zD,zD,zD,zD,zD,zD,T⟩ (by show _=[E.vec sv6 _ 2 ((d.Dims.take (j+1)).map fun a=>a.Size.cells)]++_;rw [yA ha,ah (f:=fun a:Ax=>a.Size.cells)];rfl)⟩
   ·refine qM<|Y O<|zC O zAo<|zE zDr (J 2 O) O<|G O<|qE O el28 zB (getm hd)<|qR O zKt<|zN yE qF O<|G O<|rStR 1 N O<|G O<|oi O<|zW _ (yK 0 O (regs':=[(10,_),(59,_),(5,_)]) (μ':=[_,_]) ⟨FLe.sl,FLe.sl,FLe.sl,T⟩ ⟨EFle.refl _,EFle.refl _,T⟩)<|zM<|fin3 (zZ yE O (J 0 O) O) (rs_c O) (rs_c O) ?_
    rw [hF,hfd,yI (l:=d.Dims) (k:=j) zB];simp only [mN,fq];rfl
  ·have hfd:=(find_def s p.Defs).2 zB
   refine zH<|Y O<|yJ O v pl56<|rStR 0 N O<|qY 2 O<|oi O<|zM<|fin3 (zZ yE O (J 0 O) O) (rs_c O) (rs_c O) ?_
   rw [hF,hfd];rfl
def zQt (b mb:Nat) (p:Pg) (m:Kn) (l:Lf) (hl:l.L.length<=4294967296):
    Con cfg 223 [vP b,dC l] (tyE b mb p m) fun r μ'=>r=vI (mY (kn m) l)/\μ'=tyE b mb p m:=by
 refine zV func223 O ntmps223 results223 O fun z hz=>Y O<|og O fun b1=>oi O<|zF<|Y O<|zC O kC<|zE wA (J 0 O) O<|qC O D<|oi O<|zS<|zW ⟨[(10,.c _),(0,.c _),(8,.c _),(9,.c _)],[_,_]⟩ (Weak.mk [false,true,true] ⟨zD,zD,zD,zD,T⟩ O)<|qG 1 0 O O (Nat) (fun k=>[(10,vI k)]) (fun k=>[]) (fun k=>k<=l.L.length/\(knL (kn m) (l.L.take k)=true)) (fun k=>l.L.length-k) ⟨0,⟨zB,O⟩,Weak.mk [true,true] ⟨zD,zD,zD,zD,T⟩ O⟩ ?_
 rintro k ⟨hk,hp⟩
 refine Y O<|yC O<|zA<|zF<|zK O ?_ ?_<;>intro c1<;>try simp only [sx] at c1
 ·obtain ⟨x,hx⟩:=qX l.L k zB
  refine zH<|zF<|zS<|Y O<|qE O D zB (getm uC)<|zN zFb qF O<|qA O O (qZ O zEk) ?_
  rintro _ _ ⟨b2,rfl,rfl⟩
  refine rStR 0 sz139 O<|zA<|zF<|yH 8 mixed uB O O<|oo O (zQ O O)<|oo O (qS O O)<|oo O (zG O fd236_1 O)<|oo O (zJ O zSr O (J 1 O) O)<|oo O (zG O wE O)<|oo O (zJ O one9 O (J 0 O) O)<|oo O (zGw 2 (0:Int) O sm117 O O O (fun _ _=>CRep.lit _ O))<|oo O (yX O O O)<|kE<|zA<|zK O ?_ ?_<;>intro c2<;>try simp only [sx] at c2
  ·refine oh O O<|zW _ (Weak.mem [false,true,true] O)<|zM<|zX O ?_
   exact ⟨by rw [zNc (knF_no hx (kn_f c2))],O⟩
  ·refine zH<|zP O<|qH O ⟨zB,zB⟩<|G O<|zA ?_
   refine ⟨k+1,⟨zB,knF_next hx hp (kn_t c2)⟩,zB,Weak.mk [false,true,true] ⟨zD,zD,zD,zD,T⟩ O⟩
 ·refine qM<|oh O O<|zM<|zX O ?_
  exact ⟨by rw [yI zB] at hp;rw [zUd hp],O⟩
def typer_index (b mb:Nat) (p:Pg) (m:Kn) (x:Ix) (hP:p.Ok) (hx:x.wt<=4294967296):
    Con cfg 262 [vP b,jN x] (tyE b mb p m) fun r μ'=>r=vI (dI p.en (kn m) x)/\μ'=tyE b mb p m:=by
 refine zV func262 O ntmps262 results262 O ?_
 intro z hz
 have hw:=hx
 unfold Ix.wt at hw
 clear hx
 refine Y O<|og O fun b1=>oi O<|zF<|Y O<|zC O zEs<|zE one9 (J 0 O) O<|wC O<|zA<|zK O ?_ ?_<;>intro c1<;>try simp only [sx] at c1
 ·refine ol O O<|zC O zCy<|zN yV (J 0 O) O<|zT O (kI [1,1] O uB (zQt b mb p m x.Lin zB) (vlr O) O)<|oi O<|zW _ (Weak.mem [false,true,true] O)<|zM<|zX O ?_
  exact ⟨by rw [dI,al c1];rfl,O⟩
 ·refine zH<|zF<|zYf 12 14 [.q,.q,.q,.q,.q,.q,.q,.q,.q,.u,.u,.f]  mixed uB O O O<|wN O O (zQ O O)<|wN O O (qS O O)<|wN O O (zG O fd236_0 O)<|wN O O (qB O zBa O (J 1 O) O)<|wN O O (zG O zEs O)<|wN O O (zJ O one9 O (J 0 O) O)<|wN O O (qP O uB (zLq p x.From hP) (vlr O))<|wN O O (yW O O)<|wN O O (yD O O O)<|zOv O O (kM O O O)<|zOv O O (kM O O O)<|zTt<|tdq_nil<|zDj<|zDj<|zDj<|zDj<|zDj<|zDj<|zDj<|zDj<|zDj<|tdf_u<|tdf_u<|zOw (zBe (qZ O v))<|tdf_nil<|zNg ?_
  rintro _ _ ⟨b2,rfl,rfl⟩
  refine zQn ?_
  refine ⟨_,yO O N O O O (zBo 0 O O),(by rintro _ _ ⟨rfl,rfl⟩;exact ⟨[_],rfl⟩),?_⟩
  rintro _ _ ⟨rfl,rfl⟩
  refine oo O (yR O O)<|kE<|oi O<|zF<|zS<|ol O O<|kU O<|oi O<|zK O ?_ ?_<;>intro c2<;>try simp only [sx] at c2
  ·refine oh O O<|zW _ (Weak.mem [false,false,true,true] O)<|zM<|zX O ?_
   exact ⟨by rw [dI,am c1,c2];rfl,O⟩
  ·refine Y O<|zC O zGm<|zE one3 (J 0 O) O<|yM O<|oi O<|zK O ?_ ?_<;>intro c3<;>try simp only [sx] at c3
   ·refine oh O O<|zW _ (Weak.mem [false,false,true,true] O)<|zM<|zX O ?_
    exact ⟨by rw [dI,am c1,c2,am c3];rfl,O⟩
   ·refine Y O<|zC O zAi<|zE zBs (J 1 O) O<|qC O el72<|G O<|qC O el72<|yM O<|oi O<|zK O ?_ ?_<;>intro c4<;>try simp only [sx] at c4
    ·refine oh O O<|zW _ (Weak.mem [false,false,true,true] O)<|zM<|zX O ?_
     exact ⟨by rw [dI,am c1,c2,al c3,am zB];rfl,O⟩
    ·refine zH<|zF<|Y O<|zC O zAi<|zE zBs (J 1 O) O<|qC O el72<|oi O<|zS<|zW ⟨[(46,.c _),(0,.c _),(44,.c _),(45,.c _)],[_,_]⟩ (Weak.mk [false,false,true,true] ⟨zD,zD,zD,zD,T⟩ O)<|qG 1 0 O O (Nat) (fun k=>[(46,vI k)]) (fun k=>[]) (fun k=>k<=x.At.length/\((x.At.take k).all (fun x=>knL (kn m) x.L)=true)) (fun k=>x.At.length-k) ⟨0,⟨zB,O⟩,Weak.mk [true,true] ⟨zD,zD,zD,zD,T⟩ O⟩ ?_
     rintro k ⟨hk,hp⟩
     refine Y O<|yC O<|zA<|zF<|zK O ?_ ?_<;>intro c5<;>try simp only [sx] at c5
     ·obtain ⟨l,hl⟩:=qX x.At k zB
      refine zH<|zF<|zS<|Y O<|qE O el72 zB (getm uC)<|zN yV qF O<|qA O O (qI [none,some 2] O U O) ?_
      rintro _ _ ⟨b3,rfl,rfl⟩
      refine rStR 0 sz59 O<|zA<|ol O O<|zN yV (J 0 O) O<|zT O (kI [1,1] O uB (zQt b mb p m l (by have:=zBw (qD hl);omega)) (vlr O) O)<|oi O<|ol O O<|yM O<|zA<|zK O ?_ ?_<;>intro c6<;>try simp only [sx] at c6
      ·refine ol O O<|oi O<|zW _ (Weak.mem [false,true,true] O)<|zM<|zX O ?_
       exact ⟨by rw [dI,am c1,c2,al c3,al zB];simp only [av,aU];rw [formsK_no hl c6],O⟩
      ·refine zH<|zP O<|qH O ⟨zB,zB⟩<|G O<|zA ?_
       refine ⟨k+1,⟨zB,zWy hl hp c6⟩,zB,Weak.mk [false,true,true] ⟨zD,zD,zD,zD,T⟩ O⟩
     ·refine qM<|oh O O<|zM<|zX O ?_
      exact ⟨by rw [yI zB] at hp;rw [dI,am c1,c2,al c3,al zB];simp only [av,aU];rw [formsK_ok hp],O⟩
end Go.W
end
