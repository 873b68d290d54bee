/-
  What functions compute.
  And what the laws need besides.
  Conditions: none.
-/
import Derived.Test.YthgichbbgocmoaaGreatDoorFacts
import Derived.Test.YthgichbbgocmoaaGreatDoorPlain
set_option linter.unusedSimpArgs false
set_option linter.unusedVariables false
set_option linter.defProp false
section
set_option maxRecDepth 10000
namespace Go.W
open Go Go.Eng Go.Proofs Go.L41 Go.Br Tryz
attribute [local irreducible] AWP RWP TD fK
def kw_ascii:∀(j:Nat) (b:UInt8),(bs kwBytes).data.toList[j]? =some b->b.toNat<128:=by
  intro j b h
  have:(kwBytes.all fun c=>decide (c.toNat<128))=true:=by decide
  rw [lAe] at this
  simpa using this b (bg h)
def kw_fields:(Lib.fields kwBytes).map bs=fX:=by decide+kernel
def nm1 {s:lr} (h:Lz (!decide (s=bs [])&&decide ((s.size:Int)<=16)) true=true):¬s=bs []:=by
  simp only [Lz,ay,ae,ao,aj] at h
  exact h.1
def nm2 {s:lr} {p:Bool} (h:Lz (!decide (s=bs [])&&decide ((s.size:Int)<=16)&&p) true=true):s.size<=1000000:=by
  simp only [Lz,ay,ae,ah] at h
  omega
def kQ:nE prog 51=some 2:=by kernel_rfl
def zRn:nE prog 92=some 4:=by kernel_rfl
def zIy:nE prog 109=some 2:=by kernel_rfl
def v:fB prog 44=some (92,4,72):=by kernel_rfl
def N:fB prog 49=some (109,2,24):=by kernel_rfl
def el85:fB prog 85=some (9,1,16):=by kernel_rfl
def zFl:bO prog 51 0=some (0,2):=by kernel_rfl
def wM:bO prog 51 1=some (1,49):=by kernel_rfl
def zAd:bO prog 109 0=some (0,9):=by kernel_rfl
def zCz:bO prog 109 1=some (1,2):=by kernel_rfl
def fl109:flatK prog 109=some [.str,.int]:=by kernel_rfl
def ik21:tU prog 21=some .i32:=by kernel_rfl
def mixed:prog.follows .mixedOrders=true:=by kernel_rfl
def U:mM prog 2=true:=by kernel_rfl
def one9:mM prog 9=true:=by kernel_rfl
def zBs:mM prog 49=true:=by kernel_rfl
def pl51:fW prog 51=some [(0,1),(1,1)]:=by kernel_rfl
def pl109:fW prog 109=some [(0,1),(1,1)]:=by kernel_rfl
def sz51:(prog.info? 51).map (·.size)=some 2:=by kernel_rfl
def sz109:(prog.info? 109).map (·.size)=some 2:=by kernel_rfl
def un9:prog.underlying 9=some .string:=by kernel_rfl
def us5:(prog.underlying 5).isSome=true:=by kernel_rfl
def zr9:fL prog 9=some [(Value.string (ByteArray.mk #[]))]:=by kernel_rfl
def zr51:fL prog 51=some [(Value.int IntKind.i64 0),(Value.slice none 0 0)]:=by kernel_rfl
def zKr:fL prog 109=some [(Value.string (ByteArray.mk #[])),(Value.int IntKind.i64 0)]:=by kernel_rfl
def zTo (n:Int):
    Pur cfg 46 [vR n] (vB (nI n)):=by
 refine zR func46 O ntmps46 results46 O ?_
 exact p9
def lexer_digit (n:Int):
    Pur cfg 84 [vR n] (vB (vU n)):=by
 refine zR func84 O ntmps84 results84 O ?_
 exact p9
def lexer_inWord (n:Int):
    Pur cfg 48 [vR n] (vB (rX n)):=by
 refine zR func48 O ntmps48 results48 O fun z hz=>ml O O<|mo O O<|qD O uB (zTo _) (vlr O)<|A O<|rL0 O (fun g1_2=>zO O O) O<|rL1 6 O (fun g1_2=>qG O uB (lexer_digit _) (vlr O)) O<|r_or O (fun h=>(lzf h))<|A O<|rL0 O (fun g1_6=>zO O O) O<|rL1 10 O (fun g1_6=>yN O O O) O<|r_or O (fun h=>(lzf h))<|mm O<|zF<|zS O ?_
 exact O
def zSp (s:lr) (hs:s.size<=1000000):
    Pur cfg 47 [vS s,.c (.fn (.func 48) [] [])] (vI (tE jE s.data.toList)):=by
 refine zR func47 O ntmps47 results47 O fun z hz=>ml O O<|ml O O<|zG<|zQ<|zY ⟨[(5,.c _),(0,.c _),(1,.c _)],[]⟩ (Weak.mk [] ⟨zJ,zJ,zJ,T⟩ O)<|qL 1 0 O O (Nat) (fun k=>[(5,vI k)]) (fun k=>[]) (fun k=>k<=s.size/\(s.data.toList.take k).all jE=true) (fun k=>s.size-k) ⟨0,⟨zA,O⟩,Weak.mk [] ⟨zJ,zJ,zJ,T⟩ O⟩ ?_
 rintro k ⟨hk,hp⟩
 refine zG<|mo O O<|A O<|zW O (zBr O un9 O)<|yI O<|A O<|rL0 O (fun g2_4=>zO O O) O<|rL0 O (fun g2_4=>zO O O) O<|rL0 O (fun g2_4=>zO O O) O<|rLz [(12,_),(13,_)] O gv1 ⟨O,O,O,O,T⟩ (fun g2_4=>zEr O un9 O O zA (by simp only [Lz,ay,ah] at g2_4;omega)) O<|rL1 14 O (fun g2_4=>zAo O us5 ik21 O) O<|rLz [(11,_),(15,_)] O gv1 ⟨O,O,O,O,T⟩ (fun g2_4=>det_call_fn0 O O uB (lexer_inWord _) (vlr O)) O<|yT O (fun h=>h)<|Y<|zK O ?_ ?_<;>intro c1<;>try simp only [sx] at c1
 ·obtain ⟨hlt,hcc⟩:=c1
  have hlt:k<s.size:=by omega
  rw [zOe] at hcc
  refine zI<|zQ<|zT O<|A O<|qI O ⟨zA,zA⟩<|A O<|Y ?_
  have hg:=zEy hlt
  refine ⟨k+1,⟨zA,by rw [zRm hg,hp];exact hcc⟩,zA,Weak.mk [] ⟨zJ,zJ,zJ,T⟩ O⟩
 ·have hsp:tE jE s.data.toList=k:=span_stop hp (by
    by_cases hlt:k<s.size
    · right;refine ⟨_,zEy hlt,?_⟩;rcases c1 with c1|c1;omega;rw [zOe] at c1;exact c1
    · left;simp;omega)
  refine qO<|mo O O<|mm O<|zF<|zS O ?_
  rw [hsp]
def zUa (l:List lr) (s:lr) (hl:l.length<=6000000000000):
    Pur cfg 118 [vSs l,vS s] (vI (xU l s)):=by
 refine zR func118 O ntmps118 results118 O fun z hz=>ml O O<|zG<|mo O O<|qB O el85<|mm O<|zQ<|zY ⟨[(8,.c _),(0,.c _),(1,.c _),(7,.c _)],[]⟩ (Weak.mk [] ⟨zJ,zJ,zJ,zJ,T⟩ O)<|qL 1 0 O O (Nat) (fun k=>[(8,vI k)]) (fun k=>[]) (fun k=>k<=l.length/\bP (l.take k) s=false) (fun k=>l.length-k) ⟨0,⟨zA,O⟩,Weak.mk [] ⟨zJ,zJ,zJ,zJ,T⟩ O⟩ ?_
 rintro k ⟨hk,hp⟩
 refine G O<|yI O<|Y<|zG<|zK O ?_ ?_<;>intro c1<;>try simp only [sx] at c1
 ·obtain ⟨t,ht⟩:=qZ l k zA
  refine zI<|zG<|zQ<|mo O O<|mm O<|mo O O<|A O<|A O<|qC O el85 zA (getm ht)<|zH one9 zZ O<|wP O<|Y<|zK O ?_ ?_<;>intro c2<;>try simp only [sx] at c2
  ·refine mo O O<|mm O<|zF<|zS O ?_
   rw [idxB_some ht c2 hp]
  ·refine zI<|zT O<|qI O ⟨zA,zA⟩<|A O<|Y ?_
   refine ⟨k+1,⟨zA,zTq ht hp (fun e=>c2 e.symm)⟩,zA,Weak.mk [] ⟨zJ,zJ,zJ,zJ,T⟩ O⟩
 ·refine qO<|ml O O<|zF<|zS O ?_
  rw [idxB_none (by rw [yW zA] at hp;exact hp)]
def zDh (l:List lr) (s:lr) (hl:l.length<=6000000000000):
    Pur cfg 85 [vSs l,vS s] (vB (bP l s)):=by
 refine zR func85 O ntmps85 results85 O fun z hz=>ml O O<|mo O O<|A O<|qD O uB (zUa l s hl) (vlr O)<|zW O (wH O O O)<|mm O<|zF<|zS O ?_
 rw [idxB_has]
def lexer_keywords:
    Pur cfg 86 [] (vSs fX):=by
 refine zR func86 O ntmps86 results86 O fun z hz=>G O<|yJ 1 O<|Y<|G O<|qD O uB (strings_Fields _ zB kw_ascii) (vlr O)<|mm O<|zF<|zS O ?_
 exact ag vSs kw_fields
def zYb (s:lr):
    Pur cfg 49 [vS s] (vB (bP fX s)):=by
 refine zR func49 O ntmps49 results49 O fun z hz=>ml O O<|G O<|qD O uB (lexer_keywords) T<|A O<|qD O uB (zDh _ _ zB) (vlr O)<|mm O<|zF<|zS O ?_
 exact O
def zBi (s:lr):
    Pur cfg 17 [vS s] (vB (bB s)):=by
 refine zR func17 O ntmps17 results17 O fun z hz=>ml O O<|mo O O<|zW O (zBq O O O)<|A O<|rL0 O (fun g1_2=>zO O O) O<|rL1 6 O (fun g1_2=>zBr O un9 O) O<|rL1 7 O (fun g1_2=>wS O O O) O<|yT O (fun h=>h)<|A O<|rL0 O (fun g1_7=>zO O O) O<|rL1 11 O (fun g1_7=>zEr O un9 O O zB (size_pos (nm1 g1_7))) O<|rL1 12 O (fun g1_7=>zAo O us5 ik21 O) O<|rL1 13 O (fun g1_7=>qG O uB (zTo _) (vlr O)) O<|yT O (fun h=>h)<|A O<|rL0 O (fun g1_13=>zO O O) O<|rL1 17 O (fun g1_13=>qG O uB (zSp s (nm2 g1_13)) (vlr O)) O<|rL0 O (fun g1_13=>zO O O) O<|rL1 19 O (fun g1_13=>zBr O un9 O) O<|rLz [(18,_),(20,_)] O gv1 ⟨O,O,O,O,T⟩ (fun g1_13=>yN O O O) O<|yT O (fun h=>h)<|A O<|rL0 O (fun g1_20=>zO O O) O<|rL1 24 O (fun g1_20=>qG O uB (zYb _) (vlr O)) O<|rL1 25 O (fun g1_20=>kG O O) O<|yT O (fun h=>h)<|mm O<|zF<|zS O ?_
 exact ag vB (isName_eq s)
def base_Words:
    Pur cfg 110 [] (vSs fX):=by
 refine zR func110 O ntmps110 results110 O fun z hz=>G O<|yJ 1 O<|Y<|G O<|zW O (yA O el85 zr9 O O O O)<|mm O<|zF<|zS O ?_
 exact O
def base_Has (l:List lr) (s:lr) (hl:l.length<=6000000000000):
    Pur cfg 109 [vSs l,vS s] (vB (bP l s)):=by
 refine zR func109 O ntmps109 results109 O fun z hz=>ml O O<|zG<|ml O O<|zQ<|zY ⟨[(5,.c _),(0,.c _),(1,.c _)],[]⟩ (Weak.mk [] ⟨zJ,zJ,zJ,T⟩ O)<|qL 1 0 O O (Nat) (fun k=>[(5,vI k)]) (fun k=>[]) (fun k=>k<=l.length/\bP (l.take k) s=false) (fun k=>l.length-k) ⟨0,⟨zA,O⟩,Weak.mk [] ⟨zJ,zJ,zJ,T⟩ O⟩ ?_
 rintro k ⟨hk,hp⟩
 refine zG<|mo O O<|A O<|qB O el85<|yI O<|Y<|zK O ?_ ?_<;>intro c1<;>try simp only [sx] at c1
 ·obtain ⟨t,ht⟩:=qZ l k zA
  refine zI<|zG<|zQ<|mo O O<|A O<|qC O el85 zA (getm ht)<|zH one9 zZ O<|A O<|wP O<|Y<|zK O ?_ ?_<;>intro c2<;>try simp only [sx] at c2
  ·refine ml O O<|zF<|zS O ?_
   rw [kH ht c2]
  ·refine zI<|zT O<|A O<|qI O ⟨zA,zA⟩<|A O<|Y ?_
   refine ⟨k+1,⟨zA,zTq ht hp c2⟩,zA,Weak.mk [] ⟨zJ,zJ,zJ,T⟩ O⟩
 ·refine qO<|ml O O<|zF<|zS O ?_
  rw [show bP l s=false by rw [yW zA] at hp;exact hp]
def zIw (s:lr):
    Pur cfg 76 [vS s] (vB (bB s)):=by
 refine zR func76 O ntmps76 results76 O fun z hz=>ml O O<|zG<|mo O O<|zW O (zBr O un9 O)<|yI O<|A O<|rL0 O (fun g1_3=>zO O O) O<|rL1 9 O (fun g1_3=>zBr O un9 O) O<|rL1 10 O (fun g1_3=>yD O O O) O<|r_or O (fun h=>(lzf h))<|A O<|rL0 O (fun g1_8=>qG O uB (base_Words) T) O<|rL0 O (fun g1_8=>zO O O) O<|rLz [(14,_),(15,_)] O gv1 ⟨O,O,O,O,T⟩ (fun g1_8=>qG O uB (base_Has _ _ zB) (vlr O)) O<|r_or O (fun h=>(lzf h))<|Y<|zK O ?_ ?_<;>intro c1<;>try simp only [sx] at c1
 ·have hno:=name_short (s:=s) (by simpa using c1)
  refine ml O O<|zF<|zS O ?_
  rw [hno]
 ·obtain ⟨⟨n1,n2⟩,n3⟩:=c1
  have n1:1<=s.size:=by omega
  have n2:s.size<=16:=by omega
  have hne:=name_end n1 n2 n3
  refine zI<|zG<|ml O O<|zQ<|zY ⟨[(3,.c _),(0,.c _)],[]⟩ (Weak.mk [] ⟨zJ,zJ,T⟩ O)<|qL 1 0 O O (Nat) (fun k=>[(3,vI k)]) (fun k=>[]) (fun k=>k<=s.size/\sR s k=true) (fun k=>s.size-k) ⟨0,⟨zA,O⟩,Weak.mk [] ⟨zJ,zJ,T⟩ O⟩ ?_
  rintro k ⟨hk,hp⟩
  refine zG<|mo O O<|A O<|zW O (zBr O un9 O)<|yI O<|Y<|zK O ?_ ?_<;>intro c2<;>try simp only [sx] at c2
  ·have hlt:k<s.size:=by omega
   refine zI<|zG<|zQ<|mo O O<|A O<|zW O (zEr O un9 O O zA zA)<|mm O<|mo O O<|zW O (wH O O O)<|A O<|rL0 O (fun g7_2=>zO O O) O<|rL1 30 O (fun g7_2=>wS O O O) O<|yT O (fun h=>h)<|A O<|rL0 O (fun g7_6=>zO O O) O<|rL1 34 O (fun g7_6=>yD O O O) O<|rL1 35 O (fun g7_6=>zO O O) O<|rLz [] O gv2 T (fun g7_9=>zO O O) O<|rLz [(37,_)] O gv2 ⟨O,O,T⟩ (fun g7_9=>wH O O O) O<|rLz [(38,_)] O gv2 ⟨O,O,T⟩ (fun g7_9=>zO O O) O<|rLz [] O gv2 T (fun g7_12=>zO O O) O<|rLz [(40,_)] O gv2 ⟨O,O,T⟩ (fun g7_12=>wS O O O) O<|rLz [(39,_)] O gv2 ⟨O,O,T⟩ (fun g7_9=>wA O O O (fun h=>kD uA h) O) O<|rLz [(42,_)] O gv2 ⟨O,O,T⟩ (fun g7_9=>zO O O) O<|rLz [] O gv2 T (fun g7_16=>zO O O) O<|rLz [(44,_)] O gv2 ⟨O,O,T⟩ (fun g7_16=>yN O O O) O<|rLz [(43,_)] O gv2 ⟨O,O,T⟩ (fun g7_9=>zAr O O O O (fun h=>kD uA (lzf h))) O<|rL1 36 O (fun g7_6=>wA O O O (fun h=>kD uA h) O) O<|r_or O (fun h=>(lzf h))<|kO O<|Y<|zK O (fun c3=>?_) (fun c3=>?_)
   ·have hbad:sR s (k+1)=false:=by rw [okTo_next,show rH k (s.data.toList.getD k 0)=false from (ao _).mp c3];simp
    refine ml O O<|zF<|zS O ?_
    rw [hne];cases ho:sR s s.size;rfl;exact absurd (okTo_le (k:=k+1) zA ho) (by rw [hbad];simp)
   ·have hgood:sR s (k+1)=true:=by rw [okTo_next,hp,show rH k (s.data.toList.getD k 0)=true from (fj _).mp c3];rfl
    refine zI<|zT O<|A O<|qI O ⟨zA,zA⟩<|A O<|Y ?_
    refine ⟨k+1,⟨zA,hgood⟩,zA,Weak.mk [] ⟨zJ,zJ,T⟩ O⟩
  ·refine qO<|ml O O<|zF<|zS O ?_
   rw [hne,show s.size=k by omega,hp]
def lin_reserved (s:lr):
    Pur cfg 89 [vS s] (vB (bP fX s)):=by
 refine zR func89 O ntmps89 results89 O fun z hz=>ml O O<|zG<|ml O O<|zQ<|zG<|G O<|wP O<|mm O<|zK O ?_ ?_<;>intro c1<;>try simp only [sx] at c1
 ·refine zI<|zK O (fun c22=>?_) (fun c22=>?_)
  ·refine ml O O<|zF<|zS O ?_
   rw [kH (l:=fX) (k:=0) rfl c1.symm]
  ·try simp only [sx] at c22
   refine zI<|ml O O<|zF<|zS O ?_
   exact absurd c1 c22
 ·refine G O<|wP O<|mm O<|zK O ?_ ?_<;>intro c2<;>try simp only [sx] at c2
  ·refine zI<|zK O (fun c22=>?_) (fun c22=>?_)
   ·refine ml O O<|zF<|zS O ?_
    rw [kH (l:=fX) (k:=1) rfl c2.symm]
   ·try simp only [sx] at c22
    refine zI<|ml O O<|zF<|zS O ?_
    exact absurd c2 c22
  ·refine G O<|wP O<|mm O<|zK O ?_ ?_<;>intro c3<;>try simp only [sx] at c3
   ·refine zI<|zK O (fun c22=>?_) (fun c22=>?_)
    ·refine ml O O<|zF<|zS O ?_
     rw [kH (l:=fX) (k:=2) rfl c3.symm]
    ·try simp only [sx] at c22
     refine zI<|ml O O<|zF<|zS O ?_
     exact absurd c3 c22
   ·refine G O<|wP O<|mm O<|zK O ?_ ?_<;>intro c4<;>try simp only [sx] at c4
    ·refine zI<|zK O (fun c22=>?_) (fun c22=>?_)
     ·refine ml O O<|zF<|zS O ?_
      rw [kH (l:=fX) (k:=3) rfl c4.symm]
     ·try simp only [sx] at c22
      refine zI<|ml O O<|zF<|zS O ?_
      exact absurd c4 c22
    ·refine G O<|wP O<|mm O<|zK O ?_ ?_<;>intro c5<;>try simp only [sx] at c5
     ·refine zI<|zK O (fun c22=>?_) (fun c22=>?_)
      ·refine ml O O<|zF<|zS O ?_
       rw [kH (l:=fX) (k:=4) rfl c5.symm]
      ·try simp only [sx] at c22
       refine zI<|ml O O<|zF<|zS O ?_
       exact absurd c5 c22
     ·refine G O<|wP O<|mm O<|zK O ?_ ?_<;>intro c6<;>try simp only [sx] at c6
      ·refine zI<|zK O (fun c22=>?_) (fun c22=>?_)
       ·refine ml O O<|zF<|zS O ?_
        rw [kH (l:=fX) (k:=5) rfl c6.symm]
       ·try simp only [sx] at c22
        refine zI<|ml O O<|zF<|zS O ?_
        exact absurd c6 c22
      ·refine G O<|wP O<|mm O<|zK O ?_ ?_<;>intro c7<;>try simp only [sx] at c7
       ·refine zI<|zK O (fun c22=>?_) (fun c22=>?_)
        ·refine ml O O<|zF<|zS O ?_
         rw [kH (l:=fX) (k:=6) rfl c7.symm]
        ·try simp only [sx] at c22
         refine zI<|ml O O<|zF<|zS O ?_
         exact absurd c7 c22
       ·refine G O<|wP O<|mm O<|zK O ?_ ?_<;>intro c8<;>try simp only [sx] at c8
        ·refine zI<|zK O (fun c22=>?_) (fun c22=>?_)
         ·refine ml O O<|zF<|zS O ?_
          rw [kH (l:=fX) (k:=7) rfl c8.symm]
         ·try simp only [sx] at c22
          refine zI<|ml O O<|zF<|zS O ?_
          exact absurd c8 c22
        ·refine G O<|wP O<|mm O<|zK O ?_ ?_<;>intro c9<;>try simp only [sx] at c9
         ·refine zI<|zK O (fun c22=>?_) (fun c22=>?_)
          ·refine ml O O<|zF<|zS O ?_
           rw [kH (l:=fX) (k:=8) rfl c9.symm]
          ·try simp only [sx] at c22
           refine zI<|ml O O<|zF<|zS O ?_
           exact absurd c9 c22
         ·refine G O<|wP O<|mm O<|zK O ?_ ?_<;>intro c10<;>try simp only [sx] at c10
          ·refine zI<|zK O (fun c22=>?_) (fun c22=>?_)
           ·refine ml O O<|zF<|zS O ?_
            rw [kH (l:=fX) (k:=9) rfl c10.symm]
           ·try simp only [sx] at c22
            refine zI<|ml O O<|zF<|zS O ?_
            exact absurd c10 c22
          ·refine G O<|wP O<|mm O<|zK O ?_ ?_<;>intro c11<;>try simp only [sx] at c11
           ·refine zI<|zK O (fun c22=>?_) (fun c22=>?_)
            ·refine ml O O<|zF<|zS O ?_
             rw [kH (l:=fX) (k:=10) rfl c11.symm]
            ·try simp only [sx] at c22
             refine zI<|ml O O<|zF<|zS O ?_
             exact absurd c11 c22
           ·refine G O<|wP O<|mm O<|zK O ?_ ?_<;>intro c12<;>try simp only [sx] at c12
            ·refine zI<|zK O (fun c22=>?_) (fun c22=>?_)
             ·refine ml O O<|zF<|zS O ?_
              rw [kH (l:=fX) (k:=11) rfl c12.symm]
             ·try simp only [sx] at c22
              refine zI<|ml O O<|zF<|zS O ?_
              exact absurd c12 c22
            ·refine G O<|wP O<|mm O<|zK O ?_ ?_<;>intro c13<;>try simp only [sx] at c13
             ·refine zI<|zK O (fun c22=>?_) (fun c22=>?_)
              ·refine ml O O<|zF<|zS O ?_
               rw [kH (l:=fX) (k:=12) rfl c13.symm]
              ·try simp only [sx] at c22
               refine zI<|ml O O<|zF<|zS O ?_
               exact absurd c13 c22
             ·refine G O<|wP O<|mm O<|zK O ?_ ?_<;>intro c14<;>try simp only [sx] at c14
              ·refine zI<|zK O (fun c22=>?_) (fun c22=>?_)
               ·refine ml O O<|zF<|zS O ?_
                rw [kH (l:=fX) (k:=13) rfl c14.symm]
               ·try simp only [sx] at c22
                refine zI<|ml O O<|zF<|zS O ?_
                exact absurd c14 c22
              ·refine G O<|wP O<|mm O<|zK O ?_ ?_<;>intro c15<;>try simp only [sx] at c15
               ·refine zI<|zK O (fun c22=>?_) (fun c22=>?_)
                ·refine ml O O<|zF<|zS O ?_
                 rw [kH (l:=fX) (k:=14) rfl c15.symm]
                ·try simp only [sx] at c22
                 refine zI<|ml O O<|zF<|zS O ?_
                 exact absurd c15 c22
               ·refine G O<|wP O<|mm O<|zK O ?_ ?_<;>intro c16<;>try simp only [sx] at c16
                ·refine zI<|zK O (fun c22=>?_) (fun c22=>?_)
                 ·refine ml O O<|zF<|zS O ?_
                  rw [kH (l:=fX) (k:=15) rfl c16.symm]
                 ·try simp only [sx] at c22
                  refine zI<|ml O O<|zF<|zS O ?_
                  exact absurd c16 c22
                ·refine G O<|wP O<|mm O<|zK O ?_ ?_<;>intro c17<;>try simp only [sx] at c17
                 ·refine zI<|zK O (fun c22=>?_) (fun c22=>?_)
                  ·refine ml O O<|zF<|zS O ?_
                   rw [kH (l:=fX) (k:=16) rfl c17.symm]
                  ·try simp only [sx] at c22
                   refine zI<|ml O O<|zF<|zS O ?_
                   exact absurd c17 c22
                 ·refine G O<|wP O<|mm O<|zK O ?_ ?_<;>intro c18<;>try simp only [sx] at c18
                  ·refine zI<|zK O (fun c22=>?_) (fun c22=>?_)
                   ·refine ml O O<|zF<|zS O ?_
                    rw [kH (l:=fX) (k:=17) rfl c18.symm]
                   ·try simp only [sx] at c22
                    refine zI<|ml O O<|zF<|zS O ?_
                    exact absurd c18 c22
                  ·refine G O<|wP O<|mm O<|zK O ?_ ?_<;>intro c19<;>try simp only [sx] at c19
                   ·refine zI<|zK O (fun c22=>?_) (fun c22=>?_)
                    ·refine ml O O<|zF<|zS O ?_
                     rw [kH (l:=fX) (k:=18) rfl c19.symm]
                    ·try simp only [sx] at c22
                     refine zI<|ml O O<|zF<|zS O ?_
                     exact absurd c19 c22
                   ·refine G O<|wP O<|mm O<|zK O ?_ ?_<;>intro c20<;>try simp only [sx] at c20
                    ·refine zI<|zK O (fun c22=>?_) (fun c22=>?_)
                     ·refine ml O O<|zF<|zS O ?_
                      rw [kH (l:=fX) (k:=19) rfl c20.symm]
                     ·try simp only [sx] at c22
                      refine zI<|ml O O<|zF<|zS O ?_
                      exact absurd c20 c22
                    ·refine G O<|wP O<|mm O<|zK O ?_ ?_<;>intro c21<;>try simp only [sx] at c21
                     ·refine zI<|zK O (fun c22=>?_) (fun c22=>?_)
                      ·refine ml O O<|zF<|zS O ?_
                       rw [kH (l:=fX) (k:=20) rfl c21.symm]
                      ·try simp only [sx] at c22
                       refine zI<|ml O O<|zF<|zS O ?_
                       exact absurd c21 c22
                     ·refine zT O<|wP O<|mm O<|zK O ?_ ?_<;>intro c22<;>try simp only [sx] at c22
                      ·refine ml O O<|zF<|zS O ?_
                       rw [kH (l:=fX) (k:=21) rfl c22.symm]
                      ·refine zI<|ml O O<|zF<|zS O ?_
                       rw [show bP fX s=false by
                         simp only [bP,fX,ep,List.any_nil,al,aj]
                         exact ⟨fun h=>c1 h.symm,fun h=>c2 h.symm,fun h=>c3 h.symm,fun h=>c4 h.symm,fun h=>c5 h.symm,fun h=>c6 h.symm,fun h=>c7 h.symm,fun h=>c8 h.symm,fun h=>c9 h.symm,fun h=>c10 h.symm,fun h=>c11 h.symm,fun h=>c12 h.symm,fun h=>c13 h.symm,fun h=>c14 h.symm,fun h=>c15 h.symm,fun h=>c16 h.symm,fun h=>c17 h.symm,fun h=>c18 h.symm,fun h=>c19 h.symm,fun h=>c20 h.symm,fun h=>c21 h.symm,fun h=>c22 h.symm,T⟩]
def zHx (s:lr):
    Pur cfg 53 [vS s] (vB (bB s)):=by
 refine zR func53 O ntmps53 results53 O fun z hz=>ml O O<|zG<|mo O O<|zW O (zBr O un9 O)<|yI O<|A O<|rL0 O (fun g1_3=>zO O O) O<|rL1 9 O (fun g1_3=>zBr O un9 O) O<|rL1 10 O (fun g1_3=>yD O O O) O<|r_or O (fun h=>(lzf h))<|A O<|rL0 O (fun g1_8=>zO O O) O<|rL1 14 O (fun g1_8=>qG O uB (lin_reserved _) (vlr O)) O<|r_or O (fun h=>(lzf h))<|A O<|rL0 O (fun g1_12=>zO O O) O<|rL1 18 O (fun g1_12=>zEr O un9 O O zB (by simp only [Lz,ay,az,sx] at g1_12;omega)) O<|rL1 19 O (fun g1_12=>zBb O O O) O<|r_or O (fun h=>(lzf h))<|A O<|rL0 O (fun g1_17=>zO O O) O<|rL1 23 O (fun g1_17=>zEr O un9 O O zB (by simp only [Lz,ay,az,sx] at g1_17;omega)) O<|rL1 24 O (fun g1_17=>yD O O O) O<|r_or O (fun h=>(lzf h))<|Y<|zK O (fun c1=>?_) (fun c1=>?_)
 ·have hno:=ident_no c1
  refine ml O O<|zF<|zS O ?_
  rw [hno]
 ·obtain ⟨n1,n2,hne⟩:=ident_yes c1
  refine zI<|zG<|mo O O<|zW O (zBr O un9 O)<|mm O<|zQ<|zY ⟨[(29,.c _),(0,.c _),(28,.c _)],[]⟩ (Weak.mk [] ⟨zJ,zJ,zJ,T⟩ O)<|qL 1 0 O O (Nat) (fun k=>[(29,vI k)]) (fun k=>[]) (fun k=>k<=s.size/\(s.data.toList.take k).all jE=true) (fun k=>s.size-k) ⟨0,⟨zA,O⟩,Weak.mk [] ⟨zJ,zJ,zJ,T⟩ O⟩ ?_
  rintro k ⟨hk,hp⟩
  refine G O<|yI O<|Y<|zG<|zK O ?_ ?_<;>intro c2<;>try simp only [sx] at c2
  ·have hlt:k<s.size:=by omega
   refine zI<|zG<|zQ<|mo O O<|mm O<|mo O O<|A O<|zW O (zEr O un9 O O zA zA)<|mm O<|mo O O<|yI O<|A O<|rL0 O (fun g7_2=>zO O O) O<|rL1 38 O (fun g7_2=>yD O O O) O<|r_or O (fun h=>(lzf h))<|A O<|rL0 O (fun g7_6=>zO O O) O<|rL1 42 O (fun g7_6=>zBb O O O) O<|rL1 43 O (fun g7_6=>zO O O) O<|rLz [] O gv2 T (fun g7_9=>zO O O) O<|rLz [(45,_)] O gv2 ⟨O,O,T⟩ (fun g7_9=>yD O O O) O<|rL1 44 O (fun g7_6=>zAr O O O O (fun h=>kD uA (lzf h))) O<|yT O (fun h=>h)<|A O<|rL0 O (fun g7_14=>zO O O) O<|rL1 50 O (fun g7_14=>kB O O O) O<|yT O (fun h=>h)<|Y<|zK O (fun c3=>?_) (fun c3=>?_)
   ·have hbad:=word_no hlt c3
    refine ml O O<|zF<|zS O ?_
    rw [hne,hbad]
   ·have hgood:=word_yes hlt hp c3
    refine zI<|zT O<|qI O ⟨zA,zA⟩<|A O<|Y ?_
    refine ⟨k+1,⟨zA,hgood⟩,zA,Weak.mk [] ⟨zJ,zJ,zJ,T⟩ O⟩
  ·refine qO<|ml O O<|zF<|zS O ?_
   rw [hne,word_all hp zA]
def zDt (l:Lf) (hl:l.L.length<=6000000000000):
    Pur cfg 51 [dK l] (vI (dY l)):=by
 refine zR func51 O ntmps51 results51 O fun z hz=>G O<|mj O fun b1=>mm O<|zG<|G O<|zC O wM<|zH zBs (J 0 O) O<|qB O N<|mm O<|zQ<|zY ⟨[(8,.c _),(1,.c _),(6,.c _),(7,.c _)],[_]⟩ (Weak.mk [true] ⟨zJ,zJ,zJ,zJ,T⟩ O)<|qL 1 0 O O (Nat) (fun k=>[(8,vI k)]) (fun k=>[]) (fun k=>k<=l.L.length/\(bI l=bK (pB l.L k) (l.L.drop k))) (fun k=>l.L.length-k) ⟨0,⟨zA,O⟩,Weak.mk [true] ⟨zJ,zJ,zJ,zJ,T⟩ O⟩ ?_
 rintro k ⟨hk,hp⟩
 refine G O<|yI O<|Y<|zG<|zK O ?_ ?_<;>intro c1<;>try simp only [sx] at c1
 ·obtain ⟨x,hx⟩:=qZ l.L k zA
  refine zI<|zG<|zQ<|mo O O<|qC O N zA (getm uA)<|zM zIy zZ O<|zV O O (qW O zKr) ?_
  rintro _ _ ⟨b2,rfl,rfl⟩
  refine A O<|rStR 0 sz109 O<|Y<|zG<|qV 25 mixed uB O O<|mr O (zE O zAd O)<|mr O (zD O one9 O (J 0 O) O)<|mr O (qG O uB (zHx _) (vlr O))<|mr O (kG O O)<|mr O (zO O O)<|qM [] O O O O gv1 T (fun g4_4=>zE O zCz O) O<|qM [(18,_)] O O O O gv1 ⟨O,O,T⟩ (fun g4_4=>zD O U O (J 0 O) O) O<|qM [(19,_)] O O O O gv1 ⟨O,O,T⟩ (fun g4_4=>yN O O O) O<|mr O (zAr O O O O (fun h=>(lzf h)))<|mr O (zO O O)<|qM [] O O O O gv1 T (fun g4_9=>zO O O) O<|qM [(23,_)] O O O O gv1 ⟨O,O,T⟩ (fun g4_9=>yD O O O) O<|qM [(24,_)] O O O O gv1 ⟨O,O,T⟩ (fun g4_9=>zO O O) O<|qM [] O O O O gv2 T (fun g4_12=>zE O wM O) O<|qM [(26,_)] O O O O gv2 ⟨O,O,T⟩ (fun g4_12=>zD O zBs O (J 1 O) O) O<|qM [] O O O O gv2 T (fun g4_12=>zO O O) O<|qM [(28,_)] O O O O gv2 ⟨O,O,T⟩ (fun g4_12=>yB O O O ⟨zA,zA⟩) O<|qM [(27,_),(29,_)] O O O O gv2 ⟨O,O,O,O,T⟩ (fun g4_12=>qE O N O O (by simp only [Lz,ay,az,sx] at g4_12;omega) (pv_get (by simp only [Lz,ay,az,sx] at g4_12;omega) zA)) O<|qM [(30,_)] O O O O gv2 ⟨O,O,T⟩ (fun g4_12=>qN O zAd O) O<|qM [(31,_)] O O O O gv2 ⟨O,O,T⟩ (fun g4_12=>zD O one9 O zZ O) O<|qM [] O O O O gv2 T (fun g4_12=>zE O zAd O) O<|qM [(33,_)] O O O O gv2 ⟨O,O,T⟩ (fun g4_12=>zD O one9 O (J 0 O) O) O<|qM [(32,_),(34,_)] O O O O gv2 ⟨O,O,O,O,T⟩ (fun g4_12=>det_sgeq O O O) O<|qM [(25,_)] O O O O gv1 ⟨O,O,T⟩ (fun g4_9=>wA O O O (fun h=>kD uA h) O) O<|mr O (zAr O O O O (fun h=>(lzf h)))<|yQ<|Y<|zK O (fun c2=>?_) (fun c2=>?_)
  ·refine ml O O<|zF<|zS O ?_
   rw [dY,hp,zMy hx,show cO l.L k x=true from c2];rfl
  ·refine zI<|zT O<|qI O ⟨zA,zA⟩<|A O<|Y ?_
   refine ⟨k+1,⟨zA,by rw [hp,zMy hx,show cO l.L k x=false from c2];rfl⟩,zA,Weak.mk [false,true] ⟨zJ,zJ,zJ,zJ,T⟩ O⟩
 ·refine qO<|ml O O<|zF<|zS O ?_
  rw [dY,hp,monos_end zA];rfl
def zGb (l:Lf) (hl:l.L.length<=6000000000000):
    Pur cfg 220 [dK l] (vB (bI l)):=by
 refine zR func220 O ntmps220 results220 O fun z hz=>G O<|mj O fun b1=>mm O<|zG<|ml O O<|zQ<|zY ⟨[(3,.c _),(1,.c _)],[_]⟩ (Weak.mk [true] ⟨zJ,zJ,T⟩ O)<|qL 1 0 O O (Nat) (fun k=>[(3,vI k)]) (fun k=>[]) (fun k=>k<=l.L.length/\(bI l=bK (pB l.L k) (l.L.drop k))) (fun k=>l.L.length-k) ⟨0,⟨zA,O⟩,Weak.mk [true] ⟨zJ,zJ,T⟩ O⟩ ?_
 rintro k ⟨hk,hp⟩
 refine zG<|mo O O<|zC O wM<|zH zBs (J 0 O) O<|qB O N<|yI O<|Y<|zK O ?_ ?_<;>intro c1<;>try simp only [sx] at c1
 ·obtain ⟨x,hx⟩:=qZ l.L k zA
  refine zI<|zG<|zQ<|zG<|qV 37 mixed uB O O<|mr O (zE O wM O)<|mr O (zD O zBs O (J 0 O) O)<|mr O (zO O O)<|mr O (qE O N O O zA (getm uA))<|mr O (qN O zAd O)<|mr O (zD O one9 O zZ O)<|mr O (qG O uB (zIw _) (vlr O))<|mr O (kG O O)<|mr O (zO O O)<|qM [] O O O O gv1 T (fun g4_8=>zE O wM O) O<|qM [(20,_)] O O O O gv1 ⟨O,O,T⟩ (fun g4_8=>zD O zBs O (J 0 O) O) O<|qM [] O O O O gv1 T (fun g4_8=>zO O O) O<|qM [(21,_),(22,_)] O O O O gv1 ⟨O,O,O,O,T⟩ (fun g4_8=>qE O N O O zA (getm uA)) O<|qM [(23,_)] O O O O gv1 ⟨O,O,T⟩ (fun g4_8=>qN O zCz O) O<|qM [(24,_)] O O O O gv1 ⟨O,O,T⟩ (fun g4_8=>zD O U O zZ O) O<|qM [(25,_)] O O O O gv1 ⟨O,O,T⟩ (fun g4_8=>yN O O O) O<|mr O (zAr O O O O (fun h=>(lzf h)))<|mr O (zO O O)<|qM [] O O O O gv1 T (fun g4_17=>zO O O) O<|qM [(29,_)] O O O O gv1 ⟨O,O,T⟩ (fun g4_17=>yD O O O) O<|qM [(30,_)] O O O O gv1 ⟨O,O,T⟩ (fun g4_17=>zO O O) O<|qM [] O O O O gv2 T (fun g4_20=>zE O wM O) O<|qM [(32,_)] O O O O gv2 ⟨O,O,T⟩ (fun g4_20=>zD O zBs O (J 0 O) O) O<|qM [] O O O O gv2 T (fun g4_20=>zO O O) O<|qM [(34,_)] O O O O gv2 ⟨O,O,T⟩ (fun g4_20=>yB O O O ⟨zA,zA⟩) O<|qM [(33,_),(35,_)] O O O O gv2 ⟨O,O,O,O,T⟩ (fun g4_20=>qE O N O O (by simp only [Lz,ay,az,sx] at g4_20;omega) (pv_get (by simp only [Lz,ay,az,sx] at g4_20;omega) zA)) O<|qM [(36,_)] O O O O gv2 ⟨O,O,T⟩ (fun g4_20=>qN O zAd O) O<|qM [(37,_)] O O O O gv2 ⟨O,O,T⟩ (fun g4_20=>zD O one9 O zZ O) O<|qM [] O O O O gv2 T (fun g4_20=>zE O wM O) O<|qM [(39,_)] O O O O gv2 ⟨O,O,T⟩ (fun g4_20=>zD O zBs O (J 0 O) O) O<|qM [] O O O O gv2 T (fun g4_20=>zO O O) O<|qM [(40,_),(41,_)] O O O O gv2 ⟨O,O,O,O,T⟩ (fun g4_20=>qE O N O O zA (getm uA)) O<|qM [(42,_)] O O O O gv2 ⟨O,O,T⟩ (fun g4_20=>qN O zAd O) O<|qM [(43,_)] O O O O gv2 ⟨O,O,T⟩ (fun g4_20=>zD O one9 O zZ O) O<|qM [(38,_),(44,_)] O O O O gv2 ⟨O,O,O,O,T⟩ (fun g4_20=>det_sgeq O O O) O<|qM [(31,_)] O O O O gv1 ⟨O,O,T⟩ (fun g4_17=>wA O O O (fun h=>kD uA h) O) O<|mr O (zAr O O O O (fun h=>(lzf h)))<|yQ<|Y<|zK O (fun c2=>?_) (fun c2=>?_)
  ·refine ml O O<|zF<|zS O ?_
   rw [hp,zMy hx,show cO l.L k x=true from c2];rfl
  ·refine zI<|zT O<|A O<|qI O ⟨zA,zA⟩<|A O<|Y ?_
   refine ⟨k+1,⟨zA,by rw [hp,zMy hx,show cO l.L k x=false from c2];rfl⟩,zA,Weak.mk [true] ⟨zJ,zJ,T⟩ O⟩
 ·refine qO<|ml O O<|zF<|zS O ?_
  rw [hp,monos_end zA]
def lin_Var (s:lr):
    Pur cfg 20 [vS s] (dK (fY s)):=by
 refine zR func20 O ntmps20 results20 O fun z hz=>G O<|zV O O (qH [none,some 2] O zr51 O) ?_
 rintro _ _ ⟨b1,rfl,rfl⟩
 refine Y<|zG<|mo O O<|qD O uB (zHx _) (vlr O)<|kO O<|Y<|zK O ?_ ?_<;>intro c1<;>try simp only [sx] at c1
 ·refine G O<|yH [none,some 2] O zr51 pl51<|rStR 0 sz51 O<|Y<|zF<|fin1 (zP kQ O (J 0 O) O) ?_
  rw [fY,c1];rfl
 ·refine zI<|mo O O<|qU O zKr pl109<|zW O (yA O N zKr O O O O)<|qU O zr51 pl51<|rStR 0 sz51 O<|Y<|zF<|fin1 (zP kQ O (J 0 O) O) ?_
  rw [fY,c1];rfl
def zYa (k:Int):
    Pur cfg 24 [vI k] (dK ⟨k,[]⟩):=by
 refine zR func24 O ntmps24 results24 O fun z hz=>G O<|zV O O (qH [none,some 2] O zr51 O) ?_
 rintro _ _ ⟨b1,rfl,rfl⟩
 refine Y<|mo O O<|yH [none,some 2] O zr51 pl51<|rStR 0 sz51 O<|Y<|zF<|fin1 (zP kQ O (J 0 O) O) ?_
 exact O
def zKl (s:lr):
    Pur cfg 41 [vS s] (dK (fY s)):=by
 refine zR func41 O ntmps41 results41 O fun z hz=>G O<|zV O O (qH [none,some 2] O zr51 O) ?_
 rintro _ _ ⟨b1,rfl,rfl⟩
 refine Y<|zG<|mo O O<|qD O uB (zIw _) (vlr O)<|kO O<|Y<|zK O ?_ ?_<;>intro c1<;>try simp only [sx] at c1
 ·refine G O<|yH [none,some 2] O zr51 pl51<|rStR 0 sz51 O<|Y<|zF<|fin1 (zP kQ O (J 0 O) O) ?_
  rw [fY,c1];rfl
 ·refine zI<|mo O O<|qU O zKr pl109<|zW O (yA O N zKr O O O O)<|qU O zr51 pl51<|rStR 0 sz51 O<|Y<|zF<|fin1 (zP kQ O (J 0 O) O) ?_
  rw [fY,c1];rfl
def base_Lin (a b:Lf) (ha:a.L.length<=6000000000000):
    Pur cfg 144 [dK a,dK b] (vB (decide (a=b))):=by
 refine zR func144 O ntmps144 results144 O fun z hz=>G O<|mj O fun b1=>mj O fun b2=>mm O<|zG<|G O<|zC O zFl<|zH U (J 1 O) O<|zC O zFl<|zH U (J 0 O) O<|yL O<|A O<|rL0 O (fun g1_5=>zE O wM O) O<|rL1 12 O (fun g1_5=>zD O zBs O (J 1 O) O) O<|rL1 13 O (fun g1_5=>yK O N O) O<|rL0 O (fun g1_5=>zE O wM O) O<|rL1 15 O (fun g1_5=>zD O zBs O (J 0 O) O) O<|rL1 16 O (fun g1_5=>yK O N O) O<|rLz [(14,_),(17,_)] O gv1 ⟨O,O,O,O,T⟩ (fun g1_5=>kB O O O) O<|r_or O (fun h=>(lzf h))<|Y<|zK O ?_ ?_<;>intro c1<;>try simp only [sx] at c1
 ·refine ml O O<|zF<|zS O ?_
  rw [qX (fun h=>by rw [h] at c1;simp at c1)]
 ·refine zI<|zG<|ml O O<|zQ<|zY ⟨[(5,.c _),(2,.c _),(3,.c _)],[_,_]⟩ (Weak.mk [true,true] ⟨zJ,zJ,zJ,T⟩ O)<|qL 1 0 O O (Nat) (fun k=>[(5,vI k)]) (fun k=>[]) (fun k=>k<=a.L.length/\(a.L.take k=b.L.take k)) (fun k=>a.L.length-k) ⟨0,⟨zA,O⟩,Weak.mk [true,true] ⟨zJ,zJ,zJ,T⟩ O⟩ ?_
  rintro k ⟨hk,hp⟩
  refine zG<|mo O O<|zC O wM<|zH zBs (J 1 O) O<|qB O N<|yI O<|Y<|zK O ?_ ?_<;>intro c2<;>try simp only [sx] at c2
  ·obtain ⟨x,hx⟩:=qZ a.L k zA
   obtain ⟨y,hy⟩:=qZ b.L k zA
   refine zI<|zG<|zQ<|zG<|qV 11 mixed uB O O<|mr O (zE O wM O)<|mr O (zD O zBs O (J 1 O) O)<|mr O (zO O O)<|mr O (qE O N O O zA (getm uA))<|mr O (zU O zIy O zZ O)<|mr O (zE O wM O)<|mr O (zD O zBs O (J 0 O) O)<|mr O (zO O O)<|mr O (qE O N O O zA (getm uA))<|mr O (zU O zIy O zZ O)<|mr O (zAb O fl109 O O O)<|yQ<|Y<|zK O (fun c3=>?_) (fun c3=>?_)
   ·have hne:=mono_ne c3
    refine ml O O<|zF<|zS O ?_
    rw [qX (fun h=>zGr hx hy hne (by rw [h]))]
   ·have heq:=mono_eq c3
    refine zI<|zT O<|A O<|qI O ⟨zA,zA⟩<|A O<|Y ?_
    refine ⟨k+1,⟨zA,zCd hx hy hp heq⟩,zA,Weak.mk [true,true] ⟨zJ,zJ,zJ,T⟩ O⟩
  ·refine qO<|ml O O<|zF<|zS O ?_
   rw [wU (lin_mk zA (zEo hp zA zA))]
def zOj (l:List Ix) (c:C) (p:Ix->Bool) (hl:l.length<=6000000000000) (hc:∀x,x∈l->FnPur cfg c [lT x] (vB (p x))):
    Pur cfg 262 [jF l,.c c] (vI (mA p l)):=by
 refine zR func262 O ntmps262 results262 O fun z hz=>ml O O<|zG<|mo O O<|qB O v<|mm O<|zQ<|zY ⟨[(8,.c _),(0,.c _),(1,.c _),(7,.c _)],[]⟩ (Weak.mk [] ⟨zJ,zJ,zJ,zJ,T⟩ O)<|qL 1 0 O O (Nat) (fun k=>[(8,vI k)]) (fun k=>[]) (fun k=>k<=l.length/\((l.take k).any p=false)) (fun k=>l.length-k) ⟨0,⟨zA,O⟩,Weak.mk [] ⟨zJ,zJ,zJ,zJ,T⟩ O⟩ ?_
 rintro k ⟨hk,hp⟩
 refine G O<|yI O<|Y<|zG<|zK O ?_ ?_<;>intro c1<;>try simp only [sx] at c1
 ·obtain ⟨x,hx⟩:=qZ l k zA
  refine zI<|zG<|zQ<|mo O O<|mm O<|mo O O<|A O<|A O<|qC O v zA (getm uA)<|zM zRn zZ O<|zW O (kU O O (hc _ (qA hx)) (vlr O))<|Y<|zK O ?_ ?_<;>intro c2<;>try simp only [sx] at c2
  ·refine mo O O<|mm O<|zF<|zS O ?_
   rw [zVd hx c2 hp]
  ·refine zI<|zT O<|qI O ⟨zA,zA⟩<|A O<|Y ?_
   refine ⟨k+1,⟨zA,zRl hx hp c2⟩,zA,Weak.mk [] ⟨zJ,zJ,zJ,zJ,T⟩ O⟩
 ·refine qO<|ml O O<|zF<|zS O ?_
  rw [zNd (by rw [yW zA] at hp;exact hp)]
def zBy (l:List Ix) (c:C) (p:Ix->Bool) (hl:l.length<=6000000000000) (hc:∀x,x∈l->FnPur cfg c [lT x] (vB (p x))):
    Pur cfg 238 [jF l,.c c] (vB (l.any p)):=by
 refine zR func238 O ntmps238 results238 O fun z hz=>ml O O<|mo O O<|A O<|qD O uB (zOj l c p hl hc) (vlr O)<|zW O (wH O O O)<|mm O<|zF<|zS O ?_
 rw [zQn]
end Go.W
end
section
set_option maxRecDepth 10000
namespace Go.W
open Go Go.Eng Go.Proofs Go.L41 Go.Br Tryz
attribute [local irreducible] AWP RWP TD fK
def yP:nE prog 46=some 2:=by kernel_rfl
def yE:nE prog 48=some 5:=by kernel_rfl
def zAg:bO prog 46 0=some (0,2):=by kernel_rfl
def zAu:bO prog 46 1=some (1,2):=by kernel_rfl
def zEc:bO prog 48 0=some (0,3):=by kernel_rfl
def zMb:bO prog 48 1=some (1,3):=by kernel_rfl
def zTs:bO prog 48 2=some (2,3):=by kernel_rfl
def zMa:bO prog 48 3=some (3,3):=by kernel_rfl
def zTr:bO prog 48 4=some (4,3):=by kernel_rfl
def fl48:flatK prog 48=some [.int,.int,.int,.int,.int]:=by kernel_rfl
def ik154:tU prog 154=some .u64:=by kernel_rfl
def ik185:tU prog 185=some .u64:=by kernel_rfl
def one3:mM prog 3=true:=by kernel_rfl
def pl46:fW prog 46=some [(0,1),(1,1)]:=by kernel_rfl
def pl48:fW prog 48=some [(0,1),(1,1),(2,1),(3,1),(4,1)]:=by kernel_rfl
def L:(prog.info? 46).map (·.size)=some 2:=by kernel_rfl
def us2:(prog.underlying 2).isSome=true:=by kernel_rfl
def us3:(prog.underlying 3).isSome=true:=by kernel_rfl
def W:fL prog 46=some [(Value.int IntKind.i64 0),(Value.int IntKind.i64 0)]:=by kernel_rfl
def zr48:fL prog 48=some [(Value.int IntKind.i64 0),(Value.int IntKind.i64 0),(Value.int IntKind.i64 0),(Value.int IntKind.i64 0),(Value.int IntKind.i64 0)]:=by kernel_rfl
def zVz (t:Ty):
    Pur cfg 131 [vTy t] (vB (vJ t)):=by
 refine zR func131 O ntmps131 results131 O fun z hz=>G O<|mj O fun b1=>mm O<|G O<|zM yE (J 0 O) O<|zC O zEc<|zH one3 (J 0 O) O<|qU O zr48 pl48<|zW O (zVk O fl48 O O O)<|mm O<|zF<|zS O ?_
 exact ag vB (plainT_eq t)
def zEb (t:Ty):
    Pur cfg 132 [vTy t] (vI (bif fP t then 0 else 10)):=by
 refine zR func132 O ntmps132 results132 O fun z hz=>G O<|mj O fun b1=>mm O<|G O<|zC O zMa<|zH one3 (J 0 O) O<|zW O (wH O O O)<|A O<|rL0 O (fun g1_3=>zE O zMa O) O<|rL1 8 O (fun g1_3=>zD O one3 O (J 0 O) O) O<|rL1 9 O (fun g1_3=>wS O O O) O<|yT O (fun h=>h)<|A O<|rL0 O (fun g1_8=>zE O zTr O) O<|rL1 13 O (fun g1_8=>zD O one3 O (J 0 O) O) O<|rL1 14 O (fun g1_8=>yN O O O) O<|rL1 15 O (fun g1_8=>zO O O) O<|rLz [] O gv2 T (fun g1_12=>zE O zTr O) O<|rLz [(17,_)] O gv2 ⟨O,O,T⟩ (fun g1_12=>zD O one3 O (J 0 O) O) O<|rLz [(18,_)] O gv2 ⟨O,O,T⟩ (fun g1_12=>yN O O O) O<|rL1 16 O (fun g1_8=>zAr O O O O (fun h=>kD uA (lzf h))) O<|yT O (fun h=>h)<|mm O<|zG<|G O<|zC O zEc<|zH one3 (J 0 O) O<|yL O<|A O<|rL0 O (fun g2_3=>zE O zMb O) O<|rL1 26 O (fun g2_3=>zD O one3 O (J 0 O) O) O<|rL1 27 O (fun g2_3=>zBb O O O) O<|r_or O (fun h=>(lzf h))<|A O<|rL0 O (fun g2_8=>zE O zMb O) O<|rL1 31 O (fun g2_8=>zD O one3 O (J 0 O) O) O<|rL1 32 O (fun g2_8=>yD O O O) O<|r_or O (fun h=>(lzf h))<|A O<|rL0 O (fun g2_13=>zE O zTs O) O<|rL1 36 O (fun g2_13=>zD O one3 O (J 0 O) O) O<|rL1 37 O (fun g2_13=>zBb O O O) O<|r_or O (fun h=>(lzf h))<|A O<|rL0 O (fun g2_18=>zE O zTs O) O<|rL1 41 O (fun g2_18=>zD O one3 O (J 0 O) O) O<|rL1 42 O (fun g2_18=>yD O O O) O<|r_or O (fun h=>(lzf h))<|A O<|rL0 O (fun g2_23=>zO O O) O<|rL1 46 O (fun g2_23=>kG O O) O<|r_or O (fun h=>(lzf h))<|Y<|zK O (fun c1=>?_) (fun c1=>?_)
 ·refine ml O O<|zF<|zS O ?_
  rw [show fP t=false from fix_no c1];rfl
 ·refine zI<|ml O O<|zF<|zS O ?_
  rw [show fP t=true from fix_yes c1];rfl
def zDw (t:Ty):
    Pur cfg 102 [vTy t] (vI (dT t)):=by
 refine zR func102 O ntmps102 results102 O fun z hz=>G O<|mj O fun b1=>mm O<|zG<|G O<|zC O zEc<|zH one3 (J 0 O) O<|Y<|zQ<|zG<|G O<|yF O<|mm O<|qK O (fun c1=>?_) (fun c1=>?_)
 ·refine zI<|zK O ?_ ?_<;>intro c2<;>try simp only [sx] at c2
  ·exact v23
  ·exact j6
 ·refine zT O<|yF O<|mm O<|qK O (fun c2=>?_) (fun c2=>?_)
  ·exact v23
  ·exact j6
def zEf (t:Ty):
    Pur cfg 77 [vTy t] (vB (dD t)):=by
 refine zR func77 O ntmps77 results77 O fun z hz=>G O<|mj O fun b1=>mm O<|zG<|G O<|zC O zEc<|zH one3 (J 0 O) O<|yF O<|A O<|rL0 O (fun g1_3=>zE O zEc O) O<|rL1 7 O (fun g1_3=>zD O one3 O (J 0 O) O) O<|rL1 8 O (fun g1_3=>yN O O O) O<|r_or O (fun h=>(lzf h))<|Y<|zK O (fun c1=>?_) (fun c1=>?_)
 ·refine G O<|zC O zMb<|zH one3 (J 0 O) O<|yF O<|A O<|rL0 O (fun g2_3=>zE O zTs O) O<|rL1 15 O (fun g2_3=>zD O one3 O (J 0 O) O) O<|rL1 16 O (fun g2_3=>yN O O O) O<|yT O (fun h=>h)<|A O<|rL0 O (fun g2_8=>zE O zMa O) O<|rL1 20 O (fun g2_8=>zD O one3 O (J 0 O) O) O<|rL1 21 O (fun g2_8=>yN O O O) O<|yT O (fun h=>h)<|A O<|rL0 O (fun g2_13=>zE O zTr O) O<|rL1 25 O (fun g2_13=>zD O one3 O (J 0 O) O) O<|rL1 26 O (fun g2_13=>yN O O O) O<|yT O (fun h=>h)<|mm O<|zF<|zS O ?_
  exact ag vB (type1 c1)
 ·refine zI<|G O<|zC O zEc<|zH one3 (J 0 O) O<|yF O<|A O<|rL0 O (fun g3_3=>zE O zMb O) O<|rL1 33 O (fun g3_3=>zD O one3 O (J 0 O) O) O<|rL1 34 O (fun g3_3=>wH O O O) O<|yT O (fun h=>h)<|A O<|rL0 O (fun g3_8=>zE O zMb O) O<|rL1 38 O (fun g3_8=>zD O one3 O (J 0 O) O) O<|rL1 39 O (fun g3_8=>wS O O O) O<|yT O (fun h=>h)<|A O<|rL0 O (fun g3_13=>zE O zTs O) O<|rL1 43 O (fun g3_13=>zD O one3 O (J 0 O) O) O<|rL1 44 O (fun g3_13=>wH O O O) O<|yT O (fun h=>h)<|A O<|rL0 O (fun g3_18=>zE O zTs O) O<|rL1 48 O (fun g3_18=>zD O one3 O (J 0 O) O) O<|rL1 49 O (fun g3_18=>wS O O O) O<|yT O (fun h=>h)<|A O<|rL0 O (fun g3_23=>zE O zMa O) O<|rL1 53 O (fun g3_23=>zD O one3 O (J 0 O) O) O<|rL1 54 O (fun g3_23=>wH O O O) O<|yT O (fun h=>h)<|A O<|rL0 O (fun g3_28=>zE O zMa O) O<|rL1 58 O (fun g3_28=>zD O one3 O (J 0 O) O) O<|rL1 59 O (fun g3_28=>wS O O O) O<|yT O (fun h=>h)<|A O<|rL0 O (fun g3_33=>zE O zTr O) O<|rL1 63 O (fun g3_33=>zD O one3 O (J 0 O) O) O<|rL1 64 O (fun g3_33=>yN O O O) O<|rL1 65 O (fun g3_33=>zO O O) O<|rLz [] O gv2 T (fun g3_37=>zE O zTr O) O<|rLz [(67,_)] O gv2 ⟨O,O,T⟩ (fun g3_37=>zD O one3 O (J 0 O) O) O<|rLz [(68,_)] O gv2 ⟨O,O,T⟩ (fun g3_37=>yN O O O) O<|rL1 66 O (fun g3_33=>zAr O O O O (fun h=>kD uA (lzf h))) O<|yT O (fun h=>h)<|mm O<|zF<|zS O ?_
  exact ag vB (type2 c1)
def zWu (b:Int):
    Pur cfg 271 [vI b] (vB (decide (2<=b)&&decide (b<=31))):=by
 refine zR func271 O ntmps271 results271 O ?_
 exact p9
def round_MinInt (b:Int) (h1:2<=b) (h2:b<=31):
    Pur cfg 263 [vI b] (vI (-gC b)):=by
 refine zR func263 O ntmps263 results263 O fun z hz=>ml O O<|zG<|mo O O<|qD O uB (zWu _) (vlr O)<|kO O<|Y<|zK O ?_ ?_<;>intro c1<;>try simp only [sx] at c1
 ·exact absurd c1 zA
 ·refine zI<|mo O O<|zW O (yB O O O ⟨zA,zA⟩)<|zW O (zAo O us3 ik185 O)<|zW O (det_shl O O O (by rw [zEt zA];omega))<|zW O (zHz O O)<|mm O<|zF<|zS O ?_
  exact ag vI (min_eq h1 h2)
def round_MaxInt (b:Int) (h1:2<=b) (h2:b<=31):
    Pur cfg 264 [vI b] (vI (gC b-1)):=by
 refine zR func264 O ntmps264 results264 O fun z hz=>ml O O<|zG<|mo O O<|qD O uB (zWu _) (vlr O)<|kO O<|Y<|zK O ?_ ?_<;>intro c1<;>try simp only [sx] at c1
 ·exact absurd c1 zA
 ·refine zI<|mo O O<|zW O (yB O O O ⟨zA,zA⟩)<|zW O (zAo O us3 ik185 O)<|zW O (det_shl O O O (by rw [zEt zA];omega))<|zW O (zOu O O O)<|mm O<|zF<|zS O ?_
  exact ag vI (max_eq h1 h2)
def fixed_Valid (t:Ty) (v:Vl):
    Pur cfg 245 [vTy t,gZ v] (vB (fP t&&(decide (v.D=1)&&decide (-gC t.Bits<=v.N)&&decide (v.N<gC t.Bits)))):=by
 refine zR func245 O ntmps245 results245 O fun z hz=>G O<|mj O fun b1=>mj O fun b2=>mm O<|zG<|qV 25 mixed uB O O<|mr O (zU O yE O (J 1 O) O)<|mr O (qG O uB (zEb _) (vlr O))<|mr O (yN O O O)<|mr O (zO O O)<|qM [] O O O O gv1 T (fun g1_3=>zE O zAu O) O<|qM [(9,_)] O O O O gv1 ⟨O,O,T⟩ (fun g1_3=>zD O U O (J 0 O) O) O<|qM [(10,_)] O O O O gv1 ⟨O,O,T⟩ (fun g1_3=>yN O O O) O<|mr O (wA O O O (fun h=>h) O)<|mr O (zO O O)<|qM [] O O O O gv1 T (fun g1_8=>zE O zAg O) O<|qM [(14,_)] O O O O gv1 ⟨O,O,T⟩ (fun g1_8=>zD O U O (J 0 O) O) O<|qM [] O O O O gv1 T (fun g1_8=>zE O zMb O) O<|qM [(16,_)] O O O O gv1 ⟨O,O,T⟩ (fun g1_8=>zD O one3 O (J 1 O) O) O<|qM [(17,_)] O O O O gv1 ⟨O,O,T⟩ (fun g1_8=>qG O uB (round_MinInt _ (fixB (fxa g1_8)).1 (fixB (fxa g1_8)).2) (vlr O)) O<|qM [(15,_),(18,_)] O O O O gv1 ⟨O,O,O,O,T⟩ (fun g1_8=>wH O O O) O<|mr O (wA O O O (fun h=>h) O)<|mr O (zO O O)<|qM [] O O O O gv1 T (fun g1_16=>zE O zAg O) O<|qM [(22,_)] O O O O gv1 ⟨O,O,T⟩ (fun g1_16=>zD O U O (J 0 O) O) O<|qM [] O O O O gv1 T (fun g1_16=>zE O zMb O) O<|qM [(24,_)] O O O O gv1 ⟨O,O,T⟩ (fun g1_16=>zD O one3 O (J 1 O) O) O<|qM [(25,_)] O O O O gv1 ⟨O,O,T⟩ (fun g1_16=>qG O uB (round_MaxInt _ (fixB (fxb g1_16)).1 (fixB (fxb g1_16)).2) (vlr O)) O<|qM [(23,_),(26,_)] O O O O gv1 ⟨O,O,O,O,T⟩ (fun g1_16=>wS O O O) O<|mr O (wA O O O (fun h=>h) O)<|mr O (qY O O)<|yQ<|Y<|zF<|zS O ?_
 exact ag vB (fixV t v)
def value_whole (n:Int):
    Pur cfg 246 [vI n] (vB (dX n)):=by
 refine zR func246 O ntmps246 results246 O ?_
 exact p9
def frac_inRange (n:Int):
    Pur cfg 265 [vI n] (vB (dX n)):=by
 refine zR func265 O ntmps265 results265 O ?_
 exact p9
def frac_magnitude (n:Int) (hn: -9223372036854775808<=n) (hm:n<=9223372036854775807):
    Pur cfg 267 [vI n] (nC n.natAbs):=by
 refine zR func267 O ntmps267 results267 O fun z hz=>ml O O<|zG<|mo O O<|yI O<|Y<|zK O ?_ ?_<;>intro c1<;>try simp only [sx] at c1
 ·refine mo O O<|zW O (zAo O us2 ik154 O)<|zW O (zHz O O)<|mm O<|zF<|zS O ?_
  exact ag nC (mag_neg c1 hn)
 ·refine zI<|mo O O<|zW O (zAo O us2 ik154 O)<|mm O<|zF<|zS O ?_
  exact ag nC (mag_pos zA hm)
def frac_gcd (a b:Nat):
    Pur cfg 266 [nC a,nC b] (nC (Nat.gcd a b)):=by
 refine zR func266 O ntmps266 results266 O ?_
 exact s9
def base_gcd (a b:Nat):
    Pur cfg 149 [vI a,vI b] (vI (Nat.gcd a b)):=by
 refine zR func149 O ntmps149 results149 O fun z hz=>ml O O<|zG<|zQ<|zY ⟨[(0,.c _),(1,.c _)],[]⟩ (Weak.mk [] ⟨zJ,zJ,T⟩ O)<|qL 2 0 O O (Nat×Nat) (fun ⟨x,y⟩=>[(0,vI x),(1,vI y)]) (fun ⟨x,y⟩=>[]) (fun ⟨x,y⟩=>Nat.gcd a b=Nat.gcd x y) (fun ⟨x,y⟩=>y) ⟨⟨a,b⟩,O,Weak.mk [] ⟨zJ,zJ,T⟩ O⟩ ?_
 rintro ⟨x,y⟩ hg
 refine zG<|mo O O<|yL O<|Y<|zK O ?_ ?_<;>intro c1<;>try simp only [sx] at c1
 ·refine zI<|zQ<|qV 6 mixed uB O O<|mr O (zO O O)<|mr O (zO O O)<|mr O (zO O O)<|mr O (zOv O O O zA)<|mr O (qY O O)<|mr O (qY O O)<|yQ<|Y ?_
  refine ⟨⟨y,x%y⟩,(by rw [hg];exact gcd_step zA),(iO _ zA),Weak.mk [] ⟨zJ,VLe.of_eq (ag vI (Int.ofNat_tmod x y).symm),T⟩ O⟩
 ·refine qO<|mo O O<|mm O<|zF<|zS O ?_
  exact ag vI (by rw [hg,show y=0 by omega,kr])
def frac_Valid (v:Vl):
    Pur cfg 247 [gZ v] (vB (decide (1<=v.D)&&decide (v.D<=2147483647)&&dX v.N&&decide (Int.gcd v.N v.D=1))):=by
 refine zR func247 O ntmps247 results247 O fun z hz=>G O<|mj O fun b1=>mm O<|zG<|qV 24 mixed uB O O<|mr O (zE O zAu O)<|mr O (zD O U O (J 0 O) O)<|mr O (wH O O O)<|mr O (zO O O)<|qM [] O O O O gv1 T (fun g1_3=>zE O zAu O) O<|qM [(7,_)] O O O O gv1 ⟨O,O,T⟩ (fun g1_3=>zD O U O (J 0 O) O) O<|qM [(8,_)] O O O O gv1 ⟨O,O,T⟩ (fun g1_3=>wS O O O) O<|mr O (wA O O O (fun h=>h) O)<|mr O (zO O O)<|qM [] O O O O gv1 T (fun g1_8=>zE O zAg O) O<|qM [(12,_)] O O O O gv1 ⟨O,O,T⟩ (fun g1_8=>zD O U O (J 0 O) O) O<|qM [(13,_)] O O O O gv1 ⟨O,O,T⟩ (fun g1_8=>qG O uB (frac_inRange _) (vlr O)) O<|mr O (wA O O O (fun h=>h) O)<|mr O (zO O O)<|qM [] O O O O gv1 T (fun g1_13=>zE O zAg O) O<|qM [(17,_)] O O O O gv1 ⟨O,O,T⟩ (fun g1_13=>zD O U O (J 0 O) O) O<|qM [(18,_)] O O O O gv1 ⟨O,O,T⟩ (fun g1_13=>qG O uB (frac_magnitude v.N (frV g1_13).2.2.1 (frV g1_13).2.2.2) (vlr O)) O<|qM [] O O O O gv1 T (fun g1_13=>zE O zAu O) O<|qM [(20,_)] O O O O gv1 ⟨O,O,T⟩ (fun g1_13=>zD O U O (J 0 O) O) O<|qM [(21,_)] O O O O gv1 ⟨O,O,T⟩ (fun g1_13=>zAo O us2 ik154 O) O<|qM [(19,_),(22,_)] O O O O gv1 ⟨O,O,O,O,T⟩ (fun g1_13=>qG O uB (show Pur cfg 266 [nC v.N.natAbs,nC (IntKind.u64.wrap v.D)] (nC (Nat.gcd v.N.natAbs v.D.natAbs)) from by rw [u64_D (frV g1_13).1 (frV g1_13).2.1];exact frac_gcd _ _) (vlr O)) O<|qM [(23,_)] O O O O gv1 ⟨O,O,T⟩ (fun g1_13=>yN O O O) O<|mr O (wA O O O (fun h=>h) O)<|mr O (qY O O)<|yQ<|Y<|zF<|zS O ?_
 exact ag vB (by rw [show (decide (((Nat.gcd v.N.natAbs v.D.natAbs:Nat):Int)=1))=decide (Int.gcd v.N v.D=1) from da.2 (by unfold Int.gcd;omega)])
def value_Valid (t:Ty) (v:Vl):
    Pur cfg 213 [vTy t,gZ v] (vB (dD t&&bQ t v)):=by
 refine zR func213 O ntmps213 results213 O fun z hz=>G O<|mj O fun b1=>mj O fun b2=>mm O<|zG<|G O<|zM yE (J 1 O) O<|qD O uB (zDw _) (vlr O)<|yL O<|Y<|zK O ?_ ?_<;>intro c1<;>try simp only [sx] at c1
 ·have ht:dD t=false:=tyErr_ne c1
  refine ml O O<|zF<|zS O ?_
  rw [ht];rfl
 ·have ht:dD t=true:=zMm c1
  refine zI<|zG<|G O<|zC O zEc<|zH one3 (J 1 O) O<|Y<|zQ<|G O<|yF O<|mm O<|qK O (fun c2=>?_) (fun c2=>?_)
  ·refine G O<|zM yE (J 1 O) O<|zM yP (J 0 O) O<|qD O uB (fixed_Valid _ _) (vlr O)<|mm O<|zF<|zS O ?_
   exact ag vB (by rw [ht,bQ,c2,←zAw c2,ht];rfl)
  ·refine G O<|yF O<|mm O<|qK O (fun c3=>?_) (fun c3=>?_)
   ·refine G O<|zC O zAu<|zH U (J 0 O) O<|yF O<|A O<|rL0 O (fun g7_3=>zE O zAg O) O<|rL1 21 O (fun g7_3=>zD O U O (J 0 O) O) O<|rL1 22 O (fun g7_3=>qG O uB (value_whole _) (vlr O)) O<|yT O (fun h=>h)<|mm O<|zF<|zS O ?_
    exact ag vB (by rw [ht,bQ,qX c2,c3];rfl)
   ·refine zI<|G O<|zM yP (J 0 O) O<|qD O uB (frac_Valid _) (vlr O)<|mm O<|zF<|zS O ?_
    exact ag vB (by rw [ht,bQ,qX c2,qX c3];rfl)
def zHr (t:Ty) (v:Vl) (ht:dD t=true):
    Pur cfg 126 [vTy t,gZ v] (vB (bQ t v)):=by
 refine zR func126 O ntmps126 results126 O fun z hz=>G O<|mj O fun b1=>mj O fun b2=>mm O<|zG<|G O<|zC O zEc<|zH one3 (J 1 O) O<|yF O<|Y<|qK O (fun c1=>?_) (fun c1=>?_)
 ·obtain ⟨b1,b2⟩:=fixB (by rw [←zAw c1];exact ht)
  refine G O<|zC O zMb<|zH one3 (J 1 O) O<|zW O (yB O O O ⟨zA,zA⟩)<|zW O (det_shl O O O zA)<|mm O<|G O<|zC O zAu<|zH U (J 0 O) O<|yF O<|A O<|rL0 O (fun g3_3=>zE O zAg O) O<|rL1 17 O (fun g3_3=>zD O U O (J 0 O) O) O<|rL0 O (fun g3_3=>zO O O) O<|rL1 19 O (fun g3_3=>zHz O O) O<|rLz [(18,_),(20,_)] O gv1 ⟨O,O,O,O,T⟩ (fun g3_3=>wH O O O) O<|yT O (fun h=>h)<|A O<|rL0 O (fun g3_10=>zE O zAg O) O<|rL1 24 O (fun g3_10=>zD O U O (J 0 O) O) O<|rL0 O (fun g3_10=>zO O O) O<|rLz [(25,_),(26,_)] O gv1 ⟨O,O,O,O,T⟩ (fun g3_10=>zBb O O O) O<|yT O (fun h=>h)<|mm O<|zF<|zS O ?_
  exact ag vB (valfix c1 b1 b2)
 ·refine zI<|zG<|G O<|zC O zAg<|zH U (J 0 O) O<|zW O (yD O O O)<|A O<|rL0 O (fun g4_3=>zE O zAg O) O<|rL1 33 O (fun g4_3=>zD O U O (J 0 O) O) O<|rL1 34 O (fun g4_3=>zBb O O O) O<|r_or O (fun h=>(lzf h))<|A O<|rL0 O (fun g4_8=>zE O zAu O) O<|rL1 38 O (fun g4_8=>zD O U O (J 0 O) O) O<|rL1 39 O (fun g4_8=>zBb O O O) O<|r_or O (fun h=>(lzf h))<|A O<|rL0 O (fun g4_13=>zE O zAu O) O<|rL1 43 O (fun g4_13=>zD O U O (J 0 O) O) O<|rL1 44 O (fun g4_13=>yD O O O) O<|r_or O (fun h=>(lzf h))<|Y<|zK O (fun c2=>?_) (fun c2=>?_)
  ·refine ml O O<|zF<|zS O ?_
   exact ag vB (val_out c1 c2).symm
  ·obtain ⟨hN1,hN2,hD1,hD2⟩:=val_in c2
   refine zI<|zG<|G O<|zC O zEc<|zH one3 (J 1 O) O<|yF O<|Y<|qK O (fun c3=>?_) (fun c3=>?_)
   ·refine G O<|zC O zAu<|zH U (J 0 O) O<|yF O<|mm O<|zF<|zS O ?_
    exact ag vB (by rw [bQ,qX c1,c3];simp [dX,hN1,hN2])
   ·refine zI<|G O<|zC O zAg<|zH U (J 0 O) O<|zC O zAg<|zH U (J 0 O) O<|zW O (zHz O O)<|zW O (zKc O O O)<|zC O zAu<|zH U (J 0 O) O<|qD O uB (show Pur cfg 149 [vI (max v.N (IntKind.i64.wrap (-v.N))),vI v.D] (vI (Int.gcd v.N v.D)) from by rw [max_abs hN1 hN2,show v.D=(v.D.natAbs:Int) by omega];exact base_gcd _ _) (vlr O)<|yF O<|mm O<|zF<|zS O ?_
    exact ag vB (by rw [bQ,qX c1,qX c3];simp [dX,hN1,hN2,hD1,hD2];omega)
def ref04_Zero (t:Ty):
    Pur cfg 64 [vTy t] (gZ (xY t)):=by
 refine zR func64 O ntmps64 results64 O fun z hz=>G O<|mj O fun b1=>zV O O (qW O W) ?_
 rintro _ _ ⟨b2,rfl,rfl⟩
 refine Y<|zG<|G O<|zM yE (J 1 O) O<|qD O uB (zEf _) (vlr O)<|kO O<|Y<|zK O ?_ ?_<;>intro c1<;>try simp only [sx] at c1
 ·refine G O<|qU O W pl46<|rStR 0 L O<|Y<|zF<|fin1 (zP yP O (J 0 O) O) ?_
  rw [xY,c1];rfl
 ·refine zI<|G O<|qU O W pl46<|rStR 0 L O<|Y<|zF<|fin1 (zP yP O (J 0 O) O) ?_
  rw [xY,c1];rfl
end Go.W
end
section
set_option maxRecDepth 10000
namespace Go.W
open Go Go.Eng Go.Proofs Go.L41 Go.Br Tryz
attribute [local irreducible] AWP RWP TD fK
def yY:nE prog 54=some 13:=by kernel_rfl
def el52:fB prog 52=some (54,13,160):=by kernel_rfl
def el90:fB prog 90=some (51,2,32):=by kernel_rfl
def kP:bO prog 54 0=some (0,3):=by kernel_rfl
def zGz:bO prog 54 1=some (1,9):=by kernel_rfl
def zLz:bO prog 54 2=some (2,46):=by kernel_rfl
def zFk:bO prog 54 3=some (4,48):=by kernel_rfl
def zEk:bO prog 54 4=some (9,51):=by kernel_rfl
def wK:bO prog 54 5=some (11,44):=by kernel_rfl
def wD:bO prog 54 6=some (12,52):=by kernel_rfl
def zFw:bO prog 92 0=some (0,51):=by kernel_rfl
def zFi:bO prog 92 1=some (2,9):=by kernel_rfl
def zBa:bO prog 92 2=some (3,90):=by kernel_rfl
def fl46:flatK prog 46=some [.int,.int]:=by kernel_rfl
def wT:mM prog 44=true:=by kernel_rfl
def zAs:mM prog 52=true:=by kernel_rfl
def zFf:mM prog 90=true:=by kernel_rfl
def sz54:(prog.info? 54).map (·.size)=some 13:=by kernel_rfl
def sz92:(prog.info? 92).map (·.size)=some 4:=by kernel_rfl
def un4:prog.underlying 4=some .bool:=by kernel_rfl
def zr54:fL prog 54=some [(Value.int IntKind.i64 0),(Value.string (ByteArray.mk #[])),(Value.int IntKind.i64 0),(Value.int IntKind.i64 0),(Value.int IntKind.i64 0),(Value.int IntKind.i64 0),(Value.int IntKind.i64 0),(Value.int IntKind.i64 0),(Value.int IntKind.i64 0),(Value.int IntKind.i64 0),(Value.slice none 0 0),(Value.slice none 0 0),(Value.slice none 0 0)]:=by kernel_rfl
def zr92:fL prog 92=some [(Value.int IntKind.i64 0),(Value.slice none 0 0),(Value.string (ByteArray.mk #[])),(Value.slice none 0 0)]:=by kernel_rfl
def expr_operands (op:Int):
    Pur cfg 242 [vI op] (vI (bR op)):=by
 refine zR func242 O ntmps242 results242 O ?_
 exact n5
def wI (e:Ex):
    Pur cfg 136 [vE e] (vB (bJ e)):=by
 refine zR func136 O ntmps136 results136 O fun z hz=>G O<|mj O fun b1=>mm O<|G O<|zC O kP<|zH one3 (J 0 O) O<|zW O (wS O O O)<|A O<|rL0 O (fun g1_3=>zE O kP O) O<|rL1 7 O (fun g1_3=>zD O one3 O (J 0 O) O) O<|rL1 8 O (fun g1_3=>wS O O O) O<|yT O (fun h=>h)<|mm O<|zF<|zS O ?_
 exact O
def zTg (op:Int):
    Pur cfg 218 [vI op] (vI (bR op)):=by
 refine zR func218 O ntmps218 results218 O ?_
 exact n5
def kW (e:Ex):
    Pur cfg 114 [vE e] (vB (bJ e)):=by
 refine zR func114 O ntmps114 results114 O fun z hz=>G O<|mj O fun b1=>mm O<|G O<|zC O kP<|zH one3 (J 0 O) O<|zW O (wH O O O)<|A O<|rL0 O (fun g1_3=>zE O kP O) O<|rL1 7 O (fun g1_3=>zD O one3 O (J 0 O) O) O<|rL1 8 O (fun g1_3=>wS O O O) O<|yT O (fun h=>h)<|mm O<|zF<|zS O ?_
 exact O
def zKq (op i:Int):
    Pur cfg 244 [vI op,vI i] (vB (gD op i)):=by
 refine zR func244 O ntmps244 results244 O fun z hz=>ml O O<|zG<|ml O O<|zQ<|zG<|G O<|yF O<|mm O<|qK O (fun c1=>?_) (fun c1=>?_)
 ·exact v11
 ·refine G O<|yF O<|mm O<|qK O (fun c2=>?_) (fun c2=>?_)
  ·exact v11
  ·refine zT O<|yF O<|mm O<|qK O (fun c3=>?_) (fun c3=>?_)
   ·refine ml O O<|zF<|zS O ?_
    exact r8
   ·refine zI<|mo O O<|yF O<|A O<|rL0 O (fun g6_2=>zO O O) O<|rL1 13 O (fun g6_2=>yN O O O) O<|yT O (fun h=>h)<|mm O<|zF<|zS O ?_
    exact r8
def ref14_wants (op i:Int):
    Pur cfg 219 [vI op,vI i] (vB (gD op i)):=by
 refine zR func219 O ntmps219 results219 O fun z hz=>ml O O<|mo O O<|yF O<|A O<|rL0 O (fun g1_2=>zO O O) O<|rL1 8 O (fun g1_2=>yN O O O) O<|yT O (fun h=>h)<|A O<|rL0 O (fun g1_6=>zO O O) O<|rL1 12 O (fun g1_6=>yN O O O) O<|r_or O (fun h=>(lzf h))<|A O<|rL0 O (fun g1_10=>zO O O) O<|rL1 16 O (fun g1_10=>yN O O O) O<|r_or O (fun h=>(lzf h))<|A O<|rL0 O (fun g1_14=>zO O O) O<|rL1 20 O (fun g1_14=>yN O O O) O<|r_or O (fun h=>(lzf h))<|mm O<|zF<|zS O ?_
 exact O
def zYt (l:Lf):
    Pur cfg 237 [dK l] (vB (rL l)):=by
 refine zR func237 O ntmps237 results237 O fun z hz=>G O<|mj O fun b1=>mm O<|G O<|zC O zFl<|zH U (J 0 O) O<|yF O<|A O<|rL0 O (fun g1_3=>zE O wM O) O<|rL1 7 O (fun g1_3=>zD O zBs O (J 0 O) O) O<|rL1 8 O (fun g1_3=>yK O N O) O<|rL1 9 O (fun g1_3=>yN O O O) O<|yT O (fun h=>h)<|mm O<|zF<|zS O ?_
 exact O
def zYs (x:Ix):
    Pur cfg 240 [lT x] (vB (mK x)):=by
 refine zR func240 O ntmps240 results240 O fun z hz=>G O<|mj O fun b1=>mm O<|zG<|G O<|zC O zFi<|zH one9 (J 0 O) O<|wP O<|Y<|zK O ?_ ?_<;>intro c1<;>try simp only [sx] at c1
 ·refine G O<|zC O zBa<|zH zFf (J 0 O) O<|qB O el90<|yF O<|mm O<|zF<|zS O ?_
  rw [mK,wU c1];rfl
 ·refine zI<|G O<|zC O zFw<|zM kQ (J 0 O) O<|qD O uB (zYt x.Lin) (vlr O)<|mm O<|zF<|zS O ?_
  rw [mK,qX c1];rfl
def expr_syntax_1 (x:Ix):
    Pur cfg 239 [lT x] (vB (!mK x)):=by
 refine zR func239 O ntmps239 results239 O fun z hz=>G O<|mj O fun b1=>mm O<|G O<|zM zRn (J 0 O) O<|qD O uB (zYs x) (vlr O)<|kO O<|mm O<|zF<|zS O ?_
 exact O
def expr_names_1 (x:Ix):
    Pur cfg 241 [lT x] (vB (!vN x)):=by
 refine zR func241 O ntmps241 results241 O fun z hz=>G O<|mj O fun b1=>mm O<|G O<|zC O zFi<|zH one9 (J 0 O) O<|zW O (zBq O O O)<|A O<|rL0 O (fun g1_3=>zE O zFi O) O<|rL1 7 O (fun g1_3=>zD O one9 O (J 0 O) O) O<|rL1 8 O (fun g1_3=>qG O uB (zBi _) (vlr O)) O<|rL1 9 O (fun g1_3=>kG O O) O<|yT O (fun h=>h)<|mm O<|zF<|zS O ?_
 exact ag vB (by unfold vN;simp)
def expr_rank_1 (x:Ix):
    Pur cfg 243 [lT x] (vB (!tS x)):=by
 refine zR func243 O ntmps243 results243 O fun z hz=>G O<|mj O fun b1=>mm O<|G O<|zC O zBa<|zH zFf (J 0 O) O<|qB O el90<|zW O (yD O O O)<|mm O<|zF<|zS O ?_
 exact ag vB (by unfold tS;simp)
def expr_syntax (e:Ex) (he:e.wt<=6000000000000):
    Pur cfg 209 [vE e] (vB (lK e)):=by
 refine zR func209 O ntmps209 results209 O ?_
 intro z hz
 obtain ⟨hL,hI,hA⟩:=e.parts he
 refine G O<|mj O fun b1=>mm O<|zG<|qV 13 mixed uB O O<|mr O (zE O kP O)<|mr O (zD O one3 O (J 0 O) O)<|mr O (yN O O O)<|mr O (zE O kP O)<|mr O (zD O one3 O (J 0 O) O)<|mr O (yN O O O)<|mr O (zO O O)<|qM [] O O O O gv1 T (fun g1_6=>zE O kP O) O<|qM [(14,_)] O O O O gv1 ⟨O,O,T⟩ (fun g1_6=>zD O one3 O (J 0 O) O) O<|qM [(15,_)] O O O O gv1 ⟨O,O,T⟩ (fun g1_6=>yN O O O) O<|mr O (zAr O O O O (fun h=>(lzf h)))<|mr O (qY O O)<|mr O (qY O O)<|yQ<|Y<|zG<|qV 8 mixed uB O O<|mr O (zE O kP O)<|mr O (zD O one3 O (J 0 O) O)<|mr O (yN O O O)<|mr O (zE O kP O)<|mr O (zD O one3 O (J 0 O) O)<|mr O (yN O O O)<|mr O (qY O O)<|mr O (qY O O)<|yQ<|Y<|zG<|zQ<|G O<|zC O kP<|zH one3 (J 0 O) O<|yI O<|A O<|rL0 O (fun g3_3=>zE O kP O) O<|rL1 29 O (fun g3_3=>zD O one3 O (J 0 O) O) O<|rL1 30 O (fun g3_3=>yD O O O) O<|r_or O (fun h=>(lzf h))<|mm O<|zK O (fun c1=>?_) (fun c1=>?_)
 ·refine ml O O<|zF<|zS O ?_
  exact ag vB (by simp only [lK,c1,bf,ca,aL,bv,aZ,co])
 ·refine mo O O<|kO O<|A O<|rL0 O (fun g5_2=>zE O zLz O) O<|rL1 37 O (fun g5_2=>zU O yP O (J 0 O) O) O<|rL0 O (fun g5_2=>zDc O W pl46 O) O<|rLz [(38,_),(39,_)] O gv1 ⟨O,O,O,O,T⟩ (fun g5_2=>zAb O fl46 O O O) O<|yT O (fun h=>h)<|mm O<|zK O (fun c2=>?_) (fun c2=>?_)
  ·have c2:(!decide (e.Op=1)&& !xP e.Val)=true:=c2
   refine ml O O<|zF<|zS O ?_
   exact ag vB (by simp only [lK,c2,bf,ca,aL,bv,aZ,co])
  ·have c2:(!decide (e.Op=1)&& !xP e.Val)=false:=c2
   refine mo O O<|kO O<|A O<|rL0 O (fun g7_2=>zE O zFk O) O<|rL1 46 O (fun g7_2=>zU O yE O (J 0 O) O) O<|rL0 O (fun g7_2=>zDc O zr48 pl48 O) O<|rLz [(47,_),(48,_)] O gv1 ⟨O,O,O,O,T⟩ (fun g7_2=>zAb O fl48 O O O) O<|yT O (fun h=>h)<|mm O<|zK O (fun c3=>?_) (fun c3=>?_)
   ·have c3:(!(decide (e.Op=1)||decide (e.Op=12))&& !ty0 e.Ty)=true:=c3
    refine ml O O<|zF<|zS O ?_
    exact ag vB (by simp only [lK,c3,bf,ca,aL,bv,aZ,co])
   ·have c3:(!(decide (e.Op=1)||decide (e.Op=12))&& !ty0 e.Ty)=false:=c3
    refine mo O O<|kO O<|A O<|rL0 O (fun g9_2=>zE O zEk O) O<|rL1 55 O (fun g9_2=>zU O kQ O (J 0 O) O) O<|rL1 56 O (fun g9_2=>qG O uB (zYt e.Lin) (vlr O)) O<|rL1 57 O (fun g9_2=>kG O O) O<|yT O (fun h=>h)<|mm O<|zK O (fun c4=>?_) (fun c4=>?_)
    ·refine ml O O<|zF<|zS O ?_
     exact ag vB (by simp only [lK,c4,bf,ca,aL,bv,aZ,co])
    ·refine mo O O<|kO O<|A O<|rL0 O (fun g11_2=>zE O zGz O) O<|rL1 64 O (fun g11_2=>zD O one9 O (J 0 O) O) O<|rL1 65 O (fun g11_2=>zBq O O O) O<|rL1 66 O (fun g11_2=>zO O O) O<|rLz [] O gv2 T (fun g11_6=>zE O wK O) O<|rLz [(68,_)] O gv2 ⟨O,O,T⟩ (fun g11_6=>zD O wT O (J 0 O) O) O<|rLz [(69,_)] O gv2 ⟨O,O,T⟩ (fun g11_6=>yK O v O) O<|rLz [(70,_)] O gv2 ⟨O,O,T⟩ (fun g11_6=>yD O O O) O<|rL1 67 O (fun g11_2=>zAr O O O O (fun h=>kD uA (lzf h))) O<|yT O (fun h=>h)<|mm O<|zK O (fun c5=>?_) (fun c5=>?_)
     ·refine ml O O<|zF<|zS O ?_
      exact ag vB (by simp only [lK,c5,bf,ca,aL,bv,aZ,co])
     ·refine zI<|G O<|zC O wK<|zH wT (J 0 O) O<|qD O uB (zBy e.Idx _ (fun x=> !mK x) hI (fun x _=>FnPur.of_pur (first:=[]) (cap:=[]) uB (expr_syntax_1 x))) (vlr O)<|kO O<|mm O<|zF<|zS O ?_
      exact ag vB (by rw [zLo];simp only [lK,c1,c2,c3,c4,c5,bf,ca,aL,bv,aZ,co])
def expr_names (e:Ex) (he:e.wt<=6000000000000):
    Pur cfg 210 [vE e] (vB (nO e)):=by
 refine zR func210 O ntmps210 results210 O ?_
 intro z hz
 obtain ⟨hL,hI,hA⟩:=e.parts he
 refine G O<|mj O fun b1=>mm O<|zG<|G O<|zC O kP<|zH one3 (J 0 O) O<|yF O<|A O<|rL0 O (fun g1_3=>zE O zGz O) O<|rL1 7 O (fun g1_3=>zD O one9 O (J 0 O) O) O<|rL1 8 O (fun g1_3=>qG O uB (zBi _) (vlr O)) O<|rL1 9 O (fun g1_3=>kG O O) O<|yT O (fun h=>h)<|Y<|zK O (fun c1=>?_) (fun c1=>?_)
 ·refine ml O O<|zF<|zS O ?_
  exact ag vB (by simp only [nO,c1,bf,aZ])
 ·refine zI<|G O<|zC O wK<|zH wT (J 0 O) O<|qD O uB (zBy e.Idx _ (fun x=> !vN x) hI (fun x _=>FnPur.of_pur (first:=[]) (cap:=[]) uB (expr_names_1 x))) (vlr O)<|kO O<|mm O<|zF<|zS O ?_
  exact ag vB (by rw [zLo];simp only [nO,c1,ca,aL])
def expr_rank (e:Ex) (he:e.wt<=6000000000000):
    Pur cfg 211 [vE e] (vB (nT e)):=by
 refine zR func211 O ntmps211 results211 O ?_
 intro z hz
 obtain ⟨hL,hI,hA⟩:=e.parts he
 refine G O<|mj O fun b1=>mm O<|zG<|zG<|qV 13 mixed uB O O<|mr O (zE O wD O)<|mr O (zD O zAs O (J 0 O) O)<|mr O (yK O el52 O)<|mr O (zE O kP O)<|mr O (zD O one3 O (J 0 O) O)<|mr O (qG O uB (expr_operands _) (vlr O))<|mr O (kB O O O)<|mr O (zO O O)<|qM [] O O O O gv1 T (fun g1_7=>zE O wK O) O<|qM [(11,_)] O O O O gv1 ⟨O,O,T⟩ (fun g1_7=>zD O wT O (J 0 O) O) O<|qM [(12,_)] O O O O gv1 ⟨O,O,T⟩ (fun g1_7=>yK O v O) O<|qM [(13,_)] O O O O gv1 ⟨O,O,T⟩ (fun g1_7=>yD O O O) O<|mr O (zAr O O O O (fun h=>(lzf h)))<|yQ<|Y<|zK O (fun c1=>?_) (fun c1=>?_)
 ·refine ml O O<|zF<|zS O ?_
  exact ag vB (by simp only [nT,c1,bf,aZ])
 ·refine zI<|G O<|zC O wK<|zH wT (J 0 O) O<|qD O uB (zBy e.Idx _ (fun x=> !tS x) hI (fun x _=>FnPur.of_pur (first:=[]) (cap:=[]) uB (expr_rank_1 x))) (vlr O)<|kO O<|mm O<|zF<|zS O ?_
  exact ag vB (by rw [zLo];simp only [nT,c1,ca,aL])
def expr_types (e:Ex) (he:e.wt<=6000000000000):
    Pur cfg 212 [vE e] (vB (lF e)):=by
 refine zR func212 O ntmps212 results212 O ?_
 intro z hz
 obtain ⟨hL,hI,hA⟩:=e.parts he
 refine G O<|mj O fun b1=>mm O<|zG<|G O<|zC O kP<|zH one3 (J 0 O) O<|yF O<|A O<|rL0 O (fun g1_3=>zE O kP O) O<|rL1 9 O (fun g1_3=>zD O one3 O (J 0 O) O) O<|rL1 10 O (fun g1_3=>yN O O O) O<|r_or O (fun h=>(lzf h))<|A O<|rL0 O (fun g1_8=>zE O zFk O) O<|rL1 14 O (fun g1_8=>zU O yE O (J 0 O) O) O<|rL1 15 O (fun g1_8=>qG O uB (zDw _) (vlr O)) O<|rL1 16 O (fun g1_8=>kB O O O) O<|yT O (fun h=>h)<|Y<|zK O (fun c1=>?_) (fun c1=>?_)
 ·rw [tyErr_dec] at c1
  refine ml O O<|zF<|zS O ?_
  exact ag vB (by simp only [lF,c1,bf,aZ])
 ·rw [tyErr_dec] at c1
  refine zI<|zG<|G O<|zC O wD<|zH zAs (J 0 O) O<|qB O el52<|mm O<|zQ<|zY ⟨[(22,.c _),(1,.c _),(20,.c _),(21,.c _)],[_]⟩ (Weak.mk [true] ⟨zJ,zJ,zJ,zJ,T⟩ O)<|qL 1 0 O O (Nat) (fun k=>[(22,vI k)]) (fun k=>[]) (fun k=>k<=e.Args.length/\(gL e.Op 0 e.Args=gL e.Op k (e.Args.drop k))) (fun k=>e.Args.length-k) ⟨0,⟨zA,O⟩,Weak.mk [true] ⟨zJ,zJ,zJ,zJ,T⟩ O⟩ ?_
  rintro k ⟨hk,hp⟩
  refine G O<|yI O<|Y<|zG<|zK O ?_ ?_<;>intro c2<;>try simp only [sx] at c2
  ·obtain ⟨a,ha⟩:=qZ e.Args k zA
   refine zI<|zG<|zQ<|mo O O<|qC O el52 zA (zCy uA)<|zM yY zZ O<|zV O O (qH lx O zr54 O) ?_
   rintro _ _ ⟨b2,rfl,rfl⟩
   refine A O<|rStR 0 sz54 O<|Y<|zG<|qV 7 mixed uB O O<|mr O (zU O yY O (J 0 O) O)<|mr O (qG O uB (wI a) (vlr O))<|mr O (zE O kP O)<|mr O (zD O one3 O (J 1 O) O)<|mr O (zO O O)<|mr O (qG O uB (zKq _ _) (vlr O))<|mr O (zQz O un4 O O)<|yQ<|Y<|zK O (fun c3=>?_) (fun c3=>?_)
   ·exact v36
   ·refine zI<|zT O<|qI O ⟨zA,zA⟩<|A O<|Y ?_
    refine ⟨k+1,⟨zA,(by rw [hp,qQ ha,gL,show (bJ a==gD e.Op k)=true by simpa using c3,aL];rfl)⟩,zA,Weak.mk [false,true] ⟨zJ,zJ,zJ,zJ,T⟩ O⟩
  ·refine qO<|ml O O<|zF<|zS O ?_
   exact ag vB (by simp only [lF,c1,ca,aL];rw [hp,kL zA];rfl)
def ref14_typed (e:Ex) (he:e.wt<=6000000000000):
    Pur cfg 186 [vE e] (vB (lF e)):=by
 refine zR func186 O ntmps186 results186 O ?_
 intro z hz
 obtain ⟨hL,hI,hA⟩:=e.parts he
 refine G O<|mj O fun b1=>mm O<|zG<|G O<|zC O kP<|zH one3 (J 0 O) O<|yF O<|A O<|rL0 O (fun g1_3=>zE O kP O) O<|rL1 8 O (fun g1_3=>zD O one3 O (J 0 O) O) O<|rL1 9 O (fun g1_3=>yN O O O) O<|r_or O (fun h=>(lzf h))<|A O<|rL0 O (fun g1_8=>zE O zFk O) O<|rL1 13 O (fun g1_8=>zU O yE O (J 0 O) O) O<|rL1 14 O (fun g1_8=>qG O uB (zEf _) (vlr O)) O<|rL1 15 O (fun g1_8=>kG O O) O<|yT O (fun h=>h)<|Y<|zK O (fun c1=>?_) (fun c1=>?_)
 ·refine ml O O<|zF<|zS O ?_
  exact ag vB (by simp only [lF,c1,bf,aZ])
 ·refine zI<|zG<|ml O O<|zQ<|zY ⟨[(3,.c _),(1,.c _)],[_]⟩ (Weak.mk [true] ⟨zJ,zJ,T⟩ O)<|qL 1 0 O O (Nat) (fun k=>[(3,vI k)]) (fun k=>[]) (fun k=>k<=e.Args.length/\(gL e.Op 0 e.Args=gL e.Op k (e.Args.drop k))) (fun k=>e.Args.length-k) ⟨0,⟨zA,O⟩,Weak.mk [true] ⟨zJ,zJ,T⟩ O⟩ ?_
  rintro k ⟨hk,hp⟩
  refine zG<|mo O O<|zC O wD<|zH zAs (J 0 O) O<|qB O el52<|yI O<|Y<|zK O ?_ ?_<;>intro c2<;>try simp only [sx] at c2
  ·obtain ⟨a,ha⟩:=qZ e.Args k zA
   refine zI<|zG<|zQ<|zG<|qV 11 mixed uB O O<|mr O (zE O wD O)<|mr O (zD O zAs O (J 0 O) O)<|mr O (zO O O)<|mr O (qE O el52 O O zA (zCy uA))<|mr O (zU O yY O zZ O)<|mr O (qG O uB (kW a) (vlr O))<|mr O (zE O kP O)<|mr O (zD O one3 O (J 0 O) O)<|mr O (zO O O)<|mr O (qG O uB (ref14_wants _ _) (vlr O))<|mr O (zQz O un4 O O)<|yQ<|Y<|zK O (fun c3=>?_) (fun c3=>?_)
   ·exact v36
   ·refine zI<|zT O<|A O<|qI O ⟨zA,zA⟩<|A O<|Y ?_
    refine ⟨k+1,⟨zA,(by rw [hp,qQ ha,gL,show (bJ a==gD e.Op k)=true by simpa using c3,aL];rfl)⟩,zA,Weak.mk [true] ⟨zJ,zJ,T⟩ O⟩
  ·refine qO<|ml O O<|zF<|zS O ?_
   exact ag vB (by simp only [lF,c1,ca,aL];rw [hp,kL zA];rfl)
def ref14_plain (e:Ex) (he:e.wt<=6000000000000):
    Pur cfg 183 [vE e] (vB (lK e)):=by
 refine zR func183 O ntmps183 results183 O ?_
 intro z hz
 obtain ⟨hL,hI,hA⟩:=e.parts he
 refine G O<|mj O fun b1=>mm O<|zG<|G O<|zC O kP<|zH one3 (J 0 O) O<|yI O<|A O<|rL0 O (fun g1_3=>zE O kP O) O<|rL1 9 O (fun g1_3=>zD O one3 O (J 0 O) O) O<|rL1 10 O (fun g1_3=>yD O O O) O<|r_or O (fun h=>(lzf h))<|Y<|zK O (fun c1=>?_) (fun c1=>?_)
 ·refine ml O O<|zF<|zS O ?_
  exact ag vB (by simp only [lK,c1,bf,aZ])
 ·refine zI<|zG<|G O<|zC O kP<|zH one3 (J 0 O) O<|yL O<|A O<|rL0 O (fun g3_3=>zE O zLz O) O<|rL1 17 O (fun g3_3=>zU O yP O (J 0 O) O) O<|rL0 O (fun g3_3=>zDc O W pl46 O) O<|rLz [(18,_),(19,_)] O gv1 ⟨O,O,O,O,T⟩ (fun g3_3=>zAb O fl46 O O O) O<|yT O (fun h=>h)<|A O<|rL0 O (fun g3_9=>zE O kP O) O<|rL1 23 O (fun g3_9=>zD O one3 O (J 0 O) O) O<|rL1 24 O (fun g3_9=>kB O O O) O<|rL1 25 O (fun g3_9=>zO O O) O<|rLz [] O gv2 T (fun g3_13=>zE O kP O) O<|rLz [(27,_)] O gv2 ⟨O,O,T⟩ (fun g3_13=>zD O one3 O (J 0 O) O) O<|rLz [(28,_)] O gv2 ⟨O,O,T⟩ (fun g3_13=>kB O O O) O<|rL1 26 O (fun g3_9=>wA O O O (fun h=>kD uA h) O) O<|rL1 30 O (fun g3_9=>zO O O) O<|rLz [] O gv2 T (fun g3_18=>zE O zFk O) O<|rLz [(32,_)] O gv2 ⟨O,O,T⟩ (fun g3_18=>zU O yE O (J 0 O) O) O<|rLz [] O gv2 T (fun g3_18=>zDc O zr48 pl48 O) O<|rLz [(33,_),(34,_)] O gv2 ⟨O,O,O,O,T⟩ (fun g3_18=>zAb O fl48 O O O) O<|rL1 31 O (fun g3_9=>wA O O O (fun h=>kD uA h) O) O<|r_or O (fun h=>(lzf h))<|Y<|zK O (fun c2=>?_) (fun c2=>?_)
  ·have h2:=plain2 (e:=e) c2
   refine ml O O<|zF<|zS O ?_
   exact ag vB (syn2 h2)
  ·have h2:=plain2 (e:=e) c2
   refine zI<|zG<|G O<|zC O kP<|zH one3 (J 0 O) O<|yL O<|A O<|rL0 O (fun g5_3=>zE O zEk O) O<|rL1 42 O (fun g5_3=>zE O zFl O) O<|rL1 43 O (fun g5_3=>zD O U O (J 0 O) O) O<|rL1 44 O (fun g5_3=>kB O O O) O<|rL1 45 O (fun g5_3=>zO O O) O<|rLz [] O gv2 T (fun g5_8=>zE O zEk O) O<|rLz [(47,_)] O gv2 ⟨O,O,T⟩ (fun g5_8=>zE O wM O) O<|rLz [(48,_)] O gv2 ⟨O,O,T⟩ (fun g5_8=>zD O zBs O (J 0 O) O) O<|rLz [(49,_)] O gv2 ⟨O,O,T⟩ (fun g5_8=>yK O N O) O<|rLz [(50,_)] O gv2 ⟨O,O,T⟩ (fun g5_8=>yD O O O) O<|rL1 46 O (fun g5_3=>zAr O O O O (fun h=>kD uA (lzf h))) O<|yT O (fun h=>h)<|A O<|rL0 O (fun g5_16=>zE O kP O) O<|rL1 55 O (fun g5_16=>zD O one3 O (J 0 O) O) O<|rL1 56 O (fun g5_16=>kB O O O) O<|rL1 57 O (fun g5_16=>zO O O) O<|rLz [] O gv2 T (fun g5_20=>zE O zGz O) O<|rLz [(59,_)] O gv2 ⟨O,O,T⟩ (fun g5_20=>zD O one9 O (J 0 O) O) O<|rLz [(60,_)] O gv2 ⟨O,O,T⟩ (fun g5_20=>zBq O O O) O<|rLz [(61,_)] O gv2 ⟨O,O,T⟩ (fun g5_20=>zO O O) O<|rLz [] O gv2 T (fun g5_24=>zE O wK O) O<|rLz [(63,_)] O gv2 ⟨O,O,T⟩ (fun g5_24=>zD O wT O (J 0 O) O) O<|rLz [(64,_)] O gv2 ⟨O,O,T⟩ (fun g5_24=>yK O v O) O<|rLz [(65,_)] O gv2 ⟨O,O,T⟩ (fun g5_24=>yD O O O) O<|rLz [(62,_)] O gv2 ⟨O,O,T⟩ (fun g5_20=>zAr O O O O (fun h=>kD uA (lzf h))) O<|rL1 58 O (fun g5_16=>wA O O O (fun h=>kD uA h) O) O<|r_or O (fun h=>(lzf h))<|Y<|zK O (fun c3=>?_) (fun c3=>?_)
   ·have h3:=plain3 (e:=e) c3
    refine ml O O<|zF<|zS O ?_
    exact ag vB (syn3 h3)
   ·have h3:=plain3 (e:=e) c3
    refine zI<|zG<|ml O O<|zQ<|zY ⟨[(3,.c _),(1,.c _)],[_]⟩ (Weak.mk [true] ⟨zJ,zJ,T⟩ O)<|qL 1 0 O O (Nat) (fun k=>[(3,vI k)]) (fun k=>[]) (fun k=>k<=e.Idx.length/\(e.Idx.all mK=(e.Idx.drop k).all mK)) (fun k=>e.Idx.length-k) ⟨0,⟨zA,O⟩,Weak.mk [true] ⟨zJ,zJ,T⟩ O⟩ ?_
    rintro k ⟨hk,hp⟩
    refine zG<|mo O O<|zC O wK<|zH wT (J 0 O) O<|qB O v<|yI O<|Y<|zK O ?_ ?_<;>intro c4<;>try simp only [sx] at c4
    ·obtain ⟨x,hx⟩:=qZ e.Idx k zA
     refine zI<|zG<|zQ<|G O<|zC O wK<|zH wT (J 0 O) O<|A O<|qC O v zA (getm uA)<|zM zRn zZ O<|zV O O (qH md O zr92 O) ?_
     rintro _ _ ⟨b2,rfl,rfl⟩
     refine rStR 0 sz92 O<|Y<|G O<|zC O zFi<|zH one9 (J 0 O) O<|wP O<|A O<|rL0 O (fun g11_3=>zE O zBa O) O<|rL1 86 O (fun g11_3=>zD O zFf O (J 0 O) O) O<|rL1 87 O (fun g11_3=>yK O el90 O) O<|rL1 88 O (fun g11_3=>yD O O O) O<|yT O (fun h=>h)<|A O<|rL0 O (fun g11_9=>zE O zFi O) O<|rL1 92 O (fun g11_9=>zD O one9 O (J 0 O) O) O<|rL1 93 O (fun g11_9=>zBq O O O) O<|rL1 94 O (fun g11_9=>zO O O) O<|rLz [] O gv2 T (fun g11_13=>zE O zFw O) O<|rLz [(96,_)] O gv2 ⟨O,O,T⟩ (fun g11_13=>zE O zFl O) O<|rLz [(97,_)] O gv2 ⟨O,O,T⟩ (fun g11_13=>zD O U O (J 0 O) O) O<|rLz [(98,_)] O gv2 ⟨O,O,T⟩ (fun g11_13=>kB O O O) O<|rLz [(99,_)] O gv2 ⟨O,O,T⟩ (fun g11_13=>zO O O) O<|rLz [] O gv2 T (fun g11_18=>zE O zFw O) O<|rLz [(101,_)] O gv2 ⟨O,O,T⟩ (fun g11_18=>zE O wM O) O<|rLz [(102,_)] O gv2 ⟨O,O,T⟩ (fun g11_18=>zD O zBs O (J 0 O) O) O<|rLz [(103,_)] O gv2 ⟨O,O,T⟩ (fun g11_18=>yK O N O) O<|rLz [(104,_)] O gv2 ⟨O,O,T⟩ (fun g11_18=>yD O O O) O<|rLz [(100,_)] O gv2 ⟨O,O,T⟩ (fun g11_13=>zAr O O O O (fun h=>kD uA (lzf h))) O<|rL1 95 O (fun g11_9=>wA O O O (fun h=>kD uA h) O) O<|r_or O (fun h=>(lzf h))<|Y<|zK O (fun c5=>?_) (fun c5=>?_)
     ·have h5:=well_dec (x:=x) c5
      refine ml O O<|zF<|zS O ?_
      exact ag vB (by rw [lK,zMk hx (p:=mK) (by simpa using h5)];simp)
     ·have h5:=well_dec (x:=x) c5
      refine zI<|zT O<|A O<|qI O ⟨zA,zA⟩<|A O<|Y ?_
      refine ⟨k+1,⟨zA,zVs hx hp (by simpa using h5)⟩,zA,Weak.mk [false,true] ⟨zJ,zJ,T⟩ O⟩
    ·refine qO<|ml O O<|zF<|zS O ?_
     exact ag vB (syn5 c1 h2 h3 (all_end hp zA))
def ref14_named (e:Ex) (he:e.wt<=6000000000000):
    Pur cfg 184 [vE e] (vB (nO e)):=by
 refine zR func184 O ntmps184 results184 O ?_
 intro z hz
 obtain ⟨hL,hI,hA⟩:=e.parts he
 refine G O<|mj O fun b1=>mm O<|zG<|G O<|zC O kP<|zH one3 (J 0 O) O<|yF O<|A O<|rL0 O (fun g1_3=>zE O zGz O) O<|rL1 8 O (fun g1_3=>zD O one9 O (J 0 O) O) O<|rL1 9 O (fun g1_3=>qG O uB (zIw _) (vlr O)) O<|rL1 10 O (fun g1_3=>kG O O) O<|yT O (fun h=>h)<|Y<|zK O (fun c1=>?_) (fun c1=>?_)
 ·refine ml O O<|zF<|zS O ?_
  exact ag vB (by simp only [nO,c1,bf,aZ])
 ·refine zI<|zG<|ml O O<|zQ<|zY ⟨[(3,.c _),(1,.c _)],[_]⟩ (Weak.mk [true] ⟨zJ,zJ,T⟩ O)<|qL 1 0 O O (Nat) (fun k=>[(3,vI k)]) (fun k=>[]) (fun k=>k<=e.Idx.length/\(e.Idx.all vN=(e.Idx.drop k).all vN)) (fun k=>e.Idx.length-k) ⟨0,⟨zA,O⟩,Weak.mk [true] ⟨zJ,zJ,T⟩ O⟩ ?_
  rintro k ⟨hk,hp⟩
  refine zG<|mo O O<|zC O wK<|zH wT (J 0 O) O<|qB O v<|yI O<|Y<|zK O ?_ ?_<;>intro c2<;>try simp only [sx] at c2
  ·obtain ⟨x,hx⟩:=qZ e.Idx k zA
   refine zI<|zG<|zQ<|G O<|zC O wK<|zH wT (J 0 O) O<|A O<|qC O v zA (getm uA)<|qR O zFi<|zH one9 zZ O<|zW O (zBq O O O)<|A O<|rL0 O (fun g6_7=>zE O wK O) O<|rL1 28 O (fun g6_7=>zD O wT O (J 0 O) O) O<|rL0 O (fun g6_7=>zO O O) O<|rLz [(29,_),(30,_)] O gv1 ⟨O,O,O,O,T⟩ (fun g6_7=>qE O v O O zA (getm uA)) O<|rL1 31 O (fun g6_7=>qN O zFi O) O<|rL1 32 O (fun g6_7=>zD O one9 O zZ O) O<|rL1 33 O (fun g6_7=>qG O uB (zIw _) (vlr O)) O<|rL1 34 O (fun g6_7=>kG O O) O<|yT O (fun h=>h)<|Y<|zK O (fun c3=>?_) (fun c3=>?_)
   ·refine ml O O<|zF<|zS O ?_
    exact ag vB (by rw [nO,zMk hx (p:=vN) (by unfold vN;rw [c3];rfl)];simp)
   ·refine zI<|zT O<|A O<|qI O ⟨zA,zA⟩<|A O<|Y ?_
    refine ⟨k+1,⟨zA,zVs hx hp (by unfold vN;rw [c3];rfl)⟩,zA,Weak.mk [true] ⟨zJ,zJ,T⟩ O⟩
  ·refine qO<|ml O O<|zF<|zS O ?_
   exact ag vB (by rw [nO,c1,all_end hp zA];rfl)
def ref14_ranked (e:Ex) (he:e.wt<=6000000000000):
    Pur cfg 185 [vE e] (vB (nT e)):=by
 refine zR func185 O ntmps185 results185 O ?_
 intro z hz
 obtain ⟨hL,hI,hA⟩:=e.parts he
 refine G O<|mj O fun b1=>mm O<|zG<|zG<|qV 13 mixed uB O O<|mr O (zE O wD O)<|mr O (zD O zAs O (J 0 O) O)<|mr O (yK O el52 O)<|mr O (zE O kP O)<|mr O (zD O one3 O (J 0 O) O)<|mr O (qG O uB (zTg _) (vlr O))<|mr O (kB O O O)<|mr O (zO O O)<|qM [] O O O O gv1 T (fun g1_7=>zE O wK O) O<|qM [(12,_)] O O O O gv1 ⟨O,O,T⟩ (fun g1_7=>zD O wT O (J 0 O) O) O<|qM [(13,_)] O O O O gv1 ⟨O,O,T⟩ (fun g1_7=>yK O v O) O<|qM [(14,_)] O O O O gv1 ⟨O,O,T⟩ (fun g1_7=>yD O O O) O<|mr O (zAr O O O O (fun h=>(lzf h)))<|yQ<|Y<|zK O (fun c1=>?_) (fun c1=>?_)
 ·refine ml O O<|zF<|zS O ?_
  exact ag vB (by simp only [nT,c1,bf,aZ])
 ·refine zI<|zG<|ml O O<|zQ<|zY ⟨[(3,.c _),(1,.c _)],[_]⟩ (Weak.mk [true] ⟨zJ,zJ,T⟩ O)<|qL 1 0 O O (Nat) (fun k=>[(3,vI k)]) (fun k=>[]) (fun k=>k<=e.Idx.length/\(e.Idx.all tS=(e.Idx.drop k).all tS)) (fun k=>e.Idx.length-k) ⟨0,⟨zA,O⟩,Weak.mk [true] ⟨zJ,zJ,T⟩ O⟩ ?_
  rintro k ⟨hk,hp⟩
  refine zG<|mo O O<|zC O wK<|zH wT (J 0 O) O<|qB O v<|yI O<|Y<|zK O ?_ ?_<;>intro c2<;>try simp only [sx] at c2
  ·obtain ⟨x,hx⟩:=qZ e.Idx k zA
   refine zI<|zG<|zQ<|G O<|zC O wK<|zH wT (J 0 O) O<|A O<|qC O v zA (getm uA)<|qR O zBa<|zH zFf zZ O<|qB O el90<|zW O (yD O O O)<|Y<|zK O (fun c3=>?_) (fun c3=>?_)
   ·refine ml O O<|zF<|zS O ?_
    exact ag vB (by rw [nT,zMk hx (p:=tS) (by unfold tS;rw [c3];rfl)];simp)
   ·refine zI<|zT O<|A O<|qI O ⟨zA,zA⟩<|A O<|Y ?_
    refine ⟨k+1,⟨zA,zVs hx hp (by unfold tS;rw [c3];rfl)⟩,zA,Weak.mk [true] ⟨zJ,zJ,T⟩ O⟩
  ·refine qO<|ml O O<|zF<|zS O ?_
   exact ag vB (by rw [nT,c1,all_end hp zA];rfl)
def ref14_formed (e:Ex) (he:e.wt<=6000000000000) (hty:e.Op=1->dD e.Ty=true):
    Pur cfg 187 [vE e] (vB (lW e)):=by
 refine zR func187 O ntmps187 results187 O ?_
 intro z hz
 obtain ⟨hL,hI,hA⟩:=e.parts he
 refine G O<|mj O fun b1=>mm O<|zG<|G O<|zC O kP<|zH one3 (J 0 O) O<|yF O<|A O<|rL0 O (fun g1_3=>zE O zFk O) O<|rL1 9 O (fun g1_3=>zU O yE O (J 0 O) O) O<|rL0 O (fun g1_3=>zE O zLz O) O<|rL1 11 O (fun g1_3=>zU O yP O (J 0 O) O) O<|rLz [(10,_),(12,_)] O gv1 ⟨O,O,O,O,T⟩ (fun g1_3=>qG O uB (zHr e.Ty e.Val (hty (by simp only [Lz,ay,az,sx] at g1_3;exact g1_3))) (vlr O)) O<|rL1 13 O (fun g1_3=>kG O O) O<|yT O (fun h=>h)<|A O<|rL0 O (fun g1_11=>zE O zEk O) O<|rL1 17 O (fun g1_11=>zU O kQ O (J 0 O) O) O<|rL1 18 O (fun g1_11=>qG O uB (zGb e.Lin hL) (vlr O)) O<|rL1 19 O (fun g1_11=>kG O O) O<|r_or O (fun h=>(lzf h))<|Y<|zK O (fun c1=>?_) (fun c1=>?_)
 ·refine ml O O<|zF<|zS O ?_
  exact ag vB (form_no c1)
 ·refine zI<|zG<|ml O O<|zQ<|zY ⟨[(3,.c _),(1,.c _)],[_]⟩ (Weak.mk [true] ⟨zJ,zJ,T⟩ O)<|qL 1 0 O O (Nat) (fun k=>[(3,vI k)]) (fun k=>[]) (fun k=>k<=e.Idx.length/\((dC e).all bI=((e.Idx.drop k).flatMap fun x=>x.Lin::x.At).all bI)) (fun k=>e.Idx.length-k) ⟨0,⟨zA,form_start c1⟩,Weak.mk [true] ⟨zJ,zJ,T⟩ O⟩ ?_
  rintro k ⟨hk,hp⟩
  refine zG<|mo O O<|zC O wK<|zH wT (J 0 O) O<|qB O v<|yI O<|Y<|zK O ?_ ?_<;>intro c2<;>try simp only [sx] at c2
  ·obtain ⟨x,hx⟩:=qZ e.Idx k zA
   have hxw:=Ex.idx_wt (qA hx)
   refine zI<|zG<|zQ<|zG<|G O<|zC O wK<|zH wT (J 0 O) O<|A O<|qC O v zA (getm uA)<|qR O zFw<|zM kQ zZ O<|qD O uB (zGb x.Lin zA) (vlr O)<|kO O<|Y<|zK O ?_ ?_<;>intro c3<;>try simp only [sx] at c3
   ·refine ml O O<|zF<|zS O ?_
    exact ag vB (form_no2 hp (by rw [qQ hx,cg,bx,aW,c3];rfl))
   ·refine zI<|ml O O<|zQ<|zY ⟨[(4,.c _),(1,.c _),(3,.c _)],[_]⟩ (Weak.mk [true] ⟨zJ,zJ,zJ,T⟩ O)<|qL 1 0 O O (Nat) (fun j=>[(4,vI j)]) (fun j=>[]) (fun j=>j<=x.At.length/\(x.At.all bI=(x.At.drop j).all bI)) (fun j=>x.At.length-j) ⟨0,⟨zA,O⟩,Weak.mk [true] ⟨zJ,zJ,zJ,T⟩ O⟩ ?_
    rintro j ⟨hj,hq⟩
    refine zG<|mo O O<|zC O wK<|zH wT (J 0 O) O<|A O<|qC O v zA (getm uA)<|qR O zBa<|zH zFf zZ O<|qB O el90<|yI O<|Y<|zK O ?_ ?_<;>intro c4<;>try simp only [sx] at c4
    ·obtain ⟨l,hl⟩:=qZ x.At j zA
     have hlw:=zEn (qA hl)
     refine zI<|zG<|zQ<|G O<|zC O wK<|zH wT (J 0 O) O<|A O<|qC O v zA (getm uA)<|qR O zBa<|zH zFf zZ O<|A O<|qC O el90 zA (getm uA)<|zM kQ zZ O<|qD O uB (zGb l zA) (vlr O)<|kO O<|Y<|zK O ?_ ?_<;>intro c5<;>try simp only [sx] at c5
     ·refine ml O O<|zF<|zS O ?_
      exact ag vB (form_no2 hp (by rw [qQ hx,cg,bx,aW,zMk hl (p:=bI) c5];simp))
     ·refine zI<|zT O<|A O<|qI O ⟨zA,zA⟩<|A O<|Y ?_
      refine ⟨j+1,⟨zA,zVs hl hq c5⟩,zA,Weak.mk [true] ⟨zJ,zJ,zJ,T⟩ O⟩
    ·refine qO<|zT O<|A O<|qI O ⟨zA,zA⟩<|A O<|Y ?_
     refine ⟨k+1,⟨zA,(by rw [hp,qQ hx,cg,bx,aW,c3,all_end hq zA];rfl)⟩,zA,Weak.mk [true] ⟨zJ,zJ,T⟩ O⟩
  ·refine qO<|ml O O<|zF<|zS O ?_
   exact ag vB (form_yes c1 (by rw [hp,kL zA];rfl))
def zXd (e:Ex) (ih:∀a,a∈e.Args->a.wt<=6000000000000->Pur cfg 161 [vE a] (vI (dN a))) (he:e.wt<=6000000000000):
    Pur cfg 161 [vE e] (vI (dN e)):=by
 refine zR func161 O ntmps161 results161 O ?_
 intro z hz
 obtain ⟨hL,hI,hA⟩:=e.parts he
 refine G O<|mj O fun b1=>mm O<|zG<|zQ<|G O<|zM yY (J 0 O) O<|qD O uB (ref14_plain e he) (vlr O)<|kO O<|mm O<|zK O ?_ ?_<;>intro c1<;>try simp only [sx] at c1
 ·refine ml O O<|zF<|zS O ?_
  exact ag vI (by rw [zHl,show dE e=5 by simp only [dE,c1];rfl];rfl)
 ·refine G O<|zM yY (J 0 O) O<|qD O uB (ref14_named e he) (vlr O)<|kO O<|mm O<|zK O ?_ ?_<;>intro c2<;>try simp only [sx] at c2
  ·refine ml O O<|zF<|zS O ?_
   exact ag vI (by rw [zHl,show dE e=7 by simp only [dE,c1,c2];rfl];rfl)
  ·refine G O<|zM yY (J 0 O) O<|qD O uB (ref14_ranked e he) (vlr O)<|kO O<|mm O<|zK O ?_ ?_<;>intro c3<;>try simp only [sx] at c3
   ·refine ml O O<|zF<|zS O ?_
    exact ag vI (by rw [zHl,show dE e=11 by simp only [dE,c1,c2,c3];rfl];rfl)
   ·refine G O<|zM yY (J 0 O) O<|qD O uB (ref14_typed e he) (vlr O)<|kO O<|mm O<|zK O ?_ ?_<;>intro c4<;>try simp only [sx] at c4
    ·refine ml O O<|zF<|zS O ?_
     exact ag vI (by rw [zHl,show dE e=10 by simp only [dE,c1,c2,c3,c4];rfl];rfl)
    ·refine G O<|zM yY (J 0 O) O<|qD O uB (ref14_formed e he (types_ty c4)) (vlr O)<|kO O<|mm O<|zK O ?_ ?_<;>intro c5<;>try simp only [sx] at c5
     ·refine ml O O<|zF<|zS O ?_
      exact ag vI (by rw [zHl,show dE e=1 by simp only [dE,c1,c2,c3,c4,c5];rfl];rfl)
     ·have hn:dE e=0:=by simp only [dE,c1,c2,c3,c4,c5];rfl
      refine zI<|zG<|ml O O<|zQ<|zY ⟨[(3,.c _),(1,.c _)],[_]⟩ (Weak.mk [true] ⟨zJ,zJ,T⟩ O)<|qL 1 0 O O (Nat) (fun k=>[(3,vI k)]) (fun k=>[]) (fun k=>k<=e.Args.length/\(tJ e.Args=tJ (e.Args.drop k))) (fun k=>e.Args.length-k) ⟨0,⟨zA,O⟩,Weak.mk [true] ⟨zJ,zJ,T⟩ O⟩ ?_
      rintro k ⟨hk,hp⟩
      refine zG<|mo O O<|zC O wD<|zH zAs (J 0 O) O<|qB O el52<|yI O<|Y<|zK O ?_ ?_<;>intro c6<;>try simp only [sx] at c6
      ·obtain ⟨a,ha⟩:=qZ e.Args k zA
       refine zI<|zG<|zQ<|G O<|zC O wD<|zH zAs (J 0 O) O<|A O<|qC O el52 zA (zCy uA)<|zM yY zZ O<|qD O uB (ih a (qA ha) (by have:=Ex.arg_wt (qA ha);omega)) (vlr O)<|mm O<|mo O O<|yL O<|Y<|zK O ?_ ?_<;>intro c7<;>try simp only [sx] at c7
       ·refine mo O O<|mm O<|zF<|zS O ?_
        exact ag vI (by rw [zHl e,hn,wU rfl,ay,hp,qQ ha,zSg,qX c7];rfl)
       ·refine zI<|zT O<|A O<|qI O ⟨zA,zA⟩<|A O<|Y ?_
        refine ⟨k+1,⟨zA,(by rw [hp,qQ ha,zSg,wU c7];rfl)⟩,zA,Weak.mk [true] ⟨zJ,zJ,T⟩ O⟩
      ·refine qO<|ml O O<|zF<|zS O ?_
       exact ag vI (by rw [zHl,hn,wU rfl,ay,hp,kL zA];rfl)
def ref14_part (e:Ex) (he:e.wt<=6000000000000):Pur cfg 161 [vE e] (vI (dN e)):=by
  induction e using Ex.ind with
  |_ e ih=>exact zXd e ih he
def zMe (n:Nat) (ih:n≠0->∀(a:Ex) (l:Int),a.wt<=6000000000000->l=n->Pur cfg 208 [vE a,vI l] (vI (mF (n-1) a))) (hn:n<=100) (e:Ex) (l:Int) (he:e.wt<=6000000000000) (hl:l=n+1):
    Pur cfg 208 [vE e,vI l] (vI (mF n e)):=by
 refine zR func208 O ntmps208 results208 O ?_
 intro z hz
 obtain ⟨hL,hI,hA⟩:=e.parts he
 refine G O<|mj O fun b1=>mm O<|zG<|mo O O<|zW O (wS O O O)<|Y<|zK O ?_ ?_<;>intro c1<;>try simp only [sx] at c1
 ·obtain rfl:n=0:=by omega
  refine mo O O<|mm O<|zF<|zS O ?_
  exact ag vI (by rw [hl];rfl)
 ·obtain ⟨m,rfl⟩:∃m,n=m+1:=⟨n-1,zA⟩
  refine zI<|ml O O<|zG<|G O<|zC O wD<|zH zAs (J 0 O) O<|qB O el52<|mm O<|zQ<|zY ⟨[(14,.c _),(5,.c _),(1,.c _),(12,.c _),(13,.c _)],[]⟩ (Weak.mk [false] ⟨zJ,zJ,zJ,zJ,zJ,T⟩ O)<|qL 2 0 O O (Nat×Int) (fun ⟨k,d⟩=>[(14,vI k),(5,vI d)]) (fun ⟨k,d⟩=>[]) (fun ⟨k,d⟩=>k<=e.Args.length/\(1<=d)/\(d<=m+2)/\(mF (m+1) e=tW (mF m) d (e.Args.drop k))) (fun ⟨k,d⟩=>e.Args.length-k) ⟨⟨0,1⟩,⟨zA,zA,zA,O⟩,Weak.mk [] ⟨zJ,VLe.of_eq (O),zJ,zJ,zJ,T⟩ O⟩ ?_
  rintro ⟨k,d⟩ ⟨hk,hd1,hd2,hd3⟩
  show AWP _ _ _ _ _ ⟨[(14,vI k),(5,vI d)]++_,[]++_⟩
  refine G O<|yI O<|Y<|zG<|zK O ?_ ?_<;>intro c2<;>try simp only [sx] at c2
  ·obtain ⟨a,ha⟩:=qZ e.Args k zA
   have hda:=depT_le m a
   refine zI<|zG<|zQ<|G O<|qC O el52 zA (zCy uA)<|zM yY zZ O<|zV O O (qH lx O zr54 O) ?_
   rintro _ _ ⟨b2,rfl,rfl⟩
   refine rStR 0 sz54 O<|Y<|zT O<|A O<|zM yY (J 0 O) O<|A O<|zW O (yB O O O ⟨zA,zA⟩)<|qD O uB (show Pur cfg 208 [vE a,vI (l-1)] (vI (mF m a)) from ih zA a _ (by have:=Ex.arg_wt (qA ha);omega) zA) (vlr O)<|qI O ⟨zA,zA⟩<|zW O (zKc O O O)<|mm O<|zT O<|qI O ⟨zA,zA⟩<|A O<|Y ?_
   refine ⟨⟨k+1,max d (1+mF m a)⟩,⟨zA,zA,zA,by rw [hd3,qQ ha,tW]⟩,(by show e.Args.length-(k+1)<e.Args.length-k;omega),Weak.mk [false] ⟨zJ,zJ,zJ,zJ,zJ,T⟩ O⟩
  ·refine qO<|mo O O<|mm O<|zF<|zS O ?_
   exact ag vI (by rw [hd3,kL zA];rfl)
def expr_depth (n:Nat) (e:Ex) (l:Int) (hn:n<=100) (he:e.wt<=6000000000000) (hl:l=n+1):Pur cfg 208 [vE e,vI l] (vI (mF n e)):=by
  induction n generalizing e l with
  |zero=>exact zMe 0 (fun h=>absurd rfl h) hn e l he hl
  |succ n ih=>exact zMe (n+1) (fun _ a l h1 h2=>ih a l zA h1 zA) hn e l he hl
def zKi (n:Nat) (ih:n≠0->∀(a:Ex) (l:Int),a.wt<=6000000000000->l=n->Pur cfg 181 [vE a,vI l] (vI (mF (n-1) a))) (hn:n<=100) (e:Ex) (l:Int) (he:e.wt<=6000000000000) (hl:l=n+1):
    Pur cfg 181 [vE e,vI l] (vI (mF n e)):=by
 refine zR func181 O ntmps181 results181 O ?_
 intro z hz
 obtain ⟨hL,hI,hA⟩:=e.parts he
 refine G O<|mj O fun b1=>mm O<|ml O O<|zG<|ml O O<|zQ<|zY ⟨[(6,.c _),(5,.c _),(1,.c _),(2,.c _)],[_]⟩ (Weak.mk [true] ⟨zJ,zJ,zJ,zJ,T⟩ O)<|qL 2 0 O O (Nat×Int) (fun ⟨k,d⟩=>[(6,vI k),(5,vI d)]) (fun ⟨k,d⟩=>[]) (fun ⟨k,d⟩=>k<=e.Args.length/\(1<=d)/\(d<=n+1)/\(n≠0->mF n e=tW (mF (n-1)) d (e.Args.drop k))/\(n=0->d=1)) (fun ⟨k,d⟩=>e.Args.length-k) ⟨⟨0,1⟩,⟨zA,zA,zA,fun h0=>dep_start h0,fun _=>O⟩,Weak.mk [true] ⟨zJ,VLe.of_eq (O),zJ,zJ,T⟩ O⟩ ?_
 rintro ⟨k,d⟩ ⟨hk,hd1,hd2,hd3,hd4⟩
 show AWP _ _ _ _ _ ⟨[(6,vI k),(5,vI d)]++_,[]++_⟩
 refine zG<|mo O O<|zC O wD<|zH zAs (J 0 O) O<|qB O el52<|yI O<|A O<|rL0 O (fun g3_5=>zO O O) O<|rL1 13 O (fun g3_5=>yD O O O) O<|yT O (fun h=>h)<|Y<|zK O ?_ ?_<;>intro c1<;>try simp only [sx] at c1
 ·obtain ⟨a,ha⟩:=qZ e.Args k zA
  have hda:=depT_le (n-1) a
  refine zI<|zG<|zQ<|zT O<|A O<|zC O wD<|zH zAs (J 0 O) O<|A O<|qC O el52 zA (zCy uA)<|zM yY zZ O<|A O<|zW O (yB O O O ⟨zA,zA⟩)<|qD O uB (ih zA a _ (by have:=Ex.arg_wt (qA ha);omega) zA) (vlr O)<|qI O ⟨zA,zA⟩<|zW O (zKc O O O)<|mm O<|zT O<|A O<|qI O ⟨zA,zA⟩<|A O<|Y ?_
  refine ⟨⟨k+1,max d (1+mF (n-1) a)⟩,⟨zA,zA,zA,fun h0=>by rw [hd3 h0,qQ ha,tW],fun h0=>by omega⟩,(by show e.Args.length-(k+1)<e.Args.length-k;omega),Weak.mk [true] ⟨zJ,zJ,zJ,zJ,T⟩ O⟩
 ·refine qO<|mo O O<|mm O<|zF<|zS O ?_
  exact ag vI (dep_end hl zA hd3 hd4)
def ref14_depth (n:Nat) (e:Ex) (l:Int) (hn:n<=100) (he:e.wt<=6000000000000) (hl:l=n+1):Pur cfg 181 [vE e,vI l] (vI (mF n e)):=by
  induction n generalizing e l with
  |zero=>exact zKi 0 (fun h=>absurd rfl h) hn e l he hl
  |succ n ih=>exact zKi (n+1) (fun _ a l h1 h2=>ih a l zA h1 zA) hn e l he hl
def expr_Depth (e:Ex) (he:e.wt<=6000000000000):
    Pur cfg 175 [vE e] (vI (mF 40 e)):=by
 refine zR func175 O ntmps175 results175 O fun z hz=>G O<|mj O fun b1=>mm O<|G O<|zM yY (J 0 O) O<|qD O uB (expr_depth 40 e 41 zA he zA) (vlr O)<|mm O<|zF<|zS O ?_
 exact O
def ref14_Depth (e:Ex) (he:e.wt<=6000000000000):
    Pur cfg 159 [vE e] (vI (mF 40 e)):=by
 refine zR func159 O ntmps159 results159 O fun z hz=>G O<|mj O fun b1=>mm O<|G O<|zM yY (J 0 O) O<|qD O uB (ref14_depth 40 e 41 zA he zA) (vlr O)<|mm O<|zF<|zS O ?_
 exact O
def zXc (e:Ex) (ih:∀a,a∈e.Args->∀(m:Nat) (l:Int),a.wt<=6000000000000->m<=1000000->l=m->Pur cfg 182 [vE a,vI l] (vI (tR a m))) (m:Nat) (l:Int) (he:e.wt<=6000000000000) (hm:m<=1000000) (hl:l=m):
    Pur cfg 182 [vE e,vI l] (vI (tR e m)):=by
 refine zR func182 O ntmps182 results182 O ?_
 intro z hz
 obtain ⟨hL,hI,hA⟩:=e.parts he
 refine G O<|mj O fun b1=>mm O<|ml O O<|zG<|ml O O<|zQ<|zY ⟨[(6,.c _),(5,.c _),(1,.c _),(2,.c _)],[_]⟩ (Weak.mk [true] ⟨zJ,zJ,zJ,zJ,T⟩ O)<|qL 2 0 O O (Nat×Nat) (fun ⟨k,n⟩=>[(6,vI k),(5,vI n)]) (fun ⟨k,n⟩=>[]) (fun ⟨k,n⟩=>k<=e.Args.length/\(n<=m+1)/\(tR e m=tF (e.Args.drop k) m n)) (fun ⟨k,n⟩=>e.Args.length-k) ⟨⟨0,1⟩,⟨zA,zA,sizE_eq e m⟩,Weak.mk [true] ⟨zJ,VLe.of_eq (O),zJ,zJ,T⟩ O⟩ ?_
 rintro ⟨k,n⟩ ⟨hk,hn1,hn2⟩
 show AWP _ _ _ _ _ ⟨[(6,vI k),(5,vI n)]++_,[]++_⟩
 refine zG<|mo O O<|zC O wD<|zH zAs (J 0 O) O<|qB O el52<|yI O<|A O<|rL0 O (fun g3_5=>zO O O) O<|rL0 O (fun g3_5=>zO O O) O<|rLz [(13,_),(14,_)] O gv1 ⟨O,O,O,O,T⟩ (fun g3_5=>wS O O O) O<|yT O (fun h=>h)<|Y<|zK O ?_ ?_<;>intro c1<;>try simp only [sx] at c1
 ·obtain ⟨a,ha⟩:=qZ e.Args k zA
  have hsa:=sizE_min a (m-n)
  refine zI<|zG<|zQ<|zT O<|A O<|zC O wD<|zH zAs (J 0 O) O<|A O<|qC O el52 zA (zCy uA)<|zM yY zZ O<|A O<|A O<|zW O (yB O O O ⟨zA,zA⟩)<|qD O uB (ih a (qA ha) (m-n) _ (by have:=Ex.arg_wt (qA ha);omega) zA zA) (vlr O)<|qI O ⟨zA,zA⟩<|mm O<|zT O<|A O<|qI O ⟨zA,zA⟩<|A O<|Y ?_
  refine ⟨⟨k+1,n+tR a (m-n)⟩,⟨zA,zA,by rw [hn2,qQ ha,tF,ab zA]⟩,(by show e.Args.length-(k+1)<e.Args.length-k;omega),Weak.mk [true] ⟨zJ,VLe.of_eq (ag vI zA),zJ,zJ,T⟩ O⟩
 ·refine qO<|mo O O<|mm O<|zF<|zS O ?_
  exact ag vI (by rw [hn2];exact ag Nat.cast (siz_end hl zA))
def ref14_size (e:Ex) (m:Nat) (l:Int) (he:e.wt<=6000000000000) (hm:m<=1000000) (hl:l=m):Pur cfg 182 [vE e,vI l] (vI (tR e m)):=by
  induction e using Ex.ind generalizing m l with
  |_ e ih=>exact zXc e (fun a ha m l h1 h2 h3=>ih a ha m l h1 h2 h3) m l he hm hl
def ref14_Size (e:Ex) (he:e.wt<=6000000000000):
    Pur cfg 160 [vE e] (vI (szT e)):=by
 refine zR func160 O ntmps160 results160 O fun z hz=>G O<|mj O fun b1=>mm O<|G O<|zM yY (J 0 O) O<|qD O uB (ref14_size e 2000 2000 he zA O) (vlr O)<|zW O (det_min O O O)<|mm O<|zF<|zS O ?_
 exact ag vI (by rw [sizE_min,szT];omega)
def ref14_Validate (e:Ex) (he:e.wt<=6000000000000):
    Pur cfg 139 [vE e] (vI (gI e)):=by
 refine zR func139 O ntmps139 results139 O fun z hz=>G O<|mj O fun b1=>mm O<|zG<|G O<|zM yY (J 0 O) O<|qD O uB (ref14_Depth e he) (vlr O)<|zW O (yD O O O)<|Y<|zK O ?_ ?_<;>intro c1<;>try simp only [sx] at c1
 ·refine ml O O<|zF<|zS O ?_
  rw [gI,wU c1];rfl
 ·refine zI<|zG<|G O<|zM yY (J 0 O) O<|qD O uB (ref14_Size e he) (vlr O)<|zW O (yD O O O)<|Y<|zK O ?_ ?_<;>intro c2<;>try simp only [sx] at c2
  ·refine ml O O<|zF<|zS O ?_
   rw [gI,qX zA,wU c2];rfl
  ·refine zI<|G O<|zM yY (J 0 O) O<|qD O uB (ref14_part e he) (vlr O)<|mm O<|zF<|zS O ?_
   rw [gI,qX zA,qX zA];rfl
end Go.W
end
section
set_option maxRecDepth 10000
namespace Go.W
open Go Go.Eng Go.Proofs Go.L41 Go.Br Tryz
attribute [local irreducible] AWP RWP TD fK
def zDb:mM prog 29=true:=by kernel_rfl
def sz3:(prog.info? 3).map (·.size)=some 1:=by kernel_rfl
def sz29:(prog.info? 29).map (·.size)=some 1:=by kernel_rfl
def zr3:fL prog 3=some [(Value.int IntKind.i64 0)]:=by kernel_rfl
def zr29:fL prog 29=some [(Value.int IntKind.i64 0)]:=by kernel_rfl
def expr_forms (e:Ex):
    Pur cfg 214 [vE e] (.c (.fn (.func 248) [] [.iptr e.cs])):=by
 refine zR func214 O ntmps214 results214 O ?_
 exact v28
def forms_iter (e:Ex) (he:e.wt<=6000000000000):
    eK cfg 248 [] [.iptr e.cs] (dC e) fun l=>[dK l]:=by
 obtain ⟨hL,hI,hA⟩:=e.parts he
 intro y J Jx μ hy0 h0
 have hy:=fun pre x suf μ h1 h2=>fn_bool (hy0 pre x suf μ h1 h2)
 refine zR func248 O ntmps248 results248 O fun z hz=>zG<|mo O O<|qR O zEk<|zM kQ zZ O<|zV O O (zAe O O (hy [] e.Lin _ _ O h0) (vlr O)) ?_
 rintro _ m0 ⟨y0,rfl,t0,f0⟩
 refine kO O<|Y<|zK O ?_ ?_<;>intro c1<;>try simp only [sx] at c1
 ·refine zF<|fin0 ?_
  exact .inr ⟨[],e.Lin,_,O,f0 c1⟩
 ·refine zI<|G O<|qR O wK<|zH wT zZ O<|qB O v<|mm O<|zQ<|zY ⟨[(15,.c _),(0,.c _),(13,.c _),(14,.c _)],_⟩ (Weak.regs ⟨zJ,zJ,zJ,zJ,T⟩)<|zDu 1 O (Nat×List E) (fun ⟨k,m⟩=>[(15,vI k)]) (fun ⟨k,m⟩=>m) (fun ⟨k,m⟩=>k<=e.Idx.length/\(J (e.Lin::(e.Idx.take k).flatMap ixF) m)) (fun ⟨k,m⟩=>e.Idx.length-k) ⟨⟨0,m0⟩,⟨zA,t0 c1⟩,Weak.regs ⟨zJ,zJ,zJ,zJ,T⟩⟩ ?_
  rintro ⟨k,m⟩ ⟨hk,hJ⟩
  refine G O<|yI O<|Y<|zG<|zK O ?_ ?_<;>intro c2<;>try simp only [sx] at c2
  ·obtain ⟨x,hx⟩:=qZ e.Idx k zA
   have hxw:=Ex.idx_wt (qA hx)
   refine zI<|zG<|zQ<|G O<|qC O v zA (getm uA)<|zM zRn zZ O<|zV O O (qH md O zr92 O) ?_
   rintro _ _ ⟨b1,rfl,rfl⟩
   refine rStR 0 sz92 O<|yU _ (yX 0 O 4 _ PLe.ptr)<|Y<|zG<|mo O O<|qR O zFw<|zM kQ zZ O<|zV O O (zAe O O (hy _ x.Lin _ _ (forms_at hx) hJ) (vlr O)) ?_
   rintro _ m1 ⟨y1,rfl,t1,f1⟩
   refine kO O<|Y<|zK O ?_ ?_<;>intro c3<;>try simp only [sx] at c3
   ·refine zF<|fin0 ?_
    exact .inr ⟨_,x.Lin,_,forms_at hx,f1 c3⟩
   ·refine zI<|G O<|qR O zBa<|zH zFf zZ O<|qB O el90<|mm O<|zQ<|zY ⟨[(27,.c _),(0,.c _),(13,.c _),(14,.c _),(15,.c _),(25,.c _),(26,.c _)],_⟩ (Weak.regs ⟨zJ,zJ,zJ,zJ,zJ,zJ,zJ,T⟩)<|zDu 1 O (Nat×List E) (fun ⟨j,n⟩=>[(27,vI j)]) (fun ⟨j,n⟩=>n) (fun ⟨j,n⟩=>j<=x.At.length/\(J ((e.Lin::(e.Idx.take k).flatMap ixF)++[x.Lin]++x.At.take j) n)) (fun ⟨j,n⟩=>x.At.length-j) ⟨⟨0,m1⟩,⟨zA,by simpa using t1 c3⟩,Weak.regs ⟨zJ,zJ,zJ,zJ,zJ,zJ,zJ,T⟩⟩ ?_
    rintro ⟨j,n⟩ ⟨hj,hJ2⟩
    refine G O<|yI O<|Y<|zG<|zK O ?_ ?_<;>intro c4<;>try simp only [sx] at c4
    ·obtain ⟨l,hl⟩:=qZ x.At j zA
     refine zI<|zG<|zQ<|G O<|qC O el90 zA (getm uA)<|zM kQ zZ O<|zV O O (qH [none,some 2] O zr51 O) ?_
     rintro _ _ ⟨b2,rfl,rfl⟩
     refine rStR 0 sz51 O<|yU _ (yX 0 O 6 _ PLe.ptr)<|Y<|mo O O<|zM kQ zZ O<|zV O O (zAe O O (hy _ l _ _ (forms_at2 hx hl) hJ2) (vlr O)) ?_
     rintro _ m2 ⟨y2,rfl,t2,f2⟩
     refine kO O<|Y<|zK O ?_ ?_<;>intro c5<;>try simp only [sx] at c5
     ·refine zF<|fin0 ?_
      exact .inr ⟨_,l,_,forms_at2 hx hl,f2 c5⟩
     ·refine zI<|zT O<|qI O ⟨zA,zA⟩<|A O<|Y ?_
      refine ⟨⟨j+1,m2⟩,⟨zA,by rw [yR hl];simpa [lAa] using t2 c5⟩,(by show x.At.length-(j+1)<x.At.length-j;omega),Weak.regs ⟨zJ,zJ,zJ,zJ,zJ,zJ,zJ,T⟩⟩
    ·refine qO<|zT O<|qI O ⟨zA,zA⟩<|A O<|Y ?_
     refine ⟨⟨k+1,n⟩,⟨zA,by rw [forms_next hx];rw [yW (l:=x.At) zA] at hJ2;exact hJ2⟩,(by show e.Idx.length-(k+1)<e.Idx.length-k;omega),Weak.regs ⟨zJ,zJ,zJ,zJ,T⟩⟩
  ·refine qO ?_
   repeat (first|refine zKu ?_|refine zIv ?_)
   refine zYq<|fin0 ?_
   rw [yW zA] at hJ;exact .inl hJ
def zQu (e:Ex):
    Pur cfg 68 [vE e] (.c (.fn (.func 98) [] [.iptr e.cs])):=by
 refine zR func68 O ntmps68 results68 O ?_
 exact v28
def walk_step (e:Ex) (he:e.wt<=6000000000000) (ih:∀a,a∈e.Args->a.wt<=6000000000000->(∀(y:C) (J Jx:List Ex->List E->Prop) (pre0:List Ex) (μ:List E),(∀pre x suf μ,dI a=pre++x::suf->J (pre0++pre) μ->FnCon cfg y [vE x] μ fun r μ'=>∃b,r=.c (.lit (.bool b))/\(b=true->J (pre0++pre++[x]) μ')/\(b=false->Jx (pre0++pre++[x]) μ'))->J pre0 μ->Con cfg 99 [vE a,.c y] μ fun r μ'=>∃b,r=.c (.lit (.bool b))/\(b=true->J (pre0++dI a) μ')/\(b=false->∃pre x suf,dI a=pre++x::suf/\Jx (pre0++pre++[x]) μ'))):
    ∀(y:C) (J Jx:List Ex->List E->Prop) (pre0:List Ex) (μ:List E),(∀pre x suf μ,dI e=pre++x::suf->J (pre0++pre) μ->FnCon cfg y [vE x] μ fun r μ'=>∃b,r=.c (.lit (.bool b))/\(b=true->J (pre0++pre++[x]) μ')/\(b=false->Jx (pre0++pre++[x]) μ'))->J pre0 μ->Con cfg 99 [vE e,.c y] μ fun r μ'=>∃b,r=.c (.lit (.bool b))/\(b=true->J (pre0++dI e) μ')/\(b=false->∃pre x suf,dI e=pre++x::suf/\Jx (pre0++pre++[x]) μ'):=by
 obtain ⟨hL,hI,hA⟩:=e.parts he
 intro y J Jx pre0 μ hy h0
 refine zR func99 O ntmps99 results99 O fun z hz=>G O<|mj O fun b1=>yU _ (yX 0 O 2 _ PLe.ptr)<|mm O<|zG<|mo O O<|zM yY zZ O<|zV O O (zAe O O (hy [] e _ _ (wC e) (show J (pre0++[]) μ by simpa using h0)) (vlr O)) ?_
 rintro _ m0 ⟨y0,rfl,t0,f0⟩
 refine kO O<|Y<|zK O ?_ ?_<;>intro c1<;>try simp only [sx] at c1
 ·refine ml O O<|zF<|zS O ?_
  exact ⟨false,O,fun h=>(by cases h),fun _=>⟨[],e,_,wC e,by simpa using f0 c1⟩⟩
 ·refine zI<|zG<|G O<|qR O wD<|zH zAs zZ O<|qB O el52<|mm O<|zQ<|zY ⟨[(14,.c _),(1,.c _),(12,.c _),(13,.c _)],_⟩ (Weak.regs ⟨zJ,zJ,zJ,zJ,T⟩)<|zDu 1 O (Nat×List E) (fun ⟨k,m⟩=>[(14,vI k)]) (fun ⟨k,m⟩=>m) (fun ⟨k,m⟩=>k<=e.Args.length/\(J (pre0++e::bU (e.Args.take k)) m)) (fun ⟨k,m⟩=>e.Args.length-k) ⟨⟨0,m0⟩,⟨zA,by simpa [bU] using t0 c1⟩,Weak.regs ⟨zJ,zJ,zJ,zJ,T⟩⟩ ?_
  rintro ⟨k,m⟩ ⟨hk,hJ⟩
  refine G O<|yI O<|Y<|zG<|zK O ?_ ?_<;>intro c2<;>try simp only [sx] at c2
  ·obtain ⟨a,ha⟩:=qZ e.Args k zA
   refine zI<|zG<|zQ<|G O<|qC O el52 zA (zCy uA)<|zM yY zZ O<|zV O O (qH lx O zr54 O) ?_
   rintro _ _ ⟨b2,rfl,rfl⟩
   refine rStR 0 sz54 O<|yU _ (yX 0 O 6 _ PLe.ptr)<|Y<|G O<|zM yY zZ O<|A O<|zV O O (zBm O uB (ih a (qA ha) (by have:=Ex.arg_wt (qA ha);omega) y J Jx (pre0++e::bU (e.Args.take k)) _ (fun pre x suf μ hx hj=>by have:=hy _ x _ μ (nodes_at ha hx) (by simpa using hj);simpa using this) hJ) (vlr O)) ?_
   rintro _ m1 ⟨y1,rfl,t1,f1⟩
   refine kO O<|Y<|zK O ?_ ?_<;>intro c3<;>try simp only [sx] at c3
   ·refine ml O O<|zF<|zS O ?_
    obtain ⟨pre,x,suf,h1,h2⟩:=f1 c3
    exact ⟨false,O,fun h=>(by cases h),fun _=>⟨_,x,_,nodes_at ha h1,by simpa using h2⟩⟩
   ·refine zI<|zT O<|qI O ⟨zA,zA⟩<|A O<|Y ?_
    refine ⟨⟨k+1,m1⟩,⟨zA,by rw [zXn ha];simpa using t1 c3⟩,(by show e.Args.length-(k+1)<e.Args.length-k;omega),Weak.regs ⟨zJ,zJ,zJ,zJ,T⟩⟩
  ·refine qO<|ml O O<|zF<|zS O ?_
   rw [yW zA] at hJ
   exact ⟨true,O,fun _=>(by rw [wC];exact hJ),fun h=>(by cases h)⟩
def walk_con (e:Ex) (he:e.wt<=6000000000000):∀(y:C) (J Jx:List Ex->List E->Prop) (pre0:List Ex) (μ:List E),(∀pre x suf μ,dI e=pre++x::suf->J (pre0++pre) μ->FnCon cfg y [vE x] μ fun r μ'=>∃b,r=.c (.lit (.bool b))/\(b=true->J (pre0++pre++[x]) μ')/\(b=false->Jx (pre0++pre++[x]) μ'))->J pre0 μ->Con cfg 99 [vE e,.c y] μ fun r μ'=>∃b,r=.c (.lit (.bool b))/\(b=true->J (pre0++dI e) μ')/\(b=false->∃pre x suf,dI e=pre++x::suf/\Jx (pre0++pre++[x]) μ'):=by
  induction e using Ex.ind with
  |_ e ih=>exact walk_step e he ih
def zPa (e:Ex) (he:e.wt<=6000000000000):
    eK cfg 98 [] [.iptr e.cs] (dI e) fun x=>[vE x]:=by
 intro y J Jx μ hy0 h0
 have hy:=fun pre x suf μ h1 h2=>fn_bool (hy0 pre x suf μ h1 h2)
 refine zR func98 O ntmps98 results98 O fun z hz=>zT O<|zM yY zZ O<|A O<|zV O O (zBm O uB (walk_con e he y J Jx [] _ (fun pre x suf μ h1 h2=>hy pre x suf μ h1 h2) h0) (vlr O)) ?_
 rintro _ m0 ⟨y0,rfl,t0,f0⟩
 refine Y ?_
 repeat (first|refine zKu ?_|refine zIv ?_)
 refine zYq<|fin0 ?_
 cases y0
 · exact .inr (f0 rfl)
 · exact .inl (t0 rfl)
def expr_validNode (e:Ex) (he:e.wt<=6000000000000):
    Pur cfg 177 [vE e] (vI (dE e)):=by
 refine zR func177 O ntmps177 results177 O ?_
 intro z hz
 obtain ⟨hL,hI,hA⟩:=e.parts he
 refine G O<|mj O fun b1=>zV O O (qW O zr29) ?_
 rintro _ _ ⟨b2,rfl,rfl⟩
 refine Y<|zG<|zQ<|G O<|zM yY (J 1 O) O<|qD O uB (expr_syntax e he) (vlr O)<|kO O<|mm O<|zK O ?_ ?_<;>intro c1<;>try simp only [sx] at c1
 ·refine G O<|rStR 0 sz29 O<|Y<|zF<|fin1 (kZ zDb O (J 0 O) O) ?_
  rw [dE,c1];rfl
 ·refine G O<|zM yY (J 1 O) O<|qD O uB (expr_names e he) (vlr O)<|kO O<|mm O<|zK O ?_ ?_<;>intro c2<;>try simp only [sx] at c2
  ·refine G O<|rStR 0 sz29 O<|Y<|zF<|fin1 (kZ zDb O (J 0 O) O) ?_
   rw [dE,c1,c2];rfl
  ·refine G O<|zM yY (J 1 O) O<|qD O uB (expr_rank e he) (vlr O)<|kO O<|mm O<|zK O ?_ ?_<;>intro c3<;>try simp only [sx] at c3
   ·refine G O<|rStR 0 sz29 O<|Y<|zF<|fin1 (kZ zDb O (J 0 O) O) ?_
    rw [dE,c1,c2,c3];rfl
   ·refine G O<|zM yY (J 1 O) O<|qD O uB (expr_types e he) (vlr O)<|kO O<|mm O<|zK O ?_ ?_<;>intro c4<;>try simp only [sx] at c4
    ·refine G O<|rStR 0 sz29 O<|Y<|zF<|fin1 (kZ zDb O (J 0 O) O) ?_
     rw [dE,c1,c2,c3,c4];rfl
    ·refine G O<|zC O kP<|zH one3 (J 1 O) O<|yF O<|A O<|rL0 O (fun g9_3=>zE O zFk O) O<|rL1 25 O (fun g9_3=>zU O yE O (J 1 O) O) O<|rL0 O (fun g9_3=>zE O zLz O) O<|rL1 27 O (fun g9_3=>zU O yP O (J 1 O) O) O<|rLz [(26,_),(28,_)] O gv1 ⟨O,O,O,O,T⟩ (fun g9_3=>qG O uB (value_Valid e.Ty e.Val) (vlr O)) O<|rL1 29 O (fun g9_3=>kG O O) O<|yT O (fun h=>h)<|mm O<|zK O (fun c5=>?_) (fun c5=>?_)
     ·have h5:=node5 c4 c5
      refine G O<|rStR 0 sz29 O<|Y<|zF<|fin1 (kZ zDb O (J 0 O) O) ?_
      rw [dE,c1,c2,c3,c4,lW,h5];rfl
     ·have h5:=node5 c4 c5
      refine zI<|zG<|G O<|zM yY (J 1 O) O<|qD O uB (expr_forms _) (vlr O)<|Y<|zQ<|zY _ (Weak.mem [true,false] O)<|zHc (ps:=[34]) hz 1 O O uB (forms_iter e he) (fun _ _=>O) O (fun pre=>pre.all bI=true) (fun pre=>[E.row b2 29 [cI 0]]) (fun c pre=>(c=.ret/\pre.all bI=false)) (fun c pre=>[E.row b2 29 [cI 1]]) ⟨O,O⟩ ?_ ?_ ?_ ?_
      ·intro pre x suf hxs hi z hz
       refine zT O<|zV O O (qH [none,some 2] O zr51 O) ?_
       rintro _ _ ⟨b3,rfl,rfl⟩
       refine rStR 0 sz51 O<|Y ?_
       intro z hz
       refine zQ<|G O<|zM kQ (J 0 O) O<|qD O uB (zDt x (forms_wt he (by rw [hxs];simp))) (vlr O)<|yL O<|Y<|zK O ?_ ?_<;>intro c6<;>try simp only [sx] at c6
       ·refine G O<|rStR 1 sz29 O<|Y<|zF ?_
        exact zDa (τ:=⟨[],_⟩) (Weak.mk [false,true] T O) ⟨⟨O,by simp only [bx,aW,zLt c6,aZ,co]⟩,O⟩
       ·refine zI ?_
        exact zDa (τ:=⟨[],_⟩) (Weak.mk [false,true] T O) ⟨by simp only [bx,hi,aW,fh,zLu c6,Bool.and_self],O⟩
      ·intro hd
       refine G O<|rStR 0 sz29 O<|Y<|zF<|fin1 (kZ zDb O (J 0 O) O) ?_
       rw [dE,c1,c2,c3,c4,lW,h5,hd];rfl
      ·rintro pre x suf hxs hx
       rcases hx with ⟨hc,hx⟩
       clear hc
       repeat (first|refine zPe ?_|refine zNl ?_)
       refine fin1 (kZ zDb O (J 0 O) O) ?_
       rw [dE,c1,c2,c3,c4,lW,h5,hxs,all_app_no hx];rfl
      ·rintro i pre x suf hxs hx
       rcases hx with ⟨hc,hx⟩
       cases hc
def expr_Size (e:Ex) (he:e.wt<=6000000000000):
    Pur cfg 176 [vE e] (vI (szT e)):=by
 refine zR func176 O ntmps176 results176 O fun z hz=>G O<|mj O fun b1=>mm O<|G O<|zV O O (qW O zr3) ?_
 rintro _ _ ⟨b2,rfl,rfl⟩
 refine rStR 0 sz3 O<|Y<|zG<|G O<|zM yY (J 1 O) O<|qD O uB (zQu _) (vlr O)<|Y<|zQ<|zY _ (Weak.mem [true,false] O)<|zHc (ps:=[6]) hz 1 O O uB (zPa e he) (fun _ _=>O) O (fun pre=>pre.length<=2000) (fun pre=>[E.row b2 3 [cI (pre.length:Int)]]) (fun c pre=>(c=.exit 0/\pre.length=2001)) (fun c pre=>[E.row b2 3 [cI (pre.length:Int)]]) ⟨uD,O⟩ ?_ ?_ ?_ ?_
 ·intro pre x suf hxs hi z hz
  refine zI ?_
  intro z hz
  refine zQ<|G O<|zH one3 (J 0 O) O<|qI O ⟨zA,zA⟩<|rStR 0 sz3 O<|Y<|G O<|zH one3 (J 0 O) O<|zW O (yD O O O)<|Y<|zK O ?_ ?_<;>intro c1<;>try simp only [sx] at c1
  ·refine qO ?_
   exact zDa (τ:=⟨[],_⟩) (Weak.mk [true] T O) ⟨⟨O,uE⟩,(by dsimp only;rw [show ((pre++[x]).length:Int)=pre.length+1 by simp];rfl)⟩
  ·refine zI ?_
   exact zDa (τ:=⟨[],_⟩) (Weak.mk [true] T O) ⟨uE,(by dsimp only;rw [show ((pre++[x]).length:Int)=pre.length+1 by simp];rfl)⟩
 ·intro hd
  refine G O<|zH one3 (J 0 O) O<|mm O<|zF<|zS O ?_
  exact ag vI (by rw [szT];omega)
 ·rintro pre x suf hxs hx
  rcases hx with ⟨hc,hx⟩
  cases hc
 ·rintro i pre x suf hxs hx
  rcases hx with ⟨hc,hx⟩
  injection hc with hc
  subst hc
  refine G O<|zH one3 (J 0 O) O<|mm O<|zF<|zS O ?_
  exact ag vI (by rw [szT,hxs];simp at hx⊢;omega)
def expr_Validate (e:Ex) (he:e.wt<=6000000000000):
    Pur cfg 156 [vE e] (vI (gI e)):=by
 refine zR func156 O ntmps156 results156 O fun z hz=>G O<|mj O fun b1=>zV O O (qW O zr29) ?_
 rintro _ _ ⟨b2,rfl,rfl⟩
 refine Y<|zG<|G O<|zM yY (J 1 O) O<|qD O uB (expr_Depth e he) (vlr O)<|zW O (yD O O O)<|Y<|zK O ?_ ?_<;>intro c1<;>try simp only [sx] at c1
 ·refine G O<|rStR 0 sz29 O<|Y<|zF<|fin1 (kZ zDb O (J 0 O) O) ?_
  rw [gI,wU c1];rfl
 ·refine zI<|zG<|G O<|zM yY (J 1 O) O<|qD O uB (expr_Size e he) (vlr O)<|zW O (yD O O O)<|Y<|zK O ?_ ?_<;>intro c2<;>try simp only [sx] at c2
  ·refine G O<|rStR 0 sz29 O<|Y<|zF<|fin1 (kZ zDb O (J 0 O) O) ?_
   rw [gI,qX zA,wU c2];rfl
  ·refine zI<|zG<|G O<|zM yY (J 1 O) O<|qD O uB (zQu _) (vlr O)<|Y<|zQ<|zY _ (Weak.mem [true,false] O)<|zHc (ps:=[13]) hz 1 O O uB (zPa e he) (fun _ _=>O) O (fun pre=>jR pre=0) (fun pre=>[E.row b2 29 [cI 0]]) (fun c pre=>(c=.ret/\¬jR pre=0)) (fun c pre=>[E.row b2 29 [cI (jR pre)]]) ⟨O,O⟩ ?_ ?_ ?_ ?_
   ·intro pre x suf hxs hi z hz
    have hxw:x.wt<=6000000000000:=by have:=zGq e x (by rw [hxs];simp);omega
    refine zT O<|zV O O (qH lx O zr54 O) ?_
    rintro _ _ ⟨b3,rfl,rfl⟩
    refine rStR 0 sz54 O<|Y ?_
    intro z hz
    refine zQ<|G O<|zM yY (J 0 O) O<|qD O uB (expr_validNode x hxw) (vlr O)<|mm O<|mo O O<|yL O<|Y<|zK O ?_ ?_<;>intro c3<;>try simp only [sx] at c3
    ·refine mo O O<|rStR 1 sz29 O<|Y<|zF ?_
     exact zDa (τ:=⟨[],_⟩) (Weak.mk [false,true] T O) ⟨⟨O,by rw [errs_one hi c3];exact c3⟩,(by dsimp only;rw [errs_one hi c3];rfl)⟩
    ·refine zI ?_
     exact zDa (τ:=⟨[],_⟩) (Weak.mk [false,true] T O) ⟨(by dsimp only;rw [zHo,hi,jR,c3];rfl),O⟩
   ·intro hd
    refine G O<|rStR 0 sz29 O<|Y<|zF<|fin1 (kZ zDb O (J 0 O) O) ?_
    rw [gI,qX zA,qX zA,az,az,dN,hd]
   ·rintro pre x suf hxs hx
    rcases hx with ⟨hc,hx⟩
    clear hc
    repeat (first|refine zPe ?_|refine zNl ?_)
    refine fin1 (kZ zDb O (J 0 O) O) ?_
    rw [gI,qX zA,qX zA,az,az,dN,hxs,errs_pre (suf:=suf) hx]
   ·rintro i pre x suf hxs hx
    rcases hx with ⟨hc,hx⟩
    cases hc
end Go.W
end
section
set_option maxRecDepth 10000
namespace Go.W
open Go Go.Eng Go.Proofs Go.L41 Go.Br Tryz
attribute [local irreducible] AWP RWP TD fK
def base_LinsF (a b:List Lf) (ha:a.length<=6000000000000) (hw:∀x,x∈a->x.L.length<=6000000000000):
    Pur cfg 164 [sM a,sM b] (vB (decide (a=b))):=by
 refine zR func164 O ntmps164 results164 O fun z hz=>ml O O<|zG<|mo O O<|qB O el90<|A O<|qB O el90<|yL O<|Y<|zK O (fun c1=>?_) (fun c1=>?_)
 ·exact n8
 ·try simp only [sx] at c1
  refine zI<|zG<|ml O O<|zQ<|zY ⟨[(5,.c _),(0,.c _),(1,.c _)],[]⟩ (Weak.mk [] ⟨zJ,zJ,zJ,T⟩ O)<|qL 1 0 O O (Nat) (fun k=>[(5,vI k)]) (fun k=>[]) (fun k=>k<=a.length/\(a.take k=b.take k)) (fun k=>a.length-k) ⟨0,⟨zA,O⟩,Weak.mk [] ⟨zJ,zJ,zJ,T⟩ O⟩ ?_
  rintro k ⟨hk,hp⟩
  refine zG<|mo O O<|A O<|qB O el90<|yI O<|Y<|zK O (fun c2=>?_) (fun c2=>?_)
  ·try simp only [sx] at c2
   obtain ⟨x,hx⟩:=qZ a k zA
   obtain ⟨y,hy⟩:=qZ b k zA
   refine zI<|zG<|zQ<|zG<|qV 10 mixed uB O O<|mr O (zO O O)<|mr O (zO O O)<|mr O (qE O el90 O O zA (getm uA))<|mr O (zU O kQ O zZ O)<|mr O (zO O O)<|mr O (zO O O)<|mr O (qE O el90 O O zA (getm uA))<|mr O (zU O kQ O zZ O)<|mr O (qG O uB (base_Lin x y (hw x (qA hx))) (vlr O))<|mr O (kG O O)<|yQ<|Y<|zK O (fun c3=>?_) (fun c3=>?_)
   ·exact j7
   ·exact p6
  ·exact m8
def base_Lins (a b:List Lf) (ha:a.length<=6000000000000) (hw:fI a<=6000000000000):Pur cfg 164 [sM a,sM b] (vB (decide (a=b))):=
  base_LinsF a b ha fun x hx=>by have:=zEn hx;omega
def base_Index (a b:Ix) (ha:a.wt<=6000000000000):
    Pur cfg 143 [lT a,lT b] (vB (decide (a=b))):=by
 refine zR func143 O ntmps143 results143 O ?_
 intro z hz
 have hw:=ha
 unfold Ix.wt at hw
 refine G O<|mj O fun b1=>mj O fun b2=>mm O<|G O<|zC O zFi<|zH one9 (J 1 O) O<|zC O zFi<|zH one9 (J 0 O) O<|wP O<|A O<|rL0 O (fun g1_5=>zE O zFw O) O<|rL1 11 O (fun g1_5=>zU O kQ O (J 1 O) O) O<|rL0 O (fun g1_5=>zE O zFw O) O<|rL1 13 O (fun g1_5=>zU O kQ O (J 0 O) O) O<|rLz [(12,_),(14,_)] O gv1 ⟨O,O,O,O,T⟩ (fun g1_5=>qG O uB (base_Lin a.Lin b.Lin zA) (vlr O)) O<|yT O (fun h=>h)<|A O<|rL0 O (fun g1_12=>zE O zBa O) O<|rL1 18 O (fun g1_12=>zD O zFf O (J 1 O) O) O<|rL0 O (fun g1_12=>zE O zBa O) O<|rL1 20 O (fun g1_12=>zD O zFf O (J 0 O) O) O<|rLz [(19,_),(21,_)] O gv1 ⟨O,O,O,O,T⟩ (fun g1_12=>qG O uB (base_Lins a.At b.At zA zA) (vlr O)) O<|yT O (fun h=>h)<|mm O<|zF<|zS O ?_
 exact ag vB (ix_eq a b)
def zTx (a b:List Ix) (ha:a.length<=6000000000000) (hw:dO a<=6000000000000):
    Pur cfg 116 [jF a,jF b] (vB (decide (a=b))):=by
 refine zR func116 O ntmps116 results116 O fun z hz=>ml O O<|zG<|mo O O<|qB O v<|A O<|qB O v<|yL O<|Y<|zK O (fun c1=>?_) (fun c1=>?_)
 ·exact n8
 ·try simp only [sx] at c1
  refine zI<|zG<|ml O O<|zQ<|zY ⟨[(5,.c _),(0,.c _),(1,.c _)],[]⟩ (Weak.mk [] ⟨zJ,zJ,zJ,T⟩ O)<|qL 1 0 O O (Nat) (fun k=>[(5,vI k)]) (fun k=>[]) (fun k=>k<=a.length/\(a.take k=b.take k)) (fun k=>a.length-k) ⟨0,⟨zA,O⟩,Weak.mk [] ⟨zJ,zJ,zJ,T⟩ O⟩ ?_
  rintro k ⟨hk,hp⟩
  refine zG<|mo O O<|A O<|qB O v<|yI O<|Y<|zK O (fun c2=>?_) (fun c2=>?_)
  ·try simp only [sx] at c2
   obtain ⟨x,hx⟩:=qZ a k zA
   obtain ⟨y,hy⟩:=qZ b k zA
   have hxw:=zBu (qA hx)
   refine zI<|zG<|zQ<|zG<|qV 10 mixed uB O O<|mr O (zO O O)<|mr O (zO O O)<|mr O (qE O v O O zA (getm uA))<|mr O (zU O zRn O zZ O)<|mr O (zO O O)<|mr O (zO O O)<|mr O (qE O v O O zA (getm uA))<|mr O (zU O zRn O zZ O)<|mr O (qG O uB (base_Index x y zA) (vlr O))<|mr O (kG O O)<|yQ<|Y<|zK O (fun c3=>?_) (fun c3=>?_)
   ·exact j7
   ·exact p6
  ·exact m8
def base_Exprs_of (a b:List Ex) (hE:∀x,x∈a->∀y,Pur cfg 117 [vE x,vE y] (vB (decide (x=y)))) (ha:a.length<=6000000000000):
    Pur cfg 145 [vEs a,vEs b] (vB (decide (a=b))):=by
 refine zR func145 O ntmps145 results145 O fun z hz=>ml O O<|zG<|mo O O<|qB O el52<|A O<|qB O el52<|yL O<|Y<|zK O (fun c1=>?_) (fun c1=>?_)
 ·exact n8
 ·try simp only [sx] at c1
  refine zI<|zG<|ml O O<|zQ<|zY ⟨[(5,.c _),(0,.c _),(1,.c _)],[]⟩ (Weak.mk [] ⟨zJ,zJ,zJ,T⟩ O)<|qL 1 0 O O (Nat) (fun k=>[(5,vI k)]) (fun k=>[]) (fun k=>k<=a.length/\(a.take k=b.take k)) (fun k=>a.length-k) ⟨0,⟨zA,O⟩,Weak.mk [] ⟨zJ,zJ,zJ,T⟩ O⟩ ?_
  rintro k ⟨hk,hp⟩
  refine zG<|mo O O<|A O<|qB O el52<|yI O<|Y<|zK O (fun c2=>?_) (fun c2=>?_)
  ·try simp only [sx] at c2
   obtain ⟨x,hx⟩:=qZ a k zA
   obtain ⟨y,hy⟩:=qZ b k zA
   refine zI<|zG<|zQ<|zG<|qV 10 mixed uB O O<|mr O (zO O O)<|mr O (zO O O)<|mr O (qE O el52 O O zA (zCy uA))<|mr O (zU O yY O zZ O)<|mr O (zO O O)<|mr O (zO O O)<|mr O (qE O el52 O O zA (zCy uA))<|mr O (zU O yY O zZ O)<|mr O (qG O uB (hE x (qA hx) y) (vlr O))<|mr O (kG O O)<|yQ<|Y<|zK O (fun c3=>?_) (fun c3=>?_)
   ·exact j7
   ·exact p6
  ·exact m8
def base_Expr_step (a:Ex) (ih:∀x,x∈a.Args->x.wt<=6000000000000->∀y,Pur cfg 117 [vE x,vE y] (vB (decide (x=y)))) (ha:a.wt<=6000000000000) (b:Ex):
    Pur cfg 117 [vE a,vE b] (vB (decide (a=b))):=by
 refine zR func117 O ntmps117 results117 O ?_
 intro z hz
 obtain ⟨hL,hI,hA⟩:=a.parts ha
 have hw:=Ex.wt_eq a
 refine G O<|mj O fun b1=>mj O fun b2=>mm O<|G O<|zC O kP<|zH one3 (J 1 O) O<|zC O kP<|zH one3 (J 0 O) O<|yF O<|A O<|rL0 O (fun g1_5=>zE O zGz O) O<|rL1 11 O (fun g1_5=>zD O one9 O (J 1 O) O) O<|rL0 O (fun g1_5=>zE O zGz O) O<|rL1 13 O (fun g1_5=>zD O one9 O (J 0 O) O) O<|rLz [(12,_),(14,_)] O gv1 ⟨O,O,O,O,T⟩ (fun g1_5=>zNi O O O) O<|yT O (fun h=>h)<|A O<|rL0 O (fun g1_12=>zE O zLz O) O<|rL1 18 O (fun g1_12=>zU O yP O (J 1 O) O) O<|rL0 O (fun g1_12=>zE O zLz O) O<|rL1 20 O (fun g1_12=>zU O yP O (J 0 O) O) O<|rLz [(19,_),(21,_)] O gv1 ⟨O,O,O,O,T⟩ (fun g1_12=>zVk O fl46 O O O) O<|yT O (fun h=>h)<|A O<|rL0 O (fun g1_19=>zE O zFk O) O<|rL1 25 O (fun g1_19=>zU O yE O (J 1 O) O) O<|rL0 O (fun g1_19=>zE O zFk O) O<|rL1 27 O (fun g1_19=>zU O yE O (J 0 O) O) O<|rLz [(26,_),(28,_)] O gv1 ⟨O,O,O,O,T⟩ (fun g1_19=>zVk O fl48 O O O) O<|yT O (fun h=>h)<|A O<|rL0 O (fun g1_26=>zE O zEk O) O<|rL1 32 O (fun g1_26=>zU O kQ O (J 1 O) O) O<|rL0 O (fun g1_26=>zE O zEk O) O<|rL1 34 O (fun g1_26=>zU O kQ O (J 0 O) O) O<|rLz [(33,_),(35,_)] O gv1 ⟨O,O,O,O,T⟩ (fun g1_26=>qG O uB (base_Lin a.Lin b.Lin hL) (vlr O)) O<|yT O (fun h=>h)<|A O<|rL0 O (fun g1_33=>zE O wK O) O<|rL1 39 O (fun g1_33=>zD O wT O (J 1 O) O) O<|rL0 O (fun g1_33=>zE O wK O) O<|rL1 41 O (fun g1_33=>zD O wT O (J 0 O) O) O<|rLz [(40,_),(42,_)] O gv1 ⟨O,O,O,O,T⟩ (fun g1_33=>qG O uB (zTx a.Idx b.Idx hI zA) (vlr O)) O<|yT O (fun h=>h)<|A O<|rL0 O (fun g1_40=>zE O wD O) O<|rL1 46 O (fun g1_40=>zD O zAs O (J 1 O) O) O<|rL0 O (fun g1_40=>zE O wD O) O<|rL1 48 O (fun g1_40=>zD O zAs O (J 0 O) O) O<|rLz [(47,_),(49,_)] O gv1 ⟨O,O,O,O,T⟩ (fun g1_40=>qG O uB (base_Exprs_of a.Args b.Args (fun x hx y=>ih x hx (by have:=Ex.arg_wt hx;omega) y) hA) (vlr O)) O<|yT O (fun h=>h)<|mm O<|zF<|zS O ?_
 exact ag vB (ex_eq a b)
def base_Expr (a b:Ex) (ha:a.wt<=6000000000000):Pur cfg 117 [vE a,vE b] (vB (decide (a=b))):=by
  induction a using Ex.ind generalizing b with
  |_ a ih=>exact base_Expr_step a (fun x hx h y=>ih x hx y h) ha b
def zZv (e:Ex) (ih:∀a,a∈e.Args->∀(m:Nat) (x:Int),a.fit->m<=1000000->x=m->Pur cfg 40 [vE a,vI x] (vI (gG a m))) (m:Nat) (x:Int) (hf:e.fit) (hm:m<=1000000) (hx:x=m):
    Pur cfg 40 [vE e,vI x] (vI (gG e m)):=by
 refine zR func40 O ntmps40 results40 O ?_
 intro z hz
 obtain ⟨f1,f2,f3,f4,f5⟩:=Ex.fit_eq hf
 have hW:=weighE_eq e m
 refine G O<|mj O fun b1=>mm O<|G O<|zC O zEk<|zC O wM<|zH zBs (J 0 O) O<|qB O N<|qI O ⟨zA,zA⟩<|zC O wK<|zH wT (J 0 O) O<|qB O v<|qI O ⟨zA,zA⟩<|mm O<|zG<|ml O O<|zQ<|zY ⟨[(6,.c _),(5,.c _),(1,.c _),(2,.c _)],[_]⟩ (Weak.mk [true] ⟨zJ,zJ,zJ,zJ,T⟩ O) ?_
 refine qL 2 0 O O (Nat×Nat) (fun ⟨k,n⟩=>[(6,vI k),(5,vI n)]) (fun ⟨k,n⟩=>[]) (fun ⟨k,n⟩=>k<=e.Idx.length/\(n<=m+4*140737488355328)/\(fN m (1+e.Lin.L.length+e.Idx.length) e.Idx=fN m n (e.Idx.drop k))) (fun ⟨k,n⟩=>e.Idx.length-k) ⟨⟨0,1+e.Lin.L.length+e.Idx.length⟩,⟨zA,zA,O⟩,Weak.mk [true] ⟨zJ,VLe.of_eq (ag vI zA),zJ,zJ,T⟩ O⟩ ?_
 rintro ⟨k,n⟩ ⟨hk,hn1,hn2⟩
 show AWP _ _ _ _ _ ⟨[(6,vI k),(5,vI n)]++_,[]++_⟩
 refine zG<|mo O O<|zC O wK<|zH wT (J 0 O) O<|qB O v<|yI O<|A O<|rL0 O (fun g3_5=>zO O O) O<|rL0 O (fun g3_5=>zO O O) O<|rLz [(24,_),(25,_)] O gv1 ⟨O,O,O,O,T⟩ (fun g3_5=>wS O O O) O<|yT O (fun h=>h)<|Y<|zK O ?_ ?_<;>intro c1<;>try simp only [sx] at c1
 ·obtain ⟨y,hy⟩:=qZ e.Idx k zA
  obtain ⟨i1,i2,i3⟩:=f4 y (qA hy)
  refine zI<|zG<|zQ<|zG<|qV 19 mixed uB O O<|mr O (zO O O)<|mr O (zE O wK O)<|mr O (zD O wT O (J 0 O) O)<|mr O (zO O O)<|mr O (qE O v O O zA (getm uA))<|mr O (qN O zFw O)<|mr O (qN O wM O)<|mr O (zD O zBs O zZ O)<|mr O (yK O N O)<|mr O (zEs O O O ⟨zA,zA⟩)<|mr O (zE O wK O)<|mr O (zD O wT O (J 0 O) O)<|mr O (zO O O)<|mr O (qE O v O O zA (getm uA))<|mr O (qN O zBa O)<|mr O (zD O zFf O zZ O)<|mr O (yK O el90 O)<|mr O (zEs O O O ⟨zA,zA⟩)<|mr O (qY O O)<|yQ<|Y<|ml O O<|zQ<|zY ⟨[(7,.c _),(5,.c _),(1,.c _),(2,.c _),(6,.c _)],[_]⟩ (Weak.mk [true] ⟨zJ,zJ,zJ,zJ,zJ,T⟩ O) ?_
  refine qL 2 0 O O (Nat×Nat) (fun ⟨j,p⟩=>[(7,vI j),(5,vI p)]) (fun ⟨j,p⟩=>[]) (fun ⟨j,p⟩=>j<=y.At.length/\(p<=m+4*140737488355328)/\(gP m (n+y.Lin.L.length+y.At.length) y.At=gP m p (y.At.drop j))) (fun ⟨j,p⟩=>y.At.length-j) ⟨⟨0,n+y.Lin.L.length+y.At.length⟩,⟨zA,zA,O⟩,Weak.mk [true] ⟨zJ,VLe.of_eq (ag vI zA),zJ,zJ,zJ,T⟩ O⟩ ?_
  rintro ⟨j,p⟩ ⟨hj,hp1,hp2⟩
  show AWP _ _ _ _ _ ⟨[(7,vI j),(5,vI p)]++_,[]++_⟩
  refine zG<|mo O O<|zC O wK<|zH wT (J 0 O) O<|A O<|qC O v zA (getm uA)<|qR O zBa<|zH zFf zZ O<|qB O el90<|yI O<|A O<|rL0 O (fun g7_9=>zO O O) O<|rL0 O (fun g7_9=>zO O O) O<|rLz [(58,_),(59,_)] O gv1 ⟨O,O,O,O,T⟩ (fun g7_9=>wS O O O) O<|yT O (fun h=>h)<|Y<|zK O ?_ ?_<;>intro c2<;>try simp only [sx] at c2
  ·obtain ⟨l,hl⟩:=qZ y.At j zA
   have hl2:=i3 l (qA hl)
   refine zI<|zG<|zQ<|zT O<|A O<|zC O wK<|zH wT (J 0 O) O<|A O<|qC O v zA (getm uA)<|qR O zBa<|zH zFf zZ O<|A O<|qC O el90 zA (getm uA)<|qR O wM<|zH zBs zZ O<|qB O N<|qI O ⟨zA,zA⟩<|mm O<|zT O<|A O<|qI O ⟨zA,zA⟩<|A O<|Y ?_
   refine ⟨⟨j+1,p+l.L.length⟩,⟨zA,zA,by rw [hp2,qQ hl,gP,ab zA]⟩,(by show y.At.length-(j+1)<y.At.length-j;omega),Weak.mk [true] ⟨zJ,VLe.of_eq (ag vI zA),zJ,zJ,zJ,T⟩ O⟩
  ·have hN2:=weighAt_end (l:=y.At) (k:=j) (n:=p) hx zA
   refine qO<|zT O<|A O<|qI O ⟨zA,zA⟩<|A O<|Y ?_
   refine ⟨⟨k+1,p⟩,⟨zA,hp1,by rw [hn2,qQ hy,fN,ab zA,hp2,←hN2]⟩,(by show e.Idx.length-(k+1)<e.Idx.length-k;omega),Weak.mk [true] ⟨zJ,zJ,zJ,zJ,T⟩ O⟩
 ·have hN:=weighIdx_end (l:=e.Idx) (k:=k) (n:=n) hx zA
  refine qO<|zG<|ml O O<|zQ<|zY ⟨[(8,.c _),(5,.c _),(1,.c _),(2,.c _)],[_]⟩ (Weak.mk [true] ⟨zJ,zJ,zJ,zJ,T⟩ O)<|qL 2 0 O O (Nat×Nat) (fun ⟨k,n⟩=>[(8,vI k),(5,vI n)]) (fun ⟨k,n⟩=>[]) (fun ⟨k,n⟩=>k<=e.Args.length/\(n<=m+4*140737488355328)/\(gG e m=lE (e.Args.drop k) m n)) (fun ⟨k,n⟩=>e.Args.length-k) ⟨⟨0,n⟩,⟨zA,hn1,by rw [hW,hn2,←hN];rfl⟩,Weak.mk [true] ⟨zJ,zJ,zJ,zJ,T⟩ O⟩ ?_
  rintro ⟨k,n⟩ ⟨hk3,hn3,hn4⟩
  show AWP _ _ _ _ _ ⟨[(8,vI k),(5,vI n)]++_,[]++_⟩
  refine zG<|mo O O<|zC O wD<|zH zAs (J 0 O) O<|qB O el52<|yI O<|A O<|rL0 O (fun g11_5=>zO O O) O<|rL0 O (fun g11_5=>zO O O) O<|rLz [(83,_),(84,_)] O gv1 ⟨O,O,O,O,T⟩ (fun g11_5=>wS O O O) O<|yT O (fun h=>h)<|Y<|zK O ?_ ?_<;>intro c3<;>try simp only [sx] at c3
  ·obtain ⟨a,ha⟩:=qZ e.Args k zA
   have hwa:=zIa a (m-n) (f5 a (qA ha))
   refine zI<|zG<|zQ<|zT O<|A O<|zC O wD<|zH zAs (J 0 O) O<|A O<|qC O el52 zA (zCy uA)<|zM yY zZ O<|A O<|A O<|zW O (yB O O O ⟨zA,zA⟩)<|qD O uB (ih a (qA ha) (m-n) _ (f5 a (qA ha)) zA zA) (vlr O)<|qI O ⟨zA,zA⟩<|mm O<|zT O<|A O<|qI O ⟨zA,zA⟩<|A O<|Y ?_
   refine ⟨⟨k+1,n+gG a (m-n)⟩,⟨zA,zA,by rw [hn4,qQ ha,lE,ab zA]⟩,(by show e.Args.length-(k+1)<e.Args.length-k;omega),Weak.mk [true] ⟨zJ,VLe.of_eq (ag vI zA),zJ,zJ,T⟩ O⟩
  ·refine qO<|mo O O<|mm O<|zF<|zS O ?_
   exact ag vI (by rw [hn4,←weighL_end hx zA])
def base_Weigh (e:Ex) (m:Nat) (x:Int) (hf:e.fit) (hm:m<=1000000) (hx:x=m):Pur cfg 40 [vE e,vI x] (vI (gG e m)):=by
  induction e using Ex.ind generalizing m x with
  |_ e ih=>exact zZv e (fun a ha m x h1 h2 h3=>ih a ha m x h1 h2 h3) m x hf hm hx
def zSa (l:List Mono) (hl:l.length<=5864062014805):
    OwnR cfg 138 [xQ l] 109 2 (l.map Mono.cells):=by
 refine zR func138 O ntmps138 results138 O fun z hz=>G O<|yJ 2 O<|Y<|zG<|mo O O<|zV O O (zIk O N O O) ?_
 rintro _ _ ⟨nb1,rfl,hnil1,rfl⟩
 refine Y<|zK O ?_ ?_<;>intro c1<;>try simp only [sx] at c1
 ·refine mo O O<|yU _ (wE 109 2)<|Y<|zF<|zS O ?_
  exact ⟨_,O,by rw [hnil1 c1]⟩
 ·refine zI<|G O<|zV O O (zDr O N zKr O O O O) ?_
  rintro _ _ ⟨sv3,rfl,rfl⟩
  refine A O<|zV O O (yO 0 O N O O O uG uG) ?_
  exact l7
def zUc (l:List Lf) (hl:l.length<=4294967296):
    OwnR cfg 121 [sM l] 51 2 (l.map Lf.cells):=by
 refine zR func121 O ntmps121 results121 O fun z hz=>G O<|yJ 2 O<|Y<|zG<|mo O O<|zV O O (zIk O el90 O O) ?_
 rintro _ _ ⟨nb1,rfl,hnil1,rfl⟩
 refine Y<|zK O ?_ ?_<;>intro c1<;>try simp only [sx] at c1
 ·refine mo O O<|yU _ (wE 51 2)<|Y<|zF<|zS O ?_
  exact ⟨_,O,by rw [hnil1 c1]⟩
 ·refine zI<|G O<|zV O O (zDr O el90 zr51 O O O O) ?_
  rintro _ _ ⟨sv3,rfl,rfl⟩
  refine A O<|zV O O (yO 0 O el90 O O O uG uG) ?_
  exact l7
def zWo (l:List Ix) (hl:l.length<=4294967296):
    OwnR cfg 120 [jF l] 92 4 (l.map Ix.cells):=by
 refine zR func120 O ntmps120 results120 O fun z hz=>G O<|yJ 4 O<|Y<|zG<|mo O O<|zV O O (zIk O v O O) ?_
 rintro _ _ ⟨nb1,rfl,hnil1,rfl⟩
 refine Y<|zK O ?_ ?_<;>intro c1<;>try simp only [sx] at c1
 ·refine mo O O<|yU _ (wE 92 4)<|Y<|zF<|zS O ?_
  exact ⟨_,O,by rw [hnil1 c1]⟩
 ·refine zI<|G O<|zV O O (zDr O v zr92 O O O O) ?_
  rintro _ _ ⟨sv3,rfl,rfl⟩
  refine A O<|zV O O (yO 0 O v O O O uG uG) ?_
  exact l7
def zWp (l:List Ex) (hl:l.length<=4294967296):
    OwnR cfg 122 [vEs l] 54 13 (l.map Ex.cells):=by
 refine zR func122 O ntmps122 results122 O fun z hz=>G O<|yJ 13 O<|Y<|zG<|mo O O<|zV O O (zIk O el52 O O) ?_
 rintro _ _ ⟨nb1,rfl,hnil1,rfl⟩
 refine Y<|zK O ?_ ?_<;>intro c1<;>try simp only [sx] at c1
 ·refine mo O O<|yU _ (wE 54 13)<|Y<|zF<|zS O ?_
  exact ⟨_,O,by rw [hnil1 c1]⟩
 ·refine zI<|G O<|zV O O (zDr O el52 zr54 O O O O) ?_
  rintro _ _ ⟨sv3,rfl,rfl⟩
  refine A O<|zV O O (yO 0 O el52 O O O uG uG) ?_
  exact l7
end Go.W
end
