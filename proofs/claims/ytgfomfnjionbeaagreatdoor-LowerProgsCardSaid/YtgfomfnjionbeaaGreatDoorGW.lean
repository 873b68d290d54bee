/-
  What functions compute.
  And what the laws need besides.
  Conditions: none.
-/
import Derived.Test.YtgfomfnjionbeaaGreatDoorCfg
import Derived.Test.YtgfomfnjionbeaaGreatDoorPlain
import Derived.Test.YtgfomfnjionbeaaGreatDoorEngZ
import Derived.Test.YtgfomfnjionbeaaGreatDoorPlain2
set_option linter.unusedSimpArgs false
set_option linter.unusedVariables false
set_option linter.defProp false
section
set_option maxRecDepth 10000
namespace Go.W
open Go Go.Eng Go.Proofs Go.L41 Go.Br Tryz
attribute [local irreducible] oU oX TD gF
def P0:∀(j:Nat) (b:UInt8),(bs kwBytes).data.toList[j]? =some b->b.toNat<128:=by
  intro j b h
  have:(kwBytes.all λc=>decide (c.toNat<128))=true:=by decide
  rw [rl] at this
  simpa using this b (bw h)
def MH:(Lib.fields kwBytes).map bs=fV:=by decide+kernel
def nm1 {s:nq} (h:Lz (!decide (s=bs [])&&decide ((s.size:Int)<=16)) true=true):¬s=bs []:=by
  simp only [Lz,aB,ae,aA,ao] at h
  exact h.1
def nm2 {s:nq} {p:Bool} (h:Lz (!decide (s=bs [])&&decide ((s.size:Int)<=16)&&p) true=true):s.size<=1000000:=by
  simp only [Lz,aB,ae,aj] at h
  omega
def yV:nN prog 59=some 2:=by kernel_rfl
def vf:nN prog 93=some 4:=by kernel_rfl
def Eb:nN prog 139=some 2:=by kernel_rfl
def oR:dW prog 25=some (9,1,16):=by kernel_rfl
def oO:dW prog 52=some (93,4,72):=by kernel_rfl
def N:dW prog 57=some (139,2,24):=by kernel_rfl
def ui:bH prog 59 0=some (0,2):=by kernel_rfl
def kA:bH prog 59 1=some (1,57):=by kernel_rfl
def wH:bH prog 139 0=some (0,9):=by kernel_rfl
def AD:bH prog 139 1=some (1,2):=by kernel_rfl
def fl139:flatK prog 139=some [.str,.int]:=by kernel_rfl
def ik21:vJ prog 21=some .i32:=by kernel_rfl
def mixed:prog.follows .mixedOrders=true:=by kernel_rfl
def W:fW prog 2=true:=by kernel_rfl
def qe:fD prog 59=some [(0,1),(1,1)]:=by kernel_rfl
def uf:fD prog 139=some [(0,1),(1,1)]:=by kernel_rfl
def oZ:(prog.info? 59).map (·.size)=some 2:=by kernel_rfl
def tg:(prog.info? 139).map (·.size)=some 2:=by kernel_rfl
def Hi:prog.underlying 9=some .string:=by kernel_rfl
def Hf:dZ prog 9=some [Hj]:=by kernel_rfl
def U:dZ prog 59=some [pn,qn]:=by kernel_rfl
def te:dZ prog 139=some [Hj,pn]:=by kernel_rfl
def zUi (n:Int):
    oK cfg 53 [vR n] (vB (nX n)):=by
 refine zW func53 O ntmps53 results53 O ?_
 exact l5
def Fj (n:Int):
    oK cfg 110 [vR n] (vB (xJ n)):=by
 refine zW func110 O ntmps110 results110 O ?_
 exact l5
def C0 (n:Int):
    oK cfg 55 [vR n] (vB (sJ n)):=by
 refine zW func55 O ntmps55 results55 O λz hz=>ol O O<|oo O O<|qK O uB (zUi _) (oy O)<|G O<|oL O (λg1_2=>zQ O O) O<|oG 6 O (λg1_2=>qP O uB (Fj _) (oy O)) O<|oN O (λh=>(oY h))<|G O<|oL O (λg1_6=>zQ O O) O<|oG 10 O (λg1_6=>yU O O O) O<|oN O (λh=>(oY h))<|om O<|zM<|zV O ?_
 exact O
def zTl (s:nq) (hs:s.size<=1000000):
    oK cfg 54 [vS s,.c (.fn (.func 55) [] [])] (vI (tI gY s.data.toList)):=by
 refine zW func54 O ntmps54 results54 O λz hz=>ol O O<|ol O O<|zF<|zS<|zT ⟨[(5,.c _),(0,.c _),(1,.c _)],[]⟩ (oz [] oH O)<|qG 1 0 O O (Nat) (λk=>[(5,vI k)]) (λk=>[]) (λk=>k<=s.size/\(s.data.toList.take k).all gY=true) (λk=>s.size-k) ⟨0,⟨zB,O⟩,oz [] oH O⟩ ?_
 rintro k ⟨hk,hp⟩
 refine zF<|oo O O<|G O<|zX O (SW O Hi O)<|yC O<|G O<|oL O (λg2_4=>zQ O O) O<|oL O (λg2_4=>zQ O O) O<|oL O (λg2_4=>zQ O O) O<|oV [(12,_),(13,_)] O oP ⟨O,O,O,O,T⟩ (λg2_4=>zGf O Hi O O zB (by simp only [Lz,aB,aj] at g2_4;omega)) O<|oG 14 O (λg2_4=>wA O uB ik21 O) O<|oV [(11,_),(15,_)] O oP ⟨O,O,O,O,T⟩ (λg2_4=>zFd O O uB (C0 _) (oy O)) O<|kF O (λh=>h)<|zA<|zK O ?_ ?_<;>intro c1<;>try simp only [sx] at c1
 ·obtain ⟨hlt,hcc⟩:=c1
  have hlt:k<s.size:=by omega
  rw [zPc] at hcc
  refine zJ<|zS<|zP O<|G O<|qH O ⟨zB,zB⟩<|G O<|zA ?_
  have hg:=S3 hlt
  refine ⟨k+1,⟨zB,by rw [zRx hg,hp];exact hcc⟩,zB,oz [] oH O⟩
 ·have hsp:tI gY s.data.toList=k:=NS hp (by
    by_cases hlt:k<s.size
    · right;refine ⟨_,S3 hlt,?_⟩;rcases c1 with c1|c1;omega;rw [zPc] at c1;exact c1
    · left;simp;omega)
  refine qL<|oo O O<|om O<|zM<|zV O ?_
  rw [hsp]
def zUx (l:List nq) (s:nq) (hl:l.length<=6000000000000):
    oK cfg 102 [sy l,vS s] (vI (cM l s)):=by
 refine zW func102 O ntmps102 results102 O λz hz=>ol O O<|zF<|oo O O<|qC O oR<|om O<|zS<|zT ⟨[(8,.c _),(0,.c _),(1,.c _),(7,.c _)],[]⟩ (oz [] oH O)<|qG 1 0 O O (Nat) (λk=>[(8,vI k)]) (λk=>[]) (λk=>k<=l.length/\bQ (l.take k) s=false) (λk=>l.length-k) ⟨0,⟨zB,O⟩,oz [] oH O⟩ ?_
 rintro k ⟨hk,hp⟩
 refine Y O<|yC O<|zA<|zF<|zK O ?_ ?_<;>intro c1<;>try simp only [sx] at c1
 ·obtain ⟨t,ht⟩:=qX l k zB
  refine zJ<|zF<|zS<|oo O O<|om O<|oo O O<|G O<|G O<|qF O oR zB (oI ht)<|zE uB qE O<|wF O<|zA<|zK O ?_ ?_<;>intro c2<;>try simp only [sx] at c2
  ·refine oo O O<|om O<|zM<|zV O ?_
   rw [Mw ht c2 hp]
  ·refine zJ<|zP O<|qH O ⟨zB,zB⟩<|G O<|zA ?_
   refine ⟨k+1,⟨zB,zUk ht hp (λe=>c2 e.symm)⟩,zB,oz [] oH O⟩
 ·refine qL<|ol O O<|zM<|zV O ?_
  rw [Be xK4]
def zBi (l:List nq) (s:nq) (hl:l.length<=6000000000000):
    oK cfg 44 [sy l,vS s] (vB (bQ l s)):=by
 refine zW func44 O ntmps44 results44 O λz hz=>ol O O<|oo O O<|G O<|qK O uB (zUx l s hl) (oy O)<|zX O (wN O O O)<|om O<|zM<|zV O ?_
 rw [PM]
def xq:
    oK cfg 111 [] (sy fV):=by
 refine zW func111 O ntmps111 results111 O λz hz=>Y O<|qY 1 O<|zA<|Y O<|qK O uB (strings_Fields _ uA P0) (oy O)<|om O<|zM<|zV O ?_
 exact ai sy MH
def zZe (s:nq):
    oK cfg 56 [vS s] (vB (bQ fV s)):=by
 refine zW func56 O ntmps56 results56 O λz hz=>ol O O<|Y O<|qK O uB (xq) T<|G O<|qK O uB (zBi _ _ uA) (oy O)<|om O<|zM<|zV O ?_
 exact O
def ZX (s:nq):
    oK cfg 19 [vS s] (vB (bB s)):=by
 refine zW func19 O ntmps19 results19 O λz hz=>ol O O<|oo O O<|zX O (S4 O O O)<|G O<|oL O (λg1_2=>zQ O O) O<|oG 6 O (λg1_2=>SW O Hi O) O<|oG 7 O (λg1_2=>vb O O O) O<|kF O (λh=>h)<|G O<|oL O (λg1_7=>zQ O O) O<|oG 11 O (λg1_7=>zGf O Hi O O uA (Gv (nm1 g1_7))) O<|oG 12 O (λg1_7=>wA O uB ik21 O) O<|oG 13 O (λg1_7=>qP O uB (zUi _) (oy O)) O<|kF O (λh=>h)<|G O<|oL O (λg1_13=>zQ O O) O<|oG 17 O (λg1_13=>qP O uB (zTl s (nm2 g1_13)) (oy O)) O<|oL O (λg1_13=>zQ O O) O<|oG 19 O (λg1_13=>SW O Hi O) O<|oV [(18,_),(20,_)] O oP ⟨O,O,O,O,T⟩ (λg1_13=>yU O O O) O<|kF O (λh=>h)<|G O<|oL O (λg1_20=>zQ O O) O<|oG 24 O (λg1_20=>qP O uB (zZe _) (oy O)) O<|oG 25 O (λg1_20=>wM O O) O<|kF O (λh=>h)<|om O<|zM<|zV O ?_
 exact ai vB (MD s)
def HA:
    oK cfg 57 [] (sy fV):=by
 refine zW func57 O ntmps57 results57 O λz hz=>Y O<|qY 1 O<|zA<|Y O<|yT O oR Hf<|om O<|zM<|zV O ?_
 exact O
def VM (l:List nq) (s:nq) (hl:l.length<=6000000000000):
    oK cfg 46 [sy l,vS s] (vB (bQ l s)):=by
 refine zW func46 O ntmps46 results46 O λz hz=>ol O O<|zF<|ol O O<|zS<|zT ⟨[(5,.c _),(0,.c _),(1,.c _)],[]⟩ (oz [] oH O)<|qG 1 0 O O (Nat) (λk=>[(5,vI k)]) (λk=>[]) (λk=>k<=l.length/\bQ (l.take k) s=false) (λk=>l.length-k) ⟨0,⟨zB,O⟩,oz [] oH O⟩ ?_
 rintro k ⟨hk,hp⟩
 refine zF<|oo O O<|G O<|qC O oR<|yC O<|zA<|zK O ?_ ?_<;>intro c1<;>try simp only [sx] at c1
 ·obtain ⟨t,ht⟩:=qX l k zB
  refine zJ<|zF<|zS<|oo O O<|G O<|qF O oR zB (oI ht)<|zE uB qE O<|G O<|wF O<|zA<|zK O ?_ ?_<;>intro c2<;>try simp only [sx] at c2
  ·refine ol O O<|zM<|zV O ?_
   rw [kS ht c2]
  ·refine zJ<|zP O<|G O<|qH O ⟨zB,zB⟩<|G O<|zA ?_
   refine ⟨k+1,⟨zB,zUk ht hp c2⟩,zB,oz [] oH O⟩
 ·refine qL<|ol O O<|zM<|zV O ?_
  rw [show bQ l s=false by rw [yG zB] at hp;exact hp]
def VI (s:nq):
    oK cfg 20 [vS s] (vB (bB s)):=by
 refine zW func20 O ntmps20 results20 O λz hz=>ol O O<|zF<|oo O O<|zX O (SW O Hi O)<|yC O<|G O<|oL O (λg1_3=>zQ O O) O<|oG 9 O (λg1_3=>SW O Hi O) O<|oG 10 O (λg1_3=>kE O O O) O<|oN O (λh=>(oY h))<|G O<|oL O (λg1_8=>qP O uB (HA) T) O<|oL O (λg1_8=>zQ O O) O<|oV [(14,_),(15,_)] O oP ⟨O,O,O,O,T⟩ (λg1_8=>qP O uB (VM _ _ uA) (oy O)) O<|oN O (λh=>(oY h))<|zA<|zK O ?_ ?_<;>intro c1<;>try simp only [sx] at c1
 ·have hno:=yd (s:=s) (by simpa using c1)
  refine ol O O<|zM<|zV O ?_
  rw [hno]
 ·obtain ⟨⟨n1,n2⟩,n3⟩:=c1
  have n1:1<=s.size:=by omega
  have n2:s.size<=16:=by omega
  have hne:=QD n1 n2 n3
  refine zJ<|zF<|ol O O<|zS<|zT ⟨[(3,.c _),(0,.c _)],[]⟩ (oz [] oH O)<|qG 1 0 O O (Nat) (λk=>[(3,vI k)]) (λk=>[]) (λk=>k<=s.size/\sW s k=true) (λk=>s.size-k) ⟨0,⟨zB,O⟩,oz [] oH O⟩ ?_
  rintro k ⟨hk,hp⟩
  refine zF<|oo O O<|G O<|zX O (SW O Hi O)<|yC O<|zA<|zK O ?_ ?_<;>intro c2<;>try simp only [sx] at c2
  ·have hlt:k<s.size:=by omega
   refine zJ<|zF<|zS<|oo O O<|G O<|zX O (zGf O Hi O O zB zB)<|om O<|oo O O<|zX O (wN O O O)<|G O<|oL O (λg7_2=>zQ O O) O<|oG 30 O (λg7_2=>vb O O O) O<|kF O (λh=>h)<|G O<|oL O (λg7_6=>zQ O O) O<|oG 34 O (λg7_6=>kE O O O) O<|oG 35 O (λg7_6=>zQ O O) O<|oV [] O oW T (λg7_9=>zQ O O) O<|oV [(37,_)] O oW ⟨O,O,T⟩ (λg7_9=>wN O O O) O<|oV [(38,_)] O oW ⟨O,O,T⟩ (λg7_9=>zQ O O) O<|oV [] O oW T (λg7_12=>zQ O O) O<|oV [(40,_)] O oW ⟨O,O,T⟩ (λg7_12=>vb O O O) O<|oV [(39,_)] O oW ⟨O,O,T⟩ (λg7_9=>wX O O O (λh=>kO uC h) O) O<|oV [(42,_)] O oW ⟨O,O,T⟩ (λg7_9=>zQ O O) O<|oV [] O oW T (λg7_16=>zQ O O) O<|oV [(44,_)] O oW ⟨O,O,T⟩ (λg7_16=>yU O O O) O<|oV [(43,_)] O oW ⟨O,O,T⟩ (λg7_9=>tj O O O O (λh=>kO uC (oY h))) O<|oG 36 O (λg7_6=>wX O O O (λh=>kO uC h) O) O<|oN O (λh=>(oY h))<|kQ O<|zA<|zK O (λc3=>?_) (λc3=>?_)
   ·have hbad:sW s (k+1)=false:=by rw [BF,show rW k (s.data.toList.getD k 0)=false from (aA _).mp c3];simp
    refine ol O O<|zM<|zV O ?_
    rw [hne];cases ho:sW s s.size;rfl;exact absurd (UD (k:=k+1) zB ho) (by rw [hbad];simp)
   ·have hgood:sW s (k+1)=true:=by rw [BF,hp,show rW k (s.data.toList.getD k 0)=true from (ey _).mp c3];rfl
    refine zJ<|zP O<|G O<|qH O ⟨zB,zB⟩<|G O<|zA ?_
    refine ⟨k+1,⟨zB,hgood⟩,zB,oz [] oH O⟩
  ·refine qL<|ol O O<|zM<|zV O ?_
   rw [hne,show s.size=k by omega,hp]
def C2 (s:nq):
    oK cfg 136 [vS s] (vB (bQ fV s)):=by
 refine zW func136 O ntmps136 results136 O λz hz=>ol O O<|zF<|ol O O<|zS<|zF<|Y O<|wF O<|om O<|zK O ?_ ?_<;>intro c1<;>try simp only [sx] at c1
 ·refine zJ<|zK O (λc22=>?_) (λc22=>?_)
  ·refine ol O O<|zM<|zV O ?_
   rw [kS (l:=fV) (k:=0) rfl c1.symm]
  ·try simp only [sx] at c22
   refine zJ<|ol O O<|zM<|zV O ?_
   exact absurd c1 c22
 ·refine Y O<|wF O<|om O<|zK O ?_ ?_<;>intro c2<;>try simp only [sx] at c2
  ·refine zJ<|zK O (λc22=>?_) (λc22=>?_)
   ·refine ol O O<|zM<|zV O ?_
    rw [kS (l:=fV) (k:=1) rfl c2.symm]
   ·try simp only [sx] at c22
    refine zJ<|ol O O<|zM<|zV O ?_
    exact absurd c2 c22
  ·refine Y O<|wF O<|om O<|zK O ?_ ?_<;>intro c3<;>try simp only [sx] at c3
   ·refine zJ<|zK O (λc22=>?_) (λc22=>?_)
    ·refine ol O O<|zM<|zV O ?_
     rw [kS (l:=fV) (k:=2) rfl c3.symm]
    ·try simp only [sx] at c22
     refine zJ<|ol O O<|zM<|zV O ?_
     exact absurd c3 c22
   ·refine Y O<|wF O<|om O<|zK O ?_ ?_<;>intro c4<;>try simp only [sx] at c4
    ·refine zJ<|zK O (λc22=>?_) (λc22=>?_)
     ·refine ol O O<|zM<|zV O ?_
      rw [kS (l:=fV) (k:=3) rfl c4.symm]
     ·try simp only [sx] at c22
      refine zJ<|ol O O<|zM<|zV O ?_
      exact absurd c4 c22
    ·refine Y O<|wF O<|om O<|zK O ?_ ?_<;>intro c5<;>try simp only [sx] at c5
     ·refine zJ<|zK O (λc22=>?_) (λc22=>?_)
      ·refine ol O O<|zM<|zV O ?_
       rw [kS (l:=fV) (k:=4) rfl c5.symm]
      ·try simp only [sx] at c22
       refine zJ<|ol O O<|zM<|zV O ?_
       exact absurd c5 c22
     ·refine Y O<|wF O<|om O<|zK O ?_ ?_<;>intro c6<;>try simp only [sx] at c6
      ·refine zJ<|zK O (λc22=>?_) (λc22=>?_)
       ·refine ol O O<|zM<|zV O ?_
        rw [kS (l:=fV) (k:=5) rfl c6.symm]
       ·try simp only [sx] at c22
        refine zJ<|ol O O<|zM<|zV O ?_
        exact absurd c6 c22
      ·refine Y O<|wF O<|om O<|zK O ?_ ?_<;>intro c7<;>try simp only [sx] at c7
       ·refine zJ<|zK O (λc22=>?_) (λc22=>?_)
        ·refine ol O O<|zM<|zV O ?_
         rw [kS (l:=fV) (k:=6) rfl c7.symm]
        ·try simp only [sx] at c22
         refine zJ<|ol O O<|zM<|zV O ?_
         exact absurd c7 c22
       ·refine Y O<|wF O<|om O<|zK O ?_ ?_<;>intro c8<;>try simp only [sx] at c8
        ·refine zJ<|zK O (λc22=>?_) (λc22=>?_)
         ·refine ol O O<|zM<|zV O ?_
          rw [kS (l:=fV) (k:=7) rfl c8.symm]
         ·try simp only [sx] at c22
          refine zJ<|ol O O<|zM<|zV O ?_
          exact absurd c8 c22
        ·refine Y O<|wF O<|om O<|zK O ?_ ?_<;>intro c9<;>try simp only [sx] at c9
         ·refine zJ<|zK O (λc22=>?_) (λc22=>?_)
          ·refine ol O O<|zM<|zV O ?_
           rw [kS (l:=fV) (k:=8) rfl c9.symm]
          ·try simp only [sx] at c22
           refine zJ<|ol O O<|zM<|zV O ?_
           exact absurd c9 c22
         ·refine Y O<|wF O<|om O<|zK O ?_ ?_<;>intro c10<;>try simp only [sx] at c10
          ·refine zJ<|zK O (λc22=>?_) (λc22=>?_)
           ·refine ol O O<|zM<|zV O ?_
            rw [kS (l:=fV) (k:=9) rfl c10.symm]
           ·try simp only [sx] at c22
            refine zJ<|ol O O<|zM<|zV O ?_
            exact absurd c10 c22
          ·refine Y O<|wF O<|om O<|zK O ?_ ?_<;>intro c11<;>try simp only [sx] at c11
           ·refine zJ<|zK O (λc22=>?_) (λc22=>?_)
            ·refine ol O O<|zM<|zV O ?_
             rw [kS (l:=fV) (k:=10) rfl c11.symm]
            ·try simp only [sx] at c22
             refine zJ<|ol O O<|zM<|zV O ?_
             exact absurd c11 c22
           ·refine Y O<|wF O<|om O<|zK O ?_ ?_<;>intro c12<;>try simp only [sx] at c12
            ·refine zJ<|zK O (λc22=>?_) (λc22=>?_)
             ·refine ol O O<|zM<|zV O ?_
              rw [kS (l:=fV) (k:=11) rfl c12.symm]
             ·try simp only [sx] at c22
              refine zJ<|ol O O<|zM<|zV O ?_
              exact absurd c12 c22
            ·refine Y O<|wF O<|om O<|zK O ?_ ?_<;>intro c13<;>try simp only [sx] at c13
             ·refine zJ<|zK O (λc22=>?_) (λc22=>?_)
              ·refine ol O O<|zM<|zV O ?_
               rw [kS (l:=fV) (k:=12) rfl c13.symm]
              ·try simp only [sx] at c22
               refine zJ<|ol O O<|zM<|zV O ?_
               exact absurd c13 c22
             ·refine Y O<|wF O<|om O<|zK O ?_ ?_<;>intro c14<;>try simp only [sx] at c14
              ·refine zJ<|zK O (λc22=>?_) (λc22=>?_)
               ·refine ol O O<|zM<|zV O ?_
                rw [kS (l:=fV) (k:=13) rfl c14.symm]
               ·try simp only [sx] at c22
                refine zJ<|ol O O<|zM<|zV O ?_
                exact absurd c14 c22
              ·refine Y O<|wF O<|om O<|zK O ?_ ?_<;>intro c15<;>try simp only [sx] at c15
               ·refine zJ<|zK O (λc22=>?_) (λc22=>?_)
                ·refine ol O O<|zM<|zV O ?_
                 rw [kS (l:=fV) (k:=14) rfl c15.symm]
                ·try simp only [sx] at c22
                 refine zJ<|ol O O<|zM<|zV O ?_
                 exact absurd c15 c22
               ·refine Y O<|wF O<|om O<|zK O ?_ ?_<;>intro c16<;>try simp only [sx] at c16
                ·refine zJ<|zK O (λc22=>?_) (λc22=>?_)
                 ·refine ol O O<|zM<|zV O ?_
                  rw [kS (l:=fV) (k:=15) rfl c16.symm]
                 ·try simp only [sx] at c22
                  refine zJ<|ol O O<|zM<|zV O ?_
                  exact absurd c16 c22
                ·refine Y O<|wF O<|om O<|zK O ?_ ?_<;>intro c17<;>try simp only [sx] at c17
                 ·refine zJ<|zK O (λc22=>?_) (λc22=>?_)
                  ·refine ol O O<|zM<|zV O ?_
                   rw [kS (l:=fV) (k:=16) rfl c17.symm]
                  ·try simp only [sx] at c22
                   refine zJ<|ol O O<|zM<|zV O ?_
                   exact absurd c17 c22
                 ·refine Y O<|wF O<|om O<|zK O ?_ ?_<;>intro c18<;>try simp only [sx] at c18
                  ·refine zJ<|zK O (λc22=>?_) (λc22=>?_)
                   ·refine ol O O<|zM<|zV O ?_
                    rw [kS (l:=fV) (k:=17) rfl c18.symm]
                   ·try simp only [sx] at c22
                    refine zJ<|ol O O<|zM<|zV O ?_
                    exact absurd c18 c22
                  ·refine Y O<|wF O<|om O<|zK O ?_ ?_<;>intro c19<;>try simp only [sx] at c19
                   ·refine zJ<|zK O (λc22=>?_) (λc22=>?_)
                    ·refine ol O O<|zM<|zV O ?_
                     rw [kS (l:=fV) (k:=18) rfl c19.symm]
                    ·try simp only [sx] at c22
                     refine zJ<|ol O O<|zM<|zV O ?_
                     exact absurd c19 c22
                   ·refine Y O<|wF O<|om O<|zK O ?_ ?_<;>intro c20<;>try simp only [sx] at c20
                    ·refine zJ<|zK O (λc22=>?_) (λc22=>?_)
                     ·refine ol O O<|zM<|zV O ?_
                      rw [kS (l:=fV) (k:=19) rfl c20.symm]
                     ·try simp only [sx] at c22
                      refine zJ<|ol O O<|zM<|zV O ?_
                      exact absurd c20 c22
                    ·refine Y O<|wF O<|om O<|zK O ?_ ?_<;>intro c21<;>try simp only [sx] at c21
                     ·refine zJ<|zK O (λc22=>?_) (λc22=>?_)
                      ·refine ol O O<|zM<|zV O ?_
                       rw [kS (l:=fV) (k:=20) rfl c21.symm]
                      ·try simp only [sx] at c22
                       refine zJ<|ol O O<|zM<|zV O ?_
                       exact absurd c21 c22
                     ·refine zP O<|wF O<|om O<|zK O ?_ ?_<;>intro c22<;>try simp only [sx] at c22
                      ·refine ol O O<|zM<|zV O ?_
                       rw [kS (l:=fV) (k:=21) rfl c22.symm]
                      ·refine zJ<|ol O O<|zM<|zV O ?_
                       rw [show bQ fV s=false by
                         simp only [bQ,fV,ef,List.any_nil,ax,ao]
                         exact ⟨λh=>c1 h.symm,λh=>c2 h.symm,λh=>c3 h.symm,λh=>c4 h.symm,λh=>c5 h.symm,λh=>c6 h.symm,λh=>c7 h.symm,λh=>c8 h.symm,λh=>c9 h.symm,λh=>c10 h.symm,λh=>c11 h.symm,λh=>c12 h.symm,λh=>c13 h.symm,λh=>c14 h.symm,λh=>c15 h.symm,λh=>c16 h.symm,λh=>c17 h.symm,λh=>c18 h.symm,λh=>c19 h.symm,λh=>c20 h.symm,λh=>c21 h.symm,λh=>c22 h.symm,T⟩]
def zJj (s:nq):
    oK cfg 73 [vS s] (vB (bB s)):=by
 refine zW func73 O ntmps73 results73 O λz hz=>ol O O<|zF<|oo O O<|zX O (SW O Hi O)<|yC O<|G O<|oL O (λg1_3=>zQ O O) O<|oG 9 O (λg1_3=>SW O Hi O) O<|oG 10 O (λg1_3=>kE O O O) O<|oN O (λh=>(oY h))<|G O<|oL O (λg1_8=>zQ O O) O<|oG 14 O (λg1_8=>qP O uB (C2 _) (oy O)) O<|oN O (λh=>(oY h))<|G O<|oL O (λg1_12=>zQ O O) O<|oG 18 O (λg1_12=>zGf O Hi O O uA (by simp only [Lz,aB,aw,sx] at g1_12;omega)) O<|oG 19 O (λg1_12=>Ad O O O) O<|oN O (λh=>(oY h))<|G O<|oL O (λg1_17=>zQ O O) O<|oG 23 O (λg1_17=>zGf O Hi O O uA (by simp only [Lz,aB,aw,sx] at g1_17;omega)) O<|oG 24 O (λg1_17=>kE O O O) O<|oN O (λh=>(oY h))<|zA<|zK O (λc1=>?_) (λc1=>?_)
 ·have hno:=PL c1
  refine ol O O<|zM<|zV O ?_
  rw [hno]
 ·obtain ⟨n1,n2,hne⟩:=Mv c1
  refine zJ<|zF<|oo O O<|zX O (SW O Hi O)<|om O<|zS<|zT ⟨[(29,.c _),(0,.c _),(28,.c _)],[]⟩ (oz [] oH O)<|qG 1 0 O O (Nat) (λk=>[(29,vI k)]) (λk=>[]) (λk=>k<=s.size/\(s.data.toList.take k).all gY=true) (λk=>s.size-k) ⟨0,⟨zB,O⟩,oz [] oH O⟩ ?_
  rintro k ⟨hk,hp⟩
  refine Y O<|yC O<|zA<|zF<|zK O ?_ ?_<;>intro c2<;>try simp only [sx] at c2
  ·have hlt:k<s.size:=by omega
   refine zJ<|zF<|zS<|oo O O<|om O<|oo O O<|G O<|zX O (zGf O Hi O O zB zB)<|om O<|oo O O<|yC O<|G O<|oL O (λg7_2=>zQ O O) O<|oG 38 O (λg7_2=>kE O O O) O<|oN O (λh=>(oY h))<|G O<|oL O (λg7_6=>zQ O O) O<|oG 42 O (λg7_6=>Ad O O O) O<|oG 43 O (λg7_6=>zQ O O) O<|oV [] O oW T (λg7_9=>zQ O O) O<|oV [(45,_)] O oW ⟨O,O,T⟩ (λg7_9=>kE O O O) O<|oG 44 O (λg7_6=>tj O O O O (λh=>kO uC (oY h))) O<|kF O (λh=>h)<|G O<|oL O (λg7_14=>zQ O O) O<|oG 50 O (λg7_14=>wI O O O) O<|kF O (λh=>h)<|zA<|zK O (λc3=>?_) (λc3=>?_)
   ·have hbad:=Vu hlt c3
    refine ol O O<|zM<|zV O ?_
    rw [hne,hbad]
   ·have hgood:=Si hlt hp c3
    refine zJ<|zP O<|qH O ⟨zB,zB⟩<|G O<|zA ?_
    refine ⟨k+1,⟨zB,hgood⟩,zB,oz [] oH O⟩
  ·refine qL<|ol O O<|zM<|zV O ?_
   rw [hne,Sg hp zB]
def VE (l:Lf) (hl:l.L.length<=6000000000000):
    oK cfg 122 [dF l] (vI (dM l)):=by
 refine zW func122 O ntmps122 results122 O λz hz=>Y O<|oi O λb1=>om O<|zF<|Y O<|zC O kA<|zE uB (J 0 O) O<|qC O N<|om O<|zS<|zT ⟨[(8,.c _),(1,.c _),(6,.c _),(7,.c _)],[_]⟩ (oz [true] oH O)<|qG 1 0 O O (Nat) (λk=>[(8,vI k)]) (λk=>[]) (λk=>k<=l.L.length/\(bI l=bN (pP l.L k) (l.L.drop k))) (λk=>l.L.length-k) ⟨0,⟨zB,O⟩,oz [true] oH O⟩ ?_
 rintro k ⟨hk,hp⟩
 refine Y O<|yC O<|zA<|zF<|zK O ?_ ?_<;>intro c1<;>try simp only [sx] at c1
 ·obtain ⟨x,hx⟩:=qX l.L k zB
  refine zJ<|zF<|zS<|oo O O<|qF O N zB (oI uC)<|zN Eb qE O<|oM O (yA O te) λb2=>G O<|ow 0 tg O<|zA<|zF<|yE 25 mixed uB O O<|ou O (zG O wH O)<|ou O (zH O uB O (J 0 O) O)<|ou O (qP O uB (zJj _) (oy O))<|ou O (wM O O)<|ou O (zQ O O)<|qR [] O O O O oP T (λg4_4=>zG O AD O) O<|qR [(18,_)] O O O O oP ⟨O,O,T⟩ (λg4_4=>zH O W O (J 0 O) O) O<|qR [(19,_)] O O O O oP ⟨O,O,T⟩ (λg4_4=>yU O O O) O<|ou O (tj O O O O (λh=>(oY h)))<|ou O (zQ O O)<|qR [] O O O O oP T (λg4_9=>zQ O O) O<|qR [(23,_)] O O O O oP ⟨O,O,T⟩ (λg4_9=>kE O O O) O<|qR [(24,_)] O O O O oP ⟨O,O,T⟩ (λg4_9=>zQ O O) O<|qR [] O O O O oW T (λg4_12=>zG O kA O) O<|qR [(26,_)] O O O O oW ⟨O,O,T⟩ (λg4_12=>zH O uB O (J 1 O) O) O<|qR [] O O O O oW T (λg4_12=>zQ O O) O<|qR [(28,_)] O O O O oW ⟨O,O,T⟩ (λg4_12=>yM O O O ⟨zB,zB⟩) O<|qR [(27,_),(29,_)] O O O O oW ⟨O,O,O,O,T⟩ (λg4_12=>qI O N O O (by simp only [Lz,aB,aw,sx] at g4_12;omega) (Q1 (by simp only [Lz,aB,aw,sx] at g4_12;omega) zB)) O<|qR [(30,_)] O O O O oW ⟨O,O,T⟩ (λg4_12=>qO O wH O) O<|qR [(31,_)] O O O O oW ⟨O,O,T⟩ (λg4_12=>zH O uB O qE O) O<|qR [] O O O O oW T (λg4_12=>zG O wH O) O<|qR [(33,_)] O O O O oW ⟨O,O,T⟩ (λg4_12=>zH O uB O (J 0 O) O) O<|qR [(32,_),(34,_)] O O O O oW ⟨O,O,O,O,T⟩ (λg4_12=>ED O O O) O<|qR [(25,_)] O O O O oP ⟨O,O,T⟩ (λg4_9=>wX O O O (λh=>kO uC h) O) O<|ou O (tj O O O O (λh=>(oY h)))<|yY<|zA<|zK O (λc2=>?_) (λc2=>?_)
  ·refine ol O O<|zM<|zV O ?_
   rw [dM,hp,zNz hx,show eF l.L k x=true from c2];rfl
  ·refine zJ<|zP O<|qH O ⟨zB,zB⟩<|G O<|zA ?_
   refine ⟨k+1,⟨zB,by rw [hp,zNz hx,show eF l.L k x=false from c2];rfl⟩,zB,oz [false,true] oH O⟩
 ·refine qL<|ol O O<|zM<|zV O ?_
  rw [dM,hp,BA zB];rfl
def ZU (l:Lf) (hl:l.L.length<=6000000000000):
    oK cfg 146 [dF l] (vB (bI l)):=by
 refine zW func146 O ntmps146 results146 O λz hz=>Y O<|oi O λb1=>om O<|zF<|ol O O<|zS<|zT ⟨[(3,.c _),(1,.c _)],[_]⟩ (oz [true] oH O)<|qG 1 0 O O (Nat) (λk=>[(3,vI k)]) (λk=>[]) (λk=>k<=l.L.length/\(bI l=bN (pP l.L k) (l.L.drop k))) (λk=>l.L.length-k) ⟨0,⟨zB,O⟩,oz [true] oH O⟩ ?_
 rintro k ⟨hk,hp⟩
 refine zF<|oo O O<|zC O kA<|zE uB (J 0 O) O<|qC O N<|yC O<|zA<|zK O ?_ ?_<;>intro c1<;>try simp only [sx] at c1
 ·obtain ⟨x,hx⟩:=qX l.L k zB
  refine zJ<|zF<|zS<|zF<|yE 37 mixed uB O O<|ou O (zG O kA O)<|ou O (zH O uB O (J 0 O) O)<|ou O (zQ O O)<|ou O (qI O N O O zB (oI uC))<|ou O (qO O wH O)<|ou O (zH O uB O qE O)<|ou O (qP O uB (VI _) (oy O))<|ou O (wM O O)<|ou O (zQ O O)<|qR [] O O O O oP T (λg4_8=>zG O kA O) O<|qR [(20,_)] O O O O oP ⟨O,O,T⟩ (λg4_8=>zH O uB O (J 0 O) O) O<|qR [] O O O O oP T (λg4_8=>zQ O O) O<|qR [(21,_),(22,_)] O O O O oP ⟨O,O,O,O,T⟩ (λg4_8=>qI O N O O zB (oI uC)) O<|qR [(23,_)] O O O O oP ⟨O,O,T⟩ (λg4_8=>qO O AD O) O<|qR [(24,_)] O O O O oP ⟨O,O,T⟩ (λg4_8=>zH O W O qE O) O<|qR [(25,_)] O O O O oP ⟨O,O,T⟩ (λg4_8=>yU O O O) O<|ou O (tj O O O O (λh=>(oY h)))<|ou O (zQ O O)<|qR [] O O O O oP T (λg4_17=>zQ O O) O<|qR [(29,_)] O O O O oP ⟨O,O,T⟩ (λg4_17=>kE O O O) O<|qR [(30,_)] O O O O oP ⟨O,O,T⟩ (λg4_17=>zQ O O) O<|qR [] O O O O oW T (λg4_20=>zG O kA O) O<|qR [(32,_)] O O O O oW ⟨O,O,T⟩ (λg4_20=>zH O uB O (J 0 O) O) O<|qR [] O O O O oW T (λg4_20=>zQ O O) O<|qR [(34,_)] O O O O oW ⟨O,O,T⟩ (λg4_20=>yM O O O ⟨zB,zB⟩) O<|qR [(33,_),(35,_)] O O O O oW ⟨O,O,O,O,T⟩ (λg4_20=>qI O N O O (by simp only [Lz,aB,aw,sx] at g4_20;omega) (Q1 (by simp only [Lz,aB,aw,sx] at g4_20;omega) zB)) O<|qR [(36,_)] O O O O oW ⟨O,O,T⟩ (λg4_20=>qO O wH O) O<|qR [(37,_)] O O O O oW ⟨O,O,T⟩ (λg4_20=>zH O uB O qE O) O<|qR [] O O O O oW T (λg4_20=>zG O kA O) O<|qR [(39,_)] O O O O oW ⟨O,O,T⟩ (λg4_20=>zH O uB O (J 0 O) O) O<|qR [] O O O O oW T (λg4_20=>zQ O O) O<|qR [(40,_),(41,_)] O O O O oW ⟨O,O,O,O,T⟩ (λg4_20=>qI O N O O zB (oI uC)) O<|qR [(42,_)] O O O O oW ⟨O,O,T⟩ (λg4_20=>qO O wH O) O<|qR [(43,_)] O O O O oW ⟨O,O,T⟩ (λg4_20=>zH O uB O qE O) O<|qR [(38,_),(44,_)] O O O O oW ⟨O,O,O,O,T⟩ (λg4_20=>ED O O O) O<|qR [(31,_)] O O O O oP ⟨O,O,T⟩ (λg4_17=>wX O O O (λh=>kO uC h) O) O<|ou O (tj O O O O (λh=>(oY h)))<|yY<|zA<|zK O (λc2=>?_) (λc2=>?_)
  ·refine ol O O<|zM<|zV O ?_
   rw [hp,zNz hx,show eF l.L k x=true from c2];rfl
  ·refine zJ<|zP O<|G O<|qH O ⟨zB,zB⟩<|G O<|zA ?_
   refine ⟨k+1,⟨zB,by rw [hp,zNz hx,show eF l.L k x=false from c2];rfl⟩,zB,oz [true] oH O⟩
 ·refine qL<|ol O O<|zM<|zV O ?_
  rw [hp,BA zB]
def KD (s:nq):
    oK cfg 31 [vS s] (dF (dK s)):=by
 refine zW func31 O ntmps31 results31 O λz hz=>Y O<|oM O (qJ [none,some 2] O U O) λb1=>zA<|zF<|oo O O<|qK O uB (zJj _) (oy O)<|kQ O<|zA<|zK O ?_ ?_<;>intro c1<;>try simp only [sx] at c1
 ·refine Y O<|yO [none,some 2] O U qe<|ow 0 oZ O<|zA<|zM<|pu (zY yV O (J 0 O) O) ?_
  rw [dK,c1];rfl
 ·refine zJ<|oo O O<|yI O te uf<|yT O N te<|yI O U qe<|ow 0 oZ O<|zA<|zM<|pu (zY yV O (J 0 O) O) ?_
  rw [dK,c1];rfl
def Bo (k:Int):
    oK cfg 28 [vI k] (dF ⟨k,[]⟩):=by
 refine zW func28 O ntmps28 results28 O λz hz=>Y O<|oM O (qJ [none,some 2] O U O) λb1=>zA<|oo O O<|yO [none,some 2] O U qe<|ow 0 oZ O<|zA<|zM<|pu (zY yV O (J 0 O) O) ?_
 exact O
def zCz (s:nq):
    oK cfg 52 [vS s] (dF (dK s)):=by
 refine zW func52 O ntmps52 results52 O λz hz=>Y O<|oM O (qJ [none,some 2] O U O) λb1=>zA<|zF<|oo O O<|qK O uB (VI _) (oy O)<|kQ O<|zA<|zK O ?_ ?_<;>intro c1<;>try simp only [sx] at c1
 ·refine Y O<|yO [none,some 2] O U qe<|ow 0 oZ O<|zA<|zM<|pu (zY yV O (J 0 O) O) ?_
  rw [dK,c1];rfl
 ·refine zJ<|oo O O<|yI O te uf<|yT O N te<|yI O U qe<|ow 0 oZ O<|zA<|zM<|pu (zY yV O (J 0 O) O) ?_
  rw [dK,c1];rfl
def vp (a b:Lf) (ha:a.L.length<=6000000000000):
    oK cfg 163 [dF a,dF b] (vB (decide (a=b))):=by
 refine zW func163 O ntmps163 results163 O λz hz=>Y O<|oi O λb1=>oi O λb2=>om O<|zF<|Y O<|zC O ui<|zE W (J 1 O) O<|zC O ui<|zE W (J 0 O) O<|yL O<|G O<|oL O (λg1_5=>zG O kA O) O<|oG 12 O (λg1_5=>zH O uB O (J 1 O) O) O<|oG 13 O (λg1_5=>yH O N O) O<|oL O (λg1_5=>zG O kA O) O<|oG 15 O (λg1_5=>zH O uB O (J 0 O) O) O<|oG 16 O (λg1_5=>yH O N O) O<|oV [(14,_),(17,_)] O oP ⟨O,O,O,O,T⟩ (λg1_5=>wI O O O) O<|oN O (λh=>(oY h))<|zA<|zK O ?_ ?_<;>intro c1<;>try simp only [sx] at c1
 ·refine ol O O<|zM<|zV O ?_
  rw [kH (λh=>by rw [h] at c1;simp at c1)]
 ·refine zJ<|zF<|ol O O<|zS<|zT ⟨[(5,.c _),(2,.c _),(3,.c _)],[_,_]⟩ (oz [true,true] oH O)<|qG 1 0 O O (Nat) (λk=>[(5,vI k)]) (λk=>[]) (λk=>k<=a.L.length/\(a.L.take k=b.L.take k)) (λk=>a.L.length-k) ⟨0,⟨zB,O⟩,oz [true,true] oH O⟩ ?_
  rintro k ⟨hk,hp⟩
  refine zF<|oo O O<|zC O kA<|zE uB (J 1 O) O<|qC O N<|yC O<|zA<|zK O ?_ ?_<;>intro c2<;>try simp only [sx] at c2
  ·obtain ⟨x,hx⟩:=qX a.L k zB
   obtain ⟨y,hy⟩:=qX b.L k zB
   refine zJ<|zF<|zS<|zF<|yE 11 mixed uB O O<|ou O (zG O kA O)<|ou O (zH O uB O (J 1 O) O)<|ou O (zQ O O)<|ou O (qI O N O O zB (oI uC))<|ou O (qA O Eb O qE O)<|ou O (zG O kA O)<|ou O (zH O uB O (J 0 O) O)<|ou O (zQ O O)<|ou O (qI O N O O zB (oI uC))<|ou O (qA O Eb O qE O)<|ou O (JE O fl139 O O O)<|yY<|zA<|zK O (λc3=>?_) (λc3=>?_)
   ·have hne:=Uo c3
    refine ol O O<|zM<|zV O ?_
    rw [kH (λh=>zIe hx hy hne (by rw [h]))]
   ·have heq:=Un c3
    refine zJ<|zP O<|G O<|qH O ⟨zB,zB⟩<|G O<|zA ?_
    refine ⟨k+1,⟨zB,zDl hx hy hp heq⟩,zB,oz [true,true] oH O⟩
  ·refine qL<|ol O O<|zM<|zV O ?_
   rw [Hk (Yz zB (zGd hp zB zB))]
def zYc (l:Lf) (s:nq) (hl:l.L.length<=6000000000000):
    oK cfg 161 [dF l,vS s] (vI (dL l.L s)):=by
 refine zW func161 O ntmps161 results161 O λz hz=>Y O<|oi O λb1=>om O<|zF<|ol O O<|zS<|zT ⟨[(5,.c _),(1,.c _),(2,.c _)],[_]⟩ (oz [true] oH O)<|qG 1 0 O O (Nat) (λk=>[(5,vI k)]) (λk=>[]) (λk=>k<=l.L.length/\(dL l.L s=dL (l.L.drop k) s)) (λk=>l.L.length-k) ⟨0,⟨zB,O⟩,oz [true] oH O⟩ ?_
 rintro k ⟨hk,hp⟩
 refine zF<|oo O O<|zC O kA<|zE uB (J 0 O) O<|qC O N<|yC O<|zA<|zK O ?_ ?_<;>intro c1<;>try simp only [sx] at c1
 ·obtain ⟨x,hx⟩:=qX l.L k zB
  refine zJ<|zF<|zS<|Y O<|zC O kA<|zE uB (J 0 O) O<|G O<|qF O N zB (oI uC)<|qS O wH<|zE uB qE O<|G O<|wF O<|zA<|zK O ?_ ?_<;>intro c2<;>try simp only [sx] at c2
  ·refine Y O<|zC O kA<|zE uB (J 0 O) O<|G O<|qF O N zB (oI uC)<|qS O AD<|zE W qE O<|om O<|zM<|zV O ?_
   rw [hp,qN hx,dL,ab c2]
  ·refine zJ<|zP O<|G O<|qH O ⟨zB,zB⟩<|G O<|zA ?_
   refine ⟨k+1,⟨zB,by rw [hp,qN hx,dL,aa c2]⟩,zB,oz [true] oH O⟩
 ·refine qL<|ol O O<|zM<|zV O ?_
  rw [hp,kN zB];rfl
def zPf (l:List Ix) (c:C) (p:Ix->Bool) (hl:l.length<=6000000000000) (hc:∀x,x∈l->FnPur cfg c [jW x] (vB (p x))):
    oK cfg 303 [mX l,.c c] (vI (fA p l)):=by
 refine zW func303 O ntmps303 results303 O λz hz=>ol O O<|zF<|oo O O<|qC O oO<|om O<|zS<|zT ⟨[(8,.c _),(0,.c _),(1,.c _),(7,.c _)],[]⟩ (oz [] oH O)<|qG 1 0 O O (Nat) (λk=>[(8,vI k)]) (λk=>[]) (λk=>k<=l.length/\((l.take k).any p=false)) (λk=>l.length-k) ⟨0,⟨zB,O⟩,oz [] oH O⟩ ?_
 rintro k ⟨hk,hp⟩
 refine Y O<|yC O<|zA<|zF<|zK O (λc1=>?_) (λc1=>?_)
 ·try simp only [sx] at c1
  obtain ⟨x,hx⟩:=qX l k zB
  refine zJ<|zF<|zS<|oo O O<|om O<|oo O O<|G O<|G O<|qF O oO zB (oI uC)<|zN vf qE O<|zX O (wS O O (hc _ (qD hx)) (oy O))<|zA<|zK O (λc2=>?_) (λc2=>?_)
  ·exact v64
  ·exact j5
 ·exact v33
def zDc (l:List Ix) (c:C) (p:Ix->Bool) (hl:l.length<=6000000000000) (hc:∀x,x∈l->FnPur cfg c [jW x] (vB (p x))):
    oK cfg 285 [mX l,.c c] (vB (l.any p)):=by
 refine zW func285 O ntmps285 results285 O λz hz=>ol O O<|oo O O<|G O<|qK O uB (zPf l c p hl hc) (oy O)<|zX O (wN O O O)<|om O<|zM<|zV O ?_
 rw [zRd]
end Go.W
end
section
set_option maxRecDepth 10000
namespace Go.W
open Go Go.Eng Go.Proofs Go.L41 Go.Br Tryz
attribute [local irreducible] oU oX TD gF
def rr:nN prog 54=some 2:=by kernel_rfl
def yD:nN prog 56=some 5:=by kernel_rfl
def L3:bH prog 54 0=some (0,2):=by kernel_rfl
def OG:bH prog 54 1=some (1,2):=by kernel_rfl
def Hd:bH prog 56 0=some (0,3):=by kernel_rfl
def Te:bH prog 56 1=some (1,3):=by kernel_rfl
def VV:bH prog 56 2=some (2,3):=by kernel_rfl
def zZp:bH prog 56 3=some (3,3):=by kernel_rfl
def zZo:bH prog 56 4=some (4,3):=by kernel_rfl
def tf:flatK prog 56=some [.int,.int,.int,.int,.int]:=by kernel_rfl
def SI:vJ prog 154=some .u64:=by kernel_rfl
def PS:vJ prog 240=some .u64:=by kernel_rfl
def sa:fD prog 54=some [(0,1),(1,1)]:=by kernel_rfl
def pr:fD prog 56=some [(0,1),(1,1),(2,1),(3,1),(4,1)]:=by kernel_rfl
def qq:(prog.info? 54).map (·.size)=some 2:=by kernel_rfl
def qj:dZ prog 54=some [pn,pn]:=by kernel_rfl
def v:dZ prog 56=some [pn,pn,pn,pn,pn]:=by kernel_rfl
def zXb (t:Ty):
    oK cfg 206 [rq t] (vB (vX t)):=by
 refine zW func206 O ntmps206 results206 O λz hz=>Y O<|oi O λb1=>om O<|Y O<|zN yD (J 0 O) O<|zC O Hd<|zE uB (J 0 O) O<|yI O v pr<|zX O (wc O tf O O O)<|om O<|zM<|zV O ?_
 exact ai vB (Nn t)
def zFn (t:Ty):
    oK cfg 207 [rq t] (vI (bif gQ t then 0 else 10)):=by
 refine zW func207 O ntmps207 results207 O λz hz=>Y O<|oi O λb1=>om O<|Y O<|zC O zZp<|zE uB (J 0 O) O<|zX O (wN O O O)<|G O<|oL O (λg1_3=>zG O zZp O) O<|oG 8 O (λg1_3=>zH O uB O (J 0 O) O) O<|oG 9 O (λg1_3=>vb O O O) O<|kF O (λh=>h)<|G O<|oL O (λg1_8=>zG O zZo O) O<|oG 13 O (λg1_8=>zH O uB O (J 0 O) O) O<|oG 14 O (λg1_8=>yU O O O) O<|oG 15 O (λg1_8=>zQ O O) O<|oV [] O oW T (λg1_12=>zG O zZo O) O<|oV [(17,_)] O oW ⟨O,O,T⟩ (λg1_12=>zH O uB O (J 0 O) O) O<|oV [(18,_)] O oW ⟨O,O,T⟩ (λg1_12=>yU O O O) O<|oG 16 O (λg1_8=>tj O O O O (λh=>kO uC (oY h))) O<|kF O (λh=>h)<|om O<|zF<|Y O<|zC O Hd<|zE uB (J 0 O) O<|yL O<|G O<|oL O (λg2_3=>zG O Te O) O<|oG 26 O (λg2_3=>zH O uB O (J 0 O) O) O<|oG 27 O (λg2_3=>Ad O O O) O<|oN O (λh=>(oY h))<|G O<|oL O (λg2_8=>zG O Te O) O<|oG 31 O (λg2_8=>zH O uB O (J 0 O) O) O<|oG 32 O (λg2_8=>kE O O O) O<|oN O (λh=>(oY h))<|G O<|oL O (λg2_13=>zG O VV O) O<|oG 36 O (λg2_13=>zH O uB O (J 0 O) O) O<|oG 37 O (λg2_13=>Ad O O O) O<|oN O (λh=>(oY h))<|G O<|oL O (λg2_18=>zG O VV O) O<|oG 41 O (λg2_18=>zH O uB O (J 0 O) O) O<|oG 42 O (λg2_18=>kE O O O) O<|oN O (λh=>(oY h))<|G O<|oL O (λg2_23=>zQ O O) O<|oG 46 O (λg2_23=>wM O O) O<|oN O (λh=>(oY h))<|zA<|zK O (λc1=>?_) (λc1=>?_)
 ·refine ol O O<|zM<|zV O ?_
  rw [show gQ t=false from Ye c1];rfl
 ·refine zJ<|ol O O<|zM<|zV O ?_
  rw [show gQ t=true from TT c1];rfl
def ZR (t:Ty):
    oK cfg 167 [rq t] (vI (bZ t)):=by
 refine zW func167 O ntmps167 results167 O λz hz=>Y O<|oi O λb1=>om O<|zF<|Y O<|zC O Hd<|zE uB (J 0 O) O<|zA<|zS<|zF<|Y O<|yR O<|om O<|qQ O (λc1=>?_) (λc1=>?_)
 ·refine zJ<|zK O ?_ ?_<;>intro c2<;>try simp only [sx] at c2
  ·exact v58
  ·exact v35
 ·refine zP O<|yR O<|om O<|qQ O (λc2=>?_) (λc2=>?_)
  ·exact v58
  ·exact v35
def zIr (t:Ty):
    oK cfg 107 [rq t] (vB (dO t)):=by
 refine zW func107 O ntmps107 results107 O λz hz=>Y O<|oi O λb1=>om O<|zF<|Y O<|zC O Hd<|zE uB (J 0 O) O<|yR O<|G O<|oL O (λg1_3=>zG O Hd O) O<|oG 7 O (λg1_3=>zH O uB O (J 0 O) O) O<|oG 8 O (λg1_3=>yU O O O) O<|oN O (λh=>(oY h))<|zA<|zK O (λc1=>?_) (λc1=>?_)
 ·refine Y O<|zC O Te<|zE uB (J 0 O) O<|yR O<|G O<|oL O (λg2_3=>zG O VV O) O<|oG 15 O (λg2_3=>zH O uB O (J 0 O) O) O<|oG 16 O (λg2_3=>yU O O O) O<|kF O (λh=>h)<|G O<|oL O (λg2_8=>zG O zZp O) O<|oG 20 O (λg2_8=>zH O uB O (J 0 O) O) O<|oG 21 O (λg2_8=>yU O O O) O<|kF O (λh=>h)<|G O<|oL O (λg2_13=>zG O zZo O) O<|oG 25 O (λg2_13=>zH O uB O (J 0 O) O) O<|oG 26 O (λg2_13=>yU O O O) O<|kF O (λh=>h)<|om O<|zM<|zV O ?_
  exact ai vB (WI c1)
 ·refine zJ<|Y O<|zC O Hd<|zE uB (J 0 O) O<|yR O<|G O<|oL O (λg3_3=>zG O Te O) O<|oG 33 O (λg3_3=>zH O uB O (J 0 O) O) O<|oG 34 O (λg3_3=>wN O O O) O<|kF O (λh=>h)<|G O<|oL O (λg3_8=>zG O Te O) O<|oG 38 O (λg3_8=>zH O uB O (J 0 O) O) O<|oG 39 O (λg3_8=>vb O O O) O<|kF O (λh=>h)<|G O<|oL O (λg3_13=>zG O VV O) O<|oG 43 O (λg3_13=>zH O uB O (J 0 O) O) O<|oG 44 O (λg3_13=>wN O O O) O<|kF O (λh=>h)<|G O<|oL O (λg3_18=>zG O VV O) O<|oG 48 O (λg3_18=>zH O uB O (J 0 O) O) O<|oG 49 O (λg3_18=>vb O O O) O<|kF O (λh=>h)<|G O<|oL O (λg3_23=>zG O zZp O) O<|oG 53 O (λg3_23=>zH O uB O (J 0 O) O) O<|oG 54 O (λg3_23=>wN O O O) O<|kF O (λh=>h)<|G O<|oL O (λg3_28=>zG O zZp O) O<|oG 58 O (λg3_28=>zH O uB O (J 0 O) O) O<|oG 59 O (λg3_28=>vb O O O) O<|kF O (λh=>h)<|G O<|oL O (λg3_33=>zG O zZo O) O<|oG 63 O (λg3_33=>zH O uB O (J 0 O) O) O<|oG 64 O (λg3_33=>yU O O O) O<|oG 65 O (λg3_33=>zQ O O) O<|oV [] O oW T (λg3_37=>zG O zZo O) O<|oV [(67,_)] O oW ⟨O,O,T⟩ (λg3_37=>zH O uB O (J 0 O) O) O<|oV [(68,_)] O oW ⟨O,O,T⟩ (λg3_37=>yU O O O) O<|oG 66 O (λg3_33=>tj O O O O (λh=>kO uC (oY h))) O<|kF O (λh=>h)<|om O<|zM<|zV O ?_
  exact ai vB (type2 c1)
def zXr (b:Int):
    oK cfg 296 [vI b] (vB (decide (2<=b)&&decide (b<=31))):=by
 refine zW func296 O ntmps296 results296 O ?_
 exact l5
def DK (b:Int) (h1:2<=b) (h2:b<=31):
    oK cfg 268 [vI b] (vI (-mY b)):=by
 refine zW func268 O ntmps268 results268 O λz hz=>ol O O<|zF<|oo O O<|qK O uB (zXr _) (oy O)<|kQ O<|zA<|zK O ?_ ?_<;>intro c1<;>try simp only [sx] at c1
 ·exact absurd c1 zB
 ·refine zJ<|oo O O<|zX O (yM O O O ⟨zB,zB⟩)<|zX O (wA O uB PS O)<|zX O (qAg O O O (by rw [zKc zB];omega))<|zX O (S6 O O)<|om O<|zM<|zV O ?_
  exact ai vI (QA h1 h2)
def DJ (b:Int) (h1:2<=b) (h2:b<=31):
    oK cfg 269 [vI b] (vI (mY b-1)):=by
 refine zW func269 O ntmps269 results269 O λz hz=>ol O O<|zF<|oo O O<|qK O uB (zXr _) (oy O)<|kQ O<|zA<|zK O ?_ ?_<;>intro c1<;>try simp only [sx] at c1
 ·exact absurd c1 zB
 ·refine zJ<|oo O O<|zX O (yM O O O ⟨zB,zB⟩)<|zX O (wA O uB PS O)<|zX O (qAg O O O (by rw [zKc zB];omega))<|zX O (qAf O O O)<|om O<|zM<|zV O ?_
  exact ai vI (YN h1 h2)
def zZk (t:Ty) (v:Vl):
    oK cfg 238 [rq t,tZ v] (vB (gQ t&&(decide (v.D=1)&&decide (-mY t.Bits<=v.N)&&decide (v.N<mY t.Bits)))):=by
 refine zW func238 O ntmps238 results238 O λz hz=>Y O<|oi O λb1=>oi O λb2=>om O<|zF<|yE 25 mixed uB O O<|ou O (qA O yD O (J 1 O) O)<|ou O (qP O uB (zFn _) (oy O))<|ou O (yU O O O)<|ou O (zQ O O)<|qR [] O O O O oP T (λg1_3=>zG O OG O) O<|qR [(9,_)] O O O O oP ⟨O,O,T⟩ (λg1_3=>zH O W O (J 0 O) O) O<|qR [(10,_)] O O O O oP ⟨O,O,T⟩ (λg1_3=>yU O O O) O<|ou O (wX O O O (λh=>h) O)<|ou O (zQ O O)<|qR [] O O O O oP T (λg1_8=>zG O L3 O) O<|qR [(14,_)] O O O O oP ⟨O,O,T⟩ (λg1_8=>zH O W O (J 0 O) O) O<|qR [] O O O O oP T (λg1_8=>zG O Te O) O<|qR [(16,_)] O O O O oP ⟨O,O,T⟩ (λg1_8=>zH O uB O (J 1 O) O) O<|qR [(17,_)] O O O O oP ⟨O,O,T⟩ (λg1_8=>qP O uB (DK _ (PD (fxa g1_8)).1 (PD (fxa g1_8)).2) (oy O)) O<|qR [(15,_),(18,_)] O O O O oP ⟨O,O,O,O,T⟩ (λg1_8=>wN O O O) O<|ou O (wX O O O (λh=>h) O)<|ou O (zQ O O)<|qR [] O O O O oP T (λg1_16=>zG O L3 O) O<|qR [(22,_)] O O O O oP ⟨O,O,T⟩ (λg1_16=>zH O W O (J 0 O) O) O<|qR [] O O O O oP T (λg1_16=>zG O Te O) O<|qR [(24,_)] O O O O oP ⟨O,O,T⟩ (λg1_16=>zH O uB O (J 1 O) O) O<|qR [(25,_)] O O O O oP ⟨O,O,T⟩ (λg1_16=>qP O uB (DJ _ (PD (fxb g1_16)).1 (PD (fxb g1_16)).2) (oy O)) O<|qR [(23,_),(26,_)] O O O O oP ⟨O,O,O,O,T⟩ (λg1_16=>vb O O O) O<|ou O (wX O O O (λh=>h) O)<|ou O (yK O O)<|yY<|zA<|zM<|zV O ?_
 exact ai vB (fixV t v)
def GY (n:Int):
    oK cfg 292 [vI n] (vB (rQ n)):=by
 refine zW func292 O ntmps292 results292 O ?_
 exact l5
def CS (n:Int):
    oK cfg 304 [vI n] (vB (rQ n)):=by
 refine zW func304 O ntmps304 results304 O ?_
 exact l5
def xb (n:Int) (hn: -9223372036854775808<=n) (hm:n<=9223372036854775807):
    oK cfg 306 [vI n] (sL n.natAbs):=by
 refine zW func306 O ntmps306 results306 O λz hz=>ol O O<|zF<|oo O O<|yC O<|zA<|zK O ?_ ?_<;>intro c1<;>try simp only [sx] at c1
 ·refine oo O O<|zX O (wA O uB SI O)<|zX O (S6 O O)<|om O<|zM<|zV O ?_
  exact ai sL (Uf c1 hn)
 ·refine zJ<|oo O O<|zX O (wA O uB SI O)<|om O<|zM<|zV O ?_
  exact ai sL (Ug zB hm)
def PF (a b:Nat):
    oK cfg 305 [sL a,sL b] (sL (Nat.gcd a b)):=by
 refine zW func305 O ntmps305 results305 O λz hz=>ol O O<|zF<|zS<|zT ⟨[(0,.c _),(1,.c _)],[]⟩ (oz [] oH O)<|qG 2 0 O O (Nat×Nat) (λ⟨x,y⟩=>[(0,sL x),(1,sL y)]) (λ⟨x,y⟩=>[]) (λ⟨x,y⟩=>Nat.gcd a b=Nat.gcd x y) (λ⟨x,y⟩=>y) ⟨⟨a,b⟩,O,oz [] oH O⟩ ?_
 rintro ⟨x,y⟩ hg
 refine zF<|oo O O<|yL O<|zA<|zK O ?_ ?_<;>intro c1<;>try simp only [sx] at c1
 ·refine zJ<|zS<|yE 6 mixed uB O O<|ou O (zQ O O)<|ou O (zQ O O)<|ou O (zQ O O)<|ou O (CA O O O zB)<|ou O (yK O O)<|ou O (yK O O)<|yY<|zA ?_
  refine ⟨⟨y,x%y⟩,(by rw [hg];exact E4 zB),(g7 _ zB),oz [] ⟨zD,VLe.of_eq (ai sL (Int.ofNat_tmod x y).symm),T⟩ O⟩
 ·refine qL<|oo O O<|om O<|zM<|zV O ?_
  exact ai sL (by rw [hg,show y=0 by omega,mg])
def OQ (a b:Nat):
    oK cfg 245 [vI a,vI b] (vI (Nat.gcd a b)):=by
 refine zW func245 O ntmps245 results245 O λz hz=>ol O O<|zF<|zS<|zT ⟨[(0,.c _),(1,.c _)],[]⟩ (oz [] oH O)<|qG 2 0 O O (Nat×Nat) (λ⟨x,y⟩=>[(0,vI x),(1,vI y)]) (λ⟨x,y⟩=>[]) (λ⟨x,y⟩=>Nat.gcd a b=Nat.gcd x y) (λ⟨x,y⟩=>y) ⟨⟨a,b⟩,O,oz [] oH O⟩ ?_
 rintro ⟨x,y⟩ hg
 refine zF<|oo O O<|yL O<|zA<|zK O ?_ ?_<;>intro c1<;>try simp only [sx] at c1
 ·refine zJ<|zS<|yE 6 mixed uB O O<|ou O (zQ O O)<|ou O (zQ O O)<|ou O (zQ O O)<|ou O (CA O O O zB)<|ou O (yK O O)<|ou O (yK O O)<|yY<|zA ?_
  refine ⟨⟨y,x%y⟩,(by rw [hg];exact E4 zB),(g7 _ zB),oz [] ⟨zD,VLe.of_eq (ai vI (Int.ofNat_tmod x y).symm),T⟩ O⟩
 ·refine qL<|oo O O<|om O<|zM<|zV O ?_
  exact ai vI (by rw [hg,show y=0 by omega,mg])
def H3 (v:Vl):
    oK cfg 293 [tZ v] (vB (decide (1<=v.D)&&decide (v.D<=2147483647)&&rQ v.N&&decide (Int.gcd v.N v.D=1))):=by
 refine zW func293 O ntmps293 results293 O λz hz=>Y O<|oi O λb1=>om O<|zF<|yE 24 mixed uB O O<|ou O (zG O OG O)<|ou O (zH O W O (J 0 O) O)<|ou O (wN O O O)<|ou O (zQ O O)<|qR [] O O O O oP T (λg1_3=>zG O OG O) O<|qR [(7,_)] O O O O oP ⟨O,O,T⟩ (λg1_3=>zH O W O (J 0 O) O) O<|qR [(8,_)] O O O O oP ⟨O,O,T⟩ (λg1_3=>vb O O O) O<|ou O (wX O O O (λh=>h) O)<|ou O (zQ O O)<|qR [] O O O O oP T (λg1_8=>zG O L3 O) O<|qR [(12,_)] O O O O oP ⟨O,O,T⟩ (λg1_8=>zH O W O (J 0 O) O) O<|qR [(13,_)] O O O O oP ⟨O,O,T⟩ (λg1_8=>qP O uB (CS _) (oy O)) O<|ou O (wX O O O (λh=>h) O)<|ou O (zQ O O)<|qR [] O O O O oP T (λg1_13=>zG O L3 O) O<|qR [(17,_)] O O O O oP ⟨O,O,T⟩ (λg1_13=>zH O W O (J 0 O) O) O<|qR [(18,_)] O O O O oP ⟨O,O,T⟩ (λg1_13=>qP O uB (xb v.N (frV g1_13).2.2.1 (frV g1_13).2.2.2) (oy O)) O<|qR [] O O O O oP T (λg1_13=>zG O OG O) O<|qR [(20,_)] O O O O oP ⟨O,O,T⟩ (λg1_13=>zH O W O (J 0 O) O) O<|qR [(21,_)] O O O O oP ⟨O,O,T⟩ (λg1_13=>wA O uB SI O) O<|qR [(19,_),(22,_)] O O O O oP ⟨O,O,O,O,T⟩ (λg1_13=>qP O uB (show oK cfg 305 [sL v.N.natAbs,sL (IntKind.u64.wrap v.D)] (sL (Nat.gcd v.N.natAbs v.D.natAbs)) from by rw [u64_D (frV g1_13).1 (frV g1_13).2.1];exact PF _ _) (oy O)) O<|qR [(23,_)] O O O O oP ⟨O,O,T⟩ (λg1_13=>yU O O O) O<|ou O (wX O O O (λh=>h) O)<|ou O (yK O O)<|yY<|zA<|zM<|zV O ?_
 exact ai vB (by rw [show (decide (((Nat.gcd v.N.natAbs v.D.natAbs:Nat):Int)=1))=decide (Int.gcd v.N v.D=1) from dk.2 (by unfold Int.gcd;omega)])
def GX (t:Ty) (v:Vl):
    oK cfg 260 [rq t,tZ v] (vB (dO t&&jR t v)):=by
 refine zW func260 O ntmps260 results260 O λz hz=>Y O<|oi O λb1=>oi O λb2=>om O<|zF<|Y O<|zN yD (J 1 O) O<|qK O uB (ZR _) (oy O)<|yL O<|zA<|zK O ?_ ?_<;>intro c1<;>try simp only [sx] at c1
 ·have ht:dO t=false:=zNr c1
  refine ol O O<|zM<|zV O ?_
  rw [ht];rfl
 ·have ht:dO t=true:=JF c1
  refine zJ<|zF<|Y O<|zC O Hd<|zE uB (J 1 O) O<|zA<|zS<|Y O<|yR O<|om O<|qQ O (λc2=>?_) (λc2=>?_)
  ·refine Y O<|zN yD (J 1 O) O<|zN rr (J 0 O) O<|qK O uB (zZk _ _) (oy O)<|om O<|zM<|zV O ?_
   exact ai vB (by rw [ht,jR,c2,<-ZV c2,ht];rfl)
  ·refine Y O<|yR O<|om O<|qQ O (λc3=>?_) (λc3=>?_)
   ·refine Y O<|zC O OG<|zE W (J 0 O) O<|yR O<|G O<|oL O (λg7_3=>zG O L3 O) O<|oG 21 O (λg7_3=>zH O W O (J 0 O) O) O<|oG 22 O (λg7_3=>qP O uB (GY _) (oy O)) O<|kF O (λh=>h)<|om O<|zM<|zV O ?_
    exact ai vB (by rw [ht,jR,kH c2,c3];rfl)
   ·refine zJ<|Y O<|zN rr (J 0 O) O<|qK O uB (H3 _) (oy O)<|om O<|zM<|zV O ?_
    exact ai vB (by rw [ht,jR,kH c2,kH c3];rfl)
def vr (t:Ty) (v:Vl) (ht:dO t=true):
    oK cfg 202 [rq t,tZ v] (vB (jR t v)):=by
 refine zW func202 O ntmps202 results202 O λz hz=>Y O<|oi O λb1=>oi O λb2=>om O<|zF<|Y O<|zC O Hd<|zE uB (J 1 O) O<|yR O<|zA<|qQ O (λc1=>?_) (λc1=>?_)
 ·obtain ⟨b1,b2⟩:=PD (by rw [<-ZV c1];exact ht)
  refine Y O<|zC O Te<|zE uB (J 1 O) O<|zX O (yM O O O ⟨zB,zB⟩)<|zX O (qAg O O O zB)<|om O<|Y O<|zC O OG<|zE W (J 0 O) O<|yR O<|G O<|oL O (λg3_3=>zG O L3 O) O<|oG 17 O (λg3_3=>zH O W O (J 0 O) O) O<|oL O (λg3_3=>zQ O O) O<|oG 19 O (λg3_3=>S6 O O) O<|oV [(18,_),(20,_)] O oP ⟨O,O,O,O,T⟩ (λg3_3=>wN O O O) O<|kF O (λh=>h)<|G O<|oL O (λg3_10=>zG O L3 O) O<|oG 24 O (λg3_10=>zH O W O (J 0 O) O) O<|oL O (λg3_10=>zQ O O) O<|oV [(25,_),(26,_)] O oP ⟨O,O,O,O,T⟩ (λg3_10=>Ad O O O) O<|kF O (λh=>h)<|om O<|zM<|zV O ?_
  exact ai vB (ZD c1 b1 b2)
 ·refine zJ<|zF<|Y O<|zC O L3<|zE W (J 0 O) O<|sf O<|G O<|oL O (λg4_3=>zG O L3 O) O<|oG 33 O (λg4_3=>zH O W O (J 0 O) O) O<|oG 34 O (λg4_3=>Ad O O O) O<|oN O (λh=>(oY h))<|G O<|oL O (λg4_8=>zG O OG O) O<|oG 38 O (λg4_8=>zH O W O (J 0 O) O) O<|oG 39 O (λg4_8=>Ad O O O) O<|oN O (λh=>(oY h))<|G O<|oL O (λg4_13=>zG O OG O) O<|oG 43 O (λg4_13=>zH O W O (J 0 O) O) O<|oG 44 O (λg4_13=>kE O O O) O<|oN O (λh=>(oY h))<|zA<|zK O (λc2=>?_) (λc2=>?_)
  ·refine ol O O<|zM<|zV O ?_
   exact ai vB (Vp c1 c2).symm
  ·obtain ⟨hN1,hN2,hD1,hD2⟩:=ZC c2
   refine zJ<|zF<|Y O<|zC O Hd<|zE uB (J 1 O) O<|yR O<|zA<|qQ O (λc3=>?_) (λc3=>?_)
   ·refine Y O<|zC O OG<|zE W (J 0 O) O<|yR O<|om O<|zM<|zV O ?_
    exact ai vB (by rw [jR,kH c1,c3];simp [rQ,hN1,hN2])
   ·refine zJ<|Y O<|zC O L3<|zE W (J 0 O) O<|zC O L3<|zE W (J 0 O) O<|zX O (S6 O O)<|zX O (zTu O O O)<|zC O OG<|zE W (J 0 O) O<|qK O uB (show oK cfg 245 [vI (max v.N (IntKind.i64.wrap (-v.N))),vI v.D] (vI (Int.gcd v.N v.D)) from by rw [Uj hN1 hN2,show v.D=(v.D.natAbs:Int) by omega];exact OQ _ _) (oy O)<|yR O<|om O<|zM<|zV O ?_
    exact ai vB (by rw [jR,kH c1,kH c3];simp [rQ,hN1,hN2,hD1,hD2];omega)
def zw (t:Ty):
    oK cfg 191 [rq t] (tZ (rZ t)):=by
 refine zW func191 O ntmps191 results191 O λz hz=>Y O<|oi O λb1=>oM O (yA O qj) λb2=>zA<|zF<|Y O<|zN yD (J 1 O) O<|qK O uB (ZR _) (oy O)<|yL O<|zA<|zK O ?_ ?_<;>intro c1<;>try simp only [sx] at c1
 ·refine Y O<|yI O qj sa<|ow 0 qq O<|zA<|zM<|pu (zY rr O (J 0 O) O) ?_
  rw [rZ,zNr c1];rfl
 ·refine zJ<|Y O<|yI O qj sa<|ow 0 qq O<|zA<|zM<|pu (zY rr O (J 0 O) O) ?_
  rw [rZ,JF c1];rfl
def IJ (t:Ty):
    oK cfg 157 [rq t] (tZ (rZ t)):=by
 refine zW func157 O ntmps157 results157 O λz hz=>Y O<|oi O λb1=>oM O (yA O qj) λb2=>zA<|zF<|Y O<|zN yD (J 1 O) O<|qK O uB (zIr _) (oy O)<|kQ O<|zA<|zK O ?_ ?_<;>intro c1<;>try simp only [sx] at c1
 ·refine Y O<|yI O qj sa<|ow 0 qq O<|zA<|zM<|pu (zY rr O (J 0 O) O) ?_
  rw [rZ,c1];rfl
 ·refine zJ<|Y O<|yI O qj sa<|ow 0 qq O<|zA<|zM<|pu (zY rr O (J 0 O) O) ?_
  rw [rZ,c1];rfl
end Go.W
end
section
set_option maxRecDepth 10000
namespace Go.W
open Go Go.Eng Go.Proofs Go.L41 Go.Br Tryz
attribute [local irreducible] oU oX TD gF
def yX:nN prog 62=some 13:=by kernel_rfl
def pa:dW prog 60=some (62,13,160):=by kernel_rfl
def oS:dW prog 72=some (59,2,32):=by kernel_rfl
def wJ:bH prog 62 0=some (0,3):=by kernel_rfl
def Hc:bH prog 62 1=some (1,9):=by kernel_rfl
def SH:bH prog 62 2=some (2,54):=by kernel_rfl
def D9:bH prog 62 3=some (4,56):=by kernel_rfl
def Ae:bH prog 62 4=some (9,59):=by kernel_rfl
def kX:bH prog 62 5=some (11,52):=by kernel_rfl
def rn:bH prog 62 6=some (12,60):=by kernel_rfl
def vc:bH prog 93 0=some (0,59):=by kernel_rfl
def AE:bH prog 93 1=some (2,9):=by kernel_rfl
def rt:bH prog 93 2=some (3,72):=by kernel_rfl
def Yf:flatK prog 54=some [.int,.int]:=by kernel_rfl
def ph:(prog.info? 62).map (·.size)=some 13:=by kernel_rfl
def sh:(prog.info? 93).map (·.size)=some 4:=by kernel_rfl
def WJ:prog.underlying 4=some .bool:=by kernel_rfl
def pd:dZ prog 62=some [pn,Hj,pn,pn,pn,pn,pn,pn,pn,pn,qn,qn,qn]:=by kernel_rfl
def qk:dZ prog 93=some [pn,qn,Hj,qn]:=by kernel_rfl
def Am (op:Int):
    oK cfg 289 [vI op] (vI (bW op)):=by
 refine zW func289 O ntmps289 results289 O ?_
 exact j4
def wT (e:Ex):
    oK cfg 179 [vE e] (vB (bV e)):=by
 refine zW func179 O ntmps179 results179 O λz hz=>Y O<|oi O λb1=>om O<|Y O<|zC O wJ<|zE uB (J 0 O) O<|zX O (vb O O O)<|G O<|oL O (λg1_3=>zG O wJ O) O<|oG 7 O (λg1_3=>zH O uB O (J 0 O) O) O<|oG 8 O (λg1_3=>vb O O O) O<|kF O (λh=>h)<|om O<|zM<|zV O ?_
 exact O
def zTz (op:Int):
    oK cfg 297 [vI op] (vI (bW op)):=by
 refine zW func297 O ntmps297 results297 O ?_
 exact j4
def kZ (e:Ex):
    oK cfg 173 [vE e] (vB (bV e)):=by
 refine zW func173 O ntmps173 results173 O λz hz=>Y O<|oi O λb1=>om O<|Y O<|zC O wJ<|zE uB (J 0 O) O<|zX O (wN O O O)<|G O<|oL O (λg1_3=>zG O wJ O) O<|oG 7 O (λg1_3=>zH O uB O (J 0 O) O) O<|oG 8 O (λg1_3=>vb O O O) O<|kF O (λh=>h)<|om O<|zM<|zV O ?_
 exact O
def zLt (op i:Int):
    oK cfg 291 [vI op,vI i] (vB (jL op i)):=by
 refine zW func291 O ntmps291 results291 O λz hz=>ol O O<|zF<|ol O O<|zS<|zF<|Y O<|yR O<|om O<|qQ O (λc1=>?_) (λc1=>?_)
 ·exact v38
 ·refine Y O<|yR O<|om O<|qQ O (λc2=>?_) (λc2=>?_)
  ·exact v38
  ·refine zP O<|yR O<|om O<|qQ O (λc3=>?_) (λc3=>?_)
   ·refine ol O O<|zM<|zV O ?_
    exact n8
   ·refine zJ<|oo O O<|yR O<|G O<|oL O (λg6_2=>zQ O O) O<|oG 13 O (λg6_2=>yU O O O) O<|kF O (λh=>h)<|om O<|zM<|zV O ?_
    exact n8
def F9 (op i:Int):
    oK cfg 298 [vI op,vI i] (vB (jL op i)):=by
 refine zW func298 O ntmps298 results298 O λz hz=>ol O O<|oo O O<|yR O<|G O<|oL O (λg1_2=>zQ O O) O<|oG 8 O (λg1_2=>yU O O O) O<|kF O (λh=>h)<|G O<|oL O (λg1_6=>zQ O O) O<|oG 12 O (λg1_6=>yU O O O) O<|oN O (λh=>(oY h))<|G O<|oL O (λg1_10=>zQ O O) O<|oG 16 O (λg1_10=>yU O O O) O<|oN O (λh=>(oY h))<|G O<|oL O (λg1_14=>zQ O O) O<|oG 20 O (λg1_14=>yU O O O) O<|oN O (λh=>(oY h))<|om O<|zM<|zV O ?_
 exact O
def zZv (l:Lf):
    oK cfg 284 [dF l] (vB (rC l)):=by
 refine zW func284 O ntmps284 results284 O λz hz=>Y O<|oi O λb1=>om O<|Y O<|zC O ui<|zE W (J 0 O) O<|yR O<|G O<|oL O (λg1_3=>zG O kA O) O<|oG 7 O (λg1_3=>zH O uB O (J 0 O) O) O<|oG 8 O (λg1_3=>yH O N O) O<|oG 9 O (λg1_3=>yU O O O) O<|kF O (λh=>h)<|om O<|zM<|zV O ?_
 exact O
def zZu (x:Ix):
    oK cfg 287 [jW x] (vB (lW x)):=by
 refine zW func287 O ntmps287 results287 O λz hz=>Y O<|oi O λb1=>om O<|zF<|Y O<|zC O AE<|zE uB (J 0 O) O<|wF O<|zA<|zK O ?_ ?_<;>intro c1<;>try simp only [sx] at c1
 ·refine Y O<|zC O rt<|zE uB (J 0 O) O<|qC O oS<|yR O<|om O<|zM<|zV O ?_
  rw [lW,Hk c1];rfl
 ·refine zJ<|Y O<|zC O vc<|zN yV (J 0 O) O<|qK O uB (zZv x.Lin) (oy O)<|om O<|zM<|zV O ?_
  rw [lW,kH c1];rfl
def An (x:Ix):
    oK cfg 286 [jW x] (vB (!lW x)):=by
 refine zW func286 O ntmps286 results286 O λz hz=>Y O<|oi O λb1=>om O<|Y O<|zN vf (J 0 O) O<|qK O uB (zZu x) (oy O)<|kQ O<|om O<|zM<|zV O ?_
 exact O
def CL (x:Ix):
    oK cfg 288 [jW x] (vB (!vZ x)):=by
 refine zW func288 O ntmps288 results288 O λz hz=>Y O<|oi O λb1=>om O<|Y O<|zC O AE<|zE uB (J 0 O) O<|zX O (S4 O O O)<|G O<|oL O (λg1_3=>zG O AE O) O<|oG 7 O (λg1_3=>zH O uB O (J 0 O) O) O<|oG 8 O (λg1_3=>qP O uB (ZX _) (oy O)) O<|oG 9 O (λg1_3=>wM O O) O<|kF O (λh=>h)<|om O<|zM<|zV O ?_
 exact ai vB (by unfold vZ;simp)
def EP (x:Ix):
    oK cfg 290 [jW x] (vB (!vU x)):=by
 refine zW func290 O ntmps290 results290 O λz hz=>Y O<|oi O λb1=>om O<|Y O<|zC O rt<|zE uB (J 0 O) O<|qC O oS<|sf O<|om O<|zM<|zV O ?_
 exact ai vB (by unfold vU;simp)
def EQ (e:Ex) (he:e.wt<=6000000000000):
    oK cfg 256 [vE e] (vB (jX e)):=by
 refine zW func256 O ntmps256 results256 O ?_
 intro z hz
 obtain ⟨hL,hI,hA⟩:=e.parts he
 refine Y O<|oi O λb1=>om O<|zF<|yE 13 mixed uB O O<|ou O (zG O wJ O)<|ou O (zH O uB O (J 0 O) O)<|ou O (yU O O O)<|ou O (zG O wJ O)<|ou O (zH O uB O (J 0 O) O)<|ou O (yU O O O)<|ou O (zQ O O)<|qR [] O O O O oP T (λg1_6=>zG O wJ O) O<|qR [(14,_)] O O O O oP ⟨O,O,T⟩ (λg1_6=>zH O uB O (J 0 O) O) O<|qR [(15,_)] O O O O oP ⟨O,O,T⟩ (λg1_6=>yU O O O) O<|ou O (tj O O O O (λh=>(oY h)))<|ou O (yK O O)<|ou O (yK O O)<|yY<|zA<|zF<|yE 8 mixed uB O O<|ou O (zG O wJ O)<|ou O (zH O uB O (J 0 O) O)<|ou O (yU O O O)<|ou O (zG O wJ O)<|ou O (zH O uB O (J 0 O) O)<|ou O (yU O O O)<|ou O (yK O O)<|ou O (yK O O)<|yY<|zA<|zF<|zS<|Y O<|zC O wJ<|zE uB (J 0 O) O<|yC O<|G O<|oL O (λg3_3=>zG O wJ O) O<|oG 29 O (λg3_3=>zH O uB O (J 0 O) O) O<|oG 30 O (λg3_3=>kE O O O) O<|oN O (λh=>(oY h))<|om O<|zK O (λc1=>?_) (λc1=>?_)
 ·refine ol O O<|zM<|zV O ?_
  exact ai vB (by simp only [jX,c1,aU,cf,aM,bq,bf,dj])
 ·refine oo O O<|kQ O<|G O<|oL O (λg5_2=>zG O SH O) O<|oG 37 O (λg5_2=>qA O rr O (J 0 O) O) O<|oL O (λg5_2=>LU O qj sa O) O<|oV [(38,_),(39,_)] O oP ⟨O,O,O,O,T⟩ (λg5_2=>JE O Yf O O O) O<|kF O (λh=>h)<|om O<|zK O (λc2=>?_) (λc2=>?_)
  ·have c2:(!decide (e.Op=1)&& !cF e.Val)=true:=c2
   refine ol O O<|zM<|zV O ?_
   exact ai vB (by simp only [jX,c2,aU,cf,aM,bq,bf,dj])
  ·have c2:(!decide (e.Op=1)&& !cF e.Val)=false:=c2
   refine oo O O<|kQ O<|G O<|oL O (λg7_2=>zG O D9 O) O<|oG 46 O (λg7_2=>qA O yD O (J 0 O) O) O<|oL O (λg7_2=>LU O v pr O) O<|oV [(47,_),(48,_)] O oP ⟨O,O,O,O,T⟩ (λg7_2=>JE O tf O O O) O<|kF O (λh=>h)<|om O<|zK O (λc3=>?_) (λc3=>?_)
   ·have c3:(!(decide (e.Op=1)||decide (e.Op=12))&& !ty0 e.Ty)=true:=c3
    refine ol O O<|zM<|zV O ?_
    exact ai vB (by simp only [jX,c3,aU,cf,aM,bq,bf,dj])
   ·have c3:(!(decide (e.Op=1)||decide (e.Op=12))&& !ty0 e.Ty)=false:=c3
    refine oo O O<|kQ O<|G O<|oL O (λg9_2=>zG O Ae O) O<|oG 55 O (λg9_2=>qA O yV O (J 0 O) O) O<|oG 56 O (λg9_2=>qP O uB (zZv e.Lin) (oy O)) O<|oG 57 O (λg9_2=>wM O O) O<|kF O (λh=>h)<|om O<|zK O (λc4=>?_) (λc4=>?_)
    ·refine ol O O<|zM<|zV O ?_
     exact ai vB (by simp only [jX,c4,aU,cf,aM,bq,bf,dj])
    ·refine oo O O<|kQ O<|G O<|oL O (λg11_2=>zG O Hc O) O<|oG 64 O (λg11_2=>zH O uB O (J 0 O) O) O<|oG 65 O (λg11_2=>S4 O O O) O<|oG 66 O (λg11_2=>zQ O O) O<|oV [] O oW T (λg11_6=>zG O kX O) O<|oV [(68,_)] O oW ⟨O,O,T⟩ (λg11_6=>zH O uB O (J 0 O) O) O<|oV [(69,_)] O oW ⟨O,O,T⟩ (λg11_6=>yH O oO O) O<|oV [(70,_)] O oW ⟨O,O,T⟩ (λg11_6=>kE O O O) O<|oG 67 O (λg11_2=>tj O O O O (λh=>kO uC (oY h))) O<|kF O (λh=>h)<|om O<|zK O (λc5=>?_) (λc5=>?_)
     ·refine ol O O<|zM<|zV O ?_
      exact ai vB (by simp only [jX,c5,aU,cf,aM,bq,bf,dj])
     ·refine zJ<|Y O<|zC O kX<|zE uB (J 0 O) O<|qK O uB (zDc e.Idx _ (λx=> !lW x) hI (λx _=>FnPur.of_pur (first:=[]) (cap:=[]) uB (An x))) (oy O)<|kQ O<|om O<|zM<|zV O ?_
      exact ai vB (by rw [zMo];simp only [jX,c1,c2,c3,c4,c5,aU,cf,aM,bq,bf,dj])
def HT (e:Ex) (he:e.wt<=6000000000000):
    oK cfg 257 [vE e] (vB (pF e)):=by
 refine zW func257 O ntmps257 results257 O ?_
 intro z hz
 obtain ⟨hL,hI,hA⟩:=e.parts he
 refine Y O<|oi O λb1=>om O<|zF<|Y O<|zC O wJ<|zE uB (J 0 O) O<|yR O<|G O<|oL O (λg1_3=>zG O Hc O) O<|oG 7 O (λg1_3=>zH O uB O (J 0 O) O) O<|oG 8 O (λg1_3=>qP O uB (ZX _) (oy O)) O<|oG 9 O (λg1_3=>wM O O) O<|kF O (λh=>h)<|zA<|zK O (λc1=>?_) (λc1=>?_)
 ·refine ol O O<|zM<|zV O ?_
  exact ai vB (by simp only [pF,c1,aU,bf])
 ·refine zJ<|Y O<|zC O kX<|zE uB (J 0 O) O<|qK O uB (zDc e.Idx _ (λx=> !vZ x) hI (λx _=>FnPur.of_pur (first:=[]) (cap:=[]) uB (CL x))) (oy O)<|kQ O<|om O<|zM<|zV O ?_
  exact ai vB (by rw [zMo];simp only [pF,c1,cf,aM])
def Mk (e:Ex) (he:e.wt<=6000000000000):
    oK cfg 258 [vE e] (vB (rD e)):=by
 refine zW func258 O ntmps258 results258 O ?_
 intro z hz
 obtain ⟨hL,hI,hA⟩:=e.parts he
 refine Y O<|oi O λb1=>om O<|zF<|zF<|yE 13 mixed uB O O<|ou O (zG O rn O)<|ou O (zH O uB O (J 0 O) O)<|ou O (yH O pa O)<|ou O (zG O wJ O)<|ou O (zH O uB O (J 0 O) O)<|ou O (qP O uB (Am _) (oy O))<|ou O (wI O O O)<|ou O (zQ O O)<|qR [] O O O O oP T (λg1_7=>zG O kX O) O<|qR [(11,_)] O O O O oP ⟨O,O,T⟩ (λg1_7=>zH O uB O (J 0 O) O) O<|qR [(12,_)] O O O O oP ⟨O,O,T⟩ (λg1_7=>yH O oO O) O<|qR [(13,_)] O O O O oP ⟨O,O,T⟩ (λg1_7=>kE O O O) O<|ou O (tj O O O O (λh=>(oY h)))<|yY<|zA<|zK O (λc1=>?_) (λc1=>?_)
 ·refine ol O O<|zM<|zV O ?_
  exact ai vB (by simp only [rD,c1,aU,bf])
 ·refine zJ<|Y O<|zC O kX<|zE uB (J 0 O) O<|qK O uB (zDc e.Idx _ (λx=> !vU x) hI (λx _=>FnPur.of_pur (first:=[]) (cap:=[]) uB (EP x))) (oy O)<|kQ O<|om O<|zM<|zV O ?_
  exact ai vB (by rw [zMo];simp only [rD,c1,cf,aM])
def HU (e:Ex) (he:e.wt<=6000000000000):
    oK cfg 259 [vE e] (vB (lO e)):=by
 refine zW func259 O ntmps259 results259 O ?_
 intro z hz
 obtain ⟨hL,hI,hA⟩:=e.parts he
 refine Y O<|oi O λb1=>om O<|zF<|Y O<|zC O wJ<|zE uB (J 0 O) O<|yR O<|G O<|oL O (λg1_3=>zG O wJ O) O<|oG 9 O (λg1_3=>zH O uB O (J 0 O) O) O<|oG 10 O (λg1_3=>yU O O O) O<|oN O (λh=>(oY h))<|G O<|oL O (λg1_8=>zG O D9 O) O<|oG 14 O (λg1_8=>qA O yD O (J 0 O) O) O<|oG 15 O (λg1_8=>qP O uB (ZR _) (oy O)) O<|oG 16 O (λg1_8=>wI O O O) O<|kF O (λh=>h)<|zA<|zK O (λc1=>?_) (λc1=>?_)
 ·rw [B0] at c1
  refine ol O O<|zM<|zV O ?_
  exact ai vB (by simp only [lO,c1,aU,bf])
 ·rw [B0] at c1
  refine zJ<|zF<|Y O<|zC O rn<|zE uB (J 0 O) O<|qC O pa<|om O<|zS<|zT ⟨[(22,.c _),(1,.c _),(20,.c _),(21,.c _)],[_]⟩ (oz [true] oH O)<|qG 1 0 O O (Nat) (λk=>[(22,vI k)]) (λk=>[]) (λk=>k<=e.Args.length/\(hY e.Op 0 e.Args=hY e.Op k (e.Args.drop k))) (λk=>e.Args.length-k) ⟨0,⟨zB,O⟩,oz [true] oH O⟩ ?_
  rintro k ⟨hk,hp⟩
  refine Y O<|yC O<|zA<|zF<|zK O ?_ ?_<;>intro c2<;>try simp only [sx] at c2
  ·obtain ⟨a,ha⟩:=qX e.Args k zB
   refine zJ<|zF<|zS<|oo O O<|qF O pa zB (Aa uC)<|zN yX qE O<|oM O (qJ nt O pd O) λb2=>G O<|ow 0 ph O<|zA<|zF<|yE 7 mixed uB O O<|ou O (qA O yX O (J 0 O) O)<|ou O (qP O uB (wT a) (oy O))<|ou O (zG O wJ O)<|ou O (zH O uB O (J 1 O) O)<|ou O (zQ O O)<|ou O (qP O uB (zLt _ _) (oy O))<|ou O (zKz O WJ O O)<|yY<|zA<|zK O (λc3=>?_) (λc3=>?_)
   ·exact v89
   ·refine zJ<|zP O<|qH O ⟨zB,zB⟩<|G O<|zA ?_
    refine ⟨k+1,⟨zB,(by rw [hp,qN ha,hY,show (bV a==jL e.Op k)=true by simpa using c3,aM];rfl)⟩,zB,oz [false,true] oH O⟩
  ·refine qL<|ol O O<|zM<|zV O ?_
   exact ai vB (by simp only [lO,c1,cf,aM];rw [hp,kN zB];rfl)
def F8 (e:Ex) (he:e.wt<=6000000000000):
    oK cfg 275 [vE e] (vB (lO e)):=by
 refine zW func275 O ntmps275 results275 O ?_
 intro z hz
 obtain ⟨hL,hI,hA⟩:=e.parts he
 refine Y O<|oi O λb1=>om O<|zF<|Y O<|zC O wJ<|zE uB (J 0 O) O<|yR O<|G O<|oL O (λg1_3=>zG O wJ O) O<|oG 8 O (λg1_3=>zH O uB O (J 0 O) O) O<|oG 9 O (λg1_3=>yU O O O) O<|oN O (λh=>(oY h))<|G O<|oL O (λg1_8=>zG O D9 O) O<|oG 13 O (λg1_8=>qA O yD O (J 0 O) O) O<|oG 14 O (λg1_8=>qP O uB (zIr _) (oy O)) O<|oG 15 O (λg1_8=>wM O O) O<|kF O (λh=>h)<|zA<|zK O (λc1=>?_) (λc1=>?_)
 ·refine ol O O<|zM<|zV O ?_
  exact ai vB (by simp only [lO,c1,aU,bf])
 ·refine zJ<|zF<|ol O O<|zS<|zT ⟨[(3,.c _),(1,.c _)],[_]⟩ (oz [true] oH O)<|qG 1 0 O O (Nat) (λk=>[(3,vI k)]) (λk=>[]) (λk=>k<=e.Args.length/\(hY e.Op 0 e.Args=hY e.Op k (e.Args.drop k))) (λk=>e.Args.length-k) ⟨0,⟨zB,O⟩,oz [true] oH O⟩ ?_
  rintro k ⟨hk,hp⟩
  refine zF<|oo O O<|zC O rn<|zE uB (J 0 O) O<|qC O pa<|yC O<|zA<|zK O ?_ ?_<;>intro c2<;>try simp only [sx] at c2
  ·obtain ⟨a,ha⟩:=qX e.Args k zB
   refine zJ<|zF<|zS<|zF<|yE 11 mixed uB O O<|ou O (zG O rn O)<|ou O (zH O uB O (J 0 O) O)<|ou O (zQ O O)<|ou O (qI O pa O O zB (Aa uC))<|ou O (qA O yX O qE O)<|ou O (qP O uB (kZ a) (oy O))<|ou O (zG O wJ O)<|ou O (zH O uB O (J 0 O) O)<|ou O (zQ O O)<|ou O (qP O uB (F9 _ _) (oy O))<|ou O (zKz O WJ O O)<|yY<|zA<|zK O (λc3=>?_) (λc3=>?_)
   ·exact v89
   ·refine zJ<|zP O<|G O<|qH O ⟨zB,zB⟩<|G O<|zA ?_
    refine ⟨k+1,⟨zB,(by rw [hp,qN ha,hY,show (bV a==jL e.Op k)=true by simpa using c3,aM];rfl)⟩,zB,oz [true] oH O⟩
  ·refine qL<|ol O O<|zM<|zV O ?_
   exact ai vB (by simp only [lO,c1,cf,aM];rw [hp,kN zB];rfl)
def F7 (e:Ex) (he:e.wt<=6000000000000):
    oK cfg 272 [vE e] (vB (jX e)):=by
 refine zW func272 O ntmps272 results272 O ?_
 intro z hz
 obtain ⟨hL,hI,hA⟩:=e.parts he
 refine Y O<|oi O λb1=>om O<|zF<|Y O<|zC O wJ<|zE uB (J 0 O) O<|yC O<|G O<|oL O (λg1_3=>zG O wJ O) O<|oG 9 O (λg1_3=>zH O uB O (J 0 O) O) O<|oG 10 O (λg1_3=>kE O O O) O<|oN O (λh=>(oY h))<|zA<|zK O (λc1=>?_) (λc1=>?_)
 ·refine ol O O<|zM<|zV O ?_
  exact ai vB (by simp only [jX,c1,aU,bf])
 ·refine zJ<|zF<|Y O<|zC O wJ<|zE uB (J 0 O) O<|yL O<|G O<|oL O (λg3_3=>zG O SH O) O<|oG 17 O (λg3_3=>qA O rr O (J 0 O) O) O<|oL O (λg3_3=>LU O qj sa O) O<|oV [(18,_),(19,_)] O oP ⟨O,O,O,O,T⟩ (λg3_3=>JE O Yf O O O) O<|kF O (λh=>h)<|G O<|oL O (λg3_9=>zG O wJ O) O<|oG 23 O (λg3_9=>zH O uB O (J 0 O) O) O<|oG 24 O (λg3_9=>wI O O O) O<|oG 25 O (λg3_9=>zQ O O) O<|oV [] O oW T (λg3_13=>zG O wJ O) O<|oV [(27,_)] O oW ⟨O,O,T⟩ (λg3_13=>zH O uB O (J 0 O) O) O<|oV [(28,_)] O oW ⟨O,O,T⟩ (λg3_13=>wI O O O) O<|oG 26 O (λg3_9=>wX O O O (λh=>kO uC h) O) O<|oG 30 O (λg3_9=>zQ O O) O<|oV [] O oW T (λg3_18=>zG O D9 O) O<|oV [(32,_)] O oW ⟨O,O,T⟩ (λg3_18=>qA O yD O (J 0 O) O) O<|oV [] O oW T (λg3_18=>LU O v pr O) O<|oV [(33,_),(34,_)] O oW ⟨O,O,O,O,T⟩ (λg3_18=>JE O tf O O O) O<|oG 31 O (λg3_9=>wX O O O (λh=>kO uC h) O) O<|oN O (λh=>(oY h))<|zA<|zK O (λc2=>?_) (λc2=>?_)
  ·have h2:=QX (e:=e) c2
   refine ol O O<|zM<|zV O ?_
   exact ai vB (syn2 h2)
  ·have h2:=QX (e:=e) c2
   refine zJ<|zF<|Y O<|zC O wJ<|zE uB (J 0 O) O<|yL O<|G O<|oL O (λg5_3=>zG O Ae O) O<|oG 42 O (λg5_3=>zG O ui O) O<|oG 43 O (λg5_3=>zH O W O (J 0 O) O) O<|oG 44 O (λg5_3=>wI O O O) O<|oG 45 O (λg5_3=>zQ O O) O<|oV [] O oW T (λg5_8=>zG O Ae O) O<|oV [(47,_)] O oW ⟨O,O,T⟩ (λg5_8=>zG O kA O) O<|oV [(48,_)] O oW ⟨O,O,T⟩ (λg5_8=>zH O uB O (J 0 O) O) O<|oV [(49,_)] O oW ⟨O,O,T⟩ (λg5_8=>yH O N O) O<|oV [(50,_)] O oW ⟨O,O,T⟩ (λg5_8=>kE O O O) O<|oG 46 O (λg5_3=>tj O O O O (λh=>kO uC (oY h))) O<|kF O (λh=>h)<|G O<|oL O (λg5_16=>zG O wJ O) O<|oG 55 O (λg5_16=>zH O uB O (J 0 O) O) O<|oG 56 O (λg5_16=>wI O O O) O<|oG 57 O (λg5_16=>zQ O O) O<|oV [] O oW T (λg5_20=>zG O Hc O) O<|oV [(59,_)] O oW ⟨O,O,T⟩ (λg5_20=>zH O uB O (J 0 O) O) O<|oV [(60,_)] O oW ⟨O,O,T⟩ (λg5_20=>S4 O O O) O<|oV [(61,_)] O oW ⟨O,O,T⟩ (λg5_20=>zQ O O) O<|oV [] O oW T (λg5_24=>zG O kX O) O<|oV [(63,_)] O oW ⟨O,O,T⟩ (λg5_24=>zH O uB O (J 0 O) O) O<|oV [(64,_)] O oW ⟨O,O,T⟩ (λg5_24=>yH O oO O) O<|oV [(65,_)] O oW ⟨O,O,T⟩ (λg5_24=>kE O O O) O<|oV [(62,_)] O oW ⟨O,O,T⟩ (λg5_20=>tj O O O O (λh=>kO uC (oY h))) O<|oG 58 O (λg5_16=>wX O O O (λh=>kO uC h) O) O<|oN O (λh=>(oY h))<|zA<|zK O (λc3=>?_) (λc3=>?_)
   ·have h3:=QY (e:=e) c3
    refine ol O O<|zM<|zV O ?_
    exact ai vB (syn3 h3)
   ·have h3:=QY (e:=e) c3
    refine zJ<|zF<|ol O O<|zS<|zT ⟨[(3,.c _),(1,.c _)],[_]⟩ (oz [true] oH O)<|qG 1 0 O O (Nat) (λk=>[(3,vI k)]) (λk=>[]) (λk=>k<=e.Idx.length/\(e.Idx.all lW=(e.Idx.drop k).all lW)) (λk=>e.Idx.length-k) ⟨0,⟨zB,O⟩,oz [true] oH O⟩ ?_
    rintro k ⟨hk,hp⟩
    refine zF<|oo O O<|zC O kX<|zE uB (J 0 O) O<|qC O oO<|yC O<|zA<|zK O ?_ ?_<;>intro c4<;>try simp only [sx] at c4
    ·obtain ⟨x,hx⟩:=qX e.Idx k zB
     refine zJ<|zF<|zS<|Y O<|zC O kX<|zE uB (J 0 O) O<|G O<|qF O oO zB (oI uC)<|zN vf qE O<|oM O (qJ nv O qk O) λb2=>ow 0 sh O<|zA<|Y O<|zC O AE<|zE uB (J 0 O) O<|wF O<|G O<|oL O (λg11_3=>zG O rt O) O<|oG 86 O (λg11_3=>zH O uB O (J 0 O) O) O<|oG 87 O (λg11_3=>yH O oS O) O<|oG 88 O (λg11_3=>kE O O O) O<|kF O (λh=>h)<|G O<|oL O (λg11_9=>zG O AE O) O<|oG 92 O (λg11_9=>zH O uB O (J 0 O) O) O<|oG 93 O (λg11_9=>S4 O O O) O<|oG 94 O (λg11_9=>zQ O O) O<|oV [] O oW T (λg11_13=>zG O vc O) O<|oV [(96,_)] O oW ⟨O,O,T⟩ (λg11_13=>zG O ui O) O<|oV [(97,_)] O oW ⟨O,O,T⟩ (λg11_13=>zH O W O (J 0 O) O) O<|oV [(98,_)] O oW ⟨O,O,T⟩ (λg11_13=>wI O O O) O<|oV [(99,_)] O oW ⟨O,O,T⟩ (λg11_13=>zQ O O) O<|oV [] O oW T (λg11_18=>zG O vc O) O<|oV [(101,_)] O oW ⟨O,O,T⟩ (λg11_18=>zG O kA O) O<|oV [(102,_)] O oW ⟨O,O,T⟩ (λg11_18=>zH O uB O (J 0 O) O) O<|oV [(103,_)] O oW ⟨O,O,T⟩ (λg11_18=>yH O N O) O<|oV [(104,_)] O oW ⟨O,O,T⟩ (λg11_18=>kE O O O) O<|oV [(100,_)] O oW ⟨O,O,T⟩ (λg11_13=>tj O O O O (λh=>kO uC (oY h))) O<|oG 95 O (λg11_9=>wX O O O (λh=>kO uC h) O) O<|oN O (λh=>(oY h))<|zA<|zK O (λc5=>?_) (λc5=>?_)
     ·have h5:=G2 (x:=x) c5
      refine ol O O<|zM<|zV O ?_
      exact ai vB (by rw [jX,VY hx (p:=lW) (by simpa using h5)];simp)
     ·have h5:=G2 (x:=x) c5
      refine zJ<|zP O<|G O<|qH O ⟨zB,zB⟩<|G O<|zA ?_
      refine ⟨k+1,⟨zB,zWt hx hp (by simpa using h5)⟩,zB,oz [false,true] oH O⟩
    ·refine qL<|ol O O<|zM<|zV O ?_
     exact ai vB (syn5 c1 h2 h3 (ur hp zB))
def F6 (e:Ex) (he:e.wt<=6000000000000):
    oK cfg 273 [vE e] (vB (pF e)):=by
 refine zW func273 O ntmps273 results273 O ?_
 intro z hz
 obtain ⟨hL,hI,hA⟩:=e.parts he
 refine Y O<|oi O λb1=>om O<|zF<|Y O<|zC O wJ<|zE uB (J 0 O) O<|yR O<|G O<|oL O (λg1_3=>zG O Hc O) O<|oG 8 O (λg1_3=>zH O uB O (J 0 O) O) O<|oG 9 O (λg1_3=>qP O uB (VI _) (oy O)) O<|oG 10 O (λg1_3=>wM O O) O<|kF O (λh=>h)<|zA<|zK O (λc1=>?_) (λc1=>?_)
 ·refine ol O O<|zM<|zV O ?_
  exact ai vB (by simp only [pF,c1,aU,bf])
 ·refine zJ<|zF<|ol O O<|zS<|zT ⟨[(3,.c _),(1,.c _)],[_]⟩ (oz [true] oH O)<|qG 1 0 O O (Nat) (λk=>[(3,vI k)]) (λk=>[]) (λk=>k<=e.Idx.length/\(e.Idx.all vZ=(e.Idx.drop k).all vZ)) (λk=>e.Idx.length-k) ⟨0,⟨zB,O⟩,oz [true] oH O⟩ ?_
  rintro k ⟨hk,hp⟩
  refine zF<|oo O O<|zC O kX<|zE uB (J 0 O) O<|qC O oO<|yC O<|zA<|zK O ?_ ?_<;>intro c2<;>try simp only [sx] at c2
  ·obtain ⟨x,hx⟩:=qX e.Idx k zB
   refine zJ<|zF<|zS<|Y O<|zC O kX<|zE uB (J 0 O) O<|G O<|qF O oO zB (oI uC)<|qS O AE<|zE uB qE O<|zX O (S4 O O O)<|G O<|oL O (λg6_7=>zG O kX O) O<|oG 28 O (λg6_7=>zH O uB O (J 0 O) O) O<|oL O (λg6_7=>zQ O O) O<|oV [(29,_),(30,_)] O oP ⟨O,O,O,O,T⟩ (λg6_7=>qI O oO O O zB (oI uC)) O<|oG 31 O (λg6_7=>qO O AE O) O<|oG 32 O (λg6_7=>zH O uB O qE O) O<|oG 33 O (λg6_7=>qP O uB (VI _) (oy O)) O<|oG 34 O (λg6_7=>wM O O) O<|kF O (λh=>h)<|zA<|zK O (λc3=>?_) (λc3=>?_)
   ·refine ol O O<|zM<|zV O ?_
    exact ai vB (by rw [pF,VY hx (p:=vZ) (by unfold vZ;rw [c3];rfl)];simp)
   ·refine zJ<|zP O<|G O<|qH O ⟨zB,zB⟩<|G O<|zA ?_
    refine ⟨k+1,⟨zB,zWt hx hp (by unfold vZ;rw [c3];rfl)⟩,zB,oz [true] oH O⟩
  ·refine qL<|ol O O<|zM<|zV O ?_
   exact ai vB (by rw [pF,c1,ur hp zB];rfl)
def DC (e:Ex) (he:e.wt<=6000000000000):
    oK cfg 274 [vE e] (vB (rD e)):=by
 refine zW func274 O ntmps274 results274 O ?_
 intro z hz
 obtain ⟨hL,hI,hA⟩:=e.parts he
 refine Y O<|oi O λb1=>om O<|zF<|zF<|yE 13 mixed uB O O<|ou O (zG O rn O)<|ou O (zH O uB O (J 0 O) O)<|ou O (yH O pa O)<|ou O (zG O wJ O)<|ou O (zH O uB O (J 0 O) O)<|ou O (qP O uB (zTz _) (oy O))<|ou O (wI O O O)<|ou O (zQ O O)<|qR [] O O O O oP T (λg1_7=>zG O kX O) O<|qR [(12,_)] O O O O oP ⟨O,O,T⟩ (λg1_7=>zH O uB O (J 0 O) O) O<|qR [(13,_)] O O O O oP ⟨O,O,T⟩ (λg1_7=>yH O oO O) O<|qR [(14,_)] O O O O oP ⟨O,O,T⟩ (λg1_7=>kE O O O) O<|ou O (tj O O O O (λh=>(oY h)))<|yY<|zA<|zK O (λc1=>?_) (λc1=>?_)
 ·refine ol O O<|zM<|zV O ?_
  exact ai vB (by simp only [rD,c1,aU,bf])
 ·refine zJ<|zF<|ol O O<|zS<|zT ⟨[(3,.c _),(1,.c _)],[_]⟩ (oz [true] oH O)<|qG 1 0 O O (Nat) (λk=>[(3,vI k)]) (λk=>[]) (λk=>k<=e.Idx.length/\(e.Idx.all vU=(e.Idx.drop k).all vU)) (λk=>e.Idx.length-k) ⟨0,⟨zB,O⟩,oz [true] oH O⟩ ?_
  rintro k ⟨hk,hp⟩
  refine zF<|oo O O<|zC O kX<|zE uB (J 0 O) O<|qC O oO<|yC O<|zA<|zK O ?_ ?_<;>intro c2<;>try simp only [sx] at c2
  ·obtain ⟨x,hx⟩:=qX e.Idx k zB
   refine zJ<|zF<|zS<|Y O<|zC O kX<|zE uB (J 0 O) O<|G O<|qF O oO zB (oI uC)<|qS O rt<|zE uB qE O<|qC O oS<|sf O<|zA<|zK O (λc3=>?_) (λc3=>?_)
   ·refine ol O O<|zM<|zV O ?_
    exact ai vB (by rw [rD,VY hx (p:=vU) (by unfold vU;rw [c3];rfl)];simp)
   ·refine zJ<|zP O<|G O<|qH O ⟨zB,zB⟩<|G O<|zA ?_
    refine ⟨k+1,⟨zB,zWt hx hp (by unfold vU;rw [c3];rfl)⟩,zB,oz [true] oH O⟩
  ·refine qL<|ol O O<|zM<|zV O ?_
   exact ai vB (by rw [rD,c1,ur hp zB];rfl)
def DB (e:Ex) (he:e.wt<=6000000000000) (hty:e.Op=1->dO e.Ty=true):
    oK cfg 276 [vE e] (vB (mD e)):=by
 refine zW func276 O ntmps276 results276 O ?_
 intro z hz
 obtain ⟨hL,hI,hA⟩:=e.parts he
 refine Y O<|oi O λb1=>om O<|zF<|Y O<|zC O wJ<|zE uB (J 0 O) O<|yR O<|G O<|oL O (λg1_3=>zG O D9 O) O<|oG 9 O (λg1_3=>qA O yD O (J 0 O) O) O<|oL O (λg1_3=>zG O SH O) O<|oG 11 O (λg1_3=>qA O rr O (J 0 O) O) O<|oV [(10,_),(12,_)] O oP ⟨O,O,O,O,T⟩ (λg1_3=>qP O uB (vr e.Ty e.Val (hty (by simp only [Lz,aB,aw,sx] at g1_3;exact g1_3))) (oy O)) O<|oG 13 O (λg1_3=>wM O O) O<|kF O (λh=>h)<|G O<|oL O (λg1_11=>zG O Ae O) O<|oG 17 O (λg1_11=>qA O yV O (J 0 O) O) O<|oG 18 O (λg1_11=>qP O uB (ZU e.Lin hL) (oy O)) O<|oG 19 O (λg1_11=>wM O O) O<|oN O (λh=>(oY h))<|zA<|zK O (λc1=>?_) (λc1=>?_)
 ·refine ol O O<|zM<|zV O ?_
  exact ai vB (TY c1)
 ·refine zJ<|zF<|ol O O<|zS<|zT ⟨[(3,.c _),(1,.c _)],[_]⟩ (oz [true] oH O)<|qG 1 0 O O (Nat) (λk=>[(3,vI k)]) (λk=>[]) (λk=>k<=e.Idx.length/\((dH e).all bI=((e.Idx.drop k).flatMap λx=>x.Lin::x.At).all bI)) (λk=>e.Idx.length-k) ⟨0,⟨zB,HY c1⟩,oz [true] oH O⟩ ?_
  rintro k ⟨hk,hp⟩
  refine zF<|oo O O<|zC O kX<|zE uB (J 0 O) O<|qC O oO<|yC O<|zA<|zK O ?_ ?_<;>intro c2<;>try simp only [sx] at c2
  ·obtain ⟨x,hx⟩:=qX e.Idx k zB
   have hxw:=Ex.idx_wt (qD hx)
   refine zJ<|zF<|zS<|zF<|Y O<|zC O kX<|zE uB (J 0 O) O<|G O<|qF O oO zB (oI uC)<|qS O vc<|zN yV qE O<|qK O uB (ZU x.Lin zB) (oy O)<|kQ O<|zA<|zK O ?_ ?_<;>intro c3<;>try simp only [sx] at c3
   ·refine ol O O<|zM<|zV O ?_
    exact ai vB (E1 hp (by rw [qN hx,cc,cj,bm,c3];rfl))
   ·refine zJ<|ol O O<|zS<|zT ⟨[(4,.c _),(1,.c _),(3,.c _)],[_]⟩ (oz [true] oH O)<|qG 1 0 O O (Nat) (λj=>[(4,vI j)]) (λj=>[]) (λj=>j<=x.At.length/\(x.At.all bI=(x.At.drop j).all bI)) (λj=>x.At.length-j) ⟨0,⟨zB,O⟩,oz [true] oH O⟩ ?_
    rintro j ⟨hj,hq⟩
    refine zF<|oo O O<|zC O kX<|zE uB (J 0 O) O<|G O<|qF O oO zB (oI uC)<|qS O rt<|zE uB qE O<|qC O oS<|yC O<|zA<|zK O ?_ ?_<;>intro c4<;>try simp only [sx] at c4
    ·obtain ⟨l,hl⟩:=qX x.At j zB
     have hlw:=Sr (qD hl)
     refine zJ<|zF<|zS<|Y O<|zC O kX<|zE uB (J 0 O) O<|G O<|qF O oO zB (oI uC)<|qS O rt<|zE uB qE O<|G O<|qF O oS zB (oI uC)<|zN yV qE O<|qK O uB (ZU l zB) (oy O)<|kQ O<|zA<|zK O ?_ ?_<;>intro c5<;>try simp only [sx] at c5
     ·refine ol O O<|zM<|zV O ?_
      exact ai vB (E1 hp (by rw [qN hx,cc,cj,bm,VY hl (p:=bI) c5];simp))
     ·refine zJ<|zP O<|G O<|qH O ⟨zB,zB⟩<|G O<|zA ?_
      refine ⟨j+1,⟨zB,zWt hl hq c5⟩,zB,oz [true] oH O⟩
    ·refine qL<|zP O<|G O<|qH O ⟨zB,zB⟩<|G O<|zA ?_
     refine ⟨k+1,⟨zB,(by rw [hp,qN hx,cc,cj,bm,c3,ur hq zB];rfl)⟩,zB,oz [true] oH O⟩
  ·refine qL<|ol O O<|zM<|zV O ?_
   exact ai vB (PE c1 (by rw [hp,kN zB];rfl))
def zYa (e:Ex) (ih:∀a,a∈e.Args->a.wt<=6000000000000->oK cfg 241 [vE a] (vI (fJ a))) (he:e.wt<=6000000000000):
    oK cfg 241 [vE e] (vI (fJ e)):=by
 refine zW func241 O ntmps241 results241 O ?_
 intro z hz
 obtain ⟨hL,hI,hA⟩:=e.parts he
 refine Y O<|oi O λb1=>om O<|zF<|zS<|Y O<|zN yX (J 0 O) O<|qK O uB (F7 e he) (oy O)<|kQ O<|om O<|zK O ?_ ?_<;>intro c1<;>try simp only [sx] at c1
 ·refine ol O O<|zM<|zV O ?_
  exact ai vI (by rw [Xa,show dC e=5 by simp only [dC,c1];rfl];rfl)
 ·refine Y O<|zN yX (J 0 O) O<|qK O uB (F6 e he) (oy O)<|kQ O<|om O<|zK O ?_ ?_<;>intro c2<;>try simp only [sx] at c2
  ·refine ol O O<|zM<|zV O ?_
   exact ai vI (by rw [Xa,show dC e=7 by simp only [dC,c1,c2];rfl];rfl)
  ·refine Y O<|zN yX (J 0 O) O<|qK O uB (DC e he) (oy O)<|kQ O<|om O<|zK O ?_ ?_<;>intro c3<;>try simp only [sx] at c3
   ·refine ol O O<|zM<|zV O ?_
    exact ai vI (by rw [Xa,show dC e=11 by simp only [dC,c1,c2,c3];rfl];rfl)
   ·refine Y O<|zN yX (J 0 O) O<|qK O uB (F8 e he) (oy O)<|kQ O<|om O<|zK O ?_ ?_<;>intro c4<;>try simp only [sx] at c4
    ·refine ol O O<|zM<|zV O ?_
     exact ai vI (by rw [Xa,show dC e=10 by simp only [dC,c1,c2,c3,c4];rfl];rfl)
    ·refine Y O<|zN yX (J 0 O) O<|qK O uB (DB e he (GS c4)) (oy O)<|kQ O<|om O<|zK O ?_ ?_<;>intro c5<;>try simp only [sx] at c5
     ·refine ol O O<|zM<|zV O ?_
      exact ai vI (by rw [Xa,show dC e=1 by simp only [dC,c1,c2,c3,c4,c5];rfl];rfl)
     ·have hn:dC e=0:=by simp only [dC,c1,c2,c3,c4,c5];rfl
      refine zJ<|zF<|ol O O<|zS<|zT ⟨[(3,.c _),(1,.c _)],[_]⟩ (oz [true] oH O)<|qG 1 0 O O (Nat) (λk=>[(3,vI k)]) (λk=>[]) (λk=>k<=e.Args.length/\(tM e.Args=tM (e.Args.drop k))) (λk=>e.Args.length-k) ⟨0,⟨zB,O⟩,oz [true] oH O⟩ ?_
      rintro k ⟨hk,hp⟩
      refine zF<|oo O O<|zC O rn<|zE uB (J 0 O) O<|qC O pa<|yC O<|zA<|zK O ?_ ?_<;>intro c6<;>try simp only [sx] at c6
      ·obtain ⟨a,ha⟩:=qX e.Args k zB
       refine zJ<|zF<|zS<|Y O<|zC O rn<|zE uB (J 0 O) O<|G O<|qF O pa zB (Aa uC)<|zN yX qE O<|qK O uB (ih a (qD ha) (by have:=Ex.arg_wt (qD ha);omega)) (oy O)<|om O<|oo O O<|yL O<|zA<|zK O ?_ ?_<;>intro c7<;>try simp only [sx] at c7
       ·refine oo O O<|om O<|zM<|zV O ?_
        exact ai vI (by rw [Xa e,hn,Hk rfl,aB,hp,qN ha,zSv,kH c7];rfl)
       ·refine zJ<|zP O<|G O<|qH O ⟨zB,zB⟩<|G O<|zA ?_
        refine ⟨k+1,⟨zB,(by rw [hp,qN ha,zSv,Hk c7];rfl)⟩,zB,oz [true] oH O⟩
      ·refine qL<|ol O O<|zM<|zV O ?_
       exact ai vI (by rw [Xa,hn,Hk rfl,aB,hp,kN zB];rfl)
def IP (e:Ex) (he:e.wt<=6000000000000):oK cfg 241 [vE e] (vI (fJ e)):=by
  induction e using Ex.ind with
  |_ e ih=>exact zYa e ih he
def zNk (n:Nat) (ih:n≠0->∀(a:Ex) (l:Int),a.wt<=6000000000000->l=n->oK cfg 253 [vE a,vI l] (vI (mU (n-1) a))) (hn:n<=100) (e:Ex) (l:Int) (he:e.wt<=6000000000000) (hl:l=n+1):
    oK cfg 253 [vE e,vI l] (vI (mU n e)):=by
 refine zW func253 O ntmps253 results253 O ?_
 intro z hz
 obtain ⟨hL,hI,hA⟩:=e.parts he
 refine Y O<|oi O λb1=>om O<|zF<|oo O O<|zX O (vb O O O)<|zA<|zK O ?_ ?_<;>intro c1<;>try simp only [sx] at c1
 ·obtain rfl:n=0:=by omega
  refine oo O O<|om O<|zM<|zV O ?_
  exact ai vI (by rw [hl];rfl)
 ·obtain ⟨m,rfl⟩:∃m,n=m+1:=⟨n-1,zB⟩
  refine zJ<|ol O O<|zF<|Y O<|zC O rn<|zE uB (J 0 O) O<|qC O pa<|om O<|zS<|zT ⟨[(14,.c _),(5,.c _),(1,.c _),(12,.c _),(13,.c _)],[]⟩ (oz [false] oH O)<|qG 2 0 O O (Nat×Int) (λ⟨k,d⟩=>[(14,vI k),(5,vI d)]) (λ⟨k,d⟩=>[]) (λ⟨k,d⟩=>k<=e.Args.length/\(1<=d)/\(d<=m+2)/\(mU (m+1) e=vK (mU m) d (e.Args.drop k))) (λ⟨k,d⟩=>e.Args.length-k) ⟨⟨0,1⟩,⟨zB,zB,zB,O⟩,oz [] ⟨zD,VLe.of_eq (O),zD,zD,zD,T⟩ O⟩ ?_
  rintro ⟨k,d⟩ ⟨hk,hd1,hd2,hd3⟩
  show oU _ _ _ _ _ ⟨[(14,vI k),(5,vI d)]++_,[]++_⟩
  refine Y O<|yC O<|zA<|zF<|zK O ?_ ?_<;>intro c2<;>try simp only [sx] at c2
  ·obtain ⟨a,ha⟩:=qX e.Args k zB
   have hda:=Cx m a
   refine zJ<|zF<|zS<|Y O<|qF O pa zB (Aa uC)<|zN yX qE O<|oM O (qJ nt O pd O) λb2=>ow 0 ph O<|zA<|zP O<|G O<|zN yX (J 0 O) O<|G O<|zX O (yM O O O ⟨zB,zB⟩)<|qK O uB (show oK cfg 253 [vE a,vI (l-1)] (vI (mU m a)) from ih zB a _ (by have:=Ex.arg_wt (qD ha);omega) zB) (oy O)<|qH O ⟨zB,zB⟩<|zX O (zTu O O O)<|om O<|zP O<|qH O ⟨zB,zB⟩<|G O<|zA ?_
   refine ⟨⟨k+1,max d (1+mU m a)⟩,⟨zB,zB,zB,by rw [hd3,qN ha,vK]⟩,(by show e.Args.length-(k+1)<e.Args.length-k;omega),oz [false] oH O⟩
  ·refine qL<|oo O O<|om O<|zM<|zV O ?_
   exact ai vI (by rw [hd3,kN zB];rfl)
def HR (n:Nat) (e:Ex) (l:Int) (hn:n<=100) (he:e.wt<=6000000000000) (hl:l=n+1):oK cfg 253 [vE e,vI l] (vI (mU n e)):=by
  induction n generalizing e l with
  |zero=>exact zNk 0 (λh=>absurd rfl h) hn e l he hl
  |succ n ih=>exact zNk (n+1) (λ_ a l h1 h2=>ih a l zB h1 zB) hn e l he hl
def zLi (n:Nat) (ih:n≠0->∀(a:Ex) (l:Int),a.wt<=6000000000000->l=n->oK cfg 270 [vE a,vI l] (vI (mU (n-1) a))) (hn:n<=100) (e:Ex) (l:Int) (he:e.wt<=6000000000000) (hl:l=n+1):
    oK cfg 270 [vE e,vI l] (vI (mU n e)):=by
 refine zW func270 O ntmps270 results270 O ?_
 intro z hz
 obtain ⟨hL,hI,hA⟩:=e.parts he
 refine Y O<|oi O λb1=>om O<|ol O O<|zF<|ol O O<|zS<|zT ⟨[(6,.c _),(5,.c _),(1,.c _),(2,.c _)],[_]⟩ (oz [true] oH O)<|qG 2 0 O O (Nat×Int) (λ⟨k,d⟩=>[(6,vI k),(5,vI d)]) (λ⟨k,d⟩=>[]) (λ⟨k,d⟩=>k<=e.Args.length/\(1<=d)/\(d<=n+1)/\(n≠0->mU n e=vK (mU (n-1)) d (e.Args.drop k))/\(n=0->d=1)) (λ⟨k,d⟩=>e.Args.length-k) ⟨⟨0,1⟩,⟨zB,zB,zB,λh0=>Mg h0,λ_=>O⟩,oz [true] ⟨zD,VLe.of_eq (O),zD,zD,T⟩ O⟩ ?_
 rintro ⟨k,d⟩ ⟨hk,hd1,hd2,hd3,hd4⟩
 show oU _ _ _ _ _ ⟨[(6,vI k),(5,vI d)]++_,[]++_⟩
 refine zF<|oo O O<|zC O rn<|zE uB (J 0 O) O<|qC O pa<|yC O<|G O<|oL O (λg3_5=>zQ O O) O<|oG 13 O (λg3_5=>kE O O O) O<|kF O (λh=>h)<|zA<|zK O ?_ ?_<;>intro c1<;>try simp only [sx] at c1
 ·obtain ⟨a,ha⟩:=qX e.Args k zB
  have hda:=Cx (n-1) a
  refine zJ<|zF<|zS<|zP O<|G O<|zC O rn<|zE uB (J 0 O) O<|G O<|qF O pa zB (Aa uC)<|zN yX qE O<|G O<|zX O (yM O O O ⟨zB,zB⟩)<|qK O uB (ih zB a _ (by have:=Ex.arg_wt (qD ha);omega) zB) (oy O)<|qH O ⟨zB,zB⟩<|zX O (zTu O O O)<|om O<|zP O<|G O<|qH O ⟨zB,zB⟩<|G O<|zA ?_
  refine ⟨⟨k+1,max d (1+mU (n-1) a)⟩,⟨zB,zB,zB,λh0=>by rw [hd3 h0,qN ha,vK],λh0=>by omega⟩,(by show e.Args.length-(k+1)<e.Args.length-k;omega),oz [true] oH O⟩
 ·refine qL<|oo O O<|om O<|zM<|zV O ?_
  exact ai vI (TC hl zB hd3 hd4)
def F5 (n:Nat) (e:Ex) (l:Int) (hn:n<=100) (he:e.wt<=6000000000000) (hl:l=n+1):oK cfg 270 [vE e,vI l] (vI (mU n e)):=by
  induction n generalizing e l with
  |zero=>exact zLi 0 (λh=>absurd rfl h) hn e l he hl
  |succ n ih=>exact zLi (n+1) (λ_ a l h1 h2=>ih a l zB h1 zB) hn e l he hl
def HQ (e:Ex) (he:e.wt<=6000000000000):
    oK cfg 218 [vE e] (vI (mU 40 e)):=by
 refine zW func218 O ntmps218 results218 O λz hz=>Y O<|oi O λb1=>om O<|Y O<|zN yX (J 0 O) O<|qK O uB (HR 40 e 41 zB he zB) (oy O)<|om O<|zM<|zV O ?_
 exact O
def F4 (e:Ex) (he:e.wt<=6000000000000):
    oK cfg 239 [vE e] (vI (mU 40 e)):=by
 refine zW func239 O ntmps239 results239 O λz hz=>Y O<|oi O λb1=>om O<|Y O<|zN yX (J 0 O) O<|qK O uB (F5 40 e 41 zB he zB) (oy O)<|om O<|zM<|zV O ?_
 exact O
def zXz (e:Ex) (ih:∀a,a∈e.Args->∀(m:Nat) (l:Int),a.wt<=6000000000000->m<=1000000->l=m->oK cfg 271 [vE a,vI l] (vI (vA a m))) (m:Nat) (l:Int) (he:e.wt<=6000000000000) (hm:m<=1000000) (hl:l=m):
    oK cfg 271 [vE e,vI l] (vI (vA e m)):=by
 refine zW func271 O ntmps271 results271 O ?_
 intro z hz
 obtain ⟨hL,hI,hA⟩:=e.parts he
 refine Y O<|oi O λb1=>om O<|ol O O<|zF<|ol O O<|zS<|zT ⟨[(6,.c _),(5,.c _),(1,.c _),(2,.c _)],[_]⟩ (oz [true] oH O)<|qG 2 0 O O (Nat×Nat) (λ⟨k,n⟩=>[(6,vI k),(5,vI n)]) (λ⟨k,n⟩=>[]) (λ⟨k,n⟩=>k<=e.Args.length/\(n<=m+1)/\(vA e m=tJ (e.Args.drop k) m n)) (λ⟨k,n⟩=>e.Args.length-k) ⟨⟨0,1⟩,⟨zB,zB,U9 e m⟩,oz [true] ⟨zD,VLe.of_eq (O),zD,zD,T⟩ O⟩ ?_
 rintro ⟨k,n⟩ ⟨hk,hn1,hn2⟩
 show oU _ _ _ _ _ ⟨[(6,vI k),(5,vI n)]++_,[]++_⟩
 refine zF<|oo O O<|zC O rn<|zE uB (J 0 O) O<|qC O pa<|yC O<|G O<|oL O (λg3_5=>zQ O O) O<|oL O (λg3_5=>zQ O O) O<|oV [(13,_),(14,_)] O oP ⟨O,O,O,O,T⟩ (λg3_5=>vb O O O) O<|kF O (λh=>h)<|zA<|zK O ?_ ?_<;>intro c1<;>try simp only [sx] at c1
 ·obtain ⟨a,ha⟩:=qX e.Args k zB
  have hsa:=y8 a (m-n)
  refine zJ<|zF<|zS<|zP O<|G O<|zC O rn<|zE uB (J 0 O) O<|G O<|qF O pa zB (Aa uC)<|zN yX qE O<|G O<|G O<|zX O (yM O O O ⟨zB,zB⟩)<|qK O uB (ih a (qD ha) (m-n) _ (by have:=Ex.arg_wt (qD ha);omega) zB zB) (oy O)<|qH O ⟨zB,zB⟩<|om O<|zP O<|G O<|qH O ⟨zB,zB⟩<|G O<|zA ?_
  refine ⟨⟨k+1,n+vA a (m-n)⟩,⟨zB,zB,by rw [hn2,qN ha,tJ,ab zB]⟩,(by show e.Args.length-(k+1)<e.Args.length-k;omega),oz [true] ⟨zD,VLe.of_eq (ai vI zB),zD,zD,T⟩ O⟩
 ·refine qL<|oo O O<|om O<|zM<|zV O ?_
  exact ai vI (by rw [hn2];exact ai Nat.cast (Va hl zB))
def IQ (e:Ex) (m:Nat) (l:Int) (he:e.wt<=6000000000000) (hm:m<=1000000) (hl:l=m):oK cfg 271 [vE e,vI l] (vI (vA e m)):=by
  induction e using Ex.ind generalizing m l with
  |_ e ih=>exact zXz e (λa ha m l h1 h2 h3=>ih a ha m l h1 h2 h3) m l he hm hl
def IM (e:Ex) (he:e.wt<=6000000000000):
    oK cfg 240 [vE e] (vI (Zu e)):=by
 refine zW func240 O ntmps240 results240 O λz hz=>Y O<|oi O λb1=>om O<|Y O<|zN yX (J 0 O) O<|qK O uB (IQ e 2000 2000 he zB O) (oy O)<|zX O (J7 O O O)<|om O<|zM<|zV O ?_
 exact ai vI (by rw [y8,Zu];omega)
def zOs (e:Ex) (he:e.wt<=6000000000000):
    oK cfg 197 [vE e] (vI (dT e)):=by
 refine zW func197 O ntmps197 results197 O λz hz=>Y O<|oi O λb1=>om O<|zF<|Y O<|zN yX (J 0 O) O<|qK O uB (F4 e he) (oy O)<|sf O<|zA<|zK O ?_ ?_<;>intro c1<;>try simp only [sx] at c1
 ·refine ol O O<|zM<|zV O ?_
  rw [dT,Hk c1];rfl
 ·refine zJ<|zF<|Y O<|zN yX (J 0 O) O<|qK O uB (IM e he) (oy O)<|sf O<|zA<|zK O ?_ ?_<;>intro c2<;>try simp only [sx] at c2
  ·refine ol O O<|zM<|zV O ?_
   rw [dT,kH zB,Hk c2];rfl
  ·refine zJ<|Y O<|zN yX (J 0 O) O<|qK O uB (IP e he) (oy O)<|om O<|zM<|zV O ?_
   rw [dT,kH zB,kH zB];rfl
end Go.W
end
section
set_option maxRecDepth 10000
namespace Go.W
open Go Go.Eng Go.Proofs Go.L41 Go.Br Tryz
attribute [local irreducible] oU oX TD gF
def sz3:(prog.info? 3).map (·.size)=some 1:=by kernel_rfl
def th:(prog.info? 34).map (·.size)=some 1:=by kernel_rfl
def Oq:dZ prog 3=some [pn]:=by kernel_rfl
def zr34:dZ prog 34=some [pn]:=by kernel_rfl
def HS (e:Ex):
    oK cfg 261 [vE e] (.c (.fn (.func 294) [] [.iptr e.cs])):=by
 refine zW func261 O ntmps261 results261 O ?_
 exact v71
def H1 (e:Ex) (he:e.wt<=6000000000000):
    iJ cfg 294 [] [.iptr e.cs] (dH e) λl=>[dF l]:=by
 obtain ⟨hL,hI,hA⟩:=e.parts he
 intro y J Jx μ hy0 h0
 have hy:=λpre x suf μ h1 h2=>Ks (hy0 pre x suf μ h1 h2)
 refine zW func294 O ntmps294 results294 O λz hz=>zF<|oo O O<|qS O Ae<|zN yV qE O<|qB O O (VC O O (hy [] e.Lin _ _ O h0) (oy O)) ?_
 rintro _ m0 ⟨y0,rfl,t0,f0⟩
 refine kQ O<|zA<|zK O ?_ ?_<;>intro c1<;>try simp only [sx] at c1
 ·refine zM<|CQ ?_
  exact .inr ⟨[],e.Lin,_,O,f0 c1⟩
 ·refine zJ<|Y O<|qS O kX<|zE uB qE O<|qC O oO<|om O<|zS<|zT ⟨[(15,.c _),(0,.c _),(13,.c _),(14,.c _)],_⟩ (Weak.regs oH)<|zHw 1 O (Nat×List E) (λ⟨k,m⟩=>[(15,vI k)]) (λ⟨k,m⟩=>m) (λ⟨k,m⟩=>k<=e.Idx.length/\(J (e.Lin::(e.Idx.take k).flatMap sr) m)) (λ⟨k,m⟩=>e.Idx.length-k) ⟨⟨0,m0⟩,⟨zB,t0 c1⟩,Weak.regs oH⟩ ?_
  rintro ⟨k,m⟩ ⟨hk,hJ⟩
  refine Y O<|yC O<|zA<|zF<|zK O ?_ ?_<;>intro c2<;>try simp only [sx] at c2
  ·obtain ⟨x,hx⟩:=qX e.Idx k zB
   have hxw:=Ex.idx_wt (qD hx)
   refine zJ<|zF<|zS<|Y O<|qF O oO zB (oI uC)<|zN vf qE O<|oM O (qJ nv O qk O) λb1=>ow 0 sh O<|yQ _ (kR 0 O 4 _ PLe.ptr)<|zA<|zF<|oo O O<|qS O vc<|zN yV qE O<|qB O O (VC O O (hy _ x.Lin _ _ (xa hx) hJ) (oy O)) ?_
   rintro _ m1 ⟨y1,rfl,t1,f1⟩
   refine kQ O<|zA<|zK O ?_ ?_<;>intro c3<;>try simp only [sx] at c3
   ·refine zM<|CQ ?_
    exact .inr ⟨_,x.Lin,_,xa hx,f1 c3⟩
   ·refine zJ<|Y O<|qS O rt<|zE uB qE O<|qC O oS<|om O<|zS<|zT ⟨[(27,.c _),(0,.c _),(13,.c _),(14,.c _),(15,.c _),(25,.c _),(26,.c _)],_⟩ (Weak.regs oH)<|zHw 1 O (Nat×List E) (λ⟨j,n⟩=>[(27,vI j)]) (λ⟨j,n⟩=>n) (λ⟨j,n⟩=>j<=x.At.length/\(J ((e.Lin::(e.Idx.take k).flatMap sr)++[x.Lin]++x.At.take j) n)) (λ⟨j,n⟩=>x.At.length-j) ⟨⟨0,m1⟩,⟨zB,by simpa using t1 c3⟩,Weak.regs oH⟩ ?_
    rintro ⟨j,n⟩ ⟨hj,hJ2⟩
    refine Y O<|yC O<|zA<|zF<|zK O ?_ ?_<;>intro c4<;>try simp only [sx] at c4
    ·obtain ⟨l,hl⟩:=qX x.At j zB
     refine zJ<|zF<|zS<|Y O<|qF O oS zB (oI uC)<|zN yV qE O<|oM O (qJ [none,some 2] O U O) λb2=>ow 0 oZ O<|yQ _ (kR 0 O 6 _ PLe.ptr)<|zA<|oo O O<|zN yV qE O<|qB O O (VC O O (hy _ l _ _ (A9 hx hl) hJ2) (oy O)) ?_
     rintro _ m2 ⟨y2,rfl,t2,f2⟩
     refine kQ O<|zA<|zK O ?_ ?_<;>intro c5<;>try simp only [sx] at c5
     ·refine zM<|CQ ?_
      exact .inr ⟨_,l,_,A9 hx hl,f2 c5⟩
     ·refine zJ<|zP O<|qH O ⟨zB,zB⟩<|G O<|zA ?_
      refine ⟨⟨j+1,m2⟩,⟨zB,by rw [yB hl];simpa [tu] using t2 c5⟩,(by show x.At.length-(j+1)<x.At.length-j;omega),Weak.regs oH⟩
    ·refine qL<|zP O<|qH O ⟨zB,zB⟩<|G O<|zA ?_
     refine ⟨⟨k+1,n⟩,⟨zB,by rw [H2 hx];rw [yG (l:=x.At) zB] at hJ2;exact hJ2⟩,(by show e.Idx.length-(k+1)<e.Idx.length-k;omega),Weak.regs oH⟩
  ·refine qL ?_
   repeat (first|refine kJ ?_|refine kB ?_)
   refine wK<|CQ ?_
   rw [yG zB] at hJ;exact .inl hJ
def zZw (e:Ex):
    oK cfg 220 [vE e] (.c (.fn (.func 254) [] [.iptr e.cs])):=by
 refine zW func220 O ntmps220 results220 O ?_
 exact v71
def N8 (e:Ex) (he:e.wt<=6000000000000) (ih:∀a,a∈e.Args->a.wt<=6000000000000->(∀(y:C) (J Jx:List Ex->List E->Prop) (pre0:List Ex) (μ:List E),(∀pre x suf μ,dE a=pre++x::suf->J (pre0++pre) μ->FnCon cfg y [vE x] μ λr μ'=>∃b,r=.c (.lit (.bool b))/\(b=true->J (pre0++pre++[x]) μ')/\(b=false->Jx (pre0++pre++[x]) μ'))->J pre0 μ->Con cfg 255 [vE a,.c y] μ λr μ'=>∃b,r=.c (.lit (.bool b))/\(b=true->J (pre0++dE a) μ')/\(b=false->∃pre x suf,dE a=pre++x::suf/\Jx (pre0++pre++[x]) μ'))):
    ∀(y:C) (J Jx:List Ex->List E->Prop) (pre0:List Ex) (μ:List E),(∀pre x suf μ,dE e=pre++x::suf->J (pre0++pre) μ->FnCon cfg y [vE x] μ λr μ'=>∃b,r=.c (.lit (.bool b))/\(b=true->J (pre0++pre++[x]) μ')/\(b=false->Jx (pre0++pre++[x]) μ'))->J pre0 μ->Con cfg 255 [vE e,.c y] μ λr μ'=>∃b,r=.c (.lit (.bool b))/\(b=true->J (pre0++dE e) μ')/\(b=false->∃pre x suf,dE e=pre++x::suf/\Jx (pre0++pre++[x]) μ'):=by
 obtain ⟨hL,hI,hA⟩:=e.parts he
 intro y J Jx pre0 μ hy h0
 refine zW func255 O ntmps255 results255 O λz hz=>Y O<|oi O λb1=>yQ _ (kR 0 O 2 _ PLe.ptr)<|om O<|zF<|oo O O<|zN yX qE O<|qB O O (VC O O (hy [] e _ _ (G8 e) (show J (pre0++[]) μ by simpa using h0)) (oy O)) ?_
 rintro _ m0 ⟨y0,rfl,t0,f0⟩
 refine kQ O<|zA<|zK O ?_ ?_<;>intro c1<;>try simp only [sx] at c1
 ·refine ol O O<|zM<|zV O ?_
  exact ⟨false,O,λh=>(by cases h),λ_=>⟨[],e,_,G8 e,by simpa using f0 c1⟩⟩
 ·refine zJ<|zF<|Y O<|qS O rn<|zE uB qE O<|qC O pa<|om O<|zS<|zT ⟨[(14,.c _),(1,.c _),(12,.c _),(13,.c _)],_⟩ (Weak.regs oH)<|zHw 1 O (Nat×List E) (λ⟨k,m⟩=>[(14,vI k)]) (λ⟨k,m⟩=>m) (λ⟨k,m⟩=>k<=e.Args.length/\(J (pre0++e::bT (e.Args.take k)) m)) (λ⟨k,m⟩=>e.Args.length-k) ⟨⟨0,m0⟩,⟨zB,by simpa [bT] using t0 c1⟩,Weak.regs oH⟩ ?_
  rintro ⟨k,m⟩ ⟨hk,hJ⟩
  refine Y O<|yC O<|zA<|zF<|zK O ?_ ?_<;>intro c2<;>try simp only [sx] at c2
  ·obtain ⟨a,ha⟩:=qX e.Args k zB
   refine zJ<|zF<|zS<|Y O<|qF O pa zB (Aa uC)<|zN yX qE O<|oM O (qJ nt O pd O) λb2=>ow 0 ph O<|yQ _ (kR 0 O 6 _ PLe.ptr)<|zA<|Y O<|zN yX qE O<|G O<|qB O O (Sz O uB (ih a (qD ha) (by have:=Ex.arg_wt (qD ha);omega) y J Jx (pre0++e::bT (e.Args.take k)) _ (λpre x suf μ hx hj=>by have:=hy _ x _ μ (yl ha hx) xJ8;simpa using this) hJ) (oy O)) ?_
   rintro _ m1 ⟨y1,rfl,t1,f1⟩
   refine kQ O<|zA<|zK O ?_ ?_<;>intro c3<;>try simp only [sx] at c3
   ·refine ol O O<|zM<|zV O ?_
    obtain ⟨pre,x,suf,h1,h2⟩:=f1 c3
    exact ⟨false,O,λh=>(by cases h),λ_=>⟨_,x,_,yl ha h1,by simpa using h2⟩⟩
   ·refine zJ<|zP O<|qH O ⟨zB,zB⟩<|G O<|zA ?_
    refine ⟨⟨k+1,m1⟩,⟨zB,by rw [zYk ha];simpa using t1 c3⟩,(by show e.Args.length-(k+1)<e.Args.length-k;omega),Weak.regs oH⟩
  ·refine qL<|ol O O<|zM<|zV O ?_
   rw [yG zB] at hJ
   exact ⟨true,O,λ_=>(by rw [G8];exact hJ),λh=>(by cases h)⟩
def Sa (e:Ex) (he:e.wt<=6000000000000):∀(y:C) (J Jx:List Ex->List E->Prop) (pre0:List Ex) (μ:List E),(∀pre x suf μ,dE e=pre++x::suf->J (pre0++pre) μ->FnCon cfg y [vE x] μ λr μ'=>∃b,r=.c (.lit (.bool b))/\(b=true->J (pre0++pre++[x]) μ')/\(b=false->Jx (pre0++pre++[x]) μ'))->J pre0 μ->Con cfg 255 [vE e,.c y] μ λr μ'=>∃b,r=.c (.lit (.bool b))/\(b=true->J (pre0++dE e) μ')/\(b=false->∃pre x suf,dE e=pre++x::suf/\Jx (pre0++pre++[x]) μ'):=by
  induction e using Ex.ind with
  |_ e ih=>exact N8 e he ih
def zXa (e:Ex) (he:e.wt<=6000000000000):
    iJ cfg 254 [] [.iptr e.cs] (dE e) λx=>[vE x]:=by
 intro y J Jx μ hy0 h0
 have hy:=λpre x suf μ h1 h2=>Ks (hy0 pre x suf μ h1 h2)
 refine zW func254 O ntmps254 results254 O λz hz=>zP O<|zN yX qE O<|G O<|qB O O (Sz O uB (Sa e he y J Jx [] _ (λpre x suf μ h1 h2=>hy pre x suf μ h1 h2) h0) (oy O)) ?_
 rintro _ m0 ⟨y0,rfl,t0,f0⟩
 refine zA ?_
 repeat (first|refine kJ ?_|refine kB ?_)
 refine wK<|CQ ?_
 cases y0
 · exact .inr (f0 rfl)
 · exact .inl (t0 rfl)
def wu (e:Ex) (he:e.wt<=6000000000000):
    oK cfg 221 [vE e] (vI (dC e)):=by
 refine zW func221 O ntmps221 results221 O ?_
 intro z hz
 obtain ⟨hL,hI,hA⟩:=e.parts he
 refine Y O<|oi O λb1=>oM O (yA O zr34) λb2=>zA<|zF<|zS<|Y O<|zN yX (J 1 O) O<|qK O uB (EQ e he) (oy O)<|kQ O<|om O<|zK O ?_ ?_<;>intro c1<;>try simp only [sx] at c1
 ·refine Y O<|ow 0 th O<|zA<|zM<|pu (LR uB O (J 0 O) O) ?_
  rw [dC,c1];rfl
 ·refine Y O<|zN yX (J 1 O) O<|qK O uB (HT e he) (oy O)<|kQ O<|om O<|zK O ?_ ?_<;>intro c2<;>try simp only [sx] at c2
  ·refine Y O<|ow 0 th O<|zA<|zM<|pu (LR uB O (J 0 O) O) ?_
   rw [dC,c1,c2];rfl
  ·refine Y O<|zN yX (J 1 O) O<|qK O uB (Mk e he) (oy O)<|kQ O<|om O<|zK O ?_ ?_<;>intro c3<;>try simp only [sx] at c3
   ·refine Y O<|ow 0 th O<|zA<|zM<|pu (LR uB O (J 0 O) O) ?_
    rw [dC,c1,c2,c3];rfl
   ·refine Y O<|zN yX (J 1 O) O<|qK O uB (HU e he) (oy O)<|kQ O<|om O<|zK O ?_ ?_<;>intro c4<;>try simp only [sx] at c4
    ·refine Y O<|ow 0 th O<|zA<|zM<|pu (LR uB O (J 0 O) O) ?_
     rw [dC,c1,c2,c3,c4];rfl
    ·refine Y O<|zC O wJ<|zE uB (J 1 O) O<|yR O<|G O<|oL O (λg9_3=>zG O D9 O) O<|oG 25 O (λg9_3=>qA O yD O (J 1 O) O) O<|oL O (λg9_3=>zG O SH O) O<|oG 27 O (λg9_3=>qA O rr O (J 1 O) O) O<|oV [(26,_),(28,_)] O oP ⟨O,O,O,O,T⟩ (λg9_3=>qP O uB (GX e.Ty e.Val) (oy O)) O<|oG 29 O (λg9_3=>wM O O) O<|kF O (λh=>h)<|om O<|zK O (λc5=>?_) (λc5=>?_)
     ·have h5:=Wu c4 c5
      refine Y O<|ow 0 th O<|zA<|zM<|pu (LR uB O (J 0 O) O) ?_
      rw [dC,c1,c2,c3,c4,mD,h5];rfl
     ·have h5:=Wu c4 c5
      refine zJ<|zF<|Y O<|zN yX (J 1 O) O<|qK O uB (HS _) (oy O)<|zA<|zS<|zT _ (Weak.mem [true,false] O)<|zLf (ps:=[34]) hz 1 O O uB (H1 e he) (λ_ _=>O) O (λpre=>pre.all bI=true) (λpre=>[E.row b2 34 [cI 0]]) (λc pre=>(c=.ret/\pre.all bI=false)) (λc pre=>[E.row b2 34 [cI 1]]) ⟨O,O⟩ ?_ ?_ ?_ ?_
      ·intro pre x suf hxs hi z hz
       refine zP O<|oM O (qJ [none,some 2] O U O) λb3=>ow 0 oZ O<|zA ?_
       intro z hz
       refine zS<|Y O<|zN yV (J 0 O) O<|qK O uB (VE x (zWc he (by rw [hxs];simp))) (oy O)<|yL O<|zA<|zK O ?_ ?_<;>intro c6<;>try simp only [sx] at c6
       ·refine Y O<|ow 1 th O<|zA<|zM ?_
        exact W7 (τ:=⟨[],_⟩) (oz [false,true] T O) ⟨⟨O,by simp only [cj,bm,zNa c6,bf,dj]⟩,O⟩
       ·refine zJ ?_
        exact W7 (τ:=⟨[],_⟩) (oz [false,true] T O) ⟨by simp only [cj,hi,bm,fc,zNb c6,Bool.and_self],O⟩
      ·intro hd
       refine Y O<|ow 0 th O<|zA<|zM<|pu (LR uB O (J 0 O) O) ?_
       rw [dC,c1,c2,c3,c4,mD,h5,hd];rfl
      ·rintro pre x suf hxs hx
       rcases hx with ⟨hc,hx⟩
       clear hc
       repeat (first|refine zXf ?_|refine zUa ?_)
       refine pu (LR uB O (J 0 O) O) ?_
       rw [dC,c1,c2,c3,c4,mD,h5,hxs,Hp hx];rfl
      ·rintro i pre x suf hxs hx
       rcases hx with ⟨hc,hx⟩
       cases hc
def Mj (e:Ex) (he:e.wt<=6000000000000):
    oK cfg 219 [vE e] (vI (Zu e)):=by
 refine zW func219 O ntmps219 results219 O λz hz=>Y O<|oi O λb1=>om O<|Y O<|oM O (yA O Oq) λb2=>ow 0 sz3 O<|zA<|zF<|Y O<|zN yX (J 1 O) O<|qK O uB (zZw _) (oy O)<|zA<|zS<|zT _ (Weak.mem [true,false] O)<|zLf (ps:=[6]) hz 1 O O uB (zXa e he) (λ_ _=>O) O (λpre=>pre.length<=2000) (λpre=>[E.row b2 3 [cI (pre.length:Int)]]) (λc pre=>(c=.exit 0/\pre.length=2001)) (λc pre=>[E.row b2 3 [cI (pre.length:Int)]]) ⟨uF,O⟩ ?_ ?_ ?_ ?_
 ·intro pre x suf hxs hi z hz
  refine zJ ?_
  intro z hz
  refine zS<|Y O<|zE uB (J 0 O) O<|qH O ⟨zB,zB⟩<|ow 0 sz3 O<|zA<|Y O<|zE uB (J 0 O) O<|sf O<|zA<|zK O ?_ ?_<;>intro c1<;>try simp only [sx] at c1
  ·refine qL ?_
   exact W7 (τ:=⟨[],_⟩) (oz [true] T O) ⟨⟨O,uD⟩,(by dsimp only;rw [show ((pre++[x]).length:Int)=pre.length+1 by simp];rfl)⟩
  ·refine zJ ?_
   exact W7 (τ:=⟨[],_⟩) (oz [true] T O) ⟨uD,(by dsimp only;rw [show ((pre++[x]).length:Int)=pre.length+1 by simp];rfl)⟩
 ·intro hd
  refine Y O<|zE uB (J 0 O) O<|om O<|zM<|zV O ?_
  exact ai vI (by rw [Zu];omega)
 ·rintro pre x suf hxs hx
  rcases hx with ⟨hc,hx⟩
  cases hc
 ·rintro i pre x suf hxs hx
  rcases hx with ⟨hc,hx⟩
  injection hc with hc
  subst hc
  refine Y O<|zE uB (J 0 O) O<|om O<|zM<|zV O ?_
  exact ai vI (by rw [Zu,hxs];simp at hx⊢;omega)
def zRi (e:Ex) (he:e.wt<=6000000000000):
    oK cfg 178 [vE e] (vI (dT e)):=by
 refine zW func178 O ntmps178 results178 O λz hz=>Y O<|oi O λb1=>oM O (yA O zr34) λb2=>zA<|zF<|Y O<|zN yX (J 1 O) O<|qK O uB (HQ e he) (oy O)<|sf O<|zA<|zK O ?_ ?_<;>intro c1<;>try simp only [sx] at c1
 ·refine Y O<|ow 0 th O<|zA<|zM<|pu (LR uB O (J 0 O) O) ?_
  rw [dT,Hk c1];rfl
 ·refine zJ<|zF<|Y O<|zN yX (J 1 O) O<|qK O uB (Mj e he) (oy O)<|sf O<|zA<|zK O ?_ ?_<;>intro c2<;>try simp only [sx] at c2
  ·refine Y O<|ow 0 th O<|zA<|zM<|pu (LR uB O (J 0 O) O) ?_
   rw [dT,kH zB,Hk c2];rfl
  ·refine zJ<|zF<|Y O<|zN yX (J 1 O) O<|qK O uB (zZw _) (oy O)<|zA<|zS<|zT _ (Weak.mem [true,false] O)<|zLf (ps:=[13]) hz 1 O O uB (zXa e he) (λ_ _=>O) O (λpre=>lC pre=0) (λpre=>[E.row b2 34 [cI 0]]) (λc pre=>(c=.ret/\¬lC pre=0)) (λc pre=>[E.row b2 34 [cI (lC pre)]]) ⟨O,O⟩ ?_ ?_ ?_ ?_
   ·intro pre x suf hxs hi z hz
    have hxw:x.wt<=6000000000000:=by have:=zId e x (by rw [hxs];simp);omega
    refine zP O<|oM O (qJ nt O pd O) λb3=>ow 0 ph O<|zA ?_
    intro z hz
    refine zS<|Y O<|zN yX (J 0 O) O<|qK O uB (wu x hxw) (oy O)<|om O<|oo O O<|yL O<|zA<|zK O ?_ ?_<;>intro c3<;>try simp only [sx] at c3
    ·refine oo O O<|ow 1 th O<|zA<|zM ?_
     exact W7 (τ:=⟨[],_⟩) (oz [false,true] T O) ⟨⟨O,by rw [EM hi c3];exact c3⟩,(by dsimp only;rw [EM hi c3];rfl)⟩
    ·refine zJ ?_
     exact W7 (τ:=⟨[],_⟩) (oz [false,true] T O) ⟨(by dsimp only;rw [zJa,hi,lC,c3];rfl),O⟩
   ·intro hd
    refine Y O<|ow 0 th O<|zA<|zM<|pu (LR uB O (J 0 O) O) ?_
    rw [dT,kH zB,kH zB,aw,aw,fJ,hd]
   ·rintro pre x suf hxs hx
    rcases hx with ⟨hc,hx⟩
    clear hc
    repeat (first|refine zXf ?_|refine zUa ?_)
    refine pu (LR uB O (J 0 O) O) ?_
    rw [dT,kH zB,kH zB,aw,aw,fJ,hxs,Pt (suf:=suf) hx]
   ·rintro i pre x suf hxs hx
    rcases hx with ⟨hc,hx⟩
    cases hc
end Go.W
end
section
set_option maxRecDepth 10000
namespace Go.W
open Go Go.Eng Go.Proofs Go.L41 Go.Br Tryz
attribute [local irreducible] oU oX TD gF
def Hx (a b:List Lf) (ha:a.length<=6000000000000) (hw:∀x,x∈a->x.L.length<=6000000000000):
    oK cfg 204 [mL a,mL b] (vB (decide (a=b))):=by
 refine zW func204 O ntmps204 results204 O λz hz=>ol O O<|zF<|oo O O<|qC O oS<|G O<|qC O oS<|yL O<|zA<|zK O (λc1=>?_) (λc1=>?_)
 ·exact v12
 ·try simp only [sx] at c1
  refine zJ<|zF<|ol O O<|zS<|zT ⟨[(5,.c _),(0,.c _),(1,.c _)],[]⟩ (oz [] oH O)<|qG 1 0 O O (Nat) (λk=>[(5,vI k)]) (λk=>[]) (λk=>k<=a.length/\(a.take k=b.take k)) (λk=>a.length-k) ⟨0,⟨zB,O⟩,oz [] oH O⟩ ?_
  rintro k ⟨hk,hp⟩
  refine zF<|oo O O<|G O<|qC O oS<|yC O<|zA<|zK O (λc2=>?_) (λc2=>?_)
  ·try simp only [sx] at c2
   obtain ⟨x,hx⟩:=qX a k zB
   obtain ⟨y,hy⟩:=qX b k zB
   refine zJ<|zF<|zS<|zF<|yE 10 mixed uB O O<|ou O (zQ O O)<|ou O (zQ O O)<|ou O (qI O oS O O zB (oI uC))<|ou O (qA O yV O qE O)<|ou O (zQ O O)<|ou O (zQ O O)<|ou O (qI O oS O O zB (oI uC))<|ou O (qA O yV O qE O)<|ou O (qP O uB (vp x y (hw x (qD hx))) (oy O))<|ou O (wM O O)<|yY<|zA<|zK O (λc3=>?_) (λc3=>?_)
   ·exact v36
   ·exact m8
  ·exact v16
def L7 (a b:List Lf) (ha:a.length<=6000000000000) (hw:fY a<=6000000000000):oK cfg 204 [mL a,mL b] (vB (decide (a=b))):=
  Hx a b ha λx hx=>by have:=Sr hx;omega
def Hw (a b:Ix) (ha:a.wt<=6000000000000):
    oK cfg 162 [jW a,jW b] (vB (decide (a=b))):=by
 refine zW func162 O ntmps162 results162 O ?_
 intro z hz
 have hw:=ha
 unfold Ix.wt at hw
 refine Y O<|oi O λb1=>oi O λb2=>om O<|Y O<|zC O AE<|zE uB (J 1 O) O<|zC O AE<|zE uB (J 0 O) O<|wF O<|G O<|oL O (λg1_5=>zG O vc O) O<|oG 11 O (λg1_5=>qA O yV O (J 1 O) O) O<|oL O (λg1_5=>zG O vc O) O<|oG 13 O (λg1_5=>qA O yV O (J 0 O) O) O<|oV [(12,_),(14,_)] O oP ⟨O,O,O,O,T⟩ (λg1_5=>qP O uB (vp a.Lin b.Lin zB) (oy O)) O<|kF O (λh=>h)<|G O<|oL O (λg1_12=>zG O rt O) O<|oG 18 O (λg1_12=>zH O uB O (J 1 O) O) O<|oL O (λg1_12=>zG O rt O) O<|oG 20 O (λg1_12=>zH O uB O (J 0 O) O) O<|oV [(19,_),(21,_)] O oP ⟨O,O,O,O,T⟩ (λg1_12=>qP O uB (L7 a.At b.At zB zB) (oy O)) O<|kF O (λh=>h)<|om O<|zM<|zV O ?_
 exact ai vB (ix_eq a b)
def zUu (a b:List Ix) (ha:a.length<=6000000000000) (hw:dI a<=6000000000000):
    oK cfg 100 [mX a,mX b] (vB (decide (a=b))):=by
 refine zW func100 O ntmps100 results100 O λz hz=>ol O O<|zF<|oo O O<|qC O oO<|G O<|qC O oO<|yL O<|zA<|zK O (λc1=>?_) (λc1=>?_)
 ·exact v12
 ·try simp only [sx] at c1
  refine zJ<|zF<|ol O O<|zS<|zT ⟨[(5,.c _),(0,.c _),(1,.c _)],[]⟩ (oz [] oH O)<|qG 1 0 O O (Nat) (λk=>[(5,vI k)]) (λk=>[]) (λk=>k<=a.length/\(a.take k=b.take k)) (λk=>a.length-k) ⟨0,⟨zB,O⟩,oz [] oH O⟩ ?_
  rintro k ⟨hk,hp⟩
  refine zF<|oo O O<|G O<|qC O oO<|yC O<|zA<|zK O (λc2=>?_) (λc2=>?_)
  ·try simp only [sx] at c2
   obtain ⟨x,hx⟩:=qX a k zB
   obtain ⟨y,hy⟩:=qX b k zB
   have hxw:=Ss (qD hx)
   refine zJ<|zF<|zS<|zF<|yE 10 mixed uB O O<|ou O (zQ O O)<|ou O (zQ O O)<|ou O (qI O oO O O zB (oI uC))<|ou O (qA O vf O qE O)<|ou O (zQ O O)<|ou O (zQ O O)<|ou O (qI O oO O O zB (oI uC))<|ou O (qA O vf O qE O)<|ou O (qP O uB (Hw x y zB) (oy O))<|ou O (wM O O)<|yY<|zA<|zK O (λc3=>?_) (λc3=>?_)
   ·exact v36
   ·exact m8
  ·exact v16
def Ah (a b:List Ex) (hE:∀x,x∈a->∀y,oK cfg 101 [vE x,vE y] (vB (decide (x=y)))) (ha:a.length<=6000000000000):
    oK cfg 164 [vEs a,vEs b] (vB (decide (a=b))):=by
 refine zW func164 O ntmps164 results164 O λz hz=>ol O O<|zF<|oo O O<|qC O pa<|G O<|qC O pa<|yL O<|zA<|zK O (λc1=>?_) (λc1=>?_)
 ·exact v12
 ·try simp only [sx] at c1
  refine zJ<|zF<|ol O O<|zS<|zT ⟨[(5,.c _),(0,.c _),(1,.c _)],[]⟩ (oz [] oH O)<|qG 1 0 O O (Nat) (λk=>[(5,vI k)]) (λk=>[]) (λk=>k<=a.length/\(a.take k=b.take k)) (λk=>a.length-k) ⟨0,⟨zB,O⟩,oz [] oH O⟩ ?_
  rintro k ⟨hk,hp⟩
  refine zF<|oo O O<|G O<|qC O pa<|yC O<|zA<|zK O (λc2=>?_) (λc2=>?_)
  ·try simp only [sx] at c2
   obtain ⟨x,hx⟩:=qX a k zB
   obtain ⟨y,hy⟩:=qX b k zB
   refine zJ<|zF<|zS<|zF<|yE 10 mixed uB O O<|ou O (zQ O O)<|ou O (zQ O O)<|ou O (qI O pa O O zB (Aa uC))<|ou O (qA O yX O qE O)<|ou O (zQ O O)<|ou O (zQ O O)<|ou O (qI O pa O O zB (Aa uC))<|ou O (qA O yX O qE O)<|ou O (qP O uB (hE x (qD hx) y) (oy O))<|ou O (wM O O)<|yY<|zA<|zK O (λc3=>?_) (λc3=>?_)
   ·exact v36
   ·exact m8
  ·exact v16
def vo (a:Ex) (ih:∀x,x∈a.Args->x.wt<=6000000000000->∀y,oK cfg 101 [vE x,vE y] (vB (decide (x=y)))) (ha:a.wt<=6000000000000) (b:Ex):
    oK cfg 101 [vE a,vE b] (vB (decide (a=b))):=by
 refine zW func101 O ntmps101 results101 O ?_
 intro z hz
 obtain ⟨hL,hI,hA⟩:=a.parts ha
 have hw:=Ex.wt_eq a
 refine Y O<|oi O λb1=>oi O λb2=>om O<|Y O<|zC O wJ<|zE uB (J 1 O) O<|zC O wJ<|zE uB (J 0 O) O<|yR O<|G O<|oL O (λg1_5=>zG O Hc O) O<|oG 11 O (λg1_5=>zH O uB O (J 1 O) O) O<|oL O (λg1_5=>zG O Hc O) O<|oG 13 O (λg1_5=>zH O uB O (J 0 O) O) O<|oV [(12,_),(14,_)] O oP ⟨O,O,O,O,T⟩ (λg1_5=>VL O O O) O<|kF O (λh=>h)<|G O<|oL O (λg1_12=>zG O SH O) O<|oG 18 O (λg1_12=>qA O rr O (J 1 O) O) O<|oL O (λg1_12=>zG O SH O) O<|oG 20 O (λg1_12=>qA O rr O (J 0 O) O) O<|oV [(19,_),(21,_)] O oP ⟨O,O,O,O,T⟩ (λg1_12=>wc O Yf O O O) O<|kF O (λh=>h)<|G O<|oL O (λg1_19=>zG O D9 O) O<|oG 25 O (λg1_19=>qA O yD O (J 1 O) O) O<|oL O (λg1_19=>zG O D9 O) O<|oG 27 O (λg1_19=>qA O yD O (J 0 O) O) O<|oV [(26,_),(28,_)] O oP ⟨O,O,O,O,T⟩ (λg1_19=>wc O tf O O O) O<|kF O (λh=>h)<|G O<|oL O (λg1_26=>zG O Ae O) O<|oG 32 O (λg1_26=>qA O yV O (J 1 O) O) O<|oL O (λg1_26=>zG O Ae O) O<|oG 34 O (λg1_26=>qA O yV O (J 0 O) O) O<|oV [(33,_),(35,_)] O oP ⟨O,O,O,O,T⟩ (λg1_26=>qP O uB (vp a.Lin b.Lin hL) (oy O)) O<|kF O (λh=>h)<|G O<|oL O (λg1_33=>zG O kX O) O<|oG 39 O (λg1_33=>zH O uB O (J 1 O) O) O<|oL O (λg1_33=>zG O kX O) O<|oG 41 O (λg1_33=>zH O uB O (J 0 O) O) O<|oV [(40,_),(42,_)] O oP ⟨O,O,O,O,T⟩ (λg1_33=>qP O uB (zUu a.Idx b.Idx hI zB) (oy O)) O<|kF O (λh=>h)<|G O<|oL O (λg1_40=>zG O rn O) O<|oG 46 O (λg1_40=>zH O uB O (J 1 O) O) O<|oL O (λg1_40=>zG O rn O) O<|oG 48 O (λg1_40=>zH O uB O (J 0 O) O) O<|oV [(47,_),(49,_)] O oP ⟨O,O,O,O,T⟩ (λg1_40=>qP O uB (Ah a.Args b.Args (λx hx y=>ih x hx (by have:=Ex.arg_wt hx;omega) y) hA) (oy O)) O<|kF O (λh=>h)<|om O<|zM<|zV O ?_
 exact ai vB (ex_eq a b)
def AL (a b:Ex) (ha:a.wt<=6000000000000):oK cfg 101 [vE a,vE b] (vB (decide (a=b))):=by
  induction a using Ex.ind generalizing b with
  |_ a ih=>exact vo a (λx hx h y=>ih x hx y h) ha b
def qAs (e:Ex) (ih:∀a,a∈e.Args->∀(m:Nat) (x:Int),a.fit->m<=1000000->x=m->oK cfg 21 [vE a,vI x] (vI (jA a m))) (m:Nat) (x:Int) (hf:e.fit) (hm:m<=1000000) (hx:x=m):
    oK cfg 21 [vE e,vI x] (vI (jA e m)):=by
 refine zW func21 O ntmps21 results21 O ?_
 intro z hz
 obtain ⟨f1,f2,f3,f4,f5⟩:=Ex.fit_eq hf
 have hW:=Ob e m
 refine Y O<|oi O λb1=>om O<|Y O<|zC O Ae<|zC O kA<|zE uB (J 0 O) O<|qC O N<|qH O ⟨zB,zB⟩<|zC O kX<|zE uB (J 0 O) O<|qC O oO<|qH O ⟨zB,zB⟩<|om O<|zF<|ol O O<|zS<|zT ⟨[(6,.c _),(5,.c _),(1,.c _),(2,.c _)],[_]⟩ (oz [true] oH O) ?_
 refine qG 2 0 O O (Nat×Nat) (λ⟨k,n⟩=>[(6,vI k),(5,vI n)]) (λ⟨k,n⟩=>[]) (λ⟨k,n⟩=>k<=e.Idx.length/\(n<=m+4*140737488355328)/\(fN m (1+e.Lin.L.length+e.Idx.length) e.Idx=fN m n (e.Idx.drop k))) (λ⟨k,n⟩=>e.Idx.length-k) ⟨⟨0,1+e.Lin.L.length+e.Idx.length⟩,⟨zB,zB,O⟩,oz [true] ⟨zD,VLe.of_eq (ai vI zB),zD,zD,T⟩ O⟩ ?_
 rintro ⟨k,n⟩ ⟨hk,hn1,hn2⟩
 show oU _ _ _ _ _ ⟨[(6,vI k),(5,vI n)]++_,[]++_⟩
 refine zF<|oo O O<|zC O kX<|zE uB (J 0 O) O<|qC O oO<|yC O<|G O<|oL O (λg3_5=>zQ O O) O<|oL O (λg3_5=>zQ O O) O<|oV [(24,_),(25,_)] O oP ⟨O,O,O,O,T⟩ (λg3_5=>vb O O O) O<|kF O (λh=>h)<|zA<|zK O ?_ ?_<;>intro c1<;>try simp only [sx] at c1
 ·obtain ⟨y,hy⟩:=qX e.Idx k zB
  obtain ⟨i1,i2,i3⟩:=f4 y (qD hy)
  refine zJ<|zF<|zS<|zF<|yE 19 mixed uB O O<|ou O (zQ O O)<|ou O (zG O kX O)<|ou O (zH O uB O (J 0 O) O)<|ou O (zQ O O)<|ou O (qI O oO O O zB (oI uC))<|ou O (qO O vc O)<|ou O (qO O kA O)<|ou O (zH O uB O qE O)<|ou O (yH O N O)<|ou O (zKb O O O ⟨zB,zB⟩)<|ou O (zG O kX O)<|ou O (zH O uB O (J 0 O) O)<|ou O (zQ O O)<|ou O (qI O oO O O zB (oI uC))<|ou O (qO O rt O)<|ou O (zH O uB O qE O)<|ou O (yH O oS O)<|ou O (zKb O O O ⟨zB,zB⟩)<|ou O (yK O O)<|yY<|zA<|ol O O<|zS<|zT ⟨[(7,.c _),(5,.c _),(1,.c _),(2,.c _),(6,.c _)],[_]⟩ (oz [true] oH O) ?_
  refine qG 2 0 O O (Nat×Nat) (λ⟨j,p⟩=>[(7,vI j),(5,vI p)]) (λ⟨j,p⟩=>[]) (λ⟨j,p⟩=>j<=y.At.length/\(p<=m+4*140737488355328)/\(gN m (n+y.Lin.L.length+y.At.length) y.At=gN m p (y.At.drop j))) (λ⟨j,p⟩=>y.At.length-j) ⟨⟨0,n+y.Lin.L.length+y.At.length⟩,⟨zB,zB,O⟩,oz [true] ⟨zD,VLe.of_eq (ai vI zB),zD,zD,zD,T⟩ O⟩ ?_
  rintro ⟨j,p⟩ ⟨hj,hp1,hp2⟩
  show oU _ _ _ _ _ ⟨[(7,vI j),(5,vI p)]++_,[]++_⟩
  refine zF<|oo O O<|zC O kX<|zE uB (J 0 O) O<|G O<|qF O oO zB (oI uC)<|qS O rt<|zE uB qE O<|qC O oS<|yC O<|G O<|oL O (λg7_9=>zQ O O) O<|oL O (λg7_9=>zQ O O) O<|oV [(58,_),(59,_)] O oP ⟨O,O,O,O,T⟩ (λg7_9=>vb O O O) O<|kF O (λh=>h)<|zA<|zK O ?_ ?_<;>intro c2<;>try simp only [sx] at c2
  ·obtain ⟨l,hl⟩:=qX y.At j zB
   have hl2:=i3 l (qD hl)
   refine zJ<|zF<|zS<|zP O<|G O<|zC O kX<|zE uB (J 0 O) O<|G O<|qF O oO zB (oI uC)<|qS O rt<|zE uB qE O<|G O<|qF O oS zB (oI uC)<|qS O kA<|zE uB qE O<|qC O N<|qH O ⟨zB,zB⟩<|om O<|zP O<|G O<|qH O ⟨zB,zB⟩<|G O<|zA ?_
   refine ⟨⟨j+1,p+l.L.length⟩,⟨zB,zB,by rw [hp2,qN hl,gN,ab zB]⟩,(by show y.At.length-(j+1)<y.At.length-j;omega),oz [true] ⟨zD,VLe.of_eq (ai vI zB),zD,zD,zD,T⟩ O⟩
  ·have hN2:=G1 (l:=y.At) (k:=j) (n:=p) hx zB
   refine qL<|zP O<|G O<|qH O ⟨zB,zB⟩<|G O<|zA ?_
   refine ⟨⟨k+1,p⟩,⟨zB,hp1,by rw [hn2,qN hy,fN,ab zB,hp2,<-hN2]⟩,(by show e.Idx.length-(k+1)<e.Idx.length-k;omega),oz [true] oH O⟩
 ·have hN:=DY (l:=e.Idx) (k:=k) (n:=n) hx zB
  refine qL<|zF<|ol O O<|zS<|zT ⟨[(8,.c _),(5,.c _),(1,.c _),(2,.c _)],[_]⟩ (oz [true] oH O)<|qG 2 0 O O (Nat×Nat) (λ⟨k,n⟩=>[(8,vI k),(5,vI n)]) (λ⟨k,n⟩=>[]) (λ⟨k,n⟩=>k<=e.Args.length/\(n<=m+4*140737488355328)/\(jA e m=lE (e.Args.drop k) m n)) (λ⟨k,n⟩=>e.Args.length-k) ⟨⟨0,n⟩,⟨zB,hn1,by rw [hW,hn2,<-hN];rfl⟩,oz [true] oH O⟩ ?_
  rintro ⟨k,n⟩ ⟨hk3,hn3,hn4⟩
  show oU _ _ _ _ _ ⟨[(8,vI k),(5,vI n)]++_,[]++_⟩
  refine zF<|oo O O<|zC O rn<|zE uB (J 0 O) O<|qC O pa<|yC O<|G O<|oL O (λg11_5=>zQ O O) O<|oL O (λg11_5=>zQ O O) O<|oV [(83,_),(84,_)] O oP ⟨O,O,O,O,T⟩ (λg11_5=>vb O O O) O<|kF O (λh=>h)<|zA<|zK O ?_ ?_<;>intro c3<;>try simp only [sx] at c3
  ·obtain ⟨a,ha⟩:=qX e.Args k zB
   have hwa:=zWy a (m-n) (f5 a (qD ha))
   refine zJ<|zF<|zS<|zP O<|G O<|zC O rn<|zE uB (J 0 O) O<|G O<|qF O pa zB (Aa uC)<|zN yX qE O<|G O<|G O<|zX O (yM O O O ⟨zB,zB⟩)<|qK O uB (ih a (qD ha) (m-n) _ (f5 a (qD ha)) zB zB) (oy O)<|qH O ⟨zB,zB⟩<|om O<|zP O<|G O<|qH O ⟨zB,zB⟩<|G O<|zA ?_
   refine ⟨⟨k+1,n+jA a (m-n)⟩,⟨zB,zB,by rw [hn4,qN ha,lE,ab zB]⟩,(by show e.Args.length-(k+1)<e.Args.length-k;omega),oz [true] ⟨zD,VLe.of_eq (ai vI zB),zD,zD,T⟩ O⟩
  ·refine qL<|oo O O<|om O<|zM<|zV O ?_
   exact ai vI (by rw [hn4,<-JA hx zB])
def Hz (e:Ex) (m:Nat) (x:Int) (hf:e.fit) (hm:m<=1000000) (hx:x=m):oK cfg 21 [vE e,vI x] (vI (jA e m)):=by
  induction e using Ex.ind generalizing m x with
  |_ e ih=>exact qAs e (λa ha m x h1 h2 h3=>ih a ha m x h1 h2 h3) m x hf hm hx
def zJo (l:List Mono) (hl:l.length<=5864062014805):
    OwnR cfg 196 [cG l] 139 2 (l.map Mono.cells):=by
 refine zW func196 O ntmps196 results196 O λz hz=>Y O<|qY 2 O<|zA<|zF<|oo O O<|qB O O (zJr O N O O) ?_
 rintro _ _ ⟨nb1,rfl,hnil1,rfl⟩
 refine zA<|zK O ?_ ?_<;>intro c1<;>try simp only [sx] at c1
 ·refine oo O O<|yQ _ (kD 139 2)<|zA<|zM<|zV O ?_
  exact ⟨_,O,by rw [hnil1 c1]⟩
 ·refine zJ<|Y O<|oM O (LS O N te O O O O) λsv3=>G O<|qB O O (qZ 0 O N O O O uJ uJ) ?_
  exact v20
def zLh (l:List Lf) (hl:l.length<=4294967296):
    OwnR cfg 129 [mL l] 59 2 (l.map Lf.cells):=by
 refine zW func129 O ntmps129 results129 O λz hz=>Y O<|qY 2 O<|zA<|zF<|oo O O<|qB O O (zJr O oS O O) ?_
 rintro _ _ ⟨nb1,rfl,hnil1,rfl⟩
 refine zA<|zK O ?_ ?_<;>intro c1<;>try simp only [sx] at c1
 ·refine oo O O<|yQ _ (kD 59 2)<|zA<|zM<|zV O ?_
  exact ⟨_,O,by rw [hnil1 c1]⟩
 ·refine zJ<|Y O<|oM O (LS O oS U O O O O) λsv3=>G O<|qB O O (qZ 0 O oS O O O uJ uJ) ?_
  exact v20
def zMc (l:List Ix) (hl:l.length<=4294967296):
    OwnR cfg 128 [mX l] 93 4 (l.map Ix.cells):=by
 refine zW func128 O ntmps128 results128 O λz hz=>Y O<|qY 4 O<|zA<|zF<|oo O O<|qB O O (zJr O oO O O) ?_
 rintro _ _ ⟨nb1,rfl,hnil1,rfl⟩
 refine zA<|zK O ?_ ?_<;>intro c1<;>try simp only [sx] at c1
 ·refine oo O O<|yQ _ (kD 93 4)<|zA<|zM<|zV O ?_
  exact ⟨_,O,by rw [hnil1 c1]⟩
 ·refine zJ<|Y O<|oM O (LS O oO qk O O O O) λsv3=>G O<|qB O O (qZ 0 O oO O O O uJ uJ) ?_
  exact v20
def zMd (l:List Ex) (hl:l.length<=4294967296):
    OwnR cfg 130 [vEs l] 62 13 (l.map Ex.cells):=by
 refine zW func130 O ntmps130 results130 O λz hz=>Y O<|qY 13 O<|zA<|zF<|oo O O<|qB O O (zJr O pa O O) ?_
 rintro _ _ ⟨nb1,rfl,hnil1,rfl⟩
 refine zA<|zK O ?_ ?_<;>intro c1<;>try simp only [sx] at c1
 ·refine oo O O<|yQ _ (kD 62 13)<|zA<|zM<|zV O ?_
  exact ⟨_,O,by rw [hnil1 c1]⟩
 ·refine zJ<|Y O<|oM O (LS O pa pd O O O O) λsv3=>G O<|qB O O (qZ 0 O pa O O O uJ uJ) ?_
  exact v20
end Go.W
end
section
set_option maxRecDepth 10000
namespace Go.W
open Go Go.Eng Go.Proofs Go.L41 Go.Br Tryz
attribute [local irreducible] oU oX TD gF
def qy:fD prog 62=some [(0,1),(1,1),(2,2),(4,5),(9,2),(11,1),(12,1)]:=by kernel_rfl
def Jo:(prog.info? 52).map (·.size)=some 1:=by kernel_rfl
def Vh:(prog.info? 60).map (·.size)=some 1:=by kernel_rfl
def Vj:(prog.info? 72).map (·.size)=some 1:=by kernel_rfl
def Av (f:Lf->Lf×Int) (c:C) (P:Lf->Prop) (hf:∀l,P l->FnPur cfg c [dF l] (.tup [dF (f l).1,vI (f l).2])) (e:Ex) (hP:e.allF P) (ih:∀a,a∈e.Args->a.allF P->a.cnt<=4294967296->oK cfg 69 [vE a,.c c] (.tup [vE (lG (pj f a)),vI (gM (pj f a))])) (he:e.cnt<=4294967296):
    oK cfg 69 [vE e,.c c] (.tup [vE (lG (pj f e)),vI (gM (pj f e))]):=by
 refine zW func69 O ntmps69 results69 O ?_
 intro z hz
 obtain ⟨hI,hA,hAt⟩:=e.cparts he
 refine Y O<|oi O λb1=>oM O (qJ nt O pd O) λb2=>om O<|Y O<|zN yX (J 1 O) O<|oM O (qJ nt O pd O) λb3=>ow 0 ph O<|zA<|ol O O<|zF<|oo O O<|zC O Ae<|zN yV (J 2 O) O<|zX O (wS O O (hf e.Lin (Ex.allF_lin hP)) (oy O))<|qW O<|kG O<|yF O<|zC O Ae<|ow 0 oZ O<|om O<|oo O O<|yL O<|zA<|zK O (λc1=>?_) (λc1=>?_)
 ·exact v68
 ·try simp only [sx] at c1
  refine zJ<|Y O<|zC O kX<|zE uB (J 2 O) O<|oM O (WV O uB (zMc e.Idx hI) (oy O)) λsv4=>zC O kX<|ow 1 Jo O<|zA<|zF<|Y O<|zC O kX<|zE uB (J 3 O) O<|qC O oO<|om O<|zS<|zT ⟨[(34,.c _),(1,.c _),(2,.c _),(4,.c _),(6,.c _),(32,.c _),(33,.c _)],[_,_,_,_]⟩ (oz [true,true,true,true] oH O)<|qG 1 1 O O (Nat×List Ix) (λ⟨k,outs⟩=>[(34,vI k)]) (λ⟨k,outs⟩=>[E.vec sv4 93 4 (outs.map Ix.cells++(e.Idx.drop k).map Ix.cells)]) (λ⟨k,outs⟩=>k<=e.Idx.length/\(outs.length=k)/\(dR f e.Idx=bY outs (dR f (e.Idx.drop k)))) (λ⟨k,outs⟩=>e.Idx.length-k) ⟨⟨0,[]⟩,⟨zB,O,(SU _).symm⟩,oz [true,true,true,true] oH O⟩ ?_
  rintro ⟨k,outs⟩ ⟨hk,ho,hp⟩
  show oU _ _ _ _ _ ⟨[(34,vI k)]++_,[E.vec sv4 93 4 (outs.map Ix.cells++(e.Idx.drop k).map Ix.cells)]++_⟩
  refine Y O<|yC O<|zA<|zF<|zK O ?_ ?_<;>intro c2<;>try simp only [sx] at c2
  ·obtain ⟨x,hx⟩:=qX e.Idx k zB
   have hxw:=hAt x (qD hx)
   refine zJ<|zF<|zS<|oo O O<|qF O oO zB (oI uC)<|zN vf qE O<|oM O (qJ nv O qk O) λb5=>G O<|ow 0 sh O<|zA<|zF<|zF<|zUb 12 [false,false,false,false,false,false,false,false,false,true,false,false] eI mixed uB O O O<|wW O O (zG O kX O)<|wW O O (zH O uB O (J 2 O) O)<|wW O O (zQ O O)<|wW O O (zQ O O)<|wW O O (zG O vc O)<|wW O O (qA O yV O (J 0 O) O)<|wW O O (wS O O (hf x.Lin (Ex.allF_ix hP (qD hx))) (oy O))<|wW O O (yS O O)<|wW O O (kK O O O)<|zi O O (λ_=>kI O O O)<|wW O O (qU 1 O oO O O O zB (Xe uD zB))<|wW O O (wL O vc O)<|DV ?_
   refine ⟨_,yP O oZ O O O (Hl 1 O (zTd uD hx) O),λ_ _ _=>T,?_⟩
   rintro _ _ ⟨rfl,rfl⟩
   refine om O<|oo O O<|yL O<|zA<|zK O ?_ ?_<;>intro c3<;>try simp only [sx] at c3
   ·refine Y O<|yO nt O pd qy<|G O<|ow 3 ph O<|om O<|zM<|oJ (zY yX O (J 3 O) O) (ox O) ?_
    rw [C9 c1 (zYt hx hp (Il c3))];rfl
   ·refine zJ<|zF<|vj 8 [.q,.q,.q,.q,.q,.f,.q,.q] eI mixed uB O O O<|wV O O (zG O kX O)<|wV O O (zH O uB O (J 2 O) O)<|wV O O (zQ O O)<|wV O O (zG O rt O)<|wV O O (zH O uB O (J 0 O) O)<|zVm<|wV O O (qU 1 O oO O O O zB uD)<|wV O O (wL O rt O)<|u9<|si<|si<|si<|si<|si<|zQe (Mq (WV O uB (zLh x.At zB) (oy O)))<|si<|si<|u7<|zOi ?_
    rintro _ _ ⟨sv6,rfl,rfl⟩
    refine zRw ?_
    refine ⟨_,yP O Vj O O O (Hl 2 O (VN uD) O),(λ_ _ _=>T),?_⟩
    rintro _ _ ⟨rfl,rfl⟩
    refine zA<|Y O<|zC O rt<|zE uB (J 1 O) O<|qC O oS<|om O<|zS<|zT ⟨[(66,.c _),(1,.c _),(2,.c _),(4,.c _),(6,.c _),(8,.c _),(32,.c _),(33,.c _),(34,.c _),(64,.c _),(65,.c _)],[_,_,_,_,_]⟩ (oz [true,false,true,true,true,true] oH O)<|qG 1 1 O O (Nat×List Lf) (λ⟨j,lins⟩=>[(66,vI j)]) (λ⟨j,lins⟩=>[E.vec sv6 59 2 (lins.map Lf.cells++(x.At.drop j).map Lf.cells)]) (λ⟨j,lins⟩=>j<=x.At.length/\(lins.length=j)/\(dQ f x.At=bY lins (dQ f (x.At.drop j)))) (λ⟨j,lins⟩=>x.At.length-j) ⟨⟨0,[]⟩,⟨zB,O,(SU _).symm⟩,oz [true,true,true,true,true] oH O⟩ ?_
    rintro ⟨j,lins⟩ ⟨hj,hlo,hq⟩
    show oU _ _ _ _ _ ⟨[(66,vI j)]++_,[E.vec sv6 59 2 (lins.map Lf.cells++(x.At.drop j).map Lf.cells)]++_⟩
    refine Y O<|yC O<|zA<|zF<|zK O ?_ ?_<;>intro c4<;>try simp only [sx] at c4
    ·obtain ⟨l,hl⟩:=qX x.At j zB
     have hlw:=hAt x (qD hx)
     refine zJ<|zF<|zS<|oo O O<|qF O oS zB (oI uC)<|zN yV qE O<|oM O (qJ [none,some 2] O U O) λb7=>G O<|ow 0 oZ O<|zA<|zF<|zUb 14 [false,false,false,false,false,false,false,false,false,false,false,false,true,false] eI mixed uB O O O<|wW O O (zG O kX O)<|wW O O (zH O uB O (J 3 O) O)<|wW O O (zQ O O)<|wW O O (qU 2 O oO O O O zB uD)<|wW O O (wL O rt O)<|wW O O (zH O uB O (kP 2 O (VN uD)) O)<|wW O O (zQ O O)<|wW O O (zQ O O)<|wW O O (qA O yV O (J 0 O) O)<|wW O O (wS O O (hf l (Ex.allF_at hP (qD hx) (qD hl))) (oy O))<|wW O O (yS O O)<|wW O O (kK O O O)<|zi O O (λ_=>kI O O O)<|wW O O (qU 1 O oS O O O zB (Xe uD zB))<|DV ?_
     refine ⟨_,yP O oZ O O O (Hl 1 O (zTd uD hl) O),λ_ _ _=>T,?_⟩
     rintro _ _ ⟨rfl,rfl⟩
     refine om O<|oo O O<|yL O<|zA<|zK O ?_ ?_<;>intro c5<;>try simp only [sx] at c5
     ·refine Y O<|yO nt O pd qy<|G O<|ow 4 ph O<|om O<|zM<|oJ (zY yX O (J 4 O) O) (ox O) ?_
      rw [C9 c1 (zYt hx hp (Im c3 (ya hl hq c5)))];rfl
     ·refine zJ<|zP O<|qH O ⟨zB,zB⟩<|G O<|zA ?_
      refine ⟨⟨j+1,lins++[(f l).1]⟩,⟨zB,uD,zTf hl hq c5⟩,(by show x.At.length-(j+1)<x.At.length-j;omega),oz [false,true,true,true,true,true] oH (by simp only [bu];rw [zMs uD hl];simp only [ah,aG,bt];rfl)⟩
    ·have hml:=zYr hq zB
     rw [kN (l:=x.At) (k:=j) zB]
     simp only [bt,rk]
     refine zT _ (yJ 0 O (regs':=[]) (μ':=[_,_,_,_]) T ⟨EFle.vec (r':=[_,_,_,_]) (VN uD) ⟨.inl O,.inl O,.inl O,.inr ⟨O,O⟩,T⟩,EFle.refl _,EFle.refl _,EFle.refl _,T⟩)<|qL<|zP O<|qH O ⟨zB,zB⟩<|G O<|zA ?_
     refine ⟨⟨k+1,outs++[⟨(f x.Lin).1,x.From,lins⟩]⟩,⟨zB,uD,zYu hx hp (In c3 hml)⟩,(by show e.Idx.length-(k+1)<e.Idx.length-k;omega),oz [true,true,true,true] oH xV8⟩
  ·have hmi:=x7 hp zB
   rw [kN (l:=e.Idx) (k:=k) zB]
   simp only [bt,rk]
   refine zT _ (yJ 0 O (regs':=[]) (μ':=[_,_,_]) T ⟨EFle.row (ds:=[_,_,_,_,_,_,_,_,_,_,_,_,_]) ⟨.inl O,.inl O,.inl O,.inl O,.inl O,.inl O,.inl O,.inl O,.inl O,.inl O,.inl O,.inr ⟨O,O⟩,.inl O,T⟩,EFle.refl _,EFle.refl _,T⟩)<|qL<|Y O<|zC O rn<|zE uB (J 2 O) O<|oM O (WV O uB (zMd e.Args hA) (oy O)) λsv8=>zC O rn<|ow 1 Vh O<|zA<|zF<|Y O<|zC O rn<|zE uB (J 3 O) O<|qC O pa<|om O<|zS<|zT ⟨[(98,.c _),(1,.c _),(4,.c _),(6,.c _),(96,.c _),(97,.c _)],[_,_,_]⟩ (oz [true,true,true,false] oH O)<|qG 1 1 O O (Nat×List Ex) (λ⟨n,exs⟩=>[(98,vI n)]) (λ⟨n,exs⟩=>[E.vec sv8 62 13 (exs.map Ex.cells++(e.Args.drop n).map Ex.cells)]) (λ⟨n,exs⟩=>n<=e.Args.length/\(exs.length=n)/\(gH f e.Args=bY exs (gH f (e.Args.drop n)))) (λ⟨n,exs⟩=>e.Args.length-n) ⟨⟨0,[]⟩,⟨zB,O,(SU _).symm⟩,oz [true,true,true] oH O⟩ ?_
   rintro ⟨n,exs⟩ ⟨hn,hno,hr⟩
   show oU _ _ _ _ _ ⟨[(98,vI n)]++_,[E.vec sv8 62 13 (exs.map Ex.cells++(e.Args.drop n).map Ex.cells)]++_⟩
   refine Y O<|yC O<|zA<|zF<|zK O ?_ ?_<;>intro c6<;>try simp only [sx] at c6
   ·obtain ⟨a,ha⟩:=qX e.Args n zB
    refine zJ<|zF<|zS<|oo O O<|qF O pa zB (Aa uC)<|zN yX qE O<|oM O (qJ nt O pd O) λb9=>G O<|ow 0 ph O<|zA<|zF<|zUb 10 [false,false,false,false,false,false,false,false,true,false] eI mixed uB O O O<|wW O O (zG O rn O)<|wW O O (zH O uB O (J 2 O) O)<|wW O O (zQ O O)<|wW O O (qA O yX O (J 0 O) O)<|wW O O (zQ O O)<|wW O O (qP O uB (ih a (qD ha) (Ex.allF_arg hP (qD ha)) (by have:=Ex.arg_cnt (qD ha);omega)) (oy O))<|wW O O (yS O O)<|wW O O (kK O O O)<|zi O O (λ_=>kI O O O)<|wW O O (qU 1 O pa O O O zB (Xe uD zB))<|DV ?_
    refine ⟨_,yP O ph O O O (Hl 1 O (Fy uD ha) O),λ_ _ _=>T,?_⟩
    rintro _ _ ⟨rfl,rfl⟩
    refine om O<|oo O O<|yL O<|zA<|zK O ?_ ?_<;>intro c7<;>try simp only [sx] at c7
    ·refine Y O<|yO nt O pd qy<|G O<|ow 3 ph O<|om O<|zM<|oJ (zY yX O (J 3 O) O) (ox O) ?_
     rw [Ij c1 hmi (Da ha hr c7)];rfl
    ·refine zJ<|zP O<|qH O ⟨zB,zB⟩<|G O<|zA ?_
     refine ⟨⟨n+1,exs++[lG (pj f a)]⟩,⟨zB,uD,zYv ha hr c7⟩,(by show e.Args.length-(n+1)<e.Args.length-n;omega),oz [false,true,true,true] oH (by simp only [bu];rw [zMs uD ha];simp only [ah,aG,bt,Ex.cells_eq (lG (pj f a))];rfl)⟩
   ·have hme:=x5 hr zB
    rw [kN (l:=e.Args) (k:=n) zB]
    simp only [bt,rk]
    refine zT _ (yJ 0 O (regs':=[]) (μ':=[_,_]) T ⟨EFle.row (ds:=[_,_,_,_,_,_,_,_,_,_,_,_,_]) ⟨.inl O,.inl O,.inl O,.inl O,.inl O,.inl O,.inl O,.inl O,.inl O,.inl O,.inl O,.inl O,.inr ⟨O,O⟩,T⟩,EFle.refl _,T⟩)<|qL<|Y O<|zN yX (J 0 O) O<|ow 1 ph O<|om O<|zM<|oJ (zY yX O (J 1 O) O) (ox O) ?_
    rw [Ik c1 hmi hme];rfl
def Au (f:Lf->Lf×Int) (c:C) (P:Lf->Prop) (hf:∀l,P l->FnPur cfg c [dF l] (.tup [dF (f l).1,vI (f l).2])) (e:Ex) (hP:e.allF P) (he:e.cnt<=4294967296):oK cfg 69 [vE e,.c c] (.tup [vE (lG (pj f e)),vI (gM (pj f e))]):=by
  induction e using Ex.ind with
  |_ e ih=>exact Av f c P hf e hP ih he
def Dg (f:Lf->Lf×Int) (c:C) (P:Lf->Prop) (hf:∀l,P l->l.L.length<=4294967296->FnPur cfg c [dF l] (.tup [dF (f l).1,vI (f l).2])) (e:Ex) (hP:e.allF P) (he:e.wt<=4294967296):oK cfg 69 [vE e,.c c] (.tup [vE (lG (pj f e)),vI (gM (pj f e))]):=
  Au f c (λl=>P l/\l.L.length<=4294967296) (λl h=>hf l h.1 h.2) e (λx hx l hl=>⟨hP x hx l hl,zWc (aL (zId e x hx) he) hl⟩) (aL e.cnt_le he)
end Go.W
end
section
set_option maxRecDepth 10000
namespace Go.W
open Go Go.Eng Go.Proofs Go.L41 Go.Br Tryz
attribute [local irreducible] oU oX TD gF
end Go.W
end
section
set_option maxRecDepth 10000
namespace Go.W
open Go Go.Eng Go.Proofs Go.L41 Go.Br Tryz
attribute [local irreducible] oU oX TD gF
def Ec:nN prog 70=some 22:=by kernel_rfl
def pt:dW prog 28=some (70,22,272):=by kernel_rfl
def ry:bH prog 30 3=some (3,28):=by kernel_rfl
def ub:bH prog 70 0=some (0,9):=by kernel_rfl
def zLk (l:Lf) (hl:l.L.length<=5864062014805):
    oK cfg 183 [dF l] (dF l):=by
 refine zW func183 O ntmps183 results183 O λz hz=>Y O<|oi O λb1=>oM O (qJ [none,some 2] O U O) λb2=>zA<|zF<|yE 6 mixed uB O O<|ou O (zG O ui O)<|ou O (zH O W O (J 1 O) O)<|ou O (zG O kA O)<|ou O (zH O uB O (J 1 O) O)<|ou O (qP O uB (OwnR.pur (zJo l.L hl)) (oy O))<|ou O (LU O U qe O)<|yY<|ow 0 oZ O<|zA<|zM<|pu (zY yV O (J 0 O) O) ?_
 exact O
def zSs (l:List Lf) (hl:l.length<=4294967296) (hx:∀x,x∈l->x.L.length<=5864062014805):
    OwnR cfg 181 [mL l] 59 2 (l.map Lf.cells):=by
 refine zW func181 O ntmps181 results181 O ?_
 intro z hz
 have hl0:=hx
 clear hx
 refine Y O<|qY 2 O<|zA<|oo O O<|yQ _ (kD 59 2)<|zA<|zF<|oo O O<|qC O oS<|om O<|zS<|zT ⟨[(8,.c _),(3,.c _),(6,.c _),(7,.c _)],[_]⟩ (oz [true] oH O)<|qG 2 1 O O (Nat×Value) (λ⟨k,sv⟩=>[(8,vI k),(3,.c (.lit sv))]) (λ⟨k,sv⟩=>[E.vec sv 59 2 ((l.take k).map Lf.cells)]) (λ⟨k,sv⟩=>k<=l.length) (λ⟨k,sv⟩=>l.length-k) ⟨⟨0,(.slice none 0 0)⟩,zB,oz [true] oH O⟩ ?_
 rintro ⟨k,sv⟩ hk
 show oU _ _ _ _ _ ⟨[(8,vI k),(3,.c (.lit sv))]++_,[E.vec sv 59 2 ((l.take k).map Lf.cells)]++_⟩
 refine Y O<|yC O<|zA<|zF<|zK O ?_ ?_<;>intro c1<;>try simp only [sx] at c1
 ·obtain ⟨x,hx⟩:=qX l k zB
  refine zJ<|zF<|zS<|Y O<|qF O oS zB (oI uC)<|zN yV qE O<|oM O (qJ [none,some 2] O U O) λb2=>ow 0 oZ O<|zA<|zP O<|G O<|zN yV (J 0 O) O<|qK O uB (zLk _ (hl0 _ (qD hx))) (oy O)<|yT O oS U<|oM O (qZ 1 O oS O O O (by first|omega|(simp only [ap,pc,qp,qw,pw];omega)) (by first|omega|(simp only [ap,pc,qp,qw,pw];omega))) λsv3=>om O<|zP O<|qH O ⟨zB,zB⟩<|G O<|zA ?_
  refine ⟨⟨k+1,sv3⟩,zB,(by show l.length-(k+1)<l.length-k;omega),oz [false,true] oH (by show _=[E.vec sv3 _ 2 ((l.take (k+1)).map Lf.cells)]++_;rw [yB hx,ah];rfl)⟩
 ·refine qL<|oo O O<|om O<|zM<|zV O ?_
  exact ⟨_,O,by rw [yG zB];rfl⟩
def zSt (d:Df) (s:nq):
    oK cfg 226 [SP d,.c (.iptr [cS s])] (vB (decide (d.Name=s))):=by
 refine zW func226 O ntmps226 results226 O λz hz=>Y O<|oi O λb1=>om O<|Y O<|zC O ub<|zE uB (J 0 O) O<|zE uB qE O<|wF O<|om O<|zM<|zV O ?_
 exact O
def zPg (l:List Df) (c:C) (p:Df->Bool) (hl:l.length<=4294967296) (hc:∀x,x∈l->FnPur cfg c [SP x] (vB (p x))):
    oK cfg 225 [.c (.sl 22 (l.map Df.cells)),.c c] (vI (fA p l)):=by
 refine zW func225 O ntmps225 results225 O λz hz=>ol O O<|zF<|oo O O<|qC O pt<|om O<|zS<|zT ⟨[(8,.c _),(0,.c _),(1,.c _),(7,.c _)],[]⟩ (oz [] oH O)<|qG 1 0 O O (Nat) (λk=>[(8,vI k)]) (λk=>[]) (λk=>k<=l.length/\((l.take k).any p=false)) (λk=>l.length-k) ⟨0,⟨zB,O⟩,oz [] oH O⟩ ?_
 rintro k ⟨hk,hp⟩
 refine Y O<|yC O<|zA<|zF<|zK O (λc1=>?_) (λc1=>?_)
 ·try simp only [sx] at c1
  obtain ⟨x,hx⟩:=qX l k zB
  refine zJ<|zF<|zS<|oo O O<|om O<|oo O O<|G O<|G O<|qF O pt zB (oI uC)<|zN Ec qE O<|zX O (wS O O (hc _ (qD hx)) (oy O))<|zA<|zK O (λc2=>?_) (λc2=>?_)
  ·exact v64
  ·exact j5
 ·exact v33
def zYd (p:Pg) (s:nq) (hd:p.Defs.length<=4294967296):
    oK cfg 182 [rf p,vS s] (vI (pK s p.Defs)):=by
 refine zW func182 O ntmps182 results182 O λz hz=>Y O<|oi O λb1=>oi O λb2=>om O<|Y O<|zC O ry<|zE uB (J 1 O) O<|zX O (VJ O O O O O)<|yQ _ (kR 0 O 7 (.c (.fn _ _ [_])) (PLe.fn ⟨.inr ⟨O,O⟩,T⟩))<|qK O uB (zPg p.Defs _ (λd=>decide (d.Name=s)) hd (λx _=>FnPur.of_pur (first:=[]) (cap:=[.iptr [cS s]]) uB (zSt x s))) (oy O)<|om O<|zM<|zV O ?_
 exact O
def zPk (l:Lf) (v sz:List nq) (hl:l.L.length<=5864062014805) (hv:v.length<=4294967296) (hz0:sz.length<=4294967296):
    oK cfg 147 [dF l,sy v,sy sz] (vB (rc (qt sz v) l.L)):=by
 refine zW func147 O ntmps147 results147 O λz hz=>Y O<|oi O λb1=>om O<|zF<|ol O O<|zS<|zT ⟨[(7,.c _),(1,.c _),(2,.c _),(3,.c _)],[_]⟩ (oz [true] oH O)<|qG 1 0 O O (Nat) (λk=>[(7,vI k)]) (λk=>[]) (λk=>k<=l.L.length/\(rc (qt sz v) (l.L.take k)=true)) (λk=>l.L.length-k) ⟨0,⟨zB,O⟩,oz [true] oH O⟩ ?_
 rintro k ⟨hk,hp⟩
 refine zF<|oo O O<|zC O kA<|zE uB (J 0 O) O<|qC O N<|yC O<|zA<|zK O ?_ ?_<;>intro c1<;>try simp only [sx] at c1
 ·obtain ⟨x,hx⟩:=qX l.L k zB
  refine zJ<|zF<|zS<|oo O O<|zC O kA<|zE uB (J 0 O) O<|G O<|qF O N zB (oI uC)<|qS O wH<|zE uB qE O<|qK O uB (VM v x.Name zB) (oy O)<|kQ O<|G O<|oL O (λg4_9=>zQ O O) O<|oL O (λg4_9=>zG O kA O) O<|oG 26 O (λg4_9=>zH O uB O (J 0 O) O) O<|oL O (λg4_9=>zQ O O) O<|oV [(27,_),(28,_)] O oP ⟨O,O,O,O,T⟩ (λg4_9=>qI O N O O zB (oI uC)) O<|oG 29 O (λg4_9=>qO O wH O) O<|oG 30 O (λg4_9=>zH O uB O qE O) O<|oV [(25,_),(31,_)] O oP ⟨O,O,O,O,T⟩ (λg4_9=>qP O uB (VM sz x.Name zB) (oy O)) O<|oG 32 O (λg4_9=>wM O O) O<|kF O (λh=>h)<|zA<|zK O (λc2=>?_) (λc2=>?_)
  ·refine ol O O<|zM<|zV O ?_
   rw [kn_no hx c2]
  ·refine zJ<|zP O<|G O<|qH O ⟨zB,zB⟩<|G O<|zA ?_
   refine ⟨k+1,⟨zB,T5 hx hp c2⟩,zB,oz [true] oH O⟩
 ·refine qL<|ol O O<|zM<|zV O ?_
  rw [yG zB] at hp;rw [hp]
end Go.W
end
section
set_option maxRecDepth 10000
namespace Go.W
open Go Go.Eng Go.Proofs Go.L41 Go.Br Tryz
attribute [local irreducible] oU oX TD gF
def Ee:nN prog 99=some 3:=by kernel_rfl
def wl:dW prog 26=some (123,3,40):=by kernel_rfl
def qg:dW prog 27=some (74,7,80):=by kernel_rfl
def pf:dW prog 46=some (3,1,8):=by kernel_rfl
def pg:dW prog 68=some (99,3,48):=by kernel_rfl
def AX:dW prog 260=some (68,1,24):=by kernel_rfl
def ve:bH prog 30 0=some (0,25):=by kernel_rfl
def VW:bH prog 30 1=some (1,26):=by kernel_rfl
def uc:bH prog 30 2=some (2,27):=by kernel_rfl
def Oo:bH prog 30 4=some (4,25):=by kernel_rfl
def D8:bH prog 70 2=some (6,68):=by kernel_rfl
def Ce:bH prog 70 3=some (7,68):=by kernel_rfl
def L2:bH prog 70 4=some (8,3):=by kernel_rfl
def L1:bH prog 99 0=some (0,9):=by kernel_rfl
def zZq:bH prog 123 0=some (0,59):=by kernel_rfl
def ik3:vJ prog 3=some .i64:=by kernel_rfl
def RP:(prog.info? 99).map (·.size)=some 3:=by kernel_rfl
def zr68:dZ prog 68=some [qn]:=by kernel_rfl
def Hg:dZ prog 99=some [Hj,pn,qn]:=by kernel_rfl
def za (n:Nat) (hn:n<=4294967296):
    OwnR cfg 217 [.c (.lit (.slice none 0 0)),vI n] 99 3 ([]):=by
 refine zW func217 O ntmps217 results217 O λz hz=>Y O<|qY 3 O<|zA<|zF<|oo O O<|yC O<|zA<|zK O ?_ ?_<;>intro c1<;>try simp only [sx] at c1
 ·exact absurd c1 zB
 ·refine zJ<|zF<|oo O O<|G O<|zX O (qAi O pg O)<|G O<|zX O (qAh O pg O)<|zX O (yM O O O ⟨zB,zB⟩)<|zX O (yM O O O ⟨zB,zB⟩)<|om O<|oo O O<|sf O<|zA<|zK O (λc2=>?_) (λc2=>?_)
  ·try simp only [sx] at c2
   refine zP O<|G O<|G O<|zX O (qAi O pg O)<|zX O (EB O pg O O)<|G O<|qB O O (QP n O pg ik3 O O zB zB zB zB) ?_
   rintro _ _ ⟨b1,cap1,rfl,hcap1,rfl⟩
   refine G O<|zX O (qAh O pg O)<|zX O (EC 0 O pg O O O ⟨zB,hcap1⟩)<|om O<|oo O O<|om O<|zM<|zV O ?_
   exact ⟨_,O,O⟩
  ·refine zJ<|oo O O<|yQ _ (kD 99 3)<|om O<|zM<|zV O ?_
   exact ⟨_,O,O⟩
def zUy (ls:List (List Ax)) (hl:ls.length<=4294967296) (ht:lT ls<=4294967296):
    OwnR cfg 177 [.c (.sl 1 (ls.map λl=>[.sl 3 (l.map Ax.cells)]))] 99 3 (ls.flatten.map Ax.cells):=by
 refine zW func177 O ntmps177 results177 O λz hz=>Y O<|qY 3 O<|zA<|ol O O<|zF<|oo O O<|qC O AX<|om O<|zS<|zT ⟨[(11,.c _),(3,.c _),(0,.c _),(9,.c _),(10,.c _)],[]⟩ (oz [] oH O)<|qG 2 0 O O (Nat) (λk=>[(11,vI k),(3,vI (lT (ls.take k)))]) (λk=>[]) (λk=>k<=ls.length) (λk=>ls.length-k) ⟨0,zB,oz [] oH O⟩ ?_
 rintro k hk
 refine Y O<|yC O<|zA<|zF<|zK O ?_ ?_<;>intro c1<;>try simp only [sx] at c1
 ·obtain ⟨x,hx⟩:=qX ls k zB
  have hb1:=LI hx
  refine zJ<|zF<|zS<|Y O<|qF O AX zB (oI uC)<|zE uB qE O<|om O<|oo O O<|G O<|qC O pg<|qH O ⟨zB,zB⟩<|om O<|oo O O<|yC O<|zA<|zK O ?_ ?_<;>intro c2<;>try simp only [sx] at c2
  ·exact absurd c2 zB
  ·refine zJ<|zP O<|qH O ⟨zB,zB⟩<|G O<|zA ?_
   refine ⟨k+1,zB,zB,oz [] ⟨zD,VLe.of_eq (ai vI (by rw [GQ hx];simp)),zD,zD,zD,T⟩ O⟩
 ·have hT:lT (ls.take k)=lT ls:=by rw [yG zB]
  refine qL<|oo O O<|oM O (WV O uB (za (lT (ls.take k)) zB) (oy O)) λsv1=>om O<|zF<|oo O O<|qC O AX<|om O<|zS<|zT ⟨[(27,.c _),(6,.c _),(25,.c _),(26,.c _)],[_]⟩ (oz [true] oH O)<|qG 2 1 O O (Nat×Value) (λ⟨k,sv⟩=>[(27,vI k),(6,.c (.lit sv))]) (λ⟨k,sv⟩=>[E.vec sv 99 3 ((ls.take k).flatten.map Ax.cells)]) (λ⟨k,sv⟩=>k<=ls.length) (λ⟨k,sv⟩=>ls.length-k) ⟨⟨0,_⟩,zB,oz [true] oH O⟩ ?_
  rintro ⟨k,sv⟩ hk
  show oU _ _ _ _ _ ⟨[(27,vI k),(6,.c (.lit sv))]++_,[E.vec sv 99 3 ((ls.take k).flatten.map Ax.cells)]++_⟩
  refine Y O<|yC O<|zA<|zF<|zK O ?_ ?_<;>intro c3<;>try simp only [sx] at c3
  ·obtain ⟨x,hx⟩:=qX ls k zB
   refine zJ<|zF<|zS<|Y O<|qF O AX zB (oI uC)<|zE uB qE O<|om O<|zP O<|G O<|G O<|oM O (qZ 0 O pg O O O (by have:=GP hx;simp only [pc];omega) (by have:=GP hx;simp only [pc];omega)) λsv2=>om O<|zP O<|qH O ⟨zB,zB⟩<|G O<|zA ?_
   refine ⟨⟨k+1,sv2⟩,zB,(by show ls.length-(k+1)<ls.length-k;omega),oz [true] oH (by show _=[E.vec sv2 _ 3 ((ls.take (k+1)).flatten.map Ax.cells)]++_;rw [yB hx,lz,ah];simp only [eh,List.flatten_nil,rk];rfl)⟩
  ·refine qL<|oo O O<|om O<|zM<|zV O ?_
   exact ⟨_,O,by rw [yG zB];rfl⟩
def zJn (x y:List Ax) (hx:x.length<=1073741824) (hy:y.length<=1073741824):OwnR cfg 177 [.c (.sl 1 [[.sl 3 (x.map Ax.cells)],[.sl 3 (y.map Ax.cells)]])] 99 3 ((x++y).map Ax.cells):=by
  have h:=zUy [x,y] uF (by simp only [lT];omega)
  simpa using h
def zQo (d:Df) (hD:d.Dims.length<=1073741824) (hR:d.Red.length<=1073741824):
    OwnR cfg 118 [SP d] 9 1 ((bD d).map λs=>[cS s]):=by
 refine zW func118 O ntmps118 results118 O λz hz=>Y O<|oi O λb1=>qY 1 O<|zA<|oo O O<|yQ _ (kD 9 1)<|zA<|zF<|Y O<|zC O D8<|zE uB (J 1 O) O<|zC O Ce<|zE uB (J 1 O) O<|yT O AX zr68<|qK O uB (OwnR.pur (zJn d.Dims d.Red hD hR)) (oy O)<|qC O pg<|om O<|zS<|zT ⟨[(13,.c _),(3,.c _),(11,.c _),(12,.c _)],[_]⟩ (oz [true,false] oH O)<|qG 2 1 O O (Nat×Value) (λ⟨k,sv⟩=>[(13,vI k),(3,.c (.lit sv))]) (λ⟨k,sv⟩=>[E.vec sv 9 1 (((d.Dims++d.Red).take k).map λa=>[cS a.Name])]) (λ⟨k,sv⟩=>k<=(d.Dims++d.Red).length) (λ⟨k,sv⟩=>(d.Dims++d.Red).length-k) ⟨⟨0,(.slice none 0 0)⟩,zB,oz [true] oH O⟩ ?_
 rintro ⟨k,sv⟩ hk
 show oU _ _ _ _ _ ⟨[(13,vI k),(3,.c (.lit sv))]++_,[E.vec sv 9 1 (((d.Dims++d.Red).take k).map λa=>[cS a.Name])]++_⟩
 refine Y O<|yC O<|zA<|zF<|zK O ?_ ?_<;>intro c1<;>try simp only [sx] at c1
 ·obtain ⟨x,hx⟩:=qX (d.Dims++d.Red) k zB
  have hlen:(d.Dims++d.Red).length<=2147483648:=by rw [qp];omega
  refine zJ<|zF<|zS<|Y O<|qF O pg zB (oI uC)<|zN Ee qE O<|oM O (qJ [none,none,some 2] O Hg O) λb3=>ow 0 RP O<|zA<|zP O<|G O<|zC O L1<|zE uB (J 0 O) O<|yT O oR Hf<|oM O (qZ 1 O oR O O O xK3 xK3) λsv4=>om O<|zP O<|qH O ⟨zB,zB⟩<|G O<|zA ?_
  refine ⟨⟨k+1,sv4⟩,zB,(by show (d.Dims++d.Red).length-(k+1)<(d.Dims++d.Red).length-k;omega),oz [false,true] oH (by show _=[E.vec sv4 _ 1 (((d.Dims++d.Red).take (k+1)).map λa=>[cS a.Name])]++_;rw [yB hx,ah (f:=λa:Ax=>[cS a.Name])];rfl)⟩
 ·refine qL<|oo O O<|om O<|zM<|zV O ?_
  exact ⟨_,O,by rw [yG zB,yf];rfl⟩
def yu (p:Pg):
    oK cfg 58 [rf p] (vB (decide (dP p))):=by
 refine zW func58 O ntmps58 results58 O λz hz=>Y O<|oi O λb1=>om O<|Y O<|zC O ve<|zE uB (J 0 O) O<|qC O oR<|zC O uc<|zE uB (J 0 O) O<|qC O qg<|zC O ry<|zE uB (J 0 O) O<|qC O pt<|zC O Oo<|zE uB (J 0 O) O<|qC O oR<|zX O (Pd O O O O O)<|zX O (vb O O O)<|G O<|oL O (λg1_14=>zG O VW O) O<|oG 18 O (λg1_14=>zH O uB O (J 0 O) O) O<|oG 19 O (λg1_14=>yH O wl O) O<|oG 20 O (λg1_14=>vb O O O) O<|kF O (λh=>h)<|om O<|zM<|zV O ?_
 exact ai vB (P5 p)
def zb (l:List Int) (x0:Int) (h0:l[0]? =some x0) (hl:l.length<=4294967296):
    oK cfg 176 [.c (.sl 1 (l.map λn=>[cI n]))] (vI (vH l l.length)):=by
 refine zW func176 O ntmps176 results176 O ?_
 intro z hz
 have hlen:=zTm h0
 refine ol O O<|zF<|oo O O<|qC O pf<|yC O<|zA<|zK O ?_ ?_<;>intro c1<;>try simp only [sx] at c1
 ·exact absurd c1 zB
 ·refine zJ<|oo O O<|qF O pf zB (oI h0)<|zE uB qE O<|om O<|zF<|ol O O<|zS<|zT ⟨[(4,.c _),(3,.c _),(0,.c _)],[]⟩ (oz [] oH O) ?_
  refine qG 2 0 O O (Nat) (λk=>[(4,vI k),(3,vI (vH l k))]) (λk=>[]) (λk=>1<=k/\k<=l.length) (λk=>l.length-k) ⟨1,⟨zB,zB⟩,oz [] ⟨zD,VLe.of_eq (ai vI (Qx h0)),zD,T⟩ O⟩ ?_
  rintro k ⟨hk1,hk⟩
  refine zF<|oo O O<|G O<|qC O pf<|yC O<|zA<|zK O ?_ ?_<;>intro c2<;>try simp only [sx] at c2
  ·obtain ⟨x,hx⟩:=qX l k zB
   refine zJ<|zF<|zS<|zP O<|G O<|G O<|G O<|qF O pf zB (oI uC)<|zE uB qE O<|zX O (zTu O O O)<|om O<|zP O<|G O<|qH O ⟨zB,zB⟩<|G O<|zA ?_
   refine ⟨k+1,⟨zB,zB⟩,zB,oz [] ⟨zD,VLe.of_eq (ai vI (M0 hx)),zD,T⟩ O⟩
  ·refine qL<|oo O O<|om O<|zM<|zV O ?_
   exact ai vI (by rw [show k=l.length by omega])
def zLj (t:Ty) (l:List Int) (x0:Int) (h0:l[0]? =some x0) (hl:l.length<=4294967296):
    oK cfg 114 [rq t,.c (.sl 1 (l.map λn=>[cI n]))] (vI (nZ t l)):=by
 refine zW func114 O ntmps114 results114 O λz hz=>Y O<|oi O λb1=>om O<|zF<|Y O<|zN yD (J 0 O) O<|qK O uB (ZR _) (oy O)<|yL O<|zA<|zK O ?_ ?_<;>intro c1<;>try simp only [sx] at c1
 ·refine ol O O<|zM<|zV O ?_
  exact ai vI (by rw [nZ,aa (by rw [RS c1];simp)])
 ·refine zJ<|zF<|oo O O<|qK O uB (zb l x0 h0 hl) (oy O)<|sf O<|zA<|zK O ?_ ?_<;>intro c2<;>try simp only [sx] at c2
  ·refine ol O O<|zM<|zV O ?_
   exact ai vI (by rw [nZ,ab (B1 c1),ab c2])
  ·refine zJ<|ol O O<|zM<|zV O ?_
   exact ai vI (by rw [nZ,ab (B1 c1),aa zB])
def zPt (x:Cn) (hl:x.Lin.L.length<=5864062014805):
    oK cfg 112 [vCn x] (vI (dM x.Lin)):=by
 refine zW func112 O ntmps112 results112 O λz hz=>Y O<|oi O λb1=>om O<|Y O<|zC O zZq<|zN yV (J 0 O) O<|qK O uB (VE x.Lin zB) (oy O)<|om O<|zM<|zV O ?_
 exact O
def Dz (d:Df):
    oK cfg 116 [SP d] (vI (gR d)):=by
 refine zW func116 O ntmps116 results116 O λz hz=>Y O<|oi O λb1=>om O<|zF<|Y O<|zC O L2<|zE uB (J 0 O) O<|zA<|zS<|Y O<|yR O<|om O<|qQ O (λc1=>?_) (λc1=>?_)
 ·refine Y O<|zC O Ce<|zE uB (J 0 O) O<|qC O pg<|sf O<|zA<|zK O ?_ ?_<;>intro c2<;>try simp only [sx] at c2
  ·refine ol O O<|zM<|zV O ?_
   exact w5
  ·refine zJ<|ol O O<|zM<|zV O ?_
   exact w5
 ·refine zF<|Y O<|yR O<|om O<|qQ O (λc3=>?_) (λc3=>?_)
  ·exact s5
  ·refine Y O<|yR O<|om O<|qQ O (λc4=>?_) (λc4=>?_)
   ·exact s5
   ·refine Y O<|yR O<|om O<|qQ O (λc5=>?_) (λc5=>?_)
    ·exact s5
    ·refine zP O<|yR O<|om O<|qQ O (λc6=>?_) (λc6=>?_)
     ·exact v85
     ·exact k9
end Go.W
end
section
set_option maxRecDepth 10000
namespace Go.W
open Go Go.Eng Go.Proofs Go.L41 Go.Br Tryz
attribute [local irreducible] oU oX TD gF
def qv:nN prog 30=some 5:=by kernel_rfl
def AI:nN prog 74=some 7:=by kernel_rfl
def tp:nN prog 123=some 3:=by kernel_rfl
def On:bH prog 70 1=some (1,56):=by kernel_rfl
def OE:bH prog 74 0=some (0,9):=by kernel_rfl
def zZn:bH prog 74 1=some (1,56):=by kernel_rfl
def VU:bH prog 74 2=some (6,72):=by kernel_rfl
def zZm:bH prog 99 1=some (1,59):=by kernel_rfl
def zZr:bH prog 119 1=some (5,117):=by kernel_rfl
def Kq:bH prog 236 0=some (0,30):=by kernel_rfl
def CO:bH prog 236 1=some (5,117):=by kernel_rfl
def ug:sE prog 117=some pn:=by kernel_rfl
def Wy:sE prog 232=some (Value.bool false):=by kernel_rfl
def D:(prog.info? 56).map (·.size)=some 5:=by kernel_rfl
def Vk:(prog.info? 74).map (·.size)=some 7:=by kernel_rfl
def Ou:dZ prog 74=some [Hj,pn,pn,pn,pn,pn,qn]:=by kernel_rfl
def zNo (b mb:Nat) (p:Pg) (m:Kn) (s:nq) (k:Int):
    Con cfg 59 [vP b,vS s,vI k] (Ov b mb p m) λr μ'=>r=vI (fT m s)/\μ'=Ov b mb p (jI m s k):=by
 refine zW func59 O ntmps59 results59 O λz hz=>ol O O<|zF<|oo O O<|qK O uB (ZX _) (oy O)<|kQ O<|zA<|zK O ?_ ?_<;>intro c1<;>try simp only [sx] at c1
 ·refine ol O O<|zM<|zV O ?_
  exact ⟨by rw [BB c1],by rw [<-FC (BB c1) uA]⟩
 ·refine zJ<|zF<|oo O O<|zZ O<|zC O zZr<|zE uB (J 0 O) O<|G O<|zX O (zHu 1 (0:Int) O ug O O O (λ_ _=>CRep.lit _ O))<|yL O<|zA<|zK O ?_ ?_<;>intro c2<;>try simp only [sx] at c2
  ·refine ol O O<|zM<|zV O ?_
   exact ⟨by rw [BC c1 c2],by rw [<-FC (BC c1 c2) uA]⟩
  ·refine zJ<|oo O O<|zZ O<|zC O zZr<|zE uB (J 0 O) O<|G O<|G O<|wO O O (zJz 1 k O ug O O O (zD) O)<|zA<|ol O O<|zM<|zV O ?_
   exact ⟨by rw [FB c1 c2],by rw [zTc (FB c1 c2)];rfl⟩
def zLe (b mb:Nat) (p:Pg) (m:Kn) (l:Lf) (hl:l.L.length<=5864062014805):
    Con cfg 113 [vP b,dF l] (Ov b mb p m) λr μ'=>r=vI (gD m l)/\μ'=Ov b mb p m:=by
 refine zW func113 O ntmps113 results113 O λz hz=>Y O<|oi O λb1=>om O<|zF<|Y O<|zN yV (J 0 O) O<|qK O uB (VE l zB) (oy O)<|yL O<|zA<|zK O ?_ ?_<;>intro c1<;>try simp only [sx] at c1
 ·refine ol O O<|zT _ (Weak.mem [false,true,true] O)<|zM<|zV O ?_
  exact ⟨by rw [BO (zZd c1)],O⟩
 ·refine zJ<|zF<|Y O<|zC O kA<|zE uB (J 0 O) O<|qC O N<|om O<|zS<|zT ⟨[(13,.c _),(0,.c _),(11,.c _),(12,.c _)],[_,_]⟩ (oz [false,true,true] oH O)<|qG 1 0 O O (Nat) (λk=>[(13,vI k)]) (λk=>[]) (λk=>k<=l.L.length/\(rc (λs=>decide (gW m s=1)) (l.L.take k)=true)) (λk=>l.L.length-k) ⟨0,⟨zB,O⟩,oz [true,true] oH O⟩ ?_
  rintro k ⟨hk,hp⟩
  refine Y O<|yC O<|zA<|zF<|zK O ?_ ?_<;>intro c2<;>try simp only [sx] at c2
  ·obtain ⟨x,hx⟩:=qX l.L k zB
   refine zJ<|zF<|zS<|Y O<|qF O N zB (oI uC)<|zN Eb qE O<|oM O (yA O te) λb2=>ow 0 tg O<|zA<|zF<|yE 8 mixed uB O O<|ou O (zQ O O)<|ou O (qV O O)<|ou O (zG O zZr O)<|ou O (zH O uB O (J 1 O) O)<|ou O (zG O wH O)<|ou O (zH O uB O (J 0 O) O)<|ou O (zHu 2 (0:Int) O ug O O O (λ_ _=>CRep.lit _ O))<|ou O (wI O O O)<|yY<|zA<|zK O ?_ ?_<;>intro c3<;>try simp only [sx] at c3
   ·refine ol O O<|zT _ (Weak.mem [false,true,true] O)<|zM<|zV O ?_
    exact ⟨by rw [Rw (Z5 c1) (PZ hx (kH c3))],O⟩
   ·refine zJ<|zP O<|qH O ⟨zB,zB⟩<|G O<|zA ?_
    refine ⟨k+1,⟨zB,Fe hx hp (Hk c3)⟩,zB,oz [false,true,true] oH O⟩
  ·refine qL<|ol O O<|zM<|zV O ?_
   exact ⟨by rw [yG zB] at hp;rw [Rx (Z5 c1) hp],O⟩
def zRs (b mb:Nat) (p:Pg) (m:Kn) (x:Cn) (hl:x.Lin.L.length<=5864062014805):
    Con cfg 60 [vP b,vCn x] (Ov b mb p m) λr μ'=>r=vI (gD m x.Lin)/\μ'=Ov b mb p m:=by
 refine zW func60 O ntmps60 results60 O λz hz=>Y O<|oi O λb1=>om O<|zF<|Y O<|zN tp (J 0 O) O<|qK O uB (zPt x hl) (oy O)<|yL O<|zA<|zK O (λc1=>?_) (λc1=>?_)
 ·try simp only [sx] at c1
  refine ol O O<|zT _ (Weak.mem [false,true,true] O)<|zM<|zV O ?_
  exact ⟨by rw [BO (zZd c1)],O⟩
 ·refine zJ<|oo O O<|zC O zZq<|zN yV (J 0 O) O<|zX O (kL [1,1] O uB (zLe b mb p m x.Lin hl) (oy O) O)<|om O<|zT _ (Weak.mem [false,true,true] O)<|zM<|zV O ?_
  exact ⟨O,O⟩
def Ai (b mb:Nat) (p:Pg) (m:Kn) (x:Pm) (hl:x.Dims.length<=4294967296) (hx0:∀l,l∈x.Dims->l.L.length<=5864062014805):
    Con cfg 61 [vP b,vPm x] (Ov b mb p m) λr μ'=>r=vI (jY m x)/\μ'=Ov b mb p (jI m x.Name 2):=by
 refine zW func61 O ntmps61 results61 O λz hz=>Y O<|oi O λb1=>om O<|zF<|oo O O<|zC O OE<|zE uB (J 0 O) O<|zX O (kL [1,1] O uB (zNo b mb p m x.Name 2) (oy O) O)<|om O<|oo O O<|yL O<|zA<|zK O ?_ ?_<;>intro c1<;>try simp only [sx] at c1
 ·refine oo O O<|om O<|zT _ (Weak.mem [false,true,true] O)<|zM<|zV O ?_
  exact ⟨by unfold jY;rw [aa c1],O⟩
 ·refine zJ<|zF<|Y O<|zC O zZn<|zN yD (J 0 O) O<|zC O VU<|zE uB (J 0 O) O<|qC O oS<|yT O pf Oq<|qK O uB (zLj x.T [(x.Dims.length:Int)] _ O uF) (oy O)<|om O<|oo O O<|yL O<|zA<|zK O ?_ ?_<;>intro c2<;>try simp only [sx] at c2
  ·have hP:=Nk c1 c2
   refine oo O O<|om O<|zT _ (Weak.mem [false,true,true] O)<|zM<|zV O ?_
   exact ⟨by rw [hP],O⟩
  ·have hP:=QV c1 c2
   refine zJ<|zF<|Y O<|zC O VU<|zE uB (J 0 O) O<|qC O oS<|om O<|zS<|zT ⟨[(30,.c _),(0,.c _),(28,.c _),(29,.c _)],[_,_]⟩ (oz [false,true,true] oH O)<|qG 1 0 O O (Nat) (λk=>[(30,vI k)]) (λk=>[]) (λk=>k<=x.Dims.length/\(lL (jI m x.Name 2) x.Dims=lL (jI m x.Name 2) (x.Dims.drop k))) (λk=>x.Dims.length-k) ⟨0,⟨zB,O⟩,oz [true,true] oH O⟩ ?_
   rintro k ⟨hk,hp⟩
   refine Y O<|yC O<|zA<|zF<|zK O ?_ ?_<;>intro c3<;>try simp only [sx] at c3
   ·obtain ⟨y,hy⟩:=qX x.Dims k zB
    refine zJ<|zF<|zS<|Y O<|qF O oS zB (oI uC)<|zN yV qE O<|oM O (qJ [none,some 2] O U O) λb2=>ow 0 oZ O<|zA<|oo O O<|zN yV (J 0 O) O<|zX O (kL [1,1] O uB (zLe b mb p _ y (hx0 _ (qD hy))) (oy O) O)<|om O<|oo O O<|yL O<|zA<|zK O ?_ ?_<;>intro c4<;>try simp only [sx] at c4
    ·refine oo O O<|om O<|zT _ (Weak.mem [false,true,true] O)<|zM<|zV O ?_
     exact ⟨by rw [hP,hp,NN hy c4],O⟩
    ·refine zJ<|zP O<|qH O ⟨zB,zB⟩<|G O<|zA ?_
     refine ⟨k+1,⟨zB,hp.trans (NM hy c4)⟩,zB,oz [false,true,true] oH O⟩
   ·refine qL<|ol O O<|zM<|zV O ?_
    exact ⟨by rw [hP,hp,z6 zB];rfl,O⟩
def Cu (b mb:Nat) (p:Pg) (m:Kn) (d:Df) (hD:d.Dims.length<=1073741824) (hR:d.Red.length<=1073741824) (hA:∀a,a∈d.Dims->a.Size.L.length<=5864062014805) (hA2:∀a,a∈d.Red->a.Size.L.length<=5864062014805):
    Con cfg 115 [vP b,SP d] (Ov b mb p m) λr μ'=>r=vI (mH m [] (d.Dims++d.Red))/\μ'=Ov b mb p m:=by
 refine zW func115 O ntmps115 results115 O λz hz=>Y O<|oi O λb1=>om O<|Y O<|oM O (zQq vB O O) λb2=>om O<|zF<|Y O<|zC O D8<|zE uB (J 1 O) O<|zC O Ce<|zE uB (J 1 O) O<|yT O AX zr68<|qK O uB (OwnR.pur (zJn d.Dims d.Red hD hR)) (oy O)<|qC O pg<|om O<|zS<|zT ⟨[(17,.c _),(0,.c _),(5,.c _),(15,.c _),(16,.c _)],[_,_,_]⟩ (oz [true,false,true,true] oH O)<|qG 1 1 O O (Nat) (λk=>[(17,vI k)]) (λk=>[E.blk b2 (MapR vB (cK ((d.Dims++d.Red).take k)))]) (λk=>k<=(d.Dims++d.Red).length/\(mH m [] (d.Dims++d.Red)=mH m (((d.Dims++d.Red).take k).map Ax.Name) ((d.Dims++d.Red).drop k))) (λk=>(d.Dims++d.Red).length-k) ⟨0,⟨zB,O⟩,oz [true,true,true] oH O⟩ ?_
 rintro k ⟨hk,hp⟩
 refine Y O<|yC O<|zA<|zF<|zK O ?_ ?_<;>intro c1<;>try simp only [sx] at c1
 ·obtain ⟨x,hx⟩:=qX (d.Dims++d.Red) k zB
  have hlen:(d.Dims++d.Red).length=d.Dims.length+d.Red.length:=qp
  have hog:=UK x.Name ((d.Dims++d.Red).take k)
  refine zJ<|zF<|zS<|Y O<|qF O pg zB (oI uC)<|zN Ee qE O<|oM O (qJ [none,none,some 2] O Hg O) λb3=>ow 0 RP O<|zA<|zF<|zS<|Y O<|zC O L1<|zE uB (J 0 O) O<|qK O uB (ZX _) (oy O)<|kQ O<|om O<|zK O ?_ ?_<;>intro c2<;>try simp only [sx] at c2
  ·refine ol O O<|zT _ (Weak.mem [false,false,true,true] O)<|zM<|zV O ?_
   exact ⟨by rw [hp,Xv hx c2],O⟩
  ·refine zF<|yE 15 mixed uB O O<|ou O (zQ O O)<|ou O (zG O L1 O)<|ou O (zH O uB O (J 0 O) O)<|ou O (zHu 1 false O Wy O O O (λ_ _=>CRep.lit _ O))<|ou O (zQ O O)<|qR [] O O O O oP T (λg7_4=>zQ O O) O<|qR [(32,_)] O O O O oP ⟨O,O,T⟩ (λg7_4=>qV O O) O<|qR [(33,_)] O O O O oP ⟨O,O,T⟩ (λg7_4=>zG O zZr O) O<|qR [(34,_)] O O O O oP ⟨O,O,T⟩ (λg7_4=>zH O uB O (J 2 O) O) O<|qR [] O O O O oP T (λg7_4=>zG O L1 O) O<|qR [(36,_)] O O O O oP ⟨O,O,T⟩ (λg7_4=>zH O uB O (J 0 O) O) O<|qR [(35,_),(37,_)] O O O O oP ⟨O,O,O,O,T⟩ (λg7_4=>zHu 3 (0:Int) O ug O O O (λ_ _=>CRep.lit _ O)) O<|qR [(38,_)] O O O O oP ⟨O,O,T⟩ (λg7_4=>yU O O O) O<|ou O (tj O O O O (λh=>(oY h)))<|ou O (yK O O)<|yY<|zA<|zK O (λc3=>?_) (λc3=>?_)
   ·have h8:=Xu hog c3
    refine ol O O<|zT _ (Weak.mem [false,false,true,true] O)<|zM<|zV O ?_
    exact ⟨by rw [hp,Xw hx c2 h8],O⟩
   ·have h8:=ax_no hog c3
    refine zJ<|oo O O<|zC O L1<|zE uB (J 0 O) O<|wO O O (zJz 1 true O Wy O O O (zD) O)<|zA<|oo O O<|zC O zZm<|zN yV (J 0 O) O<|zX O (kL [2,2] O uB (zLe b mb p m x.Size (by rcases aq.1 (qD hx) with h|h;exact hA _ h;exact hA2 _ h)) (oy O) O)<|om O<|oo O O<|yL O<|zA<|zK O ?_ ?_<;>intro c4<;>try simp only [sx] at c4
    ·refine oo O O<|om O<|zT _ (Weak.mem [false,false,true,true] O)<|zM<|zV O ?_
     exact ⟨by rw [hp,Xx hx c2 h8 c4],O⟩
    ·refine zJ<|zP O<|qH O ⟨zB,zB⟩<|G O<|zA ?_
     refine ⟨k+1,⟨zB,by rw [hp,Tl hx c2 h8 c4,yB hx,ah];rfl⟩,zB,oz [false,true,true,true] oH (by show _=[E.blk b2 (MapR vB (cK ((d.Dims++d.Red).take (k+1))))]++_;rw [Nh hx];rfl)⟩
 ·refine qL<|ol O O<|zT _ (Weak.mem [false,true,true] O)<|zM<|zV O ?_
  exact ⟨by rw [hp,z6 zB];rfl,O⟩
def zMl (p:Pg) (s:nq) (hP:p.Ok):
    oK cfg 119 [rf p,vS s] (.tup [rq (p.en.find s).ty,mL (p.en.find s).dims,vB (p.en.find s).ok]):=by
 refine zW func119 O ntmps119 results119 O ?_
 intro z hz
 have hpl:=hP.params
 refine Y O<|oi O λb1=>oM O (yA O v) λb2=>qY 2 O<|om O<|zF<|Y O<|zC O uc<|zE uB (J 1 O) O<|qC O qg<|om O<|zS<|zT ⟨[(16,.c _),(1,.c _),(2,.c _),(4,.c _),(14,.c _),(15,.c _)],[_,_]⟩ (oz [true,true] oH O)<|qG 1 0 O O (Nat) (λk=>[(16,vI k)]) (λk=>[]) (λk=>k<=p.Params.length/\(gC s p.Defs p.Params=gC s p.Defs (p.Params.drop k))) (λk=>p.Params.length-k) ⟨0,⟨zB,O⟩,oz [true,true] oH O⟩ ?_
 rintro k ⟨hk,hp⟩
 refine Y O<|yC O<|zA<|zF<|zK O ?_ ?_<;>intro c1<;>try simp only [sx] at c1
 ·obtain ⟨x,hx⟩:=qX p.Params k zB
  refine zJ<|zF<|zS<|Y O<|qF O qg zB (oI uC)<|zN AI qE O<|oM O (qJ oc O Ou O) λb3=>ow 0 Vk O<|zA<|Y O<|zC O OE<|zE uB (J 0 O) O<|G O<|wF O<|zA<|zK O ?_ ?_<;>intro c2<;>try simp only [sx] at c2
  ·refine zF<|yE 5 mixed uB O O<|ou O (zG O zZn O)<|ou O (qA O yD O (J 0 O) O)<|ou O (zG O VU O)<|ou O (zH O uB O (J 0 O) O)<|ou O (qP O uB (OwnR.pur (zSs x.Dims (hP.ps x (qD hx)).1 (λy hy=>aL ((hP.ps x (qD hx)).2 y hy) uA))) (oy O))<|yY<|ow 1 D O<|G O<|om O<|zM<|tr (zY yD O (J 1 O) O) (ox O) (ox O) ?_
   exact v92
  ·refine zJ<|zP O<|qH O ⟨zB,zB⟩<|G O<|zA ?_
   refine ⟨k+1,⟨zB,hp.trans (zZl hx c2)⟩,zB,oz [false,true,true] oH O⟩
 ·have hF:p.en.find s=fI s p.Defs:=by rw [En.find,show p.en.pm=p.Params from rfl,show p.en.df=p.Defs from rfl,hp,z6 zB];rfl
  refine qL<|zF<|Y O<|zN qv (J 1 O) O<|G O<|qK O uB (zYd p s hP.defs) (oy O)<|om O<|oo O O<|zX O (wN O O O)<|zA<|zK O ?_ ?_<;>intro c3<;>try simp only [sx] at c3
  ·obtain ⟨d,hd,hfd⟩:=(wB s p.Defs).1 c3
   have hdd:=(hP.ds d (qD hd)).1
   refine oo O O<|yQ _ (kD 59 2)<|zA<|zF<|Y O<|zC O ry<|zE uB (J 2 O) O<|G O<|qF O pt zB (oI hd)<|qS O D8<|zE uB qE O<|qC O pg<|om O<|zS<|zT ⟨[(42,.c _),(10,.c _),(2,.c _),(4,.c _),(9,.c _),(40,.c _),(41,.c _)],[_,_,_]⟩ (oz [true,true,true] oH O)<|qG 2 1 O O (Nat×Value) (λ⟨j,sv⟩=>[(42,vI j),(10,.c (.lit sv))]) (λ⟨j,sv⟩=>[E.vec sv 59 2 ((d.Dims.take j).map λa=>a.Size.cells)]) (λ⟨j,sv⟩=>j<=d.Dims.length) (λ⟨j,sv⟩=>d.Dims.length-j) ⟨⟨0,(.slice none 0 0)⟩,zB,oz [true,true,true] oH O⟩ ?_
   rintro ⟨j,sv⟩ hj
   show oU _ _ _ _ _ ⟨[(42,vI j),(10,.c (.lit sv))]++_,[E.vec sv 59 2 ((d.Dims.take j).map λa=>a.Size.cells)]++_⟩
   refine Y O<|yC O<|zA<|zF<|zK O ?_ ?_<;>intro c4<;>try simp only [sx] at c4
   ·obtain ⟨a,ha⟩:=qX d.Dims j zB
    refine zJ<|zF<|zS<|Y O<|qF O pg zB (oI uC)<|zN Ee qE O<|oM O (qJ [none,none,some 2] O Hg O) λb5=>ow 0 RP O<|zA<|zP O<|G O<|zC O zZm<|zN yV (J 0 O) O<|qK O uB (zLk a.Size (aL ((hP.ds d (qD hd)).2.2.1 a (qD ha)) uA)) (oy O)<|yT O oS U<|oM O (qZ 1 O oS O O O (by first|omega|(simp only [ap,pc,qp,qw,pw];omega)) (by first|omega|(simp only [ap,pc,qp,qw,pw];omega))) λsv6=>om O<|zP O<|qH O ⟨zB,zB⟩<|G O<|zA ?_
    refine ⟨⟨j+1,sv6⟩,zB,(by show d.Dims.length-(j+1)<d.Dims.length-j;omega),oz [false,true,true,true] oH (by show _=[E.vec sv6 _ 2 ((d.Dims.take (j+1)).map λa=>a.Size.cells)]++_;rw [yB ha,ah (f:=λa:Ax=>a.Size.cells)];rfl)⟩
   ·refine qL<|Y O<|zC O ry<|zE uB (J 2 O) O<|G O<|qF O pt zB (oI hd)<|qS O On<|zN yD qE O<|G O<|ow 1 D O<|G O<|om O<|zT _ (yJ 0 O (regs':=[(10,_),(59,_),(5,_)]) (μ':=[_,_]) ⟨FLe.sl,FLe.sl,FLe.sl,T⟩ ⟨EFle.refl _,EFle.refl _,T⟩)<|zM<|tr (zY yD O (J 0 O) O) (ox O) (ox O) ?_
    rw [hF,hfd,yG (l:=d.Dims) (k:=j) zB];simp only [mL,fx];rfl
  ·have hfd:=(wB s p.Defs).2 zB
   refine zJ<|Y O<|yI O v pr<|ow 0 D O<|qY 2 O<|om O<|zM<|tr (zY yD O (J 0 O) O) (ox O) (ox O) ?_
   rw [hF,hfd];rfl
def zSd (b mb:Nat) (p:Pg) (m:Kn) (l:Lf) (hl:l.L.length<=4294967296):
    Con cfg 223 [vP b,dF l] (Ow b mb p m) λr μ'=>r=vI (nI (kn m) l)/\μ'=Ow b mb p m:=by
 refine zW func223 O ntmps223 results223 O λz hz=>Y O<|oi O λb1=>om O<|zF<|Y O<|zC O kA<|zE uB (J 0 O) O<|qC O N<|om O<|zS<|zT ⟨[(10,.c _),(0,.c _),(8,.c _),(9,.c _)],[_,_]⟩ (oz [false,true,true] oH O)<|qG 1 0 O O (Nat) (λk=>[(10,vI k)]) (λk=>[]) (λk=>k<=l.L.length/\(rc (kn m) (l.L.take k)=true)) (λk=>l.L.length-k) ⟨0,⟨zB,O⟩,oz [true,true] oH O⟩ ?_
 rintro k ⟨hk,hp⟩
 refine Y O<|yC O<|zA<|zF<|zK O ?_ ?_<;>intro c1<;>try simp only [sx] at c1
 ·obtain ⟨x,hx⟩:=qX l.L k zB
  refine zJ<|zF<|zS<|Y O<|qF O N zB (oI uC)<|zN Eb qE O<|oM O (yA O te) λb2=>ow 0 tg O<|zA<|zF<|yE 8 mixed uB O O<|ou O (zQ O O)<|ou O (qV O O)<|ou O (zG O CO O)<|ou O (zH O uB O (J 1 O) O)<|ou O (zG O wH O)<|ou O (zH O uB O (J 0 O) O)<|ou O (zHu 2 (0:Int) O ug O O O (λ_ _=>CRep.lit _ O))<|ou O (yU O O O)<|yY<|zA<|zK O ?_ ?_<;>intro c2<;>try simp only [sx] at c2
  ·refine ol O O<|zT _ (Weak.mem [false,true,true] O)<|zM<|zV O ?_
   exact ⟨by rw [zOd (PZ hx (kn_f c2))],O⟩
  ·refine zJ<|zP O<|qH O ⟨zB,zB⟩<|G O<|zA ?_
   refine ⟨k+1,⟨zB,Fe hx hp (kn_t c2)⟩,zB,oz [false,true,true] oH O⟩
 ·refine qL<|ol O O<|zM<|zV O ?_
  exact ⟨by rw [yG zB] at hp;rw [zWd hp],O⟩
def GR (b mb:Nat) (p:Pg) (m:Kn) (x:Ix) (hP:p.Ok) (hx:x.wt<=4294967296):
    Con cfg 262 [vP b,jW x] (Ow b mb p m) λr μ'=>r=vI (dN p.en (kn m) x)/\μ'=Ow b mb p m:=by
 refine zW func262 O ntmps262 results262 O ?_
 intro z hz
 have hw:=hx
 unfold Ix.wt at hw
 clear hx
 refine Y O<|oi O λb1=>om O<|zF<|Y O<|zC O AE<|zE uB (J 0 O) O<|wF O<|zA<|zK O ?_ ?_<;>intro c1<;>try simp only [sx] at c1
 ·refine oo O O<|zC O vc<|zN yV (J 0 O) O<|zX O (kL [1,1] O uB (zSd b mb p m x.Lin zB) (oy O) O)<|om O<|zT _ (Weak.mem [false,true,true] O)<|zM<|zV O ?_
  exact ⟨by rw [dN,al c1];rfl,O⟩
 ·refine zJ<|zF<|qAt 12 14 [.q,.q,.q,.q,.q,.q,.q,.q,.q,.u,.u,.f]  mixed uB O O O<|wV O O (zQ O O)<|wV O O (qV O O)<|wV O O (zG O Kq O)<|wV O O (qA O qv O (J 1 O) O)<|wV O O (zG O AE O)<|wV O O (zH O uB O (J 0 O) O)<|wV O O (qP O uB (zMl p x.From hP) (oy O))<|wV O O (yS O O)<|wV O O (kK O O O)<|zQd O O (kI O O O)<|zQd O O (kI O O O)<|zVm<|u9<|si<|si<|si<|si<|si<|si<|si<|si<|si<|GN<|GN<|zQe (wY (yA O v))<|u7<|zOi ?_
  rintro _ _ ⟨b2,rfl,rfl⟩
  refine zRw ?_
  refine ⟨_,yP O D O O O (tc 0 O O),xV5,?_⟩
  rintro _ _ ⟨rfl,rfl⟩
  refine ou O (yK O O)<|yY<|om O<|zF<|zS<|oo O O<|kQ O<|om O<|zK O ?_ ?_<;>intro c2<;>try simp only [sx] at c2
  ·refine ol O O<|zT _ (Weak.mem [false,false,true,true] O)<|zM<|zV O ?_
   exact ⟨by rw [dN,am c1,c2];rfl,O⟩
  ·refine Y O<|zC O Hd<|zE uB (J 0 O) O<|yL O<|om O<|zK O ?_ ?_<;>intro c3<;>try simp only [sx] at c3
   ·refine ol O O<|zT _ (Weak.mem [false,false,true,true] O)<|zM<|zV O ?_
    exact ⟨by rw [dN,am c1,c2,am c3];rfl,O⟩
   ·refine Y O<|zC O rt<|zE uB (J 1 O) O<|qC O oS<|G O<|qC O oS<|yL O<|om O<|zK O ?_ ?_<;>intro c4<;>try simp only [sx] at c4
    ·refine ol O O<|zT _ (Weak.mem [false,false,true,true] O)<|zM<|zV O ?_
     exact ⟨by rw [dN,am c1,c2,al c3,am zB];rfl,O⟩
    ·refine zJ<|zF<|Y O<|zC O rt<|zE uB (J 1 O) O<|qC O oS<|om O<|zS<|zT ⟨[(46,.c _),(0,.c _),(44,.c _),(45,.c _)],[_,_]⟩ (oz [false,false,true,true] oH O)<|qG 1 0 O O (Nat) (λk=>[(46,vI k)]) (λk=>[]) (λk=>k<=x.At.length/\((x.At.take k).all (λx=>rc (kn m) x.L)=true)) (λk=>x.At.length-k) ⟨0,⟨zB,O⟩,oz [true,true] oH O⟩ ?_
     rintro k ⟨hk,hp⟩
     refine Y O<|yC O<|zA<|zF<|zK O ?_ ?_<;>intro c5<;>try simp only [sx] at c5
     ·obtain ⟨l,hl⟩:=qX x.At k zB
      refine zJ<|zF<|zS<|Y O<|qF O oS zB (oI uC)<|zN yV qE O<|oM O (qJ [none,some 2] O U O) λb3=>ow 0 oZ O<|zA<|oo O O<|zN yV (J 0 O) O<|zX O (kL [1,1] O uB (zSd b mb p m l (by have:=Sr (qD hl);omega)) (oy O) O)<|om O<|oo O O<|yL O<|zA<|zK O ?_ ?_<;>intro c6<;>try simp only [sx] at c6
      ·refine oo O O<|om O<|zT _ (Weak.mem [false,true,true] O)<|zM<|zV O ?_
       exact ⟨by rw [dN,am c1,c2,al c3,al zB];simp only [aw,aU];rw [A7 hl c6],O⟩
      ·refine zJ<|zP O<|qH O ⟨zB,zB⟩<|G O<|zA ?_
       refine ⟨k+1,⟨zB,zZj hl hp c6⟩,zB,oz [false,true,true] oH O⟩
     ·refine qL<|ol O O<|zM<|zV O ?_
      exact ⟨by rw [yG zB] at hp;rw [dN,am c1,c2,al c3,al zB];simp only [aw,aU];rw [A8 hp],O⟩
end Go.W
end
