/-
  What functions compute.
  And what the laws need besides.
  Conditions: none.
-/
import Derived.Test.YtgfomfnjionbeaaGreatDoorGB
import Derived.Test.YtgfomfnjionbeaaGreatDoorEngZ
import Derived.Test.YtgfomfnjionbeaaGreatDoorPlain3
import Derived.Test.YtgfomfnjionbeaaGreatDoorPlainL
import Derived.Test.YtgfomfnjionbeaaGreatDoorPlain2
import Derived.Test.YtgfomfnjionbeaaGreatDoorSortL
set_option linter.unusedSimpArgs false
set_option linter.unusedVariables false
set_option linter.defProp false
section
set_option maxRecDepth 10000
namespace Go.W
open Go Go.Eng Go.Proofs Go.L41 Go.Br Tryz
attribute [local irreducible] oU oX TD gF
def He:nN prog 66=some 8:=by kernel_rfl
def oT:dW prog 33=some (64,20,256):=by kernel_rfl
def pq:dW prog 39=some (66,8,88):=by kernel_rfl
def rz:bH prog 41 0=some (0,39):=by kernel_rfl
def Cf:bH prog 64 7=some (19,33):=by kernel_rfl
def SG:bH prog 66 0=some (0,9):=by kernel_rfl
def S8:bH prog 66 1=some (1,56):=by kernel_rfl
def Ta:bH prog 66 2=some (6,46):=by kernel_rfl
def OF:bH prog 66 3=some (7,3):=by kernel_rfl
def QW:fD prog 66=some [(0,1),(1,5),(6,1),(7,1)]:=by kernel_rfl
def Zr:(prog.info? 46).map (·.size)=some 1:=by kernel_rfl
def rm:(prog.info? 66).map (·.size)=some 8:=by kernel_rfl
def pz:dZ prog 66=some [Hj,pn,pn,pn,pn,pn,qn,pn]:=by kernel_rfl
def y7 (d:List Int) (hl:d.length<=17592186044416):
    oK cfg 168 [ss d] (vI (gZ d)):=by
 refine zW func168 O ntmps168 results168 O λz hz=>ol O O<|zF<|oo O O<|qC O pf<|sf O<|zA<|zK O ?_ ?_<;>intro c1<;>try simp only [sx] at c1
 ·have hlong:=AW (d:=d) zB
  refine ol O O<|zM<|zV O ?_
  rw [hlong]
 ·refine zJ<|zF<|oo O O<|qC O pf<|om O<|zS<|zT ⟨[(13,.c _),(0,.c _),(11,.c _),(12,.c _)],[]⟩ (oz [] oH O)<|qG 1 0 O O (Nat) (λk=>[(13,vI k)]) (λk=>[]) (λk=>k<=d.length/\((d.take k).all sM=true)) (λk=>d.length-k) ⟨0,⟨zB,O⟩,oz [] oH O⟩ ?_
  rintro k ⟨hk,hp⟩
  refine Y O<|yC O<|zA<|zF<|zK O ?_ ?_<;>intro c2<;>try simp only [sx] at c2
  ·obtain ⟨n,hn⟩:=qX d k zB
   refine zJ<|zF<|zS<|Y O<|qF O pf zB (oI uC)<|zE uB qE O<|om O<|oo O O<|yC O<|zA<|zK O ?_ ?_<;>intro c3<;>try simp only [sx] at c3
   ·have hneg:=EH (d:=d) zB hn c3
    refine ol O O<|zM<|zV O ?_
    rw [hneg]
   ·refine zJ<|zP O<|qH O ⟨zB,zB⟩<|G O<|zA ?_
    refine ⟨k+1,⟨zB,zNp hn hp (by unfold sM;exact al zB)⟩,zB,oz [] oH O⟩
  ·have hpos:d.all sM=true:=by rw [yG zB] at hp;exact hp
   refine qL<|ol O O<|zF<|oo O O<|qC O pf<|om O<|zS<|zT ⟨[(22,.c _),(5,.c _),(20,.c _),(21,.c _)],[]⟩ (oz [] oH O)<|qG 2 0 O O (Nat×Int) (λ⟨j,s⟩=>[(22,vI j),(5,vI s)]) (λ⟨j,s⟩=>[]) (λ⟨j,s⟩=>j<=d.length/\(1<=s)/\(s<=4096)/\(bM 1 d=bM s (d.drop j))) (λ⟨j,s⟩=>d.length-j) ⟨⟨0,1⟩,⟨zB,zB,zB,O⟩,oz [] ⟨zD,VLe.of_eq (O),zD,zD,T⟩ O⟩ ?_
   rintro ⟨j,s⟩ ⟨hj,hs1,hs2,hs3⟩
   show oU _ _ _ _ _ ⟨[(22,vI j),(5,vI s)]++_,[]++_⟩
   refine Y O<|yC O<|zA<|zF<|zK O ?_ ?_<;>intro c4<;>try simp only [sx] at c4
   ·obtain ⟨m,hm⟩:=qX d j zB
    refine zJ<|zF<|zS<|Y O<|qF O pf zB (oI uC)<|zE uB qE O<|om O<|zF<|oo O O<|G O<|zX O (J8 O O O zB)<|sf O<|zA<|zK O ?_ ?_<;>intro c5<;>try simp only [sx] at c5
    ·have hov:=quo_t hs1 c5
     refine ol O O<|zM<|zV O ?_
     rw [qAb zB hpos (zXm hm hs3 hov)]
    ·have hov:=quo_f hs1 (Int.not_lt.2 c5)
     have hm1:=zQv hs1 (zNv hpos hm)
     refine zJ<|zP O<|G O<|G O<|zX O (zOg O O O (by have:=zQv hs1 (zNv hpos hm);exact ⟨zB,zB⟩))<|om O<|zP O<|qH O ⟨zB,zB⟩<|G O<|zA ?_
     refine ⟨⟨j+1,s*m⟩,⟨zB,zB,zB,BN hm hs3 hov⟩,(by show d.length-(j+1)<d.length-j;omega),oz [] oH O⟩
   ·refine qL<|ol O O<|zM<|zV O ?_
    rw [Kg zB hpos (BM hs3 zB)]
def yx (d:List Int) (hl:d.length<=17592186044416):
    oK cfg 108 [ss d] (vI (gZ d)):=by
 refine zW func108 O ntmps108 results108 O λz hz=>ol O O<|zF<|oo O O<|qC O pf<|sf O<|zA<|zK O ?_ ?_<;>intro c1<;>try simp only [sx] at c1
 ·have hlong:=AW (d:=d) zB
  refine ol O O<|zM<|zV O ?_
  rw [hlong]
 ·refine zJ<|zF<|ol O O<|zS<|zT ⟨[(3,.c _),(0,.c _)],[]⟩ (oz [] oH O)<|qG 1 0 O O (Nat) (λk=>[(3,vI k)]) (λk=>[]) (λk=>k<=d.length/\((d.take k).all sM=true)) (λk=>d.length-k) ⟨0,⟨zB,O⟩,oz [] oH O⟩ ?_
  rintro k ⟨hk,hp⟩
  refine zF<|oo O O<|G O<|qC O pf<|yC O<|zA<|zK O ?_ ?_<;>intro c2<;>try simp only [sx] at c2
  ·obtain ⟨n,hn⟩:=qX d k zB
   refine zJ<|zF<|zS<|oo O O<|G O<|qF O pf zB (oI uC)<|zE uB qE O<|yC O<|zA<|zK O ?_ ?_<;>intro c3<;>try simp only [sx] at c3
   ·have hneg:=EH (d:=d) zB hn c3
    refine ol O O<|zM<|zV O ?_
    rw [hneg]
   ·refine zJ<|zP O<|G O<|qH O ⟨zB,zB⟩<|G O<|zA ?_
    refine ⟨k+1,⟨zB,zNp hn hp (by unfold sM;exact al zB)⟩,zB,oz [] oH O⟩
  ·have hpos:d.all sM=true:=by rw [yG zB] at hp;exact hp
   refine qL<|ol O O<|zF<|ol O O<|zS<|zT ⟨[(5,.c _),(4,.c _),(0,.c _)],[]⟩ (oz [] oH O)<|qG 2 0 O O (Nat×Int) (λ⟨j,s⟩=>[(5,vI j),(4,vI s)]) (λ⟨j,s⟩=>[]) (λ⟨j,s⟩=>j<=d.length/\(1<=s)/\(s<=4096)/\(bM 1 d=bM s (d.drop j))) (λ⟨j,s⟩=>d.length-j) ⟨⟨0,1⟩,⟨zB,zB,zB,O⟩,oz [] ⟨zD,VLe.of_eq (O),zD,T⟩ O⟩ ?_
   rintro ⟨j,s⟩ ⟨hj,hs1,hs2,hs3⟩
   show oU _ _ _ _ _ ⟨[(5,vI j),(4,vI s)]++_,[]++_⟩
   refine zF<|oo O O<|G O<|qC O pf<|yC O<|zA<|zK O ?_ ?_<;>intro c4<;>try simp only [sx] at c4
   ·obtain ⟨m,hm⟩:=qX d j zB
    refine zJ<|zF<|zS<|zF<|oo O O<|G O<|qF O pf zB (oI uC)<|zE uB qE O<|sf O<|zA<|zK O ?_ ?_<;>intro c5<;>try simp only [sx] at c5
    ·have hov:4096<s*m:=by have:=zQv hs1 (zNv hpos hm);omega
     refine ol O O<|zM<|zV O ?_
     rw [qAb zB hpos (zXm hm hs3 hov)]
    ·have hm1:=zQv hs1 (zNv hpos hm)
     refine zJ<|oo O O<|G O<|G O<|qF O pf zB (oI uC)<|zE uB qE O<|zX O (zOg O O O (by have:=zQv hs1 (zNv hpos hm);have hm0:=zNv hpos hm;have:s*m<=4096*4096:=gv zB zB zB zB;exact ⟨zB,zB⟩))<|om O<|oo O O<|sf O<|zA<|zK O ?_ ?_<;>intro c6<;>try simp only [sx] at c6
     ·refine ol O O<|zM<|zV O ?_
      rw [qAb zB hpos (zXm hm hs3 zB)]
     ·refine zJ<|zP O<|G O<|qH O ⟨zB,zB⟩<|G O<|zA ?_
      refine ⟨⟨j+1,s*m⟩,⟨zB,zB,zB,BN hm hs3 zB⟩,(by show d.length-(j+1)<d.length-j;omega),oz [] oH O⟩
   ·refine qL<|ol O O<|zM<|zV O ?_
    rw [Kg zB hpos (BM hs3 zB)]
def zUz (l:List Int) (hl:l.length<=17592186044416):
    OwnR cfg 144 [ss l] 3 1 (l.map λn=>[cI n]):=by
 refine zW func144 O ntmps144 results144 O λz hz=>Y O<|qY 1 O<|zA<|zF<|oo O O<|qB O O (zJr O pf O O) ?_
 rintro _ _ ⟨nb1,rfl,hnil1,rfl⟩
 refine zA<|zK O ?_ ?_<;>intro c1<;>try simp only [sx] at c1
 ·refine oo O O<|yQ _ (kD 3 1)<|zA<|zM<|zV O ?_
  exact ⟨_,O,by rw [hnil1 c1]⟩
 ·refine zJ<|Y O<|oM O (LS O pf Oq O O O O) λsv3=>G O<|qB O O (qZ 0 O pf O O O uJ uJ) ?_
  exact v20
def zIk (b:Bf) (hl:b.Dims.length<=17592186044416):
    oK cfg 79 [ZA b] (ZA b):=by
 refine zW func79 O ntmps79 results79 O λz hz=>Y O<|oi O λb1=>oM O (qJ nu O pz O) λb2=>zA<|Y O<|zC O Ta<|zE uB (J 1 O) O<|qK O uB (OwnR.pur (zUz b.Dims hl)) (oy O)<|zC O Ta<|ow 1 Zr O<|zA<|Y O<|zN He (J 1 O) O<|ow 0 rm O<|zA<|zM<|pu (zY He O (J 0 O) O) ?_
 exact O
def zCg (n:Ns) (s:nq) (hn:n.Ok):
    oK cfg 247 [va n,vS s] (.tup [ZA (jK n.Bufs s),vB (gB n.Bufs s)]):=by
 refine zW func247 O ntmps247 results247 O ?_
 intro z hz
 have hnb:=hn.bufs
 refine Y O<|oi O λb1=>oM O (qJ nu O pz O) λb2=>om O<|zF<|Y O<|zC O rz<|zE uB (J 1 O) O<|qC O pq<|om O<|zS<|zT ⟨[(10,.c _),(1,.c _),(2,.c _),(4,.c _),(9,.c _)],[_,_]⟩ (oz [true,true] oH O)<|qG 1 0 O O (Nat) (λk=>[(10,vI k)]) (λk=>[]) (λk=>k<=n.Bufs.length/\(gB (n.Bufs.take k) s=false)/\(jK n.Bufs s=jK (n.Bufs.drop k) s)) (λk=>n.Bufs.length-k) ⟨0,⟨zB,O,O⟩,oz [true,true] oH O⟩ ?_
 rintro k ⟨hk,hp,hq⟩
 refine Y O<|yC O<|zA<|zF<|zK O (λc1=>?_) (λc1=>?_)
 ·try simp only [sx] at c1
  obtain ⟨b,hb⟩:=qX n.Bufs k zB
  refine zJ<|zF<|zS<|oo O O<|om O<|Y O<|zC O rz<|zE uB (J 1 O) O<|G O<|qF O pq zB (oI uC)<|qS O SG<|zE uB qE O<|G O<|wF O<|zA<|zK O ?_ ?_<;>intro c2<;>try simp only [sx] at c2
  ·refine Y O<|zC O rz<|zE uB (J 1 O) O<|G O<|qF O pq zB (oI uC)<|zN He qE O<|qK O uB (zIk b (hn.dims b (qD hb))) (oy O)<|ow 0 rm O<|om O<|zM<|oJ (zY He O (J 0 O) O) (ox O) ?_
   rw [xf hb c2,hq,JN hb c2];rfl
  ·refine zJ<|zP O<|qH O ⟨zB,zB⟩<|G O<|zA ?_
   refine ⟨k+1,⟨zB,zTo hb hp c2,hq.trans (AN hb c2)⟩,zB,oz [true,true] oH O⟩
 ·exact v69
def zEz (n:Ns) (s:nq) (hn:n.Ok):
    oK cfg 171 [va n,vS s] (.tup [ZA (jK n.Bufs s),vB (gB n.Bufs s)]):=by
 refine zW func171 O ntmps171 results171 O ?_
 intro z hz
 have hnb:=hn.bufs
 refine Y O<|oi O λb1=>oM O (qJ nu O pz O) λb2=>om O<|zF<|ol O O<|zS<|zT ⟨[(6,.c _),(1,.c _),(2,.c _),(4,.c _)],[_,_]⟩ (oz [true,true] oH O)<|qG 1 0 O O (Nat) (λk=>[(6,vI k)]) (λk=>[]) (λk=>k<=n.Bufs.length/\(gB (n.Bufs.take k) s=false)/\(jK n.Bufs s=jK (n.Bufs.drop k) s)) (λk=>n.Bufs.length-k) ⟨0,⟨zB,O,O⟩,oz [true,true] oH O⟩ ?_
 rintro k ⟨hk,hp,hq⟩
 refine zF<|oo O O<|zC O rz<|zE uB (J 1 O) O<|qC O pq<|yC O<|zA<|zK O (λc1=>?_) (λc1=>?_)
 ·try simp only [sx] at c1
  obtain ⟨b,hb⟩:=qX n.Bufs k zB
  refine zJ<|zF<|zS<|Y O<|zC O rz<|zE uB (J 1 O) O<|G O<|qF O pq zB (oI uC)<|qS O SG<|zE uB qE O<|G O<|wF O<|zA<|zK O ?_ ?_<;>intro c2<;>try simp only [sx] at c2
  ·refine Y O<|zC O rz<|zE uB (J 1 O) O<|G O<|qF O pq zB (oI uC)<|zN He qE O<|ow 0 rm O<|om O<|zM<|oJ (zY He O (J 0 O) O) (ox O) ?_
   rw [xf hb c2,hq,JN hb c2];rfl
  ·refine zJ<|zP O<|G O<|qH O ⟨zB,zB⟩<|G O<|zA ?_
   refine ⟨k+1,⟨zB,zTo hb hp c2,hq.trans (AN hb c2)⟩,zB,oz [true,true] oH O⟩
 ·exact v69
def zWu (n:Nat) (ih:n≠0->∀(l:List St) (x:Int),bR l<=1073741824->x=((n-1:Nat):Int)->oK cfg 103 [fL l,vI x] (vB (fC (n-1) l))) (l:List St) (x:Int) (hn:n<=100) (hl:bR l<=1073741824) (hx:x=n):
    oK cfg 103 [fL l,vI x] (vB (fC n l)):=by
 refine zW func103 O ntmps103 results103 O ?_
 intro z hz
 have hll:=G9 l
 refine ol O O<|zF<|oo O O<|qC O oT<|om O<|zS<|zT ⟨[(8,.c _),(0,.c _),(1,.c _),(7,.c _)],[]⟩ (oz [] oH O)<|qG 1 0 O O (Nat) (λk=>[(8,vI k)]) (λk=>[]) (λk=>k<=l.length/\(tB n (l.take k)=true)) (λk=>l.length-k) ⟨0,⟨zB,by cases n<;>rfl⟩,oz [] oH O⟩ ?_
 rintro k ⟨hk,hp⟩
 refine Y O<|yC O<|zA<|zF<|zK O ?_ ?_<;>intro c1<;>try simp only [sx] at c1
 ·obtain ⟨s,hs⟩:=qX l k zB
  refine zJ<|zF<|zS<|oo O O<|om O<|oo O O<|yC O<|G O<|oL O (λg4_2=>zQ O O) O<|oL O (λg4_2=>zQ O O) O<|oV [(14,_),(15,_)] O oP ⟨O,O,O,O,T⟩ (λg4_2=>qI O oT O O zB (ta hs)) O<|oG 16 O (λg4_2=>qO O Cf O) O<|oG 17 O (λg4_2=>zH O uB O qE O) O<|oL O (λg4_2=>zQ O O) O<|oG 19 O (λg4_2=>yM O O O ⟨zB,zB⟩) O<|oV [(18,_),(20,_)] O oP ⟨O,O,O,O,T⟩ (λg4_2=>qP O uB (ih (by simp only [Lz,aB,aw,sx] at g4_2;omega) s.Body _ (by have:=St.body_wt s;have:=Og (qD hs);omega) (by simp only [Lz,aB,aw,sx] at g4_2;omega)) (oy O)) O<|oG 21 O (λg4_2=>wM O O) O<|oN O (λh=>(oY h))<|zA<|zK O (λc2=>?_) (λc2=>?_)
  ·have hno:=Od hs hx c2
   refine ol O O<|zM<|zV O ?_
   rw [hno]
  ·have hyes:=JC hx c2
   refine zJ<|zP O<|qH O ⟨zB,zB⟩<|G O<|zA ?_
   refine ⟨k+1,⟨zB,D0 hs hp hyes.1 hyes.2⟩,zB,oz [] oH O⟩
 ·refine qL<|ol O O<|zM<|zV O ?_
  rw [yG zB,JB] at hp;rw [hp]
def zYy (n:Nat) (l:List St) (x:Int) (hn:n<=100) (hl:bR l<=1073741824) (hx:x=n):oK cfg 103 [fL l,vI x] (vB (fC n l)):=by
  induction n generalizing l x with
  |zero=>exact zWu 0 (λh=>absurd rfl h) l x hn hl hx
  |succ n ih=>exact zWu (n+1) (λ_ l x h1 h2=>ih l x zB h1 zB) l x hn hl hx
def wb (n:Nat) (ih:n≠0->∀(l:List St) (x:Int),bR l<=1073741824->x=((n-1:Nat):Int)->oK cfg 48 [fL l,vI x] (vI (nT (n-1) l))) (l:List St) (x:Int) (hn:n<=100) (hl:bR l<=1073741824) (hx:x=n):
    oK cfg 48 [fL l,vI x] (vI (nT n l)):=by
 refine zW func48 O ntmps48 results48 O ?_
 intro z hz
 have hll:=G9 l
 refine ol O O<|ol O O<|zF<|ol O O<|zS<|zT ⟨[(5,.c _),(6,.c _),(0,.c _),(1,.c _)],[]⟩ (oz [] oH O)<|qG 2 0 O O (Nat×Int) (λ⟨k,d⟩=>[(5,vI d),(6,vI k)]) (λ⟨k,d⟩=>[]) (λ⟨k,d⟩=>k<=l.length/\0<=d/\d<=100/\d=nT n (l.take k)) (λ⟨k,d⟩=>l.length-k) ⟨⟨0,0⟩,⟨zB,zB,zB,by cases n<;>rfl⟩,oz [] ⟨VLe.of_eq (O),zD,zD,zD,T⟩ O⟩ ?_
 rintro ⟨k,d⟩ ⟨hk,hd0,hd1,hd⟩
 show oU _ _ _ _ _ ⟨[(5,vI d),(6,vI k)]++_,[]++_⟩
 refine zF<|oo O O<|G O<|qC O oT<|yC O<|G O<|oL O (λg3_4=>zQ O O) O<|oG 12 O (λg3_4=>kE O O O) O<|kF O (λh=>h)<|zA<|zK O ?_ ?_<;>intro c1<;>try simp only [sx] at c1
 ·obtain ⟨s,hs⟩:=qX l k zB
  have hle:=J6 (n-1) s.Body
  refine zJ<|zF<|zS<|zP O<|G O<|G O<|G O<|qF O oT zB (ta hs)<|qS O Cf<|zE uB qE O<|G O<|zX O (yM O O O ⟨zB,zB⟩)<|qK O uB (ih zB s.Body _ (by have:=St.body_wt s;have:=Og (qD hs);omega) zB) (oy O)<|qH O ⟨zB,zB⟩<|zX O (zTu O O O)<|om O<|zP O<|G O<|qH O ⟨zB,zB⟩<|G O<|zA ?_
  refine ⟨⟨k+1,max d (1+nT (n-1) s.Body)⟩,⟨zB,zB,zB,by rw [Me hs zB,<-hd]⟩,ZL,oz [] oH O⟩
 ·refine qL<|oo O O<|om O<|zM<|zV O ?_
  exact ai vI (Mf hx hd zB)
def Ge (n:Nat) (l:List St) (x:Int) (hn:n<=100) (hl:bR l<=1073741824) (hx:x=n):oK cfg 48 [fL l,vI x] (vI (nT n l)):=by
  induction n generalizing l x with
  |zero=>exact wb 0 (λh=>absurd rfl h) l x hn hl hx
  |succ n ih=>exact wb (n+1) (λ_ l x h1 h2=>ih l x zB h1 zB) l x hn hl hx
def zFk (l:List St) (ih:∀s,s∈l->∀(m:Nat) (x:Int),m<=2147483648->x=m->oK cfg 104 [fL s.Body,vI x] (vI (nD s.Body m))) (m:Nat) (x:Int) (hl:bR l<=1073741824) (hm:m<=2147483648) (hx:x=m):
    oK cfg 104 [fL l,vI x] (vI (nD l m)):=by
 refine zW func104 O ntmps104 results104 O ?_
 intro z hz
 have hll:=G9 l
 have hNw:=u6 l
 refine ol O O<|oo O O<|qC O oT<|om O<|zF<|oo O O<|qC O oT<|om O<|zS<|zT ⟨[(11,.c _),(5,.c _),(0,.c _),(1,.c _),(10,.c _)],[]⟩ (oz [] oH O) ?_
 refine qG 2 0 O O (Nat×Nat) (λ⟨k,n⟩=>[(11,vI k),(5,vI n)]) (λ⟨k,n⟩=>[]) (λ⟨k,n⟩=>k<=l.length/\(n<=4294967296)/\(nD l m=nP (l.drop k) m n)) (λ⟨k,n⟩=>l.length-k) ⟨⟨0,l.length⟩,⟨zB,zB,O⟩,oz [] ⟨zD,VLe.of_eq (ai vI uF),zD,zD,zD,T⟩ O⟩ ?_
 rintro ⟨k,n⟩ ⟨hk,hn,hp⟩
 show oU _ _ _ _ _ ⟨[(11,vI k),(5,vI n)]++_,[]++_⟩
 refine Y O<|yC O<|zA<|zF<|zK O ?_ ?_<;>intro c1<;>try simp only [sx] at c1
 ·obtain ⟨s,hs⟩:=qX l k zB
  refine zJ<|zF<|zS<|oo O O<|om O<|zF<|oo O O<|G O<|sf O<|zA<|zK O ?_ ?_<;>intro c2<;>try simp only [sx] at c2
  ·exact v90
  ·have hsum:=K9 hs hp zB
   have hbl:=Dq s.Body (m-n)
   have hsn:=zVo (qD hs)
   have hse:=Xi s
   refine zJ<|zP O<|G O<|G O<|G O<|qF O oT zB (ta hs)<|qS O Cf<|zE uB qE O<|G O<|G O<|zX O (yM O O O ⟨zB,zB⟩)<|qK O uB (ih s (qD hs) (m-n) _ zB zB) (oy O)<|qH O ⟨zB,zB⟩<|om O<|zP O<|qH O ⟨zB,zB⟩<|G O<|zA ?_
   refine ⟨⟨k+1,n+nD s.Body (m-n)⟩,⟨zB,zB,FL hs hp zB⟩,(by show l.length-(k+1)<l.length-k;omega),oz [] ⟨zD,VLe.of_eq (ai vI zB),zD,zD,zD,T⟩ O⟩
 ·exact v90
def zKt (s:St):∀(m:Nat) (x:Int),bR s.Body<=1073741824->m<=2147483648->x=m->oK cfg 104 [fL s.Body,vI x] (vI (nD s.Body m)):=by
  induction s using St.ind with
  |_ s ih=>exact λm x hl hm hx=>zFk s.Body (λa ha m x h1 h2=>ih a ha m x xK9 h1 h2) m x hl hm hx
def zQw (l:List St) (m:Nat) (x:Int) (hl:bR l<=1073741824) (hm:m<=2147483648) (hx:x=m):oK cfg 104 [fL l,vI x] (vI (nD l m)):=
  zFk l (λa ha m x h1 h2=>zKt a m x xK9 h1 h2) m x hl hm hx
def zMh (l:List St) (ih:∀s,s∈l->∀(m:Nat) (x:Int),m<=2147483648->x=m->oK cfg 49 [fL s.Body,vI x] (vI (nD s.Body m))) (m:Nat) (x:Int) (hl:bR l<=1073741824) (hm:m<=2147483648) (hx:x=m):
    oK cfg 49 [fL l,vI x] (vI (nD l m)):=by
 refine zW func49 O ntmps49 results49 O ?_
 intro z hz
 have hll:=G9 l
 have hNw:=u6 l
 refine ol O O<|oo O O<|qC O oT<|om O<|zF<|ol O O<|zS<|zT ⟨[(6,.c _),(5,.c _),(0,.c _),(1,.c _)],[]⟩ (oz [] oH O) ?_
 refine qG 2 0 O O (Nat×Nat) (λ⟨k,n⟩=>[(6,vI k),(5,vI n)]) (λ⟨k,n⟩=>[]) (λ⟨k,n⟩=>k<=l.length/\(n<=4294967296)/\(nD l m=nP (l.drop k) m n)) (λ⟨k,n⟩=>l.length-k) ⟨⟨0,l.length⟩,⟨zB,zB,O⟩,oz [] ⟨zD,VLe.of_eq (ai vI uF),zD,zD,T⟩ O⟩ ?_
 rintro ⟨k,n⟩ ⟨hk,hn,hp⟩
 show oU _ _ _ _ _ ⟨[(6,vI k),(5,vI n)]++_,[]++_⟩
 refine zF<|oo O O<|G O<|qC O oT<|yC O<|G O<|oL O (λg3_4=>zQ O O) O<|oL O (λg3_4=>zQ O O) O<|oV [(14,_),(15,_)] O oP ⟨O,O,O,O,T⟩ (λg3_4=>vb O O O) O<|kF O (λh=>h)<|zA<|zK O ?_ ?_<;>intro c1<;>try simp only [sx] at c1
 ·obtain ⟨s,hs⟩:=qX l k zB
  have hsum:=K9 hs hp zB
  have hbl:=Dq s.Body (m-n)
  have hsn:=zVo (qD hs)
  have hse:=Xi s
  refine zJ<|zF<|zS<|zP O<|G O<|G O<|G O<|qF O oT zB (ta hs)<|qS O Cf<|zE uB qE O<|G O<|G O<|zX O (yM O O O ⟨zB,zB⟩)<|zX O (zTu O O O)<|qK O uB (ih s (qD hs) (m-n) _ zB zB) (oy O)<|qH O ⟨zB,zB⟩<|om O<|zP O<|G O<|qH O ⟨zB,zB⟩<|G O<|zA ?_
  refine ⟨⟨k+1,n+nD s.Body (m-n)⟩,⟨zB,zB,FL hs hp zB⟩,(by show l.length-(k+1)<l.length-k;omega),oz [] ⟨zD,VLe.of_eq (ai vI zB),zD,zD,T⟩ O⟩
 ·exact v90
def zXs (s:St):∀(m:Nat) (x:Int),bR s.Body<=1073741824->m<=2147483648->x=m->oK cfg 49 [fL s.Body,vI x] (vI (nD s.Body m)):=by
  induction s using St.ind with
  |_ s ih=>exact λm x hl hm hx=>zMh s.Body (λa ha m x h1 h2=>ih a ha m x xK9 h1 h2) m x hl hm hx
def I6 (l:List St) (m:Nat) (x:Int) (hl:bR l<=1073741824) (hm:m<=2147483648) (hx:x=m):oK cfg 49 [fL l,vI x] (vI (nD l m)):=
  zMh l (λa ha m x h1 h2=>zXs a m x xK9 h1 h2) m x hl hm hx
def zPh (l:List Bf) (c:C) (p:Bf->Bool) (hl:l.length<=4294967296) (hc:∀x,x∈l->FnPur cfg c [ZA x] (vB (p x))):
    oK cfg 205 [iO l,.c c] (vI (fA p l)):=by
 refine zW func205 O ntmps205 results205 O λz hz=>ol O O<|zF<|oo O O<|qC O pq<|om O<|zS<|zT ⟨[(8,.c _),(0,.c _),(1,.c _),(7,.c _)],[]⟩ (oz [] oH O)<|qG 1 0 O O (Nat) (λk=>[(8,vI k)]) (λk=>[]) (λk=>k<=l.length/\((l.take k).any p=false)) (λk=>l.length-k) ⟨0,⟨zB,O⟩,oz [] oH O⟩ ?_
 rintro k ⟨hk,hp⟩
 refine Y O<|yC O<|zA<|zF<|zK O (λc1=>?_) (λc1=>?_)
 ·try simp only [sx] at c1
  obtain ⟨x,hx⟩:=qX l k zB
  refine zJ<|zF<|zS<|oo O O<|om O<|oo O O<|G O<|G O<|qF O pq zB (oI uC)<|zN He qE O<|zX O (wS O O (hc _ (qD hx)) (oy O))<|zA<|zK O (λc2=>?_) (λc2=>?_)
  ·exact v64
  ·exact j5
 ·exact v33
def zLr (l:List Bf) (c:C) (p:Bf->Bool) (hl:l.length<=4294967296) (hc:∀x,x∈l->FnPur cfg c [ZA x] (vB (p x))):
    oK cfg 165 [iO l,.c c] (vB (l.any p)):=by
 refine zW func165 O ntmps165 results165 O λz hz=>ol O O<|oo O O<|G O<|qK O uB (zPh l c p hl hc) (oy O)<|zX O (wN O O O)<|om O<|zM<|zV O ?_
 rw [zRd]
def vv (x b:Bf):
    oK cfg 166 [ZA x,.c (.iptr b.cells)] (vB (decide (x.Name=b.Name))):=by
 refine zW func166 O ntmps166 results166 O λz hz=>Y O<|oi O λb1=>om O<|Y O<|zC O SG<|zE uB (J 0 O) O<|qS O SG<|zE uB qE O<|wF O<|om O<|zM<|zV O ?_
 exact O
def zMx (l:List Bf) (hl:l.length<=4294967296) (hd:∀b,b∈l->b.Dims.length<=17592186044416):
    oK cfg 105 [iO l] (vI (fF [] l)):=by
 refine zW func105 O ntmps105 results105 O λz hz=>ol O O<|zF<|oo O O<|qC O pq<|om O<|zS<|zT ⟨[(8,.c _),(0,.c _),(7,.c _)],[]⟩ (oz [] oH O)<|qG 1 0 O O (Nat) (λk=>[(8,vI k)]) (λk=>[]) (λk=>k<=l.length/\(fF [] l=fF (l.take k) (l.drop k))) (λk=>l.length-k) ⟨0,⟨zB,O⟩,oz [] oH O⟩ ?_
 rintro k ⟨hk,hp⟩
 refine Y O<|yC O<|zA<|zF<|zK O ?_ ?_<;>intro c1<;>try simp only [sx] at c1
 ·obtain ⟨b,hb⟩:=qX l k zB
  refine zJ<|zF<|zS<|oo O O<|om O<|oo O O<|G O<|qF O pq zB (oI uC)<|zN He qE O<|oM O (qJ nu O pz O) λb1=>ow 0 rm O<|yQ _ (kR 0 O 4 _ PLe.ptr)<|zA<|zF<|zS<|Y O<|qS O SG<|zE uB qE O<|qK O uB (ZX _) (oy O)<|kQ O<|om O<|zK O ?_ ?_<;>intro c2<;>try simp only [sx] at c2
  ·refine ol O O<|zM<|zV O ?_
   rw [SX hb hp (by rw [ut c2];decide),ut c2]
  ·refine oo O O<|G O<|zX O (ZZ O pq O O zB)<|zX O (VJ O O O O O)<|qK O uB (zLr (l.take k) _ (λx=>decide (x.Name=b.Name)) (by rw [ap];omega) (λx _=>FnPur.of_pur (first:=[]) (cap:=[.iptr b.cells]) uB (vv x b))) (oy O)<|om O<|zK O ?_ ?_<;>intro c3<;>try simp only [sx] at c3
   ·refine ol O O<|zM<|zV O ?_
    rw [SX hb hp (by rw [uu c2 c3];decide),uu c2 c3]
   ·refine Y O<|qS O S8<|zN yD qE O<|qK O uB (ZR b.T) (oy O)<|yL O<|om O<|zK O ?_ ?_<;>intro c4<;>try simp only [sx] at c4
    ·refine ol O O<|zM<|zV O ?_
     rw [SX hb hp (by rw [zWr c2 c3 (zNr c4)];decide),zWr c2 c3 (zNr c4)]
    ·refine zJ<|zF<|Y O<|qS O Ta<|zE uB qE O<|qK O uB (y7 b.Dims (hd b (qD hb))) (oy O)<|om O<|oo O O<|yL O<|zA<|zK O ?_ ?_<;>intro c5<;>try simp only [sx] at c5
     ·refine oo O O<|om O<|zM<|zV O ?_
      rw [SX hb hp (by rw [uv c2 c3 (JF c4) c5];exact c5),uv c2 c3 (JF c4) c5]
     ·refine zJ<|Y O<|qS O OF<|zE uB qE O<|yC O<|G O<|oL O (λg14_3=>qO O OF O) O<|oG 41 O (λg14_3=>zH O uB O qE O) O<|oG 42 O (λg14_3=>kE O O O) O<|oN O (λh=>(oY h))<|zA<|zK O ?_ ?_<;>intro c6<;>try simp only [sx] at c6
      ·refine ol O O<|zM<|zV O ?_
       rw [SX hb hp (by rw [uw c2 c3 (JF c4) c5 zB];decide),uw c2 c3 (JF c4) c5 zB]
      ·refine zJ<|zP O<|qH O ⟨zB,zB⟩<|G O<|zA ?_
       refine ⟨k+1,⟨zB,zUt hb hp (JL c2 c3 (JF c4) c5 zB)⟩,zB,oz [] oH O⟩
 ·refine qL<|ol O O<|zM<|zV O ?_
  rw [qAr hp zB]
def IZ (n:Ns) (hn:n.Ok):
    oK cfg 50 [va n] (vI (fF [] n.Bufs)):=by
 refine zW func50 O ntmps50 results50 O ?_
 intro z hz
 have hnb:=hn.bufs
 refine Y O<|oi O λb1=>om O<|zF<|ol O O<|zS<|zT ⟨[(3,.c _),(1,.c _)],[_]⟩ (oz [true] oH O)<|qG 1 0 O O (Nat) (λk=>[(3,vI k)]) (λk=>[]) (λk=>k<=n.Bufs.length/\(fF [] n.Bufs=fF (n.Bufs.take k) (n.Bufs.drop k))) (λk=>n.Bufs.length-k) ⟨0,⟨zB,O⟩,oz [true] oH O⟩ ?_
 rintro k ⟨hk,hp⟩
 refine zF<|oo O O<|zC O rz<|zE uB (J 0 O) O<|qC O pq<|yC O<|zA<|zK O ?_ ?_<;>intro c1<;>try simp only [sx] at c1
 ·obtain ⟨b,hb⟩:=qX n.Bufs k zB
  refine zJ<|zF<|zS<|Y O<|zC O rz<|zE uB (J 0 O) O<|G O<|qF O pq zB (oI uC)<|zN He qE O<|oM O (qJ nu O pz O) λb2=>ow 0 rm O<|zA<|zF<|Y O<|zC O SG<|zE uB (J 0 O) O<|qK O uB (VI _) (oy O)<|kQ O<|zA<|zK O ?_ ?_<;>intro c2<;>try simp only [sx] at c2
  ·refine ol O O<|zM<|zV O ?_
   rw [SX hb hp (by rw [ut c2];decide),ut c2]
  ·refine zJ<|zF<|ol O O<|zS<|zT ⟨[(5,.c _),(1,.c _),(3,.c _),(4,.c _)],[_,_]⟩ (oz [true,true] oH O)<|qG 1 0 O O (Nat) (λj=>[(5,vI j)]) (λj=>[]) (λj=>j<=k/\gB (n.Bufs.take j) b.Name=false) (λj=>k-j) ⟨0,⟨zB,O⟩,oz [true,true] oH O⟩ ?_
   rintro j ⟨hj,hq⟩
   refine zF<|oo O O<|G O<|yC O<|zA<|zK O ?_ ?_<;>intro c3<;>try simp only [sx] at c3
   ·obtain ⟨y,hy⟩:=qX n.Bufs j zB
    refine zJ<|zF<|zS<|zF<|yE 9 mixed uB O O<|ou O (zG O rz O)<|ou O (zH O uB O (J 1 O) O)<|ou O (zQ O O)<|ou O (qI O pq O O zB (oI uC))<|ou O (qO O SG O)<|ou O (zH O uB O qE O)<|ou O (zG O SG O)<|ou O (zH O uB O (J 0 O) O)<|ou O (VL O O O)<|yY<|zA<|zK O ?_ ?_<;>intro c4<;>try simp only [sx] at c4
    ·refine ol O O<|zM<|zV O ?_
     have h8:=PK hy (show j<k by omega) c4
     rw [SX hb hp (by rw [uu c2 h8];decide),uu c2 h8]
    ·refine zJ<|zP O<|G O<|qH O ⟨zB,zB⟩<|G O<|zA ?_
     refine ⟨j+1,⟨zB,zTo hy hq c4⟩,zB,oz [true,true] oH O⟩
   ·rw [show j=k by omega] at hq
    refine qL<|zF<|Y O<|zC O S8<|zN yD (J 0 O) O<|qK O uB (zIr b.T) (oy O)<|kQ O<|zA<|zK O ?_ ?_<;>intro c5<;>try simp only [sx] at c5
    ·refine ol O O<|zM<|zV O ?_
     rw [SX hb hp (by rw [zWr c2 hq c5];decide),zWr c2 hq c5]
    ·refine zJ<|zF<|Y O<|zC O Ta<|zE uB (J 0 O) O<|qK O uB (yx b.Dims (hn.dims b (qD hb))) (oy O)<|om O<|oo O O<|yL O<|zA<|zK O ?_ ?_<;>intro c6<;>try simp only [sx] at c6
     ·refine oo O O<|om O<|zM<|zV O ?_
      rw [SX hb hp (by rw [uv c2 hq c5 c6];exact c6),uv c2 hq c5 c6]
     ·refine zJ<|Y O<|zC O OF<|zE uB (J 0 O) O<|yC O<|G O<|oL O (λg17_3=>zG O OF O) O<|oG 51 O (λg17_3=>zH O uB O (J 0 O) O) O<|oG 52 O (λg17_3=>kE O O O) O<|oN O (λh=>(oY h))<|zA<|zK O ?_ ?_<;>intro c7<;>try simp only [sx] at c7
      ·refine ol O O<|zM<|zV O ?_
       rw [SX hb hp (by rw [uw c2 hq c5 c6 zB];decide),uw c2 hq c5 c6 zB]
      ·refine zJ<|zP O<|G O<|qH O ⟨zB,zB⟩<|G O<|zA ?_
       refine ⟨k+1,⟨zB,zUt hb hp (JL c2 hq c5 c6 zB)⟩,zB,oz [false,true] oH O⟩
 ·refine qL<|ol O O<|zM<|zV O ?_
  rw [qAr hp zB]
end Go.W
end
section
set_option maxRecDepth 10000
namespace Go.W
open Go Go.Eng Go.Proofs Go.L41 Go.Br Tryz
attribute [local irreducible] oU oX TD gF
abbrev sd (b:Nat) (svL svS svP:Value) (n:Ns) (U S:List nq) (W:List Int):List E:=
  [.row b 172 [.sl 8 (n.Bufs.map Bf.cells),.sl 20 (n.Body.map St.cells),.lit svL,.lit svS,.lit svP],.vec svL 9 1 (U.map λs=>[cS s]),.vec svS 9 1 (S.map λs=>[cS s]),.vec svP 3 1 (W.map λi=>[cI i])]
abbrev vP (b:Nat):V:=.c (.lit (.pointer (some ⟨b,0,none⟩)))
def ro:nN prog 41=some 2:=by kernel_rfl
def uq:nN prog 64=some 20:=by kernel_rfl
def tm:bH prog 41 1=some (1,33):=by kernel_rfl
def AG:bH prog 64 0=some (0,3):=by kernel_rfl
def AF:bH prog 64 1=some (1,9):=by kernel_rfl
def Td:bH prog 64 2=some (2,3):=by kernel_rfl
def Xl:bH prog 64 3=some (3,3):=by kernel_rfl
def Tc:bH prog 64 4=some (4,3):=by kernel_rfl
def Tb:bH prog 64 5=some (5,52):=by kernel_rfl
def D4:bH prog 64 6=some (6,62):=by kernel_rfl
def zTp:bH prog 172 0=some (0,41):=by kernel_rfl
def CN:bH prog 172 1=some (2,25):=by kernel_rfl
def Xg:bH prog 172 2=some (3,25):=by kernel_rfl
def Xc:bH prog 172 3=some (4,46):=by kernel_rfl
def pl172:fD prog 172=some [(0,2),(2,1),(3,1),(4,1)]:=by kernel_rfl
def Vg:(prog.info? 25).map (·.size)=some 1:=by kernel_rfl
def uo:(prog.info? 64).map (·.size)=some 20:=by kernel_rfl
def pp:dZ prog 64=some [pn,Hj,pn,pn,pn,qn,pn,Hj,pn,pn,pn,pn,pn,pn,pn,pn,qn,qn,qn,qn]:=by kernel_rfl
def zr172:dZ prog 172=some [qn,qn,qn,qn,qn]:=by kernel_rfl
def zLq (l:List Mono) (c:C) (p:Mono->Bool) (μ:List E) (hl:l.length<=4294967296) (hc:∀x,x∈l->FnCon cfg c [tG x] μ λr μ'=>r=vB (p x)/\μ'=μ):
    Con cfg 315 [cG l,.c c] μ λr μ'=>r=vI (fA p l)/\μ'=μ:=by
 refine zW func315 O ntmps315 results315 O λz hz=>ol O O<|zF<|oo O O<|qC O N<|om O<|zS<|zT ⟨[(8,.c _),(0,.c _),(1,.c _),(7,.c _)],_⟩ (Weak.regs oH)<|zHw 1 O (Nat) (λk=>[(8,vI k)]) (λk=>μ) (λk=>k<=l.length/\((l.take k).any p=false)) (λk=>l.length-k) ⟨0,⟨zB,O⟩,Weak.regs oH⟩ ?_
 rintro k ⟨hk,hp⟩
 refine Y O<|yC O<|zA<|zF<|zK O ?_ ?_<;>intro c1<;>try simp only [sx] at c1
 ·obtain ⟨x,hx⟩:=qX l k zB
  refine zJ<|zF<|zS<|oo O O<|om O<|oo O O<|G O<|G O<|qF O N zB (oI uC)<|zN Eb qE O<|qB O O (VC O O (hc _ (qD hx)) (oy O)) ?_
  exact v19
 ·refine qL<|ol O O<|zM<|zV O ?_
  exact ⟨by rw [zDz xK4],O⟩
def zJf (l:List Mono) (c:C) (p:Mono->Bool) (μ:List E) (hl:l.length<=4294967296) (hc:∀x,x∈l->FnCon cfg c [tG x] μ λr μ'=>r=vB (p x)/\μ'=μ):
    Con cfg 300 [cG l,.c c] μ λr μ'=>r=vB (l.any p)/\μ'=μ:=by
 refine zW func300 O ntmps300 results300 O λz hz=>ol O O<|oo O O<|G O<|qB O O (Sz O uB (zLq l c p μ hl hc) (oy O)) ?_
 rintro _ _ ⟨rfl,rfl⟩
 refine zX O (wN O O O)<|om O<|zM<|zV O ?_
 exact ⟨by rw [zRd],O⟩
def zOl (l:List Lf) (c:C) (p:Lf->Bool) (μ:List E) (hl:l.length<=4294967296) (hc:∀x,x∈l->FnCon cfg c [dF x] μ λr μ'=>r=vB (p x)/\μ'=μ):
    Con cfg 302 [mL l,.c c] μ λr μ'=>r=vI (fA p l)/\μ'=μ:=by
 refine zW func302 O ntmps302 results302 O λz hz=>ol O O<|zF<|oo O O<|qC O oS<|om O<|zS<|zT ⟨[(8,.c _),(0,.c _),(1,.c _),(7,.c _)],_⟩ (Weak.regs oH)<|zHw 1 O (Nat) (λk=>[(8,vI k)]) (λk=>μ) (λk=>k<=l.length/\((l.take k).any p=false)) (λk=>l.length-k) ⟨0,⟨zB,O⟩,Weak.regs oH⟩ ?_
 rintro k ⟨hk,hp⟩
 refine Y O<|yC O<|zA<|zF<|zK O ?_ ?_<;>intro c1<;>try simp only [sx] at c1
 ·obtain ⟨x,hx⟩:=qX l k zB
  refine zJ<|zF<|zS<|oo O O<|om O<|oo O O<|G O<|G O<|qF O oS zB (oI uC)<|zN yV qE O<|qB O O (VC O O (hc _ (qD hx)) (oy O)) ?_
  exact v19
 ·refine qL<|ol O O<|zM<|zV O ?_
  exact ⟨by rw [zDz xK4],O⟩
def zKi (l:List Lf) (c:C) (p:Lf->Bool) (μ:List E) (hl:l.length<=4294967296) (hc:∀x,x∈l->FnCon cfg c [dF x] μ λr μ'=>r=vB (p x)/\μ'=μ):
    Con cfg 280 [mL l,.c c] μ λr μ'=>r=vB (l.any p)/\μ'=μ:=by
 refine zW func280 O ntmps280 results280 O λz hz=>ol O O<|oo O O<|G O<|qB O O (Sz O uB (zOl l c p μ hl hc) (oy O)) ?_
 rintro _ _ ⟨rfl,rfl⟩
 refine zX O (wN O O O)<|om O<|zM<|zV O ?_
 exact ⟨by rw [zRd],O⟩
def Mx (b:Nat) (svL svS svP:Value) (n:Ns) (U S:List nq) (W:List Int) (m:Mono) (hS:S.length<=1000000):
    Con cfg 301 [tG m,.c (.iptr [.lit (.pointer (some ⟨b,0,none⟩))])] (sd b svL svS svP n U S W) λr μ'=>r=vB (!bQ S m.Name)/\μ'=sd b svL svS svP n U S W:=by
 refine zW func301 O ntmps301 results301 O λz hz=>Y O<|oi O λb1=>om O<|zF<|yE 6 mixed uB O O<|ou O (zH O uB O qE O)<|ou O (qV O O)<|ou O (zG O Xg O)<|ou O (zH O uB O (J 1 O) O)<|ou O (zG O wH O)<|ou O (zH O uB O (J 0 O) O)<|yY<|zX O (ZT 3 O uB O (zBi S m.Name zB) O ⟨.inl ⟨O,O⟩,.inr ⟨zD,O⟩,T⟩)<|kQ O<|om O<|zT _ (Weak.mem [false,true,true,true,true] O)<|zM<|zV O ?_
 exact ⟨O,O⟩
def zTx (b:Nat) (svL svS svP:Value) (n:Ns) (U S:List nq) (W:List Int) (l:Lf) (hS:S.length<=1000000) (hl:l.L.length<=4294967296):
    Con cfg 279 [vP b,dF l] (sd b svL svS svP n U S W) λr μ'=>r=vB (nU S l)/\μ'=sd b svL svS svP n U S W:=by
 refine zW func279 O ntmps279 results279 O λz hz=>Y O<|oi O λb1=>yQ _ (kR 0 O 2 _ PLe.ptr)<|oi O λb2=>om O<|Y O<|zC O kA<|zE uB (J 0 O) O<|zX O (VJ O O O O O)<|zX O (yW [1,1,1,1] O uB (zJf l.L _ (λm=> !bQ S m.Name) (sd b svL svS svP n U S W) hl (λm _=>FnCon.of_con (first:=[]) (cap:=[.iptr [.lit (.pointer (some ⟨b,0,none⟩))]]) uB (Mx b svL svS svP n U S W m hS))) (oy O) O)<|kQ O<|om O<|zT _ (Weak.mem [false,true,true,true,true] O)<|zM<|zV O ?_
 exact ⟨by rw [zMo];rfl,O⟩
def YR (b:Nat) (svL svS svP:Value) (n:Ns) (U S:List nq) (W:List Int) (l:Lf) (hS:S.length<=1000000) (hl:l.L.length<=4294967296):
    Con cfg 281 [dF l,.c (.iptr [.lit (.pointer (some ⟨b,0,none⟩))])] (sd b svL svS svP n U S W) λr μ'=>r=vB (!nU S l)/\μ'=sd b svL svS svP n U S W:=by
 refine zW func281 O ntmps281 results281 O λz hz=>Y O<|oi O λb1=>om O<|Y O<|zE uB qE O<|zN yV (J 0 O) O<|zX O (yW [1,1,1,1] O uB (zTx b svL svS svP n U S W l hS hl) (oy O) O)<|kQ O<|om O<|zT _ (Weak.mem [false,true,true,true,true] O)<|zM<|zV O ?_
 exact ⟨O,O⟩
def Tt (b:Nat) (svL svS svP:Value) (n:Ns) (U S:List nq) (W:List Int) (e:Ex) (hn:n.Ok) (hS:S.length<=1000000) (he:e.wt<=1073741824):
    Con cfg 248 [vP b,vE e] (sd b svL svS svP n U S W) λr μ'=>r=vI (lS n.Bufs S e)/\μ'=sd b svL svS svP n U S W:=by
 refine zW func248 O ntmps248 results248 O ?_
 intro z hz
 obtain ⟨hL,hI,hA⟩:=e.parts he
 have hwt:=Ex.wt_eq e
 refine Y O<|oi O λb1=>yQ _ (kR 0 O 2 _ PLe.ptr)<|oi O λb2=>om O<|Y O<|zE uB qE O<|zC O Ae<|zN yV (J 0 O) O<|zX O (yW [1,1,1,1] O uB (zTx b svL svS svP n U S W e.Lin hS zB) (oy O) O)<|om O<|zF<|Y O<|zC O kX<|zE uB (J 0 O) O<|qC O oO<|om O<|zS<|zT ⟨[(20,.c _),(5,.c _),(2,.c _),(3,.c _),(18,.c _),(19,.c _)],[_,_,_,_,_]⟩ (oz [true,true,true,true,true] oH O) ?_
 refine qG 2 0 O O (Nat) (λk=>[(20,vI k),(5,vB (nU S e.Lin&&(e.Idx.take k).all (eR S)))]) (λk=>[]) (λk=>k<=e.Idx.length) (λk=>e.Idx.length-k) ⟨0,zB,oz [true,true,true,true,true] ⟨zD,VLe.of_eq (ai vB uF),zD,zD,zD,zD,T⟩ O⟩ ?_
 rintro k hk
 refine Y O<|yC O<|zA<|zF<|zK O ?_ ?_<;>intro c1<;>try simp only [sx] at c1
 ·obtain ⟨x,hx⟩:=qX e.Idx k zB
  refine zJ<|zF<|zS<|Y O<|qF O oO zB (oI uC)<|zN vf qE O<|oM O (qJ nv O qk O) λb3=>ow 0 sh O<|zA<|zP O<|G O<|G O<|oL O (λg5_1=>zH O uB O qE O) O<|oL O (λg5_1=>zG O vc O) O<|oG 27 O (λg5_1=>qA O yV O (J 0 O) O) O<|oV [(26,_),(28,_)] O oP ⟨O,O,O,O,T⟩ (λg5_1=>yW [2,2,2,2] O uB (zTx b svL svS svP n U S W x.Lin hS (by have:=Ex.idx_wt (qD hx);omega)) (oy O) O) O<|kF O (λh=>h)<|G O<|oL O (λg5_7=>zG O rt O) O<|oG 32 O (λg5_7=>zH O uB O (J 0 O) O) O<|oL O (λg5_7=>VJ O O O O O) O<|oV [(33,_),(34,_)] O oP ⟨O,O,O,O,T⟩ (λg5_7=>yW [2,2,2,2] O uB (zKi x.At _ (λl=> !nU S l) (sd b svL svS svP n U S W) (by have:=Ex.idx_wt (qD hx);omega) (λl hl=>FnCon.of_con (first:=[]) (cap:=[.iptr [.lit (.pointer (some ⟨b,0,none⟩))]]) uB (YR b svL svS svP n U S W l hS (by have:=Ex.idx_wt (qD hx);have:=Sr hl;omega)))) (oy O) O) O<|oG 35 O (λg5_7=>wM O O) O<|kF O (λh=>h)<|om O<|zP O<|qH O ⟨zB,zB⟩<|G O<|zA ?_
  refine ⟨k+1,zB,zB,oz [false,true,true,true,true,true] ⟨zD,VLe.of_eq (ai vB (by rw [zMo];exact I9 hx)),zD,zD,zD,zD,T⟩ O⟩
 ·rw [yG (l:=e.Idx) (k:=k) zB]
  refine qL<|zF<|oo O O<|kQ O<|zA<|zK O (λc2=>?_) (λc2=>?_)
  ·have h9:nE S e=false:=(aA _).mp c2
   refine ol O O<|zT _ (Weak.mem [false,true,true,true,true] O)<|zM<|zV O ?_
   exact ⟨by rw [K1 h9],O⟩
  ·have h9:nE S e=true:=(ey _).mp c2
   refine zJ<|zF<|Y O<|zC O wJ<|zE uB (J 0 O) O<|yL O<|zA<|zK O ?_ ?_<;>intro c3<;>try simp only [sx] at c3
   ·refine ol O O<|zT _ (Weak.mem [false,true,true,true,true] O)<|zM<|zV O ?_
    exact ⟨by rw [K3 h9 c3],O⟩
   ·refine zJ<|zF<|yN 12 1 [⟨0,.q []⟩,⟨1,.q []⟩,⟨2,.q []⟩,⟨3,.q [2]⟩,⟨4,.q []⟩,⟨5,.q [1]⟩,⟨6,.q []⟩,⟨7,.q []⟩,⟨8,.q []⟩,⟨9,.q []⟩,⟨10,.e 0 []⟩,⟨11,.e 0 []⟩] mixed uB uB O O O<|zR O<|zR O<|zR O<|zR O<|zR O<|zR O<|zR O<|zR O<|zR O<|zR O<|zR O<|zR O<|wG<|ot O (zH O uB O qE O)<|ot O (qV O O)<|ot O (zG O zTp O)<|ot O (qA O ro O (J 0 O) O)<|ot O (zG O Hc O)<|ot O (zH O uB O (J 0 O) O)<|ot O (qP O uB (zCg n e.Name hn) (oy O))<|ot O (yS O O)<|ot O (kK O O O)<|ot O (kI O O O)<|sk O O uA O O (qJ nu O pz O) ?_
    rintro _ _ ⟨b4,rfl,rfl⟩
    refine ⟨_,O,?_⟩
    refine uh O O uA O O (yP O rm O O O (tc 0 O O)) ?_
    rintro _ _ ⟨rfl,rfl⟩
    refine ⟨_,O,?_⟩
    refine wE O<|om O<|zF<|oo O O<|kQ O<|zA<|zK O ?_ ?_<;>intro c4<;>try simp only [sx] at c4
    ·refine ol O O<|zT _ (Weak.mem [false,false,true,true,true,true] O)<|zM<|zV O ?_
     exact ⟨by rw [K2 h9 zB c4],O⟩
    ·refine zJ<|zF<|Y O<|zC O Ta<|zE uB (J 0 O) O<|qC O pf<|zC O kX<|zE uB (J 1 O) O<|qC O oO<|yL O<|zA<|zK O ?_ ?_<;>intro c5<;>try simp only [sx] at c5
     ·refine ol O O<|zT _ (Weak.mem [false,false,true,true,true,true] O)<|zM<|zV O ?_
      exact ⟨by rw [K4 h9 zB c4 zB],O⟩
     ·refine zJ<|zF<|Y O<|zC O kX<|zE uB (J 1 O) O<|qC O oO<|om O<|zS<|zT ⟨[(66,.c _),(2,.c _),(64,.c _),(65,.c _)],[_,_,_,_]⟩ (oz [false,false,true,true,true,true] oH O)<|qG 1 0 O O (Nat) (λj=>[(66,vI j)]) (λj=>[]) (λj=>j<=e.Idx.length/\(pW n.Bufs e.Idx=pW n.Bufs (e.Idx.drop j))) (λj=>e.Idx.length-j) ⟨0,⟨zB,O⟩,oz [true,true,true,true] oH O⟩ ?_
      rintro j ⟨hk,hq⟩
      refine Y O<|yC O<|zA<|zF<|zK O ?_ ?_<;>intro c6<;>try simp only [sx] at c6
      ·obtain ⟨y,hy⟩:=qX e.Idx j zB
       refine zJ<|zF<|zS<|Y O<|qF O oO zB (oI uC)<|zN vf qE O<|oM O (qJ nv O qk O) λb5=>ow 0 sh O<|zA<|zF<|Y O<|zC O AE<|zE uB (J 0 O) O<|wF O<|zA<|zK O ?_ ?_<;>intro c7<;>try simp only [sx] at c7
       ·refine qL<|zP O<|qH O ⟨zB,zB⟩<|G O<|zA ?_
        refine ⟨j+1,⟨zB,hq.trans (zOc hy (by first|exact uR c7|exact zVz c7 c8 zB zB))⟩,zB,oz [false,true,true,true,true] oH O⟩
       ·refine zJ<|zF<|yN 12 1 [⟨0,.q []⟩,⟨1,.q []⟩,⟨2,.q []⟩,⟨3,.q [2]⟩,⟨4,.q []⟩,⟨5,.q [1]⟩,⟨6,.q []⟩,⟨7,.q []⟩,⟨8,.q []⟩,⟨9,.q []⟩,⟨10,.e 0 []⟩,⟨11,.e 0 []⟩] mixed uB uB O O O<|zR O<|zR O<|zR O<|zR O<|zR O<|zR O<|zR O<|zR O<|zR O<|zR O<|zR O<|zR O<|wG<|ot O (zH O uB O qE O)<|ot O (qV O O)<|ot O (zG O zTp O)<|ot O (qA O ro O (J 0 O) O)<|ot O (zG O AE O)<|ot O (zH O uB O (J 0 O) O)<|ot O (qP O uB (zCg n y.From hn) (oy O))<|ot O (yS O O)<|ot O (kK O O O)<|ot O (kI O O O)<|sk O O uA O O (qJ nu O pz O) ?_
        rintro _ _ ⟨b6,rfl,rfl⟩
        refine ⟨_,O,?_⟩
        refine uh O O uA O O (yP O rm O O O (tc 0 O O)) ?_
        rintro _ _ ⟨rfl,rfl⟩
        refine ⟨_,O,?_⟩
        refine wE O<|om O<|zS<|oo O O<|kQ O<|om O<|zK O ?_ ?_<;>intro c8<;>try simp only [sx] at c8
        ·refine ol O O<|zT _ (Weak.mem [false,false,true,true,true,true] O)<|zM<|zV O ?_
         exact ⟨by rw [Xd h9 zB c4 zB,hq,zOb hy (by rw [uS c7 c8];decide),uS c7 c8],O⟩
        ·refine Y O<|zC O S8<|zC O Hd<|zE uB (J 0 O) O<|yL O<|om O<|zK O ?_ ?_<;>intro c9<;>try simp only [sx] at c9
         ·refine ol O O<|zT _ (Weak.mem [false,false,true,true,true,true] O)<|zM<|zV O ?_
          exact ⟨by rw [Xd h9 zB c4 zB,hq,zOb hy (by rw [zWb c7 c8 c9];decide),zWb c7 c8 c9],O⟩
         ·refine Y O<|zC O Ta<|zE uB (J 0 O) O<|qC O pf<|zC O rt<|zE uB (J 1 O) O<|qC O oS<|yL O<|om O<|zK O ?_ ?_<;>intro c10<;>try simp only [sx] at c10
          ·refine ol O O<|zT _ (Weak.mem [false,false,true,true,true,true] O)<|zM<|zV O ?_
           exact ⟨by rw [Xd h9 zB c4 zB,hq,zOb hy (by rw [zWa c7 c8 c9 zB];decide),zWa c7 c8 c9 zB],O⟩
          ·refine zJ<|zP O<|qH O ⟨zB,zB⟩<|G O<|zA ?_
           refine ⟨j+1,⟨zB,hq.trans (zOc hy (by first|exact uR c7|exact zVz c7 c8 zB zB))⟩,zB,oz [false,false,true,true,true,true] oH O⟩
      ·refine qL<|ol O O<|zM<|zV O ?_
       exact ⟨by rw [Xd h9 zB c4 zB,hq,kN zB];rfl,O⟩
def vy (b:Nat) (svL svS svP:Value) (n:Ns) (U S:List nq) (W:List Int) (hn:n.Ok) (e:Ex) (ih:∀a,a∈e.Args->fJ a=0->a.wt<=1073741824->Con cfg 249 [vP b,vE a] (sd b svL svS svP n U S W) λr μ'=>r=.tup [rq (bP (qx n.Bufs) a).1,vI (bP (qx n.Bufs) a).2]/\μ'=sd b svL svS svP n U S W) (hpart:fJ e=0) (he:e.wt<=1073741824):
    Con cfg 249 [vP b,vE e] (sd b svL svS svP n U S W) λr μ'=>r=.tup [rq (bP (qx n.Bufs) e).1,vI (bP (qx n.Bufs) e).2]/\μ'=sd b svL svS svP n U S W:=by
 refine Con.drop<|zW func249 O ntmps249 results249 O ?_
 intro z hz
 obtain ⟨hLl,hIl,hAl⟩:=e.parts he
 have hwt:=Ex.wt_eq e
 refine Y O<|oi O λb1=>oM O (yA O v) λb2=>om O<|oo O O<|yQ _ (kD 56 5)<|zA<|zF<|Y O<|zC O rn<|zE uB (J 2 O) O<|qC O pa<|om O<|zS<|zT ⟨[(16,.c _),(6,.c _),(0,.c _),(3,.c _),(4,.c _),(14,.c _),(15,.c _)],[_,_,_,_,_,_,_]⟩ (oz [true,true,true,true,true,true,true] oH O)<|qG 2 1 O O (Nat×Value) (λ⟨k,sv⟩=>[(16,vI k),(6,.c (.lit sv))]) (λ⟨k,sv⟩=>[E.vec sv 56 5 ((bG (qx n.Bufs) (e.Args.take k)).1.map zl)]) (λ⟨k,sv⟩=>k<=e.Args.length/\((bG (qx n.Bufs) (e.Args.take k)).2=0)) (λ⟨k,sv⟩=>e.Args.length-k) ⟨⟨0,(.slice none 0 0)⟩,⟨zB,O⟩,oz [true,true,true,true,true,true,true] oH O⟩ ?_
 rintro ⟨k,sv⟩ ⟨hk,hp⟩
 show oU _ _ _ _ _ ⟨[(16,vI k),(6,.c (.lit sv))]++_,[E.vec sv 56 5 ((bG (qx n.Bufs) (e.Args.take k)).1.map zl)]++_⟩
 refine Y O<|yC O<|zA<|zF<|zK O ?_ ?_<;>intro c1<;>try simp only [sx] at c1
 ·obtain ⟨x,hx⟩:=qX e.Args k zB
  have hll:=SY _ _ hp
  refine zJ<|zF<|zS<|Y O<|qF O pa zB (Aa uC)<|zN yX qE O<|oM O (qJ nt O pd O) λb4=>ow 0 ph O<|zA<|oo O O<|zN yX (J 0 O) O<|zX O (yW [4,4,4,4] O uB (ih x (qD hx) (zJq hpart (qD hx)) (by have:=Ex.arg_wt (qD hx);omega)) (oy O) O)<|qW O<|kG O<|yF O<|oM O (yA O v) λb5=>ow 0 D O<|om O<|zF<|oo O O<|yL O<|zA<|zK O ?_ ?_<;>intro c2<;>try simp only [sx] at c2
  ·refine Y O<|zN yD (J 0 O) O<|G O<|ow 3 D O<|om O<|zT _ (Weak.mem [false,false,false,true,false,true,true,true,true] O)<|zM<|oJ (zY yD O (J 0 O) O) (ox O) ?_
   exact ⟨by rw [zVu hx hp c2,Iz c2];rfl,[_],O⟩
  ·refine zJ<|zP O<|G O<|zN yD (J 0 O) O<|yT O wR v<|oM O (qZ 2 O wR O O O xJ1 xJ1) λsv6=>om O<|zP O<|qH O ⟨zB,zB⟩<|G O<|zA ?_
   refine ⟨⟨k+1,sv6⟩,⟨zB,by rw [WW hx hp c2]⟩,(by show e.Args.length-(k+1)<e.Args.length-k;omega),oz [false,false,true,true,true,true,true,true,true] oH (by show _=[E.vec sv6 _ 5 ((bG (qx n.Bufs) (e.Args.take (k+1))).1.map zl)]++_;rw [WW hx hp c2];simp only [ah];rfl)⟩
 ·have hll:=SY _ _ hp
  have hta:e.Args.take k=e.Args:=yG zB
  rw [hta] at hll
  have hg:∀i,i<e.Args.length->((bG (qx n.Bufs) (e.Args.take k)).1.map zl)[i]? =some (zl (bU (bG (qx n.Bufs) (e.Args.take k)).1 i)):=λi hi=>zIt (by rw [hta];omega)
  have hgn:∀i:Nat,1<=i->i<=e.Args.length->∀j:Int,j=(((bG (qx n.Bufs) (e.Args.take k)).1.length:Int)-i)->((bG (qx n.Bufs) (e.Args.take k)).1.map zl)[j.toNat]? =some (zl (bU (bG (qx n.Bufs) (e.Args.take k)).1 ((bG (qx n.Bufs) (e.Args.take k)).1.length-i))):=λi h1 h2 j hj=>by rw [hta] at *;rw [show j.toNat=(bG (qx n.Bufs) e.Args).1.length-i by omega];exact zIt zB
  have hT:bP (qx n.Bufs) e=qx n.Bufs e (bG (qx n.Bufs) (e.Args.take k)).1:=zVt hta hp
  have hlk:(bG (qx n.Bufs) (e.Args.take k)).1.length=e.Args.length:=by rw [hta];exact hll
  refine qL<|zF<|Y O<|zC O wJ<|zE uB (J 2 O) O<|zA<|zS<|zF<|Y O<|yR O<|om O<|qQ O (λc3=>?_) (λc3=>?_)
  ·refine zJ<|zK O ?_ ?_<;>intro c4<;>try simp only [sx] at c4
   ·refine Y O<|zC O D9<|zN yD (J 2 O) O<|ow 1 D O<|om O<|zT _ (Weak.mem [false,true,false,true,true,true,true] O)<|zM<|oJ (zY yD O (J 0 O) O) (ox O) ?_
    exact w6
   ·refine Y O<|yR O<|om O<|qQ O (λc5=>?_) (λc5=>?_)
    ·exact r4
    ·refine Y O<|yR O<|om O<|qQ O (λc6=>?_) (λc6=>?_)
     ·refine zF<|yN 12 1 [⟨0,.q []⟩,⟨1,.q []⟩,⟨2,.q []⟩,⟨3,.q [4]⟩,⟨4,.q []⟩,⟨5,.q [3]⟩,⟨6,.q []⟩,⟨7,.q []⟩,⟨8,.q []⟩,⟨9,.q []⟩,⟨10,.e 0 []⟩,⟨11,.e 0 []⟩] mixed uB uB O O O<|zR O<|zR O<|zR O<|zR O<|zR O<|zR O<|zR O<|zR O<|zR O<|zR O<|zR O<|zR O<|wG<|ot O (zQ O O)<|ot O (qV O O)<|ot O (zG O zTp O)<|ot O (qA O ro O (J 0 O) O)<|ot O (zG O Hc O)<|ot O (zH O uB O (J 0 O) O)<|ot O (qP O uB (zCg n e.Name hn) (oy O))<|ot O (yS O O)<|ot O (kK O O O)<|ot O (kI O O O)<|sk O O uA O O (qJ nu O pz O) ?_
      rintro _ _ ⟨b7,rfl,rfl⟩
      exact v30
     ·exact o7
  ·refine zP O<|yR O<|om O<|qQ O (λc4=>?_) (λc4=>?_)
   ·refine Y O<|zC O D9<|zN yD (J 2 O) O<|ow 1 D O<|om O<|zT _ (Weak.mem [false,true,false,true,true,true,true] O)<|zM<|oJ (zY yD O (J 0 O) O) (ox O) ?_
    exact w6
   ·refine Y O<|yR O<|om O<|qQ O (λc5=>?_) (λc5=>?_)
    ·exact r4
    ·refine Y O<|yR O<|om O<|qQ O (λc6=>?_) (λc6=>?_)
     ·refine zF<|yN 12 1 [⟨0,.q []⟩,⟨1,.q []⟩,⟨2,.q []⟩,⟨3,.q [4]⟩,⟨4,.q []⟩,⟨5,.q [3]⟩,⟨6,.q []⟩,⟨7,.q []⟩,⟨8,.q []⟩,⟨9,.q []⟩,⟨10,.e 0 []⟩,⟨11,.e 0 []⟩] mixed uB uB O O O<|zR O<|zR O<|zR O<|zR O<|zR O<|zR O<|zR O<|zR O<|zR O<|zR O<|zR O<|zR O<|wG<|ot O (zQ O O)<|ot O (qV O O)<|ot O (zG O zTp O)<|ot O (qA O ro O (J 0 O) O)<|ot O (zG O Hc O)<|ot O (zH O uB O (J 0 O) O)<|ot O (qP O uB (zCg n e.Name hn) (oy O))<|ot O (yS O O)<|ot O (kK O O O)<|ot O (kI O O O)<|sk O O uA O O (qJ nu O pz O) ?_
      rintro _ _ ⟨b8,rfl,rfl⟩
      exact v30
     ·exact o7
def Ma (b:Nat) (svL svS svP:Value) (n:Ns) (U S:List nq) (W:List Int)  (e:Ex) (hn:n.Ok) (hpart:fJ e=0) (he:e.wt<=1073741824):Con cfg 249 [vP b,vE e] (sd b svL svS svP n U S W) λr μ'=>r=.tup [rq (bP (qx n.Bufs) e).1,vI (bP (qx n.Bufs) e).2]/\μ'=sd b svL svS svP n U S W:=by
  induction e using Ex.ind with
  |_ e ih=>exact vy b svL svS svP n U S W hn e (λa ha h1 h2=>ih a ha h1 h2) hpart he
def zLd (b:Nat) (svL svS svP:Value) (n:Ns) (U S:List nq) (W:List Int) (e:Ex) (hn:n.Ok) (hS:S.length<=1000000) (he:e.wt<=1000000000):
    Con cfg 210 [vP b,vE e] (sd b svL svS svP n U S W) λr μ'=>r=.tup [rq (dS n.Bufs S e).1,vI (dS n.Bufs S e).2]/\μ'=sd b svL svS svP n U S W:=by
 refine Con.drop<|zW func210 O ntmps210 results210 O λz hz=>Y O<|oi O λb1=>yQ _ (kR 0 O 2 _ PLe.ptr)<|oi O λb2=>oM O (yA O v) λb3=>oM O (yA O zr34) λb4=>zA<|zF<|Y O<|zN yX (J 2 O) O<|qK O uB (zRi e zB) (oy O)<|om O<|oo O O<|yL O<|zA<|zK O ?_ ?_<;>intro c1<;>try simp only [sx] at c1
 ·refine Y O<|yI O v pr<|G O<|ow 1 D O<|ow 0 th O<|zA<|zT _ (Weak.mem [true,true,false,true,true,true,true] O)<|zM<|oJ (zY yD O (J 1 O) O) (LR uB O (J 0 O) O) ?_
  exact ⟨by rw [CH c1];rfl,[_,_],O⟩
 ·refine zJ<|zF<|Y O<|zN yX (J 2 O) O<|qK O uB (zZw _) (oy O)<|zA<|zS<|zLf (ps:=[17]) hz 2 O O uB (zXa e zB) (λ_ _=>O) O (λpre=>dU n.Bufs S pre=0) (λpre=>[E.row b4 34 [cI 0],E.row b3 56 [cI 0,cI 0,cI 0,cI 0,cI 0]]) (λc pre=>(c=.ret/\¬dU n.Bufs S pre=0)) (λc pre=>[E.row b4 34 [cI (dU n.Bufs S pre)],E.row b3 56 [cI 0,cI 0,cI 0,cI 0,cI 0]]) ⟨O,O⟩ ?_ ?_ ?_ ?_
  ·intro pre x suf hxs hi z hz
   have hxw:x.wt<=e.wt:=zId e x (by rw [hxs];simp)
   refine zP O<|oM O (qJ nt O pd O) λb5=>ow 0 ph O<|zA ?_
   intro z hz
   refine zS<|Y O<|zE uB qE O<|zN yX (J 0 O) O<|zX O (yW [4,4,4,4] O uB (Tt b svL svS svP n U S W x hn hS zB) (oy O) O)<|om O<|oo O O<|yL O<|zA<|zK O ?_ ?_<;>intro c2<;>try simp only [sx] at c2
   ·refine Y O<|yI O v pr<|G O<|ow 2 D O<|ow 1 th O<|zA<|zM ?_
    exact W7 (τ:=⟨[],_⟩) (oz [false,true,true,true,true,true,true,true] T O) ⟨⟨O,by rw [zTa hi];exact c2⟩,(by dsimp only;rw [zTa hi];rfl)⟩
   ·refine zJ ?_
    exact W7 (τ:=⟨[],_⟩) (oz [false,true,true,true,true,true,true,true] T O) ⟨(by dsimp only;rw [zTa hi];exact c2),O⟩
  ·intro hd
   refine Y O<|zE uB qE O<|zN yX (J 2 O) O<|zX O (yW [3,3,3,3] O uB (Ma b svL svS svP n U S W e hn (VG c1) zB) (oy O) O)<|kG O<|yF O<|ow 1 D O<|ow 0 th O<|zA<|zT _ (Weak.mem [true,true,false,true,true,true,true] O)<|zM<|oJ (zY yD O (J 1 O) O) (LR uB O (J 0 O) O) ?_
   exact ⟨by rw [CJ c1 hd];rfl,[_,_],O⟩
  ·rintro pre x suf hxs hx
   rcases hx with ⟨hc,hx⟩
   clear hc
   repeat (first|refine zXf ?_|refine zUa ?_)
   refine oJ (zY yD O (J 1 O) O) (LR uB O (J 0 O) O) ?_
   exact ⟨by rw [CI c1 (by rw [hxs,yj hx];exact hx),hxs,yj (suf:=suf) hx];rfl,[_,_,_],O⟩
  ·rintro i pre x suf hxs hx
   rcases hx with ⟨hc,hx⟩
   cases hc
def O5 (b:Nat) (svL svS svP:Value) (n:Ns) (U S:List nq) (W:List Int) (s:St) (hn:n.Ok) (hS:S.length<=1000000) (hs:s.wt<=900000000):
    Con cfg 211 [vP b,GT s] (sd b svL svS svP n U S W) λr μ'=>r=vI (lQ n.Bufs S s)/\μ'=sd b svL svS svP n U S W:=by
 refine zW func211 O ntmps211 results211 O ?_
 intro z hz
 obtain ⟨hE,hI,hIw,hB,hBw⟩:=St.parts hs
 have hrd:=Q3 s
 refine Y O<|oi O λb1=>om O<|oo O O<|zC O AF<|zE uB (J 0 O) O<|zC O Tb<|zE uB (J 0 O) O<|yO ny O pd qy<|zX O (yW [1,1,1,1] O uB (zLd b svL svS svP n U S W (D7 s) hn hS zB) (oy O) O)<|qW O<|kG O<|yF O<|oM O (yA O v) λb2=>ow 0 D O<|om O<|zF<|oo O O<|yL O<|zA<|zK O ?_ ?_<;>intro c1<;>try simp only [sx] at c1
 ·refine oo O O<|om O<|zT _ (Weak.mem [false,false,true,true,true,true] O)<|zM<|zV O ?_
  exact ⟨by rw [GH c1],O⟩
 ·have hT:=Py c1
  refine zJ<|zF<|zF<|yN 12 1 [⟨0,.q []⟩,⟨1,.q []⟩,⟨2,.q []⟩,⟨3,.q [3]⟩,⟨4,.q []⟩,⟨5,.q [2]⟩,⟨6,.q []⟩,⟨7,.q []⟩,⟨8,.q []⟩,⟨9,.q []⟩,⟨10,.e 0 []⟩,⟨11,.e 0 []⟩] mixed uB uB O O O<|zR O<|zR O<|zR O<|zR O<|zR O<|zR O<|zR O<|zR O<|zR O<|zR O<|zR O<|zR O<|wG<|ot O (zQ O O)<|ot O (qV O O)<|ot O (zG O zTp O)<|ot O (qA O ro O (J 0 O) O)<|ot O (zG O AF O)<|ot O (zH O uB O (J 0 O) O)<|ot O (qP O uB (zCg n s.Name hn) (oy O))<|ot O (yS O O)<|ot O (kK O O O)<|ot O (kI O O O)<|sk O O uA O O (qJ nu O pz O) ?_
  rintro _ _ ⟨b3,rfl,rfl⟩
  refine ⟨_,O,?_⟩
  refine uh O O uA O O (yP O rm O O O (tc 0 O O)) ?_
  rintro _ _ ⟨rfl,rfl⟩
  refine ⟨_,O,?_⟩
  refine wE O<|om O<|Y O<|zC O OF<|zE uB (J 0 O) O<|yR O<|zA<|qQ O (λc2=>?_) (λc2=>?_)
  ·refine ol O O<|zT _ (Weak.mem [false,false,false,true,true,true,true] O)<|zM<|zV O ?_
   exact ⟨by rw [zd c1 (.inl c2)],O⟩
  ·refine zJ<|zF<|Y O<|zC O AG<|zE uB (J 2 O) O<|yR O<|G O<|oL O (λg7_3=>zG O Tc O) O<|oG 40 O (λg7_3=>zH O uB O (J 2 O) O) O<|oG 41 O (λg7_3=>Ad O O O) O<|oG 42 O (λg7_3=>zQ O O) O<|oV [] O oW T (λg7_7=>zG O Tc O) O<|oV [(44,_)] O oW ⟨O,O,T⟩ (λg7_7=>zH O uB O (J 2 O) O) O<|oV [(45,_)] O oW ⟨O,O,T⟩ (λg7_7=>kE O O O) O<|oG 43 O (λg7_3=>tj O O O O (λh=>kO uC (oY h))) O<|kF O (λh=>h)<|zA<|zK O ?_ ?_<;>intro c3<;>try simp only [sx] at c3
   ·refine ol O O<|zT _ (Weak.mem [false,false,false,true,true,true,true] O)<|zM<|zV O ?_
    exact ⟨by rw [zd c1 (.inr c3)],O⟩
   ·refine zJ<|oo O O<|zC O D4<|zN yX (J 2 O) O<|zX O (yW [3,3,3,3] O uB (zLd b svL svS svP n U S W s.E hn hS zB) (oy O) O)<|qW O<|kG O<|yF O<|oM O (yA O v) λb4=>ow 0 D O<|om O<|zF<|oo O O<|yL O<|zA<|zK O ?_ ?_<;>intro c4<;>try simp only [sx] at c4
    ·refine oo O O<|om O<|zT _ (Weak.mem [false,false,false,false,true,true,true,true] O)<|zM<|zV O ?_
     exact ⟨by rw [GI c1 zB c4],O⟩
    ·refine zJ<|zF<|Y O<|zC O D4<|zN yX (J 3 O) O<|qK O uB (wT s.E) (oy O)<|G O<|oL O (λg12_3=>qA O yD O (J 0 O) O) O<|oL O (λg12_3=>qA O yD O (J 2 O) O) O<|oV [(63,_),(64,_)] O oP ⟨O,O,O,O,T⟩ (λg12_3=>JE O tf O O O) O<|oN O (λh=>(oY h))<|zA<|zK O (λc5=>?_) (λc5=>?_)
     ·have h10:=RE c5
      rw [hT] at h10
      refine ol O O<|zT _ (Weak.mem [false,false,false,false,true,true,true,true] O)<|zM<|zV O ?_
      exact ⟨by rw [BR c1 zB c4 h10],O⟩
     ·have h10:=RD c5
      rw [hT] at h10
      refine zJ<|ol O O<|zT _ (Weak.mem [false,false,false,false,true,true,true,true] O)<|zM<|zV O ?_
      exact ⟨by rw [GG c1 zB c4 h10],O⟩
def Ts (b:Nat) (svL svS svP:Value) (n:Ns) (U S:List nq) (W:List Int) (s:St) (hn:n.Ok) (hU:U.length<=1000000):
    Con cfg 209 [vP b,GT s] (sd b svL svS svP n U S W) λr μ'=>r=vI (rG n.Bufs U s)/\μ'=sd b svL svS svP n U S W:=by
 refine zW func209 O ntmps209 results209 O λz hz=>Y O<|oi O λb1=>om O<|zF<|Y O<|zC O AF<|zE uB (J 0 O) O<|qK O uB (ZX _) (oy O)<|kQ O<|zA<|zK O ?_ ?_<;>intro c1<;>try simp only [sx] at c1
 ·refine ol O O<|zT _ (Weak.mem [false,true,true,true,true] O)<|zM<|zV O ?_
  exact ⟨by rw [KI c1],O⟩
 ·refine zJ<|zF<|zF<|yN 12 1 [⟨0,.q []⟩,⟨1,.q []⟩,⟨2,.q []⟩,⟨3,.q [2]⟩,⟨4,.q []⟩,⟨5,.q [1]⟩,⟨6,.q []⟩,⟨7,.q []⟩,⟨8,.q []⟩,⟨9,.q []⟩,⟨10,.e 0 []⟩,⟨11,.e 0 []⟩] mixed uB uB O O O<|zR O<|zR O<|zR O<|zR O<|zR O<|zR O<|zR O<|zR O<|zR O<|zR O<|zR O<|zR O<|wG<|ot O (zQ O O)<|ot O (qV O O)<|ot O (zG O zTp O)<|ot O (qA O ro O (J 0 O) O)<|ot O (zG O AF O)<|ot O (zH O uB O (J 0 O) O)<|ot O (qP O uB (zCg n s.Name hn) (oy O))<|ot O (yS O O)<|ot O (kK O O O)<|ot O (kI O O O)<|sk O O uA O O (qJ nu O pz O) ?_
  rintro _ _ ⟨b2,rfl,rfl⟩
  refine ⟨_,O,?_⟩
  refine uh O O uA O O (yP O rm O O O (tc 0 O O)) ?_
  rintro _ _ ⟨rfl,rfl⟩
  refine ⟨_,O,?_⟩
  refine wE O<|om O<|zF<|yE 10 mixed uB O O<|ou O (zQ O O)<|ou O (zQ O O)<|qR [] O O O O oP T (λg4_1=>zQ O O) O<|qR [(23,_)] O O O O oP ⟨O,O,T⟩ (λg4_1=>qV O O) O<|qR [(24,_)] O O O O oP ⟨O,O,T⟩ (λg4_1=>zG O CN O) O<|qR [(25,_)] O O O O oP ⟨O,O,T⟩ (λg4_1=>zH O uB O (J 2 O) O) O<|qR [] O O O O oP T (λg4_1=>zG O AF O) O<|qR [(27,_)] O O O O oP ⟨O,O,T⟩ (λg4_1=>zH O uB O (J 1 O) O) O<|qR [(26,_),(28,_)] O O O O oP ⟨O,O,O,O,T⟩ (λg4_1=>ZT 3 O uB O (zBi U s.Name zB) O ⟨.inl ⟨O,O⟩,.inr ⟨zD,O⟩,T⟩) O<|ou O (tj O O O O (λh=>(oY h)))<|yY<|zA<|zK O ?_ ?_<;>intro c2<;>try simp only [sx] at c2
  ·refine ol O O<|zT _ (Weak.mem [false,false,true,true,true,true] O)<|zM<|zV O ?_
   exact ⟨by rw [KJ c1 c2],O⟩
  ·have h8:¬(gB n.Bufs s.Name=true∨bQ U s.Name=true):=by rw [c2.1,c2.2];simp
   refine zJ<|zF<|Y O<|zC O Td<|zE uB (J 1 O) O<|yC O<|G O<|oL O (λg6_3=>zG O Td O) O<|oG 35 O (λg6_3=>zH O uB O (J 1 O) O) O<|oG 36 O (λg6_3=>kE O O O) O<|oN O (λh=>(oY h))<|G O<|oL O (λg6_8=>zG O Xl O) O<|oG 40 O (λg6_8=>zH O uB O (J 1 O) O) O<|oG 41 O (λg6_8=>Ad O O O) O<|oN O (λh=>(oY h))<|G O<|oL O (λg6_13=>zG O Xl O) O<|oG 45 O (λg6_13=>zH O uB O (J 1 O) O) O<|oG 46 O (λg6_13=>kE O O O) O<|oN O (λh=>(oY h))<|zA<|zK O ?_ ?_<;>intro c3<;>try simp only [sx] at c3
   ·refine ol O O<|zT _ (Weak.mem [false,false,true,true,true,true] O)<|zM<|zV O ?_
    exact ⟨by rw [KH c1 h8 zB],O⟩
   ·refine zJ<|ol O O<|zT _ (Weak.mem [false,false,true,true,true,true] O)<|zM<|zV O ?_
    exact ⟨by rw [KG c1 h8 zB],O⟩
def zZa (e:Ex) (he:e.wt<=4294967296):
    oK cfg 246 [vE e] (vB (tS e)):=by
 refine zW func246 O ntmps246 results246 O λz hz=>Y O<|oi O λb1=>om O<|Y O<|zN yX (J 0 O) O<|yO nt O pd qy<|qK O uB (Mi e zEx he uA) (oy O)<|om O<|zM<|zV O ?_
 exact O
def zYz (s:St) (hs:s.wt<=900000000):
    oK cfg 208 [GT s] (vB (gT s)):=by
 refine zW func208 O ntmps208 results208 O ?_
 intro z hz
 obtain ⟨hE,hI,hIw,hB,hBw⟩:=St.parts hs
 refine Y O<|oi O λb1=>om O<|zF<|yE 17 mixed uB O O<|ou O (zG O AG O)<|ou O (zH O uB O (J 0 O) O)<|ou O (yU O O O)<|ou O (zG O AG O)<|ou O (zH O uB O (J 0 O) O)<|ou O (yU O O O)<|ou O (zQ O O)<|qR [] O O O O oP T (λg1_6=>zG O AG O) O<|qR [(13,_)] O O O O oP ⟨O,O,T⟩ (λg1_6=>zH O uB O (J 0 O) O) O<|qR [(14,_)] O O O O oP ⟨O,O,T⟩ (λg1_6=>yU O O O) O<|ou O (tj O O O O (λh=>(oY h)))<|ou O (zG O AG O)<|ou O (zH O uB O (J 0 O) O)<|ou O (yU O O O)<|ou O (yK O O)<|ou O (yK O O)<|ou O (yK O O)<|yY<|zA<|zF<|zS<|oo O O<|kQ O<|G O<|oL O (λg2_2=>zQ O O) O<|oG 24 O (λg2_2=>wM O O) O<|kF O (λh=>h)<|G O<|oL O (λg2_6=>zQ O O) O<|oG 28 O (λg2_6=>wM O O) O<|kF O (λh=>h)<|om O<|zK O (λc1=>?_) (λc1=>?_)
 ·refine ol O O<|zM<|zV O ?_
  exact ai vB (syn_1 c1)
 ·refine oo O O<|G O<|oL O (λg4_1=>zG O AF O) O<|oG 34 O (λg4_1=>zH O uB O (J 0 O) O) O<|oG 35 O (λg4_1=>S4 O O O) O<|kF O (λh=>h)<|om O<|zK O (λc2=>?_) (λc2=>?_)
  ·refine ol O O<|zM<|zV O ?_
   exact ai vB (WD c2)
  ·refine oo O O<|kQ O<|G O<|oL O (λg6_2=>zG O Td O) O<|oG 42 O (λg6_2=>zH O uB O (J 0 O) O) O<|oG 43 O (λg6_2=>wI O O O) O<|oG 44 O (λg6_2=>zQ O O) O<|oV [] O oW T (λg6_6=>zG O Xl O) O<|oV [(46,_)] O oW ⟨O,O,T⟩ (λg6_6=>zH O uB O (J 0 O) O) O<|oV [(47,_)] O oW ⟨O,O,T⟩ (λg6_6=>wI O O O) O<|oG 45 O (λg6_2=>tj O O O O (λh=>kO uC (oY h))) O<|kF O (λh=>h)<|om O<|zK O (λc3=>?_) (λc3=>?_)
   ·refine ol O O<|zM<|zV O ?_
    exact ai vB (WE c3)
   ·refine Y O<|zC O AG<|zE uB (J 0 O) O<|yL O<|G O<|oL O (λg8_3=>zG O Tc O) O<|oG 56 O (λg8_3=>zH O uB O (J 0 O) O) O<|oG 57 O (λg8_3=>wI O O O) O<|kF O (λh=>h)<|om O<|zK O (λc4=>?_) (λc4=>?_)
    ·refine ol O O<|zM<|zV O ?_
     exact ai vB (WF c4)
    ·refine oo O O<|kQ O<|G O<|oL O (λg10_2=>zG O Tb O) O<|oG 64 O (λg10_2=>zH O uB O (J 0 O) O) O<|oG 65 O (λg10_2=>yH O oO O) O<|oG 66 O (λg10_2=>kE O O O) O<|kF O (λh=>h)<|om O<|zK O (λc5=>?_) (λc5=>?_)
     ·refine ol O O<|zM<|zV O ?_
      exact ai vB (WG c5)
     ·refine oo O O<|G O<|oL O (λg12_1=>zG O D4 O) O<|oG 72 O (λg12_1=>qA O yX O (J 0 O) O) O<|oG 73 O (λg12_1=>qP O uB (zZa s.E zB) (oy O)) O<|oG 74 O (λg12_1=>wM O O) O<|kF O (λh=>h)<|om O<|zK O (λc6=>?_) (λc6=>?_)
      ·refine ol O O<|zM<|zV O ?_
       exact ai vB (syn_6 c6)
      ·refine zJ<|oo O O<|kQ O<|G O<|oL O (λg14_2=>zG O Cf O) O<|oG 80 O (λg14_2=>zH O uB O (J 0 O) O) O<|oG 81 O (λg14_2=>yH O oT O) O<|oG 82 O (λg14_2=>yU O O O) O<|oN O (λh=>(oY h))<|om O<|zM<|zV O ?_
       exact ai vB (syn_7 c1 c2 c3 c4 c5 c6)
def Cv (b:Nat) (svL svS svP:Value) (n:Ns) (U S:List nq) (W:List Int) (s:St) (hn:n.Ok) (hS:S.length<=1000000) (hU:U.length<=1000000) (hs:s.wt<=900000000):
    Con cfg 169 [vP b,GT s] (sd b svL svS svP n U S W) λr μ'=>r=vI (GD n.Bufs U S s)/\μ'=sd b svL svS svP n U S W:=by
 refine zW func169 O ntmps169 results169 O ?_
 intro z hz
 obtain ⟨hE,hI,hIw,hB,hBw⟩:=St.parts hs
 refine Y O<|oi O λb1=>om O<|zF<|Y O<|zN uq (J 0 O) O<|qK O uB (zYz s hs) (oy O)<|kQ O<|zA<|zK O ?_ ?_<;>intro c1<;>try simp only [sx] at c1
 ·refine ol O O<|zT _ (Weak.mem [false,true,true,true,true] O)<|zM<|zV O ?_
  exact ⟨by rw [WA c1],O⟩
 ·refine zJ<|zF<|Y O<|zC O AG<|zE uB (J 0 O) O<|zA<|zS<|Y O<|yR O<|om O<|qQ O (λc2=>?_) (λc2=>?_)
  ·refine oo O O<|zN uq (J 0 O) O<|zX O (yW [1,1,1,1] O uB (Ts b svL svS svP n U S W s hn hU) (oy O) O)<|om O<|zT _ (Weak.mem [false,true,true,true,true] O)<|zM<|zV O ?_
   exact ⟨by rw [GF c1 c2],O⟩
  ·refine Y O<|yR O<|om O<|qQ O (λc3=>?_) (λc3=>?_)
   ·refine zF<|oo O O<|zC O D4<|zN yX (J 0 O) O<|zX O (yW [1,1,1,1] O uB (zLd b svL svS svP n U S W s.E hn hS zB) (oy O) O)<|qW O<|kG O<|yF O<|oM O (yA O v) λb2=>ow 0 D O<|om O<|oo O O<|yL O<|zA<|zK O ?_ ?_<;>intro c4<;>try simp only [sx] at c4
    ·refine oo O O<|om O<|zT _ (Weak.mem [false,false,true,true,true,true] O)<|zM<|zV O ?_
     exact ⟨by rw [GE c1 c3,Wh c4],O⟩
    ·refine zJ<|zF<|Y O<|zC O D4<|zN yX (J 1 O) O<|qK O uB (wT s.E) (oy O)<|kQ O<|zA<|zK O ?_ ?_<;>intro c5<;>try simp only [sx] at c5
     ·refine ol O O<|zT _ (Weak.mem [false,false,true,true,true,true] O)<|zM<|zV O ?_
      exact ⟨by rw [GE c1 c3,PQ c4 c5],O⟩
     ·refine zJ<|ol O O<|zT _ (Weak.mem [false,false,true,true,true,true] O)<|zM<|zV O ?_
      exact ⟨by rw [GE c1 c3,Wg c4 c5],O⟩
   ·refine zJ<|oo O O<|zN uq (J 0 O) O<|zX O (yW [1,1,1,1] O uB (O5 b svL svS svP n U S W s hn hS hs) (oy O) O)<|om O<|zT _ (Weak.mem [false,true,true,true,true] O)<|zM<|zV O ?_
    exact ⟨by rw [WB c1 c2 c3],O⟩
set_option maxHeartbeats 2000000 in
def zJd (b:Nat) (svL svS svP:Value) (n:Ns) (U S:List nq) (W:List Int) (l:List St) (hn:n.Ok) (hU:U.length+fG l<=1000000) (hS:S.length+fG l<=1000000) (hW:W.length+fG l<=1000000) (hl:bR l<=536870912) (ih:∀s,s∈l->∀(svL svS svP:Value) (U S:List nq) (W:List Int),U.length+fG s.Body<=1000000->S.length+fG s.Body<=1000000->W.length+fG s.Body<=1000000->Con cfg 106 [vP b,fL s.Body] (sd b svL svS svP n U S W) λr μ'=>∃svL' svS' svP' U' S' W',r=vI (gG n.Bufs U S W 0 s.Body).E/\((gG n.Bufs U S W 0 s.Body).E=0->U'=(gG n.Bufs U S W 0 s.Body).U/\S'=S/\W'=W)/\(¬(gG n.Bufs U S W 0 s.Body).E=0->W'=(gG n.Bufs U S W 0 s.Body).W)/\μ'=sd b svL' svS' svP' n U' S' W'):
    Con cfg 106 [vP b,fL l] (sd b svL svS svP n U S W) λr μ'=>∃svL' svS' svP' U' S' W',r=vI (gG n.Bufs U S W 0 l).E/\((gG n.Bufs U S W 0 l).E=0->U'=(gG n.Bufs U S W 0 l).U/\S'=S/\W'=W)/\(¬(gG n.Bufs U S W 0 l).E=0->W'=(gG n.Bufs U S W 0 l).W)/\μ'=sd b svL' svS' svP' n U' S' W':=by
 refine zW func106 O ntmps106 results106 O ?_
 intro z hz
 have hll:=G9 l
 have hlN:=VK l
 refine ol O O<|zF<|oo O O<|qC O oT<|om O<|zS<|zT ⟨[(12,.c _),(0,.c _),(1,.c _),(11,.c _)],[_,_,_,_]⟩ (oz [true,true,true,true] oH O)<|qG 1 4 O O (Nat×Value×Value×Value×List nq) (λ⟨k,vL,vS,vP_,u⟩=>[(12,vI k)]) (λ⟨k,vL,vS,vP_,u⟩=>[E.row b 172 [.sl 8 (n.Bufs.map Bf.cells),.sl 20 (n.Body.map St.cells),.lit vL,.lit vS,.lit vP_],E.vec vL 9 1 (u.map λs=>[cS s]),E.vec vS 9 1 (S.map λs=>[cS s]),E.vec vP_ 3 1 (W.map λi=>[cI i])]) (λ⟨k,vL,vS,vP_,u⟩=>k<=l.length/\(u.length+fG (l.drop k)<=1000000)/\((gG n.Bufs U S W 0 l)=gG n.Bufs u S W k (l.drop k))) (λ⟨k,vL,vS,vP_,u⟩=>l.length-k) ⟨⟨0,svL,svS,svP,U⟩,⟨zB,by simpa using hU,O⟩,oz [true,true,true,true] oH O⟩ ?_
 rintro ⟨k,vL,vS,vP_,u⟩ ⟨hk,hub,hp⟩
 show oU _ _ _ _ _ ⟨[(12,vI k)]++_,[E.row b 172 [.sl 8 (n.Bufs.map Bf.cells),.sl 20 (n.Body.map St.cells),.lit vL,.lit vS,.lit vP_],E.vec vL 9 1 (u.map λs=>[cS s]),E.vec vS 9 1 (S.map λs=>[cS s]),E.vec vP_ 3 1 (W.map λi=>[cI i])]++_⟩
 refine Y O<|yC O<|zA<|zF<|zK O ?_ ?_<;>intro c1<;>try simp only [sx] at c1
 ·obtain ⟨s,hs⟩:=qX l k zB
  have hsw:=Og (qD hs)
  have hsb:=St.body_wt s
  have hsn:=BS hs
  have hse:=Xi s
  have hsm:=zVo (qD hs)
  have hcl:=vw n.Bufs s u S (W++[(k:Int)])
  refine zJ<|zF<|zS<|oo O O<|om O<|oo O O<|G O<|qF O oT zB (ta uC)<|zN uq qE O<|oM O (qJ nx O pp O) λb1=>ow 0 uo O<|zA<|oo O O<|G O<|zZ O<|zC O Xc<|zE uB (J 1 O) O<|G O<|yT O pf Oq<|oM O (qZ 4 O pf O O O uG uG) λsv2=>zZ O<|zC O Xc<|ow 1 Zr O<|zA<|zF<|zF<|zT _ (Weak.vecEq 4 O (rows':=(W++[(k:Int)]).map λi=>[cI i]) uK)<|zP O<|G O<|zN uq (J 0 O) O<|zX O (yW [1,1,1,1] O uB (Cv b vL vS _ n u S (W++[(k:Int)]) s hn zB zB zB) (oy O) O)<|om O<|oo O O<|yL O<|zA<|zK O ?_ ?_<;>intro c2<;>try simp only [sx] at c2
  ·have hx0:=JS (here:=W++[(k:Int)]) (B:=n.Bufs) (U:=u) (sc:=S) (s:=s) c2
   refine oo O O<|om O<|zT _ (Weak.mem [false,true,true,true,true] O)<|zM<|zV O ?_
   refine ⟨_,_,_,_,_,_,?_,λh0=>?_,λ_=>?_,O⟩
   · rw [W9 hs hp (by rw [hx0];exact c2),hx0]
   · rw [W9 hs hp (by rw [hx0];exact c2),hx0] at h0;exact absurd h0 c2
   · rw [W9 hs hp (by rw [hx0];exact c2),hx0]
  ·have hin:=JR (here:=W++[(k:Int)]) (B:=n.Bufs) (U:=u) (sc:=S) (s:=s) c2
   refine zJ<|oo O O<|zZ O<|zC O Xg<|zE uB (J 1 O) O<|zX O (kT 3 O oR O O)<|om O<|zF<|Y O<|zC O AG<|zE uB (J 0 O) O<|yR O<|zA<|qQ O (λc3=>?_) (λc3=>?_)
   ·rw [zQt c3,zQt c3] at hin
    refine zF<|yN 9 0 [⟨0,.q []⟩,⟨1,.q []⟩,⟨2,.q []⟩,⟨3,.q []⟩,⟨4,.q [1]⟩,⟨5,.q []⟩,⟨6,.q [0]⟩,⟨7,.q []⟩,⟨8,.e 2 []⟩] mixed uB uB O O O<|zR O<|zR O<|zR O<|zR O<|zR O<|zR O<|zR O<|zR O<|zR O<|wG<|ot O (zQ O O)<|ot O (zQ O O)<|ot O (qV O O)<|ot O (zG O CN O)<|ot O (zH O uB O (J 0 O) O)<|ot O (zG O AF O)<|ot O (zH O uB O (J 0 O) O)<|ot O (kV O oR Hf O O O O)<|sk O O uA O O (qZ 0 O oR O O O uG uG) ?_
    rintro _ _ ⟨sv3,rfl,rfl⟩
    refine ⟨_,O,?_⟩
    refine wE O<|zZ O<|zC O CN<|ow 1 Vg O<|zA<|zT _ (Weak.vecEq 2 O (rows':=(u++[s.Name]).map λs=>[cS s]) uK)<|yN 9 0 [⟨0,.q []⟩,⟨1,.q []⟩,⟨2,.q []⟩,⟨3,.q []⟩,⟨4,.q [1]⟩,⟨5,.q []⟩,⟨6,.q [0]⟩,⟨7,.q []⟩,⟨8,.e 3 []⟩] mixed uB uB O O O<|zR O<|zR O<|zR O<|zR O<|zR O<|zR O<|zR O<|zR O<|zR O<|wG<|ot O (zQ O O)<|ot O (zQ O O)<|ot O (qV O O)<|ot O (zG O Xg O)<|ot O (zH O uB O (J 0 O) O)<|ot O (zG O AF O)<|ot O (zH O uB O (J 0 O) O)<|ot O (kV O oR Hf O O O O)<|sk O O uA O O (qZ 0 O oR O O O uG uG) ?_
    rintro _ _ ⟨sv4,rfl,rfl⟩
    refine ⟨_,O,?_⟩
    refine wE O<|zZ O<|zC O Xg<|ow 1 Vg O<|zA<|zF<|zF<|zT _ (Weak.vecEq 3 O (rows':=(S++[s.Name]).map λs=>[cS s]) uK)<|zT ⟨_,E.row _ _ _::sd b _ _ _ n (u++[s.Name]) (S++[s.Name]) (W++[(k:Int)])⟩ (Weak.mem [true,true,true,true,true] O)<|zP O<|G O<|zC O Cf<|zE uB (J 0 O) O<|qB O O (zMm [1,1,1,1] O uB (ih s (qD hs) _ _ _ (u++[s.Name]) (S++[s.Name]) (W++[(k:Int)]) (by first|omega|(simp;omega)) (by first|omega|(simp;omega)) uD) (oy O) O) ?_
    rintro _ _ ⟨_,⟨svL1,svS1,svP1,U1,S1,W1,rfl,hok,hno,rfl⟩,rfl⟩
    refine om O<|oo O O<|yL O<|zA<|zK O (λc4=>?_) (λc4=>?_)
    ·exact v37
    ·try simp only [sx] at c4
     rw [<-hin] at c4 hok
     obtain ⟨hU1,hS1,hW1⟩:=hok c4
     have hS2:=hS1.symm
     subst hU1 hS2 hW1
     refine zJ<|oo O O<|G O<|zZ O<|zC O Xg<|zE uB (J 1 O) O<|G O<|oM O (zKn (k:=S.length) 3 O oR O O O uF uF) λsv5=>zZ O<|zC O Xg<|ow 1 Vg O<|zA<|zT _ (Weak.vecEq 3 O (rows':=S.map λs=>[cS s]) uK)<|yN 12 0 [⟨0,.q []⟩,⟨1,.q []⟩,⟨2,.q []⟩,⟨3,.q []⟩,⟨4,.q [1]⟩,⟨5,.q []⟩,⟨6,.q []⟩,⟨7,.q []⟩,⟨8,.q [1]⟩,⟨9,.q [4]⟩,⟨10,.q []⟩,⟨11,.e 4 []⟩] mixed uB uB O O O<|zR O<|zR O<|zR O<|zR O<|zR O<|zR O<|zR O<|zR O<|zR O<|zR O<|zR O<|zR O<|wG<|ot O (zQ O O)<|ot O (zQ O O)<|ot O (qV O O)<|ot O (zG O Xc O)<|ot O (zH O uB O (J 0 O) O)<|ot O (zQ O O)<|ot O (qV O O)<|ot O (zG O Xc O)<|ot O (zH O uB O (J 0 O) O)<|ot O (kT 0 O pf O O)<|ot O (yM O O O (by simp only [pc,qp,pw,qw];exact ⟨zB,zB⟩))<|sk O O uA O O (zKn (k:=W.length) 0 O pf O O O uG uF) ?_
     rintro _ _ ⟨sv6,rfl,rfl⟩
     exact v10
   ·rw [zVv c3,zVv c3] at hin
    refine zJ<|zF<|zF<|zT ⟨_,E.row _ _ _::sd b _ _ _ n u S (W++[(k:Int)])⟩ (Weak.mem [true,true,true,true,true] O)<|zP O<|G O<|zC O Cf<|zE uB (J 0 O) O<|qB O O (zMm [1,1,1,1] O uB (ih s (qD hs) _ _ _ u S (W++[(k:Int)]) (by first|omega|(simp;omega)) (by first|omega|(simp;omega)) uD) (oy O) O) ?_
    rintro _ _ ⟨_,⟨svL1,svS1,svP1,U1,S1,W1,rfl,hok,hno,rfl⟩,rfl⟩
    refine om O<|oo O O<|yL O<|zA<|zK O (λc4=>?_) (λc4=>?_)
    ·exact v37
    ·try simp only [sx] at c4
     rw [<-hin] at c4 hok
     obtain ⟨hU1,hS1,hW1⟩:=hok c4
     have hS2:=hS1.symm
     subst hU1 hS2 hW1
     refine zJ<|oo O O<|G O<|zZ O<|zC O Xg<|zE uB (J 1 O) O<|G O<|oM O (zKn (k:=S.length) 3 O oR O O O uF uF) λsv7=>zZ O<|zC O Xg<|ow 1 Vg O<|zA<|zT _ (Weak.vecEq 3 O (rows':=S.map λs=>[cS s]) uK)<|yN 12 0 [⟨0,.q []⟩,⟨1,.q []⟩,⟨2,.q []⟩,⟨3,.q []⟩,⟨4,.q [1]⟩,⟨5,.q []⟩,⟨6,.q []⟩,⟨7,.q []⟩,⟨8,.q [1]⟩,⟨9,.q [4]⟩,⟨10,.q []⟩,⟨11,.e 4 []⟩] mixed uB uB O O O<|zR O<|zR O<|zR O<|zR O<|zR O<|zR O<|zR O<|zR O<|zR O<|zR O<|zR O<|zR O<|wG<|ot O (zQ O O)<|ot O (zQ O O)<|ot O (qV O O)<|ot O (zG O Xc O)<|ot O (zH O uB O (J 0 O) O)<|ot O (zQ O O)<|ot O (qV O O)<|ot O (zG O Xc O)<|ot O (zH O uB O (J 0 O) O)<|ot O (kT 0 O pf O O)<|ot O (yM O O O (by simp only [pc,qp,pw,qw];exact ⟨zB,zB⟩))<|sk O O uA O O (zKn (k:=W.length) 0 O pf O O O uG uF) ?_
     rintro _ _ ⟨sv8,rfl,rfl⟩
     exact v10
 ·refine qL<|ol O O<|zM<|zV O ?_
  refine ⟨_,_,_,_,_,_,?_,λ_=>⟨?_,O,O⟩,λh0=>?_,O⟩
  · rw [zWo hp zB]
  · rw [zWo hp zB]
  · rw [zWo hp zB] at h0;exact absurd rfl h0
def zRq (b:Nat) (n:Ns) (hn:n.Ok) (s:St) (hl:bR s.Body<=536870912):∀(svL svS svP:Value) (U S:List nq) (W:List Int),U.length+fG s.Body<=1000000->S.length+fG s.Body<=1000000->W.length+fG s.Body<=1000000->Con cfg 106 [vP b,fL s.Body] (sd b svL svS svP n U S W) λr μ'=>∃svL' svS' svP' U' S' W',r=vI (gG n.Bufs U S W 0 s.Body).E/\((gG n.Bufs U S W 0 s.Body).E=0->U'=(gG n.Bufs U S W 0 s.Body).U/\S'=S/\W'=W)/\(¬(gG n.Bufs U S W 0 s.Body).E=0->W'=(gG n.Bufs U S W 0 s.Body).W)/\μ'=sd b svL' svS' svP' n U' S' W':=by
  induction s using St.ind with
  |_ s ih=>
    intro svL svS svP U S W hU hS hW
    refine zJd b svL svS svP n U S W s.Body hn hU hS hW hl λa ha=>ih a ha ?_
    have:=Og ha;have:=St.body_wt a;omega
def Aj (b:Nat) (svL svS svP:Value) (n:Ns) (U S:List nq) (W:List Int) (l:List St) (hn:n.Ok) (hU:U.length+fG l<=1000000) (hS:S.length+fG l<=1000000) (hW:W.length+fG l<=1000000) (hl:bR l<=536870912):Con cfg 106 [vP b,fL l] (sd b svL svS svP n U S W) λr μ'=>∃svL' svS' svP' U' S' W',r=vI (gG n.Bufs U S W 0 l).E/\((gG n.Bufs U S W 0 l).E=0->U'=(gG n.Bufs U S W 0 l).U/\S'=S/\W'=W)/\(¬(gG n.Bufs U S W 0 l).E=0->W'=(gG n.Bufs U S W 0 l).W)/\μ'=sd b svL' svS' svP' n U' S' W':=
  zJd b svL svS svP n U S W l hn hU hS hW hl λs hs=>zRq b n hn s xV6
def zTj (n:Ns) (hn:n.Ok):
    oK cfg 45 [va n] (.tup [ss (jF n).1,vI (jF n).2]):=by
 refine zW func45 O ntmps45 results45 O ?_
 intro z hz
 have hnb:=hn.body
 refine Y O<|oi O λb1=>qY 1 O<|om O<|zF<|Y O<|zC O tm<|zE uB (J 0 O) O<|qK O uB (zYy 40 n.Body 40 zB zB O) (oy O)<|kQ O<|zA<|zK O ?_ ?_<;>intro c1<;>try simp only [sx] at c1
 ·refine Y O<|qY 1 O<|om O<|zM<|oJ (ox O) (ox O) ?_
  rw [B3 c1];rfl
 ·refine zJ<|zF<|Y O<|zC O tm<|zE uB (J 0 O) O<|qK O uB (zQw n.Body 2000 2000 zB zB O) (oy O)<|sf O<|G O<|oL O (λg3_4=>zG O rz O) O<|oG 16 O (λg3_4=>zH O uB O (J 0 O) O) O<|oG 17 O (λg3_4=>yH O pq O) O<|oG 18 O (λg3_4=>kE O O O) O<|oN O (λh=>(oY h))<|zA<|zK O ?_ ?_<;>intro c2<;>try simp only [sx] at c2
  ·refine Y O<|qY 1 O<|om O<|zM<|oJ (ox O) (ox O) ?_
   rw [GU c1 zB];rfl
  ·have hnum:=K7 (l:=n.Body) (m:=2000) zB
   refine zJ<|zF<|Y O<|zC O rz<|zE uB (J 0 O) O<|qK O uB (zMx n.Bufs hn.bufs hn.dims) (oy O)<|om O<|oo O O<|yL O<|zA<|zK O ?_ ?_<;>intro c3<;>try simp only [sx] at c3
   ·refine oo O O<|qY 1 O<|om O<|zM<|oJ (ox O) (ox O) ?_
    rw [GV c1 zB c3];rfl
   ·refine zJ<|Y O<|zN ro (J 0 O) O<|yI O zr172 pl172<|oi O λb2=>yQ _ (kD 9 1)<|yQ _ (kD 9 1)<|yQ _ (kD 3 1)<|om O<|zF<|oo O O<|zC O tm<|zE uB (J 4 O) O<|qB O O (zMm [3,2,1,0] O uB (Aj b2 _ _ _ n [] [] [] n.Body hn uD uD uD hnb) (oy O) O) ?_
    rintro _ _ ⟨_,⟨svL1,svS1,svP1,U1,S1,W1,rfl,hok,hno,rfl⟩,rfl⟩
    refine om O<|oo O O<|yL O<|zA<|zK O ?_ ?_<;>intro c4<;>try simp only [sx] at c4
    ·have hW1:=hno c4
     subst hW1
     refine zT _ (yJ 0 O (regs':=[]) (μ':=[_,_,_,_]) T ⟨EFle.refl _,EFle.refl _,EFle.row (ds:=[_,_,_,_,_]) ⟨.inl O,.inl O,.inl O,.inl O,.inr ⟨O,O⟩,T⟩,EFle.refl _,T⟩)<|oo O O<|zZ O<|zC O Xc<|zE uB (J 2 O) O<|G O<|G O<|om O<|zM<|oJ (ox O) (ox O) ?_
     rw [zp c1 zB c3]
    ·refine zJ<|Y O<|qY 1 O<|om O<|zM<|oJ (ox O) (ox O) ?_
     rw [zp c1 zB c3,JP c4,c4];rfl
end Go.W
end
section
set_option maxRecDepth 10000
namespace Go.W
open Go Go.Eng Go.Proofs Go.L41 Go.Br Tryz
attribute [local irreducible] oU oX TD gF
abbrev gJ (l:List Bd):V:=.c (.sl 2 (l.map Bd.cells))
abbrev ckC (x:Ck):V:=.agg [.sl 1 (x.U.map λs=>[cS s]),.sl 1 (x.W.map λi=>[cI i]),cI x.E]
def Xz {l:List Bd} {k:Nat} {x:Bd} (h:l[k]? =some x):(l.map Bd.cells)[k]? =some [cS x.Name,cI x.Val]:=by rw [oI h];rfl
def Cm:nN prog 111=some 3:=by kernel_rfl
def qa:dW prog 31=some (50,2,24):=by kernel_rfl
def S9:bH prog 50 0=some (0,9):=by kernel_rfl
def TN:bH prog 111 0=some (0,25):=by kernel_rfl
def TO:bH prog 111 1=some (1,46):=by kernel_rfl
def Ko:bH prog 111 2=some (2,34):=by kernel_rfl
def Y0:fD prog 50=some [(0,1),(1,1)]:=by kernel_rfl
def Wv:fD prog 111=some [(0,1),(1,1),(2,1)]:=by kernel_rfl
def GM:(prog.info? 111).map (·.size)=some 3:=by kernel_rfl
def AH:dZ prog 50=some [Hj,pn]:=by kernel_rfl
def Cg:dZ prog 111=some [qn,qn,pn]:=by kernel_rfl
def zXt (l:List Lf) (bd:List Bd) (hl:l.length<=4294967296) (hx:∀x,x∈l->x.L.length<=4294967296) (hb:bd.length<=4294967296):
    oK cfg 250 [mL l,gJ bd] (vB (l.all (nU (bd.map Bd.Name)))):=by
 refine zW func250 O ntmps250 results250 O ?_
 intro z hz
 have hl0:=hx
 clear hx
 refine ol O O<|zF<|ol O O<|zS<|zT ⟨[(5,.c _),(0,.c _),(1,.c _)],[]⟩ (oz [] oH O)<|qG 1 0 O O (Nat) (λk=>[(5,vI k)]) (λk=>[]) (λk=>k<=l.length/\((l.take k).all (nU (bd.map Bd.Name))=true)) (λk=>l.length-k) ⟨0,⟨zB,O⟩,oz [] oH O⟩ ?_
 rintro k ⟨hk,hp⟩
 refine zF<|oo O O<|G O<|qC O oS<|yC O<|zA<|zK O ?_ ?_<;>intro c1<;>try simp only [sx] at c1
 ·obtain ⟨x,hx⟩:=qX l k zB
  have hxl:=hl0 x (qD hx)
  refine zJ<|zF<|zS<|ol O O<|zS<|zT ⟨[(6,.c _),(0,.c _),(1,.c _),(5,.c _)],[]⟩ (oz [] oH O)<|qG 1 0 O O (Nat) (λj=>[(6,vI j)]) (λj=>[]) (λj=>j<=x.L.length/\(x.L.take j).all (λm=>bQ (bd.map Bd.Name) m.Name)=true) (λj=>x.L.length-j) ⟨0,⟨zB,O⟩,oz [] oH O⟩ ?_
  rintro j ⟨hj,hq⟩
  refine zF<|oo O O<|G O<|G O<|qF O oS zB (oI hx)<|qS O kA<|zE uB qE O<|qC O N<|yC O<|zA<|zK O ?_ ?_<;>intro c2<;>try simp only [sx] at c2
  ·obtain ⟨m,hm⟩:=qX x.L j zB
   refine zJ<|zF<|zS<|ol O O<|zF<|ol O O<|zS<|zT ⟨[(8,.c _),(7,.c _),(0,.c _),(1,.c _),(5,.c _),(6,.c _)],[]⟩ (oz [] oH O)<|qG 2 0 O O (Nat) (λi=>[(8,vI i),(7,vB ((bd.take i).any λd=>decide (d.Name=m.Name)))]) (λi=>[]) (λi=>i<=bd.length) (λi=>bd.length-i) ⟨0,zB,oz [] ⟨zD,VLe.of_eq (O),zD,zD,zD,zD,T⟩ O⟩ ?_
   rintro i hi
   refine zF<|oo O O<|G O<|qC O qa<|yC O<|zA<|zK O ?_ ?_<;>intro c3<;>try simp only [sx] at c3
   ·obtain ⟨d,hd⟩:=qX bd i zB
    refine zJ<|zF<|zS<|yE 19 mixed uB O O<|ou O (zQ O O)<|ou O (zQ O O)<|qR [] O O O O oP T (λg11_1=>zQ O O) O<|qR [] O O O O oP T (λg11_1=>zQ O O) O<|qR [(33,_),(34,_)] O O O O oP ⟨O,O,O,O,T⟩ (λg11_1=>qI O qa O O zB (Xz hd)) O<|qR [(35,_)] O O O O oP ⟨O,O,T⟩ (λg11_1=>qO O S9 O) O<|qR [(36,_)] O O O O oP ⟨O,O,T⟩ (λg11_1=>zH O uB O qE O) O<|qR [] O O O O oP T (λg11_1=>zQ O O) O<|qR [] O O O O oP T (λg11_1=>zQ O O) O<|qR [(38,_),(39,_)] O O O O oP ⟨O,O,O,O,T⟩ (λg11_1=>qI O oS O O zB (oI hx)) O<|qR [(40,_)] O O O O oP ⟨O,O,T⟩ (λg11_1=>qO O kA O) O<|qR [(41,_)] O O O O oP ⟨O,O,T⟩ (λg11_1=>zH O uB O qE O) O<|qR [] O O O O oP T (λg11_1=>zQ O O) O<|qR [(42,_),(43,_)] O O O O oP ⟨O,O,O,O,T⟩ (λg11_1=>qI O N O O zB (oI hm)) O<|qR [(44,_)] O O O O oP ⟨O,O,T⟩ (λg11_1=>qO O wH O) O<|qR [(45,_)] O O O O oP ⟨O,O,T⟩ (λg11_1=>zH O uB O qE O) O<|qR [(37,_),(46,_)] O O O O oP ⟨O,O,O,O,T⟩ (λg11_1=>VL O O O) O<|ou O (tj O O O O (λh=>(oY h)))<|ou O (yK O O)<|yY<|zA<|zP O<|G O<|qH O ⟨zB,zB⟩<|G O<|zA ?_
    refine ⟨i+1,zB,zB,oz [] ⟨zD,VLe.of_eq (ai vB (OO hd)),zD,zD,zD,zD,T⟩ O⟩
   ·rw [yG (l:=bd) (k:=i) zB,ON]
    refine qL<|oo O O<|kQ O<|zA<|zK O ?_ ?_<;>intro c4<;>try simp only [sx] at c4
    ·have hno:=OY hx hm c4
     refine ol O O<|zM<|zV O ?_
     rw [hno]
    ·refine zJ<|zP O<|G O<|qH O ⟨zB,zB⟩<|G O<|zA ?_
     refine ⟨j+1,⟨zB,zNp hm hq c4⟩,zB,oz [] oH O⟩
  ·rw [yG (l:=x.L) (k:=j) zB] at hq
   refine qL<|zP O<|G O<|qH O ⟨zB,zB⟩<|G O<|zA ?_
   refine ⟨k+1,⟨zB,zNp hx hp (show nU _ x=true from hq)⟩,zB,oz [] oH O⟩
 ·refine qL<|ol O O<|zM<|zV O ?_
  rw [yG zB] at hp;rw [hp]
def I4 (l:List Ix) (hl:l.length<=4294967296) (hw:dI l<=4294967296):
    OwnR cfg 251 [mX l] 59 2 ((l.flatMap sr).map Lf.cells):=by
 refine zW func251 O ntmps251 results251 O λz hz=>ol O O<|oo O O<|yQ _ (kD 59 2)<|zA<|zF<|ol O O<|zS<|zT ⟨[(4,.c _),(3,.c _),(0,.c _)],[_]⟩ (oz [true] oH O)<|qG 2 1 O O (Nat×Value) (λ⟨k,sv⟩=>[(4,vI k),(3,.c (.lit sv))]) (λ⟨k,sv⟩=>[E.vec sv 59 2 (((l.take k).flatMap sr).map Lf.cells)]) (λ⟨k,sv⟩=>k<=l.length) (λ⟨k,sv⟩=>l.length-k) ⟨⟨0,(.slice none 0 0)⟩,zB,oz [true] oH O⟩ ?_
 rintro ⟨k,sv⟩ hk
 show oU _ _ _ _ _ ⟨[(4,vI k),(3,.c (.lit sv))]++_,[E.vec sv 59 2 (((l.take k).flatMap sr).map Lf.cells)]++_⟩
 refine zF<|oo O O<|G O<|qC O oO<|yC O<|zA<|zK O ?_ ?_<;>intro c1<;>try simp only [sx] at c1
 ·obtain ⟨x,hx⟩:=qX l k zB
  have hfl:=Kz l k
  have hxw:=Ss (qD hx)
  unfold Ix.wt at hxw
  refine zJ<|zF<|zS<|oo O O<|G O<|G O<|qF O oO zB (oI uC)<|qS O vc<|zN yV qE O<|yT O oS U<|oM O (qZ 0 O oS O O O uG uG) λsv2=>om O<|zP O<|G O<|G O<|G O<|qF O oO zB (oI uC)<|qS O rt<|zE uB qE O<|oM O (qZ 0 O oS O O O uG uG) λsv3=>om O<|zP O<|G O<|qH O ⟨zB,zB⟩<|G O<|zA ?_
  refine ⟨⟨k+1,sv3⟩,zB,(by show l.length-(k+1)<l.length-k;omega),oz [true] oH (by exact SB (by rw [yB hx,dn,ah];simp [sr];rfl))⟩
 ·refine qL<|oo O O<|om O<|zM<|zV O ?_
  exact ⟨_,O,by rw [yG zB];rfl⟩
def I5 (n:Ns) (bd:List Bd) (e:Ex) (hn:n.Ok) (hb:bd.length<=1000000) (he:e.wt<=1073741824):
    oK cfg 213 [va n,gJ bd,vE e] (vI (lS n.Bufs (bd.map Bd.Name) e)):=by
 refine zW func213 O ntmps213 results213 O ?_
 intro z hz
 obtain ⟨hL,hI,hA⟩:=e.parts he
 have hwt:=Ex.wt_eq e
 refine Y O<|oi O λb1=>oi O λb2=>om O<|zF<|Y O<|zC O Ae<|zN yV (J 0 O) O<|yT O oS U<|G O<|qK O uB (zXt [e.Lin] bd uF uD zB) (oy O)<|kQ O<|G O<|oL O (λg1_6=>zG O kX O) O<|oG 19 O (λg1_6=>zH O uB O (J 0 O) O) O<|oG 20 O (λg1_6=>qP O uB (OwnR.pur (I4 e.Idx zB zB)) (oy O)) O<|oL O (λg1_6=>zQ O O) O<|oV [(21,_),(22,_)] O oP ⟨O,O,O,O,T⟩ (λg1_6=>qP O uB (zXt (e.Idx.flatMap sr) bd (by have:=Kz e.Idx e.Idx.length;rw [kg] at this;omega) (λx hx=>by have:=zWc he (show x∈dH e by unfold dH;exact aH _ hx);omega) zB) (oy O)) O<|oG 23 O (λg1_6=>wM O O) O<|oN O (λh=>(oY h))<|zA<|zK O (λc1=>?_) (λc1=>?_)
 ·have h9:=Nb c1
  refine ol O O<|zM<|zV O ?_
  rw [K1 h9]
 ·have h9:=Nc c1
  refine zJ<|zF<|Y O<|zC O wJ<|zE uB (J 0 O) O<|yL O<|zA<|zK O ?_ ?_<;>intro c2<;>try simp only [sx] at c2
  ·refine ol O O<|zM<|zV O ?_
   rw [K3 h9 c2]
  ·refine zJ<|Y O<|zN ro (J 1 O) O<|zC O Hc<|zE uB (J 0 O) O<|qK O uB (zEz n e.Name hn) (oy O)<|qW O<|kG O<|yF O<|oM O (qJ nu O pz O) λb3=>ow 0 rm O<|om O<|zF<|oo O O<|kQ O<|zA<|zK O ?_ ?_<;>intro c3<;>try simp only [sx] at c3
   ·refine ol O O<|zM<|zV O ?_
    rw [K2 h9 zB c3]
   ·refine zJ<|zF<|Y O<|zC O Ta<|zE uB (J 0 O) O<|qC O pf<|zC O kX<|zE uB (J 1 O) O<|qC O oO<|yL O<|zA<|zK O ?_ ?_<;>intro c4<;>try simp only [sx] at c4
    ·refine ol O O<|zM<|zV O ?_
     rw [K4 h9 zB c3 zB]
    ·refine zJ<|zF<|ol O O<|zS<|zT ⟨[(9,.c _),(3,.c _),(5,.c _)],[_,_]⟩ (oz [false,true,true] oH O)<|qG 1 0 O O (Nat) (λj=>[(9,vI j)]) (λj=>[]) (λj=>j<=e.Idx.length/\(pW n.Bufs e.Idx=pW n.Bufs (e.Idx.drop j))) (λj=>e.Idx.length-j) ⟨0,⟨zB,O⟩,oz [true,true] oH O⟩ ?_
     rintro j ⟨hk,hq⟩
     refine zF<|oo O O<|zC O kX<|zE uB (J 0 O) O<|qC O oO<|yC O<|zA<|zK O ?_ ?_<;>intro c5<;>try simp only [sx] at c5
     ·obtain ⟨y,hy⟩:=qX e.Idx j zB
      refine zJ<|zF<|zS<|zF<|Y O<|zC O kX<|zE uB (J 0 O) O<|G O<|qF O oO zB (oI uC)<|qS O AE<|zE uB qE O<|wF O<|zA<|zK O ?_ ?_<;>intro c6<;>try simp only [sx] at c6
      ·refine qL<|zP O<|G O<|qH O ⟨zB,zB⟩<|G O<|zA ?_
       refine ⟨j+1,⟨zB,hq.trans (zOc hy (by first|exact uR c6|exact zVz c6 c7 zB zB))⟩,zB,oz [true,true] oH O⟩
      ·refine zJ<|zF<|yN 13 1 [⟨0,.q [2]⟩,⟨1,.q []⟩,⟨2,.q [1]⟩,⟨3,.q []⟩,⟨4,.q []⟩,⟨5,.q []⟩,⟨6,.q []⟩,⟨7,.q []⟩,⟨8,.q []⟩,⟨9,.q []⟩,⟨10,.q []⟩,⟨11,.e 0 []⟩,⟨12,.e 0 []⟩] mixed uB uB O O O<|zR O<|zR O<|zR O<|zR O<|zR O<|zR O<|zR O<|zR O<|zR O<|zR O<|zR O<|zR O<|zR O<|wG<|ot O (qA O ro O (J 0 O) O)<|ot O (zG O kX O)<|ot O (zH O uB O (J 0 O) O)<|ot O (zQ O O)<|ot O (qI O oO O O zB (oI uC))<|ot O (qO O AE O)<|ot O (zH O uB O qE O)<|ot O (qP O uB (zEz n y.From hn) (oy O))<|ot O (yS O O)<|ot O (kK O O O)<|ot O (kI O O O)<|sk O O uA O O (qJ nu O pz O) ?_
       rintro _ _ ⟨b4,rfl,rfl⟩
       refine ⟨_,O,?_⟩
       refine uh O O uA O O (yP O rm O O O (tc 0 O O)) ?_
       rintro _ _ ⟨rfl,rfl⟩
       refine ⟨_,O,?_⟩
       refine wE O<|om O<|zS<|oo O O<|kQ O<|om O<|zK O ?_ ?_<;>intro c7<;>try simp only [sx] at c7
       ·refine ol O O<|zM<|zV O ?_
        rw [Xd h9 zB c3 zB,hq,zOb hy (by rw [uS c6 c7];decide),uS c6 c7]
       ·refine Y O<|zC O S8<|zC O Hd<|zE uB (J 0 O) O<|yL O<|om O<|zK O ?_ ?_<;>intro c8<;>try simp only [sx] at c8
        ·refine ol O O<|zM<|zV O ?_
         rw [Xd h9 zB c3 zB,hq,zOb hy (by rw [zWb c6 c7 c8];decide),zWb c6 c7 c8]
        ·refine zF<|yE 12 mixed uB O O<|ou O (zG O Ta O)<|ou O (zH O uB O (J 0 O) O)<|ou O (yH O pf O)<|ou O (zG O kX O)<|ou O (zH O uB O (J 1 O) O)<|ou O (zQ O O)<|ou O (qI O oO O O zB (oI uC))<|ou O (qO O rt O)<|ou O (zH O uB O qE O)<|ou O (yH O oS O)<|ou O (wI O O O)<|ou O (yK O O)<|yY<|zA<|zK O ?_ ?_<;>intro c9<;>try simp only [sx] at c9
         ·refine ol O O<|zM<|zV O ?_
          rw [Xd h9 zB c3 zB,hq,zOb hy (by rw [zWa c6 c7 c8 zB];decide),zWa c6 c7 c8 zB]
         ·refine zJ<|zP O<|G O<|qH O ⟨zB,zB⟩<|G O<|zA ?_
          refine ⟨j+1,⟨zB,hq.trans (zOc hy (by first|exact uR c6|exact zVz c6 c7 zB zB))⟩,zB,oz [false,true,true] oH O⟩
     ·refine qL<|ol O O<|zM<|zV O ?_
      rw [Xd h9 zB c3 zB,hq,kN zB];rfl
def zXv (n:Ns) (hn:n.Ok) (e:Ex) (ih:∀a,a∈e.Args->fJ a=0->a.wt<=1073741824->oK cfg 214 [va n,vE a] (.tup [rq (bP (Bm n.Bufs) a).1,vI (bP (Bm n.Bufs) a).2])) (hpart:fJ e=0) (he:e.wt<=1073741824):
    oK cfg 214 [va n,vE e] (.tup [rq (bP (Bm n.Bufs) e).1,vI (bP (Bm n.Bufs) e).2]):=by
 refine zW func214 O ntmps214 results214 O ?_
 intro z hz
 obtain ⟨hLl,hIl,hAl⟩:=e.parts he
 have hwt:=Ex.wt_eq e
 refine Y O<|oi O λb1=>oi O λb2=>oM O (yA O v) λb3=>om O<|oo O O<|yQ _ (kD 56 5)<|zA<|zF<|ol O O<|zS<|zT ⟨[(7,.c _),(6,.c _),(2,.c _),(3,.c _),(4,.c _)],[_,_,_,_]⟩ (oz [true,true,true,true] oH O)<|qG 2 1 O O (Nat×Value) (λ⟨k,sv⟩=>[(7,vI k),(6,.c (.lit sv))]) (λ⟨k,sv⟩=>[E.vec sv 56 5 ((jP (e.Args.take k) (bG (Bm n.Bufs) (e.Args.take k)).1).map zl)]) (λ⟨k,sv⟩=>k<=e.Args.length/\((bG (Bm n.Bufs) (e.Args.take k)).2=0)) (λ⟨k,sv⟩=>e.Args.length-k) ⟨⟨0,(.slice none 0 0)⟩,⟨zB,O⟩,oz [true,true,true,true] oH O⟩ ?_
 rintro ⟨k,sv⟩ ⟨hk,hp⟩
 show oU _ _ _ _ _ ⟨[(7,vI k),(6,.c (.lit sv))]++_,[E.vec sv 56 5 ((jP (e.Args.take k) (bG (Bm n.Bufs) (e.Args.take k)).1).map zl)]++_⟩
 refine zF<|oo O O<|zC O rn<|zE uB (J 2 O) O<|qC O pa<|yC O<|zA<|zK O ?_ ?_<;>intro c1<;>try simp only [sx] at c1
 ·obtain ⟨x,hx⟩:=qX e.Args k zB
  have hll:=SY _ _ hp
  have hcl:=FJ (e.Args.take k) (bG (Bm n.Bufs) (e.Args.take k)).1
  have htk:=List.length_take_le' k e.Args
  refine zJ<|zF<|zS<|zF<|yN 12 1 [⟨0,.q [4]⟩,⟨1,.q []⟩,⟨2,.q [3]⟩,⟨3,.q []⟩,⟨4,.q []⟩,⟨5,.q []⟩,⟨6,.q []⟩,⟨7,.q []⟩,⟨8,.q []⟩,⟨9,.q []⟩,⟨10,.e 0 []⟩,⟨11,.e 0 []⟩] mixed uB uB O O O<|zR O<|zR O<|zR O<|zR O<|zR O<|zR O<|zR O<|zR O<|zR O<|zR O<|zR O<|zR O<|wG<|ot O (qA O ro O (J 0 O) O)<|ot O (zG O rn O)<|ot O (zH O uB O (J 0 O) O)<|ot O (zQ O O)<|ot O (qI O pa O O zB (Aa uC))<|ot O (qA O yX O qE O)<|ot O (qP O uB (ih x (qD hx) (zJq hpart (qD hx)) (by have:=Ex.arg_wt (qD hx);omega)) (oy O))<|ot O (yS O O)<|ot O (kK O O O)<|ot O (kI O O O)<|sk O O uA O O (yA O v) ?_
  rintro _ _ ⟨b5,rfl,rfl⟩
  refine ⟨_,O,?_⟩
  refine uh O O uA O O (yP O D O O O (tc 0 O O)) ?_
  rintro _ _ ⟨rfl,rfl⟩
  refine ⟨_,O,?_⟩
  refine wE O<|om O<|zF<|oo O O<|yL O<|zA<|zK O ?_ ?_<;>intro c2<;>try simp only [sx] at c2
  ·refine Y O<|yI O v pr<|G O<|ow 2 D O<|om O<|zM<|oJ (zY yD O (J 2 O) O) (ox O) ?_
   rw [zVu hx hp c2];rfl
  ·refine zJ<|Y O<|zC O rn<|zE uB (J 3 O) O<|G O<|qF O pa zB (Aa uC)<|zN yX qE O<|qK O uB (kZ x) (oy O)<|kQ O<|zA<|zK O ?_ ?_<;>intro c3<;>try simp only [sx] at c3
   ·refine zP O<|G O<|zN yD (J 0 O) O<|yT O wR v<|oM O (qZ 1 O wR O O O (by simp only [pc,qp,pw,qw,hll,ap];omega) (by simp only [pc,qp,pw,qw,hll,ap];omega)) λsv6=>om O<|zP O<|G O<|qH O ⟨zB,zB⟩<|G O<|zA ?_
    exact v34
   ·refine zJ<|zP O<|G O<|qH O ⟨zB,zB⟩<|G O<|zA ?_
    exact v34
 ·have hll:=SY _ _ hp
  have hta:e.Args.take k=e.Args:=yG zB
  have hT:bP (Bm n.Bufs) e=H5 n.Bufs e (jP (e.Args.take k) (bG (Bm n.Bufs) (e.Args.take k)).1):=by have h:=zVt (N:=Bm n.Bufs) hta hp;rw [h];show H5 n.Bufs e (jP e.Args _)=_;rw [hta]
  refine qL<|zF<|zF<|yE 12 mixed uB O O<|ou O (zQ O O)<|ou O (kT 0 O wR O O)<|ou O (yU O O O)<|ou O (zQ O O)<|qR [] O O O O oP T (λg10_3=>zQ O O) O<|qR [(48,_)] O O O O oP ⟨O,O,T⟩ (λg10_3=>qU 0 O wR O O O zB xV0) O<|qR [(49,_)] O O O O oP ⟨O,O,T⟩ (λg10_3=>qA O yD O (kP 0 O (zIt xV0)) O) O<|qR [] O O O O oP T (λg10_3=>zQ O O) O<|qR [(51,_)] O O O O oP ⟨O,O,T⟩ (λg10_3=>qU 0 O wR O O O zB xV0) O<|qR [(52,_)] O O O O oP ⟨O,O,T⟩ (λg10_3=>qA O yD O (kP 0 O (zIt xV0)) O) O<|qR [(50,_),(53,_)] O O O O oP ⟨O,O,O,O,T⟩ (λg10_3=>JE O tf O O O) O<|ou O (wX O O O (λh=>h) O)<|yY<|zA<|zK O (λc4=>?_) (λc4=>?_)
  ·obtain ⟨q1,q2⟩:=Yq c4
   exact v47
  ·have hq:=Yp c4
   refine zJ<|zF<|Y O<|zC O wJ<|zE uB (J 2 O) O<|zA<|zS<|zF<|Y O<|yR O<|om O<|qQ O (λc5=>?_) (λc5=>?_)
   ·refine zJ<|zK O ?_ ?_<;>intro c6<;>try simp only [sx] at c6
    ·refine Y O<|zC O D9<|zN yD (J 2 O) O<|ow 1 D O<|om O<|zM<|oJ (zY yD O (J 1 O) O) (ox O) ?_
     exact t8
    ·refine Y O<|yR O<|om O<|qQ O (λc7=>?_) (λc7=>?_)
     ·exact v47
     ·refine Y O<|yR O<|om O<|qQ O (λc8=>?_) (λc8=>?_)
      ·refine Y O<|zN ro (J 3 O) O<|zC O Hc<|zE uB (J 2 O) O<|qK O uB (zEz n e.Name hn) (oy O)<|qW O<|kG O<|yF O<|oM O (qJ nu O pz O) λb7=>ow 0 rm O<|om O<|Y O<|zC O S8<|zN yD (J 0 O) O<|ow 2 D O<|om O<|zM<|oJ (zY yD O (J 2 O) O) (ox O) ?_
       exact t8
      ·exact l6
   ·refine zP O<|yR O<|om O<|qQ O (λc6=>?_) (λc6=>?_)
    ·refine Y O<|zC O D9<|zN yD (J 2 O) O<|ow 1 D O<|om O<|zM<|oJ (zY yD O (J 1 O) O) (ox O) ?_
     exact t8
    ·refine Y O<|yR O<|om O<|qQ O (λc7=>?_) (λc7=>?_)
     ·exact v47
     ·refine Y O<|yR O<|om O<|qQ O (λc8=>?_) (λc8=>?_)
      ·refine Y O<|zN ro (J 3 O) O<|zC O Hc<|zE uB (J 2 O) O<|qK O uB (zEz n e.Name hn) (oy O)<|qW O<|kG O<|yF O<|oM O (qJ nu O pz O) λb8=>ow 0 rm O<|om O<|Y O<|zC O S8<|zN yD (J 0 O) O<|ow 2 D O<|om O<|zM<|oJ (zY yD O (J 2 O) O) (ox O) ?_
       exact t8
      ·exact l6
def IX (n:Ns) (e:Ex) (hn:n.Ok) (hpart:fJ e=0) (he:e.wt<=1073741824):oK cfg 214 [va n,vE e] (.tup [rq (bP (Bm n.Bufs) e).1,vI (bP (Bm n.Bufs) e).2]):=by
  induction e using Ex.ind with
  |_ e ih=>exact zXv n hn e (λa ha h1 h2=>ih a ha h1 h2) hpart he
def zKl (n:Ns) (bd:List Bd) (e:Ex) (hn:n.Ok) (hb:bd.length<=1000000) (he:e.wt<=1000000):
    oK cfg 172 [va n,gJ bd,vE e] (.tup [rq (dS n.Bufs (bd.map Bd.Name) e).1,vI (dS n.Bufs (bd.map Bd.Name) e).2]):=by
 refine zW func172 O ntmps172 results172 O ?_
 intro z hz
 have hnl:=FI e
 refine Y O<|oi O λb1=>oi O λb2=>oM O (yA O v) λb3=>om O<|zF<|Y O<|zN yX (J 1 O) O<|qK O uB (zOs e zB) (oy O)<|om O<|oo O O<|yL O<|zA<|zK O ?_ ?_<;>intro c1<;>try simp only [sx] at c1
 ·refine Y O<|yI O v pr<|G O<|ow 0 D O<|om O<|zM<|oJ (zY yD O (J 0 O) O) (ox O) ?_
  rw [CH c1];rfl
 ·refine zJ<|Y O<|zN yX (J 1 O) O<|qK O uB (OwnR.pur (Nq e zB)) (oy O)<|om O<|zF<|ol O O<|zS<|zT ⟨[(10,.c _),(1,.c _),(3,.c _),(5,.c _),(6,.c _),(9,.c _)],[_,_,_]⟩ (oz [true,true,true] oH O)<|qG 1 0 O O (Nat) (λk=>[(10,vI k)]) (λk=>[]) (λk=>k<=(dE e).length/\(dU n.Bufs (bd.map Bd.Name) (dE e)=dU n.Bufs (bd.map Bd.Name) ((dE e).drop k))) (λk=>(dE e).length-k) ⟨0,⟨zB,O⟩,oz [true,true,true] oH O⟩ ?_
  rintro k ⟨hk,hp⟩
  refine zF<|oo O O<|G O<|qC O pa<|yC O<|zA<|zK O ?_ ?_<;>intro c2<;>try simp only [sx] at c2
  ·obtain ⟨x,hx⟩:=qX (dE e) k zB
   refine zJ<|zF<|zS<|zF<|yE 8 mixed uB O O<|ou O (qA O ro O (J 2 O) O)<|ou O (zQ O O)<|ou O (zQ O O)<|ou O (zQ O O)<|ou O (qI O pa O O zB (Aa uC))<|ou O (qA O yX O qE O)<|ou O (qP O uB (I5 n bd x hn hb (by have:=zId e x (qD hx);omega)) (oy O))<|ou O (yK O O)<|yY<|zA<|oo O O<|yL O<|zA<|zK O ?_ ?_<;>intro c3<;>try simp only [sx] at c3
   ·refine Y O<|yI O v pr<|G O<|ow 0 D O<|om O<|zM<|oJ (zY yD O (J 0 O) O) (ox O) ?_
    rw [CI c1 (by rw [hp,BE hx c3];exact c3),hp,BE hx c3];rfl
   ·refine zJ<|zP O<|G O<|qH O ⟨zB,zB⟩<|G O<|zA ?_
    refine ⟨k+1,⟨zB,hp.trans (Nd hx c3)⟩,zB,oz [true,true,true] oH O⟩
  ·refine qL<|Y O<|zN ro (J 2 O) O<|zN yX (J 1 O) O<|qK O uB (IX n e hn (VG c1) zB) (oy O)<|kG O<|yF O<|ow 0 D O<|om O<|zM<|oJ (zY yD O (J 0 O) O) (ox O) ?_
   rw [TM c1 (by rw [hp,kN zB];rfl)];rfl
def Gf (s:St) (hs:s.wt<=900000000):
    oK cfg 170 [GT s] (vB (gT s)):=by
 refine zW func170 O ntmps170 results170 O ?_
 intro z hz
 obtain ⟨hE,hI,hIw,hB,hBw⟩:=St.parts hs
 refine Y O<|oi O λb1=>om O<|zF<|yE 8 mixed uB O O<|ou O (zG O AG O)<|ou O (zH O uB O (J 0 O) O)<|ou O (yU O O O)<|ou O (zG O AG O)<|ou O (zH O uB O (J 0 O) O)<|ou O (yU O O O)<|ou O (yK O O)<|ou O (yK O O)<|yY<|zA<|Y O<|zC O AG<|zE uB (J 0 O) O<|yR O<|G O<|oL O (λg2_3=>zG O AG O) O<|oG 16 O (λg2_3=>zH O uB O (J 0 O) O) O<|oG 17 O (λg2_3=>yU O O O) O<|oN O (λh=>(oY h))<|om O<|zF<|oo O O<|kQ O<|G O<|oL O (λg3_2=>zQ O O) O<|oG 23 O (λg3_2=>wM O O) O<|kF O (λh=>h)<|G O<|oL O (λg3_6=>zQ O O) O<|oG 27 O (λg3_6=>wM O O) O<|kF O (λh=>h)<|zA<|zK O (λc1=>?_) (λc1=>?_)
 ·refine ol O O<|zM<|zV O ?_
  exact ai vB (pln_1 c1)
 ·refine zJ<|zF<|oo O O<|kQ O<|G O<|oL O (λg5_2=>zG O Td O) O<|oG 33 O (λg5_2=>zH O uB O (J 0 O) O) O<|oG 34 O (λg5_2=>wI O O O) O<|oG 35 O (λg5_2=>zQ O O) O<|oV [] O oW T (λg5_6=>zG O Xl O) O<|oV [(37,_)] O oW ⟨O,O,T⟩ (λg5_6=>zH O uB O (J 0 O) O) O<|oV [(38,_)] O oW ⟨O,O,T⟩ (λg5_6=>wI O O O) O<|oG 36 O (λg5_2=>tj O O O O (λh=>kO uC (oY h))) O<|kF O (λh=>h)<|G O<|oL O (λg5_12=>zG O AG O) O<|oG 43 O (λg5_12=>zH O uB O (J 0 O) O) O<|oG 44 O (λg5_12=>wI O O O) O<|oG 45 O (λg5_12=>zQ O O) O<|oV [] O oW T (λg5_16=>zG O Tc O) O<|oV [(47,_)] O oW ⟨O,O,T⟩ (λg5_16=>zH O uB O (J 0 O) O) O<|oV [(48,_)] O oW ⟨O,O,T⟩ (λg5_16=>wI O O O) O<|oG 46 O (λg5_12=>wX O O O (λh=>kO uC h) O) O<|oN O (λh=>(oY h))<|G O<|oL O (λg5_22=>zQ O O) O<|oG 53 O (λg5_22=>zQ O O) O<|oV [] O oW T (λg5_24=>zG O AF O) O<|oV [(55,_)] O oW ⟨O,O,T⟩ (λg5_24=>zH O uB O (J 0 O) O) O<|oV [(56,_)] O oW ⟨O,O,T⟩ (λg5_24=>S4 O O O) O<|oG 54 O (λg5_22=>wX O O O (λh=>kO uC h) O) O<|oN O (λh=>(oY h))<|zA<|zK O (λc2=>?_) (λc2=>?_)
  ·refine ol O O<|zM<|zV O ?_
   exact ai vB (pln_2 c2)
  ·refine zJ<|zF<|oo O O<|kQ O<|G O<|oL O (λg7_2=>zG O Tb O) O<|oG 63 O (λg7_2=>zH O uB O (J 0 O) O) O<|oG 64 O (λg7_2=>yH O oO O) O<|oG 65 O (λg7_2=>kE O O O) O<|kF O (λh=>h)<|G O<|oL O (λg7_8=>zQ O O) O<|oG 69 O (λg7_8=>zQ O O) O<|oV [] O oW T (λg7_10=>zG O Cf O) O<|oV [(71,_)] O oW ⟨O,O,T⟩ (λg7_10=>zH O uB O (J 0 O) O) O<|oV [(72,_)] O oW ⟨O,O,T⟩ (λg7_10=>yH O oT O) O<|oV [(73,_)] O oW ⟨O,O,T⟩ (λg7_10=>kE O O O) O<|oG 70 O (λg7_8=>wX O O O (λh=>kO uC h) O) O<|oN O (λh=>(oY h))<|zA<|zK O (λc3=>?_) (λc3=>?_)
   ·refine ol O O<|zM<|zV O ?_
    exact ai vB (pln_3 c3)
   ·refine zJ<|oo O O<|kQ O<|G O<|oL O (λg9_2=>zG O D4 O) O<|oG 80 O (λg9_2=>qA O yX O (J 0 O) O) O<|oL O (λg9_2=>LT nt O pd qy O O) O<|oV [(81,_),(82,_)] O oP ⟨O,O,O,O,T⟩ (λg9_2=>qP O uB (AL s.E zEx zB) (oy O)) O<|oN O (λh=>(oY h))<|om O<|zM<|zV O ?_
    exact ai vB (pln_4 c1 c2 c3)
def Gg (n:Ns) (bd:List Bd) (s:St) (hn:n.Ok) (hb:bd.length<=1000000) (hs:s.wt<=900000):
    oK cfg 174 [va n,gJ bd,GT s] (vI (lQ n.Bufs (bd.map Bd.Name) s)):=by
 refine zW func174 O ntmps174 results174 O ?_
 intro z hz
 obtain ⟨hE,hI,hIw,hB,hBw⟩:=St.parts hs
 have hrd:=Q3 s
 refine Y O<|oi O λb1=>oi O λb2=>om O<|zF<|Y O<|zN ro (J 1 O) O<|G O<|zC O AF<|zE uB (J 0 O) O<|zC O Tb<|zE uB (J 0 O) O<|yO ny O pd qy<|qK O uB (zKl n bd (D7 s) hn hb zB) (oy O)<|qW O<|kG O<|yF O<|oM O (yA O v) λb3=>ow 0 D O<|om O<|oo O O<|yL O<|zA<|zK O ?_ ?_<;>intro c1<;>try simp only [sx] at c1
 ·refine oo O O<|om O<|zM<|zV O ?_
  rw [GH c1]
 ·refine zJ<|Y O<|zN ro (J 2 O) O<|zC O AF<|zE uB (J 1 O) O<|qK O uB (zEz n s.Name hn) (oy O)<|qW O<|kG O<|yF O<|oM O (qJ nu O pz O) λb4=>ow 0 rm O<|om O<|zF<|Y O<|zC O OF<|zE uB (J 0 O) O<|yR O<|G O<|oL O (λg5_3=>zG O AG O) O<|oG 38 O (λg5_3=>zH O uB O (J 2 O) O) O<|oG 39 O (λg5_3=>yU O O O) O<|oG 40 O (λg5_3=>zQ O O) O<|oV [] O oW T (λg5_7=>zG O Tc O) O<|oV [(42,_)] O oW ⟨O,O,T⟩ (λg5_7=>zH O uB O (J 2 O) O) O<|oV [(43,_)] O oW ⟨O,O,T⟩ (λg5_7=>Ad O O O) O<|oV [(44,_)] O oW ⟨O,O,T⟩ (λg5_7=>zQ O O) O<|oV [] O oW T (λg5_11=>zG O Tc O) O<|oV [(46,_)] O oW ⟨O,O,T⟩ (λg5_11=>zH O uB O (J 2 O) O) O<|oV [(47,_)] O oW ⟨O,O,T⟩ (λg5_11=>kE O O O) O<|oV [(45,_)] O oW ⟨O,O,T⟩ (λg5_7=>tj O O O O (λh=>kO uC (oY h))) O<|oG 41 O (λg5_3=>wX O O O (λh=>kO uC h) O) O<|oN O (λh=>(oY h))<|zA<|zK O ?_ ?_<;>intro c2<;>try simp only [sx] at c2
  ·refine ol O O<|zM<|zV O ?_
   rw [zd c1 c2]
  ·refine zJ<|Y O<|zN ro (J 3 O) O<|G O<|zC O D4<|zN yX (J 2 O) O<|qK O uB (zKl n bd s.E hn hb zB) (oy O)<|qW O<|kG O<|yF O<|oM O (yA O v) λb5=>ow 0 D O<|om O<|zF<|oo O O<|yR O<|G O<|oL O (λg8_2=>zG O D4 O) O<|oG 63 O (λg8_2=>qA O yX O (J 3 O) O) O<|oG 64 O (λg8_2=>qP O uB (kZ _) (oy O)) O<|oG 65 O (λg8_2=>zQ O O) O<|oV [] O oW T (λg8_6=>qA O yD O (J 0 O) O) O<|oV [] O oW T (λg8_6=>zG O S8 O) O<|oV [(68,_)] O oW ⟨O,O,T⟩ (λg8_6=>qA O yD O (J 1 O) O) O<|oV [(67,_),(69,_)] O oW ⟨O,O,O,O,T⟩ (λg8_6=>JE O tf O O O) O<|oG 66 O (λg8_2=>tj O O O O (λh=>kO uC (oY h))) O<|kF O (λh=>h)<|zA<|zK O (λc3=>?_) (λc3=>?_)
   ·obtain ⟨h0,h10⟩:=st3_t c3
    refine ol O O<|zM<|zV O ?_
    rw [BR c1 zB h0 h10]
   ·have h3:=st3_f c3
    refine zJ<|oo O O<|om O<|zM<|zV O ?_
    rw [Zn c1 zB h3]
def Nu (n:Ns) (bd:List Bd) (U:List nq) (s:St) (hn:n.Ok) (hb:bd.length<=1000000) (hs:s.wt<=900000) (hU:U.length<=1000000):
    oK cfg 109 [va n,gJ bd,sy U,GT s] (vI (GD n.Bufs U (bd.map Bd.Name) s)):=by
 refine zW func109 O ntmps109 results109 O ?_
 intro z hz
 obtain ⟨hE,hI,hIw,hB,hBw⟩:=St.parts hs
 refine Y O<|oi O λb1=>oi O λb2=>om O<|zF<|Y O<|zN uq (J 0 O) O<|qK O uB (Gf s zB) (oy O)<|kQ O<|zA<|zK O ?_ ?_<;>intro c1<;>try simp only [sx] at c1
 ·refine ol O O<|zM<|zV O ?_
  rw [WA c1]
 ·refine zJ<|zF<|Y O<|zC O AG<|zE uB (J 0 O) O<|zA<|zS<|Y O<|yR O<|om O<|qQ O (λc2=>?_) (λc2=>?_)
  ·refine Y O<|zN ro (J 1 O) O<|zC O AF<|zE uB (J 0 O) O<|qK O uB (zEz n s.Name hn) (oy O)<|qW O<|kG O<|yF O<|oM O (qJ nu O pz O) λb3=>ow 0 rm O<|om O<|zF<|zS<|Y O<|zC O AF<|zE uB (J 1 O) O<|qK O uB (VI s.Name) (oy O)<|kQ O<|om O<|zK O ?_ ?_<;>intro c3<;>try simp only [sx] at c3
   ·refine ol O O<|zM<|zV O ?_
    rw [GF c1 c2,KI c3]
   ·refine oo O O<|G O<|oL O (λg8_1=>zQ O O) O<|oL O (λg8_1=>zG O AF O) O<|oG 36 O (λg8_1=>zH O uB O (J 1 O) O) O<|oV [(35,_),(37,_)] O oP ⟨O,O,O,O,T⟩ (λg8_1=>qP O uB (VM U s.Name zB) (oy O)) O<|oN O (λh=>(oY h))<|om O<|zK O ?_ ?_<;>intro c4<;>try simp only [sx] at c4
    ·refine ol O O<|zM<|zV O ?_
     rw [GF c1 c2,KJ c3 c4]
    ·have h8:¬(gB n.Bufs s.Name=true∨bQ U s.Name=true):=by rw [c4.1,c4.2];simp
     refine Y O<|zC O Td<|zE uB (J 1 O) O<|yC O<|G O<|oL O (λg10_3=>zG O Td O) O<|oG 45 O (λg10_3=>zH O uB O (J 1 O) O) O<|oG 46 O (λg10_3=>kE O O O) O<|oN O (λh=>(oY h))<|G O<|oL O (λg10_8=>zG O Xl O) O<|oG 50 O (λg10_8=>zH O uB O (J 1 O) O) O<|oG 51 O (λg10_8=>Ad O O O) O<|oN O (λh=>(oY h))<|G O<|oL O (λg10_13=>zG O Xl O) O<|oG 55 O (λg10_13=>zH O uB O (J 1 O) O) O<|oG 56 O (λg10_13=>kE O O O) O<|oN O (λh=>(oY h))<|om O<|zK O ?_ ?_<;>intro c5<;>try simp only [sx] at c5
     ·refine ol O O<|zM<|zV O ?_
      rw [GF c1 c2,KH c3 h8 zB]
     ·refine zJ<|ol O O<|zM<|zV O ?_
      rw [GF c1 c2,KG c3 h8 zB]
  ·refine Y O<|yR O<|om O<|qQ O (λc6=>?_) (λc6=>?_)
   ·refine Y O<|zN ro (J 1 O) O<|G O<|zC O D4<|zN yX (J 0 O) O<|qK O uB (zKl n bd s.E hn hb zB) (oy O)<|qW O<|kG O<|yF O<|oM O (yA O v) λb4=>ow 0 D O<|om O<|zF<|oo O O<|yR O<|G O<|oL O (λg15_2=>zG O D4 O) O<|oG 72 O (λg15_2=>qA O yX O (J 1 O) O) O<|oG 73 O (λg15_2=>qP O uB (kZ _) (oy O)) O<|oG 74 O (λg15_2=>wM O O) O<|kF O (λh=>h)<|zA<|zK O (λc7=>?_) (λc7=>?_)
    ·refine ol O O<|zM<|zV O ?_
     rw [GE c1 c6,if_t c7]
    ·refine zJ<|oo O O<|om O<|zM<|zV O ?_
     rw [GE c1 c6,Yl c7]
   ·refine zJ<|Y O<|zN ro (J 1 O) O<|G O<|zN uq (J 0 O) O<|qK O uB (Gg n bd s hn hb hs) (oy O)<|om O<|zM<|zV O ?_
    rw [WB c1 c2 c6]
set_option maxHeartbeats 2000000 in
def zMi (n:Ns) (bd:List Bd) (U:List nq) (l:List St) (W:List Int) (hn:n.Ok) (hU:U.length+fG l<=1000000) (hb:bd.length+fG l<=1000000) (hW:W.length+fG l<=1000000) (hl:bR l<=900000) (ih:∀s,s∈l->∀(bd:List Bd) (U:List nq) (W:List Int),U.length+fG s.Body<=1000000->bd.length+fG s.Body<=1000000->W.length+fG s.Body<=1000000->oK cfg 51 [va n,gJ bd,sy U,fL s.Body,ss W] (ckC (gG n.Bufs U (bd.map Bd.Name) W 0 s.Body))):
    oK cfg 51 [va n,gJ bd,sy U,fL l,ss W] (ckC (gG n.Bufs U (bd.map Bd.Name) W 0 l)):=by
 refine zW func51 O ntmps51 results51 O ?_
 intro z hz
 have hll:=G9 l
 have hlN:=VK l
 refine Y O<|oi O λb1=>oM O (qJ [some 1,some 1,none] O Cg O) λb2=>zA<|zF<|ol O O<|zS<|zT ⟨[(11,.c _),(2,.c _),(1,.c _),(3,.c _),(4,.c _),(5,.c _),(10,.c _)],[_,_]⟩ (oz [true,true] oH O)<|qG 2 0 O O (Nat×List nq) (λ⟨k,u⟩=>[(11,vI k),(2,sy u)]) (λ⟨k,u⟩=>[]) (λ⟨k,u⟩=>k<=l.length/\(u.length+fG (l.drop k)<=1000000)/\((gG n.Bufs U (bd.map Bd.Name) W 0 l)=gG n.Bufs u (bd.map Bd.Name) W k (l.drop k))) (λ⟨k,u⟩=>l.length-k) ⟨⟨0,U⟩,⟨zB,by simpa using hU,O⟩,oz [true,true] ⟨zD,VLe.of_eq (O),zD,zD,zD,zD,zD,T⟩ O⟩ ?_
 rintro ⟨k,u⟩ ⟨hk,hub,hp⟩
 show oU _ _ _ _ _ ⟨[(11,vI k),(2,sy u)]++_,[]++_⟩
 refine zF<|oo O O<|G O<|qC O oT<|yC O<|zA<|zK O ?_ ?_<;>intro c1<;>try simp only [sx] at c1
 ·obtain ⟨s,hs⟩:=qX l k zB
  have hsw:=Og (qD hs)
  have hsb:=St.body_wt s
  have hsn:=BS hs
  have hse:=Xi s
  have hsm:=zVo (qD hs)
  have hcl:=vw n.Bufs s u (bd.map Bd.Name) (W++[(k:Int)])
  refine zJ<|zF<|zS<|Y O<|zX O (zPs O pf Oq)<|G O<|oM O (zPn O pf O O uG uG) λsv3=>G O<|yT O pf Oq<|oM O (qZ 0 O pf O O O uG uG) λsv4=>om O<|zF<|zF<|zT _ (Weak.vecEq 0 O (rows':=(W++[(k:Int)]).map λi=>[cI i]) uK)<|zT _ (yJ 0 O (regs':=[(27,_),(12,_)]) (μ':=[_,_]) ⟨FLe.sl,FLe.sl,T⟩ ⟨EFle.refl _,EFle.refl _,T⟩)<|yE 9 mixed uB O O<|ou O (qA O ro O (J 1 O) O)<|ou O (zQ O O)<|ou O (zQ O O)<|ou O (zQ O O)<|ou O (zQ O O)<|ou O (qI O oT O O zB (ta uC))<|ou O (qA O uq O qE O)<|ou O (qP O uB (Nu n bd u s hn zB (by have:=Og (qD hs);omega) zB) (oy O))<|ou O (yK O O)<|yY<|zA<|oo O O<|yL O<|zA<|zK O ?_ ?_<;>intro c2<;>try simp only [sx] at c2
  ·have hx0:=JS (here:=W++[(k:Int)]) (B:=n.Bufs) (U:=u) (sc:=(bd.map Bd.Name)) (s:=s) c2
   refine oo O O<|G O<|yO [some 1,none,none] O Cg Wv<|ow 0 GM O<|zA<|zM<|pu (zY Cm O (J 0 O) O) ?_
   rw [W9 hs hp (by rw [hx0];exact c2),hx0];rfl
  ·have hin:=JR (here:=W++[(k:Int)]) (B:=n.Bufs) (U:=u) (sc:=(bd.map Bd.Name)) (s:=s) c2
   refine zJ<|oo O O<|om O<|zF<|oo O O<|G O<|qF O oT zB (ta uC)<|qS O AG<|zE uB qE O<|yR O<|zA<|qQ O (λc3=>?_) (λc3=>?_)
   ·rw [zQt c3,zQt c3,<-YM] at hin
    refine zF<|yN 9 1 [⟨0,.q []⟩,⟨1,.q []⟩,⟨3,.q []⟩,⟨4,.q []⟩,⟨5,.q []⟩,⟨6,.q []⟩,⟨7,.q []⟩,⟨8,.q []⟩,⟨2,.e 0 []⟩] mixed uB uB O O O<|zR O<|zR O<|zR O<|zR O<|zR O<|zR O<|zR O<|zR O<|zR O<|wG<|ot O (zPs O oR Hf)<|ot O (zQ O O)<|ot O (zQ O O)<|ot O (zQ O O)<|ot O (qI O oT O O zB (ta uC))<|ot O (qO O AF O)<|ot O (zH O uB O qE O)<|ot O (kV O oR Hf O O O O)<|sk O O uA O O (zPn O oR O O uG uG) ?_
    rintro _ _ ⟨sv5,rfl,rfl⟩
    refine ⟨_,O,?_⟩
    refine wE O<|oM O (qZ 0 O oR O O O uG uG) λsv6=>om O<|yN 15 1 [⟨0,.q []⟩,⟨1,.q []⟩,⟨3,.q []⟩,⟨4,.q []⟩,⟨5,.q []⟩,⟨6,.q []⟩,⟨7,.q []⟩,⟨8,.q []⟩,⟨9,.q []⟩,⟨10,.q []⟩,⟨11,.q []⟩,⟨12,.q []⟩,⟨13,.q []⟩,⟨14,.q []⟩,⟨2,.e 0 []⟩] mixed uB uB O O O<|zR O<|zR O<|zR O<|zR O<|zR O<|zR O<|zR O<|zR O<|zR O<|zR O<|zR O<|zR O<|zR O<|zR O<|zR O<|wG<|ot O (zPs O qa AH)<|ot O (zQ O O)<|ot O (zQ O O)<|ot O (zQ O O)<|ot O (qI O oT O O zB (ta uC))<|ot O (qO O AF O)<|ot O (zH O uB O qE O)<|ot O (zQ O O)<|ot O (zQ O O)<|ot O (qI O oT O O zB (ta uC))<|ot O (qO O Td O)<|ot O (zH O uB O qE O)<|ot O (LU O AH Y0 O)<|ot O (kV O qa AH O O O O)<|sk O O uA O O (zPn O qa O O uG uG) ?_
    rintro _ _ ⟨sv7,rfl,rfl⟩
    refine ⟨_,O,?_⟩
    refine wE O<|oM O (qZ 0 O qa O O O uG uG) λsv8=>om O<|zF<|zT _ (Weak.vecEq 1 O (rows':=(u++[s.Name]).map λs=>[cS s]) uK)<|zT _ (yJ 1 O (regs':=[(2,_),(57,_)]) (μ':=[_,_,_]) ⟨FLe.sl,FLe.sl,T⟩ ⟨EFle.refl _,EFle.refl _,EFle.refl _,T⟩)<|zT _ (Weak.vecEq 0 O (rows':=(bd++[(⟨s.Name,s.Many⟩:Bd)]).map Bd.cells) (by rw [ah];rfl))<|zT _ (yJ 0 O (regs':=[(14,_),(73,_)]) (μ':=[_,_]) ⟨FLe.sl,FLe.sl,T⟩ ⟨EFle.refl _,EFle.refl _,T⟩)<|yN 11 1 [⟨0,.q [2]⟩,⟨1,.q []⟩,⟨2,.q []⟩,⟨3,.q []⟩,⟨4,.q []⟩,⟨5,.q []⟩,⟨6,.q []⟩,⟨7,.q []⟩,⟨8,.q []⟩,⟨9,.q []⟩,⟨10,.f 0⟩] mixed uB uB O O O<|zR O<|zR O<|zR O<|zR O<|zR O<|zR O<|zR O<|zR O<|zR O<|zR O<|SA O O (wY (qJ [some 1,some 1,none] O Cg O)) ⟨_,_,0,O,O⟩<|wG<|ot O (qA O ro O (J 0 O) O)<|ot O (zQ O O)<|ot O (zQ O O)<|ot O (zQ O O)<|ot O (zQ O O)<|ot O (qI O oT O O zB (ta uC))<|ot O (qO O Cf O)<|ot O (zH O uB O qE O)<|ot O (zQ O O)<|ot O (qP O uB (ih s (qD hs) (bd++[(⟨s.Name,s.Many⟩:Bd)]) (u++[s.Name]) (W++[(k:Int)]) (by first|omega|(simp;omega)) (by first|omega|(simp;omega)) uD) (oy O))<|Sx O O ?_
    rintro _ _ ⟨b9,rfl,rfl⟩
    exact m7
   ·rw [zVv c3,zVv c3] at hin
    refine zJ<|zF<|yN 11 1 [⟨0,.q [2]⟩,⟨1,.q []⟩,⟨2,.q []⟩,⟨3,.q []⟩,⟨4,.q []⟩,⟨5,.q []⟩,⟨6,.q []⟩,⟨7,.q []⟩,⟨8,.q []⟩,⟨9,.q []⟩,⟨10,.f 0⟩] mixed uB uB O O O<|zR O<|zR O<|zR O<|zR O<|zR O<|zR O<|zR O<|zR O<|zR O<|zR O<|SA O O (wY (qJ [some 1,some 1,none] O Cg O)) ⟨_,_,0,O,O⟩<|wG<|ot O (qA O ro O (J 0 O) O)<|ot O (zQ O O)<|ot O (zQ O O)<|ot O (zQ O O)<|ot O (zQ O O)<|ot O (qI O oT O O zB (ta uC))<|ot O (qO O Cf O)<|ot O (zH O uB O qE O)<|ot O (zQ O O)<|ot O (qP O uB (ih s (qD hs) bd u (W++[(k:Int)]) (by first|omega|(simp;omega)) (by first|omega|(simp;omega)) uD) (oy O))<|Sx O O ?_
    rintro _ _ ⟨b10,rfl,rfl⟩
    exact m7
 ·refine qL<|oo O O<|yO [none,some 1,none] O Cg Wv<|ow 0 GM O<|zA<|zM<|pu (zY Cm O (J 0 O) O) ?_
  rw [zWo hp zB];rfl
def zXu (n:Ns) (hn:n.Ok) (s:St) (hl:bR s.Body<=900000):∀(bd:List Bd) (U:List nq) (W:List Int),U.length+fG s.Body<=1000000->bd.length+fG s.Body<=1000000->W.length+fG s.Body<=1000000->oK cfg 51 [va n,gJ bd,sy U,fL s.Body,ss W] (ckC (gG n.Bufs U (bd.map Bd.Name) W 0 s.Body)):=by
  induction s using St.ind with
  |_ s ih=>
    intro bd U W hU hb hW
    refine zMi n bd U s.Body W hn hU hb hW hl λa ha=>ih a ha ?_
    have:=Og ha;have:=St.body_wt a;omega
def IY (n:Ns) (bd:List Bd) (U:List nq) (l:List St) (W:List Int)  (hn:n.Ok) (hU:U.length+fG l<=1000000) (hb:bd.length+fG l<=1000000) (hW:W.length+fG l<=1000000) (hl:bR l<=900000):oK cfg 51 [va n,gJ bd,sy U,fL l,ss W] (ckC (gG n.Bufs U (bd.map Bd.Name) W 0 l)):=
  zMi n bd U l W hn hU hb hW hl λs hs=>zXu n hn s xV6
def yz (n:Ns) (hn:n.Ok) (hw:bR n.Body<=900000):
    oK cfg 17 [va n] (.tup [ss (jF n).1,vI (jF n).2]):=by
 refine zW func17 O ntmps17 results17 O λz hz=>Y O<|oi O λb1=>qY 1 O<|om O<|zF<|Y O<|zC O tm<|zE uB (J 0 O) O<|qK O uB (Ge 41 n.Body 41 zB zB O) (oy O)<|sf O<|zA<|zK O ?_ ?_<;>intro c1<;>try simp only [sx] at c1
 ·have hwi:=Se c1
  refine Y O<|qY 1 O<|om O<|zM<|oJ (ox O) (ox O) ?_
  rw [B3 hwi];rfl
 ·have hwi:=Sf c1
  refine zJ<|zF<|Y O<|zC O tm<|zE uB (J 0 O) O<|qK O uB (I6 n.Body 2000 2000 zB zB O) (oy O)<|sf O<|G O<|oL O (λg3_4=>zG O rz O) O<|oG 15 O (λg3_4=>zH O uB O (J 0 O) O) O<|oG 16 O (λg3_4=>yH O pq O) O<|oG 17 O (λg3_4=>kE O O O) O<|oN O (λh=>(oY h))<|zA<|zK O ?_ ?_<;>intro c2<;>try simp only [sx] at c2
  ·refine Y O<|qY 1 O<|om O<|zM<|oJ (ox O) (ox O) ?_
   rw [GU hwi zB];rfl
  ·have hnum:=K7 (l:=n.Body) (m:=2000) zB
   refine zJ<|zF<|Y O<|zN ro (J 0 O) O<|qK O uB (IZ n hn) (oy O)<|om O<|oo O O<|yL O<|zA<|zK O ?_ ?_<;>intro c3<;>try simp only [sx] at c3
   ·refine oo O O<|qY 1 O<|om O<|zM<|oJ (ox O) (ox O) ?_
    rw [GV hwi zB c3];rfl
   ·refine zJ<|Y O<|zN ro (J 0 O) O<|zC O tm<|zE uB (J 0 O) O<|qK O uB (IY n [] [] n.Body [] hn uD uD uD hw) ⟨zD,O,VLe.nil,O,VLe.nil,O,zD,O,VLe.nil,O,T⟩<|oM O (qJ [some 1,some 1,none] O Cg O) λb2=>ow 0 GM O<|zA<|zF<|yE 6 mixed uB O O<|ou O (zG O TO O)<|ou O (zH O uB O (J 0 O) O)<|ou O (zG O Ko O)<|ou O (zH O uB O (J 0 O) O)<|ou O (yK O O)<|ou O (yK O O)<|yY<|zA<|zM<|oJ (ox O) (ox O) ?_
    rw [zp hwi zB c3];rfl
end Go.W
end
section
set_option maxRecDepth 10000
namespace Go.W
open Go Go.Eng Go.Proofs Go.L41 Go.Br Tryz
attribute [local irreducible] oU oX TD gF
end Go.W
end
section
set_option maxRecDepth 10000
namespace Go.W
open Go Go.Eng Go.Proofs Go.L41 Go.Br Tryz
attribute [local irreducible] oU oX TD gF
end Go.W
end
section
set_option maxRecDepth 10000
namespace Go.W
open Go Go.Eng Go.Proofs Go.L41 Go.Br Tryz
attribute [local irreducible] oU oX TD gF
end Go.W
end
section
set_option maxRecDepth 10000
namespace Go.W
open Go Go.Eng Go.Proofs Go.L41 Go.Br Tryz
attribute [local irreducible] oU oX TD gF
end Go.W
end
section
set_option maxRecDepth 10000
namespace Go.W
open Go Go.Eng Go.Proofs Go.L41 Go.Br Tryz
attribute [local irreducible] oU oX TD gF
def L6 (a b:List Int) (ha:a.length<=17592186044416):
    oK cfg 47 [ss a,ss b] (vB (decide (a=b))):=by
 refine zW func47 O ntmps47 results47 O λz hz=>ol O O<|zF<|oo O O<|qC O pf<|G O<|qC O pf<|yL O<|zA<|zK O (λc1=>?_) (λc1=>?_)
 ·exact v12
 ·try simp only [sx] at c1
  refine zJ<|zF<|ol O O<|zS<|zT ⟨[(5,.c _),(0,.c _),(1,.c _)],[]⟩ (oz [] oH O)<|qG 1 0 O O (Nat) (λk=>[(5,vI k)]) (λk=>[]) (λk=>k<=a.length/\(a.take k=b.take k)) (λk=>a.length-k) ⟨0,⟨zB,O⟩,oz [] oH O⟩ ?_
  rintro k ⟨hk,hp⟩
  refine zF<|oo O O<|G O<|qC O pf<|yC O<|zA<|zK O (λc2=>?_) (λc2=>?_)
  ·try simp only [sx] at c2
   obtain ⟨x,hx⟩:=qX a k zB
   obtain ⟨y,hy⟩:=qX b k zB
   refine zJ<|zF<|zS<|zF<|yE 9 mixed uB O O<|ou O (zQ O O)<|ou O (zQ O O)<|ou O (qI O pf O O zB (oI uC))<|ou O (zH O uB O qE O)<|ou O (zQ O O)<|ou O (zQ O O)<|ou O (qI O pf O O zB (oI uC))<|ou O (zH O uB O qE O)<|ou O (wI O O O)<|yY<|zA<|zK O (λc3=>?_) (λc3=>?_)
   ·exact v36
   ·exact m8
  ·exact v16
end Go.W
end
section
set_option maxRecDepth 10000
namespace Go.W
open Go Go.Eng Go.Proofs Go.L41 Go.Br Tryz
attribute [local irreducible] oU oX TD gF
def sz9:(prog.info? 9).map (·.size)=some 1:=by kernel_rfl
def RO:(prog.info? 33).map (·.size)=some 1:=by kernel_rfl
def zXl (l:List St) (hl:l.length<=4294967296):
    OwnR cfg 193 [fL l] 64 20 (l.map St.cells):=by
 refine zW func193 O ntmps193 results193 O λz hz=>Y O<|qY 20 O<|zA<|zF<|oo O O<|qB O O (zJr O oT O O) ?_
 rintro _ _ ⟨nb1,rfl,hnil1,rfl⟩
 refine zA<|zK O ?_ ?_<;>intro c1<;>try simp only [sx] at c1
 ·refine oo O O<|yQ _ (kD 64 20)<|zA<|zM<|zV O ?_
  exact ⟨_,O,by rw [hnil1 c1]⟩
 ·refine zJ<|Y O<|oM O (LS O oT pp O O O O) λsv3=>G O<|qB O O (qZ 0 O oT O O O uJ uJ) ?_
  exact v20
def zEw (f:Lf->Lf×Int) (c:C) (P:Lf->Prop) (hf:∀l,P l->FnPur cfg c [dF l] (.tup [dF (f l).1,vI (f l).2])) (i:List Ix) (hi:i.length<=4294967296) (hA:∀x,x∈i->x.At.length<=4294967296) (hP:xE P i):
    oK cfg 194 [mX i,.c c] (.tup [mX (oC (dR f i)),vI (gM (dR f i))]):=by
 refine zW func194 O ntmps194 results194 O λz hz=>Y O<|qY 4 O<|om O<|oo O O<|oM O (WV O uB (zMc i hi) (oy O)) λsv1=>om O<|ol O O<|zF<|oo O O<|qC O oO<|om O<|zS<|zT ⟨[(14,.c _),(0,.c _),(1,.c _),(6,.c _),(13,.c _)],[_]⟩ (oz [true] oH O)<|qG 1 1 O O (Nat×List Ix) (λ⟨k,outs⟩=>[(14,vI k)]) (λ⟨k,outs⟩=>[E.vec sv1 93 4 (outs.map Ix.cells++(i.drop k).map Ix.cells)]) (λ⟨k,outs⟩=>k<=i.length/\(outs.length=k)/\(dR f i=bY outs (dR f (i.drop k)))) (λ⟨k,outs⟩=>i.length-k) ⟨⟨0,[]⟩,⟨zB,O,(SU _).symm⟩,oz [true] oH O⟩ ?_
 rintro ⟨k,outs⟩ ⟨hk,ho,hp⟩
 show oU _ _ _ _ _ ⟨[(14,vI k)]++_,[E.vec sv1 93 4 (outs.map Ix.cells++(i.drop k).map Ix.cells)]++_⟩
 refine Y O<|yC O<|zA<|zF<|zK O ?_ ?_<;>intro c1<;>try simp only [sx] at c1
 ·obtain ⟨x,hx⟩:=qX i k zB
  have hAx:=hA x (qD hx)
  refine zJ<|zF<|zS<|oo O O<|om O<|zF<|oo O O<|G O<|G O<|G O<|G O<|qF O oO zB (oI uC)<|qS O vc<|zN yV qE O<|zX O (wS O O (hf x.Lin (hP x (qD hx)).1) (oy O))<|qW O<|kG O<|yF O<|zX O (qU 0 O oO O O O zB (Xe uD zB))<|zX O (wL O vc O)<|wO O O (yP O oZ O O O (Hl 0 O (zTd uD hx) O))<|om O<|oo O O<|yL O<|zA<|zK O ?_ ?_<;>intro c2<;>try simp only [sx] at c2
  ·refine oo O O<|qY 4 O<|om O<|zM<|oJ (ox O) (ox O) ?_
   rw [zYt hx hp (Il c2)];rfl
  ·refine zJ<|oo O O<|G O<|G O<|G O<|qF O oO zB (oI uC)<|qS O rt<|zE uB qE O<|oM O (WV O uB (zLh x.At (hA x (qD hx))) (oy O)) λsv2=>zX O (qU 1 O oO O O O zB uD)<|zX O (wL O rt O)<|wO O O (yP O Vj O O O (Hl 1 O (VN uD) O))<|zA<|oo O O<|G O<|qF O oO zB (oI uC)<|qS O rt<|zE uB qE O<|qC O oS<|om O<|zS<|zT ⟨[(50,.c _),(0,.c _),(1,.c _),(6,.c _),(8,.c _),(13,.c _),(14,.c _),(49,.c _)],[_,_]⟩ (oz [true,true] oH O)<|qG 1 1 O O (Nat×List Lf) (λ⟨j,lins⟩=>[(50,vI j)]) (λ⟨j,lins⟩=>[E.vec sv2 59 2 (lins.map Lf.cells++(x.At.drop j).map Lf.cells)]) (λ⟨j,lins⟩=>j<=x.At.length/\(lins.length=j)/\(dQ f x.At=bY lins (dQ f (x.At.drop j)))) (λ⟨j,lins⟩=>x.At.length-j) ⟨⟨0,[]⟩,⟨zB,O,(SU _).symm⟩,oz [true,true] oH O⟩ ?_
   rintro ⟨j,lins⟩ ⟨hj,hlo,hq⟩
   show oU _ _ _ _ _ ⟨[(50,vI j)]++_,[E.vec sv2 59 2 (lins.map Lf.cells++(x.At.drop j).map Lf.cells)]++_⟩
   refine Y O<|yC O<|zA<|zF<|zK O ?_ ?_<;>intro c3<;>try simp only [sx] at c3
   ·obtain ⟨l,hl⟩:=qX x.At j zB
    refine zJ<|zF<|zS<|oo O O<|om O<|zF<|yN 21 0 [⟨0,.q []⟩,⟨1,.q []⟩,⟨2,.q [1]⟩,⟨3,.q []⟩,⟨4,.q [1]⟩,⟨5,.q []⟩,⟨6,.q []⟩,⟨7,.q []⟩,⟨8,.q []⟩,⟨9,.q []⟩,⟨10,.q []⟩,⟨11,.q []⟩,⟨12,.q []⟩,⟨13,.q []⟩,⟨14,.q []⟩,⟨15,.q []⟩,⟨16,.q []⟩,⟨17,.q []⟩,⟨18,.q []⟩,⟨19,.q [0]⟩,⟨20,.e 0 []⟩] mixed uB uB O O O<|zR O<|zR O<|zR O<|zR O<|zR O<|zR O<|zR O<|zR O<|zR O<|zR O<|zR O<|zR O<|zR O<|zR O<|zR O<|zR O<|zR O<|zR O<|zR O<|zR O<|zR O<|wG<|ot O (zQ O O)<|ot O (zQ O O)<|ot O (qU 0 O oO O O O zB uD)<|ot O (wL O rt O)<|ot O (zH O uB O (kP 0 O (VN uD)) O)<|ot O (zQ O O)<|ot O (zQ O O)<|ot O (zQ O O)<|ot O (zQ O O)<|ot O (qI O oO O O zB (oI uC))<|ot O (qO O rt O)<|ot O (zH O uB O qE O)<|ot O (zQ O O)<|ot O (qI O oS O O zB (oI uC))<|ot O (qA O yV O qE O)<|ot O (wS O O (hf l ((hP x (qD hx)).2 l (qD hl))) (oy O))<|ot O (yS O O)<|ot O (kK O O O)<|ot O (kI O O O)<|ot O (qU 0 O oS O O O zB (Xe uD zB))<|uh O O uA O O (yP O oZ O O O (Hl 0 O (zTd uD hl) O)) ?_
    rintro _ _ ⟨rfl,rfl⟩
    refine ⟨_,O,?_⟩
    refine wE O<|om O<|oo O O<|yL O<|zA<|zK O ?_ ?_<;>intro c4<;>try simp only [sx] at c4
    ·refine oo O O<|qY 4 O<|om O<|zM<|oJ (ox O) (ox O) ?_
     rw [zYt hx hp (Im c2 (ya hl hq c4))];rfl
    ·refine zJ<|zP O<|qH O ⟨zB,zB⟩<|G O<|zA ?_
     refine ⟨⟨j+1,lins++[(f l).1]⟩,⟨zB,uD,zTf hl hq c4⟩,(by show x.At.length-(j+1)<x.At.length-j;omega),oz [true,true] oH (by simp only [bu];rw [zMs uD hl];simp only [ah,aG,bt];rfl)⟩
   ·have hml:=zYr hq zB
    rw [kN (l:=x.At) (k:=j) zB]
    simp only [bt,rk]
    refine zT _ (yJ 0 O (regs':=[]) (μ':=[_]) T ⟨EFle.vec (r':=[_,_,_,_]) (VN uD) ⟨.inl O,.inl O,.inl O,.inr ⟨O,O⟩,T⟩,T⟩)<|qL<|zP O<|qH O ⟨zB,zB⟩<|G O<|zA ?_
    refine ⟨⟨k+1,outs++[⟨(f x.Lin).1,x.From,lins⟩]⟩,⟨zB,uD,zYu hx hp (In c2 hml)⟩,(by show i.length-(k+1)<i.length-k;omega),oz [true] oH xV8⟩
 ·have hmi:=x7 hp zB
  rw [kN (l:=i) (k:=k) zB]
  simp only [bt,rk]
  refine zT _ (yJ 0 O (regs':=[(6,_)]) (μ':=[]) ⟨FLe.sl,T⟩ T)<|qL<|oo O O<|G O<|om O<|zM<|oJ (ox O) (ox O) ?_
  rw [hmi];rfl
def zMw (f:Lf->Lf×Int) (c:C) (P:Lf->Prop) (hf:∀l,P l->FnPur cfg c [dF l] (.tup [dF (f l).1,vI (f l).2])) (e:Ex) (hP:e.allF P) (ih:∀a,a∈e.Args->a.allF P->a.cnt<=4294967296->oK cfg 195 [vE a,.c c] (.tup [vE (lG (pj f a)),vI (gM (pj f a))])) (he:e.cnt<=4294967296):
    oK cfg 195 [vE e,.c c] (.tup [vE (lG (pj f e)),vI (gM (pj f e))]):=by
 refine zW func195 O ntmps195 results195 O ?_
 intro z hz
 obtain ⟨hI,hA,hAt⟩:=e.cparts he
 have hPI:=MF hP
 refine Y O<|oi O λb1=>oM O (qJ nt O pd O) λb2=>om O<|Y O<|zN yX (J 1 O) O<|oM O (qJ nt O pd O) λb3=>ow 0 ph O<|zA<|ol O O<|zF<|oo O O<|zC O Ae<|zN yV (J 2 O) O<|zX O (wS O O (hf e.Lin (Ex.allF_lin hP)) (oy O))<|qW O<|kG O<|yF O<|zC O Ae<|ow 0 oZ O<|om O<|oo O O<|yL O<|zA<|zK O (λc1=>?_) (λc1=>?_)
 ·exact v68
 ·try simp only [sx] at c1
  refine zJ<|zF<|Y O<|zC O kX<|zE uB (J 2 O) O<|G O<|qK O uB (zEw f c P hf e.Idx hI hAt hPI) (oy O)<|qW O<|yF O<|yF O<|zC O kX<|ow 0 Jo O<|om O<|oo O O<|yL O<|zA<|zK O ?_ ?_<;>intro c2<;>try simp only [sx] at c2
  ·refine Y O<|yO nt O pd qy<|G O<|ow 1 ph O<|om O<|zM<|oJ (zY yX O (J 1 O) O) (ox O) ?_
   rw [C9 c1 (x8 c2)];rfl
  ·obtain ⟨di,hmi⟩:=Qq c2
   rw [hmi]
   refine zJ<|Y O<|zC O rn<|zE uB (J 2 O) O<|oM O (WV O uB (zMd e.Args hA) (oy O)) λsv4=>zC O rn<|ow 1 Vh O<|zA<|zF<|Y O<|zC O rn<|zE uB (J 3 O) O<|qC O pa<|om O<|zS<|zT ⟨[(41,.c _),(1,.c _),(2,.c _),(4,.c _),(6,.c _),(40,.c _)],[_,_,_,_]⟩ (oz [true,true,true,true] oH O)<|qG 1 1 O O (Nat×List Ex) (λ⟨n,exs⟩=>[(41,vI n)]) (λ⟨n,exs⟩=>[E.vec sv4 62 13 (exs.map Ex.cells++(e.Args.drop n).map Ex.cells)]) (λ⟨n,exs⟩=>n<=e.Args.length/\(exs.length=n)/\(gH f e.Args=bY exs (gH f (e.Args.drop n)))) (λ⟨n,exs⟩=>e.Args.length-n) ⟨⟨0,[]⟩,⟨zB,O,(SU _).symm⟩,oz [true,true,true,true] oH O⟩ ?_
   rintro ⟨n,exs⟩ ⟨hn,hno,hr⟩
   show oU _ _ _ _ _ ⟨[(41,vI n)]++_,[E.vec sv4 62 13 (exs.map Ex.cells++(e.Args.drop n).map Ex.cells)]++_⟩
   refine Y O<|yC O<|zA<|zF<|zK O ?_ ?_<;>intro c3<;>try simp only [sx] at c3
   ·obtain ⟨a,ha⟩:=qX e.Args n zB
    refine zJ<|zF<|zS<|oo O O<|om O<|zF<|yN 15 0 [⟨0,.q []⟩,⟨1,.q [1]⟩,⟨2,.q []⟩,⟨3,.q []⟩,⟨4,.q [3]⟩,⟨5,.q []⟩,⟨6,.q []⟩,⟨7,.q []⟩,⟨8,.q []⟩,⟨9,.q []⟩,⟨10,.q []⟩,⟨11,.q []⟩,⟨12,.q []⟩,⟨13,.q [0]⟩,⟨14,.e 0 []⟩] mixed uB uB O O O<|zR O<|zR O<|zR O<|zR O<|zR O<|zR O<|zR O<|zR O<|zR O<|zR O<|zR O<|zR O<|zR O<|zR O<|zR O<|wG<|ot O (zG O rn O)<|ot O (zH O uB O (J 0 O) O)<|ot O (zQ O O)<|ot O (zG O rn O)<|ot O (zH O uB O (J 0 O) O)<|ot O (zQ O O)<|ot O (qI O pa O O zB (Aa uC))<|ot O (qA O yX O qE O)<|ot O (zQ O O)<|ot O (qP O uB (ih a (qD ha) (Ex.allF_arg hP (qD ha)) (by have:=Ex.arg_cnt (qD ha);omega)) (oy O))<|ot O (yS O O)<|ot O (kK O O O)<|ot O (kI O O O)<|ot O (qU 0 O pa O O O zB (Xe uD zB))<|uh O O uA O O (yP O ph O O O (Hl 0 O (Fy uD ha) O)) ?_
    rintro _ _ ⟨rfl,rfl⟩
    refine ⟨_,O,?_⟩
    refine wE O<|om O<|oo O O<|yL O<|zA<|zK O ?_ ?_<;>intro c4<;>try simp only [sx] at c4
    ·refine Y O<|yO nt O pd qy<|G O<|ow 2 ph O<|om O<|zM<|oJ (zY yX O (J 2 O) O) (ox O) ?_
     rw [Ij c1 hmi (Da ha hr c4)];rfl
    ·refine zJ<|zP O<|qH O ⟨zB,zB⟩<|G O<|zA ?_
     refine ⟨⟨n+1,exs++[lG (pj f a)]⟩,⟨zB,uD,zYv ha hr c4⟩,(by show e.Args.length-(n+1)<e.Args.length-n;omega),oz [true,true,true,true] oH (by simp only [bu];rw [zMs uD ha];simp only [ah,aG,bt,Ex.cells_eq (lG (pj f a))];rfl)⟩
   ·have hme:=x5 hr zB
    rw [kN (l:=e.Args) (k:=n) zB]
    simp only [bt,rk]
    refine zT _ (yJ 0 O (regs':=[]) (μ':=[_,_,_]) T ⟨EFle.row (ds:=[_,_,_,_,_,_,_,_,_,_,_,_,_]) ⟨.inl O,.inl O,.inl O,.inl O,.inl O,.inl O,.inl O,.inl O,.inl O,.inl O,.inl O,.inl O,.inr ⟨O,O⟩,T⟩,EFle.refl _,EFle.refl _,T⟩)<|qL<|Y O<|zN yX (J 0 O) O<|ow 1 ph O<|om O<|zM<|oJ (zY yX O (J 1 O) O) (ox O) ?_
    rw [Ik c1 hmi hme];rfl
def zLl (f:Lf->Lf×Int) (c:C) (P:Lf->Prop) (hf:∀l,P l->FnPur cfg c [dF l] (.tup [dF (f l).1,vI (f l).2])) (e:Ex) (hP:e.allF P) (he:e.cnt<=4294967296):oK cfg 195 [vE e,.c c] (.tup [vE (lG (pj f e)),vI (gM (pj f e))]):=by
  induction e using Ex.ind with
  |_ e ih=>exact zMw f c P hf e hP ih he
def zFs (f:Lf->Lf×Int) (c:C) (P:Lf->Prop) (hf:∀l,P l->FnPur cfg c [dF l] (.tup [dF (f l).1,vI (f l).2])) (g:nq->nq) (c9:C) (hg:∀s,FnPur cfg c9 [vS s] (vS (g s))) (l:List St) (hP:pY P l) (ih:∀s,s∈l->oK cfg 140 [fL s.Body,.c c,.c c9] (.tup [fL (eY (gV f g s.Body)),vI (gM (gV f g s.Body))])) (hl:bR l<=1073741824):
    oK cfg 140 [fL l,.c c,.c c9] (.tup [fL (eY (gV f g l)),vI (gM (gV f g l))]):=by
 refine zW func140 O ntmps140 results140 O ?_
 intro z hz
 have hll:=G9 l
 refine Y O<|qY 20 O<|om O<|oo O O<|oM O (WV O uB (zXl l zB) (oy O)) λsv1=>om O<|ol O O<|zF<|oo O O<|qC O oT<|om O<|zS<|zT ⟨[(15,.c _),(0,.c _),(1,.c _),(2,.c _),(8,.c _),(14,.c _)],[_]⟩ (oz [true] oH O)<|qG 1 1 O O (Nat×List St) (λ⟨k,outs⟩=>[(15,vI k)]) (λ⟨k,outs⟩=>[E.vec sv1 64 20 (outs.map St.cells++(l.drop k).map St.cells)]) (λ⟨k,outs⟩=>k<=l.length/\(outs.length=k)/\(gV f g l=bY outs (gV f g (l.drop k)))) (λ⟨k,outs⟩=>l.length-k) ⟨⟨0,[]⟩,⟨zB,O,(SU _).symm⟩,oz [true] oH O⟩ ?_
 rintro ⟨k,outs⟩ ⟨hk,ho,hp⟩
 show oU _ _ _ _ _ ⟨[(15,vI k)]++_,[E.vec sv1 64 20 (outs.map St.cells++(l.drop k).map St.cells)]++_⟩
 refine Y O<|yC O<|zA<|zF<|zK O ?_ ?_<;>intro c1<;>try simp only [sx] at c1
 ·obtain ⟨s,hs⟩:=qX l k zB
  have hsw:=Og (qD hs)
  have hse:=St.wt_eq s
  have hPs:=St.allF_eq (zRz hP s (qD hs))
  refine zJ<|zF<|zS<|oo O O<|om O<|zF<|oo O O<|G O<|qF O oT zB (ta hs)<|qS O AG<|zE uB qE O<|yR O<|zA<|qQ O (λc2=>?_) (λc2=>?_)
  ·refine zP O<|G O<|G O<|G O<|G O<|G O<|qF O oT zB (ta hs)<|qS O AF<|zE uB qE O<|zX O (wS O O (hg s.Name) (oy O))<|zX O (qU 0 O oT O O O zB (Xe uD zB))<|zX O (wL O AF O)<|wO O O (yP O sz9 O O O (Hl 0 O (Fz uD hs) O))<|zA<|zF<|oo O O<|G O<|G O<|G O<|qF O oT zB (ta hs)<|qS O Tb<|zE uB qE O<|G O<|qK O uB (zEw f c P hf s.Idx zB (λx hx=>by have:=Ss hx;rw [Ix.wt] at this;omega) hPs.1) (oy O)<|qW O<|yF O<|yF O<|zX O (qU 0 O oT O O O zB uD)<|zX O (wL O Tb O)<|wO O O (yP O Jo O O O (Hl 0 O (VN uD) O))<|om O<|oo O O<|yL O<|zA<|zK O (λc3=>?_) (λc3=>?_)
   ·try simp only [sx] at c3
    refine oo O O<|qY 20 O<|om O<|zM<|oJ (ox O) (ox O) ?_
    rw [zTe hs hp (Qt (x8 c3))];rfl
   ·exact w9
  ·refine zJ<|zF<|oo O O<|G O<|G O<|G O<|qF O oT zB (ta hs)<|qS O Tb<|zE uB qE O<|G O<|qK O uB (zEw f c P hf s.Idx zB (λx hx=>by have:=Ss hx;rw [Ix.wt] at this;omega) hPs.1) (oy O)<|qW O<|yF O<|yF O<|zX O (qU 0 O oT O O O zB (Xe uD zB))<|zX O (wL O Tb O)<|wO O O (yP O Jo O O O (Hl 0 O (Fz uD hs) O))<|om O<|oo O O<|yL O<|zA<|zK O (λc3=>?_) (λc3=>?_)
   ·try simp only [sx] at c3
    refine oo O O<|qY 20 O<|om O<|zM<|oJ (ox O) (ox O) ?_
    rw [zTe hs hp (Qt (x8 c3))];rfl
   ·exact w9
 ·have hme:=Qu hp zB
  rw [kN (l:=l) (k:=k) zB]
  simp only [bt,rk]
  refine zT _ (yJ 0 O (regs':=[(8,_)]) (μ':=[]) ⟨FLe.sl,T⟩ T)<|qL<|oo O O<|G O<|om O<|zM<|oJ (ox O) (ox O) ?_
  rw [hme];rfl
def zLs (f:Lf->Lf×Int) (c:C) (P:Lf->Prop) (hf:∀l,P l->FnPur cfg c [dF l] (.tup [dF (f l).1,vI (f l).2])) (g:nq->nq) (c9:C) (hg:∀s,FnPur cfg c9 [vS s] (vS (g s))) (s:St) (hP:pY P s.Body) (hl:bR s.Body<=1073741824):oK cfg 140 [fL s.Body,.c c,.c c9] (.tup [fL (eY (gV f g s.Body)),vI (gM (gV f g s.Body))]):=by
  induction s using St.ind with
  |_ s ih=>exact zFs f c P hf g c9 hg s.Body hP (λa ha=>ih a ha (St.allF_eq (zRz hP a ha)).2.2 (by have:=Og ha;have:=St.body_wt a;omega)) hl
def zTi (f:Lf->Lf×Int) (c:C) (P:Lf->Prop) (hf:∀l,P l->FnPur cfg c [dF l] (.tup [dF (f l).1,vI (f l).2])) (g:nq->nq) (c9:C) (hg:∀s,FnPur cfg c9 [vS s] (vS (g s))) (l:List St) (hP:pY P l) (hl:bR l<=1073741824):oK cfg 140 [fL l,.c c,.c c9] (.tup [fL (eY (gV f g l)),vI (gM (gV f g l))]):=
  zFs f c P hf g c9 hg l hP (λs hs=>zLs f c P hf g c9 hg s (St.allF_eq (zRz hP s hs)).2.2 xV6) hl
def zVa (l:Lf) (hl:l.L.length<=1073741824):
    oK cfg 142 [dF l] (dF l):=by
 refine zW func142 O ntmps142 results142 O λz hz=>Y O<|oi O λb1=>oM O (qJ [none,some 2] O U O) λb2=>zA<|zF<|yE 6 mixed uB O O<|ou O (zG O ui O)<|ou O (zH O W O (J 1 O) O)<|ou O (zG O kA O)<|ou O (zH O uB O (J 1 O) O)<|ou O (qP O uB (OwnR.pur (zJo l.L zB)) (oy O))<|ou O (LU O U qe O)<|yY<|ow 0 oZ O<|zA<|zM<|pu (zY yV O (J 0 O) O) ?_
 exact O
def Eu (l:Lf) (hl:l.L.length<=1073741824):
    oK cfg 141 [dF l] (.tup [dF (SK l).1,vI (SK l).2]):=by
 refine zW func141 O ntmps141 results141 O λz hz=>Y O<|oi O λb1=>oM O (qJ [none,some 2] O U O) λb2=>om O<|Y O<|zN yV (J 1 O) O<|qK O uB (zVa l hl) (oy O)<|ow 0 oZ O<|om O<|zM<|oJ (zY yV O (J 0 O) O) (ox O) ?_
 exact O
def Aq (s:nq):
    oK cfg 143 [vS s] (vS s):=by
 refine zW func143 O ntmps143 results143 O λz hz=>ol O O<|oo O O<|om O<|zM<|zV O ?_
 exact O
def zQx (l:List St) (hl:bR l<=1073741824):
    oK cfg 78 [fL l] (fL l):=by
 refine zW func78 O ntmps78 results78 O λz hz=>Y O<|qY 20 O<|zA<|oo O O<|qK O uB (zTi SK _ (λl=>l.L.length<=1073741824) (λl hl=>FnPur.of_pur (first:=[]) (cap:=[]) uB (Eu l hl)) (λx=>x) _ (λs=>FnPur.of_pur (first:=[]) (cap:=[]) uB (Aq s)) l (NT hl) hl) (oy O)<|qW O<|yF O<|yF O<|G O<|om O<|oo O O<|om O<|zM<|zV O ?_
 rw [Dd];rfl
end Go.W
end
section
set_option maxRecDepth 10000
namespace Go.W
open Go Go.Eng Go.Proofs Go.L41 Go.Br Tryz
attribute [local irreducible] oU oX TD gF
abbrev ZB (b:Nat):V:=.c (.lit (.pointer (some ⟨b,0,none⟩)))
abbrev vBd (x:Bd):V:=.agg x.cells
def JH:nN prog 50=some 2:=by kernel_rfl
def zUo:bH prog 50 1=some (1,2):=by kernel_rfl
def TP:bH prog 123 1=some (2,4):=by kernel_rfl
def kC:bH prog 184 0=some (0,154):=by kernel_rfl
def kY:bH prog 184 1=some (1,154):=by kernel_rfl
def Z6:bH prog 184 2=some (2,154):=by kernel_rfl
def So:(prog.info? 154).map (·.size)=some 1:=by kernel_rfl
def zr184:dZ prog 184=some [Vw,Vw,Vw]:=by kernel_rfl
def G5 (b:Nat) (w:W3) (hi lo:Nat) (neg:Bool) (hw:w.ok) (h1:hi<18446744073709551616) (h2:lo<18446744073709551616):
    Con cfg 123 [ZB b,qu hi,qu lo,vB neg] [E.row b 184 (ZG w)] λr μ'=>r=.tup []/\μ'=[E.row b 184 (ZG (LM w (LN hi lo neg)))]:=by
 refine zW func123 O ntmps123 results123 O ?_
 intro z hz
 obtain ⟨hwh,hwm,hwl⟩:=hw
 refine ol O O<|zF<|ol O O<|zK O ?_ ?_<;>intro c1<;>try simp only [sx] at c1
 ·have hx:=w3x_t hi lo c1
  refine oo O O<|zX O (zKy O O (a:=0) uA)<|G O<|zX O (zKy O O h1)<|G O<|zX O (zKy O O h2)<|G O<|G O<|om O<|oo O O<|zX O (qT O O O )<|om O<|oo O O<|yR O<|zA<|zK O ?_ ?_<;>intro c2<;>try simp only [sx] at c2
  ·refine oo O O<|zX O (qT O O O )<|om O<|oo O O<|yR O<|zA<|zK O ?_ ?_<;>intro c3<;>try simp only [sx] at c3
   ·have hx:=hx.trans (w3n_2 c2 c3)
    refine zP O<|G O<|zX O (qT O O O )<|om O<|oo O O<|zZ O<|zC O Z6<|zE uB (J 0 O) O<|G O<|zX O (qT O O O )<|zZ O<|zC O Z6<|ow 0 So O<|zA<|ol O O<|zF<|oo O O<|zZ O<|zC O Z6<|zE uB (J 0 O) O<|G O<|yC O<|zA<|zK O (λc4=>?_) (λc4=>?_)
    ·exact v67
    ·exact v72
   ·have hx:=hx.trans (w3n_1 c2 c3)
    exact q8
  ·have hx:=hx.trans (w3n_0 c2)
   exact q8
 ·have hx:=w3x_f hi lo c1
  exact q8
def G6 (b:Nat) (w:W3) (hw:w.ok):
    Con cfg 127 [ZB b] [E.row b 184 (ZG w)] λr μ'=>r=.tup [vI (rh (w.l:Int)),vB (decide ((w.m:Int)=(Vs w.l:Nat))&&decide ((w.h:Int)=(Vs w.l:Nat)))]/\μ'=[E.row b 184 (ZG w)]:=by
 refine zW func127 O ntmps127 results127 O λz hz=>oo O O<|om O<|oo O O<|zZ O<|zC O Z6<|zE uB (J 0 O) O<|zX O (wA O uB PR O)<|om O<|oo O O<|zX O (Pf O O O uA (ZJ hw.2.2))<|zX O (zKa O uB SI O (ZI hw.2.2))<|om O<|zF<|yE 17 mixed uB O O<|ou O (zQ O O)<|ou O (zQ O O)<|ou O (qV O O)<|ou O (zG O kY O)<|ou O (zH O uB O (J 0 O) O)<|ou O (zQ O O)<|ou O (yU O O O)<|ou O (zQ O O)<|qR [] O O O O oP T (λg3_7=>zQ O O) O<|qR [(22,_)] O O O O oP ⟨O,O,T⟩ (λg3_7=>qV O O) O<|qR [(23,_)] O O O O oP ⟨O,O,T⟩ (λg3_7=>zG O kC O) O<|qR [(24,_)] O O O O oP ⟨O,O,T⟩ (λg3_7=>zH O uB O (J 0 O) O) O<|qR [] O O O O oP T (λg3_7=>zQ O O) O<|qR [(25,_),(26,_)] O O O O oP ⟨O,O,O,O,T⟩ (λg3_7=>yU O O O) O<|ou O (wX O O O (λh=>h) O)<|ou O (yK O O)<|ou O (yK O O)<|yY<|zA<|zM<|oJ (ox O) (ox O) ?_
 exact ⟨O,O⟩
def MN (x:Bd) (m:Mono):
    oK cfg 125 [vBd x,.c (.iptr m.cells)] (vB (decide (x.Name=m.Name))):=by
 refine zW func125 O ntmps125 results125 O λz hz=>Y O<|oi O λb1=>om O<|Y O<|zC O S9<|zE uB (J 0 O) O<|qS O wH<|zE uB qE O<|wF O<|om O<|zM<|zV O ?_
 exact O
def zIa (l:List Bd) (c:C) (p:Bd->Bool) (hl:l.length<=4294967296) (hc:∀x,x∈l->FnPur cfg c [vBd x] (vB (p x))):
    oK cfg 63 [gJ l,.c c] (vI (fA p l)):=by
 refine zW func63 O ntmps63 results63 O λz hz=>ol O O<|zF<|oo O O<|qC O qa<|om O<|zS<|zT ⟨[(8,.c _),(0,.c _),(1,.c _),(7,.c _)],[]⟩ (oz [] oH O)<|qG 1 0 O O (Nat) (λk=>[(8,vI k)]) (λk=>[]) (λk=>k<=l.length/\((l.take k).any p=false)) (λk=>l.length-k) ⟨0,⟨zB,O⟩,oz [] oH O⟩ ?_
 rintro k ⟨hk,hp⟩
 refine Y O<|yC O<|zA<|zF<|zK O (λc1=>?_) (λc1=>?_)
 ·try simp only [sx] at c1
  obtain ⟨x,hx⟩:=qX l k zB
  refine zJ<|zF<|zS<|oo O O<|om O<|oo O O<|G O<|G O<|qF O qa zB (oI uC)<|zN JH qE O<|zX O (wS O O (hc _ (qD hx)) (oy O))<|zA<|zK O (λc2=>?_) (λc2=>?_)
  ·exact v64
  ·exact j5
 ·exact v33
def xr (l:Lf) (env:List Bd) (hel:env.length<=1000000) (her:∀x,x∈env->oQ x.Val) (hl:l.L.length<=5864062014805) (hr:l.rng):
    oK cfg 68 [dF l,gJ env] (.tup [vI (dV l env).1,vI (dV l env).2]):=by
 refine zW func68 O ntmps68 results68 O λz hz=>Y O<|oi O λb1=>G O<|om O<|zF<|Y O<|zN yV (J 0 O) O<|qK O uB (VE l zB) (oy O)<|yL O<|zA<|zK O ?_ ?_<;>intro c1<;>try simp only [sx] at c1
 ·have hE:dV l env=(0,1):=Pv c1
  exact Zz
 ·refine zJ<|Y O<|oM O (yA O zr184) λb2=>zA<|zF<|yE 6 mixed uB O O<|ou O (zG O ui O)<|ou O (zH O W O (J 1 O) O)<|ou O (qP O uB (zFl l.K hr.1) (oy O))<|ou O (zG O ui O)<|ou O (zH O W O (J 1 O) O)<|ou O (Ad O O O)<|yY<|zX O (kL [0] O uB (G5 b2 ⟨0,0,0⟩ 0 l.K.natAbs (decide (l.K<0)) ⟨uA,uA,uA⟩ uA (by have:=Cd hr.1;omega)) (oy O) O)<|zA<|zF<|Y O<|zC O kA<|zE uB (J 1 O) O<|qC O N<|om O<|zS<|zT ⟨[(28,.c _),(1,.c _),(6,.c _),(26,.c _),(27,.c _)],[_]⟩ (oz [true,false] oH O)<|qG 1 1 O O (Nat×W3×Int) (λ⟨k,w,z⟩=>[(28,vI k)]) (λ⟨k,w,z⟩=>[E.row b2 184 (ZG w)]) (λ⟨k,w,z⟩=>k<=l.L.length/\(EvJ l env k w z)) (λ⟨k,w,z⟩=>l.L.length-k) ⟨⟨0,LM ⟨0,0,0⟩ (LN 0 l.K.natAbs (decide (l.K<0))),0⟩,⟨zB,Px hr.1⟩,oz [true] oH O⟩ ?_
  rintro ⟨k,w,z⟩ ⟨hk,hj⟩
  show oU _ _ _ _ _ ⟨[(28,vI k)]++_,[E.row b2 184 (ZG w)]++_⟩
  refine Y O<|yC O<|zA<|zF<|zK O ?_ ?_<;>intro c2<;>try simp only [sx] at c2
  ·obtain ⟨m,hm⟩:=qX l.L k zB
   refine zJ<|zF<|zS<|Y O<|qF O N zB (oI hm)<|zN Eb qE O<|oM O (yA O te) λb3=>ow 0 tg O<|zA<|oo O O<|yQ _ (kR 0 O 8 _ PLe.ptr)<|zX O (VJ O O O O O)<|qK O uB (zIa env _ (λy=>decide (y.Name=m.Name)) zB (λy _=>FnPur.of_pur (first:=[]) (cap:=[.iptr m.cells]) uB (MN y m))) (oy O)<|om O<|zF<|oo O O<|yC O<|zA<|zK O ?_ ?_<;>intro c3<;>try simp only [sx] at c3
   ·have hE:=Km c1 hm (wo (PP c3))
    exact Zz
   ·obtain ⟨i,x,hi,hci,hhit,hbef⟩:=PN (show 0<=fA (λy:Bd=>decide (y.Name=m.Name)) env by omega)
    rw [hi]
    have hil:=uT hci
    have hv:=wn hci (ca hhit) hbef
    have hxr:=her x (qD hci)
    have hbr:=hr.2 m (qD hm)
    have h1:=Cd hbr
    have h2:=Cd hxr
    have h3:=We h1 h2
    refine zJ<|oo O O<|G O<|qF O qa zB (oI hci)<|qS O zUo<|zE W qE O<|om O<|Y O<|qS O AD<|zE W qE O<|qK O uB (zFl m.By hbr) (oy O)<|G O<|qK O uB (zFl x.Val hxr) (oy O)<|qK O uB (zZc m.By.natAbs x.Val.natAbs zB zB) (oy O)<|qW O<|yF O<|yF O<|G O<|om O<|zP O<|G O<|G O<|qS O AD<|zE W qE O<|yC O<|G O<|yC O<|zX O (zKz O WJ O O)<|zX O (kL [0] O uB (G5 b2 w (CU m.By.natAbs x.Val.natAbs) (m.By.natAbs*x.Val.natAbs%18446744073709551616) (!(decide (m.By<0)==decide (x.Val<0))) hj.ok zB (g7 _ uA)) (oy O) O)<|zA<|zP O<|qH O ⟨zB,zB⟩<|G O<|zA ?_
    refine ⟨⟨k+1,LM w (LN (CU m.By.natAbs x.Val.natAbs) (m.By.natAbs*x.Val.natAbs%18446744073709551616) (!(decide (m.By<0)==decide (x.Val<0)))),z+m.By*x.Val⟩,⟨zB,TL hr hm hv hxr hj⟩,(by show l.L.length-(k+1)<l.L.length-k;omega),oz [true] oH O⟩
  ·have hE:=XR (show l.L.length<=k by omega) zB c1 hj
   refine qL<|Y O<|zX O (yW [0] O uB (G6 b2 w hj.ok) (oy O) O)<|qW O<|yF O<|yF O<|G O<|om O<|zF<|oo O O<|kQ O<|zA<|zK O (λc4=>?_) (λc4=>?_)
   ·rw [aa (TK c4)] at hE
    exact Zz
   ·rw [ab (Pw c4)] at hE
    refine zJ<|oo O O<|G O<|om O<|zM<|oJ (ox O) (ox O) ?_
    rw [hE]
def zVf (c:Cn) (env:List Bd) (hel:env.length<=1000000) (her:∀x,x∈env->oQ x.Val) (hl:c.Lin.L.length<=5864062014805) (hr:c.Lin.rng):
    oK cfg 65 [vCn c,gJ env] (.tup [vB (if (dV c.Lin env).2=0 then eT c (dV c.Lin env).1 else false),vI (dV c.Lin env).2]):=by
 refine zW func65 O ntmps65 results65 O λz hz=>Y O<|oi O λb1=>G O<|om O<|Y O<|zC O zZq<|zN yV (J 0 O) O<|G O<|qK O uB (xr c.Lin env hel her hl hr) (oy O)<|qW O<|yF O<|yF O<|G O<|om O<|zF<|oo O O<|yL O<|zA<|zK O (λc1=>?_) (λc1=>?_)
 ·try simp only [sx] at c1
  refine oo O O<|G O<|om O<|zM<|oJ (ox O) (ox O) ?_
  rw [aa c1]
 ·exact j8
def Ch (x:Bd) (s:nq):
    oK cfg 64 [vBd x,.c (.iptr [cS s])] (vB (decide (x.Name=s))):=by
 refine zW func64 O ntmps64 results64 O λz hz=>Y O<|oi O λb1=>om O<|Y O<|zC O S9<|zE uB (J 0 O) O<|zE uB qE O<|wF O<|om O<|zM<|zV O ?_
 exact O
def zIp (p:Pg) (env:List Bd) (hel:env.length<=1000000) (her:∀x,x∈env->oQ x.Val) (hP:p.Ok) (hR:p.Rng):
    oK cfg 23 [rf p,gJ env] (vI (mF p env)):=by
 refine zW func23 O ntmps23 results23 O ?_
 intro z hz
 have hps:=hP.sizes
 have hpw:=hP.wh
 refine Y O<|oi O λb1=>om O<|zF<|oo O O<|qC O qa<|zC O ve<|zE uB (J 0 O) O<|qC O oR<|yL O<|zA<|zK O ?_ ?_<;>intro c1<;>try simp only [sx] at c1
 ·refine ol O O<|zM<|zV O ?_
  rw [JU zB]
 ·have hpl:env.length=p.Sizes.length:=by omega
  refine zJ<|zF<|Y O<|zC O ve<|zE uB (J 0 O) O<|qC O oR<|om O<|zS<|zT ⟨[(21,.c _),(1,.c _),(2,.c _),(19,.c _),(20,.c _)],[_]⟩ (oz [true] oH O)<|qG 1 0 O O (Nat) (λk=>[(21,vI k)]) (λk=>[]) (λk=>k<=p.Sizes.length/\((p.Sizes.take k).all (nB env)=true)) (λk=>p.Sizes.length-k) ⟨0,⟨zB,O⟩,oz [true] oH O⟩ ?_
  rintro k ⟨hk,hp⟩
  refine Y O<|yC O<|zA<|zF<|zK O ?_ ?_<;>intro c2<;>try simp only [sx] at c2
  ·obtain ⟨s,hs⟩:=qX p.Sizes k zB
   refine zJ<|zF<|zS<|Y O<|qF O oR zB (oI hs)<|zE uB qE O<|oM O (yA O Hf) λb2=>ow 0 sz9 O<|zA<|oo O O<|yQ _ (kR 0 O 6 _ PLe.ptr)<|zX O (VJ O O O O O)<|qK O uB (zIa env _ (λy=>decide (y.Name=s)) zB (λy _=>FnPur.of_pur (first:=[]) (cap:=[.iptr [cS s]]) uB (Ch y s))) (oy O)<|om O<|Y O ?_
   obtain ⟨x,hci,hgd⟩:=sz_at env s
   refine G O<|yC O<|G O<|oL O (λg7_2=>zQ O O) O<|oL O (λg7_2=>zQ O O) O<|oV [(31,_),(32,_)] O oP ⟨O,O,O,O,T⟩ (λg7_2=>qI O qa O O (by simp only [Lz,aB,aw,sx] at g7_2;omega) (oI (hci (by simp only [Lz,aB,aw,sx] at g7_2;omega)))) O<|oG 33 O (λg7_2=>qO O zUo O) O<|oG 34 O (λg7_2=>zH O W O qE O) O<|oG 35 O (λg7_2=>Ad O O O) O<|oN O (λh=>(oY h))<|G O<|oL O (λg7_10=>zQ O O) O<|oL O (λg7_10=>zQ O O) O<|oV [(39,_),(40,_)] O oP ⟨O,O,O,O,T⟩ (λg7_10=>qI O qa O O (by simp only [Lz,aB,aw,sx] at g7_10;omega) (oI (hci (by simp only [Lz,aB,aw,sx] at g7_10;omega)))) O<|oG 41 O (λg7_10=>qO O zUo O) O<|oG 42 O (λg7_10=>zH O W O qE O) O<|oG 43 O (λg7_10=>kE O O O) O<|oN O (λh=>(oY h))<|zA<|zK O (λc3=>?_) (λc3=>?_)
   ·have hG:=JT hpl hs (by have h9:=hgd.symm.trans c3;simpa using h9)
    refine ol O O<|zM<|zV O ?_
    rw [hG]
   ·have hG:nB env s=true:=by have h9:=hgd.symm.trans c3;simpa using h9
    refine zJ<|zP O<|qH O ⟨zB,zB⟩<|G O<|zA ?_
    refine ⟨k+1,⟨zB,AJ hs hp hG⟩,zB,oz [true] oH O⟩
  ·rw [yG zB] at hp
   have hZ:=O4 hpl hp
   refine qL<|zF<|Y O<|zC O VW<|zE uB (J 0 O) O<|qC O wl<|om O<|zS<|zT ⟨[(50,.c _),(1,.c _),(48,.c _),(49,.c _)],[]⟩ (oz [false] oH O)<|qG 1 0 O O (Nat) (λj=>[(50,vI j)]) (λj=>[]) (λj=>j<=p.Where.length/\(zz env p.Where=zz env (p.Where.drop j))) (λj=>p.Where.length-j) ⟨0,⟨zB,O⟩,oz [] oH O⟩ ?_
   rintro j ⟨hj,hq⟩
   refine Y O<|yC O<|zA<|zF<|zK O ?_ ?_<;>intro c4<;>try simp only [sx] at c4
   ·obtain ⟨c,hc⟩:=qX p.Where j zB
    refine zJ<|zF<|zS<|Y O<|qF O wl zB (oI hc)<|zN tp qE O<|oM O (qJ [none,some 2,none] O Xo O) λb3=>ow 0 WH O<|zA<|Y O<|zN tp (J 0 O) O<|G O<|qK O uB (zVf c env hel her (hP.whs c (qD hc)) (hR.wh c (qD hc))) (oy O)<|qW O<|yF O<|yF O<|G O<|om O<|zF<|oo O O<|yL O<|zA<|zK O ?_ ?_<;>intro c5<;>try simp only [sx] at c5
    ·have hW:=Sc hc hq c5
     refine oo O O<|om O<|zM<|zV O ?_
     rw [hZ,hW]
    ·refine zJ<|oo O O<|kQ O<|zA<|zK O ?_ ?_<;>intro c6<;>try simp only [sx] at c6
     ·rw [ab c5] at c6
      have hW:=WM hc hq c5 c6
      refine ol O O<|zM<|zV O ?_
      rw [hZ,hW]
     ·rw [ab c5] at c6
      refine zJ<|zP O<|qH O ⟨zB,zB⟩<|G O<|zA ?_
      refine ⟨j+1,⟨zB,LO hc hq c5 c6⟩,zB,oz [false] oH O⟩
   ·have hW:=Sb (show p.Where.length<=j by omega) hq
    refine qL<|ol O O<|zM<|zV O ?_
    rw [hZ,hW]
def zTt (p:Pg) (env:List Bd) (hel:env.length<=1000000) (her:∀x,x∈env->oQ x.Val) (hP:p.Ok) (hR:p.Rng):
    oK cfg 66 [rf p,gJ env] (vI (if (bK p).2=0 then mF p env else (bK p).2)):=by
 refine zW func66 O ntmps66 results66 O λz hz=>Y O<|oi O λb1=>om O<|zF<|Y O<|zN qv (J 0 O) O<|qK O uB (zHd p hP) (oy O)<|qW O<|yF O<|yF O<|G O<|om O<|oo O O<|yL O<|zA<|zK O ?_ ?_<;>intro c1<;>try simp only [sx] at c1
 ·refine oo O O<|om O<|zM<|zV O ?_
  rw [aa c1]
 ·refine zJ<|Y O<|zN qv (J 0 O) O<|G O<|qK O uB (zIp p env hel her hP hR) (oy O)<|om O<|zM<|zV O ?_
  rw [ab c1]
def CG (l:List Lf) (env:List Bd) (hel:env.length<=1000000) (her:∀x,x∈env->oQ x.Val) (hl:l.length<=4294967296) (hf:∀f,f∈l->f.L.length<=5864062014805/\f.rng):
    oK cfg 120 [mL l,gJ env] (.tup [ss (xH env l),vI (fO env l)]):=by
 refine zW func120 O ntmps120 results120 O λz hz=>Y O<|qY 1 O<|om O<|oo O O<|yQ _ (kD 3 1)<|zA<|zF<|oo O O<|qC O oS<|om O<|zS<|zT ⟨[(13,.c _),(6,.c _),(1,.c _),(11,.c _),(12,.c _)],[_]⟩ (oz [true] oH O)<|qG 2 1 O O (Nat×Value) (λ⟨k,sv⟩=>[(13,vI k),(6,.c (.lit sv))]) (λ⟨k,sv⟩=>[E.vec sv 3 1 ((fB env (l.take k)).map λn=>[cI n])]) (λ⟨k,sv⟩=>k<=l.length/\(fO env l=fO env (l.drop k))) (λ⟨k,sv⟩=>l.length-k) ⟨⟨0,(.slice none 0 0)⟩,⟨zB,O⟩,oz [true] oH O⟩ ?_
 rintro ⟨k,sv⟩ ⟨hk,hp⟩
 show oU _ _ _ _ _ ⟨[(13,vI k),(6,.c (.lit sv))]++_,[E.vec sv 3 1 ((fB env (l.take k)).map λn=>[cI n])]++_⟩
 refine Y O<|yC O<|zA<|zF<|zK O ?_ ?_<;>intro c1<;>try simp only [sx] at c1
 ·obtain ⟨f,hx⟩:=qX l k zB
  refine zJ<|zF<|zS<|Y O<|qF O oS zB (oI hx)<|zN yV qE O<|oM O (qJ [none,some 2] O U O) λb2=>ow 0 oZ O<|zA<|Y O<|zN yV (J 0 O) O<|G O<|qK O uB (xr f env hel her (hf f (qD hx)).1 (hf f (qD hx)).2) (oy O)<|qW O<|yF O<|yF O<|G O<|om O<|zF<|oo O O<|yL O<|zA<|zK O ?_ ?_<;>intro c2<;>try simp only [sx] at c2
  ·have hE:=uP hx hp c2
   exact v81
  ·refine zJ<|zF<|oo O O<|yC O<|G O<|oL O (λg8_2=>zQ O O) O<|oG 29 O (λg8_2=>kE O O O) O<|oN O (λh=>(oY h))<|zA<|zK O ?_ ?_<;>intro c3<;>try simp only [sx] at c3
   ·have hE:=uN hx hp c2 WO
    exact v91
   ·have hn:=zWe hx hp c2 WO
    refine zJ<|zP O<|G O<|G O<|yT O pf Oq<|oM O (qZ 1 O pf O O O WP WP) λsv3=>om O<|zP O<|qH O ⟨zB,zB⟩<|G O<|zA ?_
    refine ⟨⟨k+1,sv3⟩,⟨zB,hn⟩,(by show l.length-(k+1)<l.length-k;omega),oz [false,true] oH (by exact SB (by rw [yB hx];unfold fB;rw [ah,ah];rfl))⟩
 ·have hE:=uO (show l.length<=k by omega) hp
  exact v23
def HP (l:List Int) (hl:l.length<=4294967296) (h:∀n,n∈l->1<=n/\n<=4096):
    oK cfg 121 [ss l,vI 4096] (vI ((bM 1 l).getD 4097)):=by
 refine zW func121 O ntmps121 results121 O λz hz=>ol O O<|ol O O<|zF<|oo O O<|qC O pf<|om O<|zS<|zT ⟨[(10,.c _),(5,.c _),(1,.c _),(8,.c _),(9,.c _)],[]⟩ (oz [] oH O)<|qG 2 0 O O (Nat×Int) (λ⟨k,s⟩=>[(10,vI k),(5,vI s)]) (λ⟨k,s⟩=>[]) (λ⟨k,s⟩=>k<=l.length/\(1<=s/\s<=4096)/\(bM 1 l=bM s (l.drop k))) (λ⟨k,s⟩=>l.length-k) ⟨⟨0,1⟩,⟨zB,⟨uA,uA⟩,O⟩,oz [] oH O⟩ ?_
 rintro ⟨k,s⟩ ⟨hk,hs,hp⟩
 show oU _ _ _ _ _ ⟨[(10,vI k),(5,vI s)]++_,[]++_⟩
 refine Y O<|yC O<|zA<|zF<|zK O ?_ ?_<;>intro c1<;>try simp only [sx] at c1
 ·obtain ⟨n,hn⟩:=qX l k zB
  have hnb:=h n (qD hn)
  have hmb:=gv hs.2 hnb.2 zB zB
  have hmb2:=gv (show 1<=s from hs.1) hnb.1 zB zB
  rw [qN hn,bM] at hp
  refine zJ<|zF<|zS<|Y O<|qF O pf zB (oI hn)<|zE uB qE O<|om O<|oo O O<|G O<|zX O (zOg O O O ⟨zB,zB⟩)<|om O<|oo O O<|G O<|sf O<|zA<|zK O ?_ ?_<;>intro c2<;>try simp only [sx] at c2
  ·rw [ab zB] at hp
   refine oo O O<|qH O ⟨zB,zB⟩<|om O<|zM<|zV O ?_
   rw [hp];rfl
  ·rw [aa zB] at hp
   refine zJ<|zP O<|qH O ⟨zB,zB⟩<|G O<|zA ?_
   refine ⟨⟨k+1,s*n⟩,⟨zB,⟨zB,zB⟩,hp⟩,(by show l.length-(k+1)<l.length-k;omega),oz [] oH O⟩
 ·rw [z6 zB,bM] at hp
  refine qL<|oo O O<|om O<|zM<|zV O ?_
  rw [hp];rfl
def Mh (p:Pg) (s:nq) (env:List Bd) (hel:env.length<=1000000) (her:∀x,x∈env->oQ x.Val) (hP:p.Ok) (hR:p.Rng):
    oK cfg 67 [rf p,gJ env,vS s] (.tup [ss (mT p env s).1,rq (p.en.find s).ty,vI (mT p env s).2]):=by
 refine zW func67 O ntmps67 results67 O ?_
 intro z hz
 have hfd:=EV hP hR s
 refine Y O<|oi O λb1=>qY 1 O<|oM O (yA O v) λb2=>om O<|Y O<|zN qv (J 1 O) O<|G O<|qK O uB (zMl p s hP) (oy O)<|qW O<|kG O<|yF O<|yF O<|oM O (yA O v) λb3=>ow 0 D O<|G O<|om O<|zF<|oo O O<|kQ O<|zA<|zK O ?_ ?_<;>intro c1<;>try simp only [sx] at c1
 ·refine zF<|yE 2 mixed uB O O<|ou O (qA O yD O (J 0 O) O)<|ou O (zLa 1 O O)<|yY<|ow 1 D O<|om O<|zM<|tr (ox O) (zY yD O (J 1 O) O) (ox O) ?_
  rw [Pk c1];rfl
 ·refine zJ<|oo O O<|G O<|qK O uB (CG (p.en.find s).dims env hel her hfd.1 hfd.2) (oy O)<|qW O<|yF O<|yF O<|G O<|om O<|zF<|oo O O<|yL O<|zA<|zK O ?_ ?_<;>intro c2<;>try simp only [sx] at c2
  ·refine zF<|yN 4 0 [⟨0,.q [0]⟩,⟨1,.q []⟩,⟨2,.q []⟩,⟨3,.e 1 []⟩] mixed uB uB O O O<|zR O<|zR O<|zR O<|zR O<|wG<|ot O (qA O yD O (J 0 O) O)<|ot O (zQ O O)<|ot O (zLa 1 O O)<|uh O O uA O O (yP O D O O O (tc 0 O O)) ?_
   rintro _ _ ⟨rfl,rfl⟩
   refine ⟨_,O,?_⟩
   refine wE O<|om O<|zM<|tr (ox O) (zY yD O (J 1 O) O) (ox O) ?_
   rw [V8 c1 c2];rfl
  ·refine zJ<|zF<|oo O O<|qK O uB (show oK cfg 121 [ss (xH env (p.en.find s).dims),vI 4096] (vI ((bM 1 (fB env (p.en.find s).dims)).getD 4097)) by rw [zUp c2];exact HP _ (by unfold fB;rw [pc];exact hfd.1) (zZt c2)) (oy O)<|sf O<|zA<|zK O ?_ ?_<;>intro c3<;>try simp only [sx] at c3
   ·refine zF<|yE 2 mixed uB O O<|ou O (qA O yD O (J 0 O) O)<|ou O (zLa 1 O O)<|yY<|ow 1 D O<|om O<|zM<|tr (ox O) (zY yD O (J 1 O) O) (ox O) ?_
    rw [V7 c1 c2 (Tw c3)];rfl
   ·refine zJ<|zF<|yE 3 mixed uB O O<|ou O (zQ O O)<|ou O (qA O yD O (J 0 O) O)<|ou O (yK O O)<|yY<|ow 1 D O<|om O<|zM<|tr (ox O) (zY yD O (J 1 O) O) (ox O) ?_
    rw [Pl c1 c2 (Tx zB),zUp c2];rfl
def zZx (p:Pg) (s:nq) (env:List Bd) (hel:env.length<=1000000) (her:∀x,x∈env->oQ x.Val) (hP:p.Ok) (hR:p.Rng):
    oK cfg 24 [rf p,gJ env,vS s] (.tup [ss (rR p env s).1,vI (rR p env s).2]):=by
 refine zW func24 O ntmps24 results24 O λz hz=>Y O<|oi O λb1=>qY 1 O<|om O<|zF<|Y O<|zN qv (J 0 O) O<|G O<|qK O uB (zTt p env hel her hP hR) (oy O)<|om O<|oo O O<|yL O<|zA<|zK O ?_ ?_<;>intro c1<;>try simp only [sx] at c1
 ·refine oo O O<|qY 1 O<|om O<|zM<|oJ (ox O) (ox O) ?_
  rw [Pn c1];rfl
 ·refine zJ<|Y O<|zN qv (J 0 O) O<|G O<|G O<|qK O uB (Mh p s env hel her hP hR) (oy O)<|qW O<|yF O<|kG O<|yF O<|oM O (yA O v) λb2=>G O<|ow 0 D O<|om O<|oo O O<|G O<|G O<|om O<|zM<|oJ (ox O) (ox O) ?_
  rw [Po c1]
def N5 (t:Ty):
    oK cfg 192 [rq t] (.tup [tZ (fW t).1,vI (fW t).2]):=by
 refine zW func192 O ntmps192 results192 O λz hz=>Y O<|oi O λb1=>oM O (yA O qj) λb2=>om O<|zF<|zS<|Y O<|zN yD (J 1 O) O<|qK O uB (ZR _) (oy O)<|yL O<|om O<|zK O ?_ ?_<;>intro c1<;>try simp only [sx] at c1
 ·refine Y O<|yI O qj sa<|ow 0 qq O<|om O<|zM<|oJ (zY rr O (J 0 O) O) (ox O) ?_
  rw [QO c1];rfl
 ·refine Y O<|zC O Hd<|zE uB (J 1 O) O<|yL O<|om O<|zK O ?_ ?_<;>intro c2<;>try simp only [sx] at c2
  ·refine Y O<|yI O qj sa<|ow 0 qq O<|om O<|zM<|oJ (zY rr O (J 0 O) O) (ox O) ?_
   rw [one_p c1 c2];rfl
  ·refine zJ<|Y O<|zC O VV<|zE uB (J 1 O) O<|zX O (EE O O O (Dv c1 c2).1 (Dv c1 c2).2)<|yI O qj sa<|oM O (yA O qj) λb3=>ow 0 qq O<|zA<|zF<|Y O<|zN yD (J 2 O) O<|zN rr (J 0 O) O<|qK O uB (zZk t ⟨2^t.Frac.toNat,1⟩) (oy O)<|kQ O<|zA<|zK O (λc3=>?_) (λc3=>?_)
   ·refine Y O<|yI O qj sa<|ow 1 qq O<|om O<|zM<|oJ (zY rr O (J 1 O) O) (ox O) ?_
    rw [one_r c1 c2 (YT c3)];rfl
   ·refine zJ<|Y O<|zN rr (J 0 O) O<|ow 1 qq O<|om O<|zM<|oJ (zY rr O (J 1 O) O) (ox O) ?_
    rw [YY c1 c2 (YS c3)];rfl
def zu (f:Int) (t:Ty):
    oK cfg 139 [vI f,rq t] (.tup [tZ (sg f t).1,vB (sg f t).2]):=by
 refine zW func139 O ntmps139 results139 O λz hz=>Y O<|oi O λb1=>oM O (yA O qj) λb2=>om O<|zF<|Y O<|zN yD (J 1 O) O<|qK O uB (ZR _) (oy O)<|yL O<|zA<|zK O ?_ ?_<;>intro c1<;>try simp only [sx] at c1
 ·refine Y O<|yI O qj sa<|ow 0 qq O<|om O<|zM<|oJ (zY rr O (J 0 O) O) (ox O) ?_
  exact j0
 ·refine zJ<|zF<|ol O O<|zS<|zF<|Y O<|yR O<|om O<|qQ O (λc2=>?_) (λc2=>?_)
  ·refine zJ<|zK O ?_ ?_<;>intro c3<;>try simp only [sx] at c3
   ·refine Y O<|zN yD (J 1 O) O<|qK O uB (zw _) (oy O)<|ow 0 qq O<|om O<|zM<|oJ (zY rr O (J 0 O) O) (ox O) ?_
    exact j0
   ·exact absurd c2 c3
  ·refine zP O<|yR O<|om O<|qQ O (λc3=>?_) (λc3=>?_)
   ·refine Y O<|zN yD (J 1 O) O<|qK O uB (zw _) (oy O)<|ow 0 qq O<|om O<|zM<|oJ (zY rr O (J 0 O) O) (ox O) ?_
    exact j0
   ·refine Y O<|yR O<|om O<|qQ O (λc4=>?_) (λc4=>?_)
    ·refine Y O<|zN yD (J 1 O) O<|qK O uB (N5 _) (oy O)<|qW O<|kG O<|yF O<|oM O (yA O qj) λb3=>ow 0 qq O<|om O<|Y O<|zN rr (J 0 O) O<|G O<|yR O<|ow 1 qq O<|om O<|zM<|oJ (zY rr O (J 1 O) O) (ox O) ?_
     exact j0
    ·refine zJ<|Y O<|yI O qj sa<|ow 0 qq O<|om O<|zM<|oJ (zY rr O (J 0 O) O) (ox O) ?_
     exact j0
end Go.W
end
section
set_option maxRecDepth 10000
namespace Go.W
open Go Go.Eng Go.Proofs Go.L41 Go.Br Tryz
attribute [local irreducible] oU oX TD gF
def zNs {X:Cfg} {n:Nat} {z:Z} {Q:Exit->S->Prop} {ops:Array Oper} {l:List Oper} {regs:List (Nat×V)} {μ μ':List E} (h:μ=μ') (k:oX X n z ops l Q ⟨regs,μ'⟩):oX X n z ops l Q ⟨regs,μ⟩:=h ▸ k
def Hn:bH prog 80 0=some (0,70):=by kernel_rfl
def CP:bH prog 80 2=some (23,31):=by kernel_rfl
def tq:bH prog 80 3=some (24,62):=by kernel_rfl
def Xk:bH prog 80 4=some (37,52):=by kernel_rfl
def yr:fD prog 64=some [(0,1),(1,1),(2,1),(3,1),(4,1),(5,1),(6,13),(19,1)]:=by kernel_rfl
def Zt:(prog.info? 50).map (·.size)=some 2:=by kernel_rfl
def zOu (d a:nq) (hs:d.size<=100000) (hs2:a.size<=100000):
    oK cfg 8 [vS d,vS a] (vS (pi d a)):=by
 refine zW func8 O ntmps8 results8 O λz hz=>ol O O<|oo O O<|zX O (zWj O O O (by show d.size+1<=_;omega))<|G O<|zX O (zWj O O O (by rw [gy];show d.size+1+a.size<=_;omega))<|om O<|zF<|oo O O<|qK O uB (ZX (d++bs [95]++a)) (oy O)<|kQ O<|zA<|zK O ?_ ?_<;>intro c1<;>try simp only [sx] at c1
 ·refine ol O O<|zM<|zV O ?_
  rw [P7 (by rw [c1];simp)]
 ·refine zJ<|oo O O<|om O<|zM<|zV O ?_
  rw [Fo c1]
def zEk (d a:nq) (hs:d.size<=100000) (hs2:a.size<=100000):
    oK cfg 9 [vS d,vS a] (vS (pi d a)):=by
 refine zW func9 O ntmps9 results9 O λz hz=>ol O O<|oo O O<|zX O (zWj O O O (by show d.size+1<=_;omega))<|G O<|zX O (zWj O O O (by rw [gy];show d.size+1+a.size<=_;omega))<|om O<|zF<|oo O O<|qK O uB (VI (d++bs [95]++a)) (oy O)<|kQ O<|zA<|zK O ?_ ?_<;>intro c1<;>try simp only [sx] at c1
 ·refine ol O O<|zM<|zV O ?_
  rw [P7 (by rw [c1];simp)]
 ·refine zJ<|oo O O<|om O<|zM<|zV O ?_
  rw [Fo c1]
def Fs (env:List Bd) (s:nq) (hel:env.length<=1000000):
    oK cfg 29 [gJ env,vS s] (vI (gI env s)):=by
 refine zW func29 O ntmps29 results29 O λz hz=>ol O O<|zF<|oo O O<|qC O qa<|om O<|zS<|zT ⟨[(9,.c _),(1,.c _),(7,.c _),(8,.c _)],[]⟩ (oz [] oH O)<|qG 1 0 O O (Nat) (λk=>[(9,vI k)]) (λk=>[]) (λk=>k<=env.length/\((env.take k).any (λy=>decide (y.Name=s))=false)) (λk=>env.length-k) ⟨0,⟨zB,O⟩,oz [] oH O⟩ ?_
 rintro k ⟨hk,hp⟩
 refine Y O<|yC O<|zA<|zF<|zK O ?_ ?_<;>intro c1<;>try simp only [sx] at c1
 ·obtain ⟨x,hx⟩:=qX env k zB
  refine zJ<|zF<|zS<|Y O<|qF O qa zB (oI hx)<|zN JH qE O<|oM O (yA O AH) λb1=>ow 0 Zt O<|zA<|Y O<|zC O S9<|zE uB (J 0 O) O<|G O<|wF O<|zA<|zK O (λc2=>?_) (λc2=>?_)
  ·try simp only [sx] at c2
   refine Y O<|zC O zUo<|zE W (J 0 O) O<|om O<|zM<|zV O ?_
   rw [Kj hx c2 hp]
  ·exact v79
 ·refine qL<|ol O O<|zM<|zV O ?_
  rw [yG zB] at hp
  rw [Kk hp]
def zIj (l:List Bd) (b:List St) (hl:l.length<=4294967296):
    oK cfg 74 [gJ l,fL b] (fL (fH l b)):=by
 refine zW func74 O ntmps74 results74 O λz hz=>Y O<|qY 20 O<|zA<|zF<|oo O O<|qC O qa<|zX O (yM O O O ⟨zB,zB⟩)<|om O<|zS<|zT ⟨[(5,.c _),(1,.c _),(0,.c _)],[]⟩ (oz [] oH O) ?_
 refine qG 2 0 O O (Nat) (λq=>[(5,vI ((q:Int)-1)),(1,fL (fH (l.drop q) b))]) (λq=>[]) (λq=>q<=l.length) (λq=>q) ⟨l.length,(aC _),oz [] ⟨zD,VLe.of_eq ((ai fL (Bw l b).symm)),zD,T⟩ O⟩ ?_
 rintro q hq
 refine zF<|oo O O<|zX O (wN O O O)<|zA<|zK O ?_ ?_<;>intro c1<;>try simp only [sx] at c1
 ·obtain ⟨j,rfl⟩:∃j,q=j+1:=⟨q-1,zB⟩
  obtain ⟨x,hx⟩:=qX l j zB
  rw [show (((j+1:Nat):Int)-1)=(j:Int) by omega]
  refine zJ<|zF<|zS<|yE 14 mixed uB O O<|ou O (zQ O O)<|ou O (zQ O O)<|ou O (qI O qa O O zB (oI hx))<|ou O (qO O S9 O)<|ou O (zH O uB O qE O)<|ou O (zQ O O)<|ou O (zQ O O)<|ou O (qI O qa O O zB (oI hx))<|ou O (qO O zUo O)<|ou O (zH O W O qE O)<|ou O (zQ O O)<|ou O (LT oh O pp yr O O)<|ou O (kV O oT pp O O O O)<|ou O (yK O O)<|yY<|zA<|zP O<|G O<|zX O (yM O O O ⟨zB,zB⟩)<|G O<|zA ?_
  refine ⟨j,zB,zB,oz [] ⟨VLe.of_eq ((ai vI zB)),VLe.of_eq ((by rw [xx hx,<-zNw];rfl)),zD,T⟩ O⟩
 ·obtain rfl:q=0:=by omega
  refine qL<|oo O O<|om O<|zM<|zV O ?_
  rfl
def Di (b:Nat) (d:Df) (dims red:List Bd) (body:Ex) (e:Ex):
    Con cfg 75 [ZB b,vE e] [E.row b 80 (QB d dims red body (qf dims))] λr μ'=>r=GT (lR d (qf dims) e)/\μ'=[E.row b 80 (QB d dims red body (qf dims))]:=by
 refine Con.drop<|zW func75 O ntmps75 results75 O λz hz=>Y O<|oi O λb1=>oM O (qJ nx O pp O) λb2=>zA<|zF<|yE 11 mixed uB O O<|ou O (zQ O O)<|ou O (qV O O)<|ou O (zG O Hn O)<|ou O (zG O ub O)<|ou O (zH O uB O (J 2 O) O)<|ou O (zQ O O)<|ou O (qV O O)<|ou O (zG O Xk O)<|ou O (zH O uB O (J 2 O) O)<|ou O (qA O yX O (J 1 O) O)<|ou O (LT nz O pp yr O O)<|yY<|ow 0 uo O<|zA<|zT _ (Weak.mem [true,false,true] O)<|zM<|pu (zY uq O (J 0 O) O) ?_
 exact s9
def Dh (b:Nat) (d:Df) (dims red:List Bd) (body:Ex) (f:Int) (e:Ex):
    Con cfg 137 [ZB b,vI f,vE e] [E.row b 80 (QB d dims red body (qf dims))] λr μ'=>r=GT (gE d (qf dims) f e)/\μ'=[E.row b 80 (QB d dims red body (qf dims))]:=by
 refine Con.drop<|zW func137 O ntmps137 results137 O λz hz=>Y O<|oi O λb1=>oM O (qJ nx O pp O) λb2=>zA<|zF<|yE 12 mixed uB O O<|ou O (zQ O O)<|ou O (qV O O)<|ou O (zG O Hn O)<|ou O (zG O ub O)<|ou O (zH O uB O (J 2 O) O)<|ou O (zQ O O)<|ou O (zQ O O)<|ou O (qV O O)<|ou O (zG O Xk O)<|ou O (zH O uB O (J 2 O) O)<|ou O (qA O yX O (J 1 O) O)<|ou O (LT nz O pp yr O O)<|yY<|ow 0 uo O<|zA<|zT _ (Weak.mem [true,false,true] O)<|zM<|pu (zY uq O (J 0 O) O) ?_
 exact s9
def zOt (l:Lf):
    oK cfg 138 [dF l] (vE (nL l)):=by
 refine zW func138 O ntmps138 results138 O ?_
 exact l9
def M6 (b:Nat) (d:Df) (dims red:List Bd) (body:Ex) (hrl:red.length<=1000000) (hbw:body.wt<=1000000) (hbr:body.allF Lf.rng):
    Con cfg 77 [ZB b] [E.row b 80 (QB d dims red body (qf dims))] λr μ'=>r=.tup [fL (mS (vD d (qf dims) red body)),vI (xI (vD d (qf dims) red body))]/\μ'=[E.row b 80 (QB d dims red body (qf dims))]:=by
 refine Con.drop<|zW func77 O ntmps77 results77 O λz hz=>Y O<|qY 20 O<|om O<|zF<|zF<|yN 16 1 [⟨0,.q []⟩,⟨1,.q []⟩,⟨2,.q []⟩,⟨3,.q []⟩,⟨4,.q [1]⟩,⟨5,.q []⟩,⟨6,.q []⟩,⟨7,.q []⟩,⟨8,.q []⟩,⟨9,.q [1]⟩,⟨10,.q []⟩,⟨11,.q []⟩,⟨12,.q []⟩,⟨13,.q []⟩,⟨14,.e 0 []⟩,⟨15,.e 0 []⟩] mixed uB uB O O O<|zR O<|zR O<|zR O<|zR O<|zR O<|zR O<|zR O<|zR O<|zR O<|zR O<|zR O<|zR O<|zR O<|zR O<|zR O<|zR O<|wG<|ot O (zQ O O)<|ot O (qV O O)<|ot O (zG O Hn O)<|ot O (zG O L2 O)<|ot O (zH O uB O (J 0 O) O)<|ot O (zQ O O)<|ot O (qV O O)<|ot O (zG O Hn O)<|ot O (zG O On O)<|ot O (qA O yD O (J 0 O) O)<|ot O (qP O uB (zu d.Fold d.T) (oy O))<|ot O (yS O O)<|ot O (kK O O O)<|ot O (kI O O O)<|sk O O uA O O (yA O qj) ?_
 rintro _ _ ⟨b1,rfl,rfl⟩
 refine ⟨_,O,?_⟩
 refine uh O O uA O O (yP O qq O O O (tc 0 O O)) ?_
 rintro _ _ ⟨rfl,rfl⟩
 refine ⟨_,O,?_⟩
 refine wE O<|om O<|ol O O<|zK O ?_ ?_<;>intro c1<;>try simp only [sx] at c1
 ·have hD:=Q5 (at_:=qf dims) (red:=red) (body:=body) c1
  refine zF<|yN 10 1 [⟨0,.q []⟩,⟨1,.q []⟩,⟨2,.q []⟩,⟨3,.q []⟩,⟨4,.q []⟩,⟨5,.q [2]⟩,⟨6,.q [1]⟩,⟨7,.q []⟩,⟨8,.q [2]⟩,⟨9,.f 0⟩] mixed uB uB O O O<|zR O<|zR O<|zR O<|zR O<|zR O<|zR O<|zR O<|zR O<|zR O<|SA O O (wY (qJ nx O pp O)) ⟨_,_,0,O,O⟩<|wG<|ot O (zQ O O)<|ot O (zQ O O)<|ot O (qV O O)<|ot O (zG O Hn O)<|ot O (zG O On O)<|ot O (qA O yD O (J 0 O) O)<|ot O (qA O rr O (J 0 O) O)<|ot O (LT nt O pd qy O O)<|ot O (yW [0] O uB (Di b d dims red body (.mk 1 (bs []) (sg d.Fold d.T).1 d.T ⟨0,[]⟩ [] [])) (oy O) O)<|Sx O O ?_
  rintro _ _ ⟨b2,rfl,rfl⟩
  refine wE O<|ow 0 uo O<|zA<|zF<|yN 19 1 [⟨0,.q [1]⟩,⟨2,.q []⟩,⟨3,.q []⟩,⟨4,.q []⟩,⟨5,.q [3]⟩,⟨6,.q []⟩,⟨7,.q []⟩,⟨8,.q []⟩,⟨9,.q []⟩,⟨10,.q []⟩,⟨11,.q [3]⟩,⟨12,.q []⟩,⟨13,.q []⟩,⟨14,.q []⟩,⟨15,.q [3]⟩,⟨16,.q [3]⟩,⟨17,.q []⟩,⟨18,.q []⟩,⟨1,.e 0 []⟩] mixed uB uB O O O<|zR O<|zR O<|zR O<|zR O<|zR O<|zR O<|zR O<|zR O<|zR O<|zR O<|zR O<|zR O<|zR O<|zR O<|zR O<|zR O<|zR O<|zR O<|zR O<|wG<|ot O (qA O uq O (J 0 O) O)<|ot O (zQ O O)<|ot O (qV O O)<|ot O (zG O CP O)<|ot O (zH O uB O (J 0 O) O)<|ot O (zQ O O)<|ot O (zQ O O)<|ot O (qV O O)<|ot O (zG O Hn O)<|ot O (zG O L2 O)<|ot O (zH O uB O (J 0 O) O)<|ot O (zQ O O)<|ot O (qV O O)<|ot O (zG O tq O)<|ot O (qA O yX O (J 0 O) O)<|ot O (yW [0] O uB (Dh b d dims red body d.Fold body) (oy O) O)<|ot O (kV O oT pp O O O O)<|ot O (qP O uB (zIj red [gE d (qf dims) d.Fold body] zB) ⟨zD,O,VLe.of_eq (zNw _),O,T⟩)<|sk O O uA O O (LS O oT pp O O O O) ?_
  rintro _ _ ⟨sv3,rfl,rfl⟩
  refine ⟨_,O,?_⟩
  refine wE O<|oM O (qZ 0 O oT O O O (by have:=W8 red [gE d (qf dims) d.Fold body];simp only [pc,qp,pw,qw] at this⊢;omega) (by have:=W8 red [gE d (qf dims) d.Fold body];simp only [pc,qp,pw,qw] at this⊢;omega)) λsv4=>G O<|om O<|zT _ (yJ 0 O (regs':=[(2,_),(57,_)]) (μ':=[_,_,_]) ⟨FLe.sl,FLe.sl,T⟩ ⟨EFle.refl _,EFle.refl _,EFle.refl _,T⟩)<|zT _ (Weak.mem [false,false,true] O)<|zM<|oJ (ox O) (ox O) ?_
  exact v11
 ·refine zJ<|oo O O<|zZ O<|zC O tq<|zN yX (J 1 O) O<|yO [none,some 2] O U qe<|oM O (qJ nt O pd O) λb5=>oM O (qJ [none,some 2] O U O) λb6=>ow 1 ph O<|ow 0 oZ O<|zA<|zF<|oo O O<|zZ O<|zC O CP<|zE uB (J 3 O) O<|qC O qa<|om O<|zS<|zT ⟨[(68,.c _),(0,.c _),(7,.c _),(8,.c _),(66,.c _),(67,.c _)],[_,_,_]⟩ (oz [true,true,false,true] oH O)<|qG 1 2 O O (Nat×Ex×Lf) (λ⟨k,e,s⟩=>[(68,vI k)]) (λ⟨k,e,s⟩=>[E.row b6 59 s.cells,E.row b5 62 e.cs]) (λ⟨k,e,s⟩=>k<=red.length/\(SbJ (λ_:nq=>(⟨0,[]⟩:Lf)) (red.map Bd.Name) body k e)/\(SmJ red k s)) (λ⟨k,e,s⟩=>red.length-k) ⟨⟨0,body,⟨0,[]⟩⟩,⟨zB,zQj hbr,zQh red⟩,oz [true,true,true] oH O⟩ ?_
  rintro ⟨k,e,s⟩ ⟨hk,hs1,hs2⟩
  show oU _ _ _ _ _ ⟨[(68,vI k)]++_,[E.row b6 59 s.cells,E.row b5 62 e.cs]++_⟩
  refine Y O<|yC O<|zA<|zF<|zK O ?_ ?_<;>intro c2<;>try simp only [sx] at c2
  ·obtain ⟨x,hx⟩:=qX red k zB
   refine zJ<|zF<|zS<|Y O<|qF O qa zB (oI hx)<|zN JH qE O<|oM O (yA O AH) λb7=>ow 0 Zt O<|zA<|Y O<|zN yX (J 2 O) O<|zC O S9<|zE uB (J 0 O) O<|yO [none,some 2] O U qe<|qK O uB (zNl e x.Name ⟨0,[]⟩ xK1 hs1.rg (cb _) (zQh []).rg) (oy O)<|qW O<|kG O<|yF O<|oM O (qJ nt O pd O) λb8=>ow 0 ph O<|om O<|zF<|oo O O<|yL O<|zA<|zK O ?_ ?_<;>intro c3<;>try simp only [sx] at c3
   ·have hD:=Ww (at_:=qf dims) c1 (u5 (u:=(λ_:nq=>(⟨0,[]⟩:Lf))) hs1 (Xf hx) c3)
    refine oo O O<|qY 20 O<|om O<|zT _ (Weak.mem [false,false,false,false,true] O)<|zM<|oJ (ox O) (ox O) ?_
    rw [hD]
    exact s9
   ·refine zJ<|Y O<|zN yX (J 0 O) O<|ow 3 ph O<|zA<|yN 9 0 [⟨0,.q [2]⟩,⟨1,.q []⟩,⟨2,.q [1]⟩,⟨3,.q []⟩,⟨4,.q []⟩,⟨5,.q []⟩,⟨6,.q []⟩,⟨7,.q []⟩,⟨8,.e 2 []⟩] mixed uB uB O O O<|zR O<|zR O<|zR O<|zR O<|zR O<|zR O<|zR O<|zR O<|zR O<|wG<|ot O (qA O yV O (J 0 O) O)<|ot O (zG O S9 O)<|ot O (zH O uB O (J 0 O) O)<|ot O (qP O uB (KD x.Name) (oy O))<|ot O (qP O uB (C1 s (dK x.Name) (by have:=hs2.ln;omega) (by have:=zPy x.Name;omega) hs2.rg (zVi _)) (oy O))<|ot O (yS O O)<|ot O (kK O O O)<|ot O (kI O O O)<|uh O O uA O O (yP O oZ O O O (tc 0 O O)) ?_
    rintro _ _ ⟨rfl,rfl⟩
    refine ⟨_,O,?_⟩
    refine wE O<|zA<|zP O<|qH O ⟨zB,zB⟩<|G O<|zA ?_
    refine ⟨⟨k+1,lG (pj (λl=>bX l x.Name ⟨0,[]⟩) e),(gS s (dK x.Name)).1⟩,⟨zB,zVr (u:=(λ_:nq=>(⟨0,[]⟩:Lf))) (λ_=>O) hs1 (Xf hx) c3,Gz hs2 hx⟩,(by show red.length-(k+1)<red.length-k;omega),oz [false,false,true,true,true] oH O⟩
  ·have hD:=Q6 (at_:=qf dims) c1 (u4 hs1 (by rw [pc];omega)) (Lw hs2 zB)
   refine qL<|zF<|yN 16 1 [⟨0,.q [1]⟩,⟨1,.q []⟩,⟨2,.q []⟩,⟨3,.q []⟩,⟨4,.q []⟩,⟨5,.q []⟩,⟨6,.q []⟩,⟨7,.q [3]⟩,⟨8,.q []⟩,⟨9,.q []⟩,⟨10,.q []⟩,⟨11,.q [3]⟩,⟨12,.q [3]⟩,⟨13,.q []⟩,⟨14,.q []⟩,⟨15,.f 0⟩] mixed uB uB O O O<|zR O<|zR O<|zR O<|zR O<|zR O<|zR O<|zR O<|zR O<|zR O<|zR O<|zR O<|zR O<|zR O<|zR O<|zR O<|SA O O (wY (qJ nx O pp O)) ⟨_,_,0,O,O⟩<|wG<|ot O (qA O yV O (J 0 O) O)<|ot O (qP O uB (zOt s) (oy O))<|ot O (zQ O O)<|ot O (zQ O O)<|ot O (qV O O)<|ot O (zG O Hn O)<|ot O (zG O L2 O)<|ot O (zH O uB O (J 0 O) O)<|ot O (zQ O O)<|ot O (qV O O)<|ot O (zG O tq O)<|ot O (qA O yX O (J 0 O) O)<|ot O (yW [0] O uB (Dh b d dims red body d.Fold body) (oy O) O)<|ot O (kV O oT pp O O O O)<|ot O (LT od O pp yr O O)<|Sx O O ?_
   rintro _ _ ⟨b9,rfl,rfl⟩
   refine wE O<|ow 0 uo O<|zA<|zF<|yN 11 1 [⟨0,.q []⟩,⟨1,.q [3]⟩,⟨2,.q [4]⟩,⟨4,.q []⟩,⟨5,.q []⟩,⟨6,.q []⟩,⟨7,.q [4]⟩,⟨8,.q [1]⟩,⟨9,.q []⟩,⟨10,.q []⟩,⟨3,.e 0 []⟩] mixed uB uB O O O<|zR O<|zR O<|zR O<|zR O<|zR O<|zR O<|zR O<|zR O<|zR O<|zR O<|zR O<|wG<|ot O (zQ O O)<|ot O (qA O yX O (J 0 O) O)<|ot O (yW [0] O uB (Di b d dims red body e) (oy O) O)<|ot O (zQ O O)<|ot O (qV O O)<|ot O (zG O CP O)<|ot O (zH O uB O (J 0 O) O)<|ot O (qA O uq O (J 0 O) O)<|ot O (kV O oT pp O O O O)<|ot O (qP O uB (zIj red [ul (nL s) [gE d (qf dims) d.Fold body]] zB) ⟨zD,O,VLe.of_eq (Kw _ _),O,T⟩)<|sk O O uA O O (LS O oT pp O O O O) ?_
   rintro _ _ ⟨sv10,rfl,rfl⟩
   refine ⟨_,O,?_⟩
   refine wE O<|oM O (qZ 0 O oT O O O (by have:=W8 red [ul (nL s) [gE d (qf dims) d.Fold body]];simp only [pc,qp,pw,qw] at this⊢;omega) (by have:=W8 red [ul (nL s) [gE d (qf dims) d.Fold body]];simp only [pc,qp,pw,qw] at this⊢;omega)) λsv11=>G O<|om O<|zT _ (yJ 0 O (regs':=[(119,_),(2,_)]) (μ':=[_,_,_,_]) ⟨FLe.sl,FLe.sl,T⟩ ⟨EFle.refl _,EFle.refl _,EFle.refl _,EFle.refl _,T⟩)<|zT _ (Weak.mem [false,false,false,true] O)<|zM<|oJ (ox O) (ox O) ?_
   exact v11
def Ul (b:Nat) (d:Df) (dims red:List Bd) (body:Ex) (hdl:dims.length<=1000000) (hd0:0<dims.length):
    Con cfg 76 [ZB b] [E.row b 80 (QB d dims red body (qf dims))] λr μ'=>r=fL (cJ d (qf dims) body)/\μ'=[E.row b 80 (QB d dims red body (qf dims))]:=by
 refine Con.drop<|zW func76 O ntmps76 results76 O ?_
 intro z hz
 obtain ⟨x,hx⟩:=qX dims (dims.length-1) zB
 have hix:=ix_at hx
 have hil:(qf dims).length=dims.length:=by unfold qf;rw [pc]
 refine Y O<|qY 20 O<|zA<|oo O O<|zZ O<|zC O Xk<|zE uB (J 0 O) O<|qC O oO<|zX O (yM O O O ⟨zB,zB⟩)<|om O<|oo O O<|zZ O<|zC O Xk<|zE uB (J 0 O) O<|yQ _ (kD 93 4)<|oM O (qZ 0 O oO O O O uE uE) λsv1=>om O<|zF<|yN 18 0 [⟨0,.q []⟩,⟨1,.q []⟩,⟨2,.q []⟩,⟨3,.q []⟩,⟨4,.q []⟩,⟨5,.q [1]⟩,⟨6,.q []⟩,⟨7,.q []⟩,⟨8,.q []⟩,⟨9,.q []⟩,⟨10,.q []⟩,⟨11,.q []⟩,⟨12,.q []⟩,⟨13,.q []⟩,⟨14,.q []⟩,⟨15,.q [0]⟩,⟨16,.q []⟩,⟨17,.e 0 []⟩] mixed uB uB O O O<|zR O<|zR O<|zR O<|zR O<|zR O<|zR O<|zR O<|zR O<|zR O<|zR O<|zR O<|zR O<|zR O<|zR O<|zR O<|zR O<|zR O<|zR O<|wG<|ot O (zQ O O)<|ot O (zQ O O)<|ot O (zQ O O)<|ot O (qV O O)<|ot O (zG O Xk O)<|ot O (zH O uB O (J 0 O) O)<|ot O (zQ O O)<|ot O (qI O oO O O zB (zVy hix))<|ot O (qO O vc O)<|ot O (qA O yV O qE O)<|ot O (qP O uB (Bo (-1)) (oy O))<|ot O (qP O uB (C1 (dK x.Name) ⟨-1,[]⟩ (by have:=zPy x.Name;omega) uA (zVi _) YC) (oy O))<|ot O (yS O O)<|ot O (kK O O O)<|ot O (kI O O O)<|ot O (qU 0 O oO O O O zB (by simp only [D6,pc];omega))<|ot O (wL O vc O)<|uh O O uA O O (yP O oZ O O O (Hl 0 O (zVy hix) O)) ?_
 rintro _ _ ⟨rfl,rfl⟩
 refine ⟨_,O,?_⟩
 refine wE O<|zA<|Y O<|zNs (μ':=[E.vec sv1 93 4 (((qf dims).set ((qf dims).length-1) ⟨(gS (dK x.Name) ⟨-1,[]⟩).1,bs [],[]⟩).map Ix.cells),E.row b 80 (QB d dims red body (qf dims))]) (by rw [<-Rn];rfl)<|yQ _ (yJ 0 O (regs':=[(16,_),(4,_),(18,_)]) (μ':=[_]) ⟨FLe.sl,FLe.sl,FLe.sl,T⟩ ⟨EFle.refl _,T⟩)<|G O<|G O<|zZ O<|zC O Hn<|zC O ub<|zE uB (J 0 O) O<|G O<|yO ny O pd qy<|zX O (yW [0] O uB (Dh b d dims red body 1 (.mk 3 d.Name ⟨0,0⟩ px ⟨0,[]⟩ ((qf dims).set ((qf dims).length-1) ⟨(gS (dK x.Name) ⟨-1,[]⟩).1,bs [],[]⟩) [])) (oy O) O)<|oM O (qJ nx O pp O) λb2=>ow 0 uo O<|zA<|zF<|yN 17 0 [⟨0,.q []⟩,⟨1,.q []⟩,⟨2,.q []⟩,⟨3,.q []⟩,⟨4,.q [1]⟩,⟨5,.q [1]⟩,⟨6,.q []⟩,⟨7,.q []⟩,⟨8,.q []⟩,⟨9,.q [1]⟩,⟨10,.q []⟩,⟨11,.q []⟩,⟨12,.q []⟩,⟨13,.q []⟩,⟨14,.q []⟩,⟨15,.q [0]⟩,⟨16,.q []⟩] mixed uB uB O O O<|zR O<|zR O<|zR O<|zR O<|zR O<|zR O<|zR O<|zR O<|zR O<|zR O<|zR O<|zR O<|zR O<|zR O<|zR O<|zR O<|zR O<|wG<|ot O (zQ O O)<|ot O (zQ O O)<|ot O (qV O O)<|ot O (zG O tq O)<|ot O (qA O yX O (J 0 O) O)<|ot O (yW [0] O uB (Di b d dims red body body) (oy O) O)<|ot O (zQ O O)<|ot O (qV O O)<|ot O (zG O Xk O)<|ot O (zH O uB O (J 0 O) O)<|ot O (zQ O O)<|ot O (qI O oO O O zB (zVy hix))<|ot O (qO O vc O)<|ot O (qA O yV O qE O)<|ot O (qP O uB (zOt (dK x.Name)) (oy O))<|ot O (qA O uq O (J 0 O) O)<|ot O (kV O oT pp O O O O)<|wE O<|yO od O pp yr<|yT O oT pp<|om O<|zT _ (Weak.mem [false,true] O)<|zM<|zV O ?_
 rw [Zc hix]
 first|exact ⟨zKk _ _ _,[],rfl⟩|exact ⟨zKk _ _ _,[_],rfl⟩|exact ⟨zKk _ _ _,[_,_],rfl⟩|exact ⟨zKk _ _ _,[_,_,_],rfl⟩|exact ⟨zKk _ _ _,[_,_,_,_],rfl⟩|exact ⟨zKk _ _ _,[_,_,_,_,_],rfl⟩
end Go.W
end
section
set_option maxRecDepth 10000
namespace Go.W
open Go Go.Eng Go.Proofs Go.L41 Go.Br Tryz
attribute [local irreducible] oU oX TD gF
def wx:bH prog 80 1=some (22,31):=by kernel_rfl
def sm83:sE prog 83=some Hj:=by kernel_rfl
def zYx (mb:Nat) (d:nq) (l:List Ax) (ext:List Int) (m:Ed) (hd:d.size<=100000) (hl:l.length<=1000000) (hs:∀x,x∈l->x.Name.size<=100000) (hel:ext.length=l.length):
    Con cfg 26 [vS d,.c (.sl 3 (l.map Ax.cells)),ss ext,.c (.lit (.map (some mb)))] [E.blk mb (MapR vS m)] λr μ'=>r=.tup [gJ (eZ d l ext),vI (lI d l)]/\μ'=[E.blk mb (MapR vS (pE d l m))]:=by
 refine Con.drop<|zW func26 O ntmps26 results26 O λz hz=>Y O<|qY 2 O<|om O<|oo O O<|yQ _ (kD 50 2)<|zA<|zF<|oo O O<|qC O pg<|om O<|zS<|zT ⟨[(16,.c _),(10,.c _),(0,.c _),(2,.c _),(3,.c _),(14,.c _),(15,.c _)],[_,_]⟩ (oz [true,true] oH O)<|qG 2 2 O O (Nat×Value×Ed) (λ⟨k,sv,q⟩=>[(16,vI k),(10,.c (.lit sv))]) (λ⟨k,sv,q⟩=>[E.vec sv 50 2 ((gU d (l.take k) ext).map Bd.cells),E.blk mb (MapR vS q)]) (λ⟨k,sv,q⟩=>k<=l.length/\((l.take k).any (λx=>decide (pi d x.Name=bs []))=false)/\(pE d l m=pE d (l.drop k) q)) (λ⟨k,sv,q⟩=>l.length-k) ⟨⟨0,(.slice none 0 0),m⟩,⟨zB,O,O⟩,oz [true,true] oH O⟩ ?_
 rintro ⟨k,sv,q⟩ ⟨hk,hp,hq⟩
 show oU _ _ _ _ _ ⟨[(16,vI k),(10,.c (.lit sv))]++_,[E.vec sv 50 2 ((gU d (l.take k) ext).map Bd.cells),E.blk mb (MapR vS q)]++_⟩
 refine Y O<|yC O<|zA<|zF<|zK O ?_ ?_<;>intro c1<;>try simp only [sx] at c1
 ·obtain ⟨x,hx⟩:=qX l k zB
  obtain ⟨n,hn⟩:=qX ext k zB
  refine zJ<|zF<|zS<|oo O O<|qF O pg zB (oI hx)<|zN Ee qE O<|oM O (qJ [none,none,some 2] O Hg O) λb2=>G O<|ow 0 RP O<|zA<|oo O O<|zC O L1<|zE uB (J 0 O) O<|qK O uB (zOu d x.Name hd (hs x (qD hx))) (oy O)<|om O<|zF<|oo O O<|wF O<|zA<|zK O ?_ ?_<;>intro c2<;>try simp only [sx] at c2
  ·have hE:=QG hx c2
   have hM:=M9 hx hq c2
   refine Y O<|qY 2 O<|om O<|zT _ (Weak.mem [false,false,true] O)<|zM<|oJ (ox O) (ox O) ?_
   rw [Uw hE,hE,hM]
   exact s9
  ·refine zJ<|oo O O<|zC O L1<|zE uB (J 0 O) O<|G O<|wO O O (zJz 2 (pi d x.Name) O sm83 O O O (zD) O)<|zA<|zP O<|G O<|G O<|G O<|G O<|qF O pf zB (oI hn)<|zE uB qE O<|yI O AH Y0<|yT O qa AH<|oM O (qZ 1 O qa O O O (by simp [gU];omega) (by simp [gU];omega)) λsv3=>om O<|zP O<|qH O ⟨zB,zB⟩<|G O<|zA ?_
   refine ⟨⟨k+1,sv3,fR q x.Name (pi d x.Name)⟩,⟨zB,YQ hx hp c2,M8 hx hq c2⟩,(by show l.length-(k+1)<l.length-k;omega),oz [false,true,true] oH (by show _=[E.vec sv3 _ 2 ((gU d (l.take (k+1)) ext).map Bd.cells),E.blk mb (MapR vS (fR q x.Name (pi d x.Name)))]++_;rw [M7 hx hn,ah];rfl)⟩
 ·rw [yG (l:=l) (k:=k) zB]
  rw [yG (l:=l) (k:=k) zB] at hp
  have hE:=uX hp
  have hM:=QF hq (show l.length<=k by omega)
  refine zT _ (yJ 0 O (regs':=[(10,_)]) (μ':=[_]) ⟨FLe.sl,T⟩ ⟨EFle.refl _,T⟩)<|qL<|oo O O<|G O<|om O<|zM<|oJ (ox O) (ox O) ?_
  rw [Dm hE,hE,hM]
  exact s9
def Aw (b:Nat) (d:Df) (dims red:List Bd) (body:Ex) (hdl:dims.length<=1000000) (hrl:red.length<=1000000) (hbw:body.wt<=1000000) (hbr:body.allF Lf.rng) (h5:d.Fold=5->0<dims.length):
    Con cfg 32 [ZB b] [E.row b 80 (QB d dims red body (qf dims))] λr μ'=>r=.tup [fL (mS (SO d dims red body)),vI (xI (SO d dims red body))]/\μ'=[E.row b 80 (QB d dims red body (qf dims))]:=by
 refine Con.drop<|zW func32 O ntmps32 results32 O λz hz=>Y O<|qY 20 O<|om O<|zF<|oo O O<|zZ O<|zC O Hn<|zC O L2<|zE uB (J 0 O) O<|zA<|zS<|Y O<|yR O<|om O<|qQ O (λc1=>?_) (λc1=>?_)
 ·have hD:=RF (PU (at_:=qf dims) (red:=red) (body:=body) c1)
  refine zF<|yN 11 0 [⟨0,.q []⟩,⟨1,.q []⟩,⟨2,.q []⟩,⟨3,.q [0]⟩,⟨4,.q []⟩,⟨5,.q []⟩,⟨6,.q []⟩,⟨7,.q []⟩,⟨8,.q [0]⟩,⟨9,.q [0]⟩,⟨10,.q []⟩] mixed uB uB O O O<|zR O<|zR O<|zR O<|zR O<|zR O<|zR O<|zR O<|zR O<|zR O<|zR O<|zR O<|wG<|ot O (zQ O O)<|ot O (qV O O)<|ot O (zG O wx O)<|ot O (zH O uB O (J 0 O) O)<|ot O (zQ O O)<|ot O (zQ O O)<|ot O (qV O O)<|ot O (zG O tq O)<|ot O (qA O yX O (J 0 O) O)<|ot O (yW [0] O uB (Di b d dims red body body) (oy O) O)<|ot O (kV O oT pp O O O O)<|wE O<|qK O uB (zIj dims [lR d (qf dims) body] zB) ⟨zD,O,VLe.of_eq (zNw _),O,T⟩<|G O<|om O<|zM<|oJ (ox O) (ox O) ?_
  rw [hD]
  exact s9
 ·refine Y O<|yR O<|om O<|qQ O (λc2=>?_) (λc2=>?_)
  ·have hD:=RF (PV (at_:=qf dims) (red:=red) (body:=body) c2)
   refine zF<|yN 6 0 [⟨0,.q []⟩,⟨1,.q []⟩,⟨2,.q []⟩,⟨3,.q [0]⟩,⟨4,.q []⟩,⟨5,.q [0]⟩] mixed uB uB O O O<|zR O<|zR O<|zR O<|zR O<|zR O<|zR O<|wG<|ot O (zQ O O)<|ot O (qV O O)<|ot O (zG O wx O)<|ot O (zH O uB O (J 0 O) O)<|ot O (zQ O O)<|ot O (yW [0] O uB (Ul b d dims red body hdl (h5 c2)) (oy O) O)<|wE O<|qK O uB (zIj dims (cJ d (qf dims) body) zB) (oy O)<|G O<|om O<|zM<|oJ (ox O) (ox O) ?_
   rw [hD]
   exact s9
  ·have hI:=E8 (at_:=qf dims) (red:=red) (body:=body) c1 c2
   refine zJ<|oo O O<|zX O (yW [0] O uB (M6 b d dims red body hrl hbw hbr) (oy O) O)<|qW O<|yF O<|yF O<|G O<|om O<|zF<|oo O O<|yL O<|zA<|zK O ?_ ?_<;>intro c3<;>try simp only [sx] at c3
   ·obtain ⟨x,hx⟩:=zZy c3
    have hD:=st_e (hI.trans hx)
    rw [hx]
    refine oo O O<|qY 20 O<|om O<|zM<|oJ (ox O) (ox O) ?_
    rw [hD]
    exact s9
   ·obtain ⟨x,hx⟩:=wp (λx hx=>II hx) c3
    have hD:=RF (hI.trans hx)
    rw [hx]
    refine zJ<|oo O O<|zZ O<|zC O wx<|zE uB (J 0 O) O<|G O<|qK O uB (zIj dims x zB) (oy O)<|G O<|om O<|zM<|oJ (ox O) (ox O) ?_
    rw [hD]
    exact s9
end Go.W
end
section
set_option maxRecDepth 10000
namespace Go.W
open Go Go.Eng Go.Proofs Go.L41 Go.Br Tryz
attribute [local irreducible] oU oX TD gF
def zKs (A Bn:List nq) (mb:Nat) (m:Ed) (hm:∀s,(fX m s).getD s=mJ A Bn s) (hA:A.Nodup) (hB:Bn.Nodup) (hAB:A.length=Bn.length) (l:Lf) (hl:l.L.length<=4294967296) (hs:sC A Bn l):
    Con cfg 72 [dF l,.c (.lit (.map (some mb)))] [E.blk mb (MapR vS m)] λr μ'=>r=dF (gP A Bn l)/\μ'=[E.blk mb (MapR vS m)]:=by
 refine Con.drop<|zW func72 O ntmps72 results72 O λz hz=>Y O<|oi O λb1=>oM O (qJ [none,some 2] O U O) λb2=>zA<|Y O<|zC O ui<|zE W (J 1 O) O<|yI O U qe<|oM O (yA O U) λb3=>ow 0 oZ O<|zA<|zF<|Y O<|yQ _ (kD 139 2)<|zC O kA<|zE uB (J 3 O) O<|zX O (zHv O N O)<|om O<|zS<|zT ⟨[(16,.c _),(1,.c _),(4,.c _),(5,.c _),(14,.c _),(15,.c _)],[_,_,_,_]⟩ (oz [true,true,true,false,true] oH O)<|qG 1 2 O O (Nat×Value) (λ⟨k,sv⟩=>[(16,vI k)]) (λ⟨k,sv⟩=>[E.vec sv 139 2 (((l.L.take k).map (λx:Mono=>(⟨mJ A Bn x.Name,x.By⟩:Mono))).map Mono.cells),E.row b3 59 [cI l.K,.lit sv]]) (λ⟨k,sv⟩=>k<=l.L.length) (λ⟨k,sv⟩=>l.L.length-k) ⟨⟨0,(.slice none 0 0)⟩,zB,oz [true,true,true,true] oH O⟩ ?_
 rintro ⟨k,sv⟩ hk
 show oU _ _ _ _ _ ⟨[(16,vI k)]++_,[E.vec sv 139 2 (((l.L.take k).map (λx:Mono=>(⟨mJ A Bn x.Name,x.By⟩:Mono))).map Mono.cells),E.row b3 59 [cI l.K,.lit sv]]++_⟩
 refine Y O<|yC O<|zA<|zF<|zK O ?_ ?_<;>intro c1<;>try simp only [sx] at c1
 ·obtain ⟨x,hx⟩:=qX l.L k zB
  refine zJ<|zF<|zS<|Y O<|qF O N zB (oI hx)<|zN Eb qE O<|oM O (yA O te) λb4=>ow 0 tg O<|zA<|zF<|oo O O<|zC O wH<|zE uB (J 0 O) O<|zX O (Ak 4 (bs []) O sm83 O O O (λ_ _=>CRep.lit _ O))<|qW O<|yF O<|yF O<|G O<|om O<|ol O O<|zK O ?_ ?_<;>intro c2<;>try simp only [sx] at c2
  ·have hr:(fX m x.Name).getD (bs [])=mJ A Bn x.Name:=by rw [<-hm];cases h9:fX m x.Name with|none=>rw [h9] at c2;cases c2|some v=>rfl
   refine zP O<|G O<|zC O wH<|ow 0 sz9 O<|zA<|zP O<|zC O kA<|zE uB (J 2 O) O<|zN Eb (J 0 O) O<|yT O N te<|oM O (qZ 1 O N O O O uE uE) λsv5=>zC O kA<|ow 2 AA O<|zA<|zP O<|qH O ⟨zB,zB⟩<|G O<|zA ?_
   refine ⟨⟨k+1,sv5⟩,zB,(by show l.L.length-(k+1)<l.L.length-k;omega),oz [false,true,true,true,true] oH (by exact zKr (by rw [yB hx,ah,ah];show _=_++[[cS (mJ A Bn x.Name),cI x.By]];rw [<-hr];rfl))⟩
  ·have hr:x.Name=mJ A Bn x.Name:=by rw [<-hm];cases h9:fX m x.Name with|none=>rfl|some v=>rw [h9] at c2;cases c2
   refine zJ<|zP O<|zC O kA<|zE uB (J 2 O) O<|zN Eb (J 0 O) O<|yT O N te<|oM O (qZ 1 O N O O O uE uE) λsv6=>zC O kA<|ow 2 AA O<|zA<|zP O<|qH O ⟨zB,zB⟩<|G O<|zA ?_
   refine ⟨⟨k+1,sv6⟩,zB,(by show l.L.length-(k+1)<l.L.length-k;omega),oz [false,true,true,true,true] oH (by exact zKr (by rw [yB hx,ah,ah];show _=_++[[cS (mJ A Bn x.Name),cI x.By]];rw [<-hr];rfl))⟩
 ·rw [yG (l:=l.L) (k:=k) zB]
  refine qL<|Y O<|zC O kA<|zE uB (J 1 O) O<|zX O (kL [0] O uB (NQ sv (l.L.map (λx:Mono=>(⟨mJ A Bn x.Name,x.By⟩:Mono))) (by rw [pc];exact hl) (Nw hA hB hAB hs)) (oy O) O)<|yQ _ (yJ 0 O (regs':=[(38,_)]) (μ':=[_,_,_]) ⟨FLe.sl,T⟩ ⟨EFle.row (ds:=[_,_]) ⟨.inl O,.inr ⟨O,O⟩,T⟩,EFle.refl _,EFle.refl _,T⟩)<|zA<|Y O<|zN yV (J 0 O) O<|ow 1 oZ O<|zA<|zT _ (Weak.mem [false,true,true] O)<|zM<|pu (zY yV O (J 0 O) O) ?_
  exact s9
def zTg (A Bn:List nq) (mb:Nat) (m:Ed) (hm:∀s,(fX m s).getD s=mJ A Bn s) (hA:A.Nodup) (hB:Bn.Nodup) (hAB:A.length=Bn.length) (e:Ex) (ih:∀a,a∈e.Args->a.wt<=2000000->a.allF (sC A Bn)->Con cfg 30 [vE a,.c (.lit (.map (some mb)))] [E.blk mb (MapR vS m)] λr μ'=>r=vE (qh (gP A Bn) a)/\μ'=[E.blk mb (MapR vS m)]) (he:e.wt<=2000000) (hs:e.allF (sC A Bn)):
    Con cfg 30 [vE e,.c (.lit (.map (some mb)))] [E.blk mb (MapR vS m)] λr μ'=>r=vE (qh (gP A Bn) e)/\μ'=[E.blk mb (MapR vS m)]:=by
 refine Con.drop<|zW func30 O ntmps30 results30 O ?_
 intro z hz
 have hew:=Ex.wt_eq e
 obtain ⟨hel,hei,hea⟩:=e.parts he
 have hsI:∀x,x∈e.Idx->sC A Bn x.Lin/\∀l,l∈x.At->sC A Bn l:=λx hx=>⟨Ex.allF_ix hs hx,λl hl=>Ex.allF_at hs hx hl⟩
 refine Y O<|oi O λb1=>oM O (qJ nt O pd O) λb2=>zA<|Y O<|zC O Ae<|zN yV (J 1 O) O<|G O<|zX O (yW [2] O uB (zKs A Bn mb m hm hA hB hAB e.Lin zB (Ex.allF_lin hs)) (oy O) O)<|zC O Ae<|ow 1 oZ O<|zA<|oo O O<|yQ _ (kD 93 4)<|zA<|zF<|Y O<|zC O kX<|zE uB (J 2 O) O<|zX O (zHv O oO O)<|om O<|zS<|zT ⟨[(22,.c _),(5,.c _),(1,.c _),(2,.c _),(4,.c _),(20,.c _),(21,.c _)],[_,_,_,_]⟩ (oz [true,true,true,true] oH O)<|qG 2 1 O O (Nat×Value) (λ⟨k,sv⟩=>[(22,vI k),(5,.c (.lit sv))]) (λ⟨k,sv⟩=>[E.vec sv 93 4 (((e.Idx.take k).map (xc (gP A Bn))).map Ix.cells)]) (λ⟨k,sv⟩=>k<=e.Idx.length) (λ⟨k,sv⟩=>e.Idx.length-k) ⟨⟨0,(.slice none 0 0)⟩,zB,oz [true,true,true,true] oH O⟩ ?_
 rintro ⟨k,sv⟩ hk
 show oU _ _ _ _ _ ⟨[(22,vI k),(5,.c (.lit sv))]++_,[E.vec sv 93 4 (((e.Idx.take k).map (xc (gP A Bn))).map Ix.cells)]++_⟩
 refine Y O<|yC O<|zA<|zF<|zK O ?_ ?_<;>intro c1<;>try simp only [sx] at c1
 ·obtain ⟨x,hx⟩:=qX e.Idx k zB
  have hxw:=Ss (qD hx)
  rw [Ix.wt] at hxw
  refine zJ<|zF<|zS<|Y O<|qF O oO zB (oI hx)<|zN vf qE O<|oM O (qJ nv O qk O) λb4=>ow 0 sh O<|zA<|zF<|yN 8 1 [⟨0,.q []⟩,⟨1,.q [1]⟩,⟨2,.q []⟩,⟨3,.q [5]⟩,⟨4,.q []⟩,⟨5,.q [1]⟩,⟨6,.q []⟩,⟨7,.f 0⟩] mixed uB uB O O O<|zR O<|zR O<|zR O<|zR O<|zR O<|zR O<|zR O<|SA O O (wY (yA O qk)) ⟨_,_,0,O,O⟩<|wG<|ot O (zG O vc O)<|ot O (qA O yV O (J 0 O) O)<|ot O (zQ O O)<|ot O (yW [0] O uB (zKs A Bn mb m hm hA hB hAB x.Lin zB (hsI x (qD hx)).1) (oy O) O)<|ot O (zG O AE O)<|ot O (zH O uB O (J 0 O) O)<|ot O (LU O qk FU O)<|Sx O O ?_
  rintro _ _ ⟨b5,rfl,rfl⟩
  refine wE O<|ow 0 sh O<|zA<|zF<|Y O<|yQ _ (kD 59 2)<|zC O rt<|zE uB (J 2 O) O<|qC O oS<|om O<|zS<|zT ⟨[(36,.c _),(1,.c _),(2,.c _),(4,.c _),(5,.c _),(8,.c _),(20,.c _),(21,.c _),(22,.c _),(34,.c _),(35,.c _)],[_,_,_,_,_,_]⟩ (oz [true,true,false,true,true,true,true] oH O)<|qG 1 2 O O (Nat×Value) (λ⟨j,sw⟩=>[(36,vI j)]) (λ⟨j,sw⟩=>[E.vec sw 59 2 (((x.At.take j).map (gP A Bn)).map Lf.cells),E.row b5 93 [cI (gP A Bn x.Lin).K,.sl 2 ((gP A Bn x.Lin).L.map Mono.cells),cS x.From,.lit sw]]) (λ⟨j,sw⟩=>j<=x.At.length) (λ⟨j,sw⟩=>x.At.length-j) ⟨⟨0,(.slice none 0 0)⟩,zB,oz [true,true,true,true,true,true] oH O⟩ ?_
  rintro ⟨j,sw⟩ hj
  show oU _ _ _ _ _ ⟨[(36,vI j)]++_,[E.vec sw 59 2 (((x.At.take j).map (gP A Bn)).map Lf.cells),E.row b5 93 [cI (gP A Bn x.Lin).K,.sl 2 ((gP A Bn x.Lin).L.map Mono.cells),cS x.From,.lit sw]]++_⟩
  refine Y O<|yC O<|zA<|zF<|zK O ?_ ?_<;>intro c2<;>try simp only [sx] at c2
  ·obtain ⟨y,hy⟩:=qX x.At j zB
   have hyw:=Sr (qD hy)
   refine zJ<|zF<|zS<|Y O<|qF O oS zB (oI hy)<|zN yV qE O<|oM O (qJ [none,some 2] O U O) λb6=>ow 0 oZ O<|zA<|yN 6 0 [⟨0,.q []⟩,⟨1,.q [2]⟩,⟨2,.q [0]⟩,⟨3,.q []⟩,⟨4,.q [6]⟩,⟨5,.q []⟩] mixed uB uB O O O<|zR O<|zR O<|zR O<|zR O<|zR O<|zR O<|wG<|ot O (zG O rt O)<|ot O (zH O uB O (J 0 O) O)<|ot O (qA O yV O (J 0 O) O)<|ot O (zQ O O)<|ot O (yW [0] O uB (zKs A Bn mb m hm hA hB hAB y zB ((hsI x (qD hx)).2 y (qD hy))) (oy O) O)<|ot O (kV O oS U O O O O)<|wE O<|oM O (qZ 1 O oS O O O uE uE) λsv7=>zC O rt<|ow 2 Vj O<|zA<|zP O<|qH O ⟨zB,zB⟩<|G O<|zA ?_
   refine ⟨⟨j+1,sv7⟩,zB,(by show x.At.length-(j+1)<x.At.length-j;omega),oz [false,true,true,true,true,true,true] oH (by exact zKr (by rw [yB hy,ah,ah];rfl))⟩
  ·rw [yG (l:=x.At) (k:=j) zB]
   refine zT _ (yJ 0 O (regs':=[]) (μ':=[_,_,_,_,_]) T ⟨EFle.row (ds:=[_,_,_,_]) ⟨.inl O,.inl O,.inl O,.inr ⟨O,O⟩,T⟩,EFle.refl _,EFle.refl _,EFle.refl _,EFle.refl _,T⟩)<|qL<|zP O<|G O<|zN vf (J 0 O) O<|yT O oO qk<|oM O (qZ 1 O oO O O O uE uE) λsv8=>om O<|zP O<|qH O ⟨zB,zB⟩<|G O<|zA ?_
   refine ⟨⟨k+1,sv8⟩,zB,(by show e.Idx.length-(k+1)<e.Idx.length-k;omega),oz [false,true,true,true,true] oH (by exact SB (by rw [yB hx,ah,ah];rfl))⟩
 ·rw [yG (l:=e.Idx) (k:=k) zB]
  refine zT _ (yJ 0 O (regs':=[(5,_)]) (μ':=[_,_,_]) ⟨FLe.sl,T⟩ ⟨EFle.refl _,EFle.refl _,EFle.refl _,T⟩)<|qL<|oo O O<|zC O kX<|ow 1 Jo O<|zA<|oo O O<|yQ _ (kD 62 13)<|zA<|zF<|Y O<|zC O rn<|zE uB (J 2 O) O<|zX O (zHv O pa O)<|om O<|zS<|zT ⟨[(59,.c _),(11,.c _),(1,.c _),(2,.c _),(4,.c _),(57,.c _),(58,.c _)],[_,_,_,_]⟩ (oz [true,true,true,true] oH O)<|qG 2 1 O O (Nat×Value) (λ⟨i,su⟩=>[(59,vI i),(11,.c (.lit su))]) (λ⟨i,su⟩=>[E.vec su 62 13 (((e.Args.take i).map (qh (gP A Bn))).map Ex.cells)]) (λ⟨i,su⟩=>i<=e.Args.length) (λ⟨i,su⟩=>e.Args.length-i) ⟨⟨0,(.slice none 0 0)⟩,zB,oz [true,true,true,true] oH O⟩ ?_
  rintro ⟨i,su⟩ hi
  show oU _ _ _ _ _ ⟨[(59,vI i),(11,.c (.lit su))]++_,[E.vec su 62 13 (((e.Args.take i).map (qh (gP A Bn))).map Ex.cells)]++_⟩
  refine Y O<|yC O<|zA<|zF<|zK O ?_ ?_<;>intro c3<;>try simp only [sx] at c3
  ·obtain ⟨z_,hz_⟩:=qX e.Args i zB
   refine zJ<|zF<|zS<|Y O<|qF O pa zB (Aa hz_)<|zN yX qE O<|oM O (qJ nt O pd O) λb10=>ow 0 ph O<|zA<|zP O<|G O<|zN yX (J 0 O) O<|G O<|zX O (yW [4] O uB (ih z_ (qD hz_) (by have:=Ex.arg_wt (qD hz_);omega) (Ex.allF_arg hs (qD hz_))) (oy O) O)<|yT O pa pd<|oM O (qZ 1 O pa O O O uE uE) λsv11=>om O<|zP O<|qH O ⟨zB,zB⟩<|G O<|zA ?_
   refine ⟨⟨i+1,sv11⟩,zB,(by show e.Args.length-(i+1)<e.Args.length-i;omega),oz [false,true,true,true,true] oH (by exact SB (by rw [yB hz_,ah,ah];simp only [aG,bt,Ex.cells_eq (qh (gP A Bn) z_)];(try rfl)))⟩
  ·rw [yG (l:=e.Args) (k:=i) zB]
   refine zT _ (yJ 0 O (regs':=[(11,_)]) (μ':=[_,_,_]) ⟨FLe.sl,T⟩ ⟨EFle.refl _,EFle.refl _,EFle.refl _,T⟩)<|qL<|oo O O<|zC O rn<|ow 1 Vh O<|zA<|Y O<|zN yX (J 1 O) O<|ow 0 ph O<|zA<|zT _ (Weak.mem [true,false,true] O)<|zM<|pu (zY yX O (J 0 O) O) ?_
   have hG:=Xj (gP A Bn) e
   first|exact ⟨ai vE hG.symm,[],rfl⟩|exact ⟨ai vE hG.symm,[_],rfl⟩|exact ⟨ai vE hG.symm,[_,_],rfl⟩|exact ⟨ai vE hG.symm,[_,_,_],rfl⟩|exact ⟨ai vE hG.symm,[_,_,_,_],rfl⟩|exact ⟨ai vE hG.symm,[_,_,_,_,_],rfl⟩
def C7 (A Bn:List nq) (mb:Nat) (m:Ed) (hm:∀s,(fX m s).getD s=mJ A Bn s) (hA:A.Nodup) (hB:Bn.Nodup) (hAB:A.length=Bn.length) (e:Ex):e.wt<=2000000->e.allF (sC A Bn)->Con cfg 30 [vE e,.c (.lit (.map (some mb)))] [E.blk mb (MapR vS m)] λr μ'=>r=vE (qh (gP A Bn) e)/\μ'=[E.blk mb (MapR vS m)]:=by
  induction e using Ex.ind with
  |_ e ih=>exact λhe hs=>zTg A Bn mb m hm hA hB hAB e ih he hs
end Go.W
end
section
set_option maxRecDepth 10000
namespace Go.W
open Go Go.Eng Go.Proofs Go.L41 Go.Br Tryz
attribute [local irreducible] oU oX TD gF
def um:fD prog 41=some [(0,1),(1,1)]:=by kernel_rfl
def pl80:fD prog 80=some [(0,22),(22,1),(23,1),(24,13),(37,1)]:=by kernel_rfl
def sz31:(prog.info? 31).map (·.size)=some 1:=by kernel_rfl
def Jn:(prog.info? 39).map (·.size)=some 1:=by kernel_rfl
def rv:(prog.info? 41).map (·.size)=some 2:=by kernel_rfl
def ri:dZ prog 41=some [qn,qn]:=by kernel_rfl
def zr80:dZ prog 80=some [Hj,pn,pn,pn,pn,pn,qn,qn,pn,pn,Hj,pn,pn,pn,pn,pn,pn,pn,pn,qn,qn,qn,qn,qn,pn,Hj,pn,pn,pn,pn,pn,pn,pn,pn,qn,qn,qn,qn]:=by kernel_rfl
def Ap (n:Ns) (hn:n.Ok):
    oK cfg 33 [va n] (va n):=by
 refine zW func33 O ntmps33 results33 O ?_
 intro z hz
 have hnb:=hn.bufs
 have hnw:=hn.body
 refine Y O<|oi O λb1=>oM O (qJ [some 8,some 20] O ri O) λb2=>zA<|Y O<|zC O tm<|zE uB (J 1 O) O<|qK O uB (zQx n.Body zB) (oy O)<|yI O ri um<|oM O (qJ [some 8,some 20] O ri O) λb3=>ow 0 rv O<|zA<|zF<|Y O<|yQ _ (kD 66 8)<|zC O rz<|zE uB (J 3 O) O<|qC O pq<|om O<|zS<|zT ⟨[(12,.c _),(1,.c _),(2,.c _),(3,.c _),(11,.c _)],[_,_,_,_]⟩ (oz [true,true,true,true] oH O)<|qG 1 2 O O (Nat×Value) (λ⟨k,sv⟩=>[(12,vI k)]) (λ⟨k,sv⟩=>[E.vec sv 66 8 ((n.Bufs.take k).map Bf.cells),E.row b3 41 [.lit sv,.sl 20 (n.Body.map St.cells)]]) (λ⟨k,sv⟩=>k<=n.Bufs.length) (λ⟨k,sv⟩=>n.Bufs.length-k) ⟨⟨0,(.slice none 0 0)⟩,zB,oz [true,true,true,true] oH O⟩ ?_
 rintro ⟨k,sv⟩ hk
 show oU _ _ _ _ _ ⟨[(12,vI k)]++_,[E.vec sv 66 8 ((n.Bufs.take k).map Bf.cells),E.row b3 41 [.lit sv,.sl 20 (n.Body.map St.cells)]]++_⟩
 refine Y O<|yC O<|zA<|zF<|zK O ?_ ?_<;>intro c1<;>try simp only [sx] at c1
 ·obtain ⟨b,hb⟩:=qX n.Bufs k zB
  have hbd:=hn.dims b (qD hb)
  refine zJ<|zF<|zS<|oo O O<|om O<|yE 9 mixed uB O O<|ou O (zG O rz O)<|ou O (zH O uB O (J 1 O) O)<|ou O (zG O rz O)<|ou O (zH O uB O (J 3 O) O)<|ou O (zQ O O)<|ou O (qI O pq O O zB (oI uC))<|ou O (qA O He O qE O)<|ou O (qP O uB (zIk b zB) (oy O))<|ou O (kV O pq pz O O O O)<|yY<|oM O (qZ 0 O pq O O O uE uE) λsv4=>zC O rz<|ow 1 Jn O<|zA<|zP O<|qH O ⟨zB,zB⟩<|G O<|zA ?_
  refine ⟨⟨k+1,sv4⟩,zB,(by show n.Bufs.length-(k+1)<n.Bufs.length-k;omega),oz [true,true,true,true] oH (by exact zKr (by rw [yB hb,ah];rfl))⟩
 ·rw [yG (l:=n.Bufs) (k:=k) zB]
  refine zT _ (yJ 0 O (regs':=[]) (μ':=[_,_,_]) T ⟨EFle.row (ds:=[_,_]) ⟨.inr ⟨O,O⟩,.inl O,T⟩,EFle.refl _,EFle.refl _,T⟩)<|qL<|Y O<|zN ro (J 0 O) O<|ow 1 rv O<|zA<|zM<|pu (zY ro O (J 1 O) O) ?_
  rfl
def Ar (l:List Ax) (env:List Bd) (hel:env.length<=1000000) (her:∀x,x∈env->oQ x.Val) (hl:l.length<=4294967296) (hf:∀x,x∈l->x.Size.L.length<=5864062014805/\x.Size.rng):
    oK cfg 25 [.c (.sl 3 (l.map Ax.cells)),gJ env] (.tup [ss (xH env (l.map Ax.Size)),vI (fO env (l.map Ax.Size))]):=by
 refine zW func25 O ntmps25 results25 O λz hz=>Y O<|qY 1 O<|om O<|oo O O<|yQ _ (kD 3 1)<|zA<|zF<|oo O O<|qC O pg<|om O<|zS<|zT ⟨[(13,.c _),(6,.c _),(1,.c _),(11,.c _),(12,.c _)],[_]⟩ (oz [true] oH O)<|qG 2 1 O O (Nat×Value) (λ⟨k,sv⟩=>[(13,vI k),(6,.c (.lit sv))]) (λ⟨k,sv⟩=>[E.vec sv 3 1 ((fB env ((l.take k).map Ax.Size)).map λn=>[cI n])]) (λ⟨k,sv⟩=>k<=l.length/\(fO env (l.map Ax.Size)=fO env ((l.map Ax.Size).drop k))) (λ⟨k,sv⟩=>l.length-k) ⟨⟨0,(.slice none 0 0)⟩,⟨zB,O⟩,oz [true] oH O⟩ ?_
 rintro ⟨k,sv⟩ ⟨hk,hp⟩
 show oU _ _ _ _ _ ⟨[(13,vI k),(6,.c (.lit sv))]++_,[E.vec sv 3 1 ((fB env ((l.take k).map Ax.Size)).map λn=>[cI n])]++_⟩
 refine Y O<|yC O<|zA<|zF<|zK O ?_ ?_<;>intro c1<;>try simp only [sx] at c1
 ·obtain ⟨x,hx⟩:=qX l k zB
  have hxx:(l.map Ax.Size)[k]? =some x.Size:=Xf hx
  refine zJ<|zF<|zS<|Y O<|qF O pg zB (oI hx)<|zN Ee qE O<|oM O (qJ [none,none,some 2] O Hg O) λb2=>ow 0 RP O<|zA<|Y O<|zC O zZm<|zN yV (J 0 O) O<|G O<|qK O uB (xr x.Size env hel her (hf x (qD hx)).1 (hf x (qD hx)).2) (oy O)<|qW O<|yF O<|yF O<|G O<|om O<|zF<|oo O O<|yL O<|zA<|zK O ?_ ?_<;>intro c2<;>try simp only [sx] at c2
  ·have hE:=uP hxx hp c2
   exact v81
  ·refine zJ<|zF<|oo O O<|yC O<|G O<|oL O (λg8_2=>zQ O O) O<|oG 30 O (λg8_2=>kE O O O) O<|oN O (λh=>(oY h))<|zA<|zK O ?_ ?_<;>intro c3<;>try simp only [sx] at c3
   ·have hE:=uN hxx hp c2 WO
    exact v91
   ·have hn:=zWe hxx hp c2 WO
    refine zJ<|zP O<|G O<|G O<|yT O pf Oq<|oM O (qZ 1 O pf O O O WP WP) λsv3=>om O<|zP O<|qH O ⟨zB,zB⟩<|G O<|zA ?_
    refine ⟨⟨k+1,sv3⟩,⟨zB,hn⟩,(by show l.length-(k+1)<l.length-k;omega),oz [false,true] oH (by exact SB (by rw [yB hx,ah];unfold fB;rw [ah,ah];rfl))⟩
 ·have hE:=uO (show (l.map Ax.Size).length<=k by rw [pc];omega) hp
  exact v23
def MU (p:Pg) (env:List Bd) (hel:env.length<=1000000) (her:∀x,x∈env->oQ x.Val) (hP:p.Ok) (hR:p.Rng) (hS:p.Sm) (i:Int):
    oK cfg 11 [rf p,gJ env,vI i] (.tup [fL (mS (tP p env i)),vI (xI (tP p env i))]):=by
 refine zW func11 O ntmps11 results11 O ?_
 intro z hz
 have hps:=hP.sizes
 refine Y O<|oi O λb1=>qY 20 O<|om O<|zF<|Y O<|zN qv (J 0 O) O<|qK O uB (zHd p hP) (oy O)<|qW O<|yF O<|yF O<|G O<|om O<|oo O O<|yL O<|zA<|zK O ?_ ?_<;>intro c1<;>try simp only [sx] at c1
 ·have hE:=P9 (env:=env) (i:=i) c1
  exact n5
 ·refine zJ<|zF<|Y O<|zN qv (J 0 O) O<|G O<|qK O uB (zIp p env hel her hP hR) (oy O)<|om O<|oo O O<|yL O<|zA<|zK O ?_ ?_<;>intro c2<;>try simp only [sx] at c2
  ·have hE:=Qa (i:=i) c1 c2
   exact n5
  ·refine zJ<|zF<|oo O O<|yC O<|G O<|oL O (λg7_2=>zQ O O) O<|oL O (λg7_2=>zG O ry O) O<|oG 40 O (λg7_2=>zH O uB O (J 0 O) O) O<|oG 41 O (λg7_2=>yH O pt O) O<|oV [(39,_),(42,_)] O oP ⟨O,O,O,O,T⟩ (λg7_2=>wN O O O) O<|oN O (λh=>(oY h))<|zA<|zK O ?_ ?_<;>intro c3<;>try simp only [sx] at c3
   ·have hE:=P8 c1 c2 WO
    exact v78
   ·obtain ⟨di,rfl⟩:∃di:Nat,i=di:=⟨i.toNat,zB⟩
    obtain ⟨d,hd⟩:=qX p.Defs di zB
    have hdm:=qD hd
    have hdR:=(hR.ds d hdm).2.2
    have hsm:=hS.ds d hdm
    have hnz:d.Name.size<=100000:=aL (zQu (zr c1 d hdm)) uA
    have hax:∀x,x∈d.Dims++d.Red->x.Name.size<=100000:=λx hx=>aL (vm c1 hdm x hx) uA
    have hE0:=uU c1 c2 hd
    refine zJ<|Y O<|zC O ry<|zE uB (J 0 O) O<|G O<|qF O pt zB (oI hd)<|zN Ec qE O<|yI O zr80 pl80<|oi O λb2=>om O<|zF<|yE 13 mixed uB O O<|ou O (qA O qv O (J 1 O) O)<|ou O (zQ O O)<|ou O (zQ O O)<|ou O (qV O O)<|ou O (zG O Hn O)<|ou O (zG O ub O)<|ou O (zH O uB O (J 0 O) O)<|ou O (qP O uB (show oK cfg 24 [rf p,gJ env,vS d.Name] (.tup [ss (mT p env d.Name).1,vI (jQ p env d.Name)]) by have h9:=zZx p d.Name env hel her hP hR;rw [zOf c1 c2] at h9;exact h9) (oy O))<|ou O (yS O O)<|ou O (kI O O O)<|ou O (kI O O O)<|ou O (yK O O)<|ou O (yK O O)<|yY<|zA<|zF<|oo O O<|yL O<|zA<|zK O ?_ ?_<;>intro c4<;>try simp only [sx] at c4
    ·have hE:=hE0.trans (C3 c4)
     exact n5
    ·rw [Xm c4]
     refine zJ<|oo O O<|zZ O<|zC O Hn<|zC O Ce<|zE uB (J 0 O) O<|G O<|qK O uB (Ar d.Red env hel her zB (λx hx=>⟨(hP.ds d hdm).2.2.2.1 x hx,(hR.ds d hdm).2.1 x hx⟩)) (oy O)<|qW O<|yF O<|yF O<|G O<|om O<|zF<|oo O O<|yL O<|zA<|zK O ?_ ?_<;>intro c5<;>try simp only [sx] at c5
     ·have hE:=hE0.trans (C4 c4 c5)
      exact n5
     ·rw [zUp c5]
      refine zJ<|Y O<|oM O (zQq vS O O) λb3=>om O<|zF<|zF<|yN 20 0 [⟨0,.q []⟩,⟨1,.q []⟩,⟨2,.q []⟩,⟨3,.q []⟩,⟨4,.q []⟩,⟨5,.q [1]⟩,⟨6,.q []⟩,⟨7,.q []⟩,⟨8,.q []⟩,⟨9,.q []⟩,⟨10,.q [1]⟩,⟨11,.q []⟩,⟨12,.q []⟩,⟨13,.e 0 []⟩,⟨14,.q []⟩,⟨15,.q []⟩,⟨16,.q []⟩,⟨17,.q []⟩,⟨18,.q []⟩,⟨19,.e 1 []⟩] mixed uB uB O O O<|zR O<|zR O<|zR O<|zR O<|zR O<|zR O<|zR O<|zR O<|zR O<|zR O<|zR O<|zR O<|zR O<|zR O<|zR O<|zR O<|zR O<|zR O<|zR O<|zR O<|wG<|ot O (zQ O O)<|ot O (zQ O O)<|ot O (qV O O)<|ot O (zG O Hn O)<|ot O (zG O ub O)<|ot O (zH O uB O (J 0 O) O)<|ot O (zQ O O)<|ot O (qV O O)<|ot O (zG O Hn O)<|ot O (zG O D8 O)<|ot O (zH O uB O (J 0 O) O)<|ot O (zQ O O)<|ot O (zQ O O)<|sk O O uA O O (kL [0] O uB (zYx b3 d.Name d.Dims (fB env (p.en.find d.Name).dims) [] hnz zB (λx hx=>hax x (d7 _ hx)) (by unfold fB;rw [zNq c1 hd,pc,pc])) (oy O) O) ?_
      rintro _ _ ⟨rfl,rfl⟩
      refine ⟨_,O,?_⟩
      refine ot O (yS O O)<|ot O (kI O O O)<|ot O (kI O O O)<|ot O (qV O O)<|ot O (zG O wx O)<|uh O O uA O O (yP O sz31 O O O (tc 0 O O)) ?_
      rintro _ _ ⟨rfl,rfl⟩
      refine ⟨_,O,?_⟩
      refine wE O<|om O<|oo O O<|yL O<|zA<|zK O ?_ ?_<;>intro c6<;>try simp only [sx] at c6
      ·have h7:=Wt c6
       have hE:=hE0.trans (Ib c4 c5 c6)
       refine oo O O<|qY 20 O<|om O<|zM<|oJ (ox O) (ox O) ?_
       rw [hE,h7];rfl
      ·rw [Dm c6]
       refine zJ<|zF<|zF<|yN 20 0 [⟨0,.q []⟩,⟨1,.q []⟩,⟨2,.q []⟩,⟨3,.q []⟩,⟨4,.q []⟩,⟨5,.q [1]⟩,⟨6,.q []⟩,⟨7,.q []⟩,⟨8,.q []⟩,⟨9,.q []⟩,⟨10,.q [1]⟩,⟨11,.q []⟩,⟨12,.q []⟩,⟨13,.e 0 []⟩,⟨14,.q []⟩,⟨15,.q []⟩,⟨16,.q []⟩,⟨17,.q []⟩,⟨18,.q []⟩,⟨19,.e 1 []⟩] mixed uB uB O O O<|zR O<|zR O<|zR O<|zR O<|zR O<|zR O<|zR O<|zR O<|zR O<|zR O<|zR O<|zR O<|zR O<|zR O<|zR O<|zR O<|zR O<|zR O<|zR O<|zR O<|wG<|ot O (zQ O O)<|ot O (zQ O O)<|ot O (qV O O)<|ot O (zG O Hn O)<|ot O (zG O ub O)<|ot O (zH O uB O (J 0 O) O)<|ot O (zQ O O)<|ot O (qV O O)<|ot O (zG O Hn O)<|ot O (zG O Ce O)<|ot O (zH O uB O (J 0 O) O)<|ot O (zQ O O)<|ot O (zQ O O)<|sk O O uA O O (kL [0] O uB (zYx b3 d.Name d.Red (fB env (d.Red.map Ax.Size)) (pE d.Name d.Dims []) hnz zB (λx hx=>hax x (dp _ hx)) (by unfold fB;rw [pc,pc])) (oy O) O) ?_
       rintro _ _ ⟨rfl,rfl⟩
       refine ⟨_,O,?_⟩
       refine ot O (yS O O)<|ot O (kI O O O)<|ot O (kI O O O)<|ot O (qV O O)<|ot O (zG O CP O)<|uh O O uA O O (yP O sz31 O O O (tc 0 O O)) ?_
       rintro _ _ ⟨rfl,rfl⟩
       refine ⟨_,O,?_⟩
       refine wE O<|om O<|oo O O<|yL O<|zA<|zK O ?_ ?_<;>intro c7<;>try simp only [sx] at c7
       ·have h7:=Wt c7
        have hE:=hE0.trans (Ic c4 c5 c6 c7)
        refine oo O O<|qY 20 O<|om O<|zM<|oJ (ox O) (ox O) ?_
        rw [hE,h7];rfl
       ·rw [Dm c7]
        have hE1:=hE0.trans (Ie c4 c5 c6 c7)
        have hgd:=xe c6 c7
        have hna:=zq c1 d hdm
        have hll:=MI (env:=env) c1 hdm
        have hll2:(gU d.Name d.Dims (fB env (p.en.find d.Name).dims)).length=d.Dims.length:=hll
        have hlr:=P1 (env:=env) (d:=d)
        refine zJ<|oo O O<|zZ O<|zC O Hn<|zC O ww<|zN yX (J 1 O) O<|oM O (qJ nt O pd O) λb4=>ow 0 ph O<|zA<|zF<|Y O<|zC O ve<|zE uB (J 3 O) O<|qC O oR<|om O<|zS<|zT ⟨[(132,.c _),(1,.c _),(11,.c _),(15,.c _),(16,.c _),(130,.c _),(131,.c _)],[_,_,_]⟩ (oz [true,true,true,false] oH O)<|qG 1 1 O O (Nat×Ex) (λ⟨k,e1⟩=>[(132,vI k)]) (λ⟨k,e1⟩=>[E.row b4 62 e1.cs]) (λ⟨k,e1⟩=>k<=p.Sizes.length/\(SbJ (λs:nq=>(⟨gI env s,[]⟩:Lf)) p.Sizes d.Body k e1)) (λ⟨k,e1⟩=>p.Sizes.length-k) ⟨⟨0,d.Body⟩,⟨zB,zQj hdR⟩,oz [true,true,true] oH O⟩ ?_
        rintro ⟨k,e1⟩ ⟨hk,hs1⟩
        show oU _ _ _ _ _ ⟨[(132,vI k)]++_,[E.row b4 62 e1.cs]++_⟩
        refine Y O<|yC O<|zA<|zF<|zK O ?_ ?_<;>intro c8<;>try simp only [sx] at c8
        ·obtain ⟨s,hs⟩:=qX p.Sizes k zB
         refine zJ<|zF<|zS<|Y O<|qF O oR zB (oI hs)<|zE uB qE O<|om O<|zF<|yN 11 0 [⟨0,.q [0]⟩,⟨1,.q []⟩,⟨2,.q []⟩,⟨3,.q []⟩,⟨4,.q []⟩,⟨5,.q []⟩,⟨6,.q []⟩,⟨7,.q []⟩,⟨8,.q []⟩,⟨9,.q []⟩,⟨10,.e 0 []⟩] mixed uB uB O O O<|zR O<|zR O<|zR O<|zR O<|zR O<|zR O<|zR O<|zR O<|zR O<|zR O<|zR O<|wG<|ot O (qA O yX O (J 0 O) O)<|ot O (zQ O O)<|ot O (zQ O O)<|ot O (zQ O O)<|ot O (qP O uB (Fs env s zB) (oy O))<|ot O (qP O uB (Bo (gI env s)) (oy O))<|ot O (qP O uB (zNl e1 s ⟨gI env s,[]⟩ xK1 hs1.rg (cb _) (Wl (Kl her s))) (oy O))<|ot O (yS O O)<|ot O (kK O O O)<|ot O (kI O O O)<|uh O O uA O O (yP O ph O O O (tc 0 O O)) ?_
         rintro _ _ ⟨rfl,rfl⟩
         refine ⟨_,O,?_⟩
         refine wE O<|om O<|oo O O<|yL O<|zA<|zK O ?_ ?_<;>intro c9<;>try simp only [sx] at c9
         ·have hE:=hE1.trans (H9 (u5 (u:=(λs:nq=>(⟨gI env s,[]⟩:Lf))) hs1 hs c9))
          exact n5
         ·refine zJ<|zP O<|qH O ⟨zB,zB⟩<|G O<|zA ?_
          refine ⟨⟨k+1,lG (pj (λl=>bX l s ⟨gI env s,[]⟩) e1)⟩,⟨zB,zVr (u:=(λs:nq=>(⟨gI env s,[]⟩:Lf))) (λ_=>O) hs1 hs c9⟩,(by show p.Sizes.length-(k+1)<p.Sizes.length-k;omega),oz [true,true,true] oH O⟩
        ·have hB1:=u4 hs1 (show p.Sizes.length<=k by omega)
         have hB2:=Ia hB1
         have hzf:=OX c1 hdm hdR hB1
         have hmap:∀s,(fX (pE d.Name d.Red (pE d.Name d.Dims [])) s).getD s=mJ ((bD d).map (pi d.Name)) (bD d) s:=by rw [Dn c6,Dn c7];exact Ui hna.1
         refine qL<|oo O O<|zN yX (J 0 O) O<|G O<|zX O (yW [1] O uB (C7 ((bD d).map (pi d.Name)) (bD d) b3 _ hmap (MS hna.1 hgd) hna.1 (by rw [pc]) e1 xK1 (OV _ hzf)) (oy O) O)<|zZ O<|zC O tq<|ow 2 ph O<|zA<|zF<|Y O<|yQ _ (kD 93 4)<|G O<|zZ O<|zC O wx<|zE uB (J 3 O) O<|qC O qa<|om O<|zS<|zT ⟨[(161,.c _),(11,.c _),(159,.c _),(160,.c _)],[_,_]⟩ (oz [true,false,false,true] oH O)<|qG 1 2 O O (Nat×Value) (λ⟨j,sv⟩=>[(161,vI j)]) (λ⟨j,sv⟩=>[E.vec sv 93 4 ((qf ((lJ p env d).take j)).map Ix.cells),E.row b2 80 (mkS d (lJ p env d) (tQ env d) (qh (gP ((bD d).map (pi d.Name)) (bD d)) e1) (.lit sv))]) (λ⟨j,sv⟩=>j<=(lJ p env d).length) (λ⟨j,sv⟩=>(lJ p env d).length-j) ⟨⟨0,(.slice none 0 0)⟩,zB,oz [true,true] oH O⟩ ?_
         rintro ⟨j,sv⟩ hj
         show oU _ _ _ _ _ ⟨[(161,vI j)]++_,[E.vec sv 93 4 ((qf ((lJ p env d).take j)).map Ix.cells),E.row b2 80 (mkS d (lJ p env d) (tQ env d) (qh (gP ((bD d).map (pi d.Name)) (bD d)) e1) (.lit sv))]++_⟩
         refine Y O<|yC O<|zA<|zF<|zK O ?_ ?_<;>intro c10<;>try simp only [sx] at c10
         ·obtain ⟨y,hy⟩:=qX (lJ p env d) j zB
          refine zJ<|zF<|zS<|Y O<|qF O qa zB (oI hy)<|zN JH qE O<|oM O (yA O AH) λb5=>ow 0 Zt O<|zA<|yN 11 0 [⟨0,.q []⟩,⟨1,.q []⟩,⟨2,.q []⟩,⟨3,.q []⟩,⟨4,.q [2]⟩,⟨5,.q []⟩,⟨6,.q [0]⟩,⟨7,.q []⟩,⟨8,.q []⟩,⟨9,.q []⟩,⟨10,.e 1 []⟩] mixed uB uB O O O<|zR O<|zR O<|zR O<|zR O<|zR O<|zR O<|zR O<|zR O<|zR O<|zR O<|zR O<|wG<|ot O (zQ O O)<|ot O (zQ O O)<|ot O (qV O O)<|ot O (zG O Xk O)<|ot O (zH O uB O (J 0 O) O)<|ot O (zG O S9 O)<|ot O (zH O uB O (J 0 O) O)<|ot O (qP O uB (KD y.Name) (oy O))<|ot O (LT oe O qk FU O O)<|ot O (kV O oO qk O O O O)<|sk O O uA O O (qZ 0 O oO O O O (by simp [qf];omega) (by simp [qf];omega)) ?_
          rintro _ _ ⟨sv6,rfl,rfl⟩
          refine ⟨_,O,?_⟩
          refine wE O<|zZ O<|zC O Xk<|ow 2 Jo O<|zA<|zP O<|qH O ⟨zB,zB⟩<|G O<|zA ?_
          refine ⟨⟨j+1,sv6⟩,zB,(by show (lJ p env d).length-(j+1)<(lJ p env d).length-j;omega),oz [false,true,true] oH (by exact zKr (by unfold qf;rw [yB hy,ah,ah];rfl))⟩
         ·refine zT _ (yJ 0 O (regs':=[]) (μ':=[_]) T ⟨EFle.row (ds:=[_,_,_,_,_,_,_,_,_,_,_,_,_,_,_,_,_,_,_,_,_,_,_,_,_,_,_,_,_,_,_,_,_,_,_,_,_,_]) ⟨.inl O,.inl O,.inl O,.inl O,.inl O,.inl O,.inl O,.inl O,.inl O,.inl O,.inl O,.inl O,.inl O,.inl O,.inl O,.inl O,.inl O,.inl O,.inl O,.inl O,.inl O,.inl O,.inl O,.inl O,.inl O,.inl O,.inl O,.inl O,.inl O,.inl O,.inl O,.inl O,.inl O,.inl O,.inl O,.inl O,.inl O,.inr ⟨O,O⟩,T⟩,T⟩) ?_
          rw [yG (l:=lJ p env d) (k:=j) zB]
          refine qL<|oo O O<|zX O (yW [0] O uB (Aw b2 d (lJ p env d) (tQ env d) (qh (gP ((bD d).map (pi d.Name)) (bD d)) e1) zB zB (by have:=Ih (A:=((bD d).map (pi d.Name))) (B:=(bD d)) e1;have:=hs1.wt;omega) (Y5 (VQ hs1.rg λl hl=>yZ hl)) (λh5=>by have:=zt c1 hdm h5;omega)) (oy O) O)<|qW O<|yF O<|yF O<|G O<|om O<|zF<|oo O O<|yL O<|zA<|zK O ?_ ?_<;>intro c11<;>try simp only [sx] at c11
          ·obtain ⟨x,hx⟩:=zZy c11
           have hE:=hE1.trans (hB2.trans hx)
           rw [hx]
           exact n5
          ·obtain ⟨x,hx⟩:=wp (λx hx=>WC hx) c11
           have hBx:=hB2.trans hx
           have hE:=hE1.trans hBx
           rw [hx]
           refine zJ<|oo O O<|yO [some 8,none] O ri um<|qK O uB (Ap ⟨[],x⟩ (Nf hS hdm c1 hdR hBx)) (oy O)<|zX O (Cz O tm uB O O)<|G O<|om O<|zM<|oJ (ox O) (ox O) ?_
           rw [hE];rfl
def As (p:Pg) (s:nq) (hl:p.Params.length<=4294967296):
    oK cfg 43 [rf p,vS s] (vB (p.Params.any λx=>decide (x.Name=s))):=by
 refine zW func43 O ntmps43 results43 O λz hz=>Y O<|oi O λb1=>om O<|zF<|Y O<|zC O uc<|zE uB (J 0 O) O<|qC O qg<|om O<|zS<|zT ⟨[(10,.c _),(1,.c _),(8,.c _),(9,.c _)],[]⟩ (oz [false] oH O)<|qG 1 0 O O (Nat) (λk=>[(10,vI k)]) (λk=>[]) (λk=>k<=p.Params.length/\((p.Params.take k).any (λx=>decide (x.Name=s))=false)) (λk=>p.Params.length-k) ⟨0,⟨zB,O⟩,oz [] oH O⟩ ?_
 rintro k ⟨hk,hp⟩
 refine Y O<|yC O<|zA<|zF<|zK O ?_ ?_<;>intro c1<;>try simp only [sx] at c1
 ·obtain ⟨x,hx⟩:=qX p.Params k zB
  refine zJ<|zF<|zS<|Y O<|qF O qg zB (oI hx)<|zN AI qE O<|oM O (qJ oc O Ou O) λb2=>ow 0 Vk O<|zA<|Y O<|zC O OE<|zE uB (J 0 O) O<|G O<|wF O<|zA<|zK O (λc2=>?_) (λc2=>?_)
  ·try simp only [sx] at c2
   refine ol O O<|zM<|zV O ?_
   rw [cn.2 ⟨x,qD hx,al c2⟩]
  ·exact v79
 ·refine qL<|ol O O<|zM<|zV O ?_
  rw [yG zB] at hp
  rw [hp]
def zTh (p:Pg) (env:List Bd) (hel:env.length<=1000000) (her:∀x,x∈env->oQ x.Val) (hP:p.Ok) (hR:p.Rng) (hS:p.Sm):
    oK cfg 14 [rf p,gJ env] (.tup [va (jM p env).1,vI (jM p env).2]):=by
 refine zW func14 O ntmps14 results14 O ?_
 intro z hz
 have hq1:=hS.outs
 have hq2:=hS.params
 have hq3:=hS.defs
 have hdR:∀d,d∈p.Defs->d.Body.allF Lf.rng:=λd hd=>(hR.ds d hd).2.2
 refine Y O<|oi O λb1=>oM O (qJ [some 8,some 20] O ri O) λb2=>om O<|zF<|Y O<|zN qv (J 1 O) O<|qK O uB (zHd p hP) (oy O)<|qW O<|yF O<|yF O<|G O<|om O<|oo O O<|yL O<|zA<|zK O ?_ ?_<;>intro c1<;>try simp only [sx] at c1
 ·have hE:=Qh (env:=env) c1
  exact v17
 ·refine zJ<|zF<|Y O<|zN qv (J 1 O) O<|G O<|qK O uB (zIp p env hel her hP hR) (oy O)<|om O<|oo O O<|yL O<|zA<|zK O ?_ ?_<;>intro c2<;>try simp only [sx] at c2
  ·have hE:=Qi c1 c2
   exact v17
  ·refine zJ<|Y O<|yI O ri um<|oM O (yA O ri) λb3=>ow 0 rv O<|zA<|zF<|Y O<|yQ _ (kD 66 8)<|yQ _ (kD 64 20)<|zC O Oo<|zE uB (J 4 O) O<|qC O oR<|om O<|zS<|zT ⟨[(45,.c _),(1,.c _),(2,.c _),(4,.c _),(9,.c _),(43,.c _),(44,.c _)],[_,_,_,_,_]⟩ (oz [true,true,true,true,true] oH O)<|qG 1 0 O O (Nat) (λk=>[(45,vI k)]) (λk=>[]) (λk=>k<=p.Outs.length/\((p.Outs.take k).any (λs=>p.Params.any λx=>decide (x.Name=s))=false)) (λk=>p.Outs.length-k) ⟨0,⟨zB,O⟩,oz [true,true,true,true,true] oH O⟩ ?_
   rintro k ⟨hk,hp⟩
   refine Y O<|yC O<|zA<|zF<|zK O ?_ ?_<;>intro c3<;>try simp only [sx] at c3
   ·obtain ⟨s,hs⟩:=qX p.Outs k zB
    refine zJ<|zF<|zS<|Y O<|qF O oR zB (oI hs)<|zE uB qE O<|om O<|Y O<|zN qv (J 4 O) O<|G O<|qK O uB (As p s (by have:=hS.params;omega)) (oy O)<|zA<|zK O ?_ ?_<;>intro c4<;>try simp only [sx] at c4
    ·have hE:=Qc c1 c2 hs c4
     refine Y O<|yO [some 8,some 20] O ri um<|ow 3 rv O<|om O<|zM<|oJ (zY ro O (J 3 O) O) (ox O) ?_
     rw [hE];rfl
    ·refine zJ<|zP O<|qH O ⟨zB,zB⟩<|G O<|zA ?_
     refine ⟨k+1,⟨zB,ZW hs hp c4⟩,zB,oz [true,true,true,true,true] oH O⟩
   ·rw [yG zB] at hp
    refine qL<|zF<|Y O<|zC O uc<|zE uB (J 4 O) O<|qC O qg<|om O<|zS<|zT ⟨[(57,.c _),(1,.c _),(2,.c _),(4,.c _),(9,.c _),(55,.c _),(56,.c _)],[_,_,_,_,_]⟩ (oz [true,true,true,true,true] oH O)<|qG 1 3 O O (Nat×Value) (λ⟨i,sv⟩=>[(57,vI i)]) (λ⟨i,sv⟩=>[E.vec (.slice none 0 0) 64 20 ([]),E.vec sv 66 8 (((p.Params.take i).map (pH p env)).map Bf.cells),E.row b3 41 [.lit sv,.lit (.slice none 0 0)]]) (λ⟨i,sv⟩=>i<=p.Params.length/\(nK p env p.Params=nK p env (p.Params.drop i))) (λ⟨i,sv⟩=>p.Params.length-i) ⟨⟨0,(.slice none 0 0)⟩,⟨zB,O⟩,oz [true,true,true,true,true] oH O⟩ ?_
    rintro ⟨i,sv⟩ ⟨hi,hq⟩
    show oU _ _ _ _ _ ⟨[(57,vI i)]++_,[E.vec (.slice none 0 0) 64 20 ([]),E.vec sv 66 8 (((p.Params.take i).map (pH p env)).map Bf.cells),E.row b3 41 [.lit sv,.lit (.slice none 0 0)]]++_⟩
    refine Y O<|yC O<|zA<|zF<|zK O ?_ ?_<;>intro c5<;>try simp only [sx] at c5
    ·obtain ⟨x,hx⟩:=qX p.Params i zB
     refine zJ<|zF<|zS<|Y O<|qF O qg zB (oI hx)<|zN AI qE O<|oM O (qJ oc O Ou O) λb4=>ow 0 Vk O<|zA<|Y O<|zN qv (J 5 O) O<|G O<|zC O OE<|zE uB (J 0 O) O<|qK O uB (show oK cfg 24 [rf p,gJ env,vS x.Name] (.tup [ss (mT p env x.Name).1,vI (jQ p env x.Name)]) by have h9:=zZx p x.Name env hel her hP hR;rw [zOf c1 c2] at h9;exact h9) (oy O)<|qW O<|yF O<|yF O<|G O<|om O<|zF<|oo O O<|yL O<|zA<|zK O ?_ ?_<;>intro c6<;>try simp only [sx] at c6
     ·have hE:=Qg c1 c2 hp (Lj hx hq c6) c6
      refine Y O<|yO [some 8,some 20] O ri um<|G O<|ow 4 rv O<|om O<|zM<|oJ (zY ro O (J 4 O) O) (ox O) ?_
      rw [hE];rfl
     ·rw [Xm c6]
      refine zJ<|zP O<|zC O rz<|zE uB (J 3 O) O<|zC O OE<|zE uB (J 0 O) O<|zC O zZn<|zN yD (J 0 O) O<|G O<|yI O pz QW<|yT O pq pz<|oM O (qZ 2 O pq O O O uD uD) λsv5=>zC O rz<|ow 3 Jn O<|zA<|zP O<|qH O ⟨zB,zB⟩<|G O<|zA ?_
      refine ⟨⟨i+1,sv5⟩,⟨zB,FV hx hq c6⟩,(by show p.Params.length-(i+1)<p.Params.length-i;omega),oz [false,true,true,true,true,true] oH (by show _=[E.vec (.slice none 0 0) _ 20 [],E.vec sv5 _ 8 (((p.Params.take (i+1)).map (pH p env)).map Bf.cells),E.row b3 _ [.lit sv5,.lit (.slice none 0 0)]]++_;rw [yB hx,ah,ah];rfl)⟩
    ·have hQ:=Li hq (show p.Params.length<=i by omega)
     rw [yG (l:=p.Params) (k:=i) zB]
     refine qL<|zF<|Y O<|zC O ry<|zE uB (J 4 O) O<|qC O pt<|om O<|zS<|zT ⟨[(88,.c _),(1,.c _),(2,.c _),(4,.c _),(9,.c _),(86,.c _),(87,.c _)],[_,_,_,_,_]⟩ (oz [true,true,true,true,true] oH O)<|qG 1 3 O O (Nat×Value×Value) (λ⟨j,sw,sx9⟩=>[(88,vI j)]) (λ⟨j,sw,sx9⟩=>[E.vec sw 64 20 (((p.Defs.take j).flatMap λd=>mS (gL p env d)).map St.cells),E.vec sx9 66 8 (((p.Params.map (pH p env))++(p.Defs.take j).map (mG p env)).map Bf.cells),E.row b3 41 [.lit sx9,.lit sw]]) (λ⟨j,sw,sx9⟩=>j<=p.Defs.length/\(mZ p env p.Defs=mZ p env (p.Defs.drop j))/\(bR ((p.Defs.take j).flatMap λd=>mS (gL p env d))<=j*3200)) (λ⟨j,sw,sx9⟩=>p.Defs.length-j) ⟨⟨0,(.slice none 0 0),sv⟩,⟨zB,O,cb _⟩,oz [true,true,true,true,true] oH (by show _=[E.vec (.slice none 0 0) _ 20 [],E.vec sv _ 8 ((p.Params.map (pH p env)++[]).map Bf.cells),E.row b3 _ [.lit sv,.lit (.slice none 0 0)]]++_;rw [rk];rfl)⟩ ?_
     rintro ⟨j,sw,sx9⟩ ⟨hj,hr,hr9⟩
     show oU _ _ _ _ _ ⟨[(88,vI j)]++_,[E.vec sw 64 20 (((p.Defs.take j).flatMap λd=>mS (gL p env d)).map St.cells),E.vec sx9 66 8 (((p.Params.map (pH p env))++(p.Defs.take j).map (mG p env)).map Bf.cells),E.row b3 41 [.lit sx9,.lit sw]]++_⟩
     refine Y O<|yC O<|zA<|zF<|zK O ?_ ?_<;>intro c7<;>try simp only [sx] at c7
     ·obtain ⟨d,hd⟩:=qX p.Defs j zB
      refine zJ<|zF<|zS<|oo O O<|qF O pt zB (oI hd)<|zN Ec qE O<|oM O (qJ oa O Ot O) λb6=>G O<|ow 0 Vi O<|zA<|Y O<|zN qv (J 5 O) O<|G O<|G O<|qK O uB (show oK cfg 11 [rf p,gJ env,vI (j:Int)] (.tup [fL (mS (gL p env d)),vI (xI (gL p env d))]) by rw [<-uU c1 c2 hd];exact MU p env hel her hP hR hS j) (oy O)<|qW O<|yF O<|yF O<|G O<|om O<|zF<|oo O O<|yL O<|zA<|zK O ?_ ?_<;>intro c8<;>try simp only [sx] at c8
      ·obtain ⟨x9,hx9⟩:=zZy c8
       have hE:=Qd c1 c2 hp hQ (J2 hd hr hx9) (uV hx9)
       rw [hx9]
       refine Y O<|yO [some 8,some 20] O ri um<|G O<|ow 4 rv O<|om O<|zM<|oJ (zY ro O (J 4 O) O) (ox O) ?_
       rw [hE];rfl
      ·obtain ⟨x9,hx9⟩:=wp (λx hx=>uV hx) c8
       have hd0:=Fr hx9
       rw [hx9]
       have hlw:=GJ hS c1 hdR hr9 hd hx9
       have hl7:=DR hS c1 hdR (qD hd) hx9
       have hl8:=G9 ((p.Defs.take j).flatMap λd=>mS (gL p env d))
       have hl9:(mS (Except.ok x9)).length<=bR x9:=G9 x9
       refine zJ<|Y O<|zN qv (J 5 O) O<|G O<|zC O ub<|zE uB (J 0 O) O<|qK O uB (show oK cfg 24 [rf p,gJ env,vS d.Name] (.tup [ss (mT p env d.Name).1,vI (jQ p env d.Name)]) by have h9:=zZx p d.Name env hel her hP hR;rw [zOf c1 c2] at h9;exact h9) (oy O)<|qW O<|yF O<|yF O<|G O<|om O<|Y O<|zC O ub<|zE uB (J 0 O) O<|zC O On<|zN yD (J 0 O) O<|G O<|yI O pz QW<|oM O (qJ nu O pz O) λb7=>ow 0 rm O<|zA<|zF<|Y O<|zC O Oo<|zE uB (J 6 O) O<|zC O ub<|zE uB (J 1 O) O<|qK O uB (zBi p.Outs d.Name (by have:=hS.outs;omega)) (oy O)<|zA<|zK O ?_ ?_<;>intro c9<;>try simp only [sx] at c9
       ·rw [Xm hd0]
        have hbf:=V3 (p:=p) (env:=env) c9
        refine zP O<|zC O OF<|ow 0 sz3 O<|zA<|Y O<|zC O rz<|zE uB (J 4 O) O<|zN He (J 0 O) O<|yT O pq pz<|oM O (qZ 3 O pq O O O uD uD) λsv8=>zC O rz<|ow 4 Jn O<|zA<|zP O<|zC O tm<|zE uB (J 4 O) O<|G O<|oM O (qZ 2 O oT O O O uI uI) λsv9=>zC O tm<|ow 4 RO O<|zA<|zP O<|qH O ⟨zB,zB⟩<|G O<|zA ?_
        refine ⟨⟨j+1,sv9,sv8⟩,⟨zB,zWl hd hr hx9,hlw⟩,(by show p.Defs.length-(j+1)<p.Defs.length-j;omega),oz [false,false,true,true,true,true,true] oH (by show _=[E.vec sv9 _ 20 (((p.Defs.take (j+1)).flatMap λd=>mS (gL p env d)).map St.cells),E.vec sv8 _ 8 ((p.Params.map (pH p env)++(p.Defs.take (j+1)).map (mG p env)).map Bf.cells),E.row b3 _ [.lit sv8,.lit sv9]]++_;rw [C5 hd hx9,C6 hd hbf];rfl)⟩
       ·rw [Xm hd0]
        have hbf:=V4 (p:=p) (env:=env) c9
        refine zJ<|Y O<|zC O rz<|zE uB (J 4 O) O<|zN He (J 0 O) O<|yT O pq pz<|oM O (qZ 3 O pq O O O uD uD) λsv10=>zC O rz<|ow 4 Jn O<|zA<|zP O<|zC O tm<|zE uB (J 4 O) O<|G O<|oM O (qZ 2 O oT O O O uI uI) λsv11=>zC O tm<|ow 4 RO O<|zA<|zP O<|qH O ⟨zB,zB⟩<|G O<|zA ?_
        refine ⟨⟨j+1,sv11,sv10⟩,⟨zB,zWl hd hr hx9,hlw⟩,(by show p.Defs.length-(j+1)<p.Defs.length-j;omega),oz [false,false,true,true,true,true,true] oH (by show _=[E.vec sv11 _ 20 (((p.Defs.take (j+1)).flatMap λd=>mS (gL p env d)).map St.cells),E.vec sv10 _ 8 ((p.Params.map (pH p env)++(p.Defs.take (j+1)).map (mG p env)).map Bf.cells),E.row b3 _ [.lit sv10,.lit sv11]]++_;rw [C5 hd hx9,C6 hd hbf];rfl)⟩
     ·have hD:=J1 hr (show p.Defs.length<=j by omega)
      rw [yG (l:=p.Defs) (k:=j) zB]
      refine zT _ (yJ 0 O (regs':=[]) (μ':=[_,_,_,_]) T ⟨EFle.refl _,EFle.row (ds:=[_,_]) ⟨.inl O,.inr ⟨O,O⟩,T⟩,EFle.refl _,EFle.refl _,T⟩)<|zT _ (yJ 0 O (regs':=[]) (μ':=[_,_,_]) T ⟨EFle.row (ds:=[_,_]) ⟨.inr ⟨O,O⟩,.inl O,T⟩,EFle.refl _,EFle.refl _,T⟩) ?_
      have hok:=If (env:=env) hS c1 hdR
      refine qL<|zF<|Y O<|zN ro (J 0 O) O<|qK O uB (zTj (rF p env) hok.1) (oy O)<|qW O<|yF O<|yF O<|G O<|om O<|oo O O<|yL O<|zA<|zK O (λc10=>?_) (λc10=>?_)
      ·exact v83
      ·try simp only [sx] at c10
       have hE:=KL c1 c2 hp hQ hD c10
       refine zJ<|Y O<|zN ro (J 0 O) O<|ow 1 rv O<|om O<|zM<|oJ (zY ro O (J 1 O) O) (ox O) ?_
       rw [hE];rfl
end Go.W
end
section
set_option maxRecDepth 10000
namespace Go.W
open Go Go.Eng Go.Proofs Go.L41 Go.Br Tryz
attribute [local irreducible] oU oX TD gF
def pl70:fD prog 70=some [(0,1),(1,5),(6,1),(7,1),(8,1),(9,13)]:=by kernel_rfl
def pl74:fD prog 74=some [(0,1),(1,5),(6,1)]:=by kernel_rfl
def pl99:fD prog 99=some [(0,1),(1,2)]:=by kernel_rfl
def Ff (p:Pg) (hf:p.Fit):
    oK cfg 10 [rf p] (vB (cH p)):=by
 refine zW func10 O ntmps10 results10 O ?_
 intro z hz
 have hN:Hh p.Defs 0=Hh p.Defs 0:=rfl
 generalize hN0:Hh p.Defs 0=N at hN
 have f1:=hf.sizes
 have f2:=hf.wh
 have f3:=hf.params
 have f4:=hf.defs
 have f5:=hf.outs
 refine Y O<|oi O λb1=>om O<|zF<|Y O<|zC O uc<|zE uB (J 0 O) O<|qC O qg<|sf O<|G O<|oL O (λg1_4=>zG O ry O) O<|oG 11 O (λg1_4=>zH O uB O (J 0 O) O) O<|oG 12 O (λg1_4=>yH O pt O) O<|oG 13 O (λg1_4=>kE O O O) O<|oN O (λh=>(oY h))<|G O<|oL O (λg1_10=>zG O Oo O) O<|oG 17 O (λg1_10=>zH O uB O (J 0 O) O) O<|oG 18 O (λg1_10=>yH O oR O) O<|oG 19 O (λg1_10=>kE O O O) O<|oN O (λh=>(oY h))<|G O<|oL O (λg1_16=>zG O ve O) O<|oG 23 O (λg1_16=>zH O uB O (J 0 O) O) O<|oG 24 O (λg1_16=>yH O oR O) O<|oG 25 O (λg1_16=>kE O O O) O<|oN O (λh=>(oY h))<|G O<|oL O (λg1_22=>zG O VW O) O<|oG 29 O (λg1_22=>zH O uB O (J 0 O) O) O<|oG 30 O (λg1_22=>yH O wl O) O<|oG 31 O (λg1_22=>kE O O O) O<|oN O (λh=>(oY h))<|zA<|zK O ?_ ?_<;>intro c1<;>try simp only [sx] at c1
 ·refine ol O O<|zM<|zV O ?_
  rw [show cH p=false by unfold cH xY;simp only [bk,ey,aj,ao];omega]
 ·refine zJ<|ol O O<|zF<|ol O O<|zS<|zT ⟨[(4,.c _),(3,.c _),(1,.c _)],[_]⟩ (oz [true] oH O)<|qG 2 0 O O (Nat×Nat) (λ⟨k,n⟩=>[(4,vI k),(3,vI n)]) (λ⟨k,n⟩=>[]) (λ⟨k,n⟩=>k<=p.Defs.length/\(N=Hh (p.Defs.drop k) n)) (λ⟨k,n⟩=>p.Defs.length-k) ⟨⟨0,0⟩,⟨zB,hN0.symm⟩,oz [true] oH O⟩ ?_
  rintro ⟨k,n⟩ ⟨hk,hq⟩
  show oU _ _ _ _ _ ⟨[(4,vI k),(3,vI n)]++_,[]++_⟩
  refine zF<|oo O O<|zC O ry<|zE uB (J 0 O) O<|qC O pt<|yC O<|G O<|oL O (λg5_5=>zQ O O) O<|oG 40 O (λg5_5=>vb O O O) O<|kF O (λh=>h)<|zA<|zK O ?_ ?_<;>intro c2<;>try simp only [sx] at c2
  ·obtain ⟨d,hd⟩:=qX p.Defs k zB
   obtain ⟨e1,e2,_,_,e5⟩:=hf.ds d (qD hd)
   have e6:=zWy d.Body 1500 e5
   refine zJ<|zF<|zS<|zF<|yE 18 mixed uB O O<|ou O (zQ O O)<|ou O (zG O ry O)<|ou O (zH O uB O (J 0 O) O)<|ou O (zQ O O)<|ou O (qI O pt O O zB (oI hd))<|ou O (qO O D8 O)<|ou O (zH O uB O qE O)<|ou O (yH O pg O)<|ou O (zG O ry O)<|ou O (zH O uB O (J 0 O) O)<|ou O (zQ O O)<|ou O (qI O pt O O zB (oI hd))<|ou O (qO O Ce O)<|ou O (zH O uB O qE O)<|ou O (yH O pg O)<|ou O (zKb O O O ⟨zB,zB⟩)<|ou O (zKb O O O ⟨zB,zB⟩)<|ou O (yK O O)<|yY<|zA<|zP O<|G O<|zC O ry<|zE uB (J 0 O) O<|G O<|qF O pt zB (oI hd)<|qS O ww<|zN yX qE O<|qK O uB (Hz d.Body 1500 1500 (hf.ds d (qD hd)).2.2.2.2 uA O) (oy O)<|qH O ⟨zB,zB⟩<|om O<|zP O<|G O<|qH O ⟨zB,zB⟩<|G O<|zA ?_
   refine ⟨⟨k+1,n+V6 d⟩,⟨zB,Rz hd hq zB⟩,(by show p.Defs.length-(k+1)<p.Defs.length-k;omega),oz [true] ⟨zD,VLe.of_eq ((ai vI (by unfold V6;omega))),zD,T⟩ O⟩
  ·have hn:=Vb hq zB
   refine qL<|zF<|ol O O<|zS<|zT ⟨[(5,.c _),(3,.c _),(1,.c _)],[_]⟩ (oz [true] oH O)<|qG 2 0 O O (Nat×Nat) (λ⟨j,m⟩=>[(5,vI j),(3,vI m)]) (λ⟨j,m⟩=>[]) (λ⟨j,m⟩=>j<=p.Params.length/\(Lx p.Params n=Lx (p.Params.drop j) m)) (λ⟨j,m⟩=>p.Params.length-j) ⟨⟨0,n⟩,⟨zB,O⟩,oz [true] oH O⟩ ?_
   rintro ⟨j,m⟩ ⟨hj,hr⟩
   show oU _ _ _ _ _ ⟨[(5,vI j),(3,vI m)]++_,[]++_⟩
   refine zF<|oo O O<|zC O uc<|zE uB (J 0 O) O<|qC O qg<|yC O<|G O<|oL O (λg10_5=>zQ O O) O<|oG 77 O (λg10_5=>vb O O O) O<|kF O (λh=>h)<|zA<|zK O ?_ ?_<;>intro c3<;>try simp only [sx] at c3
   ·obtain ⟨y,hy⟩:=qX p.Params j zB
    have e1:=(hf.ps y (qD hy)).1
    refine zJ<|zF<|zS<|zP O<|G O<|zC O uc<|zE uB (J 0 O) O<|G O<|qF O qg zB (oI hy)<|qS O VU<|zE uB qE O<|qC O oS<|qH O ⟨zB,zB⟩<|om O<|zP O<|G O<|qH O ⟨zB,zB⟩<|G O<|zA ?_
    refine ⟨⟨j+1,m+y.Dims.length⟩,⟨zB,RA hy hr zB⟩,(by show p.Params.length-(j+1)<p.Params.length-j;omega),oz [true] ⟨zD,VLe.of_eq ((ai vI zB)),zD,T⟩ O⟩
   ·have hm:=Vc hr zB
    refine qL<|oo O O<|zX O (vb O O O)<|om O<|zM<|zV O ?_
    rw [show cH p=decide (m<=1500) by unfold cH;rw [show xY p=true by unfold xY;simp only [ae,aA,ao];omega,hN0,hn,hm,aM]]
    exact ai vB (dk.2 zB)
def zNc (f:Int):
    oK cfg 18 [vI f] (rf (xP f)):=by
 refine zW func18 O ntmps18 results18 O λz hz=>Y O<|oM O (qJ og O VZ O) λb1=>zA<|Y O<|yI O v pr<|oM O (yA O v) λb2=>ow 0 D O<|zA<|Y O<|qK O uB (zCz (bs [110])) (oy O)<|oM O (qJ [none,some 2] O U O) λb3=>ow 0 oZ O<|zA<|Y O<|qK O uB (zCz (bs [106])) (oy O)<|yO oe O qk FU<|yT O oO qk<|yO ny O pd qy<|oM O (qJ nt O pd O) λb4=>ow 0 ph O<|zA<|Y O<|yT O oR Hf<|zN yD (J 2 O) O<|zN yV (J 1 O) O<|yT O oS U<|yI O Ou pl74<|yT O qg Ou<|zN yD (J 2 O) O<|zN yV (J 1 O) O<|yI O Hg pl99<|yT O pg Hg<|G O<|zN yX (J 0 O) O<|yO [none,none,none,none,none,none,some 3,none,none,none,none,none,none,none,none,none,none,none,none,none,none,none] O Ot pl70<|yT O pt Ot<|yT O oR Hf<|yO [none,some 3,none,none,none] O VZ pl30<|ow 3 sz30 O<|zA<|zM<|pu (zY qv O (J 3 O) O) ?_
 exact O
def zOv:
    oK cfg 7 [] (vB true):=by
 refine zW func7 O ntmps7 results7 O λz hz=>ol O O<|Y O<|yI O AH Y0<|yT O qa AH<|om O<|Y O<|qK O uB (zNc 1) (oy O)<|G O<|qK O uB (show oK cfg 14 [rf (xP 1),gJ xV] (.tup [va (xN xL1),vI 0]) by have h:=zTh (xP 1) xV uA WR x_sm1.ok ZP x_sm1;rw [x_P1] at h;exact h) (oy O)<|qW O<|kG O<|yF O<|oM O (qJ [some 8,some 20] O ri O) λb1=>ow 0 rv O<|om O<|Y O<|qK O uB (zNc 4) (oy O)<|G O<|qK O uB (show oK cfg 14 [rf (xP 4),gJ xV] (.tup [va (xN xL4),vI 0]) by have h:=zTh (xP 4) xV uA WR x_sm4.ok ZQ x_sm4;rw [x_P4] at h;exact h) (oy O)<|qW O<|kG O<|yF O<|oM O (qJ [some 8,some 20] O ri O) λb2=>ow 0 rv O<|om O<|zF<|oo O O<|yL O<|G O<|oL O (λg4_2=>zQ O O) O<|oG 25 O (λg4_2=>wI O O O) O<|oN O (λh=>(oY h))<|G O<|oL O (λg4_6=>zG O rz O) O<|oG 29 O (λg4_6=>zH O uB O (J 1 O) O) O<|oG 30 O (λg4_6=>yH O pq O) O<|oG 31 O (λg4_6=>wI O O O) O<|oN O (λh=>(oY h))<|G O<|oL O (λg4_12=>zG O tm O) O<|oG 35 O (λg4_12=>zH O uB O (J 1 O) O) O<|oG 36 O (λg4_12=>yH O oT O) O<|oG 37 O (λg4_12=>wI O O O) O<|oN O (λh=>(oY h))<|G O<|oL O (λg4_18=>zG O tm O) O<|oG 41 O (λg4_18=>zH O uB O (J 0 O) O) O<|oG 42 O (λg4_18=>yH O oT O) O<|oG 43 O (λg4_18=>wI O O O) O<|oN O (λh=>(oY h))<|G O<|oL O (λg4_24=>zG O tm O) O<|oG 47 O (λg4_24=>zH O uB O (J 1 O) O) O<|oG 48 O (λg4_24=>qI O oT O O uA (ta (x:=(rO ⟨sj,3⟩ [gE (xD 1) [] 1 lV])) O)) O<|oG 49 O (λg4_24=>qO O Cf O) O<|oG 50 O (λg4_24=>zH O uB O qE O) O<|oG 51 O (λg4_24=>yH O oT O) O<|oG 52 O (λg4_24=>wI O O O) O<|oN O (λh=>(oY h))<|G O<|oL O (λg4_33=>zG O tm O) O<|oG 56 O (λg4_33=>zH O uB O (J 0 O) O) O<|oG 57 O (λg4_33=>qI O oT O O uA (ta (x:=(rO ⟨sj,3⟩ [ul (nL ⟨0,[⟨sj,1⟩]⟩) [gE (xD 4) [] 4 lV]])) O)) O<|oG 58 O (λg4_33=>qO O Cf O) O<|oG 59 O (λg4_33=>zH O uB O qE O) O<|oG 60 O (λg4_33=>yH O oT O) O<|oG 61 O (λg4_33=>wI O O O) O<|oN O (λh=>(oY h))<|zA<|zK O ?_ ?_<;>intro c1<;>try simp only [sx] at c1
 ·exact absurd c1 Oe
 ·refine zJ<|zF<|yN 17 2 [⟨0,.q []⟩,⟨1,.q [3]⟩,⟨2,.q []⟩,⟨3,.q []⟩,⟨4,.q []⟩,⟨5,.q []⟩,⟨6,.q []⟩,⟨7,.q []⟩,⟨8,.q [2]⟩,⟨9,.q []⟩,⟨10,.q []⟩,⟨11,.q []⟩,⟨12,.q []⟩,⟨13,.q []⟩,⟨14,.f 1⟩,⟨15,.f 0⟩,⟨16,.g 1 []⟩] mixed uB uB O O O<|zR O<|zR O<|zR O<|zR O<|zR O<|zR O<|zR O<|zR O<|zR O<|zR O<|zR O<|zR O<|zR O<|zR O<|SA O O (wY (qJ nx O pp O)) ⟨_,_,0,O,O⟩<|SA O O (wY (qJ nx O pp O)) ⟨_,_,0,O,O⟩<|zR O<|wG<|ot O (zG O tm O)<|ot O (zH O uB O (J 0 O) O)<|ot O (qI O oT O O uA (ta (x:=(rO ⟨sj,3⟩ [gE (xD 1) [] 1 lV])) O))<|ot O (qO O Cf O)<|ot O (zH O uB O qE O)<|ot O (qI O oT O O uA (ta (x:=(gE (xD 1) [] 1 lV)) O))<|ot O (qA O uq O qE O)<|ot O (zG O tm O)<|ot O (zH O uB O (J 0 O) O)<|ot O (qI O oT O O uA (ta (x:=(rO ⟨sj,3⟩ [ul (nL ⟨0,[⟨sj,1⟩]⟩) [gE (xD 4) [] 4 lV]])) O))<|ot O (qO O Cf O)<|ot O (zH O uB O qE O)<|ot O (qI O oT O O uA (ta (x:=(ul (nL ⟨0,[⟨sj,1⟩]⟩) [gE (xD 4) [] 4 lV])) O))<|ot O (qA O uq O qE O)<|Sx O O ?_
  rintro _ _ ⟨b3,rfl,rfl⟩
  refine Sx O O ?_
  rintro _ _ ⟨b4,rfl,rfl⟩
  refine Wz O O uA O O O (yP O uo O O O (tc 0 O O)) O<|wE O<|ow 0 uo O<|zA<|Y O<|qK O uB (show oK cfg 8 [vS (bs [115]),vS (bs [106])] (vS sj) by have h:=zOu (bs [115]) (bs [106]) uA uA;rw [x_ln] at h;exact h) (oy O)<|wF O<|G O<|oL O (λg7_2=>zG O rz O) O<|oG 81 O (λg7_2=>zH O uB O (J 3 O) O) O<|oG 82 O (λg7_2=>qI O pq O O uA (oI (x:=(⟨bs [97],xT,[3],1⟩:Bf)) O)) O<|oG 83 O (λg7_2=>qO O OF O) O<|oG 84 O (λg7_2=>zH O uB O qE O) O<|oG 85 O (λg7_2=>yU O O O) O<|kF O (λh=>h)<|G O<|oL O (λg7_10=>zG O rz O) O<|oG 89 O (λg7_10=>zH O uB O (J 3 O) O) O<|oG 90 O (λg7_10=>qI O pq O O uA (oI (x:=(⟨bs [115],xT,[],2⟩:Bf)) O)) O<|oG 91 O (λg7_10=>qO O OF O) O<|oG 92 O (λg7_10=>zH O uB O qE O) O<|oG 93 O (λg7_10=>yU O O O) O<|kF O (λh=>h)<|G O<|oL O (λg7_18=>zG O tm O) O<|oG 97 O (λg7_18=>zH O uB O (J 3 O) O) O<|oG 98 O (λg7_18=>qI O oT O O uA (ta (x:=(lR (xD 1) [] (.mk 1 (bs []) ⟨0,1⟩ xT ⟨0,[]⟩ [] []))) O)) O<|oG 99 O (λg7_18=>qO O D4 O) O<|oG 100 O (λg7_18=>qO O wJ O) O<|oG 101 O (λg7_18=>zH O uB O qE O) O<|oG 102 O (λg7_18=>yU O O O) O<|kF O (λh=>h)<|G O<|oL O (λg7_27=>zG O tm O) O<|oG 106 O (λg7_27=>zH O uB O (J 2 O) O) O<|oG 107 O (λg7_27=>qI O oT O O uA (ta (x:=(lR (xD 4) [] (.mk 3 (bs [97]) ⟨0,0⟩ px ⟨0,[]⟩ [⟨⟨0,[]⟩,bs [],[]⟩] []))) O)) O<|oG 108 O (λg7_27=>qO O D4 O) O<|oG 109 O (λg7_27=>qO O wJ O) O<|oG 110 O (λg7_27=>zH O uB O qE O) O<|oG 111 O (λg7_27=>yU O O O) O<|kF O (λh=>h)<|G O<|oL O (λg7_36=>zG O tm O) O<|oG 115 O (λg7_36=>zH O uB O (J 3 O) O) O<|oG 116 O (λg7_36=>qI O oT O O uA (ta (x:=(rO ⟨sj,3⟩ [gE (xD 1) [] 1 lV])) O)) O<|oG 117 O (λg7_36=>qO O AF O) O<|oG 118 O (λg7_36=>zH O uB O qE O) O<|oG 119 O (λg7_36=>VL O O O) O<|kF O (λh=>h)<|G O<|oL O (λg7_44=>zG O tm O) O<|oG 123 O (λg7_44=>zH O uB O (J 3 O) O) O<|oG 124 O (λg7_44=>qI O oT O O uA (ta (x:=(rO ⟨sj,3⟩ [gE (xD 1) [] 1 lV])) O)) O<|oG 125 O (λg7_44=>qO O Td O) O<|oG 126 O (λg7_44=>zH O uB O qE O) O<|oG 127 O (λg7_44=>yU O O O) O<|kF O (λh=>h)<|G O<|oL O (λg7_52=>zG O AG O) O<|oG 131 O (λg7_52=>zH O uB O (J 1 O) O) O<|oG 132 O (λg7_52=>yU O O O) O ?_
  refine kF O (λh=>h)<|G O<|oL O (λg7_57=>zG O Tc O) O<|oG 136 O (λg7_57=>zH O uB O (J 1 O) O) O<|oG 137 O (λg7_57=>yU O O O) O<|kF O (λh=>h)<|G O<|oL O (λg7_62=>zG O AG O) O<|oG 141 O (λg7_62=>zH O uB O (J 0 O) O) O<|oG 142 O (λg7_62=>yU O O O) O<|kF O (λh=>h)<|G O<|oL O (λg7_67=>zG O Cf O) O<|oG 146 O (λg7_67=>zH O uB O (J 0 O) O) O<|oG 147 O (λg7_67=>yH O oT O) O<|oG 148 O (λg7_67=>yU O O O) O<|kF O (λh=>h)<|G O<|oL O (λg7_73=>zG O Cf O) O<|oG 152 O (λg7_73=>zH O uB O (J 0 O) O) O<|oG 153 O (λg7_73=>qI O oT O O uA (ta (x:=(gE (xD 4) [] 4 lV)) O)) O<|oG 154 O (λg7_73=>qO O Tc O) O<|oG 155 O (λg7_73=>zH O uB O qE O) O<|oG 156 O (λg7_73=>yU O O O) O<|kF O (λh=>h)<|om O<|zM<|zV O ?_
  exact O
end Go.W
end
