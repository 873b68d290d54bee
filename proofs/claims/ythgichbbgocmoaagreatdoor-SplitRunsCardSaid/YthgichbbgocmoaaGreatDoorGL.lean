/-
  What functions compute.
  And what the laws need besides.
  Conditions: none.
-/
import Derived.Test.YthgichbbgocmoaaGreatDoorGB
import Derived.Test.YthgichbbgocmoaaGreatDoorEngZ
import Derived.Test.YthgichbbgocmoaaGreatDoorPlain3
set_option linter.unusedSimpArgs false
set_option linter.unusedVariables false
set_option linter.defProp false
section
set_option maxRecDepth 10000
namespace Go.W
open Go Go.Eng Go.Proofs Go.L41 Go.Br Tryz
attribute [local irreducible] AWP RWP TD fK
def zMl:nE prog 94=some 8:=by kernel_rfl
def el22:fB prog 22=some (94,8,88):=by kernel_rfl
def D:fB prog 23=some (56,20,256):=by kernel_rfl
def zAm:bO prog 25 0=some (0,22):=by kernel_rfl
def kV:bO prog 56 7=some (19,23):=by kernel_rfl
def zFh:bO prog 94 0=some (0,9):=by kernel_rfl
def zGy:bO prog 94 1=some (1,48):=by kernel_rfl
def zGx:bO prog 94 2=some (6,38):=by kernel_rfl
def zQr:bO prog 94 3=some (7,3):=by kernel_rfl
def zDx:mM prog 22=true:=by kernel_rfl
def kX:mM prog 23=true:=by kernel_rfl
def zBz:mM prog 38=true:=by kernel_rfl
def pl94:fW prog 94=some [(0,1),(1,5),(6,1),(7,1)]:=by kernel_rfl
def sz38:(prog.info? 38).map (·.size)=some 1:=by kernel_rfl
def sz94:(prog.info? 94).map (·.size)=some 8:=by kernel_rfl
def zr94:fL prog 94=some [(Value.string (ByteArray.mk #[])),(Value.int IntKind.i64 0),(Value.int IntKind.i64 0),(Value.int IntKind.i64 0),(Value.int IntKind.i64 0),(Value.int IntKind.i64 0),(Value.slice none 0 0),(Value.int IntKind.i64 0)]:=by kernel_rfl
def shape_Validate (d:List Int) (hl:d.length<=17592186044416):
    Pur cfg 103 [vIs d] (vI (bX d)):=by
 refine zR func103 O ntmps103 results103 O fun z hz=>ml O O<|zG<|mo O O<|qB O el38<|zW O (yD O O O)<|Y<|zK O (fun c1=>?_) (fun c1=>?_)
 ·exact v30
 ·try simp only [sx] at c1
  refine zI<|zG<|mo O O<|qB O el38<|mm O<|zQ<|zY ⟨[(13,.c _),(0,.c _),(11,.c _),(12,.c _)],[]⟩ (Weak.mk [] ⟨zJ,zJ,zJ,zJ,T⟩ O)<|qL 1 0 O O (Nat) (fun k=>[(13,vI k)]) (fun k=>[]) (fun k=>k<=d.length/\((d.take k).all nN=true)) (fun k=>d.length-k) ⟨0,⟨zA,O⟩,Weak.mk [] ⟨zJ,zJ,zJ,zJ,T⟩ O⟩ ?_
  rintro k ⟨hk,hp⟩
  refine G O<|yI O<|Y<|zG<|zK O ?_ ?_<;>intro c2<;>try simp only [sx] at c2
  ·obtain ⟨n,hn⟩:=qZ d k zA
   refine zI<|zG<|zQ<|G O<|qC O el38 zA (getm uA)<|zH one3 zZ O<|mm O<|mo O O<|yI O<|Y<|zK O ?_ ?_<;>intro c3<;>try simp only [sx] at c3
   ·have hneg:=dims_neg (d:=d) zA hn c3
    refine ml O O<|zF<|zS O ?_
    rw [hneg]
   ·refine zI<|zT O<|qI O ⟨zA,zA⟩<|A O<|Y ?_
    refine ⟨k+1,⟨zA,zFo hn hp (by unfold nN;exact aw zA)⟩,zA,Weak.mk [] ⟨zJ,zJ,zJ,zJ,T⟩ O⟩
  ·have hpos:d.all nN=true:=by rw [yW zA] at hp;exact hp
   refine qO<|ml O O<|zG<|mo O O<|qB O el38<|mm O<|zQ<|zY ⟨[(22,.c _),(5,.c _),(20,.c _),(21,.c _)],[]⟩ (Weak.mk [] ⟨zJ,zJ,zJ,zJ,T⟩ O)<|qL 2 0 O O (Nat×Int) (fun ⟨j,s⟩=>[(22,vI j),(5,vI s)]) (fun ⟨j,s⟩=>[]) (fun ⟨j,s⟩=>j<=d.length/\(1<=s)/\(s<=4096)/\(bN 1 d=bN s (d.drop j))) (fun ⟨j,s⟩=>d.length-j) ⟨⟨0,1⟩,⟨zA,zA,zA,O⟩,Weak.mk [] ⟨zJ,VLe.of_eq (O),zJ,zJ,T⟩ O⟩ ?_
   rintro ⟨j,s⟩ ⟨hj,hs1,hs2,hs3⟩
   show AWP _ _ _ _ _ ⟨[(22,vI j),(5,vI s)]++_,[]++_⟩
   refine G O<|yI O<|Y<|zG<|zK O (fun c4=>?_) (fun c4=>?_)
   ·try simp only [sx] at c4
    obtain ⟨m,hm⟩:=qZ d j zA
    refine zI<|zG<|zQ<|G O<|qC O el38 zA (getm uA)<|zH one3 zZ O<|mm O<|zG<|mo O O<|A O<|zW O (zKb O O O zA)<|zW O (yD O O O)<|Y<|zK O ?_ ?_<;>intro c5<;>try simp only [sx] at c5
    ·have hov:=quo_t hs1 c5
     refine ml O O<|zF<|zS O ?_
     rw [zQw zA hpos (zLe hm hs3 hov)]
    ·have hov:=quo_f hs1 (Int.not_lt.2 c5)
     have hm1:=zCc hs1 (zCb hpos hm)
     refine zI<|zT O<|A O<|A O<|zW O (kC O O O (by have:=zCc hs1 (zCb hpos hm);exact ⟨zA,zA⟩))<|mm O<|zT O<|qI O ⟨zA,zA⟩<|A O<|Y ?_
     refine ⟨⟨j+1,s*m⟩,⟨zA,zA,zA,zGm hm hs3 hov⟩,(by show d.length-(j+1)<d.length-j;omega),Weak.mk [] ⟨zJ,zJ,zJ,zJ,T⟩ O⟩
   ·exact v27
def ref11_Validate (d:List Int) (hl:d.length<=17592186044416):
    Pur cfg 78 [vIs d] (vI (bX d)):=by
 refine zR func78 O ntmps78 results78 O fun z hz=>ml O O<|zG<|mo O O<|qB O el38<|zW O (yD O O O)<|Y<|zK O (fun c1=>?_) (fun c1=>?_)
 ·exact v30
 ·try simp only [sx] at c1
  refine zI<|zG<|ml O O<|zQ<|zY ⟨[(3,.c _),(0,.c _)],[]⟩ (Weak.mk [] ⟨zJ,zJ,T⟩ O)<|qL 1 0 O O (Nat) (fun k=>[(3,vI k)]) (fun k=>[]) (fun k=>k<=d.length/\((d.take k).all nN=true)) (fun k=>d.length-k) ⟨0,⟨zA,O⟩,Weak.mk [] ⟨zJ,zJ,T⟩ O⟩ ?_
  rintro k ⟨hk,hp⟩
  refine zG<|mo O O<|A O<|qB O el38<|yI O<|Y<|zK O (fun c2=>?_) (fun c2=>?_)
  ·exact o8
  ·try simp only [sx] at c2
   have hpos:d.all nN=true:=by rw [yW zA] at hp;exact hp
   refine qO<|ml O O<|zG<|ml O O<|zQ<|zY ⟨[(5,.c _),(4,.c _),(0,.c _)],[]⟩ (Weak.mk [] ⟨zJ,zJ,zJ,T⟩ O)<|qL 2 0 O O (Nat×Int) (fun ⟨j,s⟩=>[(5,vI j),(4,vI s)]) (fun ⟨j,s⟩=>[]) (fun ⟨j,s⟩=>j<=d.length/\(1<=s)/\(s<=4096)/\(bN 1 d=bN s (d.drop j))) (fun ⟨j,s⟩=>d.length-j) ⟨⟨0,1⟩,⟨zA,zA,zA,O⟩,Weak.mk [] ⟨zJ,VLe.of_eq (O),zJ,T⟩ O⟩ ?_
   rintro ⟨j,s⟩ ⟨hj,hs1,hs2,hs3⟩
   show AWP _ _ _ _ _ ⟨[(5,vI j),(4,vI s)]++_,[]++_⟩
   refine zG<|mo O O<|A O<|qB O el38<|yI O<|Y<|zK O (fun c4=>?_) (fun c4=>?_)
   ·try simp only [sx] at c4
    obtain ⟨m,hm⟩:=qZ d j zA
    refine zI<|zG<|zQ<|zG<|mo O O<|A O<|qC O el38 zA (getm uA)<|zH one3 zZ O<|zW O (yD O O O)<|Y<|zK O ?_ ?_<;>intro c5<;>try simp only [sx] at c5
    ·have hov:4096<s*m:=by have:=zCc hs1 (zCb hpos hm);omega
     refine ml O O<|zF<|zS O ?_
     rw [zQw zA hpos (zLe hm hs3 hov)]
    ·have hm1:=zCc hs1 (zCb hpos hm)
     refine zI<|mo O O<|A O<|A O<|qC O el38 zA (getm uA)<|zH one3 zZ O<|zW O (kC O O O (by have:=zCc hs1 (zCb hpos hm);have hm0:=zCb hpos hm;have:s*m<=4096*4096:=Int.mul_le_mul zA zA zA zA;exact ⟨zA,zA⟩))<|mm O<|mo O O<|zW O (yD O O O)<|Y<|zK O ?_ ?_<;>intro c6<;>try simp only [sx] at c6
     ·refine ml O O<|zF<|zS O ?_
      rw [zQw zA hpos (zLe hm hs3 zA)]
     ·refine zI<|zT O<|A O<|qI O ⟨zA,zA⟩<|A O<|Y ?_
      refine ⟨⟨j+1,s*m⟩,⟨zA,zA,zA,zGm hm hs3 zA⟩,(by show d.length-(j+1)<d.length-j;omega),Weak.mk [] ⟨zJ,zJ,zJ,T⟩ O⟩
   ·exact v27
def zKg (l:List Int) (hl:l.length<=17592186044416):
    OwnR cfg 108 [vIs l] 3 1 (l.map fun n=>[cI n]):=by
 refine zR func108 O ntmps108 results108 O fun z hz=>G O<|yJ 1 O<|Y<|zG<|mo O O<|zV O O (zIk O el38 O O) ?_
 rintro _ _ ⟨nb1,rfl,hnil1,rfl⟩
 refine Y<|zK O ?_ ?_<;>intro c1<;>try simp only [sx] at c1
 ·refine mo O O<|yU _ (wE 3 1)<|Y<|zF<|zS O ?_
  exact ⟨_,O,by rw [hnil1 c1]⟩
 ·refine zI<|G O<|zV O O (zDr O el38 zr3 O O O O) ?_
  rintro _ _ ⟨sv3,rfl,rfl⟩
  refine A O<|zV O O (yO 0 O el38 O O O uG uG) ?_
  exact l7
def zDj (b:Bf) (hl:b.Dims.length<=17592186044416):
    Pur cfg 75 [vBf b] (vBf b):=by
 refine zR func75 O ntmps75 results75 O fun z hz=>G O<|mj O fun b1=>zV O O (qH lw O zr94 O) ?_
 rintro _ _ ⟨b2,rfl,rfl⟩
 refine Y<|G O<|zC O zGx<|zH zBz (J 1 O) O<|qD O uB (OwnR.pur (zKg b.Dims hl)) (vlr O)<|zC O zGx<|rStR 1 sz38 O<|Y<|G O<|zM zMl (J 1 O) O<|rStR 0 sz94 O<|Y<|zF<|fin1 (zP zMl O (J 0 O) O) ?_
 exact O
def zAj (n:Ns) (s:lr) (hn:n.Ok):
    Pur cfg 50 [vNs n,vS s] (.tup [vBf (jA n.Bufs s),vB (dU n.Bufs s)]):=by
 refine zR func50 O ntmps50 results50 O ?_
 intro z hz
 have hnb:=hn.bufs
 refine G O<|mj O fun b1=>zV O O (qH lw O zr94 O) ?_
 rintro _ _ ⟨b2,rfl,rfl⟩
 refine mm O<|zG<|G O<|zC O zAm<|zH zDx (J 1 O) O<|qB O el22<|mm O<|zQ<|zY ⟨[(10,.c _),(1,.c _),(2,.c _),(4,.c _),(9,.c _)],[_,_]⟩ (Weak.mk [true,true] ⟨zJ,zJ,zJ,zJ,zJ,T⟩ O)<|qL 1 0 O O (Nat) (fun k=>[(10,vI k)]) (fun k=>[]) (fun k=>k<=n.Bufs.length/\(dU (n.Bufs.take k) s=false)/\(jA n.Bufs s=jA (n.Bufs.drop k) s)) (fun k=>n.Bufs.length-k) ⟨0,⟨zA,O,O⟩,Weak.mk [true,true] ⟨zJ,zJ,zJ,zJ,zJ,T⟩ O⟩ ?_
 rintro k ⟨hk,hp,hq⟩
 refine G O<|yI O<|Y<|zG<|zK O (fun c1=>?_) (fun c1=>?_)
 ·try simp only [sx] at c1
  obtain ⟨b,hb⟩:=qZ n.Bufs k zA
  refine zI<|zG<|zQ<|mo O O<|mm O<|G O<|zC O zAm<|zH zDx (J 1 O) O<|A O<|qC O el22 zA (getm uA)<|qR O zFh<|zH one9 zZ O<|A O<|wP O<|Y<|zK O ?_ ?_<;>intro c2<;>try simp only [sx] at c2
  ·refine G O<|zC O zAm<|zH zDx (J 1 O) O<|A O<|qC O el22 zA (getm uA)<|zM zMl zZ O<|qD O uB (zDj b (hn.dims b (qA hb))) (vlr O)<|rStR 0 sz94 O<|mm O<|zF<|fin2 (zP zMl O (J 0 O) O) (rs_c O) ?_
   rw [hasBf_at hb c2,hq,bufD_at hb c2];rfl
  ·refine zI<|zT O<|qI O ⟨zA,zA⟩<|A O<|Y ?_
   refine ⟨k+1,⟨zA,zSw hb hp c2,hq.trans (bufD_next hb c2)⟩,zA,Weak.mk [true,true] ⟨zJ,zJ,zJ,zJ,zJ,T⟩ O⟩
 ·exact v26
def zDq (n:Ns) (s:lr) (hn:n.Ok):
    Pur cfg 112 [vNs n,vS s] (.tup [vBf (jA n.Bufs s),vB (dU n.Bufs s)]):=by
 refine zR func112 O ntmps112 results112 O ?_
 intro z hz
 have hnb:=hn.bufs
 refine G O<|mj O fun b1=>zV O O (qH lw O zr94 O) ?_
 rintro _ _ ⟨b2,rfl,rfl⟩
 refine mm O<|zG<|ml O O<|zQ<|zY ⟨[(6,.c _),(1,.c _),(2,.c _),(4,.c _)],[_,_]⟩ (Weak.mk [true,true] ⟨zJ,zJ,zJ,zJ,T⟩ O)<|qL 1 0 O O (Nat) (fun k=>[(6,vI k)]) (fun k=>[]) (fun k=>k<=n.Bufs.length/\(dU (n.Bufs.take k) s=false)/\(jA n.Bufs s=jA (n.Bufs.drop k) s)) (fun k=>n.Bufs.length-k) ⟨0,⟨zA,O,O⟩,Weak.mk [true,true] ⟨zJ,zJ,zJ,zJ,T⟩ O⟩ ?_
 rintro k ⟨hk,hp,hq⟩
 refine zG<|mo O O<|zC O zAm<|zH zDx (J 1 O) O<|qB O el22<|yI O<|Y<|zK O (fun c1=>?_) (fun c1=>?_)
 ·try simp only [sx] at c1
  obtain ⟨b,hb⟩:=qZ n.Bufs k zA
  refine zI<|zG<|zQ<|G O<|zC O zAm<|zH zDx (J 1 O) O<|A O<|qC O el22 zA (getm uA)<|qR O zFh<|zH one9 zZ O<|A O<|wP O<|Y<|zK O ?_ ?_<;>intro c2<;>try simp only [sx] at c2
  ·refine G O<|zC O zAm<|zH zDx (J 1 O) O<|A O<|qC O el22 zA (getm uA)<|zM zMl zZ O<|rStR 0 sz94 O<|mm O<|zF<|fin2 (zP zMl O (J 0 O) O) (rs_c O) ?_
   rw [hasBf_at hb c2,hq,bufD_at hb c2];rfl
  ·refine zI<|zT O<|A O<|qI O ⟨zA,zA⟩<|A O<|Y ?_
   refine ⟨k+1,⟨zA,zSw hb hp c2,hq.trans (bufD_next hb c2)⟩,zA,Weak.mk [true,true] ⟨zJ,zJ,zJ,zJ,T⟩ O⟩
 ·exact v26
def zVu (n:Nat) (ih:n≠0->∀(l:List St) (x:Int),bD l<=1073741824->x=((n-1:Nat):Int)->Pur cfg 69 [dA l,vI x] (vB (dR (n-1) l))) (l:List St) (x:Int) (hn:n<=100) (hl:bD l<=1073741824) (hx:x=n):
    Pur cfg 69 [dA l,vI x] (vB (dR n l)):=by
 refine zR func69 O ntmps69 results69 O ?_
 intro z hz
 have hll:=kY l
 refine ml O O<|zG<|mo O O<|qB O D<|mm O<|zQ<|zY ⟨[(8,.c _),(0,.c _),(1,.c _),(7,.c _)],[]⟩ (Weak.mk [] ⟨zJ,zJ,zJ,zJ,T⟩ O)<|qL 1 0 O O (Nat) (fun k=>[(8,vI k)]) (fun k=>[]) (fun k=>k<=l.length/\(sY n (l.take k)=true)) (fun k=>l.length-k) ⟨0,⟨zA,by cases n<;>rfl⟩,Weak.mk [] ⟨zJ,zJ,zJ,zJ,T⟩ O⟩ ?_
 rintro k ⟨hk,hp⟩
 refine G O<|yI O<|Y<|zG<|zK O ?_ ?_<;>intro c1<;>try simp only [sx] at c1
 ·obtain ⟨s,hs⟩:=qZ l k zA
  refine zI<|zG<|zQ<|mo O O<|mm O<|mo O O<|yI O<|A O<|rL0 O (fun g4_2=>zO O O) O<|rL0 O (fun g4_2=>zO O O) O<|rLz [(14,_),(15,_)] O gv1 ⟨O,O,O,O,T⟩ (fun g4_2=>qE O D O O zA (wL hs)) O<|rL1 16 O (fun g4_2=>qN O kV O) O<|rL1 17 O (fun g4_2=>zD O kX O zZ O) O<|rL0 O (fun g4_2=>zO O O) O<|rL1 19 O (fun g4_2=>yB O O O ⟨zA,zA⟩) O<|rLz [(18,_),(20,_)] O gv1 ⟨O,O,O,O,T⟩ (fun g4_2=>qG O uB (ih (by simp only [Lz,ay,az,sx] at g4_2;omega) s.Body _ (by have:=St.body_wt s;have:=yS (qA hs);omega) (by simp only [Lz,ay,az,sx] at g4_2;omega)) (vlr O)) O<|rL1 21 O (fun g4_2=>kG O O) O<|r_or O (fun h=>(lzf h))<|Y<|zK O (fun c2=>?_) (fun c2=>?_)
  ·have hno:=within_no hs hx c2
   refine ml O O<|zF<|zS O ?_
   rw [hno]
  ·have hyes:=within_yes hx c2
   refine zI<|zT O<|qI O ⟨zA,zA⟩<|A O<|Y ?_
   refine ⟨k+1,⟨zA,withinG_next hs hp hyes.1 hyes.2⟩,zA,Weak.mk [] ⟨zJ,zJ,zJ,zJ,T⟩ O⟩
 ·refine qO<|ml O O<|zF<|zS O ?_
  rw [yW zA,withinG_eq] at hp;rw [hp]
def zXu (n:Nat) (l:List St) (x:Int) (hn:n<=100) (hl:bD l<=1073741824) (hx:x=n):Pur cfg 69 [dA l,vI x] (vB (dR n l)):=by
  induction n generalizing l x with
  |zero=>exact zVu 0 (fun h=>absurd rfl h) l x hn hl hx
  |succ n ih=>exact zVu (n+1) (fun _ l x h1 h2=>ih l x zA h1 zA) l x hn hl hx
def depth_step (n:Nat) (ih:n≠0->∀(l:List St) (x:Int),bD l<=1073741824->x=((n-1:Nat):Int)->Pur cfg 36 [dA l,vI x] (vI (mZ (n-1) l))) (l:List St) (x:Int) (hn:n<=100) (hl:bD l<=1073741824) (hx:x=n):
    Pur cfg 36 [dA l,vI x] (vI (mZ n l)):=by
 refine zR func36 O ntmps36 results36 O ?_
 intro z hz
 have hll:=kY l
 refine ml O O<|ml O O<|zG<|ml O O<|zQ<|zY ⟨[(5,.c _),(6,.c _),(0,.c _),(1,.c _)],[]⟩ (Weak.mk [] ⟨zJ,zJ,zJ,zJ,T⟩ O)<|qL 2 0 O O (Nat×Int) (fun ⟨k,d⟩=>[(5,vI d),(6,vI k)]) (fun ⟨k,d⟩=>[]) (fun ⟨k,d⟩=>k<=l.length/\0<=d/\d<=100/\d=mZ n (l.take k)) (fun ⟨k,d⟩=>l.length-k) ⟨⟨0,0⟩,⟨zA,zA,zA,by cases n<;>rfl⟩,Weak.mk [] ⟨VLe.of_eq (O),zJ,zJ,zJ,T⟩ O⟩ ?_
 rintro ⟨k,d⟩ ⟨hk,hd0,hd1,hd⟩
 show AWP _ _ _ _ _ ⟨[(5,vI d),(6,vI k)]++_,[]++_⟩
 refine zG<|mo O O<|A O<|qB O D<|yI O<|A O<|rL0 O (fun g3_4=>zO O O) O<|rL1 12 O (fun g3_4=>yD O O O) O<|yT O (fun h=>h)<|Y<|zK O ?_ ?_<;>intro c1<;>try simp only [sx] at c1
 ·obtain ⟨s,hs⟩:=qZ l k zA
  have hle:=depS_le (n-1) s.Body
  refine zI<|zG<|zQ<|zT O<|A O<|A O<|A O<|qC O D zA (wL hs)<|qR O kV<|zH kX zZ O<|A O<|zW O (yB O O O ⟨zA,zA⟩)<|qD O uB (ih zA s.Body _ (by have:=St.body_wt s;have:=yS (qA hs);omega) zA) (vlr O)<|qI O ⟨zA,zA⟩<|zW O (zKc O O O)<|mm O<|zT O<|A O<|qI O ⟨zA,zA⟩<|A O<|Y ?_
  refine ⟨⟨k+1,max d (1+mZ (n-1) s.Body)⟩,⟨zA,zA,zA,by rw [depS_next hs zA,←hd]⟩,(by dsimp only;omega),Weak.mk [] ⟨zJ,zJ,zJ,zJ,T⟩ O⟩
 ·refine qO<|mo O O<|mm O<|zF<|zS O ?_
  exact ag vI (depS_stop hx hd zA)
def ref30_depth (n:Nat) (l:List St) (x:Int) (hn:n<=100) (hl:bD l<=1073741824) (hx:x=n):Pur cfg 36 [dA l,vI x] (vI (mZ n l)):=by
  induction n generalizing l x with
  |zero=>exact depth_step 0 (fun h=>absurd rfl h) l x hn hl hx
  |succ n ih=>exact depth_step (n+1) (fun _ l x h1 h2=>ih l x zA h1 zA) l x hn hl hx
def zDy (l:List St) (ih:∀s,s∈l->∀(m:Nat) (x:Int),m<=2147483648->x=m->Pur cfg 70 [dA s.Body,vI x] (vI (lV s.Body m))) (m:Nat) (x:Int) (hl:bD l<=1073741824) (hm:m<=2147483648) (hx:x=m):
    Pur cfg 70 [dA l,vI x] (vI (lV l m)):=by
 refine zR func70 O ntmps70 results70 O ?_
 intro z hz
 have hll:=kY l
 have hNw:=zHt l
 refine ml O O<|mo O O<|qB O D<|mm O<|zG<|mo O O<|qB O D<|mm O<|zQ<|zY ⟨[(11,.c _),(5,.c _),(0,.c _),(1,.c _),(10,.c _)],[]⟩ (Weak.mk [] ⟨zJ,zJ,zJ,zJ,zJ,T⟩ O) ?_
 refine qL 2 0 O O (Nat×Nat) (fun ⟨k,n⟩=>[(11,vI k),(5,vI n)]) (fun ⟨k,n⟩=>[]) (fun ⟨k,n⟩=>k<=l.length/\(n<=4294967296)/\(lV l m=mW (l.drop k) m n)) (fun ⟨k,n⟩=>l.length-k) ⟨⟨0,l.length⟩,⟨zA,zA,O⟩,Weak.mk [] ⟨zJ,VLe.of_eq (ag vI uD),zJ,zJ,zJ,T⟩ O⟩ ?_
 rintro ⟨k,n⟩ ⟨hk,hn,hp⟩
 show AWP _ _ _ _ _ ⟨[(11,vI k),(5,vI n)]++_,[]++_⟩
 refine G O<|yI O<|Y<|zG<|zK O ?_ ?_<;>intro c1<;>try simp only [sx] at c1
 ·obtain ⟨s,hs⟩:=qZ l k zA
  refine zI<|zG<|zQ<|mo O O<|mm O<|zG<|mo O O<|A O<|zW O (yD O O O)<|Y<|zK O ?_ ?_<;>intro c2<;>try simp only [sx] at c2
  ·exact v37
  ·have hsum:=num_sum hs hp zA
   have hbl:=numB_le s.Body (m-n)
   have hsn:=zPh (qA hs)
   have hse:=zKx s
   refine zI<|zT O<|A O<|A O<|A O<|qC O D zA (wL hs)<|qR O kV<|zH kX zZ O<|A O<|A O<|zW O (yB O O O ⟨zA,zA⟩)<|qD O uB (ih s (qA hs) (m-n) _ zA zA) (vlr O)<|qI O ⟨zA,zA⟩<|mm O<|zT O<|qI O ⟨zA,zA⟩<|A O<|Y ?_
   refine ⟨⟨k+1,n+lV s.Body (m-n)⟩,⟨zA,zA,num_next hs hp zA⟩,(by show l.length-(k+1)<l.length-k;omega),Weak.mk [] ⟨zJ,VLe.of_eq (ag vI zA),zJ,zJ,zJ,T⟩ O⟩
 ·exact v37
def zJw (s:St):∀(m:Nat) (x:Int),bD s.Body<=1073741824->m<=2147483648->x=m->Pur cfg 70 [dA s.Body,vI x] (vI (lV s.Body m)):=by
  induction s using St.ind with
  |_ s ih=>exact fun m x hl hm hx=>zDy s.Body (fun a ha m x h1 h2=>ih a ha m x (by have:=St.body_wt a;have:=yS ha;omega) h1 h2) m x hl hm hx
def zQf (l:List St) (m:Nat) (x:Int) (hl:bD l<=1073741824) (hm:m<=2147483648) (hx:x=m):Pur cfg 70 [dA l,vI x] (vI (lV l m)):=
  zDy l (fun a ha m x h1 h2=>zJw a m x (by have:=St.body_wt a;have:=yS ha;omega) h1 h2) m x hl hm hx
def zLk (l:List St) (ih:∀s,s∈l->∀(m:Nat) (x:Int),m<=2147483648->x=m->Pur cfg 37 [dA s.Body,vI x] (vI (lV s.Body m))) (m:Nat) (x:Int) (hl:bD l<=1073741824) (hm:m<=2147483648) (hx:x=m):
    Pur cfg 37 [dA l,vI x] (vI (lV l m)):=by
 refine zR func37 O ntmps37 results37 O ?_
 intro z hz
 have hll:=kY l
 have hNw:=zHt l
 refine ml O O<|mo O O<|qB O D<|mm O<|zG<|ml O O<|zQ<|zY ⟨[(6,.c _),(5,.c _),(0,.c _),(1,.c _)],[]⟩ (Weak.mk [] ⟨zJ,zJ,zJ,zJ,T⟩ O) ?_
 refine qL 2 0 O O (Nat×Nat) (fun ⟨k,n⟩=>[(6,vI k),(5,vI n)]) (fun ⟨k,n⟩=>[]) (fun ⟨k,n⟩=>k<=l.length/\(n<=4294967296)/\(lV l m=mW (l.drop k) m n)) (fun ⟨k,n⟩=>l.length-k) ⟨⟨0,l.length⟩,⟨zA,zA,O⟩,Weak.mk [] ⟨zJ,VLe.of_eq (ag vI uD),zJ,zJ,T⟩ O⟩ ?_
 rintro ⟨k,n⟩ ⟨hk,hn,hp⟩
 show AWP _ _ _ _ _ ⟨[(6,vI k),(5,vI n)]++_,[]++_⟩
 refine zG<|mo O O<|A O<|qB O D<|yI O<|A O<|rL0 O (fun g3_4=>zO O O) O<|rL0 O (fun g3_4=>zO O O) O<|rLz [(14,_),(15,_)] O gv1 ⟨O,O,O,O,T⟩ (fun g3_4=>wS O O O) O<|yT O (fun h=>h)<|Y<|zK O ?_ ?_<;>intro c1<;>try simp only [sx] at c1
 ·obtain ⟨s,hs⟩:=qZ l k zA
  have hsum:=num_sum hs hp zA
  have hbl:=numB_le s.Body (m-n)
  have hsn:=zPh (qA hs)
  have hse:=zKx s
  refine zI<|zG<|zQ<|zT O<|A O<|A O<|A O<|qC O D zA (wL hs)<|qR O kV<|zH kX zZ O<|A O<|A O<|zW O (yB O O O ⟨zA,zA⟩)<|zW O (zKc O O O)<|qD O uB (ih s (qA hs) (m-n) _ zA zA) (vlr O)<|qI O ⟨zA,zA⟩<|mm O<|zT O<|A O<|qI O ⟨zA,zA⟩<|A O<|Y ?_
  refine ⟨⟨k+1,n+lV s.Body (m-n)⟩,⟨zA,zA,num_next hs hp zA⟩,(by show l.length-(k+1)<l.length-k;omega),Weak.mk [] ⟨zJ,VLe.of_eq (ag vI zA),zJ,zJ,T⟩ O⟩
 ·exact v37
def zWx (s:St):∀(m:Nat) (x:Int),bD s.Body<=1073741824->m<=2147483648->x=m->Pur cfg 37 [dA s.Body,vI x] (vI (lV s.Body m)):=by
  induction s using St.ind with
  |_ s ih=>exact fun m x hl hm hx=>zLk s.Body (fun a ha m x h1 h2=>ih a ha m x (by have:=St.body_wt a;have:=yS ha;omega) h1 h2) m x hl hm hx
def ref30_size (l:List St) (m:Nat) (x:Int) (hl:bD l<=1073741824) (hm:m<=2147483648) (hx:x=m):Pur cfg 37 [dA l,vI x] (vI (lV l m)):=
  zLk l (fun a ha m x h1 h2=>zWx a m x (by have:=St.body_wt a;have:=yS ha;omega) h1 h2) m x hl hm hx
def zOk (l:List Bf) (c:C) (p:Bf->Bool) (hl:l.length<=4294967296) (hc:∀x,x∈l->FnPur cfg c [vBf x] (vB (p x))):
    Pur cfg 130 [eS l,.c c] (vI (mA p l)):=by
 refine zR func130 O ntmps130 results130 O fun z hz=>ml O O<|zG<|mo O O<|qB O el22<|mm O<|zQ<|zY ⟨[(8,.c _),(0,.c _),(1,.c _),(7,.c _)],[]⟩ (Weak.mk [] ⟨zJ,zJ,zJ,zJ,T⟩ O)<|qL 1 0 O O (Nat) (fun k=>[(8,vI k)]) (fun k=>[]) (fun k=>k<=l.length/\((l.take k).any p=false)) (fun k=>l.length-k) ⟨0,⟨zA,O⟩,Weak.mk [] ⟨zJ,zJ,zJ,zJ,T⟩ O⟩ ?_
 rintro k ⟨hk,hp⟩
 refine G O<|yI O<|Y<|zG<|zK O ?_ ?_<;>intro c1<;>try simp only [sx] at c1
 ·obtain ⟨x,hx⟩:=qZ l k zA
  refine zI<|zG<|zQ<|mo O O<|mm O<|mo O O<|A O<|A O<|qC O el22 zA (getm uA)<|zM zMl zZ O<|zW O (kU O O (hc _ (qA hx)) (vlr O))<|Y<|zK O ?_ ?_<;>intro c2<;>try simp only [sx] at c2
  ·refine mo O O<|mm O<|zF<|zS O ?_
   rw [zVd hx c2 hp]
  ·refine zI<|zT O<|qI O ⟨zA,zA⟩<|A O<|Y ?_
   refine ⟨k+1,⟨zA,zRl hx hp c2⟩,zA,Weak.mk [] ⟨zJ,zJ,zJ,zJ,T⟩ O⟩
 ·refine qO<|ml O O<|zF<|zS O ?_
  rw [zNd (by rw [yW zA] at hp;exact hp)]
def zKo (l:List Bf) (c:C) (p:Bf->Bool) (hl:l.length<=4294967296) (hc:∀x,x∈l->FnPur cfg c [vBf x] (vB (p x))):
    Pur cfg 100 [eS l,.c c] (vB (l.any p)):=by
 refine zR func100 O ntmps100 results100 O fun z hz=>ml O O<|mo O O<|A O<|qD O uB (zOk l c p hl hc) (vlr O)<|zW O (wH O O O)<|mm O<|zF<|zS O ?_
 rw [zQn]
def checkBuffers_1 (x b:Bf):
    Pur cfg 101 [vBf x,.c (.iptr b.cells)] (vB (decide (x.Name=b.Name))):=by
 refine zR func101 O ntmps101 results101 O fun z hz=>G O<|mj O fun b1=>mm O<|G O<|zC O zFh<|zH one9 (J 0 O) O<|qR O zFh<|zH one9 zZ O<|wP O<|mm O<|zF<|zS O ?_
 exact O
def zLs (l:List Bf) (hl:l.length<=4294967296) (hd:∀b,b∈l->b.Dims.length<=17592186044416):
    Pur cfg 71 [eS l] (vI (dM [] l)):=by
 refine zR func71 O ntmps71 results71 O fun z hz=>ml O O<|zG<|mo O O<|qB O el22<|mm O<|zQ<|zY ⟨[(8,.c _),(0,.c _),(7,.c _)],[]⟩ (Weak.mk [] ⟨zJ,zJ,zJ,T⟩ O)<|qL 1 0 O O (Nat) (fun k=>[(8,vI k)]) (fun k=>[]) (fun k=>k<=l.length/\(dM [] l=dM (l.take k) (l.drop k))) (fun k=>l.length-k) ⟨0,⟨zA,O⟩,Weak.mk [] ⟨zJ,zJ,zJ,T⟩ O⟩ ?_
 rintro k ⟨hk,hp⟩
 refine G O<|yI O<|Y<|zG<|zK O ?_ ?_<;>intro c1<;>try simp only [sx] at c1
 ·obtain ⟨b,hb⟩:=qZ l k zA
  refine zI<|zG<|zQ<|mo O O<|mm O<|mo O O<|A O<|qC O el22 zA (getm uA)<|zM zMl zZ O<|zV O O (qH lw O zr94 O) ?_
  rintro _ _ ⟨b1,rfl,rfl⟩
  refine rStR 0 sz94 O<|yU _ (yX 0 O 4 _ PLe.ptr)<|Y<|zG<|zQ<|G O<|qR O zFh<|zH one9 zZ O<|qD O uB (zBi _) (vlr O)<|kO O<|mm O<|zK O ?_ ?_<;>intro c2<;>try simp only [sx] at c2
  ·refine ml O O<|zF<|zS O ?_
   rw [zBx hb hp (by rw [bfErr_7 c2];decide),bfErr_7 c2]
  ·refine mo O O<|A O<|zW O (zTu O el22 O O zA)<|zW O (zFa O O O O O)<|qD O uB (zKo (l.take k) _ (fun x=>decide (x.Name=b.Name)) (by rw [aG];omega) (fun x _=>FnPur.of_pur (first:=[]) (cap:=[.iptr b.cells]) uB (checkBuffers_1 x b))) (vlr O)<|mm O<|zK O ?_ ?_<;>intro c3<;>try simp only [sx] at c3
   ·refine ml O O<|zF<|zS O ?_
    rw [zBx hb hp (by rw [bfErr_8 c2 c3];decide),bfErr_8 c2 c3]
   ·refine G O<|qR O zGy<|zM yE zZ O<|qD O uB (zDw b.T) (vlr O)<|yL O<|mm O<|zK O ?_ ?_<;>intro c4<;>try simp only [sx] at c4
    ·refine ml O O<|zF<|zS O ?_
     rw [zBx hb hp (by rw [zVr c2 c3 (tyErr_ne c4)];decide),zVr c2 c3 (tyErr_ne c4)]
    ·refine zI<|zG<|G O<|qR O zGx<|zH zBz zZ O<|qD O uB (shape_Validate b.Dims (hd b (qA hb))) (vlr O)<|mm O<|mo O O<|yL O<|Y<|zK O ?_ ?_<;>intro c5<;>try simp only [sx] at c5
     ·refine mo O O<|mm O<|zF<|zS O ?_
      rw [zBx hb hp (by rw [bfErr_d c2 c3 (zMm c4) c5];exact c5),bfErr_d c2 c3 (zMm c4) c5]
     ·refine zI<|G O<|qR O zQr<|zH one3 zZ O<|yI O<|A O<|rL0 O (fun g14_3=>qN O zQr O) O<|rL1 41 O (fun g14_3=>zD O one3 O zZ O) O<|rL1 42 O (fun g14_3=>yD O O O) O<|r_or O (fun h=>(lzf h))<|Y<|zK O ?_ ?_<;>intro c6<;>try simp only [sx] at c6
      ·refine ml O O<|zF<|zS O ?_
       rw [zBx hb hp (by rw [bfErr_u c2 c3 (zMm c4) c5 zA];decide),bfErr_u c2 c3 (zMm c4) c5 zA]
      ·refine zI<|zT O<|qI O ⟨zA,zA⟩<|A O<|Y ?_
       refine ⟨k+1,⟨zA,zTw hb hp (bfErr_0 c2 c3 (zMm c4) c5 zA)⟩,zA,Weak.mk [] ⟨zJ,zJ,zJ,T⟩ O⟩
 ·refine qO<|ml O O<|zF<|zS O ?_
  rw [zZu hp zA]
def ref30_bufs (n:Ns) (hn:n.Ok):
    Pur cfg 38 [vNs n] (vI (dM [] n.Bufs)):=by
 refine zR func38 O ntmps38 results38 O ?_
 intro z hz
 have hnb:=hn.bufs
 refine G O<|mj O fun b1=>mm O<|zG<|ml O O<|zQ<|zY ⟨[(3,.c _),(1,.c _)],[_]⟩ (Weak.mk [true] ⟨zJ,zJ,T⟩ O)<|qL 1 0 O O (Nat) (fun k=>[(3,vI k)]) (fun k=>[]) (fun k=>k<=n.Bufs.length/\(dM [] n.Bufs=dM (n.Bufs.take k) (n.Bufs.drop k))) (fun k=>n.Bufs.length-k) ⟨0,⟨zA,O⟩,Weak.mk [true] ⟨zJ,zJ,T⟩ O⟩ ?_
 rintro k ⟨hk,hp⟩
 refine zG<|mo O O<|zC O zAm<|zH zDx (J 0 O) O<|qB O el22<|yI O<|Y<|zK O ?_ ?_<;>intro c1<;>try simp only [sx] at c1
 ·obtain ⟨b,hb⟩:=qZ n.Bufs k zA
  refine zI<|zG<|zQ<|G O<|zC O zAm<|zH zDx (J 0 O) O<|A O<|qC O el22 zA (getm uA)<|zM zMl zZ O<|zV O O (qH lw O zr94 O) ?_
  rintro _ _ ⟨b2,rfl,rfl⟩
  refine rStR 0 sz94 O<|Y<|zG<|G O<|zC O zFh<|zH one9 (J 0 O) O<|qD O uB (zIw _) (vlr O)<|kO O<|Y<|zK O ?_ ?_<;>intro c2<;>try simp only [sx] at c2
  ·refine ml O O<|zF<|zS O ?_
   rw [zBx hb hp (by rw [bfErr_7 c2];decide),bfErr_7 c2]
  ·refine zI<|zG<|ml O O<|zQ<|zY ⟨[(5,.c _),(1,.c _),(3,.c _),(4,.c _)],[_,_]⟩ (Weak.mk [true,true] ⟨zJ,zJ,zJ,zJ,T⟩ O)<|qL 1 0 O O (Nat) (fun j=>[(5,vI j)]) (fun j=>[]) (fun j=>j<=k/\dU (n.Bufs.take j) b.Name=false) (fun j=>k-j) ⟨0,⟨zA,O⟩,Weak.mk [true,true] ⟨zJ,zJ,zJ,zJ,T⟩ O⟩ ?_
   rintro j ⟨hj,hq⟩
   refine zG<|mo O O<|A O<|yI O<|Y<|zK O ?_ ?_<;>intro c3<;>try simp only [sx] at c3
   ·obtain ⟨y,hy⟩:=qZ n.Bufs j zA
    refine zI<|zG<|zQ<|zG<|qV 9 mixed uB O O<|mr O (zE O zAm O)<|mr O (zD O zDx O (J 1 O) O)<|mr O (zO O O)<|mr O (qE O el22 O O zA (getm uA))<|mr O (qN O zFh O)<|mr O (zD O one9 O zZ O)<|mr O (zE O zFh O)<|mr O (zD O one9 O (J 0 O) O)<|mr O (zNi O O O)<|yQ<|Y<|zK O ?_ ?_<;>intro c4<;>try simp only [sx] at c4
    ·refine ml O O<|zF<|zS O ?_
     have h8:=hasBf_lt hy (show j<k by omega) c4
     rw [zBx hb hp (by rw [bfErr_8 c2 h8];decide),bfErr_8 c2 h8]
    ·refine zI<|zT O<|A O<|qI O ⟨zA,zA⟩<|A O<|Y ?_
     refine ⟨j+1,⟨zA,zSw hy hq c4⟩,zA,Weak.mk [true,true] ⟨zJ,zJ,zJ,zJ,T⟩ O⟩
   ·rw [show j=k by omega] at hq
    refine qO<|zG<|G O<|zC O zGy<|zM yE (J 0 O) O<|qD O uB (zEf b.T) (vlr O)<|kO O<|Y<|zK O ?_ ?_<;>intro c5<;>try simp only [sx] at c5
    ·refine ml O O<|zF<|zS O ?_
     rw [zBx hb hp (by rw [zVr c2 hq c5];decide),zVr c2 hq c5]
    ·refine zI<|zG<|G O<|zC O zGx<|zH zBz (J 0 O) O<|qD O uB (ref11_Validate b.Dims (hn.dims b (qA hb))) (vlr O)<|mm O<|mo O O<|yL O<|Y<|zK O ?_ ?_<;>intro c6<;>try simp only [sx] at c6
     ·refine mo O O<|mm O<|zF<|zS O ?_
      rw [zBx hb hp (by rw [bfErr_d c2 hq c5 c6];exact c6),bfErr_d c2 hq c5 c6]
     ·refine zI<|G O<|zC O zQr<|zH one3 (J 0 O) O<|yI O<|A O<|rL0 O (fun g17_3=>zE O zQr O) O<|rL1 51 O (fun g17_3=>zD O one3 O (J 0 O) O) O<|rL1 52 O (fun g17_3=>yD O O O) O<|r_or O (fun h=>(lzf h))<|Y<|zK O ?_ ?_<;>intro c7<;>try simp only [sx] at c7
      ·refine ml O O<|zF<|zS O ?_
       rw [zBx hb hp (by rw [bfErr_u c2 hq c5 c6 zA];decide),bfErr_u c2 hq c5 c6 zA]
      ·refine zI<|zT O<|A O<|qI O ⟨zA,zA⟩<|A O<|Y ?_
       refine ⟨k+1,⟨zA,zTw hb hp (bfErr_0 c2 hq c5 c6 zA)⟩,zA,Weak.mk [false,true] ⟨zJ,zJ,T⟩ O⟩
 ·refine qO<|ml O O<|zF<|zS O ?_
  rw [zZu hp zA]
end Go.W
end
section
set_option maxRecDepth 10000
namespace Go.W
open Go Go.Eng Go.Proofs Go.L41 Go.Br Tryz
attribute [local irreducible] AWP RWP TD fK
abbrev ckN (b:Nat) (svL svS svP:Value) (n:Ns) (U S:List lr) (W:List Int):List E:=
  [.row b 137 [.sl 8 (n.Bufs.map Bf.cells),.sl 20 (n.Body.map St.cells),.lit svL,.lit svS,.lit svP],.vec svL 9 1 (U.map fun s=>[cS s]),.vec svS 9 1 (S.map fun s=>[cS s]),.vec svP 3 1 (W.map fun i=>[cI i])]
abbrev vP (b:Nat):V:=.c (.lit (.pointer (some ⟨b,0,none⟩)))
def kE:nE prog 25=some 2:=by kernel_rfl
def zDv:nE prog 56=some 20:=by kernel_rfl
def zAn:fB prog 223=some (48,5,40):=by kernel_rfl
def zAq:bO prog 25 1=some (1,23):=by kernel_rfl
def zAp:bO prog 56 0=some (0,3):=by kernel_rfl
def zAl:bO prog 56 1=some (1,9):=by kernel_rfl
def zAt:bO prog 56 2=some (2,3):=by kernel_rfl
def zKj:bO prog 56 3=some (3,3):=by kernel_rfl
def zQs:bO prog 56 4=some (4,3):=by kernel_rfl
def zFj:bO prog 56 5=some (5,44):=by kernel_rfl
def zBk:bO prog 56 6=some (6,54):=by kernel_rfl
def zSz:bO prog 137 0=some (0,25):=by kernel_rfl
def fd137_1:bO prog 137 1=some (2,85):=by kernel_rfl
def zMc:bO prog 137 2=some (3,85):=by kernel_rfl
def zJz:bO prog 137 3=some (4,38):=by kernel_rfl
def one85:mM prog 85=true:=by kernel_rfl
def zTm:mM prog 135=true:=by kernel_rfl
def pl54:fW prog 54=some [(0,1),(1,1),(2,2),(4,5),(9,2),(11,1),(12,1)]:=by kernel_rfl
def pl137:fW prog 137=some [(0,2),(2,1),(3,1),(4,1)]:=by kernel_rfl
def sz48:(prog.info? 48).map (·.size)=some 5:=by kernel_rfl
def sz56:(prog.info? 56).map (·.size)=some 20:=by kernel_rfl
def sz85:(prog.info? 85).map (·.size)=some 1:=by kernel_rfl
def zr56:fL prog 56=some [(Value.int IntKind.i64 0),(Value.string (ByteArray.mk #[])),(Value.int IntKind.i64 0),(Value.int IntKind.i64 0),(Value.int IntKind.i64 0),(Value.slice none 0 0),(Value.int IntKind.i64 0),(Value.string (ByteArray.mk #[])),(Value.int IntKind.i64 0),(Value.int IntKind.i64 0),(Value.int IntKind.i64 0),(Value.int IntKind.i64 0),(Value.int IntKind.i64 0),(Value.int IntKind.i64 0),(Value.int IntKind.i64 0),(Value.int IntKind.i64 0),(Value.slice none 0 0),(Value.slice none 0 0),(Value.slice none 0 0),(Value.slice none 0 0)]:=by kernel_rfl
def zr137:fL prog 137=some [(Value.slice none 0 0),(Value.slice none 0 0),(Value.slice none 0 0),(Value.slice none 0 0),(Value.slice none 0 0)]:=by kernel_rfl
def zKn (l:List Mono) (c:C) (p:Mono->Bool) (μ:List E) (hl:l.length<=4294967296) (hc:∀x,x∈l->FnCon cfg c [tB x] μ fun r μ'=>r=vB (p x)/\μ'=μ):
    Con cfg 249 [xQ l,.c c] μ fun r μ'=>r=vI (mA p l)/\μ'=μ:=by
 refine zR func249 O ntmps249 results249 O fun z hz=>ml O O<|zG<|mo O O<|qB O N<|mm O<|zQ<|zY ⟨[(8,.c _),(0,.c _),(1,.c _),(7,.c _)],_⟩ (Weak.regs ⟨zJ,zJ,zJ,zJ,T⟩)<|zDu 1 O (Nat) (fun k=>[(8,vI k)]) (fun k=>μ) (fun k=>k<=l.length/\((l.take k).any p=false)) (fun k=>l.length-k) ⟨0,⟨zA,O⟩,Weak.regs ⟨zJ,zJ,zJ,zJ,T⟩⟩ ?_
 rintro k ⟨hk,hp⟩
 refine G O<|yI O<|Y<|zG<|zK O ?_ ?_<;>intro c1<;>try simp only [sx] at c1
 ·obtain ⟨x,hx⟩:=qZ l k zA
  refine zI<|zG<|zQ<|mo O O<|mm O<|mo O O<|A O<|A O<|qC O N zA (getm uA)<|zM zIy zZ O<|zV O O (zAe O O (hc _ (qA hx)) (vlr O)) ?_
  exact l6
 ·refine qO<|ml O O<|zF<|zS O ?_
  exact ⟨by rw [zNd (by rw [yW zA] at hp;exact hp)],O⟩
def zHu (l:List Mono) (c:C) (p:Mono->Bool) (μ:List E) (hl:l.length<=4294967296) (hc:∀x,x∈l->FnCon cfg c [tB x] μ fun r μ'=>r=vB (p x)/\μ'=μ):
    Con cfg 215 [xQ l,.c c] μ fun r μ'=>r=vB (l.any p)/\μ'=μ:=by
 refine zR func215 O ntmps215 results215 O fun z hz=>ml O O<|mo O O<|A O<|zV O O (zBm O uB (zKn l c p μ hl hc) (vlr O)) ?_
 rintro _ _ ⟨rfl,rfl⟩
 refine zW O (wH O O O)<|mm O<|zF<|zS O ?_
 exact ⟨by rw [zQn],O⟩
def zNo (l:List Lf) (c:C) (p:Lf->Bool) (μ:List E) (hl:l.length<=4294967296) (hc:∀x,x∈l->FnCon cfg c [dK x] μ fun r μ'=>r=vB (p x)/\μ'=μ):
    Con cfg 217 [sM l,.c c] μ fun r μ'=>r=vI (mA p l)/\μ'=μ:=by
 refine zR func217 O ntmps217 results217 O fun z hz=>ml O O<|zG<|mo O O<|qB O el90<|mm O<|zQ<|zY ⟨[(8,.c _),(0,.c _),(1,.c _),(7,.c _)],_⟩ (Weak.regs ⟨zJ,zJ,zJ,zJ,T⟩)<|zDu 1 O (Nat) (fun k=>[(8,vI k)]) (fun k=>μ) (fun k=>k<=l.length/\((l.take k).any p=false)) (fun k=>l.length-k) ⟨0,⟨zA,O⟩,Weak.regs ⟨zJ,zJ,zJ,zJ,T⟩⟩ ?_
 rintro k ⟨hk,hp⟩
 refine G O<|yI O<|Y<|zG<|zK O ?_ ?_<;>intro c1<;>try simp only [sx] at c1
 ·obtain ⟨x,hx⟩:=qZ l k zA
  refine zI<|zG<|zQ<|mo O O<|mm O<|mo O O<|A O<|A O<|qC O el90 zA (getm uA)<|zM kQ zZ O<|zV O O (zAe O O (hc _ (qA hx)) (vlr O)) ?_
  exact l6
 ·refine qO<|ml O O<|zF<|zS O ?_
  exact ⟨by rw [zNd (by rw [yW zA] at hp;exact hp)],O⟩
def zJg (l:List Lf) (c:C) (p:Lf->Bool) (μ:List E) (hl:l.length<=4294967296) (hc:∀x,x∈l->FnCon cfg c [dK x] μ fun r μ'=>r=vB (p x)/\μ'=μ):
    Con cfg 179 [sM l,.c c] μ fun r μ'=>r=vB (l.any p)/\μ'=μ:=by
 refine zR func179 O ntmps179 results179 O fun z hz=>ml O O<|mo O O<|A O<|zV O O (zBm O uB (zNo l c p μ hl hc) (vlr O)) ?_
 rintro _ _ ⟨rfl,rfl⟩
 refine zW O (wH O O O)<|mm O<|zF<|zS O ?_
 exact ⟨by rw [zQn],O⟩
def inScope_1 (b:Nat) (svL svS svP:Value) (n:Ns) (U S:List lr) (W:List Int) (m:Mono) (hS:S.length<=1000000):
    Con cfg 216 [tB m,.c (.iptr [.lit (.pointer (some ⟨b,0,none⟩))])] (ckN b svL svS svP n U S W) fun r μ'=>r=vB (!bP S m.Name)/\μ'=ckN b svL svS svP n U S W:=by
 refine zR func216 O ntmps216 results216 O fun z hz=>G O<|mj O fun b1=>mm O<|zG<|qV 6 mixed uB O O<|mr O (zD O zTm O zZ O)<|mr O (yC O O)<|mr O (zE O zMc O)<|mr O (zD O one85 O (J 1 O) O)<|mr O (zE O zAd O)<|mr O (zD O one9 O (J 0 O) O)<|yQ<|zW O (zQy 3 O uB O (zDh S m.Name zA) O ⟨.inl ⟨O,O⟩,.inr ⟨zJ,O⟩,T⟩)<|kO O<|mm O<|zY _ (Weak.mem [false,true,true,true,true] O)<|zF<|zS O ?_
 exact ⟨O,O⟩
def zTf (b:Nat) (svL svS svP:Value) (n:Ns) (U S:List lr) (W:List Int) (l:Lf) (hS:S.length<=1000000) (hl:l.L.length<=4294967296):
    Con cfg 178 [vP b,dK l] (ckN b svL svS svP n U S W) fun r μ'=>r=vB (gS S l)/\μ'=ckN b svL svS svP n U S W:=by
 refine zR func178 O ntmps178 results178 O fun z hz=>G O<|mj O fun b1=>yU _ (yX 0 O 2 _ PLe.ptr)<|mj O fun b2=>mm O<|G O<|zC O wM<|zH zBs (J 0 O) O<|zW O (zFa O O O O O)<|zW O (kI [1,1,1,1] O uB (zHu l.L _ (fun m=> !bP S m.Name) (ckN b svL svS svP n U S W) hl (fun m _=>FnCon.of_con (first:=[]) (cap:=[.iptr [.lit (.pointer (some ⟨b,0,none⟩))]]) uB (inScope_1 b svL svS svP n U S W m hS))) (vlr O) O)<|kO O<|mm O<|zY _ (Weak.mem [false,true,true,true,true] O)<|zF<|zS O ?_
 exact ⟨by rw [zLo];rfl,O⟩
def node_1 (b:Nat) (svL svS svP:Value) (n:Ns) (U S:List lr) (W:List Int) (l:Lf) (hS:S.length<=1000000) (hl:l.L.length<=4294967296):
    Con cfg 180 [dK l,.c (.iptr [.lit (.pointer (some ⟨b,0,none⟩))])] (ckN b svL svS svP n U S W) fun r μ'=>r=vB (!gS S l)/\μ'=ckN b svL svS svP n U S W:=by
 refine zR func180 O ntmps180 results180 O fun z hz=>G O<|mj O fun b1=>mm O<|G O<|zH zTm zZ O<|zM kQ (J 0 O) O<|zW O (kI [1,1,1,1] O uB (zTf b svL svS svP n U S W l hS hl) (vlr O) O)<|kO O<|mm O<|zY _ (Weak.mem [false,true,true,true,true] O)<|zF<|zS O ?_
 exact ⟨O,O⟩
def ck_node (b:Nat) (svL svS svP:Value) (n:Ns) (U S:List lr) (W:List Int) (e:Ex) (hn:n.Ok) (hS:S.length<=1000000) (he:e.wt<=1073741824):
    Con cfg 157 [vP b,vE e] (ckN b svL svS svP n U S W) fun r μ'=>r=vI (jQ n.Bufs S e)/\μ'=ckN b svL svS svP n U S W:=by
 refine zR func157 O ntmps157 results157 O ?_
 intro z hz
 obtain ⟨hL,hI,hA⟩:=e.parts he
 have hwt:=Ex.wt_eq e
 refine G O<|mj O fun b1=>yU _ (yX 0 O 2 _ PLe.ptr)<|mj O fun b2=>mm O<|G O<|zH zTm zZ O<|zC O zEk<|zM kQ (J 0 O) O<|zW O (kI [1,1,1,1] O uB (zTf b svL svS svP n U S W e.Lin hS zA) (vlr O) O)<|mm O<|zG<|G O<|zC O wK<|zH wT (J 0 O) O<|qB O v<|mm O<|zQ<|zY ⟨[(20,.c _),(5,.c _),(2,.c _),(3,.c _),(18,.c _),(19,.c _)],[_,_,_,_,_]⟩ (Weak.mk [true,true,true,true,true] ⟨zJ,zJ,zJ,zJ,zJ,zJ,T⟩ O) ?_
 refine qL 2 0 O O (Nat) (fun k=>[(20,vI k),(5,vB (gS S e.Lin&&(e.Idx.take k).all (xT S)))]) (fun k=>[]) (fun k=>k<=e.Idx.length) (fun k=>e.Idx.length-k) ⟨0,zA,Weak.mk [true,true,true,true,true] ⟨zJ,VLe.of_eq (ag vB uD),zJ,zJ,zJ,zJ,T⟩ O⟩ ?_
 rintro k hk
 refine G O<|yI O<|Y<|zG<|zK O ?_ ?_<;>intro c1<;>try simp only [sx] at c1
 ·obtain ⟨x,hx⟩:=qZ e.Idx k zA
  refine zI<|zG<|zQ<|G O<|qC O v zA (getm uA)<|zM zRn zZ O<|zV O O (qH md O zr92 O) ?_
  rintro _ _ ⟨b3,rfl,rfl⟩
  refine rStR 0 sz92 O<|Y<|zT O<|A O<|A O<|rL0 O (fun g5_1=>zD O zTm O zZ O) O<|rL0 O (fun g5_1=>zE O zFw O) O<|rL1 27 O (fun g5_1=>zU O kQ O (J 0 O) O) O<|rLz [(26,_),(28,_)] O gv1 ⟨O,O,O,O,T⟩ (fun g5_1=>kI [2,2,2,2] O uB (zTf b svL svS svP n U S W x.Lin hS (by have:=Ex.idx_wt (qA hx);omega)) (vlr O) O) O<|yT O (fun h=>h)<|A O<|rL0 O (fun g5_7=>zE O zBa O) O<|rL1 32 O (fun g5_7=>zD O zFf O (J 0 O) O) O<|rL0 O (fun g5_7=>zFa O O O O O) O<|rLz [(33,_),(34,_)] O gv1 ⟨O,O,O,O,T⟩ (fun g5_7=>kI [2,2,2,2] O uB (zJg x.At _ (fun l=> !gS S l) (ckN b svL svS svP n U S W) (by have:=Ex.idx_wt (qA hx);omega) (fun l hl=>FnCon.of_con (first:=[]) (cap:=[.iptr [.lit (.pointer (some ⟨b,0,none⟩))]]) uB (node_1 b svL svS svP n U S W l hS (by have:=Ex.idx_wt (qA hx);have:=zEn hl;omega)))) (vlr O) O) O<|rL1 35 O (fun g5_7=>kG O O) O<|yT O (fun h=>h)<|mm O<|zT O<|qI O ⟨zA,zA⟩<|A O<|Y ?_
  refine ⟨k+1,zA,zA,Weak.mk [false,true,true,true,true,true] ⟨zJ,VLe.of_eq (ag vB (by rw [zLo];exact scAll_next hx)),zJ,zJ,zJ,zJ,T⟩ O⟩
 ·rw [yW (l:=e.Idx) (k:=k) zA]
  refine qO<|zG<|mo O O<|kO O<|Y<|zK O (fun c2=>?_) (fun c2=>?_)
  ·have h9:lQ S e=false:=(ao _).mp c2
   refine ml O O<|zY _ (Weak.mem [false,true,true,true,true] O)<|zF<|zS O ?_
   exact ⟨by rw [nodeN_9 h9],O⟩
  ·have h9:lQ S e=true:=(fj _).mp c2
   refine zI<|zG<|G O<|zC O kP<|zH one3 (J 0 O) O<|yL O<|Y<|zK O ?_ ?_<;>intro c3<;>try simp only [sx] at c3
   ·refine ml O O<|zY _ (Weak.mem [false,true,true,true,true] O)<|zF<|zS O ?_
    exact ⟨by rw [nodeN_o h9 c3],O⟩
   ·refine zI<|zG<|kK 12 1 [⟨0,.q []⟩,⟨1,.q []⟩,⟨2,.q []⟩,⟨3,.q [2]⟩,⟨4,.q []⟩,⟨5,.q [1]⟩,⟨6,.q []⟩,⟨7,.q []⟩,⟨8,.q []⟩,⟨9,.q []⟩,⟨10,.e 0 []⟩,⟨11,.e 0 []⟩] mixed uB uB O O O<|zX O<|zX O<|zX O<|zX O<|zX O<|zX O<|zX O<|zX O<|zX O<|zX O<|zX O<|zX O<|zBj<|mq O (zD O zTm O zZ O)<|mq O (yC O O)<|mq O (zE O zSz O)<|mq O (zU O kE O (J 0 O) O)<|mq O (zE O zGz O)<|mq O (zD O one9 O (J 0 O) O)<|mq O (qG O uB (zAj n e.Name hn) (vlr O))<|mq O (kJ O O)<|mq O (wG O O O)<|mq O (wF O O O)<|zKm O O zB O O (qH lw O zr94 O) ?_
    rintro _ _ ⟨b4,rfl,rfl⟩
    refine ⟨_,O,?_⟩
    refine zGl O O zB O O (yM O sz94 O O O (zFu 0 O O)) ?_
    rintro _ _ ⟨rfl,rfl⟩
    refine ⟨_,O,?_⟩
    refine zBe O<|mm O<|zG<|mo O O<|kO O<|Y<|zK O ?_ ?_<;>intro c4<;>try simp only [sx] at c4
    ·refine ml O O<|zY _ (Weak.mem [false,false,true,true,true,true] O)<|zF<|zS O ?_
     exact ⟨by rw [nodeN_n h9 zA c4],O⟩
    ·refine zI<|zG<|G O<|zC O zGx<|zH zBz (J 0 O) O<|qB O el38<|zC O wK<|zH wT (J 1 O) O<|qB O v<|yL O<|Y<|zK O ?_ ?_<;>intro c5<;>try simp only [sx] at c5
     ·refine ml O O<|zY _ (Weak.mem [false,false,true,true,true,true] O)<|zF<|zS O ?_
      exact ⟨by rw [nodeN_r h9 zA c4 zA],O⟩
     ·refine zI<|zG<|G O<|zC O wK<|zH wT (J 1 O) O<|qB O v<|mm O<|zQ<|zY ⟨[(66,.c _),(2,.c _),(64,.c _),(65,.c _)],[_,_,_,_]⟩ (Weak.mk [false,false,true,true,true,true] ⟨zJ,zJ,zJ,zJ,T⟩ O)<|qL 1 0 O O (Nat) (fun j=>[(66,vI j)]) (fun j=>[]) (fun j=>j<=e.Idx.length/\(pH n.Bufs e.Idx=pH n.Bufs (e.Idx.drop j))) (fun j=>e.Idx.length-j) ⟨0,⟨zA,O⟩,Weak.mk [true,true,true,true] ⟨zJ,zJ,zJ,zJ,T⟩ O⟩ ?_
      rintro j ⟨hk,hq⟩
      refine G O<|yI O<|Y<|zG<|zK O ?_ ?_<;>intro c6<;>try simp only [sx] at c6
      ·obtain ⟨y,hy⟩:=qZ e.Idx j zA
       refine zI<|zG<|zQ<|G O<|qC O v zA (getm uA)<|zM zRn zZ O<|zV O O (qH md O zr92 O) ?_
       rintro _ _ ⟨b5,rfl,rfl⟩
       refine rStR 0 sz92 O<|Y<|zG<|G O<|zC O zFi<|zH one9 (J 0 O) O<|wP O<|Y<|zK O ?_ ?_<;>intro c7<;>try simp only [sx] at c7
       ·refine qO<|zT O<|qI O ⟨zA,zA⟩<|A O<|Y ?_
        refine ⟨j+1,⟨zA,hq.trans (zNf hy (by first|exact gathE_0 c7|exact zVe c7 c8 zA zA))⟩,zA,Weak.mk [false,true,true,true,true] ⟨zJ,zJ,zJ,zJ,T⟩ O⟩
       ·refine zI<|zG<|kK 12 1 [⟨0,.q []⟩,⟨1,.q []⟩,⟨2,.q []⟩,⟨3,.q [2]⟩,⟨4,.q []⟩,⟨5,.q [1]⟩,⟨6,.q []⟩,⟨7,.q []⟩,⟨8,.q []⟩,⟨9,.q []⟩,⟨10,.e 0 []⟩,⟨11,.e 0 []⟩] mixed uB uB O O O<|zX O<|zX O<|zX O<|zX O<|zX O<|zX O<|zX O<|zX O<|zX O<|zX O<|zX O<|zX O<|zBj<|mq O (zD O zTm O zZ O)<|mq O (yC O O)<|mq O (zE O zSz O)<|mq O (zU O kE O (J 0 O) O)<|mq O (zE O zFi O)<|mq O (zD O one9 O (J 0 O) O)<|mq O (qG O uB (zAj n y.From hn) (vlr O))<|mq O (kJ O O)<|mq O (wG O O O)<|mq O (wF O O O)<|zKm O O zB O O (qH lw O zr94 O) ?_
        rintro _ _ ⟨b6,rfl,rfl⟩
        refine ⟨_,O,?_⟩
        refine zGl O O zB O O (yM O sz94 O O O (zFu 0 O O)) ?_
        rintro _ _ ⟨rfl,rfl⟩
        refine ⟨_,O,?_⟩
        refine zBe O<|mm O<|zQ<|mo O O<|kO O<|mm O<|zK O ?_ ?_<;>intro c8<;>try simp only [sx] at c8
        ·refine ml O O<|zY _ (Weak.mem [false,false,true,true,true,true] O)<|zF<|zS O ?_
         exact ⟨by rw [zLp h9 zA c4 zA,hq,zNe hy (by rw [gathE_9 c7 c8];decide),gathE_9 c7 c8],O⟩
        ·refine G O<|zC O zGy<|zC O zEc<|zH one3 (J 0 O) O<|yL O<|mm O<|zK O ?_ ?_<;>intro c9<;>try simp only [sx] at c9
         ·refine ml O O<|zY _ (Weak.mem [false,false,true,true,true,true] O)<|zF<|zS O ?_
          exact ⟨by rw [zLp h9 zA c4 zA,hq,zNe hy (by rw [zVg c7 c8 c9];decide),zVg c7 c8 c9],O⟩
         ·refine G O<|zC O zGx<|zH zBz (J 0 O) O<|qB O el38<|zC O zBa<|zH zFf (J 1 O) O<|qB O el90<|yL O<|mm O<|zK O ?_ ?_<;>intro c10<;>try simp only [sx] at c10
          ·refine ml O O<|zY _ (Weak.mem [false,false,true,true,true,true] O)<|zF<|zS O ?_
           exact ⟨by rw [zLp h9 zA c4 zA,hq,zNe hy (by rw [zVf c7 c8 c9 zA];decide),zVf c7 c8 c9 zA],O⟩
          ·refine zI<|zT O<|qI O ⟨zA,zA⟩<|A O<|Y ?_
           refine ⟨j+1,⟨zA,hq.trans (zNf hy (by first|exact gathE_0 c7|exact zVe c7 c8 zA zA))⟩,zA,Weak.mk [false,false,true,true,true,true] ⟨zJ,zJ,zJ,zJ,T⟩ O⟩
      ·refine qO<|ml O O<|zF<|zS O ?_
       exact ⟨by rw [zLp h9 zA c4 zA,hq,kL zA];rfl,O⟩
def ck_typeOf_step (b:Nat) (svL svS svP:Value) (n:Ns) (U S:List lr) (W:List Int) (hn:n.Ok) (e:Ex) (ih:∀a,a∈e.Args->dN a=0->a.wt<=1073741824->Con cfg 158 [vP b,vE a] (ckN b svL svS svP n U S W) fun r μ'=>r=.tup [vTy (fH (tyF n.Bufs) a).1,vI (fH (tyF n.Bufs) a).2]/\μ'=ckN b svL svS svP n U S W) (hpart:dN e=0) (he:e.wt<=1073741824):
    Con cfg 158 [vP b,vE e] (ckN b svL svS svP n U S W) fun r μ'=>r=.tup [vTy (fH (tyF n.Bufs) e).1,vI (fH (tyF n.Bufs) e).2]/\μ'=ckN b svL svS svP n U S W:=by
 refine Con.drop<|zR func158 O ntmps158 results158 O ?_
 intro z hz
 obtain ⟨hLl,hIl,hAl⟩:=e.parts he
 have hwt:=Ex.wt_eq e
 refine G O<|mj O fun b1=>zV O O (qW O zr48) ?_
 rintro _ _ ⟨b2,rfl,rfl⟩
 refine mm O<|mo O O<|yU _ (wE 48 5)<|Y<|zG<|G O<|zC O wD<|zH zAs (J 2 O) O<|qB O el52<|mm O<|zQ<|zY ⟨[(16,.c _),(6,.c _),(0,.c _),(3,.c _),(4,.c _),(14,.c _),(15,.c _)],[_,_,_,_,_,_,_]⟩ (Weak.mk [true,true,true,true,true,true,true] ⟨zJ,zJ,zJ,zJ,zJ,zJ,zJ,T⟩ O)<|qL 2 1 O O (Nat×Value) (fun ⟨k,sv⟩=>[(16,vI k),(6,.c (.lit sv))]) (fun ⟨k,sv⟩=>[E.vec sv 48 5 ((bW (tyF n.Bufs) (e.Args.take k)).1.map tyC)]) (fun ⟨k,sv⟩=>k<=e.Args.length/\((bW (tyF n.Bufs) (e.Args.take k)).2=0)) (fun ⟨k,sv⟩=>e.Args.length-k) ⟨⟨0,(.slice none 0 0)⟩,⟨zA,O⟩,Weak.mk [true,true,true,true,true,true,true] ⟨zJ,zJ,zJ,zJ,zJ,zJ,zJ,T⟩ O⟩ ?_
 rintro ⟨k,sv⟩ ⟨hk,hp⟩
 show AWP _ _ _ _ _ ⟨[(16,vI k),(6,.c (.lit sv))]++_,[E.vec sv 48 5 ((bW (tyF n.Bufs) (e.Args.take k)).1.map tyC)]++_⟩
 refine G O<|yI O<|Y<|zG<|zK O ?_ ?_<;>intro c1<;>try simp only [sx] at c1
 ·obtain ⟨x,hx⟩:=qZ e.Args k zA
  have hll:=zIl _ _ hp
  refine zI<|zG<|zQ<|G O<|qC O el52 zA (zCy uA)<|zM yY zZ O<|zV O O (qH lx O zr54 O) ?_
  rintro _ _ ⟨b4,rfl,rfl⟩
  refine rStR 0 sz54 O<|Y<|mo O O<|zM yY (J 0 O) O<|zW O (kI [4,4,4,4] O uB (ih x (qA hx) (zIj hpart (qA hx)) (by have:=Ex.arg_wt (qA hx);omega)) (vlr O) O)<|qP O<|yG O<|qS O<|zV O O (qW O zr48) ?_
  rintro _ _ ⟨b5,rfl,rfl⟩
  refine rStR 0 sz48 O<|mm O<|zG<|mo O O<|yL O<|Y<|zK O ?_ ?_<;>intro c2<;>try simp only [sx] at c2
  ·refine G O<|zM yE (J 0 O) O<|A O<|rStR 3 sz48 O<|mm O<|zY _ (Weak.mem [false,false,false,true,false,true,true,true,true] O)<|zF<|fin2 (zP yE O (J 0 O) O) (rs_c O) ?_
   exact ⟨by rw [nodeT_no hx hp c2,nodeT_zero c2];rfl,[_],O⟩
  ·refine zI<|zT O<|A O<|zM yE (J 0 O) O<|zW O (yA O zAn zr48 O O O O)<|zV O O (yO 2 O zAn O O O (by simp only [lLm,lLc,lLn,hll,aG];omega) (by simp only [lLm,lLc,lLn,hll,aG];omega)) ?_
   rintro _ _ ⟨sv6,rfl,rfl⟩
   refine mm O<|zT O<|qI O ⟨zA,zA⟩<|A O<|Y ?_
   refine ⟨⟨k+1,sv6⟩,⟨zA,by rw [zGd hx hp c2]⟩,(by show e.Args.length-(k+1)<e.Args.length-k;omega),Weak.mk [false,false,true,true,true,true,true,true,true] ⟨zJ,zJ,zJ,zJ,zJ,zJ,zJ,T⟩ (by show _=[E.vec sv6 _ 5 ((bW (tyF n.Bufs) (e.Args.take (k+1))).1.map tyC)]++_;rw [zGd hx hp c2];simp only [aC];rfl)⟩
 ·have hll:=zIl _ _ hp
  have hta:e.Args.take k=e.Args:=yW zA
  rw [hta] at hll
  have hg:∀i,i<e.Args.length->((bW (tyF n.Bufs) (e.Args.take k)).1.map tyC)[i]? =some (tyC (dZ (bW (tyF n.Bufs) (e.Args.take k)).1 i)):=fun i hi=>zMn (by rw [hta];omega)
  have hgn:∀i:Nat,1<=i->i<=e.Args.length->∀j:Int,j=(((bW (tyF n.Bufs) (e.Args.take k)).1.length:Int)-i)->((bW (tyF n.Bufs) (e.Args.take k)).1.map tyC)[j.toNat]? =some (tyC (dZ (bW (tyF n.Bufs) (e.Args.take k)).1 ((bW (tyF n.Bufs) (e.Args.take k)).1.length-i))):=fun i h1 h2 j hj=>by rw [hta] at *;rw [show j.toNat=(bW (tyF n.Bufs) e.Args).1.length-i by omega];exact zMn zA
  have hT:fH (tyF n.Bufs) e=tyF n.Bufs e (bW (tyF n.Bufs) (e.Args.take k)).1:=nodeT_ok hta hp
  have hlk:(bW (tyF n.Bufs) (e.Args.take k)).1.length=e.Args.length:=by rw [hta];exact hll
  refine qO<|zG<|G O<|zC O kP<|zH one3 (J 2 O) O<|Y<|zQ<|zG<|G O<|yF O<|mm O<|qK O (fun c3=>?_) (fun c3=>?_)
  ·refine zI<|zK O ?_ ?_<;>intro c4<;>try simp only [sx] at c4
   ·refine G O<|zC O zFk<|zM yE (J 2 O) O<|rStR 1 sz48 O<|mm O<|zY _ (Weak.mem [false,true,false,true,true,true,true] O)<|zF<|fin2 (zP yE O (J 0 O) O) (rs_c O) ?_
    exact w7
   ·refine G O<|yF O<|mm O<|qK O (fun c5=>?_) (fun c5=>?_)
    ·exact v8
    ·refine G O<|yF O<|mm O<|qK O (fun c6=>?_) (fun c6=>?_)
     ·refine zG<|kK 12 1 [⟨0,.q []⟩,⟨1,.q []⟩,⟨2,.q []⟩,⟨3,.q [4]⟩,⟨4,.q []⟩,⟨5,.q [3]⟩,⟨6,.q []⟩,⟨7,.q []⟩,⟨8,.q []⟩,⟨9,.q []⟩,⟨10,.e 0 []⟩,⟨11,.e 0 []⟩] mixed uB uB O O O<|zX O<|zX O<|zX O<|zX O<|zX O<|zX O<|zX O<|zX O<|zX O<|zX O<|zX O<|zX O<|zBj<|mq O (zO O O)<|mq O (yC O O)<|mq O (zE O zSz O)<|mq O (zU O kE O (J 0 O) O)<|mq O (zE O zGz O)<|mq O (zD O one9 O (J 0 O) O)<|mq O (qG O uB (zAj n e.Name hn) (vlr O))<|mq O (kJ O O)<|mq O (wG O O O)<|mq O (wF O O O)<|zKm O O zB O O (qH lw O zr94 O) ?_
      rintro _ _ ⟨b7,rfl,rfl⟩
      exact k8
     ·exact r6
  ·refine zT O<|yF O<|mm O<|qK O (fun c4=>?_) (fun c4=>?_)
   ·refine G O<|zC O zFk<|zM yE (J 2 O) O<|rStR 1 sz48 O<|mm O<|zY _ (Weak.mem [false,true,false,true,true,true,true] O)<|zF<|fin2 (zP yE O (J 0 O) O) (rs_c O) ?_
    exact w7
   ·refine G O<|yF O<|mm O<|qK O (fun c5=>?_) (fun c5=>?_)
    ·exact v8
    ·refine G O<|yF O<|mm O<|qK O (fun c6=>?_) (fun c6=>?_)
     ·refine zG<|kK 12 1 [⟨0,.q []⟩,⟨1,.q []⟩,⟨2,.q []⟩,⟨3,.q [4]⟩,⟨4,.q []⟩,⟨5,.q [3]⟩,⟨6,.q []⟩,⟨7,.q []⟩,⟨8,.q []⟩,⟨9,.q []⟩,⟨10,.e 0 []⟩,⟨11,.e 0 []⟩] mixed uB uB O O O<|zX O<|zX O<|zX O<|zX O<|zX O<|zX O<|zX O<|zX O<|zX O<|zX O<|zX O<|zX O<|zBj<|mq O (zO O O)<|mq O (yC O O)<|mq O (zE O zSz O)<|mq O (zU O kE O (J 0 O) O)<|mq O (zE O zGz O)<|mq O (zD O one9 O (J 0 O) O)<|mq O (qG O uB (zAj n e.Name hn) (vlr O))<|mq O (kJ O O)<|mq O (wG O O O)<|mq O (wF O O O)<|zKm O O zB O O (qH lw O zr94 O) ?_
      rintro _ _ ⟨b8,rfl,rfl⟩
      exact k8
     ·exact r6
def ck_typeOf (b:Nat) (svL svS svP:Value) (n:Ns) (U S:List lr) (W:List Int)  (e:Ex) (hn:n.Ok) (hpart:dN e=0) (he:e.wt<=1073741824):Con cfg 158 [vP b,vE e] (ckN b svL svS svP n U S W) fun r μ'=>r=.tup [vTy (fH (tyF n.Bufs) e).1,vI (fH (tyF n.Bufs) e).2]/\μ'=ckN b svL svS svP n U S W:=by
  induction e using Ex.ind with
  |_ e ih=>exact ck_typeOf_step b svL svS svP n U S W hn e (fun a ha h1 h2=>ih a ha h1 h2) hpart he
def zKe (b:Nat) (svL svS svP:Value) (n:Ns) (U S:List lr) (W:List Int) (e:Ex) (hn:n.Ok) (hS:S.length<=1000000) (he:e.wt<=1000000000):
    Con cfg 135 [vP b,vE e] (ckN b svL svS svP n U S W) fun r μ'=>r=.tup [vTy (bT n.Bufs S e).1,vI (bT n.Bufs S e).2]/\μ'=ckN b svL svS svP n U S W:=by
 refine Con.drop<|zR func135 O ntmps135 results135 O fun z hz=>G O<|mj O fun b1=>yU _ (yX 0 O 2 _ PLe.ptr)<|mj O fun b2=>zV O O (qW O zr48) ?_
 rintro _ _ ⟨b3,rfl,rfl⟩
 refine zV O O (qW O zr29) ?_
 rintro _ _ ⟨b4,rfl,rfl⟩
 refine Y<|zG<|G O<|zM yY (J 2 O) O<|qD O uB (expr_Validate e zA) (vlr O)<|mm O<|mo O O<|yL O<|Y<|zK O ?_ ?_<;>intro c1<;>try simp only [sx] at c1
 ·refine G O<|qU O zr48 pl48<|A O<|rStR 1 sz48 O<|rStR 0 sz29 O<|Y<|zY _ (Weak.mem [true,true,false,true,true,true,true] O)<|zF<|fin2 (zP yE O (J 1 O) O) (kZ zDb O (J 0 O) O) ?_
  exact ⟨by rw [zYv c1];rfl,[_,_],O⟩
 ·refine zI<|zG<|G O<|zM yY (J 2 O) O<|qD O uB (zQu _) (vlr O)<|Y<|zQ<|zHc (ps:=[17]) hz 2 O O uB (zPa e zA) (fun _ _=>O) O (fun pre=>dL n.Bufs S pre=0) (fun pre=>[E.row b4 29 [cI 0],E.row b3 48 [cI 0,cI 0,cI 0,cI 0,cI 0]]) (fun c pre=>(c=.ret/\¬dL n.Bufs S pre=0)) (fun c pre=>[E.row b4 29 [cI (dL n.Bufs S pre)],E.row b3 48 [cI 0,cI 0,cI 0,cI 0,cI 0]]) ⟨O,O⟩ ?_ ?_ ?_ ?_
  ·intro pre x suf hxs hi z hz
   have hxw:x.wt<=e.wt:=zGq e x (by rw [hxs];simp)
   refine zT O<|zV O O (qH lx O zr54 O) ?_
   rintro _ _ ⟨b5,rfl,rfl⟩
   refine rStR 0 sz54 O<|Y ?_
   intro z hz
   refine zQ<|G O<|zH zTm zZ O<|zM yY (J 0 O) O<|zW O (kI [4,4,4,4] O uB (ck_node b svL svS svP n U S W x hn hS zA) (vlr O) O)<|mm O<|mo O O<|yL O<|Y<|zK O ?_ ?_<;>intro c2<;>try simp only [sx] at c2
   ·refine G O<|qU O zr48 pl48<|A O<|rStR 2 sz48 O<|rStR 1 sz29 O<|Y<|zF ?_
    exact zDa (τ:=⟨[],_⟩) (Weak.mk [false,true,true,true,true,true,true,true] T O) ⟨⟨O,by rw [zSh hi];exact c2⟩,(by dsimp only;rw [zSh hi];rfl)⟩
   ·refine zI ?_
    exact zDa (τ:=⟨[],_⟩) (Weak.mk [false,true,true,true,true,true,true,true] T O) ⟨(by dsimp only;rw [zSh hi];exact c2),O⟩
  ·intro hd
   refine G O<|zH zTm zZ O<|zM yY (J 2 O) O<|zW O (kI [3,3,3,3] O uB (ck_typeOf b svL svS svP n U S W e hn (zDn c1) zA) (vlr O) O)<|yG O<|qS O<|rStR 1 sz48 O<|rStR 0 sz29 O<|Y<|zY _ (Weak.mem [true,true,false,true,true,true,true] O)<|zF<|fin2 (zP yE O (J 1 O) O) (kZ zDb O (J 0 O) O) ?_
   exact ⟨by rw [exprT_3 c1 hd];rfl,[_,_],O⟩
  ·rintro pre x suf hxs hx
   rcases hx with ⟨hc,hx⟩
   clear hc
   repeat (first|refine zPe ?_|refine zNl ?_)
   refine fin2 (zP yE O (J 1 O) O) (kZ zDb O (J 0 O) O) ?_
   exact ⟨by rw [zYu c1 (by rw [hxs,nodesN_pre hx];exact hx),hxs,nodesN_pre (suf:=suf) hx];rfl,[_,_,_],O⟩
  ·rintro i pre x suf hxs hx
   rcases hx with ⟨hc,hx⟩
   cases hc
def ck_store (b:Nat) (svL svS svP:Value) (n:Ns) (U S:List lr) (W:List Int) (s:St) (hn:n.Ok) (hS:S.length<=1000000) (hs:s.wt<=900000000):
    Con cfg 137 [vP b,vSt s] (ckN b svL svS svP n U S W) fun r μ'=>r=vI (lO n.Bufs S s)/\μ'=ckN b svL svS svP n U S W:=by
 refine zR func137 O ntmps137 results137 O ?_
 intro z hz
 obtain ⟨hE,hI,hIw,hB,hBw⟩:=St.parts hs
 have hrd:=rdE_wt s
 refine G O<|mj O fun b1=>mm O<|mo O O<|zC O zAl<|zH one9 (J 0 O) O<|zC O zFj<|zH wT (J 0 O) O<|yH me O zr54 pl54<|zW O (kI [1,1,1,1] O uB (zKe b svL svS svP n U S W (rdE s) hn hS zA) (vlr O) O)<|qP O<|yG O<|qS O<|zV O O (qW O zr48) ?_
 rintro _ _ ⟨b2,rfl,rfl⟩
 refine rStR 0 sz48 O<|mm O<|zG<|mo O O<|yL O<|Y<|zK O ?_ ?_<;>intro c1<;>try simp only [sx] at c1
 ·refine mo O O<|mm O<|zY _ (Weak.mem [false,false,true,true,true,true] O)<|zF<|zS O ?_
  exact ⟨by rw [zMq c1],O⟩
 ·have hT:=exprT_rd c1
  refine zI<|zG<|zG<|kK 12 1 [⟨0,.q []⟩,⟨1,.q []⟩,⟨2,.q []⟩,⟨3,.q [3]⟩,⟨4,.q []⟩,⟨5,.q [2]⟩,⟨6,.q []⟩,⟨7,.q []⟩,⟨8,.q []⟩,⟨9,.q []⟩,⟨10,.e 0 []⟩,⟨11,.e 0 []⟩] mixed uB uB O O O<|zX O<|zX O<|zX O<|zX O<|zX O<|zX O<|zX O<|zX O<|zX O<|zX O<|zX O<|zX O<|zBj<|mq O (zO O O)<|mq O (yC O O)<|mq O (zE O zSz O)<|mq O (zU O kE O (J 0 O) O)<|mq O (zE O zAl O)<|mq O (zD O one9 O (J 0 O) O)<|mq O (qG O uB (zAj n s.Name hn) (vlr O))<|mq O (kJ O O)<|mq O (wG O O O)<|mq O (wF O O O)<|zKm O O zB O O (qH lw O zr94 O) ?_
  rintro _ _ ⟨b3,rfl,rfl⟩
  refine ⟨_,O,?_⟩
  refine zGl O O zB O O (yM O sz94 O O O (zFu 0 O O)) ?_
  rintro _ _ ⟨rfl,rfl⟩
  refine ⟨_,O,?_⟩
  refine zBe O<|mm O<|G O<|zC O zQr<|zH one3 (J 0 O) O<|yF O<|Y<|qK O (fun c2=>?_) (fun c2=>?_)
  ·refine ml O O<|zY _ (Weak.mem [false,false,false,true,true,true,true] O)<|zF<|zS O ?_
   exact ⟨by rw [zJd c1 (.inl c2)],O⟩
  ·refine zI<|zG<|G O<|zC O zAp<|zH one3 (J 2 O) O<|yF O<|A O<|rL0 O (fun g7_3=>zE O zQs O) O<|rL1 40 O (fun g7_3=>zD O one3 O (J 2 O) O) O<|rL1 41 O (fun g7_3=>zBb O O O) O<|rL1 42 O (fun g7_3=>zO O O) O<|rLz [] O gv2 T (fun g7_7=>zE O zQs O) O<|rLz [(44,_)] O gv2 ⟨O,O,T⟩ (fun g7_7=>zD O one3 O (J 2 O) O) O<|rLz [(45,_)] O gv2 ⟨O,O,T⟩ (fun g7_7=>yD O O O) O<|rL1 43 O (fun g7_3=>zAr O O O O (fun h=>kD uA (lzf h))) O<|yT O (fun h=>h)<|Y<|zK O ?_ ?_<;>intro c3<;>try simp only [sx] at c3
   ·refine ml O O<|zY _ (Weak.mem [false,false,false,true,true,true,true] O)<|zF<|zS O ?_
    exact ⟨by rw [zJd c1 (.inr c3)],O⟩
   ·refine zI<|mo O O<|zC O zBk<|zM yY (J 2 O) O<|zW O (kI [3,3,3,3] O uB (zKe b svL svS svP n U S W s.E hn hS zA) (vlr O) O)<|qP O<|yG O<|qS O<|zV O O (qW O zr48) ?_
    rintro _ _ ⟨b4,rfl,rfl⟩
    refine rStR 0 sz48 O<|mm O<|zG<|mo O O<|yL O<|Y<|zK O ?_ ?_<;>intro c4<;>try simp only [sx] at c4
    ·refine mo O O<|mm O<|zY _ (Weak.mem [false,false,false,false,true,true,true,true] O)<|zF<|zS O ?_
     exact ⟨by rw [zMp c1 zA c4],O⟩
    ·refine zI<|zG<|G O<|zC O zBk<|zM yY (J 3 O) O<|qD O uB (wI s.E) (vlr O)<|A O<|rL0 O (fun g12_3=>zU O yE O (J 0 O) O) O<|rL0 O (fun g12_3=>zU O yE O (J 2 O) O) O<|rLz [(63,_),(64,_)] O gv1 ⟨O,O,O,O,T⟩ (fun g12_3=>zAb O fl48 O O O) O<|r_or O (fun h=>(lzf h))<|Y<|zK O (fun c5=>?_) (fun c5=>?_)
     ·have h10:=st10_t c5
      rw [hT] at h10
      refine ml O O<|zY _ (Weak.mem [false,false,false,false,true,true,true,true] O)<|zF<|zS O ?_
      exact ⟨by rw [zWh c1 zA c4 h10],O⟩
     ·have h10:=st10_f c5
      rw [hT] at h10
      refine zI<|ml O O<|zY _ (Weak.mem [false,false,false,false,true,true,true,true] O)<|zF<|zS O ?_
      exact ⟨by rw [storeE_0 c1 zA c4 h10],O⟩
def ck_loop (b:Nat) (svL svS svP:Value) (n:Ns) (U S:List lr) (W:List Int) (s:St) (hn:n.Ok) (hU:U.length<=1000000):
    Con cfg 134 [vP b,vSt s] (ckN b svL svS svP n U S W) fun r μ'=>r=vI (nH n.Bufs U s)/\μ'=ckN b svL svS svP n U S W:=by
 refine zR func134 O ntmps134 results134 O fun z hz=>G O<|mj O fun b1=>mm O<|zG<|G O<|zC O zAl<|zH one9 (J 0 O) O<|qD O uB (zBi _) (vlr O)<|kO O<|Y<|zK O ?_ ?_<;>intro c1<;>try simp only [sx] at c1
 ·refine ml O O<|zY _ (Weak.mem [false,true,true,true,true] O)<|zF<|zS O ?_
  exact ⟨by rw [loopE_7 c1],O⟩
 ·refine zI<|zG<|zG<|kK 12 1 [⟨0,.q []⟩,⟨1,.q []⟩,⟨2,.q []⟩,⟨3,.q [2]⟩,⟨4,.q []⟩,⟨5,.q [1]⟩,⟨6,.q []⟩,⟨7,.q []⟩,⟨8,.q []⟩,⟨9,.q []⟩,⟨10,.e 0 []⟩,⟨11,.e 0 []⟩] mixed uB uB O O O<|zX O<|zX O<|zX O<|zX O<|zX O<|zX O<|zX O<|zX O<|zX O<|zX O<|zX O<|zX O<|zBj<|mq O (zO O O)<|mq O (yC O O)<|mq O (zE O zSz O)<|mq O (zU O kE O (J 0 O) O)<|mq O (zE O zAl O)<|mq O (zD O one9 O (J 0 O) O)<|mq O (qG O uB (zAj n s.Name hn) (vlr O))<|mq O (kJ O O)<|mq O (wG O O O)<|mq O (wF O O O)<|zKm O O zB O O (qH lw O zr94 O) ?_
  rintro _ _ ⟨b2,rfl,rfl⟩
  refine ⟨_,O,?_⟩
  refine zGl O O zB O O (yM O sz94 O O O (zFu 0 O O)) ?_
  rintro _ _ ⟨rfl,rfl⟩
  refine ⟨_,O,?_⟩
  refine zBe O<|mm O<|zG<|qV 10 mixed uB O O<|mr O (zO O O)<|mr O (zO O O)<|qM [] O O O O gv1 T (fun g4_1=>zO O O) O<|qM [(23,_)] O O O O gv1 ⟨O,O,T⟩ (fun g4_1=>yC O O) O<|qM [(24,_)] O O O O gv1 ⟨O,O,T⟩ (fun g4_1=>zE O fd137_1 O) O<|qM [(25,_)] O O O O gv1 ⟨O,O,T⟩ (fun g4_1=>zD O one85 O (J 2 O) O) O<|qM [] O O O O gv1 T (fun g4_1=>zE O zAl O) O<|qM [(27,_)] O O O O gv1 ⟨O,O,T⟩ (fun g4_1=>zD O one9 O (J 1 O) O) O<|qM [(26,_),(28,_)] O O O O gv1 ⟨O,O,O,O,T⟩ (fun g4_1=>zQy 3 O uB O (zDh U s.Name zA) O ⟨.inl ⟨O,O⟩,.inr ⟨zJ,O⟩,T⟩) O<|mr O (zAr O O O O (fun h=>(lzf h)))<|yQ<|Y<|zK O ?_ ?_<;>intro c2<;>try simp only [sx] at c2
  ·refine ml O O<|zY _ (Weak.mem [false,false,true,true,true,true] O)<|zF<|zS O ?_
   exact ⟨by rw [loopE_8 c1 c2],O⟩
  ·have h8:¬(dU n.Bufs s.Name=true∨bP U s.Name=true):=by rw [c2.1,c2.2];simp
   refine zI<|zG<|G O<|zC O zAt<|zH one3 (J 1 O) O<|yI O<|A O<|rL0 O (fun g6_3=>zE O zAt O) O<|rL1 35 O (fun g6_3=>zD O one3 O (J 1 O) O) O<|rL1 36 O (fun g6_3=>yD O O O) O<|r_or O (fun h=>(lzf h))<|A O<|rL0 O (fun g6_8=>zE O zKj O) O<|rL1 40 O (fun g6_8=>zD O one3 O (J 1 O) O) O<|rL1 41 O (fun g6_8=>zBb O O O) O<|r_or O (fun h=>(lzf h))<|A O<|rL0 O (fun g6_13=>zE O zKj O) O<|rL1 45 O (fun g6_13=>zD O one3 O (J 1 O) O) O<|rL1 46 O (fun g6_13=>yD O O O) O<|r_or O (fun h=>(lzf h))<|Y<|zK O ?_ ?_<;>intro c3<;>try simp only [sx] at c3
   ·refine ml O O<|zY _ (Weak.mem [false,false,true,true,true,true] O)<|zF<|zS O ?_
    exact ⟨by rw [loopE_1 c1 h8 zA],O⟩
   ·refine zI<|ml O O<|zY _ (Weak.mem [false,false,true,true,true,true] O)<|zF<|zS O ?_
    exact ⟨by rw [loopE_0 c1 h8 zA],O⟩
def zXw (e:Ex) (he:e.wt<=4294967296):
    Pur cfg 155 [vE e] (vB (pU e)):=by
 refine zR func155 O ntmps155 results155 O fun z hz=>G O<|mj O fun b1=>mm O<|G O<|zM yY (J 0 O) O<|yH lx O zr54 pl54<|qD O uB (expr_Same e zEx he zB) (vlr O)<|mm O<|zF<|zS O ?_
 exact O
def zXv (s:St) (hs:s.wt<=900000000):
    Pur cfg 133 [vSt s] (vB (dW s)):=by
 refine zR func133 O ntmps133 results133 O ?_
 intro z hz
 obtain ⟨hE,hI,hIw,hB,hBw⟩:=St.parts hs
 refine G O<|mj O fun b1=>mm O<|zG<|qV 17 mixed uB O O<|mr O (zE O zAp O)<|mr O (zD O one3 O (J 0 O) O)<|mr O (yN O O O)<|mr O (zE O zAp O)<|mr O (zD O one3 O (J 0 O) O)<|mr O (yN O O O)<|mr O (zO O O)<|qM [] O O O O gv1 T (fun g1_6=>zE O zAp O) O<|qM [(13,_)] O O O O gv1 ⟨O,O,T⟩ (fun g1_6=>zD O one3 O (J 0 O) O) O<|qM [(14,_)] O O O O gv1 ⟨O,O,T⟩ (fun g1_6=>yN O O O) O<|mr O (zAr O O O O (fun h=>(lzf h)))<|mr O (zE O zAp O)<|mr O (zD O one3 O (J 0 O) O)<|mr O (yN O O O)<|mr O (qY O O)<|mr O (qY O O)<|mr O (qY O O)<|yQ<|Y<|zG<|zQ<|mo O O<|kO O<|A O<|rL0 O (fun g2_2=>zO O O) O<|rL1 24 O (fun g2_2=>kG O O) O<|yT O (fun h=>h)<|A O<|rL0 O (fun g2_6=>zO O O) O<|rL1 28 O (fun g2_6=>kG O O) O<|yT O (fun h=>h)<|mm O<|zK O (fun c1=>?_) (fun c1=>?_)
 ·refine ml O O<|zF<|zS O ?_
  exact ag vB (syn_1 c1)
 ·refine mo O O<|A O<|rL0 O (fun g4_1=>zE O zAl O) O<|rL1 34 O (fun g4_1=>zD O one9 O (J 0 O) O) O<|rL1 35 O (fun g4_1=>zBq O O O) O<|yT O (fun h=>h)<|mm O<|zK O (fun c2=>?_) (fun c2=>?_)
  ·refine ml O O<|zF<|zS O ?_
   exact ag vB (syn_2 c2)
  ·refine mo O O<|kO O<|A O<|rL0 O (fun g6_2=>zE O zAt O) O<|rL1 42 O (fun g6_2=>zD O one3 O (J 0 O) O) O<|rL1 43 O (fun g6_2=>kB O O O) O<|rL1 44 O (fun g6_2=>zO O O) O<|rLz [] O gv2 T (fun g6_6=>zE O zKj O) O<|rLz [(46,_)] O gv2 ⟨O,O,T⟩ (fun g6_6=>zD O one3 O (J 0 O) O) O<|rLz [(47,_)] O gv2 ⟨O,O,T⟩ (fun g6_6=>kB O O O) O<|rL1 45 O (fun g6_2=>zAr O O O O (fun h=>kD uA (lzf h))) O<|yT O (fun h=>h)<|mm O<|zK O (fun c3=>?_) (fun c3=>?_)
   ·refine ml O O<|zF<|zS O ?_
    exact ag vB (syn_3 c3)
   ·refine G O<|zC O zAp<|zH one3 (J 0 O) O<|yL O<|A O<|rL0 O (fun g8_3=>zE O zQs O) O<|rL1 56 O (fun g8_3=>zD O one3 O (J 0 O) O) O<|rL1 57 O (fun g8_3=>kB O O O) O<|yT O (fun h=>h)<|mm O<|zK O (fun c4=>?_) (fun c4=>?_)
    ·refine ml O O<|zF<|zS O ?_
     exact ag vB (syn_4 c4)
    ·refine mo O O<|kO O<|A O<|rL0 O (fun g10_2=>zE O zFj O) O<|rL1 64 O (fun g10_2=>zD O wT O (J 0 O) O) O<|rL1 65 O (fun g10_2=>yK O v O) O<|rL1 66 O (fun g10_2=>yD O O O) O<|yT O (fun h=>h)<|mm O<|zK O (fun c5=>?_) (fun c5=>?_)
     ·refine ml O O<|zF<|zS O ?_
      exact ag vB (syn_5 c5)
     ·refine mo O O<|A O<|rL0 O (fun g12_1=>zE O zBk O) O<|rL1 72 O (fun g12_1=>zU O yY O (J 0 O) O) O<|rL1 73 O (fun g12_1=>qG O uB (zXw s.E zA) (vlr O)) O<|rL1 74 O (fun g12_1=>kG O O) O<|yT O (fun h=>h)<|mm O<|zK O (fun c6=>?_) (fun c6=>?_)
      ·refine ml O O<|zF<|zS O ?_
       exact ag vB (syn_6 c6)
      ·refine zI<|mo O O<|kO O<|A O<|rL0 O (fun g14_2=>zE O kV O) O<|rL1 80 O (fun g14_2=>zD O kX O (J 0 O) O) O<|rL1 81 O (fun g14_2=>yK O D O) O<|rL1 82 O (fun g14_2=>yN O O O) O<|r_or O (fun h=>(lzf h))<|mm O<|zF<|zS O ?_
       exact ag vB (syn_7 c1 c2 c3 c4 c5 c6)
def ck_statement (b:Nat) (svL svS svP:Value) (n:Ns) (U S:List lr) (W:List Int) (s:St) (hn:n.Ok) (hS:S.length<=1000000) (hU:U.length<=1000000) (hs:s.wt<=900000000):
    Con cfg 104 [vP b,vSt s] (ckN b svL svS svP n U S W) fun r μ'=>r=vI (stE n.Bufs U S s)/\μ'=ckN b svL svS svP n U S W:=by
 refine zR func104 O ntmps104 results104 O ?_
 intro z hz
 obtain ⟨hE,hI,hIw,hB,hBw⟩:=St.parts hs
 refine G O<|mj O fun b1=>mm O<|zG<|G O<|zM zDv (J 0 O) O<|qD O uB (zXv s hs) (vlr O)<|kO O<|Y<|zK O ?_ ?_<;>intro c1<;>try simp only [sx] at c1
 ·refine ml O O<|zY _ (Weak.mem [false,true,true,true,true] O)<|zF<|zS O ?_
  exact ⟨by rw [stE_5 c1],O⟩
 ·refine zI<|zG<|G O<|zC O zAp<|zH one3 (J 0 O) O<|Y<|zQ<|G O<|yF O<|mm O<|qK O (fun c2=>?_) (fun c2=>?_)
  ·refine mo O O<|zM zDv (J 0 O) O<|zW O (kI [1,1,1,1] O uB (ck_loop b svL svS svP n U S W s hn hU) (vlr O) O)<|mm O<|zY _ (Weak.mem [false,true,true,true,true] O)<|zF<|zS O ?_
   exact ⟨by rw [stE_l c1 c2],O⟩
  ·refine G O<|yF O<|mm O<|qK O (fun c3=>?_) (fun c3=>?_)
   ·refine zG<|mo O O<|zC O zBk<|zM yY (J 0 O) O<|zW O (kI [1,1,1,1] O uB (zKe b svL svS svP n U S W s.E hn hS zA) (vlr O) O)<|qP O<|yG O<|qS O<|zV O O (qW O zr48) ?_
    rintro _ _ ⟨b2,rfl,rfl⟩
    refine rStR 0 sz48 O<|mm O<|mo O O<|yL O<|Y<|zK O ?_ ?_<;>intro c4<;>try simp only [sx] at c4
    ·refine mo O O<|mm O<|zY _ (Weak.mem [false,false,true,true,true,true] O)<|zF<|zS O ?_
     exact ⟨by rw [stE_i c1 c3,ifE_x c4],O⟩
    ·refine zI<|zG<|G O<|zC O zBk<|zM yY (J 1 O) O<|qD O uB (wI s.E) (vlr O)<|kO O<|Y<|zK O ?_ ?_<;>intro c5<;>try simp only [sx] at c5
     ·refine ml O O<|zY _ (Weak.mem [false,false,true,true,true,true] O)<|zF<|zS O ?_
      exact ⟨by rw [stE_i c1 c3,ifE_10 c4 c5],O⟩
     ·refine zI<|ml O O<|zY _ (Weak.mem [false,false,true,true,true,true] O)<|zF<|zS O ?_
      exact ⟨by rw [stE_i c1 c3,ifE_0 c4 c5],O⟩
   ·refine zI<|mo O O<|zM zDv (J 0 O) O<|zW O (kI [1,1,1,1] O uB (ck_store b svL svS svP n U S W s hn hS hs) (vlr O) O)<|mm O<|zY _ (Weak.mem [false,true,true,true,true] O)<|zF<|zS O ?_
    exact ⟨by rw [stE_s c1 c2 c3],O⟩
set_option maxHeartbeats 2000000 in
def zHq (b:Nat) (svL svS svP:Value) (n:Ns) (U S:List lr) (W:List Int) (l:List St) (hn:n.Ok) (hU:U.length+dJ l<=1000000) (hS:S.length+dJ l<=1000000) (hW:W.length+dJ l<=1000000) (hl:bD l<=536870912) (ih:∀s,s∈l->∀(svL svS svP:Value) (U S:List lr) (W:List Int),U.length+dJ s.Body<=1000000->S.length+dJ s.Body<=1000000->W.length+dJ s.Body<=1000000->Con cfg 72 [vP b,dA s.Body] (ckN b svL svS svP n U S W) fun r μ'=>∃svL' svS' svP' U' S' W',r=vI (dH n.Bufs U S W 0 s.Body).E/\((dH n.Bufs U S W 0 s.Body).E=0->U'=(dH n.Bufs U S W 0 s.Body).U/\S'=S/\W'=W)/\(¬(dH n.Bufs U S W 0 s.Body).E=0->W'=(dH n.Bufs U S W 0 s.Body).W)/\μ'=ckN b svL' svS' svP' n U' S' W'):
    Con cfg 72 [vP b,dA l] (ckN b svL svS svP n U S W) fun r μ'=>∃svL' svS' svP' U' S' W',r=vI (dH n.Bufs U S W 0 l).E/\((dH n.Bufs U S W 0 l).E=0->U'=(dH n.Bufs U S W 0 l).U/\S'=S/\W'=W)/\(¬(dH n.Bufs U S W 0 l).E=0->W'=(dH n.Bufs U S W 0 l).W)/\μ'=ckN b svL' svS' svP' n U' S' W':=by
 refine zR func72 O ntmps72 results72 O ?_
 intro z hz
 have hll:=kY l
 have hlN:=zEv l
 refine ml O O<|zG<|mo O O<|qB O D<|mm O<|zQ<|zY ⟨[(12,.c _),(0,.c _),(1,.c _),(11,.c _)],[_,_,_,_]⟩ (Weak.mk [true,true,true,true] ⟨zJ,zJ,zJ,zJ,T⟩ O)<|qL 1 4 O O (Nat×Value×Value×Value×List lr) (fun ⟨k,vL,vS,vP_,u⟩=>[(12,vI k)]) (fun ⟨k,vL,vS,vP_,u⟩=>[E.row b 137 [.sl 8 (n.Bufs.map Bf.cells),.sl 20 (n.Body.map St.cells),.lit vL,.lit vS,.lit vP_],E.vec vL 9 1 (u.map fun s=>[cS s]),E.vec vS 9 1 (S.map fun s=>[cS s]),E.vec vP_ 3 1 (W.map fun i=>[cI i])]) (fun ⟨k,vL,vS,vP_,u⟩=>k<=l.length/\(u.length+dJ (l.drop k)<=1000000)/\((dH n.Bufs U S W 0 l)=dH n.Bufs u S W k (l.drop k))) (fun ⟨k,vL,vS,vP_,u⟩=>l.length-k) ⟨⟨0,svL,svS,svP,U⟩,⟨zA,by simpa using hU,O⟩,Weak.mk [true,true,true,true] ⟨zJ,zJ,zJ,zJ,T⟩ O⟩ ?_
 rintro ⟨k,vL,vS,vP_,u⟩ ⟨hk,hub,hp⟩
 show AWP _ _ _ _ _ ⟨[(12,vI k)]++_,[E.row b 137 [.sl 8 (n.Bufs.map Bf.cells),.sl 20 (n.Body.map St.cells),.lit vL,.lit vS,.lit vP_],E.vec vL 9 1 (u.map fun s=>[cS s]),E.vec vS 9 1 (S.map fun s=>[cS s]),E.vec vP_ 3 1 (W.map fun i=>[cI i])]++_⟩
 refine G O<|yI O<|Y<|zG<|zK O ?_ ?_<;>intro c1<;>try simp only [sx] at c1
 ·obtain ⟨s,hs⟩:=qZ l k zA
  have hsw:=yS (qA hs)
  have hsb:=St.body_wt s
  have hsn:=stsN_drop hs
  have hse:=zKx s
  have hsm:=zPh (qA hs)
  have hcl:=chkS_len n.Bufs s u S (W++[(k:Int)])
  refine zI<|zG<|zQ<|mo O O<|mm O<|mo O O<|A O<|qC O D zA (wL uA)<|zM zDv zZ O<|zV O O (qH ly O zr56 O) ?_
  rintro _ _ ⟨b1,rfl,rfl⟩
  refine rStR 0 sz56 O<|Y<|mo O O<|A O<|zW O (yC O O)<|zC O zJz<|zH zBz (J 1 O) O<|A O<|zW O (yA O el38 zr3 O O O O)<|zV O O (yO 4 O el38 O O O uF uF) ?_
  rintro _ _ ⟨sv2,rfl,rfl⟩
  refine zW O (yC O O)<|zC O zJz<|rStR 1 sz38 O<|Y<|zG<|zG<|zY _ (Weak.vecEq 4 O (rows':=(W++[(k:Int)]).map fun i=>[cI i]) uI)<|zT O<|A O<|zM zDv (J 0 O) O<|zW O (kI [1,1,1,1] O uB (ck_statement b vL vS _ n u S (W++[(k:Int)]) s hn zA zA zA) (vlr O) O)<|mm O<|mo O O<|yL O<|Y<|zK O ?_ ?_<;>intro c2<;>try simp only [sx] at c2
  ·have hx0:=zZq (here:=W++[(k:Int)]) (B:=n.Bufs) (U:=u) (sc:=S) (s:=s) c2
   refine mo O O<|mm O<|zY _ (Weak.mem [false,true,true,true,true] O)<|zF<|zS O ?_
   refine ⟨_,_,_,_,_,_,?_,fun h0=>?_,fun _=>?_,O⟩
   · rw [zFt hs hp (by rw [hx0];exact c2),hx0]
   · rw [zFt hs hp (by rw [hx0];exact c2),hx0] at h0;exact absurd h0 c2
   · rw [zFt hs hp (by rw [hx0];exact c2),hx0]
  ·have hin:=zZr (here:=W++[(k:Int)]) (B:=n.Bufs) (U:=u) (sc:=S) (s:=s) c2
   refine zI<|mo O O<|zW O (yC O O)<|zC O zMc<|zH one85 (J 1 O) O<|zW O (kM 3 O el85 O O)<|mm O<|zG<|G O<|zC O zAp<|zH one3 (J 0 O) O<|yF O<|Y<|qK O (fun c3=>?_) (fun c3=>?_)
   ·rw [zQb c3,zQb c3] at hin
    refine zG<|kK 9 0 [⟨0,.q []⟩,⟨1,.q []⟩,⟨2,.q []⟩,⟨3,.q []⟩,⟨4,.q [1]⟩,⟨5,.q []⟩,⟨6,.q [0]⟩,⟨7,.q []⟩,⟨8,.e 2 []⟩] mixed uB uB O O O<|zX O<|zX O<|zX O<|zX O<|zX O<|zX O<|zX O<|zX O<|zX O<|zBj<|mq O (zO O O)<|mq O (zO O O)<|mq O (yC O O)<|mq O (zE O fd137_1 O)<|mq O (zD O one85 O (J 0 O) O)<|mq O (zE O zAl O)<|mq O (zD O one9 O (J 0 O) O)<|mq O (yA O el85 zr9 O O O O)<|zKm O O zB O O (yO 0 O el85 O O O uF uF) ?_
    rintro _ _ ⟨sv3,rfl,rfl⟩
    refine ⟨_,O,?_⟩
    refine zBe O<|zW O (yC O O)<|zC O fd137_1<|rStR 1 sz85 O<|Y<|zY _ (Weak.vecEq 2 O (rows':=(u++[s.Name]).map fun s=>[cS s]) uI)<|kK 9 0 [⟨0,.q []⟩,⟨1,.q []⟩,⟨2,.q []⟩,⟨3,.q []⟩,⟨4,.q [1]⟩,⟨5,.q []⟩,⟨6,.q [0]⟩,⟨7,.q []⟩,⟨8,.e 3 []⟩] mixed uB uB O O O<|zX O<|zX O<|zX O<|zX O<|zX O<|zX O<|zX O<|zX O<|zX O<|zBj<|mq O (zO O O)<|mq O (zO O O)<|mq O (yC O O)<|mq O (zE O zMc O)<|mq O (zD O one85 O (J 0 O) O)<|mq O (zE O zAl O)<|mq O (zD O one9 O (J 0 O) O)<|mq O (yA O el85 zr9 O O O O)<|zKm O O zB O O (yO 0 O el85 O O O uF uF) ?_
    rintro _ _ ⟨sv4,rfl,rfl⟩
    refine ⟨_,O,?_⟩
    refine zBe O<|zW O (yC O O)<|zC O zMc<|rStR 1 sz85 O<|Y<|zG<|zG<|zY _ (Weak.vecEq 3 O (rows':=(S++[s.Name]).map fun s=>[cS s]) uI)<|zY ⟨_,E.row _ _ _::ckN b _ _ _ n (u++[s.Name]) (S++[s.Name]) (W++[(k:Int)])⟩ (Weak.mem [true,true,true,true,true] O)<|zT O<|A O<|zC O kV<|zH kX (J 0 O) O<|zV O O (zFe [1,1,1,1] O uB (ih s (qA hs) _ _ _ (u++[s.Name]) (S++[s.Name]) (W++[(k:Int)]) (by first|omega|(simp;omega)) (by first|omega|(simp;omega)) uE) (vlr O) O) ?_
    rintro _ _ ⟨_,⟨svL1,svS1,svP1,U1,S1,W1,rfl,hok,hno,rfl⟩,rfl⟩
    refine mm O<|mo O O<|yL O<|Y<|zK O (fun c4=>?_) (fun c4=>?_)
    ·exact j8
    ·try simp only [sx] at c4
     rw [←hin] at c4 hok
     obtain ⟨hU1,hS1,hW1⟩:=hok c4
     have hS2:=hS1.symm
     subst hU1 hS2 hW1
     refine zI<|mo O O<|A O<|zW O (yC O O)<|zC O zMc<|zH one85 (J 1 O) O<|A O<|zV O O (zJo (k:=S.length) 3 O el85 O O O uD uD) ?_
     rintro _ _ ⟨sv5,rfl,rfl⟩
     refine zW O (yC O O)<|zC O zMc<|rStR 1 sz85 O<|Y<|zY _ (Weak.vecEq 3 O (rows':=S.map fun s=>[cS s]) uI)<|kK 12 0 [⟨0,.q []⟩,⟨1,.q []⟩,⟨2,.q []⟩,⟨3,.q []⟩,⟨4,.q [1]⟩,⟨5,.q []⟩,⟨6,.q []⟩,⟨7,.q []⟩,⟨8,.q [1]⟩,⟨9,.q [4]⟩,⟨10,.q []⟩,⟨11,.e 4 []⟩] mixed uB uB O O O<|zX O<|zX O<|zX O<|zX O<|zX O<|zX O<|zX O<|zX O<|zX O<|zX O<|zX O<|zX O<|zBj<|mq O (zO O O)<|mq O (zO O O)<|mq O (yC O O)<|mq O (zE O zJz O)<|mq O (zD O zBz O (J 0 O) O)<|mq O (zO O O)<|mq O (yC O O)<|mq O (zE O zJz O)<|mq O (zD O zBz O (J 0 O) O)<|mq O (kM 0 O el38 O O)<|mq O (yB O O O (by simp only [lLm,lLa,lLc,lLn];exact ⟨zA,zA⟩))<|zKm O O zB O O (zJo (k:=W.length) 0 O el38 O O O uF uD) ?_
     rintro _ _ ⟨sv6,rfl,rfl⟩
     exact n7
   ·rw [zVb c3,zVb c3] at hin
    refine zI<|zG<|zG<|zY ⟨_,E.row _ _ _::ckN b _ _ _ n u S (W++[(k:Int)])⟩ (Weak.mem [true,true,true,true,true] O)<|zT O<|A O<|zC O kV<|zH kX (J 0 O) O<|zV O O (zFe [1,1,1,1] O uB (ih s (qA hs) _ _ _ u S (W++[(k:Int)]) (by first|omega|(simp;omega)) (by first|omega|(simp;omega)) uE) (vlr O) O) ?_
    rintro _ _ ⟨_,⟨svL1,svS1,svP1,U1,S1,W1,rfl,hok,hno,rfl⟩,rfl⟩
    refine mm O<|mo O O<|yL O<|Y<|zK O (fun c4=>?_) (fun c4=>?_)
    ·exact j8
    ·try simp only [sx] at c4
     rw [←hin] at c4 hok
     obtain ⟨hU1,hS1,hW1⟩:=hok c4
     have hS2:=hS1.symm
     subst hU1 hS2 hW1
     refine zI<|mo O O<|A O<|zW O (yC O O)<|zC O zMc<|zH one85 (J 1 O) O<|A O<|zV O O (zJo (k:=S.length) 3 O el85 O O O uD uD) ?_
     rintro _ _ ⟨sv7,rfl,rfl⟩
     refine zW O (yC O O)<|zC O zMc<|rStR 1 sz85 O<|Y<|zY _ (Weak.vecEq 3 O (rows':=S.map fun s=>[cS s]) uI)<|kK 12 0 [⟨0,.q []⟩,⟨1,.q []⟩,⟨2,.q []⟩,⟨3,.q []⟩,⟨4,.q [1]⟩,⟨5,.q []⟩,⟨6,.q []⟩,⟨7,.q []⟩,⟨8,.q [1]⟩,⟨9,.q [4]⟩,⟨10,.q []⟩,⟨11,.e 4 []⟩] mixed uB uB O O O<|zX O<|zX O<|zX O<|zX O<|zX O<|zX O<|zX O<|zX O<|zX O<|zX O<|zX O<|zX O<|zBj<|mq O (zO O O)<|mq O (zO O O)<|mq O (yC O O)<|mq O (zE O zJz O)<|mq O (zD O zBz O (J 0 O) O)<|mq O (zO O O)<|mq O (yC O O)<|mq O (zE O zJz O)<|mq O (zD O zBz O (J 0 O) O)<|mq O (kM 0 O el38 O O)<|mq O (yB O O O (by simp only [lLm,lLa,lLc,lLn];exact ⟨zA,zA⟩))<|zKm O O zB O O (zJo (k:=W.length) 0 O el38 O O O uF uD) ?_
     rintro _ _ ⟨sv8,rfl,rfl⟩
     exact n7
 ·refine qO<|ml O O<|zF<|zS O ?_
  refine ⟨_,_,_,_,_,_,?_,fun _=>⟨?_,O,O⟩,fun h0=>?_,O⟩
  · rw [zVp hp zA]
  · rw [zVp hp zA]
  · rw [zVp hp zA] at h0;exact absurd rfl h0
def zRf (b:Nat) (n:Ns) (hn:n.Ok) (s:St) (hl:bD s.Body<=536870912):∀(svL svS svP:Value) (U S:List lr) (W:List Int),U.length+dJ s.Body<=1000000->S.length+dJ s.Body<=1000000->W.length+dJ s.Body<=1000000->Con cfg 72 [vP b,dA s.Body] (ckN b svL svS svP n U S W) fun r μ'=>∃svL' svS' svP' U' S' W',r=vI (dH n.Bufs U S W 0 s.Body).E/\((dH n.Bufs U S W 0 s.Body).E=0->U'=(dH n.Bufs U S W 0 s.Body).U/\S'=S/\W'=W)/\(¬(dH n.Bufs U S W 0 s.Body).E=0->W'=(dH n.Bufs U S W 0 s.Body).W)/\μ'=ckN b svL' svS' svP' n U' S' W':=by
  induction s using St.ind with
  |_ s ih=>
    intro svL svS svP U S W hU hS hW
    refine zHq b svL svS svP n U S W s.Body hn hU hS hW hl fun a ha=>ih a ha ?_
    have:=yS ha;have:=St.body_wt a;omega
def ck_statements (b:Nat) (svL svS svP:Value) (n:Ns) (U S:List lr) (W:List Int) (l:List St) (hn:n.Ok) (hU:U.length+dJ l<=1000000) (hS:S.length+dJ l<=1000000) (hW:W.length+dJ l<=1000000) (hl:bD l<=536870912):Con cfg 72 [vP b,dA l] (ckN b svL svS svP n U S W) fun r μ'=>∃svL' svS' svP' U' S' W',r=vI (dH n.Bufs U S W 0 l).E/\((dH n.Bufs U S W 0 l).E=0->U'=(dH n.Bufs U S W 0 l).U/\S'=S/\W'=W)/\(¬(dH n.Bufs U S W 0 l).E=0->W'=(dH n.Bufs U S W 0 l).W)/\μ'=ckN b svL' svS' svP' n U' S' W':=
  zHq b svL svS svP n U S W l hn hU hS hW hl fun s hs=>zRf b n hn s (by have:=yS hs;have:=St.body_wt s;omega)
def zEm (n:Ns) (hn:n.Ok):
    Pur cfg 33 [vNs n] (.tup [vIs (bL n).1,vI (bL n).2]):=by
 refine zR func33 O ntmps33 results33 O ?_
 intro z hz
 have hnb:=hn.body
 refine G O<|mj O fun b1=>yJ 1 O<|mm O<|zG<|G O<|zC O zAq<|zH kX (J 0 O) O<|qD O uB (zXu 40 n.Body 40 zA zA O) (vlr O)<|kO O<|Y<|zK O ?_ ?_<;>intro c1<;>try simp only [sx] at c1
 ·refine G O<|yJ 1 O<|mm O<|zF<|fin2 (rs_c O) (rs_c O) ?_
  rw [zWb c1];rfl
 ·refine zI<|zG<|G O<|zC O zAq<|zH kX (J 0 O) O<|qD O uB (zQf n.Body 2000 2000 zA zA O) (vlr O)<|zW O (yD O O O)<|A O<|rL0 O (fun g3_4=>zE O zAm O) O<|rL1 16 O (fun g3_4=>zD O zDx O (J 0 O) O) O<|rL1 17 O (fun g3_4=>yK O el22 O) O<|rL1 18 O (fun g3_4=>yD O O O) O<|r_or O (fun h=>(lzf h))<|Y<|zK O ?_ ?_<;>intro c2<;>try simp only [sx] at c2
  ·refine G O<|yJ 1 O<|mm O<|zF<|fin2 (rs_c O) (rs_c O) ?_
   rw [validN_2 c1 zA];rfl
  ·have hnum:=numB_ok (l:=n.Body) (m:=2000) zA
   refine zI<|zG<|G O<|zC O zAm<|zH zDx (J 0 O) O<|qD O uB (zLs n.Bufs hn.bufs hn.dims) (vlr O)<|mm O<|mo O O<|yL O<|Y<|zK O ?_ ?_<;>intro c3<;>try simp only [sx] at c3
   ·refine mo O O<|yJ 1 O<|mm O<|zF<|fin2 (rs_c O) (rs_c O) ?_
    rw [validN_b c1 zA c3];rfl
   ·refine zI<|G O<|zM kE (J 0 O) O<|qU O zr137 pl137<|mj O fun b2=>yU _ (wE 9 1)<|yU _ (wE 9 1)<|yU _ (wE 3 1)<|mm O<|zG<|mo O O<|zC O zAq<|zH kX (J 4 O) O<|zV O O (zFe [3,2,1,0] O uB (ck_statements b2 _ _ _ n [] [] [] n.Body hn uE uE uE hnb) (vlr O) O) ?_
    rintro _ _ ⟨_,⟨svL1,svS1,svP1,U1,S1,W1,rfl,hok,hno,rfl⟩,rfl⟩
    refine mm O<|mo O O<|yL O<|Y<|zK O ?_ ?_<;>intro c4<;>try simp only [sx] at c4
    ·have hW1:=hno c4
     subst hW1
     refine zY _ (yV 0 O (regs':=[]) (μ':=[_,_,_,_]) T ⟨EFle.refl _,EFle.refl _,EFle.row (ds:=[_,_,_,_,_]) ⟨.inl O,.inl O,.inl O,.inl O,.inr ⟨O,O⟩,T⟩,EFle.refl _,T⟩)<|mo O O<|zW O (yC O O)<|zC O zJz<|zH zBz (J 2 O) O<|A O<|A O<|mm O<|zF<|fin2 (rs_c O) (rs_c O) ?_
     rw [zUp c1 zA c3]
    ·refine zI<|G O<|yJ 1 O<|mm O<|zF<|fin2 (rs_c O) (rs_c O) ?_
     rw [zUp c1 zA c3,chkL_ok c4,c4];rfl
end Go.W
end
section
set_option maxRecDepth 10000
namespace Go.W
open Go Go.Eng Go.Proofs Go.L41 Go.Br Tryz
attribute [local irreducible] AWP RWP TD fK
abbrev lN (l:List Bd):V:=.c (.sl 2 (l.map Bd.cells))
abbrev ckC (x:Ck):V:=.agg [.sl 1 (x.U.map fun s=>[cS s]),.sl 1 (x.W.map fun i=>[cI i]),cI x.E]
def bd_get {l:List Bd} {k:Nat} {x:Bd} (h:l[k]? =some x):(l.map Bd.cells)[k]? =some [cS x.Name,cI x.Val]:=by rw [getm h];rfl
def agg87:nE prog 87=some 3:=by kernel_rfl
def zYw:fB prog 144=some (147,2,24):=by kernel_rfl
def fd87_0:bO prog 87 0=some (0,85):=by kernel_rfl
def fd87_1:bO prog 87 1=some (1,38):=by kernel_rfl
def fd87_2:bO prog 87 2=some (2,29):=by kernel_rfl
def fd147_0:bO prog 147 0=some (0,9):=by kernel_rfl
def pl87:fW prog 87=some [(0,1),(1,1),(2,1)]:=by kernel_rfl
def pl147:fW prog 147=some [(0,1),(1,1)]:=by kernel_rfl
def sz87:(prog.info? 87).map (·.size)=some 3:=by kernel_rfl
def zr87:fL prog 87=some [(Value.slice none 0 0),(Value.slice none 0 0),(Value.int IntKind.i64 0)]:=by kernel_rfl
def zr147:fL prog 147=some [(Value.string (ByteArray.mk #[])),(Value.int IntKind.i64 0)]:=by kernel_rfl
def zWy (l:List Lf) (bd:List Bd) (hl:l.length<=4294967296) (hx:∀x,x∈l->x.L.length<=4294967296) (hb:bd.length<=4294967296):
    Pur cfg 162 [sM l,lN bd] (vB (l.all (gS (bd.map Bd.Name)))):=by
 refine zR func162 O ntmps162 results162 O ?_
 intro z hz
 have hl0:=hx
 clear hx
 refine ml O O<|zG<|ml O O<|zQ<|zY ⟨[(5,.c _),(0,.c _),(1,.c _)],[]⟩ (Weak.mk [] ⟨zJ,zJ,zJ,T⟩ O)<|qL 1 0 O O (Nat) (fun k=>[(5,vI k)]) (fun k=>[]) (fun k=>k<=l.length/\((l.take k).all (gS (bd.map Bd.Name))=true)) (fun k=>l.length-k) ⟨0,⟨zA,O⟩,Weak.mk [] ⟨zJ,zJ,zJ,T⟩ O⟩ ?_
 rintro k ⟨hk,hp⟩
 refine zG<|mo O O<|A O<|qB O el90<|yI O<|Y<|zK O ?_ ?_<;>intro c1<;>try simp only [sx] at c1
 ·obtain ⟨x,hx⟩:=qZ l k zA
  have hxl:=hl0 x (qA hx)
  refine zI<|zG<|zQ<|ml O O<|zQ<|zY ⟨[(6,.c _),(0,.c _),(1,.c _),(5,.c _)],[]⟩ (Weak.mk [] ⟨zJ,zJ,zJ,zJ,T⟩ O)<|qL 1 0 O O (Nat) (fun j=>[(6,vI j)]) (fun j=>[]) (fun j=>j<=x.L.length/\(x.L.take j).all (fun m=>bP (bd.map Bd.Name) m.Name)=true) (fun j=>x.L.length-j) ⟨0,⟨zA,O⟩,Weak.mk [] ⟨zJ,zJ,zJ,zJ,T⟩ O⟩ ?_
  rintro j ⟨hj,hq⟩
  refine zG<|mo O O<|A O<|A O<|qC O el90 zA (getm hx)<|qR O wM<|zH zBs zZ O<|qB O N<|yI O<|Y<|zK O ?_ ?_<;>intro c2<;>try simp only [sx] at c2
  ·obtain ⟨m,hm⟩:=qZ x.L j zA
   refine zI<|zG<|zQ<|ml O O<|zG<|ml O O<|zQ<|zY ⟨[(8,.c _),(7,.c _),(0,.c _),(1,.c _),(5,.c _),(6,.c _)],[]⟩ (Weak.mk [] ⟨zJ,zJ,zJ,zJ,zJ,zJ,T⟩ O)<|qL 2 0 O O (Nat) (fun i=>[(8,vI i),(7,vB ((bd.take i).any fun d=>decide (d.Name=m.Name)))]) (fun i=>[]) (fun i=>i<=bd.length) (fun i=>bd.length-i) ⟨0,zA,Weak.mk [] ⟨zJ,VLe.of_eq (O),zJ,zJ,zJ,zJ,T⟩ O⟩ ?_
   rintro i hi
   refine zG<|mo O O<|A O<|qB O zYw<|yI O<|Y<|zK O ?_ ?_<;>intro c3<;>try simp only [sx] at c3
   ·obtain ⟨d,hd⟩:=qZ bd i zA
    refine zI<|zG<|zQ<|qV 19 mixed uB O O<|mr O (zO O O)<|mr O (zO O O)<|qM [] O O O O gv1 T (fun g11_1=>zO O O) O<|qM [] O O O O gv1 T (fun g11_1=>zO O O) O<|qM [(33,_),(34,_)] O O O O gv1 ⟨O,O,O,O,T⟩ (fun g11_1=>qE O zYw O O zA (bd_get hd)) O<|qM [(35,_)] O O O O gv1 ⟨O,O,T⟩ (fun g11_1=>qN O fd147_0 O) O<|qM [(36,_)] O O O O gv1 ⟨O,O,T⟩ (fun g11_1=>zD O one9 O zZ O) O<|qM [] O O O O gv1 T (fun g11_1=>zO O O) O<|qM [] O O O O gv1 T (fun g11_1=>zO O O) O<|qM [(38,_),(39,_)] O O O O gv1 ⟨O,O,O,O,T⟩ (fun g11_1=>qE O el90 O O zA (getm hx)) O<|qM [(40,_)] O O O O gv1 ⟨O,O,T⟩ (fun g11_1=>qN O wM O) O<|qM [(41,_)] O O O O gv1 ⟨O,O,T⟩ (fun g11_1=>zD O zBs O zZ O) O<|qM [] O O O O gv1 T (fun g11_1=>zO O O) O<|qM [(42,_),(43,_)] O O O O gv1 ⟨O,O,O,O,T⟩ (fun g11_1=>qE O N O O zA (getm hm)) O<|qM [(44,_)] O O O O gv1 ⟨O,O,T⟩ (fun g11_1=>qN O zAd O) O<|qM [(45,_)] O O O O gv1 ⟨O,O,T⟩ (fun g11_1=>zD O one9 O zZ O) O<|qM [(37,_),(46,_)] O O O O gv1 ⟨O,O,O,O,T⟩ (fun g11_1=>zNi O O O) O<|mr O (zAr O O O O (fun h=>(lzf h)))<|mr O (qY O O)<|yQ<|Y<|zT O<|A O<|qI O ⟨zA,zA⟩<|A O<|Y ?_
    refine ⟨i+1,zA,zA,Weak.mk [] ⟨zJ,VLe.of_eq (ag vB (any_step hd)),zJ,zJ,zJ,zJ,T⟩ O⟩
   ·rw [yW (l:=bd) (k:=i) zA,any_hasB]
    refine qO<|mo O O<|kO O<|Y<|zK O ?_ ?_<;>intro c4<;>try simp only [sx] at c4
    ·have hno:=bound_no hx hm c4
     refine ml O O<|zF<|zS O ?_
     rw [hno]
    ·refine zI<|zT O<|A O<|qI O ⟨zA,zA⟩<|A O<|Y ?_
     refine ⟨j+1,⟨zA,zFo hm hq c4⟩,zA,Weak.mk [] ⟨zJ,zJ,zJ,zJ,T⟩ O⟩
  ·rw [yW (l:=x.L) (k:=j) zA] at hq
   refine qO<|zT O<|A O<|qI O ⟨zA,zA⟩<|A O<|Y ?_
   refine ⟨k+1,⟨zA,zFo hx hp (show gS _ x=true from hq)⟩,zA,Weak.mk [] ⟨zJ,zJ,zJ,T⟩ O⟩
 ·refine qO<|ml O O<|zF<|zS O ?_
  rw [yW zA] at hp;rw [hp]
def ref30_lins (l:List Ix) (hl:l.length<=4294967296) (hw:dO l<=4294967296):
    OwnR cfg 163 [jF l] 51 2 ((l.flatMap ixF).map Lf.cells):=by
 refine zR func163 O ntmps163 results163 O fun z hz=>ml O O<|mo O O<|yU _ (wE 51 2)<|Y<|zG<|ml O O<|zQ<|zY ⟨[(4,.c _),(3,.c _),(0,.c _)],[_]⟩ (Weak.mk [true] ⟨zJ,zJ,zJ,T⟩ O)<|qL 2 1 O O (Nat×Value) (fun ⟨k,sv⟩=>[(4,vI k),(3,.c (.lit sv))]) (fun ⟨k,sv⟩=>[E.vec sv 51 2 (((l.take k).flatMap ixF).map Lf.cells)]) (fun ⟨k,sv⟩=>k<=l.length) (fun ⟨k,sv⟩=>l.length-k) ⟨⟨0,(.slice none 0 0)⟩,zA,Weak.mk [true] ⟨zJ,zJ,zJ,T⟩ O⟩ ?_
 rintro ⟨k,sv⟩ hk
 show AWP _ _ _ _ _ ⟨[(4,vI k),(3,.c (.lit sv))]++_,[E.vec sv 51 2 (((l.take k).flatMap ixF).map Lf.cells)]++_⟩
 refine zG<|mo O O<|A O<|qB O v<|yI O<|Y<|zK O ?_ ?_<;>intro c1<;>try simp only [sx] at c1
 ·obtain ⟨x,hx⟩:=qZ l k zA
  have hfl:=ixs_len l k
  have hxw:=zBu (qA hx)
  unfold Ix.wt at hxw
  refine zI<|zG<|zQ<|mo O O<|A O<|A O<|qC O v zA (getm uA)<|qR O zFw<|zM kQ zZ O<|zW O (yA O el90 zr51 O O O O)<|zV O O (yO 0 O el90 O O O uF uF) ?_
  rintro _ _ ⟨sv2,rfl,rfl⟩
  refine mm O<|zT O<|A O<|A O<|A O<|qC O v zA (getm uA)<|qR O zBa<|zH zFf zZ O<|zV O O (yO 0 O el90 O O O uF uF) ?_
  rintro _ _ ⟨sv3,rfl,rfl⟩
  refine mm O<|zT O<|A O<|qI O ⟨zA,zA⟩<|A O<|Y ?_
  refine ⟨⟨k+1,sv3⟩,zA,(by show l.length-(k+1)<l.length-k;omega),Weak.mk [true] ⟨zJ,zJ,zJ,T⟩ (by exact zGv (by rw [yR hx,ef,aC];simp [ixF];rfl))⟩
 ·refine qO<|mo O O<|mm O<|zF<|zS O ?_
  exact ⟨_,O,by rw [yW zA];rfl⟩
def ref30_node (n:Ns) (bd:List Bd) (e:Ex) (hn:n.Ok) (hb:bd.length<=1000000) (he:e.wt<=1073741824):
    Pur cfg 141 [vNs n,lN bd,vE e] (vI (jQ n.Bufs (bd.map Bd.Name) e)):=by
 refine zR func141 O ntmps141 results141 O ?_
 intro z hz
 obtain ⟨hL,hI,hA⟩:=e.parts he
 have hwt:=Ex.wt_eq e
 refine G O<|mj O fun b1=>mj O fun b2=>mm O<|zG<|G O<|zC O zEk<|zM kQ (J 0 O) O<|zW O (yA O el90 zr51 O O O O)<|A O<|qD O uB (zWy [e.Lin] bd uD uE zA) (vlr O)<|kO O<|A O<|rL0 O (fun g1_6=>zE O wK O) O<|rL1 19 O (fun g1_6=>zD O wT O (J 0 O) O) O<|rL1 20 O (fun g1_6=>qG O uB (OwnR.pur (ref30_lins e.Idx zA zA)) (vlr O)) O<|rL0 O (fun g1_6=>zO O O) O<|rLz [(21,_),(22,_)] O gv1 ⟨O,O,O,O,T⟩ (fun g1_6=>qG O uB (zWy (e.Idx.flatMap ixF) bd (by have:=ixs_len e.Idx e.Idx.length;rw [ll] at this;omega) (fun x hx=>by have:=forms_wt he (show x∈dC e by unfold dC;exact au _ hx);omega) zA) (vlr O)) O<|rL1 23 O (fun g1_6=>kG O O) O<|r_or O (fun h=>(lzf h))<|Y<|zK O (fun c1=>?_) (fun c1=>?_)
 ·have h9:=node_sc_f c1
  refine ml O O<|zF<|zS O ?_
  rw [nodeN_9 h9]
 ·have h9:=node_sc_t c1
  refine zI<|zG<|G O<|zC O kP<|zH one3 (J 0 O) O<|yL O<|Y<|zK O ?_ ?_<;>intro c2<;>try simp only [sx] at c2
  ·refine ml O O<|zF<|zS O ?_
   rw [nodeN_o h9 c2]
  ·refine zI<|G O<|zM kE (J 1 O) O<|zC O zGz<|zH one9 (J 0 O) O<|qD O uB (zDq n e.Name hn) (vlr O)<|qP O<|yG O<|qS O<|zV O O (qH lw O zr94 O) ?_
   rintro _ _ ⟨b3,rfl,rfl⟩
   refine rStR 0 sz94 O<|mm O<|zG<|mo O O<|kO O<|Y<|zK O ?_ ?_<;>intro c3<;>try simp only [sx] at c3
   ·refine ml O O<|zF<|zS O ?_
    rw [nodeN_n h9 zA c3]
   ·refine zI<|zG<|G O<|zC O zGx<|zH zBz (J 0 O) O<|qB O el38<|zC O wK<|zH wT (J 1 O) O<|qB O v<|yL O<|Y<|zK O ?_ ?_<;>intro c4<;>try simp only [sx] at c4
    ·refine ml O O<|zF<|zS O ?_
     rw [nodeN_r h9 zA c3 zA]
    ·refine zI<|zG<|ml O O<|zQ<|zY ⟨[(9,.c _),(3,.c _),(5,.c _)],[_,_]⟩ (Weak.mk [false,true,true] ⟨zJ,zJ,zJ,T⟩ O)<|qL 1 0 O O (Nat) (fun j=>[(9,vI j)]) (fun j=>[]) (fun j=>j<=e.Idx.length/\(pH n.Bufs e.Idx=pH n.Bufs (e.Idx.drop j))) (fun j=>e.Idx.length-j) ⟨0,⟨zA,O⟩,Weak.mk [true,true] ⟨zJ,zJ,zJ,T⟩ O⟩ ?_
     rintro j ⟨hk,hq⟩
     refine zG<|mo O O<|zC O wK<|zH wT (J 0 O) O<|qB O v<|yI O<|Y<|zK O ?_ ?_<;>intro c5<;>try simp only [sx] at c5
     ·obtain ⟨y,hy⟩:=qZ e.Idx j zA
      refine zI<|zG<|zQ<|zG<|G O<|zC O wK<|zH wT (J 0 O) O<|A O<|qC O v zA (getm uA)<|qR O zFi<|zH one9 zZ O<|wP O<|Y<|zK O ?_ ?_<;>intro c6<;>try simp only [sx] at c6
      ·refine qO<|zT O<|A O<|qI O ⟨zA,zA⟩<|A O<|Y ?_
       refine ⟨j+1,⟨zA,hq.trans (zNf hy (by first|exact gathE_0 c6|exact zVe c6 c7 zA zA))⟩,zA,Weak.mk [true,true] ⟨zJ,zJ,zJ,T⟩ O⟩
      ·refine zI<|zG<|kK 13 1 [⟨0,.q [2]⟩,⟨1,.q []⟩,⟨2,.q [1]⟩,⟨3,.q []⟩,⟨4,.q []⟩,⟨5,.q []⟩,⟨6,.q []⟩,⟨7,.q []⟩,⟨8,.q []⟩,⟨9,.q []⟩,⟨10,.q []⟩,⟨11,.e 0 []⟩,⟨12,.e 0 []⟩] mixed uB uB O O O<|zX O<|zX O<|zX O<|zX O<|zX O<|zX O<|zX O<|zX O<|zX O<|zX O<|zX O<|zX O<|zX O<|zBj<|mq O (zU O kE O (J 0 O) O)<|mq O (zE O wK O)<|mq O (zD O wT O (J 0 O) O)<|mq O (zO O O)<|mq O (qE O v O O zA (getm uA))<|mq O (qN O zFi O)<|mq O (zD O one9 O zZ O)<|mq O (qG O uB (zDq n y.From hn) (vlr O))<|mq O (kJ O O)<|mq O (wG O O O)<|mq O (wF O O O)<|zKm O O zB O O (qH lw O zr94 O) ?_
       rintro _ _ ⟨b4,rfl,rfl⟩
       refine ⟨_,O,?_⟩
       refine zGl O O zB O O (yM O sz94 O O O (zFu 0 O O)) ?_
       rintro _ _ ⟨rfl,rfl⟩
       refine ⟨_,O,?_⟩
       refine zBe O<|mm O<|zQ<|mo O O<|kO O<|mm O<|zK O ?_ ?_<;>intro c7<;>try simp only [sx] at c7
       ·refine ml O O<|zF<|zS O ?_
        rw [zLp h9 zA c3 zA,hq,zNe hy (by rw [gathE_9 c6 c7];decide),gathE_9 c6 c7]
       ·refine G O<|zC O zGy<|zC O zEc<|zH one3 (J 0 O) O<|yL O<|mm O<|zK O ?_ ?_<;>intro c8<;>try simp only [sx] at c8
        ·refine ml O O<|zF<|zS O ?_
         rw [zLp h9 zA c3 zA,hq,zNe hy (by rw [zVg c6 c7 c8];decide),zVg c6 c7 c8]
        ·refine zG<|qV 12 mixed uB O O<|mr O (zE O zGx O)<|mr O (zD O zBz O (J 0 O) O)<|mr O (yK O el38 O)<|mr O (zE O wK O)<|mr O (zD O wT O (J 1 O) O)<|mr O (zO O O)<|mr O (qE O v O O zA (getm uA))<|mr O (qN O zBa O)<|mr O (zD O zFf O zZ O)<|mr O (yK O el90 O)<|mr O (kB O O O)<|mr O (qY O O)<|yQ<|Y<|zK O ?_ ?_<;>intro c9<;>try simp only [sx] at c9
         ·refine ml O O<|zF<|zS O ?_
          rw [zLp h9 zA c3 zA,hq,zNe hy (by rw [zVf c6 c7 c8 zA];decide),zVf c6 c7 c8 zA]
         ·refine zI<|zT O<|A O<|qI O ⟨zA,zA⟩<|A O<|Y ?_
          refine ⟨j+1,⟨zA,hq.trans (zNf hy (by first|exact gathE_0 c6|exact zVe c6 c7 zA zA))⟩,zA,Weak.mk [false,true,true] ⟨zJ,zJ,zJ,T⟩ O⟩
     ·refine qO<|ml O O<|zF<|zS O ?_
      rw [zLp h9 zA c3 zA,hq,kL zA];rfl
def zXa (n:Ns) (hn:n.Ok) (e:Ex) (ih:∀a,a∈e.Args->dN a=0->a.wt<=1073741824->Pur cfg 142 [vNs n,vE a] (.tup [vTy (fH (kiN n.Bufs) a).1,vI (fH (kiN n.Bufs) a).2])) (hpart:dN e=0) (he:e.wt<=1073741824):
    Pur cfg 142 [vNs n,vE e] (.tup [vTy (fH (kiN n.Bufs) e).1,vI (fH (kiN n.Bufs) e).2]):=by
 refine zR func142 O ntmps142 results142 O ?_
 intro z hz
 obtain ⟨hLl,hIl,hAl⟩:=e.parts he
 have hwt:=Ex.wt_eq e
 refine G O<|mj O fun b1=>mj O fun b2=>zV O O (qW O zr48) ?_
 rintro _ _ ⟨b3,rfl,rfl⟩
 refine mm O<|mo O O<|yU _ (wE 48 5)<|Y<|zG<|ml O O<|zQ<|zY ⟨[(7,.c _),(6,.c _),(2,.c _),(3,.c _),(4,.c _)],[_,_,_,_]⟩ (Weak.mk [true,true,true,true] ⟨zJ,zJ,zJ,zJ,zJ,T⟩ O)<|qL 2 1 O O (Nat×Value) (fun ⟨k,sv⟩=>[(7,vI k),(6,.c (.lit sv))]) (fun ⟨k,sv⟩=>[E.vec sv 48 5 ((jO (e.Args.take k) (bW (kiN n.Bufs) (e.Args.take k)).1).map tyC)]) (fun ⟨k,sv⟩=>k<=e.Args.length/\((bW (kiN n.Bufs) (e.Args.take k)).2=0)) (fun ⟨k,sv⟩=>e.Args.length-k) ⟨⟨0,(.slice none 0 0)⟩,⟨zA,O⟩,Weak.mk [true,true,true,true] ⟨zJ,zJ,zJ,zJ,zJ,T⟩ O⟩ ?_
 rintro ⟨k,sv⟩ ⟨hk,hp⟩
 show AWP _ _ _ _ _ ⟨[(7,vI k),(6,.c (.lit sv))]++_,[E.vec sv 48 5 ((jO (e.Args.take k) (bW (kiN n.Bufs) (e.Args.take k)).1).map tyC)]++_⟩
 refine zG<|mo O O<|zC O wD<|zH zAs (J 2 O) O<|qB O el52<|yI O<|Y<|zK O ?_ ?_<;>intro c1<;>try simp only [sx] at c1
 ·obtain ⟨x,hx⟩:=qZ e.Args k zA
  have hll:=zIl _ _ hp
  have hcl:=nonC_len (e.Args.take k) (bW (kiN n.Bufs) (e.Args.take k)).1
  have htk:=List.length_take_le' k e.Args
  refine zI<|zG<|zQ<|zG<|kK 12 1 [⟨0,.q [4]⟩,⟨1,.q []⟩,⟨2,.q [3]⟩,⟨3,.q []⟩,⟨4,.q []⟩,⟨5,.q []⟩,⟨6,.q []⟩,⟨7,.q []⟩,⟨8,.q []⟩,⟨9,.q []⟩,⟨10,.e 0 []⟩,⟨11,.e 0 []⟩] mixed uB uB O O O<|zX O<|zX O<|zX O<|zX O<|zX O<|zX O<|zX O<|zX O<|zX O<|zX O<|zX O<|zX O<|zBj<|mq O (zU O kE O (J 0 O) O)<|mq O (zE O wD O)<|mq O (zD O zAs O (J 0 O) O)<|mq O (zO O O)<|mq O (qE O el52 O O zA (zCy uA))<|mq O (zU O yY O zZ O)<|mq O (qG O uB (ih x (qA hx) (zIj hpart (qA hx)) (by have:=Ex.arg_wt (qA hx);omega)) (vlr O))<|mq O (kJ O O)<|mq O (wG O O O)<|mq O (wF O O O)<|zKm O O zB O O (qW O zr48) ?_
  rintro _ _ ⟨b5,rfl,rfl⟩
  refine ⟨_,O,?_⟩
  refine zGl O O zB O O (yM O sz48 O O O (zFu 0 O O)) ?_
  rintro _ _ ⟨rfl,rfl⟩
  refine ⟨_,O,?_⟩
  refine zBe O<|mm O<|zG<|mo O O<|yL O<|Y<|zK O ?_ ?_<;>intro c2<;>try simp only [sx] at c2
  ·refine G O<|qU O zr48 pl48<|A O<|rStR 2 sz48 O<|mm O<|zF<|fin2 (zP yE O (J 2 O) O) (rs_c O) ?_
   rw [nodeT_no hx hp c2];rfl
  ·refine zI<|G O<|zC O wD<|zH zAs (J 3 O) O<|A O<|qC O el52 zA (zCy uA)<|zM yY zZ O<|qD O uB (kW x) (vlr O)<|kO O<|Y<|zK O ?_ ?_<;>intro c3<;>try simp only [sx] at c3
   ·refine zT O<|A O<|zM yE (J 0 O) O<|zW O (yA O zAn zr48 O O O O)<|zV O O (yO 1 O zAn O O O (by simp only [lLm,lLa,lLc,lLn,hll,aG];omega) (by simp only [lLm,lLa,lLc,lLn,hll,aG];omega)) ?_
    rintro _ _ ⟨sv6,rfl,rfl⟩
    refine mm O<|zT O<|A O<|qI O ⟨zA,zA⟩<|A O<|Y ?_
    exact j5
   ·refine zI<|zT O<|A O<|qI O ⟨zA,zA⟩<|A O<|Y ?_
    exact j5
 ·have hll:=zIl _ _ hp
  have hta:e.Args.take k=e.Args:=yW zA
  have hT:fH (kiN n.Bufs) e=kiF n.Bufs e (jO (e.Args.take k) (bW (kiN n.Bufs) (e.Args.take k)).1):=by have h:=nodeT_ok (N:=kiN n.Bufs) hta hp;rw [h];show kiF n.Bufs e (jO e.Args _)=_;rw [hta]
  refine qO<|zG<|zG<|qV 12 mixed uB O O<|mr O (zO O O)<|mr O (kM 0 O zAn O O)<|mr O (yN O O O)<|mr O (zO O O)<|qM [] O O O O gv1 T (fun g10_3=>zO O O) O<|qM [(48,_)] O O O O gv1 ⟨O,O,T⟩ (fun g10_3=>qT 0 O zAn O O O zA (by simp only [Lz,ay,ah,lLm] at g10_3⊢;omega)) O<|qM [(49,_)] O O O O gv1 ⟨O,O,T⟩ (fun g10_3=>zU O yE O (wX 0 O (zMn (by simp only [Lz,ay,ah,lLm] at g10_3⊢;omega))) O) O<|qM [] O O O O gv1 T (fun g10_3=>zO O O) O<|qM [(51,_)] O O O O gv1 ⟨O,O,T⟩ (fun g10_3=>qT 0 O zAn O O O zA (by simp only [Lz,ay,ah,lLm] at g10_3⊢;omega)) O<|qM [(52,_)] O O O O gv1 ⟨O,O,T⟩ (fun g10_3=>zU O yE O (wX 0 O (zMn (by simp only [Lz,ay,ah,lLm] at g10_3⊢;omega))) O) O<|qM [(50,_),(53,_)] O O O O gv1 ⟨O,O,O,O,T⟩ (fun g10_3=>zAb O fl48 O O O) O<|mr O (wA O O O (fun h=>h) O)<|yQ<|Y<|zK O (fun c4=>?_) (fun c4=>?_)
  ·obtain ⟨q1,q2⟩:=ki10_t c4
   exact j9
  ·have hq:=ki10_f c4
   refine zI<|zG<|G O<|zC O kP<|zH one3 (J 2 O) O<|Y<|zQ<|zG<|G O<|yF O<|mm O<|qK O (fun c5=>?_) (fun c5=>?_)
   ·refine zI<|zK O ?_ ?_<;>intro c6<;>try simp only [sx] at c6
    ·refine G O<|zC O zFk<|zM yE (J 2 O) O<|rStR 1 sz48 O<|mm O<|zF<|fin2 (zP yE O (J 1 O) O) (rs_c O) ?_
     exact v6
    ·refine G O<|yF O<|mm O<|qK O (fun c7=>?_) (fun c7=>?_)
     ·exact j9
     ·refine G O<|yF O<|mm O<|qK O (fun c8=>?_) (fun c8=>?_)
      ·refine G O<|zM kE (J 3 O) O<|zC O zGz<|zH one9 (J 2 O) O<|qD O uB (zDq n e.Name hn) (vlr O)<|qP O<|yG O<|qS O<|zV O O (qH lw O zr94 O) ?_
       rintro _ _ ⟨b7,rfl,rfl⟩
       refine rStR 0 sz94 O<|mm O<|G O<|zC O zGy<|zM yE (J 0 O) O<|rStR 2 sz48 O<|mm O<|zF<|fin2 (zP yE O (J 2 O) O) (rs_c O) ?_
       exact v6
      ·exact p8
   ·refine zT O<|yF O<|mm O<|qK O (fun c6=>?_) (fun c6=>?_)
    ·refine G O<|zC O zFk<|zM yE (J 2 O) O<|rStR 1 sz48 O<|mm O<|zF<|fin2 (zP yE O (J 1 O) O) (rs_c O) ?_
     exact v6
    ·refine G O<|yF O<|mm O<|qK O (fun c7=>?_) (fun c7=>?_)
     ·exact j9
     ·refine G O<|yF O<|mm O<|qK O (fun c8=>?_) (fun c8=>?_)
      ·refine G O<|zM kE (J 3 O) O<|zC O zGz<|zH one9 (J 2 O) O<|qD O uB (zDq n e.Name hn) (vlr O)<|qP O<|yG O<|qS O<|zV O O (qH lw O zr94 O) ?_
       rintro _ _ ⟨b8,rfl,rfl⟩
       refine rStR 0 sz94 O<|mm O<|G O<|zC O zGy<|zM yE (J 0 O) O<|rStR 2 sz48 O<|mm O<|zF<|fin2 (zP yE O (J 2 O) O) (rs_c O) ?_
       exact v6
      ·exact p8
def ref30_Kind (n:Ns) (e:Ex) (hn:n.Ok) (hpart:dN e=0) (he:e.wt<=1073741824):Pur cfg 142 [vNs n,vE e] (.tup [vTy (fH (kiN n.Bufs) e).1,vI (fH (kiN n.Bufs) e).2]):=by
  induction e using Ex.ind with
  |_ e ih=>exact zXa n hn e (fun a ha h1 h2=>ih a ha h1 h2) hpart he
def zJj (n:Ns) (bd:List Bd) (e:Ex) (hn:n.Ok) (hb:bd.length<=1000000) (he:e.wt<=1000000):
    Pur cfg 113 [vNs n,lN bd,vE e] (.tup [vTy (bT n.Bufs (bd.map Bd.Name) e).1,vI (bT n.Bufs (bd.map Bd.Name) e).2]):=by
 refine zR func113 O ntmps113 results113 O ?_
 intro z hz
 have hnl:=nodes_wt e
 refine G O<|mj O fun b1=>mj O fun b2=>zV O O (qW O zr48) ?_
 rintro _ _ ⟨b3,rfl,rfl⟩
 refine mm O<|zG<|G O<|zM yY (J 1 O) O<|qD O uB (ref14_Validate e zA) (vlr O)<|mm O<|mo O O<|yL O<|Y<|zK O ?_ ?_<;>intro c1<;>try simp only [sx] at c1
 ·refine G O<|qU O zr48 pl48<|A O<|rStR 0 sz48 O<|mm O<|zF<|fin2 (zP yE O (J 0 O) O) (rs_c O) ?_
  rw [zYv c1];rfl
 ·refine zI<|G O<|zM yY (J 1 O) O<|qD O uB (OwnR.pur (ref14_All e zA)) (vlr O)<|mm O<|zG<|ml O O<|zQ<|zY ⟨[(10,.c _),(1,.c _),(3,.c _),(5,.c _),(6,.c _),(9,.c _)],[_,_,_]⟩ (Weak.mk [true,true,true] ⟨zJ,zJ,zJ,zJ,zJ,zJ,T⟩ O)<|qL 1 0 O O (Nat) (fun k=>[(10,vI k)]) (fun k=>[]) (fun k=>k<=(dI e).length/\(dL n.Bufs (bd.map Bd.Name) (dI e)=dL n.Bufs (bd.map Bd.Name) ((dI e).drop k))) (fun k=>(dI e).length-k) ⟨0,⟨zA,O⟩,Weak.mk [true,true,true] ⟨zJ,zJ,zJ,zJ,zJ,zJ,T⟩ O⟩ ?_
  rintro k ⟨hk,hp⟩
  refine zG<|mo O O<|A O<|qB O el52<|yI O<|Y<|zK O ?_ ?_<;>intro c2<;>try simp only [sx] at c2
  ·obtain ⟨x,hx⟩:=qZ (dI e) k zA
   refine zI<|zG<|zQ<|zG<|qV 8 mixed uB O O<|mr O (zU O kE O (J 2 O) O)<|mr O (zO O O)<|mr O (zO O O)<|mr O (zO O O)<|mr O (qE O el52 O O zA (zCy uA))<|mr O (zU O yY O zZ O)<|mr O (qG O uB (ref30_node n bd x hn hb (by have:=zGq e x (qA hx);omega)) (vlr O))<|mr O (qY O O)<|yQ<|Y<|mo O O<|yL O<|Y<|zK O ?_ ?_<;>intro c3<;>try simp only [sx] at c3
   ·refine G O<|qU O zr48 pl48<|A O<|rStR 0 sz48 O<|mm O<|zF<|fin2 (zP yE O (J 0 O) O) (rs_c O) ?_
    rw [zYu c1 (by rw [hp,nodesN_no hx c3];exact c3),hp,nodesN_no hx c3];rfl
   ·refine zI<|zT O<|A O<|qI O ⟨zA,zA⟩<|A O<|Y ?_
    refine ⟨k+1,⟨zA,hp.trans (nodesN_at hx c3)⟩,zA,Weak.mk [true,true,true] ⟨zJ,zJ,zJ,zJ,zJ,zJ,T⟩ O⟩
  ·refine qO<|G O<|zM kE (J 2 O) O<|zM yY (J 1 O) O<|qD O uB (ref30_Kind n e hn (zDn c1) zA) (vlr O)<|yG O<|qS O<|rStR 0 sz48 O<|mm O<|zF<|fin2 (zP yE O (J 0 O) O) (rs_c O) ?_
   rw [exprT_k c1 (by rw [hp,kL zA];rfl)];rfl
def ref30_plain (s:St) (hs:s.wt<=900000000):
    Pur cfg 111 [vSt s] (vB (dW s)):=by
 refine zR func111 O ntmps111 results111 O ?_
 intro z hz
 obtain ⟨hE,hI,hIw,hB,hBw⟩:=St.parts hs
 refine G O<|mj O fun b1=>mm O<|zG<|qV 8 mixed uB O O<|mr O (zE O zAp O)<|mr O (zD O one3 O (J 0 O) O)<|mr O (yN O O O)<|mr O (zE O zAp O)<|mr O (zD O one3 O (J 0 O) O)<|mr O (yN O O O)<|mr O (qY O O)<|mr O (qY O O)<|yQ<|Y<|G O<|zC O zAp<|zH one3 (J 0 O) O<|yF O<|A O<|rL0 O (fun g2_3=>zE O zAp O) O<|rL1 16 O (fun g2_3=>zD O one3 O (J 0 O) O) O<|rL1 17 O (fun g2_3=>yN O O O) O<|r_or O (fun h=>(lzf h))<|mm O<|zG<|mo O O<|kO O<|A O<|rL0 O (fun g3_2=>zO O O) O<|rL1 23 O (fun g3_2=>kG O O) O<|yT O (fun h=>h)<|A O<|rL0 O (fun g3_6=>zO O O) O<|rL1 27 O (fun g3_6=>kG O O) O<|yT O (fun h=>h)<|Y<|zK O (fun c1=>?_) (fun c1=>?_)
 ·refine ml O O<|zF<|zS O ?_
  exact ag vB (pln_1 c1)
 ·refine zI<|zG<|mo O O<|kO O<|A O<|rL0 O (fun g5_2=>zE O zAt O) O<|rL1 33 O (fun g5_2=>zD O one3 O (J 0 O) O) O<|rL1 34 O (fun g5_2=>kB O O O) O<|rL1 35 O (fun g5_2=>zO O O) O<|rLz [] O gv2 T (fun g5_6=>zE O zKj O) O<|rLz [(37,_)] O gv2 ⟨O,O,T⟩ (fun g5_6=>zD O one3 O (J 0 O) O) O<|rLz [(38,_)] O gv2 ⟨O,O,T⟩ (fun g5_6=>kB O O O) O<|rL1 36 O (fun g5_2=>zAr O O O O (fun h=>kD uA (lzf h))) O<|yT O (fun h=>h)<|A O<|rL0 O (fun g5_12=>zE O zAp O) O<|rL1 43 O (fun g5_12=>zD O one3 O (J 0 O) O) O<|rL1 44 O (fun g5_12=>kB O O O) O<|rL1 45 O (fun g5_12=>zO O O) O<|rLz [] O gv2 T (fun g5_16=>zE O zQs O) O<|rLz [(47,_)] O gv2 ⟨O,O,T⟩ (fun g5_16=>zD O one3 O (J 0 O) O) O<|rLz [(48,_)] O gv2 ⟨O,O,T⟩ (fun g5_16=>kB O O O) O<|rL1 46 O (fun g5_12=>wA O O O (fun h=>kD uA h) O) O<|r_or O (fun h=>(lzf h))<|A O<|rL0 O (fun g5_22=>zO O O) O<|rL1 53 O (fun g5_22=>zO O O) O<|rLz [] O gv2 T (fun g5_24=>zE O zAl O) O<|rLz [(55,_)] O gv2 ⟨O,O,T⟩ (fun g5_24=>zD O one9 O (J 0 O) O) O<|rLz [(56,_)] O gv2 ⟨O,O,T⟩ (fun g5_24=>zBq O O O) O<|rL1 54 O (fun g5_22=>wA O O O (fun h=>kD uA h) O) O<|r_or O (fun h=>(lzf h))<|Y<|zK O (fun c2=>?_) (fun c2=>?_)
  ·refine ml O O<|zF<|zS O ?_
   exact ag vB (pln_2 c2)
  ·refine zI<|zG<|mo O O<|kO O<|A O<|rL0 O (fun g7_2=>zE O zFj O) O<|rL1 63 O (fun g7_2=>zD O wT O (J 0 O) O) O<|rL1 64 O (fun g7_2=>yK O v O) O<|rL1 65 O (fun g7_2=>yD O O O) O<|yT O (fun h=>h)<|A O<|rL0 O (fun g7_8=>zO O O) O<|rL1 69 O (fun g7_8=>zO O O) O<|rLz [] O gv2 T (fun g7_10=>zE O kV O) O<|rLz [(71,_)] O gv2 ⟨O,O,T⟩ (fun g7_10=>zD O kX O (J 0 O) O) O<|rLz [(72,_)] O gv2 ⟨O,O,T⟩ (fun g7_10=>yK O D O) O<|rLz [(73,_)] O gv2 ⟨O,O,T⟩ (fun g7_10=>yD O O O) O<|rL1 70 O (fun g7_8=>wA O O O (fun h=>kD uA h) O) O<|r_or O (fun h=>(lzf h))<|Y<|zK O (fun c3=>?_) (fun c3=>?_)
   ·refine ml O O<|zF<|zS O ?_
    exact ag vB (pln_3 c3)
   ·refine zI<|mo O O<|kO O<|A O<|rL0 O (fun g9_2=>zE O zBk O) O<|rL1 80 O (fun g9_2=>zU O yY O (J 0 O) O) O<|rL0 O (fun g9_2=>zGf lx O zr54 pl54 O O) O<|rLz [(81,_),(82,_)] O gv1 ⟨O,O,O,O,T⟩ (fun g9_2=>qG O uB (base_Expr s.E zEx zA) (vlr O)) O<|r_or O (fun h=>(lzf h))<|mm O<|zF<|zS O ?_
    exact ag vB (pln_4 c1 c2 c3)
def ref30_store (n:Ns) (bd:List Bd) (s:St) (hn:n.Ok) (hb:bd.length<=1000000) (hs:s.wt<=900000):
    Pur cfg 115 [vNs n,lN bd,vSt s] (vI (lO n.Bufs (bd.map Bd.Name) s)):=by
 refine zR func115 O ntmps115 results115 O ?_
 intro z hz
 obtain ⟨hE,hI,hIw,hB,hBw⟩:=St.parts hs
 have hrd:=rdE_wt s
 refine G O<|mj O fun b1=>mj O fun b2=>mm O<|zG<|G O<|zM kE (J 1 O) O<|A O<|zC O zAl<|zH one9 (J 0 O) O<|zC O zFj<|zH wT (J 0 O) O<|yH me O zr54 pl54<|qD O uB (zJj n bd (rdE s) hn hb zA) (vlr O)<|qP O<|yG O<|qS O<|zV O O (qW O zr48) ?_
 rintro _ _ ⟨b3,rfl,rfl⟩
 refine rStR 0 sz48 O<|mm O<|mo O O<|yL O<|Y<|zK O ?_ ?_<;>intro c1<;>try simp only [sx] at c1
 ·refine mo O O<|mm O<|zF<|zS O ?_
  rw [zMq c1]
 ·refine zI<|G O<|zM kE (J 2 O) O<|zC O zAl<|zH one9 (J 1 O) O<|qD O uB (zDq n s.Name hn) (vlr O)<|qP O<|yG O<|qS O<|zV O O (qH lw O zr94 O) ?_
  rintro _ _ ⟨b4,rfl,rfl⟩
  refine rStR 0 sz94 O<|mm O<|zG<|G O<|zC O zQr<|zH one3 (J 0 O) O<|yF O<|A O<|rL0 O (fun g5_3=>zE O zAp O) O<|rL1 38 O (fun g5_3=>zD O one3 O (J 2 O) O) O<|rL1 39 O (fun g5_3=>yN O O O) O<|rL1 40 O (fun g5_3=>zO O O) O<|rLz [] O gv2 T (fun g5_7=>zE O zQs O) O<|rLz [(42,_)] O gv2 ⟨O,O,T⟩ (fun g5_7=>zD O one3 O (J 2 O) O) O<|rLz [(43,_)] O gv2 ⟨O,O,T⟩ (fun g5_7=>zBb O O O) O<|rLz [(44,_)] O gv2 ⟨O,O,T⟩ (fun g5_7=>zO O O) O<|rLz [] O gv2 T (fun g5_11=>zE O zQs O) O<|rLz [(46,_)] O gv2 ⟨O,O,T⟩ (fun g5_11=>zD O one3 O (J 2 O) O) O<|rLz [(47,_)] O gv2 ⟨O,O,T⟩ (fun g5_11=>yD O O O) O<|rLz [(45,_)] O gv2 ⟨O,O,T⟩ (fun g5_7=>zAr O O O O (fun h=>kD uA (lzf h))) O<|rL1 41 O (fun g5_3=>wA O O O (fun h=>kD uA h) O) O<|r_or O (fun h=>(lzf h))<|Y<|zK O ?_ ?_<;>intro c2<;>try simp only [sx] at c2
  ·refine ml O O<|zF<|zS O ?_
   rw [zJd c1 c2]
  ·refine zI<|G O<|zM kE (J 3 O) O<|A O<|zC O zBk<|zM yY (J 2 O) O<|qD O uB (zJj n bd s.E hn hb zA) (vlr O)<|qP O<|yG O<|qS O<|zV O O (qW O zr48) ?_
   rintro _ _ ⟨b5,rfl,rfl⟩
   refine rStR 0 sz48 O<|mm O<|zG<|mo O O<|yF O<|A O<|rL0 O (fun g8_2=>zE O zBk O) O<|rL1 63 O (fun g8_2=>zU O yY O (J 3 O) O) O<|rL1 64 O (fun g8_2=>qG O uB (kW _) (vlr O)) O<|rL1 65 O (fun g8_2=>zO O O) O<|rLz [] O gv2 T (fun g8_6=>zU O yE O (J 0 O) O) O<|rLz [] O gv2 T (fun g8_6=>zE O zGy O) O<|rLz [(68,_)] O gv2 ⟨O,O,T⟩ (fun g8_6=>zU O yE O (J 1 O) O) O<|rLz [(67,_),(69,_)] O gv2 ⟨O,O,O,O,T⟩ (fun g8_6=>zAb O fl48 O O O) O<|rL1 66 O (fun g8_2=>zAr O O O O (fun h=>kD uA (lzf h))) O<|yT O (fun h=>h)<|Y<|zK O (fun c3=>?_) (fun c3=>?_)
   ·obtain ⟨h0,h10⟩:=st3_t c3
    refine ml O O<|zF<|zS O ?_
    rw [zWh c1 zA h0 h10]
   ·have h3:=st3_f c3
    refine zI<|mo O O<|mm O<|zF<|zS O ?_
    rw [st_fin c1 zA h3]
def ref30_one (n:Ns) (bd:List Bd) (U:List lr) (s:St) (hn:n.Ok) (hb:bd.length<=1000000) (hs:s.wt<=900000) (hU:U.length<=1000000):
    Pur cfg 79 [vNs n,lN bd,vSs U,vSt s] (vI (stE n.Bufs U (bd.map Bd.Name) s)):=by
 refine zR func79 O ntmps79 results79 O ?_
 intro z hz
 obtain ⟨hE,hI,hIw,hB,hBw⟩:=St.parts hs
 refine G O<|mj O fun b1=>mj O fun b2=>mm O<|zG<|G O<|zM zDv (J 0 O) O<|qD O uB (ref30_plain s zA) (vlr O)<|kO O<|Y<|zK O ?_ ?_<;>intro c1<;>try simp only [sx] at c1
 ·refine ml O O<|zF<|zS O ?_
  rw [stE_5 c1]
 ·refine zI<|zG<|G O<|zC O zAp<|zH one3 (J 0 O) O<|Y<|zQ<|G O<|yF O<|mm O<|qK O (fun c2=>?_) (fun c2=>?_)
  ·refine G O<|zM kE (J 1 O) O<|zC O zAl<|zH one9 (J 0 O) O<|qD O uB (zDq n s.Name hn) (vlr O)<|qP O<|yG O<|qS O<|zV O O (qH lw O zr94 O) ?_
   rintro _ _ ⟨b3,rfl,rfl⟩
   refine rStR 0 sz94 O<|mm O<|zG<|zQ<|G O<|zC O zAl<|zH one9 (J 1 O) O<|qD O uB (zIw s.Name) (vlr O)<|kO O<|mm O<|zK O ?_ ?_<;>intro c3<;>try simp only [sx] at c3
   ·refine ml O O<|zF<|zS O ?_
    rw [stE_l c1 c2,loopE_7 c3]
   ·refine mo O O<|A O<|rL0 O (fun g8_1=>zO O O) O<|rL0 O (fun g8_1=>zE O zAl O) O<|rL1 36 O (fun g8_1=>zD O one9 O (J 1 O) O) O<|rLz [(35,_),(37,_)] O gv1 ⟨O,O,O,O,T⟩ (fun g8_1=>qG O uB (base_Has U s.Name zA) (vlr O)) O<|r_or O (fun h=>(lzf h))<|mm O<|zK O ?_ ?_<;>intro c4<;>try simp only [sx] at c4
    ·refine ml O O<|zF<|zS O ?_
     rw [stE_l c1 c2,loopE_8 c3 c4]
    ·have h8:¬(dU n.Bufs s.Name=true∨bP U s.Name=true):=by rw [c4.1,c4.2];simp
     refine G O<|zC O zAt<|zH one3 (J 1 O) O<|yI O<|A O<|rL0 O (fun g10_3=>zE O zAt O) O<|rL1 45 O (fun g10_3=>zD O one3 O (J 1 O) O) O<|rL1 46 O (fun g10_3=>yD O O O) O<|r_or O (fun h=>(lzf h))<|A O<|rL0 O (fun g10_8=>zE O zKj O) O<|rL1 50 O (fun g10_8=>zD O one3 O (J 1 O) O) O<|rL1 51 O (fun g10_8=>zBb O O O) O<|r_or O (fun h=>(lzf h))<|A O<|rL0 O (fun g10_13=>zE O zKj O) O<|rL1 55 O (fun g10_13=>zD O one3 O (J 1 O) O) O<|rL1 56 O (fun g10_13=>yD O O O) O<|r_or O (fun h=>(lzf h))<|mm O<|zK O ?_ ?_<;>intro c5<;>try simp only [sx] at c5
     ·refine ml O O<|zF<|zS O ?_
      rw [stE_l c1 c2,loopE_1 c3 h8 zA]
     ·refine zI<|ml O O<|zF<|zS O ?_
      rw [stE_l c1 c2,loopE_0 c3 h8 zA]
  ·refine G O<|yF O<|mm O<|qK O (fun c6=>?_) (fun c6=>?_)
   ·refine G O<|zM kE (J 1 O) O<|A O<|zC O zBk<|zM yY (J 0 O) O<|qD O uB (zJj n bd s.E hn hb zA) (vlr O)<|qP O<|yG O<|qS O<|zV O O (qW O zr48) ?_
    rintro _ _ ⟨b4,rfl,rfl⟩
    refine rStR 0 sz48 O<|mm O<|zG<|mo O O<|yF O<|A O<|rL0 O (fun g15_2=>zE O zBk O) O<|rL1 72 O (fun g15_2=>zU O yY O (J 1 O) O) O<|rL1 73 O (fun g15_2=>qG O uB (kW _) (vlr O)) O<|rL1 74 O (fun g15_2=>kG O O) O<|yT O (fun h=>h)<|Y<|zK O (fun c7=>?_) (fun c7=>?_)
    ·refine ml O O<|zF<|zS O ?_
     rw [stE_i c1 c6,if_t c7]
    ·refine zI<|mo O O<|mm O<|zF<|zS O ?_
     rw [stE_i c1 c6,if_fin c7]
   ·refine zI<|G O<|zM kE (J 1 O) O<|A O<|zM zDv (J 0 O) O<|qD O uB (ref30_store n bd s hn hb hs) (vlr O)<|mm O<|zF<|zS O ?_
    rw [stE_s c1 c2 c6]
set_option maxHeartbeats 2000000 in
def zLl (n:Ns) (bd:List Bd) (U:List lr) (l:List St) (W:List Int) (hn:n.Ok) (hU:U.length+dJ l<=1000000) (hb:bd.length+dJ l<=1000000) (hW:W.length+dJ l<=1000000) (hl:bD l<=900000) (ih:∀s,s∈l->∀(bd:List Bd) (U:List lr) (W:List Int),U.length+dJ s.Body<=1000000->bd.length+dJ s.Body<=1000000->W.length+dJ s.Body<=1000000->Pur cfg 39 [vNs n,lN bd,vSs U,dA s.Body,vIs W] (ckC (dH n.Bufs U (bd.map Bd.Name) W 0 s.Body))):
    Pur cfg 39 [vNs n,lN bd,vSs U,dA l,vIs W] (ckC (dH n.Bufs U (bd.map Bd.Name) W 0 l)):=by
 refine zR func39 O ntmps39 results39 O ?_
 intro z hz
 have hll:=kY l
 have hlN:=zEv l
 refine G O<|mj O fun b1=>zV O O (qH [some 1,some 1,none] O zr87 O) ?_
 rintro _ _ ⟨b2,rfl,rfl⟩
 refine Y<|zG<|ml O O<|zQ<|zY ⟨[(11,.c _),(2,.c _),(1,.c _),(3,.c _),(4,.c _),(5,.c _),(10,.c _)],[_,_]⟩ (Weak.mk [true,true] ⟨zJ,zJ,zJ,zJ,zJ,zJ,zJ,T⟩ O)<|qL 2 0 O O (Nat×List lr) (fun ⟨k,u⟩=>[(11,vI k),(2,vSs u)]) (fun ⟨k,u⟩=>[]) (fun ⟨k,u⟩=>k<=l.length/\(u.length+dJ (l.drop k)<=1000000)/\((dH n.Bufs U (bd.map Bd.Name) W 0 l)=dH n.Bufs u (bd.map Bd.Name) W k (l.drop k))) (fun ⟨k,u⟩=>l.length-k) ⟨⟨0,U⟩,⟨zA,by simpa using hU,O⟩,Weak.mk [true,true] ⟨zJ,VLe.of_eq (O),zJ,zJ,zJ,zJ,zJ,T⟩ O⟩ ?_
 rintro ⟨k,u⟩ ⟨hk,hub,hp⟩
 show AWP _ _ _ _ _ ⟨[(11,vI k),(2,vSs u)]++_,[]++_⟩
 refine zG<|mo O O<|A O<|qB O D<|yI O<|Y<|zK O ?_ ?_<;>intro c1<;>try simp only [sx] at c1
 ·obtain ⟨s,hs⟩:=qZ l k zA
  have hsw:=yS (qA hs)
  have hsb:=St.body_wt s
  have hsn:=stsN_drop hs
  have hse:=zKx s
  have hsm:=zPh (qA hs)
  have hcl:=chkS_len n.Bufs s u (bd.map Bd.Name) (W++[(k:Int)])
  refine zI<|zG<|zQ<|G O<|zW O (zOw O el38 zr3)<|A O<|zV O O (zOp O el38 O O uF uF) ?_
  rintro _ _ ⟨sv3,rfl,rfl⟩
  refine A O<|zW O (yA O el38 zr3 O O O O)<|zV O O (yO 0 O el38 O O O uF uF) ?_
  rintro _ _ ⟨sv4,rfl,rfl⟩
  refine mm O<|zG<|zG<|zY _ (Weak.vecEq 0 O (rows':=(W++[(k:Int)]).map fun i=>[cI i]) uI)<|zY _ (yV 0 O (regs':=[(27,_),(12,_)]) (μ':=[_,_]) ⟨FLe.sl,FLe.sl,T⟩ ⟨EFle.refl _,EFle.refl _,T⟩)<|qV 9 mixed uB O O<|mr O (zU O kE O (J 1 O) O)<|mr O (zO O O)<|mr O (zO O O)<|mr O (zO O O)<|mr O (zO O O)<|mr O (qE O D O O zA (wL uA))<|mr O (zU O zDv O zZ O)<|mr O (qG O uB (ref30_one n bd u s hn zA (by have:=yS (qA hs);omega) zA) (vlr O))<|mr O (qY O O)<|yQ<|Y<|mo O O<|yL O<|Y<|zK O ?_ ?_<;>intro c2<;>try simp only [sx] at c2
  ·have hx0:=zZq (here:=W++[(k:Int)]) (B:=n.Bufs) (U:=u) (sc:=(bd.map Bd.Name)) (s:=s) c2
   refine mo O O<|A O<|yH [some 1,none,none] O zr87 pl87<|rStR 0 sz87 O<|Y<|zF<|fin1 (zP agg87 O (J 0 O) O) ?_
   rw [zFt hs hp (by rw [hx0];exact c2),hx0];rfl
  ·have hin:=zZr (here:=W++[(k:Int)]) (B:=n.Bufs) (U:=u) (sc:=(bd.map Bd.Name)) (s:=s) c2
   refine zI<|mo O O<|mm O<|zG<|mo O O<|A O<|qC O D zA (wL uA)<|qR O zAp<|zH one3 zZ O<|yF O<|Y<|qK O (fun c3=>?_) (fun c3=>?_)
   ·rw [zQb c3,zQb c3,←map_bd] at hin
    refine zG<|kK 9 1 [⟨0,.q []⟩,⟨1,.q []⟩,⟨3,.q []⟩,⟨4,.q []⟩,⟨5,.q []⟩,⟨6,.q []⟩,⟨7,.q []⟩,⟨8,.q []⟩,⟨2,.e 0 []⟩] mixed uB uB O O O<|zX O<|zX O<|zX O<|zX O<|zX O<|zX O<|zX O<|zX O<|zX O<|zBj<|mq O (zOw O el85 zr9)<|mq O (zO O O)<|mq O (zO O O)<|mq O (zO O O)<|mq O (qE O D O O zA (wL uA))<|mq O (qN O zAl O)<|mq O (zD O one9 O zZ O)<|mq O (yA O el85 zr9 O O O O)<|zKm O O zB O O (zOp O el85 O O uF uF) ?_
    rintro _ _ ⟨sv5,rfl,rfl⟩
    refine ⟨_,O,?_⟩
    refine zBe O<|zV O O (yO 0 O el85 O O O uF uF) ?_
    rintro _ _ ⟨sv6,rfl,rfl⟩
    refine mm O<|kK 15 1 [⟨0,.q []⟩,⟨1,.q []⟩,⟨3,.q []⟩,⟨4,.q []⟩,⟨5,.q []⟩,⟨6,.q []⟩,⟨7,.q []⟩,⟨8,.q []⟩,⟨9,.q []⟩,⟨10,.q []⟩,⟨11,.q []⟩,⟨12,.q []⟩,⟨13,.q []⟩,⟨14,.q []⟩,⟨2,.e 0 []⟩] mixed uB uB O O O<|zX O<|zX O<|zX O<|zX O<|zX O<|zX O<|zX O<|zX O<|zX O<|zX O<|zX O<|zX O<|zX O<|zX O<|zX O<|zBj<|mq O (zOw O zYw zr147)<|mq O (zO O O)<|mq O (zO O O)<|mq O (zO O O)<|mq O (qE O D O O zA (wL uA))<|mq O (qN O zAl O)<|mq O (zD O one9 O zZ O)<|mq O (zO O O)<|mq O (zO O O)<|mq O (qE O D O O zA (wL uA))<|mq O (qN O zAt O)<|mq O (zD O one3 O zZ O)<|mq O (zDc O zr147 pl147 O)<|mq O (yA O zYw zr147 O O O O)<|zKm O O zB O O (zOp O zYw O O uF uF) ?_
    rintro _ _ ⟨sv7,rfl,rfl⟩
    refine ⟨_,O,?_⟩
    refine zBe O<|zV O O (yO 0 O zYw O O O uF uF) ?_
    rintro _ _ ⟨sv8,rfl,rfl⟩
    refine mm O<|zG<|zY _ (Weak.vecEq 1 O (rows':=(u++[s.Name]).map fun s=>[cS s]) uI)<|zY _ (yV 1 O (regs':=[(2,_),(57,_)]) (μ':=[_,_,_]) ⟨FLe.sl,FLe.sl,T⟩ ⟨EFle.refl _,EFle.refl _,EFle.refl _,T⟩)<|zY _ (Weak.vecEq 0 O (rows':=(bd++[(⟨s.Name,s.Many⟩:Bd)]).map Bd.cells) (by rw [aC];rfl))<|zY _ (yV 0 O (regs':=[(14,_),(73,_)]) (μ':=[_,_]) ⟨FLe.sl,FLe.sl,T⟩ ⟨EFle.refl _,EFle.refl _,T⟩)<|kK 11 1 [⟨0,.q [2]⟩,⟨1,.q []⟩,⟨2,.q []⟩,⟨3,.q []⟩,⟨4,.q []⟩,⟨5,.q []⟩,⟨6,.q []⟩,⟨7,.q []⟩,⟨8,.q []⟩,⟨9,.q []⟩,⟨10,.f 0⟩] mixed uB uB O O O<|zX O<|zX O<|zX O<|zX O<|zX O<|zX O<|zX O<|zX O<|zX O<|zX O<|zQp O O (zFg (qH [some 1,some 1,none] O zr87 O)) ⟨_,_,0,O,O⟩<|zBj<|mq O (zU O kE O (J 0 O) O)<|mq O (zO O O)<|mq O (zO O O)<|mq O (zO O O)<|mq O (zO O O)<|mq O (qE O D O O zA (wL uA))<|mq O (qN O kV O)<|mq O (zD O kX O zZ O)<|mq O (zO O O)<|mq O (qG O uB (ih s (qA hs) (bd++[(⟨s.Name,s.Many⟩:Bd)]) (u++[s.Name]) (W++[(k:Int)]) (by first|omega|(simp;omega)) (by first|omega|(simp;omega)) uE) (vlr O))<|zPk O O ?_
    rintro _ _ ⟨b9,rfl,rfl⟩
    exact p7
   ·rw [zVb c3,zVb c3] at hin
    refine zI<|zG<|kK 11 1 [⟨0,.q [2]⟩,⟨1,.q []⟩,⟨2,.q []⟩,⟨3,.q []⟩,⟨4,.q []⟩,⟨5,.q []⟩,⟨6,.q []⟩,⟨7,.q []⟩,⟨8,.q []⟩,⟨9,.q []⟩,⟨10,.f 0⟩] mixed uB uB O O O<|zX O<|zX O<|zX O<|zX O<|zX O<|zX O<|zX O<|zX O<|zX O<|zX O<|zQp O O (zFg (qH [some 1,some 1,none] O zr87 O)) ⟨_,_,0,O,O⟩<|zBj<|mq O (zU O kE O (J 0 O) O)<|mq O (zO O O)<|mq O (zO O O)<|mq O (zO O O)<|mq O (zO O O)<|mq O (qE O D O O zA (wL uA))<|mq O (qN O kV O)<|mq O (zD O kX O zZ O)<|mq O (zO O O)<|mq O (qG O uB (ih s (qA hs) bd u (W++[(k:Int)]) (by first|omega|(simp;omega)) (by first|omega|(simp;omega)) uE) (vlr O))<|zPk O O ?_
    rintro _ _ ⟨b10,rfl,rfl⟩
    exact p7
 ·refine qO<|mo O O<|yH [none,some 1,none] O zr87 pl87<|rStR 0 sz87 O<|Y<|zF<|fin1 (zP agg87 O (J 0 O) O) ?_
  rw [zVp hp zA];rfl
def zWz (n:Ns) (hn:n.Ok) (s:St) (hl:bD s.Body<=900000):∀(bd:List Bd) (U:List lr) (W:List Int),U.length+dJ s.Body<=1000000->bd.length+dJ s.Body<=1000000->W.length+dJ s.Body<=1000000->Pur cfg 39 [vNs n,lN bd,vSs U,dA s.Body,vIs W] (ckC (dH n.Bufs U (bd.map Bd.Name) W 0 s.Body)):=by
  induction s using St.ind with
  |_ s ih=>
    intro bd U W hU hb hW
    refine zLl n bd U s.Body W hn hU hb hW hl fun a ha=>ih a ha ?_
    have:=yS ha;have:=St.body_wt a;omega
def ref30_body (n:Ns) (bd:List Bd) (U:List lr) (l:List St) (W:List Int)  (hn:n.Ok) (hU:U.length+dJ l<=1000000) (hb:bd.length+dJ l<=1000000) (hW:W.length+dJ l<=1000000) (hl:bD l<=900000):Pur cfg 39 [vNs n,lN bd,vSs U,dA l,vIs W] (ckC (dH n.Bufs U (bd.map Bd.Name) W 0 l)):=
  zLl n bd U l W hn hU hb hW hl fun s hs=>zWz n hn s (by have:=yS hs;have:=St.body_wt s;omega)
def zNx (n:Ns) (hn:n.Ok) (hw:bD n.Body<=900000):
    Pur cfg 12 [vNs n] (.tup [vIs (bL n).1,vI (bL n).2]):=by
 refine zR func12 O ntmps12 results12 O fun z hz=>G O<|mj O fun b1=>yJ 1 O<|mm O<|zG<|G O<|zC O zAq<|zH kX (J 0 O) O<|qD O uB (ref30_depth 41 n.Body 41 zA zA O) (vlr O)<|zW O (yD O O O)<|Y<|zK O ?_ ?_<;>intro c1<;>try simp only [sx] at c1
 ·have hwi:=within_f c1
  refine G O<|yJ 1 O<|mm O<|zF<|fin2 (rs_c O) (rs_c O) ?_
  rw [zWb hwi];rfl
 ·have hwi:=within_t c1
  refine zI<|zG<|G O<|zC O zAq<|zH kX (J 0 O) O<|qD O uB (ref30_size n.Body 2000 2000 zA zA O) (vlr O)<|zW O (yD O O O)<|A O<|rL0 O (fun g3_4=>zE O zAm O) O<|rL1 15 O (fun g3_4=>zD O zDx O (J 0 O) O) O<|rL1 16 O (fun g3_4=>yK O el22 O) O<|rL1 17 O (fun g3_4=>yD O O O) O<|r_or O (fun h=>(lzf h))<|Y<|zK O ?_ ?_<;>intro c2<;>try simp only [sx] at c2
  ·refine G O<|yJ 1 O<|mm O<|zF<|fin2 (rs_c O) (rs_c O) ?_
   rw [validN_2 hwi zA];rfl
  ·have hnum:=numB_ok (l:=n.Body) (m:=2000) zA
   refine zI<|zG<|G O<|zM kE (J 0 O) O<|qD O uB (ref30_bufs n hn) (vlr O)<|mm O<|mo O O<|yL O<|Y<|zK O ?_ ?_<;>intro c3<;>try simp only [sx] at c3
   ·refine mo O O<|yJ 1 O<|mm O<|zF<|fin2 (rs_c O) (rs_c O) ?_
    rw [validN_b hwi zA c3];rfl
   ·refine zI<|G O<|zM kE (J 0 O) O<|zC O zAq<|zH kX (J 0 O) O<|qD O uB (ref30_body n [] [] n.Body [] hn uE uE uE hw) ⟨zJ,O,VLe.nil,O,VLe.nil,O,zJ,O,VLe.nil,O,T⟩<|zV O O (qH [some 1,some 1,none] O zr87 O) ?_
    rintro _ _ ⟨b2,rfl,rfl⟩
    refine rStR 0 sz87 O<|Y<|zG<|qV 6 mixed uB O O<|mr O (zE O fd87_1 O)<|mr O (zD O zBz O (J 0 O) O)<|mr O (zE O fd87_2 O)<|mr O (zD O zDb O (J 0 O) O)<|mr O (qY O O)<|mr O (qY O O)<|yQ<|Y<|zF<|fin2 (rs_c O) (rs_c O) ?_
    rw [zUp hwi zA c3];rfl
end Go.W
end
section
set_option maxRecDepth 10000
namespace Go.W
open Go Go.Eng Go.Proofs Go.L41 Go.Br Tryz
attribute [local irreducible] AWP RWP TD fK
def zFx (l:List St) (ih:∀s,s∈l->∀(m:Nat) (x:Int),m<=5000->x=m->Pur cfg 13 [dA s.Body,vI x] (vI (lM s.Body m))) (m:Nat) (x:Int) (hf:rJ l) (hl:l.length<=140737488355328) (hm:m<=5000) (hx:x=m):
    Pur cfg 13 [dA l,vI x] (vI (lM l m)):=by
 refine zR func13 O ntmps13 results13 O ?_
 intro z hz
 have hwB:wB m<=5700000000000000000:=by unfold wB;omega
 refine ml O O<|mo O O<|qB O D<|mm O<|zG<|ml O O<|zQ<|zY ⟨[(6,.c _),(5,.c _),(0,.c _),(1,.c _)],[]⟩ (Weak.mk [] ⟨zJ,zJ,zJ,zJ,T⟩ O) ?_
 refine qL 2 0 O O (Nat×Nat) (fun ⟨k,n⟩=>[(6,vI k),(5,vI n)]) (fun ⟨k,n⟩=>[]) (fun ⟨k,n⟩=>k<=l.length/\(n<=wB m)/\(l.length<=n)/\(lM l m=fV (l.drop k) m n)) (fun ⟨k,n⟩=>l.length-k) ⟨⟨0,l.length⟩,⟨zA,by unfold wB;omega,zA,O⟩,Weak.mk [] ⟨zJ,VLe.of_eq (ag vI uD),zJ,zJ,T⟩ O⟩ ?_
 rintro ⟨k,n⟩ ⟨hk,hn1,hn2,hp⟩
 show AWP _ _ _ _ _ ⟨[(6,vI k),(5,vI n)]++_,[]++_⟩
 refine zG<|mo O O<|A O<|qB O D<|yI O<|A O<|rL0 O (fun g3_4=>zO O O) O<|rL0 O (fun g3_4=>zO O O) O<|rLz [(14,_),(15,_)] O gv1 ⟨O,O,O,O,T⟩ (fun g3_4=>wS O O O) O<|yT O (fun h=>h)<|Y<|zK O ?_ ?_<;>intro c1<;>try simp only [sx] at c1
 ·obtain ⟨s,hs⟩:=qZ l k zA
  have hsf:=zVi hf s (qA hs)
  obtain ⟨f1,f2,f3,f4,f5⟩:=St.fit_eq hsf
  have hwl:=weigh_lt (n:=n) hs hf hm zA zA
  refine zI<|zG<|zQ<|qV 30 mixed uB O O<|mr O (zO O O)<|mr O (zO O O)<|mr O (zO O O)<|mr O (qE O D O O zA (wL hs))<|mr O (qN O zBk O)<|mr O (zU O yY O zZ O)<|mr O (zO O O)<|mr O (qG O uB (base_Weigh s.E m x f3 zA hx) (vlr O))<|mr O (zEs O O O ⟨zA,zA⟩)<|mr O (zO O O)<|mr O (zO O O)<|mr O (qE O D O O zA (wL hs))<|mr O (qN O zFj O)<|mr O (zD O wT O zZ O)<|mr O (zGf me O zr54 pl54 O O)<|mr O (zO O O)<|mr O (qG O uB (base_Weigh (rY s.Idx) m x (idxE_fit f1 f2) zA hx) (vlr O))<|mr O (zEs O O O ⟨zA,zA⟩)<|mr O (zO O O)<|mr O (zO O O)<|mr O (qE O D O O zA (wL hs))<|mr O (qN O kV O)<|mr O (zD O kX O zZ O)<|mr O (zO O O)<|mr O (zO O O)<|mr O (yB O O O ⟨zA,zA⟩)<|mr O (zKc O O O)<|mr O (qG O uB (ih s (qA hs) (m-n) _ zA zA) (vlr O))<|mr O (zEs O O O ⟨zA,zA⟩)<|mr O (qY O O)<|yQ<|Y<|zT O<|A O<|qI O ⟨zA,zA⟩<|A O<|Y ?_
  refine ⟨⟨k+1,n+gG s.E m+gG (rY s.Idx) m+lM s.Body (m-n)⟩,⟨zA,hwl,zA,weighSs_next hs hp zA⟩,(by show l.length-(k+1)<l.length-k;omega),Weak.mk [] ⟨zJ,VLe.of_eq (ag vI zA),zJ,zJ,T⟩ O⟩
 ·refine qO<|mo O O<|mm O<|zF<|zS O ?_
  exact ag vI (by rw [←weighSs_end hp hx zA])
def zNq (s:St):∀(m:Nat) (x:Int),s.fit->m<=5000->x=m->Pur cfg 13 [dA s.Body,vI x] (vI (lM s.Body m)):=by
  induction s using St.ind with
  |_ s ih=>
    intro m x hf hm hx
    obtain ⟨_,_,_,f4,f5⟩:=St.fit_eq hf
    exact zFx s.Body (fun a ha m x h1 h2=>ih a ha m x (zVi f5 a ha) h1 h2) m x f5 f4 hm hx
def zZw (l:List St) (m:Nat) (x:Int) (hf:rJ l) (hl:l.length<=140737488355328) (hm:m<=5000) (hx:x=m):Pur cfg 13 [dA l,vI x] (vI (lM l m)):=
  zFx l (fun a ha m x h1 h2=>zNq a m x (zVi hf a ha) h1 h2) m x hf hl hm hx
end Go.W
end
section
set_option maxRecDepth 10000
namespace Go.W
open Go Go.Eng Go.Proofs Go.L41 Go.Br Tryz
attribute [local irreducible] AWP RWP TD fK
end Go.W
end
section
set_option maxRecDepth 10000
namespace Go.W
open Go Go.Eng Go.Proofs Go.L41 Go.Br Tryz
attribute [local irreducible] AWP RWP TD fK
def zr38:fL prog 38=some [(Value.slice none 0 0)]:=by kernel_rfl
def visit_step (y:C) (J Jx:List (St×List Int)->List E->Prop) (M:Nat) (hy:∀(pre:List (St×List Int)) (x:St×List Int) (μ:List E),x.2≠[]->x.1.wt<=536870912->pre.length+1<=M->J pre μ->FnCon cfg y [vSt x.1,vIs x.2] μ fun r μ'=>∃b,r=.c (.lit (.bool b))/\(b=true->J (pre++[x]) μ')/\(b=false->Jx (pre++[x]) μ')) (l:List St) (hl:bD l<=536870912) (ih:∀s,s∈l->∀(way:List Int) (pre0:List (St×List Int)) (μ:List E),way.length+dJ s.Body<=1073741824->pre0.length+dJ s.Body<=M->J pre0 μ->Con cfg 81 [dA s.Body,vIs way,.c y] μ fun r μ'=>∃b,r=.c (.lit (.bool b))/\(b=true->J (pre0++gN way 0 s.Body) μ')/\(b=false->∃pre x suf,gN way 0 s.Body=pre++x::suf/\Jx (pre0++pre++[x]) μ')) (way:List Int) (hw:way.length+dJ l<=1073741824) (pre0:List (St×List Int)) (hM:pre0.length+dJ l<=M) (μ:List E) (h0:J pre0 μ):
    Con cfg 81 [dA l,vIs way,.c y] μ fun r μ'=>∃b,r=.c (.lit (.bool b))/\(b=true->J (pre0++gN way 0 l) μ')/\(b=false->∃pre x suf,gN way 0 l=pre++x::suf/\Jx (pre0++pre++[x]) μ'):=by
 refine zR func81 O ntmps81 results81 O ?_
 intro z hz
 have hll:=kY l
 have hlN:=zEv l
 refine ml O O<|zG<|mo O O<|qB O D<|mm O<|zQ<|zY ⟨[(11,.c _),(0,.c _),(1,.c _),(2,.c _),(10,.c _)],_⟩ (Weak.regs ⟨zJ,zJ,zJ,zJ,zJ,T⟩)<|zDu 1 O (Nat×List E) (fun ⟨k,m⟩=>[(11,vI k)]) (fun ⟨k,m⟩=>m) (fun ⟨k,m⟩=>k<=l.length/\(J (pre0++gN way 0 (l.take k)) m)) (fun ⟨k,m⟩=>l.length-k) ⟨⟨0,μ⟩,⟨zA,by simpa [gN] using h0⟩,Weak.regs ⟨zJ,zJ,zJ,zJ,zJ,T⟩⟩ ?_
 rintro ⟨k,m⟩ ⟨hk,hJ⟩
 refine G O<|yI O<|Y<|zG<|zK O ?_ ?_<;>intro c1<;>try simp only [sx] at c1
 ·obtain ⟨s,hs⟩:=qZ l k zA
  have hsN:=zPh (qA hs)
  have hse:=zKx s
  have hst:=stsN_take hs
  refine zI<|zG<|zQ<|mo O O<|mm O<|mo O O<|zV O O (zBg O uB (zKg way zA) (vlr O)) ?_
  rintro _ _ ⟨sv1,rfl,rfl⟩
  refine A O<|zW O (yA O el38 zr3 O O O O)<|zV O O (yO 0 O el38 O O O uC uC) ?_
  rintro _ _ ⟨sv2,rfl,rfl⟩
  refine mm O<|zG<|zY _ (Weak.vecEq 0 O (rows':=(way++[(k:Int)]).map fun n=>[cI n]) uI)<|zY _ (yV 0 O (regs':=[(18,_),(8,_)]) (μ':=_) ⟨FLe.sl,FLe.sl,T⟩ (efles_refl _))<|zT O<|A O<|A O<|A O<|qC O D zA (wL hs)<|zM zDv zZ O<|A O<|zV O O (zAe O O (hy _ (s,(way++[(k:Int)])) _ uD (by have:=yS (qA hs);show s.wt<=_;omega) (by rw [lLa,zUz];omega) hJ) (vlr O)) ?_
  rintro _ m1 ⟨y1,rfl,t1,f1⟩
  refine kO O<|A O<|rwp_split 27 O (fun h1=>?_) (fun h1=>?_)
  ·have hy1:y1=false:=by simpa using h1
   subst hy1
   refine zPp O O O O gv1 (by simp [Lz,h1])<|zPp O O O O gv1 (by simp [Lz,h1])<|zPp O O O O gv1 (by simp [Lz,h1])<|zPp O O O O gv1 (by simp [Lz,h1])<|zPp O O O O gv1 (by simp [Lz,h1])<|zPp O O O O gv1 (by simp [Lz,h1])<|zPp O O O O gv1 (by simp [Lz,h1])<|zPp O O O O gv1 (by simp [Lz,h1])<|zPp O O O O gv1 (by simp [Lz,h1])<|zW O (det_pick O O)<|Y<|zK O (fun c2=>?_) (fun c2=>?_)
   ·refine ml O O<|zF<|zS O ?_
    exact ⟨false,O,fun h=>(by cases h),fun _=>⟨_,(s,(way++[(k:Int)])),_,pre_at1 hs,by simpa using f1 rfl⟩⟩
   ·exact absurd c2 zB
  ·have hy1:y1=true:=by simpa using h1
   subst hy1
   refine zCf O O O O gv1 (by simp [Lz,h1]) (zO O O)<|zCf O O O O gv1 (by simp [Lz,h1]) (zO O O)<|zCf O O O O gv1 (by simp [Lz,h1]) (qE O D O O zA (wL hs))<|zCf O O O O gv1 (by simp [Lz,h1]) (qN O kV O)<|zCf O O O O gv1 (by simp [Lz,h1]) (zD O kX O zZ O)<|zCf O O O O gv1 (by simp [Lz,h1]) (zO O O)<|zCf O O O O gv1 (by simp [Lz,h1]) (zO O O)<|rwp_yes O O O O gv1 (by simp [Lz,h1]) (zBm O uB (ih s (qA hs) (way++[(k:Int)]) _ _ uE (by rw [lLa,lLa,zUz,List.length_singleton];omega) (t1 O)) (vlr O)) ?_
   rintro _ m2 ⟨y2,rfl,t2,f2⟩
   refine zCf O O O O gv1 (by simp [Lz,h1]) (kG O O)<|zW O (det_pick O O)<|Y<|zK O (fun c2=>?_) (fun c2=>?_)
   ·have hy2:y2=false:=by cases y2;rfl;exact absurd c2 zB
    subst hy2
    refine ml O O<|zF<|zS O ?_
    obtain ⟨pre,x,suf,h1,h2⟩:=f2 rfl
    exact ⟨false,O,fun h=>(by cases h),fun _=>⟨_,x,_,pre_at2 hs h1,by simpa using h2⟩⟩
   ·have hy2:y2=true:=by cases y2;exact absurd c2 zB;rfl
    subst hy2
    refine zI<|zT O<|qI O ⟨zA,zA⟩<|A O<|Y ?_
    refine ⟨⟨k+1,m2⟩,⟨zA,by rw [preL_next hs,preS_eq,←lAa];have:=t2 rfl;simpa using this⟩,(by show l.length-(k+1)<l.length-k;omega),Weak.regs ⟨zJ,zJ,zJ,zJ,zJ,T⟩⟩
 ·refine qO<|ml O O<|zF<|zS O ?_
  rw [yW zA] at hJ
  exact ⟨true,O,fun _=>hJ,fun h=>(by cases h)⟩
def visit_body (y:C) (J Jx:List (St×List Int)->List E->Prop) (M:Nat) (hy:∀(pre:List (St×List Int)) (x:St×List Int) (μ:List E),x.2≠[]->x.1.wt<=536870912->pre.length+1<=M->J pre μ->FnCon cfg y [vSt x.1,vIs x.2] μ fun r μ'=>∃b,r=.c (.lit (.bool b))/\(b=true->J (pre++[x]) μ')/\(b=false->Jx (pre++[x]) μ')) (s:St) (hl:bD s.Body<=536870912):∀(way:List Int) (pre0:List (St×List Int)) (μ:List E),way.length+dJ s.Body<=1073741824->pre0.length+dJ s.Body<=M->J pre0 μ->Con cfg 81 [dA s.Body,vIs way,.c y] μ fun r μ'=>∃b,r=.c (.lit (.bool b))/\(b=true->J (pre0++gN way 0 s.Body) μ')/\(b=false->∃pre x suf,gN way 0 s.Body=pre++x::suf/\Jx (pre0++pre++[x]) μ'):=by
  induction s using St.ind with
  |_ s ih=>exact fun way pre0 μ hw hM h0=>visit_step y J Jx M hy s.Body hl (fun a ha=>ih a ha (by have:=yS ha;have:=St.body_wt a;omega)) way hw pre0 hM μ h0
def visit_con (y:C) (J Jx:List (St×List Int)->List E->Prop) (M:Nat) (hy:∀(pre:List (St×List Int)) (x:St×List Int) (μ:List E),x.2≠[]->x.1.wt<=536870912->pre.length+1<=M->J pre μ->FnCon cfg y [vSt x.1,vIs x.2] μ fun r μ'=>∃b,r=.c (.lit (.bool b))/\(b=true->J (pre++[x]) μ')/\(b=false->Jx (pre++[x]) μ')) (l:List St) (hl:bD l<=536870912) (way:List Int) (hw:way.length+dJ l<=1073741824) (pre0:List (St×List Int)) (hM:pre0.length+dJ l<=M) (μ:List E) (h0:J pre0 μ):Con cfg 81 [dA l,vIs way,.c y] μ fun r μ'=>∃b,r=.c (.lit (.bool b))/\(b=true->J (pre0++gN way 0 l) μ')/\(b=false->∃pre x suf,gN way 0 l=pre++x::suf/\Jx (pre0++pre++[x]) μ'):=
  visit_step y J Jx M hy l hl (fun s hs=>visit_body y J Jx M hy s (by have:=yS hs;have:=St.body_wt s;omega)) way hw pre0 hM μ h0
def zOb (l:List St) (way:List Int) (hw:way.length<=1073741824):
    Pur cfg 83 [dA l,vIs way] (dA (fQ l way)):=by
 refine zR func83 O ntmps83 results83 O fun z hz=>G O<|yJ 20 O<|Y<|mo O O<|yU _ (wE 56 20)<|Y<|zG<|mo O O<|qB O el38<|mm O<|zQ<|zY ⟨[(10,.c _),(0,.c _),(5,.c _),(8,.c _),(9,.c _)],[_]⟩ (Weak.mk [true] ⟨zJ,zJ,zJ,zJ,zJ,T⟩ O)<|qL 3 1 O O (Nat×Value×List St×List St) (fun ⟨k,sv,lc,out⟩=>[(10,vI k),(0,dA lc),(5,.c (.lit sv))]) (fun ⟨k,sv,lc,out⟩=>[E.vec sv 56 20 (out.map St.cells)]) (fun ⟨k,sv,lc,out⟩=>k<=way.length/\(out.length=k)/\(fQ l way=trl (way.drop k) lc out)) (fun ⟨k,sv,lc,out⟩=>way.length-k) ⟨⟨0,(.slice none 0 0),l,[]⟩,⟨zA,O,O⟩,Weak.mk [true] ⟨zJ,zJ,zJ,zJ,zJ,T⟩ O⟩ ?_
 rintro ⟨k,sv,lc,out⟩ ⟨hk,ho,hp⟩
 show AWP _ _ _ _ _ ⟨[(10,vI k),(0,dA lc),(5,.c (.lit sv))]++_,[E.vec sv 56 20 (out.map St.cells)]++_⟩
 refine G O<|yI O<|Y<|zG<|zK O ?_ ?_<;>intro c1<;>try simp only [sx] at c1
 ·obtain ⟨i,hi⟩:=qZ way k zA
  refine zI<|zG<|zQ<|G O<|qC O el38 zA (getm uA)<|zH one3 zZ O<|mm O<|zG<|mo O O<|yI O<|A O<|rL0 O (fun g5_2=>zO O O) O<|rL0 O (fun g5_2=>zO O O) O<|rL1 18 O (fun g5_2=>yK O D O) O<|rLz [(17,_),(19,_)] O gv1 ⟨O,O,O,O,T⟩ (fun g5_2=>wH O O O) O<|r_or O (fun h=>(lzf h))<|Y<|zK O ?_ ?_<;>intro c2<;>try simp only [sx] at c2
  ·refine G O<|yJ 20 O<|Y<|zF<|zS O ?_
   rw [show fQ l way=[] from trl_no hi hp zA];rfl
  ·have hs:=zWi (l:=lc) (i:=i) zA
   refine zI<|mo O O<|A O<|A O<|qC O D zA (wL hs)<|zM zDv zZ O<|zW O (yA O D zr56 O O O O)<|zV O O (yO 0 O D O O O uC uC) ?_
   rintro _ _ ⟨sv2,rfl,rfl⟩
   refine mm O<|zT O<|A O<|A O<|qC O D zA (wL hs)<|qR O kV<|zH kX zZ O<|mm O<|zT O<|qI O ⟨zA,zA⟩<|A O<|Y ?_
   refine ⟨⟨k+1,sv2,(lc.getD i.toNat zSt).Body,out++[lc.getD i.toNat zSt]⟩,⟨zA,uE,trl_next hi hp zA⟩,(by show way.length-(k+1)<way.length-k;omega),Weak.mk [true] ⟨zJ,zJ,zJ,zJ,zJ,T⟩ (by exact zGv (by rw [aC,cy,St.cells_eq];rfl))⟩
 ·refine qO<|zG<|zY _ (yV 0 O (regs':=[(5,_)]) (μ':=[]) ⟨FLe.sl,T⟩ T)<|zT O<|A O<|mm O<|zF<|zS O ?_
  rw [show fQ l way=out from trl_end hp zA]
def zXx (bb:Nat) (t:lr) (s:St) (w:List Int) (hw:w≠[]):
    Con cfg 82 [vSt s,vIs w,.c (.iptr [cS t]),.c (.lit (.pointer (some ⟨bb,0,none⟩)))] [E.row bb 38 [sT none]] fun r μ'=>r=vB (!jP t s)/\μ'=[E.row bb 38 [sT (if jP t s=true then some w else none)]]:=by
 refine Con.drop<|zR func82 O ntmps82 results82 O fun z hz=>G O<|mj O fun b1=>mm O<|zG<|G O<|zC O zAp<|zH one3 (J 0 O) O<|yF O<|A O<|rL0 O (fun g1_3=>zE O zAl O) O<|rL1 11 O (fun g1_3=>zD O one9 O (J 0 O) O) O<|rL0 O (fun g1_3=>zD O one9 O zZ O) O<|rLz [(12,_),(13,_)] O gv1 ⟨O,O,O,O,T⟩ (fun g1_3=>zNi O O O) O<|yT O (fun h=>h)<|Y<|zK O (fun c1=>?_) (fun c1=>?_)
 ·refine zT O<|A O<|rStR 1 sz38 O<|Y<|G O<|zH zBz (J 1 O) O<|zW O (zZe (q:=(some w)) O el38 O O (by intro u h;cases h;exact hw))<|mm O<|zF<|zS O ?_
  have hc:jP t s=true:=c1
  exact ⟨by rw [hc];rfl,[_],by rw [ab hc];rfl⟩
 ·refine zI<|G O<|zH zBz (J 1 O) O<|zW O (zZe (q:=none) O el38 O O (by intro u h;cases h))<|mm O<|zF<|zS O ?_
  have hc:jP t s=false:=c1
  exact ⟨by rw [hc];rfl,[_],by rw [aa (by rw [hc];simp)];rfl⟩
def visit_find (bb:Nat) (t:lr) (l:List St) (hl:bD l<=536870912):Con cfg 81 [dA l,vIs [],.c (.fn (.func 82) [] [.iptr [cS t],.lit (.pointer (some ⟨bb,0,none⟩))])] [E.row bb 38 [sT none]] fun r μ'=>r=vB (jC l t).isNone/\μ'=[E.row bb 38 [sT (jC l t)]]:=by
  have hN:=zHt l
  refine (visit_con (.fn (.func 82) [] [.iptr [cS t],.lit (.pointer (some ⟨bb,0,none⟩))]) (fun pre μ=>pre.any (sJ t)=false/\μ=[E.row bb 38 [sT none]]) (fun pre μ=>∃p x,pre=p++[x]/\p.any (sJ t)=false/\sJ t x=true/\μ=[E.row bb 38 [sT (some x.2)]]) (dJ l) (fun pre x μ hx hxw hM hJ=>?_) l hl [] uE [] uD _ ⟨O,O⟩).mono ?_
  · obtain ⟨h1,rfl⟩:=hJ
    refine (FnCon.of_con (first:=[]) (cap:=[.iptr [cS t],.lit (.pointer (some ⟨bb,0,none⟩))]) uB (zXx bb t x.1 x.2 hx)).mono ?_
    rintro r μ' ⟨rfl,rfl⟩
    refine ⟨!jP t x.1,O,fun h=>?_,fun h=>?_⟩
    · have hc:jP t x.1=false:=by simpa using h
      exact ⟨any_one h1 hc,by rw [hc];rfl⟩
    · have hc:jP t x.1=true:=by simpa using h
      exact ⟨pre,x,O,h1,hc,by rw [hc];rfl⟩
  · rintro r μ' ⟨b,rfl,h1,h2⟩
    cases b with
    |true=>
      obtain ⟨k1,k2⟩:=h1 rfl
      have e:jC l t=none:=findA_none k1
      exact ⟨by rw [e];rfl,by rw [e];exact k2⟩
    |false=>
      obtain ⟨pre,x,suf,h3,p,y,h4,h5,h6,h7⟩:=h2 rfl
      have e:jC l t=some y.2:=by
        obtain ⟨e1,e2⟩:=List.append_inj' h4 rfl
        have e3:x=y:=by simpa using e2
        have e4:pre=p:=by simpa using e1
        unfold jC
        rw [h3,e3,e4]
        exact findA_some h5 h6
      exact ⟨by rw [e];rfl,by rw [e];exact h7⟩
def zQg (n:Ns) (t:lr) (hl:bD n.Body<=536870912):
    Pur cfg 44 [vNs n,vS t] (.tup [vIs ((jC n.Body t).getD []),vB (jC n.Body t).isSome]):=by
 refine zR func44 O ntmps44 results44 O fun z hz=>G O<|mj O fun b1=>mj O fun b2=>yU _ (yX 0 O 3 _ PLe.ptr)<|yJ 1 O<|mm O<|G O<|zV O O (qW O zr38) ?_
 rintro _ _ ⟨b3,rfl,rfl⟩
 refine Y<|G O<|zC O zAq<|zH kX (J 1 O) O<|zW O (zFa O O O O O)<|zV O O (ope_call_reg 0 O O uB (visit_find _ t n.Body hl) ⟨zJ,O,VLe.nil,O,zJ,O,T⟩) ?_
 rintro _ _ ⟨rfl,rfl⟩
 refine Y<|zG<|qV 5 mixed uB O O<|mr O (zD O zBz O (J 0 O) O)<|mr O (zD O zBz O (J 0 O) O)<|mr O (det_fnil_ne (q:=(jC n.Body t)) O el38 O O (fun u h=>findN_ne h))<|mr O (qY O O)<|mr O (qY O O)<|yQ<|Y<|zY ⟨[(4,.c _),(5,.c _)],_⟩ (Weak.regs ⟨fndC_le _,zJ,T⟩)<|zF<|fin2 (rs_c O) (rs_c O) ?_
 exact O
end Go.W
end
section
set_option maxRecDepth 10000
namespace Go.W
open Go Go.Eng Go.Proofs Go.L41 Go.Br Tryz
attribute [local irreducible] AWP RWP TD fK
end Go.W
end
section
set_option maxRecDepth 10000
namespace Go.W
open Go Go.Eng Go.Proofs Go.L41 Go.Br Tryz
attribute [local irreducible] AWP RWP TD fK
def zZx (a b:List Int) (ha:a.length<=17592186044416):
    Pur cfg 42 [vIs a,vIs b] (vB (decide (a=b))):=by
 refine zR func42 O ntmps42 results42 O fun z hz=>ml O O<|zG<|mo O O<|qB O el38<|A O<|qB O el38<|yL O<|Y<|zK O (fun c1=>?_) (fun c1=>?_)
 ·exact n8
 ·try simp only [sx] at c1
  refine zI<|zG<|ml O O<|zQ<|zY ⟨[(5,.c _),(0,.c _),(1,.c _)],[]⟩ (Weak.mk [] ⟨zJ,zJ,zJ,T⟩ O)<|qL 1 0 O O (Nat) (fun k=>[(5,vI k)]) (fun k=>[]) (fun k=>k<=a.length/\(a.take k=b.take k)) (fun k=>a.length-k) ⟨0,⟨zA,O⟩,Weak.mk [] ⟨zJ,zJ,zJ,T⟩ O⟩ ?_
  rintro k ⟨hk,hp⟩
  refine zG<|mo O O<|A O<|qB O el38<|yI O<|Y<|zK O (fun c2=>?_) (fun c2=>?_)
  ·try simp only [sx] at c2
   obtain ⟨x,hx⟩:=qZ a k zA
   obtain ⟨y,hy⟩:=qZ b k zA
   refine zI<|zG<|zQ<|zG<|qV 9 mixed uB O O<|mr O (zO O O)<|mr O (zO O O)<|mr O (qE O el38 O O zA (getm uA))<|mr O (zD O one3 O zZ O)<|mr O (zO O O)<|mr O (zO O O)<|mr O (qE O el38 O O zA (getm uA))<|mr O (zD O one3 O zZ O)<|mr O (kB O O O)<|yQ<|Y<|zK O (fun c3=>?_) (fun c3=>?_)
   ·exact j7
   ·exact p6
  ·exact m8
end Go.W
end
