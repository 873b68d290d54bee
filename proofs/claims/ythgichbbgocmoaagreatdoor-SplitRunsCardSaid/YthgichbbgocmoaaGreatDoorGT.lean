/-
  What functions compute.
  And what the laws need besides.
  Conditions: none.
-/
import Derived.Test.YthgichbbgocmoaaGreatDoorGY
import Derived.Test.YthgichbbgocmoaaGreatDoorPlainU
import Derived.Test.YthgichbbgocmoaaGreatDoorPlainV
set_option linter.unusedSimpArgs false
set_option linter.unusedVariables false
set_option linter.defProp false
section
set_option maxRecDepth 10000
namespace Go.W
open Go Go.Eng Go.Proofs Go.L41 Go.Br Tryz
attribute [local irreducible] AWP RWP TD fK
def ref04_Zero1 {t:Ty} (h:dD t=true):Pur cfg 64 [vTy t] (gZ ⟨0,1⟩):=by
  have e:=ref04_Zero t
  rw [xY,h] at e;exact e
def zFy:nE prog 121=some 7:=by kernel_rfl
def el26:fB prog 26=some (125,8,104):=by kernel_rfl
def zHf:fB prog 119=some (46,2,16):=by kernel_rfl
def zMd:bO prog 121 0=some (0,48):=by kernel_rfl
def zFs:bO prog 121 1=some (5,38):=by kernel_rfl
def zFr:bO prog 121 2=some (6,119):=by kernel_rfl
def fd125_0:bO prog 125 0=some (0,9):=by kernel_rfl
def zYr:bO prog 125 1=some (1,121):=by kernel_rfl
def zNz:mM prog 119=true:=by kernel_rfl
def pl121:fW prog 121=some [(0,5),(5,1),(6,1)]:=by kernel_rfl
def pl125:fW prog 125=some [(0,1),(1,7)]:=by kernel_rfl
def sz119:(prog.info? 119).map (·.size)=some 1:=by kernel_rfl
def zRv:(prog.info? 121).map (·.size)=some 7:=by kernel_rfl
def zOy:fL prog 121=some [(Value.int IntKind.i64 0),(Value.int IntKind.i64 0),(Value.int IntKind.i64 0),(Value.int IntKind.i64 0),(Value.int IntKind.i64 0),(Value.slice none 0 0),(Value.slice none 0 0)]:=by kernel_rfl
def zr125:fL prog 125=some [(Value.string (ByteArray.mk #[])),(Value.int IntKind.i64 0),(Value.int IntKind.i64 0),(Value.int IntKind.i64 0),(Value.int IntKind.i64 0),(Value.int IntKind.i64 0),(Value.slice none 0 0),(Value.slice none 0 0)]:=by kernel_rfl
def zIf (mem:List Nmd) (s:lr) (hm:mem.length<=140737488355328)  :
    Pur cfg 63 [gV mem,vS s] (.tup [vTn ((dP mem s).getD zTn),vB (dP mem s).isSome]):=by
 refine zR func63 O ntmps63 results63 O fun z hz=>G O<|zV O O (qH ma O zOy O) ?_
 rintro _ _ ⟨b1,rfl,rfl⟩
 refine mm O<|zG<|ml O O<|zQ<|zY ⟨[(6,.c _),(0,.c _),(1,.c _),(4,.c _)],[_]⟩ (Weak.mk [true] ⟨zJ,zJ,zJ,zJ,T⟩ O)<|qL 1 0 O O (Nat) (fun k=>[(6,vI k)]) (fun k=>[]) (fun k=>k<=mem.length/\(dP mem s=dP (mem.drop k) s)) (fun k=>mem.length-k) ⟨0,⟨zA,O⟩,Weak.mk [true] ⟨zJ,zJ,zJ,zJ,T⟩ O⟩ ?_
 rintro k ⟨hk,hp⟩
 refine zG<|mo O O<|A O<|qB O el26<|yI O<|Y<|zK O ?_ ?_<;>intro c1<;>try simp only [sx] at c1
 ·obtain ⟨x,hx⟩:=qZ mem k zA
  refine zI<|zG<|zQ<|mo O O<|A O<|qC O el26 zA (getm uA)<|qR O fd125_0<|zH one9 zZ O<|A O<|wP O<|Y<|zK O ?_ ?_<;>intro c2<;>try simp only [sx] at c2
  ·refine mo O O<|A O<|qC O el26 zA (getm uA)<|qR O zYr<|zM zFy zZ O<|rStR 0 zRv O<|mm O<|zF<|fin2 (zP zFy O (J 0 O) O) (rs_c O) ?_
   rw [hp,fndT_at hx c2];rfl
  ·refine zI<|zT O<|A O<|qI O ⟨zA,zA⟩<|A O<|Y ?_
   refine ⟨k+1,⟨zA,hp.trans (fndT_nx hx c2)⟩,zA,Weak.mk [true] ⟨zJ,zJ,zJ,zJ,T⟩ O⟩
 ·refine qO<|G O<|yH ma O zOy pl121<|rStR 0 zRv O<|mm O<|zF<|fin2 (zP zFy O (J 0 O) O) (rs_c O) ?_
  rw [hp,fndT_end zA];rfl
def ref12_Shape (d:List Int) (hl:d.length<=17592186044416):
    Pur cfg 124 [vIs d] (vI (bX d)):=by
 refine zR func124 O ntmps124 results124 O fun z hz=>ml O O<|zG<|mo O O<|qB O el38<|zW O (yD O O O)<|Y<|zK O (fun c1=>?_) (fun c1=>?_)
 ·exact v30
 ·try simp only [sx] at c1
  refine zI<|zG<|ml O O<|zQ<|zY ⟨[(3,.c _),(0,.c _)],[]⟩ (Weak.mk [] ⟨zJ,zJ,T⟩ O)<|qL 1 0 O O (Nat) (fun k=>[(3,vI k)]) (fun k=>[]) (fun k=>k<=d.length/\((d.take k).all nN=true)) (fun k=>d.length-k) ⟨0,⟨zA,O⟩,Weak.mk [] ⟨zJ,zJ,T⟩ O⟩ ?_
  rintro k ⟨hk,hp⟩
  refine zG<|mo O O<|A O<|qB O el38<|yI O<|Y<|zK O (fun c2=>?_) (fun c2=>?_)
  ·exact o8
  ·try simp only [sx] at c2
   have hpos:d.all nN=true:=by rw [yW zA] at hp;exact hp
   refine qO<|ml O O<|zG<|ml O O<|zQ<|zY ⟨[(5,.c _),(4,.c _),(0,.c _)],[]⟩ (Weak.mk [] ⟨zJ,zJ,zJ,T⟩ O)<|qL 2 0 O O (Nat×Int) (fun ⟨j,s⟩=>[(5,vI j),(4,vI s)]) (fun ⟨j,s⟩=>[]) (fun ⟨j,s⟩=>j<=d.length/\(1<=s)/\(s<=4096)/\(bN 1 d=bN s (d.drop j))) (fun ⟨j,s⟩=>d.length-j) ⟨⟨0,1⟩,⟨zA,zA,zA,O⟩,Weak.mk [] ⟨zJ,VLe.of_eq (O),zJ,T⟩ O⟩ ?_
   rintro ⟨j,s⟩ ⟨hj,hs1,hs2,hs3⟩
   show AWP _ _ _ _ _ ⟨[(5,vI j),(4,vI s)]++_,[]++_⟩
   refine zG<|mo O O<|A O<|qB O el38<|yI O<|Y<|zK O (fun c4=>?_) (fun c4=>?_)
   ·try simp only [sx] at c4
    obtain ⟨m,hm⟩:=qZ d j zA
    refine zI<|zG<|zQ<|zG<|zG<|qV 7 mixed uB O O<|mr O (zO O O)<|mr O (zO O O)<|mr O (qE O el38 O O zA (getm uA))<|mr O (zD O one3 O zZ O)<|mr O (zO O O)<|mr O (zKb O O O zA)<|mr O (yD O O O)<|yQ<|Y<|zK O ?_ ?_<;>intro c5<;>try simp only [sx] at c5
    ·have hov:=quo_t hs1 c5
     refine ml O O<|zF<|zS O ?_
     rw [zQw zA hpos (zLe hm hs3 hov)]
    ·have hov:=quo_f hs1 (Int.not_lt.2 c5)
     have hm1:=zCc hs1 (zCb hpos hm)
     refine zI<|zT O<|A O<|A O<|A O<|qC O el38 zA (getm uA)<|zH one3 zZ O<|zW O (kC O O O (by have:=zCc hs1 (zCb hpos hm);exact ⟨zA,zA⟩))<|mm O<|zT O<|A O<|qI O ⟨zA,zA⟩<|A O<|Y ?_
     refine ⟨⟨j+1,s*m⟩,⟨zA,zA,zA,zGm hm hs3 hov⟩,(by show d.length-(j+1)<d.length-j;omega),Weak.mk [] ⟨zJ,zJ,zJ,T⟩ O⟩
   ·exact v27
def ref12_Size (d:List Int) (hl:d.length<=17592186044416) (hd:bX d=0):
    Pur cfg 125 [vIs d] (vI (fJ d)):=by
 refine zR func125 O ntmps125 results125 O ?_
 intro z hz
 obtain ⟨q1,hpos,t,ht,q2,q3⟩:=zFm hd
 refine ml O O<|ml O O<|zG<|ml O O<|zQ<|zY ⟨[(4,.c _),(3,.c _),(0,.c _)],[]⟩ (Weak.mk [] ⟨zJ,zJ,zJ,T⟩ O)<|qL 2 0 O O (Nat×Int) (fun ⟨k,s⟩=>[(4,vI k),(3,vI s)]) (fun ⟨k,s⟩=>[]) (fun ⟨k,s⟩=>k<=d.length/\(1<=s)/\(s<=4096)/\(bN 1 d=bN s (d.drop k))) (fun ⟨k,s⟩=>d.length-k) ⟨⟨0,1⟩,⟨zA,zA,zA,O⟩,Weak.mk [] ⟨zJ,VLe.of_eq (O),zJ,T⟩ O⟩ ?_
 rintro ⟨k,s⟩ ⟨hk,hs1,hs2,hs3⟩
 show AWP _ _ _ _ _ ⟨[(4,vI k),(3,vI s)]++_,[]++_⟩
 refine zG<|mo O O<|A O<|qB O el38<|yI O<|Y<|zK O ?_ ?_<;>intro c1<;>try simp only [sx] at c1
 ·obtain ⟨m,hm⟩:=qZ d k zA
  have hm1:=zCc hs1 (zCb hpos hm)
  have hfit:=zPl hm hs3 ht
  refine zI<|zG<|zQ<|zT O<|A O<|A O<|A O<|qC O el38 zA (getm uA)<|zH one3 zZ O<|zW O (kC O O O ⟨zA,zA⟩)<|mm O<|zT O<|A O<|qI O ⟨zA,zA⟩<|A O<|Y ?_
  refine ⟨⟨k+1,s*m⟩,⟨zA,zA,zA,zGm hm hs3 hfit⟩,(by show d.length-(k+1)<d.length-k;omega),Weak.mk [] ⟨zJ,zJ,zJ,T⟩ O⟩
 ·refine qO<|mo O O<|mm O<|zF<|zS O ?_
  rw [zEp hd (zLf hs3 zA)]
def zNy (t:Tn) (hd:t.Dims.length<=17592186044416) (hv:t.Vals.length<=140737488355328):
    Pur cfg 94 [vTn t] (vI (jG t)):=by
 refine zR func94 O ntmps94 results94 O fun z hz=>G O<|mj O fun b1=>mm O<|zG<|G O<|zC O zMd<|zM yE (J 0 O) O<|qD O uB (zEf t.T) (vlr O)<|kO O<|Y<|zK O ?_ ?_<;>intro c1<;>try simp only [sx] at c1
 ·have ht:dD t.T=false:=by simpa using c1
  refine ml O O<|zF<|zS O ?_
  rw [tn_10 ht]
 ·have ht:dD t.T=true:=by simpa using c1
  refine zI<|zG<|G O<|zC O zFs<|zH zBz (J 0 O) O<|qD O uB (ref12_Shape t.Dims hd) (vlr O)<|mm O<|mo O O<|yL O<|Y<|zK O ?_ ?_<;>intro c2<;>try simp only [sx] at c2
  ·refine mo O O<|mm O<|zF<|zS O ?_
   rw [tn_d ht c2]
  ·refine zI<|zG<|zG<|qV 7 mixed uB O O<|mr O (zE O zFr O)<|mr O (zD O zNz O (J 0 O) O)<|mr O (yK O zHf O)<|mr O (zE O zFs O)<|mr O (zD O zBz O (J 0 O) O)<|mr O (qG O uB (ref12_Size t.Dims hd c2) (vlr O))<|mr O (kB O O O)<|yQ<|Y<|zK O ?_ ?_<;>intro c3<;>try simp only [sx] at c3
   ·refine ml O O<|zF<|zS O ?_
    rw [tn_l ht c2 c3]
   ·refine zI<|zG<|ml O O<|zQ<|zY ⟨[(4,.c _),(1,.c _)],[_]⟩ (Weak.mk [true] ⟨zJ,zJ,T⟩ O)<|qL 1 0 O O (Nat) (fun k=>[(4,vI k)]) (fun k=>[]) (fun k=>k<=t.Vals.length/\((t.Vals.take k).all (bQ t.T)=true)) (fun k=>t.Vals.length-k) ⟨0,⟨zA,O⟩,Weak.mk [true] ⟨zJ,zJ,T⟩ O⟩ ?_
    rintro k ⟨hk,hp⟩
    refine zG<|mo O O<|zC O zFr<|zH zNz (J 0 O) O<|qB O zHf<|yI O<|Y<|zK O ?_ ?_<;>intro c4<;>try simp only [sx] at c4
    ·obtain ⟨x,hx⟩:=qZ t.Vals k zA
     refine zI<|zG<|zQ<|zG<|qV 9 mixed uB O O<|mr O (zE O zMd O)<|mr O (zU O yE O (J 0 O) O)<|mr O (zE O zFr O)<|mr O (zD O zNz O (J 0 O) O)<|mr O (zO O O)<|mr O (qE O zHf O O zA (getm uA))<|mr O (zU O yP O zZ O)<|mr O (qG O uB (zHr t.T x ht) (vlr O))<|mr O (kG O O)<|yQ<|Y<|zK O ?_ ?_<;>intro c5<;>try simp only [sx] at c5
     ·have hb:bQ t.T x=false:=by simpa using c5
      refine ml O O<|zF<|zS O ?_
      rw [tn_v ht c2 c3 hx hb]
     ·have hb:bQ t.T x=true:=by simpa using c5
      refine zI<|zT O<|A O<|qI O ⟨zA,zA⟩<|A O<|Y ?_
      refine ⟨k+1,⟨zA,zFo hx hp hb⟩,zA,Weak.mk [true] ⟨zJ,zJ,T⟩ O⟩
    ·refine qO<|ml O O<|zF<|zS O ?_
     rw [yW zA] at hp;rw [tn_0 ht c2 c3 hp]
def ref19_Must (mem:List Nmd) (b:Bf) (hm:mem.length<=140737488355328) (hF:∀x,x∈mem->x.T.Dims.length<=17592186044416/\x.T.Vals.length<=140737488355328):
    Pur cfg 62 [gV mem,vS b.Name,vTy b.T,vIs b.Dims] (vI (jH mem b)):=by
 refine zR func62 O ntmps62 results62 O ?_
 intro z hz
 obtain ⟨t,ht⟩:∃t,t=(dP mem b.Name).getD zTn:=⟨_,rfl⟩
 refine G O<|mj O fun b1=>mm O<|mo O O<|A O<|qD O uB (show Pur cfg 63 [gV mem,vS b.Name] (.tup [vTn t,vB (dP mem b.Name).isSome]) from ht ▸ zIf mem b.Name hm) (vlr O)<|qP O<|yG O<|qS O<|zV O O (qH ma O zOy O) ?_
 rintro _ _ ⟨b2,rfl,rfl⟩
 refine rStR 0 zRv O<|mm O<|zG<|zQ<|mo O O<|kO O<|mm O<|zK O ?_ ?_<;>intro c1<;>try simp only [sx] at c1
 ·have e0:jH mem b=9:=must_none (fnd_none (by simpa using c1))
  refine ml O O<|zF<|zS O ?_
  rw [e0]
 ·have hs:dP mem b.Name=some t:=fnd_some (by simpa using c1) ht
  obtain ⟨y,hy,hyt⟩:=zQq hs
  obtain ⟨hd,hv⟩:=hF y hy
  rw [hyt] at hd hv
  refine G O<|zM zFy (J 0 O) O<|qD O uB (zNy t hd zA) (vlr O)<|yL O<|mm O<|zK O ?_ ?_<;>intro c2<;>try simp only [sx] at c2
  ·have e0:jH mem b=1:=must_1 hs c2
   refine ml O O<|zF<|zS O ?_
   rw [e0]
  ·refine G O<|zC O zMd<|zM yE (J 0 O) O<|zM yE (J 1 O) O<|zW O (zAb O fl48 O O O)<|mm O<|zK O (fun c3=>?_) (fun c3=>?_)
   ·have c3:¬t.T=b.T:=tyv_f c3
    have e0:jH mem b=10:=must_10 hs c2 c3
    refine ml O O<|zF<|zS O ?_
    rw [e0]
   ·have c3:t.T=b.T:=tyv_t c3
    refine G O<|zC O zFs<|zH zBz (J 0 O) O<|A O<|qD O uB (zZx t.Dims b.Dims hd) (vlr O)<|kO O<|mm O<|zK O ?_ ?_<;>intro c4<;>try simp only [sx] at c4
    ·have c4:¬t.Dims=b.Dims:=by simpa using c4
     have e0:jH mem b=15:=must_15 hs c2 c3 c4
     refine ml O O<|zF<|zS O ?_
     rw [e0]
    ·have c4:t.Dims=b.Dims:=by simpa using c4
     have e0:jH mem b=0:=must_0 hs c2 c3 c4
     refine zI<|ml O O<|zF<|zS O ?_
     rw [e0]
def zUd (n:Ns) (hn:n.Ok) (hw:bD n.Body<=900000) (ins:List Nmd) (hm:ins.length<=140737488355328) (hF:∀x,x∈ins->x.T.Dims.length<=17592186044416/\x.T.Vals.length<=140737488355328):
    Pur cfg 26 [vNs n,gV ins] (.tup [gV (lA n ins).1,vI (lA n ins).2]):=by
 refine zR func26 O ntmps26 results26 O ?_
 intro z hz
 have hnb:=hn.bufs
 refine G O<|mj O fun b1=>A O<|mm O<|zG<|G O<|zM kE (J 0 O) O<|qD O uB (zNx n hn hw) (vlr O)<|qP O<|qS O<|qS O<|A O<|mm O<|mo O O<|yL O<|Y<|zK O ?_ ?_<;>intro c1<;>try simp only [sx] at c1
 ·refine mo O O<|yJ 8 O<|mm O<|zF<|fin2 (rs_c O) (rs_c O) ?_
  rw [init_v c1];rfl
 ·have hbT:=bufs_ty (valid_bufs c1).1
  refine zI<|mo O O<|yU _ (wE 125 8)<|Y<|zG<|ml O O<|zQ<|zY ⟨[(9,.c _),(8,.c _),(1,.c _),(2,.c _)],[_,_]⟩ (Weak.mk [true,true] ⟨zJ,zJ,zJ,zJ,T⟩ O)<|qL 2 1 O O (Nat×Value) (fun ⟨k,sw⟩=>[(9,vI k),(8,.c (.lit sw))]) (fun ⟨k,sw⟩=>[E.vec sw 125 8 (((n.Bufs.take k).map (xG ins)).map Nmd.cells)]) (fun ⟨k,sw⟩=>k<=n.Bufs.length/\(nD ins n.Bufs=nD ins (n.Bufs.drop k))) (fun ⟨k,sw⟩=>n.Bufs.length-k) ⟨⟨0,(.slice none 0 0)⟩,⟨zA,O⟩,Weak.mk [true,true] ⟨zJ,zJ,zJ,zJ,T⟩ O⟩ ?_
  rintro ⟨k,sw⟩ ⟨hk,hp⟩
  show AWP _ _ _ _ _ ⟨[(9,vI k),(8,.c (.lit sw))]++_,[E.vec sw 125 8 (((n.Bufs.take k).map (xG ins)).map Nmd.cells)]++_⟩
  refine zG<|mo O O<|zC O zAm<|zH zDx (J 1 O) O<|qB O el22<|yI O<|Y<|zK O ?_ ?_<;>intro c2<;>try simp only [sx] at c2
  ·obtain ⟨b,hb⟩:=qZ n.Bufs k zA
   have hbt:=hbT b (qA hb)
   have hsz:=zMf b.Dims
   have hbd:=hn.dims b (qA hb)
   refine zI<|zG<|zQ<|G O<|zC O zAm<|zH zDx (J 1 O) O<|A O<|qC O el22 zA (getm uA)<|zM zMl zZ O<|zV O O (qH lw O zr94 O) ?_
   rintro _ _ ⟨b3,rfl,rfl⟩
   refine rStR 0 sz94 O<|Y<|zG<|G O<|zC O zQr<|zH one3 (J 0 O) O<|yF O<|Y<|qK O (fun c3=>?_) (fun c3=>?_)
   ·refine zG<|mo O O<|zC O zFh<|zH one9 (J 0 O) O<|zC O zGy<|zM yE (J 0 O) O<|zC O zGx<|zH zBz (J 0 O) O<|qD O uB (ref19_Must ins b hm hF) (vlr O)<|mm O<|mo O O<|yL O<|Y<|zK O ?_ ?_<;>intro c4<;>try simp only [sx] at c4
    ·have hE:¬vQ ins b=0:=by rw [iniE_p c3];exact c4
     refine mo O O<|yJ 8 O<|mm O<|zF<|fin2 (rs_c O) (rs_c O) ?_
     have hL:=(ini_bad hb hp hE).trans (iniE_p c3)
     rw [init_e c1 (by rw [hL];exact c4),hL];rfl
    ·have hE:vQ ins b=0:=(iniE_p c3).trans c4
     have hB:=iniB_f (ins:=ins) c3
     refine zI<|mo O O<|zC O zFh<|zH one9 (J 0 O) O<|qD O uB (zIf ins b.Name hm) (vlr O)<|qP O<|yG O<|qS O<|zV O O (qH ma O zOy O) ?_
     rintro _ _ ⟨b4,rfl,rfl⟩
     refine rStR 0 zRv O<|mm O<|mo O O<|zC O zFh<|zH one9 (J 1 O) O<|zM zFy (J 0 O) O<|qU O zr125 pl125<|zW O (yA O el26 zr125 O O O O)<|zV O O (yO 2 O el26 O O O uC uC) ?_
     rintro _ _ ⟨sv5,rfl,rfl⟩
     refine mm O<|qO<|zT O<|A O<|qI O ⟨zA,zA⟩<|A O<|Y ?_
     refine ⟨⟨k+1,sv5⟩,⟨zA,ini_next hb hp hE⟩,(by show n.Bufs.length-(k+1)<n.Bufs.length-k;omega),Weak.mk [false,false,true,true] ⟨zJ,zJ,zJ,zJ,T⟩ (by exact zGv (by rw [yR hb,aC,aC,cy,cy];rw [hB];first|rfl|(rw [hsd];rfl)))⟩
   ·have hE:=iniE_z (ins:=ins) c3
    have hB:=iniB_z (ins:=ins) c3
    obtain ⟨q1,hpos,t,ht,q2,q3⟩:=zFm hbt.2
    refine zI<|G O<|zC O zGy<|zM yE (J 0 O) O<|zC O zGx<|zH zBz (J 0 O) O<|qU O zOy pl121<|zV O O (qW O zOy) ?_
    rintro _ _ ⟨b6,rfl,rfl⟩
    refine yU _ (wE 3 1)<|yU _ (wE 46 2)<|rStR 2 zRv O<|Y<|ml O O<|zG<|ml O O<|zQ<|zY ⟨[(16,.c _),(15,.c _),(1,.c _),(2,.c _),(8,.c _),(9,.c _),(10,.c _),(14,.c _)],[_,_,_,_,_]⟩ (Weak.mk [true,false,true,true,true,true] ⟨zJ,zJ,zJ,zJ,zJ,zJ,zJ,zJ,T⟩ O)<|qL 2 0 O O (Nat×Int) (fun ⟨j,s⟩=>[(16,vI j),(15,vI s)]) (fun ⟨j,s⟩=>[]) (fun ⟨j,s⟩=>j<=b.Dims.length/\(1<=s)/\(s<=4096)/\(bN 1 b.Dims=bN s (b.Dims.drop j))) (fun ⟨j,s⟩=>b.Dims.length-j) ⟨⟨0,1⟩,⟨zA,zA,zA,O⟩,Weak.mk [true,true,true,true,true] ⟨zJ,VLe.of_eq (O),zJ,zJ,zJ,zJ,zJ,zJ,T⟩ O⟩ ?_
    rintro ⟨j,s⟩ ⟨hj,hs1,hs2,hs3⟩
    show AWP _ _ _ _ _ ⟨[(16,vI j),(15,vI s)]++_,[]++_⟩
    refine zG<|mo O O<|zC O zGx<|zH zBz (J 2 O) O<|qB O el38<|yI O<|Y<|zK O ?_ ?_<;>intro c5<;>try simp only [sx] at c5
    ·obtain ⟨d,hd⟩:=qZ b.Dims j zA
     have hm1:=zCc hs1 (zCb hpos hd)
     have hfit:=zPl hd hs3 ht
     refine zI<|zG<|zQ<|zT O<|A O<|zC O zGx<|zH zBz (J 2 O) O<|A O<|qC O el38 zA (getm uA)<|zH one3 zZ O<|zW O (kC O O O ⟨zA,zA⟩)<|mm O<|zT O<|A O<|qI O ⟨zA,zA⟩<|A O<|Y ?_
     refine ⟨⟨j+1,s*d⟩,⟨zA,zA,zA,zGm hd hs3 hfit⟩,(by show b.Dims.length-(j+1)<b.Dims.length-j;omega),Weak.mk [true,true,true,true,true] ⟨zJ,zJ,zJ,zJ,zJ,zJ,zJ,zJ,T⟩ O⟩
    ·have hsd:fJ b.Dims=s:=zEp hbt.2 (zLf hs3 zA)
     refine qO<|zG<|ml O O<|zQ<|zY ⟨[(17,.c _),(1,.c _),(2,.c _),(8,.c _),(9,.c _),(10,.c _),(14,.c _),(15,.c _)],[_,_,_,_,_]⟩ (Weak.mk [true,true,true,true,true] ⟨zJ,zJ,zJ,zJ,zJ,zJ,zJ,zJ,T⟩ O)<|qL 1 2 O O (Nat×Value) (fun ⟨i,sv⟩=>[(17,vI i)]) (fun ⟨i,sv⟩=>[E.vec sv 46 2 ((List.replicate i (⟨0,1⟩:Vl)).map Vl.cells),E.row b6 121 [cI b.T.Kind,cI b.T.Bits,cI b.T.Frac,cI b.T.Round,cI b.T.Over,.sl 1 (b.Dims.map fun n=>[cI n]),.lit sv]]) (fun ⟨i,sv⟩=>i<=s.toNat) (fun ⟨i,sv⟩=>s.toNat-i) ⟨⟨0,.slice none 0 0⟩,(bn _),Weak.mk [true,true,true,true,true] ⟨zJ,zJ,zJ,zJ,zJ,zJ,zJ,zJ,T⟩ O⟩ ?_
     rintro ⟨i,sv⟩ hi
     refine zG<|mo O O<|A O<|yI O<|Y<|zK O ?_ ?_<;>intro c6<;>try simp only [sx] at c6
     ·refine zI<|zG<|zQ<|qV 6 mixed uB O O<|mr O (zE O zFr O)<|mr O (zD O zNz O (J 1 O) O)<|mr O (zE O zGy O)<|mr O (zU O yE O (J 2 O) O)<|mr O (qG O uB (ref04_Zero1 hbt.1) (vlr O))<|mr O (yA O zHf W O O O O)<|yQ<|zV O O (yO 0 O zHf O O O (by simp only [lLm,List.length_replicate,lLc,lLn];omega) (by simp only [lLm,List.length_replicate,lLc,lLn];omega)) ?_
      rintro _ _ ⟨sv9,rfl,rfl⟩
      refine zC O zFr<|rStR 1 sz119 O<|Y<|zT O<|A O<|qI O ⟨zA,zA⟩<|A O<|Y ?_
      refine ⟨⟨i+1,sv9⟩,zA,(by show s.toNat-(i+1)<s.toNat-i;omega),Weak.mk [true,true,true,true,true] ⟨zJ,zJ,zJ,zJ,zJ,zJ,zJ,zJ,T⟩ (by exact mem2_eq' vrep_next)⟩
     ·obtain rfl:i=s.toNat:=by omega
      refine zY _ (yV 0 O (regs':=[]) (μ':=[_,_,_,_]) T ⟨EFle.row (ds:=[_,_,_,_,_,_,_]) ⟨.inl O,.inl O,.inl O,.inl O,.inl O,.inl O,.inr ⟨O,O⟩,T⟩,EFle.refl _,EFle.refl _,EFle.refl _,T⟩)<|qO<|zT O<|A O<|zC O zFh<|zH one9 (J 1 O) O<|zM zFy (J 0 O) O<|qU O zr125 pl125<|zW O (yA O el26 zr125 O O O O)<|zV O O (yO 2 O el26 O O O uC uC) ?_
      rintro _ _ ⟨sv10,rfl,rfl⟩
      refine mm O<|zT O<|A O<|qI O ⟨zA,zA⟩<|A O<|Y ?_
      refine ⟨⟨k+1,sv10⟩,⟨zA,ini_next hb hp hE⟩,(by show n.Bufs.length-(k+1)<n.Bufs.length-k;omega),Weak.mk [false,false,true,true] ⟨zJ,zJ,zJ,zJ,T⟩ (by exact zGv (by rw [yR hb,aC,aC,cy,cy];rw [hB];first|rfl|(rw [hsd];rfl)))⟩
  ·refine qO<|zG<|zY _ (yV 0 O (regs':=[(8,_)]) (μ':=[_]) ⟨FLe.sl,T⟩ ⟨EFle.refl _,T⟩)<|zT O<|A O<|A O<|mm O<|zF<|fin2 (rs_c O) (rs_c O) ?_
   rw [yW (l:=n.Bufs) (k:=k) zA,init_ok c1 (ini_end zA hp)]
def base_Vals (l:List Vl) (hl:l.length<=140737488355328):
    Pur cfg 97 [eR l,eR l] (vB true):=by
 refine zR func97 O ntmps97 results97 O fun z hz=>ml O O<|zG<|mo O O<|qB O zHf<|A O<|qB O zHf<|yL O<|Y<|zK O ?_ ?_<;>intro c1<;>try simp only [sx] at c1
 ·exact absurd c1 uD
 ·refine zI<|zG<|ml O O<|zQ<|zY ⟨[(5,.c _),(0,.c _),(1,.c _)],[]⟩ (Weak.mk [] ⟨zJ,zJ,zJ,T⟩ O)<|qL 1 0 O O (Nat) (fun k=>[(5,vI k)]) (fun k=>[]) (fun k=>k<=l.length) (fun k=>l.length-k) ⟨0,zA,Weak.mk [] ⟨zJ,zJ,zJ,T⟩ O⟩ ?_
  rintro k hk
  refine zG<|mo O O<|A O<|qB O zHf<|yI O<|Y<|zK O (fun c2=>?_) (fun c2=>?_)
  ·try simp only [sx] at c2
   obtain ⟨x,hx⟩:=qZ l k zA
   refine zI<|zG<|zQ<|zG<|qV 9 mixed uB O O<|mr O (zO O O)<|mr O (zO O O)<|mr O (qE O zHf O O zA (getm uA))<|mr O (zU O yP O zZ O)<|mr O (zO O O)<|mr O (zO O O)<|mr O (qE O zHf O O zA (getm hx))<|mr O (zU O yP O zZ O)<|mr O (zAb O fl46 O O O)<|yQ<|Y<|zK O ?_ ?_<;>intro c3<;>try simp only [sx] at c3
   ·exact absurd c3 (by first|(rw [show List.take 2 x.cells=x.cells from rfl,vl_lits];simp;done)|simp)
   ·refine zI<|zT O<|A O<|qI O ⟨zA,zA⟩<|A O<|Y ?_
    refine ⟨k+1,zA,zA,Weak.mk [] ⟨zJ,zJ,zJ,T⟩ O⟩
  ·refine qO<|ml O O<|zF<|zS O ?_
   exact O
def base_Tensor (t:Tn) (hd:t.Dims.length<=17592186044416) (hv:t.Vals.length<=140737488355328):
    Pur cfg 66 [vTn t,vTn t] (vB true):=by
 refine zR func66 O ntmps66 results66 O fun z hz=>G O<|mj O fun b1=>mj O fun b2=>mm O<|G O<|zC O zMd<|zM yE (J 1 O) O<|zC O zMd<|zM yE (J 0 O) O<|zW O (zVk O fl48 O O O)<|A O<|rL0 O (fun g1_5=>zE O zFs O) O<|rL1 11 O (fun g1_5=>zD O zBz O (J 1 O) O) O<|rL0 O (fun g1_5=>zE O zFs O) O<|rL1 13 O (fun g1_5=>zD O zBz O (J 0 O) O) O<|rLz [(12,_),(14,_)] O gv1 ⟨O,O,O,O,T⟩ (fun g1_5=>qG O uB (show Pur cfg 42 [vIs t.Dims,vIs t.Dims] (vB true) from by have e:=zZx t.Dims t.Dims hd;rw [aw rfl] at e;exact e) (vlr O)) O<|yT O (fun h=>h)<|A O<|rL0 O (fun g1_12=>zE O zFr O) O<|rL1 18 O (fun g1_12=>zD O zNz O (J 1 O) O) O<|rL0 O (fun g1_12=>zE O zFr O) O<|rL1 20 O (fun g1_12=>zD O zNz O (J 0 O) O) O<|rLz [(19,_),(21,_)] O gv1 ⟨O,O,O,O,T⟩ (fun g1_12=>qG O uB (base_Vals t.Vals hv) (vlr O)) O<|yT O (fun h=>h)<|mm O<|zF<|zS O ?_
 have e:bZ (List.take 5 t.cells) (List.take 5 t.cells)=true:=ty_eqv t.T
 exact ag vB (by simp [Lz,e])
def base_Nameds (l:List Nmd) (hl:l.length<=140737488355328) (hF:∀x,x∈l->x.T.Dims.length<=17592186044416/\x.T.Vals.length<=140737488355328):
    Pur cfg 28 [gV l,gV l] (vB true):=by
 refine zR func28 O ntmps28 results28 O fun z hz=>ml O O<|zG<|mo O O<|qB O el26<|A O<|qB O el26<|yL O<|Y<|zK O ?_ ?_<;>intro c1<;>try simp only [sx] at c1
 ·exact (c1 T).elim
 ·refine zI<|zG<|ml O O<|zQ<|zY ⟨[(5,.c _),(0,.c _),(1,.c _)],[]⟩ (Weak.mk [] ⟨zJ,zJ,zJ,T⟩ O)<|qL 1 0 O O (Nat) (fun k=>[(5,vI k)]) (fun k=>[]) (fun k=>k<=l.length) (fun k=>l.length-k) ⟨0,zA,Weak.mk [] ⟨zJ,zJ,zJ,T⟩ O⟩ ?_
  rintro k hk
  refine zG<|mo O O<|A O<|qB O el26<|yI O<|Y<|zK O (fun c2=>?_) (fun c2=>?_)
  ·try simp only [sx] at c2
   obtain ⟨x,hx⟩:=qZ l k zA
   refine zI<|zG<|zQ<|zG<|qV 25 mixed uB O O<|mr O (zO O O)<|mr O (zO O O)<|mr O (qE O el26 O O zA (getm uA))<|mr O (qN O fd125_0 O)<|mr O (zD O one9 O zZ O)<|mr O (zO O O)<|mr O (zO O O)<|mr O (qE O el26 O O zA (getm hx))<|mr O (qN O fd125_0 O)<|mr O (zD O one9 O zZ O)<|mr O (zBq O O O)<|mr O (zO O O)<|qM [] O O O O gv1 T (fun g6_11=>zO O O) O<|qM [] O O O O gv1 T (fun g6_11=>zO O O) O<|qM [(29,_),(30,_)] O O O O gv1 ⟨O,O,O,O,T⟩ (fun g6_11=>qE O el26 O O zA (getm uA)) O<|qM [(31,_)] O O O O gv1 ⟨O,O,T⟩ (fun g6_11=>qN O zYr O) O<|qM [(32,_)] O O O O gv1 ⟨O,O,T⟩ (fun g6_11=>zU O zFy O zZ O) O<|qM [] O O O O gv1 T (fun g6_11=>zO O O) O<|qM [] O O O O gv1 T (fun g6_11=>zO O O) O<|qM [(34,_),(35,_)] O O O O gv1 ⟨O,O,O,O,T⟩ (fun g6_11=>qE O el26 O O zA (getm hx)) O<|qM [(36,_)] O O O O gv1 ⟨O,O,T⟩ (fun g6_11=>qN O zYr O) O<|qM [(37,_)] O O O O gv1 ⟨O,O,T⟩ (fun g6_11=>zU O zFy O zZ O) O<|qM [(33,_),(38,_)] O O O O gv1 ⟨O,O,O,O,T⟩ (fun g6_11=>qG O uB (base_Tensor x.T (hF x (qA hx)).1 (hF x (qA hx)).2) (vlr O)) O<|qM [(39,_)] O O O O gv1 ⟨O,O,T⟩ (fun g6_11=>kG O O) O<|mr O (zAr O O O O (fun h=>(lzf h)))<|yQ<|Y<|zK O (fun c3=>?_) (fun c3=>?_)
   ·exact absurd c3 (by simp [Lz])
   ·refine zI<|zT O<|A O<|qI O ⟨zA,zA⟩<|A O<|Y ?_
    refine ⟨k+1,zA,zA,Weak.mk [] ⟨zJ,zJ,zJ,T⟩ O⟩
  ·refine qO<|ml O O<|zF<|zS O ?_
   rfl
end Go.W
end
section
set_option maxRecDepth 10000
namespace Go.W
open Go Go.Eng Go.Proofs Go.L41 Go.Br Tryz
attribute [local irreducible] AWP RWP TD fK
abbrev vIxl (l:List Ix):V:=.c (.sl 4 (l.map Ix.cells))
abbrev vIxa (x:Ix):V:=.agg x.cells
def zBl:nE prog 212=some 8:=by kernel_rfl
def zHa:bO prog 212 0=some (0,46):=by kernel_rfl
def zFq:bO prog 212 1=some (2,48):=by kernel_rfl
def zJx:bO prog 212 2=some (7,29):=by kernel_rfl
def zNp:fW prog 212=some [(0,2),(2,5),(7,1)]:=by kernel_rfl
def zEi:(prog.info? 212).map (·.size)=some 8:=by kernel_rfl
def zGh:fL prog 212=some [(Value.int IntKind.i64 0),(Value.int IntKind.i64 0),(Value.int IntKind.i64 0),(Value.int IntKind.i64 0),(Value.int IntKind.i64 0),(Value.int IntKind.i64 0),(Value.int IntKind.i64 0),(Value.int IntKind.i64 0)]:=by kernel_rfl
def zTl (mem:List Nmd) (hm:mem.length<=140737488355328) (hF:∀x,x∈mem->x.T.Dims.length<=17592186044416/\x.T.Vals.length<=140737488355328) (s:lr):
    Pur cfg 191 [gV mem,vS s] (.tup [vTn (fO mem s).1,vI (fO mem s).2]):=by
 refine zR func191 O ntmps191 results191 O ?_
 intro z hz
 obtain ⟨t,ht⟩:∃t,t=(dP mem s).getD zTn:=⟨_,rfl⟩
 refine G O<|zV O O (qH ma O zOy O) ?_
 rintro _ _ ⟨b1,rfl,rfl⟩
 refine mm O<|mo O O<|A O<|qD O uB (show Pur cfg 63 [gV mem,vS s] (.tup [vTn t,vB (dP mem s).isSome]) from ht ▸ zIf mem s hm) (vlr O)<|qP O<|yG O<|qS O<|zV O O (qH ma O zOy O) ?_
 rintro _ _ ⟨b2,rfl,rfl⟩
 refine rStR 0 zRv O<|mm O<|zG<|mo O O<|kO O<|Y<|zK O ?_ ?_<;>intro c1<;>try simp only [sx] at c1
 ·have e0:=ten_9 (show (dP mem s).isSome=false by simpa using c1)
  refine G O<|yH ma O zOy pl121<|rStR 1 zRv O<|mm O<|zF<|fin2 (zP zFy O (J 1 O) O) (rs_c O) ?_
  rw [e0];rfl
 ·have hs:dP mem s=some t:=fnd_some (by simpa using c1) ht
  obtain ⟨y,hy,hyt⟩:=zQq hs
  obtain ⟨hd,hv⟩:=hF y hy
  rw [hyt] at hd hv
  refine zI<|zG<|G O<|zM zFy (J 0 O) O<|qD O uB (zNy t hd hv) (vlr O)<|yL O<|Y<|zK O ?_ ?_<;>intro c2<;>try simp only [sx] at c2
  ·have e0:=ten_1 hs c2
   refine G O<|yH ma O zOy pl121<|rStR 1 zRv O<|mm O<|zF<|fin2 (zP zFy O (J 1 O) O) (rs_c O) ?_
   rw [e0];rfl
  ·have e0:=ten_0 hs c2
   refine zI<|G O<|zM zFy (J 0 O) O<|rStR 1 zRv O<|mm O<|zF<|fin2 (zP zFy O (J 1 O) O) (rs_c O) ?_
   rw [e0];rfl
def ref19_index (mem:List Nmd) (hm:mem.length<=140737488355328) (hF:∀x,x∈mem->x.T.Dims.length<=17592186044416/\x.T.Vals.length<=140737488355328) (env:List Bd) (hel:env.length<=1000000) (her:∀x,x∈env->r64 x.Val) (x:Ix) (hX:IxB x) (d:Int) (hd1:1<=d) (hd2:d<=4096):
    Pur cfg 171 [gV mem,lN env,vIxa x,vI d] (.tup [vI (mJ mem env x d).1,vI (mJ mem env x d).2]):=by
 refine zR func171 O ntmps171 results171 O ?_
 intro z hz
 obtain ⟨t,ht⟩:∃t,t=(fO mem x.From).1:=⟨_,rfl⟩
 obtain ⟨hXl,hXa,hXn⟩:=hX
 refine G O<|mj O fun b1=>A O<|mm O<|zG<|G O<|zC O zFi<|zH one9 (J 0 O) O<|wP O<|Y<|zK O ?_ ?_<;>intro c1<;>try simp only [sx] at c1
 ·refine G O<|zC O zFw<|zM kQ (J 0 O) O<|A O<|qD O uB (zSf x.Lin env hel her hXl.1 hXl.2) (vlr O)<|qS O<|qS O<|A O<|mm O<|zF<|fin2 (rs_c O) (rs_c O) ?_
  rw [idx_l c1]
 ·refine zI<|mo O O<|zC O zFi<|zH one9 (J 0 O) O<|qD O uB (show Pur cfg 191 [gV mem,vS x.From] (.tup [vTn t,vI (fO mem x.From).2]) from ht ▸ zTl mem hm hF x.From) (vlr O)<|qP O<|yG O<|qS O<|zV O O (qH ma O zOy O) ?_
  rintro _ _ ⟨b2,rfl,rfl⟩
  refine rStR 0 zRv O<|mm O<|zG<|mo O O<|yL O<|Y<|zK O ?_ ?_<;>intro c2<;>try simp only [sx] at c2
  ·refine mo O O<|A O<|mm O<|zF<|fin2 (rs_c O) (rs_c O) ?_
   rw [idx_t c1 c2]
  ·obtain ⟨hte,y,hy,hyt⟩:=ten_ok c2
   rw [←ht] at hte hyt
   have hdm:=tn_dims hte
   have hvl:=tn_len hte
   obtain ⟨q1,hpos,S,hS,S1,S2⟩:=zFm hdm
   have hsz:=zEp hdm hS
   refine zI<|zG<|G O<|zC O zMd<|zC O zEc<|zH one3 (J 0 O) O<|yL O<|Y<|zK O ?_ ?_<;>intro c3<;>try simp only [sx] at c3
   ·refine mo O O<|mm O<|zF<|fin2 (rs_c O) (rs_c O) ?_
    subst ht
    rw [idx_10 c1 c2 c3]
   ·refine zI<|zG<|G O<|zC O zBa<|zH zFf (J 1 O) O<|qB O el90<|zC O zFs<|zH zBz (J 0 O) O<|qB O el38<|yL O<|Y<|zK O ?_ ?_<;>intro c4<;>try simp only [sx] at c4
    ·refine mo O O<|mm O<|zF<|fin2 (rs_c O) (rs_c O) ?_
     subst ht
     rw [idx_11 c1 c2 c3 zA]
    ·refine zI<|ml O O<|zG<|ml O O<|zQ<|zY ⟨[(13,.c _),(12,.c _),(1,.c _),(3,.c _),(6,.c _),(10,.c _)],[_,_]⟩ (Weak.mk [true,true] ⟨zJ,zJ,zJ,zJ,zJ,zJ,T⟩ O)<|qL 2 0 O O (Nat×Int×Int) (fun ⟨k,a,s⟩=>[(13,vI k),(12,vI a)]) (fun ⟨k,a,s⟩=>[]) (fun ⟨k,a,s⟩=>k<=x.At.length/\(lU 0 (x.At.map fun f=>bY f env) t.Dims=lU a ((x.At.map fun f=>bY f env).drop k) (t.Dims.drop k))/\(0<=a)/\(a<s)/\(1<=s)/\(s<=4096)/\(bN 1 t.Dims=bN s (t.Dims.drop k))) (fun ⟨k,a,s⟩=>x.At.length-k) ⟨⟨0,0,1⟩,⟨zA,O,zA,zA,zA,zA,O⟩,Weak.mk [true,true] ⟨zJ,VLe.of_eq (O),zJ,zJ,zJ,zJ,T⟩ O⟩ ?_
     rintro ⟨k,a,s⟩ ⟨hk,hp,ha0,has,hs1,hs2,hs3⟩
     show AWP _ _ _ _ _ ⟨[(13,vI k),(12,vI a)]++_,[]++_⟩
     refine zG<|mo O O<|zC O zBa<|zH zFf (J 1 O) O<|qB O el90<|yI O<|Y<|zK O ?_ ?_<;>intro c5<;>try simp only [sx] at c5
     ·obtain ⟨f,hf⟩:=qZ x.At k zA
      obtain ⟨m,hmd⟩:=qZ t.Dims k zA
      have hgx:(x.At.map fun f=>bY f env)[k]? =some (bY f env):=by rw [bu,hf];rfl
      refine zI<|zG<|zQ<|G O<|zC O zBa<|zH zFf (J 1 O) O<|A O<|qC O el90 zA (getm uA)<|zM kQ zZ O<|A O<|qD O uB (zSf f env hel her (hXa f (qA hf)).1 (hXa f (qA hf)).2) (vlr O)<|qP O<|qS O<|qS O<|A O<|mm O<|zG<|mo O O<|yL O<|Y<|zK O ?_ ?_<;>intro c6<;>try simp only [sx] at c6
      ·have hq:=hp.trans (plc_e hgx c6)
       refine mo O O<|A O<|mm O<|zF<|fin2 (rs_c O) (rs_c O) ?_
       subst ht
       rw [idx_p c1 c2 c3 zA hq c6]
      ·refine zI<|zG<|mo O O<|yI O<|A O<|rL0 O (fun g17_2=>zO O O) O<|rL0 O (fun g17_2=>zE O zFs O) O<|rL1 70 O (fun g17_2=>zD O zBz O (J 0 O) O) O<|rL0 O (fun g17_2=>zO O O) O<|rLz [(71,_),(72,_)] O gv1 ⟨O,O,O,O,T⟩ (fun g17_2=>qE O el38 O O zA (getm uA)) O<|rL1 73 O (fun g17_2=>zD O one3 O zZ O) O<|rLz [(69,_),(74,_)] O gv1 ⟨O,O,O,O,T⟩ (fun g17_2=>wH O O O) O<|r_or O (fun h=>(lzf h))<|Y<|zK O ?_ ?_<;>intro c7<;>try simp only [sx] at c7
       ·have hb7:(bY f env).1<0∨m<=(bY f env).1:=by omega
        have hq:=hp.trans (plc_b hgx c6 hmd hb7)
        refine mo O O<|mm O<|zF<|fin2 (rs_c O) (rs_c O) ?_
        subst ht
        rw [idx_p c1 c2 c3 zA hq zB]
       ·have hb7:¬((bY f env).1<0∨m<=(bY f env).1):=by omega
        obtain ⟨z1,z2,z3,z4⟩:=plc_mul ha0 has (show 0<=(bY f env).1 by omega) (show (bY f env).1<m by omega)
        have hm1:=zCc hs1 (zCb hpos hmd)
        have hfit:=zPl hmd hs3 hS
        refine zI<|zT O<|A O<|zC O zFs<|zH zBz (J 0 O) O<|A O<|qC O el38 zA (getm uA)<|zH one3 zZ O<|zW O (kC O O O ⟨zA,zA⟩)<|A O<|qI O ⟨zA,zA⟩<|mm O<|zT O<|A O<|qI O ⟨zA,zA⟩<|A O<|Y ?_
        refine ⟨⟨k+1,a*m+(bY f env).1,s*m⟩,⟨zA,hp.trans (plc_n hgx c6 hmd hb7),z1,z2,zA,zA,zGm hmd hs3 hfit⟩,(by show x.At.length-(k+1)<x.At.length-k;omega),Weak.mk [true,true] ⟨zJ,zJ,zJ,zJ,zJ,zJ,T⟩ O⟩
     ·have hend:=hp.trans (plc_end (by rw [lLm];omega))
      have hab:=plcA_bd (env:=env) (l:=x.At) hdm zA (by rw [hend])
      rw [hend] at hab
      have hal:a<t.Vals.length:=by have:=hab.2;omega
      refine qO<|mo O O<|zW O (yB O O O ⟨zA,zA⟩)<|zC O zFr<|zH zNz (J 0 O) O<|A O<|qC O zHf zA (getm (atT_some hab.1 hal))<|qR O zAg<|zH U zZ O<|zW O (det_min O O O)<|zW O (zKc O O O)<|A O<|mm O<|zF<|fin2 (rs_c O) (rs_c O) ?_
      subst ht
      rw [idx_0 c1 c2 c3 zA hend]
def zXb (mem:List Nmd) (hm:mem.length<=140737488355328) (hF:∀x,x∈mem->x.T.Dims.length<=17592186044416/\x.T.Vals.length<=140737488355328) (env:List Bd) (hel:env.length<=1000000) (her:∀x,x∈env->r64 x.Val) (t:Tn) (hdm:bX t.Dims=0) (l:List Ix) (hI:∀x,x∈l->IxB x) (hl:l.length<=17592186044416):
    Pur cfg 152 [gV mem,lN env,vTn t,vIxl l] (.tup [vI (gR mem env t l).1,vI (gR mem env t l).2]):=by
 refine zR func152 O ntmps152 results152 O ?_
 intro z hz
 obtain ⟨q1,hpos,S,hS,S1,S2⟩:=zFm hdm
 refine G O<|mj O fun b1=>A O<|mm O<|zG<|mo O O<|qB O v<|zC O zFs<|zH zBz (J 0 O) O<|qB O el38<|yL O<|Y<|zK O ?_ ?_<;>intro c1<;>try simp only [sx] at c1
 ·refine mo O O<|mm O<|zF<|fin2 (rs_c O) (rs_c O) ?_
  rw [plcV_11 c1]
 ·have hpl:=plcV_is (mem:=mem) (env:=env) c1
  refine zI<|ml O O<|zG<|ml O O<|zQ<|zY ⟨[(11,.c _),(10,.c _),(0,.c _),(1,.c _),(3,.c _),(6,.c _)],[_]⟩ (Weak.mk [true] ⟨zJ,zJ,zJ,zJ,zJ,zJ,T⟩ O)<|qL 2 0 O O (Nat×Int×Int) (fun ⟨k,a,s⟩=>[(11,vI k),(10,vI a)]) (fun ⟨k,a,s⟩=>[]) (fun ⟨k,a,s⟩=>k<=l.length/\(lU 0 (sH mem env l t.Dims) t.Dims=lU a ((sH mem env l t.Dims).drop k) (t.Dims.drop k))/\(0<=a)/\(a<s)/\(1<=s)/\(s<=4096)/\(bN 1 t.Dims=bN s (t.Dims.drop k))) (fun ⟨k,a,s⟩=>l.length-k) ⟨⟨0,0,1⟩,⟨zA,O,zA,zA,zA,zA,O⟩,Weak.mk [true] ⟨zJ,VLe.of_eq (O),zJ,zJ,zJ,zJ,T⟩ O⟩ ?_
  rintro ⟨k,a,s⟩ ⟨hk,hp,ha0,has,hs1,hs2,hs3⟩
  show AWP _ _ _ _ _ ⟨[(11,vI k),(10,vI a)]++_,[]++_⟩
  refine zG<|mo O O<|A O<|qB O v<|yI O<|Y<|zK O ?_ ?_<;>intro c2<;>try simp only [sx] at c2
  ·obtain ⟨x,hx⟩:=qZ l k zA
   obtain ⟨m,hmd⟩:=qZ t.Dims k zA
   have hgx:=ixv_at (mem:=mem) (env:=env) hx hmd
   refine zI<|zG<|zQ<|zG<|qV 17 mixed uB O O<|mr O (zO O O)<|mr O (zO O O)<|mr O (zO O O)<|mr O (zO O O)<|mr O (qE O v O O zA (getm uA))<|mr O (zU O zRn O zZ O)<|mr O (zE O zFs O)<|mr O (zD O zBz O (J 0 O) O)<|mr O (zO O O)<|mr O (qE O el38 O O zA (getm uA))<|mr O (zD O one3 O zZ O)<|mr O (qG O uB (ref19_index mem hm hF env hel her x (hI x (qA hx)) m (zCb hpos hmd) (by have h1:=zCc hs1 (zCb hpos hmd);have h2:=zPl hmd hs3 hS;omega)) (vlr O))<|mr O (kJ O O)<|mr O (wF O O O)<|mr O (wF O O O)<|mr O (qY O O)<|mr O (qY O O)<|yQ<|Y<|zG<|mo O O<|yL O<|Y<|zK O ?_ ?_<;>intro c3<;>try simp only [sx] at c3
   ·have hq:=hp.trans (plc_e hgx c3)
    refine mo O O<|A O<|mm O<|zF<|fin2 (rs_c O) (rs_c O) ?_
    rw [hpl,hq]
   ·refine zI<|zG<|mo O O<|yI O<|A O<|rL0 O (fun g10_2=>zO O O) O<|rL0 O (fun g10_2=>zE O zFs O) O<|rL1 48 O (fun g10_2=>zD O zBz O (J 0 O) O) O<|rL0 O (fun g10_2=>zO O O) O<|rLz [(49,_),(50,_)] O gv1 ⟨O,O,O,O,T⟩ (fun g10_2=>qE O el38 O O zA (getm uA)) O<|rL1 51 O (fun g10_2=>zD O one3 O zZ O) O<|rLz [(47,_),(52,_)] O gv1 ⟨O,O,O,O,T⟩ (fun g10_2=>wH O O O) O<|r_or O (fun h=>(lzf h))<|Y<|zK O ?_ ?_<;>intro c4<;>try simp only [sx] at c4
    ·have hb7:(mJ mem env x m).1<0∨m<=(mJ mem env x m).1:=by omega
     have hq:=hp.trans (plc_b hgx c3 hmd hb7)
     refine mo O O<|mm O<|zF<|fin2 (rs_c O) (rs_c O) ?_
     rw [hpl,hq]
    ·have hb7:¬((mJ mem env x m).1<0∨m<=(mJ mem env x m).1):=by omega
     obtain ⟨z1,z2,z3,z4⟩:=plc_mul ha0 has (show 0<=(mJ mem env x m).1 by omega) (show (mJ mem env x m).1<m by omega)
     have hm1:=zCc hs1 (zCb hpos hmd)
     have hfit:=zPl hmd hs3 hS
     refine zI<|zT O<|A O<|zC O zFs<|zH zBz (J 0 O) O<|A O<|qC O el38 zA (getm uA)<|zH one3 zZ O<|zW O (kC O O O ⟨zA,zA⟩)<|A O<|qI O ⟨zA,zA⟩<|mm O<|zT O<|A O<|qI O ⟨zA,zA⟩<|A O<|Y ?_
     refine ⟨⟨k+1,a*m+(mJ mem env x m).1,s*m⟩,⟨zA,hp.trans (plc_n hgx c3 hmd hb7),z1,z2,zA,zA,zGm hmd hs3 hfit⟩,(by show l.length-(k+1)<l.length-k;omega),Weak.mk [true] ⟨zJ,zJ,zJ,zJ,zJ,zJ,T⟩ O⟩
  ·have hend:=hp.trans (plc_end (by rw [ixv_len];omega))
   refine qO<|mo O O<|A O<|mm O<|zF<|fin2 (rs_c O) (rs_c O) ?_
   rw [hpl,hend]
def ref19_leaf (mem:List Nmd) (hm:mem.length<=140737488355328) (hF:∀x,x∈mem->x.T.Dims.length<=17592186044416/\x.T.Vals.length<=140737488355328) (env:List Bd) (hel:env.length<=1000000) (her:∀x,x∈env->r64 x.Val) (e:Ex) (hE:ExB e):
    Pur cfg 166 [gV mem,lN env,vE e] (vGt (lR mem env e)):=by
 refine zR func166 O ntmps166 results166 O ?_
 intro z hz
 obtain ⟨t,ht⟩:∃t,t=(fO mem e.Name).1:=⟨_,rfl⟩
 obtain ⟨hEl,hEi,hEn⟩:=hE
 refine G O<|mj O fun b1=>zV O O (qW O zGh) ?_
 rintro _ _ ⟨b2,rfl,rfl⟩
 refine Y<|zG<|G O<|zC O kP<|zH one3 (J 1 O) O<|Y<|zQ<|G O<|yF O<|mm O<|qK O (fun c1=>?_) (fun c1=>?_)
 ·refine G O<|zC O zLz<|zM yP (J 1 O) O<|zC O zFk<|zM yE (J 1 O) O<|qU O zGh zNp<|rStR 0 zEi O<|Y<|zF<|fin1 (zP zBl O (J 0 O) O) ?_
  rw [leaf_1 c1];rfl
 ·refine G O<|yF O<|mm O<|qK O (fun c2=>?_) (fun c2=>?_)
  ·refine G O<|zC O zEk<|zM kQ (J 1 O) O<|A O<|qD O uB (zSf e.Lin env hel her hEl.1 hEl.2) (vlr O)<|qP O<|qS O<|qS O<|A O<|mm O<|zG<|mo O O<|yF O<|A O<|rL0 O (fun g6_2=>zO O O) O<|rL1 34 O (fun g6_2=>yD O O O) O<|rL1 35 O (fun g6_2=>zO O O) O<|rLz [] O gv2 T (fun g6_5=>zO O O) O<|rLz [(37,_)] O gv2 ⟨O,O,T⟩ (fun g6_5=>zBb O O O) O<|rL1 36 O (fun g6_2=>zAr O O O O (fun h=>kD uA (lzf h))) O<|yT O (fun h=>h)<|Y<|zK O (fun c3=>?_) (fun c3=>?_)
   ·have hr3:(bY e.Lin env).2=0/\(2147483647<(bY e.Lin env).1∨(bY e.Lin env).1< -2147483647):=by simpa [Lz,and_assoc] using c3
    have e0:=leaf_2r (mem:=mem) c2 hr3.1 hr3.2
    refine zT O<|mm O<|zG<|mo O O<|yL O<|Y<|zK O (fun c4=>?_) (fun c4=>?_)
    ·refine mo O O<|qU O zGh zNp<|rStR 0 zEi O<|Y<|zF<|fin1 (zP zBl O (J 0 O) O) ?_
     rw [e0];rfl
    ·try simp only [sx] at c4
     exact absurd c4 zB
   ·have hr3:(bY e.Lin env).2=0->¬(2147483647<(bY e.Lin env).1∨(bY e.Lin env).1< -2147483647):=fun q r=>by simp [Lz,q] at c3;omega
    refine zI<|zG<|mo O O<|yL O<|Y<|zK O ?_ ?_<;>intro c4<;>try simp only [sx] at c4
    ·have e0:=leaf_2e (mem:=mem) c2 c4
     refine mo O O<|qU O zGh zNp<|rStR 0 zEi O<|Y<|zF<|fin1 (zP zBl O (J 0 O) O) ?_
     rw [e0];rfl
    ·have e0:=leaf_2 (mem:=mem) c2 c4 (hr3 c4)
     refine zI<|mo O O<|qU O W pl46<|qU O zr48 pl48<|qU O zGh zNp<|rStR 0 zEi O<|Y<|zF<|fin1 (zP zBl O (J 0 O) O) ?_
     rw [e0];rfl
  ·refine zI<|mo O O<|zC O zGz<|zH one9 (J 1 O) O<|qD O uB (show Pur cfg 191 [gV mem,vS e.Name] (.tup [vTn t,vI (fO mem e.Name).2]) from ht ▸ zTl mem hm hF e.Name) (vlr O)<|qP O<|yG O<|qS O<|zV O O (qH ma O zOy O) ?_
   rintro _ _ ⟨b3,rfl,rfl⟩
   refine rStR 0 zRv O<|mm O<|zG<|mo O O<|yL O<|Y<|zK O ?_ ?_<;>intro c5<;>try simp only [sx] at c5
   ·refine mo O O<|qU O zGh zNp<|rStR 1 zEi O<|Y<|zF<|fin1 (zP zBl O (J 1 O) O) ?_
    rw [leaf_3t c1 c2 c5];rfl
   ·obtain ⟨hte,y,hy,hyt⟩:=ten_ok c5
    rw [←ht] at hte hyt
    have hdm:=tn_dims hte
    have hvl:=tn_len hte
    refine zI<|mo O O<|A O<|zM zFy (J 0 O) O<|zC O wK<|zH wT (J 2 O) O<|qD O uB (zXb mem hm hF env hel her t hdm e.Idx hEi hEn) (vlr O)<|qP O<|qS O<|qS O<|A O<|mm O<|zG<|mo O O<|yL O<|Y<|zK O ?_ ?_<;>intro c6<;>try simp only [sx] at c6
    ·refine mo O O<|qU O zGh zNp<|rStR 1 zEi O<|Y<|zF<|fin1 (zP zBl O (J 1 O) O) ?_
     subst ht
     rw [leaf_3p c1 c2 c5 c6];rfl
    ·have hab:=plcV_bd hdm c6
     refine zI<|zG<|qV 8 mixed uB O O<|mr O (zE O zFr O)<|mr O (zD O zNz O (J 0 O) O)<|mr O (zO O O)<|mr O (qE O zHf O O zA (getm (atT_some hab.1 zA)))<|mr O (zU O yP O zZ O)<|mr O (zE O zMd O)<|mr O (zU O yE O (J 0 O) O)<|mr O (zDc O zGh zNp O)<|yQ<|rStR 1 zEi O<|Y<|zF<|fin1 (zP zBl O (J 1 O) O) ?_
     subst ht
     rw [leaf_3 c1 c2 c5 c6];rfl
def zUe (mem:List Nmd) (hm:mem.length<=140737488355328) (hF:∀x,x∈mem->x.T.Dims.length<=17592186044416/\x.T.Vals.length<=140737488355328) (env:List Bd) (hel:env.length<=1000000) (her:∀x,x∈env->r64 x.Val) (e:Ex) (ih:∀a,a∈e.Args->(dN a=0->bJ a=false->ExA a->Pur cfg 150 [gV mem,lN env,vE a] (vGt (evE mem env a).v))/\(dN a=0->bJ a=true->ExA a->Pur cfg 128 [gV mem,lN env,vE a] (.tup [vB (evE mem env a).h.1,vI (evE mem env a).h.2]))) (hp:dN e=0) (hc:bJ e=false) (hx:ExA e):
    Pur cfg 150 [gV mem,lN env,vE e] (vGt (evE mem env e).v):=by
 refine zR func150 O ntmps150 results150 O ?_
 intro z hz
 have ho:=op_rng hp
 have ho2:=cond_no hc hp
 refine G O<|mj O fun b1=>zV O O (qW O zGh) ?_
 rintro _ _ ⟨b2,rfl,rfl⟩
 refine Y<|zG<|G O<|zC O kP<|zH one3 (J 1 O) O<|zW O (wS O O O)<|Y<|zK O ?_ ?_<;>intro c1<;>try simp only [sx] at c1
 ·refine mo O O<|A O<|zM yY (J 1 O) O<|qD O uB (ref19_leaf mem hm hF env hel her e hx.self) (vlr O)<|rStR 0 zEi O<|Y<|zF<|fin1 (zP zBl O (J 0 O) O) ?_
  rw [val_leaf c1];rfl
 ·refine zI<|zG<|G O<|zC O kP<|zH one3 (J 1 O) O<|yF O<|Y<|qK O (fun c2=>?_) (fun c2=>?_)
  ·obtain ⟨a,ha1,ha2,ha3,ha4,ha5⟩:=arg_0 hp zA
   obtain ⟨b,hb1,hb2,hb3,hb4,hb5⟩:=arg_1 hp (by rw [c2];decide)
   obtain ⟨d,hd1,hd2,hd3,hd4,hd5⟩:=arg_2 hp c2
   refine mo O O<|A O<|zC O wD<|zH zAs (J 1 O) O<|qC O el52 zA (zCy ha1)<|zM yY zZ O<|qD O uB ((ih a ha3).2 ha4 (by rw [ha5];first|exact want_c zA zA|(rw [c2];rfl)) (hx.arg ha3)) (vlr O)<|qP O<|qS O<|qS O<|A O<|mm O<|zG<|zQ<|mo O O<|yL O<|mm O<|zK O ?_ ?_<;>intro c3<;>try simp only [sx] at c3
   ·refine mo O O<|qU O zGh zNp<|rStR 0 zEi O<|Y<|zF<|fin1 (zP zBl O (J 0 O) O) ?_
    rw [val_i c2 ha2 hb2 hd2,ab c3];rfl
   ·refine mo O O<|mm O<|zK O ?_ ?_<;>intro c4<;>try simp only [sx] at c4
    ·refine mo O O<|A O<|zC O wD<|zH zAs (J 1 O) O<|qC O el52 zA (zCy hb1)<|zM yY zZ O<|qD O uB ((ih b hb3).1 hb4 (by rw [hb5];first|exact want_v zA zA|(rw [c2];rfl)) (hx.arg hb3)) (vlr O)<|rStR 0 zEi O<|Y<|zF<|fin1 (zP zBl O (J 0 O) O) ?_
     rw [val_i c2 ha2 hb2 hd2,aa (fun q=>q c3),ab c4];rfl
    ·refine zI<|mo O O<|A O<|zC O wD<|zH zAs (J 1 O) O<|qC O el52 zA (zCy hd1)<|zM yY zZ O<|qD O uB ((ih d hd3).1 hd4 (by rw [hd5];first|exact want_v zA zA|(rw [c2];rfl)) (hx.arg hd3)) (vlr O)<|rStR 0 zEi O<|Y<|zF<|fin1 (zP zBl O (J 0 O) O) ?_
     rw [val_i c2 ha2 hb2 hd2,aa (fun q=>q c3),aa (by rw [c4];simp)];rfl
  ·obtain ⟨a,ha1,ha2,ha3,ha4,ha5⟩:=arg_0 hp zA
   refine zI<|mo O O<|A O<|zC O wD<|zH zAs (J 1 O) O<|qC O el52 zA (zCy ha1)<|zM yY zZ O<|qD O uB ((ih a ha3).1 ha4 (by rw [ha5];first|exact want_v zA zA|(rw [c2];rfl)) (hx.arg ha3)) (vlr O)<|zV O O (qW O zGh) ?_
   rintro _ _ ⟨b3,rfl,rfl⟩
   refine rStR 0 zEi O<|Y<|zG<|G O<|zC O zJx<|zH zDb (J 0 O) O<|yL O<|Y<|zK O ?_ ?_<;>intro c5<;>try simp only [sx] at c5
   ·refine G O<|zM zBl (J 0 O) O<|rStR 1 zEi O<|Y<|zF<|fin1 (zP zBl O (J 1 O) O) ?_
    rw [val_a zA c2 ha2 c5];rfl
   ·refine zI<|zG<|G O<|zC O kP<|zH one3 (J 2 O) O<|yF O<|Y<|qK O (fun c6=>?_) (fun c6=>?_)
    ·refine G O<|zC O zFq<|zM yE (J 0 O) O<|zC O zFk<|zM yE (J 2 O) O<|zC O zHa<|zM yP (J 0 O) O<|qD O uB (ref04_Cast (evE mem env a).v.T e.Ty (evE mem env a).v.V) (vlr O)<|qP O<|yG O<|qS O<|zV O O (qW O W) ?_
     rintro _ _ ⟨b4,rfl,rfl⟩
     refine rStR 0 L O<|mm O<|zG<|mo O O<|yL O<|Y<|zK O ?_ ?_<;>intro c7<;>try simp only [sx] at c7
     ·refine mo O O<|qU O zGh zNp<|rStR 2 zEi O<|Y<|zF<|fin1 (zP zBl O (J 2 O) O) ?_
      rw [val_ce c6 ha2 c5 c7];rfl
     ·refine zI<|G O<|zM yP (J 0 O) O<|zC O zFk<|zM yE (J 3 O) O<|qU O zGh zNp<|rStR 2 zEi O<|Y<|zF<|fin1 (zP zBl O (J 2 O) O) ?_
      rw [val_c c6 ha2 c5 c7];rfl
    ·refine zI<|G O<|zM zBl (J 0 O) O<|zV O O (qW O zGh) ?_
     rintro _ _ ⟨b5,rfl,rfl⟩
     refine rStR 0 zEi O<|Y<|zG<|G O<|zC O kP<|zH one3 (J 3 O) O<|yL O<|Y<|zK O ?_ ?_<;>intro c8<;>try simp only [sx] at c8
     ·obtain ⟨b,hb1,hb2,hb3,hb4,hb5⟩:=arg_1 hp (nArgs_2 zA c8 c6 zA)
      refine zT O<|A O<|A O<|zC O wD<|zH zAs (J 3 O) O<|qC O el52 zA (zCy hb1)<|zM yY zZ O<|qD O uB ((ih b hb3).1 hb4 (by rw [hb5];first|exact want_v zA zA|(rw [c2];rfl)) (hx.arg hb3)) (vlr O)<|rStR 0 zEi O<|Y<|zG<|G O<|zC O zJx<|zH zDb (J 0 O) O<|yL O<|Y<|zK O ?_ ?_<;>intro c9<;>try simp only [sx] at c9
      ·refine G O<|zM zBl (J 0 O) O<|rStR 2 zEi O<|Y<|zF<|fin1 (zP zBl O (J 2 O) O) ?_
       rw [val_b zA c2 c6 ha2 c5 (by rw [aa c8];exact hb2) c9];rfl
      ·refine zI<|zG<|G O<|zC O zFq<|zM yE (J 1 O) O<|zC O zFq<|zM yE (J 0 O) O<|zW O (zAb O fl48 O O O)<|Y<|zK O (fun c10=>?_) (fun c10=>?_)
       ·have c10:¬(evE mem env a).v.T=(evE mem env b).v.T:=tyv_f c10
        refine G O<|qU O zGh zNp<|rStR 2 zEi O<|Y<|zF<|fin1 (zP zBl O (J 2 O) O) ?_
        rw [val_t zA c2 c6 ha2 c5 (by rw [aa c8];exact hb2) c9 c10];rfl
       ·have c10:(evE mem env a).v.T=(evE mem env b).v.T:=tyv_t c10
        refine zI<|G O<|zC O kP<|zH one3 (J 3 O) O<|zC O zFq<|zM yE (J 1 O) O<|zC O zHa<|zM yP (J 1 O) O<|zC O zHa<|zM yP (J 0 O) O<|qD O uB (zOm e.Op (evE mem env a).v.T (evE mem env a).v.V (evE mem env b).v.V) (vlr O)<|qP O<|yG O<|qS O<|zV O O (qW O W) ?_
        rintro _ _ ⟨b6,rfl,rfl⟩
        refine rStR 0 L O<|mm O<|zG<|mo O O<|yL O<|Y<|zK O ?_ ?_<;>intro c11<;>try simp only [sx] at c11
        ·refine mo O O<|qU O zGh zNp<|rStR 3 zEi O<|Y<|zF<|fin1 (zP zBl O (J 3 O) O) ?_
         rw [val_oe zA c2 c6 ha2 c5 (by rw [aa c8];exact hb2) c9 c10 c11];rfl
        ·refine zI<|G O<|zM yP (J 0 O) O<|zC O zFq<|zM yE (J 2 O) O<|qU O zGh zNp<|rStR 3 zEi O<|Y<|zF<|fin1 (zP zBl O (J 3 O) O) ?_
         rw [val_o zA c2 c6 ha2 c5 (by rw [aa c8];exact hb2) c9 c10 c11];rfl
     ·refine zI<|zG<|G O<|zC O zJx<|zH zDb (J 0 O) O<|yL O<|Y<|zK O ?_ ?_<;>intro c9<;>try simp only [sx] at c9
      ·refine G O<|zM zBl (J 0 O) O<|rStR 2 zEi O<|Y<|zF<|fin1 (zP zBl O (J 2 O) O) ?_
       rw [val_b zA c2 c6 ha2 c5 (by rw [ab c8];exact ha2) c9];rfl
      ·refine zI<|zG<|G O<|zC O zFq<|zM yE (J 1 O) O<|zC O zFq<|zM yE (J 0 O) O<|zW O (zAb O fl48 O O O)<|Y<|zK O (fun c10=>?_) (fun c10=>?_)
       ·have c10:¬(evE mem env a).v.T=(evE mem env a).v.T:=tyv_f c10
        refine G O<|qU O zGh zNp<|rStR 2 zEi O<|Y<|zF<|fin1 (zP zBl O (J 2 O) O) ?_
        rw [val_t zA c2 c6 ha2 c5 (by rw [ab c8];exact ha2) c9 c10];rfl
       ·have c10:(evE mem env a).v.T=(evE mem env a).v.T:=tyv_t c10
        refine zI<|G O<|zC O kP<|zH one3 (J 3 O) O<|zC O zFq<|zM yE (J 1 O) O<|zC O zHa<|zM yP (J 1 O) O<|zC O zHa<|zM yP (J 0 O) O<|qD O uB (zOm e.Op (evE mem env a).v.T (evE mem env a).v.V (evE mem env a).v.V) (vlr O)<|qP O<|yG O<|qS O<|zV O O (qW O W) ?_
        rintro _ _ ⟨b7,rfl,rfl⟩
        refine rStR 0 L O<|mm O<|zG<|mo O O<|yL O<|Y<|zK O ?_ ?_<;>intro c11<;>try simp only [sx] at c11
        ·refine mo O O<|qU O zGh zNp<|rStR 3 zEi O<|Y<|zF<|fin1 (zP zBl O (J 3 O) O) ?_
         rw [val_oe zA c2 c6 ha2 c5 (by rw [ab c8];exact ha2) c9 c10 c11];rfl
        ·refine zI<|G O<|zM yP (J 0 O) O<|zC O zFq<|zM yE (J 2 O) O<|qU O zGh zNp<|rStR 3 zEi O<|Y<|zF<|fin1 (zP zBl O (J 3 O) O) ?_
         rw [val_o zA c2 c6 ha2 c5 (by rw [ab c8];exact ha2) c9 c10 c11];rfl
def zUf (mem:List Nmd) (hm:mem.length<=140737488355328) (hF:∀x,x∈mem->x.T.Dims.length<=17592186044416/\x.T.Vals.length<=140737488355328) (env:List Bd) (hel:env.length<=1000000) (her:∀x,x∈env->r64 x.Val) (e:Ex) (ih:∀a,a∈e.Args->(dN a=0->bJ a=false->ExA a->Pur cfg 150 [gV mem,lN env,vE a] (vGt (evE mem env a).v))/\(dN a=0->bJ a=true->ExA a->Pur cfg 128 [gV mem,lN env,vE a] (.tup [vB (evE mem env a).h.1,vI (evE mem env a).h.2]))) (hp:dN e=0) (hc:bJ e=true) (hx:ExA e):
    Pur cfg 128 [gV mem,lN env,vE e] (.tup [vB (evE mem env e).h.1,vI (evE mem env e).h.2]):=by
 refine zR func128 O ntmps128 results128 O ?_
 intro z hz
 have ho:=cond_yes hc
 obtain ⟨a,ha1,ha2,ha3,ha4,ha5⟩:=arg_0 hp zA
 refine G O<|mj O fun b1=>A O<|mm O<|zG<|G O<|zC O kP<|zH one3 (J 0 O) O<|zW O (wH O O O)<|Y<|zK O ?_ ?_<;>intro c1<;>try simp only [sx] at c1
 ·refine mo O O<|A O<|zC O wD<|zH zAs (J 0 O) O<|qC O el52 zA (zCy ha1)<|zM yY zZ O<|qD O uB ((ih a ha3).2 ha4 (by rw [ha5];first|exact want_c zA zA|(rw [c2];rfl)) (hx.arg ha3)) (vlr O)<|qP O<|qS O<|qS O<|A O<|mm O<|zG<|mo O O<|yL O<|A O<|rL0 O (fun g3_2=>zE O kP O) O<|rL1 31 O (fun g3_2=>zD O one3 O (J 0 O) O) O<|rL1 32 O (fun g3_2=>yN O O O) O<|r_or O (fun h=>(lzf h))<|Y<|zK O (fun c2=>?_) (fun c2=>?_)
  ·have hn2:¬(evE mem env a).h.2=0∨e.Op=18:=by simpa [Lz] using c2
   refine mo O O<|yF O<|A O<|rL0 O (fun g4_2=>zO O O) O<|rL1 38 O (fun g4_2=>kG O O) O<|yT O (fun h=>h)<|A O<|A O<|mm O<|zF<|fin2 (rs_c O) (rs_c O) ?_
   rw [hld_n c1 ha2 hn2]
  ·have hn2:¬(¬(evE mem env a).h.2=0∨e.Op=18):=by simpa [Lz] using c2
   obtain ⟨b,hb1,hb2,hb3,hb4,hb5⟩:=arg_1 hp (nArgs_2 zA zA zA (fun q=>hn2 (.inr q)))
   refine zI<|mo O O<|A O<|zC O wD<|zH zAs (J 0 O) O<|qC O el52 zA (zCy hb1)<|zM yY zZ O<|qD O uB ((ih b hb3).2 hb4 (by rw [hb5];first|exact want_c zA zA|(rw [c2];rfl)) (hx.arg hb3)) (vlr O)<|qP O<|qS O<|qS O<|A O<|mm O<|zG<|mo O O<|yL O<|Y<|zK O ?_ ?_<;>intro c3<;>try simp only [sx] at c3
   ·refine mo O O<|A O<|mm O<|zF<|fin2 (rs_c O) (rs_c O) ?_
    rw [hld_b c1 ha2 hn2 hb2 c3]
   ·refine zI<|G O<|zC O kP<|zH one3 (J 0 O) O<|yF O<|A O<|rL0 O (fun g8_3=>zO O O) O<|yT O (fun h=>h)<|A O<|rL0 O (fun g8_6=>zO O O) O<|yT O (fun h=>h)<|A O<|rL0 O (fun g8_9=>zE O kP O) O<|rL1 65 O (fun g8_9=>zD O one3 O (J 0 O) O) O<|rL1 66 O (fun g8_9=>yN O O O) O<|rL1 67 O (fun g8_9=>zO O O) O<|rLz [] O gv2 T (fun g8_13=>zO O O) O<|rLz [(69,_)] O gv2 ⟨O,O,T⟩ (fun g8_13=>zO O O) O<|rLz [] O gv2 T (fun g8_15=>zO O O) O<|rLz [(70,_)] O gv2 ⟨O,O,T⟩ (fun g8_13=>zAr O O O O (fun h=>kD uA (lzf h))) O<|rL1 68 O (fun g8_9=>wA O O O (fun h=>kD uA h) O) O<|r_or O (fun h=>(lzf h))<|A O<|mm O<|zF<|fin2 (rs_c O) (rs_c O) ?_
    rw [hld_o c1 ha2 hn2 hb2 c3]
 ·refine zI<|mo O O<|A O<|zC O wD<|zH zAs (J 0 O) O<|qC O el52 zA (zCy ha1)<|zM yY zZ O<|qD O uB ((ih a ha3).1 ha4 (by rw [ha5];first|exact want_v zA zA|(rw [c2];rfl)) (hx.arg ha3)) (vlr O)<|zV O O (qW O zGh) ?_
  rintro _ _ ⟨b2,rfl,rfl⟩
  refine rStR 0 zEi O<|Y<|zG<|G O<|zC O zJx<|zH zDb (J 0 O) O<|yL O<|Y<|zK O ?_ ?_<;>intro c4<;>try simp only [sx] at c4
  ·refine zG<|qV 4 mixed uB O O<|mr O (zE O zJx O)<|mr O (zD O zDb O (J 0 O) O)<|mr O (qY O O)<|mr O (qY O O)<|yQ<|Y<|zF<|fin2 (rs_c O) (rs_c O) ?_
   rw [hld_c zA ha2 c4]
  ·obtain ⟨b,hb1,hb2,hb3,hb4,hb5⟩:=arg_1 hp (nArgs_2 zA zA zA zA)
   refine zI<|mo O O<|A O<|zC O wD<|zH zAs (J 1 O) O<|qC O el52 zA (zCy hb1)<|zM yY zZ O<|qD O uB ((ih b hb3).1 hb4 (by rw [hb5];first|exact want_v zA zA|(rw [c2];rfl)) (hx.arg hb3)) (vlr O)<|zV O O (qW O zGh) ?_
   rintro _ _ ⟨b3,rfl,rfl⟩
   refine rStR 0 zEi O<|Y<|zG<|G O<|zC O zJx<|zH zDb (J 0 O) O<|yL O<|Y<|zK O ?_ ?_<;>intro c5<;>try simp only [sx] at c5
   ·refine zG<|qV 4 mixed uB O O<|mr O (zE O zJx O)<|mr O (zD O zDb O (J 0 O) O)<|mr O (qY O O)<|mr O (qY O O)<|yQ<|Y<|zF<|fin2 (rs_c O) (rs_c O) ?_
    rw [hld_d zA ha2 c4 hb2 c5]
   ·refine zI<|zG<|G O<|zC O zFq<|zM yE (J 1 O) O<|zC O zFq<|zM yE (J 0 O) O<|zW O (zAb O fl48 O O O)<|Y<|zK O (fun c6=>?_) (fun c6=>?_)
    ·have c6:¬(evE mem env a).v.T=(evE mem env b).v.T:=tyv_f c6
     refine mo O O<|mm O<|zF<|fin2 (rs_c O) (rs_c O) ?_
     rw [hld_t zA ha2 c4 hb2 c5 c6]
    ·have c6:(evE mem env a).v.T=(evE mem env b).v.T:=tyv_t c6
     refine zI<|G O<|zC O zFq<|zM yE (J 1 O) O<|zC O zHa<|zM yP (J 1 O) O<|zC O zHa<|zM yP (J 0 O) O<|qD O uB (zPv (evE mem env a).v.T (evE mem env a).v.V (evE mem env b).v.V) (vlr O)<|mm O<|mo O O<|yI O<|A O<|rL0 O (fun g18_2=>zE O kP O) O<|rL1 114 O (fun g18_2=>zD O one3 O (J 2 O) O) O<|rL1 115 O (fun g18_2=>kB O O O) O<|yT O (fun h=>h)<|A O<|rL0 O (fun g18_7=>zO O O) O<|rL1 119 O (fun g18_7=>yN O O O) O<|rL1 120 O (fun g18_7=>zO O O) O<|rLz [] O gv2 T (fun g18_10=>zE O kP O) O<|rLz [(122,_)] O gv2 ⟨O,O,T⟩ (fun g18_10=>zD O one3 O (J 2 O) O) O<|rLz [(123,_)] O gv2 ⟨O,O,T⟩ (fun g18_10=>kB O O O) O<|rL1 121 O (fun g18_7=>wA O O O (fun h=>kD uA h) O) O<|r_or O (fun h=>(lzf h))<|A O<|mm O<|zF<|fin2 (rs_c O) (rs_c O) ?_
     rw [hld_v zA ha2 c4 hb2 c5 c6]
def ref19_both (mem:List Nmd) (hm:mem.length<=140737488355328) (hF:∀x,x∈mem->x.T.Dims.length<=17592186044416/\x.T.Vals.length<=140737488355328) (env:List Bd) (hel:env.length<=1000000) (her:∀x,x∈env->r64 x.Val) (e:Ex):(dN e=0->bJ e=false->ExA e->Pur cfg 150 [gV mem,lN env,vE e] (vGt (evE mem env e).v))/\(dN e=0->bJ e=true->ExA e->Pur cfg 128 [gV mem,lN env,vE e] (.tup [vB (evE mem env e).h.1,vI (evE mem env e).h.2])):=by
  induction e using Ex.ind with
  |_ e ih=>exact ⟨zUe mem hm hF env hel her e ih,zUf mem hm hF env hel her e ih⟩
def ref19_Value (mem:List Nmd) (hm:mem.length<=140737488355328) (hF:∀x,x∈mem->x.T.Dims.length<=17592186044416/\x.T.Vals.length<=140737488355328) (env:List Bd) (hel:env.length<=1000000) (her:∀x,x∈env->r64 x.Val) (e:Ex) (hp:dN e=0) (hc:bJ e=false) (hx:ExA e):Pur cfg 150 [gV mem,lN env,vE e] (vGt (evE mem env e).v):=(ref19_both mem hm hF env hel her e).1 hp hc hx
def ref19_Holds (mem:List Nmd) (hm:mem.length<=140737488355328) (hF:∀x,x∈mem->x.T.Dims.length<=17592186044416/\x.T.Vals.length<=140737488355328) (env:List Bd) (hel:env.length<=1000000) (her:∀x,x∈env->r64 x.Val) (e:Ex) (hp:dN e=0) (hc:bJ e=true) (hx:ExA e):Pur cfg 128 [gV mem,lN env,vE e] (.tup [vB (evE mem env e).h.1,vI (evE mem env e).h.2]):=(ref19_both mem hm hF env hel her e).2 hp hc hx
end Go.W
end
section
set_option maxRecDepth 10000
namespace Go.W
open Go Go.Eng Go.Proofs Go.L41 Go.Br Tryz
attribute [local irreducible] AWP RWP TD fK
abbrev vRsN (M:List Nmd) (N f:Int):V:=.agg [.sl 8 (M.map Nmd.cells),cI N,cI f,cI 0]
def smS (n:Ns) (m:Nat):Bool:=decide (n.Bufs.length<=60)&&decide (lM n.Body m<=m)
def smS_yes {n:Ns} {m:Nat} (h:smS n m=true):n.Bufs.length<=60/\lM n.Body m<=m:=by
  unfold smS at h
  simpa using h
def two_at {a b x:Vl} {k:Nat} (h:[a,b][k]? =some x):(k=0/\x=a)∨(k=1/\x=b):=by
  match k,h with
  |0,h=>injection h with h;exact .inl ⟨rfl,h.symm⟩
  |1,h=>injection h with h;exact .inr ⟨rfl,h.symm⟩
def set_rowT {l:List Vl} {i:Nat} {x v:Vl}:(l.map Vl.cells).set i (spl x.cells 0 [cI v.N,cI v.D])=(l.set i v).map Vl.cells:=by
  rw [List.map_set];rfl
def wr_row {mem:List Nmd} {n:lr} {a k:Nat} {v:Vl} {x:Nmd} (h:mem[k]? =some x):(gF (mem.take (k+1)) n a v).map Nmd.cells=(gF (mem.take k) n a v).map Nmd.cells++[(if x.Name=n then (⟨x.Name,⟨x.T.T,x.T.Dims,x.T.Vals.set a v⟩⟩:Nmd) else x).cells]:=write_next h
def agg125:nE prog 125=some 8:=by kernel_rfl
def zCl:nE prog 165=some 4:=by kernel_rfl
def zJy:bO prog 165 0=some (0,26):=by kernel_rfl
def fd165_1:bO prog 165 1=some (1,3):=by kernel_rfl
def fd165_2:bO prog 165 2=some (2,3):=by kernel_rfl
def zHb:bO prog 165 3=some (3,29):=by kernel_rfl
def one26:mM prog 26=true:=by kernel_rfl
def sz26:(prog.info? 26).map (·.size)=some 1:=by kernel_rfl
def sz125:(prog.info? 125).map (·.size)=some 8:=by kernel_rfl
def zOg:(prog.info? 165).map (·.size)=some 4:=by kernel_rfl
def zr165:fL prog 165=some [(Value.slice none 0 0),(Value.int IntKind.i64 0),(Value.int IntKind.i64 0),(Value.int IntKind.i64 0)]:=by kernel_rfl
def ref04_Operator (f:Int) (h:¬(f<1∨5<f)):
    Pur cfg 173 [vI f] (vI (sQ f)):=by
 refine zR func173 O ntmps173 results173 O fun z hz=>ml O O<|zG<|ml O O<|zQ<|G O<|yF O<|mm O<|qK O (fun c1=>?_) (fun c1=>?_)
 ·refine ml O O<|zF<|zS O ?_
  exact v15
 ·refine G O<|yF O<|mm O<|qK O (fun c2=>?_) (fun c2=>?_)
  ·refine ml O O<|zF<|zS O ?_
   exact v15
  ·refine G O<|yF O<|mm O<|qK O (fun c3=>?_) (fun c3=>?_)
   ·refine ml O O<|zF<|zS O ?_
    exact v15
   ·refine zI<|ml O O<|zF<|zS O ?_
    exact v15
def ref04_Reduce (f:Int) (t:Ty) (a b:Vl):
    Pur cfg 153 [vI f,vTy t,eR [a,b]] (.tup [gZ (sE f t a b).1,vI (sE f t a b).2]):=by
 refine zR func153 O ntmps153 results153 O ?_
 intro z hz
 have hl2:[a,b].length=2:=rfl
 refine G O<|mj O fun b1=>zV O O (qW O W) ?_
 rintro _ _ ⟨b2,rfl,rfl⟩
 refine mm O<|zG<|mo O O<|yI O<|A O<|rL0 O (fun g1_2=>zO O O) O<|rL1 17 O (fun g1_2=>yD O O O) O<|r_or O (fun h=>(lzf h))<|Y<|zK O (fun c1=>?_) (fun c1=>?_)
 ·have hf:f<1∨5<f:=by simpa [Lz] using c1
  refine G O<|qU O W pl46<|rStR 0 L O<|mm O<|zF<|fin2 (zP yP O (J 0 O) O) (rs_c O) ?_
  unfold sE;rw [ab hf];rfl
 ·have hf:¬(f<1∨5<f):=by simpa [Lz] using c1
  refine zI<|zG<|G O<|zM yE (J 1 O) O<|qD O uB (zEf t) (vlr O)<|kO O<|Y<|zK O ?_ ?_<;>intro c2<;>try simp only [sx] at c2
  ·have hty:dD t=false:=by simpa using c2
   refine G O<|qU O W pl46<|rStR 0 L O<|mm O<|zF<|fin2 (zP yP O (J 0 O) O) (rs_c O) ?_
   unfold sE;rw [aa hf,ab hty];rfl
  ·have hty:dD t=true:=by simpa using c2
   refine zI<|zG<|ml O O<|zQ<|zY ⟨[(8,.c _),(0,.c _),(2,.c _),(4,.c _),(6,.c _)],[_,_]⟩ (Weak.mk [true,true] ⟨zJ,zJ,zJ,zJ,zJ,T⟩ O)<|qL 1 0 O O (Nat) (fun k=>[(8,vI k)]) (fun k=>[]) (fun k=>k<=[a,b].length/\(([a,b].take k).all (bQ t)=true)) (fun k=>[a,b].length-k) ⟨0,⟨zA,O⟩,Weak.mk [true,true] ⟨zJ,zJ,zJ,zJ,zJ,T⟩ O⟩ ?_
   rintro k ⟨hk,hp⟩
   refine zG<|mo O O<|A O<|qB O zHf<|yI O<|Y<|zK O ?_ ?_<;>intro c3<;>try simp only [sx] at c3
   ·obtain ⟨x,hx⟩:=qZ [a,b] k zA
    refine zI<|zG<|zQ<|zG<|qV 7 mixed uB O O<|mr O (zU O yE O (J 1 O) O)<|mr O (zO O O)<|mr O (zO O O)<|mr O (qE O zHf O O zA (getm uA))<|mr O (zU O yP O zZ O)<|mr O (qG O uB (zHr t x hty) (vlr O))<|mr O (kG O O)<|yQ<|Y<|zK O ?_ ?_<;>intro c4<;>try simp only [sx] at c4
    ·have hb4:bQ t x=false:=by simpa using c4
     refine G O<|qU O W pl46<|rStR 0 L O<|mm O<|zF<|fin2 (zP yP O (J 0 O) O) (rs_c O) ?_
     rcases two_at hx with ⟨_,rfl⟩|⟨_,rfl⟩<;>(unfold sE;rw [aa hf,aa (by rw [hty];simp),ab (by rw [hb4];simp)];rfl)
    ·have hb4:bQ t x=true:=by simpa using c4
     refine zI<|zT O<|A O<|qI O ⟨zA,zA⟩<|A O<|Y ?_
     refine ⟨k+1,⟨zA,zFo hx hp hb4⟩,zA,Weak.mk [true,true] ⟨zJ,zJ,zJ,zJ,zJ,T⟩ O⟩
   ·rw [yW (l:=[a,b]) (k:=k) zA] at hp
    have hva:bQ t a=true:=ax.1 hp a uD
    have hvb:bQ t b=true:=ax.1 hp b uD
    refine qO<|zG<|mo O O<|qB O zHf<|yF O<|Y<|qK O (fun c5=>?_) (fun c5=>?_)
    ·exact absurd c5 uD
    ·refine zI<|mo O O<|qC O zHf uD (getm (x:=a) O)<|zM yP zZ O<|zV O O (qW O W) ?_
     rintro _ _ ⟨b3,rfl,rfl⟩
     refine rStR 0 L O<|mm O<|zG<|ml O O<|zQ<|zY ⟨[(13,.c _),(12,.c _),(0,.c _),(2,.c _),(4,.c _),(6,.c _),(11,.c _)],[_,_,_]⟩ (Weak.mk [true,true,true] ⟨zJ,zJ,zJ,zJ,zJ,zJ,zJ,T⟩ O)<|qL 2 1 O O (Nat×Vl×Int) (fun ⟨i,v,q⟩=>[(13,vI i),(12,vI q)]) (fun ⟨i,v,q⟩=>[E.row b3 46 [cI v.N,cI v.D]]) (fun ⟨i,v,q⟩=>((i=1/\v=a/\q=0)∨(i=2/\(v,q)=mO (sQ f) t a b))) (fun ⟨i,v,q⟩=>2-i) ⟨⟨1,a,0⟩,(.inl ⟨O,O,O⟩),Weak.mk [true,true,true] ⟨zJ,zJ,zJ,zJ,zJ,zJ,zJ,T⟩ O⟩ ?_
     rintro ⟨i,v,q⟩ hJ
     refine zG<|mo O O<|A O<|qB O zHf<|yI O<|A O<|rL0 O (fun g17_4=>zO O O) O<|rL1 60 O (fun g17_4=>yN O O O) O<|yT O (fun h=>h)<|Y<|zK O ?_ ?_<;>intro c7<;>try simp only [sx] at c7
     ·have hi1:i=1:=by rcases hJ with hJ|hJ<;>simp at c7<;>omega
      obtain ⟨_,e7,e8⟩:i=1/\v=a/\q=0:=by rcases hJ with hJ|hJ;exact hJ;omega
      refine zI<|zG<|zQ<|kK 13 0 [⟨0,.q []⟩,⟨1,.q []⟩,⟨2,.q [2]⟩,⟨3,.q [0]⟩,⟨4,.q []⟩,⟨5,.q []⟩,⟨6,.q []⟩,⟨7,.q []⟩,⟨8,.q []⟩,⟨9,.q []⟩,⟨10,.q []⟩,⟨11,.q []⟩,⟨12,.e 0 []⟩] mixed uB uB O O O<|zX O<|zX O<|zX O<|zX O<|zX O<|zX O<|zX O<|zX O<|zX O<|zX O<|zX O<|zX O<|zX O<|zBj<|mq O (zO O O)<|mq O (qG O uB (ref04_Operator f hf) (vlr O))<|mq O (zU O yE O (J 0 O) O)<|mq O (zU O yP O (J 0 O) O)<|mq O (zO O O)<|mq O (zO O O)<|mq O (qE O zHf O O zA (getm (x:=b) (by rw [hi1];rfl)))<|mq O (zU O yP O zZ O)<|mq O (qG O uB (zOm (sQ f) t v b) (vlr O))<|mq O (kJ O O)<|mq O (wG O O O)<|mq O (wF O O O)<|zGl O O zB O O (yM O L O O O (zFu 0 O O)) ?_
      rintro _ _ ⟨rfl,rfl⟩
      refine ⟨_,O,?_⟩
      refine zBe O<|mm O<|zT O<|A O<|qI O ⟨zA,zA⟩<|A O<|Y ?_
      refine ⟨⟨i+1,(mO (sQ f) t v b).1,(mO (sQ f) t v b).2⟩,(.inr ⟨zA,by rw [e7]⟩),(by show 2-(i+1)<2-i;omega),Weak.mk [true,true,true] ⟨zJ,zJ,zJ,zJ,zJ,zJ,zJ,T⟩ O⟩
     ·have hi2:(v,q)=mO (sQ f) t a b:=by rcases hJ with hJ|hJ;exact absurd c7 (by rw [hJ.1,hJ.2.2];simp);exact hJ.2
      refine qO<|G O<|zM yP (J 0 O) O<|A O<|rStR 1 L O<|mm O<|zF<|fin2 (zP yP O (J 1 O) O) (rs_c O) ?_
      rw [reduce_is hf hty hva hvb,←hi2];rfl
def ref31_step (s:Rs) (f:Int) (h0:0<=s.N) (h1:s.N<=f) (hf:f<=1048576):
    Pur cfg 127 [vRs s f] (vRs (fA f s) f):=by
 refine zR func127 O ntmps127 results127 O fun z hz=>G O<|mj O fun b1=>zV O O (qH mf O zr165 O) ?_
 rintro _ _ ⟨b2,rfl,rfl⟩
 refine Y<|zG<|G O<|zC O fd165_1<|zH one3 (J 1 O) O<|zC O fd165_2<|zH one3 (J 1 O) O<|zW O (wH O O O)<|Y<|zK O ?_ ?_<;>intro c1<;>try simp only [sx] at c1
 ·refine G O<|zC O zHb<|rStR 1 sz29 O<|Y<|G O<|zM zCl (J 1 O) O<|rStR 0 zOg O<|Y<|zF<|fin1 (zP zCl O (J 0 O) O) ?_
  unfold fA;rw [ab zA];rfl
 ·refine zI<|G O<|zC O fd165_1<|zH one3 (J 1 O) O<|qI O ⟨zA,zA⟩<|zC O fd165_1<|rStR 1 sz3 O<|Y<|G O<|zM zCl (J 1 O) O<|rStR 0 zOg O<|Y<|zF<|fin1 (zP zCl O (J 0 O) O) ?_
  unfold fA;rw [aa zA];rfl
def zWv (mem:List Nmd) (n:lr) (k0:Int) (v:Vl) (hm:mem.length<=4294967296) (h0:0<=k0) (hk:∀x,x∈mem->x.Name=n->k0<x.T.Vals.length/\x.T.Vals.length<=1048576):
    Pur cfg 154 [gV mem,vS n,vI k0,gZ v] (gV (gF mem n k0.toNat v)):=by
 refine zR func154 O ntmps154 results154 O fun z hz=>G O<|mj O fun b1=>mm O<|mo O O<|yU _ (wE 125 8)<|Y<|zG<|ml O O<|zQ<|zY ⟨[(10,.c _),(9,.c _),(0,.c _),(1,.c _),(2,.c _),(7,.c _)],[_,_]⟩ (Weak.mk [true,true] ⟨zJ,zJ,zJ,zJ,zJ,zJ,T⟩ O)<|qL 2 1 O O (Nat×Value) (fun ⟨k,sw⟩=>[(10,vI k),(9,.c (.lit sw))]) (fun ⟨k,sw⟩=>[E.vec sw 125 8 ((gF (mem.take k) n k0.toNat v).map Nmd.cells)]) (fun ⟨k,sw⟩=>k<=mem.length) (fun ⟨k,sw⟩=>mem.length-k) ⟨⟨0,(.slice none 0 0)⟩,zA,Weak.mk [true,true] ⟨zJ,zJ,zJ,zJ,zJ,zJ,T⟩ O⟩ ?_
 rintro ⟨k,sw⟩ hk9
 show AWP _ _ _ _ _ ⟨[(10,vI k),(9,.c (.lit sw))]++_,[E.vec sw 125 8 ((gF (mem.take k) n k0.toNat v).map Nmd.cells)]++_⟩
 refine zG<|mo O O<|A O<|qB O el26<|yI O<|Y<|zK O ?_ ?_<;>intro c1<;>try simp only [sx] at c1
 ·obtain ⟨x,hx⟩:=qZ mem k zA
  refine zI<|zG<|zQ<|mo O O<|A O<|qC O el26 zA (getm uA)<|zM agg125 zZ O<|zV O O (qH [none,none,none,none,none,none,some 1,some 2] O zr125 O) ?_
  rintro _ _ ⟨b3,rfl,rfl⟩
  refine rStR 0 sz125 O<|Y<|zG<|G O<|zC O fd125_0<|zH one9 (J 0 O) O<|A O<|wP O<|Y<|zK O ?_ ?_<;>intro c2<;>try simp only [sx] at c2
  ·obtain ⟨hk1,hk2⟩:=hk x (qA hx) c2
   have hrow:(if x.Name=n then (⟨x.Name,⟨x.T.T,x.T.Dims,x.T.Vals.set k0.toNat v⟩⟩:Nmd) else x)=(⟨x.Name,⟨x.T.T,x.T.Dims,x.T.Vals.set k0.toNat v⟩⟩:Nmd):=ab c2
   refine mo O O<|yU _ (wE 46 2)<|Y<|mo O O<|zC O zYr<|zC O zFr<|zH zNz (J 1 O) O<|zV O O (yO 0 O zHf O O O (by simp only [lLn,lLm,bt];omega) (by simp only [lLn,lLm,bt];omega)) ?_
   rintro _ _ ⟨sv5,rfl,rfl⟩
   refine mm O<|mo O O<|A O<|zM yP (J 3 O) O<|zW O (qT 0 O zHf O O O zA (by simp only [lNa,lLm];omega))<|kS O O (yM O L O O O (st_vecE 0 O (atV_row h0 hk1) O set_rowT))<|yU _ (yV 0 O (regs':=[(12,_),(31,_),(32,_)]) (μ':=[_,_,_]) ⟨FLe.sl,FLe.sl,FLe.sl,T⟩ ⟨EFle.refl _,EFle.refl _,EFle.refl _,T⟩)<|Y<|zT O<|A O<|zC O zYr<|zC O zFr<|rStR 0 sz119 O<|Y<|zT O<|A O<|zM agg125 (J 0 O) O<|zW O (yA O el26 zr125 O O O O)<|zV O O (yO 1 O el26 O O O (by simp only [gF,lLm,aG,lLc,lLn];omega) (by simp only [gF,lLm,aG,lLc,lLn];omega)) ?_
   rintro _ _ ⟨sv6,rfl,rfl⟩
   refine mm O<|zT O<|A O<|qI O ⟨zA,zA⟩<|A O<|Y ?_
   refine ⟨⟨k+1,sv6⟩,zA,(by show mem.length-(k+1)<mem.length-k;omega),Weak.mk [false,true,true] ⟨zJ,zJ,zJ,zJ,zJ,zJ,T⟩ (by exact zGv (by rw [wr_row hx,hrow];first|rfl|(simp only [lNa,List.map_set];rfl)))⟩
  ·have hrow:(if x.Name=n then (⟨x.Name,⟨x.T.T,x.T.Dims,x.T.Vals.set k0.toNat v⟩⟩:Nmd) else x)=x:=aa c2
   refine zI<|zT O<|A O<|zM agg125 (J 0 O) O<|zW O (yA O el26 zr125 O O O O)<|zV O O (yO 1 O el26 O O O (by simp only [gF,lLm,aG,lLc,lLn];omega) (by simp only [gF,lLm,aG,lLc,lLn];omega)) ?_
   rintro _ _ ⟨sv7,rfl,rfl⟩
   refine mm O<|zT O<|A O<|qI O ⟨zA,zA⟩<|A O<|Y ?_
   refine ⟨⟨k+1,sv7⟩,zA,(by show mem.length-(k+1)<mem.length-k;omega),Weak.mk [false,true,true] ⟨zJ,zJ,zJ,zJ,zJ,zJ,T⟩ (by exact zGv (by rw [wr_row hx,hrow];first|rfl|(simp only [lNa,List.map_set];rfl)))⟩
 ·rw [yW (l:=mem) (k:=k) zA]
  refine qO<|zG<|zY _ (yV 0 O (regs':=[(9,_)]) (μ':=[_]) ⟨FLe.sl,T⟩ ⟨EFle.refl _,T⟩)<|zT O<|A O<|mm O<|zF<|zS O ?_
  rfl
def ref31_store (B:List Bf) (M:List Nmd) (N f:Int) (hM:MmOk B M) (env:List Bd) (hel:env.length<=1000000) (her:∀x,x∈env->r64 x.Val) (x:St) (hS:StC B x) (h1:¬x.Op=1) (h4:¬x.Op=4):
    Pur cfg 129 [vRsN M N f,lN env,vSt x] (vRs (fR ⟨M,N,0⟩ env x) f):=by
 refine zR func129 O ntmps129 results129 O ?_
 intro z hz
 have hm:M.length<=140737488355328:=by have:=hM.len;omega
 have hF:∀y,y∈M->y.T.Dims.length<=17592186044416/\y.T.Vals.length<=140737488355328:=fun y hy=>by have:=hM.fit y hy;omega
 obtain ⟨p1,p2,p3⟩:=hS.sto h1 h4
 obtain ⟨t,ht,hdm,hvl⟩:=hM.has _ p3
 refine G O<|mj O fun b1=>mj O fun b2=>zV O O (qH mf O zr165 O) ?_
 rintro _ _ ⟨b3,rfl,rfl⟩
 refine Y<|G O<|zC O zJy<|zH one26 (J 2 O) O<|A O<|zC O zBk<|zM yY (J 1 O) O<|qD O uB (ref19_Value M hm hF env hel her x.E p1 p2 hS.ex) (vlr O)<|zV O O (qW O zGh) ?_
 rintro _ _ ⟨b4,rfl,rfl⟩
 refine rStR 0 zEi O<|Y<|zG<|G O<|zC O zJx<|zH zDb (J 0 O) O<|yL O<|Y<|zK O ?_ ?_<;>intro c1<;>try simp only [sx] at c1
 ·refine G O<|zC O zJx<|zH zDb (J 0 O) O<|zC O zHb<|rStR 3 sz29 O<|Y<|G O<|zM zCl (J 3 O) O<|rStR 1 zOg O<|Y<|zF<|fin1 (zP zCl O (J 1 O) O) ?_
  rw [sto_e c1];rfl
 ·refine zI<|G O<|zC O zJy<|zH one26 (J 3 O) O<|zC O zAl<|zH one9 (J 2 O) O<|qD O uB (show Pur cfg 63 [gV M,vS x.Name] (.tup [vTn t,vB true]) from by have h:=zIf M x.Name hm;rw [ht] at h;exact h) (vlr O)<|qP O<|yG O<|qS O<|zV O O (qH ma O zOy O) ?_
  rintro _ _ ⟨b5,rfl,rfl⟩
  refine rStR 0 zRv O<|mm O<|G O<|zC O zJy<|zH one26 (J 4 O) O<|A O<|zM zFy (J 0 O) O<|zC O zFj<|zH wT (J 3 O) O<|qD O uB (zXb M hm hF env hel her t hdm x.Idx hS.ix hS.len) (vlr O)<|qP O<|qS O<|qS O<|A O<|mm O<|zG<|mo O O<|yF O<|A O<|rL0 O (fun g7_2=>zE O zAp O) O<|rL1 46 O (fun g7_2=>zD O one3 O (J 3 O) O) O<|rL1 47 O (fun g7_2=>yN O O O) O<|yT O (fun h=>h)<|Y<|zK O (fun c2=>?_) (fun c2=>?_)
  ·obtain ⟨c2a,c2b⟩:(gR M env t x.Idx).2=0/\x.Op=3:=by simpa [Lz] using c2
   have hab:=plcV_bd hdm c2a
   refine kK 18 0 [⟨0,.q []⟩,⟨1,.q [3]⟩,⟨2,.q []⟩,⟨3,.q [0]⟩,⟨4,.q []⟩,⟨5,.q [0]⟩,⟨6,.q []⟩,⟨7,.q []⟩,⟨8,.q []⟩,⟨9,.q []⟩,⟨10,.q [1]⟩,⟨11,.q []⟩,⟨12,.q []⟩,⟨13,.q []⟩,⟨14,.q []⟩,⟨15,.q []⟩,⟨16,.q []⟩,⟨17,.e 1 []⟩] mixed uB uB O O O<|zX O<|zX O<|zX O<|zX O<|zX O<|zX O<|zX O<|zX O<|zX O<|zX O<|zX O<|zX O<|zX O<|zX O<|zX O<|zX O<|zX O<|zX O<|zBj<|mq O (zE O zQs O)<|mq O (zD O one3 O (J 0 O) O)<|mq O (zE O zMd O)<|mq O (zU O yE O (J 0 O) O)<|mq O (zE O zFr O)<|mq O (zD O zNz O (J 0 O) O)<|mq O (zO O O)<|mq O (qE O zHf O O zA (getm (atT_some hab.1 zA)))<|mq O (zU O yP O zZ O)<|mq O (zE O zHa O)<|mq O (zU O yP O (J 0 O) O)<|mq O (yA O zHf W O O O O)<|mq O (qG O uB (ref04_Reduce x.Fold t.T (t.Vals.getD (gR M env t x.Idx).1.toNat zVl) (evE M env x.E).v.V) (vlr O))<|mq O (kJ O O)<|mq O (wG O O O)<|mq O (wF O O O)<|mq O (zE O zHa O)<|zGl O O zB O O (yM O L O O O (zFu 0 O O)) ?_
   rintro _ _ ⟨rfl,rfl⟩
   refine ⟨_,O,?_⟩
   refine zBe O<|mm O<|zG<|mo O O<|yL O<|Y<|zK O ?_ ?_<;>intro c3<;>try simp only [sx] at c3
   ·refine mo O O<|zC O zHb<|rStR 4 sz29 O<|Y<|G O<|zM zCl (J 4 O) O<|rStR 2 zOg O<|Y<|zF<|fin1 (zP zCl O (J 2 O) O) ?_
    rw [sto_f (s:=⟨M,N,0⟩) c1 ht c2a c2b rfl c3];rfl
   ·refine zI<|G O<|zC O zJy<|zH one26 (J 4 O) O<|zC O zAl<|zH one9 (J 3 O) O<|A O<|zC O zHa<|zM yP (J 1 O) O<|qD O uB (zWv M x.Name (gR M env t x.Idx).1 (sE x.Fold t.T (t.Vals.getD (gR M env t x.Idx).1.toNat zVl) (evE M env x.E).v.V).1 hM.len hab.1 (fun y hy hyn=>⟨by have h8:=hM.uni y hy;rw [hyn,ht] at h8;injection h8 with h8;have h9:=hab.2;rw [←h8];omega,(hM.fit y hy).2⟩)) (vlr O)<|zC O zJy<|rStR 4 sz26 O<|Y<|G O<|zM zCl (J 4 O) O<|rStR 2 zOg O<|Y<|zF<|fin1 (zP zCl O (J 2 O) O) ?_
    rw [sto_r (s:=⟨M,N,0⟩) c1 ht c2a c2b rfl c3];rfl
  ·have c2n:(gR M env t x.Idx).2=0->¬x.Op=3:=fun q r=>by simp [Lz,q,r] at c2
   refine zI<|zG<|mo O O<|yL O<|Y<|zK O ?_ ?_<;>intro c3<;>try simp only [sx] at c3
   ·refine mo O O<|zC O zHb<|rStR 4 sz29 O<|Y<|G O<|zM zCl (J 4 O) O<|rStR 2 zOg O<|Y<|zF<|fin1 (zP zCl O (J 2 O) O) ?_
    rw [sto_p (s:=⟨M,N,0⟩) c1 ht c3];rfl
   ·have hab:=plcV_bd hdm c3
    refine zI<|G O<|zC O zJy<|zH one26 (J 4 O) O<|zC O zAl<|zH one9 (J 3 O) O<|A O<|zC O zHa<|zM yP (J 1 O) O<|qD O uB (zWv M x.Name (gR M env t x.Idx).1 (evE M env x.E).v.V hM.len hab.1 (fun y hy hyn=>⟨by have h8:=hM.uni y hy;rw [hyn,ht] at h8;injection h8 with h8;have h9:=hab.2;rw [←h8];omega,(hM.fit y hy).2⟩)) (vlr O)<|zC O zJy<|rStR 4 sz26 O<|Y<|G O<|zM zCl (J 4 O) O<|rStR 2 zOg O<|Y<|zF<|fin1 (zP zCl O (J 2 O) O) ?_
    rw [sto_s (s:=⟨M,N,0⟩) c1 ht c3 (fun q=>c2n c3 q)];rfl
def zLj (B:List Bf) (f:Int) (hf:f<=1048576) (l:List St) (ih:∀x,x∈l->∀(env:List Bd) (s:Rs),(∀y,y∈env->r64 y.Val)->env.length+bD x.Body<=900000->RI B f s->Pur cfg 96 [vRs s f,lN env,dA x.Body] (vRs (lI f x.Body env s) f)) (hC:gM (StC B) l) (env:List Bd) (s:Rs) (her:∀y,y∈env->r64 y.Val) (hw:env.length+bD l<=900000) (hR:RI B f s):
    Pur cfg 96 [vRs s f,lN env,dA l] (vRs (lI f l env s) f):=by
 refine zR func96 O ntmps96 results96 O ?_
 intro z hz
 have hll:=kY l
 refine G O<|mj O fun b1=>zV O O (qH mf O zr165 O) ?_
 rintro _ _ ⟨b2,rfl,rfl⟩
 refine Y<|zG<|ml O O<|zQ<|zY ⟨[(7,.c _),(1,.c _),(2,.c _),(3,.c _),(6,.c _)],[_,_]⟩ (Weak.mk [true,true] ⟨zJ,zJ,zJ,zJ,zJ,T⟩ O)<|qL 1 2 O O (Nat×Rs) (fun ⟨k,t⟩=>[(7,vI k)]) (fun ⟨k,t⟩=>[E.row b2 165 [.sl 8 [],cI 0,cI 0,cI 0],E.row b1 165 [.sl 8 (t.Mem.map Nmd.cells),cI t.N,cI f,cI t.E]]) (fun ⟨k,t⟩=>k<=l.length/\(lI f l env s=lI f (l.drop k) env t)/\(RI B f t)) (fun ⟨k,t⟩=>l.length-k) ⟨⟨0,s⟩,⟨zA,O,hR⟩,Weak.mk [true,true] ⟨zJ,zJ,zJ,zJ,zJ,T⟩ O⟩ ?_
 rintro ⟨k,t⟩ ⟨hk,hp,hRt⟩
 show AWP _ _ _ _ _ ⟨[(7,vI k)]++_,[E.row b2 165 [.sl 8 [],cI 0,cI 0,cI 0],E.row b1 165 [.sl 8 (t.Mem.map Nmd.cells),cI t.N,cI f,cI t.E]]++_⟩
 refine zG<|mo O O<|A O<|qB O D<|yI O<|A O<|rL0 O (fun g2_4=>zE O zHb O) O<|rL1 16 O (fun g2_4=>zD O zDb O (J 1 O) O) O<|rL1 17 O (fun g2_4=>yN O O O) O<|yT O (fun h=>h)<|Y<|zK O ?_ ?_<;>intro c1<;>try simp only [sx] at c1
 ·obtain ⟨x,hx⟩:=qZ l k zA
  have hte:t.E=0:=c1.2
  have hX:StC B x:=(zEw (zDo hC x (qA hx))).1
  have hxw:=yS (qA hx)
  have hxe:=St.body_wt x
  refine zI<|zG<|zQ<|zG<|mo O O<|A O<|qC O D zA (wL hx)<|qR O zAp<|zH one3 zZ O<|yF O<|Y<|qK O (fun c2=>?_) (fun c2=>?_)
  ·obtain ⟨m1,m2⟩:=hX.loop c2
   obtain ⟨F,hF⟩:∃F:Nat->Rs,F=fun j=>(List.range j).foldl (jN f x.Name env (lI f x.Body)) t:=⟨_,rfl⟩
   have hF0:F 0=t:=by rw [hF];rfl
   have hFs:∀j,F (j+1)=jN f x.Name env (lI f x.Body) (F j) j:=fun j=>by rw [hF];exact fold_nx j
   have hRx:=zMr x env t hRt
   refine zG<|ml O O<|zQ<|zY ⟨[(8,.c _),(1,.c _),(2,.c _),(3,.c _),(6,.c _),(7,.c _)],[_,_]⟩ (Weak.mk [true,true] ⟨zJ,zJ,zJ,zJ,zJ,zJ,T⟩ O)<|qL 1 2 O O (Nat) (fun j=>[(8,vI j)]) (fun j=>[E.row b2 165 [.sl 8 [],cI 0,cI 0,cI 0],E.row b1 165 [.sl 8 ((F j).Mem.map Nmd.cells),cI (F j).N,cI f,cI (F j).E]]) (fun j=>j<=x.Many.toNat/\RI B f (F j)) (fun j=>x.Many.toNat-j) ⟨0,⟨zA,hF0 ▸ hRt⟩,Weak.mk [true,true] ⟨zJ,zJ,zJ,zJ,zJ,zJ,T⟩ (by rw [hF0];rfl)⟩ ?_
   rintro j ⟨hj,hRj⟩
   refine zG<|mo O O<|A O<|A O<|qC O D zA (wL hx)<|qR O zAt<|zH one3 zZ O<|yI O<|A O<|rL0 O (fun g6_7=>zE O zHb O) O<|rL1 36 O (fun g6_7=>zD O zDb O (J 1 O) O) O<|rL1 37 O (fun g6_7=>yN O O O) O<|yT O (fun h=>h)<|Y<|zK O ?_ ?_<;>intro c3<;>try simp only [sx] at c3
   ·have hje:(F j).E=0:=c3.2
    obtain ⟨u,hu⟩:∃u,u=fA f (F j):=⟨_,rfl⟩
    have hRv:=zPs (B:=B) (f:=f) x.Body
    refine zI<|zG<|zQ<|G O<|zM zCl (J 1 O) O<|qD O uB (show Pur cfg 127 [vRs (F j) f] (vRs u f) from hu ▸ ref31_step (F j) f hRj.n0 hRj.n1 hf) (vlr O)<|rStR 1 zOg O<|Y<|G O<|zC O zHb<|zH zDb (J 1 O) O<|yF O<|Y<|qK O (fun c4=>?_) (fun c4=>?_)
    ·have hst:=step_ok (hu ▸ c4) hje
     rw [←hu] at hst
     obtain ⟨rfl,hlt⟩:=hst
     have hgo:F (j+1)=lI f x.Body (⟨x.Name,(j:Int)⟩::env) ⟨(F j).Mem,(F j).N+1,0⟩:=(hFs j).trans (turn_go hje hu.symm)
     have hRu:RI B f ⟨(F j).Mem,(F j).N+1,0⟩:=hu ▸ hRj.step
     have he2:∀y,y∈(⟨x.Name,(j:Int)⟩::env:List Bd)->r64 y.Val:=fun y hy=>by rcases af.1 hy with rfl|hy;(show r64 (j:Int));unfold r64;omega;exact her y hy
     refine kK 16 1 [⟨0,.q [2]⟩,⟨1,.q []⟩,⟨2,.q []⟩,⟨3,.q []⟩,⟨4,.q []⟩,⟨5,.q []⟩,⟨6,.q []⟩,⟨7,.q []⟩,⟨9,.q []⟩,⟨11,.q []⟩,⟨12,.q []⟩,⟨13,.q []⟩,⟨14,.q []⟩,⟨15,.q []⟩,⟨8,.e 0 []⟩,⟨10,.e 0 []⟩] mixed uB uB O O O<|zX O<|zX O<|zX O<|zX O<|zX O<|zX O<|zX O<|zX O<|zX O<|zX O<|zX O<|zX O<|zX O<|zX O<|zX O<|zX O<|zBj<|mq O (zU O zCl O (J 0 O) O)<|mq O (zO O O)<|mq O (zO O O)<|mq O (qE O D O O zA (wL hx))<|mq O (qN O zAl O)<|mq O (zD O one9 O zZ O)<|mq O (zO O O)<|mq O (zDc O zr147 pl147 O)<|mq O (zO O O)<|mq O (zO O O)<|mq O (zO O O)<|mq O (qE O D O O zA (wL hx))<|mq O (qN O kV O)<|mq O (zD O kX O zZ O)<|zKm O O zB O O (zDr O zYw zr147 O O O O) ?_
     rintro _ _ ⟨sv3,rfl,rfl⟩
     refine ⟨_,O,?_⟩
     refine zKm O O zB O O (yO 0 O zYw O O O uC uC) ?_
     rintro _ _ ⟨sv4,rfl,rfl⟩
     refine ⟨_,O,?_⟩
     refine zBe O<|yU _ (yV 0 O (regs':=[(57,_)]) (μ':=[_,_]) ⟨FLe.sl,T⟩ ⟨EFle.refl _,EFle.refl _,T⟩)<|qD O uB (ih x (qA hx) (⟨x.Name,(j:Int)⟩::env) ⟨(F j).Mem,(F j).N+1,0⟩ he2 (by simp only [lLc];omega) hRu) (vlr O)<|rStR 1 zOg O<|Y<|zT O<|A O<|qI O ⟨zA,zA⟩<|A O<|Y ?_
     exact j0
    ·have hgo:F (j+1)=u:=by rw [hu];exact (hFs j).trans (turn_no hje (hu ▸ c4))
     refine zI<|zT O<|A O<|qI O ⟨zA,zA⟩<|A O<|Y ?_
     exact j0
   ·have hrn:jT f x env t=F j:=by rw [run_loop c2,hF];exact fold_stop zA (by rcases c3 with c3|c3;exact .inl zA;exact .inr (by rw [hF] at c3;exact c3))
    refine qO<|qO<|zT O<|A O<|qI O ⟨zA,zA⟩<|A O<|Y ?_
    exact s6
  ·obtain ⟨u,hu⟩:∃u,u=fA f t:=⟨_,rfl⟩
   refine zI<|G O<|zM zCl (J 1 O) O<|qD O uB (show Pur cfg 127 [vRs t f] (vRs u f) from hu ▸ ref31_step t f hRt.n0 hRt.n1 hf) (vlr O)<|rStR 1 zOg O<|Y<|zG<|G O<|zC O zHb<|zH zDb (J 1 O) O<|yL O<|Y<|zK O ?_ ?_<;>intro c5<;>try simp only [sx] at c5
   ·subst hu
    refine G O<|zM zCl (J 1 O) O<|rStR 0 zOg O<|Y<|zF<|fin1 (zP zCl O (J 0 O) O) ?_
    rw [hp,zPq hx hte,run_stop c2 c5,run_end (.inr c5)];rfl
   ·have hst:=step_ok (hu ▸ c5) hte
    rw [←hu] at hst
    obtain ⟨rfl,hlt⟩:=hst
    have hRu:RI B f ⟨t.Mem,t.N+1,0⟩:=hu ▸ hRt.step
    refine zI<|zG<|mo O O<|A O<|qC O D zA (wL hx)<|qR O zAp<|zH one3 zZ O<|yF O<|Y<|qK O (fun c6=>?_) (fun c6=>?_)
    ·obtain ⟨p1,p2⟩:=hX.cond c6
     have hm:t.Mem.length<=140737488355328:=by have:=hRt.mem.len;omega
     have hF:∀y,y∈t.Mem->y.T.Dims.length<=17592186044416/\y.T.Vals.length<=140737488355328:=fun y hy=>by have:=hRt.mem.fit y hy;omega
     refine zG<|qV 14 mixed uB O O<|mr O (zE O zJy O)<|mr O (zD O one26 O (J 1 O) O)<|mr O (zO O O)<|mr O (zO O O)<|mr O (zO O O)<|mr O (qE O D O O zA (wL hx))<|mr O (qN O zBk O)<|mr O (zU O yY O zZ O)<|mr O (qG O uB (ref19_Holds t.Mem hm hF env zA her x.E p1 p2 hX.ex) (vlr O))<|mr O (kJ O O)<|mr O (wF O O O)<|mr O (wF O O O)<|mr O (qY O O)<|mr O (qY O O)<|yQ<|Y<|mo O O<|zC O zHb<|rStR 1 sz29 O<|Y<|zG<|mo O O<|A O<|rL0 O (fun g17_1=>zO O O) O<|rL1 92 O (fun g17_1=>yN O O O) O<|yT O (fun h=>h)<|Y<|zK O (fun c7=>?_) (fun c7=>?_)
     ·have h7:(evE t.Mem env x.E).h.1=true/\(evE t.Mem env x.E).h.2=0:=by simpa [Lz] using c7
      have hrn:jT f x env t=lI f x.Body env ⟨t.Mem,t.N+1,(evE t.Mem env x.E).h.2⟩:=by rw [run_ift c6 hu.symm h7.2 h7.1,h7.2]
      refine qV 8 mixed uB O O<|mr O (zU O zCl O (J 1 O) O)<|mr O (zO O O)<|mr O (zO O O)<|mr O (zO O O)<|mr O (qE O D O O zA (wL hx))<|mr O (qN O kV O)<|mr O (zD O kX O zZ O)<|mr O (qG O uB (ih x (qA hx) env ⟨t.Mem,t.N+1,(evE t.Mem env x.E).h.2⟩ her zA ⟨hRt.mem,hRu.n0,hRu.n1⟩) (vlr O))<|yQ<|rStR 1 zOg O<|Y<|qO<|zT O<|A O<|qI O ⟨zA,zA⟩<|A O<|Y ?_
      exact s6
     ·have hrn:jT f x env t=⟨t.Mem,t.N+1,(evE t.Mem env x.E).h.2⟩:=by by_cases q:(evE t.Mem env x.E).h.2=0;exact run_iff c6 hu.symm (by simpa [Lz,q] using c7);exact run_ife c6 hu.symm q
      refine zI<|qO<|zT O<|A O<|qI O ⟨zA,zA⟩<|A O<|Y ?_
      exact s6
    ·have hrn:=run_sto c2 c6 hu.symm (env:=env)
     refine zI<|qV 7 mixed uB O O<|mr O (zU O zCl O (J 1 O) O)<|mr O (zO O O)<|mr O (zO O O)<|mr O (zO O O)<|mr O (qE O D O O zA (wL uA))<|mr O (zU O zDv O zZ O)<|mr O (qG O uB (ref31_store B t.Mem (t.N+1) f hRt.mem env zA her x hX c2 c6) (vlr O))<|yQ<|rStR 1 zOg O<|Y<|zT O<|A O<|qI O ⟨zA,zA⟩<|A O<|Y ?_
     exact s6
 ·refine qO<|G O<|zM zCl (J 1 O) O<|rStR 0 zOg O<|Y<|zF<|fin1 (zP zCl O (J 0 O) O) ?_
  rw [hp,run_end (by rcases c1 with c1|c1;exact .inl zA;exact .inr c1)];rfl
end Go.W
end
section
set_option maxRecDepth 10000
namespace Go.W
open Go Go.Eng Go.Proofs Go.L41 Go.Br Tryz
attribute [local irreducible] AWP RWP TD fK
def eE (mem:List Nmd) (l:List Bf):List Nmd:=if lP mem l=0 then l.map (pA mem) else []
def prvM_0 {mem:List Nmd} {l:List Bf} (h:lP mem l=0):eE mem l=l.map (pA mem):=ab h
def prvM_1 {mem:List Nmd} {l:List Bf} (h:¬lP mem l=0):eE mem l=[]:=aa h
def init_fit {n:Ns} {ins:List Nmd} (hn:n.Ok) (hF:∀x,x∈ins->x.T.Dims.length<=17592186044416/\x.T.Vals.length<=140737488355328) (h:(lA n ins).2=0):
    (lA n ins).1.length<=140737488355328/\∀x,x∈(lA n ins).1->x.T.Dims.length<=17592186044416/\x.T.Vals.length<=140737488355328:=by
  rw [(init_is h).1]
  refine ⟨by rw [lLm];have:=hn.bufs;omega,fun x hx=>?_⟩
  obtain ⟨b,hb,rfl⟩:=bq.1 hx
  unfold xG
  split
  · cases c:dP ins b.Name with
    |none=>exact ⟨bn _,bn _⟩
    |some t=>
      obtain ⟨y,hy,hyt⟩:=zQq c
      have:=hF y hy
      rw [hyt] at this
      exact this
  · have h1:=zMf b.Dims
    exact ⟨hn.dims b hb,by show (List.replicate _ _).length<=_;rw [List.length_replicate];omega⟩
def eP (n m:Ns) (ins:List Nmd) (strict:Bool):Prop:=(lA n ins).2=0->¬(rnN n (lA n ins).1 20000).2.2=14->¬(rnN m (lA n ins).1 60000).2.2=14->((rnN n (lA n ins).1 20000).2.2=0∨strict=true)->
  (rnN n (lA n ins).1 20000).2.2=(rnN m (lA n ins).1 60000).2.2/\(rnN n (lA n ins).1 20000).1=(rnN m (lA n ins).1 60000).1
def pl165:fW prog 165=some [(0,1),(1,1),(2,1),(3,1)]:=by kernel_rfl
def zWw (B:List Bf) (f:Int) (hf:f<=1048576) (x:St) (hC:gM (StC B) x.Body):∀(env:List Bd) (s:Rs),(∀y,y∈env->r64 y.Val)->env.length+bD x.Body<=900000->RI B f s->Pur cfg 96 [vRs s f,lN env,dA x.Body] (vRs (lI f x.Body env s) f):=by
  induction x using St.ind with
  |_ x ih=>exact fun env s her hw hR=>zLj B f hf x.Body (fun a ha=>ih a ha (zEw (zDo hC a ha)).2) hC env s her hw hR
def ref31_Body (B:List Bf) (f:Int) (hf:f<=1048576) (l:List St) (hC:gM (StC B) l) (env:List Bd) (s:Rs) (her:∀y,y∈env->r64 y.Val) (hw:env.length+bD l<=900000) (hR:RI B f s):Pur cfg 96 [vRs s f,lN env,dA l] (vRs (lI f l env s) f):=
  zLj B f hf l (fun a ha=>zWw B f hf a (zEw (zDo hC a ha)).2) hC env s her hw hR
def ref31_provided (n:Ns) (hn:n.Ok) (mem:List Nmd) (hm:mem.length<=140737488355328) (hF:∀x,x∈mem->x.T.Dims.length<=17592186044416/\x.T.Vals.length<=140737488355328)  :
    Pur cfg 95 [vNs n,gV mem] (.tup [gV (eE mem n.Bufs),vI (lP mem n.Bufs)]):=by
 refine zR func95 O ntmps95 results95 O ?_
 intro z hz
 have hnb:=hn.bufs
 refine G O<|mj O fun b1=>A O<|mm O<|mo O O<|yU _ (wE 125 8)<|Y<|zG<|ml O O<|zQ<|zY ⟨[(7,.c _),(6,.c _),(1,.c _),(2,.c _)],[_,_]⟩ (Weak.mk [true,true] ⟨zJ,zJ,zJ,zJ,T⟩ O)<|qL 2 1 O O (Nat×Value) (fun ⟨k,sw⟩=>[(7,vI k),(6,.c (.lit sw))]) (fun ⟨k,sw⟩=>[E.vec sw 125 8 (((n.Bufs.take k).map (pA mem)).map Nmd.cells)]) (fun ⟨k,sw⟩=>k<=n.Bufs.length/\(lP mem n.Bufs=lP mem (n.Bufs.drop k))) (fun ⟨k,sw⟩=>n.Bufs.length-k) ⟨⟨0,(.slice none 0 0)⟩,⟨zA,O⟩,Weak.mk [true,true] ⟨zJ,zJ,zJ,zJ,T⟩ O⟩ ?_
 rintro ⟨k,sw⟩ ⟨hk,hp⟩
 show AWP _ _ _ _ _ ⟨[(7,vI k),(6,.c (.lit sw))]++_,[E.vec sw 125 8 (((n.Bufs.take k).map (pA mem)).map Nmd.cells)]++_⟩
 refine zG<|mo O O<|zC O zAm<|zH zDx (J 1 O) O<|qB O el22<|yI O<|Y<|zK O ?_ ?_<;>intro c1<;>try simp only [sx] at c1
 ·obtain ⟨b,hb⟩:=qZ n.Bufs k zA
  refine zI<|zG<|zQ<|G O<|zC O zAm<|zH zDx (J 1 O) O<|A O<|qC O el22 zA (getm uA)<|zM zMl zZ O<|zV O O (qH lw O zr94 O) ?_
  rintro _ _ ⟨b3,rfl,rfl⟩
  refine rStR 0 sz94 O<|Y<|zG<|mo O O<|zC O zFh<|zH one9 (J 0 O) O<|zC O zGy<|zM yE (J 0 O) O<|zC O zGx<|zH zBz (J 0 O) O<|qD O uB (ref19_Must mem b hm hF) (vlr O)<|mm O<|mo O O<|yL O<|Y<|zK O ?_ ?_<;>intro c2<;>try simp only [sx] at c2
  ·refine mo O O<|yJ 8 O<|mm O<|zF<|fin2 (rs_c O) (rs_c O) ?_
   have h9:=prv_bad hb hp c2
   rw [prvM_1 (by rw [h9];exact c2),h9];rfl
  ·refine zI<|mo O O<|zC O zFh<|zH one9 (J 0 O) O<|qD O uB (zIf _ _ zA) (vlr O)<|qP O<|yG O<|qS O<|zV O O (qH ma O zOy O) ?_
   rintro _ _ ⟨b4,rfl,rfl⟩
   refine rStR 0 zRv O<|mm O<|zT O<|A O<|zC O zFh<|zH one9 (J 1 O) O<|zM zFy (J 0 O) O<|qU O zr125 pl125<|zW O (yA O el26 zr125 O O O O)<|zV O O (yO 2 O el26 O O O uC uC) ?_
   rintro _ _ ⟨sv5,rfl,rfl⟩
   refine mm O<|zT O<|A O<|qI O ⟨zA,zA⟩<|A O<|Y ?_
   refine ⟨⟨k+1,sv5⟩,⟨zA,prv_next hb hp zA⟩,(by show n.Bufs.length-(k+1)<n.Bufs.length-k;omega),Weak.mk [false,false,true,true] ⟨zJ,zJ,zJ,zJ,T⟩ (by exact zGv (by rw [yR hb,aC,aC,cy,cy];rfl))⟩
 ·refine qO<|zG<|zY _ (yV 0 O (regs':=[(6,_)]) (μ':=[_]) ⟨FLe.sl,T⟩ ⟨EFle.refl _,T⟩)<|zT O<|A O<|A O<|mm O<|zF<|fin2 (rs_c O) (rs_c O) ?_
  have h9:=prv_end zA hp
  rw [yW (l:=n.Bufs) (k:=k) zA,prvM_0 h9,h9]
def ref31_run (n:Ns) (hn:n.Ok) (hw:bD n.Body<=900000) (hv:(bL n).2=0) (hC:gM (StC n.Bufs) n.Body) (mem:List Nmd) (hm:mem.length<=140737488355328) (hF:∀x,x∈mem->x.T.Dims.length<=17592186044416/\x.T.Vals.length<=140737488355328) (f:Int):
    Pur cfg 65 [vNs n,dA n.Body,gV mem,lN [],vI f] (.tup [gV (rnN n mem f).1,vI (rnN n mem f).2.1,vI (rnN n mem f).2.2]):=by
 refine zR func65 O ntmps65 results65 O ?_
 intro z hz
 obtain ⟨q,hq⟩:∃q,q=eE mem n.Bufs:=⟨_,rfl⟩
 refine G O<|mj O fun b1=>yJ 8 O<|A O<|mm O<|zG<|mo O O<|yI O<|A O<|rL0 O (fun g1_2=>zO O O) O<|rL1 19 O (fun g1_2=>yD O O O) O<|r_or O (fun h=>(lzf h))<|Y<|zK O (fun c1=>?_) (fun c1=>?_)
 ·have h1:f<0∨1048576<f:=by simpa [Lz] using c1
  refine G O<|yJ 8 O<|A O<|mm O<|zF<|fin3 (rs_c O) (rs_c O) (rs_c O) ?_
  rw [run_2 hv h1];rfl
 ·have h1:¬(f<0∨1048576<f):=by simpa [Lz] using c1
  refine zI<|G O<|zM kE (J 0 O) O<|A O<|qD O uB (show Pur cfg 95 [vNs n,gV mem] (.tup [gV q,vI (lP mem n.Bufs)]) from hq ▸ ref31_provided n hn mem hm hF) (vlr O)<|qP O<|qS O<|qS O<|A O<|mm O<|zG<|mo O O<|yL O<|Y<|zK O ?_ ?_<;>intro c2<;>try simp only [sx] at c2
  ·subst hq
   refine mo O O<|yJ 8 O<|A O<|mm O<|zF<|fin3 (rs_c O) (rs_c O) (rs_c O) ?_
   rw [run_3 hv h1 c2];rfl
  ·obtain rfl:q=n.Bufs.map (pA mem):=by rw [hq];exact prvM_0 c2
   refine zI<|mo O O<|A O<|qU O zr165 pl165<|A O<|A O<|qD O uB (show Pur cfg 96 [vRs ⟨n.Bufs.map (pA mem),0,0⟩ f,lN [],dA n.Body] (vRs (nV n mem f) f) from ref31_Body n.Bufs f zA n.Body hC [] ⟨n.Bufs.map (pA mem),0,0⟩ (fun y hy=>by cases hy) (by simpa using hw) ⟨prv_ok hn c2,Int.le_refl _,by show (0:Int)<=f;omega⟩) (vlr O)<|zV O O (qH mf O zr165 O) ?_
   rintro _ _ ⟨b2,rfl,rfl⟩
   refine rStR 0 zOg O<|Y<|zG<|G O<|zC O zHb<|zH zDb (J 0 O) O<|yL O<|Y<|zK O ?_ ?_<;>intro c3<;>try simp only [sx] at c3
   ·refine zG<|qV 5 mixed uB O O<|mr O (zE O zHb O)<|mr O (zD O zDb O (J 0 O) O)<|mr O (zZg 8 O O)<|mr O (qY O O)<|mr O (qY O O)<|yQ<|Y<|zF<|fin3 (rs_c O) (rs_c O) (rs_c O) ?_
    rw [run_4 hv h1 c2 c3];rfl
   ·refine zI<|zG<|qV 7 mixed uB O O<|mr O (zE O zJy O)<|mr O (zD O one26 O (J 0 O) O)<|mr O (zE O fd165_1 O)<|mr O (zD O one3 O (J 0 O) O)<|mr O (qY O O)<|mr O (qY O O)<|mr O (qY O O)<|yQ<|Y<|zF<|fin3 (rs_c O) (rs_c O) (rs_c O) ?_
    rw [run_0 hv h1 c2 c3]
def ref31_Run (n:Ns) (hn:n.Ok) (hw:bD n.Body<=900000) (hC:(bL n).2=0->gM (StC n.Bufs) n.Body) (mem:List Nmd) (hm:mem.length<=140737488355328) (hF:∀x,x∈mem->x.T.Dims.length<=17592186044416/\x.T.Vals.length<=140737488355328) (f:Int):
    Pur cfg 27 [vNs n,gV mem,vI f] (.tup [gV (rnN n mem f).1,vI (rnN n mem f).2.1,vI (rnN n mem f).2.2]):=by
 refine zR func27 O ntmps27 results27 O fun z hz=>G O<|mj O fun b1=>yJ 8 O<|A O<|mm O<|zG<|G O<|zM kE (J 0 O) O<|qD O uB (zNx n hn hw) (vlr O)<|qP O<|qS O<|qS O<|A O<|mm O<|mo O O<|yL O<|Y<|zK O ?_ ?_<;>intro c1<;>try simp only [sx] at c1
 ·refine mo O O<|yJ 8 O<|A O<|mm O<|zF<|fin3 (rs_c O) (rs_c O) (rs_c O) ?_
  rw [run_1 c1];rfl
 ·refine zI<|G O<|zM kE (J 0 O) O<|zC O zAq<|zH kX (J 0 O) O<|A O<|A O<|qD O uB (ref31_run n hn hw c1 (hC c1) mem hm hF f) ⟨zJ,O,zJ,O,zJ,O,VLe.nil,O,zJ,O,T⟩<|qS O<|qS O<|qS O<|A O<|A O<|mm O<|zF<|fin3 (rs_c O) (rs_c O) (rs_c O) ?_
  exact O
def law36_Small (n:Ns) (m:Nat) (x:Int) (hf:n.Fit) (hm:m<=5000) (hx:x=m):
    Pur cfg 5 [vNs n,vI x] (vB (smS n m)):=by
 refine zR func5 O ntmps5 results5 O fun z hz=>G O<|mj O fun b1=>mm O<|G O<|zC O zAm<|zH zDx (J 0 O) O<|qB O el22<|zW O (wS O O O)<|A O<|rL0 O (fun g1_4=>zE O zAq O) O<|rL1 10 O (fun g1_4=>zD O kX O (J 0 O) O) O<|rL0 O (fun g1_4=>zO O O) O<|rLz [(11,_),(12,_)] O gv1 ⟨O,O,O,O,T⟩ (fun g1_4=>qG O uB (zZw n.Body m x hf.body hf.len hm hx) (vlr O)) O<|rL0 O (fun g1_4=>zO O O) O<|rLz [(13,_),(14,_)] O gv1 ⟨O,O,O,O,T⟩ (fun g1_4=>wS O O O) O<|yT O (fun h=>h)<|mm O<|zF<|zS O ?_
 subst hx
 exact ag vB (by unfold smS;congr 1<;>exact da.2 zA)
def zSq (n m:Ns) (h1n:n.Ok) (h2n:bD n.Body<=900000) (h3n:(bL n).2=0->gM (StC n.Bufs) n.Body) (h1m:m.Ok) (h2m:bD m.Body<=900000) (h3m:(bL m).2=0->gM (StC m.Bufs) m.Body) (ins:List Nmd) (hm:ins.length<=140737488355328) (hF:∀x,x∈ins->x.T.Dims.length<=17592186044416/\x.T.Vals.length<=140737488355328) (strict:Bool) (hS:eP n m ins strict):
    Pur cfg 8 [vNs n,vNs m,gV ins,vB strict] (vB true):=by
 refine zR func8 O ntmps8 results8 O ?_
 intro z hz
 obtain ⟨M,hM⟩:∃M,M=(lA n ins).1:=⟨_,rfl⟩
 obtain ⟨a,ha⟩:∃a,a=rnN n M 20000:=⟨_,rfl⟩
 obtain ⟨b,hb⟩:∃b,b=rnN m M 60000:=⟨_,rfl⟩
 refine G O<|mj O fun b1=>mj O fun b2=>mm O<|G O<|zM kE (J 1 O) O<|A O<|qD O uB (show Pur cfg 26 [vNs n,gV ins] (.tup [gV M,vI (lA n ins).2]) from hM ▸ zUd n h1n h2n ins hm hF) (vlr O)<|qP O<|qS O<|qS O<|A O<|mm O<|zG<|mo O O<|yL O<|Y<|zK O (fun c1=>?_) (fun c1=>?_)
 ·refine ml O O<|zF<|zS O ?_
  exact O
 ·try simp only [sx] at c1
  obtain ⟨hm2,hF2⟩:=init_fit h1n hF c1
  rw [←hM] at hm2 hF2
  refine zI<|G O<|zM kE (J 1 O) O<|A O<|qD O uB (show Pur cfg 27 [vNs n,gV M,vI 20000] (.tup [gV a.1,vI a.2.1,vI a.2.2]) from ha ▸ ref31_Run n h1n h2n h3n M hm2 hF2 20000) (vlr O)<|qP O<|qS O<|qS O<|qS O<|A O<|A O<|mm O<|G O<|zM kE (J 0 O) O<|A O<|qD O uB (show Pur cfg 27 [vNs m,gV M,vI 60000] (.tup [gV b.1,vI b.2.1,vI b.2.2]) from hb ▸ ref31_Run m h1m h2m h3m M hm2 hF2 60000) (vlr O)<|qP O<|qS O<|qS O<|qS O<|A O<|A O<|mm O<|zG<|mo O O<|yF O<|A O<|rL0 O (fun g6_2=>zO O O) O<|rL1 42 O (fun g6_2=>yN O O O) O<|r_or O (fun h=>(lzf h))<|A O<|rL0 O (fun g6_6=>zO O O) O<|rL1 46 O (fun g6_6=>kB O O O) O<|rL1 47 O (fun g6_6=>zO O O) O<|rLz [] O gv2 T (fun g6_9=>zO O O) O<|rLz [(49,_)] O gv2 ⟨O,O,T⟩ (fun g6_9=>kG O O) O<|rL1 48 O (fun g6_6=>wA O O O (fun h=>kD uA h) O) O<|r_or O (fun h=>(lzf h))<|Y<|zK O (fun c2=>?_) (fun c2=>?_)
  ·refine ml O O<|zF<|zS O ?_
   exact O
  ·have hq:(¬a.2.2=14/\¬b.2.2=14)/\(¬a.2.2=0->strict=true):=by simpa [Lz] using c2
   have hs:=hS c1
   rw [←hM,←ha,←hb] at hs
   obtain ⟨hs1,hs2⟩:=hs hq.1.1 hq.1.2 (by by_cases q:a.2.2=0;exact .inl q;exact .inr (hq.2 q))
   obtain ⟨hr1,hr2⟩:=run_fit (n:=n) (mem:=M) (f:=20000) h1n
   rw [←ha] at hr1 hr2
   refine zI<|mo O O<|A O<|yF O<|A O<|rL0 O (fun g8_3=>zO O O) O<|rL0 O (fun g8_3=>zO O O) O<|rLz [(57,_),(58,_)] O gv1 ⟨O,O,O,O,T⟩ (fun g8_3=>qG O uB (show Pur cfg 28 [gV a.1,gV b.1] (vB true) from hs2 ▸ base_Nameds a.1 hr1 hr2) (vlr O)) O<|yT O (fun h=>h)<|mm O<|zF<|zS O ?_
   exact ag vB (by rw [hs1];simp)
end Go.W
end
section
set_option maxRecDepth 10000
namespace Go.W
open Go Go.Eng Go.Proofs Go.L41 Go.Br Tryz
attribute [local irreducible] AWP RWP TD fK
def zSo {n m:Ns} (h:(bL n).2=0/\LikeN n m) (ins:List Nmd):eP n m ins true:=fun _ h1 h2 _=>like_same h.1 h.2 _ h1 h2
def law_SplitRuns (n:Ns) (hf:n.Fit) (hr:bE Lf.rng n.Body) (ins:List Nmd) (hm:ins.length<=140737488355328) (hF:∀x,x∈ins->x.T.Dims.length<=17592186044416/\x.T.Vals.length<=140737488355328) (loop:lr) (by_:Int) (outer inner:lr) (hb:r64 by_):
    Pur cfg 3 [vNs n,gV ins,vS loop,vI by_,vS outer,vS inner] (vB true):=by
 refine zR func3 O ntmps3 results3 O fun z hz=>G O<|mj O fun b1=>mm O<|zG<|G O<|zM kE (J 0 O) O<|qD O uB (law36_Small n 300 300 hf zA O) (vlr O)<|kO O<|A O<|rL0 O (fun g1_3=>zO O O) O<|rL1 19 O (fun g1_3=>yK O el26 O) O<|rL1 20 O (fun g1_3=>yD O O O) O<|r_or O (fun h=>(lzf h))<|Y<|zK O (fun c1=>?_) (fun c1=>?_)
 ·refine G O<|qD O uB zOc T<|mm O<|zF<|zS O ?_
  rfl
 ·have c1:smS n 300=true/\(ins.length:Int)<=60:=by simpa [Lz] using c1
  obtain ⟨k1,k3⟩:=smS_yes c1.1
  have hok:=hf.ok (m:=300) zA zA k3
  have hw:=weighB_wt k3
  have hw3:bD n.Body<=300:=by omega
  refine zI<|G O<|zM kE (J 0 O) O<|A O<|A O<|A O<|A O<|qD O uB (zOi n loop by_ outer inner hok zA hr hb) (vlr O)<|qP O<|yG O<|qS O<|zV O O (qH [some 8,some 20] O zr25 O) ?_
  rintro _ _ ⟨b2,rfl,rfl⟩
  refine rStR 0 sz25 O<|mm O<|zG<|mo O O<|yF O<|A O<|rL0 O (fun g4_2=>zU O kE O (J 1 O) O) O<|rL0 O (fun g4_2=>zU O kE O (J 0 O) O) O<|rL0 O (fun g4_2=>zO O O) O<|rLz [(36,_),(37,_),(38,_)] O gv1 ⟨O,O,O,O,O,O,T⟩ (fun g4_2=>qG O uB (let h9:=(split_like hok hr hw3 (show (lG n loop by_ outer inner).2=0 from (by simp only [Lz,ay,az,sx] at g4_2;omega)));zSq n (lG n loop by_ outer inner).1 hok zA (fun hv=>zRs hv hr zA) h9.2.ok h9.2.wt (fun hv=>zRs hv h9.2.rng (by have:=h9.2.wt;omega)) ins hm hF true (zSo h9 ins)) (vlr O)) O<|rL1 39 O (fun g4_2=>kG O O) O<|yT O (fun h=>h)<|Y<|zK O ?_ ?_<;>intro c2<;>try simp only [sx] at c2
  ·exact absurd c2 uD
  ·refine zI<|G O<|zM kE (J 1 O) O<|A O<|A O<|A O<|qD O uB (split_Peel n loop by_ outer hok zA hr hb) (vlr O)<|qP O<|yG O<|qS O<|rStR 0 sz25 O<|mm O<|zG<|mo O O<|yF O<|A O<|rL0 O (fun g7_2=>zU O kE O (J 1 O) O) O<|rL0 O (fun g7_2=>zU O kE O (J 0 O) O) O<|rL0 O (fun g7_2=>zO O O) O<|rLz [(53,_),(54,_),(55,_)] O gv1 ⟨O,O,O,O,O,O,T⟩ (fun g7_2=>qG O uB (let h9:=(peel_like hok hr hw3 (show (mV n loop by_ outer).2=0 from (by simp only [Lz,ay,az,sx] at g7_2;omega)));zSq n (mV n loop by_ outer).1 hok zA (fun hv=>zRs hv hr zA) h9.2.ok h9.2.wt (fun hv=>zRs hv h9.2.rng (by have:=h9.2.wt;omega)) ins hm hF true (zSo h9 ins)) (vlr O)) O<|rL1 56 O (fun g7_2=>kG O O) O<|yT O (fun h=>h)<|Y<|zK O ?_ ?_<;>intro c3<;>try simp only [sx] at c3
   ·exact absurd c3 uD
   ·refine zI<|G O<|zM kE (J 1 O) O<|A O<|A O<|qD O uB (zNu n loop outer hok zA hr many_ok) (vlr O)<|qP O<|yG O<|qS O<|rStR 0 sz25 O<|mm O<|mo O O<|yL O<|A O<|rL0 O (fun g10_2=>zU O kE O (J 1 O) O) O<|rL0 O (fun g10_2=>zU O kE O (J 0 O) O) O<|rL0 O (fun g10_2=>zO O O) O<|rLz [(69,_),(70,_),(71,_)] O gv1 ⟨O,O,O,O,O,O,T⟩ (fun g10_2=>qG O uB (let h9:=(col_like hok hr hw3 (show (rK n loop outer).2=0 from (by simp only [Lz,ay,az,sx] at g10_2;omega)));zSq n (rK n loop outer).1 hok zA (fun hv=>zRs hv hr zA) h9.2.ok h9.2.wt (fun hv=>zRs hv h9.2.rng (by have:=h9.2.wt;omega)) ins hm hF true (zSo h9 ins)) (vlr O)) O<|r_or O (fun h=>(lzf h))<|A O<|rL0 O (fun g10_8=>qG O uB zOc T) O<|yT O (fun h=>h)<|mm O<|zF<|zS O ?_
    exact ag vB uD
end Go.W
end
