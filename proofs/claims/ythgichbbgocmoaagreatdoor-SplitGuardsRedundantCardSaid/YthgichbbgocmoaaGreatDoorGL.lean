/-
  What functions compute.
  What functions compute.
  What functions compute.
  What functions compute.
  What functions compute.
  What functions compute.
  What functions compute.
  What functions compute.
  Conditions: none.
-/
import Derived.Test.YthgichbbgocmoaaGreatDoorGB
import Derived.Test.YthgichbbgocmoaaGreatDoorEngZ
import Derived.Test.YthgichbbgocmoaaGreatDoorPlain3
set_option linter.unusedSimpArgs false
set_option linter.unusedVariables false
section
set_option maxRecDepth 10000
namespace Go.W
open Go Go.Eng Go.Proofs Go.L41 Go.Br
attribute [local irreducible] AWP RWP TD fH
theorem zLd:mO Tryz.prog 94=some 8:=by kernel_rfl
theorem el22:dX Tryz.prog 22=some (94,8,88):=by kernel_rfl
theorem D:dX Tryz.prog 23=some (56,20,256):=by kernel_rfl
theorem zAj:bH Tryz.prog 25 0=some (0,22):=by kernel_rfl
theorem kV:bH Tryz.prog 56 7=some (19,23):=by kernel_rfl
theorem zEr:bH Tryz.prog 94 0=some (0,9):=by kernel_rfl
theorem zGc:bH Tryz.prog 94 1=some (1,48):=by kernel_rfl
theorem zGb:bH Tryz.prog 94 2=some (6,38):=by kernel_rfl
theorem zOq:bH Tryz.prog 94 3=some (7,3):=by kernel_rfl
theorem ok36:bA Tryz.prog 36=true:=by kernel_rfl
theorem ok37:bA Tryz.prog 37=true:=by kernel_rfl
theorem ok69:bA Tryz.prog 69=true:=by kernel_rfl
theorem ok70:bA Tryz.prog 70=true:=by kernel_rfl
theorem ok75:bA Tryz.prog 75=true:=by kernel_rfl
theorem ok78:bA Tryz.prog 78=true:=by kernel_rfl
theorem ok100:bA Tryz.prog 100=true:=by kernel_rfl
theorem ok101:bA Tryz.prog 101=true:=by kernel_rfl
theorem ok103:bA Tryz.prog 103=true:=by kernel_rfl
theorem ok108:bA Tryz.prog 108=true:=by kernel_rfl
theorem ok130:bA Tryz.prog 130=true:=by kernel_rfl
theorem zDk:lX Tryz.prog 22=true:=by kernel_rfl
theorem kU:lX Tryz.prog 23=true:=by kernel_rfl
theorem zBs:lX Tryz.prog 38=true:=by kernel_rfl
theorem pl94:fP Tryz.prog 94=some [(0,1),(1,5),(6,1),(7,1)]:=by kernel_rfl
theorem sz38:(Tryz.prog.info? 38).map (·.size)=some 1:=by kernel_rfl
theorem sz94:(Tryz.prog.info? 94).map (·.size)=some 8:=by kernel_rfl
theorem zr94:fF Tryz.prog 94=some [(Value.string (ByteArray.mk #[])),(Value.int IntKind.i64 0),(Value.int IntKind.i64 0),(Value.int IntKind.i64 0),(Value.int IntKind.i64 0),(Value.int IntKind.i64 0),(Value.slice none 0 0),(Value.int IntKind.i64 0)]:=by kernel_rfl
theorem shape_Validate (d:List Int) (hl:d.length<=17592186044416):
    Pur cfg 103 [vIs d] (vI (bR d)):=by
 refine zR Tryz.func103 O Tryz.ntmps103 Tryz.results103 O ?_
 intro z hz
 refine G O<|A O<|Y<|zJ<|G O<|A O<|qB O el38<|zW O (yC O O O)<|Y<|zE O (fun c1=>?_) (fun c1=>?_)
 ·exact v16
 ·try simp only [sx] at c1
  refine zK<|zJ<|G O<|A O<|qB O el38<|A O<|Y<|zQ<|zY ⟨[(13,.c _),(0,.c _),(11,.c _),(12,.c _)],[]⟩ (Weak.mk [] ⟨R,R,R,R,T⟩ O)<|qK 1 0 O O (Nat) (fun k=>[(13,vI k)]) (fun k=>[]) (fun k=>k<=d.length/\((d.take k).all mZ=true)) (fun k=>d.length-k) ⟨0,⟨zA,O⟩,Weak.mk [] ⟨R,R,R,R,T⟩ O⟩ ?_
  rintro k ⟨hk,hp⟩
  refine G O<|yG O<|Y<|zJ<|zE O (fun c2=>?_) (fun c2=>?_)
  ·try simp only [sx] at c2
   obtain ⟨n,hn⟩:=qY d k zA
   refine zK<|zJ<|zQ<|G O<|qC O el38 zA (getm uB)<|zI one3 zZ O<|A O<|Y<|G O<|A O<|yG O<|Y<|zE O (fun c3=>?_) (fun c3=>?_)
   ·try simp only [sx] at c3
    have hneg:=dims_neg (d:=d) zA hn c3
    refine G O<|A O<|Y<|zH<|zS O ?_
    rw [hneg]
   ·try simp only [sx] at c3
    refine zK<|zT O<|qI O ⟨zA,zA⟩<|A O<|Y ?_
    refine ⟨k+1,⟨zA,zEz hn hp (by unfold mZ;exact decide_eq_true zA)⟩,zA,Weak.mk [] ⟨R,R,R,R,T⟩ O⟩
  ·try simp only [sx] at c2
   have hpos:d.all mZ=true:=by rw [yV zA] at hp;exact hp
   refine qN<|G O<|A O<|Y<|zJ<|G O<|A O<|qB O el38<|A O<|Y<|zQ<|zY ⟨[(22,.c _),(5,.c _),(20,.c _),(21,.c _)],[]⟩ (Weak.mk [] ⟨R,R,R,R,T⟩ O)<|qK 2 0 O O (Nat×Int) (fun ⟨j,s⟩=>[(22,vI j),(5,vI s)]) (fun ⟨j,s⟩=>[]) (fun ⟨j,s⟩=>j<=d.length/\(1<=s)/\(s<=4096)/\(bG 1 d=bG s (d.drop j))) (fun ⟨j,s⟩=>d.length-j) ⟨⟨0,1⟩,⟨zA,zA,zA,O⟩,Weak.mk [] ⟨R,VLe.of_eq (O),R,R,T⟩ O⟩ ?_
   rintro ⟨j,s⟩ ⟨hj,hs1,hs2,hs3⟩
   show AWP _ _ _ _ _ ⟨[(22,vI j),(5,vI s)]++_,[]++_⟩
   refine G O<|yG O<|Y<|zJ<|zE O (fun c4=>?_) (fun c4=>?_)
   ·try simp only [sx] at c4
    obtain ⟨m,hm⟩:=qY d j zA
    refine zK<|zJ<|zQ<|G O<|qC O el38 zA (getm uB)<|zI one3 zZ O<|A O<|Y<|zJ<|G O<|A O<|A O<|zW O (zIs O O O zA)<|zW O (yC O O O)<|Y<|zE O (fun c5=>?_) (fun c5=>?_)
    ·try simp only [sx] at c5
     have hov:=quo_t hs1 c5
     refine G O<|A O<|Y<|zH<|zS O ?_
     rw [zOu zA hpos (zJv hm hs3 hov)]
    ·try simp only [sx] at c5
     have hov:=quo_f hs1 (Int.not_lt.2 c5)
     have hm1:=zBv hs1 (zBu hpos hm)
     refine zK<|zT O<|A O<|A O<|zW O (kB O O O (by have:=zBv hs1 (zBu hpos hm);exact ⟨zA,zA⟩))<|A O<|Y<|zT O<|qI O ⟨zA,zA⟩<|A O<|Y ?_
     refine ⟨⟨j+1,s*m⟩,⟨zA,zA,zA,zFs hm hs3 hov⟩,(by show d.length-(j+1)<d.length-j;omega),Weak.mk [] ⟨R,R,R,R,T⟩ O⟩
   ·exact v13
theorem ref11_Validate (d:List Int) (hl:d.length<=17592186044416):
    Pur cfg 78 [vIs d] (vI (bR d)):=by
 refine zR Tryz.func78 O Tryz.ntmps78 Tryz.results78 O ?_
 intro z hz
 refine G O<|A O<|Y<|zJ<|G O<|A O<|qB O el38<|zW O (yC O O O)<|Y<|zE O (fun c1=>?_) (fun c1=>?_)
 ·exact v16
 ·try simp only [sx] at c1
  refine zK<|zJ<|G O<|A O<|Y<|zQ<|zY ⟨[(3,.c _),(0,.c _)],[]⟩ (Weak.mk [] ⟨R,R,T⟩ O)<|qK 1 0 O O (Nat) (fun k=>[(3,vI k)]) (fun k=>[]) (fun k=>k<=d.length/\((d.take k).all mZ=true)) (fun k=>d.length-k) ⟨0,⟨zA,O⟩,Weak.mk [] ⟨R,R,T⟩ O⟩ ?_
  rintro k ⟨hk,hp⟩
  refine zJ<|G O<|A O<|A O<|qB O el38<|yG O<|Y<|zE O (fun c2=>?_) (fun c2=>?_)
  ·exact p7
  ·try simp only [sx] at c2
   have hpos:d.all mZ=true:=by rw [yV zA] at hp;exact hp
   refine qN<|G O<|A O<|Y<|zJ<|G O<|A O<|Y<|zQ<|zY ⟨[(5,.c _),(4,.c _),(0,.c _)],[]⟩ (Weak.mk [] ⟨R,R,R,T⟩ O)<|qK 2 0 O O (Nat×Int) (fun ⟨j,s⟩=>[(5,vI j),(4,vI s)]) (fun ⟨j,s⟩=>[]) (fun ⟨j,s⟩=>j<=d.length/\(1<=s)/\(s<=4096)/\(bG 1 d=bG s (d.drop j))) (fun ⟨j,s⟩=>d.length-j) ⟨⟨0,1⟩,⟨zA,zA,zA,O⟩,Weak.mk [] ⟨R,VLe.of_eq (O),R,T⟩ O⟩ ?_
   rintro ⟨j,s⟩ ⟨hj,hs1,hs2,hs3⟩
   show AWP _ _ _ _ _ ⟨[(5,vI j),(4,vI s)]++_,[]++_⟩
   refine zJ<|G O<|A O<|A O<|qB O el38<|yG O<|Y<|zE O (fun c4=>?_) (fun c4=>?_)
   ·try simp only [sx] at c4
    obtain ⟨m,hm⟩:=qY d j zA
    refine zK<|zJ<|zQ<|zJ<|G O<|A O<|A O<|qC O el38 zA (getm uB)<|zI one3 zZ O<|zW O (yC O O O)<|Y<|zE O (fun c5=>?_) (fun c5=>?_)
    ·try simp only [sx] at c5
     have hov:4096<s*m:=by have:=zBv hs1 (zBu hpos hm);omega
     refine G O<|A O<|Y<|zH<|zS O ?_
     rw [zOu zA hpos (zJv hm hs3 hov)]
    ·try simp only [sx] at c5
     have hm1:=zBv hs1 (zBu hpos hm)
     refine zK<|G O<|A O<|A O<|A O<|qC O el38 zA (getm uB)<|zI one3 zZ O<|zW O (kB O O O (by have:=zBv hs1 (zBu hpos hm);have hm0:=zBu hpos hm;have:s*m<=4096*4096:=Int.mul_le_mul zA zA zA zA;exact ⟨zA,zA⟩))<|A O<|Y<|G O<|A O<|zW O (yC O O O)<|Y<|zE O (fun c6=>?_) (fun c6=>?_)
     ·try simp only [sx] at c6
      refine G O<|A O<|Y<|zH<|zS O ?_
      rw [zOu zA hpos (zJv hm hs3 zA)]
     ·try simp only [sx] at c6
      refine zK<|zT O<|A O<|qI O ⟨zA,zA⟩<|A O<|Y ?_
      refine ⟨⟨j+1,s*m⟩,⟨zA,zA,zA,zFs hm hs3 zA⟩,(by show d.length-(j+1)<d.length-j;omega),Weak.mk [] ⟨R,R,R,T⟩ O⟩
   ·exact v13
theorem zIz (l:List Int) (hl:l.length<=17592186044416):
    OwnR cfg 108 [vIs l] 3 1 (l.map fun n=>[cI n]):=by
 refine zR Tryz.func108 O Tryz.ntmps108 Tryz.results108 O ?_
 intro z hz
 refine G O<|yI 1 O<|Y<|zJ<|G O<|A O<|zV O O (zHj O el38 O O) ?_
 rintro _ _ ⟨nb1,rfl,hnil1,rfl⟩
 refine Y<|zE O (fun c1=>?_) (fun c1=>?_)
 ·try simp only [sx] at c1
  refine G O<|A O<|yS _ (wC 3 1)<|Y<|zH<|zS O ?_
  exact ⟨_,O,by rw [hnil1 c1]⟩
 ·try simp only [sx] at c1
  refine zK<|G O<|zV O O (zDd O el38 zr3 O O O O) ?_
  rintro _ _ ⟨sv3,rfl,rfl⟩
  refine A O<|zV O O (yN 0 O el38 O O O uF uF) ?_
  exact m6
theorem zCx (b:Bf) (hl:b.Dims.length<=17592186044416):
    Pur cfg 75 [vBf b] (vBf b):=by
 refine zR Tryz.func75 O Tryz.ntmps75 Tryz.results75 O ?_
 intro z hz
 refine G O<|zV O O (qJ O O) ?_
 rintro _ _ ⟨b1,rfl,rfl⟩
 refine zV O O (qH [none,none,none,none,none,none,some 1,none] O zr94 O) ?_
 rintro _ _ ⟨b2,rfl,rfl⟩
 refine Y<|G O<|zD O zGb<|zI zBs (J 1 O) O<|qD O ok108 (OwnR.pur (zIz b.Dims hl)) ⟨R,O,T⟩<|zD O zGb<|rStR 1 sz38 O<|Y<|G O<|zM zLd (J 1 O) O<|rStR 0 sz94 O<|Y<|zH<|fin1 (zP zLd O (J 0 O) O) ?_
 exact O
theorem zAg (n:Ns) (s:ByteArray) (hn:n.Ok):
    Pur cfg 50 [vNs n,vS s] (.tup [vBf (gU n.Bufs s),vB (dS n.Bufs s)]):=by
 refine zR Tryz.func50 O Tryz.ntmps50 Tryz.results50 O ?_
 intro z hz
 have hnb:=hn.bufs
 refine G O<|zV O O (qJ O O) ?_
 rintro _ _ ⟨b1,rfl,rfl⟩
 refine zV O O (qH [none,none,none,none,none,none,some 1,none] O zr94 O) ?_
 rintro _ _ ⟨b2,rfl,rfl⟩
 refine A O<|Y<|zJ<|G O<|zD O zAj<|zI zDk (J 1 O) O<|qB O el22<|A O<|Y<|zQ<|zY ⟨[(10,.c _),(1,.c _),(2,.c _),(4,.c _),(9,.c _)],[_,_]⟩ (Weak.mk [true,true] ⟨R,R,R,R,R,T⟩ O)<|qK 1 0 O O (Nat) (fun k=>[(10,vI k)]) (fun k=>[]) (fun k=>k<=n.Bufs.length/\(dS (n.Bufs.take k) s=false)/\(gU n.Bufs s=gU (n.Bufs.drop k) s)) (fun k=>n.Bufs.length-k) ⟨0,⟨zA,O,O⟩,Weak.mk [true,true] ⟨R,R,R,R,R,T⟩ O⟩ ?_
 rintro k ⟨hk,hp,hq⟩
 refine G O<|yG O<|Y<|zJ<|zE O (fun c1=>?_) (fun c1=>?_)
 ·try simp only [sx] at c1
  obtain ⟨b,hb⟩:=qY n.Bufs k zA
  refine zK<|zJ<|zQ<|G O<|A O<|A O<|Y<|G O<|zD O zAj<|zI zDk (J 1 O) O<|A O<|qC O el22 zA (getm uB)<|qQ O zEr<|zI one9 zZ O<|A O<|wL O<|Y<|zE O (fun c2=>?_) (fun c2=>?_)
  ·try simp only [sx] at c2
   refine G O<|zD O zAj<|zI zDk (J 1 O) O<|A O<|qC O el22 zA (getm uB)<|zM zLd zZ O<|qD O ok75 (zCx b (hn.dims b (qA hb))) ⟨R,O,T⟩<|rStR 0 sz94 O<|A O<|Y<|zH<|fin2 (zP zLd O (J 0 O) O) (rs_c O) ?_
   rw [hasBf_at hb c2,hq,bufD_at hb c2];rfl
  ·try simp only [sx] at c2
   refine zK<|zT O<|qI O ⟨zA,zA⟩<|A O<|Y ?_
   refine ⟨k+1,⟨zA,zQr hb hp c2,hq.trans (bufD_next hb c2)⟩,zA,Weak.mk [true,true] ⟨R,R,R,R,R,T⟩ O⟩
 ·exact v12
theorem zDc (n:Ns) (s:ByteArray) (hn:n.Ok):
    Pur cfg 112 [vNs n,vS s] (.tup [vBf (gU n.Bufs s),vB (dS n.Bufs s)]):=by
 refine zR Tryz.func112 O Tryz.ntmps112 Tryz.results112 O ?_
 intro z hz
 have hnb:=hn.bufs
 refine G O<|zV O O (qJ O O) ?_
 rintro _ _ ⟨b1,rfl,rfl⟩
 refine zV O O (qH [none,none,none,none,none,none,some 1,none] O zr94 O) ?_
 rintro _ _ ⟨b2,rfl,rfl⟩
 refine A O<|Y<|zJ<|G O<|A O<|Y<|zQ<|zY ⟨[(6,.c _),(1,.c _),(2,.c _),(4,.c _)],[_,_]⟩ (Weak.mk [true,true] ⟨R,R,R,R,T⟩ O)<|qK 1 0 O O (Nat) (fun k=>[(6,vI k)]) (fun k=>[]) (fun k=>k<=n.Bufs.length/\(dS (n.Bufs.take k) s=false)/\(gU n.Bufs s=gU (n.Bufs.drop k) s)) (fun k=>n.Bufs.length-k) ⟨0,⟨zA,O,O⟩,Weak.mk [true,true] ⟨R,R,R,R,T⟩ O⟩ ?_
 rintro k ⟨hk,hp,hq⟩
 refine zJ<|G O<|A O<|zD O zAj<|zI zDk (J 1 O) O<|qB O el22<|yG O<|Y<|zE O (fun c1=>?_) (fun c1=>?_)
 ·try simp only [sx] at c1
  obtain ⟨b,hb⟩:=qY n.Bufs k zA
  refine zK<|zJ<|zQ<|G O<|zD O zAj<|zI zDk (J 1 O) O<|A O<|qC O el22 zA (getm uB)<|qQ O zEr<|zI one9 zZ O<|A O<|wL O<|Y<|zE O (fun c2=>?_) (fun c2=>?_)
  ·try simp only [sx] at c2
   refine G O<|zD O zAj<|zI zDk (J 1 O) O<|A O<|qC O el22 zA (getm uB)<|zM zLd zZ O<|rStR 0 sz94 O<|A O<|Y<|zH<|fin2 (zP zLd O (J 0 O) O) (rs_c O) ?_
   rw [hasBf_at hb c2,hq,bufD_at hb c2];rfl
  ·try simp only [sx] at c2
   refine zK<|zT O<|A O<|qI O ⟨zA,zA⟩<|A O<|Y ?_
   refine ⟨k+1,⟨zA,zQr hb hp c2,hq.trans (bufD_next hb c2)⟩,zA,Weak.mk [true,true] ⟨R,R,R,R,T⟩ O⟩
 ·exact v12
theorem zTu (n:Nat) (ih:n≠0->∀(l:List St) (x:Int),bC l<=1073741824->x=((n-1:Nat):Int)->Pur cfg 69 [bU l,vI x] (vB (bN (n-1) l))) (l:List St) (x:Int) (hn:n<=100) (hl:bC l<=1073741824) (hx:x=n):
    Pur cfg 69 [bU l,vI x] (vB (bN n l)):=by
 refine zR Tryz.func69 O Tryz.ntmps69 Tryz.results69 O ?_
 intro z hz
 have hll:=kX l
 refine G O<|A O<|Y<|zJ<|G O<|A O<|qB O D<|A O<|Y<|zQ<|zY ⟨[(8,.c _),(0,.c _),(1,.c _),(7,.c _)],[]⟩ (Weak.mk [] ⟨R,R,R,R,T⟩ O)<|qK 1 0 O O (Nat) (fun k=>[(8,vI k)]) (fun k=>[]) (fun k=>k<=l.length/\(sN n (l.take k)=true)) (fun k=>l.length-k) ⟨0,⟨zA,by cases n<;>rfl⟩,Weak.mk [] ⟨R,R,R,R,T⟩ O⟩ ?_
 rintro k ⟨hk,hp⟩
 refine G O<|yG O<|Y<|zJ<|zE O (fun c1=>?_) (fun c1=>?_)
 ·try simp only [sx] at c1
  obtain ⟨s,hs⟩:=qY l k zA
  refine zK<|zJ<|zQ<|G O<|A O<|A O<|Y<|G O<|A O<|yG O<|A O<|rL0 O (fun g4_2=>zO O O) O<|rL0 O (fun g4_2=>zO O O) O<|rLz [(14,_),(15,_)] O B ⟨O,O,O,O,T⟩ (fun g4_2=>qE O D O O zA (wJ hs)) O<|rL1 16 O (fun g4_2=>qM O kV O) O<|rL1 17 O (fun g4_2=>zF O kU O zZ O) O<|rL0 O (fun g4_2=>zO O O) O<|rL1 19 O (fun g4_2=>yA O O O ⟨zA,zA⟩) O<|rLz [(18,_),(20,_)] O B ⟨O,O,O,O,T⟩ (fun g4_2=>qG O ok69 (ih (by simp only [Lz,cond_true,cond_false,Bool.and_eq_true,Bool.or_eq_true,Bool.not_eq_true',Bool.not_eq_false',Bool.or_eq_false_iff,Bool.and_eq_false_iff,decide_eq_true_eq,decide_eq_false_iff_not,Bool.not_eq_true,Bool.not_eq_false] at g4_2;omega) s.Body _ (by have:=St.body_wt s;have:=yU (qA hs);omega) (by simp only [Lz,cond_true,cond_false,Bool.and_eq_true,Bool.or_eq_true,Bool.not_eq_true',Bool.not_eq_false',Bool.or_eq_false_iff,Bool.and_eq_false_iff,decide_eq_true_eq,decide_eq_false_iff_not,Bool.not_eq_true,Bool.not_eq_false] at g4_2;omega)) ⟨R,O,R,O,T⟩) O<|rL1 21 O (fun g4_2=>kJ O O) O<|r_or O (fun h=>(lzf h))<|Y<|zE O (fun c2=>?_) (fun c2=>?_)
  ·have hno:=within_no hs hx c2
   refine G O<|A O<|Y<|zH<|zS O ?_
   rw [hno]
  ·have hyes:=within_yes hx c2
   refine zK<|zT O<|qI O ⟨zA,zA⟩<|A O<|Y ?_
   refine ⟨k+1,⟨zA,withinG_next hs hp hyes.1 hyes.2⟩,zA,Weak.mk [] ⟨R,R,R,R,T⟩ O⟩
 ·try simp only [sx] at c1
  refine qN<|G O<|A O<|Y<|zH<|zS O ?_
  rw [yV zA,withinG_eq] at hp;rw [hp]
theorem zVs (n:Nat) (l:List St) (x:Int) (hn:n<=100) (hl:bC l<=1073741824) (hx:x=n):Pur cfg 69 [bU l,vI x] (vB (bN n l)):=by
  induction n generalizing l x with
  |zero=>exact zTu 0 (fun h=>absurd rfl h) l x hn hl hx
  |succ n ih=>exact zTu (n+1) (fun _ l x h1 h2=>ih l x zA h1 zA) l x hn hl hx
theorem depth_step (n:Nat) (ih:n≠0->∀(l:List St) (x:Int),bC l<=1073741824->x=((n-1:Nat):Int)->Pur cfg 36 [bU l,vI x] (vI (mK (n-1) l))) (l:List St) (x:Int) (hn:n<=100) (hl:bC l<=1073741824) (hx:x=n):
    Pur cfg 36 [bU l,vI x] (vI (mK n l)):=by
 refine zR Tryz.func36 O Tryz.ntmps36 Tryz.results36 O ?_
 intro z hz
 have hll:=kX l
 refine G O<|A O<|Y<|G O<|A O<|Y<|zJ<|G O<|A O<|Y<|zQ<|zY ⟨[(5,.c _),(6,.c _),(0,.c _),(1,.c _)],[]⟩ (Weak.mk [] ⟨R,R,R,R,T⟩ O)<|qK 2 0 O O (Nat×Int) (fun ⟨k,d⟩=>[(5,vI d),(6,vI k)]) (fun ⟨k,d⟩=>[]) (fun ⟨k,d⟩=>k<=l.length/\0<=d/\d<=100/\d=mK n (l.take k)) (fun ⟨k,d⟩=>l.length-k) ⟨⟨0,0⟩,⟨zA,zA,zA,by cases n<;>rfl⟩,Weak.mk [] ⟨VLe.of_eq (O),R,R,R,T⟩ O⟩ ?_
 rintro ⟨k,d⟩ ⟨hk,hd0,hd1,hd⟩
 show AWP _ _ _ _ _ ⟨[(5,vI d),(6,vI k)]++_,[]++_⟩
 refine zJ<|G O<|A O<|A O<|qB O D<|yG O<|A O<|rL0 O (fun g3_4=>zO O O) O<|rL1 12 O (fun g3_4=>yC O O O) O<|yR O (fun h=>h)<|Y<|zE O (fun c1=>?_) (fun c1=>?_)
 ·try simp only [sx] at c1
  obtain ⟨s,hs⟩:=qY l k zA
  have hle:=depS_le (n-1) s.Body
  refine zK<|zJ<|zQ<|zT O<|A O<|A O<|A O<|qC O D zA (wJ hs)<|qQ O kV<|zI kU zZ O<|A O<|zW O (yA O O O ⟨zA,zA⟩)<|qD O ok36 (ih zA s.Body _ (by have:=St.body_wt s;have:=yU (qA hs);omega) zA) ⟨R,O,R,O,T⟩<|qI O ⟨zA,zA⟩<|zW O (zIt O O O)<|A O<|Y<|zT O<|A O<|qI O ⟨zA,zA⟩<|A O<|Y ?_
  refine ⟨⟨k+1,max d (1+mK (n-1) s.Body)⟩,⟨zA,zA,zA,by rw [depS_next hs zA,←hd]⟩,(by dsimp only;omega),Weak.mk [] ⟨R,R,R,R,T⟩ O⟩
 ·try simp only [sx] at c1
  refine qN<|G O<|A O<|A O<|Y<|zH<|zS O ?_
  exact congrArg vI (depS_stop hx hd zA)
theorem ref30_depth (n:Nat) (l:List St) (x:Int) (hn:n<=100) (hl:bC l<=1073741824) (hx:x=n):Pur cfg 36 [bU l,vI x] (vI (mK n l)):=by
  induction n generalizing l x with
  |zero=>exact depth_step 0 (fun h=>absurd rfl h) l x hn hl hx
  |succ n ih=>exact depth_step (n+1) (fun _ l x h1 h2=>ih l x zA h1 zA) l x hn hl hx
theorem zDl (l:List St) (ih:∀s,s∈l->∀(m:Nat) (x:Int),m<=2147483648->x=m->Pur cfg 70 [bU s.Body,vI x] (vI (jZ s.Body m))) (m:Nat) (x:Int) (hl:bC l<=1073741824) (hm:m<=2147483648) (hx:x=m):
    Pur cfg 70 [bU l,vI x] (vI (jZ l m)):=by
 refine zR Tryz.func70 O Tryz.ntmps70 Tryz.results70 O ?_
 intro z hz
 have hll:=kX l
 have hNw:=zGs l
 refine G O<|A O<|Y<|G O<|A O<|qB O D<|A O<|Y<|zJ<|G O<|A O<|qB O D<|A O<|Y<|zQ<|zY ⟨[(11,.c _),(5,.c _),(0,.c _),(1,.c _),(10,.c _)],[]⟩ (Weak.mk [] ⟨R,R,R,R,R,T⟩ O) ?_
 refine qK 2 0 O O (Nat×Nat) (fun ⟨k,n⟩=>[(11,vI k),(5,vI n)]) (fun ⟨k,n⟩=>[]) (fun ⟨k,n⟩=>k<=l.length/\(n<=4294967296)/\(jZ l m=mG (l.drop k) m n)) (fun ⟨k,n⟩=>l.length-k) ⟨⟨0,l.length⟩,⟨zA,zA,O⟩,Weak.mk [] ⟨R,VLe.of_eq (congrArg vI uD),R,R,R,T⟩ O⟩ ?_
 rintro ⟨k,n⟩ ⟨hk,hn,hp⟩
 show AWP _ _ _ _ _ ⟨[(11,vI k),(5,vI n)]++_,[]++_⟩
 refine G O<|yG O<|Y<|zJ<|zE O (fun c1=>?_) (fun c1=>?_)
 ·try simp only [sx] at c1
  obtain ⟨s,hs⟩:=qY l k zA
  refine zK<|zJ<|zQ<|G O<|A O<|A O<|Y<|zJ<|G O<|A O<|A O<|zW O (yC O O O)<|Y<|zE O (fun c2=>?_) (fun c2=>?_)
  ·try simp only [sx] at c2
   exact v23
  ·try simp only [sx] at c2
   have hsum:=num_sum hs hp zA
   have hbl:=numB_le s.Body (m-n)
   have hsn:=zNj (qA hs)
   have hse:=zIy s
   refine zK<|zT O<|A O<|A O<|A O<|qC O D zA (wJ hs)<|qQ O kV<|zI kU zZ O<|A O<|A O<|zW O (yA O O O ⟨zA,zA⟩)<|qD O ok70 (ih s (qA hs) (m-n) _ zA zA) ⟨R,O,R,O,T⟩<|qI O ⟨zA,zA⟩<|A O<|Y<|zT O<|qI O ⟨zA,zA⟩<|A O<|Y ?_
   refine ⟨⟨k+1,n+jZ s.Body (m-n)⟩,⟨zA,zA,num_next hs hp zA⟩,(by show l.length-(k+1)<l.length-k;omega),Weak.mk [] ⟨R,VLe.of_eq (congrArg vI zA),R,R,R,T⟩ O⟩
 ·try simp only [sx] at c1
  exact v23
theorem zIn (s:St):∀(m:Nat) (x:Int),bC s.Body<=1073741824->m<=2147483648->x=m->Pur cfg 70 [bU s.Body,vI x] (vI (jZ s.Body m)):=by
  induction s using St.ind with
  |_ s ih=>exact fun m x hl hm hx=>zDl s.Body (fun a ha m x h1 h2=>ih a ha m x (by have:=St.body_wt a;have:=yU ha;omega) h1 h2) m x hl hm hx
theorem zOf (l:List St) (m:Nat) (x:Int) (hl:bC l<=1073741824) (hm:m<=2147483648) (hx:x=m):Pur cfg 70 [bU l,vI x] (vI (jZ l m)):=
  zDl l (fun a ha m x h1 h2=>zIn a m x (by have:=St.body_wt a;have:=yU ha;omega) h1 h2) m x hl hm hx
theorem zKc (l:List St) (ih:∀s,s∈l->∀(m:Nat) (x:Int),m<=2147483648->x=m->Pur cfg 37 [bU s.Body,vI x] (vI (jZ s.Body m))) (m:Nat) (x:Int) (hl:bC l<=1073741824) (hm:m<=2147483648) (hx:x=m):
    Pur cfg 37 [bU l,vI x] (vI (jZ l m)):=by
 refine zR Tryz.func37 O Tryz.ntmps37 Tryz.results37 O ?_
 intro z hz
 have hll:=kX l
 have hNw:=zGs l
 refine G O<|A O<|Y<|G O<|A O<|qB O D<|A O<|Y<|zJ<|G O<|A O<|Y<|zQ<|zY ⟨[(6,.c _),(5,.c _),(0,.c _),(1,.c _)],[]⟩ (Weak.mk [] ⟨R,R,R,R,T⟩ O) ?_
 refine qK 2 0 O O (Nat×Nat) (fun ⟨k,n⟩=>[(6,vI k),(5,vI n)]) (fun ⟨k,n⟩=>[]) (fun ⟨k,n⟩=>k<=l.length/\(n<=4294967296)/\(jZ l m=mG (l.drop k) m n)) (fun ⟨k,n⟩=>l.length-k) ⟨⟨0,l.length⟩,⟨zA,zA,O⟩,Weak.mk [] ⟨R,VLe.of_eq (congrArg vI uD),R,R,T⟩ O⟩ ?_
 rintro ⟨k,n⟩ ⟨hk,hn,hp⟩
 show AWP _ _ _ _ _ ⟨[(6,vI k),(5,vI n)]++_,[]++_⟩
 refine zJ<|G O<|A O<|A O<|qB O D<|yG O<|A O<|rL0 O (fun g3_4=>zO O O) O<|rL0 O (fun g3_4=>zO O O) O<|rLz [(14,_),(15,_)] O B ⟨O,O,O,O,T⟩ (fun g3_4=>wP O O O) O<|yR O (fun h=>h)<|Y<|zE O (fun c1=>?_) (fun c1=>?_)
 ·try simp only [sx] at c1
  obtain ⟨s,hs⟩:=qY l k zA
  have hsum:=num_sum hs hp zA
  have hbl:=numB_le s.Body (m-n)
  have hsn:=zNj (qA hs)
  have hse:=zIy s
  refine zK<|zJ<|zQ<|zT O<|A O<|A O<|A O<|qC O D zA (wJ hs)<|qQ O kV<|zI kU zZ O<|A O<|A O<|zW O (yA O O O ⟨zA,zA⟩)<|zW O (zIt O O O)<|qD O ok37 (ih s (qA hs) (m-n) _ zA zA) ⟨R,O,R,O,T⟩<|qI O ⟨zA,zA⟩<|A O<|Y<|zT O<|A O<|qI O ⟨zA,zA⟩<|A O<|Y ?_
  refine ⟨⟨k+1,n+jZ s.Body (m-n)⟩,⟨zA,zA,num_next hs hp zA⟩,(by show l.length-(k+1)<l.length-k;omega),Weak.mk [] ⟨R,VLe.of_eq (congrArg vI zA),R,R,T⟩ O⟩
 ·try simp only [sx] at c1
  exact v23
theorem zUx (s:St):∀(m:Nat) (x:Int),bC s.Body<=1073741824->m<=2147483648->x=m->Pur cfg 37 [bU s.Body,vI x] (vI (jZ s.Body m)):=by
  induction s using St.ind with
  |_ s ih=>exact fun m x hl hm hx=>zKc s.Body (fun a ha m x h1 h2=>ih a ha m x (by have:=St.body_wt a;have:=yU ha;omega) h1 h2) m x hl hm hx
theorem ref30_size (l:List St) (m:Nat) (x:Int) (hl:bC l<=1073741824) (hm:m<=2147483648) (hx:x=m):Pur cfg 37 [bU l,vI x] (vI (jZ l m)):=
  zKc l (fun a ha m x h1 h2=>zUx a m x (by have:=St.body_wt a;have:=yU ha;omega) h1 h2) m x hl hm hx
theorem zMo (l:List Bf) (c:C) (p:Bf->Bool) (hl:l.length<=4294967296) (hc:∀x,x∈l->FnPur cfg c [vBf x] (vB (p x))):
    Pur cfg 130 [eP l,.c c] (vI (lN p l)):=by
 refine zR Tryz.func130 O Tryz.ntmps130 Tryz.results130 O ?_
 intro z hz
 refine G O<|A O<|Y<|zJ<|G O<|A O<|qB O el22<|A O<|Y<|zQ<|zY ⟨[(8,.c _),(0,.c _),(1,.c _),(7,.c _)],[]⟩ (Weak.mk [] ⟨R,R,R,R,T⟩ O)<|qK 1 0 O O (Nat) (fun k=>[(8,vI k)]) (fun k=>[]) (fun k=>k<=l.length/\((l.take k).any p=false)) (fun k=>l.length-k) ⟨0,⟨zA,O⟩,Weak.mk [] ⟨R,R,R,R,T⟩ O⟩ ?_
 rintro k ⟨hk,hp⟩
 refine G O<|yG O<|Y<|zJ<|zE O (fun c1=>?_) (fun c1=>?_)
 ·try simp only [sx] at c1
  obtain ⟨x,hx⟩:=qY l k zA
  refine zK<|zJ<|zQ<|G O<|A O<|A O<|Y<|G O<|A O<|A O<|A O<|qC O el22 zA (getm uB)<|zM zLd zZ O<|zW O (kS O O (hc _ (qA hx)) ⟨R,O,T⟩)<|Y<|zE O (fun c2=>?_) (fun c2=>?_)
  ·try simp only [sx] at c2
   refine G O<|A O<|A O<|Y<|zH<|zS O ?_
   rw [zTb hx c2 hp]
  ·try simp only [sx] at c2
   refine zK<|zT O<|qI O ⟨zA,zA⟩<|A O<|Y ?_
   refine ⟨k+1,⟨zA,zPk hx hp c2⟩,zA,Weak.mk [] ⟨R,R,R,R,T⟩ O⟩
 ·try simp only [sx] at c1
  refine qN<|G O<|A O<|Y<|zH<|zS O ?_
  rw [zLn (by rw [yV zA] at hp;exact hp)]
theorem zJh (l:List Bf) (c:C) (p:Bf->Bool) (hl:l.length<=4294967296) (hc:∀x,x∈l->FnPur cfg c [vBf x] (vB (p x))):
    Pur cfg 100 [eP l,.c c] (vB (l.any p)):=by
 refine zR Tryz.func100 O Tryz.ntmps100 Tryz.results100 O ?_
 intro z hz
 refine G O<|A O<|Y<|G O<|A O<|A O<|qD O ok130 (zMo l c p hl hc) ⟨R,O,R,O,T⟩<|zW O (wF O O O)<|A O<|Y<|zH<|zS O ?_
 rw [zOn]
theorem checkBuffers_1 (x b:Bf):
    Pur cfg 101 [vBf x,.c (.iptr b.cells)] (vB (decide (x.Name=b.Name))):=by
 refine zR Tryz.func101 O Tryz.ntmps101 Tryz.results101 O ?_
 intro z hz
 refine G O<|zV O O (qJ O O) ?_
 rintro _ _ ⟨b1,rfl,rfl⟩
 refine A O<|Y<|G O<|zD O zEr<|zI one9 (J 0 O) O<|qQ O zEr<|zI one9 zZ O<|wL O<|A O<|Y<|zH<|zS O ?_
 exact O
theorem zKk (l:List Bf) (hl:l.length<=4294967296) (hd:∀b,b∈l->b.Dims.length<=17592186044416):
    Pur cfg 71 [eP l] (vI (dI [] l)):=by
 refine zR Tryz.func71 O Tryz.ntmps71 Tryz.results71 O ?_
 intro z hz
 refine G O<|A O<|Y<|zJ<|G O<|A O<|qB O el22<|A O<|Y<|zQ<|zY ⟨[(8,.c _),(0,.c _),(7,.c _)],[]⟩ (Weak.mk [] ⟨R,R,R,T⟩ O)<|qK 1 0 O O (Nat) (fun k=>[(8,vI k)]) (fun k=>[]) (fun k=>k<=l.length/\(dI [] l=dI (l.take k) (l.drop k))) (fun k=>l.length-k) ⟨0,⟨zA,O⟩,Weak.mk [] ⟨R,R,R,T⟩ O⟩ ?_
 rintro k ⟨hk,hp⟩
 refine G O<|yG O<|Y<|zJ<|zE O (fun c1=>?_) (fun c1=>?_)
 ·try simp only [sx] at c1
  obtain ⟨b,hb⟩:=qY l k zA
  refine zK<|zJ<|zQ<|G O<|A O<|A O<|Y<|G O<|A O<|A O<|qC O el22 zA (getm uB)<|zM zLd zZ O<|zV O O (qH [none,none,none,none,none,none,some 1,none] O zr94 O) ?_
  rintro _ _ ⟨b1,rfl,rfl⟩
  refine rStR 0 sz94 O<|yS _ (yW 0 O 4 _ PLe.ptr)<|Y<|zJ<|zQ<|G O<|qQ O zEr<|zI one9 zZ O<|qD O ok17 (zBa _) ⟨R,O,T⟩<|kN O<|A O<|Y<|zE O (fun c2=>?_) (fun c2=>?_)
  ·try simp only [sx] at c2
   refine G O<|A O<|Y<|zH<|zS O ?_
   rw [zBq hb hp (by rw [bfErr_7 c2];decide),bfErr_7 c2]
  ·try simp only [sx] at c2
   refine G O<|A O<|A O<|zW O (zRo O el22 O O zA)<|zW O (zEk O O O O O)<|qD O ok100 (zJh (l.take k) _ (fun x=>decide (x.Name=b.Name)) (by rw [List.length_take];omega) (fun x _=>FnPur.of_pur (first:=[]) (cap:=[.iptr b.cells]) ok101 (checkBuffers_1 x b))) ⟨R,O,R,O,T⟩<|A O<|Y<|zE O (fun c3=>?_) (fun c3=>?_)
   ·try simp only [sx] at c3
    refine G O<|A O<|Y<|zH<|zS O ?_
    rw [zBq hb hp (by rw [bfErr_8 c2 c3];decide),bfErr_8 c2 c3]
   ·try simp only [sx] at c3
    refine G O<|qQ O zGc<|zM yD zZ O<|qD O ok102 (zDi b.T) ⟨R,O,T⟩<|yK O<|A O<|Y<|zE O (fun c4=>?_) (fun c4=>?_)
    ·try simp only [sx] at c4
     refine G O<|A O<|Y<|zH<|zS O ?_
     rw [zBq hb hp (by rw [zTs c2 c3 (tyErr_ne c4)];decide),zTs c2 c3 (tyErr_ne c4)]
    ·try simp only [sx] at c4
     refine zK<|zJ<|G O<|qQ O zGb<|zI zBs zZ O<|qD O ok103 (shape_Validate b.Dims (hd b (qA hb))) ⟨R,O,T⟩<|A O<|Y<|G O<|A O<|yK O<|Y<|zE O (fun c5=>?_) (fun c5=>?_)
     ·try simp only [sx] at c5
      refine G O<|A O<|A O<|Y<|zH<|zS O ?_
      rw [zBq hb hp (by rw [bfErr_d c2 c3 (zLe c4) c5];exact c5),bfErr_d c2 c3 (zLe c4) c5]
     ·try simp only [sx] at c5
      refine zK<|G O<|qQ O zOq<|zI one3 zZ O<|yG O<|A O<|rL0 O (fun g14_3=>qM O zOq O) O<|rL1 41 O (fun g14_3=>zF O one3 O zZ O) O<|rL1 42 O (fun g14_3=>yC O O O) O<|r_or O (fun h=>(lzf h))<|Y<|zE O (fun c6=>?_) (fun c6=>?_)
      ·try simp only [sx] at c6
       refine G O<|A O<|Y<|zH<|zS O ?_
       rw [zBq hb hp (by rw [bfErr_u c2 c3 (zLe c4) c5 zA];decide),bfErr_u c2 c3 (zLe c4) c5 zA]
      ·try simp only [sx] at c6
       refine zK<|zT O<|qI O ⟨zA,zA⟩<|A O<|Y ?_
       refine ⟨k+1,⟨zA,zRq hb hp (bfErr_0 c2 c3 (zLe c4) c5 zA)⟩,zA,Weak.mk [] ⟨R,R,R,T⟩ O⟩
 ·try simp only [sx] at c1
  refine qN<|G O<|A O<|Y<|zH<|zS O ?_
  rw [zXm hp zA]
theorem ref30_bufs (n:Ns) (hn:n.Ok):
    Pur cfg 38 [vNs n] (vI (dI [] n.Bufs)):=by
 refine zR Tryz.func38 O Tryz.ntmps38 Tryz.results38 O ?_
 intro z hz
 have hnb:=hn.bufs
 refine G O<|zV O O (qJ O O) ?_
 rintro _ _ ⟨b1,rfl,rfl⟩
 refine A O<|Y<|zJ<|G O<|A O<|Y<|zQ<|zY ⟨[(3,.c _),(1,.c _)],[_]⟩ (Weak.mk [true] ⟨R,R,T⟩ O)<|qK 1 0 O O (Nat) (fun k=>[(3,vI k)]) (fun k=>[]) (fun k=>k<=n.Bufs.length/\(dI [] n.Bufs=dI (n.Bufs.take k) (n.Bufs.drop k))) (fun k=>n.Bufs.length-k) ⟨0,⟨zA,O⟩,Weak.mk [true] ⟨R,R,T⟩ O⟩ ?_
 rintro k ⟨hk,hp⟩
 refine zJ<|G O<|A O<|zD O zAj<|zI zDk (J 0 O) O<|qB O el22<|yG O<|Y<|zE O (fun c1=>?_) (fun c1=>?_)
 ·try simp only [sx] at c1
  obtain ⟨b,hb⟩:=qY n.Bufs k zA
  refine zK<|zJ<|zQ<|G O<|zD O zAj<|zI zDk (J 0 O) O<|A O<|qC O el22 zA (getm uB)<|zM zLd zZ O<|zV O O (qH [none,none,none,none,none,none,some 1,none] O zr94 O) ?_
  rintro _ _ ⟨b2,rfl,rfl⟩
  refine rStR 0 sz94 O<|Y<|zJ<|G O<|zD O zEr<|zI one9 (J 0 O) O<|qD O ok76 (zHr _) ⟨R,O,T⟩<|kN O<|Y<|zE O (fun c2=>?_) (fun c2=>?_)
  ·try simp only [sx] at c2
   refine G O<|A O<|Y<|zH<|zS O ?_
   rw [zBq hb hp (by rw [bfErr_7 c2];decide),bfErr_7 c2]
  ·try simp only [sx] at c2
   refine zK<|zJ<|G O<|A O<|Y<|zQ<|zY ⟨[(5,.c _),(1,.c _),(3,.c _),(4,.c _)],[_,_]⟩ (Weak.mk [true,true] ⟨R,R,R,R,T⟩ O)<|qK 1 0 O O (Nat) (fun j=>[(5,vI j)]) (fun j=>[]) (fun j=>j<=k/\dS (n.Bufs.take j) b.Name=false) (fun j=>k-j) ⟨0,⟨zA,O⟩,Weak.mk [true,true] ⟨R,R,R,R,T⟩ O⟩ ?_
   rintro j ⟨hj,hq⟩
   refine zJ<|G O<|A O<|A O<|yG O<|Y<|zE O (fun c3=>?_) (fun c3=>?_)
   ·try simp only [sx] at c3
    obtain ⟨y,hy⟩:=qY n.Bufs j zA
    refine zK<|zJ<|zQ<|zJ<|qU 9 mixed uC O O<|zN O O (zG O zAj O)<|zN O O (zF O zDk O (J 1 O) O)<|zN O O (zO O O)<|zN O O (qE O el22 O O zA (getm uB))<|zN O O (qM O zEr O)<|zN O O (zF O one9 O zZ O)<|zN O O (zG O zEr O)<|zN O O (zF O one9 O (J 0 O) O)<|zN O O (zLs O O O)<|yP<|Y<|zE O (fun c4=>?_) (fun c4=>?_)
    ·try simp only [sx] at c4
     refine G O<|A O<|Y<|zH<|zS O ?_
     have h8:=hasBf_lt hy (show j<k by omega) c4
     rw [zBq hb hp (by rw [bfErr_8 c2 h8];decide),bfErr_8 c2 h8]
    ·try simp only [sx] at c4
     refine zK<|zT O<|A O<|qI O ⟨zA,zA⟩<|A O<|Y ?_
     refine ⟨j+1,⟨zA,zQr hy hq c4⟩,zA,Weak.mk [true,true] ⟨R,R,R,R,T⟩ O⟩
   ·try simp only [sx] at c3
    rw [show j=k by omega] at hq
    refine qN<|zJ<|G O<|zD O zGc<|zM yD (J 0 O) O<|qD O ok77 (zDr b.T) ⟨R,O,T⟩<|kN O<|Y<|zE O (fun c5=>?_) (fun c5=>?_)
    ·try simp only [sx] at c5
     refine G O<|A O<|Y<|zH<|zS O ?_
     rw [zBq hb hp (by rw [zTs c2 hq c5];decide),zTs c2 hq c5]
    ·try simp only [sx] at c5
     refine zK<|zJ<|G O<|zD O zGb<|zI zBs (J 0 O) O<|qD O ok78 (ref11_Validate b.Dims (hn.dims b (qA hb))) ⟨R,O,T⟩<|A O<|Y<|G O<|A O<|yK O<|Y<|zE O (fun c6=>?_) (fun c6=>?_)
     ·try simp only [sx] at c6
      refine G O<|A O<|A O<|Y<|zH<|zS O ?_
      rw [zBq hb hp (by rw [bfErr_d c2 hq c5 c6];exact c6),bfErr_d c2 hq c5 c6]
     ·try simp only [sx] at c6
      refine zK<|G O<|zD O zOq<|zI one3 (J 0 O) O<|yG O<|A O<|rL0 O (fun g17_3=>zG O zOq O) O<|rL1 51 O (fun g17_3=>zF O one3 O (J 0 O) O) O<|rL1 52 O (fun g17_3=>yC O O O) O<|r_or O (fun h=>(lzf h))<|Y<|zE O (fun c7=>?_) (fun c7=>?_)
      ·try simp only [sx] at c7
       refine G O<|A O<|Y<|zH<|zS O ?_
       rw [zBq hb hp (by rw [bfErr_u c2 hq c5 c6 zA];decide),bfErr_u c2 hq c5 c6 zA]
      ·try simp only [sx] at c7
       refine zK<|zT O<|A O<|qI O ⟨zA,zA⟩<|A O<|Y ?_
       refine ⟨k+1,⟨zA,zRq hb hp (bfErr_0 c2 hq c5 c6 zA)⟩,zA,Weak.mk [false,true] ⟨R,R,T⟩ O⟩
 ·try simp only [sx] at c1
  refine qN<|G O<|A O<|Y<|zH<|zS O ?_
  rw [zXm hp zA]
end Go.W
end
section
set_option maxRecDepth 10000
namespace Go.W
open Go Go.Eng Go.Proofs Go.L41 Go.Br
attribute [local irreducible] AWP RWP TD fH
abbrev ckN (b:Nat) (svL svS svP:Value) (n:Ns) (U S:List ByteArray) (W:List Int):List E:=
  [.row b 137 [.sl 8 (n.Bufs.map Bf.cells),.sl 20 (n.Body.map St.cells),.lit svL,.lit svS,.lit svP],.vec svL 9 1 (U.map fun s=>[cS s]),.vec svS 9 1 (S.map fun s=>[cS s]),.vec svP 3 1 (W.map fun i=>[cI i])]
abbrev vP (b:Nat):V:=.c (.lit (.pointer (some ⟨b,0,none⟩)))
theorem kE:mO Tryz.prog 25=some 2:=by kernel_rfl
theorem zDh:mO Tryz.prog 56=some 20:=by kernel_rfl
theorem zAk:dX Tryz.prog 223=some (48,5,40):=by kernel_rfl
theorem zAi:bH Tryz.prog 25 1=some (1,23):=by kernel_rfl
theorem zAm:bH Tryz.prog 56 0=some (0,3):=by kernel_rfl
theorem zAh:bH Tryz.prog 56 1=some (1,9):=by kernel_rfl
theorem zAp:bH Tryz.prog 56 2=some (2,3):=by kernel_rfl
theorem zJc:bH Tryz.prog 56 3=some (3,3):=by kernel_rfl
theorem zOr:bH Tryz.prog 56 4=some (4,3):=by kernel_rfl
theorem zEt:bH Tryz.prog 56 5=some (5,44):=by kernel_rfl
theorem zBc:bH Tryz.prog 56 6=some (6,54):=by kernel_rfl
theorem zQs:bH Tryz.prog 137 0=some (0,25):=by kernel_rfl
theorem fd137_1:bH Tryz.prog 137 1=some (2,85):=by kernel_rfl
theorem zKt:bH Tryz.prog 137 2=some (3,85):=by kernel_rfl
theorem zIq:bH Tryz.prog 137 3=some (4,38):=by kernel_rfl
theorem ok50:bA Tryz.prog 50=true:=by kernel_rfl
theorem ok71:bA Tryz.prog 71=true:=by kernel_rfl
theorem ok72:bA Tryz.prog 72=true:=by kernel_rfl
theorem ok104:bA Tryz.prog 104=true:=by kernel_rfl
theorem ok133:bA Tryz.prog 133=true:=by kernel_rfl
theorem ok134:bA Tryz.prog 134=true:=by kernel_rfl
theorem ok135:bA Tryz.prog 135=true:=by kernel_rfl
theorem ok137:bA Tryz.prog 137=true:=by kernel_rfl
theorem ok155:bA Tryz.prog 155=true:=by kernel_rfl
theorem ok156:bA Tryz.prog 156=true:=by kernel_rfl
theorem ok157:bA Tryz.prog 157=true:=by kernel_rfl
theorem ok158:bA Tryz.prog 158=true:=by kernel_rfl
theorem ok174:bA Tryz.prog 174=true:=by kernel_rfl
theorem ok178:bA Tryz.prog 178=true:=by kernel_rfl
theorem ok179:bA Tryz.prog 179=true:=by kernel_rfl
theorem ok180:bA Tryz.prog 180=true:=by kernel_rfl
theorem ok215:bA Tryz.prog 215=true:=by kernel_rfl
theorem ok216:bA Tryz.prog 216=true:=by kernel_rfl
theorem ok217:bA Tryz.prog 217=true:=by kernel_rfl
theorem one85:lX Tryz.prog 85=true:=by kernel_rfl
theorem zRg:lX Tryz.prog 135=true:=by kernel_rfl
theorem pl54:fP Tryz.prog 54=some [(0,1),(1,1),(2,2),(4,5),(9,2),(11,1),(12,1)]:=by kernel_rfl
theorem pl137:fP Tryz.prog 137=some [(0,2),(2,1),(3,1),(4,1)]:=by kernel_rfl
theorem sz48:(Tryz.prog.info? 48).map (·.size)=some 5:=by kernel_rfl
theorem sz56:(Tryz.prog.info? 56).map (·.size)=some 20:=by kernel_rfl
theorem sz85:(Tryz.prog.info? 85).map (·.size)=some 1:=by kernel_rfl
theorem zr56:fF Tryz.prog 56=some [(Value.int IntKind.i64 0),(Value.string (ByteArray.mk #[])),(Value.int IntKind.i64 0),(Value.int IntKind.i64 0),(Value.int IntKind.i64 0),(Value.slice none 0 0),(Value.int IntKind.i64 0),(Value.string (ByteArray.mk #[])),(Value.int IntKind.i64 0),(Value.int IntKind.i64 0),(Value.int IntKind.i64 0),(Value.int IntKind.i64 0),(Value.int IntKind.i64 0),(Value.int IntKind.i64 0),(Value.int IntKind.i64 0),(Value.int IntKind.i64 0),(Value.slice none 0 0),(Value.slice none 0 0),(Value.slice none 0 0),(Value.slice none 0 0)]:=by kernel_rfl
theorem zr137:fF Tryz.prog 137=some [(Value.slice none 0 0),(Value.slice none 0 0),(Value.slice none 0 0),(Value.slice none 0 0),(Value.slice none 0 0)]:=by kernel_rfl
theorem zJg (l:List Mono) (c:C) (p:Mono->Bool) (μ:List E) (hl:l.length<=4294967296) (hc:∀x,x∈l->FnCon cfg c [sQ x] μ fun r μ'=>r=vB (p x)/\μ'=μ):
    Con cfg 249 [xJ l,.c c] μ fun r μ'=>r=vI (lN p l)/\μ'=μ:=by
 refine zR Tryz.func249 O Tryz.ntmps249 Tryz.results249 O ?_
 intro z hz
 refine G O<|A O<|Y<|zJ<|G O<|A O<|qB O N<|A O<|Y<|zQ<|zY ⟨[(8,.c _),(0,.c _),(1,.c _),(7,.c _)],_⟩ (Weak.regs ⟨R,R,R,R,T⟩)<|zDg 1 O (Nat) (fun k=>[(8,vI k)]) (fun k=>μ) (fun k=>k<=l.length/\((l.take k).any p=false)) (fun k=>l.length-k) ⟨0,⟨zA,O⟩,Weak.regs ⟨R,R,R,R,T⟩⟩ ?_
 rintro k ⟨hk,hp⟩
 refine G O<|yG O<|Y<|zJ<|zE O (fun c1=>?_) (fun c1=>?_)
 ·try simp only [sx] at c1
  obtain ⟨x,hx⟩:=qY l k zA
  refine zK<|zJ<|zQ<|G O<|A O<|A O<|Y<|G O<|A O<|A O<|A O<|qC O N zA (getm uB)<|zM zHt zZ O<|zV O O (zAb O O (hc _ (qA hx)) ⟨R,O,T⟩) ?_
  exact n9
 ·try simp only [sx] at c1
  refine qN<|G O<|A O<|Y<|zH<|zS O ?_
  exact ⟨by rw [zLn (by rw [yV zA] at hp;exact hp)],O⟩
theorem zGt (l:List Mono) (c:C) (p:Mono->Bool) (μ:List E) (hl:l.length<=4294967296) (hc:∀x,x∈l->FnCon cfg c [sQ x] μ fun r μ'=>r=vB (p x)/\μ'=μ):
    Con cfg 215 [xJ l,.c c] μ fun r μ'=>r=vB (l.any p)/\μ'=μ:=by
 refine zR Tryz.func215 O Tryz.ntmps215 Tryz.results215 O ?_
 intro z hz
 refine G O<|A O<|Y<|G O<|A O<|A O<|zV O O (zBe O ok249 (zJg l c p μ hl hc) ⟨R,O,R,O,T⟩) ?_
 rintro _ _ ⟨rfl,rfl⟩
 refine zW O (wF O O O)<|A O<|Y<|zH<|zS O ?_
 exact ⟨by rw [zOn],O⟩
theorem zLx (l:List Lf) (c:C) (p:Lf->Bool) (μ:List E) (hl:l.length<=4294967296) (hc:∀x,x∈l->FnCon cfg c [dF x] μ fun r μ'=>r=vB (p x)/\μ'=μ):
    Con cfg 217 [rV l,.c c] μ fun r μ'=>r=vI (lN p l)/\μ'=μ:=by
 refine zR Tryz.func217 O Tryz.ntmps217 Tryz.results217 O ?_
 intro z hz
 refine G O<|A O<|Y<|zJ<|G O<|A O<|qB O el90<|A O<|Y<|zQ<|zY ⟨[(8,.c _),(0,.c _),(1,.c _),(7,.c _)],_⟩ (Weak.regs ⟨R,R,R,R,T⟩)<|zDg 1 O (Nat) (fun k=>[(8,vI k)]) (fun k=>μ) (fun k=>k<=l.length/\((l.take k).any p=false)) (fun k=>l.length-k) ⟨0,⟨zA,O⟩,Weak.regs ⟨R,R,R,R,T⟩⟩ ?_
 rintro k ⟨hk,hp⟩
 refine G O<|yG O<|Y<|zJ<|zE O (fun c1=>?_) (fun c1=>?_)
 ·try simp only [sx] at c1
  obtain ⟨x,hx⟩:=qY l k zA
  refine zK<|zJ<|zQ<|G O<|A O<|A O<|Y<|G O<|A O<|A O<|A O<|qC O el90 zA (getm uB)<|zM kP zZ O<|zV O O (zAb O O (hc _ (qA hx)) ⟨R,O,T⟩) ?_
  exact n9
 ·try simp only [sx] at c1
  refine qN<|G O<|A O<|Y<|zH<|zS O ?_
  exact ⟨by rw [zLn (by rw [yV zA] at hp;exact hp)],O⟩
theorem zIa (l:List Lf) (c:C) (p:Lf->Bool) (μ:List E) (hl:l.length<=4294967296) (hc:∀x,x∈l->FnCon cfg c [dF x] μ fun r μ'=>r=vB (p x)/\μ'=μ):
    Con cfg 179 [rV l,.c c] μ fun r μ'=>r=vB (l.any p)/\μ'=μ:=by
 refine zR Tryz.func179 O Tryz.ntmps179 Tryz.results179 O ?_
 intro z hz
 refine G O<|A O<|Y<|G O<|A O<|A O<|zV O O (zBe O ok217 (zLx l c p μ hl hc) ⟨R,O,R,O,T⟩) ?_
 rintro _ _ ⟨rfl,rfl⟩
 refine zW O (wF O O O)<|A O<|Y<|zH<|zS O ?_
 exact ⟨by rw [zOn],O⟩
theorem inScope_1 (b:Nat) (svL svS svP:Value) (n:Ns) (U S:List ByteArray) (W:List Int) (m:Mono) (hS:S.length<=1000000):
    Con cfg 216 [sQ m,.c (.iptr [.lit (.pointer (some ⟨b,0,none⟩))])] (ckN b svL svS svP n U S W) fun r μ'=>r=vB (!dD S m.Name)/\μ'=ckN b svL svS svP n U S W:=by
 refine zR Tryz.func216 O Tryz.ntmps216 Tryz.results216 O ?_
 intro z hz
 refine G O<|zV O O (qJ O O) ?_
 rintro _ _ ⟨b1,rfl,rfl⟩
 refine A O<|Y<|zJ<|qU 6 mixed uC O O<|zN O O (zF O zRg O zZ O)<|zN O O (yB O O)<|zN O O (zG O zKt O)<|zN O O (zF O one85 O (J 1 O) O)<|zN O O (zG O zAa O)<|zN O O (zF O one9 O (J 0 O) O)<|yP<|zW O (zOw 3 O ok85 O (zCw S m.Name zA) O ⟨.inl ⟨O,O⟩,.inr ⟨R,O⟩,T⟩)<|kN O<|A O<|Y<|zY _ (Weak.mem [false,true,true,true,true] O)<|zH<|zS O ?_
 exact ⟨O,O⟩
theorem zQy (b:Nat) (svL svS svP:Value) (n:Ns) (U S:List ByteArray) (W:List Int) (l:Lf) (hS:S.length<=1000000) (hl:l.L.length<=4294967296):
    Con cfg 178 [vP b,dF l] (ckN b svL svS svP n U S W) fun r μ'=>r=vB (gN S l)/\μ'=ckN b svL svS svP n U S W:=by
 refine zR Tryz.func178 O Tryz.ntmps178 Tryz.results178 O ?_
 intro z hz
 refine G O<|zV O O (qJ O O) ?_
 rintro _ _ ⟨b1,rfl,rfl⟩
 refine yS _ (yW 0 O 2 _ PLe.ptr)<|zV O O (qJ O O) ?_
 rintro _ _ ⟨b2,rfl,rfl⟩
 refine A O<|Y<|G O<|zD O wK<|zI zBl (J 0 O) O<|zW O (zEk O O O O O)<|zW O (kG [1,1,1,1] O ok215 (zGt l.L _ (fun m=> !dD S m.Name) (ckN b svL svS svP n U S W) hl (fun m _=>FnCon.of_con (first:=[]) (cap:=[.iptr [.lit (.pointer (some ⟨b,0,none⟩))]]) ok216 (inScope_1 b svL svS svP n U S W m hS))) ⟨R,O,R,O,T⟩ O)<|kN O<|A O<|Y<|zY _ (Weak.mem [false,true,true,true,true] O)<|zH<|zS O ?_
 exact ⟨by rw [zKg];rfl,O⟩
theorem node_1 (b:Nat) (svL svS svP:Value) (n:Ns) (U S:List ByteArray) (W:List Int) (l:Lf) (hS:S.length<=1000000) (hl:l.L.length<=4294967296):
    Con cfg 180 [dF l,.c (.iptr [.lit (.pointer (some ⟨b,0,none⟩))])] (ckN b svL svS svP n U S W) fun r μ'=>r=vB (!gN S l)/\μ'=ckN b svL svS svP n U S W:=by
 refine zR Tryz.func180 O Tryz.ntmps180 Tryz.results180 O ?_
 intro z hz
 refine G O<|zV O O (qJ O O) ?_
 rintro _ _ ⟨b1,rfl,rfl⟩
 refine A O<|Y<|G O<|zI zRg zZ O<|zM kP (J 0 O) O<|zW O (kG [1,1,1,1] O ok178 (zQy b svL svS svP n U S W l hS hl) ⟨R,O,R,O,T⟩ O)<|kN O<|A O<|Y<|zY _ (Weak.mem [false,true,true,true,true] O)<|zH<|zS O ?_
 exact ⟨O,O⟩
theorem ck_node (b:Nat) (svL svS svP:Value) (n:Ns) (U S:List ByteArray) (W:List Int) (e:Ex) (hn:n.Ok) (hS:S.length<=1000000) (he:e.wt<=1073741824):
    Con cfg 157 [vP b,vE e] (ckN b svL svS svP n U S W) fun r μ'=>r=vI (jG n.Bufs S e)/\μ'=ckN b svL svS svP n U S W:=by
 refine zR Tryz.func157 O Tryz.ntmps157 Tryz.results157 O ?_
 intro z hz
 obtain ⟨hL,hI,hA⟩:=e.parts he
 have hwt:=Ex.wt_eq e
 refine G O<|zV O O (qJ O O) ?_
 rintro _ _ ⟨b1,rfl,rfl⟩
 refine yS _ (yW 0 O 2 _ PLe.ptr)<|zV O O (qJ O O) ?_
 rintro _ _ ⟨b2,rfl,rfl⟩
 refine A O<|Y<|G O<|zI zRg zZ O<|zD O zDv<|zM kP (J 0 O) O<|zW O (kG [1,1,1,1] O ok178 (zQy b svL svS svP n U S W e.Lin hS zA) ⟨R,O,R,O,T⟩ O)<|A O<|Y<|zJ<|G O<|zD O wI<|zI wQ (J 0 O) O<|qB O v<|A O<|Y<|zQ<|zY ⟨[(20,.c _),(5,.c _),(2,.c _),(3,.c _),(18,.c _),(19,.c _)],[_,_,_,_,_]⟩ (Weak.mk [true,true,true,true,true] ⟨R,R,R,R,R,R,T⟩ O) ?_
 refine qK 2 0 O O (Nat) (fun k=>[(20,vI k),(5,vB (gN S e.Lin&&(e.Idx.take k).all (cW S)))]) (fun k=>[]) (fun k=>k<=e.Idx.length) (fun k=>e.Idx.length-k) ⟨0,zA,Weak.mk [true,true,true,true,true] ⟨R,VLe.of_eq (congrArg vB uD),R,R,R,R,T⟩ O⟩ ?_
 rintro k hk
 refine G O<|yG O<|Y<|zJ<|zE O (fun c1=>?_) (fun c1=>?_)
 ·try simp only [sx] at c1
  obtain ⟨x,hx⟩:=qY e.Idx k zA
  refine zK<|zJ<|zQ<|G O<|qC O v zA (getm uB)<|zM zPo zZ O<|zV O O (qH [none,some 2,none,some 2] O zr92 O) ?_
  rintro _ _ ⟨b3,rfl,rfl⟩
  refine rStR 0 sz92 O<|Y<|zT O<|A O<|A O<|rL0 O (fun g5_1=>zF O zRg O zZ O) O<|rL0 O (fun g5_1=>zG O zFh O) O<|rL1 27 O (fun g5_1=>zU O kP O (J 0 O) O) O<|rLz [(26,_),(28,_)] O B ⟨O,O,O,O,T⟩ (fun g5_1=>kG [2,2,2,2] O ok178 (zQy b svL svS svP n U S W x.Lin hS (by have:=Ex.idx_wt (qA hx);omega)) ⟨R,O,R,O,T⟩ O) O<|yR O (fun h=>h)<|A O<|rL0 O (fun g5_7=>zG O zAu O) O<|rL1 32 O (fun g5_7=>zF O zEo O (J 0 O) O) O<|rL0 O (fun g5_7=>zEk O O O O O) O<|rLz [(33,_),(34,_)] O B ⟨O,O,O,O,T⟩ (fun g5_7=>kG [2,2,2,2] O ok179 (zIa x.At _ (fun l=> !gN S l) (ckN b svL svS svP n U S W) (by have:=Ex.idx_wt (qA hx);omega) (fun l hl=>FnCon.of_con (first:=[]) (cap:=[.iptr [.lit (.pointer (some ⟨b,0,none⟩))]]) ok180 (node_1 b svL svS svP n U S W l hS (by have:=Ex.idx_wt (qA hx);have:=zDz hl;omega)))) ⟨R,O,R,O,T⟩ O) O<|rL1 35 O (fun g5_7=>kJ O O) O<|yR O (fun h=>h)<|A O<|Y<|zT O<|qI O ⟨zA,zA⟩<|A O<|Y ?_
  refine ⟨k+1,zA,zA,Weak.mk [false,true,true,true,true,true] ⟨R,VLe.of_eq (congrArg vB (by rw [zKg];exact scAll_next hx)),R,R,R,R,T⟩ O⟩
 ·try simp only [sx] at c1
  rw [yV (l:=e.Idx) (k:=k) zA]
  refine qN<|zJ<|G O<|A O<|kN O<|Y<|zE O (fun c2=>?_) (fun c2=>?_)
  ·have h9:lD S e=false:=(Bool.not_eq_true' _).mp c2
   refine G O<|A O<|Y<|zY _ (Weak.mem [false,true,true,true,true] O)<|zH<|zS O ?_
   exact ⟨by rw [nodeN_9 h9],O⟩
  ·have h9:lD S e=true:=(Bool.not_eq_false' _).mp c2
   refine zK<|zJ<|G O<|zD O kO<|zI one3 (J 0 O) O<|yK O<|Y<|zE O (fun c3=>?_) (fun c3=>?_)
   ·try simp only [sx] at c3
    refine G O<|A O<|Y<|zY _ (Weak.mem [false,true,true,true,true] O)<|zH<|zS O ?_
    exact ⟨by rw [nodeN_o h9 c3],O⟩
   ·try simp only [sx] at c3
    refine zK<|zJ<|kI 12 1 [⟨0,.q []⟩,⟨1,.q []⟩,⟨2,.q []⟩,⟨3,.q [2]⟩,⟨4,.q []⟩,⟨5,.q [1]⟩,⟨6,.q []⟩,⟨7,.q []⟩,⟨8,.q []⟩,⟨9,.q []⟩,⟨10,.e 0 []⟩,⟨11,.e 0 []⟩] mixed uC uC O O O<|zX O<|zX O<|zX O<|zX O<|zX O<|zX O<|zX O<|zX O<|zX O<|zX O<|zX O<|zX O<|zBb<|qF O zB O O (zF O zRg O zZ O)<|qF O zB O O (yB O O)<|qF O zB O O (zG O zQs O)<|qF O zB O O (zU O kE O (J 0 O) O)<|qF O zB O O (zG O zGd O)<|qF O zB O O (zF O one9 O (J 0 O) O)<|qF O zB O O (qG O ok50 (zAg n e.Name hn) ⟨R,O,R,O,T⟩)<|qF O zB O O (kH O O)<|qF O zB O O (wE O O O)<|qF O zB O O (wD O O O)<|zJf O O zB O O (qH [none,none,none,none,none,none,some 1,none] O zr94 O) ?_
    rintro _ _ ⟨b4,rfl,rfl⟩
    refine ⟨_,O,?_⟩
    refine zFr O O zB O O (yL O sz94 O O O (zFf 0 O O)) ?_
    rintro _ _ ⟨rfl,rfl⟩
    refine ⟨_,O,?_⟩
    refine zAx O<|A O<|Y<|zJ<|G O<|A O<|kN O<|Y<|zE O (fun c4=>?_) (fun c4=>?_)
    ·try simp only [sx] at c4
     refine G O<|A O<|Y<|zY _ (Weak.mem [false,false,true,true,true,true] O)<|zH<|zS O ?_
     exact ⟨by rw [nodeN_n h9 zA c4],O⟩
    ·try simp only [sx] at c4
     refine zK<|zJ<|G O<|zD O zGb<|zI zBs (J 0 O) O<|qB O el38<|zD O wI<|zI wQ (J 1 O) O<|qB O v<|yK O<|Y<|zE O (fun c5=>?_) (fun c5=>?_)
     ·try simp only [sx] at c5
      refine G O<|A O<|Y<|zY _ (Weak.mem [false,false,true,true,true,true] O)<|zH<|zS O ?_
      exact ⟨by rw [nodeN_r h9 zA c4 zA],O⟩
     ·try simp only [sx] at c5
      refine zK<|zJ<|G O<|zD O wI<|zI wQ (J 1 O) O<|qB O v<|A O<|Y<|zQ<|zY ⟨[(66,.c _),(2,.c _),(64,.c _),(65,.c _)],[_,_,_,_]⟩ (Weak.mk [false,false,true,true,true,true] ⟨R,R,R,R,T⟩ O)<|qK 1 0 O O (Nat) (fun j=>[(66,vI j)]) (fun j=>[]) (fun j=>j<=e.Idx.length/\(nV n.Bufs e.Idx=nV n.Bufs (e.Idx.drop j))) (fun j=>e.Idx.length-j) ⟨0,⟨zA,O⟩,Weak.mk [true,true,true,true] ⟨R,R,R,R,T⟩ O⟩ ?_
      rintro j ⟨hk,hq⟩
      refine G O<|yG O<|Y<|zJ<|zE O (fun c6=>?_) (fun c6=>?_)
      ·try simp only [sx] at c6
       obtain ⟨y,hy⟩:=qY e.Idx j zA
       refine zK<|zJ<|zQ<|G O<|qC O v zA (getm uB)<|zM zPo zZ O<|zV O O (qH [none,some 2,none,some 2] O zr92 O) ?_
       rintro _ _ ⟨b5,rfl,rfl⟩
       refine rStR 0 sz92 O<|Y<|zJ<|G O<|zD O zEs<|zI one9 (J 0 O) O<|wL O<|Y<|zE O (fun c7=>?_) (fun c7=>?_)
       ·try simp only [sx] at c7
        refine qN<|zT O<|qI O ⟨zA,zA⟩<|A O<|Y ?_
        refine ⟨j+1,⟨zA,hq.trans (zLp hy (by first|exact gathE_0 c7|exact zTe c7 c8 zA zA))⟩,zA,Weak.mk [false,true,true,true,true] ⟨R,R,R,R,T⟩ O⟩
       ·try simp only [sx] at c7
        refine zK<|zJ<|kI 12 1 [⟨0,.q []⟩,⟨1,.q []⟩,⟨2,.q []⟩,⟨3,.q [2]⟩,⟨4,.q []⟩,⟨5,.q [1]⟩,⟨6,.q []⟩,⟨7,.q []⟩,⟨8,.q []⟩,⟨9,.q []⟩,⟨10,.e 0 []⟩,⟨11,.e 0 []⟩] mixed uC uC O O O<|zX O<|zX O<|zX O<|zX O<|zX O<|zX O<|zX O<|zX O<|zX O<|zX O<|zX O<|zX O<|zBb<|qF O zB O O (zF O zRg O zZ O)<|qF O zB O O (yB O O)<|qF O zB O O (zG O zQs O)<|qF O zB O O (zU O kE O (J 0 O) O)<|qF O zB O O (zG O zEs O)<|qF O zB O O (zF O one9 O (J 0 O) O)<|qF O zB O O (qG O ok50 (zAg n y.From hn) ⟨R,O,R,O,T⟩)<|qF O zB O O (kH O O)<|qF O zB O O (wE O O O)<|qF O zB O O (wD O O O)<|zJf O O zB O O (qH [none,none,none,none,none,none,some 1,none] O zr94 O) ?_
        rintro _ _ ⟨b6,rfl,rfl⟩
        refine ⟨_,O,?_⟩
        refine zFr O O zB O O (yL O sz94 O O O (zFf 0 O O)) ?_
        rintro _ _ ⟨rfl,rfl⟩
        refine ⟨_,O,?_⟩
        refine zAx O<|A O<|Y<|zQ<|G O<|A O<|kN O<|A O<|Y<|zE O (fun c8=>?_) (fun c8=>?_)
        ·try simp only [sx] at c8
         refine G O<|A O<|Y<|zY _ (Weak.mem [false,false,true,true,true,true] O)<|zH<|zS O ?_
         exact ⟨by rw [zKh h9 zA c4 zA,hq,zLo hy (by rw [gathE_9 c7 c8];decide),gathE_9 c7 c8],O⟩
        ·try simp only [sx] at c8
         refine G O<|zD O zGc<|zD O zDo<|zI one3 (J 0 O) O<|yK O<|A O<|Y<|zE O (fun c9=>?_) (fun c9=>?_)
         ·try simp only [sx] at c9
          refine G O<|A O<|Y<|zY _ (Weak.mem [false,false,true,true,true,true] O)<|zH<|zS O ?_
          exact ⟨by rw [zKh h9 zA c4 zA,hq,zLo hy (by rw [zTg c7 c8 c9];decide),zTg c7 c8 c9],O⟩
         ·try simp only [sx] at c9
          refine G O<|zD O zGb<|zI zBs (J 0 O) O<|qB O el38<|zD O zAu<|zI zEo (J 1 O) O<|qB O el90<|yK O<|A O<|Y<|zE O (fun c10=>?_) (fun c10=>?_)
          ·try simp only [sx] at c10
           refine G O<|A O<|Y<|zY _ (Weak.mem [false,false,true,true,true,true] O)<|zH<|zS O ?_
           exact ⟨by rw [zKh h9 zA c4 zA,hq,zLo hy (by rw [zTf c7 c8 c9 zA];decide),zTf c7 c8 c9 zA],O⟩
          ·try simp only [sx] at c10
           refine zK<|zT O<|qI O ⟨zA,zA⟩<|A O<|Y ?_
           refine ⟨j+1,⟨zA,hq.trans (zLp hy (by first|exact gathE_0 c7|exact zTe c7 c8 zA zA))⟩,zA,Weak.mk [false,false,true,true,true,true] ⟨R,R,R,R,T⟩ O⟩
      ·try simp only [sx] at c6
       refine qN<|G O<|A O<|Y<|zH<|zS O ?_
       exact ⟨by rw [zKh h9 zA c4 zA,hq,kK zA];rfl,O⟩
theorem ck_typeOf_step (b:Nat) (svL svS svP:Value) (n:Ns) (U S:List ByteArray) (W:List Int) (hn:n.Ok) (e:Ex) (ih:∀a,a∈e.Args->dJ a=0->a.wt<=1073741824->Con cfg 158 [vP b,vE a] (ckN b svL svS svP n U S W) fun r μ'=>r=.tup [vTy (fA (tyF n.Bufs) a).1,vI (fA (tyF n.Bufs) a).2]/\μ'=ckN b svL svS svP n U S W) (hpart:dJ e=0) (he:e.wt<=1073741824):
    Con cfg 158 [vP b,vE e] (ckN b svL svS svP n U S W) fun r μ'=>r=.tup [vTy (fA (tyF n.Bufs) e).1,vI (fA (tyF n.Bufs) e).2]/\μ'=ckN b svL svS svP n U S W:=by
 refine Con.drop<|zR Tryz.func158 O Tryz.ntmps158 Tryz.results158 O ?_
 intro z hz
 obtain ⟨hLl,hIl,hAl⟩:=e.parts he
 have hwt:=Ex.wt_eq e
 refine G O<|zV O O (qJ O O) ?_
 rintro _ _ ⟨b1,rfl,rfl⟩
 refine zV O O (qV O zr48) ?_
 rintro _ _ ⟨b2,rfl,rfl⟩
 refine A O<|Y<|G O<|A O<|yS _ (wC 48 5)<|Y<|zJ<|G O<|zD O wA<|zI zAo (J 2 O) O<|qB O el52<|A O<|Y<|zQ<|zY ⟨[(16,.c _),(6,.c _),(0,.c _),(3,.c _),(4,.c _),(14,.c _),(15,.c _)],[_,_,_,_,_,_,_]⟩ (Weak.mk [true,true,true,true,true,true,true] ⟨R,R,R,R,R,R,R,T⟩ O)<|qK 2 1 O O (Nat×Value) (fun ⟨k,sv⟩=>[(16,vI k),(6,.c (.lit sv))]) (fun ⟨k,sv⟩=>[E.vec sv 48 5 ((bQ (tyF n.Bufs) (e.Args.take k)).1.map tyC)]) (fun ⟨k,sv⟩=>k<=e.Args.length/\((bQ (tyF n.Bufs) (e.Args.take k)).2=0)) (fun ⟨k,sv⟩=>e.Args.length-k) ⟨⟨0,(.slice none 0 0)⟩,⟨zA,O⟩,Weak.mk [true,true,true,true,true,true,true] ⟨R,R,R,R,R,R,R,T⟩ O⟩ ?_
 rintro ⟨k,sv⟩ ⟨hk,hp⟩
 show AWP _ _ _ _ _ ⟨[(16,vI k),(6,.c (.lit sv))]++_,[E.vec sv 48 5 ((bQ (tyF n.Bufs) (e.Args.take k)).1.map tyC)]++_⟩
 refine G O<|yG O<|Y<|zJ<|zE O (fun c1=>?_) (fun c1=>?_)
 ·try simp only [sx] at c1
  obtain ⟨x,hx⟩:=qY e.Args k zA
  have hll:=zHk _ _ hp
  refine zK<|zJ<|zQ<|G O<|qC O el52 zA (zCn uB)<|zM yX zZ O<|zV O O (qH [none,none,none,none,none,none,none,none,none,none,some 2,some 4,some 13] O zr54 O) ?_
  rintro _ _ ⟨b4,rfl,rfl⟩
  refine rStR 0 sz54 O<|Y<|G O<|A O<|zM yX (J 0 O) O<|zW O (kG [4,4,4,4] O ok158 (ih x (qA hx) (zHi hpart (qA hx)) (by have:=Ex.arg_wt (qA hx);omega)) ⟨R,O,R,O,T⟩ O)<|qO O<|yH O<|qR O<|zV O O (qV O zr48) ?_
  rintro _ _ ⟨b5,rfl,rfl⟩
  refine rStR 0 sz48 O<|A O<|Y<|zJ<|G O<|A O<|yK O<|Y<|zE O (fun c2=>?_) (fun c2=>?_)
  ·try simp only [sx] at c2
   refine G O<|zM yD (J 0 O) O<|A O<|rStR 3 sz48 O<|A O<|Y<|zY _ (Weak.mem [false,false,false,true,false,true,true,true,true] O)<|zH<|fin2 (zP yD O (J 0 O) O) (rs_c O) ?_
   exact ⟨by rw [nodeT_no hx hp c2,nodeT_zero c2];rfl,[_],O⟩
  ·try simp only [sx] at c2
   refine zK<|zT O<|A O<|zM yD (J 0 O) O<|zW O (qZ O zAk zr48 O O O O)<|zV O O (yN 2 O zAk O O O (by simp only [List.length_map,List.length_cons,List.length_nil,hll,List.length_take];omega) (by simp only [List.length_map,List.length_cons,List.length_nil,hll,List.length_take];omega)) ?_
   rintro _ _ ⟨sv6,rfl,rfl⟩
   refine A O<|Y<|zT O<|qI O ⟨zA,zA⟩<|A O<|Y ?_
   refine ⟨⟨k+1,sv6⟩,⟨zA,by rw [zFm hx hp c2]⟩,(by show e.Args.length-(k+1)<e.Args.length-k;omega),Weak.mk [false,false,true,true,true,true,true,true,true] ⟨R,R,R,R,R,R,R,T⟩ (by show _=[E.vec sv6 _ 5 ((bQ (tyF n.Bufs) (e.Args.take (k+1))).1.map tyC)]++_;rw [zFm hx hp c2];simp only [List.map_append];rfl)⟩
 ·try simp only [sx] at c1
  have hll:=zHk _ _ hp
  have hta:e.Args.take k=e.Args:=yV zA
  rw [hta] at hll
  have hg:∀i,i<e.Args.length->((bQ (tyF n.Bufs) (e.Args.take k)).1.map tyC)[i]? =some (tyC (dW (bQ (tyF n.Bufs) (e.Args.take k)).1 i)):=fun i hi=>zLf (by rw [hta];omega)
  have hgn:∀i:Nat,1<=i->i<=e.Args.length->∀j:Int,j=(((bQ (tyF n.Bufs) (e.Args.take k)).1.length:Int)-i)->((bQ (tyF n.Bufs) (e.Args.take k)).1.map tyC)[j.toNat]? =some (tyC (dW (bQ (tyF n.Bufs) (e.Args.take k)).1 ((bQ (tyF n.Bufs) (e.Args.take k)).1.length-i))):=fun i h1 h2 j hj=>by rw [hta] at *;rw [show j.toNat=(bQ (tyF n.Bufs) e.Args).1.length-i by omega];exact zLf zA
  have hT:fA (tyF n.Bufs) e=tyF n.Bufs e (bQ (tyF n.Bufs) (e.Args.take k)).1:=nodeT_ok hta hp
  have hlk:(bQ (tyF n.Bufs) (e.Args.take k)).1.length=e.Args.length:=by rw [hta];exact hll
  refine qN<|zJ<|G O<|zD O kO<|zI one3 (J 2 O) O<|Y<|zQ<|zJ<|G O<|yE O<|A O<|Y<|zE O (fun c3=>?_) (fun c3=>?_)
  ·try simp only [sx] at c3
   refine zK<|zE O (fun c4=>?_) (fun c4=>?_)
   ·exact v15
   ·try simp only [sx] at c4
    refine G O<|yE O<|A O<|Y<|zE O (fun c5=>?_) (fun c5=>?_)
    ·try simp only [sx] at c5
     exact t7
    ·try simp only [sx] at c5
     refine G O<|yE O<|A O<|Y<|zE O (fun c6=>?_) (fun c6=>?_)
     ·try simp only [sx] at c6
      refine zJ<|kI 12 1 [⟨0,.q []⟩,⟨1,.q []⟩,⟨2,.q []⟩,⟨3,.q [4]⟩,⟨4,.q []⟩,⟨5,.q [3]⟩,⟨6,.q []⟩,⟨7,.q []⟩,⟨8,.q []⟩,⟨9,.q []⟩,⟨10,.e 0 []⟩,⟨11,.e 0 []⟩] mixed uC uC O O O<|zX O<|zX O<|zX O<|zX O<|zX O<|zX O<|zX O<|zX O<|zX O<|zX O<|zX O<|zX O<|zBb<|qF O zB O O (zO O O)<|qF O zB O O (yB O O)<|qF O zB O O (zG O zQs O)<|qF O zB O O (zU O kE O (J 0 O) O)<|qF O zB O O (zG O zGd O)<|qF O zB O O (zF O one9 O (J 0 O) O)<|qF O zB O O (qG O ok50 (zAg n e.Name hn) ⟨R,O,R,O,T⟩)<|qF O zB O O (kH O O)<|qF O zB O O (wE O O O)<|qF O zB O O (wD O O O)<|zJf O O zB O O (qH [none,none,none,none,none,none,some 1,none] O zr94 O) ?_
      rintro _ _ ⟨b7,rfl,rfl⟩
      exact m7
     ·exact w8
  ·try simp only [sx] at c3
   refine zT O<|yE O<|A O<|Y<|zE O (fun c4=>?_) (fun c4=>?_)
   ·exact v15
   ·try simp only [sx] at c4
    refine G O<|yE O<|A O<|Y<|zE O (fun c5=>?_) (fun c5=>?_)
    ·try simp only [sx] at c5
     exact t7
    ·try simp only [sx] at c5
     refine G O<|yE O<|A O<|Y<|zE O (fun c6=>?_) (fun c6=>?_)
     ·try simp only [sx] at c6
      refine zJ<|kI 12 1 [⟨0,.q []⟩,⟨1,.q []⟩,⟨2,.q []⟩,⟨3,.q [4]⟩,⟨4,.q []⟩,⟨5,.q [3]⟩,⟨6,.q []⟩,⟨7,.q []⟩,⟨8,.q []⟩,⟨9,.q []⟩,⟨10,.e 0 []⟩,⟨11,.e 0 []⟩] mixed uC uC O O O<|zX O<|zX O<|zX O<|zX O<|zX O<|zX O<|zX O<|zX O<|zX O<|zX O<|zX O<|zX O<|zBb<|qF O zB O O (zO O O)<|qF O zB O O (yB O O)<|qF O zB O O (zG O zQs O)<|qF O zB O O (zU O kE O (J 0 O) O)<|qF O zB O O (zG O zGd O)<|qF O zB O O (zF O one9 O (J 0 O) O)<|qF O zB O O (qG O ok50 (zAg n e.Name hn) ⟨R,O,R,O,T⟩)<|qF O zB O O (kH O O)<|qF O zB O O (wE O O O)<|qF O zB O O (wD O O O)<|zJf O O zB O O (qH [none,none,none,none,none,none,some 1,none] O zr94 O) ?_
      rintro _ _ ⟨b8,rfl,rfl⟩
      exact m7
     ·exact w8
theorem ck_typeOf (b:Nat) (svL svS svP:Value) (n:Ns) (U S:List ByteArray) (W:List Int)  (e:Ex) (hn:n.Ok) (hpart:dJ e=0) (he:e.wt<=1073741824):Con cfg 158 [vP b,vE e] (ckN b svL svS svP n U S W) fun r μ'=>r=.tup [vTy (fA (tyF n.Bufs) e).1,vI (fA (tyF n.Bufs) e).2]/\μ'=ckN b svL svS svP n U S W:=by
  induction e using Ex.ind with
  |_ e ih=>exact ck_typeOf_step b svL svS svP n U S W hn e (fun a ha h1 h2=>ih a ha h1 h2) hpart he
theorem zIv (b:Nat) (svL svS svP:Value) (n:Ns) (U S:List ByteArray) (W:List Int) (e:Ex) (hn:n.Ok) (hS:S.length<=1000000) (he:e.wt<=1000000000):
    Con cfg 135 [vP b,vE e] (ckN b svL svS svP n U S W) fun r μ'=>r=.tup [vTy (dK n.Bufs S e).1,vI (dK n.Bufs S e).2]/\μ'=ckN b svL svS svP n U S W:=by
 refine Con.drop<|zR Tryz.func135 O Tryz.ntmps135 Tryz.results135 O ?_
 intro z hz
 refine G O<|zV O O (qJ O O) ?_
 rintro _ _ ⟨b1,rfl,rfl⟩
 refine yS _ (yW 0 O 2 _ PLe.ptr)<|zV O O (qJ O O) ?_
 rintro _ _ ⟨b2,rfl,rfl⟩
 refine zV O O (qV O zr48) ?_
 rintro _ _ ⟨b3,rfl,rfl⟩
 refine zV O O (qV O zr29) ?_
 rintro _ _ ⟨b4,rfl,rfl⟩
 refine Y<|zJ<|G O<|zM yX (J 2 O) O<|qD O ok156 (expr_Validate e zA) ⟨R,O,T⟩<|A O<|Y<|G O<|A O<|yK O<|Y<|zE O (fun c1=>?_) (fun c1=>?_)
 ·try simp only [sx] at c1
  refine G O<|qT O zr48 pl48<|A O<|rStR 1 sz48 O<|rStR 0 sz29 O<|Y<|zY _ (Weak.mem [true,true,false,true,true,true,true] O)<|zH<|fin2 (zP yD O (J 1 O) O) (kY zCq O (J 0 O) O) ?_
  exact ⟨by rw [zWp c1];rfl,[_,_],O⟩
 ·try simp only [sx] at c1
  refine zK<|zJ<|G O<|zM yX (J 2 O) O<|qD O ok68 (zOs _) ⟨R,O,T⟩<|Y<|zQ<|zGg (ps:=[17]) hz 2 O O ok98 (zNe e zA) (fun _ _=>O) O (fun pre=>dG n.Bufs S pre=0) (fun pre=>[E.row b4 29 [cI 0],E.row b3 48 [cI 0,cI 0,cI 0,cI 0,cI 0]]) (fun c pre=>(c=.ret/\¬dG n.Bufs S pre=0)) (fun c pre=>[E.row b4 29 [cI (dG n.Bufs S pre)],E.row b3 48 [cI 0,cI 0,cI 0,cI 0,cI 0]]) ⟨O,O⟩ ?_ ?_ ?_ ?_
  ·intro pre x suf hxs hi z hz
   have hxw:x.wt<=e.wt:=zFw e x (by rw [hxs];simp)
   refine zT O<|zV O O (qH [none,none,none,none,none,none,none,none,none,none,some 2,some 4,some 13] O zr54 O) ?_
   rintro _ _ ⟨b5,rfl,rfl⟩
   refine rStR 0 sz54 O<|Y ?_
   intro z hz
   refine zQ<|G O<|zI zRg zZ O<|zM yX (J 0 O) O<|zW O (kG [4,4,4,4] O ok157 (ck_node b svL svS svP n U S W x hn hS zA) ⟨R,O,R,O,T⟩ O)<|A O<|Y<|G O<|A O<|yK O<|Y<|zE O (fun c2=>?_) (fun c2=>?_)
   ·try simp only [sx] at c2
    refine G O<|qT O zr48 pl48<|A O<|rStR 2 sz48 O<|rStR 1 sz29 O<|Y<|zH ?_
    exact zCp (τ:=⟨[],_⟩) (Weak.mk [false,true,true,true,true,true,true,true] T O) ⟨⟨O,by rw [zQf hi];exact c2⟩,(by dsimp only;rw [zQf hi];rfl)⟩
   ·try simp only [sx] at c2
    refine zK ?_
    exact zCp (τ:=⟨[],_⟩) (Weak.mk [false,true,true,true,true,true,true,true] T O) ⟨(by dsimp only;rw [zQf hi];exact c2),O⟩
  ·intro hd
   refine G O<|zI zRg zZ O<|zM yX (J 2 O) O<|zW O (kG [3,3,3,3] O ok158 (ck_typeOf b svL svS svP n U S W e hn (zDa c1) zA) ⟨R,O,R,O,T⟩ O)<|yH O<|qR O<|rStR 1 sz48 O<|rStR 0 sz29 O<|Y<|zY _ (Weak.mem [true,true,false,true,true,true,true] O)<|zH<|fin2 (zP yD O (J 1 O) O) (kY zCq O (J 0 O) O) ?_
   exact ⟨by rw [exprT_3 c1 hd];rfl,[_,_],O⟩
  ·rintro pre x suf hxs hx
   rcases hx with ⟨hc,hx⟩
   clear hc
   repeat (first|refine zNi ?_|refine zLu ?_)
   refine fin2 (zP yD O (J 1 O) O) (kY zCq O (J 0 O) O) ?_
   exact ⟨by rw [zWo c1 (by rw [hxs,nodesN_pre hx];exact hx),hxs,nodesN_pre (suf:=suf) hx];rfl,[_,_,_],O⟩
  ·rintro i pre x suf hxs hx
   rcases hx with ⟨hc,hx⟩
   cases hc
theorem ck_store (b:Nat) (svL svS svP:Value) (n:Ns) (U S:List ByteArray) (W:List Int) (s:St) (hn:n.Ok) (hS:S.length<=1000000) (hs:s.wt<=900000000):
    Con cfg 137 [vP b,vSt s] (ckN b svL svS svP n U S W) fun r μ'=>r=vI (jW n.Bufs S s)/\μ'=ckN b svL svS svP n U S W:=by
 refine zR Tryz.func137 O Tryz.ntmps137 Tryz.results137 O ?_
 intro z hz
 obtain ⟨hE,hI,hIw,hB,hBw⟩:=St.parts hs
 have hrd:=rdE_wt s
 refine G O<|zV O O (qJ O O) ?_
 rintro _ _ ⟨b1,rfl,rfl⟩
 refine A O<|Y<|G O<|A O<|zD O zAh<|zI one9 (J 0 O) O<|zD O zEt<|zI wQ (J 0 O) O<|yF [none,none,none,none,none,none,none,none,none,none,some 2,none,some 13] O zr54 pl54<|zW O (kG [1,1,1,1] O ok135 (zIv b svL svS svP n U S W (rdE s) hn hS zA) ⟨R,O,R,O,T⟩ O)<|qO O<|yH O<|qR O<|zV O O (qV O zr48) ?_
 rintro _ _ ⟨b2,rfl,rfl⟩
 refine rStR 0 sz48 O<|A O<|Y<|zJ<|G O<|A O<|yK O<|Y<|zE O (fun c1=>?_) (fun c1=>?_)
 ·try simp only [sx] at c1
  refine G O<|A O<|A O<|Y<|zY _ (Weak.mem [false,false,true,true,true,true] O)<|zH<|zS O ?_
  exact ⟨by rw [storeE_1 c1],O⟩
 ·try simp only [sx] at c1
  have hT:=exprT_rd c1
  refine zK<|zJ<|zJ<|kI 12 1 [⟨0,.q []⟩,⟨1,.q []⟩,⟨2,.q []⟩,⟨3,.q [3]⟩,⟨4,.q []⟩,⟨5,.q [2]⟩,⟨6,.q []⟩,⟨7,.q []⟩,⟨8,.q []⟩,⟨9,.q []⟩,⟨10,.e 0 []⟩,⟨11,.e 0 []⟩] mixed uC uC O O O<|zX O<|zX O<|zX O<|zX O<|zX O<|zX O<|zX O<|zX O<|zX O<|zX O<|zX O<|zX O<|zBb<|qF O zB O O (zO O O)<|qF O zB O O (yB O O)<|qF O zB O O (zG O zQs O)<|qF O zB O O (zU O kE O (J 0 O) O)<|qF O zB O O (zG O zAh O)<|qF O zB O O (zF O one9 O (J 0 O) O)<|qF O zB O O (qG O ok50 (zAg n s.Name hn) ⟨R,O,R,O,T⟩)<|qF O zB O O (kH O O)<|qF O zB O O (wE O O O)<|qF O zB O O (wD O O O)<|zJf O O zB O O (qH [none,none,none,none,none,none,some 1,none] O zr94 O) ?_
  rintro _ _ ⟨b3,rfl,rfl⟩
  refine ⟨_,O,?_⟩
  refine zFr O O zB O O (yL O sz94 O O O (zFf 0 O O)) ?_
  rintro _ _ ⟨rfl,rfl⟩
  refine ⟨_,O,?_⟩
  refine zAx O<|A O<|Y<|G O<|zD O zOq<|zI one3 (J 0 O) O<|yE O<|Y<|zE O (fun c2=>?_) (fun c2=>?_)
  ·try simp only [sx] at c2
   refine G O<|A O<|Y<|zY _ (Weak.mem [false,false,false,true,true,true,true] O)<|zH<|zS O ?_
   exact ⟨by rw [zSp c1 (.inl c2)],O⟩
  ·try simp only [sx] at c2
   refine zK<|zJ<|G O<|zD O zAm<|zI one3 (J 2 O) O<|yE O<|A O<|rL0 O (fun g7_3=>zG O zOr O) O<|rL1 40 O (fun g7_3=>zF O one3 O (J 2 O) O) O<|rL1 41 O (fun g7_3=>zAv O O O) O<|rL1 42 O (fun g7_3=>zO O O) O<|rLz [] O gv2 T (fun g7_7=>zG O zOr O) O<|rLz [(44,_)] O gv2 ⟨O,O,T⟩ (fun g7_7=>zF O one3 O (J 2 O) O) O<|rLz [(45,_)] O gv2 ⟨O,O,T⟩ (fun g7_7=>yC O O O) O<|rL1 43 O (fun g7_3=>zAn O O O O (fun h=>kC uB (lzf h))) O<|yR O (fun h=>h)<|Y<|zE O (fun c3=>?_) (fun c3=>?_)
   ·try simp only [sx] at c3
    refine G O<|A O<|Y<|zY _ (Weak.mem [false,false,false,true,true,true,true] O)<|zH<|zS O ?_
    exact ⟨by rw [zSp c1 (.inr c3)],O⟩
   ·try simp only [sx] at c3
    refine zK<|G O<|A O<|zD O zBc<|zM yX (J 2 O) O<|zW O (kG [3,3,3,3] O ok135 (zIv b svL svS svP n U S W s.E hn hS zA) ⟨R,O,R,O,T⟩ O)<|qO O<|yH O<|qR O<|zV O O (qV O zr48) ?_
    rintro _ _ ⟨b4,rfl,rfl⟩
    refine rStR 0 sz48 O<|A O<|Y<|zJ<|G O<|A O<|yK O<|Y<|zE O (fun c4=>?_) (fun c4=>?_)
    ·try simp only [sx] at c4
     refine G O<|A O<|A O<|Y<|zY _ (Weak.mem [false,false,false,false,true,true,true,true] O)<|zH<|zS O ?_
     exact ⟨by rw [storeE_2 c1 zA c4],O⟩
    ·try simp only [sx] at c4
     refine zK<|zJ<|G O<|zD O zBc<|zM yX (J 3 O) O<|qD O ok136 (wG s.E) ⟨R,O,T⟩<|A O<|rL0 O (fun g12_3=>zU O yD O (J 0 O) O) O<|rL0 O (fun g12_3=>zU O yD O (J 2 O) O) O<|rLz [(63,_),(64,_)] O B ⟨O,O,O,O,T⟩ (fun g12_3=>wY O fl48 O O O) O<|r_or O (fun h=>(lzf h))<|Y<|zE O (fun c5=>?_) (fun c5=>?_)
     ·have h10:=st10_t c5
      rw [hT] at h10
      refine G O<|A O<|Y<|zY _ (Weak.mem [false,false,false,false,true,true,true,true] O)<|zH<|zS O ?_
      exact ⟨by rw [zUh c1 zA c4 h10],O⟩
     ·have h10:=st10_f c5
      rw [hT] at h10
      refine zK<|G O<|A O<|Y<|zY _ (Weak.mem [false,false,false,false,true,true,true,true] O)<|zH<|zS O ?_
      exact ⟨by rw [storeE_0 c1 zA c4 h10],O⟩
theorem ck_loop (b:Nat) (svL svS svP:Value) (n:Ns) (U S:List ByteArray) (W:List Int) (s:St) (hn:n.Ok) (hU:U.length<=1000000):
    Con cfg 134 [vP b,vSt s] (ckN b svL svS svP n U S W) fun r μ'=>r=vI (nF n.Bufs U s)/\μ'=ckN b svL svS svP n U S W:=by
 refine zR Tryz.func134 O Tryz.ntmps134 Tryz.results134 O ?_
 intro z hz
 refine G O<|zV O O (qJ O O) ?_
 rintro _ _ ⟨b1,rfl,rfl⟩
 refine A O<|Y<|zJ<|G O<|zD O zAh<|zI one9 (J 0 O) O<|qD O ok17 (zBa _) ⟨R,O,T⟩<|kN O<|Y<|zE O (fun c1=>?_) (fun c1=>?_)
 ·try simp only [sx] at c1
  refine G O<|A O<|Y<|zY _ (Weak.mem [false,true,true,true,true] O)<|zH<|zS O ?_
  exact ⟨by rw [loopE_7 c1],O⟩
 ·try simp only [sx] at c1
  refine zK<|zJ<|zJ<|kI 12 1 [⟨0,.q []⟩,⟨1,.q []⟩,⟨2,.q []⟩,⟨3,.q [2]⟩,⟨4,.q []⟩,⟨5,.q [1]⟩,⟨6,.q []⟩,⟨7,.q []⟩,⟨8,.q []⟩,⟨9,.q []⟩,⟨10,.e 0 []⟩,⟨11,.e 0 []⟩] mixed uC uC O O O<|zX O<|zX O<|zX O<|zX O<|zX O<|zX O<|zX O<|zX O<|zX O<|zX O<|zX O<|zX O<|zBb<|qF O zB O O (zO O O)<|qF O zB O O (yB O O)<|qF O zB O O (zG O zQs O)<|qF O zB O O (zU O kE O (J 0 O) O)<|qF O zB O O (zG O zAh O)<|qF O zB O O (zF O one9 O (J 0 O) O)<|qF O zB O O (qG O ok50 (zAg n s.Name hn) ⟨R,O,R,O,T⟩)<|qF O zB O O (kH O O)<|qF O zB O O (wE O O O)<|qF O zB O O (wD O O O)<|zJf O O zB O O (qH [none,none,none,none,none,none,some 1,none] O zr94 O) ?_
  rintro _ _ ⟨b2,rfl,rfl⟩
  refine ⟨_,O,?_⟩
  refine zFr O O zB O O (yL O sz94 O O O (zFf 0 O O)) ?_
  rintro _ _ ⟨rfl,rfl⟩
  refine ⟨_,O,?_⟩
  refine zAx O<|A O<|Y<|zJ<|qU 10 mixed uC O O<|zN O O (zO O O)<|zN O O (zO O O)<|qL [] O O O O B T (fun g4_1=>zO O O) O<|qL [(23,_)] O O O O B ⟨O,O,T⟩ (fun g4_1=>yB O O) O<|qL [(24,_)] O O O O B ⟨O,O,T⟩ (fun g4_1=>zG O fd137_1 O) O<|qL [(25,_)] O O O O B ⟨O,O,T⟩ (fun g4_1=>zF O one85 O (J 2 O) O) O<|qL [] O O O O B T (fun g4_1=>zG O zAh O) O<|qL [(27,_)] O O O O B ⟨O,O,T⟩ (fun g4_1=>zF O one9 O (J 1 O) O) O<|qL [(26,_),(28,_)] O O O O B ⟨O,O,O,O,T⟩ (fun g4_1=>zOw 3 O ok85 O (zCw U s.Name zA) O ⟨.inl ⟨O,O⟩,.inr ⟨R,O⟩,T⟩) O<|zN O O (zAn O O O O (fun h=>(lzf h)))<|yP<|Y<|zE O (fun c2=>?_) (fun c2=>?_)
  ·try simp only [sx] at c2
   refine G O<|A O<|Y<|zY _ (Weak.mem [false,false,true,true,true,true] O)<|zH<|zS O ?_
   exact ⟨by rw [loopE_8 c1 c2],O⟩
  ·try simp only [sx] at c2
   have h8:¬(dS n.Bufs s.Name=true∨dD U s.Name=true):=by rw [c2.1,c2.2];simp
   refine zK<|zJ<|G O<|zD O zAp<|zI one3 (J 1 O) O<|yG O<|A O<|rL0 O (fun g6_3=>zG O zAp O) O<|rL1 35 O (fun g6_3=>zF O one3 O (J 1 O) O) O<|rL1 36 O (fun g6_3=>yC O O O) O<|r_or O (fun h=>(lzf h))<|A O<|rL0 O (fun g6_8=>zG O zJc O) O<|rL1 40 O (fun g6_8=>zF O one3 O (J 1 O) O) O<|rL1 41 O (fun g6_8=>zAv O O O) O<|r_or O (fun h=>(lzf h))<|A O<|rL0 O (fun g6_13=>zG O zJc O) O<|rL1 45 O (fun g6_13=>zF O one3 O (J 1 O) O) O<|rL1 46 O (fun g6_13=>yC O O O) O<|r_or O (fun h=>(lzf h))<|Y<|zE O (fun c3=>?_) (fun c3=>?_)
   ·try simp only [sx] at c3
    refine G O<|A O<|Y<|zY _ (Weak.mem [false,false,true,true,true,true] O)<|zH<|zS O ?_
    exact ⟨by rw [loopE_1 c1 h8 zA],O⟩
   ·try simp only [sx] at c3
    refine zK<|G O<|A O<|Y<|zY _ (Weak.mem [false,false,true,true,true,true] O)<|zH<|zS O ?_
    exact ⟨by rw [loopE_0 c1 h8 zA],O⟩
theorem zVu (e:Ex) (he:e.wt<=4294967296):
    Pur cfg 155 [vE e] (vB (pI e)):=by
 refine zR Tryz.func155 O Tryz.ntmps155 Tryz.results155 O ?_
 intro z hz
 refine G O<|zV O O (qJ O O) ?_
 rintro _ _ ⟨b1,rfl,rfl⟩
 refine A O<|Y<|G O<|zM yX (J 0 O) O<|yF [none,none,none,none,none,none,none,none,none,none,some 2,some 4,some 13] O zr54 pl54<|qD O ok174 (expr_Same e zEx he zB) ⟨R,O,R,O,T⟩<|A O<|Y<|zH<|zS O ?_
 exact O
theorem zVt (s:St) (hs:s.wt<=900000000):
    Pur cfg 133 [vSt s] (vB (fG s)):=by
 refine zR Tryz.func133 O Tryz.ntmps133 Tryz.results133 O ?_
 intro z hz
 obtain ⟨hE,hI,hIw,hB,hBw⟩:=St.parts hs
 refine G O<|zV O O (qJ O O) ?_
 rintro _ _ ⟨b1,rfl,rfl⟩
 refine A O<|Y<|zJ<|qU 17 mixed uC O O<|zN O O (zG O zAm O)<|zN O O (zF O one3 O (J 0 O) O)<|zN O O (yM O O O)<|zN O O (zG O zAm O)<|zN O O (zF O one3 O (J 0 O) O)<|zN O O (yM O O O)<|zN O O (zO O O)<|qL [] O O O O B T (fun g1_6=>zG O zAm O) O<|qL [(13,_)] O O O O B ⟨O,O,T⟩ (fun g1_6=>zF O one3 O (J 0 O) O) O<|qL [(14,_)] O O O O B ⟨O,O,T⟩ (fun g1_6=>yM O O O) O<|zN O O (zAn O O O O (fun h=>(lzf h)))<|zN O O (zG O zAm O)<|zN O O (zF O one3 O (J 0 O) O)<|zN O O (yM O O O)<|zN O O (qX O O)<|zN O O (qX O O)<|zN O O (qX O O)<|yP<|Y<|zJ<|zQ<|G O<|A O<|kN O<|A O<|rL0 O (fun g2_2=>zO O O) O<|rL1 24 O (fun g2_2=>kJ O O) O<|yR O (fun h=>h)<|A O<|rL0 O (fun g2_6=>zO O O) O<|rL1 28 O (fun g2_6=>kJ O O) O<|yR O (fun h=>h)<|A O<|Y<|zE O (fun c1=>?_) (fun c1=>?_)
 ·refine G O<|A O<|Y<|zH<|zS O ?_
  exact congrArg vB (syn_1 c1)
 ·refine G O<|A O<|A O<|rL0 O (fun g4_1=>zG O zAh O) O<|rL1 34 O (fun g4_1=>zF O one9 O (J 0 O) O) O<|rL1 35 O (fun g4_1=>zBj O O O) O<|yR O (fun h=>h)<|A O<|Y<|zE O (fun c2=>?_) (fun c2=>?_)
  ·refine G O<|A O<|Y<|zH<|zS O ?_
   exact congrArg vB (syn_2 c2)
  ·refine G O<|A O<|kN O<|A O<|rL0 O (fun g6_2=>zG O zAp O) O<|rL1 42 O (fun g6_2=>zF O one3 O (J 0 O) O) O<|rL1 43 O (fun g6_2=>kA O O O) O<|rL1 44 O (fun g6_2=>zO O O) O<|rLz [] O gv2 T (fun g6_6=>zG O zJc O) O<|rLz [(46,_)] O gv2 ⟨O,O,T⟩ (fun g6_6=>zF O one3 O (J 0 O) O) O<|rLz [(47,_)] O gv2 ⟨O,O,T⟩ (fun g6_6=>kA O O O) O<|rL1 45 O (fun g6_2=>zAn O O O O (fun h=>kC uB (lzf h))) O<|yR O (fun h=>h)<|A O<|Y<|zE O (fun c3=>?_) (fun c3=>?_)
   ·refine G O<|A O<|Y<|zH<|zS O ?_
    exact congrArg vB (syn_3 c3)
   ·refine G O<|zD O zAm<|zI one3 (J 0 O) O<|yK O<|A O<|rL0 O (fun g8_3=>zG O zOr O) O<|rL1 56 O (fun g8_3=>zF O one3 O (J 0 O) O) O<|rL1 57 O (fun g8_3=>kA O O O) O<|yR O (fun h=>h)<|A O<|Y<|zE O (fun c4=>?_) (fun c4=>?_)
    ·refine G O<|A O<|Y<|zH<|zS O ?_
     exact congrArg vB (syn_4 c4)
    ·refine G O<|A O<|kN O<|A O<|rL0 O (fun g10_2=>zG O zEt O) O<|rL1 64 O (fun g10_2=>zF O wQ O (J 0 O) O) O<|rL1 65 O (fun g10_2=>yJ O v O) O<|rL1 66 O (fun g10_2=>yC O O O) O<|yR O (fun h=>h)<|A O<|Y<|zE O (fun c5=>?_) (fun c5=>?_)
     ·refine G O<|A O<|Y<|zH<|zS O ?_
      exact congrArg vB (syn_5 c5)
     ·refine G O<|A O<|A O<|rL0 O (fun g12_1=>zG O zBc O) O<|rL1 72 O (fun g12_1=>zU O yX O (J 0 O) O) O<|rL1 73 O (fun g12_1=>qG O ok155 (zVu s.E zA) ⟨R,O,T⟩) O<|rL1 74 O (fun g12_1=>kJ O O) O<|yR O (fun h=>h)<|A O<|Y<|zE O (fun c6=>?_) (fun c6=>?_)
      ·refine G O<|A O<|Y<|zH<|zS O ?_
       exact congrArg vB (syn_6 c6)
      ·refine zK<|G O<|A O<|kN O<|A O<|rL0 O (fun g14_2=>zG O kV O) O<|rL1 80 O (fun g14_2=>zF O kU O (J 0 O) O) O<|rL1 81 O (fun g14_2=>yJ O D O) O<|rL1 82 O (fun g14_2=>yM O O O) O<|r_or O (fun h=>(lzf h))<|A O<|Y<|zH<|zS O ?_
       exact congrArg vB (syn_7 c1 c2 c3 c4 c5 c6)
theorem ck_statement (b:Nat) (svL svS svP:Value) (n:Ns) (U S:List ByteArray) (W:List Int) (s:St) (hn:n.Ok) (hS:S.length<=1000000) (hU:U.length<=1000000) (hs:s.wt<=900000000):
    Con cfg 104 [vP b,vSt s] (ckN b svL svS svP n U S W) fun r μ'=>r=vI (stE n.Bufs U S s)/\μ'=ckN b svL svS svP n U S W:=by
 refine zR Tryz.func104 O Tryz.ntmps104 Tryz.results104 O ?_
 intro z hz
 obtain ⟨hE,hI,hIw,hB,hBw⟩:=St.parts hs
 refine G O<|zV O O (qJ O O) ?_
 rintro _ _ ⟨b1,rfl,rfl⟩
 refine A O<|Y<|zJ<|G O<|zM zDh (J 0 O) O<|qD O ok133 (zVt s hs) ⟨R,O,T⟩<|kN O<|Y<|zE O (fun c1=>?_) (fun c1=>?_)
 ·try simp only [sx] at c1
  refine G O<|A O<|Y<|zY _ (Weak.mem [false,true,true,true,true] O)<|zH<|zS O ?_
  exact ⟨by rw [stE_5 c1],O⟩
 ·try simp only [sx] at c1
  refine zK<|zJ<|G O<|zD O zAm<|zI one3 (J 0 O) O<|Y<|zQ<|G O<|yE O<|A O<|Y<|zE O (fun c2=>?_) (fun c2=>?_)
  ·try simp only [sx] at c2
   refine G O<|A O<|zM zDh (J 0 O) O<|zW O (kG [1,1,1,1] O ok134 (ck_loop b svL svS svP n U S W s hn hU) ⟨R,O,R,O,T⟩ O)<|A O<|Y<|zY _ (Weak.mem [false,true,true,true,true] O)<|zH<|zS O ?_
   exact ⟨by rw [stE_l c1 c2],O⟩
  ·try simp only [sx] at c2
   refine G O<|yE O<|A O<|Y<|zE O (fun c3=>?_) (fun c3=>?_)
   ·try simp only [sx] at c3
    refine zJ<|G O<|A O<|zD O zBc<|zM yX (J 0 O) O<|zW O (kG [1,1,1,1] O ok135 (zIv b svL svS svP n U S W s.E hn hS zA) ⟨R,O,R,O,T⟩ O)<|qO O<|yH O<|qR O<|zV O O (qV O zr48) ?_
    rintro _ _ ⟨b2,rfl,rfl⟩
    refine rStR 0 sz48 O<|A O<|Y<|G O<|A O<|yK O<|Y<|zE O (fun c4=>?_) (fun c4=>?_)
    ·try simp only [sx] at c4
     refine G O<|A O<|A O<|Y<|zY _ (Weak.mem [false,false,true,true,true,true] O)<|zH<|zS O ?_
     exact ⟨by rw [stE_i c1 c3,ifE_x c4],O⟩
    ·try simp only [sx] at c4
     refine zK<|zJ<|G O<|zD O zBc<|zM yX (J 1 O) O<|qD O ok136 (wG s.E) ⟨R,O,T⟩<|kN O<|Y<|zE O (fun c5=>?_) (fun c5=>?_)
     ·try simp only [sx] at c5
      refine G O<|A O<|Y<|zY _ (Weak.mem [false,false,true,true,true,true] O)<|zH<|zS O ?_
      exact ⟨by rw [stE_i c1 c3,ifE_10 c4 c5],O⟩
     ·try simp only [sx] at c5
      refine zK<|G O<|A O<|Y<|zY _ (Weak.mem [false,false,true,true,true,true] O)<|zH<|zS O ?_
      exact ⟨by rw [stE_i c1 c3,ifE_0 c4 c5],O⟩
   ·try simp only [sx] at c3
    refine zK<|G O<|A O<|zM zDh (J 0 O) O<|zW O (kG [1,1,1,1] O ok137 (ck_store b svL svS svP n U S W s hn hS hs) ⟨R,O,R,O,T⟩ O)<|A O<|Y<|zY _ (Weak.mem [false,true,true,true,true] O)<|zH<|zS O ?_
    exact ⟨by rw [stE_s c1 c2 c3],O⟩
set_option maxHeartbeats 2000000 in
theorem zGq (b:Nat) (svL svS svP:Value) (n:Ns) (U S:List ByteArray) (W:List Int) (l:List St) (hn:n.Ok) (hU:U.length+bY l<=1000000) (hS:S.length+bY l<=1000000) (hW:W.length+bY l<=1000000) (hl:bC l<=536870912) (ih:∀s,s∈l->∀(svL svS svP:Value) (U S:List ByteArray) (W:List Int),U.length+bY s.Body<=1000000->S.length+bY s.Body<=1000000->W.length+bY s.Body<=1000000->Con cfg 72 [vP b,bU s.Body] (ckN b svL svS svP n U S W) fun r μ'=>∃svL' svS' svP' U' S' W',r=vI (bP n.Bufs U S W 0 s.Body).E/\((bP n.Bufs U S W 0 s.Body).E=0->U'=(bP n.Bufs U S W 0 s.Body).U/\S'=S/\W'=W)/\(¬(bP n.Bufs U S W 0 s.Body).E=0->W'=(bP n.Bufs U S W 0 s.Body).W)/\μ'=ckN b svL' svS' svP' n U' S' W'):
    Con cfg 72 [vP b,bU l] (ckN b svL svS svP n U S W) fun r μ'=>∃svL' svS' svP' U' S' W',r=vI (bP n.Bufs U S W 0 l).E/\((bP n.Bufs U S W 0 l).E=0->U'=(bP n.Bufs U S W 0 l).U/\S'=S/\W'=W)/\(¬(bP n.Bufs U S W 0 l).E=0->W'=(bP n.Bufs U S W 0 l).W)/\μ'=ckN b svL' svS' svP' n U' S' W':=by
 refine zR Tryz.func72 O Tryz.ntmps72 Tryz.results72 O ?_
 intro z hz
 have hll:=kX l
 have hlN:=zEh l
 refine G O<|A O<|Y<|zJ<|G O<|A O<|qB O D<|A O<|Y<|zQ<|zY ⟨[(12,.c _),(0,.c _),(1,.c _),(11,.c _)],[_,_,_,_]⟩ (Weak.mk [true,true,true,true] ⟨R,R,R,R,T⟩ O)<|qK 1 4 O O (Nat×Value×Value×Value×List ByteArray) (fun ⟨k,vL,vS,vP_,u⟩=>[(12,vI k)]) (fun ⟨k,vL,vS,vP_,u⟩=>[E.row b 137 [.sl 8 (n.Bufs.map Bf.cells),.sl 20 (n.Body.map St.cells),.lit vL,.lit vS,.lit vP_],E.vec vL 9 1 (u.map fun s=>[cS s]),E.vec vS 9 1 (S.map fun s=>[cS s]),E.vec vP_ 3 1 (W.map fun i=>[cI i])]) (fun ⟨k,vL,vS,vP_,u⟩=>k<=l.length/\(u.length+bY (l.drop k)<=1000000)/\((bP n.Bufs U S W 0 l)=bP n.Bufs u S W k (l.drop k))) (fun ⟨k,vL,vS,vP_,u⟩=>l.length-k) ⟨⟨0,svL,svS,svP,U⟩,⟨zA,by simpa using hU,O⟩,Weak.mk [true,true,true,true] ⟨R,R,R,R,T⟩ O⟩ ?_
 rintro ⟨k,vL,vS,vP_,u⟩ ⟨hk,hub,hp⟩
 show AWP _ _ _ _ _ ⟨[(12,vI k)]++_,[E.row b 137 [.sl 8 (n.Bufs.map Bf.cells),.sl 20 (n.Body.map St.cells),.lit vL,.lit vS,.lit vP_],E.vec vL 9 1 (u.map fun s=>[cS s]),E.vec vS 9 1 (S.map fun s=>[cS s]),E.vec vP_ 3 1 (W.map fun i=>[cI i])]++_⟩
 refine G O<|yG O<|Y<|zJ<|zE O (fun c1=>?_) (fun c1=>?_)
 ·try simp only [sx] at c1
  obtain ⟨s,hs⟩:=qY l k zA
  have hsw:=yU (qA hs)
  have hsb:=St.body_wt s
  have hsn:=stsN_drop hs
  have hse:=zIy s
  have hsm:=zNj (qA hs)
  have hcl:=chkS_len n.Bufs s u S (W++[(k:Int)])
  refine zK<|zJ<|zQ<|G O<|A O<|A O<|Y<|G O<|A O<|A O<|qC O D zA (wJ uB)<|zM zDh zZ O<|zV O O (qH [none,none,none,none,none,some 4,none,none,none,none,none,none,none,none,none,none,some 2,some 4,some 13,some 20] O zr56 O) ?_
  rintro _ _ ⟨b1,rfl,rfl⟩
  refine rStR 0 sz56 O<|Y<|G O<|A O<|A O<|zW O (yB O O)<|zD O zIq<|zI zBs (J 1 O) O<|A O<|zW O (qZ O el38 zr3 O O O O)<|zV O O (yN 4 O el38 O O O uA uA) ?_
  rintro _ _ ⟨sv2,rfl,rfl⟩
  refine zW O (yB O O)<|zD O zIq<|rStR 1 sz38 O<|Y<|zJ<|zJ<|zY _ (Weak.vecEq 4 O (rows':=(W++[(k:Int)]).map fun i=>[cI i]) uG)<|zT O<|A O<|zM zDh (J 0 O) O<|zW O (kG [1,1,1,1] O ok104 (ck_statement b vL vS _ n u S (W++[(k:Int)]) s hn zA zA zA) ⟨R,O,R,O,T⟩ O)<|A O<|Y<|G O<|A O<|yK O<|Y<|zE O (fun c2=>?_) (fun c2=>?_)
  ·try simp only [sx] at c2
   have hx0:=chkS_no (here:=W++[(k:Int)]) (B:=n.Bufs) (U:=u) (sc:=S) (s:=s) c2
   refine G O<|A O<|A O<|Y<|zY _ (Weak.mem [false,true,true,true,true] O)<|zH<|zS O ?_
   refine ⟨_,_,_,_,_,_,?_,fun h0=>?_,fun _=>?_,O⟩
   · rw [zFe hs hp (by rw [hx0];exact c2),hx0]
   · rw [zFe hs hp (by rw [hx0];exact c2),hx0] at h0;exact absurd h0 c2
   · rw [zFe hs hp (by rw [hx0];exact c2),hx0]
  ·try simp only [sx] at c2
   have hin:=zXi (here:=W++[(k:Int)]) (B:=n.Bufs) (U:=u) (sc:=S) (s:=s) c2
   refine zK<|G O<|A O<|zW O (yB O O)<|zD O zKt<|zI one85 (J 1 O) O<|zW O (kL 3 O el85 O O)<|A O<|Y<|zJ<|G O<|zD O zAm<|zI one3 (J 0 O) O<|yE O<|Y<|zE O (fun c3=>?_) (fun c3=>?_)
   ·try simp only [sx] at c3
    rw [zOb c3,zOb c3] at hin
    refine zJ<|kI 9 0 [⟨0,.q []⟩,⟨1,.q []⟩,⟨2,.q []⟩,⟨3,.q []⟩,⟨4,.q [1]⟩,⟨5,.q []⟩,⟨6,.q [0]⟩,⟨7,.q []⟩,⟨8,.e 2 []⟩] mixed uC uC O O O<|zX O<|zX O<|zX O<|zX O<|zX O<|zX O<|zX O<|zX O<|zX O<|zBb<|qF O zB O O (zO O O)<|qF O zB O O (zO O O)<|qF O zB O O (yB O O)<|qF O zB O O (zG O fd137_1 O)<|qF O zB O O (zF O one85 O (J 0 O) O)<|qF O zB O O (zG O zAh O)<|qF O zB O O (zF O one9 O (J 0 O) O)<|qF O zB O O (qZ O el85 zr9 O O O O)<|zJf O O zB O O (yN 0 O el85 O O O uA uA) ?_
    rintro _ _ ⟨sv3,rfl,rfl⟩
    refine ⟨_,O,?_⟩
    refine zAx O<|zW O (yB O O)<|zD O fd137_1<|rStR 1 sz85 O<|Y<|zY _ (Weak.vecEq 2 O (rows':=(u++[s.Name]).map fun s=>[cS s]) uG)<|kI 9 0 [⟨0,.q []⟩,⟨1,.q []⟩,⟨2,.q []⟩,⟨3,.q []⟩,⟨4,.q [1]⟩,⟨5,.q []⟩,⟨6,.q [0]⟩,⟨7,.q []⟩,⟨8,.e 3 []⟩] mixed uC uC O O O<|zX O<|zX O<|zX O<|zX O<|zX O<|zX O<|zX O<|zX O<|zX O<|zBb<|qF O zB O O (zO O O)<|qF O zB O O (zO O O)<|qF O zB O O (yB O O)<|qF O zB O O (zG O zKt O)<|qF O zB O O (zF O one85 O (J 0 O) O)<|qF O zB O O (zG O zAh O)<|qF O zB O O (zF O one9 O (J 0 O) O)<|qF O zB O O (qZ O el85 zr9 O O O O)<|zJf O O zB O O (yN 0 O el85 O O O uA uA) ?_
    rintro _ _ ⟨sv4,rfl,rfl⟩
    refine ⟨_,O,?_⟩
    refine zAx O<|zW O (yB O O)<|zD O zKt<|rStR 1 sz85 O<|Y<|zJ<|zJ<|zY _ (Weak.vecEq 3 O (rows':=(S++[s.Name]).map fun s=>[cS s]) uG)<|zY ⟨_,E.row _ _ _::ckN b _ _ _ n (u++[s.Name]) (S++[s.Name]) (W++[(k:Int)])⟩ (Weak.mem [true,true,true,true,true] O)<|zT O<|A O<|zD O kV<|zI kU (J 0 O) O<|zV O O (zEn [1,1,1,1] O ok72 (ih s (qA hs) _ _ _ (u++[s.Name]) (S++[s.Name]) (W++[(k:Int)]) (by first|omega|(simp;omega)) (by first|omega|(simp;omega)) uE) ⟨R,O,R,O,T⟩ O) ?_
    rintro _ _ ⟨_,⟨svL1,svS1,svP1,U1,S1,W1,rfl,hok,hno,rfl⟩,rfl⟩
    refine A O<|Y<|G O<|A O<|yK O<|Y<|zE O (fun c4=>?_) (fun c4=>?_)
    ·exact l7
    ·try simp only [sx] at c4
     rw [←hin] at c4 hok
     obtain ⟨hU1,hS1,hW1⟩:=hok c4
     have hS2:=hS1.symm
     subst hU1 hS2 hW1
     refine zK<|G O<|A O<|A O<|zW O (yB O O)<|zD O zKt<|zI one85 (J 1 O) O<|A O<|zV O O (zIi (k:=S.length) 3 O el85 O O O uD uD) ?_
     rintro _ _ ⟨sv5,rfl,rfl⟩
     refine zW O (yB O O)<|zD O zKt<|rStR 1 sz85 O<|Y<|zY _ (Weak.vecEq 3 O (rows':=S.map fun s=>[cS s]) uG)<|kI 12 0 [⟨0,.q []⟩,⟨1,.q []⟩,⟨2,.q []⟩,⟨3,.q []⟩,⟨4,.q [1]⟩,⟨5,.q []⟩,⟨6,.q []⟩,⟨7,.q []⟩,⟨8,.q [1]⟩,⟨9,.q [4]⟩,⟨10,.q []⟩,⟨11,.e 4 []⟩] mixed uC uC O O O<|zX O<|zX O<|zX O<|zX O<|zX O<|zX O<|zX O<|zX O<|zX O<|zX O<|zX O<|zX O<|zBb<|qF O zB O O (zO O O)<|qF O zB O O (zO O O)<|qF O zB O O (yB O O)<|qF O zB O O (zG O zIq O)<|qF O zB O O (zF O zBs O (J 0 O) O)<|qF O zB O O (zO O O)<|qF O zB O O (yB O O)<|qF O zB O O (zG O zIq O)<|qF O zB O O (zF O zBs O (J 0 O) O)<|qF O zB O O (kL 0 O el38 O O)<|qF O zB O O (yA O O O (by simp only [List.length_map,List.length_append,List.length_cons,List.length_nil];exact ⟨zA,zA⟩))<|zJf O O zB O O (zIi (k:=W.length) 0 O el38 O O O uA uD) ?_
     rintro _ _ ⟨sv6,rfl,rfl⟩
     exact o6
   ·try simp only [sx] at c3
    rw [zSy c3,zSy c3] at hin
    refine zK<|zJ<|zJ<|zY ⟨_,E.row _ _ _::ckN b _ _ _ n u S (W++[(k:Int)])⟩ (Weak.mem [true,true,true,true,true] O)<|zT O<|A O<|zD O kV<|zI kU (J 0 O) O<|zV O O (zEn [1,1,1,1] O ok72 (ih s (qA hs) _ _ _ u S (W++[(k:Int)]) (by first|omega|(simp;omega)) (by first|omega|(simp;omega)) uE) ⟨R,O,R,O,T⟩ O) ?_
    rintro _ _ ⟨_,⟨svL1,svS1,svP1,U1,S1,W1,rfl,hok,hno,rfl⟩,rfl⟩
    refine A O<|Y<|G O<|A O<|yK O<|Y<|zE O (fun c4=>?_) (fun c4=>?_)
    ·exact l7
    ·try simp only [sx] at c4
     rw [←hin] at c4 hok
     obtain ⟨hU1,hS1,hW1⟩:=hok c4
     have hS2:=hS1.symm
     subst hU1 hS2 hW1
     refine zK<|G O<|A O<|A O<|zW O (yB O O)<|zD O zKt<|zI one85 (J 1 O) O<|A O<|zV O O (zIi (k:=S.length) 3 O el85 O O O uD uD) ?_
     rintro _ _ ⟨sv7,rfl,rfl⟩
     refine zW O (yB O O)<|zD O zKt<|rStR 1 sz85 O<|Y<|zY _ (Weak.vecEq 3 O (rows':=S.map fun s=>[cS s]) uG)<|kI 12 0 [⟨0,.q []⟩,⟨1,.q []⟩,⟨2,.q []⟩,⟨3,.q []⟩,⟨4,.q [1]⟩,⟨5,.q []⟩,⟨6,.q []⟩,⟨7,.q []⟩,⟨8,.q [1]⟩,⟨9,.q [4]⟩,⟨10,.q []⟩,⟨11,.e 4 []⟩] mixed uC uC O O O<|zX O<|zX O<|zX O<|zX O<|zX O<|zX O<|zX O<|zX O<|zX O<|zX O<|zX O<|zX O<|zBb<|qF O zB O O (zO O O)<|qF O zB O O (zO O O)<|qF O zB O O (yB O O)<|qF O zB O O (zG O zIq O)<|qF O zB O O (zF O zBs O (J 0 O) O)<|qF O zB O O (zO O O)<|qF O zB O O (yB O O)<|qF O zB O O (zG O zIq O)<|qF O zB O O (zF O zBs O (J 0 O) O)<|qF O zB O O (kL 0 O el38 O O)<|qF O zB O O (yA O O O (by simp only [List.length_map,List.length_append,List.length_cons,List.length_nil];exact ⟨zA,zA⟩))<|zJf O O zB O O (zIi (k:=W.length) 0 O el38 O O O uA uD) ?_
     rintro _ _ ⟨sv8,rfl,rfl⟩
     exact o6
 ·try simp only [sx] at c1
  refine qN<|G O<|A O<|Y<|zH<|zS O ?_
  refine ⟨_,_,_,_,_,_,?_,fun _=>⟨?_,O,O⟩,fun h0=>?_,O⟩
  · rw [zTq hp zA]
  · rw [zTq hp zA]
  · rw [zTq hp zA] at h0;exact absurd rfl h0
theorem zPf (b:Nat) (n:Ns) (hn:n.Ok) (s:St) (hl:bC s.Body<=536870912):∀(svL svS svP:Value) (U S:List ByteArray) (W:List Int),U.length+bY s.Body<=1000000->S.length+bY s.Body<=1000000->W.length+bY s.Body<=1000000->Con cfg 72 [vP b,bU s.Body] (ckN b svL svS svP n U S W) fun r μ'=>∃svL' svS' svP' U' S' W',r=vI (bP n.Bufs U S W 0 s.Body).E/\((bP n.Bufs U S W 0 s.Body).E=0->U'=(bP n.Bufs U S W 0 s.Body).U/\S'=S/\W'=W)/\(¬(bP n.Bufs U S W 0 s.Body).E=0->W'=(bP n.Bufs U S W 0 s.Body).W)/\μ'=ckN b svL' svS' svP' n U' S' W':=by
  induction s using St.ind with
  |_ s ih=>
    intro svL svS svP U S W hU hS hW
    refine zGq b svL svS svP n U S W s.Body hn hU hS hW hl fun a ha=>ih a ha ?_
    have:=yU ha;have:=St.body_wt a;omega
theorem ck_statements (b:Nat) (svL svS svP:Value) (n:Ns) (U S:List ByteArray) (W:List Int) (l:List St) (hn:n.Ok) (hU:U.length+bY l<=1000000) (hS:S.length+bY l<=1000000) (hW:W.length+bY l<=1000000) (hl:bC l<=536870912):Con cfg 72 [vP b,bU l] (ckN b svL svS svP n U S W) fun r μ'=>∃svL' svS' svP' U' S' W',r=vI (bP n.Bufs U S W 0 l).E/\((bP n.Bufs U S W 0 l).E=0->U'=(bP n.Bufs U S W 0 l).U/\S'=S/\W'=W)/\(¬(bP n.Bufs U S W 0 l).E=0->W'=(bP n.Bufs U S W 0 l).W)/\μ'=ckN b svL' svS' svP' n U' S' W':=
  zGq b svL svS svP n U S W l hn hU hS hW hl fun s hs=>zPf b n hn s (by have:=yU hs;have:=St.body_wt s;omega)
theorem zDy (n:Ns) (hn:n.Ok):
    Pur cfg 33 [vNs n] (.tup [vIs (bJ n).1,vI (bJ n).2]):=by
 refine zR Tryz.func33 O Tryz.ntmps33 Tryz.results33 O ?_
 intro z hz
 have hnb:=hn.body
 refine G O<|zV O O (qJ O O) ?_
 rintro _ _ ⟨b1,rfl,rfl⟩
 refine yI 1 O<|A O<|Y<|zJ<|G O<|zD O zAi<|zI kU (J 0 O) O<|qD O ok69 (zVs 40 n.Body 40 zA zA O) ⟨R,O,R,O,T⟩<|kN O<|Y<|zE O (fun c1=>?_) (fun c1=>?_)
 ·try simp only [sx] at c1
  refine G O<|yI 1 O<|A O<|Y<|zH<|fin2 (rs_c O) (rs_c O) ?_
  rw [zUd c1];rfl
 ·try simp only [sx] at c1
  refine zK<|zJ<|G O<|zD O zAi<|zI kU (J 0 O) O<|qD O ok70 (zOf n.Body 2000 2000 zA zA O) ⟨R,O,R,O,T⟩<|zW O (yC O O O)<|A O<|rL0 O (fun g3_4=>zG O zAj O) O<|rL1 16 O (fun g3_4=>zF O zDk O (J 0 O) O) O<|rL1 17 O (fun g3_4=>yJ O el22 O) O<|rL1 18 O (fun g3_4=>yC O O O) O<|r_or O (fun h=>(lzf h))<|Y<|zE O (fun c2=>?_) (fun c2=>?_)
  ·try simp only [sx] at c2
   refine G O<|yI 1 O<|A O<|Y<|zH<|fin2 (rs_c O) (rs_c O) ?_
   rw [validN_2 c1 zA];rfl
  ·try simp only [sx] at c2
   have hnum:=numB_ok (l:=n.Body) (m:=2000) zA
   refine zK<|zJ<|G O<|zD O zAj<|zI zDk (J 0 O) O<|qD O ok71 (zKk n.Bufs hn.bufs hn.dims) ⟨R,O,T⟩<|A O<|Y<|G O<|A O<|yK O<|Y<|zE O (fun c3=>?_) (fun c3=>?_)
   ·try simp only [sx] at c3
    refine G O<|A O<|yI 1 O<|A O<|Y<|zH<|fin2 (rs_c O) (rs_c O) ?_
    rw [validN_b c1 zA c3];rfl
   ·try simp only [sx] at c3
    refine zK<|G O<|zM kE (J 0 O) O<|qT O zr137 pl137<|zV O O (qJ O O) ?_
    rintro _ _ ⟨b2,rfl,rfl⟩
    refine yS _ (wC 9 1)<|yS _ (wC 9 1)<|yS _ (wC 3 1)<|A O<|Y<|zJ<|G O<|A O<|zD O zAi<|zI kU (J 4 O) O<|zV O O (zEn [3,2,1,0] O ok72 (ck_statements b2 _ _ _ n [] [] [] n.Body hn uE uE uE hnb) ⟨R,O,R,O,T⟩ O) ?_
    rintro _ _ ⟨_,⟨svL1,svS1,svP1,U1,S1,W1,rfl,hok,hno,rfl⟩,rfl⟩
    refine A O<|Y<|G O<|A O<|yK O<|Y<|zE O (fun c4=>?_) (fun c4=>?_)
    ·try simp only [sx] at c4
     have hW1:=hno c4
     subst hW1
     refine zY _ (yT 0 O (regs':=[]) (μ':=[_,_,_,_]) T ⟨EFle.refl _,EFle.refl _,EFle.row (ds:=[_,_,_,_,_]) ⟨.inl O,.inl O,.inl O,.inl O,.inr ⟨O,O⟩,T⟩,EFle.refl _,T⟩)<|G O<|A O<|zW O (yB O O)<|zD O zIq<|zI zBs (J 2 O) O<|A O<|A O<|A O<|Y<|zH<|fin2 (rs_c O) (rs_c O) ?_
     rw [zNf c1 zA c3]
    ·try simp only [sx] at c4
     refine zK<|G O<|yI 1 O<|A O<|Y<|zH<|fin2 (rs_c O) (rs_c O) ?_
     rw [zNf c1 zA c3,chkL_ok c4,c4];rfl
end Go.W
end
section
set_option maxRecDepth 10000
namespace Go.W
open Go Go.Eng Go.Proofs Go.L41 Go.Br
attribute [local irreducible] AWP RWP TD fH
abbrev jV (l:List Bd):V:=.c (.sl 2 (l.map Bd.cells))
abbrev ckC (x:Ck):V:=.agg [.sl 1 (x.U.map fun s=>[cS s]),.sl 1 (x.W.map fun i=>[cI i]),cI x.E]
theorem bd_get {l:List Bd} {k:Nat} {x:Bd} (h:l[k]? =some x):(l.map Bd.cells)[k]? =some [cS x.Name,cI x.Val]:=by rw [getm h];rfl
theorem agg87:mO Tryz.prog 87=some 3:=by kernel_rfl
theorem zWq:dX Tryz.prog 144=some (147,2,24):=by kernel_rfl
theorem fd87_0:bH Tryz.prog 87 0=some (0,85):=by kernel_rfl
theorem fd87_1:bH Tryz.prog 87 1=some (1,38):=by kernel_rfl
theorem fd87_2:bH Tryz.prog 87 2=some (2,29):=by kernel_rfl
theorem fd147_0:bH Tryz.prog 147 0=some (0,9):=by kernel_rfl
theorem ok38:bA Tryz.prog 38=true:=by kernel_rfl
theorem ok39:bA Tryz.prog 39=true:=by kernel_rfl
theorem ok79:bA Tryz.prog 79=true:=by kernel_rfl
theorem ok111:bA Tryz.prog 111=true:=by kernel_rfl
theorem ok112:bA Tryz.prog 112=true:=by kernel_rfl
theorem ok113:bA Tryz.prog 113=true:=by kernel_rfl
theorem ok115:bA Tryz.prog 115=true:=by kernel_rfl
theorem ok139:bA Tryz.prog 139=true:=by kernel_rfl
theorem ok141:bA Tryz.prog 141=true:=by kernel_rfl
theorem ok142:bA Tryz.prog 142=true:=by kernel_rfl
theorem ok162:bA Tryz.prog 162=true:=by kernel_rfl
theorem ok163:bA Tryz.prog 163=true:=by kernel_rfl
theorem pl87:fP Tryz.prog 87=some [(0,1),(1,1),(2,1)]:=by kernel_rfl
theorem pl147:fP Tryz.prog 147=some [(0,1),(1,1)]:=by kernel_rfl
theorem sz87:(Tryz.prog.info? 87).map (·.size)=some 3:=by kernel_rfl
theorem zr87:fF Tryz.prog 87=some [(Value.slice none 0 0),(Value.slice none 0 0),(Value.int IntKind.i64 0)]:=by kernel_rfl
theorem zr147:fF Tryz.prog 147=some [(Value.string (ByteArray.mk #[])),(Value.int IntKind.i64 0)]:=by kernel_rfl
theorem zUy (l:List Lf) (bd:List Bd) (hl:l.length<=4294967296) (hx:∀x,x∈l->x.L.length<=4294967296) (hb:bd.length<=4294967296):
    Pur cfg 162 [rV l,jV bd] (vB (l.all (gN (bd.map Bd.Name)))):=by
 refine zR Tryz.func162 O Tryz.ntmps162 Tryz.results162 O ?_
 intro z hz
 have hl0:=hx
 clear hx
 refine G O<|A O<|Y<|zJ<|G O<|A O<|Y<|zQ<|zY ⟨[(5,.c _),(0,.c _),(1,.c _)],[]⟩ (Weak.mk [] ⟨R,R,R,T⟩ O)<|qK 1 0 O O (Nat) (fun k=>[(5,vI k)]) (fun k=>[]) (fun k=>k<=l.length/\((l.take k).all (gN (bd.map Bd.Name))=true)) (fun k=>l.length-k) ⟨0,⟨zA,O⟩,Weak.mk [] ⟨R,R,R,T⟩ O⟩ ?_
 rintro k ⟨hk,hp⟩
 refine zJ<|G O<|A O<|A O<|qB O el90<|yG O<|Y<|zE O (fun c1=>?_) (fun c1=>?_)
 ·try simp only [sx] at c1
  obtain ⟨x,hx⟩:=qY l k zA
  have hxl:=hl0 x (qA hx)
  refine zK<|zJ<|zQ<|G O<|A O<|Y<|zQ<|zY ⟨[(6,.c _),(0,.c _),(1,.c _),(5,.c _)],[]⟩ (Weak.mk [] ⟨R,R,R,R,T⟩ O)<|qK 1 0 O O (Nat) (fun j=>[(6,vI j)]) (fun j=>[]) (fun j=>j<=x.L.length/\(x.L.take j).all (fun m=>dD (bd.map Bd.Name) m.Name)=true) (fun j=>x.L.length-j) ⟨0,⟨zA,O⟩,Weak.mk [] ⟨R,R,R,R,T⟩ O⟩ ?_
  rintro j ⟨hj,hq⟩
  refine zJ<|G O<|A O<|A O<|A O<|qC O el90 zA (getm hx)<|qQ O wK<|zI zBl zZ O<|qB O N<|yG O<|Y<|zE O (fun c2=>?_) (fun c2=>?_)
  ·try simp only [sx] at c2
   obtain ⟨m,hm⟩:=qY x.L j zA
   refine zK<|zJ<|zQ<|G O<|A O<|Y<|zJ<|G O<|A O<|Y<|zQ<|zY ⟨[(8,.c _),(7,.c _),(0,.c _),(1,.c _),(5,.c _),(6,.c _)],[]⟩ (Weak.mk [] ⟨R,R,R,R,R,R,T⟩ O)<|qK 2 0 O O (Nat) (fun i=>[(8,vI i),(7,vB ((bd.take i).any fun d=>decide (d.Name=m.Name)))]) (fun i=>[]) (fun i=>i<=bd.length) (fun i=>bd.length-i) ⟨0,zA,Weak.mk [] ⟨R,VLe.of_eq (O),R,R,R,R,T⟩ O⟩ ?_
   rintro i hi
   refine zJ<|G O<|A O<|A O<|qB O zWq<|yG O<|Y<|zE O (fun c3=>?_) (fun c3=>?_)
   ·try simp only [sx] at c3
    obtain ⟨d,hd⟩:=qY bd i zA
    refine zK<|zJ<|zQ<|qU 19 mixed uC O O<|zN O O (zO O O)<|zN O O (zO O O)<|qL [] O O O O B T (fun g11_1=>zO O O) O<|qL [] O O O O B T (fun g11_1=>zO O O) O<|qL [(33,_),(34,_)] O O O O B ⟨O,O,O,O,T⟩ (fun g11_1=>qE O zWq O O zA (bd_get hd)) O<|qL [(35,_)] O O O O B ⟨O,O,T⟩ (fun g11_1=>qM O fd147_0 O) O<|qL [(36,_)] O O O O B ⟨O,O,T⟩ (fun g11_1=>zF O one9 O zZ O) O<|qL [] O O O O B T (fun g11_1=>zO O O) O<|qL [] O O O O B T (fun g11_1=>zO O O) O<|qL [(38,_),(39,_)] O O O O B ⟨O,O,O,O,T⟩ (fun g11_1=>qE O el90 O O zA (getm hx)) O<|qL [(40,_)] O O O O B ⟨O,O,T⟩ (fun g11_1=>qM O wK O) O<|qL [(41,_)] O O O O B ⟨O,O,T⟩ (fun g11_1=>zF O zBl O zZ O) O<|qL [] O O O O B T (fun g11_1=>zO O O) O<|qL [(42,_),(43,_)] O O O O B ⟨O,O,O,O,T⟩ (fun g11_1=>qE O N O O zA (getm hm)) O<|qL [(44,_)] O O O O B ⟨O,O,T⟩ (fun g11_1=>qM O zAa O) O<|qL [(45,_)] O O O O B ⟨O,O,T⟩ (fun g11_1=>zF O one9 O zZ O) O<|qL [(37,_),(46,_)] O O O O B ⟨O,O,O,O,T⟩ (fun g11_1=>zLs O O O) O<|zN O O (zAn O O O O (fun h=>(lzf h)))<|zN O O (qX O O)<|yP<|Y<|zT O<|A O<|qI O ⟨zA,zA⟩<|A O<|Y ?_
    refine ⟨i+1,zA,zA,Weak.mk [] ⟨R,VLe.of_eq (congrArg vB (any_step hd)),R,R,R,R,T⟩ O⟩
   ·try simp only [sx] at c3
    rw [yV (l:=bd) (k:=i) zA,any_hasB]
    refine qN<|G O<|A O<|kN O<|Y<|zE O (fun c4=>?_) (fun c4=>?_)
    ·try simp only [sx] at c4
     have hno:=bound_no hx hm c4
     refine G O<|A O<|Y<|zH<|zS O ?_
     rw [hno]
    ·try simp only [sx] at c4
     refine zK<|zT O<|A O<|qI O ⟨zA,zA⟩<|A O<|Y ?_
     refine ⟨j+1,⟨zA,zEz hm hq c4⟩,zA,Weak.mk [] ⟨R,R,R,R,T⟩ O⟩
  ·try simp only [sx] at c2
   rw [yV (l:=x.L) (k:=j) zA] at hq
   refine qN<|zT O<|A O<|qI O ⟨zA,zA⟩<|A O<|Y ?_
   refine ⟨k+1,⟨zA,zEz hx hp (show gN _ x=true from hq)⟩,zA,Weak.mk [] ⟨R,R,R,T⟩ O⟩
 ·try simp only [sx] at c1
  refine qN<|G O<|A O<|Y<|zH<|zS O ?_
  rw [yV zA] at hp;rw [hp]
theorem ref30_lins (l:List Ix) (hl:l.length<=4294967296) (hw:dL l<=4294967296):
    OwnR cfg 163 [gR l] 51 2 ((l.flatMap ixF).map Lf.cells):=by
 refine zR Tryz.func163 O Tryz.ntmps163 Tryz.results163 O ?_
 intro z hz
 refine G O<|A O<|Y<|G O<|A O<|yS _ (wC 51 2)<|Y<|zJ<|G O<|A O<|Y<|zQ<|zY ⟨[(4,.c _),(3,.c _),(0,.c _)],[_]⟩ (Weak.mk [true] ⟨R,R,R,T⟩ O)<|qK 2 1 O O (Nat×Value) (fun ⟨k,sv⟩=>[(4,vI k),(3,.c (.lit sv))]) (fun ⟨k,sv⟩=>[E.vec sv 51 2 (((l.take k).flatMap ixF).map Lf.cells)]) (fun ⟨k,sv⟩=>k<=l.length) (fun ⟨k,sv⟩=>l.length-k) ⟨⟨0,(.slice none 0 0)⟩,zA,Weak.mk [true] ⟨R,R,R,T⟩ O⟩ ?_
 rintro ⟨k,sv⟩ hk
 show AWP _ _ _ _ _ ⟨[(4,vI k),(3,.c (.lit sv))]++_,[E.vec sv 51 2 (((l.take k).flatMap ixF).map Lf.cells)]++_⟩
 refine zJ<|G O<|A O<|A O<|qB O v<|yG O<|Y<|zE O (fun c1=>?_) (fun c1=>?_)
 ·try simp only [sx] at c1
  obtain ⟨x,hx⟩:=qY l k zA
  have hfl:=ixs_len l k
  have hxw:=zBn (qA hx)
  unfold Ix.wt at hxw
  refine zK<|zJ<|zQ<|G O<|A O<|A O<|A O<|qC O v zA (getm uB)<|qQ O zFh<|zM kP zZ O<|zW O (qZ O el90 zr51 O O O O)<|zV O O (yN 0 O el90 O O O uA uA) ?_
  rintro _ _ ⟨sv2,rfl,rfl⟩
  refine A O<|Y<|zT O<|A O<|A O<|A O<|qC O v zA (getm uB)<|qQ O zAu<|zI zEo zZ O<|zV O O (yN 0 O el90 O O O uA uA) ?_
  rintro _ _ ⟨sv3,rfl,rfl⟩
  refine A O<|Y<|zT O<|A O<|qI O ⟨zA,zA⟩<|A O<|Y ?_
  refine ⟨⟨k+1,sv3⟩,zA,(by show l.length-(k+1)<l.length-k;omega),Weak.mk [true] ⟨R,R,R,T⟩ (by exact zFz (by rw [yQ hx,List.flatMap_append,List.map_append];simp [ixF];rfl))⟩
 ·try simp only [sx] at c1
  refine qN<|G O<|A O<|A O<|Y<|zH<|zS O ?_
  exact ⟨_,O,by rw [yV zA];rfl⟩
theorem ref30_node (n:Ns) (bd:List Bd) (e:Ex) (hn:n.Ok) (hb:bd.length<=1000000) (he:e.wt<=1073741824):
    Pur cfg 141 [vNs n,jV bd,vE e] (vI (jG n.Bufs (bd.map Bd.Name) e)):=by
 refine zR Tryz.func141 O Tryz.ntmps141 Tryz.results141 O ?_
 intro z hz
 obtain ⟨hL,hI,hA⟩:=e.parts he
 have hwt:=Ex.wt_eq e
 refine G O<|zV O O (qJ O O) ?_
 rintro _ _ ⟨b1,rfl,rfl⟩
 refine zV O O (qJ O O) ?_
 rintro _ _ ⟨b2,rfl,rfl⟩
 refine A O<|Y<|zJ<|G O<|zD O zDv<|zM kP (J 0 O) O<|zW O (qZ O el90 zr51 O O O O)<|A O<|qD O ok162 (zUy [e.Lin] bd uD uE zA) ⟨R,O,R,O,T⟩<|kN O<|A O<|rL0 O (fun g1_6=>zG O wI O) O<|rL1 19 O (fun g1_6=>zF O wQ O (J 0 O) O) O<|rL1 20 O (fun g1_6=>qG O ok163 (OwnR.pur (ref30_lins e.Idx zA zA)) ⟨R,O,T⟩) O<|rL0 O (fun g1_6=>zO O O) O<|rLz [(21,_),(22,_)] O B ⟨O,O,O,O,T⟩ (fun g1_6=>qG O ok162 (zUy (e.Idx.flatMap ixF) bd (by have:=ixs_len e.Idx e.Idx.length;rw [List.take_length] at this;omega) (fun x hx=>by have:=forms_wt he (show x∈dP e by unfold dP;exact List.mem_cons_of_mem _ hx);omega) zA) ⟨R,O,R,O,T⟩) O<|rL1 23 O (fun g1_6=>kJ O O) O<|r_or O (fun h=>(lzf h))<|Y<|zE O (fun c1=>?_) (fun c1=>?_)
 ·have h9:=node_sc_f c1
  refine G O<|A O<|Y<|zH<|zS O ?_
  rw [nodeN_9 h9]
 ·have h9:=node_sc_t c1
  refine zK<|zJ<|G O<|zD O kO<|zI one3 (J 0 O) O<|yK O<|Y<|zE O (fun c2=>?_) (fun c2=>?_)
  ·try simp only [sx] at c2
   refine G O<|A O<|Y<|zH<|zS O ?_
   rw [nodeN_o h9 c2]
  ·try simp only [sx] at c2
   refine zK<|G O<|zM kE (J 1 O) O<|zD O zGd<|zI one9 (J 0 O) O<|qD O ok112 (zDc n e.Name hn) ⟨R,O,R,O,T⟩<|qO O<|yH O<|qR O<|zV O O (qH [none,none,none,none,none,none,some 1,none] O zr94 O) ?_
   rintro _ _ ⟨b3,rfl,rfl⟩
   refine rStR 0 sz94 O<|A O<|Y<|zJ<|G O<|A O<|kN O<|Y<|zE O (fun c3=>?_) (fun c3=>?_)
   ·try simp only [sx] at c3
    refine G O<|A O<|Y<|zH<|zS O ?_
    rw [nodeN_n h9 zA c3]
   ·try simp only [sx] at c3
    refine zK<|zJ<|G O<|zD O zGb<|zI zBs (J 0 O) O<|qB O el38<|zD O wI<|zI wQ (J 1 O) O<|qB O v<|yK O<|Y<|zE O (fun c4=>?_) (fun c4=>?_)
    ·try simp only [sx] at c4
     refine G O<|A O<|Y<|zH<|zS O ?_
     rw [nodeN_r h9 zA c3 zA]
    ·try simp only [sx] at c4
     refine zK<|zJ<|G O<|A O<|Y<|zQ<|zY ⟨[(9,.c _),(3,.c _),(5,.c _)],[_,_]⟩ (Weak.mk [false,true,true] ⟨R,R,R,T⟩ O)<|qK 1 0 O O (Nat) (fun j=>[(9,vI j)]) (fun j=>[]) (fun j=>j<=e.Idx.length/\(nV n.Bufs e.Idx=nV n.Bufs (e.Idx.drop j))) (fun j=>e.Idx.length-j) ⟨0,⟨zA,O⟩,Weak.mk [true,true] ⟨R,R,R,T⟩ O⟩ ?_
     rintro j ⟨hk,hq⟩
     refine zJ<|G O<|A O<|zD O wI<|zI wQ (J 0 O) O<|qB O v<|yG O<|Y<|zE O (fun c5=>?_) (fun c5=>?_)
     ·try simp only [sx] at c5
      obtain ⟨y,hy⟩:=qY e.Idx j zA
      refine zK<|zJ<|zQ<|zJ<|G O<|zD O wI<|zI wQ (J 0 O) O<|A O<|qC O v zA (getm uB)<|qQ O zEs<|zI one9 zZ O<|wL O<|Y<|zE O (fun c6=>?_) (fun c6=>?_)
      ·try simp only [sx] at c6
       refine qN<|zT O<|A O<|qI O ⟨zA,zA⟩<|A O<|Y ?_
       refine ⟨j+1,⟨zA,hq.trans (zLp hy (by first|exact gathE_0 c6|exact zTe c6 c7 zA zA))⟩,zA,Weak.mk [true,true] ⟨R,R,R,T⟩ O⟩
      ·try simp only [sx] at c6
       refine zK<|zJ<|kI 13 1 [⟨0,.q [2]⟩,⟨1,.q []⟩,⟨2,.q [1]⟩,⟨3,.q []⟩,⟨4,.q []⟩,⟨5,.q []⟩,⟨6,.q []⟩,⟨7,.q []⟩,⟨8,.q []⟩,⟨9,.q []⟩,⟨10,.q []⟩,⟨11,.e 0 []⟩,⟨12,.e 0 []⟩] mixed uC uC O O O<|zX O<|zX O<|zX O<|zX O<|zX O<|zX O<|zX O<|zX O<|zX O<|zX O<|zX O<|zX O<|zX O<|zBb<|qF O zB O O (zU O kE O (J 0 O) O)<|qF O zB O O (zG O wI O)<|qF O zB O O (zF O wQ O (J 0 O) O)<|qF O zB O O (zO O O)<|qF O zB O O (qE O v O O zA (getm uB))<|qF O zB O O (qM O zEs O)<|qF O zB O O (zF O one9 O zZ O)<|qF O zB O O (qG O ok112 (zDc n y.From hn) ⟨R,O,R,O,T⟩)<|qF O zB O O (kH O O)<|qF O zB O O (wE O O O)<|qF O zB O O (wD O O O)<|zJf O O zB O O (qH [none,none,none,none,none,none,some 1,none] O zr94 O) ?_
       rintro _ _ ⟨b4,rfl,rfl⟩
       refine ⟨_,O,?_⟩
       refine zFr O O zB O O (yL O sz94 O O O (zFf 0 O O)) ?_
       rintro _ _ ⟨rfl,rfl⟩
       refine ⟨_,O,?_⟩
       refine zAx O<|A O<|Y<|zQ<|G O<|A O<|kN O<|A O<|Y<|zE O (fun c7=>?_) (fun c7=>?_)
       ·try simp only [sx] at c7
        refine G O<|A O<|Y<|zH<|zS O ?_
        rw [zKh h9 zA c3 zA,hq,zLo hy (by rw [gathE_9 c6 c7];decide),gathE_9 c6 c7]
       ·try simp only [sx] at c7
        refine G O<|zD O zGc<|zD O zDo<|zI one3 (J 0 O) O<|yK O<|A O<|Y<|zE O (fun c8=>?_) (fun c8=>?_)
        ·try simp only [sx] at c8
         refine G O<|A O<|Y<|zH<|zS O ?_
         rw [zKh h9 zA c3 zA,hq,zLo hy (by rw [zTg c6 c7 c8];decide),zTg c6 c7 c8]
        ·try simp only [sx] at c8
         refine zJ<|qU 12 mixed uC O O<|zN O O (zG O zGb O)<|zN O O (zF O zBs O (J 0 O) O)<|zN O O (yJ O el38 O)<|zN O O (zG O wI O)<|zN O O (zF O wQ O (J 1 O) O)<|zN O O (zO O O)<|zN O O (qE O v O O zA (getm uB))<|zN O O (qM O zAu O)<|zN O O (zF O zEo O zZ O)<|zN O O (yJ O el90 O)<|zN O O (kA O O O)<|zN O O (qX O O)<|yP<|Y<|zE O (fun c9=>?_) (fun c9=>?_)
         ·try simp only [sx] at c9
          refine G O<|A O<|Y<|zH<|zS O ?_
          rw [zKh h9 zA c3 zA,hq,zLo hy (by rw [zTf c6 c7 c8 zA];decide),zTf c6 c7 c8 zA]
         ·try simp only [sx] at c9
          refine zK<|zT O<|A O<|qI O ⟨zA,zA⟩<|A O<|Y ?_
          refine ⟨j+1,⟨zA,hq.trans (zLp hy (by first|exact gathE_0 c6|exact zTe c6 c7 zA zA))⟩,zA,Weak.mk [false,true,true] ⟨R,R,R,T⟩ O⟩
     ·try simp only [sx] at c5
      refine qN<|G O<|A O<|Y<|zH<|zS O ?_
      rw [zKh h9 zA c3 zA,hq,kK zA];rfl
theorem zVa (n:Ns) (hn:n.Ok) (e:Ex) (ih:∀a,a∈e.Args->dJ a=0->a.wt<=1073741824->Pur cfg 142 [vNs n,vE a] (.tup [vTy (fA (kiN n.Bufs) a).1,vI (fA (kiN n.Bufs) a).2])) (hpart:dJ e=0) (he:e.wt<=1073741824):
    Pur cfg 142 [vNs n,vE e] (.tup [vTy (fA (kiN n.Bufs) e).1,vI (fA (kiN n.Bufs) e).2]):=by
 refine zR Tryz.func142 O Tryz.ntmps142 Tryz.results142 O ?_
 intro z hz
 obtain ⟨hLl,hIl,hAl⟩:=e.parts he
 have hwt:=Ex.wt_eq e
 refine G O<|zV O O (qJ O O) ?_
 rintro _ _ ⟨b1,rfl,rfl⟩
 refine zV O O (qJ O O) ?_
 rintro _ _ ⟨b2,rfl,rfl⟩
 refine zV O O (qV O zr48) ?_
 rintro _ _ ⟨b3,rfl,rfl⟩
 refine A O<|Y<|G O<|A O<|yS _ (wC 48 5)<|Y<|zJ<|G O<|A O<|Y<|zQ<|zY ⟨[(7,.c _),(6,.c _),(2,.c _),(3,.c _),(4,.c _)],[_,_,_,_]⟩ (Weak.mk [true,true,true,true] ⟨R,R,R,R,R,T⟩ O)<|qK 2 1 O O (Nat×Value) (fun ⟨k,sv⟩=>[(7,vI k),(6,.c (.lit sv))]) (fun ⟨k,sv⟩=>[E.vec sv 48 5 ((jB (e.Args.take k) (bQ (kiN n.Bufs) (e.Args.take k)).1).map tyC)]) (fun ⟨k,sv⟩=>k<=e.Args.length/\((bQ (kiN n.Bufs) (e.Args.take k)).2=0)) (fun ⟨k,sv⟩=>e.Args.length-k) ⟨⟨0,(.slice none 0 0)⟩,⟨zA,O⟩,Weak.mk [true,true,true,true] ⟨R,R,R,R,R,T⟩ O⟩ ?_
 rintro ⟨k,sv⟩ ⟨hk,hp⟩
 show AWP _ _ _ _ _ ⟨[(7,vI k),(6,.c (.lit sv))]++_,[E.vec sv 48 5 ((jB (e.Args.take k) (bQ (kiN n.Bufs) (e.Args.take k)).1).map tyC)]++_⟩
 refine zJ<|G O<|A O<|zD O wA<|zI zAo (J 2 O) O<|qB O el52<|yG O<|Y<|zE O (fun c1=>?_) (fun c1=>?_)
 ·try simp only [sx] at c1
  obtain ⟨x,hx⟩:=qY e.Args k zA
  have hll:=zHk _ _ hp
  have hcl:=nonC_len (e.Args.take k) (bQ (kiN n.Bufs) (e.Args.take k)).1
  have htk:=List.length_take_le' k e.Args
  refine zK<|zJ<|zQ<|zJ<|kI 12 1 [⟨0,.q [4]⟩,⟨1,.q []⟩,⟨2,.q [3]⟩,⟨3,.q []⟩,⟨4,.q []⟩,⟨5,.q []⟩,⟨6,.q []⟩,⟨7,.q []⟩,⟨8,.q []⟩,⟨9,.q []⟩,⟨10,.e 0 []⟩,⟨11,.e 0 []⟩] mixed uC uC O O O<|zX O<|zX O<|zX O<|zX O<|zX O<|zX O<|zX O<|zX O<|zX O<|zX O<|zX O<|zX O<|zBb<|qF O zB O O (zU O kE O (J 0 O) O)<|qF O zB O O (zG O wA O)<|qF O zB O O (zF O zAo O (J 0 O) O)<|qF O zB O O (zO O O)<|qF O zB O O (qE O el52 O O zA (zCn uB))<|qF O zB O O (zU O yX O zZ O)<|qF O zB O O (qG O ok142 (ih x (qA hx) (zHi hpart (qA hx)) (by have:=Ex.arg_wt (qA hx);omega)) ⟨R,O,R,O,T⟩)<|qF O zB O O (kH O O)<|qF O zB O O (wE O O O)<|qF O zB O O (wD O O O)<|zJf O O zB O O (qV O zr48) ?_
  rintro _ _ ⟨b5,rfl,rfl⟩
  refine ⟨_,O,?_⟩
  refine zFr O O zB O O (yL O sz48 O O O (zFf 0 O O)) ?_
  rintro _ _ ⟨rfl,rfl⟩
  refine ⟨_,O,?_⟩
  refine zAx O<|A O<|Y<|zJ<|G O<|A O<|yK O<|Y<|zE O (fun c2=>?_) (fun c2=>?_)
  ·try simp only [sx] at c2
   refine G O<|qT O zr48 pl48<|A O<|rStR 2 sz48 O<|A O<|Y<|zH<|fin2 (zP yD O (J 2 O) O) (rs_c O) ?_
   rw [nodeT_no hx hp c2];rfl
  ·try simp only [sx] at c2
   refine zK<|G O<|zD O wA<|zI zAo (J 3 O) O<|A O<|qC O el52 zA (zCn uB)<|zM yX zZ O<|qD O ok114 (kW x) ⟨R,O,T⟩<|kN O<|Y<|zE O (fun c3=>?_) (fun c3=>?_)
   ·try simp only [sx] at c3
    refine zT O<|A O<|zM yD (J 0 O) O<|zW O (qZ O zAk zr48 O O O O)<|zV O O (yN 1 O zAk O O O (by simp only [List.length_map,List.length_append,List.length_cons,List.length_nil,hll,List.length_take];omega) (by simp only [List.length_map,List.length_append,List.length_cons,List.length_nil,hll,List.length_take];omega)) ?_
    rintro _ _ ⟨sv6,rfl,rfl⟩
    refine A O<|Y<|zT O<|A O<|qI O ⟨zA,zA⟩<|A O<|Y ?_
    exact m9
   ·try simp only [sx] at c3
    refine zK<|zT O<|A O<|qI O ⟨zA,zA⟩<|A O<|Y ?_
    exact m9
 ·try simp only [sx] at c1
  have hll:=zHk _ _ hp
  have hta:e.Args.take k=e.Args:=yV zA
  have hT:fA (kiN n.Bufs) e=kiF n.Bufs e (jB (e.Args.take k) (bQ (kiN n.Bufs) (e.Args.take k)).1):=by have h:=nodeT_ok (N:=kiN n.Bufs) hta hp;rw [h];show kiF n.Bufs e (jB e.Args _)=_;rw [hta]
  refine qN<|zJ<|zJ<|qU 12 mixed uC O O<|zN O O (zO O O)<|zN O O (kL 0 O zAk O O)<|zN O O (yM O O O)<|zN O O (zO O O)<|qL [] O O O O B T (fun g10_3=>zO O O) O<|qL [(48,_)] O O O O B ⟨O,O,T⟩ (fun g10_3=>qS 0 O zAk O O O zA (by simp only [Lz,cond_true,decide_eq_true_eq,List.length_map] at g10_3⊢;omega)) O<|qL [(49,_)] O O O O B ⟨O,O,T⟩ (fun g10_3=>zU O yD O (wU 0 O (zLf (by simp only [Lz,cond_true,decide_eq_true_eq,List.length_map] at g10_3⊢;omega))) O) O<|qL [] O O O O B T (fun g10_3=>zO O O) O<|qL [(51,_)] O O O O B ⟨O,O,T⟩ (fun g10_3=>qS 0 O zAk O O O zA (by simp only [Lz,cond_true,decide_eq_true_eq,List.length_map] at g10_3⊢;omega)) O<|qL [(52,_)] O O O O B ⟨O,O,T⟩ (fun g10_3=>zU O yD O (wU 0 O (zLf (by simp only [Lz,cond_true,decide_eq_true_eq,List.length_map] at g10_3⊢;omega))) O) O<|qL [(50,_),(53,_)] O O O O B ⟨O,O,O,O,T⟩ (fun g10_3=>wY O fl48 O O O) O<|zN O O (kZ O O O (fun h=>h) O)<|yP<|Y<|zE O (fun c4=>?_) (fun c4=>?_)
  ·obtain ⟨q1,q2⟩:=ki10_t c4
   exact l8
  ·have hq:=ki10_f c4
   refine zK<|zJ<|G O<|zD O kO<|zI one3 (J 2 O) O<|Y<|zQ<|zJ<|G O<|yE O<|A O<|Y<|zE O (fun c5=>?_) (fun c5=>?_)
   ·try simp only [sx] at c5
    refine zK<|zE O (fun c6=>?_) (fun c6=>?_)
    ·try simp only [sx] at c6
     refine G O<|zD O zEu<|zM yD (J 2 O) O<|rStR 1 sz48 O<|A O<|Y<|zH<|fin2 (zP yD O (J 1 O) O) (rs_c O) ?_
     exact w7
    ·try simp only [sx] at c6
     refine G O<|yE O<|A O<|Y<|zE O (fun c7=>?_) (fun c7=>?_)
     ·try simp only [sx] at c7
      exact l8
     ·try simp only [sx] at c7
      refine G O<|yE O<|A O<|Y<|zE O (fun c8=>?_) (fun c8=>?_)
      ·try simp only [sx] at c8
       refine G O<|zM kE (J 3 O) O<|zD O zGd<|zI one9 (J 2 O) O<|qD O ok112 (zDc n e.Name hn) ⟨R,O,R,O,T⟩<|qO O<|yH O<|qR O<|zV O O (qH [none,none,none,none,none,none,some 1,none] O zr94 O) ?_
       rintro _ _ ⟨b7,rfl,rfl⟩
       refine rStR 0 sz94 O<|A O<|Y<|G O<|zD O zGc<|zM yD (J 0 O) O<|rStR 2 sz48 O<|A O<|Y<|zH<|fin2 (zP yD O (J 2 O) O) (rs_c O) ?_
       exact w7
      ·exact s9
   ·try simp only [sx] at c5
    refine zT O<|yE O<|A O<|Y<|zE O (fun c6=>?_) (fun c6=>?_)
    ·try simp only [sx] at c6
     refine G O<|zD O zEu<|zM yD (J 2 O) O<|rStR 1 sz48 O<|A O<|Y<|zH<|fin2 (zP yD O (J 1 O) O) (rs_c O) ?_
     exact w7
    ·try simp only [sx] at c6
     refine G O<|yE O<|A O<|Y<|zE O (fun c7=>?_) (fun c7=>?_)
     ·try simp only [sx] at c7
      exact l8
     ·try simp only [sx] at c7
      refine G O<|yE O<|A O<|Y<|zE O (fun c8=>?_) (fun c8=>?_)
      ·try simp only [sx] at c8
       refine G O<|zM kE (J 3 O) O<|zD O zGd<|zI one9 (J 2 O) O<|qD O ok112 (zDc n e.Name hn) ⟨R,O,R,O,T⟩<|qO O<|yH O<|qR O<|zV O O (qH [none,none,none,none,none,none,some 1,none] O zr94 O) ?_
       rintro _ _ ⟨b8,rfl,rfl⟩
       refine rStR 0 sz94 O<|A O<|Y<|G O<|zD O zGc<|zM yD (J 0 O) O<|rStR 2 sz48 O<|A O<|Y<|zH<|fin2 (zP yD O (J 2 O) O) (rs_c O) ?_
       exact w7
      ·exact s9
theorem ref30_Kind (n:Ns) (e:Ex) (hn:n.Ok) (hpart:dJ e=0) (he:e.wt<=1073741824):Pur cfg 142 [vNs n,vE e] (.tup [vTy (fA (kiN n.Bufs) e).1,vI (fA (kiN n.Bufs) e).2]):=by
  induction e using Ex.ind with
  |_ e ih=>exact zVa n hn e (fun a ha h1 h2=>ih a ha h1 h2) hpart he
theorem zId (n:Ns) (bd:List Bd) (e:Ex) (hn:n.Ok) (hb:bd.length<=1000000) (he:e.wt<=1000000):
    Pur cfg 113 [vNs n,jV bd,vE e] (.tup [vTy (dK n.Bufs (bd.map Bd.Name) e).1,vI (dK n.Bufs (bd.map Bd.Name) e).2]):=by
 refine zR Tryz.func113 O Tryz.ntmps113 Tryz.results113 O ?_
 intro z hz
 have hnl:=nodes_wt e
 refine G O<|zV O O (qJ O O) ?_
 rintro _ _ ⟨b1,rfl,rfl⟩
 refine zV O O (qJ O O) ?_
 rintro _ _ ⟨b2,rfl,rfl⟩
 refine zV O O (qV O zr48) ?_
 rintro _ _ ⟨b3,rfl,rfl⟩
 refine A O<|Y<|zJ<|G O<|zM yX (J 1 O) O<|qD O ok139 (ref14_Validate e zA) ⟨R,O,T⟩<|A O<|Y<|G O<|A O<|yK O<|Y<|zE O (fun c1=>?_) (fun c1=>?_)
 ·try simp only [sx] at c1
  refine G O<|qT O zr48 pl48<|A O<|rStR 0 sz48 O<|A O<|Y<|zH<|fin2 (zP yD O (J 0 O) O) (rs_c O) ?_
  rw [zWp c1];rfl
 ·try simp only [sx] at c1
  refine zK<|G O<|zM yX (J 1 O) O<|qD O ok140 (OwnR.pur (ref14_All e zA)) ⟨R,O,T⟩<|A O<|Y<|zJ<|G O<|A O<|Y<|zQ<|zY ⟨[(10,.c _),(1,.c _),(3,.c _),(5,.c _),(6,.c _),(9,.c _)],[_,_,_]⟩ (Weak.mk [true,true,true] ⟨R,R,R,R,R,R,T⟩ O)<|qK 1 0 O O (Nat) (fun k=>[(10,vI k)]) (fun k=>[]) (fun k=>k<=(bW e).length/\(dG n.Bufs (bd.map Bd.Name) (bW e)=dG n.Bufs (bd.map Bd.Name) ((bW e).drop k))) (fun k=>(bW e).length-k) ⟨0,⟨zA,O⟩,Weak.mk [true,true,true] ⟨R,R,R,R,R,R,T⟩ O⟩ ?_
  rintro k ⟨hk,hp⟩
  refine zJ<|G O<|A O<|A O<|qB O el52<|yG O<|Y<|zE O (fun c2=>?_) (fun c2=>?_)
  ·try simp only [sx] at c2
   obtain ⟨x,hx⟩:=qY (bW e) k zA
   refine zK<|zJ<|zQ<|zJ<|qU 8 mixed uC O O<|zN O O (zU O kE O (J 2 O) O)<|zN O O (zO O O)<|zN O O (zO O O)<|zN O O (zO O O)<|zN O O (qE O el52 O O zA (zCn uB))<|zN O O (zU O yX O zZ O)<|zN O O (qG O ok141 (ref30_node n bd x hn hb (by have:=zFw e x (qA hx);omega)) ⟨R,O,R,O,R,O,T⟩)<|zN O O (qX O O)<|yP<|Y<|G O<|A O<|yK O<|Y<|zE O (fun c3=>?_) (fun c3=>?_)
   ·try simp only [sx] at c3
    refine G O<|qT O zr48 pl48<|A O<|rStR 0 sz48 O<|A O<|Y<|zH<|fin2 (zP yD O (J 0 O) O) (rs_c O) ?_
    rw [zWo c1 (by rw [hp,nodesN_no hx c3];exact c3),hp,nodesN_no hx c3];rfl
   ·try simp only [sx] at c3
    refine zK<|zT O<|A O<|qI O ⟨zA,zA⟩<|A O<|Y ?_
    refine ⟨k+1,⟨zA,hp.trans (nodesN_at hx c3)⟩,zA,Weak.mk [true,true,true] ⟨R,R,R,R,R,R,T⟩ O⟩
  ·try simp only [sx] at c2
   refine qN<|G O<|zM kE (J 2 O) O<|zM yX (J 1 O) O<|qD O ok142 (ref30_Kind n e hn (zDa c1) zA) ⟨R,O,R,O,T⟩<|yH O<|qR O<|rStR 0 sz48 O<|A O<|Y<|zH<|fin2 (zP yD O (J 0 O) O) (rs_c O) ?_
   rw [exprT_k c1 (by rw [hp,kK zA];rfl)];rfl
theorem ref30_plain (s:St) (hs:s.wt<=900000000):
    Pur cfg 111 [vSt s] (vB (fG s)):=by
 refine zR Tryz.func111 O Tryz.ntmps111 Tryz.results111 O ?_
 intro z hz
 obtain ⟨hE,hI,hIw,hB,hBw⟩:=St.parts hs
 refine G O<|zV O O (qJ O O) ?_
 rintro _ _ ⟨b1,rfl,rfl⟩
 refine A O<|Y<|zJ<|qU 8 mixed uC O O<|zN O O (zG O zAm O)<|zN O O (zF O one3 O (J 0 O) O)<|zN O O (yM O O O)<|zN O O (zG O zAm O)<|zN O O (zF O one3 O (J 0 O) O)<|zN O O (yM O O O)<|zN O O (qX O O)<|zN O O (qX O O)<|yP<|Y<|G O<|zD O zAm<|zI one3 (J 0 O) O<|yE O<|A O<|rL0 O (fun g2_3=>zG O zAm O) O<|rL1 16 O (fun g2_3=>zF O one3 O (J 0 O) O) O<|rL1 17 O (fun g2_3=>yM O O O) O<|r_or O (fun h=>(lzf h))<|A O<|Y<|zJ<|G O<|A O<|kN O<|A O<|rL0 O (fun g3_2=>zO O O) O<|rL1 23 O (fun g3_2=>kJ O O) O<|yR O (fun h=>h)<|A O<|rL0 O (fun g3_6=>zO O O) O<|rL1 27 O (fun g3_6=>kJ O O) O<|yR O (fun h=>h)<|Y<|zE O (fun c1=>?_) (fun c1=>?_)
 ·refine G O<|A O<|Y<|zH<|zS O ?_
  exact congrArg vB (pln_1 c1)
 ·refine zK<|zJ<|G O<|A O<|kN O<|A O<|rL0 O (fun g5_2=>zG O zAp O) O<|rL1 33 O (fun g5_2=>zF O one3 O (J 0 O) O) O<|rL1 34 O (fun g5_2=>kA O O O) O<|rL1 35 O (fun g5_2=>zO O O) O<|rLz [] O gv2 T (fun g5_6=>zG O zJc O) O<|rLz [(37,_)] O gv2 ⟨O,O,T⟩ (fun g5_6=>zF O one3 O (J 0 O) O) O<|rLz [(38,_)] O gv2 ⟨O,O,T⟩ (fun g5_6=>kA O O O) O<|rL1 36 O (fun g5_2=>zAn O O O O (fun h=>kC uB (lzf h))) O<|yR O (fun h=>h)<|A O<|rL0 O (fun g5_12=>zG O zAm O) O<|rL1 43 O (fun g5_12=>zF O one3 O (J 0 O) O) O<|rL1 44 O (fun g5_12=>kA O O O) O<|rL1 45 O (fun g5_12=>zO O O) O<|rLz [] O gv2 T (fun g5_16=>zG O zOr O) O<|rLz [(47,_)] O gv2 ⟨O,O,T⟩ (fun g5_16=>zF O one3 O (J 0 O) O) O<|rLz [(48,_)] O gv2 ⟨O,O,T⟩ (fun g5_16=>kA O O O) O<|rL1 46 O (fun g5_12=>kZ O O O (fun h=>kC uB h) O) O<|r_or O (fun h=>(lzf h))<|A O<|rL0 O (fun g5_22=>zO O O) O<|rL1 53 O (fun g5_22=>zO O O) O<|rLz [] O gv2 T (fun g5_24=>zG O zAh O) O<|rLz [(55,_)] O gv2 ⟨O,O,T⟩ (fun g5_24=>zF O one9 O (J 0 O) O) O<|rLz [(56,_)] O gv2 ⟨O,O,T⟩ (fun g5_24=>zBj O O O) O<|rL1 54 O (fun g5_22=>kZ O O O (fun h=>kC uB h) O) O<|r_or O (fun h=>(lzf h))<|Y<|zE O (fun c2=>?_) (fun c2=>?_)
  ·refine G O<|A O<|Y<|zH<|zS O ?_
   exact congrArg vB (pln_2 c2)
  ·refine zK<|zJ<|G O<|A O<|kN O<|A O<|rL0 O (fun g7_2=>zG O zEt O) O<|rL1 63 O (fun g7_2=>zF O wQ O (J 0 O) O) O<|rL1 64 O (fun g7_2=>yJ O v O) O<|rL1 65 O (fun g7_2=>yC O O O) O<|yR O (fun h=>h)<|A O<|rL0 O (fun g7_8=>zO O O) O<|rL1 69 O (fun g7_8=>zO O O) O<|rLz [] O gv2 T (fun g7_10=>zG O kV O) O<|rLz [(71,_)] O gv2 ⟨O,O,T⟩ (fun g7_10=>zF O kU O (J 0 O) O) O<|rLz [(72,_)] O gv2 ⟨O,O,T⟩ (fun g7_10=>yJ O D O) O<|rLz [(73,_)] O gv2 ⟨O,O,T⟩ (fun g7_10=>yC O O O) O<|rL1 70 O (fun g7_8=>kZ O O O (fun h=>kC uB h) O) O<|r_or O (fun h=>(lzf h))<|Y<|zE O (fun c3=>?_) (fun c3=>?_)
   ·refine G O<|A O<|Y<|zH<|zS O ?_
    exact congrArg vB (pln_3 c3)
   ·refine zK<|G O<|A O<|kN O<|A O<|rL0 O (fun g9_2=>zG O zBc O) O<|rL1 80 O (fun g9_2=>zU O yX O (J 0 O) O) O<|rL0 O (fun g9_2=>zFo [none,none,none,none,none,none,none,none,none,none,some 2,some 4,some 13] O zr54 pl54 O O) O<|rLz [(81,_),(82,_)] O B ⟨O,O,O,O,T⟩ (fun g9_2=>qG O ok117 (base_Expr s.E zEx zA) ⟨R,O,R,O,T⟩) O<|r_or O (fun h=>(lzf h))<|A O<|Y<|zH<|zS O ?_
    exact congrArg vB (pln_4 c1 c2 c3)
theorem ref30_store (n:Ns) (bd:List Bd) (s:St) (hn:n.Ok) (hb:bd.length<=1000000) (hs:s.wt<=900000):
    Pur cfg 115 [vNs n,jV bd,vSt s] (vI (jW n.Bufs (bd.map Bd.Name) s)):=by
 refine zR Tryz.func115 O Tryz.ntmps115 Tryz.results115 O ?_
 intro z hz
 obtain ⟨hE,hI,hIw,hB,hBw⟩:=St.parts hs
 have hrd:=rdE_wt s
 refine G O<|zV O O (qJ O O) ?_
 rintro _ _ ⟨b1,rfl,rfl⟩
 refine zV O O (qJ O O) ?_
 rintro _ _ ⟨b2,rfl,rfl⟩
 refine A O<|Y<|zJ<|G O<|zM kE (J 1 O) O<|A O<|zD O zAh<|zI one9 (J 0 O) O<|zD O zEt<|zI wQ (J 0 O) O<|yF [none,none,none,none,none,none,none,none,none,none,some 2,none,some 13] O zr54 pl54<|qD O ok113 (zId n bd (rdE s) hn hb zA) ⟨R,O,R,O,R,O,T⟩<|qO O<|yH O<|qR O<|zV O O (qV O zr48) ?_
 rintro _ _ ⟨b3,rfl,rfl⟩
 refine rStR 0 sz48 O<|A O<|Y<|G O<|A O<|yK O<|Y<|zE O (fun c1=>?_) (fun c1=>?_)
 ·try simp only [sx] at c1
  refine G O<|A O<|A O<|Y<|zH<|zS O ?_
  rw [storeE_1 c1]
 ·try simp only [sx] at c1
  refine zK<|G O<|zM kE (J 2 O) O<|zD O zAh<|zI one9 (J 1 O) O<|qD O ok112 (zDc n s.Name hn) ⟨R,O,R,O,T⟩<|qO O<|yH O<|qR O<|zV O O (qH [none,none,none,none,none,none,some 1,none] O zr94 O) ?_
  rintro _ _ ⟨b4,rfl,rfl⟩
  refine rStR 0 sz94 O<|A O<|Y<|zJ<|G O<|zD O zOq<|zI one3 (J 0 O) O<|yE O<|A O<|rL0 O (fun g5_3=>zG O zAm O) O<|rL1 38 O (fun g5_3=>zF O one3 O (J 2 O) O) O<|rL1 39 O (fun g5_3=>yM O O O) O<|rL1 40 O (fun g5_3=>zO O O) O<|rLz [] O gv2 T (fun g5_7=>zG O zOr O) O<|rLz [(42,_)] O gv2 ⟨O,O,T⟩ (fun g5_7=>zF O one3 O (J 2 O) O) O<|rLz [(43,_)] O gv2 ⟨O,O,T⟩ (fun g5_7=>zAv O O O) O<|rLz [(44,_)] O gv2 ⟨O,O,T⟩ (fun g5_7=>zO O O) O<|rLz [] O gv2 T (fun g5_11=>zG O zOr O) O<|rLz [(46,_)] O gv2 ⟨O,O,T⟩ (fun g5_11=>zF O one3 O (J 2 O) O) O<|rLz [(47,_)] O gv2 ⟨O,O,T⟩ (fun g5_11=>yC O O O) O<|rLz [(45,_)] O gv2 ⟨O,O,T⟩ (fun g5_7=>zAn O O O O (fun h=>kC uB (lzf h))) O<|rL1 41 O (fun g5_3=>kZ O O O (fun h=>kC uB h) O) O<|r_or O (fun h=>(lzf h))<|Y<|zE O (fun c2=>?_) (fun c2=>?_)
  ·try simp only [sx] at c2
   refine G O<|A O<|Y<|zH<|zS O ?_
   rw [zSp c1 c2]
  ·try simp only [sx] at c2
   refine zK<|G O<|zM kE (J 3 O) O<|A O<|zD O zBc<|zM yX (J 2 O) O<|qD O ok113 (zId n bd s.E hn hb zA) ⟨R,O,R,O,R,O,T⟩<|qO O<|yH O<|qR O<|zV O O (qV O zr48) ?_
   rintro _ _ ⟨b5,rfl,rfl⟩
   refine rStR 0 sz48 O<|A O<|Y<|zJ<|G O<|A O<|yE O<|A O<|rL0 O (fun g8_2=>zG O zBc O) O<|rL1 63 O (fun g8_2=>zU O yX O (J 3 O) O) O<|rL1 64 O (fun g8_2=>qG O ok114 (kW _) ⟨R,O,T⟩) O<|rL1 65 O (fun g8_2=>zO O O) O<|rLz [] O gv2 T (fun g8_6=>zU O yD O (J 0 O) O) O<|rLz [] O gv2 T (fun g8_6=>zG O zGc O) O<|rLz [(68,_)] O gv2 ⟨O,O,T⟩ (fun g8_6=>zU O yD O (J 1 O) O) O<|rLz [(67,_),(69,_)] O gv2 ⟨O,O,O,O,T⟩ (fun g8_6=>wY O fl48 O O O) O<|rL1 66 O (fun g8_2=>zAn O O O O (fun h=>kC uB (lzf h))) O<|yR O (fun h=>h)<|Y<|zE O (fun c3=>?_) (fun c3=>?_)
   ·obtain ⟨h0,h10⟩:=st3_t c3
    refine G O<|A O<|Y<|zH<|zS O ?_
    rw [zUh c1 zA h0 h10]
   ·have h3:=st3_f c3
    refine zK<|G O<|A O<|A O<|Y<|zH<|zS O ?_
    rw [st_fin c1 zA h3]
theorem ref30_one (n:Ns) (bd:List Bd) (U:List ByteArray) (s:St) (hn:n.Ok) (hb:bd.length<=1000000) (hs:s.wt<=900000) (hU:U.length<=1000000):
    Pur cfg 79 [vNs n,jV bd,vSs U,vSt s] (vI (stE n.Bufs U (bd.map Bd.Name) s)):=by
 refine zR Tryz.func79 O Tryz.ntmps79 Tryz.results79 O ?_
 intro z hz
 obtain ⟨hE,hI,hIw,hB,hBw⟩:=St.parts hs
 refine G O<|zV O O (qJ O O) ?_
 rintro _ _ ⟨b1,rfl,rfl⟩
 refine zV O O (qJ O O) ?_
 rintro _ _ ⟨b2,rfl,rfl⟩
 refine A O<|Y<|zJ<|G O<|zM zDh (J 0 O) O<|qD O ok111 (ref30_plain s zA) ⟨R,O,T⟩<|kN O<|Y<|zE O (fun c1=>?_) (fun c1=>?_)
 ·try simp only [sx] at c1
  refine G O<|A O<|Y<|zH<|zS O ?_
  rw [stE_5 c1]
 ·try simp only [sx] at c1
  refine zK<|zJ<|G O<|zD O zAm<|zI one3 (J 0 O) O<|Y<|zQ<|G O<|yE O<|A O<|Y<|zE O (fun c2=>?_) (fun c2=>?_)
  ·try simp only [sx] at c2
   refine G O<|zM kE (J 1 O) O<|zD O zAh<|zI one9 (J 0 O) O<|qD O ok112 (zDc n s.Name hn) ⟨R,O,R,O,T⟩<|qO O<|yH O<|qR O<|zV O O (qH [none,none,none,none,none,none,some 1,none] O zr94 O) ?_
   rintro _ _ ⟨b3,rfl,rfl⟩
   refine rStR 0 sz94 O<|A O<|Y<|zJ<|zQ<|G O<|zD O zAh<|zI one9 (J 1 O) O<|qD O ok76 (zHr s.Name) ⟨R,O,T⟩<|kN O<|A O<|Y<|zE O (fun c3=>?_) (fun c3=>?_)
   ·try simp only [sx] at c3
    refine G O<|A O<|Y<|zH<|zS O ?_
    rw [stE_l c1 c2,loopE_7 c3]
   ·try simp only [sx] at c3
    refine G O<|A O<|A O<|rL0 O (fun g8_1=>zO O O) O<|rL0 O (fun g8_1=>zG O zAh O) O<|rL1 36 O (fun g8_1=>zF O one9 O (J 1 O) O) O<|rLz [(35,_),(37,_)] O B ⟨O,O,O,O,T⟩ (fun g8_1=>qG O ok109 (base_Has U s.Name zA) ⟨R,O,R,O,T⟩) O<|r_or O (fun h=>(lzf h))<|A O<|Y<|zE O (fun c4=>?_) (fun c4=>?_)
    ·try simp only [sx] at c4
     refine G O<|A O<|Y<|zH<|zS O ?_
     rw [stE_l c1 c2,loopE_8 c3 c4]
    ·try simp only [sx] at c4
     have h8:¬(dS n.Bufs s.Name=true∨dD U s.Name=true):=by rw [c4.1,c4.2];simp
     refine G O<|zD O zAp<|zI one3 (J 1 O) O<|yG O<|A O<|rL0 O (fun g10_3=>zG O zAp O) O<|rL1 45 O (fun g10_3=>zF O one3 O (J 1 O) O) O<|rL1 46 O (fun g10_3=>yC O O O) O<|r_or O (fun h=>(lzf h))<|A O<|rL0 O (fun g10_8=>zG O zJc O) O<|rL1 50 O (fun g10_8=>zF O one3 O (J 1 O) O) O<|rL1 51 O (fun g10_8=>zAv O O O) O<|r_or O (fun h=>(lzf h))<|A O<|rL0 O (fun g10_13=>zG O zJc O) O<|rL1 55 O (fun g10_13=>zF O one3 O (J 1 O) O) O<|rL1 56 O (fun g10_13=>yC O O O) O<|r_or O (fun h=>(lzf h))<|A O<|Y<|zE O (fun c5=>?_) (fun c5=>?_)
     ·try simp only [sx] at c5
      refine G O<|A O<|Y<|zH<|zS O ?_
      rw [stE_l c1 c2,loopE_1 c3 h8 zA]
     ·try simp only [sx] at c5
      refine zK<|G O<|A O<|Y<|zH<|zS O ?_
      rw [stE_l c1 c2,loopE_0 c3 h8 zA]
  ·try simp only [sx] at c2
   refine G O<|yE O<|A O<|Y<|zE O (fun c6=>?_) (fun c6=>?_)
   ·try simp only [sx] at c6
    refine G O<|zM kE (J 1 O) O<|A O<|zD O zBc<|zM yX (J 0 O) O<|qD O ok113 (zId n bd s.E hn hb zA) ⟨R,O,R,O,R,O,T⟩<|qO O<|yH O<|qR O<|zV O O (qV O zr48) ?_
    rintro _ _ ⟨b4,rfl,rfl⟩
    refine rStR 0 sz48 O<|A O<|Y<|zJ<|G O<|A O<|yE O<|A O<|rL0 O (fun g15_2=>zG O zBc O) O<|rL1 72 O (fun g15_2=>zU O yX O (J 1 O) O) O<|rL1 73 O (fun g15_2=>qG O ok114 (kW _) ⟨R,O,T⟩) O<|rL1 74 O (fun g15_2=>kJ O O) O<|yR O (fun h=>h)<|Y<|zE O (fun c7=>?_) (fun c7=>?_)
    ·refine G O<|A O<|Y<|zH<|zS O ?_
     rw [stE_i c1 c6,if_t c7]
    ·refine zK<|G O<|A O<|A O<|Y<|zH<|zS O ?_
     rw [stE_i c1 c6,if_fin c7]
   ·try simp only [sx] at c6
    refine zK<|G O<|zM kE (J 1 O) O<|A O<|zM zDh (J 0 O) O<|qD O ok115 (ref30_store n bd s hn hb hs) ⟨R,O,R,O,R,O,T⟩<|A O<|Y<|zH<|zS O ?_
    rw [stE_s c1 c2 c6]
set_option maxHeartbeats 2000000 in
theorem zKd (n:Ns) (bd:List Bd) (U:List ByteArray) (l:List St) (W:List Int) (hn:n.Ok) (hU:U.length+bY l<=1000000) (hb:bd.length+bY l<=1000000) (hW:W.length+bY l<=1000000) (hl:bC l<=900000) (ih:∀s,s∈l->∀(bd:List Bd) (U:List ByteArray) (W:List Int),U.length+bY s.Body<=1000000->bd.length+bY s.Body<=1000000->W.length+bY s.Body<=1000000->Pur cfg 39 [vNs n,jV bd,vSs U,bU s.Body,vIs W] (ckC (bP n.Bufs U (bd.map Bd.Name) W 0 s.Body))):
    Pur cfg 39 [vNs n,jV bd,vSs U,bU l,vIs W] (ckC (bP n.Bufs U (bd.map Bd.Name) W 0 l)):=by
 refine zR Tryz.func39 O Tryz.ntmps39 Tryz.results39 O ?_
 intro z hz
 have hll:=kX l
 have hlN:=zEh l
 refine G O<|zV O O (qJ O O) ?_
 rintro _ _ ⟨b1,rfl,rfl⟩
 refine zV O O (qH [some 1,some 1,none] O zr87 O) ?_
 rintro _ _ ⟨b2,rfl,rfl⟩
 refine Y<|zJ<|G O<|A O<|Y<|zQ<|zY ⟨[(11,.c _),(2,.c _),(1,.c _),(3,.c _),(4,.c _),(5,.c _),(10,.c _)],[_,_]⟩ (Weak.mk [true,true] ⟨R,R,R,R,R,R,R,T⟩ O)<|qK 2 0 O O (Nat×List ByteArray) (fun ⟨k,u⟩=>[(11,vI k),(2,vSs u)]) (fun ⟨k,u⟩=>[]) (fun ⟨k,u⟩=>k<=l.length/\(u.length+bY (l.drop k)<=1000000)/\((bP n.Bufs U (bd.map Bd.Name) W 0 l)=bP n.Bufs u (bd.map Bd.Name) W k (l.drop k))) (fun ⟨k,u⟩=>l.length-k) ⟨⟨0,U⟩,⟨zA,by simpa using hU,O⟩,Weak.mk [true,true] ⟨R,VLe.of_eq (O),R,R,R,R,R,T⟩ O⟩ ?_
 rintro ⟨k,u⟩ ⟨hk,hub,hp⟩
 show AWP _ _ _ _ _ ⟨[(11,vI k),(2,vSs u)]++_,[]++_⟩
 refine zJ<|G O<|A O<|A O<|qB O D<|yG O<|Y<|zE O (fun c1=>?_) (fun c1=>?_)
 ·try simp only [sx] at c1
  obtain ⟨s,hs⟩:=qY l k zA
  have hsw:=yU (qA hs)
  have hsb:=St.body_wt s
  have hsn:=stsN_drop hs
  have hse:=zIy s
  have hsm:=zNj (qA hs)
  have hcl:=chkS_len n.Bufs s u (bd.map Bd.Name) (W++[(k:Int)])
  refine zK<|zJ<|zQ<|G O<|zW O (zNa O el38 zr3)<|A O<|zV O O (zMt O el38 O O uA uA) ?_
  rintro _ _ ⟨sv3,rfl,rfl⟩
  refine A O<|zW O (qZ O el38 zr3 O O O O)<|zV O O (yN 0 O el38 O O O uA uA) ?_
  rintro _ _ ⟨sv4,rfl,rfl⟩
  refine A O<|Y<|zJ<|zJ<|zY _ (Weak.vecEq 0 O (rows':=(W++[(k:Int)]).map fun i=>[cI i]) uG)<|zY _ (yT 0 O (regs':=[(27,_),(12,_)]) (μ':=[_,_]) ⟨FLe.sl,FLe.sl,T⟩ ⟨EFle.refl _,EFle.refl _,T⟩)<|qU 9 mixed uC O O<|zN O O (zU O kE O (J 1 O) O)<|zN O O (zO O O)<|zN O O (zO O O)<|zN O O (zO O O)<|zN O O (zO O O)<|zN O O (qE O D O O zA (wJ uB))<|zN O O (zU O zDh O zZ O)<|zN O O (qG O ok79 (ref30_one n bd u s hn zA (by have:=yU (qA hs);omega) zA) ⟨R,O,R,O,R,O,R,O,T⟩)<|zN O O (qX O O)<|yP<|Y<|G O<|A O<|yK O<|Y<|zE O (fun c2=>?_) (fun c2=>?_)
  ·try simp only [sx] at c2
   have hx0:=chkS_no (here:=W++[(k:Int)]) (B:=n.Bufs) (U:=u) (sc:=(bd.map Bd.Name)) (s:=s) c2
   refine G O<|A O<|A O<|yF [some 1,none,none] O zr87 pl87<|rStR 0 sz87 O<|Y<|zH<|fin1 (zP agg87 O (J 0 O) O) ?_
   rw [zFe hs hp (by rw [hx0];exact c2),hx0];rfl
  ·try simp only [sx] at c2
   have hin:=zXi (here:=W++[(k:Int)]) (B:=n.Bufs) (U:=u) (sc:=(bd.map Bd.Name)) (s:=s) c2
   refine zK<|G O<|A O<|A O<|Y<|zJ<|G O<|A O<|A O<|qC O D zA (wJ uB)<|qQ O zAm<|zI one3 zZ O<|yE O<|Y<|zE O (fun c3=>?_) (fun c3=>?_)
   ·try simp only [sx] at c3
    rw [zOb c3,zOb c3,←map_bd] at hin
    refine zJ<|kI 9 1 [⟨0,.q []⟩,⟨1,.q []⟩,⟨3,.q []⟩,⟨4,.q []⟩,⟨5,.q []⟩,⟨6,.q []⟩,⟨7,.q []⟩,⟨8,.q []⟩,⟨2,.e 0 []⟩] mixed uC uC O O O<|zX O<|zX O<|zX O<|zX O<|zX O<|zX O<|zX O<|zX O<|zX O<|zBb<|qF O zB O O (zNa O el85 zr9)<|qF O zB O O (zO O O)<|qF O zB O O (zO O O)<|qF O zB O O (zO O O)<|qF O zB O O (qE O D O O zA (wJ uB))<|qF O zB O O (qM O zAh O)<|qF O zB O O (zF O one9 O zZ O)<|qF O zB O O (qZ O el85 zr9 O O O O)<|zJf O O zB O O (zMt O el85 O O uA uA) ?_
    rintro _ _ ⟨sv5,rfl,rfl⟩
    refine ⟨_,O,?_⟩
    refine zAx O<|zV O O (yN 0 O el85 O O O uA uA) ?_
    rintro _ _ ⟨sv6,rfl,rfl⟩
    refine A O<|Y<|kI 15 1 [⟨0,.q []⟩,⟨1,.q []⟩,⟨3,.q []⟩,⟨4,.q []⟩,⟨5,.q []⟩,⟨6,.q []⟩,⟨7,.q []⟩,⟨8,.q []⟩,⟨9,.q []⟩,⟨10,.q []⟩,⟨11,.q []⟩,⟨12,.q []⟩,⟨13,.q []⟩,⟨14,.q []⟩,⟨2,.e 0 []⟩] mixed uC uC O O O<|zX O<|zX O<|zX O<|zX O<|zX O<|zX O<|zX O<|zX O<|zX O<|zX O<|zX O<|zX O<|zX O<|zX O<|zX O<|zBb<|qF O zB O O (zNa O zWq zr147)<|qF O zB O O (zO O O)<|qF O zB O O (zO O O)<|qF O zB O O (zO O O)<|qF O zB O O (qE O D O O zA (wJ uB))<|qF O zB O O (qM O zAh O)<|qF O zB O O (zF O one9 O zZ O)<|qF O zB O O (zO O O)<|qF O zB O O (zO O O)<|qF O zB O O (qE O D O O zA (wJ uB))<|qF O zB O O (qM O zAp O)<|qF O zB O O (zF O one3 O zZ O)<|qF O zB O O (zCr O zr147 pl147 O)<|qF O zB O O (qZ O zWq zr147 O O O O)<|zJf O O zB O O (zMt O zWq O O uA uA) ?_
    rintro _ _ ⟨sv7,rfl,rfl⟩
    refine ⟨_,O,?_⟩
    refine zAx O<|zV O O (yN 0 O zWq O O O uA uA) ?_
    rintro _ _ ⟨sv8,rfl,rfl⟩
    refine A O<|Y<|zJ<|zY _ (Weak.vecEq 1 O (rows':=(u++[s.Name]).map fun s=>[cS s]) uG)<|zY _ (yT 1 O (regs':=[(2,_),(57,_)]) (μ':=[_,_,_]) ⟨FLe.sl,FLe.sl,T⟩ ⟨EFle.refl _,EFle.refl _,EFle.refl _,T⟩)<|zY _ (Weak.vecEq 0 O (rows':=(bd++[(⟨s.Name,s.Many⟩:Bd)]).map Bd.cells) (by rw [List.map_append];rfl))<|zY _ (yT 0 O (regs':=[(14,_),(73,_)]) (μ':=[_,_]) ⟨FLe.sl,FLe.sl,T⟩ ⟨EFle.refl _,EFle.refl _,T⟩)<|kI 11 1 [⟨0,.q [2]⟩,⟨1,.q []⟩,⟨2,.q []⟩,⟨3,.q []⟩,⟨4,.q []⟩,⟨5,.q []⟩,⟨6,.q []⟩,⟨7,.q []⟩,⟨8,.q []⟩,⟨9,.q []⟩,⟨10,.f 0⟩] mixed uC uC O O O<|zX O<|zX O<|zX O<|zX O<|zX O<|zX O<|zX O<|zX O<|zX O<|zX O<|zOo O O (zEq (qH [some 1,some 1,none] O zr87 O)) ⟨_,_,0,O,O⟩<|zBb<|qF O zB O O (zU O kE O (J 0 O) O)<|qF O zB O O (zO O O)<|qF O zB O O (zO O O)<|qF O zB O O (zO O O)<|qF O zB O O (zO O O)<|qF O zB O O (qE O D O O zA (wJ uB))<|qF O zB O O (qM O kV O)<|qF O zB O O (zF O kU O zZ O)<|qF O zB O O (zO O O)<|qF O zB O O (qG O ok39 (ih s (qA hs) (bd++[(⟨s.Name,s.Many⟩:Bd)]) (u++[s.Name]) (W++[(k:Int)]) (by first|omega|(simp;omega)) (by first|omega|(simp;omega)) uE) ⟨R,O,R,O,R,O,R,O,R,O,T⟩)<|zNl O O ?_
    rintro _ _ ⟨b9,rfl,rfl⟩
    exact r5
   ·try simp only [sx] at c3
    rw [zSy c3,zSy c3] at hin
    refine zK<|zJ<|kI 11 1 [⟨0,.q [2]⟩,⟨1,.q []⟩,⟨2,.q []⟩,⟨3,.q []⟩,⟨4,.q []⟩,⟨5,.q []⟩,⟨6,.q []⟩,⟨7,.q []⟩,⟨8,.q []⟩,⟨9,.q []⟩,⟨10,.f 0⟩] mixed uC uC O O O<|zX O<|zX O<|zX O<|zX O<|zX O<|zX O<|zX O<|zX O<|zX O<|zX O<|zOo O O (zEq (qH [some 1,some 1,none] O zr87 O)) ⟨_,_,0,O,O⟩<|zBb<|qF O zB O O (zU O kE O (J 0 O) O)<|qF O zB O O (zO O O)<|qF O zB O O (zO O O)<|qF O zB O O (zO O O)<|qF O zB O O (zO O O)<|qF O zB O O (qE O D O O zA (wJ uB))<|qF O zB O O (qM O kV O)<|qF O zB O O (zF O kU O zZ O)<|qF O zB O O (zO O O)<|qF O zB O O (qG O ok39 (ih s (qA hs) bd u (W++[(k:Int)]) (by first|omega|(simp;omega)) (by first|omega|(simp;omega)) uE) ⟨R,O,R,O,R,O,R,O,R,O,T⟩)<|zNl O O ?_
    rintro _ _ ⟨b10,rfl,rfl⟩
    exact r5
 ·try simp only [sx] at c1
  refine qN<|G O<|A O<|yF [none,some 1,none] O zr87 pl87<|rStR 0 sz87 O<|Y<|zH<|fin1 (zP agg87 O (J 0 O) O) ?_
  rw [zTq hp zA];rfl
theorem zUz (n:Ns) (hn:n.Ok) (s:St) (hl:bC s.Body<=900000):∀(bd:List Bd) (U:List ByteArray) (W:List Int),U.length+bY s.Body<=1000000->bd.length+bY s.Body<=1000000->W.length+bY s.Body<=1000000->Pur cfg 39 [vNs n,jV bd,vSs U,bU s.Body,vIs W] (ckC (bP n.Bufs U (bd.map Bd.Name) W 0 s.Body)):=by
  induction s using St.ind with
  |_ s ih=>
    intro bd U W hU hb hW
    refine zKd n bd U s.Body W hn hU hb hW hl fun a ha=>ih a ha ?_
    have:=yU ha;have:=St.body_wt a;omega
theorem ref30_body (n:Ns) (bd:List Bd) (U:List ByteArray) (l:List St) (W:List Int)  (hn:n.Ok) (hU:U.length+bY l<=1000000) (hb:bd.length+bY l<=1000000) (hW:W.length+bY l<=1000000) (hl:bC l<=900000):Pur cfg 39 [vNs n,jV bd,vSs U,bU l,vIs W] (ckC (bP n.Bufs U (bd.map Bd.Name) W 0 l)):=
  zKd n bd U l W hn hU hb hW hl fun s hs=>zUz n hn s (by have:=yU hs;have:=St.body_wt s;omega)
theorem zGu (n:Ns) (hn:n.Ok) (hw:bC n.Body<=900000):
    Pur cfg 12 [vNs n] (.tup [vIs (bJ n).1,vI (bJ n).2]):=by
 refine zR Tryz.func12 O Tryz.ntmps12 Tryz.results12 O ?_
 intro z hz
 refine G O<|zV O O (qJ O O) ?_
 rintro _ _ ⟨b1,rfl,rfl⟩
 refine yI 1 O<|A O<|Y<|zJ<|G O<|zD O zAi<|zI kU (J 0 O) O<|qD O ok36 (ref30_depth 41 n.Body 41 zA zA O) ⟨R,O,R,O,T⟩<|zW O (yC O O O)<|Y<|zE O (fun c1=>?_) (fun c1=>?_)
 ·try simp only [sx] at c1
  have hwi:=within_f c1
  refine G O<|yI 1 O<|A O<|Y<|zH<|fin2 (rs_c O) (rs_c O) ?_
  rw [zUd hwi];rfl
 ·try simp only [sx] at c1
  have hwi:=within_t c1
  refine zK<|zJ<|G O<|zD O zAi<|zI kU (J 0 O) O<|qD O ok37 (ref30_size n.Body 2000 2000 zA zA O) ⟨R,O,R,O,T⟩<|zW O (yC O O O)<|A O<|rL0 O (fun g3_4=>zG O zAj O) O<|rL1 15 O (fun g3_4=>zF O zDk O (J 0 O) O) O<|rL1 16 O (fun g3_4=>yJ O el22 O) O<|rL1 17 O (fun g3_4=>yC O O O) O<|r_or O (fun h=>(lzf h))<|Y<|zE O (fun c2=>?_) (fun c2=>?_)
  ·try simp only [sx] at c2
   refine G O<|yI 1 O<|A O<|Y<|zH<|fin2 (rs_c O) (rs_c O) ?_
   rw [validN_2 hwi zA];rfl
  ·try simp only [sx] at c2
   have hnum:=numB_ok (l:=n.Body) (m:=2000) zA
   refine zK<|zJ<|G O<|zM kE (J 0 O) O<|qD O ok38 (ref30_bufs n hn) ⟨R,O,T⟩<|A O<|Y<|G O<|A O<|yK O<|Y<|zE O (fun c3=>?_) (fun c3=>?_)
   ·try simp only [sx] at c3
    refine G O<|A O<|yI 1 O<|A O<|Y<|zH<|fin2 (rs_c O) (rs_c O) ?_
    rw [validN_b hwi zA c3];rfl
   ·try simp only [sx] at c3
    refine zK<|G O<|zM kE (J 0 O) O<|zD O zAi<|zI kU (J 0 O) O<|qD O ok39 (ref30_body n [] [] n.Body [] hn uE uE uE hw) ⟨R,O,VLe.nil,O,VLe.nil,O,R,O,VLe.nil,O,T⟩<|zV O O (qH [some 1,some 1,none] O zr87 O) ?_
    rintro _ _ ⟨b2,rfl,rfl⟩
    refine rStR 0 sz87 O<|Y<|zJ<|qU 6 mixed uC O O<|zN O O (zG O fd87_1 O)<|zN O O (zF O zBs O (J 0 O) O)<|zN O O (zG O fd87_2 O)<|zN O O (zF O zCq O (J 0 O) O)<|zN O O (qX O O)<|zN O O (qX O O)<|yP<|Y<|zH<|fin2 (rs_c O) (rs_c O) ?_
    rw [zNf hwi zA c3];rfl
end Go.W
end
section
set_option maxRecDepth 10000
namespace Go.W
open Go Go.Eng Go.Proofs Go.L41 Go.Br
attribute [local irreducible] AWP RWP TD fH
theorem ok13:bA Tryz.prog 13=true:=by kernel_rfl
theorem zFi (l:List St) (ih:∀s,s∈l->∀(m:Nat) (x:Int),m<=5000->x=m->Pur cfg 13 [bU s.Body,vI x] (vI (jU s.Body m))) (m:Nat) (x:Int) (hf:pZ l) (hl:l.length<=140737488355328) (hm:m<=5000) (hx:x=m):
    Pur cfg 13 [bU l,vI x] (vI (jU l m)):=by
 refine zR Tryz.func13 O Tryz.ntmps13 Tryz.results13 O ?_
 intro z hz
 have hwB:wB m<=5700000000000000000:=by unfold wB;omega
 refine G O<|A O<|Y<|G O<|A O<|qB O D<|A O<|Y<|zJ<|G O<|A O<|Y<|zQ<|zY ⟨[(6,.c _),(5,.c _),(0,.c _),(1,.c _)],[]⟩ (Weak.mk [] ⟨R,R,R,R,T⟩ O) ?_
 refine qK 2 0 O O (Nat×Nat) (fun ⟨k,n⟩=>[(6,vI k),(5,vI n)]) (fun ⟨k,n⟩=>[]) (fun ⟨k,n⟩=>k<=l.length/\(n<=wB m)/\(l.length<=n)/\(jU l m=fO (l.drop k) m n)) (fun ⟨k,n⟩=>l.length-k) ⟨⟨0,l.length⟩,⟨zA,by unfold wB;omega,zA,O⟩,Weak.mk [] ⟨R,VLe.of_eq (congrArg vI uD),R,R,T⟩ O⟩ ?_
 rintro ⟨k,n⟩ ⟨hk,hn1,hn2,hp⟩
 show AWP _ _ _ _ _ ⟨[(6,vI k),(5,vI n)]++_,[]++_⟩
 refine zJ<|G O<|A O<|A O<|qB O D<|yG O<|A O<|rL0 O (fun g3_4=>zO O O) O<|rL0 O (fun g3_4=>zO O O) O<|rLz [(14,_),(15,_)] O B ⟨O,O,O,O,T⟩ (fun g3_4=>wP O O O) O<|yR O (fun h=>h)<|Y<|zE O (fun c1=>?_) (fun c1=>?_)
 ·try simp only [sx] at c1
  obtain ⟨s,hs⟩:=qY l k zA
  have hsf:=zTh hf s (qA hs)
  obtain ⟨f1,f2,f3,f4,f5⟩:=St.fit_eq hsf
  have hwl:=weigh_lt (n:=n) hs hf hm zA zA
  refine zK<|zJ<|zQ<|qU 30 mixed uC O O<|zN O O (zO O O)<|zN O O (zO O O)<|zN O O (zO O O)<|zN O O (qE O D O O zA (wJ hs))<|zN O O (qM O zBc O)<|zN O O (zU O yX O zZ O)<|zN O O (zO O O)<|zN O O (qG O ok40 (base_Weigh s.E m x f3 zA hx) ⟨R,O,R,O,T⟩)<|zN O O (zEe O O O ⟨zA,zA⟩)<|zN O O (zO O O)<|zN O O (zO O O)<|zN O O (qE O D O O zA (wJ hs))<|zN O O (qM O zEt O)<|zN O O (zF O wQ O zZ O)<|zN O O (zFo [none,none,none,none,none,none,none,none,none,none,some 2,none,some 13] O zr54 pl54 O O)<|zN O O (zO O O)<|zN O O (qG O ok40 (base_Weigh (rK s.Idx) m x (idxE_fit f1 f2) zA hx) ⟨R,O,R,O,T⟩)<|zN O O (zEe O O O ⟨zA,zA⟩)<|zN O O (zO O O)<|zN O O (zO O O)<|zN O O (qE O D O O zA (wJ hs))<|zN O O (qM O kV O)<|zN O O (zF O kU O zZ O)<|zN O O (zO O O)<|zN O O (zO O O)<|zN O O (yA O O O ⟨zA,zA⟩)<|zN O O (zIt O O O)<|zN O O (qG O ok13 (ih s (qA hs) (m-n) _ zA zA) ⟨R,O,R,O,T⟩)<|zN O O (zEe O O O ⟨zA,zA⟩)<|zN O O (qX O O)<|yP<|Y<|zT O<|A O<|qI O ⟨zA,zA⟩<|A O<|Y ?_
  refine ⟨⟨k+1,n+fW s.E m+fW (rK s.Idx) m+jU s.Body (m-n)⟩,⟨zA,hwl,zA,weighSs_next hs hp zA⟩,(by show l.length-(k+1)<l.length-k;omega),Weak.mk [] ⟨R,VLe.of_eq (congrArg vI zA),R,R,T⟩ O⟩
 ·try simp only [sx] at c1
  refine qN<|G O<|A O<|A O<|Y<|zH<|zS O ?_
  exact congrArg vI (by rw [←weighSs_end hp hx zA])
theorem zLz (s:St):∀(m:Nat) (x:Int),s.fit->m<=5000->x=m->Pur cfg 13 [bU s.Body,vI x] (vI (jU s.Body m)):=by
  induction s using St.ind with
  |_ s ih=>
    intro m x hf hm hx
    obtain ⟨_,_,_,f4,f5⟩:=St.fit_eq hf
    exact zFi s.Body (fun a ha m x h1 h2=>ih a ha m x (zTh f5 a ha) h1 h2) m x f5 f4 hm hx
theorem zXo (l:List St) (m:Nat) (x:Int) (hf:pZ l) (hl:l.length<=140737488355328) (hm:m<=5000) (hx:x=m):Pur cfg 13 [bU l,vI x] (vI (jU l m)):=
  zFi l (fun a ha m x h1 h2=>zLz a m x (zTh hf a ha) h1 h2) m x hf hl hm hx
end Go.W
end
section
set_option maxRecDepth 10000
namespace Go.W
open Go Go.Eng Go.Proofs Go.L41 Go.Br
attribute [local irreducible] AWP RWP TD fH
end Go.W
end
section
set_option maxRecDepth 10000
namespace Go.W
open Go Go.Eng Go.Proofs Go.L41 Go.Br
attribute [local irreducible] AWP RWP TD fH
theorem ok81:bA Tryz.prog 81=true:=by kernel_rfl
theorem ok82:bA Tryz.prog 82=true:=by kernel_rfl
theorem zr38:fF Tryz.prog 38=some [(Value.slice none 0 0)]:=by kernel_rfl
theorem visit_step (y:C) (J Jx:List (St×List Int)->List E->Prop) (M:Nat) (hy:∀(pre:List (St×List Int)) (x:St×List Int) (μ:List E),x.2≠[]->x.1.wt<=536870912->pre.length+1<=M->J pre μ->FnCon cfg y [vSt x.1,vIs x.2] μ fun r μ'=>∃b,r=.c (.lit (.bool b))/\(b=true->J (pre++[x]) μ')/\(b=false->Jx (pre++[x]) μ')) (l:List St) (hl:bC l<=536870912) (ih:∀s,s∈l->∀(way:List Int) (pre0:List (St×List Int)) (μ:List E),way.length+bY s.Body<=1073741824->pre0.length+bY s.Body<=M->J pre0 μ->Con cfg 81 [bU s.Body,vIs way,.c y] μ fun r μ'=>∃b,r=.c (.lit (.bool b))/\(b=true->J (pre0++gM way 0 s.Body) μ')/\(b=false->∃pre x suf,gM way 0 s.Body=pre++x::suf/\Jx (pre0++pre++[x]) μ')) (way:List Int) (hw:way.length+bY l<=1073741824) (pre0:List (St×List Int)) (hM:pre0.length+bY l<=M) (μ:List E) (h0:J pre0 μ):
    Con cfg 81 [bU l,vIs way,.c y] μ fun r μ'=>∃b,r=.c (.lit (.bool b))/\(b=true->J (pre0++gM way 0 l) μ')/\(b=false->∃pre x suf,gM way 0 l=pre++x::suf/\Jx (pre0++pre++[x]) μ'):=by
 refine zR Tryz.func81 O Tryz.ntmps81 Tryz.results81 O ?_
 intro z hz
 have hll:=kX l
 have hlN:=zEh l
 refine G O<|A O<|Y<|zJ<|G O<|A O<|qB O D<|A O<|Y<|zQ<|zY ⟨[(11,.c _),(0,.c _),(1,.c _),(2,.c _),(10,.c _)],_⟩ (Weak.regs ⟨R,R,R,R,R,T⟩)<|zDg 1 O (Nat×List E) (fun ⟨k,m⟩=>[(11,vI k)]) (fun ⟨k,m⟩=>m) (fun ⟨k,m⟩=>k<=l.length/\(J (pre0++gM way 0 (l.take k)) m)) (fun ⟨k,m⟩=>l.length-k) ⟨⟨0,μ⟩,⟨zA,by simpa [gM] using h0⟩,Weak.regs ⟨R,R,R,R,R,T⟩⟩ ?_
 rintro ⟨k,m⟩ ⟨hk,hJ⟩
 refine G O<|yG O<|Y<|zJ<|zE O (fun c1=>?_) (fun c1=>?_)
 ·try simp only [sx] at c1
  obtain ⟨s,hs⟩:=qY l k zA
  have hsN:=zNj (qA hs)
  have hse:=zIy s
  have hst:=stsN_take hs
  refine zK<|zJ<|zQ<|G O<|A O<|A O<|Y<|G O<|A O<|zV O O (zAy O ok108 (zIz way zA) ⟨R,O,T⟩) ?_
  rintro _ _ ⟨sv1,rfl,rfl⟩
  refine A O<|zW O (qZ O el38 zr3 O O O O)<|zV O O (yN 0 O el38 O O O zC zC) ?_
  rintro _ _ ⟨sv2,rfl,rfl⟩
  refine A O<|Y<|zJ<|zY _ (Weak.vecEq 0 O (rows':=(way++[(k:Int)]).map fun n=>[cI n]) uG)<|zY _ (yT 0 O (regs':=[(18,_),(8,_)]) (μ':=_) ⟨FLe.sl,FLe.sl,T⟩ (efles_refl _))<|zT O<|A O<|A O<|A O<|qC O D zA (wJ hs)<|zM zDh zZ O<|A O<|zV O O (zAb O O (hy _ (s,(way++[(k:Int)])) _ uD (by have:=yU (qA hs);show s.wt<=_;omega) (by rw [List.length_append,zSw];omega) hJ) ⟨R,O,R,O,T⟩) ?_
  rintro _ m1 ⟨y1,rfl,t1,f1⟩
  refine kN O<|A O<|rwp_split 27 O (fun h1=>?_) (fun h1=>?_)
  ·have hy1:y1=false:=by simpa using h1
   subst hy1
   refine zNq O O O O B (by simp [Lz,h1])<|zNq O O O O B (by simp [Lz,h1])<|zNq O O O O B (by simp [Lz,h1])<|zNq O O O O B (by simp [Lz,h1])<|zNq O O O O B (by simp [Lz,h1])<|zNq O O O O B (by simp [Lz,h1])<|zNq O O O O B (by simp [Lz,h1])<|zNq O O O O B (by simp [Lz,h1])<|zNq O O O O B (by simp [Lz,h1])<|zW O (det_pick O O)<|Y<|zE O (fun c2=>?_) (fun c2=>?_)
   ·refine G O<|A O<|Y<|zH<|zS O ?_
    exact ⟨false,O,fun h=>(by cases h),fun _=>⟨_,(s,(way++[(k:Int)])),_,pre_at1 hs,by simpa using f1 rfl⟩⟩
   ·exact absurd c2 zB
  ·have hy1:y1=true:=by simpa using h1
   subst hy1
   refine zBy O O O O B (by simp [Lz,h1]) (zO O O)<|zBy O O O O B (by simp [Lz,h1]) (zO O O)<|zBy O O O O B (by simp [Lz,h1]) (qE O D O O zA (wJ hs))<|zBy O O O O B (by simp [Lz,h1]) (qM O kV O)<|zBy O O O O B (by simp [Lz,h1]) (zF O kU O zZ O)<|zBy O O O O B (by simp [Lz,h1]) (zO O O)<|zBy O O O O B (by simp [Lz,h1]) (zO O O)<|rwp_yes O O O O B (by simp [Lz,h1]) (zBe O ok81 (ih s (qA hs) (way++[(k:Int)]) _ _ uE (by rw [List.length_append,List.length_append,zSw,List.length_singleton];omega) (t1 O)) ⟨R,O,R,O,R,O,T⟩) ?_
   rintro _ m2 ⟨y2,rfl,t2,f2⟩
   refine zBy O O O O B (by simp [Lz,h1]) (kJ O O)<|zW O (det_pick O O)<|Y<|zE O (fun c2=>?_) (fun c2=>?_)
   ·have hy2:y2=false:=by cases y2;rfl;exact absurd c2 zB
    subst hy2
    refine G O<|A O<|Y<|zH<|zS O ?_
    obtain ⟨pre,x,suf,h1,h2⟩:=f2 rfl
    exact ⟨false,O,fun h=>(by cases h),fun _=>⟨_,x,_,pre_at2 hs h1,by simpa using h2⟩⟩
   ·have hy2:y2=true:=by cases y2;exact absurd c2 zB;rfl
    subst hy2
    refine zK<|zT O<|qI O ⟨zA,zA⟩<|A O<|Y ?_
    refine ⟨⟨k+1,m2⟩,⟨zA,by rw [preL_next hs,preS_eq,←List.append_assoc];have:=t2 rfl;simpa using this⟩,(by show l.length-(k+1)<l.length-k;omega),Weak.regs ⟨R,R,R,R,R,T⟩⟩
 ·try simp only [sx] at c1
  refine qN<|G O<|A O<|Y<|zH<|zS O ?_
  rw [yV zA] at hJ
  exact ⟨true,O,fun _=>hJ,fun h=>(by cases h)⟩
theorem visit_body (y:C) (J Jx:List (St×List Int)->List E->Prop) (M:Nat) (hy:∀(pre:List (St×List Int)) (x:St×List Int) (μ:List E),x.2≠[]->x.1.wt<=536870912->pre.length+1<=M->J pre μ->FnCon cfg y [vSt x.1,vIs x.2] μ fun r μ'=>∃b,r=.c (.lit (.bool b))/\(b=true->J (pre++[x]) μ')/\(b=false->Jx (pre++[x]) μ')) (s:St) (hl:bC s.Body<=536870912):∀(way:List Int) (pre0:List (St×List Int)) (μ:List E),way.length+bY s.Body<=1073741824->pre0.length+bY s.Body<=M->J pre0 μ->Con cfg 81 [bU s.Body,vIs way,.c y] μ fun r μ'=>∃b,r=.c (.lit (.bool b))/\(b=true->J (pre0++gM way 0 s.Body) μ')/\(b=false->∃pre x suf,gM way 0 s.Body=pre++x::suf/\Jx (pre0++pre++[x]) μ'):=by
  induction s using St.ind with
  |_ s ih=>exact fun way pre0 μ hw hM h0=>visit_step y J Jx M hy s.Body hl (fun a ha=>ih a ha (by have:=yU ha;have:=St.body_wt a;omega)) way hw pre0 hM μ h0
theorem visit_con (y:C) (J Jx:List (St×List Int)->List E->Prop) (M:Nat) (hy:∀(pre:List (St×List Int)) (x:St×List Int) (μ:List E),x.2≠[]->x.1.wt<=536870912->pre.length+1<=M->J pre μ->FnCon cfg y [vSt x.1,vIs x.2] μ fun r μ'=>∃b,r=.c (.lit (.bool b))/\(b=true->J (pre++[x]) μ')/\(b=false->Jx (pre++[x]) μ')) (l:List St) (hl:bC l<=536870912) (way:List Int) (hw:way.length+bY l<=1073741824) (pre0:List (St×List Int)) (hM:pre0.length+bY l<=M) (μ:List E) (h0:J pre0 μ):Con cfg 81 [bU l,vIs way,.c y] μ fun r μ'=>∃b,r=.c (.lit (.bool b))/\(b=true->J (pre0++gM way 0 l) μ')/\(b=false->∃pre x suf,gM way 0 l=pre++x::suf/\Jx (pre0++pre++[x]) μ'):=
  visit_step y J Jx M hy l hl (fun s hs=>visit_body y J Jx M hy s (by have:=yU hs;have:=St.body_wt s;omega)) way hw pre0 hM μ h0
theorem zMh (l:List St) (way:List Int) (hw:way.length<=1073741824):
    Pur cfg 83 [bU l,vIs way] (bU (fM l way)):=by
 refine zR Tryz.func83 O Tryz.ntmps83 Tryz.results83 O ?_
 intro z hz
 refine G O<|yI 20 O<|Y<|G O<|A O<|yS _ (wC 56 20)<|Y<|zJ<|G O<|A O<|qB O el38<|A O<|Y<|zQ<|zY ⟨[(10,.c _),(0,.c _),(5,.c _),(8,.c _),(9,.c _)],[_]⟩ (Weak.mk [true] ⟨R,R,R,R,R,T⟩ O)<|qK 3 1 O O (Nat×Value×List St×List St) (fun ⟨k,sv,lc,out⟩=>[(10,vI k),(0,bU lc),(5,.c (.lit sv))]) (fun ⟨k,sv,lc,out⟩=>[E.vec sv 56 20 (out.map St.cells)]) (fun ⟨k,sv,lc,out⟩=>k<=way.length/\(out.length=k)/\(fM l way=trl (way.drop k) lc out)) (fun ⟨k,sv,lc,out⟩=>way.length-k) ⟨⟨0,(.slice none 0 0),l,[]⟩,⟨zA,O,O⟩,Weak.mk [true] ⟨R,R,R,R,R,T⟩ O⟩ ?_
 rintro ⟨k,sv,lc,out⟩ ⟨hk,ho,hp⟩
 show AWP _ _ _ _ _ ⟨[(10,vI k),(0,bU lc),(5,.c (.lit sv))]++_,[E.vec sv 56 20 (out.map St.cells)]++_⟩
 refine G O<|yG O<|Y<|zJ<|zE O (fun c1=>?_) (fun c1=>?_)
 ·try simp only [sx] at c1
  obtain ⟨i,hi⟩:=qY way k zA
  refine zK<|zJ<|zQ<|G O<|qC O el38 zA (getm uB)<|zI one3 zZ O<|A O<|Y<|zJ<|G O<|A O<|yG O<|A O<|rL0 O (fun g5_2=>zO O O) O<|rL0 O (fun g5_2=>zO O O) O<|rL1 18 O (fun g5_2=>yJ O D O) O<|rLz [(17,_),(19,_)] O B ⟨O,O,O,O,T⟩ (fun g5_2=>wF O O O) O<|r_or O (fun h=>(lzf h))<|Y<|zE O (fun c2=>?_) (fun c2=>?_)
  ·try simp only [sx] at c2
   refine G O<|yI 20 O<|Y<|zH<|zS O ?_
   rw [show fM l way=[] from trl_no hi hp zA];rfl
  ·try simp only [sx] at c2
   have hs:=zUi (l:=lc) (i:=i) zA
   refine zK<|G O<|A O<|A O<|A O<|qC O D zA (wJ hs)<|zM zDh zZ O<|zW O (qZ O D zr56 O O O O)<|zV O O (yN 0 O D O O O zC zC) ?_
   rintro _ _ ⟨sv2,rfl,rfl⟩
   refine A O<|Y<|zT O<|A O<|A O<|qC O D zA (wJ hs)<|qQ O kV<|zI kU zZ O<|A O<|Y<|zT O<|qI O ⟨zA,zA⟩<|A O<|Y ?_
   refine ⟨⟨k+1,sv2,(lc.getD i.toNat zSt).Body,out++[lc.getD i.toNat zSt]⟩,⟨zA,uE,trl_next hi hp zA⟩,(by show way.length-(k+1)<way.length-k;omega),Weak.mk [true] ⟨R,R,R,R,R,T⟩ (by exact zFz (by rw [List.map_append,List.map_singleton,St.cells_eq];rfl))⟩
 ·try simp only [sx] at c1
  refine qN<|zJ<|zY _ (yT 0 O (regs':=[(5,_)]) (μ':=[]) ⟨FLe.sl,T⟩ T)<|zT O<|A O<|A O<|Y<|zH<|zS O ?_
  rw [show fM l way=out from trl_end hp zA]
theorem zVv (bb:Nat) (t:ByteArray) (s:St) (w:List Int) (hw:w≠[]):
    Con cfg 82 [vSt s,vIs w,.c (.iptr [cS t]),.c (.lit (.pointer (some ⟨bb,0,none⟩)))] [E.row bb 38 [sH none]] fun r μ'=>r=vB (!nC t s)/\μ'=[E.row bb 38 [sH (if nC t s=true then some w else none)]]:=by
 refine Con.drop<|zR Tryz.func82 O Tryz.ntmps82 Tryz.results82 O ?_
 intro z hz
 refine G O<|zV O O (qJ O O) ?_
 rintro _ _ ⟨b1,rfl,rfl⟩
 refine A O<|Y<|zJ<|G O<|zD O zAm<|zI one3 (J 0 O) O<|yE O<|A O<|rL0 O (fun g1_3=>zG O zAh O) O<|rL1 11 O (fun g1_3=>zF O one9 O (J 0 O) O) O<|rL0 O (fun g1_3=>zF O one9 O zZ O) O<|rLz [(12,_),(13,_)] O B ⟨O,O,O,O,T⟩ (fun g1_3=>zLs O O O) O<|yR O (fun h=>h)<|Y<|zE O (fun c1=>?_) (fun c1=>?_)
 ·refine zT O<|A O<|rStR 1 sz38 O<|Y<|G O<|zI zBs (J 1 O) O<|zW O (zWy (q:=(some w)) O el38 O O (by intro u h;cases h;exact hw))<|A O<|Y<|zH<|zS O ?_
  have hc:nC t s=true:=c1
  exact ⟨by rw [hc];rfl,[_],by rw [if_pos hc];rfl⟩
 ·refine zK<|G O<|zI zBs (J 1 O) O<|zW O (zWy (q:=none) O el38 O O (by intro u h;cases h))<|A O<|Y<|zH<|zS O ?_
  have hc:nC t s=false:=c1
  exact ⟨by rw [hc];rfl,[_],by rw [if_neg (by rw [hc];simp)];rfl⟩
theorem visit_find (bb:Nat) (t:ByteArray) (l:List St) (hl:bC l<=536870912):Con cfg 81 [bU l,vIs [],.c (.fn (.func 82) [] [.iptr [cS t],.lit (.pointer (some ⟨bb,0,none⟩))])] [E.row bb 38 [sH none]] fun r μ'=>r=vB (lG l t).isNone/\μ'=[E.row bb 38 [sH (lG l t)]]:=by
  have hN:=zGs l
  refine (visit_con (.fn (.func 82) [] [.iptr [cS t],.lit (.pointer (some ⟨bb,0,none⟩))]) (fun pre μ=>pre.any (tB t)=false/\μ=[E.row bb 38 [sH none]]) (fun pre μ=>∃p x,pre=p++[x]/\p.any (tB t)=false/\tB t x=true/\μ=[E.row bb 38 [sH (some x.2)]]) (bY l) (fun pre x μ hx hxw hM hJ=>?_) l hl [] uE [] uD _ ⟨O,O⟩).mono ?_
  · obtain ⟨h1,rfl⟩:=hJ
    refine (FnCon.of_con (first:=[]) (cap:=[.iptr [cS t],.lit (.pointer (some ⟨bb,0,none⟩))]) ok82 (zVv bb t x.1 x.2 hx)).mono ?_
    rintro r μ' ⟨rfl,rfl⟩
    refine ⟨!nC t x.1,O,fun h=>?_,fun h=>?_⟩
    · have hc:nC t x.1=false:=by simpa using h
      exact ⟨any_one h1 hc,by rw [hc];rfl⟩
    · have hc:nC t x.1=true:=by simpa using h
      exact ⟨pre,x,O,h1,hc,by rw [hc];rfl⟩
  · rintro r μ' ⟨b,rfl,h1,h2⟩
    cases b with
    |true=>
      obtain ⟨k1,k2⟩:=h1 rfl
      have e:lG l t=none:=findA_none k1
      exact ⟨by rw [e];rfl,by rw [e];exact k2⟩
    |false=>
      obtain ⟨pre,x,suf,h3,p,y,h4,h5,h6,h7⟩:=h2 rfl
      have e:lG l t=some y.2:=by
        obtain ⟨e1,e2⟩:=List.append_inj' h4 rfl
        have e3:x=y:=by simpa using e2
        have e4:pre=p:=by simpa using e1
        unfold lG
        rw [h3,e3,e4]
        exact findA_some h5 h6
      exact ⟨by rw [e];rfl,by rw [e];exact h7⟩
theorem zOg (n:Ns) (t:ByteArray) (hl:bC n.Body<=536870912):
    Pur cfg 44 [vNs n,vS t] (.tup [vIs ((lG n.Body t).getD []),vB (lG n.Body t).isSome]):=by
 refine zR Tryz.func44 O Tryz.ntmps44 Tryz.results44 O ?_
 intro z hz
 refine G O<|zV O O (qJ O O) ?_
 rintro _ _ ⟨b1,rfl,rfl⟩
 refine zV O O (qJ O O) ?_
 rintro _ _ ⟨b2,rfl,rfl⟩
 refine yS _ (yW 0 O 3 _ PLe.ptr)<|yI 1 O<|A O<|Y<|G O<|zV O O (qV O zr38) ?_
 rintro _ _ ⟨b3,rfl,rfl⟩
 refine Y<|G O<|zD O zAi<|zI kU (J 1 O) O<|zW O (zEk O O O O O)<|zV O O (ope_call_reg 0 O O ok81 (visit_find _ t n.Body hl) ⟨R,O,VLe.nil,O,R,O,T⟩) ?_
 rintro _ _ ⟨rfl,rfl⟩
 refine Y<|zJ<|qU 5 mixed uC O O<|zN O O (zF O zBs O (J 0 O) O)<|zN O O (zF O zBs O (J 0 O) O)<|zN O O (det_fnil_ne (q:=(lG n.Body t)) O el38 O O (fun u h=>findN_ne h))<|zN O O (qX O O)<|zN O O (qX O O)<|yP<|Y<|zY ⟨[(4,.c _),(5,.c _)],_⟩ (Weak.regs ⟨fndC_le _,R,T⟩)<|zH<|fin2 (rs_c O) (rs_c O) ?_
 exact O
end Go.W
end
section
set_option maxRecDepth 10000
namespace Go.W
open Go Go.Eng Go.Proofs Go.L41 Go.Br
attribute [local irreducible] AWP RWP TD fH
end Go.W
end
section
set_option maxRecDepth 10000
namespace Go.W
open Go Go.Eng Go.Proofs Go.L41 Go.Br
attribute [local irreducible] AWP RWP TD fH
theorem zXp (a b:List Int) (ha:a.length<=17592186044416):
    Pur cfg 42 [vIs a,vIs b] (vB (decide (a=b))):=by
 refine zR Tryz.func42 O Tryz.ntmps42 Tryz.results42 O ?_
 intro z hz
 refine G O<|A O<|Y<|zJ<|G O<|A O<|qB O el38<|A O<|qB O el38<|yK O<|Y<|zE O (fun c1=>?_) (fun c1=>?_)
 ·exact o7
 ·try simp only [sx] at c1
  refine zK<|zJ<|G O<|A O<|Y<|zQ<|zY ⟨[(5,.c _),(0,.c _),(1,.c _)],[]⟩ (Weak.mk [] ⟨R,R,R,T⟩ O)<|qK 1 0 O O (Nat) (fun k=>[(5,vI k)]) (fun k=>[]) (fun k=>k<=a.length/\(a.take k=b.take k)) (fun k=>a.length-k) ⟨0,⟨zA,O⟩,Weak.mk [] ⟨R,R,R,T⟩ O⟩ ?_
  rintro k ⟨hk,hp⟩
  refine zJ<|G O<|A O<|A O<|qB O el38<|yG O<|Y<|zE O (fun c2=>?_) (fun c2=>?_)
  ·try simp only [sx] at c2
   obtain ⟨x,hx⟩:=qY a k zA
   obtain ⟨y,hy⟩:=qY b k zA
   refine zK<|zJ<|zQ<|zJ<|qU 9 mixed uC O O<|zN O O (zO O O)<|zN O O (zO O O)<|zN O O (qE O el38 O O zA (getm uB))<|zN O O (zF O one3 O zZ O)<|zN O O (zO O O)<|zN O O (zO O O)<|zN O O (qE O el38 O O zA (getm uB))<|zN O O (zF O one3 O zZ O)<|zN O O (kA O O O)<|yP<|Y<|zE O (fun c3=>?_) (fun c3=>?_)
   ·exact l6
   ·exact r6
  ·exact n7
end Go.W
end
