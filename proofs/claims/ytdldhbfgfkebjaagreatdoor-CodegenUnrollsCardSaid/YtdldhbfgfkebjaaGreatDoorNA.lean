/-
  What functions compute.
  Conditions: none.
-/
import Derived.Test.YtdldhbfgfkebjaaGreatDoorVC
import Derived.Test.YtdldhbfgfkebjaaGreatDoorEngZ
import Derived.Test.YtdldhbfgfkebjaaGreatDoorPlain2
set_option linter.unusedSimpArgs false
set_option linter.unusedVariables false
set_option maxRecDepth 10000
namespace Go.W
open Go Go.Eng Go.Proofs Go.L41 Go.Br
attribute [local irreducible] AWP RWP TD fP
theorem zIm:lK Tryz.prog 69=some 8:=by kernel_rfl
theorem el22:dZ Tryz.prog 22=some (69,8,88):=by kernel_rfl
theorem el23:dZ Tryz.prog 23=some (59,20,256):=by kernel_rfl
theorem zAn:bD Tryz.prog 25 0=some (0,22):=by kernel_rfl
theorem zBb:bD Tryz.prog 59 7=some (19,23):=by kernel_rfl
theorem zEc:bD Tryz.prog 69 0=some (0,9):=by kernel_rfl
theorem zEy:bD Tryz.prog 69 1=some (1,31):=by kernel_rfl
theorem zCn:bD Tryz.prog 69 2=some (6,67):=by kernel_rfl
theorem zIb:bD Tryz.prog 69 3=some (7,3):=by kernel_rfl
theorem ok68:bA Tryz.prog 68=true:=by kernel_rfl
theorem ok69:bA Tryz.prog 69=true:=by kernel_rfl
theorem ok93:bA Tryz.prog 93=true:=by kernel_rfl
theorem ok98:bA Tryz.prog 98=true:=by kernel_rfl
theorem ok99:bA Tryz.prog 99=true:=by kernel_rfl
theorem ok103:bA Tryz.prog 103=true:=by kernel_rfl
theorem ok141:bA Tryz.prog 141=true:=by kernel_rfl
theorem ok142:bA Tryz.prog 142=true:=by kernel_rfl
theorem ok153:bA Tryz.prog 153=true:=by kernel_rfl
theorem ok167:bA Tryz.prog 167=true:=by kernel_rfl
theorem ok181:bA Tryz.prog 181=true:=by kernel_rfl
theorem zDg:jK Tryz.prog 22=true:=by kernel_rfl
theorem zAh:jK Tryz.prog 23=true:=by kernel_rfl
theorem zCy:jK Tryz.prog 67=true:=by kernel_rfl
theorem pl69:dN Tryz.prog 69=some [(0,1),(1,5),(6,1),(7,1)]:=by kernel_rfl
theorem sz67:(Tryz.prog.info? 67).map (·.size)=some 1:=by kernel_rfl
theorem sz69:(Tryz.prog.info? 69).map (·.size)=some 8:=by kernel_rfl
theorem zr69:dL Tryz.prog 69=some [(Value.string (ByteArray.mk #[])),(Value.int IntKind.i64 0),(Value.int IntKind.i64 0),(Value.int IntKind.i64 0),(Value.int IntKind.i64 0),(Value.int IntKind.i64 0),(Value.slice none 0 0),(Value.int IntKind.i64 0)]:=by kernel_rfl
theorem zFv (d:List Int) (hl:d.length<=17592186044416):
    Pur cfg 103 [vIs d] (vI (bW d)):=by
 refine zW Tryz.func103 O Tryz.ntmps103 Tryz.results103 O ?_
 intro z hz
 refine R O<|G O<|zA<|zF<|R O<|G O<|qD O el67<|zZ O (yH O O O)<|zA<|zD O (fun c1=>?_) (fun c1=>?_)
 ·try simp only [sx] at c1
  have hlong:=dims_long (d:=d) (by omega)
  refine R O<|G O<|zA<|zN<|zV O ?_
  rw [hlong]
 ·try simp only [sx] at c1
  refine zI<|zF<|R O<|G O<|qD O el67<|G O<|zA<|zP<|zU ⟨[(13,.c _),(0,.c _),(11,.c _),(12,.c _)],[]⟩ (Weak.mk [] ⟨zB,zB,zB,zB,T⟩ O)<|qF 1 0 O O (Nat) (fun k=>[(13,vI k)]) (fun k=>[]) (fun k=>k<=d.length/\((d.take k).all lL=true)) (fun k=>d.length-k) ⟨0,⟨by omega,O⟩,Weak.mk [] ⟨zB,zB,zB,zB,T⟩ O⟩ ?_
  rintro k ⟨hk,hp⟩
  refine R O<|yC O<|zA<|zF<|zD O (fun c2=>?_) (fun c2=>?_)
  ·try simp only [sx] at c2
   obtain ⟨n,hn⟩:=qU d k (by omega)
   refine zI<|zF<|zP<|R O<|zY O el67 (by omega) (v (by assumption))<|zE one3 zO O<|G O<|zA<|R O<|G O<|yC O<|zA<|zD O (fun c3=>?_) (fun c3=>?_)
   ·try simp only [sx] at c3
    have hneg:=dims_neg (d:=d) (by omega) hn c3
    refine R O<|G O<|zA<|zN<|zV O ?_
    rw [hneg]
   ·try simp only [sx] at c3
    refine zI<|zK O<|qA O ⟨by omega,by omega⟩<|G O<|zA ?_
    refine ⟨k+1,⟨by omega,zJo hn hp (by unfold lL;exact decide_eq_true (by omega))⟩,(by omega),Weak.mk [] ⟨zB,zB,zB,zB,T⟩ O⟩
  ·try simp only [sx] at c2
   have hpos:d.all lL=true:=by rw [qX (by omega)] at hp;exact hp
   refine qK<|R O<|G O<|zA<|zF<|R O<|G O<|qD O el67<|G O<|zA<|zP<|zU ⟨[(22,.c _),(5,.c _),(20,.c _),(21,.c _)],[]⟩ (Weak.mk [] ⟨zB,zB,zB,zB,T⟩ O)<|qF 2 0 O O (Nat×Int) (fun ⟨j,s⟩=>[(22,vI j),(5,vI s)]) (fun ⟨j,s⟩=>[]) (fun ⟨j,s⟩=>j<=d.length/\(1<=s)/\(s<=4096)/\(bG 1 d=bG s (d.drop j))) (fun ⟨j,s⟩=>d.length-j) ⟨⟨0,1⟩,⟨by omega,by omega,by omega,O⟩,Weak.mk [] ⟨zB,VLe.of_eq (O),zB,zB,T⟩ O⟩ ?_
   rintro ⟨j,s⟩ ⟨hj,hs1,hs2,hs3⟩
   show AWP _ _ _ _ _ ⟨[(22,vI j),(5,vI s)]++_,[]++_⟩
   refine R O<|yC O<|zA<|zF<|zD O (fun c4=>?_) (fun c4=>?_)
   ·try simp only [sx] at c4
    obtain ⟨m,hm⟩:=qU d j (by omega)
    refine zI<|zF<|zP<|R O<|zY O el67 (by omega) (v (by assumption))<|zE one3 zO O<|G O<|zA<|zF<|R O<|G O<|G O<|zZ O (det_quo O O O (by omega))<|zZ O (yH O O O)<|zA<|zD O (fun c5=>?_) (fun c5=>?_)
    ·try simp only [sx] at c5
     have hov:=quo_t hs1 c5
     refine R O<|G O<|zA<|zN<|zV O ?_
     rw [zTz (by omega) hpos (zMc hm hs3 hov)]
    ·try simp only [sx] at c5
     have hov:=quo_f hs1 (Int.not_lt.2 c5)
     have hm1:=zDw hs1 (zFl hpos hm)
     refine zI<|zK O<|G O<|G O<|zZ O (zCd O O O (by have:=zDw hs1 (zFl hpos hm);exact ⟨by omega,by omega⟩))<|G O<|zA<|zK O<|qA O ⟨by omega,by omega⟩<|G O<|zA ?_
     refine ⟨⟨j+1,s*m⟩,⟨by omega,by omega,by omega,zMd hm hs3 hov⟩,(by show d.length-(j+1)<d.length-j;omega),Weak.mk [] ⟨zB,zB,zB,zB,T⟩ O⟩
   ·try simp only [sx] at c4
    refine qK<|R O<|G O<|zA<|zN<|zV O ?_
    rw [dims_ok (by omega) hpos (zMe hs3 (by omega))]
theorem zFw (d:List Int) (hl:d.length<=17592186044416):
    Pur cfg 93 [vIs d] (vI (bW d)):=by
 refine zW Tryz.func93 O Tryz.ntmps93 Tryz.results93 O ?_
 intro z hz
 refine R O<|G O<|zA<|zF<|R O<|G O<|qD O el67<|zZ O (yH O O O)<|zA<|zD O (fun c1=>?_) (fun c1=>?_)
 ·try simp only [sx] at c1
  have hlong:=dims_long (d:=d) (by omega)
  refine R O<|G O<|zA<|zN<|zV O ?_
  rw [hlong]
 ·try simp only [sx] at c1
  refine zI<|zF<|R O<|G O<|zA<|zP<|zU ⟨[(3,.c _),(0,.c _)],[]⟩ (Weak.mk [] ⟨zB,zB,T⟩ O)<|qF 1 0 O O (Nat) (fun k=>[(3,vI k)]) (fun k=>[]) (fun k=>k<=d.length/\((d.take k).all lL=true)) (fun k=>d.length-k) ⟨0,⟨by omega,O⟩,Weak.mk [] ⟨zB,zB,T⟩ O⟩ ?_
  rintro k ⟨hk,hp⟩
  refine zF<|R O<|G O<|G O<|qD O el67<|yC O<|zA<|zD O (fun c2=>?_) (fun c2=>?_)
  ·try simp only [sx] at c2
   obtain ⟨n,hn⟩:=qU d k (by omega)
   refine zI<|zF<|zP<|R O<|G O<|G O<|zY O el67 (by omega) (v (by assumption))<|zE one3 zO O<|yC O<|zA<|zD O (fun c3=>?_) (fun c3=>?_)
   ·try simp only [sx] at c3
    have hneg:=dims_neg (d:=d) (by omega) hn c3
    refine R O<|G O<|zA<|zN<|zV O ?_
    rw [hneg]
   ·try simp only [sx] at c3
    refine zI<|zK O<|G O<|qA O ⟨by omega,by omega⟩<|G O<|zA ?_
    refine ⟨k+1,⟨by omega,zJo hn hp (by unfold lL;exact decide_eq_true (by omega))⟩,(by omega),Weak.mk [] ⟨zB,zB,T⟩ O⟩
  ·try simp only [sx] at c2
   have hpos:d.all lL=true:=by rw [qX (by omega)] at hp;exact hp
   refine qK<|R O<|G O<|zA<|zF<|R O<|G O<|zA<|zP<|zU ⟨[(5,.c _),(4,.c _),(0,.c _)],[]⟩ (Weak.mk [] ⟨zB,zB,zB,T⟩ O)<|qF 2 0 O O (Nat×Int) (fun ⟨j,s⟩=>[(5,vI j),(4,vI s)]) (fun ⟨j,s⟩=>[]) (fun ⟨j,s⟩=>j<=d.length/\(1<=s)/\(s<=4096)/\(bG 1 d=bG s (d.drop j))) (fun ⟨j,s⟩=>d.length-j) ⟨⟨0,1⟩,⟨by omega,by omega,by omega,O⟩,Weak.mk [] ⟨zB,VLe.of_eq (O),zB,T⟩ O⟩ ?_
   rintro ⟨j,s⟩ ⟨hj,hs1,hs2,hs3⟩
   show AWP _ _ _ _ _ ⟨[(5,vI j),(4,vI s)]++_,[]++_⟩
   refine zF<|R O<|G O<|G O<|qD O el67<|yC O<|zA<|zD O (fun c4=>?_) (fun c4=>?_)
   ·try simp only [sx] at c4
    obtain ⟨m,hm⟩:=qU d j (by omega)
    refine zI<|zF<|zP<|zF<|R O<|G O<|G O<|zY O el67 (by omega) (v (by assumption))<|zE one3 zO O<|zZ O (yH O O O)<|zA<|zD O (fun c5=>?_) (fun c5=>?_)
    ·try simp only [sx] at c5
     have hov:4096<s*m:=by have:=zDw hs1 (zFl hpos hm);omega
     refine R O<|G O<|zA<|zN<|zV O ?_
     rw [zTz (by omega) hpos (zMc hm hs3 hov)]
    ·try simp only [sx] at c5
     have hm1:=zDw hs1 (zFl hpos hm)
     refine zI<|R O<|G O<|G O<|G O<|zY O el67 (by omega) (v (by assumption))<|zE one3 zO O<|zZ O (zCd O O O (by have:=zDw hs1 (zFl hpos hm);have hm0:=zFl hpos hm;have:s*m<=4096*4096:=Int.mul_le_mul (by omega) (by omega) (by omega) (by omega);exact ⟨by omega,by omega⟩))<|G O<|zA<|R O<|G O<|zZ O (yH O O O)<|zA<|zD O (fun c6=>?_) (fun c6=>?_)
     ·try simp only [sx] at c6
      refine R O<|G O<|zA<|zN<|zV O ?_
      rw [zTz (by omega) hpos (zMc hm hs3 (by omega))]
     ·try simp only [sx] at c6
      refine zI<|zK O<|G O<|qA O ⟨by omega,by omega⟩<|G O<|zA ?_
      refine ⟨⟨j+1,s*m⟩,⟨by omega,by omega,by omega,zMd hm hs3 (by omega)⟩,(by show d.length-(j+1)<d.length-j;omega),Weak.mk [] ⟨zB,zB,zB,T⟩ O⟩
   ·try simp only [sx] at c4
    refine qK<|R O<|G O<|zA<|zN<|zV O ?_
    rw [dims_ok (by omega) hpos (zMe hs3 (by omega))]
theorem zOe (d:List Int) (hl:d.length<=17592186044416):
    Pur cfg 53 [vIs d] (vI (dE d)):=by
 refine zW Tryz.func53 O Tryz.ntmps53 Tryz.results53 O ?_
 intro z hz
 refine R O<|G O<|zA<|zF<|R O<|G O<|qS O ok103 (zFv d hl) ⟨zB,O,T⟩<|wA O<|zA<|zD O (fun c1=>?_) (fun c1=>?_)
 ·try simp only [sx] at c1
  refine R O<|G O<|zA<|zN<|zV O ?_
  rw [zLq c1]
 ·try simp only [sx] at c1
  obtain ⟨q1,hpos,t,ht,q2,q3⟩:=zGs c1
  refine zI<|R O<|G O<|zA<|zF<|R O<|G O<|qD O el67<|G O<|zA<|zP<|zU ⟨[(11,.c _),(3,.c _),(9,.c _),(10,.c _)],[]⟩ (Weak.mk [] ⟨zB,zB,zB,zB,T⟩ O)<|qF 2 0 O O (Nat×Int) (fun ⟨k,s⟩=>[(11,vI k),(3,vI s)]) (fun ⟨k,s⟩=>[]) (fun ⟨k,s⟩=>k<=d.length/\(1<=s)/\(s<=4096)/\(bG 1 d=bG s (d.drop k))) (fun ⟨k,s⟩=>d.length-k) ⟨⟨0,1⟩,⟨by omega,by omega,by omega,O⟩,Weak.mk [] ⟨zB,VLe.of_eq (O),zB,zB,T⟩ O⟩ ?_
  rintro ⟨k,s⟩ ⟨hk,hs1,hs2,hs3⟩
  show AWP _ _ _ _ _ ⟨[(11,vI k),(3,vI s)]++_,[]++_⟩
  refine R O<|yC O<|zA<|zF<|zD O (fun c2=>?_) (fun c2=>?_)
  ·try simp only [sx] at c2
   obtain ⟨m,hm⟩:=qU d k (by omega)
   have hm1:=zDw hs1 (zFl hpos hm)
   have hfit:=size_fit hm hs3 ht
   refine zI<|zF<|zP<|R O<|zY O el67 (by omega) (v (by assumption))<|zE one3 zO O<|G O<|zA<|zK O<|G O<|G O<|zZ O (zCd O O O ⟨by omega,by omega⟩)<|G O<|zA<|zK O<|qA O ⟨by omega,by omega⟩<|G O<|zA ?_
   refine ⟨⟨k+1,s*m⟩,⟨by omega,by omega,by omega,zMd hm hs3 hfit⟩,(by show d.length-(k+1)<d.length-k;omega),Weak.mk [] ⟨zB,zB,zB,zB,T⟩ O⟩
  ·try simp only [sx] at c2
   refine qK<|R O<|G O<|G O<|zA<|zN<|zV O ?_
   rw [zFa c1 (zMe hs3 (by omega))]
theorem zOk (d:List Int) (hl:d.length<=17592186044416):
    Pur cfg 41 [vIs d] (vI (dE d)):=by
 refine zW Tryz.func41 O Tryz.ntmps41 Tryz.results41 O ?_
 intro z hz
 refine R O<|G O<|zA<|zF<|R O<|G O<|qS O ok93 (zFw d hl) ⟨zB,O,T⟩<|wA O<|zA<|zD O (fun c1=>?_) (fun c1=>?_)
 ·try simp only [sx] at c1
  refine R O<|G O<|zA<|zN<|zV O ?_
  rw [zLq c1]
 ·try simp only [sx] at c1
  obtain ⟨q1,hpos,t,ht,q2,q3⟩:=zGs c1
  refine zI<|R O<|G O<|zA<|zF<|R O<|G O<|zA<|zP<|zU ⟨[(4,.c _),(3,.c _),(0,.c _)],[]⟩ (Weak.mk [] ⟨zB,zB,zB,T⟩ O)<|qF 2 0 O O (Nat×Int) (fun ⟨k,s⟩=>[(4,vI k),(3,vI s)]) (fun ⟨k,s⟩=>[]) (fun ⟨k,s⟩=>k<=d.length/\(1<=s)/\(s<=4096)/\(bG 1 d=bG s (d.drop k))) (fun ⟨k,s⟩=>d.length-k) ⟨⟨0,1⟩,⟨by omega,by omega,by omega,O⟩,Weak.mk [] ⟨zB,VLe.of_eq (O),zB,T⟩ O⟩ ?_
  rintro ⟨k,s⟩ ⟨hk,hs1,hs2,hs3⟩
  show AWP _ _ _ _ _ ⟨[(4,vI k),(3,vI s)]++_,[]++_⟩
  refine zF<|R O<|G O<|G O<|qD O el67<|yC O<|zA<|zD O (fun c2=>?_) (fun c2=>?_)
  ·try simp only [sx] at c2
   obtain ⟨m,hm⟩:=qU d k (by omega)
   have hm1:=zDw hs1 (zFl hpos hm)
   have hfit:=size_fit hm hs3 ht
   refine zI<|zF<|zP<|zK O<|G O<|G O<|G O<|zY O el67 (by omega) (v (by assumption))<|zE one3 zO O<|zZ O (zCd O O O ⟨by omega,by omega⟩)<|G O<|zA<|zK O<|G O<|qA O ⟨by omega,by omega⟩<|G O<|zA ?_
   refine ⟨⟨k+1,s*m⟩,⟨by omega,by omega,by omega,zMd hm hs3 hfit⟩,(by show d.length-(k+1)<d.length-k;omega),Weak.mk [] ⟨zB,zB,zB,T⟩ O⟩
  ·try simp only [sx] at c2
   refine qK<|R O<|G O<|G O<|zA<|zN<|zV O ?_
   rw [zFa c1 (zMe hs3 (by omega))]
theorem zQc (l:List Int) (hl:l.length<=17592186044416):
    OwnR cfg 181 [vIs l] 3 1 (l.map fun n=>[cI n]):=by
 refine zW Tryz.func181 O Tryz.ntmps181 Tryz.results181 O ?_
 intro z hz
 refine R O<|zZ O (yO 1 O O)<|zA<|zF<|R O<|G O<|zS O O (ope_nileq O el67 O O) ?_
 rintro _ _ ⟨nb1,rfl,hnil1,rfl⟩
 refine zA<|zD O (fun c1=>?_) (fun c1=>?_)
 ·try simp only [sx] at c1
  refine R O<|G O<|qT _ (kZ 3 1)<|zA<|zN<|zV O ?_
  exact ⟨_,O,by rw [hnil1 c1]⟩
 ·try simp only [sx] at c1
  refine zI<|R O<|zS O O (ope_bslice O el67 zr3 O O O O) ?_
  rintro _ _ ⟨sv3,rfl,rfl⟩
  refine G O<|zS O O (yI 0 O el67 O O O (by simp only [List.length_map,List.length_nil,Nat.zero_add];omega) (by simp only [List.length_map,List.length_nil,Nat.zero_add];omega)) ?_
  rintro _ _ ⟨sv4,rfl,rfl⟩
  refine G O<|zA<|zN<|zV O ?_
  exact ⟨_,O,O⟩
theorem zLm (b:Bf) (hl:b.Dims.length<=17592186044416):
    Pur cfg 153 [vBf b] (vBf b):=by
 refine zW Tryz.func153 O Tryz.ntmps153 Tryz.results153 O ?_
 intro z hz
 refine R O<|zS O O (qP O O) ?_
 rintro _ _ ⟨b1,rfl,rfl⟩
 refine zS O O (qQ [none,none,none,none,none,none,some 1,none] O zr69 O) ?_
 rintro _ _ ⟨b2,rfl,rfl⟩
 refine zA<|R O<|zJ O zCn<|zE zCy (A 1 O) O<|qS O ok181 (OwnR.pur (zQc b.Dims hl)) ⟨zB,O,T⟩<|zJ O zCn<|Y 1 sz67 O<|zA<|R O<|zQ zIm (A 1 O) O<|Y 0 sz69 O<|zA<|zN<|fin1 (qN zIm O (A 0 O) O) ?_
 exact O
theorem zAb (n:Ns) (s:ByteArray) (hn:n.Ok):
    Pur cfg 112 [vNs n,vS s] (.tup [vBf (dF n.Bufs s),vB (bO n.Bufs s)]):=by
 refine zW Tryz.func112 O Tryz.ntmps112 Tryz.results112 O ?_
 intro z hz
 have hnb:=hn.bufs
 refine R O<|zS O O (qP O O) ?_
 rintro _ _ ⟨b1,rfl,rfl⟩
 refine zS O O (qQ [none,none,none,none,none,none,some 1,none] O zr69 O) ?_
 rintro _ _ ⟨b2,rfl,rfl⟩
 refine G O<|zA<|zF<|R O<|zJ O zAn<|zE zDg (A 1 O) O<|qD O el22<|G O<|zA<|zP<|zU ⟨[(10,.c _),(1,.c _),(2,.c _),(4,.c _),(9,.c _)],[_,_]⟩ (Weak.mk [true,true] ⟨zB,zB,zB,zB,zB,T⟩ O)<|qF 1 0 O O (Nat) (fun k=>[(10,vI k)]) (fun k=>[]) (fun k=>k<=n.Bufs.length/\(bO (n.Bufs.take k) s=false)/\(dF n.Bufs s=dF (n.Bufs.drop k) s)) (fun k=>n.Bufs.length-k) ⟨0,⟨by omega,O,O⟩,Weak.mk [true,true] ⟨zB,zB,zB,zB,zB,T⟩ O⟩ ?_
 rintro k ⟨hk,hp,hq⟩
 refine R O<|yC O<|zA<|zF<|zD O (fun c1=>?_) (fun c1=>?_)
 ·try simp only [sx] at c1
  obtain ⟨b,hb⟩:=qU n.Bufs k (by omega)
  refine zI<|zF<|zP<|R O<|G O<|G O<|zA<|R O<|zJ O zAn<|zE zDg (A 1 O) O<|G O<|zY O el22 (by omega) (v (by assumption))<|zT O zEc<|zE one9 zO O<|G O<|zZ O (kE O O O)<|zA<|zD O (fun c2=>?_) (fun c2=>?_)
  ·try simp only [sx] at c2
   refine R O<|zJ O zAn<|zE zDg (A 1 O) O<|G O<|zY O el22 (by omega) (v (by assumption))<|zQ zIm zO O<|qS O ok153 (zLm b (hn.dims b (qE hb))) ⟨zB,O,T⟩<|Y 0 sz69 O<|G O<|zA<|zN<|fin2 (qN zIm O (A 0 O) O) (D O) ?_
   rw [zQy hb c2,hq,bufD_at hb c2];rfl
  ·try simp only [sx] at c2
   refine zI<|zK O<|qA O ⟨by omega,by omega⟩<|G O<|zA ?_
   refine ⟨k+1,⟨by omega,zJy hb hp c2,hq.trans (bufD_next hb c2)⟩,(by omega),Weak.mk [true,true] ⟨zB,zB,zB,zB,zB,T⟩ O⟩
 ·exact v26
theorem zBc (n:Ns) (s:ByteArray) (hn:n.Ok):
    Pur cfg 83 [vNs n,vS s] (.tup [vBf (dF n.Bufs s),vB (bO n.Bufs s)]):=by
 refine zW Tryz.func83 O Tryz.ntmps83 Tryz.results83 O ?_
 intro z hz
 have hnb:=hn.bufs
 refine R O<|zS O O (qP O O) ?_
 rintro _ _ ⟨b1,rfl,rfl⟩
 refine zS O O (qQ [none,none,none,none,none,none,some 1,none] O zr69 O) ?_
 rintro _ _ ⟨b2,rfl,rfl⟩
 refine G O<|zA<|zF<|R O<|G O<|zA<|zP<|zU ⟨[(6,.c _),(1,.c _),(2,.c _),(4,.c _)],[_,_]⟩ (Weak.mk [true,true] ⟨zB,zB,zB,zB,T⟩ O)<|qF 1 0 O O (Nat) (fun k=>[(6,vI k)]) (fun k=>[]) (fun k=>k<=n.Bufs.length/\(bO (n.Bufs.take k) s=false)/\(dF n.Bufs s=dF (n.Bufs.drop k) s)) (fun k=>n.Bufs.length-k) ⟨0,⟨by omega,O,O⟩,Weak.mk [true,true] ⟨zB,zB,zB,zB,T⟩ O⟩ ?_
 rintro k ⟨hk,hp,hq⟩
 refine zF<|R O<|G O<|zJ O zAn<|zE zDg (A 1 O) O<|qD O el22<|yC O<|zA<|zD O (fun c1=>?_) (fun c1=>?_)
 ·try simp only [sx] at c1
  obtain ⟨b,hb⟩:=qU n.Bufs k (by omega)
  refine zI<|zF<|zP<|R O<|zJ O zAn<|zE zDg (A 1 O) O<|G O<|zY O el22 (by omega) (v (by assumption))<|zT O zEc<|zE one9 zO O<|G O<|zZ O (kE O O O)<|zA<|zD O (fun c2=>?_) (fun c2=>?_)
  ·try simp only [sx] at c2
   refine R O<|zJ O zAn<|zE zDg (A 1 O) O<|G O<|zY O el22 (by omega) (v (by assumption))<|zQ zIm zO O<|Y 0 sz69 O<|G O<|zA<|zN<|fin2 (qN zIm O (A 0 O) O) (D O) ?_
   rw [zQy hb c2,hq,bufD_at hb c2];rfl
  ·try simp only [sx] at c2
   refine zI<|zK O<|G O<|qA O ⟨by omega,by omega⟩<|G O<|zA ?_
   refine ⟨k+1,⟨by omega,zJy hb hp c2,hq.trans (bufD_next hb c2)⟩,(by omega),Weak.mk [true,true] ⟨zB,zB,zB,zB,T⟩ O⟩
 ·exact v26
theorem zRn (n:Nat) (ih:n≠0->∀(l:List St) (x:Int),bE l<=1073741824->x=((n-1:Nat):Int)->Pur cfg 98 [dM l,vI x] (vB (dC (n-1) l))) (l:List St) (x:Int) (hn:n<=100) (hl:bE l<=1073741824) (hx:x=n):
    Pur cfg 98 [dM l,vI x] (vB (dC n l)):=by
 refine zW Tryz.func98 O Tryz.ntmps98 Tryz.results98 O ?_
 intro z hz
 have hll:=wH l
 refine R O<|G O<|zA<|zF<|R O<|G O<|qD O el23<|G O<|zA<|zP<|zU ⟨[(8,.c _),(0,.c _),(1,.c _),(7,.c _)],[]⟩ (Weak.mk [] ⟨zB,zB,zB,zB,T⟩ O)<|qF 1 0 O O (Nat) (fun k=>[(8,vI k)]) (fun k=>[]) (fun k=>k<=l.length/\(pQ n (l.take k)=true)) (fun k=>l.length-k) ⟨0,⟨by omega,by cases n<;>rfl⟩,Weak.mk [] ⟨zB,zB,zB,zB,T⟩ O⟩ ?_
 rintro k ⟨hk,hp⟩
 refine R O<|yC O<|zA<|zF<|zD O (fun c1=>?_) (fun c1=>?_)
 ·try simp only [sx] at c1
  obtain ⟨s,hs⟩:=qU l k (by omega)
  refine zI<|zF<|zP<|R O<|G O<|G O<|zA<|R O<|G O<|yC O<|G O<|rL0 O (fun g4_2=>zM O O) O<|rL0 O (fun g4_2=>zM O O) O<|rLz [(14,_),(15,_)] O gv1 ⟨O,O,O,O,T⟩ (fun g4_2=>qH O el23 O O (by omega) (zCc hs)) O<|B 16 O (fun g4_2=>qB O zBb O) O<|B 17 O (fun g4_2=>zC O zAh O zO O) O<|rL0 O (fun g4_2=>zM O O) O<|B 19 O (fun g4_2=>kI O O O ⟨by omega,by omega⟩) O<|rLz [(18,_),(20,_)] O gv1 ⟨O,O,O,O,T⟩ (fun g4_2=>qR O ok98 (ih (by simp only [Lz,cond_true,cond_false,Bool.and_eq_true,Bool.or_eq_true,Bool.not_eq_true',Bool.not_eq_false',Bool.or_eq_false_iff,Bool.and_eq_false_iff,decide_eq_true_eq,decide_eq_false_iff_not,Bool.not_eq_true,Bool.not_eq_false] at g4_2;omega) s.Body _ (by have:=St.body_wt s;have:=kC (qE hs);omega) (by simp only [Lz,cond_true,cond_false,Bool.and_eq_true,Bool.or_eq_true,Bool.not_eq_true',Bool.not_eq_false',Bool.or_eq_false_iff,Bool.and_eq_false_iff,decide_eq_true_eq,decide_eq_false_iff_not,Bool.not_eq_true,Bool.not_eq_false] at g4_2;omega)) ⟨zB,O,zB,O,T⟩) O<|B 21 O (fun g4_2=>wJ O O) O<|r_or O (fun h=>(lzf h))<|zA<|zD O (fun c2=>?_) (fun c2=>?_)
  ·have hno:=within_no hs hx c2
   refine R O<|G O<|zA<|zN<|zV O ?_
   rw [hno]
  ·have hyes:=within_yes hx c2
   refine zI<|zK O<|qA O ⟨by omega,by omega⟩<|G O<|zA ?_
   refine ⟨k+1,⟨by omega,withinG_next hs hp hyes.1 hyes.2⟩,(by omega),Weak.mk [] ⟨zB,zB,zB,zB,T⟩ O⟩
 ·try simp only [sx] at c1
  refine qK<|R O<|G O<|zA<|zN<|zV O ?_
  rw [qX (by omega),withinG_eq] at hp;rw [hp]
theorem zTa (n:Nat) (l:List St) (x:Int) (hn:n<=100) (hl:bE l<=1073741824) (hx:x=n):Pur cfg 98 [dM l,vI x] (vB (dC n l)):=by
  induction n generalizing l x with
  |zero=>exact zRn 0 (fun h=>absurd rfl h) l x hn hl hx
  |succ n ih=>exact zRn (n+1) (fun _ l x h1 h2=>ih l x (by omega) h1 (by omega)) l x hn hl hx
theorem depth_step (n:Nat) (ih:n≠0->∀(l:List St) (x:Int),bE l<=1073741824->x=((n-1:Nat):Int)->Pur cfg 68 [dM l,vI x] (vI (lI (n-1) l))) (l:List St) (x:Int) (hn:n<=100) (hl:bE l<=1073741824) (hx:x=n):
    Pur cfg 68 [dM l,vI x] (vI (lI n l)):=by
 refine zW Tryz.func68 O Tryz.ntmps68 Tryz.results68 O ?_
 intro z hz
 have hll:=wH l
 refine R O<|G O<|zA<|R O<|G O<|zA<|zF<|R O<|G O<|zA<|zP<|zU ⟨[(5,.c _),(6,.c _),(0,.c _),(1,.c _)],[]⟩ (Weak.mk [] ⟨zB,zB,zB,zB,T⟩ O)<|qF 2 0 O O (Nat×Int) (fun ⟨k,d⟩=>[(5,vI d),(6,vI k)]) (fun ⟨k,d⟩=>[]) (fun ⟨k,d⟩=>k<=l.length/\0<=d/\d<=100/\d=lI n (l.take k)) (fun ⟨k,d⟩=>l.length-k) ⟨⟨0,0⟩,⟨by omega,by omega,by omega,by cases n<;>rfl⟩,Weak.mk [] ⟨VLe.of_eq (O),zB,zB,zB,T⟩ O⟩ ?_
 rintro ⟨k,d⟩ ⟨hk,hd0,hd1,hd⟩
 show AWP _ _ _ _ _ ⟨[(5,vI d),(6,vI k)]++_,[]++_⟩
 refine zF<|R O<|G O<|G O<|qD O el23<|yC O<|G O<|rL0 O (fun g3_4=>zM O O) O<|B 12 O (fun g3_4=>yH O O O) O<|yW O (fun h=>h)<|zA<|zD O (fun c1=>?_) (fun c1=>?_)
 ·try simp only [sx] at c1
  obtain ⟨s,hs⟩:=qU l k (by omega)
  have hle:=depS_le (n-1) s.Body
  refine zI<|zF<|zP<|zK O<|G O<|G O<|G O<|zY O el23 (by omega) (zCc hs)<|zT O zBb<|zE zAh zO O<|G O<|yY O ⟨by omega,by omega⟩<|qS O ok68 (ih (by omega) s.Body _ (by have:=St.body_wt s;have:=kC (qE hs);omega) (by omega)) ⟨zB,O,zB,O,T⟩<|qA O ⟨by omega,by omega⟩<|zZ O (zFb O O O)<|G O<|zA<|zK O<|G O<|qA O ⟨by omega,by omega⟩<|G O<|zA ?_
  refine ⟨⟨k+1,max d (1+lI (n-1) s.Body)⟩,⟨by omega,by omega,by omega,by rw [depS_next hs (by omega),←hd]⟩,(by dsimp only;omega),Weak.mk [] ⟨zB,zB,zB,zB,T⟩ O⟩
 ·try simp only [sx] at c1
  refine qK<|R O<|G O<|G O<|zA<|zN<|zV O ?_
  exact congrArg vI (depS_stop hx hd (by omega))
theorem ref30_depth (n:Nat) (l:List St) (x:Int) (hn:n<=100) (hl:bE l<=1073741824) (hx:x=n):Pur cfg 68 [dM l,vI x] (vI (lI n l)):=by
  induction n generalizing l x with
  |zero=>exact depth_step 0 (fun h=>absurd rfl h) l x hn hl hx
  |succ n ih=>exact depth_step (n+1) (fun _ l x h1 h2=>ih l x (by omega) h1 (by omega)) l x hn hl hx
theorem zDh (l:List St) (ih:∀s,s∈l->∀(m:Nat) (x:Int),m<=2147483648->x=m->Pur cfg 99 [dM s.Body,vI x] (vI (jA s.Body m))) (m:Nat) (x:Int) (hl:bE l<=1073741824) (hm:m<=2147483648) (hx:x=m):
    Pur cfg 99 [dM l,vI x] (vI (jA l m)):=by
 refine zW Tryz.func99 O Tryz.ntmps99 Tryz.results99 O ?_
 intro z hz
 have hll:=wH l
 have hNw:=stsN_wt l
 refine R O<|G O<|zA<|R O<|G O<|qD O el23<|G O<|zA<|zF<|R O<|G O<|qD O el23<|G O<|zA<|zP<|zU ⟨[(11,.c _),(5,.c _),(0,.c _),(1,.c _),(10,.c _)],[]⟩ (Weak.mk [] ⟨zB,zB,zB,zB,zB,T⟩ O) ?_
 refine qF 2 0 O O (Nat×Nat) (fun ⟨k,n⟩=>[(11,vI k),(5,vI n)]) (fun ⟨k,n⟩=>[]) (fun ⟨k,n⟩=>k<=l.length/\(n<=4294967296)/\(jA l m=lF (l.drop k) m n)) (fun ⟨k,n⟩=>l.length-k) ⟨⟨0,l.length⟩,⟨by omega,by omega,O⟩,Weak.mk [] ⟨zB,VLe.of_eq (congrArg vI (by simp)),zB,zB,zB,T⟩ O⟩ ?_
 rintro ⟨k,n⟩ ⟨hk,hn,hp⟩
 show AWP _ _ _ _ _ ⟨[(11,vI k),(5,vI n)]++_,[]++_⟩
 refine R O<|yC O<|zA<|zF<|zD O (fun c1=>?_) (fun c1=>?_)
 ·try simp only [sx] at c1
  obtain ⟨s,hs⟩:=qU l k (by omega)
  refine zI<|zF<|zP<|R O<|G O<|G O<|zA<|zF<|R O<|G O<|G O<|zZ O (yH O O O)<|zA<|zD O (fun c2=>?_) (fun c2=>?_)
  ·try simp only [sx] at c2
   exact v37
  ·try simp only [sx] at c2
   have hsum:=num_sum hs hp (by omega)
   have hbl:=numB_le s.Body (m-n)
   have hsn:=zQn (qE hs)
   have hse:=zPk s
   refine zI<|zK O<|G O<|G O<|G O<|zY O el23 (by omega) (zCc hs)<|zT O zBb<|zE zAh zO O<|G O<|G O<|yY O ⟨by omega,by omega⟩<|qS O ok99 (ih s (qE hs) (m-n) _ (by omega) (by omega)) ⟨zB,O,zB,O,T⟩<|qA O ⟨by omega,by omega⟩<|G O<|zA<|zK O<|qA O ⟨by omega,by omega⟩<|G O<|zA ?_
   refine ⟨⟨k+1,n+jA s.Body (m-n)⟩,⟨by omega,by omega,num_next hs hp (by omega)⟩,(by show l.length-(k+1)<l.length-k;omega),Weak.mk [] ⟨zB,VLe.of_eq (congrArg vI (by omega)),zB,zB,zB,T⟩ O⟩
 ·try simp only [sx] at c1
  exact v37
theorem zHm (s:St):∀(m:Nat) (x:Int),bE s.Body<=1073741824->m<=2147483648->x=m->Pur cfg 99 [dM s.Body,vI x] (vI (jA s.Body m)):=by
  induction s using St.ind with
  |_ s ih=>exact fun m x hl hm hx=>zDh s.Body (fun a ha m x h1 h2=>ih a ha m x (by have:=St.body_wt a;have:=kC ha;omega) h1 h2) m x hl hm hx
theorem zMu (l:List St) (m:Nat) (x:Int) (hl:bE l<=1073741824) (hm:m<=2147483648) (hx:x=m):Pur cfg 99 [dM l,vI x] (vI (jA l m)):=
  zDh l (fun a ha m x h1 h2=>zHm a m x (by have:=St.body_wt a;have:=kC ha;omega) h1 h2) m x hl hm hx
theorem zIx (l:List St) (ih:∀s,s∈l->∀(m:Nat) (x:Int),m<=2147483648->x=m->Pur cfg 69 [dM s.Body,vI x] (vI (jA s.Body m))) (m:Nat) (x:Int) (hl:bE l<=1073741824) (hm:m<=2147483648) (hx:x=m):
    Pur cfg 69 [dM l,vI x] (vI (jA l m)):=by
 refine zW Tryz.func69 O Tryz.ntmps69 Tryz.results69 O ?_
 intro z hz
 have hll:=wH l
 have hNw:=stsN_wt l
 refine R O<|G O<|zA<|R O<|G O<|qD O el23<|G O<|zA<|zF<|R O<|G O<|zA<|zP<|zU ⟨[(6,.c _),(5,.c _),(0,.c _),(1,.c _)],[]⟩ (Weak.mk [] ⟨zB,zB,zB,zB,T⟩ O) ?_
 refine qF 2 0 O O (Nat×Nat) (fun ⟨k,n⟩=>[(6,vI k),(5,vI n)]) (fun ⟨k,n⟩=>[]) (fun ⟨k,n⟩=>k<=l.length/\(n<=4294967296)/\(jA l m=lF (l.drop k) m n)) (fun ⟨k,n⟩=>l.length-k) ⟨⟨0,l.length⟩,⟨by omega,by omega,O⟩,Weak.mk [] ⟨zB,VLe.of_eq (congrArg vI (by simp)),zB,zB,T⟩ O⟩ ?_
 rintro ⟨k,n⟩ ⟨hk,hn,hp⟩
 show AWP _ _ _ _ _ ⟨[(6,vI k),(5,vI n)]++_,[]++_⟩
 refine zF<|R O<|G O<|G O<|qD O el23<|yC O<|G O<|rL0 O (fun g3_4=>zM O O) O<|rL0 O (fun g3_4=>zM O O) O<|rLz [(14,_),(15,_)] O gv1 ⟨O,O,O,O,T⟩ (fun g3_4=>wL O O O) O<|yW O (fun h=>h)<|zA<|zD O (fun c1=>?_) (fun c1=>?_)
 ·try simp only [sx] at c1
  obtain ⟨s,hs⟩:=qU l k (by omega)
  have hsum:=num_sum hs hp (by omega)
  have hbl:=numB_le s.Body (m-n)
  have hsn:=zQn (qE hs)
  have hse:=zPk s
  refine zI<|zF<|zP<|zK O<|G O<|G O<|G O<|zY O el23 (by omega) (zCc hs)<|zT O zBb<|zE zAh zO O<|G O<|G O<|yY O ⟨by omega,by omega⟩<|zZ O (zFb O O O)<|qS O ok69 (ih s (qE hs) (m-n) _ (by omega) (by omega)) ⟨zB,O,zB,O,T⟩<|qA O ⟨by omega,by omega⟩<|G O<|zA<|zK O<|G O<|qA O ⟨by omega,by omega⟩<|G O<|zA ?_
  refine ⟨⟨k+1,n+jA s.Body (m-n)⟩,⟨by omega,by omega,num_next hs hp (by omega)⟩,(by show l.length-(k+1)<l.length-k;omega),Weak.mk [] ⟨zB,VLe.of_eq (congrArg vI (by omega)),zB,zB,T⟩ O⟩
 ·try simp only [sx] at c1
  exact v37
theorem zSi (s:St):∀(m:Nat) (x:Int),bE s.Body<=1073741824->m<=2147483648->x=m->Pur cfg 69 [dM s.Body,vI x] (vI (jA s.Body m)):=by
  induction s using St.ind with
  |_ s ih=>exact fun m x hl hm hx=>zIx s.Body (fun a ha m x h1 h2=>ih a ha m x (by have:=St.body_wt a;have:=kC ha;omega) h1 h2) m x hl hm hx
theorem ref30_size (l:List St) (m:Nat) (x:Int) (hl:bE l<=1073741824) (hm:m<=2147483648) (hx:x=m):Pur cfg 69 [dM l,vI x] (vI (jA l m)):=
  zIx l (fun a ha m x h1 h2=>zSi a m x (by have:=St.body_wt a;have:=kC ha;omega) h1 h2) m x hl hm hx
theorem zLd (l:List Bf) (c:C) (p:Bf->Bool) (hl:l.length<=4294967296) (hc:∀x,x∈l->FnPur cfg c [vBf x] (vB (p x))):
    Pur cfg 167 [xM l,.c c] (vI (gE p l)):=by
 refine zW Tryz.func167 O Tryz.ntmps167 Tryz.results167 O ?_
 intro z hz
 refine R O<|G O<|zA<|zF<|R O<|G O<|qD O el22<|G O<|zA<|zP<|zU ⟨[(8,.c _),(0,.c _),(1,.c _),(7,.c _)],[]⟩ (Weak.mk [] ⟨zB,zB,zB,zB,T⟩ O)<|qF 1 0 O O (Nat) (fun k=>[(8,vI k)]) (fun k=>[]) (fun k=>k<=l.length/\((l.take k).any p=false)) (fun k=>l.length-k) ⟨0,⟨by omega,O⟩,Weak.mk [] ⟨zB,zB,zB,zB,T⟩ O⟩ ?_
 rintro k ⟨hk,hp⟩
 refine R O<|yC O<|zA<|zF<|zD O (fun c1=>?_) (fun c1=>?_)
 ·try simp only [sx] at c1
  obtain ⟨x,hx⟩:=qU l k (by omega)
  refine zI<|zF<|zP<|R O<|G O<|G O<|zA<|R O<|G O<|G O<|G O<|zY O el22 (by omega) (v (by assumption))<|zQ zIm zO O<|zZ O (wK O O (hc _ (qE hx)) ⟨zB,O,T⟩)<|zA<|zD O (fun c2=>?_) (fun c2=>?_)
  ·exact k8
  ·exact r6
 ·exact m7
theorem zIj (l:List Bf) (c:C) (p:Bf->Bool) (hl:l.length<=4294967296) (hc:∀x,x∈l->FnPur cfg c [vBf x] (vB (p x))):
    Pur cfg 141 [xM l,.c c] (vB (l.any p)):=by
 refine zW Tryz.func141 O Tryz.ntmps141 Tryz.results141 O ?_
 intro z hz
 refine R O<|G O<|zA<|R O<|G O<|G O<|qS O ok167 (zLd l c p hl hc) ⟨zB,O,zB,O,T⟩<|zZ O (kY O O O)<|G O<|zA<|zN<|zV O ?_
 rw [zDi]
theorem checkBuffers_1 (x b:Bf):
    Pur cfg 142 [vBf x,.c (.iptr b.cells)] (vB (decide (x.Name=b.Name))):=by
 refine zW Tryz.func142 O Tryz.ntmps142 Tryz.results142 O ?_
 intro z hz
 refine R O<|zS O O (qP O O) ?_
 rintro _ _ ⟨b1,rfl,rfl⟩
 refine G O<|zA<|R O<|zJ O zEc<|zE one9 (A 0 O) O<|zT O zEc<|zE one9 zO O<|zZ O (kE O O O)<|G O<|zA<|zN<|zV O ?_
 exact O
theorem zJe (l:List Bf) (hl:l.length<=4294967296) (hd:∀b,b∈l->b.Dims.length<=17592186044416):
    Pur cfg 100 [xM l] (vI (bX [] l)):=by
 refine zW Tryz.func100 O Tryz.ntmps100 Tryz.results100 O ?_
 intro z hz
 refine R O<|G O<|zA<|zF<|R O<|G O<|qD O el22<|G O<|zA<|zP<|zU ⟨[(8,.c _),(0,.c _),(7,.c _)],[]⟩ (Weak.mk [] ⟨zB,zB,zB,T⟩ O)<|qF 1 0 O O (Nat) (fun k=>[(8,vI k)]) (fun k=>[]) (fun k=>k<=l.length/\(bX [] l=bX (l.take k) (l.drop k))) (fun k=>l.length-k) ⟨0,⟨by omega,O⟩,Weak.mk [] ⟨zB,zB,zB,T⟩ O⟩ ?_
 rintro k ⟨hk,hp⟩
 refine R O<|yC O<|zA<|zF<|zD O (fun c1=>?_) (fun c1=>?_)
 ·try simp only [sx] at c1
  obtain ⟨b,hb⟩:=qU l k (by omega)
  refine zI<|zF<|zP<|R O<|G O<|G O<|zA<|R O<|G O<|G O<|zY O el22 (by omega) (v (by assumption))<|zQ zIm zO O<|zS O O (qQ [none,none,none,none,none,none,some 1,none] O zr69 O) ?_
  rintro _ _ ⟨b1,rfl,rfl⟩
  refine Y 0 sz69 O<|qT _ (qM 0 O 4 _ PLe.ptr)<|zA<|zF<|zP<|R O<|zT O zEc<|zE one9 zO O<|qS O ok96 (zEb _) ⟨zB,O,T⟩<|wE O<|G O<|zA<|zD O (fun c2=>?_) (fun c2=>?_)
  ·try simp only [sx] at c2
   refine R O<|G O<|zA<|zN<|zV O ?_
   rw [zBl hb hp (by rw [bfErr_7 c2];decide),bfErr_7 c2]
  ·try simp only [sx] at c2
   refine R O<|G O<|G O<|zZ O (zPv O el22 O O (by omega))<|zZ O (zFr O O O O O)<|qS O ok141 (zIj (l.take k) _ (fun x=>decide (x.Name=b.Name)) (by rw [List.length_take];omega) (fun x _=>FnPur.of_pur (first:=[]) (cap:=[.iptr b.cells]) ok142 (checkBuffers_1 x b))) ⟨zB,O,zB,O,T⟩<|G O<|zA<|zD O (fun c3=>?_) (fun c3=>?_)
   ·try simp only [sx] at c3
    refine R O<|G O<|zA<|zN<|zV O ?_
    rw [zBl hb hp (by rw [bfErr_8 c2 c3];decide),bfErr_8 c2 c3]
   ·try simp only [sx] at c3
    refine R O<|zT O zEy<|zQ yG zO O<|qS O ok39 (zDd b.T) ⟨zB,O,T⟩<|wA O<|G O<|zA<|zD O (fun c4=>?_) (fun c4=>?_)
    ·try simp only [sx] at c4
     refine R O<|G O<|zA<|zN<|zV O ?_
     rw [zBl hb hp (by rw [zRi c2 c3 (tyErr_ne c4)];decide),zRi c2 c3 (tyErr_ne c4)]
    ·try simp only [sx] at c4
     refine zI<|zF<|R O<|zT O zCn<|zE zCy zO O<|qS O ok103 (zFv b.Dims (hd b (qE hb))) ⟨zB,O,T⟩<|G O<|zA<|R O<|G O<|wA O<|zA<|zD O (fun c5=>?_) (fun c5=>?_)
     ·try simp only [sx] at c5
      refine R O<|G O<|G O<|zA<|zN<|zV O ?_
      rw [zBl hb hp (by rw [bfErr_d c2 c3 (zJr c4) c5];exact c5),bfErr_d c2 c3 (zJr c4) c5]
     ·try simp only [sx] at c5
      refine zI<|R O<|zT O zIb<|zE one3 zO O<|yC O<|G O<|rL0 O (fun g14_3=>qB O zIb O) O<|B 41 O (fun g14_3=>zC O one3 O zO O) O<|B 42 O (fun g14_3=>yH O O O) O<|r_or O (fun h=>(lzf h))<|zA<|zD O (fun c6=>?_) (fun c6=>?_)
      ·try simp only [sx] at c6
       refine R O<|G O<|zA<|zN<|zV O ?_
       rw [zBl hb hp (by rw [bfErr_u c2 c3 (zJr c4) c5 (by omega)];decide),bfErr_u c2 c3 (zJr c4) c5 (by omega)]
      ·try simp only [sx] at c6
       refine zI<|zK O<|qA O ⟨by omega,by omega⟩<|G O<|zA ?_
       refine ⟨k+1,⟨by omega,zPz hb hp (bfErr_0 c2 c3 (zJr c4) c5 (by omega))⟩,(by omega),Weak.mk [] ⟨zB,zB,zB,T⟩ O⟩
 ·try simp only [sx] at c1
  refine qK<|R O<|G O<|zA<|zN<|zV O ?_
  rw [zUh hp (by omega)]
theorem ref30_bufs (n:Ns) (hn:n.Ok):
    Pur cfg 70 [vNs n] (vI (bX [] n.Bufs)):=by
 refine zW Tryz.func70 O Tryz.ntmps70 Tryz.results70 O ?_
 intro z hz
 have hnb:=hn.bufs
 refine R O<|zS O O (qP O O) ?_
 rintro _ _ ⟨b1,rfl,rfl⟩
 refine G O<|zA<|zF<|R O<|G O<|zA<|zP<|zU ⟨[(3,.c _),(1,.c _)],[_]⟩ (Weak.mk [true] ⟨zB,zB,T⟩ O)<|qF 1 0 O O (Nat) (fun k=>[(3,vI k)]) (fun k=>[]) (fun k=>k<=n.Bufs.length/\(bX [] n.Bufs=bX (n.Bufs.take k) (n.Bufs.drop k))) (fun k=>n.Bufs.length-k) ⟨0,⟨by omega,O⟩,Weak.mk [true] ⟨zB,zB,T⟩ O⟩ ?_
 rintro k ⟨hk,hp⟩
 refine zF<|R O<|G O<|zJ O zAn<|zE zDg (A 0 O) O<|qD O el22<|yC O<|zA<|zD O (fun c1=>?_) (fun c1=>?_)
 ·try simp only [sx] at c1
  obtain ⟨b,hb⟩:=qU n.Bufs k (by omega)
  refine zI<|zF<|zP<|R O<|zJ O zAn<|zE zDg (A 0 O) O<|G O<|zY O el22 (by omega) (v (by assumption))<|zQ zIm zO O<|zS O O (qQ [none,none,none,none,none,none,some 1,none] O zr69 O) ?_
  rintro _ _ ⟨b2,rfl,rfl⟩
  refine Y 0 sz69 O<|zA<|zF<|R O<|zJ O zEc<|zE one9 (A 0 O) O<|qS O ok120 (zGv _) ⟨zB,O,T⟩<|wE O<|zA<|zD O (fun c2=>?_) (fun c2=>?_)
  ·try simp only [sx] at c2
   refine R O<|G O<|zA<|zN<|zV O ?_
   rw [zBl hb hp (by rw [bfErr_7 c2];decide),bfErr_7 c2]
  ·try simp only [sx] at c2
   refine zI<|zF<|R O<|G O<|zA<|zP<|zU ⟨[(5,.c _),(1,.c _),(3,.c _),(4,.c _)],[_,_]⟩ (Weak.mk [true,true] ⟨zB,zB,zB,zB,T⟩ O)<|qF 1 0 O O (Nat) (fun j=>[(5,vI j)]) (fun j=>[]) (fun j=>j<=k/\bO (n.Bufs.take j) b.Name=false) (fun j=>k-j) ⟨0,⟨by omega,O⟩,Weak.mk [true,true] ⟨zB,zB,zB,zB,T⟩ O⟩ ?_
   rintro j ⟨hj,hq⟩
   refine zF<|R O<|G O<|G O<|yC O<|zA<|zD O (fun c3=>?_) (fun c3=>?_)
   ·try simp only [sx] at c3
    obtain ⟨y,hy⟩:=qU n.Bufs j (by omega)
    refine zI<|zF<|zP<|zF<|qW 9 mixed (by kernel_rfl) O O<|zL O O (zH O zAn O)<|zL O O (zC O zDg O (A 1 O) O)<|zL O O (zM O O)<|zL O O (qH O el22 O O (by omega) (v (by assumption)))<|zL O O (qB O zEc O)<|zL O O (zC O one9 O zO O)<|zL O O (zH O zEc O)<|zL O O (zC O one9 O (A 0 O) O)<|zL O O (kE O O O)<|yM<|zA<|zD O (fun c4=>?_) (fun c4=>?_)
    ·try simp only [sx] at c4
     refine R O<|G O<|zA<|zN<|zV O ?_
     have h8:=hasBf_lt hy (show j<k by omega) c4
     rw [zBl hb hp (by rw [bfErr_8 c2 h8];decide),bfErr_8 c2 h8]
    ·try simp only [sx] at c4
     refine zI<|zK O<|G O<|qA O ⟨by omega,by omega⟩<|G O<|zA ?_
     refine ⟨j+1,⟨by omega,zJy hy hq c4⟩,(by omega),Weak.mk [true,true] ⟨zB,zB,zB,zB,T⟩ O⟩
   ·try simp only [sx] at c3
    rw [show j=k by omega] at hq
    refine qK<|zF<|R O<|zJ O zEy<|zQ yG (A 0 O) O<|qS O ok121 (base_Type b.T) ⟨zB,O,T⟩<|wE O<|zA<|zD O (fun c5=>?_) (fun c5=>?_)
    ·try simp only [sx] at c5
     refine R O<|G O<|zA<|zN<|zV O ?_
     rw [zBl hb hp (by rw [zRi c2 hq c5];decide),zRi c2 hq c5]
    ·try simp only [sx] at c5
     refine zI<|zF<|R O<|zJ O zCn<|zE zCy (A 0 O) O<|qS O ok93 (zFw b.Dims (hn.dims b (qE hb))) ⟨zB,O,T⟩<|G O<|zA<|R O<|G O<|wA O<|zA<|zD O (fun c6=>?_) (fun c6=>?_)
     ·try simp only [sx] at c6
      refine R O<|G O<|G O<|zA<|zN<|zV O ?_
      rw [zBl hb hp (by rw [bfErr_d c2 hq c5 c6];exact c6),bfErr_d c2 hq c5 c6]
     ·try simp only [sx] at c6
      refine zI<|R O<|zJ O zIb<|zE one3 (A 0 O) O<|yC O<|G O<|rL0 O (fun g17_3=>zH O zIb O) O<|B 51 O (fun g17_3=>zC O one3 O (A 0 O) O) O<|B 52 O (fun g17_3=>yH O O O) O<|r_or O (fun h=>(lzf h))<|zA<|zD O (fun c7=>?_) (fun c7=>?_)
      ·try simp only [sx] at c7
       refine R O<|G O<|zA<|zN<|zV O ?_
       rw [zBl hb hp (by rw [bfErr_u c2 hq c5 c6 (by omega)];decide),bfErr_u c2 hq c5 c6 (by omega)]
      ·try simp only [sx] at c7
       refine zI<|zK O<|G O<|qA O ⟨by omega,by omega⟩<|G O<|zA ?_
       refine ⟨k+1,⟨by omega,zPz hb hp (bfErr_0 c2 hq c5 c6 (by omega))⟩,(by omega),Weak.mk [false,true] ⟨zB,zB,T⟩ O⟩
 ·try simp only [sx] at c1
  refine qK<|R O<|G O<|zA<|zN<|zV O ?_
  rw [zUh hp (by omega)]
end Go.W
