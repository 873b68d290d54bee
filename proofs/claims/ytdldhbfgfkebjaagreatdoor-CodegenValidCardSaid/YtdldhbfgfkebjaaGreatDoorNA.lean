/-
  What functions compute.
  Conditions: none.
-/
import Derived.Test.YtdldhbfgfkebjaaGreatDoorVC
import Derived.Test.YtdldhbfgfkebjaaGreatDoorEngZ
import Derived.Test.YtdldhbfgfkebjaaGreatDoorPlain2
set_option linter.unusedSimpArgs false
set_option linter.unusedVariables false
set_option maxRecDepth 10000
namespace Go.W
open Go Go.Eng Go.Proofs Go.L41 Go.Br
attribute [local irreducible] AWP RWP TD fY
theorem zJs:lI Tryz.prog 69=some 8:=by kernel_rfl
theorem el22:fA Tryz.prog 22=some (69,8,88):=by kernel_rfl
theorem el23:fA Tryz.prog 23=some (59,20,256):=by kernel_rfl
theorem zDh:bD Tryz.prog 25 0=some (0,22):=by kernel_rfl
theorem zCo:bD Tryz.prog 59 7=some (19,23):=by kernel_rfl
theorem zEm:bD Tryz.prog 69 0=some (0,9):=by kernel_rfl
theorem zHg:bD Tryz.prog 69 1=some (1,31):=by kernel_rfl
theorem zDe:bD Tryz.prog 69 2=some (6,67):=by kernel_rfl
theorem zIo:bD Tryz.prog 69 3=some (7,3):=by kernel_rfl
theorem ok68:bA Tryz.prog 68=true:=by kernel_rfl
theorem ok69:bA Tryz.prog 69=true:=by kernel_rfl
theorem ok93:bA Tryz.prog 93=true:=by kernel_rfl
theorem ok98:bA Tryz.prog 98=true:=by kernel_rfl
theorem ok99:bA Tryz.prog 99=true:=by kernel_rfl
theorem ok103:bA Tryz.prog 103=true:=by kernel_rfl
theorem ok141:bA Tryz.prog 141=true:=by kernel_rfl
theorem ok142:bA Tryz.prog 142=true:=by kernel_rfl
theorem ok153:bA Tryz.prog 153=true:=by kernel_rfl
theorem ok167:bA Tryz.prog 167=true:=by kernel_rfl
theorem ok181:bA Tryz.prog 181=true:=by kernel_rfl
theorem zHq:jQ Tryz.prog 22=true:=by kernel_rfl
theorem zBm:jQ Tryz.prog 23=true:=by kernel_rfl
theorem zCt:jQ Tryz.prog 67=true:=by kernel_rfl
theorem pl69:fL Tryz.prog 69=some [(0,1),(1,5),(6,1),(7,1)]:=by kernel_rfl
theorem sz67:(Tryz.prog.info? 67).map (·.size)=some 1:=by kernel_rfl
theorem sz69:(Tryz.prog.info? 69).map (·.size)=some 8:=by kernel_rfl
theorem zr69:dS Tryz.prog 69=some [(Value.string (ByteArray.mk #[])),(Value.int IntKind.i64 0),(Value.int IntKind.i64 0),(Value.int IntKind.i64 0),(Value.int IntKind.i64 0),(Value.int IntKind.i64 0),(Value.slice none 0 0),(Value.int IntKind.i64 0)]:=by kernel_rfl
theorem zFj (d:List Int) (hl:d.length<=17592186044416):
    Pur cfg 103 [vIs d] (vI (bX d)):=by
 refine zU Tryz.func103 O Tryz.ntmps103 Tryz.results103 O ?_
 intro z hz
 refine R O<|G O<|zA<|zI<|R O<|G O<|zZ O el67<|zW O (yG O O O)<|zA<|zC O (fun c1=>?_) (fun c1=>?_)
 ·try simp only [sx] at c1
  have hlong:=dims_long (d:=d) (by omega)
  refine R O<|G O<|zA<|zK<|zR O ?_
  rw [hlong]
 ·try simp only [sx] at c1
  refine zJ<|zI<|R O<|G O<|zZ O el67<|G O<|zA<|zP<|zT ⟨[(13,.c _),(0,.c _),(11,.c _),(12,.c _)],[]⟩ (Weak.mk [] ⟨zB,zB,zB,zB,T⟩ O)<|qG 1 0 O O (Nat) (fun k=>[(13,vI k)]) (fun k=>[]) (fun k=>k<=d.length/\((d.take k).all lF=true)) (fun k=>d.length-k) ⟨0,⟨by omega,O⟩,Weak.mk [] ⟨zB,zB,zB,zB,T⟩ O⟩ ?_
  rintro k ⟨hk,hp⟩
  refine R O<|yB O<|zA<|zI<|zC O (fun c2=>?_) (fun c2=>?_)
  ·try simp only [sx] at c2
   obtain ⟨n,hn⟩:=qU d k (by omega)
   refine zJ<|zI<|zP<|R O<|qD O el67 (by omega) (B (by assumption))<|zH one3 zQ O<|G O<|zA<|R O<|G O<|yB O<|zA<|zC O (fun c3=>?_) (fun c3=>?_)
   ·try simp only [sx] at c3
    have hneg:=dims_neg (d:=d) (by omega) hn c3
    refine R O<|G O<|zA<|zK<|zR O ?_
    rw [hneg]
   ·try simp only [sx] at c3
    refine zJ<|zM O<|qB O ⟨by omega,by omega⟩<|G O<|zA ?_
    refine ⟨k+1,⟨by omega,zIz hn hp (by unfold lF;exact decide_eq_true (by omega))⟩,(by omega),Weak.mk [] ⟨zB,zB,zB,zB,T⟩ O⟩
  ·try simp only [sx] at c2
   have hpos:d.all lF=true:=by rw [yA (by omega)] at hp;exact hp
   refine qH<|R O<|G O<|zA<|zI<|R O<|G O<|zZ O el67<|G O<|zA<|zP<|zT ⟨[(22,.c _),(5,.c _),(20,.c _),(21,.c _)],[]⟩ (Weak.mk [] ⟨zB,zB,zB,zB,T⟩ O)<|qG 2 0 O O (Nat×Int) (fun ⟨j,s⟩=>[(22,vI j),(5,vI s)]) (fun ⟨j,s⟩=>[]) (fun ⟨j,s⟩=>j<=d.length/\(1<=s)/\(s<=4096)/\(bG 1 d=bG s (d.drop j))) (fun ⟨j,s⟩=>d.length-j) ⟨⟨0,1⟩,⟨by omega,by omega,by omega,O⟩,Weak.mk [] ⟨zB,VLe.of_eq (O),zB,zB,T⟩ O⟩ ?_
   rintro ⟨j,s⟩ ⟨hj,hs1,hs2,hs3⟩
   show AWP _ _ _ _ _ ⟨[(22,vI j),(5,vI s)]++_,[]++_⟩
   refine R O<|yB O<|zA<|zI<|zC O (fun c4=>?_) (fun c4=>?_)
   ·try simp only [sx] at c4
    obtain ⟨m,hm⟩:=qU d j (by omega)
    refine zJ<|zI<|zP<|R O<|qD O el67 (by omega) (B (by assumption))<|zH one3 zQ O<|G O<|zA<|zI<|R O<|G O<|G O<|zW O (det_quo O O O (by omega))<|zW O (yG O O O)<|zA<|zC O (fun c5=>?_) (fun c5=>?_)
    ·try simp only [sx] at c5
     have hov:=quo_t hs1 c5
     refine R O<|G O<|zA<|zK<|zR O ?_
     rw [zTf (by omega) hpos (zLj hm hs3 hov)]
    ·try simp only [sx] at c5
     have hov:=quo_f hs1 (Int.not_lt.2 c5)
     have hm1:=zDp hs1 (zEw hpos hm)
     refine zJ<|zM O<|G O<|G O<|zW O (zBs O O O (by have:=zDp hs1 (zEw hpos hm);exact ⟨by omega,by omega⟩))<|G O<|zA<|zM O<|qB O ⟨by omega,by omega⟩<|G O<|zA ?_
     refine ⟨⟨j+1,s*m⟩,⟨by omega,by omega,by omega,zLk hm hs3 hov⟩,(by show d.length-(j+1)<d.length-j;omega),Weak.mk [] ⟨zB,zB,zB,zB,T⟩ O⟩
   ·try simp only [sx] at c4
    refine qH<|R O<|G O<|zA<|zK<|zR O ?_
    rw [dims_ok (by omega) hpos (zLl hs3 (by omega))]
theorem zJx (d:List Int) (hl:d.length<=17592186044416):
    Pur cfg 93 [vIs d] (vI (bX d)):=by
 refine zU Tryz.func93 O Tryz.ntmps93 Tryz.results93 O ?_
 intro z hz
 refine R O<|G O<|zA<|zI<|R O<|G O<|zZ O el67<|zW O (yG O O O)<|zA<|zC O (fun c1=>?_) (fun c1=>?_)
 ·try simp only [sx] at c1
  have hlong:=dims_long (d:=d) (by omega)
  refine R O<|G O<|zA<|zK<|zR O ?_
  rw [hlong]
 ·try simp only [sx] at c1
  refine zJ<|zI<|R O<|G O<|zA<|zP<|zT ⟨[(3,.c _),(0,.c _)],[]⟩ (Weak.mk [] ⟨zB,zB,T⟩ O)<|qG 1 0 O O (Nat) (fun k=>[(3,vI k)]) (fun k=>[]) (fun k=>k<=d.length/\((d.take k).all lF=true)) (fun k=>d.length-k) ⟨0,⟨by omega,O⟩,Weak.mk [] ⟨zB,zB,T⟩ O⟩ ?_
  rintro k ⟨hk,hp⟩
  refine zI<|R O<|G O<|G O<|zZ O el67<|yB O<|zA<|zC O (fun c2=>?_) (fun c2=>?_)
  ·try simp only [sx] at c2
   obtain ⟨n,hn⟩:=qU d k (by omega)
   refine zJ<|zI<|zP<|R O<|G O<|G O<|qD O el67 (by omega) (B (by assumption))<|zH one3 zQ O<|yB O<|zA<|zC O (fun c3=>?_) (fun c3=>?_)
   ·try simp only [sx] at c3
    have hneg:=dims_neg (d:=d) (by omega) hn c3
    refine R O<|G O<|zA<|zK<|zR O ?_
    rw [hneg]
   ·try simp only [sx] at c3
    refine zJ<|zM O<|G O<|qB O ⟨by omega,by omega⟩<|G O<|zA ?_
    refine ⟨k+1,⟨by omega,zIz hn hp (by unfold lF;exact decide_eq_true (by omega))⟩,(by omega),Weak.mk [] ⟨zB,zB,T⟩ O⟩
  ·try simp only [sx] at c2
   have hpos:d.all lF=true:=by rw [yA (by omega)] at hp;exact hp
   refine qH<|R O<|G O<|zA<|zI<|R O<|G O<|zA<|zP<|zT ⟨[(5,.c _),(4,.c _),(0,.c _)],[]⟩ (Weak.mk [] ⟨zB,zB,zB,T⟩ O)<|qG 2 0 O O (Nat×Int) (fun ⟨j,s⟩=>[(5,vI j),(4,vI s)]) (fun ⟨j,s⟩=>[]) (fun ⟨j,s⟩=>j<=d.length/\(1<=s)/\(s<=4096)/\(bG 1 d=bG s (d.drop j))) (fun ⟨j,s⟩=>d.length-j) ⟨⟨0,1⟩,⟨by omega,by omega,by omega,O⟩,Weak.mk [] ⟨zB,VLe.of_eq (O),zB,T⟩ O⟩ ?_
   rintro ⟨j,s⟩ ⟨hj,hs1,hs2,hs3⟩
   show AWP _ _ _ _ _ ⟨[(5,vI j),(4,vI s)]++_,[]++_⟩
   refine zI<|R O<|G O<|G O<|zZ O el67<|yB O<|zA<|zC O (fun c4=>?_) (fun c4=>?_)
   ·try simp only [sx] at c4
    obtain ⟨m,hm⟩:=qU d j (by omega)
    refine zJ<|zI<|zP<|zI<|R O<|G O<|G O<|qD O el67 (by omega) (B (by assumption))<|zH one3 zQ O<|zW O (yG O O O)<|zA<|zC O (fun c5=>?_) (fun c5=>?_)
    ·try simp only [sx] at c5
     have hov:4096<s*m:=by have:=zDp hs1 (zEw hpos hm);omega
     refine R O<|G O<|zA<|zK<|zR O ?_
     rw [zTf (by omega) hpos (zLj hm hs3 hov)]
    ·try simp only [sx] at c5
     have hm1:=zDp hs1 (zEw hpos hm)
     refine zJ<|R O<|G O<|G O<|G O<|qD O el67 (by omega) (B (by assumption))<|zH one3 zQ O<|zW O (zBs O O O (by have:=zDp hs1 (zEw hpos hm);have hm0:=zEw hpos hm;have:s*m<=4096*4096:=Int.mul_le_mul (by omega) (by omega) (by omega) (by omega);exact ⟨by omega,by omega⟩))<|G O<|zA<|R O<|G O<|zW O (yG O O O)<|zA<|zC O (fun c6=>?_) (fun c6=>?_)
     ·try simp only [sx] at c6
      refine R O<|G O<|zA<|zK<|zR O ?_
      rw [zTf (by omega) hpos (zLj hm hs3 (by omega))]
     ·try simp only [sx] at c6
      refine zJ<|zM O<|G O<|qB O ⟨by omega,by omega⟩<|G O<|zA ?_
      refine ⟨⟨j+1,s*m⟩,⟨by omega,by omega,by omega,zLk hm hs3 (by omega)⟩,(by show d.length-(j+1)<d.length-j;omega),Weak.mk [] ⟨zB,zB,zB,T⟩ O⟩
   ·try simp only [sx] at c4
    refine qH<|R O<|G O<|zA<|zK<|zR O ?_
    rw [dims_ok (by omega) hpos (zLl hs3 (by omega))]
theorem zNk (d:List Int) (hl:d.length<=17592186044416):
    Pur cfg 53 [vIs d] (vI (dJ d)):=by
 refine zU Tryz.func53 O Tryz.ntmps53 Tryz.results53 O ?_
 intro z hz
 refine R O<|G O<|zA<|zI<|R O<|G O<|qN O ok103 (zFj d hl) ⟨zB,O,T⟩<|kU O<|zA<|zC O (fun c1=>?_) (fun c1=>?_)
 ·try simp only [sx] at c1
  refine R O<|G O<|zA<|zK<|zR O ?_
  rw [zKy c1]
 ·try simp only [sx] at c1
  obtain ⟨q1,hpos,t,ht,q2,q3⟩:=zDw c1
  refine zJ<|R O<|G O<|zA<|zI<|R O<|G O<|zZ O el67<|G O<|zA<|zP<|zT ⟨[(11,.c _),(3,.c _),(9,.c _),(10,.c _)],[]⟩ (Weak.mk [] ⟨zB,zB,zB,zB,T⟩ O)<|qG 2 0 O O (Nat×Int) (fun ⟨k,s⟩=>[(11,vI k),(3,vI s)]) (fun ⟨k,s⟩=>[]) (fun ⟨k,s⟩=>k<=d.length/\(1<=s)/\(s<=4096)/\(bG 1 d=bG s (d.drop k))) (fun ⟨k,s⟩=>d.length-k) ⟨⟨0,1⟩,⟨by omega,by omega,by omega,O⟩,Weak.mk [] ⟨zB,VLe.of_eq (O),zB,zB,T⟩ O⟩ ?_
  rintro ⟨k,s⟩ ⟨hk,hs1,hs2,hs3⟩
  show AWP _ _ _ _ _ ⟨[(11,vI k),(3,vI s)]++_,[]++_⟩
  refine R O<|yB O<|zA<|zI<|zC O (fun c2=>?_) (fun c2=>?_)
  ·try simp only [sx] at c2
   obtain ⟨m,hm⟩:=qU d k (by omega)
   have hm1:=zDp hs1 (zEw hpos hm)
   have hfit:=size_fit hm hs3 ht
   refine zJ<|zI<|zP<|R O<|qD O el67 (by omega) (B (by assumption))<|zH one3 zQ O<|G O<|zA<|zM O<|G O<|G O<|zW O (zBs O O O ⟨by omega,by omega⟩)<|G O<|zA<|zM O<|qB O ⟨by omega,by omega⟩<|G O<|zA ?_
   refine ⟨⟨k+1,s*m⟩,⟨by omega,by omega,by omega,zLk hm hs3 hfit⟩,(by show d.length-(k+1)<d.length-k;omega),Weak.mk [] ⟨zB,zB,zB,zB,T⟩ O⟩
  ·try simp only [sx] at c2
   refine qH<|R O<|G O<|G O<|zA<|zK<|zR O ?_
   rw [zEp c1 (zLl hs3 (by omega))]
theorem ref11_Size (d:List Int) (hl:d.length<=17592186044416):
    Pur cfg 41 [vIs d] (vI (dJ d)):=by
 refine zU Tryz.func41 O Tryz.ntmps41 Tryz.results41 O ?_
 intro z hz
 refine R O<|G O<|zA<|zI<|R O<|G O<|qN O ok93 (zJx d hl) ⟨zB,O,T⟩<|kU O<|zA<|zC O (fun c1=>?_) (fun c1=>?_)
 ·try simp only [sx] at c1
  refine R O<|G O<|zA<|zK<|zR O ?_
  rw [zKy c1]
 ·try simp only [sx] at c1
  obtain ⟨q1,hpos,t,ht,q2,q3⟩:=zDw c1
  refine zJ<|R O<|G O<|zA<|zI<|R O<|G O<|zA<|zP<|zT ⟨[(4,.c _),(3,.c _),(0,.c _)],[]⟩ (Weak.mk [] ⟨zB,zB,zB,T⟩ O)<|qG 2 0 O O (Nat×Int) (fun ⟨k,s⟩=>[(4,vI k),(3,vI s)]) (fun ⟨k,s⟩=>[]) (fun ⟨k,s⟩=>k<=d.length/\(1<=s)/\(s<=4096)/\(bG 1 d=bG s (d.drop k))) (fun ⟨k,s⟩=>d.length-k) ⟨⟨0,1⟩,⟨by omega,by omega,by omega,O⟩,Weak.mk [] ⟨zB,VLe.of_eq (O),zB,T⟩ O⟩ ?_
  rintro ⟨k,s⟩ ⟨hk,hs1,hs2,hs3⟩
  show AWP _ _ _ _ _ ⟨[(4,vI k),(3,vI s)]++_,[]++_⟩
  refine zI<|R O<|G O<|G O<|zZ O el67<|yB O<|zA<|zC O (fun c2=>?_) (fun c2=>?_)
  ·try simp only [sx] at c2
   obtain ⟨m,hm⟩:=qU d k (by omega)
   have hm1:=zDp hs1 (zEw hpos hm)
   have hfit:=size_fit hm hs3 ht
   refine zJ<|zI<|zP<|zM O<|G O<|G O<|G O<|qD O el67 (by omega) (B (by assumption))<|zH one3 zQ O<|zW O (zBs O O O ⟨by omega,by omega⟩)<|G O<|zA<|zM O<|G O<|qB O ⟨by omega,by omega⟩<|G O<|zA ?_
   refine ⟨⟨k+1,s*m⟩,⟨by omega,by omega,by omega,zLk hm hs3 hfit⟩,(by show d.length-(k+1)<d.length-k;omega),Weak.mk [] ⟨zB,zB,zB,T⟩ O⟩
  ·try simp only [sx] at c2
   refine qH<|R O<|G O<|G O<|zA<|zK<|zR O ?_
   rw [zEp c1 (zLl hs3 (by omega))]
theorem zPd (l:List Int) (hl:l.length<=17592186044416):
    OwnR cfg 181 [vIs l] 3 1 (l.map fun n=>[cI n]):=by
 refine zU Tryz.func181 O Tryz.ntmps181 Tryz.results181 O ?_
 intro z hz
 refine R O<|zW O (yX 1 O O)<|zA<|zI<|R O<|G O<|zV O O (ope_nileq O el67 O O) ?_
 rintro _ _ ⟨nb1,rfl,hnil1,rfl⟩
 refine zA<|zC O (fun c1=>?_) (fun c1=>?_)
 ·try simp only [sx] at c1
  refine R O<|G O<|qX _ (wV 3 1)<|zA<|zK<|zR O ?_
  exact ⟨_,O,by rw [hnil1 c1]⟩
 ·try simp only [sx] at c1
  refine zJ<|R O<|zV O O (ope_bslice O el67 zr3 O O O O) ?_
  rintro _ _ ⟨sv3,rfl,rfl⟩
  refine G O<|zV O O (yQ 0 O el67 O O O (by simp only [List.length_map,List.length_nil,Nat.zero_add];omega) (by simp only [List.length_map,List.length_nil,Nat.zero_add];omega)) ?_
  rintro _ _ ⟨sv4,rfl,rfl⟩
  refine G O<|zA<|zK<|zR O ?_
  exact ⟨_,O,O⟩
theorem zKt (b:Bf) (hl:b.Dims.length<=17592186044416):
    Pur cfg 153 [vBf b] (vBf b):=by
 refine zU Tryz.func153 O Tryz.ntmps153 Tryz.results153 O ?_
 intro z hz
 refine R O<|zV O O (qO O O) ?_
 rintro _ _ ⟨b1,rfl,rfl⟩
 refine zV O O (qR [none,none,none,none,none,none,some 1,none] O zr69 O) ?_
 rintro _ _ ⟨b2,rfl,rfl⟩
 refine zA<|R O<|zG O zDe<|zH zCt (Y 1 O) O<|qN O ok181 (OwnR.pur (zPd b.Dims hl)) ⟨zB,O,T⟩<|zG O zDe<|D 1 sz67 O<|zA<|R O<|zO zJs (Y 1 O) O<|D 0 sz69 O<|zA<|zK<|fin1 (qM zJs O (Y 0 O) O) ?_
 exact O
theorem wS (n:Ns) (s:ByteArray) (hn:n.Ok):
    Pur cfg 112 [vNs n,vS s] (.tup [vBf (dI n.Bufs s),vB (bP n.Bufs s)]):=by
 refine zU Tryz.func112 O Tryz.ntmps112 Tryz.results112 O ?_
 intro z hz
 have hnb:=hn.bufs
 refine R O<|zV O O (qO O O) ?_
 rintro _ _ ⟨b1,rfl,rfl⟩
 refine zV O O (qR [none,none,none,none,none,none,some 1,none] O zr69 O) ?_
 rintro _ _ ⟨b2,rfl,rfl⟩
 refine G O<|zA<|zI<|R O<|zG O zDh<|zH zHq (Y 1 O) O<|zZ O el22<|G O<|zA<|zP<|zT ⟨[(10,.c _),(1,.c _),(2,.c _),(4,.c _),(9,.c _)],[_,_]⟩ (Weak.mk [true,true] ⟨zB,zB,zB,zB,zB,T⟩ O)<|qG 1 0 O O (Nat) (fun k=>[(10,vI k)]) (fun k=>[]) (fun k=>k<=n.Bufs.length/\(bP (n.Bufs.take k) s=false)/\(dI n.Bufs s=dI (n.Bufs.drop k) s)) (fun k=>n.Bufs.length-k) ⟨0,⟨by omega,O,O⟩,Weak.mk [true,true] ⟨zB,zB,zB,zB,zB,T⟩ O⟩ ?_
 rintro k ⟨hk,hp,hq⟩
 refine R O<|yB O<|zA<|zI<|zC O (fun c1=>?_) (fun c1=>?_)
 ·try simp only [sx] at c1
  obtain ⟨b,hb⟩:=qU n.Bufs k (by omega)
  refine zJ<|zI<|zP<|R O<|G O<|G O<|zA<|R O<|zG O zDh<|zH zHq (Y 1 O) O<|G O<|qD O el22 (by omega) (B (by assumption))<|zX O zEm<|zH one9 zQ O<|G O<|zW O (kE O O O)<|zA<|zC O (fun c2=>?_) (fun c2=>?_)
  ·try simp only [sx] at c2
   refine R O<|zG O zDh<|zH zHq (Y 1 O) O<|G O<|qD O el22 (by omega) (B (by assumption))<|zO zJs zQ O<|qN O ok153 (zKt b (hn.dims b (qA hb))) ⟨zB,O,T⟩<|D 0 sz69 O<|G O<|zA<|zK<|fin2 (qM zJs O (Y 0 O) O) (L O) ?_
   rw [zQb hb c2,hq,bufD_at hb c2];rfl
  ·try simp only [sx] at c2
   refine zJ<|zM O<|qB O ⟨by omega,by omega⟩<|G O<|zA ?_
   refine ⟨k+1,⟨by omega,zNv hb hp c2,hq.trans (bufD_next hb c2)⟩,(by omega),Weak.mk [true,true] ⟨zB,zB,zB,zB,zB,T⟩ O⟩
 ·exact v30
theorem zCk (n:Ns) (s:ByteArray) (hn:n.Ok):
    Pur cfg 83 [vNs n,vS s] (.tup [vBf (dI n.Bufs s),vB (bP n.Bufs s)]):=by
 refine zU Tryz.func83 O Tryz.ntmps83 Tryz.results83 O ?_
 intro z hz
 have hnb:=hn.bufs
 refine R O<|zV O O (qO O O) ?_
 rintro _ _ ⟨b1,rfl,rfl⟩
 refine zV O O (qR [none,none,none,none,none,none,some 1,none] O zr69 O) ?_
 rintro _ _ ⟨b2,rfl,rfl⟩
 refine G O<|zA<|zI<|R O<|G O<|zA<|zP<|zT ⟨[(6,.c _),(1,.c _),(2,.c _),(4,.c _)],[_,_]⟩ (Weak.mk [true,true] ⟨zB,zB,zB,zB,T⟩ O)<|qG 1 0 O O (Nat) (fun k=>[(6,vI k)]) (fun k=>[]) (fun k=>k<=n.Bufs.length/\(bP (n.Bufs.take k) s=false)/\(dI n.Bufs s=dI (n.Bufs.drop k) s)) (fun k=>n.Bufs.length-k) ⟨0,⟨by omega,O,O⟩,Weak.mk [true,true] ⟨zB,zB,zB,zB,T⟩ O⟩ ?_
 rintro k ⟨hk,hp,hq⟩
 refine zI<|R O<|G O<|zG O zDh<|zH zHq (Y 1 O) O<|zZ O el22<|yB O<|zA<|zC O (fun c1=>?_) (fun c1=>?_)
 ·try simp only [sx] at c1
  obtain ⟨b,hb⟩:=qU n.Bufs k (by omega)
  refine zJ<|zI<|zP<|R O<|zG O zDh<|zH zHq (Y 1 O) O<|G O<|qD O el22 (by omega) (B (by assumption))<|zX O zEm<|zH one9 zQ O<|G O<|zW O (kE O O O)<|zA<|zC O (fun c2=>?_) (fun c2=>?_)
  ·try simp only [sx] at c2
   refine R O<|zG O zDh<|zH zHq (Y 1 O) O<|G O<|qD O el22 (by omega) (B (by assumption))<|zO zJs zQ O<|D 0 sz69 O<|G O<|zA<|zK<|fin2 (qM zJs O (Y 0 O) O) (L O) ?_
   rw [zQb hb c2,hq,bufD_at hb c2];rfl
  ·try simp only [sx] at c2
   refine zJ<|zM O<|G O<|qB O ⟨by omega,by omega⟩<|G O<|zA ?_
   refine ⟨k+1,⟨by omega,zNv hb hp c2,hq.trans (bufD_next hb c2)⟩,(by omega),Weak.mk [true,true] ⟨zB,zB,zB,zB,T⟩ O⟩
 ·exact v30
theorem zQs (n:Nat) (ih:n≠0->∀(l:List St) (x:Int),bL l<=1073741824->x=((n-1:Nat):Int)->Pur cfg 98 [fV l,vI x] (vB (bV (n-1) l))) (l:List St) (x:Int) (hn:n<=100) (hl:bL l<=1073741824) (hx:x=n):
    Pur cfg 98 [fV l,vI x] (vB (bV n l)):=by
 refine zU Tryz.func98 O Tryz.ntmps98 Tryz.results98 O ?_
 intro z hz
 have hll:=wL l
 refine R O<|G O<|zA<|zI<|R O<|G O<|zZ O el23<|G O<|zA<|zP<|zT ⟨[(8,.c _),(0,.c _),(1,.c _),(7,.c _)],[]⟩ (Weak.mk [] ⟨zB,zB,zB,zB,T⟩ O)<|qG 1 0 O O (Nat) (fun k=>[(8,vI k)]) (fun k=>[]) (fun k=>k<=l.length/\(rA n (l.take k)=true)) (fun k=>l.length-k) ⟨0,⟨by omega,by cases n<;>rfl⟩,Weak.mk [] ⟨zB,zB,zB,zB,T⟩ O⟩ ?_
 rintro k ⟨hk,hp⟩
 refine R O<|yB O<|zA<|zI<|zC O (fun c1=>?_) (fun c1=>?_)
 ·try simp only [sx] at c1
  obtain ⟨s,hs⟩:=qU l k (by omega)
  refine zJ<|zI<|zP<|R O<|G O<|G O<|zA<|R O<|G O<|yB O<|G O<|rL0 O (fun g4_2=>zN O O) O<|rL0 O (fun g4_2=>zN O O) O<|rLz [(14,_),(15,_)] O J ⟨O,O,O,O,T⟩ (fun g4_2=>qL O el23 O O (by omega) (zEl hs)) O<|A 16 O (fun g4_2=>qF O zCo O) O<|A 17 O (fun g4_2=>zF O zBm O zQ O) O<|rL0 O (fun g4_2=>zN O O) O<|A 19 O (fun g4_2=>kA O O O ⟨by omega,by omega⟩) O<|rLz [(18,_),(20,_)] O J ⟨O,O,O,O,T⟩ (fun g4_2=>qS O ok98 (ih (by simp only [Lz,cond_true,cond_false,Bool.and_eq_true,Bool.or_eq_true,Bool.not_eq_true',Bool.not_eq_false',Bool.or_eq_false_iff,Bool.and_eq_false_iff,decide_eq_true_eq,decide_eq_false_iff_not,Bool.not_eq_true,Bool.not_eq_false] at g4_2;omega) s.Body _ (by have:=St.body_wt s;have:=kL (qA hs);omega) (by simp only [Lz,cond_true,cond_false,Bool.and_eq_true,Bool.or_eq_true,Bool.not_eq_true',Bool.not_eq_false',Bool.or_eq_false_iff,Bool.and_eq_false_iff,decide_eq_true_eq,decide_eq_false_iff_not,Bool.not_eq_true,Bool.not_eq_false] at g4_2;omega)) ⟨zB,O,zB,O,T⟩) O<|A 21 O (fun g4_2=>wA O O) O<|r_or O (fun h=>(lzf h))<|zA<|zC O (fun c2=>?_) (fun c2=>?_)
  ·have hno:=within_no hs hx c2
   refine R O<|G O<|zA<|zK<|zR O ?_
   rw [hno]
  ·have hyes:=within_yes hx c2
   refine zJ<|zM O<|qB O ⟨by omega,by omega⟩<|G O<|zA ?_
   refine ⟨k+1,⟨by omega,withinG_next hs hp hyes.1 hyes.2⟩,(by omega),Weak.mk [] ⟨zB,zB,zB,zB,T⟩ O⟩
 ·try simp only [sx] at c1
  refine qH<|R O<|G O<|zA<|zK<|zR O ?_
  rw [yA (by omega),withinG_eq] at hp;rw [hp]
theorem zSd (n:Nat) (l:List St) (x:Int) (hn:n<=100) (hl:bL l<=1073741824) (hx:x=n):Pur cfg 98 [fV l,vI x] (vB (bV n l)):=by
  induction n generalizing l x with
  |zero=>exact zQs 0 (fun h=>absurd rfl h) l x hn hl hx
  |succ n ih=>exact zQs (n+1) (fun _ l x h1 h2=>ih l x (by omega) h1 (by omega)) l x hn hl hx
theorem depth_step (n:Nat) (ih:n≠0->∀(l:List St) (x:Int),bL l<=1073741824->x=((n-1:Nat):Int)->Pur cfg 68 [fV l,vI x] (vI (lR (n-1) l))) (l:List St) (x:Int) (hn:n<=100) (hl:bL l<=1073741824) (hx:x=n):
    Pur cfg 68 [fV l,vI x] (vI (lR n l)):=by
 refine zU Tryz.func68 O Tryz.ntmps68 Tryz.results68 O ?_
 intro z hz
 have hll:=wL l
 refine R O<|G O<|zA<|R O<|G O<|zA<|zI<|R O<|G O<|zA<|zP<|zT ⟨[(5,.c _),(6,.c _),(0,.c _),(1,.c _)],[]⟩ (Weak.mk [] ⟨zB,zB,zB,zB,T⟩ O)<|qG 2 0 O O (Nat×Int) (fun ⟨k,d⟩=>[(5,vI d),(6,vI k)]) (fun ⟨k,d⟩=>[]) (fun ⟨k,d⟩=>k<=l.length/\0<=d/\d<=100/\d=lR n (l.take k)) (fun ⟨k,d⟩=>l.length-k) ⟨⟨0,0⟩,⟨by omega,by omega,by omega,by cases n<;>rfl⟩,Weak.mk [] ⟨VLe.of_eq (O),zB,zB,zB,T⟩ O⟩ ?_
 rintro ⟨k,d⟩ ⟨hk,hd0,hd1,hd⟩
 show AWP _ _ _ _ _ ⟨[(5,vI d),(6,vI k)]++_,[]++_⟩
 refine zI<|R O<|G O<|G O<|zZ O el23<|yB O<|G O<|rL0 O (fun g3_4=>zN O O) O<|A 12 O (fun g3_4=>yG O O O) O<|yK O (fun h=>h)<|zA<|zC O (fun c1=>?_) (fun c1=>?_)
 ·try simp only [sx] at c1
  obtain ⟨s,hs⟩:=qU l k (by omega)
  have hle:=depS_le (n-1) s.Body
  refine zJ<|zI<|zP<|zM O<|G O<|G O<|G O<|qD O el23 (by omega) (zEl hs)<|zX O zCo<|zH zBm zQ O<|G O<|yY O ⟨by omega,by omega⟩<|qN O ok68 (ih (by omega) s.Body _ (by have:=St.body_wt s;have:=kL (qA hs);omega) (by omega)) ⟨zB,O,zB,O,T⟩<|qB O ⟨by omega,by omega⟩<|zW O (zFn O O O)<|G O<|zA<|zM O<|G O<|qB O ⟨by omega,by omega⟩<|G O<|zA ?_
  refine ⟨⟨k+1,max d (1+lR (n-1) s.Body)⟩,⟨by omega,by omega,by omega,by rw [depS_next hs (by omega),←hd]⟩,(by dsimp only;omega),Weak.mk [] ⟨zB,zB,zB,zB,T⟩ O⟩
 ·try simp only [sx] at c1
  refine qH<|R O<|G O<|G O<|zA<|zK<|zR O ?_
  exact congrArg vI (depS_stop hx hd (by omega))
theorem ref30_depth (n:Nat) (l:List St) (x:Int) (hn:n<=100) (hl:bL l<=1073741824) (hx:x=n):Pur cfg 68 [fV l,vI x] (vI (lR n l)):=by
  induction n generalizing l x with
  |zero=>exact depth_step 0 (fun h=>absurd rfl h) l x hn hl hx
  |succ n ih=>exact depth_step (n+1) (fun _ l x h1 h2=>ih l x (by omega) h1 (by omega)) l x hn hl hx
theorem zCu (l:List St) (ih:∀s,s∈l->∀(m:Nat) (x:Int),m<=2147483648->x=m->Pur cfg 99 [fV s.Body,vI x] (vI (jI s.Body m))) (m:Nat) (x:Int) (hl:bL l<=1073741824) (hm:m<=2147483648) (hx:x=m):
    Pur cfg 99 [fV l,vI x] (vI (jI l m)):=by
 refine zU Tryz.func99 O Tryz.ntmps99 Tryz.results99 O ?_
 intro z hz
 have hll:=wL l
 have hNw:=stsN_wt l
 refine R O<|G O<|zA<|R O<|G O<|zZ O el23<|G O<|zA<|zI<|R O<|G O<|zZ O el23<|G O<|zA<|zP<|zT ⟨[(11,.c _),(5,.c _),(0,.c _),(1,.c _),(10,.c _)],[]⟩ (Weak.mk [] ⟨zB,zB,zB,zB,zB,T⟩ O) ?_
 refine qG 2 0 O O (Nat×Nat) (fun ⟨k,n⟩=>[(11,vI k),(5,vI n)]) (fun ⟨k,n⟩=>[]) (fun ⟨k,n⟩=>k<=l.length/\(n<=4294967296)/\(jI l m=lP (l.drop k) m n)) (fun ⟨k,n⟩=>l.length-k) ⟨⟨0,l.length⟩,⟨by omega,by omega,O⟩,Weak.mk [] ⟨zB,VLe.of_eq (congrArg vI (by simp)),zB,zB,zB,T⟩ O⟩ ?_
 rintro ⟨k,n⟩ ⟨hk,hn,hp⟩
 show AWP _ _ _ _ _ ⟨[(11,vI k),(5,vI n)]++_,[]++_⟩
 refine R O<|yB O<|zA<|zI<|zC O (fun c1=>?_) (fun c1=>?_)
 ·try simp only [sx] at c1
  obtain ⟨s,hs⟩:=qU l k (by omega)
  refine zJ<|zI<|zP<|R O<|G O<|G O<|zA<|zI<|R O<|G O<|G O<|zW O (yG O O O)<|zA<|zC O (fun c2=>?_) (fun c2=>?_)
  ·try simp only [sx] at c2
   exact v42
  ·try simp only [sx] at c2
   have hsum:=num_sum hs hp (by omega)
   have hbl:=numB_le s.Body (m-n)
   have hsn:=zPn (qA hs)
   have hse:=zOn s
   refine zJ<|zM O<|G O<|G O<|G O<|qD O el23 (by omega) (zEl hs)<|zX O zCo<|zH zBm zQ O<|G O<|G O<|yY O ⟨by omega,by omega⟩<|qN O ok99 (ih s (qA hs) (m-n) _ (by omega) (by omega)) ⟨zB,O,zB,O,T⟩<|qB O ⟨by omega,by omega⟩<|G O<|zA<|zM O<|qB O ⟨by omega,by omega⟩<|G O<|zA ?_
   refine ⟨⟨k+1,n+jI s.Body (m-n)⟩,⟨by omega,by omega,num_next hs hp (by omega)⟩,(by show l.length-(k+1)<l.length-k;omega),Weak.mk [] ⟨zB,VLe.of_eq (congrArg vI (by omega)),zB,zB,zB,T⟩ O⟩
 ·try simp only [sx] at c1
  exact v42
theorem zGr (s:St):∀(m:Nat) (x:Int),bL s.Body<=1073741824->m<=2147483648->x=m->Pur cfg 99 [fV s.Body,vI x] (vI (jI s.Body m)):=by
  induction s using St.ind with
  |_ s ih=>exact fun m x hl hm hx=>zCu s.Body (fun a ha m x h1 h2=>ih a ha m x (by have:=St.body_wt a;have:=kL ha;omega) h1 h2) m x hl hm hx
theorem zLy (l:List St) (m:Nat) (x:Int) (hl:bL l<=1073741824) (hm:m<=2147483648) (hx:x=m):Pur cfg 99 [fV l,vI x] (vI (jI l m)):=
  zCu l (fun a ha m x h1 h2=>zGr a m x (by have:=St.body_wt a;have:=kL ha;omega) h1 h2) m x hl hm hx
theorem zIf (l:List St) (ih:∀s,s∈l->∀(m:Nat) (x:Int),m<=2147483648->x=m->Pur cfg 69 [fV s.Body,vI x] (vI (jI s.Body m))) (m:Nat) (x:Int) (hl:bL l<=1073741824) (hm:m<=2147483648) (hx:x=m):
    Pur cfg 69 [fV l,vI x] (vI (jI l m)):=by
 refine zU Tryz.func69 O Tryz.ntmps69 Tryz.results69 O ?_
 intro z hz
 have hll:=wL l
 have hNw:=stsN_wt l
 refine R O<|G O<|zA<|R O<|G O<|zZ O el23<|G O<|zA<|zI<|R O<|G O<|zA<|zP<|zT ⟨[(6,.c _),(5,.c _),(0,.c _),(1,.c _)],[]⟩ (Weak.mk [] ⟨zB,zB,zB,zB,T⟩ O) ?_
 refine qG 2 0 O O (Nat×Nat) (fun ⟨k,n⟩=>[(6,vI k),(5,vI n)]) (fun ⟨k,n⟩=>[]) (fun ⟨k,n⟩=>k<=l.length/\(n<=4294967296)/\(jI l m=lP (l.drop k) m n)) (fun ⟨k,n⟩=>l.length-k) ⟨⟨0,l.length⟩,⟨by omega,by omega,O⟩,Weak.mk [] ⟨zB,VLe.of_eq (congrArg vI (by simp)),zB,zB,T⟩ O⟩ ?_
 rintro ⟨k,n⟩ ⟨hk,hn,hp⟩
 show AWP _ _ _ _ _ ⟨[(6,vI k),(5,vI n)]++_,[]++_⟩
 refine zI<|R O<|G O<|G O<|zZ O el23<|yB O<|G O<|rL0 O (fun g3_4=>zN O O) O<|rL0 O (fun g3_4=>zN O O) O<|rLz [(14,_),(15,_)] O J ⟨O,O,O,O,T⟩ (fun g3_4=>kQ O O O) O<|yK O (fun h=>h)<|zA<|zC O (fun c1=>?_) (fun c1=>?_)
 ·try simp only [sx] at c1
  obtain ⟨s,hs⟩:=qU l k (by omega)
  have hsum:=num_sum hs hp (by omega)
  have hbl:=numB_le s.Body (m-n)
  have hsn:=zPn (qA hs)
  have hse:=zOn s
  refine zJ<|zI<|zP<|zM O<|G O<|G O<|G O<|qD O el23 (by omega) (zEl hs)<|zX O zCo<|zH zBm zQ O<|G O<|G O<|yY O ⟨by omega,by omega⟩<|zW O (zFn O O O)<|qN O ok69 (ih s (qA hs) (m-n) _ (by omega) (by omega)) ⟨zB,O,zB,O,T⟩<|qB O ⟨by omega,by omega⟩<|G O<|zA<|zM O<|G O<|qB O ⟨by omega,by omega⟩<|G O<|zA ?_
  refine ⟨⟨k+1,n+jI s.Body (m-n)⟩,⟨by omega,by omega,num_next hs hp (by omega)⟩,(by show l.length-(k+1)<l.length-k;omega),Weak.mk [] ⟨zB,VLe.of_eq (congrArg vI (by omega)),zB,zB,T⟩ O⟩
 ·try simp only [sx] at c1
  exact v42
theorem zRp (s:St):∀(m:Nat) (x:Int),bL s.Body<=1073741824->m<=2147483648->x=m->Pur cfg 69 [fV s.Body,vI x] (vI (jI s.Body m)):=by
  induction s using St.ind with
  |_ s ih=>exact fun m x hl hm hx=>zIf s.Body (fun a ha m x h1 h2=>ih a ha m x (by have:=St.body_wt a;have:=kL ha;omega) h1 h2) m x hl hm hx
theorem ref30_size (l:List St) (m:Nat) (x:Int) (hl:bL l<=1073741824) (hm:m<=2147483648) (hx:x=m):Pur cfg 69 [fV l,vI x] (vI (jI l m)):=
  zIf l (fun a ha m x h1 h2=>zRp a m x (by have:=St.body_wt a;have:=kL ha;omega) h1 h2) m x hl hm hx
theorem zKm (l:List Bf) (c:C) (p:Bf->Bool) (hl:l.length<=4294967296) (hc:∀x,x∈l->FnPur cfg c [vBf x] (vB (p x))):
    Pur cfg 167 [xX l,.c c] (vI (fX p l)):=by
 refine zU Tryz.func167 O Tryz.ntmps167 Tryz.results167 O ?_
 intro z hz
 refine R O<|G O<|zA<|zI<|R O<|G O<|zZ O el22<|G O<|zA<|zP<|zT ⟨[(8,.c _),(0,.c _),(1,.c _),(7,.c _)],[]⟩ (Weak.mk [] ⟨zB,zB,zB,zB,T⟩ O)<|qG 1 0 O O (Nat) (fun k=>[(8,vI k)]) (fun k=>[]) (fun k=>k<=l.length/\((l.take k).any p=false)) (fun k=>l.length-k) ⟨0,⟨by omega,O⟩,Weak.mk [] ⟨zB,zB,zB,zB,T⟩ O⟩ ?_
 rintro k ⟨hk,hp⟩
 refine R O<|yB O<|zA<|zI<|zC O (fun c1=>?_) (fun c1=>?_)
 ·try simp only [sx] at c1
  obtain ⟨x,hx⟩:=qU l k (by omega)
  refine zJ<|zI<|zP<|R O<|G O<|G O<|zA<|R O<|G O<|G O<|G O<|qD O el22 (by omega) (B (by assumption))<|zO zJs zQ O<|zW O (kW O O (hc _ (qA hx)) ⟨zB,O,T⟩)<|zA<|zC O (fun c2=>?_) (fun c2=>?_)
  ·exact j7
  ·exact p8
 ·exact m7
theorem zHp (l:List Bf) (c:C) (p:Bf->Bool) (hl:l.length<=4294967296) (hc:∀x,x∈l->FnPur cfg c [vBf x] (vB (p x))):
    Pur cfg 141 [xX l,.c c] (vB (l.any p)):=by
 refine zU Tryz.func141 O Tryz.ntmps141 Tryz.results141 O ?_
 intro z hz
 refine R O<|G O<|zA<|R O<|G O<|G O<|qN O ok167 (zKm l c p hl hc) ⟨zB,O,zB,O,T⟩<|zW O (kN O O O)<|G O<|zA<|zK<|zR O ?_
 rw [zCb]
theorem checkBuffers_1 (x b:Bf):
    Pur cfg 142 [vBf x,.c (.iptr b.cells)] (vB (decide (x.Name=b.Name))):=by
 refine zU Tryz.func142 O Tryz.ntmps142 Tryz.results142 O ?_
 intro z hz
 refine R O<|zV O O (qO O O) ?_
 rintro _ _ ⟨b1,rfl,rfl⟩
 refine G O<|zA<|R O<|zG O zEm<|zH one9 (Y 0 O) O<|zX O zEm<|zH one9 zQ O<|zW O (kE O O O)<|G O<|zA<|zK<|zR O ?_
 exact O
theorem zIm (l:List Bf) (hl:l.length<=4294967296) (hd:∀b,b∈l->b.Dims.length<=17592186044416):
    Pur cfg 100 [xX l] (vI (dC [] l)):=by
 refine zU Tryz.func100 O Tryz.ntmps100 Tryz.results100 O ?_
 intro z hz
 refine R O<|G O<|zA<|zI<|R O<|G O<|zZ O el22<|G O<|zA<|zP<|zT ⟨[(8,.c _),(0,.c _),(7,.c _)],[]⟩ (Weak.mk [] ⟨zB,zB,zB,T⟩ O)<|qG 1 0 O O (Nat) (fun k=>[(8,vI k)]) (fun k=>[]) (fun k=>k<=l.length/\(dC [] l=dC (l.take k) (l.drop k))) (fun k=>l.length-k) ⟨0,⟨by omega,O⟩,Weak.mk [] ⟨zB,zB,zB,T⟩ O⟩ ?_
 rintro k ⟨hk,hp⟩
 refine R O<|yB O<|zA<|zI<|zC O (fun c1=>?_) (fun c1=>?_)
 ·try simp only [sx] at c1
  obtain ⟨b,hb⟩:=qU l k (by omega)
  refine zJ<|zI<|zP<|R O<|G O<|G O<|zA<|R O<|G O<|G O<|qD O el22 (by omega) (B (by assumption))<|zO zJs zQ O<|zV O O (qR [none,none,none,none,none,none,some 1,none] O zr69 O) ?_
  rintro _ _ ⟨b1,rfl,rfl⟩
  refine D 0 sz69 O<|qX _ (qK 0 O 4 _ PLe.ptr)<|zA<|zI<|zP<|R O<|zX O zEm<|zH one9 zQ O<|qN O ok96 (zDt _) ⟨zB,O,T⟩<|kP O<|G O<|zA<|zC O (fun c2=>?_) (fun c2=>?_)
  ·try simp only [sx] at c2
   refine R O<|G O<|zA<|zK<|zR O ?_
   rw [zBd hb hp (by rw [bfErr_7 c2];decide),bfErr_7 c2]
  ·try simp only [sx] at c2
   refine R O<|G O<|G O<|zW O (zOx O el22 O O (by omega))<|zW O (zFe O O O O O)<|qN O ok141 (zHp (l.take k) _ (fun x=>decide (x.Name=b.Name)) (by rw [List.length_take];omega) (fun x _=>FnPur.of_pur (first:=[]) (cap:=[.iptr b.cells]) ok142 (checkBuffers_1 x b))) ⟨zB,O,zB,O,T⟩<|G O<|zA<|zC O (fun c3=>?_) (fun c3=>?_)
   ·try simp only [sx] at c3
    refine R O<|G O<|zA<|zK<|zR O ?_
    rw [zBd hb hp (by rw [bfErr_8 c2 c3];decide),bfErr_8 c2 c3]
   ·try simp only [sx] at c3
    refine R O<|zX O zHg<|zO yH zQ O<|qN O ok39 (zAj b.T) ⟨zB,O,T⟩<|kU O<|G O<|zA<|zC O (fun c4=>?_) (fun c4=>?_)
    ·try simp only [sx] at c4
     refine R O<|G O<|zA<|zK<|zR O ?_
     rw [zBd hb hp (by rw [zQn c2 c3 (zPl c4)];decide),zQn c2 c3 (zPl c4)]
    ·try simp only [sx] at c4
     refine zJ<|zI<|R O<|zX O zDe<|zH zCt zQ O<|qN O ok103 (zFj b.Dims (hd b (qA hb))) ⟨zB,O,T⟩<|G O<|zA<|R O<|G O<|kU O<|zA<|zC O (fun c5=>?_) (fun c5=>?_)
     ·try simp only [sx] at c5
      refine R O<|G O<|G O<|zA<|zK<|zR O ?_
      rw [zBd hb hp (by rw [bfErr_d c2 c3 (zGk c4) c5];exact c5),bfErr_d c2 c3 (zGk c4) c5]
     ·try simp only [sx] at c5
      refine zJ<|R O<|zX O zIo<|zH one3 zQ O<|yB O<|G O<|rL0 O (fun g14_3=>qF O zIo O) O<|A 41 O (fun g14_3=>zF O one3 O zQ O) O<|A 42 O (fun g14_3=>yG O O O) O<|r_or O (fun h=>(lzf h))<|zA<|zC O (fun c6=>?_) (fun c6=>?_)
      ·try simp only [sx] at c6
       refine R O<|G O<|zA<|zK<|zR O ?_
       rw [zBd hb hp (by rw [bfErr_u c2 c3 (zGk c4) c5 (by omega)];decide),bfErr_u c2 c3 (zGk c4) c5 (by omega)]
      ·try simp only [sx] at c6
       refine zJ<|zM O<|qB O ⟨by omega,by omega⟩<|G O<|zA ?_
       refine ⟨k+1,⟨by omega,zOz hb hp (bfErr_0 c2 c3 (zGk c4) c5 (by omega))⟩,(by omega),Weak.mk [] ⟨zB,zB,zB,T⟩ O⟩
 ·try simp only [sx] at c1
  refine qH<|R O<|G O<|zA<|zK<|zR O ?_
  rw [zTp hp (by omega)]
theorem ref30_bufs (n:Ns) (hn:n.Ok):
    Pur cfg 70 [vNs n] (vI (dC [] n.Bufs)):=by
 refine zU Tryz.func70 O Tryz.ntmps70 Tryz.results70 O ?_
 intro z hz
 have hnb:=hn.bufs
 refine R O<|zV O O (qO O O) ?_
 rintro _ _ ⟨b1,rfl,rfl⟩
 refine G O<|zA<|zI<|R O<|G O<|zA<|zP<|zT ⟨[(3,.c _),(1,.c _)],[_]⟩ (Weak.mk [true] ⟨zB,zB,T⟩ O)<|qG 1 0 O O (Nat) (fun k=>[(3,vI k)]) (fun k=>[]) (fun k=>k<=n.Bufs.length/\(dC [] n.Bufs=dC (n.Bufs.take k) (n.Bufs.drop k))) (fun k=>n.Bufs.length-k) ⟨0,⟨by omega,O⟩,Weak.mk [true] ⟨zB,zB,T⟩ O⟩ ?_
 rintro k ⟨hk,hp⟩
 refine zI<|R O<|G O<|zG O zDh<|zH zHq (Y 0 O) O<|zZ O el22<|yB O<|zA<|zC O (fun c1=>?_) (fun c1=>?_)
 ·try simp only [sx] at c1
  obtain ⟨b,hb⟩:=qU n.Bufs k (by omega)
  refine zJ<|zI<|zP<|R O<|zG O zDh<|zH zHq (Y 0 O) O<|G O<|qD O el22 (by omega) (B (by assumption))<|zO zJs zQ O<|zV O O (qR [none,none,none,none,none,none,some 1,none] O zr69 O) ?_
  rintro _ _ ⟨b2,rfl,rfl⟩
  refine D 0 sz69 O<|zA<|zI<|R O<|zG O zEm<|zH one9 (Y 0 O) O<|qN O ok120 (zIy _) ⟨zB,O,T⟩<|kP O<|zA<|zC O (fun c2=>?_) (fun c2=>?_)
  ·try simp only [sx] at c2
   refine R O<|G O<|zA<|zK<|zR O ?_
   rw [zBd hb hp (by rw [bfErr_7 c2];decide),bfErr_7 c2]
  ·try simp only [sx] at c2
   refine zJ<|zI<|R O<|G O<|zA<|zP<|zT ⟨[(5,.c _),(1,.c _),(3,.c _),(4,.c _)],[_,_]⟩ (Weak.mk [true,true] ⟨zB,zB,zB,zB,T⟩ O)<|qG 1 0 O O (Nat) (fun j=>[(5,vI j)]) (fun j=>[]) (fun j=>j<=k/\bP (n.Bufs.take j) b.Name=false) (fun j=>k-j) ⟨0,⟨by omega,O⟩,Weak.mk [true,true] ⟨zB,zB,zB,zB,T⟩ O⟩ ?_
   rintro j ⟨hj,hq⟩
   refine zI<|R O<|G O<|G O<|yB O<|zA<|zC O (fun c3=>?_) (fun c3=>?_)
   ·try simp only [sx] at c3
    obtain ⟨y,hy⟩:=qU n.Bufs j (by omega)
    refine zJ<|zI<|zP<|zI<|qW 9 mixed (by kernel_rfl) O O<|zL O O (zD O zDh O)<|zL O O (zF O zHq O (Y 1 O) O)<|zL O O (zN O O)<|zL O O (qL O el22 O O (by omega) (B (by assumption)))<|zL O O (qF O zEm O)<|zL O O (zF O one9 O zQ O)<|zL O O (zD O zEm O)<|zL O O (zF O one9 O (Y 0 O) O)<|zL O O (kE O O O)<|yJ<|zA<|zC O (fun c4=>?_) (fun c4=>?_)
    ·try simp only [sx] at c4
     refine R O<|G O<|zA<|zK<|zR O ?_
     have h8:=hasBf_lt hy (show j<k by omega) c4
     rw [zBd hb hp (by rw [bfErr_8 c2 h8];decide),bfErr_8 c2 h8]
    ·try simp only [sx] at c4
     refine zJ<|zM O<|G O<|qB O ⟨by omega,by omega⟩<|G O<|zA ?_
     refine ⟨j+1,⟨by omega,zNv hy hq c4⟩,(by omega),Weak.mk [true,true] ⟨zB,zB,zB,zB,T⟩ O⟩
   ·try simp only [sx] at c3
    rw [show j=k by omega] at hq
    refine qH<|zI<|R O<|zG O zHg<|zO yH (Y 0 O) O<|qN O ok121 (base_Type b.T) ⟨zB,O,T⟩<|kP O<|zA<|zC O (fun c5=>?_) (fun c5=>?_)
    ·try simp only [sx] at c5
     refine R O<|G O<|zA<|zK<|zR O ?_
     rw [zBd hb hp (by rw [zQn c2 hq c5];decide),zQn c2 hq c5]
    ·try simp only [sx] at c5
     refine zJ<|zI<|R O<|zG O zDe<|zH zCt (Y 0 O) O<|qN O ok93 (zJx b.Dims (hn.dims b (qA hb))) ⟨zB,O,T⟩<|G O<|zA<|R O<|G O<|kU O<|zA<|zC O (fun c6=>?_) (fun c6=>?_)
     ·try simp only [sx] at c6
      refine R O<|G O<|G O<|zA<|zK<|zR O ?_
      rw [zBd hb hp (by rw [bfErr_d c2 hq c5 c6];exact c6),bfErr_d c2 hq c5 c6]
     ·try simp only [sx] at c6
      refine zJ<|R O<|zG O zIo<|zH one3 (Y 0 O) O<|yB O<|G O<|rL0 O (fun g17_3=>zD O zIo O) O<|A 51 O (fun g17_3=>zF O one3 O (Y 0 O) O) O<|A 52 O (fun g17_3=>yG O O O) O<|r_or O (fun h=>(lzf h))<|zA<|zC O (fun c7=>?_) (fun c7=>?_)
      ·try simp only [sx] at c7
       refine R O<|G O<|zA<|zK<|zR O ?_
       rw [zBd hb hp (by rw [bfErr_u c2 hq c5 c6 (by omega)];decide),bfErr_u c2 hq c5 c6 (by omega)]
      ·try simp only [sx] at c7
       refine zJ<|zM O<|G O<|qB O ⟨by omega,by omega⟩<|G O<|zA ?_
       refine ⟨k+1,⟨by omega,zOz hb hp (bfErr_0 c2 hq c5 c6 (by omega))⟩,(by omega),Weak.mk [false,true] ⟨zB,zB,T⟩ O⟩
 ·try simp only [sx] at c1
  refine qH<|R O<|G O<|zA<|zK<|zR O ?_
  rw [zTp hp (by omega)]
end Go.W
