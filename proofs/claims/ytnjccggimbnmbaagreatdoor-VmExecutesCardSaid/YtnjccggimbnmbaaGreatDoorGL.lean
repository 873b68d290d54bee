/-
  What functions compute.
  What functions compute.
  What functions compute.
  What functions compute.
  What functions compute.
  What functions compute.
  What functions compute.
  What functions compute.
  Conditions: none.
-/
import Derived.Test.YtnjccggimbnmbaaGreatDoorGB
import Derived.Test.YtnjccggimbnmbaaGreatDoorEngZ
import Derived.Test.YtnjccggimbnmbaaGreatDoorPlain3
set_option linter.unusedSimpArgs false
set_option linter.unusedVariables false
section
set_option maxRecDepth 10000
namespace Go.W
open Go Go.Eng Go.Proofs Go.L41 Go.Br
attribute [local irreducible] AWP RWP TD fT
theorem zIv:lA Tryz.prog 46=some 8:=by kernel_rfl
theorem el22:dK Tryz.prog 22=some (46,8,88):=by kernel_rfl
theorem el23:dK Tryz.prog 23=some (169,20,256):=by kernel_rfl
theorem zAb:bE Tryz.prog 25 0=some (0,22):=by kernel_rfl
theorem zCc:bE Tryz.prog 46 0=some (0,9):=by kernel_rfl
theorem zDn:bE Tryz.prog 46 1=some (1,43):=by kernel_rfl
theorem zCu:bE Tryz.prog 46 2=some (6,44):=by kernel_rfl
theorem zIk:bE Tryz.prog 46 3=some (7,3):=by kernel_rfl
theorem zEq:bE Tryz.prog 169 7=some (19,23):=by kernel_rfl
theorem ok23:bA Tryz.prog 23=true:=by kernel_rfl
theorem ok75:bA Tryz.prog 75=true:=by kernel_rfl
theorem ok76:bA Tryz.prog 76=true:=by kernel_rfl
theorem ok79:bA Tryz.prog 79=true:=by kernel_rfl
theorem ok93:bA Tryz.prog 93=true:=by kernel_rfl
theorem ok94:bA Tryz.prog 94=true:=by kernel_rfl
theorem ok114:bA Tryz.prog 114=true:=by kernel_rfl
theorem ok115:bA Tryz.prog 115=true:=by kernel_rfl
theorem ok121:bA Tryz.prog 121=true:=by kernel_rfl
theorem ok149:bA Tryz.prog 149=true:=by kernel_rfl
theorem ok221:bA Tryz.prog 221=true:=by kernel_rfl
theorem zCl:jL Tryz.prog 22=true:=by kernel_rfl
theorem zHr:jL Tryz.prog 23=true:=by kernel_rfl
theorem zBt:jL Tryz.prog 44=true:=by kernel_rfl
theorem pl46:fG Tryz.prog 46=some [(0,1),(1,5),(6,1),(7,1)]:=by kernel_rfl
theorem sz44:(Tryz.prog.info? 44).map (·.size)=some 1:=by kernel_rfl
theorem sz46:(Tryz.prog.info? 46).map (·.size)=some 8:=by kernel_rfl
theorem zr46:dM Tryz.prog 46=some [(Value.string (ByteArray.mk #[])),(Value.int IntKind.i64 0),(Value.int IntKind.i64 0),(Value.int IntKind.i64 0),(Value.int IntKind.i64 0),(Value.int IntKind.i64 0),(Value.slice none 0 0),(Value.int IntKind.i64 0)]:=by kernel_rfl
theorem zGh (d:List Int) (hl:d.length<=17592186044416):
    Pur cfg 79 [vIs d] (vI (bR d)):=by
 refine zR Tryz.func79 O Tryz.ntmps79 Tryz.results79 O ?_
 intro z hz
 refine Y O<|G O<|zA<|zK<|Y O<|G O<|qC O v<|zAf O<|zA<|zE O (fun c1=>?_) (fun c1=>?_)
 ·exact v43
 ·try simp only [sx] at c1
  refine zJ<|zK<|Y O<|G O<|qC O v<|G O<|zA<|zT<|zY ⟨[(13,.c _),(0,.c _),(11,.c _),(12,.c _)],[]⟩ (Weak.mk [] ⟨zC,zC,zC,zC,T⟩ O)<|qG 1 0 O O (Nat) (fun k=>[(13,vI k)]) (fun k=>[]) (fun k=>k<=d.length/\((d.take k).all mC=true)) (fun k=>d.length-k) ⟨0,⟨by omega,O⟩,Weak.mk [] ⟨zC,zC,zC,zC,T⟩ O⟩ ?_
  rintro k ⟨hk,hp⟩
  refine Y O<|yF O<|zA<|zK<|zE O (fun c2=>?_) (fun c2=>?_)
  ·try simp only [sx] at c2
   obtain ⟨n,hn⟩:=yC d k (by omega)
   refine zJ<|zK<|zT<|Y O<|qI O v (by omega) (D (by assumption))<|zI one3 qD O<|G O<|zA<|Y O<|G O<|yF O<|zA<|zE O (fun c3=>?_) (fun c3=>?_)
   ·try simp only [sx] at c3
    have hneg:=dims_neg (d:=d) (by omega) hn c3
    refine Y O<|G O<|zA<|zG<|zS O ?_
    rw [hneg]
   ·try simp only [sx] at c3
    refine zJ<|zQ O<|qF O ⟨by omega,by omega⟩<|G O<|zA ?_
    refine ⟨k+1,⟨by omega,zCg hn hp (by unfold mC;exact decide_eq_true (by omega))⟩,(by omega),Weak.mk [] ⟨zC,zC,zC,zC,T⟩ O⟩
  ·try simp only [sx] at c2
   have hpos:d.all mC=true:=by rw [yP (by omega)] at hp;exact hp
   refine qM<|Y O<|G O<|zA<|zK<|Y O<|G O<|qC O v<|G O<|zA<|zT<|zY ⟨[(22,.c _),(5,.c _),(20,.c _),(21,.c _)],[]⟩ (Weak.mk [] ⟨zC,zC,zC,zC,T⟩ O)<|qG 2 0 O O (Nat×Int) (fun ⟨j,s⟩=>[(22,vI j),(5,vI s)]) (fun ⟨j,s⟩=>[]) (fun ⟨j,s⟩=>j<=d.length/\(1<=s)/\(s<=4096)/\(bH 1 d=bH s (d.drop j))) (fun ⟨j,s⟩=>d.length-j) ⟨⟨0,1⟩,⟨by omega,by omega,by omega,O⟩,Weak.mk [] ⟨zC,VLe.of_eq (O),zC,zC,T⟩ O⟩ ?_
   rintro ⟨j,s⟩ ⟨hj,hs1,hs2,hs3⟩
   show AWP _ _ _ _ _ ⟨[(22,vI j),(5,vI s)]++_,[]++_⟩
   refine Y O<|yF O<|zA<|zK<|zE O (fun c4=>?_) (fun c4=>?_)
   ·try simp only [sx] at c4
    obtain ⟨m,hm⟩:=yC d j (by omega)
    refine zJ<|zK<|zT<|Y O<|qI O v (by omega) (D (by assumption))<|zI one3 qD O<|G O<|zA<|zK<|Y O<|G O<|G O<|zX O (zUh O O O (by omega))<|zAf O<|zA<|zE O (fun c5=>?_) (fun c5=>?_)
    ·try simp only [sx] at c5
     have hov:=quo_t hs1 c5
     refine Y O<|G O<|zA<|zG<|zS O ?_
     rw [zMy (by omega) hpos (zJb hm hs3 hov)]
    ·try simp only [sx] at c5
     have hov:=quo_f hs1 (Int.not_lt.2 c5)
     have hm1:=zDk hs1 (zDi hpos hm)
     refine zJ<|zQ O<|G O<|G O<|zX O (yI O O O (by have:=zDk hs1 (zDi hpos hm);exact ⟨by omega,by omega⟩))<|G O<|zA<|zQ O<|qF O ⟨by omega,by omega⟩<|G O<|zA ?_
     refine ⟨⟨j+1,s*m⟩,⟨by omega,by omega,by omega,zGr hm hs3 hov⟩,(by show d.length-(j+1)<d.length-j;omega),Weak.mk [] ⟨zC,zC,zC,zC,T⟩ O⟩
   ·exact v37
theorem ref11_Validate (d:List Int) (hl:d.length<=17592186044416):
    Pur cfg 121 [vIs d] (vI (bR d)):=by
 refine zR Tryz.func121 O Tryz.ntmps121 Tryz.results121 O ?_
 intro z hz
 refine Y O<|G O<|zA<|zK<|Y O<|G O<|qC O v<|zAf O<|zA<|zE O (fun c1=>?_) (fun c1=>?_)
 ·exact v43
 ·try simp only [sx] at c1
  refine zJ<|zK<|Y O<|G O<|zA<|zT<|zY ⟨[(3,.c _),(0,.c _)],[]⟩ (Weak.mk [] ⟨zC,zC,T⟩ O)<|qG 1 0 O O (Nat) (fun k=>[(3,vI k)]) (fun k=>[]) (fun k=>k<=d.length/\((d.take k).all mC=true)) (fun k=>d.length-k) ⟨0,⟨by omega,O⟩,Weak.mk [] ⟨zC,zC,T⟩ O⟩ ?_
  rintro k ⟨hk,hp⟩
  refine zK<|Y O<|G O<|G O<|qC O v<|yF O<|zA<|zE O (fun c2=>?_) (fun c2=>?_)
  ·exact n7
  ·try simp only [sx] at c2
   have hpos:d.all mC=true:=by rw [yP (by omega)] at hp;exact hp
   refine qM<|Y O<|G O<|zA<|zK<|Y O<|G O<|zA<|zT<|zY ⟨[(5,.c _),(4,.c _),(0,.c _)],[]⟩ (Weak.mk [] ⟨zC,zC,zC,T⟩ O)<|qG 2 0 O O (Nat×Int) (fun ⟨j,s⟩=>[(5,vI j),(4,vI s)]) (fun ⟨j,s⟩=>[]) (fun ⟨j,s⟩=>j<=d.length/\(1<=s)/\(s<=4096)/\(bH 1 d=bH s (d.drop j))) (fun ⟨j,s⟩=>d.length-j) ⟨⟨0,1⟩,⟨by omega,by omega,by omega,O⟩,Weak.mk [] ⟨zC,VLe.of_eq (O),zC,T⟩ O⟩ ?_
   rintro ⟨j,s⟩ ⟨hj,hs1,hs2,hs3⟩
   show AWP _ _ _ _ _ ⟨[(5,vI j),(4,vI s)]++_,[]++_⟩
   refine zK<|Y O<|G O<|G O<|qC O v<|yF O<|zA<|zE O (fun c4=>?_) (fun c4=>?_)
   ·try simp only [sx] at c4
    obtain ⟨m,hm⟩:=yC d j (by omega)
    refine zJ<|zK<|zT<|zK<|Y O<|G O<|G O<|qI O v (by omega) (D (by assumption))<|zI one3 qD O<|zAf O<|zA<|zE O (fun c5=>?_) (fun c5=>?_)
    ·try simp only [sx] at c5
     have hov:4096<s*m:=by have:=zDk hs1 (zDi hpos hm);omega
     refine Y O<|G O<|zA<|zG<|zS O ?_
     rw [zMy (by omega) hpos (zJb hm hs3 hov)]
    ·try simp only [sx] at c5
     have hm1:=zDk hs1 (zDi hpos hm)
     refine zJ<|Y O<|G O<|G O<|G O<|qI O v (by omega) (D (by assumption))<|zI one3 qD O<|zX O (yI O O O (by have:=zDk hs1 (zDi hpos hm);have hm0:=zDi hpos hm;have:s*m<=4096*4096:=Int.mul_le_mul (by omega) (by omega) (by omega) (by omega);exact ⟨by omega,by omega⟩))<|G O<|zA<|Y O<|G O<|zAf O<|zA<|zE O (fun c6=>?_) (fun c6=>?_)
     ·try simp only [sx] at c6
      refine Y O<|G O<|zA<|zG<|zS O ?_
      rw [zMy (by omega) hpos (zJb hm hs3 (by omega))]
     ·try simp only [sx] at c6
      refine zJ<|zQ O<|G O<|qF O ⟨by omega,by omega⟩<|G O<|zA ?_
      refine ⟨⟨j+1,s*m⟩,⟨by omega,by omega,by omega,zGr hm hs3 (by omega)⟩,(by show d.length-(j+1)<d.length-j;omega),Weak.mk [] ⟨zC,zC,zC,T⟩ O⟩
   ·exact v37
theorem zNw (d:List Int) (hl:d.length<=17592186044416):
    Pur cfg 45 [vIs d] (vI (bZ d)):=by
 refine zR Tryz.func45 O Tryz.ntmps45 Tryz.results45 O ?_
 intro z hz
 refine Y O<|G O<|zA<|zK<|Y O<|G O<|zZ O ok79 (zGh d hl) ⟨zC,O,T⟩<|yQ O<|zA<|zE O (fun c1=>?_) (fun c1=>?_)
 ·try simp only [sx] at c1
  refine Y O<|G O<|zA<|zG<|zS O ?_
  rw [zUf c1]
 ·try simp only [sx] at c1
  obtain ⟨q1,hpos,t,ht,q2,q3⟩:=zMz c1
  refine zJ<|Y O<|G O<|zA<|zK<|Y O<|G O<|qC O v<|G O<|zA<|zT<|zY ⟨[(11,.c _),(3,.c _),(9,.c _),(10,.c _)],[]⟩ (Weak.mk [] ⟨zC,zC,zC,zC,T⟩ O)<|qG 2 0 O O (Nat×Int) (fun ⟨k,s⟩=>[(11,vI k),(3,vI s)]) (fun ⟨k,s⟩=>[]) (fun ⟨k,s⟩=>k<=d.length/\(1<=s)/\(s<=4096)/\(bH 1 d=bH s (d.drop k))) (fun ⟨k,s⟩=>d.length-k) ⟨⟨0,1⟩,⟨by omega,by omega,by omega,O⟩,Weak.mk [] ⟨zC,VLe.of_eq (O),zC,zC,T⟩ O⟩ ?_
  rintro ⟨k,s⟩ ⟨hk,hs1,hs2,hs3⟩
  show AWP _ _ _ _ _ ⟨[(11,vI k),(3,vI s)]++_,[]++_⟩
  refine Y O<|yF O<|zA<|zK<|zE O (fun c2=>?_) (fun c2=>?_)
  ·try simp only [sx] at c2
   obtain ⟨m,hm⟩:=yC d k (by omega)
   have hm1:=zDk hs1 (zDi hpos hm)
   have hfit:=size_fit hm hs3 ht
   refine zJ<|zK<|zT<|Y O<|qI O v (by omega) (D (by assumption))<|zI one3 qD O<|G O<|zA<|zQ O<|G O<|G O<|zX O (yI O O O ⟨by omega,by omega⟩)<|G O<|zA<|zQ O<|qF O ⟨by omega,by omega⟩<|G O<|zA ?_
   refine ⟨⟨k+1,s*m⟩,⟨by omega,by omega,by omega,zGr hm hs3 hfit⟩,(by show d.length-(k+1)<d.length-k;omega),Weak.mk [] ⟨zC,zC,zC,zC,T⟩ O⟩
  ·try simp only [sx] at c2
   refine qM<|Y O<|G O<|G O<|zA<|zG<|zS O ?_
   rw [zHy c1 (zGs hs3 (by omega))]
theorem zCx (l:List Int) (hl:l.length<=17592186044416):
    OwnR cfg 23 [vIs l] 3 1 (l.map fun n=>[cI n]):=by
 refine zR Tryz.func23 O Tryz.ntmps23 Tryz.results23 O ?_
 intro z hz
 refine Y O<|yN 1 O<|zA<|zK<|Y O<|G O<|zW O O (zJl O v O O) ?_
 rintro _ _ ⟨nb1,rfl,hnil1,rfl⟩
 refine zA<|zE O (fun c1=>?_) (fun c1=>?_)
 ·try simp only [sx] at c1
  refine Y O<|G O<|yZ _ (wH 3 1)<|zA<|zG<|zS O ?_
  exact ⟨_,O,by rw [hnil1 c1]⟩
 ·try simp only [sx] at c1
  refine zJ<|Y O<|zW O O (zFe O v zr3 O O O O) ?_
  rintro _ _ ⟨sv3,rfl,rfl⟩
  refine G O<|zW O O (yX 0 O v O O O (by simp only [List.length_map,List.length_nil,Nat.zero_add];omega) (by simp only [List.length_map,List.length_nil,Nat.zero_add];omega)) ?_
  exact v15
theorem zLp (b:Bf) (hl:b.Dims.length<=17592186044416):
    Pur cfg 221 [vBf b] (vBf b):=by
 refine zR Tryz.func221 O Tryz.ntmps221 Tryz.results221 O ?_
 intro z hz
 refine Y O<|zW O O (qB O O) ?_
 rintro _ _ ⟨b1,rfl,rfl⟩
 refine zW O O (qT [none,none,none,none,none,none,some 1,none] O zr46 O) ?_
 rintro _ _ ⟨b2,rfl,rfl⟩
 refine zA<|Y O<|zD O zCu<|zI zBt (J 1 O) O<|zZ O ok23 (OwnR.pur (zCx b.Dims hl)) ⟨zC,O,T⟩<|zD O zCu<|rStR 1 sz44 O<|zA<|Y O<|zL zIv (J 1 O) O<|rStR 0 sz46 O<|zA<|zG<|fin1 (zP zIv O (J 0 O) O) ?_
 exact O
theorem zBd (n:Ns) (s:ByteArray) (hn:n.Ok):
    Pur cfg 194 [vNs n,vS s] (.tup [vBf (fY n.Bufs s),vB (dZ n.Bufs s)]):=by
 refine zR Tryz.func194 O Tryz.ntmps194 Tryz.results194 O ?_
 intro z hz
 have hnb:=hn.bufs
 refine Y O<|zW O O (qB O O) ?_
 rintro _ _ ⟨b1,rfl,rfl⟩
 refine zW O O (qT [none,none,none,none,none,none,some 1,none] O zr46 O) ?_
 rintro _ _ ⟨b2,rfl,rfl⟩
 refine G O<|zA<|zK<|Y O<|zD O zAb<|zI zCl (J 1 O) O<|qC O el22<|G O<|zA<|zT<|zY ⟨[(10,.c _),(1,.c _),(2,.c _),(4,.c _),(9,.c _)],[_,_]⟩ (Weak.mk [true,true] ⟨zC,zC,zC,zC,zC,T⟩ O)<|qG 1 0 O O (Nat) (fun k=>[(10,vI k)]) (fun k=>[]) (fun k=>k<=n.Bufs.length/\(dZ (n.Bufs.take k) s=false)/\(fY n.Bufs s=fY (n.Bufs.drop k) s)) (fun k=>n.Bufs.length-k) ⟨0,⟨by omega,O,O⟩,Weak.mk [true,true] ⟨zC,zC,zC,zC,zC,T⟩ O⟩ ?_
 rintro k ⟨hk,hp,hq⟩
 refine Y O<|yF O<|zA<|zK<|zE O (fun c1=>?_) (fun c1=>?_)
 ·try simp only [sx] at c1
  obtain ⟨b,hb⟩:=yC n.Bufs k (by omega)
  refine zJ<|zK<|zT<|Y O<|G O<|G O<|zA<|Y O<|zD O zAb<|zI zCl (J 1 O) O<|G O<|qI O el22 (by omega) (D (by assumption))<|yB O zCc<|zI one9 qD O<|G O<|zX O (kF O O O)<|zA<|zE O (fun c2=>?_) (fun c2=>?_)
  ·try simp only [sx] at c2
   refine Y O<|zD O zAb<|zI zCl (J 1 O) O<|G O<|qI O el22 (by omega) (D (by assumption))<|zL zIv qD O<|zZ O ok221 (zLp b (hn.dims b (qL hb))) ⟨zC,O,T⟩<|rStR 0 sz46 O<|G O<|zA<|zG<|R (zP zIv O (J 0 O) O) (L O) ?_
   rw [hasBf_at hb c2,hq,bufD_at hb c2];rfl
  ·try simp only [sx] at c2
   refine zJ<|zQ O<|qF O ⟨by omega,by omega⟩<|G O<|zA ?_
   refine ⟨k+1,⟨by omega,zOk hb hp c2,hq.trans (bufD_next hb c2)⟩,(by omega),Weak.mk [true,true] ⟨zC,zC,zC,zC,zC,T⟩ O⟩
 ·exact v35
theorem zDe (n:Ns) (s:ByteArray) (hn:n.Ok):
    Pur cfg 158 [vNs n,vS s] (.tup [vBf (fY n.Bufs s),vB (dZ n.Bufs s)]):=by
 refine zR Tryz.func158 O Tryz.ntmps158 Tryz.results158 O ?_
 intro z hz
 have hnb:=hn.bufs
 refine Y O<|zW O O (qB O O) ?_
 rintro _ _ ⟨b1,rfl,rfl⟩
 refine zW O O (qT [none,none,none,none,none,none,some 1,none] O zr46 O) ?_
 rintro _ _ ⟨b2,rfl,rfl⟩
 refine G O<|zA<|zK<|Y O<|G O<|zA<|zT<|zY ⟨[(6,.c _),(1,.c _),(2,.c _),(4,.c _)],[_,_]⟩ (Weak.mk [true,true] ⟨zC,zC,zC,zC,T⟩ O)<|qG 1 0 O O (Nat) (fun k=>[(6,vI k)]) (fun k=>[]) (fun k=>k<=n.Bufs.length/\(dZ (n.Bufs.take k) s=false)/\(fY n.Bufs s=fY (n.Bufs.drop k) s)) (fun k=>n.Bufs.length-k) ⟨0,⟨by omega,O,O⟩,Weak.mk [true,true] ⟨zC,zC,zC,zC,T⟩ O⟩ ?_
 rintro k ⟨hk,hp,hq⟩
 refine zK<|Y O<|G O<|zD O zAb<|zI zCl (J 1 O) O<|qC O el22<|yF O<|zA<|zE O (fun c1=>?_) (fun c1=>?_)
 ·try simp only [sx] at c1
  obtain ⟨b,hb⟩:=yC n.Bufs k (by omega)
  refine zJ<|zK<|zT<|Y O<|zD O zAb<|zI zCl (J 1 O) O<|G O<|qI O el22 (by omega) (D (by assumption))<|yB O zCc<|zI one9 qD O<|G O<|zX O (kF O O O)<|zA<|zE O (fun c2=>?_) (fun c2=>?_)
  ·try simp only [sx] at c2
   refine Y O<|zD O zAb<|zI zCl (J 1 O) O<|G O<|qI O el22 (by omega) (D (by assumption))<|zL zIv qD O<|rStR 0 sz46 O<|G O<|zA<|zG<|R (zP zIv O (J 0 O) O) (L O) ?_
   rw [hasBf_at hb c2,hq,bufD_at hb c2];rfl
  ·try simp only [sx] at c2
   refine zJ<|zQ O<|G O<|qF O ⟨by omega,by omega⟩<|G O<|zA ?_
   refine ⟨k+1,⟨by omega,zOk hb hp c2,hq.trans (bufD_next hb c2)⟩,(by omega),Weak.mk [true,true] ⟨zC,zC,zC,zC,T⟩ O⟩
 ·exact v35
theorem zRj (n:Nat) (ih:n≠0->∀(l:List St) (x:Int),bX l<=1073741824->x=((n-1:Nat):Int)->Pur cfg 75 [gT l,vI x] (vB (dE (n-1) l))) (l:List St) (x:Int) (hn:n<=100) (hl:bX l<=1073741824) (hx:x=n):
    Pur cfg 75 [gT l,vI x] (vB (dE n l)):=by
 refine zR Tryz.func75 O Tryz.ntmps75 Tryz.results75 O ?_
 intro z hz
 have hll:=zBy l
 refine Y O<|G O<|zA<|zK<|Y O<|G O<|qC O el23<|G O<|zA<|zT<|zY ⟨[(8,.c _),(0,.c _),(1,.c _),(7,.c _)],[]⟩ (Weak.mk [] ⟨zC,zC,zC,zC,T⟩ O)<|qG 1 0 O O (Nat) (fun k=>[(8,vI k)]) (fun k=>[]) (fun k=>k<=l.length/\(pX n (l.take k)=true)) (fun k=>l.length-k) ⟨0,⟨by omega,by cases n<;>rfl⟩,Weak.mk [] ⟨zC,zC,zC,zC,T⟩ O⟩ ?_
 rintro k ⟨hk,hp⟩
 refine Y O<|yF O<|zA<|zK<|zE O (fun c1=>?_) (fun c1=>?_)
 ·try simp only [sx] at c1
  obtain ⟨s,hs⟩:=yC l k (by omega)
  refine zJ<|zK<|zT<|Y O<|G O<|G O<|zA<|Y O<|G O<|yF O<|G O<|rL0 O (fun g4_2=>zO O O) O<|rL0 O (fun g4_2=>zO O O) O<|rLz [(14,_),(15,_)] O gv1 ⟨O,O,O,O,T⟩ (fun g4_2=>qH O el23 O O (by omega) (zIt hs)) O<|rL1 16 O (fun g4_2=>qU O zEq O) O<|rL1 17 O (fun g4_2=>zH O zHr O qD O) O<|rL0 O (fun g4_2=>zO O O) O<|rL1 19 O (fun g4_2=>qZ O O O ⟨by omega,by omega⟩) O<|rLz [(18,_),(20,_)] O gv1 ⟨O,O,O,O,T⟩ (fun g4_2=>qE O ok75 (ih (by simp only [Lz,cond_true,cond_false,Bool.and_eq_true,Bool.or_eq_true,Bool.not_eq_true',Bool.not_eq_false',Bool.or_eq_false_iff,Bool.and_eq_false_iff,decide_eq_true_eq,decide_eq_false_iff_not,Bool.not_eq_true,Bool.not_eq_false] at g4_2;omega) s.Body _ (by have:=St.body_wt s;have:=zAn (qL hs);omega) (by simp only [Lz,cond_true,cond_false,Bool.and_eq_true,Bool.or_eq_true,Bool.not_eq_true',Bool.not_eq_false',Bool.or_eq_false_iff,Bool.and_eq_false_iff,decide_eq_true_eq,decide_eq_false_iff_not,Bool.not_eq_true,Bool.not_eq_false] at g4_2;omega)) ⟨zC,O,zC,O,T⟩) O<|rL1 21 O (fun g4_2=>kA O O) O<|r_or O (fun h=>(lzf h))<|zA<|zE O (fun c2=>?_) (fun c2=>?_)
  ·have hno:=within_no hs hx c2
   refine Y O<|G O<|zA<|zG<|zS O ?_
   rw [hno]
  ·have hyes:=within_yes hx c2
   refine zJ<|zQ O<|qF O ⟨by omega,by omega⟩<|G O<|zA ?_
   refine ⟨k+1,⟨by omega,withinG_next hs hp hyes.1 hyes.2⟩,(by omega),Weak.mk [] ⟨zC,zC,zC,zC,T⟩ O⟩
 ·try simp only [sx] at c1
  refine qM<|Y O<|G O<|zA<|zG<|zS O ?_
  rw [yP (by omega),withinG_eq] at hp;rw [hp]
theorem zTa (n:Nat) (l:List St) (x:Int) (hn:n<=100) (hl:bX l<=1073741824) (hx:x=n):Pur cfg 75 [gT l,vI x] (vB (dE n l)):=by
  induction n generalizing l x with
  |zero=>exact zRj 0 (fun h=>absurd rfl h) l x hn hl hx
  |succ n ih=>exact zRj (n+1) (fun _ l x h1 h2=>ih l x (by omega) h1 (by omega)) l x hn hl hx
theorem depth_step (n:Nat) (ih:n≠0->∀(l:List St) (x:Int),bX l<=1073741824->x=((n-1:Nat):Int)->Pur cfg 93 [gT l,vI x] (vI (lG (n-1) l))) (l:List St) (x:Int) (hn:n<=100) (hl:bX l<=1073741824) (hx:x=n):
    Pur cfg 93 [gT l,vI x] (vI (lG n l)):=by
 refine zR Tryz.func93 O Tryz.ntmps93 Tryz.results93 O ?_
 intro z hz
 have hll:=zBy l
 refine Y O<|G O<|zA<|Y O<|G O<|zA<|zK<|Y O<|G O<|zA<|zT<|zY ⟨[(5,.c _),(6,.c _),(0,.c _),(1,.c _)],[]⟩ (Weak.mk [] ⟨zC,zC,zC,zC,T⟩ O)<|qG 2 0 O O (Nat×Int) (fun ⟨k,d⟩=>[(5,vI d),(6,vI k)]) (fun ⟨k,d⟩=>[]) (fun ⟨k,d⟩=>k<=l.length/\0<=d/\d<=100/\d=lG n (l.take k)) (fun ⟨k,d⟩=>l.length-k) ⟨⟨0,0⟩,⟨by omega,by omega,by omega,by cases n<;>rfl⟩,Weak.mk [] ⟨VLe.of_eq (O),zC,zC,zC,T⟩ O⟩ ?_
 rintro ⟨k,d⟩ ⟨hk,hd0,hd1,hd⟩
 show AWP _ _ _ _ _ ⟨[(5,vI d),(6,vI k)]++_,[]++_⟩
 refine zK<|Y O<|G O<|G O<|qC O el23<|yF O<|G O<|rL0 O (fun g3_4=>zO O O) O<|rL1 12 O (fun g3_4=>kD O O O) O<|yO O (fun h=>h)<|zA<|zE O (fun c1=>?_) (fun c1=>?_)
 ·try simp only [sx] at c1
  obtain ⟨s,hs⟩:=yC l k (by omega)
  have hle:=depS_le (n-1) s.Body
  refine zJ<|zK<|zT<|zQ O<|G O<|G O<|G O<|qI O el23 (by omega) (zIt hs)<|yB O zEq<|zI zHr qD O<|G O<|zX O (qZ O O O ⟨by omega,by omega⟩)<|zZ O ok93 (ih (by omega) s.Body _ (by have:=St.body_wt s;have:=zAn (qL hs);omega) (by omega)) ⟨zC,O,zC,O,T⟩<|qF O ⟨by omega,by omega⟩<|zX O (zEb O O O)<|G O<|zA<|zQ O<|G O<|qF O ⟨by omega,by omega⟩<|G O<|zA ?_
  refine ⟨⟨k+1,max d (1+lG (n-1) s.Body)⟩,⟨by omega,by omega,by omega,by rw [depS_next hs (by omega),←hd]⟩,(by dsimp only;omega),Weak.mk [] ⟨zC,zC,zC,zC,T⟩ O⟩
 ·try simp only [sx] at c1
  refine qM<|Y O<|G O<|G O<|zA<|zG<|zS O ?_
  exact congrArg vI (depS_stop hx hd (by omega))
theorem ref30_depth (n:Nat) (l:List St) (x:Int) (hn:n<=100) (hl:bX l<=1073741824) (hx:x=n):Pur cfg 93 [gT l,vI x] (vI (lG n l)):=by
  induction n generalizing l x with
  |zero=>exact depth_step 0 (fun h=>absurd rfl h) l x hn hl hx
  |succ n ih=>exact depth_step (n+1) (fun _ l x h1 h2=>ih l x (by omega) h1 (by omega)) l x hn hl hx
theorem zDl (l:List St) (ih:∀s,s∈l->∀(m:Nat) (x:Int),m<=2147483648->x=m->Pur cfg 76 [gT s.Body,vI x] (vI (jP s.Body m))) (m:Nat) (x:Int) (hl:bX l<=1073741824) (hm:m<=2147483648) (hx:x=m):
    Pur cfg 76 [gT l,vI x] (vI (jP l m)):=by
 refine zR Tryz.func76 O Tryz.ntmps76 Tryz.results76 O ?_
 intro z hz
 have hll:=zBy l
 have hNw:=stsN_wt l
 refine Y O<|G O<|zA<|Y O<|G O<|qC O el23<|G O<|zA<|zK<|Y O<|G O<|qC O el23<|G O<|zA<|zT<|zY ⟨[(11,.c _),(5,.c _),(0,.c _),(1,.c _),(10,.c _)],[]⟩ (Weak.mk [] ⟨zC,zC,zC,zC,zC,T⟩ O) ?_
 refine qG 2 0 O O (Nat×Nat) (fun ⟨k,n⟩=>[(11,vI k),(5,vI n)]) (fun ⟨k,n⟩=>[]) (fun ⟨k,n⟩=>k<=l.length/\(n<=4294967296)/\(jP l m=lD (l.drop k) m n)) (fun ⟨k,n⟩=>l.length-k) ⟨⟨0,l.length⟩,⟨by omega,by omega,O⟩,Weak.mk [] ⟨zC,VLe.of_eq (congrArg vI (by simp)),zC,zC,zC,T⟩ O⟩ ?_
 rintro ⟨k,n⟩ ⟨hk,hn,hp⟩
 show AWP _ _ _ _ _ ⟨[(11,vI k),(5,vI n)]++_,[]++_⟩
 refine Y O<|yF O<|zA<|zK<|zE O (fun c1=>?_) (fun c1=>?_)
 ·try simp only [sx] at c1
  obtain ⟨s,hs⟩:=yC l k (by omega)
  refine zJ<|zK<|zT<|Y O<|G O<|G O<|zA<|zK<|Y O<|G O<|G O<|zAf O<|zA<|zE O (fun c2=>?_) (fun c2=>?_)
  ·try simp only [sx] at c2
   exact v52
  ·try simp only [sx] at c2
   have hsum:=num_sum hs hp (by omega)
   have hbl:=numB_le s.Body (m-n)
   have hsn:=zQj (qL hs)
   have hse:=zPc s
   refine zJ<|zQ O<|G O<|G O<|G O<|qI O el23 (by omega) (zIt hs)<|yB O zEq<|zI zHr qD O<|G O<|G O<|zX O (qZ O O O ⟨by omega,by omega⟩)<|zZ O ok76 (ih s (qL hs) (m-n) _ (by omega) (by omega)) ⟨zC,O,zC,O,T⟩<|qF O ⟨by omega,by omega⟩<|G O<|zA<|zQ O<|qF O ⟨by omega,by omega⟩<|G O<|zA ?_
   refine ⟨⟨k+1,n+jP s.Body (m-n)⟩,⟨by omega,by omega,num_next hs hp (by omega)⟩,(by show l.length-(k+1)<l.length-k;omega),Weak.mk [] ⟨zC,VLe.of_eq (congrArg vI (by omega)),zC,zC,zC,T⟩ O⟩
 ·try simp only [sx] at c1
  exact v52
theorem zHv (s:St):∀(m:Nat) (x:Int),bX s.Body<=1073741824->m<=2147483648->x=m->Pur cfg 76 [gT s.Body,vI x] (vI (jP s.Body m)):=by
  induction s using St.ind with
  |_ s ih=>exact fun m x hl hm hx=>zDl s.Body (fun a ha m x h1 h2=>ih a ha m x (by have:=St.body_wt a;have:=zAn ha;omega) h1 h2) m x hl hm hx
theorem zMm (l:List St) (m:Nat) (x:Int) (hl:bX l<=1073741824) (hm:m<=2147483648) (hx:x=m):Pur cfg 76 [gT l,vI x] (vI (jP l m)):=
  zDl l (fun a ha m x h1 h2=>zHv a m x (by have:=St.body_wt a;have:=zAn ha;omega) h1 h2) m x hl hm hx
theorem zJi (l:List St) (ih:∀s,s∈l->∀(m:Nat) (x:Int),m<=2147483648->x=m->Pur cfg 94 [gT s.Body,vI x] (vI (jP s.Body m))) (m:Nat) (x:Int) (hl:bX l<=1073741824) (hm:m<=2147483648) (hx:x=m):
    Pur cfg 94 [gT l,vI x] (vI (jP l m)):=by
 refine zR Tryz.func94 O Tryz.ntmps94 Tryz.results94 O ?_
 intro z hz
 have hll:=zBy l
 have hNw:=stsN_wt l
 refine Y O<|G O<|zA<|Y O<|G O<|qC O el23<|G O<|zA<|zK<|Y O<|G O<|zA<|zT<|zY ⟨[(6,.c _),(5,.c _),(0,.c _),(1,.c _)],[]⟩ (Weak.mk [] ⟨zC,zC,zC,zC,T⟩ O) ?_
 refine qG 2 0 O O (Nat×Nat) (fun ⟨k,n⟩=>[(6,vI k),(5,vI n)]) (fun ⟨k,n⟩=>[]) (fun ⟨k,n⟩=>k<=l.length/\(n<=4294967296)/\(jP l m=lD (l.drop k) m n)) (fun ⟨k,n⟩=>l.length-k) ⟨⟨0,l.length⟩,⟨by omega,by omega,O⟩,Weak.mk [] ⟨zC,VLe.of_eq (congrArg vI (by simp)),zC,zC,T⟩ O⟩ ?_
 rintro ⟨k,n⟩ ⟨hk,hn,hp⟩
 show AWP _ _ _ _ _ ⟨[(6,vI k),(5,vI n)]++_,[]++_⟩
 refine zK<|Y O<|G O<|G O<|qC O el23<|yF O<|G O<|rL0 O (fun g3_4=>zO O O) O<|rL0 O (fun g3_4=>zO O O) O<|rLz [(14,_),(15,_)] O gv1 ⟨O,O,O,O,T⟩ (fun g3_4=>kH O O O) O<|yO O (fun h=>h)<|zA<|zE O (fun c1=>?_) (fun c1=>?_)
 ·try simp only [sx] at c1
  obtain ⟨s,hs⟩:=yC l k (by omega)
  have hsum:=num_sum hs hp (by omega)
  have hbl:=numB_le s.Body (m-n)
  have hsn:=zQj (qL hs)
  have hse:=zPc s
  refine zJ<|zK<|zT<|zQ O<|G O<|G O<|G O<|qI O el23 (by omega) (zIt hs)<|yB O zEq<|zI zHr qD O<|G O<|G O<|zX O (qZ O O O ⟨by omega,by omega⟩)<|zX O (zEb O O O)<|zZ O ok94 (ih s (qL hs) (m-n) _ (by omega) (by omega)) ⟨zC,O,zC,O,T⟩<|qF O ⟨by omega,by omega⟩<|G O<|zA<|zQ O<|G O<|qF O ⟨by omega,by omega⟩<|G O<|zA ?_
  refine ⟨⟨k+1,n+jP s.Body (m-n)⟩,⟨by omega,by omega,num_next hs hp (by omega)⟩,(by show l.length-(k+1)<l.length-k;omega),Weak.mk [] ⟨zC,VLe.of_eq (congrArg vI (by omega)),zC,zC,T⟩ O⟩
 ·try simp only [sx] at c1
  exact v52
theorem zSm (s:St):∀(m:Nat) (x:Int),bX s.Body<=1073741824->m<=2147483648->x=m->Pur cfg 94 [gT s.Body,vI x] (vI (jP s.Body m)):=by
  induction s using St.ind with
  |_ s ih=>exact fun m x hl hm hx=>zJi s.Body (fun a ha m x h1 h2=>ih a ha m x (by have:=St.body_wt a;have:=zAn ha;omega) h1 h2) m x hl hm hx
theorem ref30_size (l:List St) (m:Nat) (x:Int) (hl:bX l<=1073741824) (hm:m<=2147483648) (hx:x=m):Pur cfg 94 [gT l,vI x] (vI (jP l m)):=
  zJi l (fun a ha m x h1 h2=>zSm a m x (by have:=St.body_wt a;have:=zAn ha;omega) h1 h2) m x hl hm hx
theorem zLi (l:List Bf) (c:C) (p:Bf->Bool) (hl:l.length<=4294967296) (hc:∀x,x∈l->FnPur cfg c [vBf x] (vB (p x))):
    Pur cfg 149 [xG l,.c c] (vI (bW p l)):=by
 refine zR Tryz.func149 O Tryz.ntmps149 Tryz.results149 O ?_
 intro z hz
 refine Y O<|G O<|zA<|zK<|Y O<|G O<|qC O el22<|G O<|zA<|zT<|zY ⟨[(8,.c _),(0,.c _),(1,.c _),(7,.c _)],[]⟩ (Weak.mk [] ⟨zC,zC,zC,zC,T⟩ O)<|qG 1 0 O O (Nat) (fun k=>[(8,vI k)]) (fun k=>[]) (fun k=>k<=l.length/\((l.take k).any p=false)) (fun k=>l.length-k) ⟨0,⟨by omega,O⟩,Weak.mk [] ⟨zC,zC,zC,zC,T⟩ O⟩ ?_
 rintro k ⟨hk,hp⟩
 refine Y O<|yF O<|zA<|zK<|zE O (fun c1=>?_) (fun c1=>?_)
 ·try simp only [sx] at c1
  obtain ⟨x,hx⟩:=yC l k (by omega)
  refine zJ<|zK<|zT<|Y O<|G O<|G O<|zA<|Y O<|G O<|G O<|G O<|qI O el22 (by omega) (D (by assumption))<|zL zIv qD O<|zX O (zAm O O (hc _ (qL hx)) ⟨zC,O,T⟩)<|zA<|zE O (fun c2=>?_) (fun c2=>?_)
  ·exact v11
  ·exact p9
 ·exact k7
theorem zIs (l:List Bf) (c:C) (p:Bf->Bool) (hl:l.length<=4294967296) (hc:∀x,x∈l->FnPur cfg c [vBf x] (vB (p x))):
    Pur cfg 114 [xG l,.c c] (vB (l.any p)):=by
 refine zR Tryz.func114 O Tryz.ntmps114 Tryz.results114 O ?_
 intro z hz
 refine Y O<|G O<|zA<|Y O<|G O<|G O<|zZ O ok149 (zLi l c p hl hc) ⟨zC,O,zC,O,T⟩<|zX O (kB O O O)<|G O<|zA<|zG<|zS O ?_
 rw [zHb]
theorem checkBuffers_1 (x b:Bf):
    Pur cfg 115 [vBf x,.c (.iptr b.cells)] (vB (decide (x.Name=b.Name))):=by
 refine zR Tryz.func115 O Tryz.ntmps115 Tryz.results115 O ?_
 intro z hz
 refine Y O<|zW O O (qB O O) ?_
 rintro _ _ ⟨b1,rfl,rfl⟩
 refine G O<|zA<|Y O<|zD O zCc<|zI one9 (J 0 O) O<|yB O zCc<|zI one9 qD O<|zX O (kF O O O)<|G O<|zA<|zG<|zS O ?_
 exact O
theorem zJr (l:List Bf) (hl:l.length<=4294967296) (hd:∀b,b∈l->b.Dims.length<=17592186044416):
    Pur cfg 77 [xG l] (vI (bY [] l)):=by
 refine zR Tryz.func77 O Tryz.ntmps77 Tryz.results77 O ?_
 intro z hz
 refine Y O<|G O<|zA<|zK<|Y O<|G O<|qC O el22<|G O<|zA<|zT<|zY ⟨[(8,.c _),(0,.c _),(7,.c _)],[]⟩ (Weak.mk [] ⟨zC,zC,zC,T⟩ O)<|qG 1 0 O O (Nat) (fun k=>[(8,vI k)]) (fun k=>[]) (fun k=>k<=l.length/\(bY [] l=bY (l.take k) (l.drop k))) (fun k=>l.length-k) ⟨0,⟨by omega,O⟩,Weak.mk [] ⟨zC,zC,zC,T⟩ O⟩ ?_
 rintro k ⟨hk,hp⟩
 refine Y O<|yF O<|zA<|zK<|zE O (fun c1=>?_) (fun c1=>?_)
 ·try simp only [sx] at c1
  obtain ⟨b,hb⟩:=yC l k (by omega)
  refine zJ<|zK<|zT<|Y O<|G O<|G O<|zA<|Y O<|G O<|G O<|qI O el22 (by omega) (D (by assumption))<|zL zIv qD O<|zW O O (qT [none,none,none,none,none,none,some 1,none] O zr46 O) ?_
  rintro _ _ ⟨b1,rfl,rfl⟩
  refine rStR 0 sz46 O<|yZ _ (kM 0 O 4 _ PLe.ptr)<|zA<|zK<|zT<|Y O<|yB O zCc<|zI one9 qD O<|zZ O ok113 (zFw _) ⟨zC,O,T⟩<|yT O<|G O<|zA<|zE O (fun c2=>?_) (fun c2=>?_)
  ·try simp only [sx] at c2
   refine Y O<|G O<|zA<|zG<|zS O ?_
   rw [zBr hb hp (by rw [bfErr_7 c2];decide),bfErr_7 c2]
  ·try simp only [sx] at c2
   refine Y O<|G O<|G O<|zX O (zPr O el22 O O (by omega))<|zX O (zGd O O O O O)<|zZ O ok114 (zIs (l.take k) _ (fun x=>decide (x.Name=b.Name)) (by rw [List.length_take];omega) (fun x _=>FnPur.of_pur (first:=[]) (cap:=[.iptr b.cells]) ok115 (checkBuffers_1 x b))) ⟨zC,O,zC,O,T⟩<|G O<|zA<|zE O (fun c3=>?_) (fun c3=>?_)
   ·try simp only [sx] at c3
    refine Y O<|G O<|zA<|zG<|zS O ?_
    rw [zBr hb hp (by rw [bfErr_8 c2 c3];decide),bfErr_8 c2 c3]
   ·try simp only [sx] at c3
    refine Y O<|yB O zDn<|zL qX qD O<|zZ O ok51 (kO b.T) ⟨zC,O,T⟩<|yQ O<|G O<|zA<|zE O (fun c4=>?_) (fun c4=>?_)
    ·try simp only [sx] at c4
     refine Y O<|G O<|zA<|zG<|zS O ?_
     rw [zBr hb hp (by rw [zRh c2 c3 (zHl c4)];decide),zRh c2 c3 (zHl c4)]
    ·try simp only [sx] at c4
     refine zJ<|zK<|Y O<|yB O zCu<|zI zBt qD O<|zZ O ok79 (zGh b.Dims (hd b (qL hb))) ⟨zC,O,T⟩<|G O<|zA<|Y O<|G O<|yQ O<|zA<|zE O (fun c5=>?_) (fun c5=>?_)
     ·try simp only [sx] at c5
      refine Y O<|G O<|G O<|zA<|zG<|zS O ?_
      rw [zBr hb hp (by rw [bfErr_d c2 c3 (zEc c4) c5];exact c5),bfErr_d c2 c3 (zEc c4) c5]
     ·try simp only [sx] at c5
      refine zJ<|Y O<|yB O zIk<|zI one3 qD O<|yF O<|G O<|rL0 O (fun g14_3=>qU O zIk O) O<|rL1 41 O (fun g14_3=>zH O one3 O qD O) O<|rL1 42 O (fun g14_3=>kD O O O) O<|r_or O (fun h=>(lzf h))<|zA<|zE O (fun c6=>?_) (fun c6=>?_)
      ·try simp only [sx] at c6
       refine Y O<|G O<|zA<|zG<|zS O ?_
       rw [zBr hb hp (by rw [bfErr_u c2 c3 (zEc c4) c5 (by omega)];decide),bfErr_u c2 c3 (zEc c4) c5 (by omega)]
      ·try simp only [sx] at c6
       refine zJ<|zQ O<|qF O ⟨by omega,by omega⟩<|G O<|zA ?_
       refine ⟨k+1,⟨by omega,zPt hb hp (bfErr_0 c2 c3 (zEc c4) c5 (by omega))⟩,(by omega),Weak.mk [] ⟨zC,zC,zC,T⟩ O⟩
 ·try simp only [sx] at c1
  refine qM<|Y O<|G O<|zA<|zG<|zS O ?_
  rw [zUp hp (by omega)]
theorem ref30_bufs (n:Ns) (hn:n.Ok):
    Pur cfg 95 [vNs n] (vI (bY [] n.Bufs)):=by
 refine zR Tryz.func95 O Tryz.ntmps95 Tryz.results95 O ?_
 intro z hz
 have hnb:=hn.bufs
 refine Y O<|zW O O (qB O O) ?_
 rintro _ _ ⟨b1,rfl,rfl⟩
 refine G O<|zA<|zK<|Y O<|G O<|zA<|zT<|zY ⟨[(3,.c _),(1,.c _)],[_]⟩ (Weak.mk [true] ⟨zC,zC,T⟩ O)<|qG 1 0 O O (Nat) (fun k=>[(3,vI k)]) (fun k=>[]) (fun k=>k<=n.Bufs.length/\(bY [] n.Bufs=bY (n.Bufs.take k) (n.Bufs.drop k))) (fun k=>n.Bufs.length-k) ⟨0,⟨by omega,O⟩,Weak.mk [true] ⟨zC,zC,T⟩ O⟩ ?_
 rintro k ⟨hk,hp⟩
 refine zK<|Y O<|G O<|zD O zAb<|zI zCl (J 0 O) O<|qC O el22<|yF O<|zA<|zE O (fun c1=>?_) (fun c1=>?_)
 ·try simp only [sx] at c1
  obtain ⟨b,hb⟩:=yC n.Bufs k (by omega)
  refine zJ<|zK<|zT<|Y O<|zD O zAb<|zI zCl (J 0 O) O<|G O<|qI O el22 (by omega) (D (by assumption))<|zL zIv qD O<|zW O O (qT [none,none,none,none,none,none,some 1,none] O zr46 O) ?_
  rintro _ _ ⟨b2,rfl,rfl⟩
  refine rStR 0 sz46 O<|zA<|zK<|Y O<|zD O zCc<|zI one9 (J 0 O) O<|zZ O ok120 (zKa _) ⟨zC,O,T⟩<|yT O<|zA<|zE O (fun c2=>?_) (fun c2=>?_)
  ·try simp only [sx] at c2
   refine Y O<|G O<|zA<|zG<|zS O ?_
   rw [zBr hb hp (by rw [bfErr_7 c2];decide),bfErr_7 c2]
  ·try simp only [sx] at c2
   refine zJ<|zK<|Y O<|G O<|zA<|zT<|zY ⟨[(5,.c _),(1,.c _),(3,.c _),(4,.c _)],[_,_]⟩ (Weak.mk [true,true] ⟨zC,zC,zC,zC,T⟩ O)<|qG 1 0 O O (Nat) (fun j=>[(5,vI j)]) (fun j=>[]) (fun j=>j<=k/\dZ (n.Bufs.take j) b.Name=false) (fun j=>k-j) ⟨0,⟨by omega,O⟩,Weak.mk [true,true] ⟨zC,zC,zC,zC,T⟩ O⟩ ?_
   rintro j ⟨hj,hq⟩
   refine zK<|Y O<|G O<|G O<|yF O<|zA<|zE O (fun c3=>?_) (fun c3=>?_)
   ·try simp only [sx] at c3
    obtain ⟨y,hy⟩:=yC n.Bufs j (by omega)
    refine zJ<|zK<|zT<|zK<|qV 9 mixed (by kernel_rfl) O O<|zN O O (zF O zAb O)<|zN O O (zH O zCl O (J 1 O) O)<|zN O O (zO O O)<|zN O O (qH O el22 O O (by omega) (D (by assumption)))<|zN O O (qU O zCc O)<|zN O O (zH O one9 O qD O)<|zN O O (zF O zCc O)<|zN O O (zH O one9 O (J 0 O) O)<|zN O O (kF O O O)<|yK<|zA<|zE O (fun c4=>?_) (fun c4=>?_)
    ·try simp only [sx] at c4
     refine Y O<|G O<|zA<|zG<|zS O ?_
     have h8:=hasBf_lt hy (show j<k by omega) c4
     rw [zBr hb hp (by rw [bfErr_8 c2 h8];decide),bfErr_8 c2 h8]
    ·try simp only [sx] at c4
     refine zJ<|zQ O<|G O<|qF O ⟨by omega,by omega⟩<|G O<|zA ?_
     refine ⟨j+1,⟨by omega,zOk hy hq c4⟩,(by omega),Weak.mk [true,true] ⟨zC,zC,zC,zC,T⟩ O⟩
   ·try simp only [sx] at c3
    rw [show j=k by omega] at hq
    refine qM<|zK<|Y O<|zD O zDn<|zL qX (J 0 O) O<|zZ O ok62 (zCv b.T) ⟨zC,O,T⟩<|yT O<|zA<|zE O (fun c5=>?_) (fun c5=>?_)
    ·try simp only [sx] at c5
     refine Y O<|G O<|zA<|zG<|zS O ?_
     rw [zBr hb hp (by rw [zRh c2 hq c5];decide),zRh c2 hq c5]
    ·try simp only [sx] at c5
     refine zJ<|zK<|Y O<|zD O zCu<|zI zBt (J 0 O) O<|zZ O ok121 (ref11_Validate b.Dims (hn.dims b (qL hb))) ⟨zC,O,T⟩<|G O<|zA<|Y O<|G O<|yQ O<|zA<|zE O (fun c6=>?_) (fun c6=>?_)
     ·try simp only [sx] at c6
      refine Y O<|G O<|G O<|zA<|zG<|zS O ?_
      rw [zBr hb hp (by rw [bfErr_d c2 hq c5 c6];exact c6),bfErr_d c2 hq c5 c6]
     ·try simp only [sx] at c6
      refine zJ<|Y O<|zD O zIk<|zI one3 (J 0 O) O<|yF O<|G O<|rL0 O (fun g17_3=>zF O zIk O) O<|rL1 51 O (fun g17_3=>zH O one3 O (J 0 O) O) O<|rL1 52 O (fun g17_3=>kD O O O) O<|r_or O (fun h=>(lzf h))<|zA<|zE O (fun c7=>?_) (fun c7=>?_)
      ·try simp only [sx] at c7
       refine Y O<|G O<|zA<|zG<|zS O ?_
       rw [zBr hb hp (by rw [bfErr_u c2 hq c5 c6 (by omega)];decide),bfErr_u c2 hq c5 c6 (by omega)]
      ·try simp only [sx] at c7
       refine zJ<|zQ O<|G O<|qF O ⟨by omega,by omega⟩<|G O<|zA ?_
       refine ⟨k+1,⟨by omega,zPt hb hp (bfErr_0 c2 hq c5 c6 (by omega))⟩,(by omega),Weak.mk [false,true] ⟨zC,zC,T⟩ O⟩
 ·try simp only [sx] at c1
  refine qM<|Y O<|G O<|zA<|zG<|zS O ?_
  rw [zUp hp (by omega)]
end Go.W
end
section
set_option maxRecDepth 10000
namespace Go.W
open Go Go.Eng Go.Proofs Go.L41 Go.Br
attribute [local irreducible] AWP RWP TD fT
abbrev ckN (b:Nat) (svL svS svP:Value) (n:Ns) (U S:List ByteArray) (W:List Int):List E:=
  [.row b 139 [.sl 8 (n.Bufs.map Bf.cells),.sl 20 (n.Body.map St.cells),.lit svL,.lit svS,.lit svP],.vec svL 9 1 (U.map fun s=>[cS s]),.vec svS 9 1 (S.map fun s=>[cS s]),.vec svP 3 1 (W.map fun i=>[cI i])]
abbrev vP (b:Nat):V:=.c (.lit (.pointer (some ⟨b,0,none⟩)))
theorem zBv:lA Tryz.prog 25=some 2:=by kernel_rfl
theorem zPv:lA Tryz.prog 169=some 20:=by kernel_rfl
theorem el27:dK Tryz.prog 27=some (43,5,40):=by kernel_rfl
theorem zTx:bE Tryz.prog 25 1=some (1,23):=by kernel_rfl
theorem zOo:bE Tryz.prog 139 0=some (0,25):=by kernel_rfl
theorem fd139_1:bE Tryz.prog 139 1=some (2,137):=by kernel_rfl
theorem zJv:bE Tryz.prog 139 2=some (3,137):=by kernel_rfl
theorem zHx:bE Tryz.prog 139 3=some (4,44):=by kernel_rfl
theorem zCs:bE Tryz.prog 169 0=some (0,3):=by kernel_rfl
theorem zCd:bE Tryz.prog 169 1=some (1,9):=by kernel_rfl
theorem zLr:bE Tryz.prog 169 2=some (2,3):=by kernel_rfl
theorem zOn:bE Tryz.prog 169 3=some (3,3):=by kernel_rfl
theorem zOm:bE Tryz.prog 169 4=some (4,3):=by kernel_rfl
theorem zOl:bE Tryz.prog 169 5=some (5,161):=by kernel_rfl
theorem zFq:bE Tryz.prog 169 6=some (6,167):=by kernel_rfl
theorem ok77:bA Tryz.prog 77=true:=by kernel_rfl
theorem ok78:bA Tryz.prog 78=true:=by kernel_rfl
theorem ok116:bA Tryz.prog 116=true:=by kernel_rfl
theorem ok150:bA Tryz.prog 150=true:=by kernel_rfl
theorem ok151:bA Tryz.prog 151=true:=by kernel_rfl
theorem ok152:bA Tryz.prog 152=true:=by kernel_rfl
theorem ok154:bA Tryz.prog 154=true:=by kernel_rfl
theorem ok193:bA Tryz.prog 193=true:=by kernel_rfl
theorem ok194:bA Tryz.prog 194=true:=by kernel_rfl
theorem ok195:bA Tryz.prog 195=true:=by kernel_rfl
theorem ok197:bA Tryz.prog 197=true:=by kernel_rfl
theorem ok198:bA Tryz.prog 198=true:=by kernel_rfl
theorem ok220:bA Tryz.prog 220=true:=by kernel_rfl
theorem ok227:bA Tryz.prog 227=true:=by kernel_rfl
theorem ok228:bA Tryz.prog 228=true:=by kernel_rfl
theorem ok229:bA Tryz.prog 229=true:=by kernel_rfl
theorem ok252:bA Tryz.prog 252=true:=by kernel_rfl
theorem ok253:bA Tryz.prog 253=true:=by kernel_rfl
theorem ok254:bA Tryz.prog 254=true:=by kernel_rfl
theorem zPh:jL Tryz.prog 136=true:=by kernel_rfl
theorem zMh:jL Tryz.prog 137=true:=by kernel_rfl
theorem pl139:fG Tryz.prog 139=some [(0,2),(2,1),(3,1),(4,1)]:=by kernel_rfl
theorem pl167:fG Tryz.prog 167=some [(0,1),(1,1),(2,2),(4,5),(9,2),(11,1),(12,1)]:=by kernel_rfl
theorem sz43:(Tryz.prog.info? 43).map (·.size)=some 5:=by kernel_rfl
theorem sz137:(Tryz.prog.info? 137).map (·.size)=some 1:=by kernel_rfl
theorem sz169:(Tryz.prog.info? 169).map (·.size)=some 20:=by kernel_rfl
theorem zr139:dM Tryz.prog 139=some [(Value.slice none 0 0),(Value.slice none 0 0),(Value.slice none 0 0),(Value.slice none 0 0),(Value.slice none 0 0)]:=by kernel_rfl
theorem zr169:dM Tryz.prog 169=some [(Value.int IntKind.i64 0),(Value.string (ByteArray.mk #[])),(Value.int IntKind.i64 0),(Value.int IntKind.i64 0),(Value.int IntKind.i64 0),(Value.slice none 0 0),(Value.int IntKind.i64 0),(Value.string (ByteArray.mk #[])),(Value.int IntKind.i64 0),(Value.int IntKind.i64 0),(Value.int IntKind.i64 0),(Value.int IntKind.i64 0),(Value.int IntKind.i64 0),(Value.int IntKind.i64 0),(Value.int IntKind.i64 0),(Value.int IntKind.i64 0),(Value.slice none 0 0),(Value.slice none 0 0),(Value.slice none 0 0),(Value.slice none 0 0)]:=by kernel_rfl
theorem zIq (l:List Mono) (c:C) (p:Mono->Bool) (μ:List E) (hl:l.length<=4294967296) (hc:∀x,x∈l->FnCon cfg c [rC x] μ fun r μ'=>r=vB (p x)/\μ'=μ):
    Con cfg 284 [vN l,.c c] μ fun r μ'=>r=vI (bW p l)/\μ'=μ:=by
 refine zR Tryz.func284 O Tryz.ntmps284 Tryz.results284 O ?_
 intro z hz
 refine Y O<|G O<|zA<|zK<|Y O<|G O<|qC O zDs<|G O<|zA<|zT<|zY ⟨[(8,.c _),(0,.c _),(1,.c _),(7,.c _)],_⟩ (Weak.regs ⟨zC,zC,zC,zC,T⟩)<|zHc 1 O (Nat) (fun k=>[(8,vI k)]) (fun k=>μ) (fun k=>k<=l.length/\((l.take k).any p=false)) (fun k=>l.length-k) ⟨0,⟨by omega,O⟩,Weak.regs ⟨zC,zC,zC,zC,T⟩⟩ ?_
 rintro k ⟨hk,hp⟩
 refine Y O<|yF O<|zA<|zK<|zE O (fun c1=>?_) (fun c1=>?_)
 ·try simp only [sx] at c1
  obtain ⟨x,hx⟩:=yC l k (by omega)
  refine zJ<|zK<|zT<|Y O<|G O<|G O<|zA<|Y O<|G O<|G O<|G O<|qI O zDs (by omega) (D (by assumption))<|zL zPu qD O<|zW O O (zDf O O (hc _ (qL hx)) ⟨zC,O,T⟩) ?_
  exact j4
 ·try simp only [sx] at c1
  refine qM<|Y O<|G O<|zA<|zG<|zS O ?_
  exact ⟨by rw [zDg (by rw [yP (by omega)] at hp;exact hp)],O⟩
theorem zGg (l:List Mono) (c:C) (p:Mono->Bool) (μ:List E) (hl:l.length<=4294967296) (hc:∀x,x∈l->FnCon cfg c [rC x] μ fun r μ'=>r=vB (p x)/\μ'=μ):
    Con cfg 252 [vN l,.c c] μ fun r μ'=>r=vB (l.any p)/\μ'=μ:=by
 refine zR Tryz.func252 O Tryz.ntmps252 Tryz.results252 O ?_
 intro z hz
 refine Y O<|G O<|zA<|Y O<|G O<|G O<|zW O O (zBw O ok284 (zIq l c p μ hl hc) ⟨zC,O,zC,O,T⟩) ?_
 rintro _ _ ⟨rfl,rfl⟩
 refine zX O (kB O O O)<|G O<|zA<|zG<|zS O ?_
 exact ⟨by rw [zHb],O⟩
theorem zKv (l:List Lf) (c:C) (p:Lf->Bool) (μ:List E) (hl:l.length<=4294967296) (hc:∀x,x∈l->FnCon cfg c [nA x] μ fun r μ'=>r=vB (p x)/\μ'=μ):
    Con cfg 254 [rD l,.c c] μ fun r μ'=>r=vI (bW p l)/\μ'=μ:=by
 refine zR Tryz.func254 O Tryz.ntmps254 Tryz.results254 O ?_
 intro z hz
 refine Y O<|G O<|zA<|zK<|Y O<|G O<|qC O zCf<|G O<|zA<|zT<|zY ⟨[(8,.c _),(0,.c _),(1,.c _),(7,.c _)],_⟩ (Weak.regs ⟨zC,zC,zC,zC,T⟩)<|zHc 1 O (Nat) (fun k=>[(8,vI k)]) (fun k=>μ) (fun k=>k<=l.length/\((l.take k).any p=false)) (fun k=>l.length-k) ⟨0,⟨by omega,O⟩,Weak.regs ⟨zC,zC,zC,zC,T⟩⟩ ?_
 rintro k ⟨hk,hp⟩
 refine Y O<|yF O<|zA<|zK<|zE O (fun c1=>?_) (fun c1=>?_)
 ·try simp only [sx] at c1
  obtain ⟨x,hx⟩:=yC l k (by omega)
  refine zJ<|zK<|zT<|Y O<|G O<|G O<|zA<|Y O<|G O<|G O<|G O<|qI O zCf (by omega) (D (by assumption))<|zL zAq qD O<|zW O O (zDf O O (hc _ (qL hx)) ⟨zC,O,T⟩) ?_
  exact j4
 ·try simp only [sx] at c1
  refine qM<|Y O<|G O<|zA<|zG<|zS O ?_
  exact ⟨by rw [zDg (by rw [yP (by omega)] at hp;exact hp)],O⟩
theorem zHm (l:List Lf) (c:C) (p:Lf->Bool) (μ:List E) (hl:l.length<=4294967296) (hc:∀x,x∈l->FnCon cfg c [nA x] μ fun r μ'=>r=vB (p x)/\μ'=μ):
    Con cfg 228 [rD l,.c c] μ fun r μ'=>r=vB (l.any p)/\μ'=μ:=by
 refine zR Tryz.func228 O Tryz.ntmps228 Tryz.results228 O ?_
 intro z hz
 refine Y O<|G O<|zA<|Y O<|G O<|G O<|zW O O (zBw O ok254 (zKv l c p μ hl hc) ⟨zC,O,zC,O,T⟩) ?_
 rintro _ _ ⟨rfl,rfl⟩
 refine zX O (kB O O O)<|G O<|zA<|zG<|zS O ?_
 exact ⟨by rw [zHb],O⟩
theorem inScope_1 (b:Nat) (svL svS svP:Value) (n:Ns) (U S:List ByteArray) (W:List Int) (m:Mono) (hS:S.length<=1000000):
    Con cfg 253 [rC m,.c (.iptr [.lit (.pointer (some ⟨b,0,none⟩))])] (ckN b svL svS svP n U S W) fun r μ'=>r=vB (!dW S m.Name)/\μ'=ckN b svL svS svP n U S W:=by
 refine zR Tryz.func253 O Tryz.ntmps253 Tryz.results253 O ?_
 intro z hz
 refine Y O<|zW O O (qB O O) ?_
 rintro _ _ ⟨b1,rfl,rfl⟩
 refine G O<|zA<|zK<|qV 6 mixed (by kernel_rfl) O O<|zN O O (zH O zPh O qD O)<|zN O O (qJ O O)<|zN O O (zF O zJv O)<|zN O O (zH O zMh O (J 1 O) O)<|zN O O (zF O zEo O)<|zN O O (zH O one9 O (J 0 O) O)<|yK<|zX O (zNe 3 O ok191 O (zCz S m.Name (by omega)) O ⟨.inl ⟨O,O⟩,.inr ⟨zC,O⟩,T⟩)<|yT O<|G O<|zA<|zY _ (Weak.mem [false,true,true,true,true] O)<|zG<|zS O ?_
 exact ⟨O,O⟩
theorem zOx (b:Nat) (svL svS svP:Value) (n:Ns) (U S:List ByteArray) (W:List Int) (l:Lf) (hS:S.length<=1000000) (hl:l.L.length<=4294967296):
    Con cfg 227 [vP b,nA l] (ckN b svL svS svP n U S W) fun r μ'=>r=vB (lH S l)/\μ'=ckN b svL svS svP n U S W:=by
 refine zR Tryz.func227 O Tryz.ntmps227 Tryz.results227 O ?_
 intro z hz
 refine Y O<|zW O O (qB O O) ?_
 rintro _ _ ⟨b1,rfl,rfl⟩
 refine yZ _ (kM 0 O 2 _ PLe.ptr)<|zW O O (qB O O) ?_
 rintro _ _ ⟨b2,rfl,rfl⟩
 refine G O<|zA<|Y O<|zD O zAp<|zI zCa (J 0 O) O<|zX O (zGd O O O O O)<|zX O (yG [1,1,1,1] O ok252 (zGg l.L _ (fun m=> !dW S m.Name) (ckN b svL svS svP n U S W) hl (fun m _=>FnCon.of_con (first:=[]) (cap:=[.iptr [.lit (.pointer (some ⟨b,0,none⟩))]]) ok253 (inScope_1 b svL svS svP n U S W m hS))) ⟨zC,O,zC,O,T⟩ O)<|yT O<|G O<|zA<|zY _ (Weak.mem [false,true,true,true,true] O)<|zG<|zS O ?_
 exact ⟨by rw [zJo];rfl,O⟩
theorem node_1 (b:Nat) (svL svS svP:Value) (n:Ns) (U S:List ByteArray) (W:List Int) (l:Lf) (hS:S.length<=1000000) (hl:l.L.length<=4294967296):
    Con cfg 229 [nA l,.c (.iptr [.lit (.pointer (some ⟨b,0,none⟩))])] (ckN b svL svS svP n U S W) fun r μ'=>r=vB (!lH S l)/\μ'=ckN b svL svS svP n U S W:=by
 refine zR Tryz.func229 O Tryz.ntmps229 Tryz.results229 O ?_
 intro z hz
 refine Y O<|zW O O (qB O O) ?_
 rintro _ _ ⟨b1,rfl,rfl⟩
 refine G O<|zA<|Y O<|zI zPh qD O<|zL zAq (J 0 O) O<|zX O (yG [1,1,1,1] O ok227 (zOx b svL svS svP n U S W l hS hl) ⟨zC,O,zC,O,T⟩ O)<|yT O<|G O<|zA<|zY _ (Weak.mem [false,true,true,true,true] O)<|zG<|zS O ?_
 exact ⟨O,O⟩
theorem ck_node (b:Nat) (svL svS svP:Value) (n:Ns) (U S:List ByteArray) (W:List Int) (e:Ex) (hn:n.Ok) (hS:S.length<=1000000) (he:e.wt<=1073741824):
    Con cfg 197 [vP b,vE e] (ckN b svL svS svP n U S W) fun r μ'=>r=vI (jA n.Bufs S e)/\μ'=ckN b svL svS svP n U S W:=by
 refine zR Tryz.func197 O Tryz.ntmps197 Tryz.results197 O ?_
 intro z hz
 obtain ⟨hL,hI,hA⟩:=e.parts he
 have hwt:=Ex.wt_eq e
 refine Y O<|zW O O (qB O O) ?_
 rintro _ _ ⟨b1,rfl,rfl⟩
 refine yZ _ (kM 0 O 2 _ PLe.ptr)<|zW O O (qB O O) ?_
 rintro _ _ ⟨b2,rfl,rfl⟩
 refine G O<|zA<|Y O<|zI zPh qD O<|zD O zEr<|zL zAq (J 0 O) O<|zX O (yG [1,1,1,1] O ok227 (zOx b svL svS svP n U S W e.Lin hS (by omega)) ⟨zC,O,zC,O,T⟩ O)<|G O<|zA<|zK<|Y O<|zD O kQ<|zI wA (J 0 O) O<|qC O wU<|G O<|zA<|zT<|zY ⟨[(20,.c _),(5,.c _),(2,.c _),(3,.c _),(18,.c _),(19,.c _)],[_,_,_,_,_]⟩ (Weak.mk [true,true,true,true,true] ⟨zC,zC,zC,zC,zC,zC,T⟩ O) ?_
 refine qG 2 0 O O (Nat) (fun k=>[(20,vI k),(5,vB (lH S e.Lin&&(e.Idx.take k).all (vV S)))]) (fun k=>[]) (fun k=>k<=e.Idx.length) (fun k=>e.Idx.length-k) ⟨0,(by omega),Weak.mk [true,true,true,true,true] ⟨zC,VLe.of_eq (congrArg vB (by simp)),zC,zC,zC,zC,T⟩ O⟩ ?_
 rintro k hk
 refine Y O<|yF O<|zA<|zK<|zE O (fun c1=>?_) (fun c1=>?_)
 ·try simp only [sx] at c1
  obtain ⟨x,hx⟩:=yC e.Idx k (by omega)
  refine zJ<|zK<|zT<|Y O<|qI O wU (by omega) (D (by assumption))<|zL zIp qD O<|zW O O (qT [none,some 2,none,some 2] O zr195 O) ?_
  rintro _ _ ⟨b3,rfl,rfl⟩
  refine rStR 0 sz195 O<|zA<|zQ O<|G O<|G O<|rL0 O (fun g5_1=>zH O zPh O qD O) O<|rL0 O (fun g5_1=>zF O zEp O) O<|rL1 27 O (fun g5_1=>zV O zAq O (J 0 O) O) O<|rLz [(26,_),(28,_)] O gv1 ⟨O,O,O,O,T⟩ (fun g5_1=>yG [2,2,2,2] O ok227 (zOx b svL svS svP n U S W x.Lin hS (by have:=Ex.idx_wt (qL hx);omega)) ⟨zC,O,zC,O,T⟩ O) O<|yO O (fun h=>h)<|G O<|rL0 O (fun g5_7=>zF O zBu O) O<|rL1 32 O (fun g5_7=>zH O zDv O (J 0 O) O) O<|rL0 O (fun g5_7=>zGd O O O O O) O<|rLz [(33,_),(34,_)] O gv1 ⟨O,O,O,O,T⟩ (fun g5_7=>yG [2,2,2,2] O ok228 (zHm x.At _ (fun l=> !lH S l) (ckN b svL svS svP n U S W) (by have:=Ex.idx_wt (qL hx);omega) (fun l hl=>FnCon.of_con (first:=[]) (cap:=[.iptr [.lit (.pointer (some ⟨b,0,none⟩))]]) ok229 (node_1 b svL svS svP n U S W l hS (by have:=Ex.idx_wt (qL hx);have:=zFg hl;omega)))) ⟨zC,O,zC,O,T⟩ O) O<|rL1 35 O (fun g5_7=>kA O O) O<|yO O (fun h=>h)<|G O<|zA<|zQ O<|qF O ⟨by omega,by omega⟩<|G O<|zA ?_
  refine ⟨k+1,(by omega),(by omega),Weak.mk [false,true,true,true,true,true] ⟨zC,VLe.of_eq (congrArg vB (by rw [zJo];exact scAll_next hx)),zC,zC,zC,zC,T⟩ O⟩
 ·try simp only [sx] at c1
  rw [yP (l:=e.Idx) (k:=k) (by omega)]
  refine qM<|zK<|Y O<|G O<|yT O<|zA<|zE O (fun c2=>?_) (fun c2=>?_)
  ·have h9:jY S e=false:=(Bool.not_eq_true' _).mp c2
   refine Y O<|G O<|zA<|zY _ (Weak.mem [false,true,true,true,true] O)<|zG<|zS O ?_
   exact ⟨by rw [nodeN_9 h9],O⟩
  ·have h9:jY S e=true:=(Bool.not_eq_false' _).mp c2
   refine zJ<|zK<|Y O<|zD O kR<|zI one3 (J 0 O) O<|yQ O<|zA<|zE O (fun c3=>?_) (fun c3=>?_)
   ·try simp only [sx] at c3
    refine Y O<|G O<|zA<|zY _ (Weak.mem [false,true,true,true,true] O)<|zG<|zS O ?_
    exact ⟨by rw [nodeN_o h9 c3],O⟩
   ·try simp only [sx] at c3
    refine zJ<|zK<|kG 12 1 [⟨0,.q []⟩,⟨1,.q []⟩,⟨2,.q []⟩,⟨3,.q [2]⟩,⟨4,.q []⟩,⟨5,.q [1]⟩,⟨6,.q []⟩,⟨7,.q []⟩,⟨8,.q []⟩,⟨9,.q []⟩,⟨10,.e 0 []⟩,⟨11,.e 0 []⟩] mixed (by kernel_rfl) (by kernel_rfl) O O O<|zU O<|zU O<|zU O<|zU O<|zU O<|zU O<|zU O<|zU O<|zU O<|zU O<|zU O<|zU O<|zAz<|qA O (by decide) O O (zH O zPh O qD O)<|qA O (by decide) O O (qJ O O)<|qA O (by decide) O O (zF O zOo O)<|qA O (by decide) O O (zV O zBv O (J 0 O) O)<|qA O (by decide) O O (zF O zDp O)<|qA O (by decide) O O (zH O one9 O (J 0 O) O)<|qA O (by decide) O O (qE O ok194 (zBd n e.Name hn) ⟨zC,O,zC,O,T⟩)<|qA O (by decide) O O (kW O O)<|qA O (by decide) O O (wM O O O)<|qA O (by decide) O O (wO O O O)<|zIx O O (by decide) O O (qT [none,none,none,none,none,none,some 1,none] O zr46 O) ?_
    rintro _ _ ⟨b4,rfl,rfl⟩
    refine ⟨_,O,?_⟩
    refine zGq O O (by decide) O O (yL O sz46 O O O (zEg 0 O O)) ?_
    rintro _ _ ⟨rfl,rfl⟩
    refine ⟨_,O,?_⟩
    refine zAy O<|G O<|zA<|zK<|Y O<|G O<|yT O<|zA<|zE O (fun c4=>?_) (fun c4=>?_)
    ·try simp only [sx] at c4
     refine Y O<|G O<|zA<|zY _ (Weak.mem [false,false,true,true,true,true] O)<|zG<|zS O ?_
     exact ⟨by rw [nodeN_n h9 (by omega) c4],O⟩
    ·try simp only [sx] at c4
     refine zJ<|zK<|Y O<|zD O zCu<|zI zBt (J 0 O) O<|qC O v<|zD O kQ<|zI wA (J 1 O) O<|qC O wU<|yQ O<|zA<|zE O (fun c5=>?_) (fun c5=>?_)
     ·try simp only [sx] at c5
      refine Y O<|G O<|zA<|zY _ (Weak.mem [false,false,true,true,true,true] O)<|zG<|zS O ?_
      exact ⟨by rw [nodeN_r h9 (by omega) c4 (by omega)],O⟩
     ·try simp only [sx] at c5
      refine zJ<|zK<|Y O<|zD O kQ<|zI wA (J 1 O) O<|qC O wU<|G O<|zA<|zT<|zY ⟨[(66,.c _),(2,.c _),(64,.c _),(65,.c _)],[_,_,_,_]⟩ (Weak.mk [false,false,true,true,true,true] ⟨zC,zC,zC,zC,T⟩ O)<|qG 1 0 O O (Nat) (fun j=>[(66,vI j)]) (fun j=>[]) (fun j=>j<=e.Idx.length/\(mJ n.Bufs e.Idx=mJ n.Bufs (e.Idx.drop j))) (fun j=>e.Idx.length-j) ⟨0,⟨by omega,O⟩,Weak.mk [true,true,true,true] ⟨zC,zC,zC,zC,T⟩ O⟩ ?_
      rintro j ⟨hk,hq⟩
      refine Y O<|yF O<|zA<|zK<|zE O (fun c6=>?_) (fun c6=>?_)
      ·try simp only [sx] at c6
       obtain ⟨y,hy⟩:=yC e.Idx j (by omega)
       refine zJ<|zK<|zT<|Y O<|qI O wU (by omega) (D (by assumption))<|zL zIp qD O<|zW O O (qT [none,some 2,none,some 2] O zr195 O) ?_
       rintro _ _ ⟨b5,rfl,rfl⟩
       refine rStR 0 sz195 O<|zA<|zK<|Y O<|zD O zDb<|zI one9 (J 0 O) O<|zX O (kF O O O)<|zA<|zE O (fun c7=>?_) (fun c7=>?_)
       ·try simp only [sx] at c7
        refine qM<|zQ O<|qF O ⟨by omega,by omega⟩<|G O<|zA ?_
        refine ⟨j+1,⟨by omega,hq.trans (zKk hy (by first|exact gathE_0 c7|exact zQw c7 c8 (by omega) (by omega)))⟩,(by omega),Weak.mk [false,true,true,true,true] ⟨zC,zC,zC,zC,T⟩ O⟩
       ·try simp only [sx] at c7
        refine zJ<|zK<|kG 12 1 [⟨0,.q []⟩,⟨1,.q []⟩,⟨2,.q []⟩,⟨3,.q [2]⟩,⟨4,.q []⟩,⟨5,.q [1]⟩,⟨6,.q []⟩,⟨7,.q []⟩,⟨8,.q []⟩,⟨9,.q []⟩,⟨10,.e 0 []⟩,⟨11,.e 0 []⟩] mixed (by kernel_rfl) (by kernel_rfl) O O O<|zU O<|zU O<|zU O<|zU O<|zU O<|zU O<|zU O<|zU O<|zU O<|zU O<|zU O<|zU O<|zAz<|qA O (by decide) O O (zH O zPh O qD O)<|qA O (by decide) O O (qJ O O)<|qA O (by decide) O O (zF O zOo O)<|qA O (by decide) O O (zV O zBv O (J 0 O) O)<|qA O (by decide) O O (zF O zDb O)<|qA O (by decide) O O (zH O one9 O (J 0 O) O)<|qA O (by decide) O O (qE O ok194 (zBd n y.From hn) ⟨zC,O,zC,O,T⟩)<|qA O (by decide) O O (kW O O)<|qA O (by decide) O O (wM O O O)<|qA O (by decide) O O (wO O O O)<|zIx O O (by decide) O O (qT [none,none,none,none,none,none,some 1,none] O zr46 O) ?_
        rintro _ _ ⟨b6,rfl,rfl⟩
        refine ⟨_,O,?_⟩
        refine zGq O O (by decide) O O (yL O sz46 O O O (zEg 0 O O)) ?_
        rintro _ _ ⟨rfl,rfl⟩
        refine ⟨_,O,?_⟩
        refine zAy O<|G O<|zA<|zT<|Y O<|G O<|yT O<|G O<|zA<|zE O (fun c8=>?_) (fun c8=>?_)
        ·try simp only [sx] at c8
         refine Y O<|G O<|zA<|zY _ (Weak.mem [false,false,true,true,true,true] O)<|zG<|zS O ?_
         exact ⟨by rw [zJp h9 (by omega) c4 (by omega),hq,zKj hy (by rw [gathE_9 c7 c8];decide),gathE_9 c7 c8],O⟩
        ·try simp only [sx] at c8
         refine Y O<|zD O zDn<|zD O zBx<|zI one3 (J 0 O) O<|yQ O<|G O<|zA<|zE O (fun c9=>?_) (fun c9=>?_)
         ·try simp only [sx] at c9
          refine Y O<|G O<|zA<|zY _ (Weak.mem [false,false,true,true,true,true] O)<|zG<|zS O ?_
          exact ⟨by rw [zJp h9 (by omega) c4 (by omega),hq,zKj hy (by rw [zQy c7 c8 c9];decide),zQy c7 c8 c9],O⟩
         ·try simp only [sx] at c9
          refine Y O<|zD O zCu<|zI zBt (J 0 O) O<|qC O v<|zD O zBu<|zI zDv (J 1 O) O<|qC O zCf<|yQ O<|G O<|zA<|zE O (fun c10=>?_) (fun c10=>?_)
          ·try simp only [sx] at c10
           refine Y O<|G O<|zA<|zY _ (Weak.mem [false,false,true,true,true,true] O)<|zG<|zS O ?_
           exact ⟨by rw [zJp h9 (by omega) c4 (by omega),hq,zKj hy (by rw [zQx c7 c8 c9 (by omega)];decide),zQx c7 c8 c9 (by omega)],O⟩
          ·try simp only [sx] at c10
           refine zJ<|zQ O<|qF O ⟨by omega,by omega⟩<|G O<|zA ?_
           refine ⟨j+1,⟨by omega,hq.trans (zKk hy (by first|exact gathE_0 c7|exact zQw c7 c8 (by omega) (by omega)))⟩,(by omega),Weak.mk [false,false,true,true,true,true] ⟨zC,zC,zC,zC,T⟩ O⟩
      ·try simp only [sx] at c6
       refine qM<|Y O<|G O<|zA<|zG<|zS O ?_
       exact ⟨by rw [zJp h9 (by omega) c4 (by omega),hq,wE (by omega)];rfl,O⟩
theorem ck_typeOf_step (b:Nat) (svL svS svP:Value) (n:Ns) (U S:List ByteArray) (W:List Int) (hn:n.Ok) (e:Ex) (ih:∀a,a∈e.Args->fK a=0->a.wt<=1073741824->Con cfg 198 [vP b,vE a] (ckN b svL svS svP n U S W) fun r μ'=>r=.tup [vTy (dO (tyF n.Bufs) a).1,vI (dO (tyF n.Bufs) a).2]/\μ'=ckN b svL svS svP n U S W) (hpart:fK e=0) (he:e.wt<=1073741824):
    Con cfg 198 [vP b,vE e] (ckN b svL svS svP n U S W) fun r μ'=>r=.tup [vTy (dO (tyF n.Bufs) e).1,vI (dO (tyF n.Bufs) e).2]/\μ'=ckN b svL svS svP n U S W:=by
 refine Con.drop<|zR Tryz.func198 O Tryz.ntmps198 Tryz.results198 O ?_
 intro z hz
 obtain ⟨hLl,hIl,hAl⟩:=e.parts he
 have hwt:=Ex.wt_eq e
 refine Y O<|zW O O (qB O O) ?_
 rintro _ _ ⟨b1,rfl,rfl⟩
 refine zW O O (qS O zr43) ?_
 rintro _ _ ⟨b2,rfl,rfl⟩
 refine G O<|zA<|Y O<|G O<|yZ _ (wH 43 5)<|zA<|zK<|Y O<|zD O zAd<|zI zBl (J 2 O) O<|qC O zBa<|G O<|zA<|zT<|zY ⟨[(16,.c _),(6,.c _),(0,.c _),(3,.c _),(4,.c _),(14,.c _),(15,.c _)],[_,_,_,_,_,_,_]⟩ (Weak.mk [true,true,true,true,true,true,true] ⟨zC,zC,zC,zC,zC,zC,zC,T⟩ O)<|qG 2 1 O O (Nat×Value) (fun ⟨k,sv⟩=>[(16,vI k),(6,.c (.lit sv))]) (fun ⟨k,sv⟩=>[E.vec sv 43 5 ((bM (tyF n.Bufs) (e.Args.take k)).1.map tyC)]) (fun ⟨k,sv⟩=>k<=e.Args.length/\((bM (tyF n.Bufs) (e.Args.take k)).2=0)) (fun ⟨k,sv⟩=>e.Args.length-k) ⟨⟨0,(.slice none 0 0)⟩,⟨by omega,O⟩,Weak.mk [true,true,true,true,true,true,true] ⟨zC,zC,zC,zC,zC,zC,zC,T⟩ O⟩ ?_
 rintro ⟨k,sv⟩ ⟨hk,hp⟩
 show AWP _ _ _ _ _ ⟨[(16,vI k),(6,.c (.lit sv))]++_,[E.vec sv 43 5 ((bM (tyF n.Bufs) (e.Args.take k)).1.map tyC)]++_⟩
 refine Y O<|yF O<|zA<|zK<|zE O (fun c1=>?_) (fun c1=>?_)
 ·try simp only [sx] at c1
  obtain ⟨x,hx⟩:=yC e.Args k (by omega)
  have hll:=zGw _ _ hp
  refine zJ<|zK<|zT<|Y O<|qI O zBa (by omega) (zJt (by assumption))<|zL yV qD O<|zW O O (qT [none,none,none,none,none,none,none,none,none,none,some 2,some 4,some 13] O zLw O) ?_
  rintro _ _ ⟨b4,rfl,rfl⟩
  refine rStR 0 sz167 O<|zA<|Y O<|G O<|zL yV (J 0 O) O<|zX O (yG [4,4,4,4] O ok198 (ih x (qL hx) (zSs hpart (qL hx)) (by have:=Ex.arg_wt (qL hx);omega)) ⟨zC,O,zC,O,T⟩ O)<|qW O<|yD O<|qY O<|zW O O (qS O zr43) ?_
  rintro _ _ ⟨b5,rfl,rfl⟩
  refine rStR 0 sz43 O<|G O<|zA<|zK<|Y O<|G O<|yQ O<|zA<|zE O (fun c2=>?_) (fun c2=>?_)
  ·try simp only [sx] at c2
   refine Y O<|zL qX (J 0 O) O<|G O<|rStR 3 sz43 O<|G O<|zA<|zY _ (Weak.mem [false,false,false,true,false,true,true,true,true] O)<|zG<|R (zP qX O (J 0 O) O) (L O) ?_
   exact ⟨by rw [nodeT_no hx hp c2,nodeT_zero c2];rfl,[_],O⟩
  ·try simp only [sx] at c2
   refine zJ<|zQ O<|G O<|zL qX (J 0 O) O<|zX O (yS O el27 zr43 O O O O)<|zW O O (yX 2 O el27 O O O (by simp only [List.length_map,List.length_cons,List.length_nil,hll,List.length_take];omega) (by simp only [List.length_map,List.length_cons,List.length_nil,hll,List.length_take];omega)) ?_
   rintro _ _ ⟨sv6,rfl,rfl⟩
   refine G O<|zA<|zQ O<|qF O ⟨by omega,by omega⟩<|G O<|zA ?_
   refine ⟨⟨k+1,sv6⟩,⟨by omega,by rw [zFf hx hp c2]⟩,(by show e.Args.length-(k+1)<e.Args.length-k;omega),Weak.mk [false,false,true,true,true,true,true,true,true] ⟨zC,zC,zC,zC,zC,zC,zC,T⟩ (by show _=[E.vec sv6 _ 5 ((bM (tyF n.Bufs) (e.Args.take (k+1))).1.map tyC)]++_;rw [zFf hx hp c2];simp only [List.map_append];rfl)⟩
 ·try simp only [sx] at c1
  have hll:=zGw _ _ hp
  have hta:e.Args.take k=e.Args:=yP (by omega)
  rw [hta] at hll
  have hg:∀i,i<e.Args.length->((bM (tyF n.Bufs) (e.Args.take k)).1.map tyC)[i]? =some (tyC (dG (bM (tyF n.Bufs) (e.Args.take k)).1 i)):=fun i hi=>zKe (by rw [hta];omega)
  have hgn:∀i:Nat,1<=i->i<=e.Args.length->∀j:Int,j=(((bM (tyF n.Bufs) (e.Args.take k)).1.length:Int)-i)->((bM (tyF n.Bufs) (e.Args.take k)).1.map tyC)[j.toNat]? =some (tyC (dG (bM (tyF n.Bufs) (e.Args.take k)).1 ((bM (tyF n.Bufs) (e.Args.take k)).1.length-i))):=fun i h1 h2 j hj=>by rw [hta] at *;rw [show j.toNat=(bM (tyF n.Bufs) e.Args).1.length-i by omega];exact zKe (by omega)
  have hT:dO (tyF n.Bufs) e=tyF n.Bufs e (bM (tyF n.Bufs) (e.Args.take k)).1:=nodeT_ok hta hp
  have hlk:(bM (tyF n.Bufs) (e.Args.take k)).1.length=e.Args.length:=by rw [hta];exact hll
  refine qM<|zK<|Y O<|zD O kR<|zI one3 (J 2 O) O<|zA<|zT<|zK<|Y O<|qQ O<|G O<|zA<|zE O (fun c3=>?_) (fun c3=>?_)
  ·try simp only [sx] at c3
   refine zJ<|zE O (fun c4=>?_) (fun c4=>?_)
   ·exact v44
   ·try simp only [sx] at c4
    refine Y O<|qQ O<|G O<|zA<|zE O (fun c5=>?_) (fun c5=>?_)
    ·try simp only [sx] at c5
     exact s9
    ·try simp only [sx] at c5
     refine Y O<|qQ O<|G O<|zA<|zE O (fun c6=>?_) (fun c6=>?_)
     ·try simp only [sx] at c6
      refine zK<|kG 12 1 [⟨0,.q []⟩,⟨1,.q []⟩,⟨2,.q []⟩,⟨3,.q [4]⟩,⟨4,.q []⟩,⟨5,.q [3]⟩,⟨6,.q []⟩,⟨7,.q []⟩,⟨8,.q []⟩,⟨9,.q []⟩,⟨10,.e 0 []⟩,⟨11,.e 0 []⟩] mixed (by kernel_rfl) (by kernel_rfl) O O O<|zU O<|zU O<|zU O<|zU O<|zU O<|zU O<|zU O<|zU O<|zU O<|zU O<|zU O<|zU O<|zAz<|qA O (by decide) O O (zO O O)<|qA O (by decide) O O (qJ O O)<|qA O (by decide) O O (zF O zOo O)<|qA O (by decide) O O (zV O zBv O (J 0 O) O)<|qA O (by decide) O O (zF O zDp O)<|qA O (by decide) O O (zH O one9 O (J 0 O) O)<|qA O (by decide) O O (qE O ok194 (zBd n e.Name hn) ⟨zC,O,zC,O,T⟩)<|qA O (by decide) O O (kW O O)<|qA O (by decide) O O (wM O O O)<|qA O (by decide) O O (wO O O O)<|zIx O O (by decide) O O (qT [none,none,none,none,none,none,some 1,none] O zr46 O) ?_
      rintro _ _ ⟨b7,rfl,rfl⟩
      exact j9
     ·exact v8
  ·try simp only [sx] at c3
   refine zQ O<|qQ O<|G O<|zA<|zE O (fun c4=>?_) (fun c4=>?_)
   ·exact v44
   ·try simp only [sx] at c4
    refine Y O<|qQ O<|G O<|zA<|zE O (fun c5=>?_) (fun c5=>?_)
    ·try simp only [sx] at c5
     exact s9
    ·try simp only [sx] at c5
     refine Y O<|qQ O<|G O<|zA<|zE O (fun c6=>?_) (fun c6=>?_)
     ·try simp only [sx] at c6
      refine zK<|kG 12 1 [⟨0,.q []⟩,⟨1,.q []⟩,⟨2,.q []⟩,⟨3,.q [4]⟩,⟨4,.q []⟩,⟨5,.q [3]⟩,⟨6,.q []⟩,⟨7,.q []⟩,⟨8,.q []⟩,⟨9,.q []⟩,⟨10,.e 0 []⟩,⟨11,.e 0 []⟩] mixed (by kernel_rfl) (by kernel_rfl) O O O<|zU O<|zU O<|zU O<|zU O<|zU O<|zU O<|zU O<|zU O<|zU O<|zU O<|zU O<|zU O<|zAz<|qA O (by decide) O O (zO O O)<|qA O (by decide) O O (qJ O O)<|qA O (by decide) O O (zF O zOo O)<|qA O (by decide) O O (zV O zBv O (J 0 O) O)<|qA O (by decide) O O (zF O zDp O)<|qA O (by decide) O O (zH O one9 O (J 0 O) O)<|qA O (by decide) O O (qE O ok194 (zBd n e.Name hn) ⟨zC,O,zC,O,T⟩)<|qA O (by decide) O O (kW O O)<|qA O (by decide) O O (wM O O O)<|qA O (by decide) O O (wO O O O)<|zIx O O (by decide) O O (qT [none,none,none,none,none,none,some 1,none] O zr46 O) ?_
      rintro _ _ ⟨b8,rfl,rfl⟩
      exact j9
     ·exact v8
theorem ck_typeOf (b:Nat) (svL svS svP:Value) (n:Ns) (U S:List ByteArray) (W:List Int)  (e:Ex) (hn:n.Ok) (hpart:fK e=0) (he:e.wt<=1073741824):Con cfg 198 [vP b,vE e] (ckN b svL svS svP n U S W) fun r μ'=>r=.tup [vTy (dO (tyF n.Bufs) e).1,vI (dO (tyF n.Bufs) e).2]/\μ'=ckN b svL svS svP n U S W:=by
  induction e using Ex.ind with
  |_ e ih=>exact ck_typeOf_step b svL svS svP n U S W hn e (fun a ha h1 h2=>ih a ha h1 h2) hpart he
theorem zIb (b:Nat) (svL svS svP:Value) (n:Ns) (U S:List ByteArray) (W:List Int) (e:Ex) (hn:n.Ok) (hS:S.length<=1000000) (he:e.wt<=1000000000):
    Con cfg 152 [vP b,vE e] (ckN b svL svS svP n U S W) fun r μ'=>r=.tup [vTy (dD n.Bufs S e).1,vI (dD n.Bufs S e).2]/\μ'=ckN b svL svS svP n U S W:=by
 refine Con.drop<|zR Tryz.func152 O Tryz.ntmps152 Tryz.results152 O ?_
 intro z hz
 refine Y O<|zW O O (qB O O) ?_
 rintro _ _ ⟨b1,rfl,rfl⟩
 refine yZ _ (kM 0 O 2 _ PLe.ptr)<|zW O O (qB O O) ?_
 rintro _ _ ⟨b2,rfl,rfl⟩
 refine zW O O (qS O zr43) ?_
 rintro _ _ ⟨b3,rfl,rfl⟩
 refine zW O O (qS O zr36) ?_
 rintro _ _ ⟨b4,rfl,rfl⟩
 refine zA<|zK<|Y O<|zL yV (J 2 O) O<|zZ O ok195 (expr_Validate e (by omega)) ⟨zC,O,T⟩<|G O<|zA<|Y O<|G O<|yQ O<|zA<|zE O (fun c1=>?_) (fun c1=>?_)
 ·try simp only [sx] at c1
  refine Y O<|qR O zr43 pl43<|G O<|rStR 1 sz43 O<|rStR 0 sz36 O<|zA<|zY _ (Weak.mem [true,true,false,true,true,true,true] O)<|zG<|R (zP qX O (J 1 O) O) (wJ zJn O (J 0 O) O) ?_
  exact ⟨by rw [exprT_1 c1];rfl,[_,_],O⟩
 ·try simp only [sx] at c1
  refine zJ<|zK<|Y O<|zL yV (J 2 O) O<|zZ O ok196 (zUb _) ⟨zC,O,T⟩<|zA<|zT<|zId (ps:=[17]) hz 2 O O ok225 (zRp e (by omega)) (fun _ _=>O) O (fun pre=>dF n.Bufs S pre=0) (fun pre=>[E.row b4 36 [cI 0],E.row b3 43 [cI 0,cI 0,cI 0,cI 0,cI 0]]) (fun c pre=>(c=.ret/\¬dF n.Bufs S pre=0)) (fun c pre=>[E.row b4 36 [cI (dF n.Bufs S pre)],E.row b3 43 [cI 0,cI 0,cI 0,cI 0,cI 0]]) ⟨O,O⟩ ?_ ?_ ?_ ?_
  ·intro pre x suf hxs hi z hz
   have hxw:x.wt<=e.wt:=zLn e x (by rw [hxs];simp)
   refine zQ O<|zW O O (qT [none,none,none,none,none,none,none,none,none,none,some 2,some 4,some 13] O zLw O) ?_
   rintro _ _ ⟨b5,rfl,rfl⟩
   refine rStR 0 sz167 O<|zA ?_
   intro z hz
   refine zT<|Y O<|zI zPh qD O<|zL yV (J 0 O) O<|zX O (yG [4,4,4,4] O ok197 (ck_node b svL svS svP n U S W x hn hS (by omega)) ⟨zC,O,zC,O,T⟩ O)<|G O<|zA<|Y O<|G O<|yQ O<|zA<|zE O (fun c2=>?_) (fun c2=>?_)
   ·try simp only [sx] at c2
    refine Y O<|qR O zr43 pl43<|G O<|rStR 2 sz43 O<|rStR 1 sz36 O<|zA<|zG ?_
    exact zEh (τ:=⟨[],_⟩) (Weak.mk [false,true,true,true,true,true,true,true] T O) ⟨⟨O,by rw [zOf hi];exact c2⟩,(by dsimp only;rw [zOf hi];rfl)⟩
   ·try simp only [sx] at c2
    refine zJ ?_
    exact zEh (τ:=⟨[],_⟩) (Weak.mk [false,true,true,true,true,true,true,true] T O) ⟨(by dsimp only;rw [zOf hi];exact c2),O⟩
  ·intro hd
   refine Y O<|zI zPh qD O<|zL yV (J 2 O) O<|zX O (yG [3,3,3,3] O ok198 (ck_typeOf b svL svS svP n U S W e hn (zNt c1) (by omega)) ⟨zC,O,zC,O,T⟩ O)<|yD O<|qY O<|rStR 1 sz43 O<|rStR 0 sz36 O<|zA<|zY _ (Weak.mem [true,true,false,true,true,true,true] O)<|zG<|R (zP qX O (J 1 O) O) (wJ zJn O (J 0 O) O) ?_
   exact ⟨by rw [exprT_3 c1 hd];rfl,[_,_],O⟩
  ·rintro pre x suf hxs hx
   rcases hx with ⟨hc,hx⟩
   clear hc
   repeat (first|refine zRv ?_|refine zOz ?_)
   refine R (zP qX O (J 1 O) O) (wJ zJn O (J 0 O) O) ?_
   exact ⟨by rw [exprT_2 c1 (by rw [hxs,nodesN_pre hx];exact hx),hxs,nodesN_pre (suf:=suf) hx];rfl,[_,_,_],O⟩
  ·rintro i pre x suf hxs hx
   rcases hx with ⟨hc,hx⟩
   cases hc
theorem ck_store (b:Nat) (svL svS svP:Value) (n:Ns) (U S:List ByteArray) (W:List Int) (s:St) (hn:n.Ok) (hS:S.length<=1000000) (hs:s.wt<=900000000):
    Con cfg 154 [vP b,vSt s] (ckN b svL svS svP n U S W) fun r μ'=>r=vI (gV n.Bufs S s)/\μ'=ckN b svL svS svP n U S W:=by
 refine zR Tryz.func154 O Tryz.ntmps154 Tryz.results154 O ?_
 intro z hz
 obtain ⟨hE,hI,hIw,hB,hBw⟩:=St.parts hs
 have hrd:=rdE_wt s
 refine Y O<|zW O O (qB O O) ?_
 rintro _ _ ⟨b1,rfl,rfl⟩
 refine G O<|zA<|Y O<|G O<|zD O zCd<|zI one9 (J 0 O) O<|zD O zOl<|zI wA (J 0 O) O<|zX O (kY [none,none,none,none,none,none,none,none,none,none,some 2,none,some 13] O zLw pl167 O O)<|zX O (yG [1,1,1,1] O ok152 (zIb b svL svS svP n U S W (rdE s) hn hS (by omega)) ⟨zC,O,zC,O,T⟩ O)<|qW O<|yD O<|qY O<|zW O O (qS O zr43) ?_
 rintro _ _ ⟨b2,rfl,rfl⟩
 refine rStR 0 sz43 O<|G O<|zA<|zK<|Y O<|G O<|yQ O<|zA<|zE O (fun c1=>?_) (fun c1=>?_)
 ·try simp only [sx] at c1
  refine Y O<|G O<|G O<|zA<|zY _ (Weak.mem [false,false,true,true,true,true] O)<|zG<|zS O ?_
  exact ⟨by rw [storeE_1 c1],O⟩
 ·try simp only [sx] at c1
  have hT:=exprT_rd c1
  refine zJ<|zK<|zK<|kG 12 1 [⟨0,.q []⟩,⟨1,.q []⟩,⟨2,.q []⟩,⟨3,.q [3]⟩,⟨4,.q []⟩,⟨5,.q [2]⟩,⟨6,.q []⟩,⟨7,.q []⟩,⟨8,.q []⟩,⟨9,.q []⟩,⟨10,.e 0 []⟩,⟨11,.e 0 []⟩] mixed (by kernel_rfl) (by kernel_rfl) O O O<|zU O<|zU O<|zU O<|zU O<|zU O<|zU O<|zU O<|zU O<|zU O<|zU O<|zU O<|zU O<|zAz<|qA O (by decide) O O (zO O O)<|qA O (by decide) O O (qJ O O)<|qA O (by decide) O O (zF O zOo O)<|qA O (by decide) O O (zV O zBv O (J 0 O) O)<|qA O (by decide) O O (zF O zCd O)<|qA O (by decide) O O (zH O one9 O (J 0 O) O)<|qA O (by decide) O O (qE O ok194 (zBd n s.Name hn) ⟨zC,O,zC,O,T⟩)<|qA O (by decide) O O (kW O O)<|qA O (by decide) O O (wM O O O)<|qA O (by decide) O O (wO O O O)<|zIx O O (by decide) O O (qT [none,none,none,none,none,none,some 1,none] O zr46 O) ?_
  rintro _ _ ⟨b3,rfl,rfl⟩
  refine ⟨_,O,?_⟩
  refine zGq O O (by decide) O O (yL O sz46 O O O (zEg 0 O O)) ?_
  rintro _ _ ⟨rfl,rfl⟩
  refine ⟨_,O,?_⟩
  refine zAy O<|G O<|zA<|Y O<|zD O zIk<|zI one3 (J 0 O) O<|qQ O<|zA<|zE O (fun c2=>?_) (fun c2=>?_)
  ·try simp only [sx] at c2
   refine Y O<|G O<|zA<|zY _ (Weak.mem [false,false,false,true,true,true,true] O)<|zG<|zS O ?_
   exact ⟨by rw [storeE_u c1 (.inl c2)],O⟩
  ·try simp only [sx] at c2
   refine zJ<|zK<|Y O<|zD O zCs<|zI one3 (J 2 O) O<|qQ O<|G O<|rL0 O (fun g7_3=>zF O zOm O) O<|rL1 40 O (fun g7_3=>zH O one3 O (J 2 O) O) O<|rL1 41 O (fun g7_3=>wI O O O) O<|rL1 42 O (fun g7_3=>zO O O) O<|rLz [] O A T (fun g7_7=>zF O zOm O) O<|rLz [(44,_)] O A ⟨O,O,T⟩ (fun g7_7=>zH O one3 O (J 2 O) O) O<|rLz [(45,_)] O A ⟨O,O,T⟩ (fun g7_7=>kD O O O) O<|rL1 43 O (fun g7_3=>zAl O O O O (fun h=>kC (by assumption) (lzf h))) O<|yO O (fun h=>h)<|zA<|zE O (fun c3=>?_) (fun c3=>?_)
   ·try simp only [sx] at c3
    refine Y O<|G O<|zA<|zY _ (Weak.mem [false,false,false,true,true,true,true] O)<|zG<|zS O ?_
    exact ⟨by rw [storeE_u c1 (.inr c3)],O⟩
   ·try simp only [sx] at c3
    refine zJ<|Y O<|G O<|zD O zFq<|zL yV (J 2 O) O<|zX O (yG [3,3,3,3] O ok152 (zIb b svL svS svP n U S W s.E hn hS (by omega)) ⟨zC,O,zC,O,T⟩ O)<|qW O<|yD O<|qY O<|zW O O (qS O zr43) ?_
    rintro _ _ ⟨b4,rfl,rfl⟩
    refine rStR 0 sz43 O<|G O<|zA<|zK<|Y O<|G O<|yQ O<|zA<|zE O (fun c4=>?_) (fun c4=>?_)
    ·try simp only [sx] at c4
     refine Y O<|G O<|G O<|zA<|zY _ (Weak.mem [false,false,false,false,true,true,true,true] O)<|zG<|zS O ?_
     exact ⟨by rw [storeE_2 c1 (by omega) c4],O⟩
    ·try simp only [sx] at c4
     refine zJ<|zK<|Y O<|zD O zFq<|zL yV (J 3 O) O<|zZ O ok153 (wD s.E) ⟨zC,O,T⟩<|G O<|rL0 O (fun g12_3=>zV O qX O (J 0 O) O) O<|rL0 O (fun g12_3=>zV O qX O (J 2 O) O) O<|rLz [(63,_),(64,_)] O gv1 ⟨O,O,O,O,T⟩ (fun g12_3=>zAu O fl43 O O O) O<|r_or O (fun h=>(lzf h))<|zA<|zE O (fun c5=>?_) (fun c5=>?_)
     ·have h10:=st10_t c5
      rw [hT] at h10
      refine Y O<|G O<|zA<|zY _ (Weak.mem [false,false,false,false,true,true,true,true] O)<|zG<|zS O ?_
      exact ⟨by rw [storeE_10 c1 (by omega) c4 h10],O⟩
     ·have h10:=st10_f c5
      rw [hT] at h10
      refine zJ<|Y O<|G O<|zA<|zY _ (Weak.mem [false,false,false,false,true,true,true,true] O)<|zG<|zS O ?_
      exact ⟨by rw [storeE_0 c1 (by omega) c4 h10],O⟩
theorem ck_loop (b:Nat) (svL svS svP:Value) (n:Ns) (U S:List ByteArray) (W:List Int) (s:St) (hn:n.Ok) (hU:U.length<=1000000):
    Con cfg 151 [vP b,vSt s] (ckN b svL svS svP n U S W) fun r μ'=>r=vI (mV n.Bufs U s)/\μ'=ckN b svL svS svP n U S W:=by
 refine zR Tryz.func151 O Tryz.ntmps151 Tryz.results151 O ?_
 intro z hz
 refine Y O<|zW O O (qB O O) ?_
 rintro _ _ ⟨b1,rfl,rfl⟩
 refine G O<|zA<|zK<|Y O<|zD O zCd<|zI one9 (J 0 O) O<|zZ O ok113 (zFw _) ⟨zC,O,T⟩<|yT O<|zA<|zE O (fun c1=>?_) (fun c1=>?_)
 ·try simp only [sx] at c1
  refine Y O<|G O<|zA<|zY _ (Weak.mem [false,true,true,true,true] O)<|zG<|zS O ?_
  exact ⟨by rw [loopE_7 c1],O⟩
 ·try simp only [sx] at c1
  refine zJ<|zK<|zK<|kG 12 1 [⟨0,.q []⟩,⟨1,.q []⟩,⟨2,.q []⟩,⟨3,.q [2]⟩,⟨4,.q []⟩,⟨5,.q [1]⟩,⟨6,.q []⟩,⟨7,.q []⟩,⟨8,.q []⟩,⟨9,.q []⟩,⟨10,.e 0 []⟩,⟨11,.e 0 []⟩] mixed (by kernel_rfl) (by kernel_rfl) O O O<|zU O<|zU O<|zU O<|zU O<|zU O<|zU O<|zU O<|zU O<|zU O<|zU O<|zU O<|zU O<|zAz<|qA O (by decide) O O (zO O O)<|qA O (by decide) O O (qJ O O)<|qA O (by decide) O O (zF O zOo O)<|qA O (by decide) O O (zV O zBv O (J 0 O) O)<|qA O (by decide) O O (zF O zCd O)<|qA O (by decide) O O (zH O one9 O (J 0 O) O)<|qA O (by decide) O O (qE O ok194 (zBd n s.Name hn) ⟨zC,O,zC,O,T⟩)<|qA O (by decide) O O (kW O O)<|qA O (by decide) O O (wM O O O)<|qA O (by decide) O O (wO O O O)<|zIx O O (by decide) O O (qT [none,none,none,none,none,none,some 1,none] O zr46 O) ?_
  rintro _ _ ⟨b2,rfl,rfl⟩
  refine ⟨_,O,?_⟩
  refine zGq O O (by decide) O O (yL O sz46 O O O (zEg 0 O O)) ?_
  rintro _ _ ⟨rfl,rfl⟩
  refine ⟨_,O,?_⟩
  refine zAy O<|G O<|zA<|zK<|qV 10 mixed (by kernel_rfl) O O<|zN O O (zO O O)<|zN O O (zO O O)<|qO [] O O O O gv1 T (fun g4_1=>zO O O) O<|qO [(23,_)] O O O O gv1 ⟨O,O,T⟩ (fun g4_1=>qJ O O) O<|qO [(24,_)] O O O O gv1 ⟨O,O,T⟩ (fun g4_1=>zF O fd139_1 O) O<|qO [(25,_)] O O O O gv1 ⟨O,O,T⟩ (fun g4_1=>zH O zMh O (J 2 O) O) O<|qO [] O O O O gv1 T (fun g4_1=>zF O zCd O) O<|qO [(27,_)] O O O O gv1 ⟨O,O,T⟩ (fun g4_1=>zH O one9 O (J 1 O) O) O<|qO [(26,_),(28,_)] O O O O gv1 ⟨O,O,O,O,T⟩ (fun g4_1=>zNe 3 O ok191 O (zCz U s.Name (by omega)) O ⟨.inl ⟨O,O⟩,.inr ⟨zC,O⟩,T⟩) O<|zN O O (zAl O O O O (fun h=>(lzf h)))<|yK<|zA<|zE O (fun c2=>?_) (fun c2=>?_)
  ·try simp only [sx] at c2
   refine Y O<|G O<|zA<|zY _ (Weak.mem [false,false,true,true,true,true] O)<|zG<|zS O ?_
   exact ⟨by rw [loopE_8 c1 c2],O⟩
  ·try simp only [sx] at c2
   have h8:¬(dZ n.Bufs s.Name=true∨dW U s.Name=true):=by rw [c2.1,c2.2];simp
   refine zJ<|zK<|Y O<|zD O zLr<|zI one3 (J 1 O) O<|yF O<|G O<|rL0 O (fun g6_3=>zF O zLr O) O<|rL1 35 O (fun g6_3=>zH O one3 O (J 1 O) O) O<|rL1 36 O (fun g6_3=>kD O O O) O<|r_or O (fun h=>(lzf h))<|G O<|rL0 O (fun g6_8=>zF O zOn O) O<|rL1 40 O (fun g6_8=>zH O one3 O (J 1 O) O) O<|rL1 41 O (fun g6_8=>wI O O O) O<|r_or O (fun h=>(lzf h))<|G O<|rL0 O (fun g6_13=>zF O zOn O) O<|rL1 45 O (fun g6_13=>zH O one3 O (J 1 O) O) O<|rL1 46 O (fun g6_13=>kD O O O) O<|r_or O (fun h=>(lzf h))<|zA<|zE O (fun c3=>?_) (fun c3=>?_)
   ·try simp only [sx] at c3
    refine Y O<|G O<|zA<|zY _ (Weak.mem [false,false,true,true,true,true] O)<|zG<|zS O ?_
    exact ⟨by rw [loopE_1 c1 h8 (by omega)],O⟩
   ·try simp only [sx] at c3
    refine zJ<|Y O<|G O<|zA<|zY _ (Weak.mem [false,false,true,true,true,true] O)<|zG<|zS O ?_
    exact ⟨by rw [loopE_0 c1 h8 (by omega)],O⟩
theorem zTc (e:Ex) (he:e.wt<=4294967296):
    Pur cfg 193 [vE e] (vB (rN e)):=by
 refine zR Tryz.func193 O Tryz.ntmps193 Tryz.results193 O ?_
 intro z hz
 refine Y O<|zW O O (qB O O) ?_
 rintro _ _ ⟨b1,rfl,rfl⟩
 refine G O<|zA<|Y O<|zL yV (J 0 O) O<|zX O (kY [none,none,none,none,none,none,none,none,none,none,some 2,some 4,some 13] O zLw pl167 O O)<|zZ O ok220 (expr_Same e zEx he (by decide)) ⟨zC,O,zC,O,T⟩<|G O<|zA<|zG<|zS O ?_
 exact O
theorem zTb (s:St) (hs:s.wt<=900000000):
    Pur cfg 150 [vSt s] (vB (fR s)):=by
 refine zR Tryz.func150 O Tryz.ntmps150 Tryz.results150 O ?_
 intro z hz
 obtain ⟨hE,hI,hIw,hB,hBw⟩:=St.parts hs
 refine Y O<|zW O O (qB O O) ?_
 rintro _ _ ⟨b1,rfl,rfl⟩
 refine G O<|zA<|zK<|qV 17 mixed (by kernel_rfl) O O<|zN O O (zF O zCs O)<|zN O O (zH O one3 O (J 0 O) O)<|zN O O (yM O O O)<|zN O O (zF O zCs O)<|zN O O (zH O one3 O (J 0 O) O)<|zN O O (yM O O O)<|zN O O (zO O O)<|qO [] O O O O gv1 T (fun g1_6=>zF O zCs O) O<|qO [(13,_)] O O O O gv1 ⟨O,O,T⟩ (fun g1_6=>zH O one3 O (J 0 O) O) O<|qO [(14,_)] O O O O gv1 ⟨O,O,T⟩ (fun g1_6=>yM O O O) O<|zN O O (zAl O O O O (fun h=>(lzf h)))<|zN O O (zF O zCs O)<|zN O O (zH O one3 O (J 0 O) O)<|zN O O (yM O O O)<|zN O O (yE O O)<|zN O O (yE O O)<|zN O O (yE O O)<|yK<|zA<|zK<|zT<|Y O<|G O<|yT O<|G O<|rL0 O (fun g2_2=>zO O O) O<|rL1 24 O (fun g2_2=>kA O O) O<|yO O (fun h=>h)<|G O<|rL0 O (fun g2_6=>zO O O) O<|rL1 28 O (fun g2_6=>kA O O) O<|yO O (fun h=>h)<|G O<|zA<|zE O (fun c1=>?_) (fun c1=>?_)
 ·refine Y O<|G O<|zA<|zG<|zS O ?_
  exact congrArg vB (syn_1 c1)
 ·refine Y O<|G O<|G O<|rL0 O (fun g4_1=>zF O zCd O) O<|rL1 34 O (fun g4_1=>zH O one9 O (J 0 O) O) O<|rL1 35 O (fun g4_1=>zEe O O O) O<|yO O (fun h=>h)<|G O<|zA<|zE O (fun c2=>?_) (fun c2=>?_)
  ·refine Y O<|G O<|zA<|zG<|zS O ?_
   exact congrArg vB (syn_2 c2)
  ·refine Y O<|G O<|yT O<|G O<|rL0 O (fun g6_2=>zF O zLr O) O<|rL1 42 O (fun g6_2=>zH O one3 O (J 0 O) O) O<|rL1 43 O (fun g6_2=>kT O O O) O<|rL1 44 O (fun g6_2=>zO O O) O<|rLz [] O A T (fun g6_6=>zF O zOn O) O<|rLz [(46,_)] O A ⟨O,O,T⟩ (fun g6_6=>zH O one3 O (J 0 O) O) O<|rLz [(47,_)] O A ⟨O,O,T⟩ (fun g6_6=>kT O O O) O<|rL1 45 O (fun g6_2=>zAl O O O O (fun h=>kC (by assumption) (lzf h))) O<|yO O (fun h=>h)<|G O<|zA<|zE O (fun c3=>?_) (fun c3=>?_)
   ·refine Y O<|G O<|zA<|zG<|zS O ?_
    exact congrArg vB (syn_3 c3)
   ·refine Y O<|zD O zCs<|zI one3 (J 0 O) O<|yQ O<|G O<|rL0 O (fun g8_3=>zF O zOm O) O<|rL1 56 O (fun g8_3=>zH O one3 O (J 0 O) O) O<|rL1 57 O (fun g8_3=>kT O O O) O<|yO O (fun h=>h)<|G O<|zA<|zE O (fun c4=>?_) (fun c4=>?_)
    ·refine Y O<|G O<|zA<|zG<|zS O ?_
     exact congrArg vB (syn_4 c4)
    ·refine Y O<|G O<|yT O<|G O<|rL0 O (fun g10_2=>zF O zOl O) O<|rL1 64 O (fun g10_2=>zH O wA O (J 0 O) O) O<|rL1 65 O (fun g10_2=>yH O wU O) O<|rL1 66 O (fun g10_2=>kD O O O) O<|yO O (fun h=>h)<|G O<|zA<|zE O (fun c5=>?_) (fun c5=>?_)
     ·refine Y O<|G O<|zA<|zG<|zS O ?_
      exact congrArg vB (syn_5 c5)
     ·refine Y O<|G O<|G O<|rL0 O (fun g12_1=>zF O zFq O) O<|rL1 72 O (fun g12_1=>zV O yV O (J 0 O) O) O<|rL1 73 O (fun g12_1=>qE O ok193 (zTc s.E (by omega)) ⟨zC,O,T⟩) O<|rL1 74 O (fun g12_1=>kA O O) O<|yO O (fun h=>h)<|G O<|zA<|zE O (fun c6=>?_) (fun c6=>?_)
      ·refine Y O<|G O<|zA<|zG<|zS O ?_
       exact congrArg vB (syn_6 c6)
      ·refine zJ<|Y O<|G O<|yT O<|G O<|rL0 O (fun g14_2=>zF O zEq O) O<|rL1 80 O (fun g14_2=>zH O zHr O (J 0 O) O) O<|rL1 81 O (fun g14_2=>yH O el23 O) O<|rL1 82 O (fun g14_2=>yM O O O) O<|r_or O (fun h=>(lzf h))<|G O<|zA<|zG<|zS O ?_
       exact congrArg vB (syn_7 c1 c2 c3 c4 c5 c6)
theorem ck_statement (b:Nat) (svL svS svP:Value) (n:Ns) (U S:List ByteArray) (W:List Int) (s:St) (hn:n.Ok) (hS:S.length<=1000000) (hU:U.length<=1000000) (hs:s.wt<=900000000):
    Con cfg 116 [vP b,vSt s] (ckN b svL svS svP n U S W) fun r μ'=>r=vI (stE n.Bufs U S s)/\μ'=ckN b svL svS svP n U S W:=by
 refine zR Tryz.func116 O Tryz.ntmps116 Tryz.results116 O ?_
 intro z hz
 obtain ⟨hE,hI,hIw,hB,hBw⟩:=St.parts hs
 refine Y O<|zW O O (qB O O) ?_
 rintro _ _ ⟨b1,rfl,rfl⟩
 refine G O<|zA<|zK<|Y O<|zL zPv (J 0 O) O<|zZ O ok150 (zTb s hs) ⟨zC,O,T⟩<|yT O<|zA<|zE O (fun c1=>?_) (fun c1=>?_)
 ·try simp only [sx] at c1
  refine Y O<|G O<|zA<|zY _ (Weak.mem [false,true,true,true,true] O)<|zG<|zS O ?_
  exact ⟨by rw [stE_5 c1],O⟩
 ·try simp only [sx] at c1
  refine zJ<|zK<|Y O<|zD O zCs<|zI one3 (J 0 O) O<|zA<|zT<|Y O<|qQ O<|G O<|zA<|zE O (fun c2=>?_) (fun c2=>?_)
  ·try simp only [sx] at c2
   refine Y O<|G O<|zL zPv (J 0 O) O<|zX O (yG [1,1,1,1] O ok151 (ck_loop b svL svS svP n U S W s hn hU) ⟨zC,O,zC,O,T⟩ O)<|G O<|zA<|zY _ (Weak.mem [false,true,true,true,true] O)<|zG<|zS O ?_
   exact ⟨by rw [stE_l c1 c2],O⟩
  ·try simp only [sx] at c2
   refine Y O<|qQ O<|G O<|zA<|zE O (fun c3=>?_) (fun c3=>?_)
   ·try simp only [sx] at c3
    refine zK<|Y O<|G O<|zD O zFq<|zL yV (J 0 O) O<|zX O (yG [1,1,1,1] O ok152 (zIb b svL svS svP n U S W s.E hn hS (by omega)) ⟨zC,O,zC,O,T⟩ O)<|qW O<|yD O<|qY O<|zW O O (qS O zr43) ?_
    rintro _ _ ⟨b2,rfl,rfl⟩
    refine rStR 0 sz43 O<|G O<|zA<|Y O<|G O<|yQ O<|zA<|zE O (fun c4=>?_) (fun c4=>?_)
    ·try simp only [sx] at c4
     refine Y O<|G O<|G O<|zA<|zY _ (Weak.mem [false,false,true,true,true,true] O)<|zG<|zS O ?_
     exact ⟨by rw [stE_i c1 c3,ifE_x c4],O⟩
    ·try simp only [sx] at c4
     refine zJ<|zK<|Y O<|zD O zFq<|zL yV (J 1 O) O<|zZ O ok153 (wD s.E) ⟨zC,O,T⟩<|yT O<|zA<|zE O (fun c5=>?_) (fun c5=>?_)
     ·try simp only [sx] at c5
      refine Y O<|G O<|zA<|zY _ (Weak.mem [false,false,true,true,true,true] O)<|zG<|zS O ?_
      exact ⟨by rw [stE_i c1 c3,ifE_10 c4 c5],O⟩
     ·try simp only [sx] at c5
      refine zJ<|Y O<|G O<|zA<|zY _ (Weak.mem [false,false,true,true,true,true] O)<|zG<|zS O ?_
      exact ⟨by rw [stE_i c1 c3,ifE_0 c4 c5],O⟩
   ·try simp only [sx] at c3
    refine zJ<|Y O<|G O<|zL zPv (J 0 O) O<|zX O (yG [1,1,1,1] O ok154 (ck_store b svL svS svP n U S W s hn hS hs) ⟨zC,O,zC,O,T⟩ O)<|G O<|zA<|zY _ (Weak.mem [false,true,true,true,true] O)<|zG<|zS O ?_
    exact ⟨by rw [stE_s c1 c2 c3],O⟩
set_option maxHeartbeats 2000000 in
theorem zGe (b:Nat) (svL svS svP:Value) (n:Ns) (U S:List ByteArray) (W:List Int) (l:List St) (hn:n.Ok) (hU:U.length+dL l<=1000000) (hS:S.length+dL l<=1000000) (hW:W.length+dL l<=1000000) (hl:bX l<=536870912) (ih:∀s,s∈l->∀(svL svS svP:Value) (U S:List ByteArray) (W:List Int),U.length+dL s.Body<=1000000->S.length+dL s.Body<=1000000->W.length+dL s.Body<=1000000->Con cfg 78 [vP b,gT s.Body] (ckN b svL svS svP n U S W) fun r μ'=>∃svL' svS' svP' U' S' W',r=vI (fF n.Bufs U S W 0 s.Body).E/\((fF n.Bufs U S W 0 s.Body).E=0->U'=(fF n.Bufs U S W 0 s.Body).U/\S'=S/\W'=W)/\(¬(fF n.Bufs U S W 0 s.Body).E=0->W'=(fF n.Bufs U S W 0 s.Body).W)/\μ'=ckN b svL' svS' svP' n U' S' W'):
    Con cfg 78 [vP b,gT l] (ckN b svL svS svP n U S W) fun r μ'=>∃svL' svS' svP' U' S' W',r=vI (fF n.Bufs U S W 0 l).E/\((fF n.Bufs U S W 0 l).E=0->U'=(fF n.Bufs U S W 0 l).U/\S'=S/\W'=W)/\(¬(fF n.Bufs U S W 0 l).E=0->W'=(fF n.Bufs U S W 0 l).W)/\μ'=ckN b svL' svS' svP' n U' S' W':=by
 refine zR Tryz.func78 O Tryz.ntmps78 Tryz.results78 O ?_
 intro z hz
 have hll:=zBy l
 have hlN:=zEu l
 refine Y O<|G O<|zA<|zK<|Y O<|G O<|qC O el23<|G O<|zA<|zT<|zY ⟨[(12,.c _),(0,.c _),(1,.c _),(11,.c _)],[_,_,_,_]⟩ (Weak.mk [true,true,true,true] ⟨zC,zC,zC,zC,T⟩ O)<|qG 1 4 O O (Nat×Value×Value×Value×List ByteArray) (fun ⟨k,vL,vS,vP_,u⟩=>[(12,vI k)]) (fun ⟨k,vL,vS,vP_,u⟩=>[E.row b 139 [.sl 8 (n.Bufs.map Bf.cells),.sl 20 (n.Body.map St.cells),.lit vL,.lit vS,.lit vP_],E.vec vL 9 1 (u.map fun s=>[cS s]),E.vec vS 9 1 (S.map fun s=>[cS s]),E.vec vP_ 3 1 (W.map fun i=>[cI i])]) (fun ⟨k,vL,vS,vP_,u⟩=>k<=l.length/\(u.length+dL (l.drop k)<=1000000)/\((fF n.Bufs U S W 0 l)=fF n.Bufs u S W k (l.drop k))) (fun ⟨k,vL,vS,vP_,u⟩=>l.length-k) ⟨⟨0,svL,svS,svP,U⟩,⟨by omega,by simpa using hU,O⟩,Weak.mk [true,true,true,true] ⟨zC,zC,zC,zC,T⟩ O⟩ ?_
 rintro ⟨k,vL,vS,vP_,u⟩ ⟨hk,hub,hp⟩
 show AWP _ _ _ _ _ ⟨[(12,vI k)]++_,[E.row b 139 [.sl 8 (n.Bufs.map Bf.cells),.sl 20 (n.Body.map St.cells),.lit vL,.lit vS,.lit vP_],E.vec vL 9 1 (u.map fun s=>[cS s]),E.vec vS 9 1 (S.map fun s=>[cS s]),E.vec vP_ 3 1 (W.map fun i=>[cI i])]++_⟩
 refine Y O<|yF O<|zA<|zK<|zE O (fun c1=>?_) (fun c1=>?_)
 ·try simp only [sx] at c1
  obtain ⟨s,hs⟩:=yC l k (by omega)
  have hsw:=zAn (qL hs)
  have hsb:=St.body_wt s
  have hsn:=stsN_drop hs
  have hse:=zPc s
  have hsm:=zQj (qL hs)
  have hcl:=chkS_len n.Bufs s u S (W++[(k:Int)])
  refine zJ<|zK<|zT<|Y O<|G O<|G O<|zA<|Y O<|G O<|G O<|qI O el23 (by omega) (zIt (by assumption))<|zL zPv qD O<|zW O O (qT [none,none,none,none,none,some 4,none,none,none,none,none,none,none,none,none,none,some 2,some 4,some 13,some 20] O zr169 O) ?_
  rintro _ _ ⟨b1,rfl,rfl⟩
  refine rStR 0 sz169 O<|zA<|Y O<|G O<|G O<|qP O<|zD O zHx<|zI zBt (J 1 O) O<|G O<|zX O (yS O v zr3 O O O O)<|zW O O (yX 4 O v O O O (by simp only [List.length_map,List.length_append,List.length_cons,List.length_nil];omega) (by simp only [List.length_map,List.length_append,List.length_cons,List.length_nil];omega)) ?_
  rintro _ _ ⟨sv2,rfl,rfl⟩
  refine qP O<|zD O zHx<|rStR 1 sz44 O<|zA<|zK<|zK<|zY _ (Weak.vecEq 4 O (rows':=(W++[(k:Int)]).map fun i=>[cI i]) (by first|rfl|simp|rw [List.take_of_length_le (by simp)]))<|zQ O<|G O<|zL zPv (J 0 O) O<|zX O (yG [1,1,1,1] O ok116 (ck_statement b vL vS _ n u S (W++[(k:Int)]) s hn (by omega) (by omega) (by omega)) ⟨zC,O,zC,O,T⟩ O)<|G O<|zA<|Y O<|G O<|yQ O<|zA<|zE O (fun c2=>?_) (fun c2=>?_)
  ·try simp only [sx] at c2
   have hx0:=chkS_no (here:=W++[(k:Int)]) (B:=n.Bufs) (U:=u) (sc:=S) (s:=s) c2
   refine Y O<|G O<|G O<|zA<|zY _ (Weak.mem [false,true,true,true,true] O)<|zG<|zS O ?_
   refine ⟨_,_,_,_,_,_,?_,fun h0=>?_,fun _=>?_,O⟩
   · rw [zEs hs hp (by rw [hx0];exact c2),hx0]
   · rw [zEs hs hp (by rw [hx0];exact c2),hx0] at h0;exact absurd h0 c2
   · rw [zEs hs hp (by rw [hx0];exact c2),hx0]
  ·try simp only [sx] at c2
   have hin:=chkS_in (here:=W++[(k:Int)]) (B:=n.Bufs) (U:=u) (sc:=S) (s:=s) c2
   refine zJ<|Y O<|G O<|qP O<|zD O zJv<|zI zMh (J 1 O) O<|zX O (kE 3 O zGn O O)<|G O<|zA<|zK<|Y O<|zD O zCs<|zI one3 (J 0 O) O<|qQ O<|zA<|zE O (fun c3=>?_) (fun c3=>?_)
   ·try simp only [sx] at c3
    rw [zMj c3,zMj c3] at hin
    refine zK<|kG 9 0 [⟨0,.q []⟩,⟨1,.q []⟩,⟨2,.q []⟩,⟨3,.q []⟩,⟨4,.q [1]⟩,⟨5,.q []⟩,⟨6,.q [0]⟩,⟨7,.q []⟩,⟨8,.e 2 []⟩] mixed (by kernel_rfl) (by kernel_rfl) O O O<|zU O<|zU O<|zU O<|zU O<|zU O<|zU O<|zU O<|zU O<|zU O<|zAz<|qA O (by decide) O O (zO O O)<|qA O (by decide) O O (zO O O)<|qA O (by decide) O O (qJ O O)<|qA O (by decide) O O (zF O fd139_1 O)<|qA O (by decide) O O (zH O zMh O (J 0 O) O)<|qA O (by decide) O O (zF O zCd O)<|qA O (by decide) O O (zH O one9 O (J 0 O) O)<|qA O (by decide) O O (yS O zGn zr9 O O O O)<|zIx O O (by decide) O O (yX 0 O zGn O O O (by simp only [List.length_map,List.length_append,List.length_cons,List.length_nil];omega) (by simp only [List.length_map,List.length_append,List.length_cons,List.length_nil];omega)) ?_
    rintro _ _ ⟨sv3,rfl,rfl⟩
    refine ⟨_,O,?_⟩
    refine zAy O<|qP O<|zD O fd139_1<|rStR 1 sz137 O<|zA<|zY _ (Weak.vecEq 2 O (rows':=(u++[s.Name]).map fun s=>[cS s]) (by first|rfl|simp|rw [List.take_of_length_le (by simp)]))<|kG 9 0 [⟨0,.q []⟩,⟨1,.q []⟩,⟨2,.q []⟩,⟨3,.q []⟩,⟨4,.q [1]⟩,⟨5,.q []⟩,⟨6,.q [0]⟩,⟨7,.q []⟩,⟨8,.e 3 []⟩] mixed (by kernel_rfl) (by kernel_rfl) O O O<|zU O<|zU O<|zU O<|zU O<|zU O<|zU O<|zU O<|zU O<|zU O<|zAz<|qA O (by decide) O O (zO O O)<|qA O (by decide) O O (zO O O)<|qA O (by decide) O O (qJ O O)<|qA O (by decide) O O (zF O zJv O)<|qA O (by decide) O O (zH O zMh O (J 0 O) O)<|qA O (by decide) O O (zF O zCd O)<|qA O (by decide) O O (zH O one9 O (J 0 O) O)<|qA O (by decide) O O (yS O zGn zr9 O O O O)<|zIx O O (by decide) O O (yX 0 O zGn O O O (by simp only [List.length_map,List.length_append,List.length_cons,List.length_nil];omega) (by simp only [List.length_map,List.length_append,List.length_cons,List.length_nil];omega)) ?_
    rintro _ _ ⟨sv4,rfl,rfl⟩
    refine ⟨_,O,?_⟩
    refine zAy O<|qP O<|zD O zJv<|rStR 1 sz137 O<|zA<|zK<|zK<|zY _ (Weak.vecEq 3 O (rows':=(S++[s.Name]).map fun s=>[cS s]) (by first|rfl|simp|rw [List.take_of_length_le (by simp)]))<|zY ⟨_,E.row _ _ _::ckN b _ _ _ n (u++[s.Name]) (S++[s.Name]) (W++[(k:Int)])⟩ (Weak.mem [true,true,true,true,true] O)<|zQ O<|G O<|zD O zEq<|zI zHr (J 0 O) O<|zW O O (zJm [1,1,1,1] O ok78 (ih s (qL hs) _ _ _ (u++[s.Name]) (S++[s.Name]) (W++[(k:Int)]) (by first|omega|(simp;omega)) (by first|omega|(simp;omega)) (by simp;omega)) ⟨zC,O,zC,O,T⟩ O) ?_
    rintro _ _ ⟨_,⟨svL1,svS1,svP1,U1,S1,W1,rfl,hok,hno,rfl⟩,rfl⟩
    refine G O<|zA<|Y O<|G O<|yQ O<|zA<|zE O (fun c4=>?_) (fun c4=>?_)
    ·exact v13
    ·try simp only [sx] at c4
     rw [←hin] at c4 hok
     obtain ⟨hU1,hS1,hW1⟩:=hok c4
     have hS2:=hS1.symm
     subst hU1 hS2 hW1
     refine zJ<|Y O<|G O<|G O<|qP O<|zD O zJv<|zI zMh (J 1 O) O<|G O<|zW O O (zHq (k:=S.length) 3 O zGn O O O (by simp) (by simp)) ?_
     rintro _ _ ⟨sv5,rfl,rfl⟩
     refine qP O<|zD O zJv<|rStR 1 sz137 O<|zA<|zY _ (Weak.vecEq 3 O (rows':=S.map fun s=>[cS s]) (by first|rfl|simp|rw [List.take_of_length_le (by simp)]))<|kG 12 0 [⟨0,.q []⟩,⟨1,.q []⟩,⟨2,.q []⟩,⟨3,.q []⟩,⟨4,.q [1]⟩,⟨5,.q []⟩,⟨6,.q []⟩,⟨7,.q []⟩,⟨8,.q [1]⟩,⟨9,.q [4]⟩,⟨10,.q []⟩,⟨11,.e 4 []⟩] mixed (by kernel_rfl) (by kernel_rfl) O O O<|zU O<|zU O<|zU O<|zU O<|zU O<|zU O<|zU O<|zU O<|zU O<|zU O<|zU O<|zU O<|zAz<|qA O (by decide) O O (zO O O)<|qA O (by decide) O O (zO O O)<|qA O (by decide) O O (qJ O O)<|qA O (by decide) O O (zF O zHx O)<|qA O (by decide) O O (zH O zBt O (J 0 O) O)<|qA O (by decide) O O (zO O O)<|qA O (by decide) O O (qJ O O)<|qA O (by decide) O O (zF O zHx O)<|qA O (by decide) O O (zH O zBt O (J 0 O) O)<|qA O (by decide) O O (kE 0 O v O O)<|qA O (by decide) O O (qZ O O O (by simp only [List.length_map,List.length_append,List.length_cons,List.length_nil];exact ⟨by omega,by omega⟩))<|zIx O O (by decide) O O (zHq (k:=W.length) 0 O v O O O (by simp only [List.length_map,List.length_append,List.length_cons,List.length_nil];omega) (by simp)) ?_
     rintro _ _ ⟨sv6,rfl,rfl⟩
     exact l9
   ·try simp only [sx] at c3
    rw [zQr c3,zQr c3] at hin
    refine zJ<|zK<|zK<|zY ⟨_,E.row _ _ _::ckN b _ _ _ n u S (W++[(k:Int)])⟩ (Weak.mem [true,true,true,true,true] O)<|zQ O<|G O<|zD O zEq<|zI zHr (J 0 O) O<|zW O O (zJm [1,1,1,1] O ok78 (ih s (qL hs) _ _ _ u S (W++[(k:Int)]) (by first|omega|(simp;omega)) (by first|omega|(simp;omega)) (by simp;omega)) ⟨zC,O,zC,O,T⟩ O) ?_
    rintro _ _ ⟨_,⟨svL1,svS1,svP1,U1,S1,W1,rfl,hok,hno,rfl⟩,rfl⟩
    refine G O<|zA<|Y O<|G O<|yQ O<|zA<|zE O (fun c4=>?_) (fun c4=>?_)
    ·exact v13
    ·try simp only [sx] at c4
     rw [←hin] at c4 hok
     obtain ⟨hU1,hS1,hW1⟩:=hok c4
     have hS2:=hS1.symm
     subst hU1 hS2 hW1
     refine zJ<|Y O<|G O<|G O<|qP O<|zD O zJv<|zI zMh (J 1 O) O<|G O<|zW O O (zHq (k:=S.length) 3 O zGn O O O (by simp) (by simp)) ?_
     rintro _ _ ⟨sv7,rfl,rfl⟩
     refine qP O<|zD O zJv<|rStR 1 sz137 O<|zA<|zY _ (Weak.vecEq 3 O (rows':=S.map fun s=>[cS s]) (by first|rfl|simp|rw [List.take_of_length_le (by simp)]))<|kG 12 0 [⟨0,.q []⟩,⟨1,.q []⟩,⟨2,.q []⟩,⟨3,.q []⟩,⟨4,.q [1]⟩,⟨5,.q []⟩,⟨6,.q []⟩,⟨7,.q []⟩,⟨8,.q [1]⟩,⟨9,.q [4]⟩,⟨10,.q []⟩,⟨11,.e 4 []⟩] mixed (by kernel_rfl) (by kernel_rfl) O O O<|zU O<|zU O<|zU O<|zU O<|zU O<|zU O<|zU O<|zU O<|zU O<|zU O<|zU O<|zU O<|zAz<|qA O (by decide) O O (zO O O)<|qA O (by decide) O O (zO O O)<|qA O (by decide) O O (qJ O O)<|qA O (by decide) O O (zF O zHx O)<|qA O (by decide) O O (zH O zBt O (J 0 O) O)<|qA O (by decide) O O (zO O O)<|qA O (by decide) O O (qJ O O)<|qA O (by decide) O O (zF O zHx O)<|qA O (by decide) O O (zH O zBt O (J 0 O) O)<|qA O (by decide) O O (kE 0 O v O O)<|qA O (by decide) O O (qZ O O O (by simp only [List.length_map,List.length_append,List.length_cons,List.length_nil];exact ⟨by omega,by omega⟩))<|zIx O O (by decide) O O (zHq (k:=W.length) 0 O v O O O (by simp only [List.length_map,List.length_append,List.length_cons,List.length_nil];omega) (by simp)) ?_
     rintro _ _ ⟨sv8,rfl,rfl⟩
     exact l9
 ·try simp only [sx] at c1
  refine qM<|Y O<|G O<|zA<|zG<|zS O ?_
  refine ⟨_,_,_,_,_,_,?_,fun _=>⟨?_,O,O⟩,fun h0=>?_,O⟩
  · rw [zRg hp (by omega)]
  · rw [zRg hp (by omega)]
  · rw [zRg hp (by omega)] at h0;exact absurd rfl h0
theorem zNk (b:Nat) (n:Ns) (hn:n.Ok) (s:St) (hl:bX s.Body<=536870912):∀(svL svS svP:Value) (U S:List ByteArray) (W:List Int),U.length+dL s.Body<=1000000->S.length+dL s.Body<=1000000->W.length+dL s.Body<=1000000->Con cfg 78 [vP b,gT s.Body] (ckN b svL svS svP n U S W) fun r μ'=>∃svL' svS' svP' U' S' W',r=vI (fF n.Bufs U S W 0 s.Body).E/\((fF n.Bufs U S W 0 s.Body).E=0->U'=(fF n.Bufs U S W 0 s.Body).U/\S'=S/\W'=W)/\(¬(fF n.Bufs U S W 0 s.Body).E=0->W'=(fF n.Bufs U S W 0 s.Body).W)/\μ'=ckN b svL' svS' svP' n U' S' W':=by
  induction s using St.ind with
  |_ s ih=>
    intro svL svS svP U S W hU hS hW
    refine zGe b svL svS svP n U S W s.Body hn hU hS hW hl fun a ha=>ih a ha ?_
    have:=zAn ha;have:=St.body_wt a;omega
theorem ck_statements (b:Nat) (svL svS svP:Value) (n:Ns) (U S:List ByteArray) (W:List Int) (l:List St) (hn:n.Ok) (hU:U.length+dL l<=1000000) (hS:S.length+dL l<=1000000) (hW:W.length+dL l<=1000000) (hl:bX l<=536870912):Con cfg 78 [vP b,gT l] (ckN b svL svS svP n U S W) fun r μ'=>∃svL' svS' svP' U' S' W',r=vI (fF n.Bufs U S W 0 l).E/\((fF n.Bufs U S W 0 l).E=0->U'=(fF n.Bufs U S W 0 l).U/\S'=S/\W'=W)/\(¬(fF n.Bufs U S W 0 l).E=0->W'=(fF n.Bufs U S W 0 l).W)/\μ'=ckN b svL' svS' svP' n U' S' W':=
  zGe b svL svS svP n U S W l hn hU hS hW hl fun s hs=>zNk b n hn s (by have:=zAn hs;have:=St.body_wt s;omega)
theorem zOg (n:Ns) (hn:n.Ok):
    Pur cfg 43 [vNs n] (.tup [vIs (fL n).1,vI (fL n).2]):=by
 refine zR Tryz.func43 O Tryz.ntmps43 Tryz.results43 O ?_
 intro z hz
 have hnb:=hn.body
 refine Y O<|zW O O (qB O O) ?_
 rintro _ _ ⟨b1,rfl,rfl⟩
 refine yN 1 O<|G O<|zA<|zK<|Y O<|zD O zTx<|zI zHr (J 0 O) O<|zZ O ok75 (zTa 40 n.Body 40 (by omega) (by omega) O) ⟨zC,O,zC,O,T⟩<|yT O<|zA<|zE O (fun c1=>?_) (fun c1=>?_)
 ·try simp only [sx] at c1
  refine Y O<|yN 1 O<|G O<|zA<|zG<|R (L O) (L O) ?_
  rw [validN_13 c1];rfl
 ·try simp only [sx] at c1
  refine zJ<|zK<|Y O<|zD O zTx<|zI zHr (J 0 O) O<|zZ O ok76 (zMm n.Body 2000 2000 (by omega) (by omega) O) ⟨zC,O,zC,O,T⟩<|zAf O<|G O<|rL0 O (fun g3_4=>zF O zAb O) O<|rL1 16 O (fun g3_4=>zH O zCl O (J 0 O) O) O<|rL1 17 O (fun g3_4=>yH O el22 O) O<|rL1 18 O (fun g3_4=>kD O O O) O<|r_or O (fun h=>(lzf h))<|zA<|zE O (fun c2=>?_) (fun c2=>?_)
  ·try simp only [sx] at c2
   refine Y O<|yN 1 O<|G O<|zA<|zG<|R (L O) (L O) ?_
   rw [validN_2 c1 (by omega)];rfl
  ·try simp only [sx] at c2
   have hnum:=numB_ok (l:=n.Body) (m:=2000) (by omega)
   refine zJ<|zK<|Y O<|zD O zAb<|zI zCl (J 0 O) O<|zZ O ok77 (zJr n.Bufs hn.bufs hn.dims) ⟨zC,O,T⟩<|G O<|zA<|Y O<|G O<|yQ O<|zA<|zE O (fun c3=>?_) (fun c3=>?_)
   ·try simp only [sx] at c3
    refine Y O<|G O<|yN 1 O<|G O<|zA<|zG<|R (L O) (L O) ?_
    rw [validN_b c1 (by omega) c3];rfl
   ·try simp only [sx] at c3
    refine zJ<|Y O<|zL zBv (J 0 O) O<|qR O zr139 pl139<|zW O O (qB O O) ?_
    rintro _ _ ⟨b2,rfl,rfl⟩
    refine yZ _ (wH 9 1)<|yZ _ (wH 9 1)<|yZ _ (wH 3 1)<|G O<|zA<|zK<|Y O<|G O<|zD O zTx<|zI zHr (J 4 O) O<|zW O O (zJm [3,2,1,0] O ok78 (ck_statements b2 _ _ _ n [] [] [] n.Body hn (by simp;omega) (by simp;omega) (by simp;omega) hnb) ⟨zC,O,zC,O,T⟩ O) ?_
    rintro _ _ ⟨_,⟨svL1,svS1,svP1,U1,S1,W1,rfl,hok,hno,rfl⟩,rfl⟩
    refine G O<|zA<|Y O<|G O<|yQ O<|zA<|zE O (fun c4=>?_) (fun c4=>?_)
    ·try simp only [sx] at c4
     have hW1:=hno c4
     subst hW1
     refine zY _ (kS 0 O (regs':=[]) (μ':=[_,_,_,_]) T ⟨EFle.refl _,EFle.refl _,EFle.row (ds:=[_,_,_,_,_]) ⟨.inl O,.inl O,.inl O,.inl O,.inr ⟨O,O⟩,T⟩,EFle.refl _,T⟩)<|Y O<|G O<|qP O<|zD O zHx<|zI zBt (J 2 O) O<|G O<|G O<|G O<|zA<|zG<|R (L O) (L O) ?_
     rw [validN_c c1 (by omega) c3]
    ·try simp only [sx] at c4
     refine zJ<|Y O<|yN 1 O<|G O<|zA<|zG<|R (L O) (L O) ?_
     rw [validN_c c1 (by omega) c3,chkL_ok c4,c4];rfl
end Go.W
end
section
set_option maxRecDepth 10000
namespace Go.W
open Go Go.Eng Go.Proofs Go.L41 Go.Br
attribute [local irreducible] AWP RWP TD fT
abbrev sB (l:List Bd):V:=.c (.sl 2 (l.map Bd.cells))
abbrev ckC (x:Ck):V:=.agg [.sl 1 (x.U.map fun s=>[cS s]),.sl 1 (x.W.map fun i=>[cI i]),cI x.E]
theorem bd_get {l:List Bd} {k:Nat} {x:Bd} (h:l[k]? =some x):(l.map Bd.cells)[k]? =some [cS x.Name,cI x.Val]:=by rw [D h];rfl
theorem agg152:lA Tryz.prog 152=some 3:=by kernel_rfl
theorem el185:dK Tryz.prog 185=some (188,2,24):=by kernel_rfl
theorem fd152_0:bE Tryz.prog 152 0=some (0,137):=by kernel_rfl
theorem fd152_1:bE Tryz.prog 152 1=some (1,44):=by kernel_rfl
theorem fd152_2:bE Tryz.prog 152 2=some (2,36):=by kernel_rfl
theorem fd188_0:bE Tryz.prog 188 0=some (0,9):=by kernel_rfl
theorem ok95:bA Tryz.prog 95=true:=by kernel_rfl
theorem ok96:bA Tryz.prog 96=true:=by kernel_rfl
theorem ok122:bA Tryz.prog 122=true:=by kernel_rfl
theorem ok157:bA Tryz.prog 157=true:=by kernel_rfl
theorem ok158:bA Tryz.prog 158=true:=by kernel_rfl
theorem ok159:bA Tryz.prog 159=true:=by kernel_rfl
theorem ok161:bA Tryz.prog 161=true:=by kernel_rfl
theorem ok200:bA Tryz.prog 200=true:=by kernel_rfl
theorem ok202:bA Tryz.prog 202=true:=by kernel_rfl
theorem ok203:bA Tryz.prog 203=true:=by kernel_rfl
theorem ok236:bA Tryz.prog 236=true:=by kernel_rfl
theorem ok237:bA Tryz.prog 237=true:=by kernel_rfl
theorem pl152:fG Tryz.prog 152=some [(0,1),(1,1),(2,1)]:=by kernel_rfl
theorem pl188:fG Tryz.prog 188=some [(0,1),(1,1)]:=by kernel_rfl
theorem sz152:(Tryz.prog.info? 152).map (·.size)=some 3:=by kernel_rfl
theorem zr152:dM Tryz.prog 152=some [(Value.slice none 0 0),(Value.slice none 0 0),(Value.int IntKind.i64 0)]:=by kernel_rfl
theorem zr188:dM Tryz.prog 188=some [(Value.string (ByteArray.mk #[])),(Value.int IntKind.i64 0)]:=by kernel_rfl
theorem zSn (l:List Lf) (bd:List Bd) (hl:l.length<=4294967296) (hx:∀x,x∈l->x.L.length<=4294967296) (hb:bd.length<=4294967296):
    Pur cfg 236 [rD l,sB bd] (vB (l.all (lH (bd.map Bd.Name)))):=by
 refine zR Tryz.func236 O Tryz.ntmps236 Tryz.results236 O ?_
 intro z hz
 have hl0:=hx
 clear hx
 refine Y O<|G O<|zA<|zK<|Y O<|G O<|zA<|zT<|zY ⟨[(5,.c _),(0,.c _),(1,.c _)],[]⟩ (Weak.mk [] ⟨zC,zC,zC,T⟩ O)<|qG 1 0 O O (Nat) (fun k=>[(5,vI k)]) (fun k=>[]) (fun k=>k<=l.length/\((l.take k).all (lH (bd.map Bd.Name))=true)) (fun k=>l.length-k) ⟨0,⟨by omega,O⟩,Weak.mk [] ⟨zC,zC,zC,T⟩ O⟩ ?_
 rintro k ⟨hk,hp⟩
 refine zK<|Y O<|G O<|G O<|qC O zCf<|yF O<|zA<|zE O (fun c1=>?_) (fun c1=>?_)
 ·try simp only [sx] at c1
  obtain ⟨x,hx⟩:=yC l k (by omega)
  have hxl:=hl0 x (qL hx)
  refine zJ<|zK<|zT<|Y O<|G O<|zA<|zT<|zY ⟨[(6,.c _),(0,.c _),(1,.c _),(5,.c _)],[]⟩ (Weak.mk [] ⟨zC,zC,zC,zC,T⟩ O)<|qG 1 0 O O (Nat) (fun j=>[(6,vI j)]) (fun j=>[]) (fun j=>j<=x.L.length/\(x.L.take j).all (fun m=>dW (bd.map Bd.Name) m.Name)=true) (fun j=>x.L.length-j) ⟨0,⟨by omega,O⟩,Weak.mk [] ⟨zC,zC,zC,zC,T⟩ O⟩ ?_
  rintro j ⟨hj,hq⟩
  refine zK<|Y O<|G O<|G O<|G O<|qI O zCf (by omega) (D hx)<|yB O zAp<|zI zCa qD O<|qC O zDs<|yF O<|zA<|zE O (fun c2=>?_) (fun c2=>?_)
  ·try simp only [sx] at c2
   obtain ⟨m,hm⟩:=yC x.L j (by omega)
   refine zJ<|zK<|zT<|Y O<|G O<|zA<|zK<|Y O<|G O<|zA<|zT<|zY ⟨[(8,.c _),(7,.c _),(0,.c _),(1,.c _),(5,.c _),(6,.c _)],[]⟩ (Weak.mk [] ⟨zC,zC,zC,zC,zC,zC,T⟩ O)<|qG 2 0 O O (Nat) (fun i=>[(8,vI i),(7,vB ((bd.take i).any fun d=>decide (d.Name=m.Name)))]) (fun i=>[]) (fun i=>i<=bd.length) (fun i=>bd.length-i) ⟨0,(by omega),Weak.mk [] ⟨zC,VLe.of_eq (O),zC,zC,zC,zC,T⟩ O⟩ ?_
   rintro i hi
   refine zK<|Y O<|G O<|G O<|qC O el185<|yF O<|zA<|zE O (fun c3=>?_) (fun c3=>?_)
   ·try simp only [sx] at c3
    obtain ⟨d,hd⟩:=yC bd i (by omega)
    refine zJ<|zK<|zT<|qV 19 mixed (by kernel_rfl) O O<|zN O O (zO O O)<|zN O O (zO O O)<|qO [] O O O O gv1 T (fun g11_1=>zO O O) O<|qO [] O O O O gv1 T (fun g11_1=>zO O O) O<|qO [(33,_),(34,_)] O O O O gv1 ⟨O,O,O,O,T⟩ (fun g11_1=>qH O el185 O O (by omega) (bd_get hd)) O<|qO [(35,_)] O O O O gv1 ⟨O,O,T⟩ (fun g11_1=>qU O fd188_0 O) O<|qO [(36,_)] O O O O gv1 ⟨O,O,T⟩ (fun g11_1=>zH O one9 O qD O) O<|qO [] O O O O gv1 T (fun g11_1=>zO O O) O<|qO [] O O O O gv1 T (fun g11_1=>zO O O) O<|qO [(38,_),(39,_)] O O O O gv1 ⟨O,O,O,O,T⟩ (fun g11_1=>qH O zCf O O (by omega) (D hx)) O<|qO [(40,_)] O O O O gv1 ⟨O,O,T⟩ (fun g11_1=>qU O zAp O) O<|qO [(41,_)] O O O O gv1 ⟨O,O,T⟩ (fun g11_1=>zH O zCa O qD O) O<|qO [] O O O O gv1 T (fun g11_1=>zO O O) O<|qO [(42,_),(43,_)] O O O O gv1 ⟨O,O,O,O,T⟩ (fun g11_1=>qH O zDs O O (by omega) (D hm)) O<|qO [(44,_)] O O O O gv1 ⟨O,O,T⟩ (fun g11_1=>qU O zEo O) O<|qO [(45,_)] O O O O gv1 ⟨O,O,T⟩ (fun g11_1=>zH O one9 O qD O) O<|qO [(37,_),(46,_)] O O O O gv1 ⟨O,O,O,O,T⟩ (fun g11_1=>kF O O O) O<|zN O O (zAl O O O O (fun h=>(lzf h)))<|zN O O (yE O O)<|yK<|zA<|zQ O<|G O<|qF O ⟨by omega,by omega⟩<|G O<|zA ?_
    refine ⟨i+1,(by omega),(by omega),Weak.mk [] ⟨zC,VLe.of_eq (congrArg vB (any_step hd)),zC,zC,zC,zC,T⟩ O⟩
   ·try simp only [sx] at c3
    rw [yP (l:=bd) (k:=i) (by omega),any_hasB]
    refine qM<|Y O<|G O<|yT O<|zA<|zE O (fun c4=>?_) (fun c4=>?_)
    ·try simp only [sx] at c4
     have hno:=bound_no hx hm c4
     refine Y O<|G O<|zA<|zG<|zS O ?_
     rw [hno]
    ·try simp only [sx] at c4
     refine zJ<|zQ O<|G O<|qF O ⟨by omega,by omega⟩<|G O<|zA ?_
     refine ⟨j+1,⟨by omega,zCg hm hq c4⟩,(by omega),Weak.mk [] ⟨zC,zC,zC,zC,T⟩ O⟩
  ·try simp only [sx] at c2
   rw [yP (l:=x.L) (k:=j) (by omega)] at hq
   refine qM<|zQ O<|G O<|qF O ⟨by omega,by omega⟩<|G O<|zA ?_
   refine ⟨k+1,⟨by omega,zCg hx hp (show lH _ x=true from hq)⟩,(by omega),Weak.mk [] ⟨zC,zC,zC,T⟩ O⟩
 ·try simp only [sx] at c1
  refine qM<|Y O<|G O<|zA<|zG<|zS O ?_
  rw [yP (by omega)] at hp;rw [hp]
theorem ref30_lins (l:List Ix) (hl:l.length<=4294967296) (hw:gB l<=4294967296):
    OwnR cfg 237 [mP l] 164 2 ((l.flatMap ixF).map Lf.cells):=by
 refine zR Tryz.func237 O Tryz.ntmps237 Tryz.results237 O ?_
 intro z hz
 refine Y O<|G O<|zA<|Y O<|G O<|yZ _ (wH 164 2)<|zA<|zK<|Y O<|G O<|zA<|zT<|zY ⟨[(4,.c _),(3,.c _),(0,.c _)],[_]⟩ (Weak.mk [true] ⟨zC,zC,zC,T⟩ O)<|qG 2 1 O O (Nat×Value) (fun ⟨k,sv⟩=>[(4,vI k),(3,.c (.lit sv))]) (fun ⟨k,sv⟩=>[E.vec sv 164 2 (((l.take k).flatMap ixF).map Lf.cells)]) (fun ⟨k,sv⟩=>k<=l.length) (fun ⟨k,sv⟩=>l.length-k) ⟨⟨0,(.slice none 0 0)⟩,(by omega),Weak.mk [true] ⟨zC,zC,zC,T⟩ O⟩ ?_
 rintro ⟨k,sv⟩ hk
 show AWP _ _ _ _ _ ⟨[(4,vI k),(3,.c (.lit sv))]++_,[E.vec sv 164 2 (((l.take k).flatMap ixF).map Lf.cells)]++_⟩
 refine zK<|Y O<|G O<|G O<|qC O wU<|yF O<|zA<|zE O (fun c1=>?_) (fun c1=>?_)
 ·try simp only [sx] at c1
  obtain ⟨x,hx⟩:=yC l k (by omega)
  have hfl:=ixs_len l k
  have hxw:=zJs (qL hx)
  unfold Ix.wt at hxw
  refine zJ<|zK<|zT<|Y O<|G O<|G O<|G O<|qI O wU (by omega) (D (by assumption))<|yB O zEp<|zL zAq qD O<|zX O (yS O zCf zr164 O O O O)<|zW O O (yX 0 O zCf O O O (by simp only [List.length_map,List.length_append,List.length_cons,List.length_nil];omega) (by simp only [List.length_map,List.length_append,List.length_cons,List.length_nil];omega)) ?_
  rintro _ _ ⟨sv2,rfl,rfl⟩
  refine G O<|zA<|zQ O<|G O<|G O<|G O<|qI O wU (by omega) (D (by assumption))<|yB O zBu<|zI zDv qD O<|zW O O (yX 0 O zCf O O O (by simp only [List.length_map,List.length_append,List.length_cons,List.length_nil];omega) (by simp only [List.length_map,List.length_append,List.length_cons,List.length_nil];omega)) ?_
  rintro _ _ ⟨sv3,rfl,rfl⟩
  refine G O<|zA<|zQ O<|G O<|qF O ⟨by omega,by omega⟩<|G O<|zA ?_
  refine ⟨⟨k+1,sv3⟩,(by omega),(by show l.length-(k+1)<l.length-k;omega),Weak.mk [true] ⟨zC,zC,zC,T⟩ (by exact zBg (by rw [kK hx,List.flatMap_append,List.map_append];simp [ixF];rfl))⟩
 ·try simp only [sx] at c1
  refine qM<|Y O<|G O<|G O<|zA<|zG<|zS O ?_
  exact ⟨_,O,by rw [yP (by omega)];rfl⟩
theorem ref30_node (n:Ns) (bd:List Bd) (e:Ex) (hn:n.Ok) (hb:bd.length<=1000000) (he:e.wt<=1073741824):
    Pur cfg 202 [vNs n,sB bd,vE e] (vI (jA n.Bufs (bd.map Bd.Name) e)):=by
 refine zR Tryz.func202 O Tryz.ntmps202 Tryz.results202 O ?_
 intro z hz
 obtain ⟨hL,hI,hA⟩:=e.parts he
 have hwt:=Ex.wt_eq e
 refine Y O<|zW O O (qB O O) ?_
 rintro _ _ ⟨b1,rfl,rfl⟩
 refine zW O O (qB O O) ?_
 rintro _ _ ⟨b2,rfl,rfl⟩
 refine G O<|zA<|zK<|Y O<|zD O zEr<|zL zAq (J 0 O) O<|zX O (yS O zCf zr164 O O O O)<|G O<|zZ O ok236 (zSn [e.Lin] bd (by simp) (by simp;omega) (by omega)) ⟨zC,O,zC,O,T⟩<|yT O<|G O<|rL0 O (fun g1_6=>zF O kQ O) O<|rL1 19 O (fun g1_6=>zH O wA O (J 0 O) O) O<|rL1 20 O (fun g1_6=>qE O ok237 (OwnR.pur (ref30_lins e.Idx (by omega) (by omega))) ⟨zC,O,T⟩) O<|rL0 O (fun g1_6=>zO O O) O<|rLz [(21,_),(22,_)] O gv1 ⟨O,O,O,O,T⟩ (fun g1_6=>qE O ok236 (zSn (e.Idx.flatMap ixF) bd (by have:=ixs_len e.Idx e.Idx.length;rw [List.take_length] at this;omega) (fun x hx=>by have:=forms_wt he (show x∈gY e by unfold gY;exact List.mem_cons_of_mem _ hx);omega) (by omega)) ⟨zC,O,zC,O,T⟩) O<|rL1 23 O (fun g1_6=>kA O O) O<|r_or O (fun h=>(lzf h))<|zA<|zE O (fun c1=>?_) (fun c1=>?_)
 ·have h9:=node_sc_f c1
  refine Y O<|G O<|zA<|zG<|zS O ?_
  rw [nodeN_9 h9]
 ·have h9:=node_sc_t c1
  refine zJ<|zK<|Y O<|zD O kR<|zI one3 (J 0 O) O<|yQ O<|zA<|zE O (fun c2=>?_) (fun c2=>?_)
  ·try simp only [sx] at c2
   refine Y O<|G O<|zA<|zG<|zS O ?_
   rw [nodeN_o h9 c2]
  ·try simp only [sx] at c2
   refine zJ<|Y O<|zL zBv (J 1 O) O<|zD O zDp<|zI one9 (J 0 O) O<|zZ O ok158 (zDe n e.Name hn) ⟨zC,O,zC,O,T⟩<|qW O<|yD O<|qY O<|zW O O (qT [none,none,none,none,none,none,some 1,none] O zr46 O) ?_
   rintro _ _ ⟨b3,rfl,rfl⟩
   refine rStR 0 sz46 O<|G O<|zA<|zK<|Y O<|G O<|yT O<|zA<|zE O (fun c3=>?_) (fun c3=>?_)
   ·try simp only [sx] at c3
    refine Y O<|G O<|zA<|zG<|zS O ?_
    rw [nodeN_n h9 (by omega) c3]
   ·try simp only [sx] at c3
    refine zJ<|zK<|Y O<|zD O zCu<|zI zBt (J 0 O) O<|qC O v<|zD O kQ<|zI wA (J 1 O) O<|qC O wU<|yQ O<|zA<|zE O (fun c4=>?_) (fun c4=>?_)
    ·try simp only [sx] at c4
     refine Y O<|G O<|zA<|zG<|zS O ?_
     rw [nodeN_r h9 (by omega) c3 (by omega)]
    ·try simp only [sx] at c4
     refine zJ<|zK<|Y O<|G O<|zA<|zT<|zY ⟨[(9,.c _),(3,.c _),(5,.c _)],[_,_]⟩ (Weak.mk [false,true,true] ⟨zC,zC,zC,T⟩ O)<|qG 1 0 O O (Nat) (fun j=>[(9,vI j)]) (fun j=>[]) (fun j=>j<=e.Idx.length/\(mJ n.Bufs e.Idx=mJ n.Bufs (e.Idx.drop j))) (fun j=>e.Idx.length-j) ⟨0,⟨by omega,O⟩,Weak.mk [true,true] ⟨zC,zC,zC,T⟩ O⟩ ?_
     rintro j ⟨hk,hq⟩
     refine zK<|Y O<|G O<|zD O kQ<|zI wA (J 0 O) O<|qC O wU<|yF O<|zA<|zE O (fun c5=>?_) (fun c5=>?_)
     ·try simp only [sx] at c5
      obtain ⟨y,hy⟩:=yC e.Idx j (by omega)
      refine zJ<|zK<|zT<|zK<|Y O<|zD O kQ<|zI wA (J 0 O) O<|G O<|qI O wU (by omega) (D (by assumption))<|yB O zDb<|zI one9 qD O<|zX O (kF O O O)<|zA<|zE O (fun c6=>?_) (fun c6=>?_)
      ·try simp only [sx] at c6
       refine qM<|zQ O<|G O<|qF O ⟨by omega,by omega⟩<|G O<|zA ?_
       refine ⟨j+1,⟨by omega,hq.trans (zKk hy (by first|exact gathE_0 c6|exact zQw c6 c7 (by omega) (by omega)))⟩,(by omega),Weak.mk [true,true] ⟨zC,zC,zC,T⟩ O⟩
      ·try simp only [sx] at c6
       refine zJ<|zK<|kG 13 1 [⟨0,.q [2]⟩,⟨1,.q []⟩,⟨2,.q [1]⟩,⟨3,.q []⟩,⟨4,.q []⟩,⟨5,.q []⟩,⟨6,.q []⟩,⟨7,.q []⟩,⟨8,.q []⟩,⟨9,.q []⟩,⟨10,.q []⟩,⟨11,.e 0 []⟩,⟨12,.e 0 []⟩] mixed (by kernel_rfl) (by kernel_rfl) O O O<|zU O<|zU O<|zU O<|zU O<|zU O<|zU O<|zU O<|zU O<|zU O<|zU O<|zU O<|zU O<|zU O<|zAz<|qA O (by decide) O O (zV O zBv O (J 0 O) O)<|qA O (by decide) O O (zF O kQ O)<|qA O (by decide) O O (zH O wA O (J 0 O) O)<|qA O (by decide) O O (zO O O)<|qA O (by decide) O O (qH O wU O O (by omega) (D (by assumption)))<|qA O (by decide) O O (qU O zDb O)<|qA O (by decide) O O (zH O one9 O qD O)<|qA O (by decide) O O (qE O ok158 (zDe n y.From hn) ⟨zC,O,zC,O,T⟩)<|qA O (by decide) O O (kW O O)<|qA O (by decide) O O (wM O O O)<|qA O (by decide) O O (wO O O O)<|zIx O O (by decide) O O (qT [none,none,none,none,none,none,some 1,none] O zr46 O) ?_
       rintro _ _ ⟨b4,rfl,rfl⟩
       refine ⟨_,O,?_⟩
       refine zGq O O (by decide) O O (yL O sz46 O O O (zEg 0 O O)) ?_
       rintro _ _ ⟨rfl,rfl⟩
       refine ⟨_,O,?_⟩
       refine zAy O<|G O<|zA<|zT<|Y O<|G O<|yT O<|G O<|zA<|zE O (fun c7=>?_) (fun c7=>?_)
       ·try simp only [sx] at c7
        refine Y O<|G O<|zA<|zG<|zS O ?_
        rw [zJp h9 (by omega) c3 (by omega),hq,zKj hy (by rw [gathE_9 c6 c7];decide),gathE_9 c6 c7]
       ·try simp only [sx] at c7
        refine Y O<|zD O zDn<|zD O zBx<|zI one3 (J 0 O) O<|yQ O<|G O<|zA<|zE O (fun c8=>?_) (fun c8=>?_)
        ·try simp only [sx] at c8
         refine Y O<|G O<|zA<|zG<|zS O ?_
         rw [zJp h9 (by omega) c3 (by omega),hq,zKj hy (by rw [zQy c6 c7 c8];decide),zQy c6 c7 c8]
        ·try simp only [sx] at c8
         refine zK<|qV 12 mixed (by kernel_rfl) O O<|zN O O (zF O zCu O)<|zN O O (zH O zBt O (J 0 O) O)<|zN O O (yH O v O)<|zN O O (zF O kQ O)<|zN O O (zH O wA O (J 1 O) O)<|zN O O (zO O O)<|zN O O (qH O wU O O (by omega) (D (by assumption)))<|zN O O (qU O zBu O)<|zN O O (zH O zDv O qD O)<|zN O O (yH O zCf O)<|zN O O (kT O O O)<|zN O O (yE O O)<|yK<|zA<|zE O (fun c9=>?_) (fun c9=>?_)
         ·try simp only [sx] at c9
          refine Y O<|G O<|zA<|zG<|zS O ?_
          rw [zJp h9 (by omega) c3 (by omega),hq,zKj hy (by rw [zQx c6 c7 c8 (by omega)];decide),zQx c6 c7 c8 (by omega)]
         ·try simp only [sx] at c9
          refine zJ<|zQ O<|G O<|qF O ⟨by omega,by omega⟩<|G O<|zA ?_
          refine ⟨j+1,⟨by omega,hq.trans (zKk hy (by first|exact gathE_0 c6|exact zQw c6 c7 (by omega) (by omega)))⟩,(by omega),Weak.mk [false,true,true] ⟨zC,zC,zC,T⟩ O⟩
     ·try simp only [sx] at c5
      refine qM<|Y O<|G O<|zA<|zG<|zS O ?_
      rw [zJp h9 (by omega) c3 (by omega),hq,wE (by omega)];rfl
theorem zSp (n:Ns) (hn:n.Ok) (e:Ex) (ih:∀a,a∈e.Args->fK a=0->a.wt<=1073741824->Pur cfg 203 [vNs n,vE a] (.tup [vTy (dO (kiN n.Bufs) a).1,vI (dO (kiN n.Bufs) a).2])) (hpart:fK e=0) (he:e.wt<=1073741824):
    Pur cfg 203 [vNs n,vE e] (.tup [vTy (dO (kiN n.Bufs) e).1,vI (dO (kiN n.Bufs) e).2]):=by
 refine zR Tryz.func203 O Tryz.ntmps203 Tryz.results203 O ?_
 intro z hz
 obtain ⟨hLl,hIl,hAl⟩:=e.parts he
 have hwt:=Ex.wt_eq e
 refine Y O<|zW O O (qB O O) ?_
 rintro _ _ ⟨b1,rfl,rfl⟩
 refine zW O O (qB O O) ?_
 rintro _ _ ⟨b2,rfl,rfl⟩
 refine zW O O (qS O zr43) ?_
 rintro _ _ ⟨b3,rfl,rfl⟩
 refine G O<|zA<|Y O<|G O<|yZ _ (wH 43 5)<|zA<|zK<|Y O<|G O<|zA<|zT<|zY ⟨[(7,.c _),(6,.c _),(2,.c _),(3,.c _),(4,.c _)],[_,_,_,_]⟩ (Weak.mk [true,true,true,true] ⟨zC,zC,zC,zC,zC,T⟩ O)<|qG 2 1 O O (Nat×Value) (fun ⟨k,sv⟩=>[(7,vI k),(6,.c (.lit sv))]) (fun ⟨k,sv⟩=>[E.vec sv 43 5 ((gC (e.Args.take k) (bM (kiN n.Bufs) (e.Args.take k)).1).map tyC)]) (fun ⟨k,sv⟩=>k<=e.Args.length/\((bM (kiN n.Bufs) (e.Args.take k)).2=0)) (fun ⟨k,sv⟩=>e.Args.length-k) ⟨⟨0,(.slice none 0 0)⟩,⟨by omega,O⟩,Weak.mk [true,true,true,true] ⟨zC,zC,zC,zC,zC,T⟩ O⟩ ?_
 rintro ⟨k,sv⟩ ⟨hk,hp⟩
 show AWP _ _ _ _ _ ⟨[(7,vI k),(6,.c (.lit sv))]++_,[E.vec sv 43 5 ((gC (e.Args.take k) (bM (kiN n.Bufs) (e.Args.take k)).1).map tyC)]++_⟩
 refine zK<|Y O<|G O<|zD O zAd<|zI zBl (J 2 O) O<|qC O zBa<|yF O<|zA<|zE O (fun c1=>?_) (fun c1=>?_)
 ·try simp only [sx] at c1
  obtain ⟨x,hx⟩:=yC e.Args k (by omega)
  have hll:=zGw _ _ hp
  have hcl:=nonC_len (e.Args.take k) (bM (kiN n.Bufs) (e.Args.take k)).1
  have htk:=List.length_take_le' k e.Args
  refine zJ<|zK<|zT<|zK<|kG 12 1 [⟨0,.q [4]⟩,⟨1,.q []⟩,⟨2,.q [3]⟩,⟨3,.q []⟩,⟨4,.q []⟩,⟨5,.q []⟩,⟨6,.q []⟩,⟨7,.q []⟩,⟨8,.q []⟩,⟨9,.q []⟩,⟨10,.e 0 []⟩,⟨11,.e 0 []⟩] mixed (by kernel_rfl) (by kernel_rfl) O O O<|zU O<|zU O<|zU O<|zU O<|zU O<|zU O<|zU O<|zU O<|zU O<|zU O<|zU O<|zU O<|zAz<|qA O (by decide) O O (zV O zBv O (J 0 O) O)<|qA O (by decide) O O (zF O zAd O)<|qA O (by decide) O O (zH O zBl O (J 0 O) O)<|qA O (by decide) O O (zO O O)<|qA O (by decide) O O (qH O zBa O O (by omega) (zJt (by assumption)))<|qA O (by decide) O O (zV O yV O qD O)<|qA O (by decide) O O (qE O ok203 (ih x (qL hx) (zSs hpart (qL hx)) (by have:=Ex.arg_wt (qL hx);omega)) ⟨zC,O,zC,O,T⟩)<|qA O (by decide) O O (kW O O)<|qA O (by decide) O O (wM O O O)<|qA O (by decide) O O (wO O O O)<|zIx O O (by decide) O O (qS O zr43) ?_
  rintro _ _ ⟨b5,rfl,rfl⟩
  refine ⟨_,O,?_⟩
  refine zGq O O (by decide) O O (yL O sz43 O O O (zEg 0 O O)) ?_
  rintro _ _ ⟨rfl,rfl⟩
  refine ⟨_,O,?_⟩
  refine zAy O<|G O<|zA<|zK<|Y O<|G O<|yQ O<|zA<|zE O (fun c2=>?_) (fun c2=>?_)
  ·try simp only [sx] at c2
   refine Y O<|qR O zr43 pl43<|G O<|rStR 2 sz43 O<|G O<|zA<|zG<|R (zP qX O (J 2 O) O) (L O) ?_
   rw [nodeT_no hx hp c2];rfl
  ·try simp only [sx] at c2
   refine zJ<|Y O<|zD O zAd<|zI zBl (J 3 O) O<|G O<|qI O zBa (by omega) (zJt (by assumption))<|zL yV qD O<|zZ O ok160 (kV x) ⟨zC,O,T⟩<|yT O<|zA<|zE O (fun c3=>?_) (fun c3=>?_)
   ·try simp only [sx] at c3
    refine zQ O<|G O<|zL qX (J 0 O) O<|zX O (yS O el27 zr43 O O O O)<|zW O O (yX 1 O el27 O O O (by simp only [List.length_map,List.length_append,List.length_cons,List.length_nil,hll,List.length_take];omega) (by simp only [List.length_map,List.length_append,List.length_cons,List.length_nil,hll,List.length_take];omega)) ?_
    rintro _ _ ⟨sv6,rfl,rfl⟩
    refine G O<|zA<|zQ O<|G O<|qF O ⟨by omega,by omega⟩<|G O<|zA ?_
    exact j7
   ·try simp only [sx] at c3
    refine zJ<|zQ O<|G O<|qF O ⟨by omega,by omega⟩<|G O<|zA ?_
    exact j7
 ·try simp only [sx] at c1
  have hll:=zGw _ _ hp
  have hta:e.Args.take k=e.Args:=yP (by omega)
  have hT:dO (kiN n.Bufs) e=kiF n.Bufs e (gC (e.Args.take k) (bM (kiN n.Bufs) (e.Args.take k)).1):=by have h:=nodeT_ok (N:=kiN n.Bufs) hta hp;rw [h];show kiF n.Bufs e (gC e.Args _)=_;rw [hta]
  refine qM<|zK<|zK<|qV 12 mixed (by kernel_rfl) O O<|zN O O (zO O O)<|zN O O (kE 0 O el27 O O)<|zN O O (yM O O O)<|zN O O (zO O O)<|qO [] O O O O gv1 T (fun g10_3=>zO O O) O<|qO [(48,_)] O O O O gv1 ⟨O,O,T⟩ (fun g10_3=>yJ 0 O el27 O O O (by omega) (by simp only [Lz,cond_true,decide_eq_true_eq,List.length_map] at g10_3⊢;omega)) O<|qO [(49,_)] O O O O gv1 ⟨O,O,T⟩ (fun g10_3=>zV O qX O (zAc 0 O (zKe (by simp only [Lz,cond_true,decide_eq_true_eq,List.length_map] at g10_3⊢;omega))) O) O<|qO [] O O O O gv1 T (fun g10_3=>zO O O) O<|qO [(51,_)] O O O O gv1 ⟨O,O,T⟩ (fun g10_3=>yJ 0 O el27 O O O (by omega) (by simp only [Lz,cond_true,decide_eq_true_eq,List.length_map] at g10_3⊢;omega)) O<|qO [(52,_)] O O O O gv1 ⟨O,O,T⟩ (fun g10_3=>zV O qX O (zAc 0 O (zKe (by simp only [Lz,cond_true,decide_eq_true_eq,List.length_map] at g10_3⊢;omega))) O) O<|qO [(50,_),(53,_)] O O O O gv1 ⟨O,O,O,O,T⟩ (fun g10_3=>zAu O fl43 O O O) O<|zN O O (wF O O O (fun h=>h) O)<|yK<|zA<|zE O (fun c4=>?_) (fun c4=>?_)
  ·obtain ⟨q1,q2⟩:=ki10_t c4
   exact v17
  ·have hq:=ki10_f c4
   refine zJ<|zK<|Y O<|zD O kR<|zI one3 (J 2 O) O<|zA<|zT<|zK<|Y O<|qQ O<|G O<|zA<|zE O (fun c5=>?_) (fun c5=>?_)
   ·try simp only [sx] at c5
    refine zJ<|zE O (fun c6=>?_) (fun c6=>?_)
    ·try simp only [sx] at c6
     refine Y O<|zD O zDo<|zL qX (J 2 O) O<|rStR 1 sz43 O<|G O<|zA<|zG<|R (zP qX O (J 1 O) O) (L O) ?_
     exact v7
    ·try simp only [sx] at c6
     refine Y O<|qQ O<|G O<|zA<|zE O (fun c7=>?_) (fun c7=>?_)
     ·try simp only [sx] at c7
      exact v17
     ·try simp only [sx] at c7
      refine Y O<|qQ O<|G O<|zA<|zE O (fun c8=>?_) (fun c8=>?_)
      ·try simp only [sx] at c8
       refine Y O<|zL zBv (J 3 O) O<|zD O zDp<|zI one9 (J 2 O) O<|zZ O ok158 (zDe n e.Name hn) ⟨zC,O,zC,O,T⟩<|qW O<|yD O<|qY O<|zW O O (qT [none,none,none,none,none,none,some 1,none] O zr46 O) ?_
       rintro _ _ ⟨b7,rfl,rfl⟩
       refine rStR 0 sz46 O<|G O<|zA<|Y O<|zD O zDn<|zL qX (J 0 O) O<|rStR 2 sz43 O<|G O<|zA<|zG<|R (zP qX O (J 2 O) O) (L O) ?_
       exact v7
      ·exact r9
   ·try simp only [sx] at c5
    refine zQ O<|qQ O<|G O<|zA<|zE O (fun c6=>?_) (fun c6=>?_)
    ·try simp only [sx] at c6
     refine Y O<|zD O zDo<|zL qX (J 2 O) O<|rStR 1 sz43 O<|G O<|zA<|zG<|R (zP qX O (J 1 O) O) (L O) ?_
     exact v7
    ·try simp only [sx] at c6
     refine Y O<|qQ O<|G O<|zA<|zE O (fun c7=>?_) (fun c7=>?_)
     ·try simp only [sx] at c7
      exact v17
     ·try simp only [sx] at c7
      refine Y O<|qQ O<|G O<|zA<|zE O (fun c8=>?_) (fun c8=>?_)
      ·try simp only [sx] at c8
       refine Y O<|zL zBv (J 3 O) O<|zD O zDp<|zI one9 (J 2 O) O<|zZ O ok158 (zDe n e.Name hn) ⟨zC,O,zC,O,T⟩<|qW O<|yD O<|qY O<|zW O O (qT [none,none,none,none,none,none,some 1,none] O zr46 O) ?_
       rintro _ _ ⟨b8,rfl,rfl⟩
       refine rStR 0 sz46 O<|G O<|zA<|Y O<|zD O zDn<|zL qX (J 0 O) O<|rStR 2 sz43 O<|G O<|zA<|zG<|R (zP qX O (J 2 O) O) (L O) ?_
       exact v7
      ·exact r9
theorem ref30_Kind (n:Ns) (e:Ex) (hn:n.Ok) (hpart:fK e=0) (he:e.wt<=1073741824):Pur cfg 203 [vNs n,vE e] (.tup [vTy (dO (kiN n.Bufs) e).1,vI (dO (kiN n.Bufs) e).2]):=by
  induction e using Ex.ind with
  |_ e ih=>exact zSp n hn e (fun a ha h1 h2=>ih a ha h1 h2) hpart he
theorem zHo (n:Ns) (bd:List Bd) (e:Ex) (hn:n.Ok) (hb:bd.length<=1000000) (he:e.wt<=1000000):
    Pur cfg 159 [vNs n,sB bd,vE e] (.tup [vTy (dD n.Bufs (bd.map Bd.Name) e).1,vI (dD n.Bufs (bd.map Bd.Name) e).2]):=by
 refine zR Tryz.func159 O Tryz.ntmps159 Tryz.results159 O ?_
 intro z hz
 have hnl:=nodes_wt e
 refine Y O<|zW O O (qB O O) ?_
 rintro _ _ ⟨b1,rfl,rfl⟩
 refine zW O O (qB O O) ?_
 rintro _ _ ⟨b2,rfl,rfl⟩
 refine zW O O (qS O zr43) ?_
 rintro _ _ ⟨b3,rfl,rfl⟩
 refine G O<|zA<|zK<|Y O<|zL yV (J 1 O) O<|zZ O ok200 (ref14_Validate e (by omega)) ⟨zC,O,T⟩<|G O<|zA<|Y O<|G O<|yQ O<|zA<|zE O (fun c1=>?_) (fun c1=>?_)
 ·try simp only [sx] at c1
  refine Y O<|qR O zr43 pl43<|G O<|rStR 0 sz43 O<|G O<|zA<|zG<|R (zP qX O (J 0 O) O) (L O) ?_
  rw [exprT_1 c1];rfl
 ·try simp only [sx] at c1
  refine zJ<|Y O<|zL yV (J 1 O) O<|zZ O ok201 (OwnR.pur (ref14_All e (by omega))) ⟨zC,O,T⟩<|G O<|zA<|zK<|Y O<|G O<|zA<|zT<|zY ⟨[(10,.c _),(1,.c _),(3,.c _),(5,.c _),(6,.c _),(9,.c _)],[_,_,_]⟩ (Weak.mk [true,true,true] ⟨zC,zC,zC,zC,zC,zC,T⟩ O)<|qG 1 0 O O (Nat) (fun k=>[(10,vI k)]) (fun k=>[]) (fun k=>k<=(dI e).length/\(dF n.Bufs (bd.map Bd.Name) (dI e)=dF n.Bufs (bd.map Bd.Name) ((dI e).drop k))) (fun k=>(dI e).length-k) ⟨0,⟨by omega,O⟩,Weak.mk [true,true,true] ⟨zC,zC,zC,zC,zC,zC,T⟩ O⟩ ?_
  rintro k ⟨hk,hp⟩
  refine zK<|Y O<|G O<|G O<|qC O zBa<|yF O<|zA<|zE O (fun c2=>?_) (fun c2=>?_)
  ·try simp only [sx] at c2
   obtain ⟨x,hx⟩:=yC (dI e) k (by omega)
   refine zJ<|zK<|zT<|zK<|qV 8 mixed (by kernel_rfl) O O<|zN O O (zV O zBv O (J 2 O) O)<|zN O O (zO O O)<|zN O O (zO O O)<|zN O O (zO O O)<|zN O O (qH O zBa O O (by omega) (zJt (by assumption)))<|zN O O (zV O yV O qD O)<|zN O O (qE O ok202 (ref30_node n bd x hn hb (by have:=zLn e x (qL hx);omega)) ⟨zC,O,zC,O,zC,O,T⟩)<|zN O O (yE O O)<|yK<|zA<|Y O<|G O<|yQ O<|zA<|zE O (fun c3=>?_) (fun c3=>?_)
   ·try simp only [sx] at c3
    refine Y O<|qR O zr43 pl43<|G O<|rStR 0 sz43 O<|G O<|zA<|zG<|R (zP qX O (J 0 O) O) (L O) ?_
    rw [exprT_2 c1 (by rw [hp,nodesN_no hx c3];exact c3),hp,nodesN_no hx c3];rfl
   ·try simp only [sx] at c3
    refine zJ<|zQ O<|G O<|qF O ⟨by omega,by omega⟩<|G O<|zA ?_
    refine ⟨k+1,⟨by omega,hp.trans (nodesN_at hx c3)⟩,(by omega),Weak.mk [true,true,true] ⟨zC,zC,zC,zC,zC,zC,T⟩ O⟩
  ·try simp only [sx] at c2
   refine qM<|Y O<|zL zBv (J 2 O) O<|zL yV (J 1 O) O<|zZ O ok203 (ref30_Kind n e hn (zNt c1) (by omega)) ⟨zC,O,zC,O,T⟩<|yD O<|qY O<|rStR 0 sz43 O<|G O<|zA<|zG<|R (zP qX O (J 0 O) O) (L O) ?_
   rw [exprT_k c1 (by rw [hp,wE (by omega)];rfl)];rfl
theorem ref30_plain (s:St) (hs:s.wt<=900000000):
    Pur cfg 157 [vSt s] (vB (fR s)):=by
 refine zR Tryz.func157 O Tryz.ntmps157 Tryz.results157 O ?_
 intro z hz
 obtain ⟨hE,hI,hIw,hB,hBw⟩:=St.parts hs
 refine Y O<|zW O O (qB O O) ?_
 rintro _ _ ⟨b1,rfl,rfl⟩
 refine G O<|zA<|zK<|qV 8 mixed (by kernel_rfl) O O<|zN O O (zF O zCs O)<|zN O O (zH O one3 O (J 0 O) O)<|zN O O (yM O O O)<|zN O O (zF O zCs O)<|zN O O (zH O one3 O (J 0 O) O)<|zN O O (yM O O O)<|zN O O (yE O O)<|zN O O (yE O O)<|yK<|zA<|Y O<|zD O zCs<|zI one3 (J 0 O) O<|qQ O<|G O<|rL0 O (fun g2_3=>zF O zCs O) O<|rL1 16 O (fun g2_3=>zH O one3 O (J 0 O) O) O<|rL1 17 O (fun g2_3=>yM O O O) O<|r_or O (fun h=>(lzf h))<|G O<|zA<|zK<|Y O<|G O<|yT O<|G O<|rL0 O (fun g3_2=>zO O O) O<|rL1 23 O (fun g3_2=>kA O O) O<|yO O (fun h=>h)<|G O<|rL0 O (fun g3_6=>zO O O) O<|rL1 27 O (fun g3_6=>kA O O) O<|yO O (fun h=>h)<|zA<|zE O (fun c1=>?_) (fun c1=>?_)
 ·refine Y O<|G O<|zA<|zG<|zS O ?_
  exact congrArg vB (pln_1 c1)
 ·refine zJ<|zK<|Y O<|G O<|yT O<|G O<|rL0 O (fun g5_2=>zF O zLr O) O<|rL1 33 O (fun g5_2=>zH O one3 O (J 0 O) O) O<|rL1 34 O (fun g5_2=>kT O O O) O<|rL1 35 O (fun g5_2=>zO O O) O<|rLz [] O A T (fun g5_6=>zF O zOn O) O<|rLz [(37,_)] O A ⟨O,O,T⟩ (fun g5_6=>zH O one3 O (J 0 O) O) O<|rLz [(38,_)] O A ⟨O,O,T⟩ (fun g5_6=>kT O O O) O<|rL1 36 O (fun g5_2=>zAl O O O O (fun h=>kC (by assumption) (lzf h))) O<|yO O (fun h=>h)<|G O<|rL0 O (fun g5_12=>zF O zCs O) O<|rL1 43 O (fun g5_12=>zH O one3 O (J 0 O) O) O<|rL1 44 O (fun g5_12=>kT O O O) O<|rL1 45 O (fun g5_12=>zO O O) O<|rLz [] O A T (fun g5_16=>zF O zOm O) O<|rLz [(47,_)] O A ⟨O,O,T⟩ (fun g5_16=>zH O one3 O (J 0 O) O) O<|rLz [(48,_)] O A ⟨O,O,T⟩ (fun g5_16=>kT O O O) O<|rL1 46 O (fun g5_12=>wF O O O (fun h=>kC (by assumption) h) O) O<|r_or O (fun h=>(lzf h))<|G O<|rL0 O (fun g5_22=>zO O O) O<|rL1 53 O (fun g5_22=>zO O O) O<|rLz [] O A T (fun g5_24=>zF O zCd O) O<|rLz [(55,_)] O A ⟨O,O,T⟩ (fun g5_24=>zH O one9 O (J 0 O) O) O<|rLz [(56,_)] O A ⟨O,O,T⟩ (fun g5_24=>zEe O O O) O<|rL1 54 O (fun g5_22=>wF O O O (fun h=>kC (by assumption) h) O) O<|r_or O (fun h=>(lzf h))<|zA<|zE O (fun c2=>?_) (fun c2=>?_)
  ·refine Y O<|G O<|zA<|zG<|zS O ?_
   exact congrArg vB (pln_2 c2)
  ·refine zJ<|zK<|Y O<|G O<|yT O<|G O<|rL0 O (fun g7_2=>zF O zOl O) O<|rL1 63 O (fun g7_2=>zH O wA O (J 0 O) O) O<|rL1 64 O (fun g7_2=>yH O wU O) O<|rL1 65 O (fun g7_2=>kD O O O) O<|yO O (fun h=>h)<|G O<|rL0 O (fun g7_8=>zO O O) O<|rL1 69 O (fun g7_8=>zO O O) O<|rLz [] O A T (fun g7_10=>zF O zEq O) O<|rLz [(71,_)] O A ⟨O,O,T⟩ (fun g7_10=>zH O zHr O (J 0 O) O) O<|rLz [(72,_)] O A ⟨O,O,T⟩ (fun g7_10=>yH O el23 O) O<|rLz [(73,_)] O A ⟨O,O,T⟩ (fun g7_10=>kD O O O) O<|rL1 70 O (fun g7_8=>wF O O O (fun h=>kC (by assumption) h) O) O<|r_or O (fun h=>(lzf h))<|zA<|zE O (fun c3=>?_) (fun c3=>?_)
   ·refine Y O<|G O<|zA<|zG<|zS O ?_
    exact congrArg vB (pln_3 c3)
   ·refine zJ<|Y O<|G O<|yT O<|G O<|rL0 O (fun g9_2=>zF O zFq O) O<|rL1 80 O (fun g9_2=>zV O yV O (J 0 O) O) O<|rL0 O (fun g9_2=>kY [none,none,none,none,none,none,none,none,none,none,some 2,some 4,some 13] O zLw pl167 O O) O<|rLz [(81,_),(82,_)] O gv1 ⟨O,O,O,O,T⟩ (fun g9_2=>qE O ok199 (base_Expr s.E zEx (by omega)) ⟨zC,O,zC,O,T⟩) O<|r_or O (fun h=>(lzf h))<|G O<|zA<|zG<|zS O ?_
    exact congrArg vB (pln_4 c1 c2 c3)
theorem ref30_store (n:Ns) (bd:List Bd) (s:St) (hn:n.Ok) (hb:bd.length<=1000000) (hs:s.wt<=900000):
    Pur cfg 161 [vNs n,sB bd,vSt s] (vI (gV n.Bufs (bd.map Bd.Name) s)):=by
 refine zR Tryz.func161 O Tryz.ntmps161 Tryz.results161 O ?_
 intro z hz
 obtain ⟨hE,hI,hIw,hB,hBw⟩:=St.parts hs
 have hrd:=rdE_wt s
 refine Y O<|zW O O (qB O O) ?_
 rintro _ _ ⟨b1,rfl,rfl⟩
 refine zW O O (qB O O) ?_
 rintro _ _ ⟨b2,rfl,rfl⟩
 refine G O<|zA<|zK<|Y O<|zL zBv (J 1 O) O<|G O<|zD O zCd<|zI one9 (J 0 O) O<|zD O zOl<|zI wA (J 0 O) O<|zX O (kY [none,none,none,none,none,none,none,none,none,none,some 2,none,some 13] O zLw pl167 O O)<|zZ O ok159 (zHo n bd (rdE s) hn hb (by omega)) ⟨zC,O,zC,O,zC,O,T⟩<|qW O<|yD O<|qY O<|zW O O (qS O zr43) ?_
 rintro _ _ ⟨b3,rfl,rfl⟩
 refine rStR 0 sz43 O<|G O<|zA<|Y O<|G O<|yQ O<|zA<|zE O (fun c1=>?_) (fun c1=>?_)
 ·try simp only [sx] at c1
  refine Y O<|G O<|G O<|zA<|zG<|zS O ?_
  rw [storeE_1 c1]
 ·try simp only [sx] at c1
  refine zJ<|Y O<|zL zBv (J 2 O) O<|zD O zCd<|zI one9 (J 1 O) O<|zZ O ok158 (zDe n s.Name hn) ⟨zC,O,zC,O,T⟩<|qW O<|yD O<|qY O<|zW O O (qT [none,none,none,none,none,none,some 1,none] O zr46 O) ?_
  rintro _ _ ⟨b4,rfl,rfl⟩
  refine rStR 0 sz46 O<|G O<|zA<|zK<|Y O<|zD O zIk<|zI one3 (J 0 O) O<|qQ O<|G O<|rL0 O (fun g5_3=>zF O zCs O) O<|rL1 38 O (fun g5_3=>zH O one3 O (J 2 O) O) O<|rL1 39 O (fun g5_3=>yM O O O) O<|rL1 40 O (fun g5_3=>zO O O) O<|rLz [] O A T (fun g5_7=>zF O zOm O) O<|rLz [(42,_)] O A ⟨O,O,T⟩ (fun g5_7=>zH O one3 O (J 2 O) O) O<|rLz [(43,_)] O A ⟨O,O,T⟩ (fun g5_7=>wI O O O) O<|rLz [(44,_)] O A ⟨O,O,T⟩ (fun g5_7=>zO O O) O<|rLz [] O A T (fun g5_11=>zF O zOm O) O<|rLz [(46,_)] O A ⟨O,O,T⟩ (fun g5_11=>zH O one3 O (J 2 O) O) O<|rLz [(47,_)] O A ⟨O,O,T⟩ (fun g5_11=>kD O O O) O<|rLz [(45,_)] O A ⟨O,O,T⟩ (fun g5_7=>zAl O O O O (fun h=>kC (by assumption) (lzf h))) O<|rL1 41 O (fun g5_3=>wF O O O (fun h=>kC (by assumption) h) O) O<|r_or O (fun h=>(lzf h))<|zA<|zE O (fun c2=>?_) (fun c2=>?_)
  ·try simp only [sx] at c2
   refine Y O<|G O<|zA<|zG<|zS O ?_
   rw [storeE_u c1 c2]
  ·try simp only [sx] at c2
   refine zJ<|Y O<|zL zBv (J 3 O) O<|G O<|zD O zFq<|zL yV (J 2 O) O<|zZ O ok159 (zHo n bd s.E hn hb (by omega)) ⟨zC,O,zC,O,zC,O,T⟩<|qW O<|yD O<|qY O<|zW O O (qS O zr43) ?_
   rintro _ _ ⟨b5,rfl,rfl⟩
   refine rStR 0 sz43 O<|G O<|zA<|zK<|Y O<|G O<|qQ O<|G O<|rL0 O (fun g8_2=>zF O zFq O) O<|rL1 63 O (fun g8_2=>zV O yV O (J 3 O) O) O<|rL1 64 O (fun g8_2=>qE O ok160 (kV _) ⟨zC,O,T⟩) O<|rL1 65 O (fun g8_2=>zO O O) O<|rLz [] O A T (fun g8_6=>zV O qX O (J 0 O) O) O<|rLz [] O A T (fun g8_6=>zF O zDn O) O<|rLz [(68,_)] O A ⟨O,O,T⟩ (fun g8_6=>zV O qX O (J 1 O) O) O<|rLz [(67,_),(69,_)] O A ⟨O,O,O,O,T⟩ (fun g8_6=>zAu O fl43 O O O) O<|rL1 66 O (fun g8_2=>zAl O O O O (fun h=>kC (by assumption) (lzf h))) O<|yO O (fun h=>h)<|zA<|zE O (fun c3=>?_) (fun c3=>?_)
   ·obtain ⟨h0,h10⟩:=st3_t c3
    refine Y O<|G O<|zA<|zG<|zS O ?_
    rw [storeE_10 c1 (by omega) h0 h10]
   ·have h3:=st3_f c3
    refine zJ<|Y O<|G O<|G O<|zA<|zG<|zS O ?_
    rw [st_fin c1 (by omega) h3]
theorem ref30_one (n:Ns) (bd:List Bd) (U:List ByteArray) (s:St) (hn:n.Ok) (hb:bd.length<=1000000) (hs:s.wt<=900000) (hU:U.length<=1000000):
    Pur cfg 122 [vNs n,sB bd,vSs U,vSt s] (vI (stE n.Bufs U (bd.map Bd.Name) s)):=by
 refine zR Tryz.func122 O Tryz.ntmps122 Tryz.results122 O ?_
 intro z hz
 obtain ⟨hE,hI,hIw,hB,hBw⟩:=St.parts hs
 refine Y O<|zW O O (qB O O) ?_
 rintro _ _ ⟨b1,rfl,rfl⟩
 refine zW O O (qB O O) ?_
 rintro _ _ ⟨b2,rfl,rfl⟩
 refine G O<|zA<|zK<|Y O<|zL zPv (J 0 O) O<|zZ O ok157 (ref30_plain s (by omega)) ⟨zC,O,T⟩<|yT O<|zA<|zE O (fun c1=>?_) (fun c1=>?_)
 ·try simp only [sx] at c1
  refine Y O<|G O<|zA<|zG<|zS O ?_
  rw [stE_5 c1]
 ·try simp only [sx] at c1
  refine zJ<|zK<|Y O<|zD O zCs<|zI one3 (J 0 O) O<|zA<|zT<|Y O<|qQ O<|G O<|zA<|zE O (fun c2=>?_) (fun c2=>?_)
  ·try simp only [sx] at c2
   refine Y O<|zL zBv (J 1 O) O<|zD O zCd<|zI one9 (J 0 O) O<|zZ O ok158 (zDe n s.Name hn) ⟨zC,O,zC,O,T⟩<|qW O<|yD O<|qY O<|zW O O (qT [none,none,none,none,none,none,some 1,none] O zr46 O) ?_
   rintro _ _ ⟨b3,rfl,rfl⟩
   refine rStR 0 sz46 O<|G O<|zA<|zK<|zT<|Y O<|zD O zCd<|zI one9 (J 1 O) O<|zZ O ok120 (zKa s.Name) ⟨zC,O,T⟩<|yT O<|G O<|zA<|zE O (fun c3=>?_) (fun c3=>?_)
   ·try simp only [sx] at c3
    refine Y O<|G O<|zA<|zG<|zS O ?_
    rw [stE_l c1 c2,loopE_7 c3]
   ·try simp only [sx] at c3
    refine Y O<|G O<|G O<|rL0 O (fun g8_1=>zO O O) O<|rL0 O (fun g8_1=>zF O zCd O) O<|rL1 36 O (fun g8_1=>zH O one9 O (J 1 O) O) O<|rLz [(35,_),(37,_)] O gv1 ⟨O,O,O,O,T⟩ (fun g8_1=>qE O ok155 (base_Has U s.Name (by omega)) ⟨zC,O,zC,O,T⟩) O<|r_or O (fun h=>(lzf h))<|G O<|zA<|zE O (fun c4=>?_) (fun c4=>?_)
    ·try simp only [sx] at c4
     refine Y O<|G O<|zA<|zG<|zS O ?_
     rw [stE_l c1 c2,loopE_8 c3 c4]
    ·try simp only [sx] at c4
     have h8:¬(dZ n.Bufs s.Name=true∨dW U s.Name=true):=by rw [c4.1,c4.2];simp
     refine Y O<|zD O zLr<|zI one3 (J 1 O) O<|yF O<|G O<|rL0 O (fun g10_3=>zF O zLr O) O<|rL1 45 O (fun g10_3=>zH O one3 O (J 1 O) O) O<|rL1 46 O (fun g10_3=>kD O O O) O<|r_or O (fun h=>(lzf h))<|G O<|rL0 O (fun g10_8=>zF O zOn O) O<|rL1 50 O (fun g10_8=>zH O one3 O (J 1 O) O) O<|rL1 51 O (fun g10_8=>wI O O O) O<|r_or O (fun h=>(lzf h))<|G O<|rL0 O (fun g10_13=>zF O zOn O) O<|rL1 55 O (fun g10_13=>zH O one3 O (J 1 O) O) O<|rL1 56 O (fun g10_13=>kD O O O) O<|r_or O (fun h=>(lzf h))<|G O<|zA<|zE O (fun c5=>?_) (fun c5=>?_)
     ·try simp only [sx] at c5
      refine Y O<|G O<|zA<|zG<|zS O ?_
      rw [stE_l c1 c2,loopE_1 c3 h8 (by omega)]
     ·try simp only [sx] at c5
      refine zJ<|Y O<|G O<|zA<|zG<|zS O ?_
      rw [stE_l c1 c2,loopE_0 c3 h8 (by omega)]
  ·try simp only [sx] at c2
   refine Y O<|qQ O<|G O<|zA<|zE O (fun c6=>?_) (fun c6=>?_)
   ·try simp only [sx] at c6
    refine Y O<|zL zBv (J 1 O) O<|G O<|zD O zFq<|zL yV (J 0 O) O<|zZ O ok159 (zHo n bd s.E hn hb (by omega)) ⟨zC,O,zC,O,zC,O,T⟩<|qW O<|yD O<|qY O<|zW O O (qS O zr43) ?_
    rintro _ _ ⟨b4,rfl,rfl⟩
    refine rStR 0 sz43 O<|G O<|zA<|zK<|Y O<|G O<|qQ O<|G O<|rL0 O (fun g15_2=>zF O zFq O) O<|rL1 72 O (fun g15_2=>zV O yV O (J 1 O) O) O<|rL1 73 O (fun g15_2=>qE O ok160 (kV _) ⟨zC,O,T⟩) O<|rL1 74 O (fun g15_2=>kA O O) O<|yO O (fun h=>h)<|zA<|zE O (fun c7=>?_) (fun c7=>?_)
    ·refine Y O<|G O<|zA<|zG<|zS O ?_
     rw [stE_i c1 c6,if_t c7]
    ·refine zJ<|Y O<|G O<|G O<|zA<|zG<|zS O ?_
     rw [stE_i c1 c6,if_fin c7]
   ·try simp only [sx] at c6
    refine zJ<|Y O<|zL zBv (J 1 O) O<|G O<|zL zPv (J 0 O) O<|zZ O ok161 (ref30_store n bd s hn hb hs) ⟨zC,O,zC,O,zC,O,T⟩<|G O<|zA<|zG<|zS O ?_
    rw [stE_s c1 c2 c6]
set_option maxHeartbeats 2000000 in
theorem zJj (n:Ns) (bd:List Bd) (U:List ByteArray) (l:List St) (W:List Int) (hn:n.Ok) (hU:U.length+dL l<=1000000) (hb:bd.length+dL l<=1000000) (hW:W.length+dL l<=1000000) (hl:bX l<=900000) (ih:∀s,s∈l->∀(bd:List Bd) (U:List ByteArray) (W:List Int),U.length+dL s.Body<=1000000->bd.length+dL s.Body<=1000000->W.length+dL s.Body<=1000000->Pur cfg 96 [vNs n,sB bd,vSs U,gT s.Body,vIs W] (ckC (fF n.Bufs U (bd.map Bd.Name) W 0 s.Body))):
    Pur cfg 96 [vNs n,sB bd,vSs U,gT l,vIs W] (ckC (fF n.Bufs U (bd.map Bd.Name) W 0 l)):=by
 refine zR Tryz.func96 O Tryz.ntmps96 Tryz.results96 O ?_
 intro z hz
 have hll:=zBy l
 have hlN:=zEu l
 refine Y O<|zW O O (qB O O) ?_
 rintro _ _ ⟨b1,rfl,rfl⟩
 refine zW O O (qT [some 1,some 1,none] O zr152 O) ?_
 rintro _ _ ⟨b2,rfl,rfl⟩
 refine zA<|zK<|Y O<|G O<|zA<|zT<|zY ⟨[(11,.c _),(2,.c _),(1,.c _),(3,.c _),(4,.c _),(5,.c _),(10,.c _)],[_,_]⟩ (Weak.mk [true,true] ⟨zC,zC,zC,zC,zC,zC,zC,T⟩ O)<|qG 2 0 O O (Nat×List ByteArray) (fun ⟨k,u⟩=>[(11,vI k),(2,vSs u)]) (fun ⟨k,u⟩=>[]) (fun ⟨k,u⟩=>k<=l.length/\(u.length+dL (l.drop k)<=1000000)/\((fF n.Bufs U (bd.map Bd.Name) W 0 l)=fF n.Bufs u (bd.map Bd.Name) W k (l.drop k))) (fun ⟨k,u⟩=>l.length-k) ⟨⟨0,U⟩,⟨by omega,by simpa using hU,O⟩,Weak.mk [true,true] ⟨zC,VLe.of_eq (O),zC,zC,zC,zC,zC,T⟩ O⟩ ?_
 rintro ⟨k,u⟩ ⟨hk,hub,hp⟩
 show AWP _ _ _ _ _ ⟨[(11,vI k),(2,vSs u)]++_,[]++_⟩
 refine zK<|Y O<|G O<|G O<|qC O el23<|yF O<|zA<|zE O (fun c1=>?_) (fun c1=>?_)
 ·try simp only [sx] at c1
  obtain ⟨s,hs⟩:=yC l k (by omega)
  have hsw:=zAn (qL hs)
  have hsb:=St.body_wt s
  have hsn:=stsN_drop hs
  have hse:=zPc s
  have hsm:=zQj (qL hs)
  have hcl:=chkS_len n.Bufs s u (bd.map Bd.Name) (W++[(k:Int)])
  refine zJ<|zK<|zT<|Y O<|zX O (zLu O v zr3)<|G O<|zW O O (zLm O v O O (by simp only [List.length_map,List.length_append,List.length_cons,List.length_nil];omega) (by simp only [List.length_map,List.length_append,List.length_cons,List.length_nil];omega)) ?_
  rintro _ _ ⟨sv3,rfl,rfl⟩
  refine G O<|zX O (yS O v zr3 O O O O)<|zW O O (yX 0 O v O O O (by simp only [List.length_map,List.length_append,List.length_cons,List.length_nil];omega) (by simp only [List.length_map,List.length_append,List.length_cons,List.length_nil];omega)) ?_
  rintro _ _ ⟨sv4,rfl,rfl⟩
  refine G O<|zA<|zK<|zK<|zY _ (Weak.vecEq 0 O (rows':=(W++[(k:Int)]).map fun i=>[cI i]) (by first|rfl|simp|rw [List.take_of_length_le (by simp)]))<|zY _ (kS 0 O (regs':=[(27,_),(12,_)]) (μ':=[_,_]) ⟨FLe.sl,FLe.sl,T⟩ ⟨EFle.refl _,EFle.refl _,T⟩)<|qV 9 mixed (by kernel_rfl) O O<|zN O O (zV O zBv O (J 1 O) O)<|zN O O (zO O O)<|zN O O (zO O O)<|zN O O (zO O O)<|zN O O (zO O O)<|zN O O (qH O el23 O O (by omega) (zIt (by assumption)))<|zN O O (zV O zPv O qD O)<|zN O O (qE O ok122 (ref30_one n bd u s hn (by omega) (by have:=zAn (qL hs);omega) (by omega)) ⟨zC,O,zC,O,zC,O,zC,O,T⟩)<|zN O O (yE O O)<|yK<|zA<|Y O<|G O<|yQ O<|zA<|zE O (fun c2=>?_) (fun c2=>?_)
  ·try simp only [sx] at c2
   have hx0:=chkS_no (here:=W++[(k:Int)]) (B:=n.Bufs) (U:=u) (sc:=(bd.map Bd.Name)) (s:=s) c2
   refine Y O<|G O<|G O<|zX O (kY [some 1,none,none] O zr152 pl152 O O)<|rStR 0 sz152 O<|zA<|zG<|fin1 (zP agg152 O (J 0 O) O) ?_
   rw [zEs hs hp (by rw [hx0];exact c2),hx0];rfl
  ·try simp only [sx] at c2
   have hin:=chkS_in (here:=W++[(k:Int)]) (B:=n.Bufs) (U:=u) (sc:=(bd.map Bd.Name)) (s:=s) c2
   refine zJ<|Y O<|G O<|G O<|zA<|zK<|Y O<|G O<|G O<|qI O el23 (by omega) (zIt (by assumption))<|yB O zCs<|zI one3 qD O<|qQ O<|zA<|zE O (fun c3=>?_) (fun c3=>?_)
   ·try simp only [sx] at c3
    rw [zMj c3,zMj c3,←map_bd] at hin
    refine zK<|kG 9 1 [⟨0,.q []⟩,⟨1,.q []⟩,⟨3,.q []⟩,⟨4,.q []⟩,⟨5,.q []⟩,⟨6,.q []⟩,⟨7,.q []⟩,⟨8,.q []⟩,⟨2,.e 0 []⟩] mixed (by kernel_rfl) (by kernel_rfl) O O O<|zU O<|zU O<|zU O<|zU O<|zU O<|zU O<|zU O<|zU O<|zU O<|zAz<|qA O (by decide) O O (zLu O zGn zr9)<|qA O (by decide) O O (zO O O)<|qA O (by decide) O O (zO O O)<|qA O (by decide) O O (zO O O)<|qA O (by decide) O O (qH O el23 O O (by omega) (zIt (by assumption)))<|qA O (by decide) O O (qU O zCd O)<|qA O (by decide) O O (zH O one9 O qD O)<|qA O (by decide) O O (yS O zGn zr9 O O O O)<|zIx O O (by decide) O O (zLm O zGn O O (by simp only [List.length_map,List.length_append,List.length_cons,List.length_nil];omega) (by simp only [List.length_map,List.length_append,List.length_cons,List.length_nil];omega)) ?_
    rintro _ _ ⟨sv5,rfl,rfl⟩
    refine ⟨_,O,?_⟩
    refine zAy O<|zW O O (yX 0 O zGn O O O (by simp only [List.length_map,List.length_append,List.length_cons,List.length_nil];omega) (by simp only [List.length_map,List.length_append,List.length_cons,List.length_nil];omega)) ?_
    rintro _ _ ⟨sv6,rfl,rfl⟩
    refine G O<|zA<|kG 15 1 [⟨0,.q []⟩,⟨1,.q []⟩,⟨3,.q []⟩,⟨4,.q []⟩,⟨5,.q []⟩,⟨6,.q []⟩,⟨7,.q []⟩,⟨8,.q []⟩,⟨9,.q []⟩,⟨10,.q []⟩,⟨11,.q []⟩,⟨12,.q []⟩,⟨13,.q []⟩,⟨14,.q []⟩,⟨2,.e 0 []⟩] mixed (by kernel_rfl) (by kernel_rfl) O O O<|zU O<|zU O<|zU O<|zU O<|zU O<|zU O<|zU O<|zU O<|zU O<|zU O<|zU O<|zU O<|zU O<|zU O<|zU O<|zAz<|qA O (by decide) O O (zLu O el185 zr188)<|qA O (by decide) O O (zO O O)<|qA O (by decide) O O (zO O O)<|qA O (by decide) O O (zO O O)<|qA O (by decide) O O (qH O el23 O O (by omega) (zIt (by assumption)))<|qA O (by decide) O O (qU O zCd O)<|qA O (by decide) O O (zH O one9 O qD O)<|qA O (by decide) O O (zO O O)<|qA O (by decide) O O (zO O O)<|qA O (by decide) O O (qH O el23 O O (by omega) (zIt (by assumption)))<|qA O (by decide) O O (qU O zLr O)<|qA O (by decide) O O (zH O one3 O qD O)<|qA O (by decide) O O (zBp O zr188 pl188 O)<|qA O (by decide) O O (yS O el185 zr188 O O O O)<|zIx O O (by decide) O O (zLm O el185 O O (by simp only [List.length_map,List.length_append,List.length_cons,List.length_nil];omega) (by simp only [List.length_map,List.length_append,List.length_cons,List.length_nil];omega)) ?_
    rintro _ _ ⟨sv7,rfl,rfl⟩
    refine ⟨_,O,?_⟩
    refine zAy O<|zW O O (yX 0 O el185 O O O (by simp only [List.length_map,List.length_append,List.length_cons,List.length_nil];omega) (by simp only [List.length_map,List.length_append,List.length_cons,List.length_nil];omega)) ?_
    rintro _ _ ⟨sv8,rfl,rfl⟩
    refine G O<|zA<|zK<|zY _ (Weak.vecEq 1 O (rows':=(u++[s.Name]).map fun s=>[cS s]) (by first|rfl|simp|rw [List.take_of_length_le (by simp)]))<|zY _ (kS 1 O (regs':=[(2,_),(57,_)]) (μ':=[_,_,_]) ⟨FLe.sl,FLe.sl,T⟩ ⟨EFle.refl _,EFle.refl _,EFle.refl _,T⟩)<|zY _ (Weak.vecEq 0 O (rows':=(bd++[(⟨s.Name,s.Many⟩:Bd)]).map Bd.cells) (by rw [List.map_append];rfl))<|zY _ (kS 0 O (regs':=[(14,_),(73,_)]) (μ':=[_,_]) ⟨FLe.sl,FLe.sl,T⟩ ⟨EFle.refl _,EFle.refl _,T⟩)<|kG 11 1 [⟨0,.q [2]⟩,⟨1,.q []⟩,⟨2,.q []⟩,⟨3,.q []⟩,⟨4,.q []⟩,⟨5,.q []⟩,⟨6,.q []⟩,⟨7,.q []⟩,⟨8,.q []⟩,⟨9,.q []⟩,⟨10,.f 0⟩] mixed (by kernel_rfl) (by kernel_rfl) O O O<|zU O<|zU O<|zU O<|zU O<|zU O<|zU O<|zU O<|zU O<|zU O<|zU O<|zFb O O (zBe (qT [some 1,some 1,none] O zr152 O)) ⟨_,_,0,O,O⟩<|zAz<|qA O (by decide) O O (zV O zBv O (J 0 O) O)<|qA O (by decide) O O (zO O O)<|qA O (by decide) O O (zO O O)<|qA O (by decide) O O (zO O O)<|qA O (by decide) O O (zO O O)<|qA O (by decide) O O (qH O el23 O O (by omega) (zIt (by assumption)))<|qA O (by decide) O O (qU O zEq O)<|qA O (by decide) O O (zH O zHr O qD O)<|qA O (by decide) O O (zO O O)<|qA O (by decide) O O (qE O ok96 (ih s (qL hs) (bd++[(⟨s.Name,s.Many⟩:Bd)]) (u++[s.Name]) (W++[(k:Int)]) (by first|omega|(simp;omega)) (by first|omega|(simp;omega)) (by simp;omega)) ⟨zC,O,zC,O,zC,O,zC,O,zC,O,T⟩)<|zEv O O ?_
    rintro _ _ ⟨b9,rfl,rfl⟩
    exact p7
   ·try simp only [sx] at c3
    rw [zQr c3,zQr c3] at hin
    refine zJ<|zK<|kG 11 1 [⟨0,.q [2]⟩,⟨1,.q []⟩,⟨2,.q []⟩,⟨3,.q []⟩,⟨4,.q []⟩,⟨5,.q []⟩,⟨6,.q []⟩,⟨7,.q []⟩,⟨8,.q []⟩,⟨9,.q []⟩,⟨10,.f 0⟩] mixed (by kernel_rfl) (by kernel_rfl) O O O<|zU O<|zU O<|zU O<|zU O<|zU O<|zU O<|zU O<|zU O<|zU O<|zU O<|zFb O O (zBe (qT [some 1,some 1,none] O zr152 O)) ⟨_,_,0,O,O⟩<|zAz<|qA O (by decide) O O (zV O zBv O (J 0 O) O)<|qA O (by decide) O O (zO O O)<|qA O (by decide) O O (zO O O)<|qA O (by decide) O O (zO O O)<|qA O (by decide) O O (zO O O)<|qA O (by decide) O O (qH O el23 O O (by omega) (zIt (by assumption)))<|qA O (by decide) O O (qU O zEq O)<|qA O (by decide) O O (zH O zHr O qD O)<|qA O (by decide) O O (zO O O)<|qA O (by decide) O O (qE O ok96 (ih s (qL hs) bd u (W++[(k:Int)]) (by first|omega|(simp;omega)) (by first|omega|(simp;omega)) (by simp;omega)) ⟨zC,O,zC,O,zC,O,zC,O,zC,O,T⟩)<|zEv O O ?_
    rintro _ _ ⟨b10,rfl,rfl⟩
    exact p7
 ·try simp only [sx] at c1
  refine qM<|Y O<|G O<|zX O (kY [none,some 1,none] O zr152 pl152 O O)<|rStR 0 sz152 O<|zA<|zG<|fin1 (zP agg152 O (J 0 O) O) ?_
  rw [zRg hp (by omega)];rfl
theorem zSo (n:Ns) (hn:n.Ok) (s:St) (hl:bX s.Body<=900000):∀(bd:List Bd) (U:List ByteArray) (W:List Int),U.length+dL s.Body<=1000000->bd.length+dL s.Body<=1000000->W.length+dL s.Body<=1000000->Pur cfg 96 [vNs n,sB bd,vSs U,gT s.Body,vIs W] (ckC (fF n.Bufs U (bd.map Bd.Name) W 0 s.Body)):=by
  induction s using St.ind with
  |_ s ih=>
    intro bd U W hU hb hW
    refine zJj n bd U s.Body W hn hU hb hW hl fun a ha=>ih a ha ?_
    have:=zAn ha;have:=St.body_wt a;omega
theorem ref30_body (n:Ns) (bd:List Bd) (U:List ByteArray) (l:List St) (W:List Int)  (hn:n.Ok) (hU:U.length+dL l<=1000000) (hb:bd.length+dL l<=1000000) (hW:W.length+dL l<=1000000) (hl:bX l<=900000):Pur cfg 96 [vNs n,sB bd,vSs U,gT l,vIs W] (ckC (fF n.Bufs U (bd.map Bd.Name) W 0 l)):=
  zJj n bd U l W hn hU hb hW hl fun s hs=>zSo n hn s (by have:=zAn hs;have:=St.body_wt s;omega)
theorem ref30_Validate (n:Ns) (hn:n.Ok) (hw:bX n.Body<=900000):
    Pur cfg 55 [vNs n] (.tup [vIs (fL n).1,vI (fL n).2]):=by
 refine zR Tryz.func55 O Tryz.ntmps55 Tryz.results55 O ?_
 intro z hz
 refine Y O<|zW O O (qB O O) ?_
 rintro _ _ ⟨b1,rfl,rfl⟩
 refine yN 1 O<|G O<|zA<|zK<|Y O<|zD O zTx<|zI zHr (J 0 O) O<|zZ O ok93 (ref30_depth 41 n.Body 41 (by omega) (by omega) O) ⟨zC,O,zC,O,T⟩<|zAf O<|zA<|zE O (fun c1=>?_) (fun c1=>?_)
 ·try simp only [sx] at c1
  have hwi:=within_f c1
  refine Y O<|yN 1 O<|G O<|zA<|zG<|R (L O) (L O) ?_
  rw [validN_13 hwi];rfl
 ·try simp only [sx] at c1
  have hwi:=within_t c1
  refine zJ<|zK<|Y O<|zD O zTx<|zI zHr (J 0 O) O<|zZ O ok94 (ref30_size n.Body 2000 2000 (by omega) (by omega) O) ⟨zC,O,zC,O,T⟩<|zAf O<|G O<|rL0 O (fun g3_4=>zF O zAb O) O<|rL1 15 O (fun g3_4=>zH O zCl O (J 0 O) O) O<|rL1 16 O (fun g3_4=>yH O el22 O) O<|rL1 17 O (fun g3_4=>kD O O O) O<|r_or O (fun h=>(lzf h))<|zA<|zE O (fun c2=>?_) (fun c2=>?_)
  ·try simp only [sx] at c2
   refine Y O<|yN 1 O<|G O<|zA<|zG<|R (L O) (L O) ?_
   rw [validN_2 hwi (by omega)];rfl
  ·try simp only [sx] at c2
   have hnum:=numB_ok (l:=n.Body) (m:=2000) (by omega)
   refine zJ<|zK<|Y O<|zL zBv (J 0 O) O<|zZ O ok95 (ref30_bufs n hn) ⟨zC,O,T⟩<|G O<|zA<|Y O<|G O<|yQ O<|zA<|zE O (fun c3=>?_) (fun c3=>?_)
   ·try simp only [sx] at c3
    refine Y O<|G O<|yN 1 O<|G O<|zA<|zG<|R (L O) (L O) ?_
    rw [validN_b hwi (by omega) c3];rfl
   ·try simp only [sx] at c3
    refine zJ<|Y O<|zL zBv (J 0 O) O<|zD O zTx<|zI zHr (J 0 O) O<|zZ O ok96 (ref30_body n [] [] n.Body [] hn (by simp;omega) (by simp;omega) (by simp;omega) hw) ⟨zC,O,VLe.nil,O,VLe.nil,O,zC,O,VLe.nil,O,T⟩<|zW O O (qT [some 1,some 1,none] O zr152 O) ?_
    rintro _ _ ⟨b2,rfl,rfl⟩
    refine rStR 0 sz152 O<|zA<|zK<|qV 6 mixed (by kernel_rfl) O O<|zN O O (zF O fd152_1 O)<|zN O O (zH O zBt O (J 0 O) O)<|zN O O (zF O fd152_2 O)<|zN O O (zH O zJn O (J 0 O) O)<|zN O O (yE O O)<|zN O O (yE O O)<|yK<|zA<|zG<|R (L O) (L O) ?_
    rw [validN_c hwi (by omega) c3];rfl
end Go.W
end
section
set_option maxRecDepth 10000
namespace Go.W
open Go Go.Eng Go.Proofs Go.L41 Go.Br
attribute [local irreducible] AWP RWP TD fT
theorem ok66:bA Tryz.prog 66=true:=by kernel_rfl
theorem zEt (l:List St) (ih:∀s,s∈l->∀(m:Nat) (x:Int),m<=5000->x=m->Pur cfg 66 [gT s.Body,vI x] (vI (gK s.Body m))) (m:Nat) (x:Int) (hf:nD l) (hl:l.length<=140737488355328) (hm:m<=5000) (hx:x=m):
    Pur cfg 66 [gT l,vI x] (vI (gK l m)):=by
 refine zR Tryz.func66 O Tryz.ntmps66 Tryz.results66 O ?_
 intro z hz
 have hwB:wB m<=5700000000000000000:=by unfold wB;omega
 refine Y O<|G O<|zA<|Y O<|G O<|qC O el23<|G O<|zA<|zK<|Y O<|G O<|zA<|zT<|zY ⟨[(6,.c _),(5,.c _),(0,.c _),(1,.c _)],[]⟩ (Weak.mk [] ⟨zC,zC,zC,zC,T⟩ O) ?_
 refine qG 2 0 O O (Nat×Nat) (fun ⟨k,n⟩=>[(6,vI k),(5,vI n)]) (fun ⟨k,n⟩=>[]) (fun ⟨k,n⟩=>k<=l.length/\(n<=wB m)/\(l.length<=n)/\(gK l m=dV (l.drop k) m n)) (fun ⟨k,n⟩=>l.length-k) ⟨⟨0,l.length⟩,⟨by omega,by unfold wB;omega,by omega,O⟩,Weak.mk [] ⟨zC,VLe.of_eq (congrArg vI (by simp)),zC,zC,T⟩ O⟩ ?_
 rintro ⟨k,n⟩ ⟨hk,hn1,hn2,hp⟩
 show AWP _ _ _ _ _ ⟨[(6,vI k),(5,vI n)]++_,[]++_⟩
 refine zK<|Y O<|G O<|G O<|qC O el23<|yF O<|G O<|rL0 O (fun g3_4=>zO O O) O<|rL0 O (fun g3_4=>zO O O) O<|rLz [(14,_),(15,_)] O gv1 ⟨O,O,O,O,T⟩ (fun g3_4=>kH O O O) O<|yO O (fun h=>h)<|zA<|zE O (fun c1=>?_) (fun c1=>?_)
 ·try simp only [sx] at c1
  obtain ⟨s,hs⟩:=yC l k (by omega)
  have hsf:=zQz hf s (qL hs)
  obtain ⟨f1,f2,f3,f4,f5⟩:=St.fit_eq hsf
  have hwl:=weigh_lt (n:=n) hs hf hm (by omega) (by omega)
  refine zJ<|zK<|zT<|qV 30 mixed (by kernel_rfl) O O<|zN O O (zO O O)<|zN O O (zO O O)<|zN O O (zO O O)<|zN O O (qH O el23 O O (by omega) (zIt hs))<|zN O O (qU O zFq O)<|zN O O (zV O yV O qD O)<|zN O O (zO O O)<|zN O O (qE O ok105 (base_Weigh s.E m x f3 (by omega) hx) ⟨zC,O,zC,O,T⟩)<|zN O O (zFi O O O ⟨by omega,by omega⟩)<|zN O O (zO O O)<|zN O O (zO O O)<|zN O O (qH O el23 O O (by omega) (zIt hs))<|zN O O (qU O zOl O)<|zN O O (zH O wA O qD O)<|zN O O (kY [none,none,none,none,none,none,none,none,none,none,some 2,none,some 13] O zLw pl167 O O)<|zN O O (zO O O)<|zN O O (qE O ok105 (base_Weigh (nZ s.Idx) m x (idxE_fit f1 f2) (by omega) hx) ⟨zC,O,zC,O,T⟩)<|zN O O (zFi O O O ⟨by omega,by omega⟩)<|zN O O (zO O O)<|zN O O (zO O O)<|zN O O (qH O el23 O O (by omega) (zIt hs))<|zN O O (qU O zEq O)<|zN O O (zH O zHr O qD O)<|zN O O (zO O O)<|zN O O (zO O O)<|zN O O (qZ O O O ⟨by omega,by omega⟩)<|zN O O (zEb O O O)<|zN O O (qE O ok66 (ih s (qL hs) (m-n) _ (by omega) (by omega)) ⟨zC,O,zC,O,T⟩)<|zN O O (zFi O O O ⟨by omega,by omega⟩)<|zN O O (yE O O)<|yK<|zA<|zQ O<|G O<|qF O ⟨by omega,by omega⟩<|G O<|zA ?_
  refine ⟨⟨k+1,n+fE s.E m+fE (nZ s.Idx) m+gK s.Body (m-n)⟩,⟨by omega,hwl,by omega,weighSs_next hs hp (by omega)⟩,(by show l.length-(k+1)<l.length-k;omega),Weak.mk [] ⟨zC,VLe.of_eq (congrArg vI (by omega)),zC,zC,T⟩ O⟩
 ·try simp only [sx] at c1
  refine qM<|Y O<|G O<|G O<|zA<|zG<|zS O ?_
  exact congrArg vI (by rw [←weighSs_end hp hx (by omega)])
theorem zKw (s:St):∀(m:Nat) (x:Int),s.fit->m<=5000->x=m->Pur cfg 66 [gT s.Body,vI x] (vI (gK s.Body m)):=by
  induction s using St.ind with
  |_ s ih=>
    intro m x hf hm hx
    obtain ⟨_,_,_,f4,f5⟩:=St.fit_eq hf
    exact zEt s.Body (fun a ha m x h1 h2=>ih a ha m x (zQz f5 a ha) h1 h2) m x f5 f4 hm hx
theorem zUs (l:List St) (m:Nat) (x:Int) (hf:nD l) (hl:l.length<=140737488355328) (hm:m<=5000) (hx:x=m):Pur cfg 66 [gT l,vI x] (vI (gK l m)):=
  zEt l (fun a ha m x h1 h2=>zKw a m x (zQz hf a ha) h1 h2) m x hf hl hm hx
end Go.W
end
section
set_option maxRecDepth 10000
namespace Go.W
open Go Go.Eng Go.Proofs Go.L41 Go.Br
attribute [local irreducible] AWP RWP TD fT
end Go.W
end
section
set_option maxRecDepth 10000
namespace Go.W
open Go Go.Eng Go.Proofs Go.L41 Go.Br
attribute [local irreducible] AWP RWP TD fT
end Go.W
end
section
set_option maxRecDepth 10000
namespace Go.W
open Go Go.Eng Go.Proofs Go.L41 Go.Br
attribute [local irreducible] AWP RWP TD fT
end Go.W
end
section
set_option maxRecDepth 10000
namespace Go.W
open Go Go.Eng Go.Proofs Go.L41 Go.Br
attribute [local irreducible] AWP RWP TD fT
theorem ok34:bA Tryz.prog 34=true:=by kernel_rfl
theorem ok67:bA Tryz.prog 67=true:=by kernel_rfl
theorem base_Ints (a b:List Int) (ha:a.length<=17592186044416):
    Pur cfg 64 [vIs a,vIs b] (vB (decide (a=b))):=by
 refine zR Tryz.func64 O Tryz.ntmps64 Tryz.results64 O ?_
 intro z hz
 refine Y O<|G O<|zA<|zK<|Y O<|G O<|qC O v<|G O<|qC O v<|yQ O<|zA<|zE O (fun c1=>?_) (fun c1=>?_)
 ·exact j5
 ·try simp only [sx] at c1
  refine zJ<|zK<|Y O<|G O<|zA<|zT<|zY ⟨[(5,.c _),(0,.c _),(1,.c _)],[]⟩ (Weak.mk [] ⟨zC,zC,zC,T⟩ O)<|qG 1 0 O O (Nat) (fun k=>[(5,vI k)]) (fun k=>[]) (fun k=>k<=a.length/\(a.take k=b.take k)) (fun k=>a.length-k) ⟨0,⟨by omega,O⟩,Weak.mk [] ⟨zC,zC,zC,T⟩ O⟩ ?_
  rintro k ⟨hk,hp⟩
  refine zK<|Y O<|G O<|G O<|qC O v<|yF O<|zA<|zE O (fun c2=>?_) (fun c2=>?_)
  ·try simp only [sx] at c2
   obtain ⟨x,hx⟩:=yC a k (by omega)
   obtain ⟨y,hy⟩:=yC b k (by omega)
   refine zJ<|zK<|zT<|zK<|qV 9 mixed (by kernel_rfl) O O<|zN O O (zO O O)<|zN O O (zO O O)<|zN O O (qH O v O O (by omega) (D (by assumption)))<|zN O O (zH O one3 O qD O)<|zN O O (zO O O)<|zN O O (zO O O)<|zN O O (qH O v O O (by omega) (D (by assumption)))<|zN O O (zH O one3 O qD O)<|zN O O (kT O O O)<|yK<|zA<|zE O (fun c3=>?_) (fun c3=>?_)
   ·exact v10
   ·exact n9
  ·exact k9
theorem zIj (l:List St) (hl:bX l<=536870912) (ih:∀s,s∈l->Pur cfg 67 [gT s.Body] (vB (gW s.Body))):
    Pur cfg 67 [gT l] (vB (gW l)):=by
 refine zR Tryz.func67 O Tryz.ntmps67 Tryz.results67 O ?_
 intro z hz
 have hll:=zBy l
 refine Y O<|G O<|zA<|zK<|Y O<|G O<|zA<|zT<|zY ⟨[(3,.c _),(0,.c _)],[]⟩ (Weak.mk [] ⟨zC,zC,T⟩ O)<|qG 1 0 O O (Nat) (fun k=>[(3,vI k)]) (fun k=>[]) (fun k=>k<=l.length/\((l.take k).all nH=true)) (fun k=>l.length-k) ⟨0,⟨by omega,O⟩,Weak.mk [] ⟨zC,zC,T⟩ O⟩ ?_
 rintro k ⟨hk,hp⟩
 refine zK<|Y O<|G O<|G O<|qC O el23<|yF O<|zA<|zE O (fun c1=>?_) (fun c1=>?_)
 ·try simp only [sx] at c1
  obtain ⟨s,hs⟩:=yC l k (by omega)
  refine zJ<|zK<|zT<|Y O<|G O<|G O<|qI O el23 (by omega) (zIt hs)<|yB O zCd<|zI one9 qD O<|zX O (wT O un9 O)<|zAf O<|G O<|rL0 O (fun g4_7=>zO O O) O<|rL0 O (fun g4_7=>zO O O) O<|rLz [(18,_),(19,_)] O gv1 ⟨O,O,O,O,T⟩ (fun g4_7=>qH O el23 O O (by omega) (zIt hs)) O<|rL1 20 O (fun g4_7=>qU O zOl O) O<|rL1 21 O (fun g4_7=>zH O wA O qD O) O<|rL1 22 O (fun g4_7=>yH O wU O) O<|rL1 23 O (fun g4_7=>kD O O O) O<|r_or O (fun h=>(lzf h))<|G O<|rL0 O (fun g4_16=>zO O O) O<|rL0 O (fun g4_16=>zO O O) O<|rLz [(27,_),(28,_)] O gv1 ⟨O,O,O,O,T⟩ (fun g4_16=>qH O el23 O O (by omega) (zIt hs)) O<|rL1 29 O (fun g4_16=>qU O zEq O) O<|rL1 30 O (fun g4_16=>zH O zHr O qD O) O<|rL1 31 O (fun g4_16=>qE O ok67 (ih s (qL hs)) ⟨zC,O,T⟩) O<|rL1 32 O (fun g4_16=>kA O O) O<|r_or O (fun h=>(lzf h))<|zA<|zE O (fun c2=>?_) (fun c2=>?_)
  ·refine Y O<|G O<|zA<|zG<|zS O ?_
   rw [zSg,zIo hs (short_t c2)]
  ·refine zJ<|zQ O<|G O<|qF O ⟨by omega,by omega⟩<|G O<|zA ?_
   refine ⟨k+1,⟨by omega,zCg hs hp (short_f c2)⟩,(by omega),Weak.mk [] ⟨zC,zC,T⟩ O⟩
 ·try simp only [sx] at c1
  refine qM<|Y O<|G O<|zA<|zG<|zS O ?_
  rw [yP (by omega)] at hp;rw [zSg,hp]
theorem zQd (s:St) (hl:bX s.Body<=536870912):Pur cfg 67 [gT s.Body] (vB (gW s.Body)):=by
  induction s using St.ind with
  |_ s ih=>exact zIj s.Body hl fun a ha=>ih a ha (by have:=zAn ha;have:=St.body_wt a;omega)
theorem law30_short (l:List St) (hl:bX l<=536870912):Pur cfg 67 [gT l] (vB (gW l)):=
  zIj l hl fun s hs=>zQd s (by have:=zAn hs;have:=St.body_wt s;omega)
theorem law30_FewStmts (l:List St) (m:Nat) (x:Int) (hf:nD l) (hl:l.length<=140737488355328) (hm:m<=5000) (hx:x=m):
    Pur cfg 34 [gT l,vI x] (vB (vY l m)):=by
 refine zR Tryz.func34 O Tryz.ntmps34 Tryz.results34 O ?_
 intro z hz
 refine Y O<|G O<|zA<|Y O<|G O<|G O<|zZ O ok66 (zUs l m x hf hl hm hx) ⟨zC,O,zC,O,T⟩<|G O<|zX O (kH O O O)<|G O<|rL0 O (fun g1_5=>zO O O) O<|rL1 11 O (fun g1_5=>qE O ok67 (law30_short l (by simp only [Lz,cond_true,cond_false,Bool.and_eq_true,Bool.or_eq_true,Bool.not_eq_true',Bool.not_eq_false',Bool.or_eq_false_iff,Bool.and_eq_false_iff,decide_eq_true_eq,decide_eq_false_iff_not,Bool.not_eq_true,Bool.not_eq_false] at g1_5;have:=zRn (l:=l) (m:=m) (by omega);omega)) ⟨zC,O,T⟩) O<|yO O (fun h=>h)<|G O<|zA<|zG<|zS O ?_
 subst hx
 exact congrArg vB (by unfold vY;congr 1;exact decide_eq_decide.2 (by omega))
theorem law30_Few (n:Ns) (m:Nat) (x:Int) (hf:n.Fit) (hm:m<=5000) (hx:x=m):
    Pur cfg 11 [vNs n,vI x] (vB (rM n m)):=by
 refine zR Tryz.func11 O Tryz.ntmps11 Tryz.results11 O ?_
 intro z hz
 have hbl:=hf.bufs
 refine Y O<|zW O O (qB O O) ?_
 rintro _ _ ⟨b1,rfl,rfl⟩
 refine G O<|zA<|zK<|Y O<|zD O zAb<|zI zCl (J 0 O) O<|qC O el22<|zAf O<|zA<|zE O (fun c1=>?_) (fun c1=>?_)
 ·try simp only [sx] at c1
  refine Y O<|G O<|zA<|zG<|zS O ?_
  rw [few_1 (by omega)]
 ·try simp only [sx] at c1
  refine zJ<|zK<|Y O<|G O<|zA<|zT<|zY ⟨[(5,.c _),(1,.c _),(2,.c _)],[_]⟩ (Weak.mk [true] ⟨zC,zC,zC,T⟩ O)<|qG 1 0 O O (Nat) (fun k=>[(5,vI k)]) (fun k=>[]) (fun k=>k<=n.Bufs.length/\((n.Bufs.take k).all pA=true)) (fun k=>n.Bufs.length-k) ⟨0,⟨by omega,O⟩,Weak.mk [true] ⟨zC,zC,zC,T⟩ O⟩ ?_
  rintro k ⟨hk,hp⟩
  refine zK<|Y O<|G O<|zD O zAb<|zI zCl (J 0 O) O<|qC O el22<|yF O<|zA<|zE O (fun c2=>?_) (fun c2=>?_)
  ·try simp only [sx] at c2
   obtain ⟨b,hb⟩:=yC n.Bufs k (by omega)
   refine zJ<|zK<|zT<|Y O<|zD O zAb<|zI zCl (J 0 O) O<|G O<|qI O el22 (by omega) (D (by assumption))<|yB O zCu<|zI zBt qD O<|qC O v<|zAf O<|G O<|rL0 O (fun g6_8=>zF O zAb O) O<|rL1 26 O (fun g6_8=>zH O zCl O (J 0 O) O) O<|rL0 O (fun g6_8=>zO O O) O<|rLz [(27,_),(28,_)] O gv1 ⟨O,O,O,O,T⟩ (fun g6_8=>qH O el22 O O (by omega) (D (by assumption))) O<|rL1 29 O (fun g6_8=>qU O zCc O) O<|rL1 30 O (fun g6_8=>zH O one9 O qD O) O<|rL1 31 O (fun g6_8=>wT O un9 O) O<|rL1 32 O (fun g6_8=>kD O O O) O<|r_or O (fun h=>(lzf h))<|zA<|zE O (fun c3=>?_) (fun c3=>?_)
   ·refine Y O<|G O<|zA<|zG<|zS O ?_
    rw [few_2 hb (fewB_t c3)]
   ·refine zJ<|zQ O<|G O<|qF O ⟨by omega,by omega⟩<|G O<|zA ?_
    refine ⟨k+1,⟨by omega,zCg hb hp (fewB_f c3)⟩,(by omega),Weak.mk [true] ⟨zC,zC,zC,T⟩ O⟩
  ·try simp only [sx] at c2
   refine qM<|Y O<|zD O zTx<|zI zHr (J 0 O) O<|G O<|zZ O ok34 (law30_FewStmts n.Body m x hf.body hf.len hm hx) ⟨zC,O,zC,O,T⟩<|G O<|zA<|zG<|zS O ?_
   rw [yP (by omega)] at hp;exact congrArg vB (few_3 (by omega) hp)
end Go.W
end
