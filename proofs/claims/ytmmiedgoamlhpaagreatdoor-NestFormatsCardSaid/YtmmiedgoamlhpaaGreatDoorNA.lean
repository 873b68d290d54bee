/-
  Walks: what functions of the program compute. Printed by wip/gen/mk2.py.
  Conditions: none.
-/
import Derived.Test.YtmmiedgoamlhpaaGreatDoorGA
import Derived.Test.YtmmiedgoamlhpaaGreatDoorEngZ
import Derived.Test.YtmmiedgoamlhpaaGreatDoorPlain2
set_option linter.unusedSimpArgs false
set_option linter.unusedVariables false
set_option maxRecDepth 10000
namespace Go.W
open Go Go.Eng Go.Proofs Go.L41 Go.Br
attribute [local irreducible] AWP RWP TD finQ
theorem zLe:aggT Tryz.prog 95=some 8:=by kernel_rfl
theorem el50:elemT Tryz.prog 50=some (95,8,88):=by kernel_rfl
theorem el51:elemT Tryz.prog 51=some (110,20,256):=by kernel_rfl
theorem zAt:fieldT Tryz.prog 53 0=some (0,50):=by kernel_rfl
theorem zHm:fieldT Tryz.prog 95 0=some (0,9):=by kernel_rfl
theorem zIn:fieldT Tryz.prog 95 1=some (1,65):=by kernel_rfl
theorem zEt:fieldT Tryz.prog 95 2=some (6,55):=by kernel_rfl
theorem zMe:fieldT Tryz.prog 95 3=some (7,3):=by kernel_rfl
theorem zAu:fieldT Tryz.prog 110 7=some (19,51):=by kernel_rfl
theorem ok45:callOk Tryz.prog 45=true:=by kernel_rfl
theorem ok46:callOk Tryz.prog 46=true:=by kernel_rfl
theorem ok82:callOk Tryz.prog 82=true:=by kernel_rfl
theorem ok83:callOk Tryz.prog 83=true:=by kernel_rfl
theorem ok94:callOk Tryz.prog 94=true:=by kernel_rfl
theorem ok128:callOk Tryz.prog 128=true:=by kernel_rfl
theorem ok130:callOk Tryz.prog 130=true:=by kernel_rfl
theorem ok131:callOk Tryz.prog 131=true:=by kernel_rfl
theorem ok132:callOk Tryz.prog 132=true:=by kernel_rfl
theorem ok189:callOk Tryz.prog 189=true:=by kernel_rfl
theorem ok312:callOk Tryz.prog 312=true:=by kernel_rfl
theorem zDv:oneT Tryz.prog 50=true:=by kernel_rfl
theorem zCg:oneT Tryz.prog 51=true:=by kernel_rfl
theorem zEh:oneT Tryz.prog 55=true:=by kernel_rfl
theorem pl95:placesT Tryz.prog 95=some [(0,1),(1,5),(6,1),(7,1)]:=by kernel_rfl
theorem sz55:(Tryz.prog.info? 55).map (·.size)=some 1:=by kernel_rfl
theorem sz95:(Tryz.prog.info? 95).map (·.size)=some 8:=by kernel_rfl
theorem zr95:zeroT Tryz.prog 95=some [(Value.string (ByteArray.mk #[])),(Value.int IntKind.i64 0),(Value.int IntKind.i64 0),(Value.int IntKind.i64 0),(Value.int IntKind.i64 0),(Value.int IntKind.i64 0),(Value.slice none 0 0),(Value.int IntKind.i64 0)]:=by kernel_rfl
theorem shape_Validate (d:List Int) (hl:d.length<=17592186044416):
    Pur cfg 132 [vIs d] (vI (dimsErr d)):=by
 refine zS Tryz.func132 O Tryz.ntmps132 Tryz.results132 O ?_
 intro z hz
 refine A O<|G O<|R<|zK<|A O<|G O<|zZ O el55<|zT O (yA O O O)<|R<|zC O (fun c1=>?_) (fun c1=>?_)
 ·try simp only [sx] at c1
  have hlong:=dims_long (d:=d) (by omega)
  refine A O<|G O<|R<|zF<|zQ O ?_
  rw [hlong]
 ·try simp only [sx] at c1
  refine zI<|zK<|A O<|G O<|zZ O el55<|G O<|R<|zR<|zX ⟨[(13,.c _),(0,.c _),(11,.c _),(12,.c _)],[]⟩ (Weak.mk [] ⟨Y,Y,Y,Y,T⟩ O)<|qG 1 0 O O (Nat) (fun k=>[(13,vI k)]) (fun k=>[]) (fun k=>k<=d.length/\((d.take k).all posI=true)) (fun k=>d.length-k) ⟨0,⟨by omega,O⟩,Weak.mk [] ⟨Y,Y,Y,Y,T⟩ O⟩ ?_
  rintro k ⟨hk,hp⟩
  refine A O<|yJ O<|R<|zK<|zC O (fun c2=>?_) (fun c2=>?_)
  ·try simp only [sx] at c2
   obtain ⟨n,hn⟩:=qY d k (by omega)
   refine zI<|zK<|zR<|A O<|qE O el55 (by omega) (getm (by assumption))<|zM one3 qA O<|G O<|R<|A O<|G O<|yJ O<|R<|zC O (fun c3=>?_) (fun c3=>?_)
   ·try simp only [sx] at c3
    have hneg:=dims_neg (d:=d) (by omega) hn c3
    refine A O<|G O<|R<|zF<|zQ O ?_
    rw [hneg]
   ·try simp only [sx] at c3
    refine zI<|zN O<|qI O ⟨by omega,by omega⟩<|G O<|R ?_
    refine ⟨k+1,⟨by omega,zEu hn hp (by unfold posI;exact decide_eq_true (by omega))⟩,(by omega),Weak.mk [] ⟨Y,Y,Y,Y,T⟩ O⟩
  ·try simp only [sx] at c2
   have hpos:d.all posI=true:=by rw [yE (by omega)] at hp;exact hp
   refine qP<|A O<|G O<|R<|zK<|A O<|G O<|zZ O el55<|G O<|R<|zR<|zX ⟨[(22,.c _),(5,.c _),(20,.c _),(21,.c _)],[]⟩ (Weak.mk [] ⟨Y,Y,Y,Y,T⟩ O)<|qG 2 0 O O (Nat×Int) (fun ⟨j,s⟩=>[(22,vI j),(5,vI s)]) (fun ⟨j,s⟩=>[]) (fun ⟨j,s⟩=>j<=d.length/\(1<=s)/\(s<=4096)/\(sizeFrom 1 d=sizeFrom s (d.drop j))) (fun ⟨j,s⟩=>d.length-j) ⟨⟨0,1⟩,⟨by omega,by omega,by omega,O⟩,Weak.mk [] ⟨Y,VLe.of_eq (O),Y,Y,T⟩ O⟩ ?_
   rintro ⟨j,s⟩ ⟨hj,hs1,hs2,hs3⟩
   show AWP _ _ _ _ _ ⟨[(22,vI j),(5,vI s)]++_,[]++_⟩
   refine A O<|yJ O<|R<|zK<|zC O (fun c4=>?_) (fun c4=>?_)
   ·try simp only [sx] at c4
    obtain ⟨m,hm⟩:=qY d j (by omega)
    refine zI<|zK<|zR<|A O<|qE O el55 (by omega) (getm (by assumption))<|zM one3 qA O<|G O<|R<|zK<|A O<|G O<|G O<|zT O (det_quo O O O (by omega))<|zT O (yA O O O)<|R<|zC O (fun c5=>?_) (fun c5=>?_)
    ·try simp only [sx] at c5
     have hov:=quo_t hs1 c5
     refine A O<|G O<|R<|zF<|zQ O ?_
     rw [zSw (by omega) hpos (zQz hm hs3 hov)]
    ·try simp only [sx] at c5
     have hov:=quo_f hs1 (Int.not_lt.2 c5)
     have hm1:=zLs hs1 (zJg hpos hm)
     refine zI<|zN O<|G O<|G O<|zT O (zJq O O O (by have:=zLs hs1 (zJg hpos hm);exact ⟨by omega,by omega⟩))<|G O<|R<|zN O<|qI O ⟨by omega,by omega⟩<|G O<|R ?_
     refine ⟨⟨j+1,s*m⟩,⟨by omega,by omega,by omega,size_next hm hs3 hov⟩,(by show d.length-(j+1)<d.length-j;omega),Weak.mk [] ⟨Y,Y,Y,Y,T⟩ O⟩
   ·try simp only [sx] at c4
    refine qP<|A O<|G O<|R<|zF<|zQ O ?_
    rw [dims_ok (by omega) hpos (size_done hs3 (by omega))]
theorem ref11_Validate (d:List Int) (hl:d.length<=17592186044416):
    Pur cfg 94 [vIs d] (vI (dimsErr d)):=by
 refine zS Tryz.func94 O Tryz.ntmps94 Tryz.results94 O ?_
 intro z hz
 refine A O<|G O<|R<|zK<|A O<|G O<|zZ O el55<|zT O (yA O O O)<|R<|zC O (fun c1=>?_) (fun c1=>?_)
 ·try simp only [sx] at c1
  have hlong:=dims_long (d:=d) (by omega)
  refine A O<|G O<|R<|zF<|zQ O ?_
  rw [hlong]
 ·try simp only [sx] at c1
  refine zI<|zK<|A O<|G O<|R<|zR<|zX ⟨[(3,.c _),(0,.c _)],[]⟩ (Weak.mk [] ⟨Y,Y,T⟩ O)<|qG 1 0 O O (Nat) (fun k=>[(3,vI k)]) (fun k=>[]) (fun k=>k<=d.length/\((d.take k).all posI=true)) (fun k=>d.length-k) ⟨0,⟨by omega,O⟩,Weak.mk [] ⟨Y,Y,T⟩ O⟩ ?_
  rintro k ⟨hk,hp⟩
  refine zK<|A O<|G O<|G O<|zZ O el55<|yJ O<|R<|zC O (fun c2=>?_) (fun c2=>?_)
  ·try simp only [sx] at c2
   obtain ⟨n,hn⟩:=qY d k (by omega)
   refine zI<|zK<|zR<|A O<|G O<|G O<|qE O el55 (by omega) (getm (by assumption))<|zM one3 qA O<|yJ O<|R<|zC O (fun c3=>?_) (fun c3=>?_)
   ·try simp only [sx] at c3
    have hneg:=dims_neg (d:=d) (by omega) hn c3
    refine A O<|G O<|R<|zF<|zQ O ?_
    rw [hneg]
   ·try simp only [sx] at c3
    refine zI<|zN O<|G O<|qI O ⟨by omega,by omega⟩<|G O<|R ?_
    refine ⟨k+1,⟨by omega,zEu hn hp (by unfold posI;exact decide_eq_true (by omega))⟩,(by omega),Weak.mk [] ⟨Y,Y,T⟩ O⟩
  ·try simp only [sx] at c2
   have hpos:d.all posI=true:=by rw [yE (by omega)] at hp;exact hp
   refine qP<|A O<|G O<|R<|zK<|A O<|G O<|R<|zR<|zX ⟨[(5,.c _),(4,.c _),(0,.c _)],[]⟩ (Weak.mk [] ⟨Y,Y,Y,T⟩ O)<|qG 2 0 O O (Nat×Int) (fun ⟨j,s⟩=>[(5,vI j),(4,vI s)]) (fun ⟨j,s⟩=>[]) (fun ⟨j,s⟩=>j<=d.length/\(1<=s)/\(s<=4096)/\(sizeFrom 1 d=sizeFrom s (d.drop j))) (fun ⟨j,s⟩=>d.length-j) ⟨⟨0,1⟩,⟨by omega,by omega,by omega,O⟩,Weak.mk [] ⟨Y,VLe.of_eq (O),Y,T⟩ O⟩ ?_
   rintro ⟨j,s⟩ ⟨hj,hs1,hs2,hs3⟩
   show AWP _ _ _ _ _ ⟨[(5,vI j),(4,vI s)]++_,[]++_⟩
   refine zK<|A O<|G O<|G O<|zZ O el55<|yJ O<|R<|zC O (fun c4=>?_) (fun c4=>?_)
   ·try simp only [sx] at c4
    obtain ⟨m,hm⟩:=qY d j (by omega)
    refine zI<|zK<|zR<|zK<|A O<|G O<|G O<|qE O el55 (by omega) (getm (by assumption))<|zM one3 qA O<|zT O (yA O O O)<|R<|zC O (fun c5=>?_) (fun c5=>?_)
    ·try simp only [sx] at c5
     have hov:4096<s*m:=by have:=zLs hs1 (zJg hpos hm);omega
     refine A O<|G O<|R<|zF<|zQ O ?_
     rw [zSw (by omega) hpos (zQz hm hs3 hov)]
    ·try simp only [sx] at c5
     have hm1:=zLs hs1 (zJg hpos hm)
     refine zI<|A O<|G O<|G O<|G O<|qE O el55 (by omega) (getm (by assumption))<|zM one3 qA O<|zT O (zJq O O O (by have:=zLs hs1 (zJg hpos hm);have hm0:=zJg hpos hm;have:s*m<=4096*4096:=Int.mul_le_mul (by omega) (by omega) (by omega) (by omega);exact ⟨by omega,by omega⟩))<|G O<|R<|A O<|G O<|zT O (yA O O O)<|R<|zC O (fun c6=>?_) (fun c6=>?_)
     ·try simp only [sx] at c6
      refine A O<|G O<|R<|zF<|zQ O ?_
      rw [zSw (by omega) hpos (zQz hm hs3 (by omega))]
     ·try simp only [sx] at c6
      refine zI<|zN O<|G O<|qI O ⟨by omega,by omega⟩<|G O<|R ?_
      refine ⟨⟨j+1,s*m⟩,⟨by omega,by omega,by omega,size_next hm hs3 (by omega)⟩,(by show d.length-(j+1)<d.length-j;omega),Weak.mk [] ⟨Y,Y,Y,T⟩ O⟩
   ·try simp only [sx] at c4
    refine qP<|A O<|G O<|R<|zF<|zQ O ?_
    rw [dims_ok (by omega) hpos (size_done hs3 (by omega))]
theorem zHg (l:List Int) (hl:l.length<=17592186044416):
    OwnR cfg 128 [vIs l] 3 1 (l.map fun n=>[cI n]):=by
 refine zS Tryz.func128 O Tryz.ntmps128 Tryz.results128 O ?_
 intro z hz
 refine A O<|zT O (kE 1 O O)<|R<|zK<|A O<|G O<|zU O O (zRs O el55 O O) ?_
 rintro _ _ ⟨nb1,rfl,hnil1,rfl⟩
 refine R<|zC O (fun c1=>?_) (fun c1=>?_)
 ·try simp only [sx] at c1
  refine A O<|G O<|yX _ (wI 3 1)<|R<|zF<|zQ O ?_
  exact ⟨_,O,by rw [hnil1 c1]⟩
 ·try simp only [sx] at c1
  refine zI<|A O<|zU O O (zJh O el55 zr3 O O O O) ?_
  rintro _ _ ⟨sv3,rfl,rfl⟩
  refine G O<|zU O O (kG 0 O el55 O O O (by simp only [List.length_map,List.length_nil,Nat.zero_add];omega) (by simp only [List.length_map,List.length_nil,Nat.zero_add];omega)) ?_
  rintro _ _ ⟨sv4,rfl,rfl⟩
  refine G O<|R<|zF<|zQ O ?_
  exact ⟨_,O,O⟩
theorem zKx (b:Bf) (hl:b.Dims.length<=17592186044416):
    Pur cfg 312 [vBf b] (vBf b):=by
 refine zS Tryz.func312 O Tryz.ntmps312 Tryz.results312 O ?_
 intro z hz
 refine A O<|zU O O (qN O O) ?_
 rintro _ _ ⟨b1,rfl,rfl⟩
 refine zU O O (qT [none,none,none,none,none,none,some 1,none] O zr95 O) ?_
 rintro _ _ ⟨b2,rfl,rfl⟩
 refine R<|A O<|zH O zEt<|zM zEh (zD 1 O) O<|qK O ok128 (OwnR.pur (zHg b.Dims hl)) ⟨Y,O,T⟩<|zH O zEt<|rStR 1 sz55 O<|R<|A O<|zO zLe (zD 1 O) O<|rStR 0 sz95 O<|R<|zF<|v (qL zLe O (zD 0 O) O) ?_
 exact O
theorem zAs (n:Ns) (s:ByteArray) (hn:n.Ok):
    Pur cfg 254 [vNs n,vS s] (.tup [vBf (bufD n.Bufs s),vB (hasBf n.Bufs s)]):=by
 refine zS Tryz.func254 O Tryz.ntmps254 Tryz.results254 O ?_
 intro z hz
 have hnb:=hn.bufs
 refine A O<|zU O O (qN O O) ?_
 rintro _ _ ⟨b1,rfl,rfl⟩
 refine zU O O (qT [none,none,none,none,none,none,some 1,none] O zr95 O) ?_
 rintro _ _ ⟨b2,rfl,rfl⟩
 refine G O<|R<|zK<|A O<|zH O zAt<|zM zDv (zD 1 O) O<|zZ O el50<|G O<|R<|zR<|zX ⟨[(10,.c _),(1,.c _),(2,.c _),(4,.c _),(9,.c _)],[_,_]⟩ (Weak.mk [true,true] ⟨Y,Y,Y,Y,Y,T⟩ O)<|qG 1 0 O O (Nat) (fun k=>[(10,vI k)]) (fun k=>[]) (fun k=>k<=n.Bufs.length/\(hasBf (n.Bufs.take k) s=false)/\(bufD n.Bufs s=bufD (n.Bufs.drop k) s)) (fun k=>n.Bufs.length-k) ⟨0,⟨by omega,O,O⟩,Weak.mk [true,true] ⟨Y,Y,Y,Y,Y,T⟩ O⟩ ?_
 rintro k ⟨hk,hp,hq⟩
 refine A O<|yJ O<|R<|zK<|zC O (fun c1=>?_) (fun c1=>?_)
 ·try simp only [sx] at c1
  obtain ⟨b,hb⟩:=qY n.Bufs k (by omega)
  refine zI<|zK<|zR<|A O<|G O<|G O<|R<|A O<|zH O zAt<|zM zDv (zD 1 O) O<|G O<|qE O el50 (by omega) (getm (by assumption))<|yB O zHm<|zM one9 qA O<|G O<|wF O<|R<|zC O (fun c2=>?_) (fun c2=>?_)
  ·try simp only [sx] at c2
   refine A O<|zH O zAt<|zM zDv (zD 1 O) O<|G O<|qE O el50 (by omega) (getm (by assumption))<|zO zLe qA O<|qK O ok312 (zKx b (hn.dims b (zY hb))) ⟨Y,O,T⟩<|rStR 0 sz95 O<|G O<|R<|zF<|D (qL zLe O (zD 0 O) O) (B O) ?_
   rw [hasBf_at hb c2,hq,bufD_at hb c2];rfl
  ·try simp only [sx] at c2
   refine zI<|zN O<|qI O ⟨by omega,by omega⟩<|G O<|R ?_
   refine ⟨k+1,⟨by omega,zNp hb hp c2,hq.trans (bufD_next hb c2)⟩,(by omega),Weak.mk [true,true] ⟨Y,Y,Y,Y,Y,T⟩ O⟩
 ·try simp only [sx] at c1
  refine qP<|A O<|zT O (wG [none,none,none,none,none,none,some 1,none] O zr95 pl95 O O)<|rStR 0 sz95 O<|G O<|R<|zF<|D (qL zLe O (zD 0 O) O) (B O) ?_
  rw [yE (by omega)] at hp;rw [hp,bufD_no hp];rfl
theorem zCu (n:Ns) (s:ByteArray) (hn:n.Ok):
    Pur cfg 144 [vNs n,vS s] (.tup [vBf (bufD n.Bufs s),vB (hasBf n.Bufs s)]):=by
 refine zS Tryz.func144 O Tryz.ntmps144 Tryz.results144 O ?_
 intro z hz
 have hnb:=hn.bufs
 refine A O<|zU O O (qN O O) ?_
 rintro _ _ ⟨b1,rfl,rfl⟩
 refine zU O O (qT [none,none,none,none,none,none,some 1,none] O zr95 O) ?_
 rintro _ _ ⟨b2,rfl,rfl⟩
 refine G O<|R<|zK<|A O<|G O<|R<|zR<|zX ⟨[(6,.c _),(1,.c _),(2,.c _),(4,.c _)],[_,_]⟩ (Weak.mk [true,true] ⟨Y,Y,Y,Y,T⟩ O)<|qG 1 0 O O (Nat) (fun k=>[(6,vI k)]) (fun k=>[]) (fun k=>k<=n.Bufs.length/\(hasBf (n.Bufs.take k) s=false)/\(bufD n.Bufs s=bufD (n.Bufs.drop k) s)) (fun k=>n.Bufs.length-k) ⟨0,⟨by omega,O,O⟩,Weak.mk [true,true] ⟨Y,Y,Y,Y,T⟩ O⟩ ?_
 rintro k ⟨hk,hp,hq⟩
 refine zK<|A O<|G O<|zH O zAt<|zM zDv (zD 1 O) O<|zZ O el50<|yJ O<|R<|zC O (fun c1=>?_) (fun c1=>?_)
 ·try simp only [sx] at c1
  obtain ⟨b,hb⟩:=qY n.Bufs k (by omega)
  refine zI<|zK<|zR<|A O<|zH O zAt<|zM zDv (zD 1 O) O<|G O<|qE O el50 (by omega) (getm (by assumption))<|yB O zHm<|zM one9 qA O<|G O<|wF O<|R<|zC O (fun c2=>?_) (fun c2=>?_)
  ·try simp only [sx] at c2
   refine A O<|zH O zAt<|zM zDv (zD 1 O) O<|G O<|qE O el50 (by omega) (getm (by assumption))<|zO zLe qA O<|rStR 0 sz95 O<|G O<|R<|zF<|D (qL zLe O (zD 0 O) O) (B O) ?_
   rw [hasBf_at hb c2,hq,bufD_at hb c2];rfl
  ·try simp only [sx] at c2
   refine zI<|zN O<|G O<|qI O ⟨by omega,by omega⟩<|G O<|R ?_
   refine ⟨k+1,⟨by omega,zNp hb hp c2,hq.trans (bufD_next hb c2)⟩,(by omega),Weak.mk [true,true] ⟨Y,Y,Y,Y,T⟩ O⟩
 ·try simp only [sx] at c1
  refine qP<|A O<|zT O (wG [none,none,none,none,none,none,some 1,none] O zr95 pl95 O O)<|rStR 0 sz95 O<|G O<|R<|zF<|D (qL zLe O (zD 0 O) O) (B O) ?_
  rw [yE (by omega)] at hp;rw [hp,bufD_no hp];rfl
theorem zQc (n:Nat) (ih:n≠0->∀(l:List St) (x:Int),stsWt l<=1073741824->x=((n-1:Nat):Int)->Pur cfg 82 [vSts l,vI x] (vB (withinT (n-1) l))) (l:List St) (x:Int) (hn:n<=100) (hl:stsWt l<=1073741824) (hx:x=n):
    Pur cfg 82 [vSts l,vI x] (vB (withinT n l)):=by
 refine zS Tryz.func82 O Tryz.ntmps82 Tryz.results82 O ?_
 intro z hz
 have hll:=zAe l
 refine A O<|G O<|R<|zK<|A O<|G O<|zZ O el51<|G O<|R<|zR<|zX ⟨[(8,.c _),(0,.c _),(1,.c _),(7,.c _)],[]⟩ (Weak.mk [] ⟨Y,Y,Y,Y,T⟩ O)<|qG 1 0 O O (Nat) (fun k=>[(8,vI k)]) (fun k=>[]) (fun k=>k<=l.length/\(withinG n (l.take k)=true)) (fun k=>l.length-k) ⟨0,⟨by omega,by cases n<;>rfl⟩,Weak.mk [] ⟨Y,Y,Y,Y,T⟩ O⟩ ?_
 rintro k ⟨hk,hp⟩
 refine A O<|yJ O<|R<|zK<|zC O (fun c1=>?_) (fun c1=>?_)
 ·try simp only [sx] at c1
  obtain ⟨s,hs⟩:=qY l k (by omega)
  refine zI<|zK<|zR<|A O<|G O<|G O<|R<|A O<|G O<|yJ O<|G O<|rL0 O (fun g4_2=>zP O O) O<|rL0 O (fun g4_2=>zP O O) O<|rLz [(14,_),(15,_)] O gv1 ⟨O,O,O,O,T⟩ (fun g4_2=>qO O el51 O O (by omega) (zDc hs)) O<|rL1 16 O (fun g4_2=>qW O zAu O) O<|rL1 17 O (fun g4_2=>zJ O zCg O qA O) O<|rL0 O (fun g4_2=>zP O O) O<|rL1 19 O (fun g4_2=>yD O O O ⟨by omega,by omega⟩) O<|rLz [(18,_),(20,_)] O gv1 ⟨O,O,O,O,T⟩ (fun g4_2=>qC O ok82 (ih (by simp only [Lz,cond_true,cond_false,Bool.and_eq_true,Bool.or_eq_true,Bool.not_eq_true',Bool.not_eq_false',Bool.or_eq_false_iff,Bool.and_eq_false_iff,decide_eq_true_eq,decide_eq_false_iff_not,Bool.not_eq_true,Bool.not_eq_false] at g4_2;omega) s.Body _ (by have:=St.body_wt s;have:=kK (zY hs);omega) (by simp only [Lz,cond_true,cond_false,Bool.and_eq_true,Bool.or_eq_true,Bool.not_eq_true',Bool.not_eq_false',Bool.or_eq_false_iff,Bool.and_eq_false_iff,decide_eq_true_eq,decide_eq_false_iff_not,Bool.not_eq_true,Bool.not_eq_false] at g4_2;omega)) ⟨Y,O,Y,O,T⟩) O<|rL1 21 O (fun g4_2=>wL O O) O<|r_or O (fun h=>(lzf h))<|R<|zC O (fun c2=>?_) (fun c2=>?_)
  ·have hno:=within_no hs hx c2
   refine A O<|G O<|R<|zF<|zQ O ?_
   rw [hno]
  ·have hyes:=within_yes hx c2
   refine zI<|zN O<|qI O ⟨by omega,by omega⟩<|G O<|R ?_
   refine ⟨k+1,⟨by omega,withinG_next hs hp hyes.1 hyes.2⟩,(by omega),Weak.mk [] ⟨Y,Y,Y,Y,T⟩ O⟩
 ·try simp only [sx] at c1
  refine qP<|A O<|G O<|R<|zF<|zQ O ?_
  rw [yE (by omega),withinG_eq] at hp;rw [hp]
theorem zSg (n:Nat) (l:List St) (x:Int) (hn:n<=100) (hl:stsWt l<=1073741824) (hx:x=n):Pur cfg 82 [vSts l,vI x] (vB (withinT n l)):=by
  induction n generalizing l x with
  |zero=>exact zQc 0 (fun h=>absurd rfl h) l x hn hl hx
  |succ n ih=>exact zQc (n+1) (fun _ l x h1 h2=>ih l x (by omega) h1 (by omega)) l x hn hl hx
theorem depth_step (n:Nat) (ih:n≠0->∀(l:List St) (x:Int),stsWt l<=1073741824->x=((n-1:Nat):Int)->Pur cfg 45 [vSts l,vI x] (vI (depS (n-1) l))) (l:List St) (x:Int) (hn:n<=100) (hl:stsWt l<=1073741824) (hx:x=n):
    Pur cfg 45 [vSts l,vI x] (vI (depS n l)):=by
 refine zS Tryz.func45 O Tryz.ntmps45 Tryz.results45 O ?_
 intro z hz
 have hll:=zAe l
 refine A O<|G O<|R<|A O<|G O<|R<|zK<|A O<|G O<|R<|zR<|zX ⟨[(5,.c _),(6,.c _),(0,.c _),(1,.c _)],[]⟩ (Weak.mk [] ⟨Y,Y,Y,Y,T⟩ O)<|qG 2 0 O O (Nat×Int) (fun ⟨k,d⟩=>[(5,vI d),(6,vI k)]) (fun ⟨k,d⟩=>[]) (fun ⟨k,d⟩=>k<=l.length/\0<=d/\d<=100/\d=depS n (l.take k)) (fun ⟨k,d⟩=>l.length-k) ⟨⟨0,0⟩,⟨by omega,by omega,by omega,by cases n<;>rfl⟩,Weak.mk [] ⟨VLe.of_eq (O),Y,Y,Y,T⟩ O⟩ ?_
 rintro ⟨k,d⟩ ⟨hk,hd0,hd1,hd⟩
 show AWP _ _ _ _ _ ⟨[(5,vI d),(6,vI k)]++_,[]++_⟩
 refine zK<|A O<|G O<|G O<|zZ O el51<|yJ O<|G O<|rL0 O (fun g3_4=>zP O O) O<|rL1 12 O (fun g3_4=>yA O O O) O<|yZ O (fun h=>h)<|R<|zC O (fun c1=>?_) (fun c1=>?_)
 ·try simp only [sx] at c1
  obtain ⟨s,hs⟩:=qY l k (by omega)
  have hle:=depS_le (n-1) s.Body
  refine zI<|zK<|zR<|zN O<|G O<|G O<|G O<|qE O el51 (by omega) (zDc hs)<|yB O zAu<|zM zCg qA O<|G O<|zT O (yD O O O ⟨by omega,by omega⟩)<|qK O ok45 (ih (by omega) s.Body _ (by have:=St.body_wt s;have:=kK (zY hs);omega) (by omega)) ⟨Y,O,Y,O,T⟩<|qI O ⟨by omega,by omega⟩<|zT O (zLb O O O)<|G O<|R<|zN O<|G O<|qI O ⟨by omega,by omega⟩<|G O<|R ?_
  refine ⟨⟨k+1,max d (1+depS (n-1) s.Body)⟩,⟨by omega,by omega,by omega,by rw [depS_next hs (by omega),←hd]⟩,(by dsimp only;omega),Weak.mk [] ⟨Y,Y,Y,Y,T⟩ O⟩
 ·try simp only [sx] at c1
  refine qP<|A O<|G O<|G O<|R<|zF<|zQ O ?_
  exact congrArg vI (depS_stop hx hd (by omega))
theorem ref30_depth (n:Nat) (l:List St) (x:Int) (hn:n<=100) (hl:stsWt l<=1073741824) (hx:x=n):Pur cfg 45 [vSts l,vI x] (vI (depS n l)):=by
  induction n generalizing l x with
  |zero=>exact depth_step 0 (fun h=>absurd rfl h) l x hn hl hx
  |succ n ih=>exact depth_step (n+1) (fun _ l x h1 h2=>ih l x (by omega) h1 (by omega)) l x hn hl hx
theorem zCy (l:List St) (ih:∀s,s∈l->∀(m:Nat) (x:Int),m<=2147483648->x=m->Pur cfg 83 [vSts s.Body,vI x] (vI (numB s.Body m))) (m:Nat) (x:Int) (hl:stsWt l<=1073741824) (hm:m<=2147483648) (hx:x=m):
    Pur cfg 83 [vSts l,vI x] (vI (numB l m)):=by
 refine zS Tryz.func83 O Tryz.ntmps83 Tryz.results83 O ?_
 intro z hz
 have hll:=zAe l
 have hNw:=zHr l
 refine A O<|G O<|R<|A O<|G O<|zZ O el51<|G O<|R<|zK<|A O<|G O<|zZ O el51<|G O<|R<|zR<|zX ⟨[(11,.c _),(5,.c _),(0,.c _),(1,.c _),(10,.c _)],[]⟩ (Weak.mk [] ⟨Y,Y,Y,Y,Y,T⟩ O) ?_
 refine qG 2 0 O O (Nat×Nat) (fun ⟨k,n⟩=>[(11,vI k),(5,vI n)]) (fun ⟨k,n⟩=>[]) (fun ⟨k,n⟩=>k<=l.length/\(n<=4294967296)/\(numB l m=numL (l.drop k) m n)) (fun ⟨k,n⟩=>l.length-k) ⟨⟨0,l.length⟩,⟨by omega,by omega,O⟩,Weak.mk [] ⟨Y,VLe.of_eq (congrArg vI (by simp)),Y,Y,Y,T⟩ O⟩ ?_
 rintro ⟨k,n⟩ ⟨hk,hn,hp⟩
 show AWP _ _ _ _ _ ⟨[(11,vI k),(5,vI n)]++_,[]++_⟩
 refine A O<|yJ O<|R<|zK<|zC O (fun c1=>?_) (fun c1=>?_)
 ·try simp only [sx] at c1
  obtain ⟨s,hs⟩:=qY l k (by omega)
  refine zI<|zK<|zR<|A O<|G O<|G O<|R<|zK<|A O<|G O<|G O<|zT O (yA O O O)<|R<|zC O (fun c2=>?_) (fun c2=>?_)
  ·try simp only [sx] at c2
   refine qP<|A O<|G O<|G O<|R<|zF<|zQ O ?_
   exact congrArg vI (by rw [←num_end hp (by omega)])
  ·try simp only [sx] at c2
   have hsum:=num_sum hs hp (by omega)
   have hbl:=numB_le s.Body (m-n)
   have hsn:=zLj (zY hs)
   have hse:=zKb s
   refine zI<|zN O<|G O<|G O<|G O<|qE O el51 (by omega) (zDc hs)<|yB O zAu<|zM zCg qA O<|G O<|G O<|zT O (yD O O O ⟨by omega,by omega⟩)<|qK O ok83 (ih s (zY hs) (m-n) _ (by omega) (by omega)) ⟨Y,O,Y,O,T⟩<|qI O ⟨by omega,by omega⟩<|G O<|R<|zN O<|qI O ⟨by omega,by omega⟩<|G O<|R ?_
   refine ⟨⟨k+1,n+numB s.Body (m-n)⟩,⟨by omega,by omega,num_next hs hp (by omega)⟩,(by show l.length-(k+1)<l.length-k;omega),Weak.mk [] ⟨Y,VLe.of_eq (congrArg vI (by omega)),Y,Y,Y,T⟩ O⟩
 ·try simp only [sx] at c1
  refine qP<|A O<|G O<|G O<|R<|zF<|zQ O ?_
  exact congrArg vI (by rw [←num_end hp (by omega)])
theorem zGq (s:St):∀(m:Nat) (x:Int),stsWt s.Body<=1073741824->m<=2147483648->x=m->Pur cfg 83 [vSts s.Body,vI x] (vI (numB s.Body m)):=by
  induction s using St.ind with
  |_ s ih=>exact fun m x hl hm hx=>zCy s.Body (fun a ha m x h1 h2=>ih a ha m x (by have:=St.body_wt a;have:=kK ha;omega) h1 h2) m x hl hm hx
theorem zLu (l:List St) (m:Nat) (x:Int) (hl:stsWt l<=1073741824) (hm:m<=2147483648) (hx:x=m):Pur cfg 83 [vSts l,vI x] (vI (numB l m)):=
  zCy l (fun a ha m x h1 h2=>zGq a m x (by have:=St.body_wt a;have:=kK ha;omega) h1 h2) m x hl hm hx
theorem zHz (l:List St) (ih:∀s,s∈l->∀(m:Nat) (x:Int),m<=2147483648->x=m->Pur cfg 46 [vSts s.Body,vI x] (vI (numB s.Body m))) (m:Nat) (x:Int) (hl:stsWt l<=1073741824) (hm:m<=2147483648) (hx:x=m):
    Pur cfg 46 [vSts l,vI x] (vI (numB l m)):=by
 refine zS Tryz.func46 O Tryz.ntmps46 Tryz.results46 O ?_
 intro z hz
 have hll:=zAe l
 have hNw:=zHr l
 refine A O<|G O<|R<|A O<|G O<|zZ O el51<|G O<|R<|zK<|A O<|G O<|R<|zR<|zX ⟨[(6,.c _),(5,.c _),(0,.c _),(1,.c _)],[]⟩ (Weak.mk [] ⟨Y,Y,Y,Y,T⟩ O) ?_
 refine qG 2 0 O O (Nat×Nat) (fun ⟨k,n⟩=>[(6,vI k),(5,vI n)]) (fun ⟨k,n⟩=>[]) (fun ⟨k,n⟩=>k<=l.length/\(n<=4294967296)/\(numB l m=numL (l.drop k) m n)) (fun ⟨k,n⟩=>l.length-k) ⟨⟨0,l.length⟩,⟨by omega,by omega,O⟩,Weak.mk [] ⟨Y,VLe.of_eq (congrArg vI (by simp)),Y,Y,T⟩ O⟩ ?_
 rintro ⟨k,n⟩ ⟨hk,hn,hp⟩
 show AWP _ _ _ _ _ ⟨[(6,vI k),(5,vI n)]++_,[]++_⟩
 refine zK<|A O<|G O<|G O<|zZ O el51<|yJ O<|G O<|rL0 O (fun g3_4=>zP O O) O<|rL0 O (fun g3_4=>zP O O) O<|rLz [(14,_),(15,_)] O gv1 ⟨O,O,O,O,T⟩ (fun g3_4=>zAa O O O) O<|yZ O (fun h=>h)<|R<|zC O (fun c1=>?_) (fun c1=>?_)
 ·try simp only [sx] at c1
  obtain ⟨s,hs⟩:=qY l k (by omega)
  have hsum:=num_sum hs hp (by omega)
  have hbl:=numB_le s.Body (m-n)
  have hsn:=zLj (zY hs)
  have hse:=zKb s
  refine zI<|zK<|zR<|zN O<|G O<|G O<|G O<|qE O el51 (by omega) (zDc hs)<|yB O zAu<|zM zCg qA O<|G O<|G O<|zT O (yD O O O ⟨by omega,by omega⟩)<|zT O (zLb O O O)<|qK O ok46 (ih s (zY hs) (m-n) _ (by omega) (by omega)) ⟨Y,O,Y,O,T⟩<|qI O ⟨by omega,by omega⟩<|G O<|R<|zN O<|G O<|qI O ⟨by omega,by omega⟩<|G O<|R ?_
  refine ⟨⟨k+1,n+numB s.Body (m-n)⟩,⟨by omega,by omega,num_next hs hp (by omega)⟩,(by show l.length-(k+1)<l.length-k;omega),Weak.mk [] ⟨Y,VLe.of_eq (congrArg vI (by omega)),Y,Y,T⟩ O⟩
 ·try simp only [sx] at c1
  refine qP<|A O<|G O<|G O<|R<|zF<|zQ O ?_
  exact congrArg vI (by rw [←num_end hp (by omega)])
theorem zRe (s:St):∀(m:Nat) (x:Int),stsWt s.Body<=1073741824->m<=2147483648->x=m->Pur cfg 46 [vSts s.Body,vI x] (vI (numB s.Body m)):=by
  induction s using St.ind with
  |_ s ih=>exact fun m x hl hm hx=>zHz s.Body (fun a ha m x h1 h2=>ih a ha m x (by have:=St.body_wt a;have:=kK ha;omega) h1 h2) m x hl hm hx
theorem ref30_size (l:List St) (m:Nat) (x:Int) (hl:stsWt l<=1073741824) (hm:m<=2147483648) (hx:x=m):Pur cfg 46 [vSts l,vI x] (vI (numB l m)):=
  zHz l (fun a ha m x h1 h2=>zRe a m x (by have:=St.body_wt a;have:=kK ha;omega) h1 h2) m x hl hm hx
theorem zKs (l:List Bf) (c:C) (p:Bf->Bool) (hl:l.length<=4294967296) (hc:∀x,x∈l->FnPur cfg c [vBf x] (vB (p x))):
    Pur cfg 189 [vBfs l,.c c] (vI (idxOf p l)):=by
 refine zS Tryz.func189 O Tryz.ntmps189 Tryz.results189 O ?_
 intro z hz
 refine A O<|G O<|R<|zK<|A O<|G O<|zZ O el50<|G O<|R<|zR<|zX ⟨[(8,.c _),(0,.c _),(1,.c _),(7,.c _)],[]⟩ (Weak.mk [] ⟨Y,Y,Y,Y,T⟩ O)<|qG 1 0 O O (Nat) (fun k=>[(8,vI k)]) (fun k=>[]) (fun k=>k<=l.length/\((l.take k).any p=false)) (fun k=>l.length-k) ⟨0,⟨by omega,O⟩,Weak.mk [] ⟨Y,Y,Y,Y,T⟩ O⟩ ?_
 rintro k ⟨hk,hp⟩
 refine A O<|yJ O<|R<|zK<|zC O (fun c1=>?_) (fun c1=>?_)
 ·try simp only [sx] at c1
  obtain ⟨x,hx⟩:=qY l k (by omega)
  refine zI<|zK<|zR<|A O<|G O<|G O<|R<|A O<|G O<|G O<|G O<|qE O el50 (by omega) (getm (by assumption))<|zO zLe qA O<|zT O (zAx O O (hc _ (zY hx)) ⟨Y,O,T⟩)<|R<|zC O (fun c2=>?_) (fun c2=>?_)
  ·try simp only [sx] at c2
   refine A O<|G O<|G O<|R<|zF<|zQ O ?_
   rw [zPl hx c2 hp]
  ·try simp only [sx] at c2
   refine zI<|zN O<|qI O ⟨by omega,by omega⟩<|G O<|R ?_
   refine ⟨k+1,⟨by omega,zJt hx hp c2⟩,(by omega),Weak.mk [] ⟨Y,Y,Y,Y,T⟩ O⟩
 ·try simp only [sx] at c1
  refine qP<|A O<|G O<|R<|zF<|zQ O ?_
  rw [zJl (by rw [yE (by omega)] at hp;exact hp)]
theorem zHo (l:List Bf) (c:C) (p:Bf->Bool) (hl:l.length<=4294967296) (hc:∀x,x∈l->FnPur cfg c [vBf x] (vB (p x))):
    Pur cfg 130 [vBfs l,.c c] (vB (l.any p)):=by
 refine zS Tryz.func130 O Tryz.ntmps130 Tryz.results130 O ?_
 intro z hz
 refine A O<|G O<|R<|A O<|G O<|G O<|qK O ok189 (zKs l c p hl hc) ⟨Y,O,Y,O,T⟩<|zT O (wO O O O)<|G O<|R<|zF<|zQ O ?_
 rw [zMc]
theorem checkBuffers_1 (x b:Bf):
    Pur cfg 131 [vBf x,.c (.iptr b.cells)] (vB (decide (x.Name=b.Name))):=by
 refine zS Tryz.func131 O Tryz.ntmps131 Tryz.results131 O ?_
 intro z hz
 refine A O<|zU O O (qN O O) ?_
 rintro _ _ ⟨b1,rfl,rfl⟩
 refine G O<|R<|A O<|zH O zHm<|zM one9 (zD 0 O) O<|yB O zHm<|zM one9 qA O<|wF O<|G O<|R<|zF<|zQ O ?_
 exact O
theorem zIk (l:List Bf) (hl:l.length<=4294967296) (hd:∀b,b∈l->b.Dims.length<=17592186044416):
    Pur cfg 84 [vBfs l] (vI (bufsErr [] l)):=by
 refine zS Tryz.func84 O Tryz.ntmps84 Tryz.results84 O ?_
 intro z hz
 refine A O<|G O<|R<|zK<|A O<|G O<|zZ O el50<|G O<|R<|zR<|zX ⟨[(8,.c _),(0,.c _),(7,.c _)],[]⟩ (Weak.mk [] ⟨Y,Y,Y,T⟩ O)<|qG 1 0 O O (Nat) (fun k=>[(8,vI k)]) (fun k=>[]) (fun k=>k<=l.length/\(bufsErr [] l=bufsErr (l.take k) (l.drop k))) (fun k=>l.length-k) ⟨0,⟨by omega,O⟩,Weak.mk [] ⟨Y,Y,Y,T⟩ O⟩ ?_
 rintro k ⟨hk,hp⟩
 refine A O<|yJ O<|R<|zK<|zC O (fun c1=>?_) (fun c1=>?_)
 ·try simp only [sx] at c1
  obtain ⟨b,hb⟩:=qY l k (by omega)
  refine zI<|zK<|zR<|A O<|G O<|G O<|R<|A O<|G O<|G O<|qE O el50 (by omega) (getm (by assumption))<|zO zLe qA O<|zU O O (qT [none,none,none,none,none,none,some 1,none] O zr95 O) ?_
  rintro _ _ ⟨b1,rfl,rfl⟩
  refine rStR 0 sz95 O<|yX _ (kJ 0 O 4 _ PLe.ptr)<|R<|zK<|zR<|A O<|yB O zHm<|zM one9 qA O<|qK O ok129 (zDw _) ⟨Y,O,T⟩<|wA O<|G O<|R<|zC O (fun c2=>?_) (fun c2=>?_)
  ·try simp only [sx] at c2
   refine A O<|G O<|R<|zF<|zQ O ?_
   rw [zBg hb hp (by rw [bfErr_7 c2];decide),bfErr_7 c2]
  ·try simp only [sx] at c2
   refine A O<|G O<|G O<|zT O (det_cut_take O el50 O O (by omega))<|zT O (zCn O O O O O)<|qK O ok130 (zHo (l.take k) _ (fun x=>decide (x.Name=b.Name)) (by rw [List.length_take];omega) (fun x _=>FnPur.of_pur (first:=[]) (cap:=[.iptr b.cells]) ok131 (checkBuffers_1 x b))) ⟨Y,O,Y,O,T⟩<|G O<|R<|zC O (fun c3=>?_) (fun c3=>?_)
   ·try simp only [sx] at c3
    refine A O<|G O<|R<|zF<|zQ O ?_
    rw [zBg hb hp (by rw [bfErr_8 c2 c3];decide),bfErr_8 c2 c3]
   ·try simp only [sx] at c3
    refine A O<|yB O zIn<|zO yI qA O<|qK O ok60 (zBi b.T) ⟨Y,O,T⟩<|kP O<|G O<|R<|zC O (fun c4=>?_) (fun c4=>?_)
    ·try simp only [sx] at c4
     refine A O<|G O<|R<|zF<|zQ O ?_
     rw [zBg hb hp (by rw [zPy c2 c3 (tyErr_ne c4)];decide),zPy c2 c3 (tyErr_ne c4)]
    ·try simp only [sx] at c4
     refine zI<|zK<|A O<|yB O zEt<|zM zEh qA O<|qK O ok132 (shape_Validate b.Dims (hd b (zY hb))) ⟨Y,O,T⟩<|G O<|R<|A O<|G O<|kP O<|R<|zC O (fun c5=>?_) (fun c5=>?_)
     ·try simp only [sx] at c5
      refine A O<|G O<|G O<|R<|zF<|zQ O ?_
      rw [zBg hb hp (by rw [bfErr_d c2 c3 (zJd c4) c5];exact c5),bfErr_d c2 c3 (zJd c4) c5]
     ·try simp only [sx] at c5
      refine zI<|A O<|yB O zMe<|zM one3 qA O<|yJ O<|G O<|rL0 O (fun g14_3=>qW O zMe O) O<|rL1 41 O (fun g14_3=>zJ O one3 O qA O) O<|rL1 42 O (fun g14_3=>yA O O O) O<|r_or O (fun h=>(lzf h))<|R<|zC O (fun c6=>?_) (fun c6=>?_)
      ·try simp only [sx] at c6
       refine A O<|G O<|R<|zF<|zQ O ?_
       rw [zBg hb hp (by rw [bfErr_u c2 c3 (zJd c4) c5 (by omega)];decide),bfErr_u c2 c3 (zJd c4) c5 (by omega)]
      ·try simp only [sx] at c6
       refine zI<|zN O<|qI O ⟨by omega,by omega⟩<|G O<|R ?_
       refine ⟨k+1,⟨by omega,zOq hb hp (bfErr_0 c2 c3 (zJd c4) c5 (by omega))⟩,(by omega),Weak.mk [] ⟨Y,Y,Y,T⟩ O⟩
 ·try simp only [sx] at c1
  refine qP<|A O<|G O<|R<|zF<|zQ O ?_
  rw [zTi hp (by omega)]
theorem ref30_bufs (n:Ns) (hn:n.Ok):
    Pur cfg 47 [vNs n] (vI (bufsErr [] n.Bufs)):=by
 refine zS Tryz.func47 O Tryz.ntmps47 Tryz.results47 O ?_
 intro z hz
 have hnb:=hn.bufs
 refine A O<|zU O O (qN O O) ?_
 rintro _ _ ⟨b1,rfl,rfl⟩
 refine G O<|R<|zK<|A O<|G O<|R<|zR<|zX ⟨[(3,.c _),(1,.c _)],[_]⟩ (Weak.mk [true] ⟨Y,Y,T⟩ O)<|qG 1 0 O O (Nat) (fun k=>[(3,vI k)]) (fun k=>[]) (fun k=>k<=n.Bufs.length/\(bufsErr [] n.Bufs=bufsErr (n.Bufs.take k) (n.Bufs.drop k))) (fun k=>n.Bufs.length-k) ⟨0,⟨by omega,O⟩,Weak.mk [true] ⟨Y,Y,T⟩ O⟩ ?_
 rintro k ⟨hk,hp⟩
 refine zK<|A O<|G O<|zH O zAt<|zM zDv (zD 0 O) O<|zZ O el50<|yJ O<|R<|zC O (fun c1=>?_) (fun c1=>?_)
 ·try simp only [sx] at c1
  obtain ⟨b,hb⟩:=qY n.Bufs k (by omega)
  refine zI<|zK<|zR<|A O<|zH O zAt<|zM zDv (zD 0 O) O<|G O<|qE O el50 (by omega) (getm (by assumption))<|zO zLe qA O<|zU O O (qT [none,none,none,none,none,none,some 1,none] O zr95 O) ?_
  rintro _ _ ⟨b2,rfl,rfl⟩
  refine rStR 0 sz95 O<|R<|zK<|A O<|zH O zHm<|zM one9 (zD 0 O) O<|qK O ok93 (zGa _) ⟨Y,O,T⟩<|wA O<|R<|zC O (fun c2=>?_) (fun c2=>?_)
  ·try simp only [sx] at c2
   refine A O<|G O<|R<|zF<|zQ O ?_
   rw [zBg hb hp (by rw [bfErr_7 c2];decide),bfErr_7 c2]
  ·try simp only [sx] at c2
   refine zI<|zK<|A O<|G O<|R<|zR<|zX ⟨[(5,.c _),(1,.c _),(3,.c _),(4,.c _)],[_,_]⟩ (Weak.mk [true,true] ⟨Y,Y,Y,Y,T⟩ O)<|qG 1 0 O O (Nat) (fun j=>[(5,vI j)]) (fun j=>[]) (fun j=>j<=k/\hasBf (n.Bufs.take j) b.Name=false) (fun j=>k-j) ⟨0,⟨by omega,O⟩,Weak.mk [true,true] ⟨Y,Y,Y,Y,T⟩ O⟩ ?_
   rintro j ⟨hj,hq⟩
   refine zK<|A O<|G O<|G O<|yJ O<|R<|zC O (fun c3=>?_) (fun c3=>?_)
   ·try simp only [sx] at c3
    obtain ⟨y,hy⟩:=qY n.Bufs j (by omega)
    refine zI<|zK<|zR<|zK<|qU 9 mixed (by kernel_rfl) O O<|J O O (zE O zAt O)<|J O O (zJ O zDv O (zD 1 O) O)<|J O O (zP O O)<|J O O (qO O el50 O O (by omega) (getm (by assumption)))<|J O O (qW O zHm O)<|J O O (zJ O one9 O qA O)<|J O O (zE O zHm O)<|J O O (zJ O one9 O (zD 0 O) O)<|J O O (zGw O O O)<|yO<|R<|zC O (fun c4=>?_) (fun c4=>?_)
    ·try simp only [sx] at c4
     refine A O<|G O<|R<|zF<|zQ O ?_
     have h8:=hasBf_lt hy (show j<k by omega) c4
     rw [zBg hb hp (by rw [bfErr_8 c2 h8];decide),bfErr_8 c2 h8]
    ·try simp only [sx] at c4
     refine zI<|zN O<|G O<|qI O ⟨by omega,by omega⟩<|G O<|R ?_
     refine ⟨j+1,⟨by omega,zNp hy hq c4⟩,(by omega),Weak.mk [true,true] ⟨Y,Y,Y,Y,T⟩ O⟩
   ·try simp only [sx] at c3
    rw [show j=k by omega] at hq
    refine qP<|zK<|A O<|zH O zIn<|zO yI (zD 0 O) O<|qK O ok63 (zMu b.T) ⟨Y,O,T⟩<|wA O<|R<|zC O (fun c5=>?_) (fun c5=>?_)
    ·try simp only [sx] at c5
     refine A O<|G O<|R<|zF<|zQ O ?_
     rw [zBg hb hp (by rw [zPy c2 hq c5];decide),zPy c2 hq c5]
    ·try simp only [sx] at c5
     refine zI<|zK<|A O<|zH O zEt<|zM zEh (zD 0 O) O<|qK O ok94 (ref11_Validate b.Dims (hn.dims b (zY hb))) ⟨Y,O,T⟩<|G O<|R<|A O<|G O<|kP O<|R<|zC O (fun c6=>?_) (fun c6=>?_)
     ·try simp only [sx] at c6
      refine A O<|G O<|G O<|R<|zF<|zQ O ?_
      rw [zBg hb hp (by rw [bfErr_d c2 hq c5 c6];exact c6),bfErr_d c2 hq c5 c6]
     ·try simp only [sx] at c6
      refine zI<|A O<|zH O zMe<|zM one3 (zD 0 O) O<|yJ O<|G O<|rL0 O (fun g17_3=>zE O zMe O) O<|rL1 51 O (fun g17_3=>zJ O one3 O (zD 0 O) O) O<|rL1 52 O (fun g17_3=>yA O O O) O<|r_or O (fun h=>(lzf h))<|R<|zC O (fun c7=>?_) (fun c7=>?_)
      ·try simp only [sx] at c7
       refine A O<|G O<|R<|zF<|zQ O ?_
       rw [zBg hb hp (by rw [bfErr_u c2 hq c5 c6 (by omega)];decide),bfErr_u c2 hq c5 c6 (by omega)]
      ·try simp only [sx] at c7
       refine zI<|zN O<|G O<|qI O ⟨by omega,by omega⟩<|G O<|R ?_
       refine ⟨k+1,⟨by omega,zOq hb hp (bfErr_0 c2 hq c5 c6 (by omega))⟩,(by omega),Weak.mk [false,true] ⟨Y,Y,T⟩ O⟩
 ·try simp only [sx] at c1
  refine qP<|A O<|G O<|R<|zF<|zQ O ?_
  rw [zTi hp (by omega)]
end Go.W
