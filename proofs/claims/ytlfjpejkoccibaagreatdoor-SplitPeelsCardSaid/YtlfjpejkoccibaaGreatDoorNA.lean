/-
  Walks: what functions of the program compute. Printed by wip/gen/mk2.py.
  Conditions: none.
-/
import Derived.Test.YtlfjpejkoccibaaGreatDoorWalkV
import Derived.Test.YtlfjpejkoccibaaGreatDoorEngZ
import Derived.Test.YtlfjpejkoccibaaGreatDoorPlain2
set_option linter.unusedSimpArgs false
set_option linter.unusedVariables false
set_option maxRecDepth 10000
namespace Go.W
open Go Go.Eng Go.Proofs Go.L41 Go.Br
attribute [local irreducible] AWP RWP TD finQ
theorem zMa:aggT Tryz.prog 65=some 8:=by kernel_rfl
theorem el22:elemT Tryz.prog 22=some (65,8,88):=by kernel_rfl
theorem D:elemT Tryz.prog 23=some (46,20,256):=by kernel_rfl
theorem zAr:fieldT Tryz.prog 25 0=some (0,22):=by kernel_rfl
theorem kM:fieldT Tryz.prog 46 7=some (19,23):=by kernel_rfl
theorem zLi:fieldT Tryz.prog 65 0=some (0,9):=by kernel_rfl
theorem zJv:fieldT Tryz.prog 65 1=some (1,38):=by kernel_rfl
theorem zLh:fieldT Tryz.prog 65 2=some (6,26):=by kernel_rfl
theorem zPw:fieldT Tryz.prog 65 3=some (7,3):=by kernel_rfl
theorem ok46:callOk Tryz.prog 46=true:=by kernel_rfl
theorem ok79:callOk Tryz.prog 79=true:=by kernel_rfl
theorem ok80:callOk Tryz.prog 80=true:=by kernel_rfl
theorem ok89:callOk Tryz.prog 89=true:=by kernel_rfl
theorem ok96:callOk Tryz.prog 96=true:=by kernel_rfl
theorem ok110:callOk Tryz.prog 110=true:=by kernel_rfl
theorem ok125:callOk Tryz.prog 125=true:=by kernel_rfl
theorem ok126:callOk Tryz.prog 126=true:=by kernel_rfl
theorem ok128:callOk Tryz.prog 128=true:=by kernel_rfl
theorem ok149:callOk Tryz.prog 149=true:=by kernel_rfl
theorem ok160:callOk Tryz.prog 160=true:=by kernel_rfl
theorem zEi:oneT Tryz.prog 22=true:=by kernel_rfl
theorem kQ:oneT Tryz.prog 23=true:=by kernel_rfl
theorem zGo:oneT Tryz.prog 26=true:=by kernel_rfl
theorem pl65:placesT Tryz.prog 65=some [(0,1),(1,5),(6,1),(7,1)]:=by kernel_rfl
theorem sz26:(Tryz.prog.info? 26).map (·.size)=some 1:=by kernel_rfl
theorem sz65:(Tryz.prog.info? 65).map (·.size)=some 8:=by kernel_rfl
theorem zr65:zeroT Tryz.prog 65=some [(Value.string (ByteArray.mk #[])),(Value.int IntKind.i64 0),(Value.int IntKind.i64 0),(Value.int IntKind.i64 0),(Value.int IntKind.i64 0),(Value.int IntKind.i64 0),(Value.slice none 0 0),(Value.int IntKind.i64 0)]:=by kernel_rfl
theorem shape_Validate (d:List Int) (hl:d.length<=17592186044416):
    Pur cfg 128 [vIs d] (vI (dimsErr d)):=by
 refine zT Tryz.func128 O Tryz.ntmps128 Tryz.results128 O ?_
 intro z hz
 refine F O<|A O<|G<|zJ<|F O<|A O<|qC O K<|zU O (yG O O O)<|G<|zD O (fun c1=>?_) (fun c1=>?_)
 ·try simp only [I] at c1
  have hlong:=dims_long (d:=d) (by omega)
  refine F O<|A O<|G<|o<|X O ?_
  rw [hlong]
 ·try simp only [I] at c1
  refine zK<|zJ<|F O<|A O<|qC O K<|A O<|G<|zR<|zY ⟨[(13,.c _),(0,.c _),(11,.c _),(12,.c _)],[]⟩ (Weak.mk [] ⟨H,H,H,H,T⟩ O)<|qK 1 0 O O (Nat) (fun k=>[(13,vI k)]) (fun k=>[]) (fun k=>k<=d.length/\((d.take k).all posI=true)) (fun k=>d.length-k) ⟨0,⟨by omega,O⟩,Weak.mk [] ⟨H,H,H,H,T⟩ O⟩ ?_
  rintro k ⟨hk,hp⟩
  refine F O<|yD O<|G<|zJ<|zD O (fun c2=>?_) (fun c2=>?_)
  ·try simp only [I] at c2
   obtain ⟨n,hn⟩:=qV d k (by omega)
   refine zK<|zJ<|zR<|F O<|qD O K (by omega) (Q (by assumption))<|zM one3 qA O<|A O<|G<|F O<|A O<|yD O<|G<|zD O (fun c3=>?_) (fun c3=>?_)
   ·try simp only [I] at c3
    have hneg:=dims_neg (d:=d) (by omega) hn c3
    refine F O<|A O<|G<|o<|X O ?_
    rw [hneg]
   ·try simp only [I] at c3
    refine zK<|zQ O<|qJ O ⟨by omega,by omega⟩<|A O<|G ?_
    refine ⟨k+1,⟨by omega,zKd hn hp (by unfold posI;exact decide_eq_true (by omega))⟩,(by omega),Weak.mk [] ⟨H,H,H,H,T⟩ O⟩
  ·try simp only [I] at c2
   have hpos:d.all posI=true:=by rw [yO (by omega)] at hp;exact hp
   refine qQ<|F O<|A O<|G<|zJ<|F O<|A O<|qC O K<|A O<|G<|zR<|zY ⟨[(22,.c _),(5,.c _),(20,.c _),(21,.c _)],[]⟩ (Weak.mk [] ⟨H,H,H,H,T⟩ O)<|qK 2 0 O O (Nat×Int) (fun ⟨j,s⟩=>[(22,vI j),(5,vI s)]) (fun ⟨j,s⟩=>[]) (fun ⟨j,s⟩=>j<=d.length/\(1<=s)/\(s<=4096)/\(sizeFrom 1 d=sizeFrom s (d.drop j))) (fun ⟨j,s⟩=>d.length-j) ⟨⟨0,1⟩,⟨by omega,by omega,by omega,O⟩,Weak.mk [] ⟨H,VLe.of_eq (O),H,H,T⟩ O⟩ ?_
   rintro ⟨j,s⟩ ⟨hj,hs1,hs2,hs3⟩
   show AWP _ _ _ _ _ ⟨[(22,vI j),(5,vI s)]++_,[]++_⟩
   refine F O<|yD O<|G<|zJ<|zD O (fun c4=>?_) (fun c4=>?_)
   ·try simp only [I] at c4
    obtain ⟨m,hm⟩:=qV d j (by omega)
    refine zK<|zJ<|zR<|F O<|qD O K (by omega) (Q (by assumption))<|zM one3 qA O<|A O<|G<|zJ<|F O<|A O<|A O<|zU O (zLx O O O (by omega))<|zU O (yG O O O)<|G<|zD O (fun c5=>?_) (fun c5=>?_)
    ·try simp only [I] at c5
     have hov:=quo_t hs1 c5
     refine F O<|A O<|G<|o<|X O ?_
     rw [zUv (by omega) hpos (zSx hm hs3 hov)]
    ·try simp only [I] at c5
     have hov:=quo_f hs1 (Int.not_lt.2 c5)
     have hm1:=zMz hs1 (zKl hpos hm)
     refine zK<|zQ O<|A O<|A O<|zU O (det_mul_nw O O O (by have:=zMz hs1 (zKl hpos hm);exact ⟨by omega,by omega⟩))<|A O<|G<|zQ O<|qJ O ⟨by omega,by omega⟩<|A O<|G ?_
     refine ⟨⟨j+1,s*m⟩,⟨by omega,by omega,by omega,size_next hm hs3 hov⟩,(by show d.length-(j+1)<d.length-j;omega),Weak.mk [] ⟨H,H,H,H,T⟩ O⟩
   ·try simp only [I] at c4
    refine qQ<|F O<|A O<|G<|o<|X O ?_
    rw [dims_ok (by omega) hpos (size_done hs3 (by omega))]
theorem ref11_Validate (d:List Int) (hl:d.length<=17592186044416):
    Pur cfg 149 [vIs d] (vI (dimsErr d)):=by
 refine zT Tryz.func149 O Tryz.ntmps149 Tryz.results149 O ?_
 intro z hz
 refine F O<|A O<|G<|zJ<|F O<|A O<|qC O K<|zU O (yG O O O)<|G<|zD O (fun c1=>?_) (fun c1=>?_)
 ·try simp only [I] at c1
  have hlong:=dims_long (d:=d) (by omega)
  refine F O<|A O<|G<|o<|X O ?_
  rw [hlong]
 ·try simp only [I] at c1
  refine zK<|zJ<|F O<|A O<|G<|zR<|zY ⟨[(3,.c _),(0,.c _)],[]⟩ (Weak.mk [] ⟨H,H,T⟩ O)<|qK 1 0 O O (Nat) (fun k=>[(3,vI k)]) (fun k=>[]) (fun k=>k<=d.length/\((d.take k).all posI=true)) (fun k=>d.length-k) ⟨0,⟨by omega,O⟩,Weak.mk [] ⟨H,H,T⟩ O⟩ ?_
  rintro k ⟨hk,hp⟩
  refine zJ<|F O<|A O<|A O<|qC O K<|yD O<|G<|zD O (fun c2=>?_) (fun c2=>?_)
  ·try simp only [I] at c2
   obtain ⟨n,hn⟩:=qV d k (by omega)
   refine zK<|zJ<|zR<|F O<|A O<|A O<|qD O K (by omega) (Q (by assumption))<|zM one3 qA O<|yD O<|G<|zD O (fun c3=>?_) (fun c3=>?_)
   ·try simp only [I] at c3
    have hneg:=dims_neg (d:=d) (by omega) hn c3
    refine F O<|A O<|G<|o<|X O ?_
    rw [hneg]
   ·try simp only [I] at c3
    refine zK<|zQ O<|A O<|qJ O ⟨by omega,by omega⟩<|A O<|G ?_
    refine ⟨k+1,⟨by omega,zKd hn hp (by unfold posI;exact decide_eq_true (by omega))⟩,(by omega),Weak.mk [] ⟨H,H,T⟩ O⟩
  ·try simp only [I] at c2
   have hpos:d.all posI=true:=by rw [yO (by omega)] at hp;exact hp
   refine qQ<|F O<|A O<|G<|zJ<|F O<|A O<|G<|zR<|zY ⟨[(5,.c _),(4,.c _),(0,.c _)],[]⟩ (Weak.mk [] ⟨H,H,H,T⟩ O)<|qK 2 0 O O (Nat×Int) (fun ⟨j,s⟩=>[(5,vI j),(4,vI s)]) (fun ⟨j,s⟩=>[]) (fun ⟨j,s⟩=>j<=d.length/\(1<=s)/\(s<=4096)/\(sizeFrom 1 d=sizeFrom s (d.drop j))) (fun ⟨j,s⟩=>d.length-j) ⟨⟨0,1⟩,⟨by omega,by omega,by omega,O⟩,Weak.mk [] ⟨H,VLe.of_eq (O),H,T⟩ O⟩ ?_
   rintro ⟨j,s⟩ ⟨hj,hs1,hs2,hs3⟩
   show AWP _ _ _ _ _ ⟨[(5,vI j),(4,vI s)]++_,[]++_⟩
   refine zJ<|F O<|A O<|A O<|qC O K<|yD O<|G<|zD O (fun c4=>?_) (fun c4=>?_)
   ·try simp only [I] at c4
    obtain ⟨m,hm⟩:=qV d j (by omega)
    refine zK<|zJ<|zR<|zJ<|F O<|A O<|A O<|qD O K (by omega) (Q (by assumption))<|zM one3 qA O<|zU O (yG O O O)<|G<|zD O (fun c5=>?_) (fun c5=>?_)
    ·try simp only [I] at c5
     have hov:4096<s*m:=by have:=zMz hs1 (zKl hpos hm);omega
     refine F O<|A O<|G<|o<|X O ?_
     rw [zUv (by omega) hpos (zSx hm hs3 hov)]
    ·try simp only [I] at c5
     have hm1:=zMz hs1 (zKl hpos hm)
     refine zK<|F O<|A O<|A O<|A O<|qD O K (by omega) (Q (by assumption))<|zM one3 qA O<|zU O (det_mul_nw O O O (by have:=zMz hs1 (zKl hpos hm);have hm0:=zKl hpos hm;have:s*m<=4096*4096:=Int.mul_le_mul (by omega) (by omega) (by omega) (by omega);exact ⟨by omega,by omega⟩))<|A O<|G<|F O<|A O<|zU O (yG O O O)<|G<|zD O (fun c6=>?_) (fun c6=>?_)
     ·try simp only [I] at c6
      refine F O<|A O<|G<|o<|X O ?_
      rw [zUv (by omega) hpos (zSx hm hs3 (by omega))]
     ·try simp only [I] at c6
      refine zK<|zQ O<|A O<|qJ O ⟨by omega,by omega⟩<|A O<|G ?_
      refine ⟨⟨j+1,s*m⟩,⟨by omega,by omega,by omega,size_next hm hs3 (by omega)⟩,(by show d.length-(j+1)<d.length-j;omega),Weak.mk [] ⟨H,H,H,T⟩ O⟩
   ·try simp only [I] at c4
    refine qQ<|F O<|A O<|G<|o<|X O ?_
    rw [dims_ok (by omega) hpos (size_done hs3 (by omega))]
theorem zIc (l:List Int) (hl:l.length<=17592186044416):
    OwnR cfg 96 [vIs l] 3 1 (l.map fun n=>[cI n]):=by
 refine zT Tryz.func96 O Tryz.ntmps96 Tryz.results96 O ?_
 intro z hz
 refine F O<|qZ 1 O<|G<|zJ<|F O<|A O<|zX O O (zGn O K O O) ?_
 rintro _ _ ⟨nb1,rfl,hnil1,rfl⟩
 refine G<|zD O (fun c1=>?_) (fun c1=>?_)
 ·try simp only [I] at c1
  refine F O<|A O<|yI _ (kN 3 1)<|G<|o<|X O ?_
  exact ⟨_,O,by rw [hnil1 c1]⟩
 ·try simp only [I] at c1
  refine zK<|F O<|zX O O (zCz O K zr3 O O O O) ?_
  rintro _ _ ⟨sv3,rfl,rfl⟩
  refine A O<|zX O O (qX 0 O K O O O (by simp only [List.length_map,List.length_nil,Nat.zero_add];omega) (by simp only [List.length_map,List.length_nil,Nat.zero_add];omega)) ?_
  rintro _ _ ⟨sv4,rfl,rfl⟩
  refine A O<|G<|o<|X O ?_
  exact ⟨_,O,O⟩
theorem zCw (b:Bf) (hl:b.Dims.length<=17592186044416):
    Pur cfg 89 [vBf b] (vBf b):=by
 refine zT Tryz.func89 O Tryz.ntmps89 Tryz.results89 O ?_
 intro z hz
 refine F O<|zX O O (qN O O) ?_
 rintro _ _ ⟨b1,rfl,rfl⟩
 refine zX O O (qE [none,none,none,none,none,none,some 1,none] O zr65 O) ?_
 rintro _ _ ⟨b2,rfl,rfl⟩
 refine G<|F O<|zH O zLh<|zM zGo (R 1 O) O<|qI O ok96 (OwnR.pur (zIc b.Dims hl)) ⟨H,O,T⟩<|zH O zLh<|Y 1 sz26 O<|G<|F O<|zP zMa (R 1 O) O<|Y 0 sz65 O<|G<|o<|fin1 (zV zMa O (R 0 O) O) ?_
 exact O
theorem zAj (n:Ns) (s:ByteArray) (hn:n.Ok):
    Pur cfg 101 [vNs n,vS s] (.tup [vBf (bufD n.Bufs s),vB (hasBf n.Bufs s)]):=by
 refine zT Tryz.func101 O Tryz.ntmps101 Tryz.results101 O ?_
 intro z hz
 have hnb:=hn.bufs
 refine F O<|zX O O (qN O O) ?_
 rintro _ _ ⟨b1,rfl,rfl⟩
 refine zX O O (qE [none,none,none,none,none,none,some 1,none] O zr65 O) ?_
 rintro _ _ ⟨b2,rfl,rfl⟩
 refine A O<|G<|zJ<|F O<|zH O zAr<|zM zEi (R 1 O) O<|qC O el22<|A O<|G<|zR<|zY ⟨[(10,.c _),(1,.c _),(2,.c _),(4,.c _),(9,.c _)],[_,_]⟩ (Weak.mk [true,true] ⟨H,H,H,H,H,T⟩ O)<|qK 1 0 O O (Nat) (fun k=>[(10,vI k)]) (fun k=>[]) (fun k=>k<=n.Bufs.length/\(hasBf (n.Bufs.take k) s=false)/\(bufD n.Bufs s=bufD (n.Bufs.drop k) s)) (fun k=>n.Bufs.length-k) ⟨0,⟨by omega,O,O⟩,Weak.mk [true,true] ⟨H,H,H,H,H,T⟩ O⟩ ?_
 rintro k ⟨hk,hp,hq⟩
 refine F O<|yD O<|G<|zJ<|zD O (fun c1=>?_) (fun c1=>?_)
 ·try simp only [I] at c1
  obtain ⟨b,hb⟩:=qV n.Bufs k (by omega)
  refine zK<|zJ<|zR<|F O<|A O<|A O<|G<|F O<|zH O zAr<|zM zEi (R 1 O) O<|A O<|qD O el22 (by omega) (Q (by assumption))<|qP O zLi<|zM one9 qA O<|A O<|zU O (yV O O O)<|G<|zD O (fun c2=>?_) (fun c2=>?_)
  ·try simp only [I] at c2
   refine F O<|zH O zAr<|zM zEi (R 1 O) O<|A O<|qD O el22 (by omega) (Q (by assumption))<|zP zMa qA O<|qI O ok89 (zCw b (hn.dims b (qB hb))) ⟨H,O,T⟩<|Y 0 sz65 O<|A O<|G<|o<|p (zV zMa O (R 0 O) O) (J O) ?_
   rw [hasBf_at hb c2,hq,bufD_at hb c2];rfl
  ·try simp only [I] at c2
   refine zK<|zQ O<|qJ O ⟨by omega,by omega⟩<|A O<|G ?_
   refine ⟨k+1,⟨by omega,zPb hb hp c2,hq.trans (bufD_next hb c2)⟩,(by omega),Weak.mk [true,true] ⟨H,H,H,H,H,T⟩ O⟩
 ·try simp only [I] at c1
  refine qQ<|F O<|qT [none,none,none,none,none,none,some 1,none] O zr65 pl65<|Y 0 sz65 O<|A O<|G<|o<|p (zV zMa O (R 0 O) O) (J O) ?_
  rw [yO (by omega)] at hp;rw [hp,bufD_no hp];rfl
theorem zBu (n:Ns) (s:ByteArray) (hn:n.Ok):
    Pur cfg 115 [vNs n,vS s] (.tup [vBf (bufD n.Bufs s),vB (hasBf n.Bufs s)]):=by
 refine zT Tryz.func115 O Tryz.ntmps115 Tryz.results115 O ?_
 intro z hz
 have hnb:=hn.bufs
 refine F O<|zX O O (qN O O) ?_
 rintro _ _ ⟨b1,rfl,rfl⟩
 refine zX O O (qE [none,none,none,none,none,none,some 1,none] O zr65 O) ?_
 rintro _ _ ⟨b2,rfl,rfl⟩
 refine A O<|G<|zJ<|F O<|A O<|G<|zR<|zY ⟨[(6,.c _),(1,.c _),(2,.c _),(4,.c _)],[_,_]⟩ (Weak.mk [true,true] ⟨H,H,H,H,T⟩ O)<|qK 1 0 O O (Nat) (fun k=>[(6,vI k)]) (fun k=>[]) (fun k=>k<=n.Bufs.length/\(hasBf (n.Bufs.take k) s=false)/\(bufD n.Bufs s=bufD (n.Bufs.drop k) s)) (fun k=>n.Bufs.length-k) ⟨0,⟨by omega,O,O⟩,Weak.mk [true,true] ⟨H,H,H,H,T⟩ O⟩ ?_
 rintro k ⟨hk,hp,hq⟩
 refine zJ<|F O<|A O<|zH O zAr<|zM zEi (R 1 O) O<|qC O el22<|yD O<|G<|zD O (fun c1=>?_) (fun c1=>?_)
 ·try simp only [I] at c1
  obtain ⟨b,hb⟩:=qV n.Bufs k (by omega)
  refine zK<|zJ<|zR<|F O<|zH O zAr<|zM zEi (R 1 O) O<|A O<|qD O el22 (by omega) (Q (by assumption))<|qP O zLi<|zM one9 qA O<|A O<|zU O (yV O O O)<|G<|zD O (fun c2=>?_) (fun c2=>?_)
  ·try simp only [I] at c2
   refine F O<|zH O zAr<|zM zEi (R 1 O) O<|A O<|qD O el22 (by omega) (Q (by assumption))<|zP zMa qA O<|Y 0 sz65 O<|A O<|G<|o<|p (zV zMa O (R 0 O) O) (J O) ?_
   rw [hasBf_at hb c2,hq,bufD_at hb c2];rfl
  ·try simp only [I] at c2
   refine zK<|zQ O<|A O<|qJ O ⟨by omega,by omega⟩<|A O<|G ?_
   refine ⟨k+1,⟨by omega,zPb hb hp c2,hq.trans (bufD_next hb c2)⟩,(by omega),Weak.mk [true,true] ⟨H,H,H,H,T⟩ O⟩
 ·try simp only [I] at c1
  refine qQ<|F O<|qT [none,none,none,none,none,none,some 1,none] O zr65 pl65<|Y 0 sz65 O<|A O<|G<|o<|p (zV zMa O (R 0 O) O) (J O) ?_
  rw [yO (by omega)] at hp;rw [hp,bufD_no hp];rfl
theorem zSc (n:Nat) (ih:n≠0->∀(l:List St) (x:Int),stsWt l<=1073741824->x=((n-1:Nat):Int)->Pur cfg 79 [vSts l,vI x] (vB (withinT (n-1) l))) (l:List St) (x:Int) (hn:n<=100) (hl:stsWt l<=1073741824) (hx:x=n):
    Pur cfg 79 [vSts l,vI x] (vB (withinT n l)):=by
 refine zT Tryz.func79 O Tryz.ntmps79 Tryz.results79 O ?_
 intro z hz
 have hll:=kP l
 refine F O<|A O<|G<|zJ<|F O<|A O<|qC O D<|A O<|G<|zR<|zY ⟨[(8,.c _),(0,.c _),(1,.c _),(7,.c _)],[]⟩ (Weak.mk [] ⟨H,H,H,H,T⟩ O)<|qK 1 0 O O (Nat) (fun k=>[(8,vI k)]) (fun k=>[]) (fun k=>k<=l.length/\(withinG n (l.take k)=true)) (fun k=>l.length-k) ⟨0,⟨by omega,by cases n<;>rfl⟩,Weak.mk [] ⟨H,H,H,H,T⟩ O⟩ ?_
 rintro k ⟨hk,hp⟩
 refine F O<|yD O<|G<|zJ<|zD O (fun c1=>?_) (fun c1=>?_)
 ·try simp only [I] at c1
  obtain ⟨s,hs⟩:=qV l k (by omega)
  refine zK<|zJ<|zR<|F O<|A O<|A O<|G<|F O<|A O<|yD O<|A O<|rL0 O (fun g4_2=>w O O) O<|rL0 O (fun g4_2=>w O O) O<|rLz [(14,_),(15,_)] O gv1 ⟨O,O,O,O,T⟩ (fun g4_2=>qG O D O O (by omega) (wG hs)) O<|B 16 O (fun g4_2=>qL O kM O) O<|B 17 O (fun g4_2=>zF O kQ O qA O) O<|rL0 O (fun g4_2=>w O O) O<|B 19 O (fun g4_2=>yB O O O ⟨by omega,by omega⟩) O<|rLz [(18,_),(20,_)] O gv1 ⟨O,O,O,O,T⟩ (fun g4_2=>qM O ok79 (ih (by simp only [Lz,cond_true,cond_false,Bool.and_eq_true,Bool.or_eq_true,Bool.not_eq_true',Bool.not_eq_false',Bool.or_eq_false_iff,Bool.and_eq_false_iff,decide_eq_true_eq,decide_eq_false_iff_not,Bool.not_eq_true,Bool.not_eq_false] at g4_2;omega) s.Body _ (by have:=St.body_wt s;have:=yE (qB hs);omega) (by simp only [Lz,cond_true,cond_false,Bool.and_eq_true,Bool.or_eq_true,Bool.not_eq_true',Bool.not_eq_false',Bool.or_eq_false_iff,Bool.and_eq_false_iff,decide_eq_true_eq,decide_eq_false_iff_not,Bool.not_eq_true,Bool.not_eq_false] at g4_2;omega)) ⟨H,O,H,O,T⟩) O<|B 21 O (fun g4_2=>kX O O) O<|r_or O (fun h=>(lzf h))<|G<|zD O (fun c2=>?_) (fun c2=>?_)
  ·have hno:=within_no hs hx c2
   refine F O<|A O<|G<|o<|X O ?_
   rw [hno]
  ·have hyes:=within_yes hx c2
   refine zK<|zQ O<|qJ O ⟨by omega,by omega⟩<|A O<|G ?_
   refine ⟨k+1,⟨by omega,withinG_next hs hp hyes.1 hyes.2⟩,(by omega),Weak.mk [] ⟨H,H,H,H,T⟩ O⟩
 ·try simp only [I] at c1
  refine qQ<|F O<|A O<|G<|o<|X O ?_
  rw [yO (by omega),withinG_eq] at hp;rw [hp]
theorem zTx (n:Nat) (l:List St) (x:Int) (hn:n<=100) (hl:stsWt l<=1073741824) (hx:x=n):Pur cfg 79 [vSts l,vI x] (vB (withinT n l)):=by
  induction n generalizing l x with
  |zero=>exact zSc 0 (fun h=>absurd rfl h) l x hn hl hx
  |succ n ih=>exact zSc (n+1) (fun _ l x h1 h2=>ih l x (by omega) h1 (by omega)) l x hn hl hx
theorem depth_step (n:Nat) (ih:n≠0->∀(l:List St) (x:Int),stsWt l<=1073741824->x=((n-1:Nat):Int)->Pur cfg 110 [vSts l,vI x] (vI (depS (n-1) l))) (l:List St) (x:Int) (hn:n<=100) (hl:stsWt l<=1073741824) (hx:x=n):
    Pur cfg 110 [vSts l,vI x] (vI (depS n l)):=by
 refine zT Tryz.func110 O Tryz.ntmps110 Tryz.results110 O ?_
 intro z hz
 have hll:=kP l
 refine F O<|A O<|G<|F O<|A O<|G<|zJ<|F O<|A O<|G<|zR<|zY ⟨[(5,.c _),(6,.c _),(0,.c _),(1,.c _)],[]⟩ (Weak.mk [] ⟨H,H,H,H,T⟩ O)<|qK 2 0 O O (Nat×Int) (fun ⟨k,d⟩=>[(5,vI d),(6,vI k)]) (fun ⟨k,d⟩=>[]) (fun ⟨k,d⟩=>k<=l.length/\0<=d/\d<=100/\d=depS n (l.take k)) (fun ⟨k,d⟩=>l.length-k) ⟨⟨0,0⟩,⟨by omega,by omega,by omega,by cases n<;>rfl⟩,Weak.mk [] ⟨VLe.of_eq (O),H,H,H,T⟩ O⟩ ?_
 rintro ⟨k,d⟩ ⟨hk,hd0,hd1,hd⟩
 show AWP _ _ _ _ _ ⟨[(5,vI d),(6,vI k)]++_,[]++_⟩
 refine zJ<|F O<|A O<|A O<|qC O D<|yD O<|A O<|rL0 O (fun g3_4=>w O O) O<|B 12 O (fun g3_4=>yG O O O) O<|yS O (fun h=>h)<|G<|zD O (fun c1=>?_) (fun c1=>?_)
 ·try simp only [I] at c1
  obtain ⟨s,hs⟩:=qV l k (by omega)
  have hle:=depS_le (n-1) s.Body
  refine zK<|zJ<|zR<|zQ O<|A O<|A O<|A O<|qD O D (by omega) (wG hs)<|qP O kM<|zM kQ qA O<|A O<|zU O (yB O O O ⟨by omega,by omega⟩)<|qI O ok110 (ih (by omega) s.Body _ (by have:=St.body_wt s;have:=yE (qB hs);omega) (by omega)) ⟨H,O,H,O,T⟩<|qJ O ⟨by omega,by omega⟩<|zU O (zPi O O O)<|A O<|G<|zQ O<|A O<|qJ O ⟨by omega,by omega⟩<|A O<|G ?_
  refine ⟨⟨k+1,max d (1+depS (n-1) s.Body)⟩,⟨by omega,by omega,by omega,by rw [depS_next hs (by omega),←hd]⟩,(by dsimp only;omega),Weak.mk [] ⟨H,H,H,H,T⟩ O⟩
 ·try simp only [I] at c1
  refine qQ<|F O<|A O<|A O<|G<|o<|X O ?_
  exact congrArg vI (depS_stop hx hd (by omega))
theorem ref30_depth (n:Nat) (l:List St) (x:Int) (hn:n<=100) (hl:stsWt l<=1073741824) (hx:x=n):Pur cfg 110 [vSts l,vI x] (vI (depS n l)):=by
  induction n generalizing l x with
  |zero=>exact depth_step 0 (fun h=>absurd rfl h) l x hn hl hx
  |succ n ih=>exact depth_step (n+1) (fun _ l x h1 h2=>ih l x (by omega) h1 (by omega)) l x hn hl hx
theorem zDg (l:List St) (ih:∀s,s∈l->∀(m:Nat) (x:Int),m<=2147483648->x=m->Pur cfg 80 [vSts s.Body,vI x] (vI (numB s.Body m))) (m:Nat) (x:Int) (hl:stsWt l<=1073741824) (hm:m<=2147483648) (hx:x=m):
    Pur cfg 80 [vSts l,vI x] (vI (numB l m)):=by
 refine zT Tryz.func80 O Tryz.ntmps80 Tryz.results80 O ?_
 intro z hz
 have hll:=kP l
 have hNw:=zCt l
 refine F O<|A O<|G<|F O<|A O<|qC O D<|A O<|G<|zJ<|F O<|A O<|qC O D<|A O<|G<|zR<|zY ⟨[(11,.c _),(5,.c _),(0,.c _),(1,.c _),(10,.c _)],[]⟩ (Weak.mk [] ⟨H,H,H,H,H,T⟩ O) ?_
 refine qK 2 0 O O (Nat×Nat) (fun ⟨k,n⟩=>[(11,vI k),(5,vI n)]) (fun ⟨k,n⟩=>[]) (fun ⟨k,n⟩=>k<=l.length/\(n<=4294967296)/\(numB l m=numL (l.drop k) m n)) (fun ⟨k,n⟩=>l.length-k) ⟨⟨0,l.length⟩,⟨by omega,by omega,O⟩,Weak.mk [] ⟨H,VLe.of_eq (congrArg vI (by simp)),H,H,H,T⟩ O⟩ ?_
 rintro ⟨k,n⟩ ⟨hk,hn,hp⟩
 show AWP _ _ _ _ _ ⟨[(11,vI k),(5,vI n)]++_,[]++_⟩
 refine F O<|yD O<|G<|zJ<|zD O (fun c1=>?_) (fun c1=>?_)
 ·try simp only [I] at c1
  obtain ⟨s,hs⟩:=qV l k (by omega)
  refine zK<|zJ<|zR<|F O<|A O<|A O<|G<|zJ<|F O<|A O<|A O<|zU O (yG O O O)<|G<|zD O (fun c2=>?_) (fun c2=>?_)
  ·try simp only [I] at c2
   refine qQ<|F O<|A O<|A O<|G<|o<|X O ?_
   exact congrArg vI (by rw [←num_end hp (by omega)])
  ·try simp only [I] at c2
   have hsum:=num_sum hs hp (by omega)
   have hbl:=numB_le s.Body (m-n)
   have hsn:=zHd (qB hs)
   have hse:=zGi s
   refine zK<|zQ O<|A O<|A O<|A O<|qD O D (by omega) (wG hs)<|qP O kM<|zM kQ qA O<|A O<|A O<|zU O (yB O O O ⟨by omega,by omega⟩)<|qI O ok80 (ih s (qB hs) (m-n) _ (by omega) (by omega)) ⟨H,O,H,O,T⟩<|qJ O ⟨by omega,by omega⟩<|A O<|G<|zQ O<|qJ O ⟨by omega,by omega⟩<|A O<|G ?_
   refine ⟨⟨k+1,n+numB s.Body (m-n)⟩,⟨by omega,by omega,num_next hs hp (by omega)⟩,(by show l.length-(k+1)<l.length-k;omega),Weak.mk [] ⟨H,VLe.of_eq (congrArg vI (by omega)),H,H,H,T⟩ O⟩
 ·try simp only [I] at c1
  refine qQ<|F O<|A O<|A O<|G<|o<|X O ?_
  exact congrArg vI (by rw [←num_end hp (by omega)])
theorem zHr (s:St):∀(m:Nat) (x:Int),stsWt s.Body<=1073741824->m<=2147483648->x=m->Pur cfg 80 [vSts s.Body,vI x] (vI (numB s.Body m)):=by
  induction s using St.ind with
  |_ s ih=>exact fun m x hl hm hx=>zDg s.Body (fun a ha m x h1 h2=>ih a ha m x (by have:=St.body_wt a;have:=yE ha;omega) h1 h2) m x hl hm hx
theorem zNc (l:List St) (m:Nat) (x:Int) (hl:stsWt l<=1073741824) (hm:m<=2147483648) (hx:x=m):Pur cfg 80 [vSts l,vI x] (vI (numB l m)):=
  zDg l (fun a ha m x h1 h2=>zHr a m x (by have:=St.body_wt a;have:=yE ha;omega) h1 h2) m x hl hm hx
theorem zJf (l:List St) (ih:∀s,s∈l->∀(m:Nat) (x:Int),m<=2147483648->x=m->Pur cfg 46 [vSts s.Body,vI x] (vI (numB s.Body m))) (m:Nat) (x:Int) (hl:stsWt l<=1073741824) (hm:m<=2147483648) (hx:x=m):
    Pur cfg 46 [vSts l,vI x] (vI (numB l m)):=by
 refine zT Tryz.func46 O Tryz.ntmps46 Tryz.results46 O ?_
 intro z hz
 have hll:=kP l
 have hNw:=zCt l
 refine F O<|A O<|G<|F O<|A O<|qC O D<|A O<|G<|zJ<|F O<|A O<|G<|zR<|zY ⟨[(6,.c _),(5,.c _),(0,.c _),(1,.c _)],[]⟩ (Weak.mk [] ⟨H,H,H,H,T⟩ O) ?_
 refine qK 2 0 O O (Nat×Nat) (fun ⟨k,n⟩=>[(6,vI k),(5,vI n)]) (fun ⟨k,n⟩=>[]) (fun ⟨k,n⟩=>k<=l.length/\(n<=4294967296)/\(numB l m=numL (l.drop k) m n)) (fun ⟨k,n⟩=>l.length-k) ⟨⟨0,l.length⟩,⟨by omega,by omega,O⟩,Weak.mk [] ⟨H,VLe.of_eq (congrArg vI (by simp)),H,H,T⟩ O⟩ ?_
 rintro ⟨k,n⟩ ⟨hk,hn,hp⟩
 show AWP _ _ _ _ _ ⟨[(6,vI k),(5,vI n)]++_,[]++_⟩
 refine zJ<|F O<|A O<|A O<|qC O D<|yD O<|A O<|rL0 O (fun g3_4=>w O O) O<|rL0 O (fun g3_4=>w O O) O<|rLz [(14,_),(15,_)] O gv1 ⟨O,O,O,O,T⟩ (fun g3_4=>wX O O O) O<|yS O (fun h=>h)<|G<|zD O (fun c1=>?_) (fun c1=>?_)
 ·try simp only [I] at c1
  obtain ⟨s,hs⟩:=qV l k (by omega)
  have hsum:=num_sum hs hp (by omega)
  have hbl:=numB_le s.Body (m-n)
  have hsn:=zHd (qB hs)
  have hse:=zGi s
  refine zK<|zJ<|zR<|zQ O<|A O<|A O<|A O<|qD O D (by omega) (wG hs)<|qP O kM<|zM kQ qA O<|A O<|A O<|zU O (yB O O O ⟨by omega,by omega⟩)<|zU O (zPi O O O)<|qI O ok46 (ih s (qB hs) (m-n) _ (by omega) (by omega)) ⟨H,O,H,O,T⟩<|qJ O ⟨by omega,by omega⟩<|A O<|G<|zQ O<|A O<|qJ O ⟨by omega,by omega⟩<|A O<|G ?_
  refine ⟨⟨k+1,n+numB s.Body (m-n)⟩,⟨by omega,by omega,num_next hs hp (by omega)⟩,(by show l.length-(k+1)<l.length-k;omega),Weak.mk [] ⟨H,VLe.of_eq (congrArg vI (by omega)),H,H,T⟩ O⟩
 ·try simp only [I] at c1
  refine qQ<|F O<|A O<|A O<|G<|o<|X O ?_
  exact congrArg vI (by rw [←num_end hp (by omega)])
theorem zTc (s:St):∀(m:Nat) (x:Int),stsWt s.Body<=1073741824->m<=2147483648->x=m->Pur cfg 46 [vSts s.Body,vI x] (vI (numB s.Body m)):=by
  induction s using St.ind with
  |_ s ih=>exact fun m x hl hm hx=>zJf s.Body (fun a ha m x h1 h2=>ih a ha m x (by have:=St.body_wt a;have:=yE ha;omega) h1 h2) m x hl hm hx
theorem ref30_size (l:List St) (m:Nat) (x:Int) (hl:stsWt l<=1073741824) (hm:m<=2147483648) (hx:x=m):Pur cfg 46 [vSts l,vI x] (vI (numB l m)):=
  zJf l (fun a ha m x h1 h2=>zTc a m x (by have:=St.body_wt a;have:=yE ha;omega) h1 h2) m x hl hm hx
theorem zLo (l:List Bf) (c:C) (p:Bf->Bool) (hl:l.length<=4294967296) (hc:∀x,x∈l->FnPur cfg c [vBf x] (vB (p x))):
    Pur cfg 160 [vBfs l,.c c] (vI (idxOf p l)):=by
 refine zT Tryz.func160 O Tryz.ntmps160 Tryz.results160 O ?_
 intro z hz
 refine F O<|A O<|G<|zJ<|F O<|A O<|qC O el22<|A O<|G<|zR<|zY ⟨[(8,.c _),(0,.c _),(1,.c _),(7,.c _)],[]⟩ (Weak.mk [] ⟨H,H,H,H,T⟩ O)<|qK 1 0 O O (Nat) (fun k=>[(8,vI k)]) (fun k=>[]) (fun k=>k<=l.length/\((l.take k).any p=false)) (fun k=>l.length-k) ⟨0,⟨by omega,O⟩,Weak.mk [] ⟨H,H,H,H,T⟩ O⟩ ?_
 rintro k ⟨hk,hp⟩
 refine F O<|yD O<|G<|zJ<|zD O (fun c1=>?_) (fun c1=>?_)
 ·try simp only [I] at c1
  obtain ⟨x,hx⟩:=qV l k (by omega)
  refine zK<|zJ<|zR<|F O<|A O<|A O<|G<|F O<|A O<|A O<|A O<|qD O el22 (by omega) (Q (by assumption))<|zP zMa qA O<|zU O (kW O O (hc _ (qB hx)) ⟨H,O,T⟩)<|G<|zD O (fun c2=>?_) (fun c2=>?_)
  ·try simp only [I] at c2
   refine F O<|A O<|A O<|G<|o<|X O ?_
   rw [zRj hx c2 hp]
  ·try simp only [I] at c2
   refine zK<|zQ O<|qJ O ⟨by omega,by omega⟩<|A O<|G ?_
   refine ⟨k+1,⟨by omega,zSa hx hp c2⟩,(by omega),Weak.mk [] ⟨H,H,H,H,T⟩ O⟩
 ·try simp only [I] at c1
  refine qQ<|F O<|A O<|G<|o<|X O ?_
  rw [zKp (by rw [yO (by omega)] at hp;exact hp)]
theorem zIl (l:List Bf) (c:C) (p:Bf->Bool) (hl:l.length<=4294967296) (hc:∀x,x∈l->FnPur cfg c [vBf x] (vB (p x))):
    Pur cfg 125 [vBfs l,.c c] (vB (l.any p)):=by
 refine zT Tryz.func125 O Tryz.ntmps125 Tryz.results125 O ?_
 intro z hz
 refine F O<|A O<|G<|F O<|A O<|A O<|qI O ok160 (zLo l c p hl hc) ⟨H,O,H,O,T⟩<|zU O (wH O O O)<|A O<|G<|o<|X O ?_
 rw [zNk]
theorem checkBuffers_1 (x b:Bf):
    Pur cfg 126 [vBf x,.c (.iptr b.cells)] (vB (decide (x.Name=b.Name))):=by
 refine zT Tryz.func126 O Tryz.ntmps126 Tryz.results126 O ?_
 intro z hz
 refine F O<|zX O O (qN O O) ?_
 rintro _ _ ⟨b1,rfl,rfl⟩
 refine A O<|G<|F O<|zH O zLi<|zM one9 (R 0 O) O<|qP O zLi<|zM one9 qA O<|zU O (yV O O O)<|A O<|G<|o<|X O ?_
 exact O
theorem zJr (l:List Bf) (hl:l.length<=4294967296) (hd:∀b,b∈l->b.Dims.length<=17592186044416):
    Pur cfg 81 [vBfs l] (vI (bufsErr [] l)):=by
 refine zT Tryz.func81 O Tryz.ntmps81 Tryz.results81 O ?_
 intro z hz
 refine F O<|A O<|G<|zJ<|F O<|A O<|qC O el22<|A O<|G<|zR<|zY ⟨[(8,.c _),(0,.c _),(7,.c _)],[]⟩ (Weak.mk [] ⟨H,H,H,T⟩ O)<|qK 1 0 O O (Nat) (fun k=>[(8,vI k)]) (fun k=>[]) (fun k=>k<=l.length/\(bufsErr [] l=bufsErr (l.take k) (l.drop k))) (fun k=>l.length-k) ⟨0,⟨by omega,O⟩,Weak.mk [] ⟨H,H,H,T⟩ O⟩ ?_
 rintro k ⟨hk,hp⟩
 refine F O<|yD O<|G<|zJ<|zD O (fun c1=>?_) (fun c1=>?_)
 ·try simp only [I] at c1
  obtain ⟨b,hb⟩:=qV l k (by omega)
  refine zK<|zJ<|zR<|F O<|A O<|A O<|G<|F O<|A O<|A O<|qD O el22 (by omega) (Q (by assumption))<|zP zMa qA O<|zX O O (qE [none,none,none,none,none,none,some 1,none] O zr65 O) ?_
  rintro _ _ ⟨b1,rfl,rfl⟩
  refine Y 0 sz65 O<|yI _ (yW 0 O 4 _ PLe.ptr)<|G<|zJ<|zR<|F O<|qP O zLi<|zM one9 qA O<|qI O ok49 (zBc _) ⟨H,O,T⟩<|kO O<|A O<|G<|zD O (fun c2=>?_) (fun c2=>?_)
  ·try simp only [I] at c2
   refine F O<|A O<|G<|o<|X O ?_
   rw [zBn hb hp (by rw [bfErr_7 c2];decide),bfErr_7 c2]
  ·try simp only [I] at c2
   refine F O<|A O<|A O<|zU O (zJz O el22 O O (by omega))<|zU O (zDz O O O O O)<|qI O ok125 (zIl (l.take k) _ (fun x=>decide (x.Name=b.Name)) (by rw [List.length_take];omega) (fun x _=>FnPur.of_pur (first:=[]) (cap:=[.iptr b.cells]) ok126 (checkBuffers_1 x b))) ⟨H,O,H,O,T⟩<|A O<|G<|zD O (fun c3=>?_) (fun c3=>?_)
   ·try simp only [I] at c3
    refine F O<|A O<|G<|o<|X O ?_
    rw [zBn hb hp (by rw [bfErr_8 c2 c3];decide),bfErr_8 c2 c3]
   ·try simp only [I] at c3
    refine F O<|qP O zJv<|zP yR qA O<|qI O ok127 (zDf b.T) ⟨H,O,T⟩<|yN O<|A O<|G<|zD O (fun c4=>?_) (fun c4=>?_)
    ·try simp only [I] at c4
     refine F O<|A O<|G<|o<|X O ?_
     rw [zBn hb hp (by rw [zRz c2 c3 (tyErr_ne c4)];decide),zRz c2 c3 (tyErr_ne c4)]
    ·try simp only [I] at c4
     refine zK<|zJ<|F O<|qP O zLh<|zM zGo qA O<|qI O ok128 (shape_Validate b.Dims (hd b (qB hb))) ⟨H,O,T⟩<|A O<|G<|F O<|A O<|yN O<|G<|zD O (fun c5=>?_) (fun c5=>?_)
     ·try simp only [I] at c5
      refine F O<|A O<|A O<|G<|o<|X O ?_
      rw [zBn hb hp (by rw [bfErr_d c2 c3 (zKh c4) c5];exact c5),bfErr_d c2 c3 (zKh c4) c5]
     ·try simp only [I] at c5
      refine zK<|F O<|qP O zPw<|zM one3 qA O<|yD O<|A O<|rL0 O (fun g14_3=>qL O zPw O) O<|B 41 O (fun g14_3=>zF O one3 O qA O) O<|B 42 O (fun g14_3=>yG O O O) O<|r_or O (fun h=>(lzf h))<|G<|zD O (fun c6=>?_) (fun c6=>?_)
      ·try simp only [I] at c6
       refine F O<|A O<|G<|o<|X O ?_
       rw [zBn hb hp (by rw [bfErr_u c2 c3 (zKh c4) c5 (by omega)];decide),bfErr_u c2 c3 (zKh c4) c5 (by omega)]
      ·try simp only [I] at c6
       refine zK<|zQ O<|qJ O ⟨by omega,by omega⟩<|A O<|G ?_
       refine ⟨k+1,⟨by omega,zQb hb hp (bfErr_0 c2 c3 (zKh c4) c5 (by omega))⟩,(by omega),Weak.mk [] ⟨H,H,H,T⟩ O⟩
 ·try simp only [I] at c1
  refine qQ<|F O<|A O<|G<|o<|X O ?_
  rw [zVi hp (by omega)]
theorem ref30_bufs (n:Ns) (hn:n.Ok):
    Pur cfg 111 [vNs n] (vI (bufsErr [] n.Bufs)):=by
 refine zT Tryz.func111 O Tryz.ntmps111 Tryz.results111 O ?_
 intro z hz
 have hnb:=hn.bufs
 refine F O<|zX O O (qN O O) ?_
 rintro _ _ ⟨b1,rfl,rfl⟩
 refine A O<|G<|zJ<|F O<|A O<|G<|zR<|zY ⟨[(3,.c _),(1,.c _)],[_]⟩ (Weak.mk [true] ⟨H,H,T⟩ O)<|qK 1 0 O O (Nat) (fun k=>[(3,vI k)]) (fun k=>[]) (fun k=>k<=n.Bufs.length/\(bufsErr [] n.Bufs=bufsErr (n.Bufs.take k) (n.Bufs.drop k))) (fun k=>n.Bufs.length-k) ⟨0,⟨by omega,O⟩,Weak.mk [true] ⟨H,H,T⟩ O⟩ ?_
 rintro k ⟨hk,hp⟩
 refine zJ<|F O<|A O<|zH O zAr<|zM zEi (R 0 O) O<|qC O el22<|yD O<|G<|zD O (fun c1=>?_) (fun c1=>?_)
 ·try simp only [I] at c1
  obtain ⟨b,hb⟩:=qV n.Bufs k (by omega)
  refine zK<|zJ<|zR<|F O<|zH O zAr<|zM zEi (R 0 O) O<|A O<|qD O el22 (by omega) (Q (by assumption))<|zP zMa qA O<|zX O O (qE [none,none,none,none,none,none,some 1,none] O zr65 O) ?_
  rintro _ _ ⟨b2,rfl,rfl⟩
  refine Y 0 sz65 O<|G<|zJ<|F O<|zH O zLi<|zM one9 (R 0 O) O<|qI O ok60 (zEk _) ⟨H,O,T⟩<|kO O<|G<|zD O (fun c2=>?_) (fun c2=>?_)
  ·try simp only [I] at c2
   refine F O<|A O<|G<|o<|X O ?_
   rw [zBn hb hp (by rw [bfErr_7 c2];decide),bfErr_7 c2]
  ·try simp only [I] at c2
   refine zK<|zJ<|F O<|A O<|G<|zR<|zY ⟨[(5,.c _),(1,.c _),(3,.c _),(4,.c _)],[_,_]⟩ (Weak.mk [true,true] ⟨H,H,H,H,T⟩ O)<|qK 1 0 O O (Nat) (fun j=>[(5,vI j)]) (fun j=>[]) (fun j=>j<=k/\hasBf (n.Bufs.take j) b.Name=false) (fun j=>k-j) ⟨0,⟨by omega,O⟩,Weak.mk [true,true] ⟨H,H,H,H,T⟩ O⟩ ?_
   rintro j ⟨hj,hq⟩
   refine zJ<|F O<|A O<|A O<|yD O<|G<|zD O (fun c3=>?_) (fun c3=>?_)
   ·try simp only [I] at c3
    obtain ⟨y,hy⟩:=qV n.Bufs j (by omega)
    refine zK<|zJ<|zR<|zJ<|qY 9 mixed (by kernel_rfl) O O<|M O O (zE O zAr O)<|M O O (zF O zEi O (R 1 O) O)<|M O O (w O O)<|M O O (qG O el22 O O (by omega) (Q (by assumption)))<|M O O (qL O zLi O)<|M O O (zF O one9 O qA O)<|M O O (zE O zLi O)<|M O O (zF O one9 O (R 0 O) O)<|M O O (yV O O O)<|kD<|G<|zD O (fun c4=>?_) (fun c4=>?_)
    ·try simp only [I] at c4
     refine F O<|A O<|G<|o<|X O ?_
     have h8:=hasBf_lt hy (show j<k by omega) c4
     rw [zBn hb hp (by rw [bfErr_8 c2 h8];decide),bfErr_8 c2 h8]
    ·try simp only [I] at c4
     refine zK<|zQ O<|A O<|qJ O ⟨by omega,by omega⟩<|A O<|G ?_
     refine ⟨j+1,⟨by omega,zPb hy hq c4⟩,(by omega),Weak.mk [true,true] ⟨H,H,H,H,T⟩ O⟩
   ·try simp only [I] at c3
    rw [show j=k by omega] at hq
    refine qQ<|zJ<|F O<|zH O zJv<|zP yR (R 0 O) O<|qI O ok148 (base_Type b.T) ⟨H,O,T⟩<|kO O<|G<|zD O (fun c5=>?_) (fun c5=>?_)
    ·try simp only [I] at c5
     refine F O<|A O<|G<|o<|X O ?_
     rw [zBn hb hp (by rw [zRz c2 hq c5];decide),zRz c2 hq c5]
    ·try simp only [I] at c5
     refine zK<|zJ<|F O<|zH O zLh<|zM zGo (R 0 O) O<|qI O ok149 (ref11_Validate b.Dims (hn.dims b (qB hb))) ⟨H,O,T⟩<|A O<|G<|F O<|A O<|yN O<|G<|zD O (fun c6=>?_) (fun c6=>?_)
     ·try simp only [I] at c6
      refine F O<|A O<|A O<|G<|o<|X O ?_
      rw [zBn hb hp (by rw [bfErr_d c2 hq c5 c6];exact c6),bfErr_d c2 hq c5 c6]
     ·try simp only [I] at c6
      refine zK<|F O<|zH O zPw<|zM one3 (R 0 O) O<|yD O<|A O<|rL0 O (fun g17_3=>zE O zPw O) O<|B 51 O (fun g17_3=>zF O one3 O (R 0 O) O) O<|B 52 O (fun g17_3=>yG O O O) O<|r_or O (fun h=>(lzf h))<|G<|zD O (fun c7=>?_) (fun c7=>?_)
      ·try simp only [I] at c7
       refine F O<|A O<|G<|o<|X O ?_
       rw [zBn hb hp (by rw [bfErr_u c2 hq c5 c6 (by omega)];decide),bfErr_u c2 hq c5 c6 (by omega)]
      ·try simp only [I] at c7
       refine zK<|zQ O<|A O<|qJ O ⟨by omega,by omega⟩<|A O<|G ?_
       refine ⟨k+1,⟨by omega,zQb hb hp (bfErr_0 c2 hq c5 c6 (by omega))⟩,(by omega),Weak.mk [false,true] ⟨H,H,T⟩ O⟩
 ·try simp only [I] at c1
  refine qQ<|F O<|A O<|G<|o<|X O ?_
  rw [zVi hp (by omega)]
end Go.W
