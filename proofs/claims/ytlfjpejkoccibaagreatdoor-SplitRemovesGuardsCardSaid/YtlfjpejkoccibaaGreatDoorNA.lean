/-
  Walks: what functions of the program compute. Printed by wip/gen/mk2.py.
  Conditions: none.
-/
import Derived.Test.YtlfjpejkoccibaaGreatDoorWalkV
import Derived.Test.YtlfjpejkoccibaaGreatDoorEngZ
import Derived.Test.YtlfjpejkoccibaaGreatDoorPlain2
set_option linter.unusedSimpArgs false
set_option linter.unusedVariables false
set_option maxRecDepth 10000
namespace Go.W
open Go Go.Eng Go.Proofs Go.L41 Go.Br
attribute [local irreducible] AWP RWP TD finQ
theorem zKu:aggT Tryz.prog 65=some 8:=by kernel_rfl
theorem el22:elemT Tryz.prog 22=some (65,8,88):=by kernel_rfl
theorem K:elemT Tryz.prog 23=some (46,20,256):=by kernel_rfl
theorem zAg:fieldT Tryz.prog 25 0=some (0,22):=by kernel_rfl
theorem kP:fieldT Tryz.prog 46 7=some (19,23):=by kernel_rfl
theorem zKa:fieldT Tryz.prog 65 0=some (0,9):=by kernel_rfl
theorem zIr:fieldT Tryz.prog 65 1=some (1,38):=by kernel_rfl
theorem zJz:fieldT Tryz.prog 65 2=some (6,26):=by kernel_rfl
theorem zOj:fieldT Tryz.prog 65 3=some (7,3):=by kernel_rfl
theorem ok46:callOk Tryz.prog 46=true:=by kernel_rfl
theorem ok79:callOk Tryz.prog 79=true:=by kernel_rfl
theorem ok80:callOk Tryz.prog 80=true:=by kernel_rfl
theorem ok89:callOk Tryz.prog 89=true:=by kernel_rfl
theorem ok96:callOk Tryz.prog 96=true:=by kernel_rfl
theorem ok110:callOk Tryz.prog 110=true:=by kernel_rfl
theorem ok125:callOk Tryz.prog 125=true:=by kernel_rfl
theorem ok126:callOk Tryz.prog 126=true:=by kernel_rfl
theorem ok128:callOk Tryz.prog 128=true:=by kernel_rfl
theorem ok149:callOk Tryz.prog 149=true:=by kernel_rfl
theorem ok160:callOk Tryz.prog 160=true:=by kernel_rfl
theorem zDm:oneT Tryz.prog 22=true:=by kernel_rfl
theorem kT:oneT Tryz.prog 23=true:=by kernel_rfl
theorem zFm:oneT Tryz.prog 26=true:=by kernel_rfl
theorem pl65:placesT Tryz.prog 65=some [(0,1),(1,5),(6,1),(7,1)]:=by kernel_rfl
theorem sz26:(Tryz.prog.info? 26).map (·.size)=some 1:=by kernel_rfl
theorem sz65:(Tryz.prog.info? 65).map (·.size)=some 8:=by kernel_rfl
theorem zr65:zeroT Tryz.prog 65=some [(Value.string (ByteArray.mk #[])),(Value.int IntKind.i64 0),(Value.int IntKind.i64 0),(Value.int IntKind.i64 0),(Value.int IntKind.i64 0),(Value.int IntKind.i64 0),(Value.slice none 0 0),(Value.int IntKind.i64 0)]:=by kernel_rfl
theorem shape_Validate (d:List Int) (hl:d.length<=17592186044416):
    Pur cfg 128 [vIs d] (vI (dimsErr d)):=by
 refine zR Tryz.func128 O Tryz.ntmps128 Tryz.results128 O ?_
 intro z hz
 refine G O<|F O<|I<|zJ<|G O<|F O<|qB O el26<|zX O (yC O O O)<|I<|zF O (fun c1=>?_) (fun c1=>?_)
 ·try simp only [R] at c1
  have hlong:=dims_long (d:=d) (by omega)
  refine G O<|F O<|I<|o<|X O ?_
  rw [hlong]
 ·try simp only [R] at c1
  refine zI<|zJ<|G O<|F O<|qB O el26<|F O<|I<|zQ<|zW ⟨[(13,.c _),(0,.c _),(11,.c _),(12,.c _)],[]⟩ (Weak.mk [] ⟨H,H,H,H,T⟩ O)<|qK 1 0 O O (Nat) (fun k=>[(13,vI k)]) (fun k=>[]) (fun k=>k<=d.length/\((d.take k).all posI=true)) (fun k=>d.length-k) ⟨0,⟨by omega,O⟩,Weak.mk [] ⟨H,H,H,H,T⟩ O⟩ ?_
  rintro k ⟨hk,hp⟩
  refine G O<|yH O<|I<|zJ<|zF O (fun c2=>?_) (fun c2=>?_)
  ·try simp only [R] at c2
   obtain ⟨n,hn⟩:=qW d k (by omega)
   refine zI<|zJ<|zQ<|G O<|qC O el26 (by omega) (N (by assumption))<|zK J qA O<|F O<|I<|G O<|F O<|yH O<|I<|zF O (fun c3=>?_) (fun c3=>?_)
   ·try simp only [R] at c3
    have hneg:=dims_neg (d:=d) (by omega) hn c3
    refine G O<|F O<|I<|o<|X O ?_
    rw [hneg]
   ·try simp only [R] at c3
    refine zI<|zS O<|qH O ⟨by omega,by omega⟩<|F O<|I ?_
    refine ⟨k+1,⟨by omega,zIx hn hp (by unfold posI;exact decide_eq_true (by omega))⟩,(by omega),Weak.mk [] ⟨H,H,H,H,T⟩ O⟩
  ·try simp only [R] at c2
   have hpos:d.all posI=true:=by rw [yL (by omega)] at hp;exact hp
   refine qN<|G O<|F O<|I<|zJ<|G O<|F O<|qB O el26<|F O<|I<|zQ<|zW ⟨[(22,.c _),(5,.c _),(20,.c _),(21,.c _)],[]⟩ (Weak.mk [] ⟨H,H,H,H,T⟩ O)<|qK 2 0 O O (Nat×Int) (fun ⟨j,s⟩=>[(22,vI j),(5,vI s)]) (fun ⟨j,s⟩=>[]) (fun ⟨j,s⟩=>j<=d.length/\(1<=s)/\(s<=4096)/\(sizeFrom 1 d=sizeFrom s (d.drop j))) (fun ⟨j,s⟩=>d.length-j) ⟨⟨0,1⟩,⟨by omega,by omega,by omega,O⟩,Weak.mk [] ⟨H,VLe.of_eq (O),H,H,T⟩ O⟩ ?_
   rintro ⟨j,s⟩ ⟨hj,hs1,hs2,hs3⟩
   show AWP _ _ _ _ _ ⟨[(22,vI j),(5,vI s)]++_,[]++_⟩
   refine G O<|yH O<|I<|zJ<|zF O (fun c4=>?_) (fun c4=>?_)
   ·try simp only [R] at c4
    obtain ⟨m,hm⟩:=qW d j (by omega)
    refine zI<|zJ<|zQ<|G O<|qC O el26 (by omega) (N (by assumption))<|zK J qA O<|F O<|I<|zJ<|G O<|F O<|F O<|zX O (zKq O O O (by omega))<|zX O (yC O O O)<|I<|zF O (fun c5=>?_) (fun c5=>?_)
    ·try simp only [R] at c5
     have hov:=quo_t hs1 c5
     refine G O<|F O<|I<|o<|X O ?_
     rw [zSy (by omega) hpos (zRd hm hs3 hov)]
    ·try simp only [R] at c5
     have hov:=quo_f hs1 (Int.not_lt.2 c5)
     have hm1:=zLo hs1 (zJe hpos hm)
     refine zI<|zS O<|F O<|F O<|zX O (det_mul_nw O O O (by have:=zLo hs1 (zJe hpos hm);exact ⟨by omega,by omega⟩))<|F O<|I<|zS O<|qH O ⟨by omega,by omega⟩<|F O<|I ?_
     refine ⟨⟨j+1,s*m⟩,⟨by omega,by omega,by omega,size_next hm hs3 hov⟩,(by show d.length-(j+1)<d.length-j;omega),Weak.mk [] ⟨H,H,H,H,T⟩ O⟩
   ·try simp only [R] at c4
    refine qN<|G O<|F O<|I<|o<|X O ?_
    rw [dims_ok (by omega) hpos (size_done hs3 (by omega))]
theorem ref11_Validate (d:List Int) (hl:d.length<=17592186044416):
    Pur cfg 149 [vIs d] (vI (dimsErr d)):=by
 refine zR Tryz.func149 O Tryz.ntmps149 Tryz.results149 O ?_
 intro z hz
 refine G O<|F O<|I<|zJ<|G O<|F O<|qB O el26<|zX O (yC O O O)<|I<|zF O (fun c1=>?_) (fun c1=>?_)
 ·try simp only [R] at c1
  have hlong:=dims_long (d:=d) (by omega)
  refine G O<|F O<|I<|o<|X O ?_
  rw [hlong]
 ·try simp only [R] at c1
  refine zI<|zJ<|G O<|F O<|I<|zQ<|zW ⟨[(3,.c _),(0,.c _)],[]⟩ (Weak.mk [] ⟨H,H,T⟩ O)<|qK 1 0 O O (Nat) (fun k=>[(3,vI k)]) (fun k=>[]) (fun k=>k<=d.length/\((d.take k).all posI=true)) (fun k=>d.length-k) ⟨0,⟨by omega,O⟩,Weak.mk [] ⟨H,H,T⟩ O⟩ ?_
  rintro k ⟨hk,hp⟩
  refine zJ<|G O<|F O<|F O<|qB O el26<|yH O<|I<|zF O (fun c2=>?_) (fun c2=>?_)
  ·try simp only [R] at c2
   obtain ⟨n,hn⟩:=qW d k (by omega)
   refine zI<|zJ<|zQ<|G O<|F O<|F O<|qC O el26 (by omega) (N (by assumption))<|zK J qA O<|yH O<|I<|zF O (fun c3=>?_) (fun c3=>?_)
   ·try simp only [R] at c3
    have hneg:=dims_neg (d:=d) (by omega) hn c3
    refine G O<|F O<|I<|o<|X O ?_
    rw [hneg]
   ·try simp only [R] at c3
    refine zI<|zS O<|F O<|qH O ⟨by omega,by omega⟩<|F O<|I ?_
    refine ⟨k+1,⟨by omega,zIx hn hp (by unfold posI;exact decide_eq_true (by omega))⟩,(by omega),Weak.mk [] ⟨H,H,T⟩ O⟩
  ·try simp only [R] at c2
   have hpos:d.all posI=true:=by rw [yL (by omega)] at hp;exact hp
   refine qN<|G O<|F O<|I<|zJ<|G O<|F O<|I<|zQ<|zW ⟨[(5,.c _),(4,.c _),(0,.c _)],[]⟩ (Weak.mk [] ⟨H,H,H,T⟩ O)<|qK 2 0 O O (Nat×Int) (fun ⟨j,s⟩=>[(5,vI j),(4,vI s)]) (fun ⟨j,s⟩=>[]) (fun ⟨j,s⟩=>j<=d.length/\(1<=s)/\(s<=4096)/\(sizeFrom 1 d=sizeFrom s (d.drop j))) (fun ⟨j,s⟩=>d.length-j) ⟨⟨0,1⟩,⟨by omega,by omega,by omega,O⟩,Weak.mk [] ⟨H,VLe.of_eq (O),H,T⟩ O⟩ ?_
   rintro ⟨j,s⟩ ⟨hj,hs1,hs2,hs3⟩
   show AWP _ _ _ _ _ ⟨[(5,vI j),(4,vI s)]++_,[]++_⟩
   refine zJ<|G O<|F O<|F O<|qB O el26<|yH O<|I<|zF O (fun c4=>?_) (fun c4=>?_)
   ·try simp only [R] at c4
    obtain ⟨m,hm⟩:=qW d j (by omega)
    refine zI<|zJ<|zQ<|zJ<|G O<|F O<|F O<|qC O el26 (by omega) (N (by assumption))<|zK J qA O<|zX O (yC O O O)<|I<|zF O (fun c5=>?_) (fun c5=>?_)
    ·try simp only [R] at c5
     have hov:4096<s*m:=by have:=zLo hs1 (zJe hpos hm);omega
     refine G O<|F O<|I<|o<|X O ?_
     rw [zSy (by omega) hpos (zRd hm hs3 hov)]
    ·try simp only [R] at c5
     have hm1:=zLo hs1 (zJe hpos hm)
     refine zI<|G O<|F O<|F O<|F O<|qC O el26 (by omega) (N (by assumption))<|zK J qA O<|zX O (det_mul_nw O O O (by have:=zLo hs1 (zJe hpos hm);have hm0:=zJe hpos hm;have:s*m<=4096*4096:=Int.mul_le_mul (by omega) (by omega) (by omega) (by omega);exact ⟨by omega,by omega⟩))<|F O<|I<|G O<|F O<|zX O (yC O O O)<|I<|zF O (fun c6=>?_) (fun c6=>?_)
     ·try simp only [R] at c6
      refine G O<|F O<|I<|o<|X O ?_
      rw [zSy (by omega) hpos (zRd hm hs3 (by omega))]
     ·try simp only [R] at c6
      refine zI<|zS O<|F O<|qH O ⟨by omega,by omega⟩<|F O<|I ?_
      refine ⟨⟨j+1,s*m⟩,⟨by omega,by omega,by omega,size_next hm hs3 (by omega)⟩,(by show d.length-(j+1)<d.length-j;omega),Weak.mk [] ⟨H,H,H,T⟩ O⟩
   ·try simp only [R] at c4
    refine qN<|G O<|F O<|I<|o<|X O ?_
    rw [dims_ok (by omega) hpos (size_done hs3 (by omega))]
theorem zHa (l:List Int) (hl:l.length<=17592186044416):
    OwnR cfg 96 [vIs l] 3 1 (l.map fun n=>[cI n]):=by
 refine zR Tryz.func96 O Tryz.ntmps96 Tryz.results96 O ?_
 intro z hz
 refine G O<|yA 1 O<|I<|zJ<|G O<|F O<|zU O O (zFl O el26 O O) ?_
 rintro _ _ ⟨nb1,rfl,hnil1,rfl⟩
 refine I<|zF O (fun c1=>?_) (fun c1=>?_)
 ·try simp only [R] at c1
  refine G O<|F O<|yN _ (kX 3 1)<|I<|o<|X O ?_
  exact ⟨_,O,by rw [hnil1 c1]⟩
 ·try simp only [R] at c1
  refine zI<|G O<|zU O O (zCy O el26 zr3 O O O O) ?_
  rintro _ _ ⟨sv3,rfl,rfl⟩
  refine F O<|zU O O (yD 0 O el26 O O O (by simp only [List.length_map,List.length_nil,Nat.zero_add];omega) (by simp only [List.length_map,List.length_nil,Nat.zero_add];omega)) ?_
  rintro _ _ ⟨sv4,rfl,rfl⟩
  refine F O<|I<|o<|X O ?_
  exact ⟨_,O,O⟩
theorem zCd (b:Bf) (hl:b.Dims.length<=17592186044416):
    Pur cfg 89 [vBf b] (vBf b):=by
 refine zR Tryz.func89 O Tryz.ntmps89 Tryz.results89 O ?_
 intro z hz
 refine G O<|zU O O (qM O O) ?_
 rintro _ _ ⟨b1,rfl,rfl⟩
 refine zU O O (qE [none,none,none,none,none,none,some 1,none] O zr65 O) ?_
 rintro _ _ ⟨b2,rfl,rfl⟩
 refine I<|G O<|zH O zJz<|zK zFm (Y 1 O) O<|qJ O ok96 (OwnR.pur (zHa b.Dims hl)) ⟨H,O,T⟩<|zH O zJz<|D 1 sz26 O<|I<|G O<|zO zKu (Y 1 O) O<|D 0 sz65 O<|I<|o<|fin1 (zV zKu O (Y 0 O) O) ?_
 exact O
theorem wZ (n:Ns) (s:ByteArray) (hn:n.Ok):
    Pur cfg 101 [vNs n,vS s] (.tup [vBf (bufD n.Bufs s),vB (hasBf n.Bufs s)]):=by
 refine zR Tryz.func101 O Tryz.ntmps101 Tryz.results101 O ?_
 intro z hz
 have hnb:=hn.bufs
 refine G O<|zU O O (qM O O) ?_
 rintro _ _ ⟨b1,rfl,rfl⟩
 refine zU O O (qE [none,none,none,none,none,none,some 1,none] O zr65 O) ?_
 rintro _ _ ⟨b2,rfl,rfl⟩
 refine F O<|I<|zJ<|G O<|zH O zAg<|zK zDm (Y 1 O) O<|qB O el22<|F O<|I<|zQ<|zW ⟨[(10,.c _),(1,.c _),(2,.c _),(4,.c _),(9,.c _)],[_,_]⟩ (Weak.mk [true,true] ⟨H,H,H,H,H,T⟩ O)<|qK 1 0 O O (Nat) (fun k=>[(10,vI k)]) (fun k=>[]) (fun k=>k<=n.Bufs.length/\(hasBf (n.Bufs.take k) s=false)/\(bufD n.Bufs s=bufD (n.Bufs.drop k) s)) (fun k=>n.Bufs.length-k) ⟨0,⟨by omega,O,O⟩,Weak.mk [true,true] ⟨H,H,H,H,H,T⟩ O⟩ ?_
 rintro k ⟨hk,hp,hq⟩
 refine G O<|yH O<|I<|zJ<|zF O (fun c1=>?_) (fun c1=>?_)
 ·try simp only [R] at c1
  obtain ⟨b,hb⟩:=qW n.Bufs k (by omega)
  refine zI<|zJ<|zQ<|G O<|F O<|F O<|I<|G O<|zH O zAg<|zK zDm (Y 1 O) O<|F O<|qC O el22 (by omega) (N (by assumption))<|qQ O zKa<|zK one9 qA O<|F O<|zX O (yU O O O)<|I<|zF O (fun c2=>?_) (fun c2=>?_)
  ·try simp only [R] at c2
   refine G O<|zH O zAg<|zK zDm (Y 1 O) O<|F O<|qC O el22 (by omega) (N (by assumption))<|zO zKu qA O<|qJ O ok89 (zCd b (hn.dims b (zZ hb))) ⟨H,O,T⟩<|D 0 sz65 O<|F O<|I<|o<|w (zV zKu O (Y 0 O) O) (p O) ?_
   rw [hasBf_at hb c2,hq,bufD_at hb c2];rfl
  ·try simp only [R] at c2
   refine zI<|zS O<|qH O ⟨by omega,by omega⟩<|F O<|I ?_
   refine ⟨k+1,⟨by omega,zNm hb hp c2,hq.trans (bufD_next hb c2)⟩,(by omega),Weak.mk [true,true] ⟨H,H,H,H,H,T⟩ O⟩
 ·try simp only [R] at c1
  refine qN<|G O<|qV [none,none,none,none,none,none,some 1,none] O zr65 pl65<|D 0 sz65 O<|F O<|I<|o<|w (zV zKu O (Y 0 O) O) (p O) ?_
  rw [yL (by omega)] at hp;rw [hp,bufD_no hp];rfl
theorem zCg (n:Ns) (s:ByteArray) (hn:n.Ok):
    Pur cfg 115 [vNs n,vS s] (.tup [vBf (bufD n.Bufs s),vB (hasBf n.Bufs s)]):=by
 refine zR Tryz.func115 O Tryz.ntmps115 Tryz.results115 O ?_
 intro z hz
 have hnb:=hn.bufs
 refine G O<|zU O O (qM O O) ?_
 rintro _ _ ⟨b1,rfl,rfl⟩
 refine zU O O (qE [none,none,none,none,none,none,some 1,none] O zr65 O) ?_
 rintro _ _ ⟨b2,rfl,rfl⟩
 refine F O<|I<|zJ<|G O<|F O<|I<|zQ<|zW ⟨[(6,.c _),(1,.c _),(2,.c _),(4,.c _)],[_,_]⟩ (Weak.mk [true,true] ⟨H,H,H,H,T⟩ O)<|qK 1 0 O O (Nat) (fun k=>[(6,vI k)]) (fun k=>[]) (fun k=>k<=n.Bufs.length/\(hasBf (n.Bufs.take k) s=false)/\(bufD n.Bufs s=bufD (n.Bufs.drop k) s)) (fun k=>n.Bufs.length-k) ⟨0,⟨by omega,O,O⟩,Weak.mk [true,true] ⟨H,H,H,H,T⟩ O⟩ ?_
 rintro k ⟨hk,hp,hq⟩
 refine zJ<|G O<|F O<|zH O zAg<|zK zDm (Y 1 O) O<|qB O el22<|yH O<|I<|zF O (fun c1=>?_) (fun c1=>?_)
 ·try simp only [R] at c1
  obtain ⟨b,hb⟩:=qW n.Bufs k (by omega)
  refine zI<|zJ<|zQ<|G O<|zH O zAg<|zK zDm (Y 1 O) O<|F O<|qC O el22 (by omega) (N (by assumption))<|qQ O zKa<|zK one9 qA O<|F O<|zX O (yU O O O)<|I<|zF O (fun c2=>?_) (fun c2=>?_)
  ·try simp only [R] at c2
   refine G O<|zH O zAg<|zK zDm (Y 1 O) O<|F O<|qC O el22 (by omega) (N (by assumption))<|zO zKu qA O<|D 0 sz65 O<|F O<|I<|o<|w (zV zKu O (Y 0 O) O) (p O) ?_
   rw [hasBf_at hb c2,hq,bufD_at hb c2];rfl
  ·try simp only [R] at c2
   refine zI<|zS O<|F O<|qH O ⟨by omega,by omega⟩<|F O<|I ?_
   refine ⟨k+1,⟨by omega,zNm hb hp c2,hq.trans (bufD_next hb c2)⟩,(by omega),Weak.mk [true,true] ⟨H,H,H,H,T⟩ O⟩
 ·try simp only [R] at c1
  refine qN<|G O<|qV [none,none,none,none,none,none,some 1,none] O zr65 pl65<|D 0 sz65 O<|F O<|I<|o<|w (zV zKu O (Y 0 O) O) (p O) ?_
  rw [yL (by omega)] at hp;rw [hp,bufD_no hp];rfl
theorem zQh (n:Nat) (ih:n≠0->∀(l:List St) (x:Int),stsWt l<=1073741824->x=((n-1:Nat):Int)->Pur cfg 79 [vSts l,vI x] (vB (withinT (n-1) l))) (l:List St) (x:Int) (hn:n<=100) (hl:stsWt l<=1073741824) (hx:x=n):
    Pur cfg 79 [vSts l,vI x] (vB (withinT n l)):=by
 refine zR Tryz.func79 O Tryz.ntmps79 Tryz.results79 O ?_
 intro z hz
 have hll:=kN l
 refine G O<|F O<|I<|zJ<|G O<|F O<|qB O K<|F O<|I<|zQ<|zW ⟨[(8,.c _),(0,.c _),(1,.c _),(7,.c _)],[]⟩ (Weak.mk [] ⟨H,H,H,H,T⟩ O)<|qK 1 0 O O (Nat) (fun k=>[(8,vI k)]) (fun k=>[]) (fun k=>k<=l.length/\(withinG n (l.take k)=true)) (fun k=>l.length-k) ⟨0,⟨by omega,by cases n<;>rfl⟩,Weak.mk [] ⟨H,H,H,H,T⟩ O⟩ ?_
 rintro k ⟨hk,hp⟩
 refine G O<|yH O<|I<|zJ<|zF O (fun c1=>?_) (fun c1=>?_)
 ·try simp only [R] at c1
  obtain ⟨s,hs⟩:=qW l k (by omega)
  refine zI<|zJ<|zQ<|G O<|F O<|F O<|I<|G O<|F O<|yH O<|F O<|rL0 O (fun g4_2=>zN O O) O<|rL0 O (fun g4_2=>zN O O) O<|rLz [(14,_),(15,_)] O gv1 ⟨O,O,O,O,T⟩ (fun g4_2=>qD O K O O (by omega) (wJ hs)) O<|B 16 O (fun g4_2=>qI O kP O) O<|B 17 O (fun g4_2=>Q O kT O qA O) O<|rL0 O (fun g4_2=>zN O O) O<|B 19 O (fun g4_2=>qZ O O O ⟨by omega,by omega⟩) O<|rLz [(18,_),(20,_)] O gv1 ⟨O,O,O,O,T⟩ (fun g4_2=>qL O ok79 (ih (by simp only [Lz,cond_true,cond_false,Bool.and_eq_true,Bool.or_eq_true,Bool.not_eq_true',Bool.not_eq_false',Bool.or_eq_false_iff,Bool.and_eq_false_iff,decide_eq_true_eq,decide_eq_false_iff_not,Bool.not_eq_true,Bool.not_eq_false] at g4_2;omega) s.Body _ (by have:=St.body_wt s;have:=yI (zZ hs);omega) (by simp only [Lz,cond_true,cond_false,Bool.and_eq_true,Bool.or_eq_true,Bool.not_eq_true',Bool.not_eq_false',Bool.or_eq_false_iff,Bool.and_eq_false_iff,decide_eq_true_eq,decide_eq_false_iff_not,Bool.not_eq_true,Bool.not_eq_false] at g4_2;omega)) ⟨H,O,H,O,T⟩) O<|B 21 O (fun g4_2=>kV O O) O<|r_or O (fun h=>(lzf h))<|I<|zF O (fun c2=>?_) (fun c2=>?_)
  ·have hno:=within_no hs hx c2
   refine G O<|F O<|I<|o<|X O ?_
   rw [hno]
  ·have hyes:=within_yes hx c2
   refine zI<|zS O<|qH O ⟨by omega,by omega⟩<|F O<|I ?_
   refine ⟨k+1,⟨by omega,withinG_next hs hp hyes.1 hyes.2⟩,(by omega),Weak.mk [] ⟨H,H,H,H,T⟩ O⟩
 ·try simp only [R] at c1
  refine qN<|G O<|F O<|I<|o<|X O ?_
  rw [yL (by omega),withinG_eq] at hp;rw [hp]
theorem zSa (n:Nat) (l:List St) (x:Int) (hn:n<=100) (hl:stsWt l<=1073741824) (hx:x=n):Pur cfg 79 [vSts l,vI x] (vB (withinT n l)):=by
  induction n generalizing l x with
  |zero=>exact zQh 0 (fun h=>absurd rfl h) l x hn hl hx
  |succ n ih=>exact zQh (n+1) (fun _ l x h1 h2=>ih l x (by omega) h1 (by omega)) l x hn hl hx
theorem depth_step (n:Nat) (ih:n≠0->∀(l:List St) (x:Int),stsWt l<=1073741824->x=((n-1:Nat):Int)->Pur cfg 110 [vSts l,vI x] (vI (depS (n-1) l))) (l:List St) (x:Int) (hn:n<=100) (hl:stsWt l<=1073741824) (hx:x=n):
    Pur cfg 110 [vSts l,vI x] (vI (depS n l)):=by
 refine zR Tryz.func110 O Tryz.ntmps110 Tryz.results110 O ?_
 intro z hz
 have hll:=kN l
 refine G O<|F O<|I<|G O<|F O<|I<|zJ<|G O<|F O<|I<|zQ<|zW ⟨[(5,.c _),(6,.c _),(0,.c _),(1,.c _)],[]⟩ (Weak.mk [] ⟨H,H,H,H,T⟩ O)<|qK 2 0 O O (Nat×Int) (fun ⟨k,d⟩=>[(5,vI d),(6,vI k)]) (fun ⟨k,d⟩=>[]) (fun ⟨k,d⟩=>k<=l.length/\0<=d/\d<=100/\d=depS n (l.take k)) (fun ⟨k,d⟩=>l.length-k) ⟨⟨0,0⟩,⟨by omega,by omega,by omega,by cases n<;>rfl⟩,Weak.mk [] ⟨VLe.of_eq (O),H,H,H,T⟩ O⟩ ?_
 rintro ⟨k,d⟩ ⟨hk,hd0,hd1,hd⟩
 show AWP _ _ _ _ _ ⟨[(5,vI d),(6,vI k)]++_,[]++_⟩
 refine zJ<|G O<|F O<|F O<|qB O K<|yH O<|F O<|rL0 O (fun g3_4=>zN O O) O<|B 12 O (fun g3_4=>yC O O O) O<|yQ O (fun h=>h)<|I<|zF O (fun c1=>?_) (fun c1=>?_)
 ·try simp only [R] at c1
  obtain ⟨s,hs⟩:=qW l k (by omega)
  have hle:=depS_le (n-1) s.Body
  refine zI<|zJ<|zQ<|zS O<|F O<|F O<|F O<|qC O K (by omega) (wJ hs)<|qQ O kP<|zK kT qA O<|F O<|zX O (qZ O O O ⟨by omega,by omega⟩)<|qJ O ok110 (ih (by omega) s.Body _ (by have:=St.body_wt s;have:=yI (zZ hs);omega) (by omega)) ⟨H,O,H,O,T⟩<|qH O ⟨by omega,by omega⟩<|zX O (zNu O O O)<|F O<|I<|zS O<|F O<|qH O ⟨by omega,by omega⟩<|F O<|I ?_
  refine ⟨⟨k+1,max d (1+depS (n-1) s.Body)⟩,⟨by omega,by omega,by omega,by rw [depS_next hs (by omega),←hd]⟩,(by dsimp only;omega),Weak.mk [] ⟨H,H,H,H,T⟩ O⟩
 ·try simp only [R] at c1
  refine qN<|G O<|F O<|F O<|I<|o<|X O ?_
  exact congrArg vI (depS_stop hx hd (by omega))
theorem ref30_depth (n:Nat) (l:List St) (x:Int) (hn:n<=100) (hl:stsWt l<=1073741824) (hx:x=n):Pur cfg 110 [vSts l,vI x] (vI (depS n l)):=by
  induction n generalizing l x with
  |zero=>exact depth_step 0 (fun h=>absurd rfl h) l x hn hl hx
  |succ n ih=>exact depth_step (n+1) (fun _ l x h1 h2=>ih l x (by omega) h1 (by omega)) l x hn hl hx
theorem zCn (l:List St) (ih:∀s,s∈l->∀(m:Nat) (x:Int),m<=2147483648->x=m->Pur cfg 80 [vSts s.Body,vI x] (vI (numB s.Body m))) (m:Nat) (x:Int) (hl:stsWt l<=1073741824) (hm:m<=2147483648) (hx:x=m):
    Pur cfg 80 [vSts l,vI x] (vI (numB l m)):=by
 refine zR Tryz.func80 O Tryz.ntmps80 Tryz.results80 O ?_
 intro z hz
 have hll:=kN l
 have hNw:=zEd l
 refine G O<|F O<|I<|G O<|F O<|qB O K<|F O<|I<|zJ<|G O<|F O<|qB O K<|F O<|I<|zQ<|zW ⟨[(11,.c _),(5,.c _),(0,.c _),(1,.c _),(10,.c _)],[]⟩ (Weak.mk [] ⟨H,H,H,H,H,T⟩ O) ?_
 refine qK 2 0 O O (Nat×Nat) (fun ⟨k,n⟩=>[(11,vI k),(5,vI n)]) (fun ⟨k,n⟩=>[]) (fun ⟨k,n⟩=>k<=l.length/\(n<=4294967296)/\(numB l m=numL (l.drop k) m n)) (fun ⟨k,n⟩=>l.length-k) ⟨⟨0,l.length⟩,⟨by omega,by omega,O⟩,Weak.mk [] ⟨H,VLe.of_eq (congrArg vI (by simp)),H,H,H,T⟩ O⟩ ?_
 rintro ⟨k,n⟩ ⟨hk,hn,hp⟩
 show AWP _ _ _ _ _ ⟨[(11,vI k),(5,vI n)]++_,[]++_⟩
 refine G O<|yH O<|I<|zJ<|zF O (fun c1=>?_) (fun c1=>?_)
 ·try simp only [R] at c1
  obtain ⟨s,hs⟩:=qW l k (by omega)
  refine zI<|zJ<|zQ<|G O<|F O<|F O<|I<|zJ<|G O<|F O<|F O<|zX O (yC O O O)<|I<|zF O (fun c2=>?_) (fun c2=>?_)
  ·try simp only [R] at c2
   refine qN<|G O<|F O<|F O<|I<|o<|X O ?_
   exact congrArg vI (by rw [←num_end hp (by omega)])
  ·try simp only [R] at c2
   have hsum:=num_sum hs hp (by omega)
   have hbl:=numB_le s.Body (m-n)
   have hsn:=zLb (zZ hs)
   have hse:=zGz s
   refine zI<|zS O<|F O<|F O<|F O<|qC O K (by omega) (wJ hs)<|qQ O kP<|zK kT qA O<|F O<|F O<|zX O (qZ O O O ⟨by omega,by omega⟩)<|qJ O ok80 (ih s (zZ hs) (m-n) _ (by omega) (by omega)) ⟨H,O,H,O,T⟩<|qH O ⟨by omega,by omega⟩<|F O<|I<|zS O<|qH O ⟨by omega,by omega⟩<|F O<|I ?_
   refine ⟨⟨k+1,n+numB s.Body (m-n)⟩,⟨by omega,by omega,num_next hs hp (by omega)⟩,(by show l.length-(k+1)<l.length-k;omega),Weak.mk [] ⟨H,VLe.of_eq (congrArg vI (by omega)),H,H,H,T⟩ O⟩
 ·try simp only [R] at c1
  refine qN<|G O<|F O<|F O<|I<|o<|X O ?_
  exact congrArg vI (by rw [←num_end hp (by omega)])
theorem zGp (s:St):∀(m:Nat) (x:Int),stsWt s.Body<=1073741824->m<=2147483648->x=m->Pur cfg 80 [vSts s.Body,vI x] (vI (numB s.Body m)):=by
  induction s using St.ind with
  |_ s ih=>exact fun m x hl hm hx=>zCn s.Body (fun a ha m x h1 h2=>ih a ha m x (by have:=St.body_wt a;have:=yI ha;omega) h1 h2) m x hl hm hx
theorem zLr (l:List St) (m:Nat) (x:Int) (hl:stsWt l<=1073741824) (hm:m<=2147483648) (hx:x=m):Pur cfg 80 [vSts l,vI x] (vI (numB l m)):=
  zCn l (fun a ha m x h1 h2=>zGp a m x (by have:=St.body_wt a;have:=yI ha;omega) h1 h2) m x hl hm hx
theorem zIe (l:List St) (ih:∀s,s∈l->∀(m:Nat) (x:Int),m<=2147483648->x=m->Pur cfg 46 [vSts s.Body,vI x] (vI (numB s.Body m))) (m:Nat) (x:Int) (hl:stsWt l<=1073741824) (hm:m<=2147483648) (hx:x=m):
    Pur cfg 46 [vSts l,vI x] (vI (numB l m)):=by
 refine zR Tryz.func46 O Tryz.ntmps46 Tryz.results46 O ?_
 intro z hz
 have hll:=kN l
 have hNw:=zEd l
 refine G O<|F O<|I<|G O<|F O<|qB O K<|F O<|I<|zJ<|G O<|F O<|I<|zQ<|zW ⟨[(6,.c _),(5,.c _),(0,.c _),(1,.c _)],[]⟩ (Weak.mk [] ⟨H,H,H,H,T⟩ O) ?_
 refine qK 2 0 O O (Nat×Nat) (fun ⟨k,n⟩=>[(6,vI k),(5,vI n)]) (fun ⟨k,n⟩=>[]) (fun ⟨k,n⟩=>k<=l.length/\(n<=4294967296)/\(numB l m=numL (l.drop k) m n)) (fun ⟨k,n⟩=>l.length-k) ⟨⟨0,l.length⟩,⟨by omega,by omega,O⟩,Weak.mk [] ⟨H,VLe.of_eq (congrArg vI (by simp)),H,H,T⟩ O⟩ ?_
 rintro ⟨k,n⟩ ⟨hk,hn,hp⟩
 show AWP _ _ _ _ _ ⟨[(6,vI k),(5,vI n)]++_,[]++_⟩
 refine zJ<|G O<|F O<|F O<|qB O K<|yH O<|F O<|rL0 O (fun g3_4=>zN O O) O<|rL0 O (fun g3_4=>zN O O) O<|rLz [(14,_),(15,_)] O gv1 ⟨O,O,O,O,T⟩ (fun g3_4=>wQ O O O) O<|yQ O (fun h=>h)<|I<|zF O (fun c1=>?_) (fun c1=>?_)
 ·try simp only [R] at c1
  obtain ⟨s,hs⟩:=qW l k (by omega)
  have hsum:=num_sum hs hp (by omega)
  have hbl:=numB_le s.Body (m-n)
  have hsn:=zLb (zZ hs)
  have hse:=zGz s
  refine zI<|zJ<|zQ<|zS O<|F O<|F O<|F O<|qC O K (by omega) (wJ hs)<|qQ O kP<|zK kT qA O<|F O<|F O<|zX O (qZ O O O ⟨by omega,by omega⟩)<|zX O (zNu O O O)<|qJ O ok46 (ih s (zZ hs) (m-n) _ (by omega) (by omega)) ⟨H,O,H,O,T⟩<|qH O ⟨by omega,by omega⟩<|F O<|I<|zS O<|F O<|qH O ⟨by omega,by omega⟩<|F O<|I ?_
  refine ⟨⟨k+1,n+numB s.Body (m-n)⟩,⟨by omega,by omega,num_next hs hp (by omega)⟩,(by show l.length-(k+1)<l.length-k;omega),Weak.mk [] ⟨H,VLe.of_eq (congrArg vI (by omega)),H,H,T⟩ O⟩
 ·try simp only [R] at c1
  refine qN<|G O<|F O<|F O<|I<|o<|X O ?_
  exact congrArg vI (by rw [←num_end hp (by omega)])
theorem zRi (s:St):∀(m:Nat) (x:Int),stsWt s.Body<=1073741824->m<=2147483648->x=m->Pur cfg 46 [vSts s.Body,vI x] (vI (numB s.Body m)):=by
  induction s using St.ind with
  |_ s ih=>exact fun m x hl hm hx=>zIe s.Body (fun a ha m x h1 h2=>ih a ha m x (by have:=St.body_wt a;have:=yI ha;omega) h1 h2) m x hl hm hx
theorem ref30_size (l:List St) (m:Nat) (x:Int) (hl:stsWt l<=1073741824) (hm:m<=2147483648) (hx:x=m):Pur cfg 46 [vSts l,vI x] (vI (numB l m)):=
  zIe l (fun a ha m x h1 h2=>zRi a m x (by have:=St.body_wt a;have:=yI ha;omega) h1 h2) m x hl hm hx
theorem zKh (l:List Bf) (c:C) (p:Bf->Bool) (hl:l.length<=4294967296) (hc:∀x,x∈l->FnPur cfg c [vBf x] (vB (p x))):
    Pur cfg 160 [vBfs l,.c c] (vI (idxOf p l)):=by
 refine zR Tryz.func160 O Tryz.ntmps160 Tryz.results160 O ?_
 intro z hz
 refine G O<|F O<|I<|zJ<|G O<|F O<|qB O el22<|F O<|I<|zQ<|zW ⟨[(8,.c _),(0,.c _),(1,.c _),(7,.c _)],[]⟩ (Weak.mk [] ⟨H,H,H,H,T⟩ O)<|qK 1 0 O O (Nat) (fun k=>[(8,vI k)]) (fun k=>[]) (fun k=>k<=l.length/\((l.take k).any p=false)) (fun k=>l.length-k) ⟨0,⟨by omega,O⟩,Weak.mk [] ⟨H,H,H,H,T⟩ O⟩ ?_
 rintro k ⟨hk,hp⟩
 refine G O<|yH O<|I<|zJ<|zF O (fun c1=>?_) (fun c1=>?_)
 ·try simp only [R] at c1
  obtain ⟨x,hx⟩:=qW l k (by omega)
  refine zI<|zJ<|zQ<|G O<|F O<|F O<|I<|G O<|F O<|F O<|F O<|qC O el22 (by omega) (N (by assumption))<|zO zKu qA O<|zX O (kR O O (hc _ (zZ hx)) ⟨H,O,T⟩)<|I<|zF O (fun c2=>?_) (fun c2=>?_)
  ·try simp only [R] at c2
   refine G O<|F O<|F O<|I<|o<|X O ?_
   rw [zPr hx c2 hp]
  ·try simp only [R] at c2
   refine zI<|zS O<|qH O ⟨by omega,by omega⟩<|F O<|I ?_
   refine ⟨k+1,⟨by omega,zQf hx hp c2⟩,(by omega),Weak.mk [] ⟨H,H,H,H,T⟩ O⟩
 ·try simp only [R] at c1
  refine qN<|G O<|F O<|I<|o<|X O ?_
  rw [zJg (by rw [yL (by omega)] at hp;exact hp)]
theorem zHi (l:List Bf) (c:C) (p:Bf->Bool) (hl:l.length<=4294967296) (hc:∀x,x∈l->FnPur cfg c [vBf x] (vB (p x))):
    Pur cfg 125 [vBfs l,.c c] (vB (l.any p)):=by
 refine zR Tryz.func125 O Tryz.ntmps125 Tryz.results125 O ?_
 intro z hz
 refine G O<|F O<|I<|G O<|F O<|F O<|qJ O ok160 (zKh l c p hl hc) ⟨H,O,H,O,T⟩<|zX O (wG O O O)<|F O<|I<|o<|X O ?_
 rw [zLy]
theorem checkBuffers_1 (x b:Bf):
    Pur cfg 126 [vBf x,.c (.iptr b.cells)] (vB (decide (x.Name=b.Name))):=by
 refine zR Tryz.func126 O Tryz.ntmps126 Tryz.results126 O ?_
 intro z hz
 refine G O<|zU O O (qM O O) ?_
 rintro _ _ ⟨b1,rfl,rfl⟩
 refine F O<|I<|G O<|zH O zKa<|zK one9 (Y 0 O) O<|qQ O zKa<|zK one9 qA O<|zX O (yU O O O)<|F O<|I<|o<|X O ?_
 exact O
theorem zIn (l:List Bf) (hl:l.length<=4294967296) (hd:∀b,b∈l->b.Dims.length<=17592186044416):
    Pur cfg 81 [vBfs l] (vI (bufsErr [] l)):=by
 refine zR Tryz.func81 O Tryz.ntmps81 Tryz.results81 O ?_
 intro z hz
 refine G O<|F O<|I<|zJ<|G O<|F O<|qB O el22<|F O<|I<|zQ<|zW ⟨[(8,.c _),(0,.c _),(7,.c _)],[]⟩ (Weak.mk [] ⟨H,H,H,T⟩ O)<|qK 1 0 O O (Nat) (fun k=>[(8,vI k)]) (fun k=>[]) (fun k=>k<=l.length/\(bufsErr [] l=bufsErr (l.take k) (l.drop k))) (fun k=>l.length-k) ⟨0,⟨by omega,O⟩,Weak.mk [] ⟨H,H,H,T⟩ O⟩ ?_
 rintro k ⟨hk,hp⟩
 refine G O<|yH O<|I<|zJ<|zF O (fun c1=>?_) (fun c1=>?_)
 ·try simp only [R] at c1
  obtain ⟨b,hb⟩:=qW l k (by omega)
  refine zI<|zJ<|zQ<|G O<|F O<|F O<|I<|G O<|F O<|F O<|qC O el22 (by omega) (N (by assumption))<|zO zKu qA O<|zU O O (qE [none,none,none,none,none,none,some 1,none] O zr65 O) ?_
  rintro _ _ ⟨b1,rfl,rfl⟩
  refine D 0 sz65 O<|yN _ (yM 0 O 4 _ PLe.ptr)<|I<|zJ<|zQ<|G O<|qQ O zKa<|zK one9 qA O<|qJ O ok49 (zAo _) ⟨H,O,T⟩<|kO O<|F O<|I<|zF O (fun c2=>?_) (fun c2=>?_)
  ·try simp only [R] at c2
   refine G O<|F O<|I<|o<|X O ?_
   rw [zAx hb hp (by rw [bfErr_7 c2];decide),bfErr_7 c2]
  ·try simp only [R] at c2
   refine G O<|F O<|F O<|zX O (zOm O el22 O O (by omega))<|zX O (zDj O O O O O)<|qJ O ok125 (zHi (l.take k) _ (fun x=>decide (x.Name=b.Name)) (by rw [List.length_take];omega) (fun x _=>FnPur.of_pur (first:=[]) (cap:=[.iptr b.cells]) ok126 (checkBuffers_1 x b))) ⟨H,O,H,O,T⟩<|F O<|I<|zF O (fun c3=>?_) (fun c3=>?_)
   ·try simp only [R] at c3
    refine G O<|F O<|I<|o<|X O ?_
    rw [zAx hb hp (by rw [bfErr_8 c2 c3];decide),bfErr_8 c2 c3]
   ·try simp only [R] at c3
    refine G O<|qQ O zIr<|zO yK qA O<|qJ O ok127 (zCl b.T) ⟨H,O,T⟩<|yR O<|F O<|I<|zF O (fun c4=>?_) (fun c4=>?_)
    ·try simp only [R] at c4
     refine G O<|F O<|I<|o<|X O ?_
     rw [zAx hb hp (by rw [zQe c2 c3 (tyErr_ne c4)];decide),zQe c2 c3 (tyErr_ne c4)]
    ·try simp only [R] at c4
     refine zI<|zJ<|G O<|qQ O zJz<|zK zFm qA O<|qJ O ok128 (shape_Validate b.Dims (hd b (zZ hb))) ⟨H,O,T⟩<|F O<|I<|G O<|F O<|yR O<|I<|zF O (fun c5=>?_) (fun c5=>?_)
     ·try simp only [R] at c5
      refine G O<|F O<|F O<|I<|o<|X O ?_
      rw [zAx hb hp (by rw [bfErr_d c2 c3 (zJa c4) c5];exact c5),bfErr_d c2 c3 (zJa c4) c5]
     ·try simp only [R] at c5
      refine zI<|G O<|qQ O zOj<|zK J qA O<|yH O<|F O<|rL0 O (fun g14_3=>qI O zOj O) O<|B 41 O (fun g14_3=>Q O J O qA O) O<|B 42 O (fun g14_3=>yC O O O) O<|r_or O (fun h=>(lzf h))<|I<|zF O (fun c6=>?_) (fun c6=>?_)
      ·try simp only [R] at c6
       refine G O<|F O<|I<|o<|X O ?_
       rw [zAx hb hp (by rw [bfErr_u c2 c3 (zJa c4) c5 (by omega)];decide),bfErr_u c2 c3 (zJa c4) c5 (by omega)]
      ·try simp only [R] at c6
       refine zI<|zS O<|qH O ⟨by omega,by omega⟩<|F O<|I ?_
       refine ⟨k+1,⟨by omega,zOo hb hp (bfErr_0 c2 c3 (zJa c4) c5 (by omega))⟩,(by omega),Weak.mk [] ⟨H,H,H,T⟩ O⟩
 ·try simp only [R] at c1
  refine qN<|G O<|F O<|I<|o<|X O ?_
  rw [zTl hp (by omega)]
theorem ref30_bufs (n:Ns) (hn:n.Ok):
    Pur cfg 111 [vNs n] (vI (bufsErr [] n.Bufs)):=by
 refine zR Tryz.func111 O Tryz.ntmps111 Tryz.results111 O ?_
 intro z hz
 have hnb:=hn.bufs
 refine G O<|zU O O (qM O O) ?_
 rintro _ _ ⟨b1,rfl,rfl⟩
 refine F O<|I<|zJ<|G O<|F O<|I<|zQ<|zW ⟨[(3,.c _),(1,.c _)],[_]⟩ (Weak.mk [true] ⟨H,H,T⟩ O)<|qK 1 0 O O (Nat) (fun k=>[(3,vI k)]) (fun k=>[]) (fun k=>k<=n.Bufs.length/\(bufsErr [] n.Bufs=bufsErr (n.Bufs.take k) (n.Bufs.drop k))) (fun k=>n.Bufs.length-k) ⟨0,⟨by omega,O⟩,Weak.mk [true] ⟨H,H,T⟩ O⟩ ?_
 rintro k ⟨hk,hp⟩
 refine zJ<|G O<|F O<|zH O zAg<|zK zDm (Y 0 O) O<|qB O el22<|yH O<|I<|zF O (fun c1=>?_) (fun c1=>?_)
 ·try simp only [R] at c1
  obtain ⟨b,hb⟩:=qW n.Bufs k (by omega)
  refine zI<|zJ<|zQ<|G O<|zH O zAg<|zK zDm (Y 0 O) O<|F O<|qC O el22 (by omega) (N (by assumption))<|zO zKu qA O<|zU O O (qE [none,none,none,none,none,none,some 1,none] O zr65 O) ?_
  rintro _ _ ⟨b2,rfl,rfl⟩
  refine D 0 sz65 O<|I<|zJ<|G O<|zH O zKa<|zK one9 (Y 0 O) O<|qJ O ok60 (zFv _) ⟨H,O,T⟩<|kO O<|I<|zF O (fun c2=>?_) (fun c2=>?_)
  ·try simp only [R] at c2
   refine G O<|F O<|I<|o<|X O ?_
   rw [zAx hb hp (by rw [bfErr_7 c2];decide),bfErr_7 c2]
  ·try simp only [R] at c2
   refine zI<|zJ<|G O<|F O<|I<|zQ<|zW ⟨[(5,.c _),(1,.c _),(3,.c _),(4,.c _)],[_,_]⟩ (Weak.mk [true,true] ⟨H,H,H,H,T⟩ O)<|qK 1 0 O O (Nat) (fun j=>[(5,vI j)]) (fun j=>[]) (fun j=>j<=k/\hasBf (n.Bufs.take j) b.Name=false) (fun j=>k-j) ⟨0,⟨by omega,O⟩,Weak.mk [true,true] ⟨H,H,H,H,T⟩ O⟩ ?_
   rintro j ⟨hj,hq⟩
   refine zJ<|G O<|F O<|F O<|yH O<|I<|zF O (fun c3=>?_) (fun c3=>?_)
   ·try simp only [R] at c3
    obtain ⟨y,hy⟩:=qW n.Bufs j (by omega)
    refine zI<|zJ<|zQ<|zJ<|qX 9 mixed (by kernel_rfl) O O<|M O O (zD O zAg O)<|M O O (Q O zDm O (Y 1 O) O)<|M O O (zN O O)<|M O O (qD O el22 O O (by omega) (N (by assumption)))<|M O O (qI O zKa O)<|M O O (Q O one9 O qA O)<|M O O (zD O zKa O)<|M O O (Q O one9 O (Y 0 O) O)<|M O O (yU O O O)<|kB<|I<|zF O (fun c4=>?_) (fun c4=>?_)
    ·try simp only [R] at c4
     refine G O<|F O<|I<|o<|X O ?_
     have h8:=hasBf_lt hy (show j<k by omega) c4
     rw [zAx hb hp (by rw [bfErr_8 c2 h8];decide),bfErr_8 c2 h8]
    ·try simp only [R] at c4
     refine zI<|zS O<|F O<|qH O ⟨by omega,by omega⟩<|F O<|I ?_
     refine ⟨j+1,⟨by omega,zNm hy hq c4⟩,(by omega),Weak.mk [true,true] ⟨H,H,H,H,T⟩ O⟩
   ·try simp only [R] at c3
    rw [show j=k by omega] at hq
    refine qN<|zJ<|G O<|zH O zIr<|zO yK (Y 0 O) O<|qJ O ok148 (base_Type b.T) ⟨H,O,T⟩<|kO O<|I<|zF O (fun c5=>?_) (fun c5=>?_)
    ·try simp only [R] at c5
     refine G O<|F O<|I<|o<|X O ?_
     rw [zAx hb hp (by rw [zQe c2 hq c5];decide),zQe c2 hq c5]
    ·try simp only [R] at c5
     refine zI<|zJ<|G O<|zH O zJz<|zK zFm (Y 0 O) O<|qJ O ok149 (ref11_Validate b.Dims (hn.dims b (zZ hb))) ⟨H,O,T⟩<|F O<|I<|G O<|F O<|yR O<|I<|zF O (fun c6=>?_) (fun c6=>?_)
     ·try simp only [R] at c6
      refine G O<|F O<|F O<|I<|o<|X O ?_
      rw [zAx hb hp (by rw [bfErr_d c2 hq c5 c6];exact c6),bfErr_d c2 hq c5 c6]
     ·try simp only [R] at c6
      refine zI<|G O<|zH O zOj<|zK J (Y 0 O) O<|yH O<|F O<|rL0 O (fun g17_3=>zD O zOj O) O<|B 51 O (fun g17_3=>Q O J O (Y 0 O) O) O<|B 52 O (fun g17_3=>yC O O O) O<|r_or O (fun h=>(lzf h))<|I<|zF O (fun c7=>?_) (fun c7=>?_)
      ·try simp only [R] at c7
       refine G O<|F O<|I<|o<|X O ?_
       rw [zAx hb hp (by rw [bfErr_u c2 hq c5 c6 (by omega)];decide),bfErr_u c2 hq c5 c6 (by omega)]
      ·try simp only [R] at c7
       refine zI<|zS O<|F O<|qH O ⟨by omega,by omega⟩<|F O<|I ?_
       refine ⟨k+1,⟨by omega,zOo hb hp (bfErr_0 c2 hq c5 c6 (by omega))⟩,(by omega),Weak.mk [false,true] ⟨H,H,T⟩ O⟩
 ·try simp only [R] at c1
  refine qN<|G O<|F O<|I<|o<|X O ?_
  rw [zTl hp (by omega)]
end Go.W
