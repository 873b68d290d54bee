/-
  What functions compute.
  Conditions: none.
-/
import Derived.Test.YtlfjpejkoccibaaGreatDoorWalkV
import Derived.Test.YtlfjpejkoccibaaGreatDoorEngZ
import Derived.Test.YtlfjpejkoccibaaGreatDoorPlain2
set_option linter.unusedSimpArgs false
set_option linter.unusedVariables false
set_option maxRecDepth 10000
namespace Go.W
open Go Go.Eng Go.Proofs Go.L41 Go.Br
attribute [local irreducible] AWP RWP TD fH
theorem zMz:nG Tryz.prog 65=some 8:=by kernel_rfl
theorem el22:dY Tryz.prog 22=some (65,8,88):=by kernel_rfl
theorem D:dY Tryz.prog 23=some (46,20,256):=by kernel_rfl
theorem zAt:bY Tryz.prog 25 0=some (0,22):=by kernel_rfl
theorem kK:bY Tryz.prog 46 7=some (19,23):=by kernel_rfl
theorem zMi:bY Tryz.prog 65 0=some (0,9):=by kernel_rfl
theorem zKm:bY Tryz.prog 65 1=some (1,38):=by kernel_rfl
theorem zMh:bY Tryz.prog 65 2=some (6,26):=by kernel_rfl
theorem zRd:bY Tryz.prog 65 3=some (7,3):=by kernel_rfl
theorem ok46:bA Tryz.prog 46=true:=by kernel_rfl
theorem ok79:bA Tryz.prog 79=true:=by kernel_rfl
theorem ok80:bA Tryz.prog 80=true:=by kernel_rfl
theorem ok89:bA Tryz.prog 89=true:=by kernel_rfl
theorem ok96:bA Tryz.prog 96=true:=by kernel_rfl
theorem ok110:bA Tryz.prog 110=true:=by kernel_rfl
theorem ok125:bA Tryz.prog 125=true:=by kernel_rfl
theorem ok126:bA Tryz.prog 126=true:=by kernel_rfl
theorem ok128:bA Tryz.prog 128=true:=by kernel_rfl
theorem ok149:bA Tryz.prog 149=true:=by kernel_rfl
theorem ok160:bA Tryz.prog 160=true:=by kernel_rfl
theorem zEk:lV Tryz.prog 22=true:=by kernel_rfl
theorem kP:lV Tryz.prog 23=true:=by kernel_rfl
theorem zGy:lV Tryz.prog 26=true:=by kernel_rfl
theorem pl65:gG Tryz.prog 65=some [(0,1),(1,5),(6,1),(7,1)]:=by kernel_rfl
theorem sz26:(Tryz.prog.info? 26).map (·.size)=some 1:=by kernel_rfl
theorem sz65:(Tryz.prog.info? 65).map (·.size)=some 8:=by kernel_rfl
theorem zr65:fS Tryz.prog 65=some [(Value.string (ByteArray.mk #[])),(Value.int IntKind.i64 0),(Value.int IntKind.i64 0),(Value.int IntKind.i64 0),(Value.int IntKind.i64 0),(Value.int IntKind.i64 0),(Value.slice none 0 0),(Value.int IntKind.i64 0)]:=by kernel_rfl
theorem shape_Validate (d:List Int) (hl:d.length<=17592186044416):
    Pur cfg 128 [vIs d] (vI (gL d)):=by
 refine zT Tryz.func128 O Tryz.ntmps128 Tryz.results128 O ?_
 intro z hz
 refine F O<|A O<|H<|zK<|F O<|A O<|qC O K<|zU O (yG O O O)<|H<|zD O (fun c1=>?_) (fun c1=>?_)
 ·try simp only [I] at c1
  have hlong:=dims_long (d:=d) (by omega)
  refine F O<|A O<|H<|o<|X O ?_
  rw [hlong]
 ·try simp only [I] at c1
  refine zM<|zK<|F O<|A O<|qC O K<|A O<|H<|zR<|zY ⟨[(13,.c _),(0,.c _),(11,.c _),(12,.c _)],[]⟩ (Weak.mk [] ⟨G,G,G,G,T⟩ O)<|qK 1 0 O O (Nat) (fun k=>[(13,vI k)]) (fun k=>[]) (fun k=>k<=d.length/\((d.take k).all pJ=true)) (fun k=>d.length-k) ⟨0,⟨by omega,O⟩,Weak.mk [] ⟨G,G,G,G,T⟩ O⟩ ?_
  rintro k ⟨hk,hp⟩
  refine F O<|yD O<|H<|zK<|zD O (fun c2=>?_) (fun c2=>?_)
  ·try simp only [I] at c2
   obtain ⟨n,hn⟩:=qY d k (by omega)
   refine zM<|zK<|zR<|F O<|qD O K (by omega) (Q (by assumption))<|zJ one3 qA O<|A O<|H<|F O<|A O<|yD O<|H<|zD O (fun c3=>?_) (fun c3=>?_)
   ·try simp only [I] at c3
    have hneg:=dims_neg (d:=d) (by omega) hn c3
    refine F O<|A O<|H<|o<|X O ?_
    rw [hneg]
   ·try simp only [I] at c3
    refine zM<|zQ O<|qJ O ⟨by omega,by omega⟩<|A O<|H ?_
    refine ⟨k+1,⟨by omega,zLa hn hp (by unfold pJ;exact decide_eq_true (by omega))⟩,(by omega),Weak.mk [] ⟨G,G,G,G,T⟩ O⟩
  ·try simp only [I] at c2
   have hpos:d.all pJ=true:=by rw [yU (by omega)] at hp;exact hp
   refine qQ<|F O<|A O<|H<|zK<|F O<|A O<|qC O K<|A O<|H<|zR<|zY ⟨[(22,.c _),(5,.c _),(20,.c _),(21,.c _)],[]⟩ (Weak.mk [] ⟨G,G,G,G,T⟩ O)<|qK 2 0 O O (Nat×Int) (fun ⟨j,s⟩=>[(22,vI j),(5,vI s)]) (fun ⟨j,s⟩=>[]) (fun ⟨j,s⟩=>j<=d.length/\(1<=s)/\(s<=4096)/\(dW 1 d=dW s (d.drop j))) (fun ⟨j,s⟩=>d.length-j) ⟨⟨0,1⟩,⟨by omega,by omega,by omega,O⟩,Weak.mk [] ⟨G,VLe.of_eq (O),G,G,T⟩ O⟩ ?_
   rintro ⟨j,s⟩ ⟨hj,hs1,hs2,hs3⟩
   show AWP _ _ _ _ _ ⟨[(22,vI j),(5,vI s)]++_,[]++_⟩
   refine F O<|yD O<|H<|zK<|zD O (fun c4=>?_) (fun c4=>?_)
   ·try simp only [I] at c4
    obtain ⟨m,hm⟩:=qY d j (by omega)
    refine zM<|zK<|zR<|F O<|qD O K (by omega) (Q (by assumption))<|zJ one3 qA O<|A O<|H<|zK<|F O<|A O<|A O<|zU O (zKr O O O (by omega))<|zU O (yG O O O)<|H<|zD O (fun c5=>?_) (fun c5=>?_)
    ·try simp only [I] at c5
     have hov:=quo_t hs1 c5
     refine F O<|A O<|H<|o<|X O ?_
     rw [zWj (by omega) hpos (zUh hm hs3 hov)]
    ·try simp only [I] at c5
     have hov:=quo_f hs1 (Int.not_lt.2 c5)
     have hm1:=zOe hs1 (zLi hpos hm)
     refine zM<|zQ O<|A O<|A O<|zU O (det_mul_nw O O O (by have:=zOe hs1 (zLi hpos hm);exact ⟨by omega,by omega⟩))<|A O<|H<|zQ O<|qJ O ⟨by omega,by omega⟩<|A O<|H ?_
     refine ⟨⟨j+1,s*m⟩,⟨by omega,by omega,by omega,size_next hm hs3 hov⟩,(by show d.length-(j+1)<d.length-j;omega),Weak.mk [] ⟨G,G,G,G,T⟩ O⟩
   ·try simp only [I] at c4
    refine qQ<|F O<|A O<|H<|o<|X O ?_
    rw [dims_ok (by omega) hpos (size_done hs3 (by omega))]
theorem ref11_Validate (d:List Int) (hl:d.length<=17592186044416):
    Pur cfg 149 [vIs d] (vI (gL d)):=by
 refine zT Tryz.func149 O Tryz.ntmps149 Tryz.results149 O ?_
 intro z hz
 refine F O<|A O<|H<|zK<|F O<|A O<|qC O K<|zU O (yG O O O)<|H<|zD O (fun c1=>?_) (fun c1=>?_)
 ·try simp only [I] at c1
  have hlong:=dims_long (d:=d) (by omega)
  refine F O<|A O<|H<|o<|X O ?_
  rw [hlong]
 ·try simp only [I] at c1
  refine zM<|zK<|F O<|A O<|H<|zR<|zY ⟨[(3,.c _),(0,.c _)],[]⟩ (Weak.mk [] ⟨G,G,T⟩ O)<|qK 1 0 O O (Nat) (fun k=>[(3,vI k)]) (fun k=>[]) (fun k=>k<=d.length/\((d.take k).all pJ=true)) (fun k=>d.length-k) ⟨0,⟨by omega,O⟩,Weak.mk [] ⟨G,G,T⟩ O⟩ ?_
  rintro k ⟨hk,hp⟩
  refine zK<|F O<|A O<|A O<|qC O K<|yD O<|H<|zD O (fun c2=>?_) (fun c2=>?_)
  ·try simp only [I] at c2
   obtain ⟨n,hn⟩:=qY d k (by omega)
   refine zM<|zK<|zR<|F O<|A O<|A O<|qD O K (by omega) (Q (by assumption))<|zJ one3 qA O<|yD O<|H<|zD O (fun c3=>?_) (fun c3=>?_)
   ·try simp only [I] at c3
    have hneg:=dims_neg (d:=d) (by omega) hn c3
    refine F O<|A O<|H<|o<|X O ?_
    rw [hneg]
   ·try simp only [I] at c3
    refine zM<|zQ O<|A O<|qJ O ⟨by omega,by omega⟩<|A O<|H ?_
    refine ⟨k+1,⟨by omega,zLa hn hp (by unfold pJ;exact decide_eq_true (by omega))⟩,(by omega),Weak.mk [] ⟨G,G,T⟩ O⟩
  ·try simp only [I] at c2
   have hpos:d.all pJ=true:=by rw [yU (by omega)] at hp;exact hp
   refine qQ<|F O<|A O<|H<|zK<|F O<|A O<|H<|zR<|zY ⟨[(5,.c _),(4,.c _),(0,.c _)],[]⟩ (Weak.mk [] ⟨G,G,G,T⟩ O)<|qK 2 0 O O (Nat×Int) (fun ⟨j,s⟩=>[(5,vI j),(4,vI s)]) (fun ⟨j,s⟩=>[]) (fun ⟨j,s⟩=>j<=d.length/\(1<=s)/\(s<=4096)/\(dW 1 d=dW s (d.drop j))) (fun ⟨j,s⟩=>d.length-j) ⟨⟨0,1⟩,⟨by omega,by omega,by omega,O⟩,Weak.mk [] ⟨G,VLe.of_eq (O),G,T⟩ O⟩ ?_
   rintro ⟨j,s⟩ ⟨hj,hs1,hs2,hs3⟩
   show AWP _ _ _ _ _ ⟨[(5,vI j),(4,vI s)]++_,[]++_⟩
   refine zK<|F O<|A O<|A O<|qC O K<|yD O<|H<|zD O (fun c4=>?_) (fun c4=>?_)
   ·try simp only [I] at c4
    obtain ⟨m,hm⟩:=qY d j (by omega)
    refine zM<|zK<|zR<|zK<|F O<|A O<|A O<|qD O K (by omega) (Q (by assumption))<|zJ one3 qA O<|zU O (yG O O O)<|H<|zD O (fun c5=>?_) (fun c5=>?_)
    ·try simp only [I] at c5
     have hov:4096<s*m:=by have:=zOe hs1 (zLi hpos hm);omega
     refine F O<|A O<|H<|o<|X O ?_
     rw [zWj (by omega) hpos (zUh hm hs3 hov)]
    ·try simp only [I] at c5
     have hm1:=zOe hs1 (zLi hpos hm)
     refine zM<|F O<|A O<|A O<|A O<|qD O K (by omega) (Q (by assumption))<|zJ one3 qA O<|zU O (det_mul_nw O O O (by have:=zOe hs1 (zLi hpos hm);have hm0:=zLi hpos hm;have:s*m<=4096*4096:=Int.mul_le_mul (by omega) (by omega) (by omega) (by omega);exact ⟨by omega,by omega⟩))<|A O<|H<|F O<|A O<|zU O (yG O O O)<|H<|zD O (fun c6=>?_) (fun c6=>?_)
     ·try simp only [I] at c6
      refine F O<|A O<|H<|o<|X O ?_
      rw [zWj (by omega) hpos (zUh hm hs3 (by omega))]
     ·try simp only [I] at c6
      refine zM<|zQ O<|A O<|qJ O ⟨by omega,by omega⟩<|A O<|H ?_
      refine ⟨⟨j+1,s*m⟩,⟨by omega,by omega,by omega,size_next hm hs3 (by omega)⟩,(by show d.length-(j+1)<d.length-j;omega),Weak.mk [] ⟨G,G,G,T⟩ O⟩
   ·try simp only [I] at c4
    refine qQ<|F O<|A O<|H<|o<|X O ?_
    rw [dims_ok (by omega) hpos (size_done hs3 (by omega))]
theorem zIp (l:List Int) (hl:l.length<=17592186044416):
    OwnR cfg 96 [vIs l] 3 1 (l.map fun n=>[cI n]):=by
 refine zT Tryz.func96 O Tryz.ntmps96 Tryz.results96 O ?_
 intro z hz
 refine F O<|qX 1 O<|H<|zK<|F O<|A O<|zV O O (zGx O K O O) ?_
 rintro _ _ ⟨nb1,rfl,hnil1,rfl⟩
 refine H<|zD O (fun c1=>?_) (fun c1=>?_)
 ·try simp only [I] at c1
  refine F O<|A O<|yI _ (kR 3 1)<|H<|o<|X O ?_
  exact ⟨_,O,by rw [hnil1 c1]⟩
 ·try simp only [I] at c1
  refine zM<|F O<|zV O O (zCe O K zr3 O O O O) ?_
  rintro _ _ ⟨sv3,rfl,rfl⟩
  refine A O<|zV O O (qV 0 O K O O O (by simp only [List.length_map,List.length_nil,Nat.zero_add];omega) (by simp only [List.length_map,List.length_nil,Nat.zero_add];omega)) ?_
  rintro _ _ ⟨sv4,rfl,rfl⟩
  refine A O<|H<|o<|X O ?_
  exact ⟨_,O,O⟩
theorem zCw (b:Bf) (hl:b.Dims.length<=17592186044416):
    Pur cfg 89 [vBf b] (vBf b):=by
 refine zT Tryz.func89 O Tryz.ntmps89 Tryz.results89 O ?_
 intro z hz
 refine F O<|zV O O (qN O O) ?_
 rintro _ _ ⟨b1,rfl,rfl⟩
 refine zV O O (qE [none,none,none,none,none,none,some 1,none] O zr65 O) ?_
 rintro _ _ ⟨b2,rfl,rfl⟩
 refine H<|F O<|zG O zMh<|zJ zGy (R 1 O) O<|qI O ok96 (OwnR.pur (zIp b.Dims hl)) ⟨G,O,T⟩<|zG O zMh<|Y 1 sz26 O<|H<|F O<|zP zMz (R 1 O) O<|Y 0 sz65 O<|H<|o<|fin1 (y zMz O (R 0 O) O) ?_
 exact O
theorem zAm (n:Ns) (s:ByteArray) (hn:n.Ok):
    Pur cfg 101 [vNs n,vS s] (.tup [vBf (gH n.Bufs s),vB (dM n.Bufs s)]):=by
 refine zT Tryz.func101 O Tryz.ntmps101 Tryz.results101 O ?_
 intro z hz
 have hnb:=hn.bufs
 refine F O<|zV O O (qN O O) ?_
 rintro _ _ ⟨b1,rfl,rfl⟩
 refine zV O O (qE [none,none,none,none,none,none,some 1,none] O zr65 O) ?_
 rintro _ _ ⟨b2,rfl,rfl⟩
 refine A O<|H<|zK<|F O<|zG O zAt<|zJ zEk (R 1 O) O<|qC O el22<|A O<|H<|zR<|zY ⟨[(10,.c _),(1,.c _),(2,.c _),(4,.c _),(9,.c _)],[_,_]⟩ (Weak.mk [true,true] ⟨G,G,G,G,G,T⟩ O)<|qK 1 0 O O (Nat) (fun k=>[(10,vI k)]) (fun k=>[]) (fun k=>k<=n.Bufs.length/\(dM (n.Bufs.take k) s=false)/\(gH n.Bufs s=gH (n.Bufs.drop k) s)) (fun k=>n.Bufs.length-k) ⟨0,⟨by omega,O,O⟩,Weak.mk [true,true] ⟨G,G,G,G,G,T⟩ O⟩ ?_
 rintro k ⟨hk,hp,hq⟩
 refine F O<|yD O<|H<|zK<|zD O (fun c1=>?_) (fun c1=>?_)
 ·try simp only [I] at c1
  obtain ⟨b,hb⟩:=qY n.Bufs k (by omega)
  refine zM<|zK<|zR<|F O<|A O<|A O<|H<|F O<|zG O zAt<|zJ zEk (R 1 O) O<|A O<|qD O el22 (by omega) (Q (by assumption))<|qO O zMi<|zJ one9 qA O<|A O<|zU O (yR O O O)<|H<|zD O (fun c2=>?_) (fun c2=>?_)
  ·try simp only [I] at c2
   refine F O<|zG O zAt<|zJ zEk (R 1 O) O<|A O<|qD O el22 (by omega) (Q (by assumption))<|zP zMz qA O<|qI O ok89 (zCw b (hn.dims b (zZ hb))) ⟨G,O,T⟩<|Y 0 sz65 O<|A O<|H<|o<|w (y zMz O (R 0 O) O) (J O) ?_
   rw [hasBf_at hb c2,hq,bufD_at hb c2];rfl
  ·try simp only [I] at c2
   refine zM<|zQ O<|qJ O ⟨by omega,by omega⟩<|A O<|H ?_
   refine ⟨k+1,⟨by omega,zQj hb hp c2,hq.trans (bufD_next hb c2)⟩,(by omega),Weak.mk [true,true] ⟨G,G,G,G,G,T⟩ O⟩
 ·try simp only [I] at c1
  refine qQ<|F O<|qT [none,none,none,none,none,none,some 1,none] O zr65 pl65<|Y 0 sz65 O<|A O<|H<|o<|w (y zMz O (R 0 O) O) (J O) ?_
  rw [yU (by omega)] at hp;rw [hp,bufD_no hp];rfl
theorem zBy (n:Ns) (s:ByteArray) (hn:n.Ok):
    Pur cfg 115 [vNs n,vS s] (.tup [vBf (gH n.Bufs s),vB (dM n.Bufs s)]):=by
 refine zT Tryz.func115 O Tryz.ntmps115 Tryz.results115 O ?_
 intro z hz
 have hnb:=hn.bufs
 refine F O<|zV O O (qN O O) ?_
 rintro _ _ ⟨b1,rfl,rfl⟩
 refine zV O O (qE [none,none,none,none,none,none,some 1,none] O zr65 O) ?_
 rintro _ _ ⟨b2,rfl,rfl⟩
 refine A O<|H<|zK<|F O<|A O<|H<|zR<|zY ⟨[(6,.c _),(1,.c _),(2,.c _),(4,.c _)],[_,_]⟩ (Weak.mk [true,true] ⟨G,G,G,G,T⟩ O)<|qK 1 0 O O (Nat) (fun k=>[(6,vI k)]) (fun k=>[]) (fun k=>k<=n.Bufs.length/\(dM (n.Bufs.take k) s=false)/\(gH n.Bufs s=gH (n.Bufs.drop k) s)) (fun k=>n.Bufs.length-k) ⟨0,⟨by omega,O,O⟩,Weak.mk [true,true] ⟨G,G,G,G,T⟩ O⟩ ?_
 rintro k ⟨hk,hp,hq⟩
 refine zK<|F O<|A O<|zG O zAt<|zJ zEk (R 1 O) O<|qC O el22<|yD O<|H<|zD O (fun c1=>?_) (fun c1=>?_)
 ·try simp only [I] at c1
  obtain ⟨b,hb⟩:=qY n.Bufs k (by omega)
  refine zM<|zK<|zR<|F O<|zG O zAt<|zJ zEk (R 1 O) O<|A O<|qD O el22 (by omega) (Q (by assumption))<|qO O zMi<|zJ one9 qA O<|A O<|zU O (yR O O O)<|H<|zD O (fun c2=>?_) (fun c2=>?_)
  ·try simp only [I] at c2
   refine F O<|zG O zAt<|zJ zEk (R 1 O) O<|A O<|qD O el22 (by omega) (Q (by assumption))<|zP zMz qA O<|Y 0 sz65 O<|A O<|H<|o<|w (y zMz O (R 0 O) O) (J O) ?_
   rw [hasBf_at hb c2,hq,bufD_at hb c2];rfl
  ·try simp only [I] at c2
   refine zM<|zQ O<|A O<|qJ O ⟨by omega,by omega⟩<|A O<|H ?_
   refine ⟨k+1,⟨by omega,zQj hb hp c2,hq.trans (bufD_next hb c2)⟩,(by omega),Weak.mk [true,true] ⟨G,G,G,G,T⟩ O⟩
 ·try simp only [I] at c1
  refine qQ<|F O<|qT [none,none,none,none,none,none,some 1,none] O zr65 pl65<|Y 0 sz65 O<|A O<|H<|o<|w (y zMz O (R 0 O) O) (J O) ?_
  rw [yU (by omega)] at hp;rw [hp,bufD_no hp];rfl
theorem zTi (n:Nat) (ih:n≠0->∀(l:List St) (x:Int),bC l<=1073741824->x=((n-1:Nat):Int)->Pur cfg 79 [bM l,vI x] (vB (bP (n-1) l))) (l:List St) (x:Int) (hn:n<=100) (hl:bC l<=1073741824) (hx:x=n):
    Pur cfg 79 [bM l,vI x] (vB (bP n l)):=by
 refine zT Tryz.func79 O Tryz.ntmps79 Tryz.results79 O ?_
 intro z hz
 have hll:=kO l
 refine F O<|A O<|H<|zK<|F O<|A O<|qC O D<|A O<|H<|zR<|zY ⟨[(8,.c _),(0,.c _),(1,.c _),(7,.c _)],[]⟩ (Weak.mk [] ⟨G,G,G,G,T⟩ O)<|qK 1 0 O O (Nat) (fun k=>[(8,vI k)]) (fun k=>[]) (fun k=>k<=l.length/\(pZ n (l.take k)=true)) (fun k=>l.length-k) ⟨0,⟨by omega,by cases n<;>rfl⟩,Weak.mk [] ⟨G,G,G,G,T⟩ O⟩ ?_
 rintro k ⟨hk,hp⟩
 refine F O<|yD O<|H<|zK<|zD O (fun c1=>?_) (fun c1=>?_)
 ·try simp only [I] at c1
  obtain ⟨s,hs⟩:=qY l k (by omega)
  refine zM<|zK<|zR<|F O<|A O<|A O<|H<|F O<|A O<|yD O<|A O<|rL0 O (fun g4_2=>zN O O) O<|rL0 O (fun g4_2=>zN O O) O<|rLz [(14,_),(15,_)] O gv1 ⟨O,O,O,O,T⟩ (fun g4_2=>qF O D O O (by omega) (wD hs)) O<|B 16 O (fun g4_2=>qL O kK O) O<|B 17 O (fun g4_2=>zF O kP O qA O) O<|rL0 O (fun g4_2=>zN O O) O<|B 19 O (fun g4_2=>yE O O O ⟨by omega,by omega⟩) O<|rLz [(18,_),(20,_)] O gv1 ⟨O,O,O,O,T⟩ (fun g4_2=>qM O ok79 (ih (by simp only [Lz,cond_true,cond_false,Bool.and_eq_true,Bool.or_eq_true,Bool.not_eq_true',Bool.not_eq_false',Bool.or_eq_false_iff,Bool.and_eq_false_iff,decide_eq_true_eq,decide_eq_false_iff_not,Bool.not_eq_true,Bool.not_eq_false] at g4_2;omega) s.Body _ (by have:=St.body_wt s;have:=yC (zZ hs);omega) (by simp only [Lz,cond_true,cond_false,Bool.and_eq_true,Bool.or_eq_true,Bool.not_eq_true',Bool.not_eq_false',Bool.or_eq_false_iff,Bool.and_eq_false_iff,decide_eq_true_eq,decide_eq_false_iff_not,Bool.not_eq_true,Bool.not_eq_false] at g4_2;omega)) ⟨G,O,G,O,T⟩) O<|B 21 O (fun g4_2=>kW O O) O<|r_or O (fun h=>(lzf h))<|H<|zD O (fun c2=>?_) (fun c2=>?_)
  ·have hno:=within_no hs hx c2
   refine F O<|A O<|H<|o<|X O ?_
   rw [hno]
  ·have hyes:=within_yes hx c2
   refine zM<|zQ O<|qJ O ⟨by omega,by omega⟩<|A O<|H ?_
   refine ⟨k+1,⟨by omega,withinG_next hs hp hyes.1 hyes.2⟩,(by omega),Weak.mk [] ⟨G,G,G,G,T⟩ O⟩
 ·try simp only [I] at c1
  refine qQ<|F O<|A O<|H<|o<|X O ?_
  rw [yU (by omega),withinG_eq] at hp;rw [hp]
theorem zVi (n:Nat) (l:List St) (x:Int) (hn:n<=100) (hl:bC l<=1073741824) (hx:x=n):Pur cfg 79 [bM l,vI x] (vB (bP n l)):=by
  induction n generalizing l x with
  |zero=>exact zTi 0 (fun h=>absurd rfl h) l x hn hl hx
  |succ n ih=>exact zTi (n+1) (fun _ l x h1 h2=>ih l x (by omega) h1 (by omega)) l x hn hl hx
theorem depth_step (n:Nat) (ih:n≠0->∀(l:List St) (x:Int),bC l<=1073741824->x=((n-1:Nat):Int)->Pur cfg 110 [bM l,vI x] (vI (lS (n-1) l))) (l:List St) (x:Int) (hn:n<=100) (hl:bC l<=1073741824) (hx:x=n):
    Pur cfg 110 [bM l,vI x] (vI (lS n l)):=by
 refine zT Tryz.func110 O Tryz.ntmps110 Tryz.results110 O ?_
 intro z hz
 have hll:=kO l
 refine F O<|A O<|H<|F O<|A O<|H<|zK<|F O<|A O<|H<|zR<|zY ⟨[(5,.c _),(6,.c _),(0,.c _),(1,.c _)],[]⟩ (Weak.mk [] ⟨G,G,G,G,T⟩ O)<|qK 2 0 O O (Nat×Int) (fun ⟨k,d⟩=>[(5,vI d),(6,vI k)]) (fun ⟨k,d⟩=>[]) (fun ⟨k,d⟩=>k<=l.length/\0<=d/\d<=100/\d=lS n (l.take k)) (fun ⟨k,d⟩=>l.length-k) ⟨⟨0,0⟩,⟨by omega,by omega,by omega,by cases n<;>rfl⟩,Weak.mk [] ⟨VLe.of_eq (O),G,G,G,T⟩ O⟩ ?_
 rintro ⟨k,d⟩ ⟨hk,hd0,hd1,hd⟩
 show AWP _ _ _ _ _ ⟨[(5,vI d),(6,vI k)]++_,[]++_⟩
 refine zK<|F O<|A O<|A O<|qC O D<|yD O<|A O<|rL0 O (fun g3_4=>zN O O) O<|B 12 O (fun g3_4=>yG O O O) O<|yQ O (fun h=>h)<|H<|zD O (fun c1=>?_) (fun c1=>?_)
 ·try simp only [I] at c1
  obtain ⟨s,hs⟩:=qY l k (by omega)
  have hle:=depS_le (n-1) s.Body
  refine zM<|zK<|zR<|zQ O<|A O<|A O<|A O<|qD O D (by omega) (wD hs)<|qO O kK<|zJ kP qA O<|A O<|zU O (yE O O O ⟨by omega,by omega⟩)<|qI O ok110 (ih (by omega) s.Body _ (by have:=St.body_wt s;have:=yC (zZ hs);omega) (by omega)) ⟨G,O,G,O,T⟩<|qJ O ⟨by omega,by omega⟩<|zU O (zQp O O O)<|A O<|H<|zQ O<|A O<|qJ O ⟨by omega,by omega⟩<|A O<|H ?_
  refine ⟨⟨k+1,max d (1+lS (n-1) s.Body)⟩,⟨by omega,by omega,by omega,by rw [depS_next hs (by omega),←hd]⟩,(by dsimp only;omega),Weak.mk [] ⟨G,G,G,G,T⟩ O⟩
 ·try simp only [I] at c1
  refine qQ<|F O<|A O<|A O<|H<|o<|X O ?_
  exact congrArg vI (depS_stop hx hd (by omega))
theorem ref30_depth (n:Nat) (l:List St) (x:Int) (hn:n<=100) (hl:bC l<=1073741824) (hx:x=n):Pur cfg 110 [bM l,vI x] (vI (lS n l)):=by
  induction n generalizing l x with
  |zero=>exact depth_step 0 (fun h=>absurd rfl h) l x hn hl hx
  |succ n ih=>exact depth_step (n+1) (fun _ l x h1 h2=>ih l x (by omega) h1 (by omega)) l x hn hl hx
theorem zDk (l:List St) (ih:∀s,s∈l->∀(m:Nat) (x:Int),m<=2147483648->x=m->Pur cfg 80 [bM s.Body,vI x] (vI (jN s.Body m))) (m:Nat) (x:Int) (hl:bC l<=1073741824) (hm:m<=2147483648) (hx:x=m):
    Pur cfg 80 [bM l,vI x] (vI (jN l m)):=by
 refine zT Tryz.func80 O Tryz.ntmps80 Tryz.results80 O ?_
 intro z hz
 have hll:=kO l
 have hNw:=zCr l
 refine F O<|A O<|H<|F O<|A O<|qC O D<|A O<|H<|zK<|F O<|A O<|qC O D<|A O<|H<|zR<|zY ⟨[(11,.c _),(5,.c _),(0,.c _),(1,.c _),(10,.c _)],[]⟩ (Weak.mk [] ⟨G,G,G,G,G,T⟩ O) ?_
 refine qK 2 0 O O (Nat×Nat) (fun ⟨k,n⟩=>[(11,vI k),(5,vI n)]) (fun ⟨k,n⟩=>[]) (fun ⟨k,n⟩=>k<=l.length/\(n<=4294967296)/\(jN l m=lB (l.drop k) m n)) (fun ⟨k,n⟩=>l.length-k) ⟨⟨0,l.length⟩,⟨by omega,by omega,O⟩,Weak.mk [] ⟨G,VLe.of_eq (congrArg vI (by simp)),G,G,G,T⟩ O⟩ ?_
 rintro ⟨k,n⟩ ⟨hk,hn,hp⟩
 show AWP _ _ _ _ _ ⟨[(11,vI k),(5,vI n)]++_,[]++_⟩
 refine F O<|yD O<|H<|zK<|zD O (fun c1=>?_) (fun c1=>?_)
 ·try simp only [I] at c1
  obtain ⟨s,hs⟩:=qY l k (by omega)
  refine zM<|zK<|zR<|F O<|A O<|A O<|H<|zK<|F O<|A O<|A O<|zU O (yG O O O)<|H<|zD O (fun c2=>?_) (fun c2=>?_)
  ·try simp only [I] at c2
   refine qQ<|F O<|A O<|A O<|H<|o<|X O ?_
   exact congrArg vI (by rw [←num_end hp (by omega)])
  ·try simp only [I] at c2
   have hsum:=num_sum hs hp (by omega)
   have hbl:=numB_le s.Body (m-n)
   have hsn:=zHq (zZ hs)
   have hse:=zDi s
   refine zM<|zQ O<|A O<|A O<|A O<|qD O D (by omega) (wD hs)<|qO O kK<|zJ kP qA O<|A O<|A O<|zU O (yE O O O ⟨by omega,by omega⟩)<|qI O ok80 (ih s (zZ hs) (m-n) _ (by omega) (by omega)) ⟨G,O,G,O,T⟩<|qJ O ⟨by omega,by omega⟩<|A O<|H<|zQ O<|qJ O ⟨by omega,by omega⟩<|A O<|H ?_
   refine ⟨⟨k+1,n+jN s.Body (m-n)⟩,⟨by omega,by omega,num_next hs hp (by omega)⟩,(by show l.length-(k+1)<l.length-k;omega),Weak.mk [] ⟨G,VLe.of_eq (congrArg vI (by omega)),G,G,G,T⟩ O⟩
 ·try simp only [I] at c1
  refine qQ<|F O<|A O<|A O<|H<|o<|X O ?_
  exact congrArg vI (by rw [←num_end hp (by omega)])
theorem zIg (s:St):∀(m:Nat) (x:Int),bC s.Body<=1073741824->m<=2147483648->x=m->Pur cfg 80 [bM s.Body,vI x] (vI (jN s.Body m)):=by
  induction s using St.ind with
  |_ s ih=>exact fun m x hl hm hx=>zDk s.Body (fun a ha m x h1 h2=>ih a ha m x (by have:=St.body_wt a;have:=yC ha;omega) h1 h2) m x hl hm hx
theorem zOh (l:List St) (m:Nat) (x:Int) (hl:bC l<=1073741824) (hm:m<=2147483648) (hx:x=m):Pur cfg 80 [bM l,vI x] (vI (jN l m)):=
  zDk l (fun a ha m x h1 h2=>zIg a m x (by have:=St.body_wt a;have:=yC ha;omega) h1 h2) m x hl hm hx
theorem zJv (l:List St) (ih:∀s,s∈l->∀(m:Nat) (x:Int),m<=2147483648->x=m->Pur cfg 46 [bM s.Body,vI x] (vI (jN s.Body m))) (m:Nat) (x:Int) (hl:bC l<=1073741824) (hm:m<=2147483648) (hx:x=m):
    Pur cfg 46 [bM l,vI x] (vI (jN l m)):=by
 refine zT Tryz.func46 O Tryz.ntmps46 Tryz.results46 O ?_
 intro z hz
 have hll:=kO l
 have hNw:=zCr l
 refine F O<|A O<|H<|F O<|A O<|qC O D<|A O<|H<|zK<|F O<|A O<|H<|zR<|zY ⟨[(6,.c _),(5,.c _),(0,.c _),(1,.c _)],[]⟩ (Weak.mk [] ⟨G,G,G,G,T⟩ O) ?_
 refine qK 2 0 O O (Nat×Nat) (fun ⟨k,n⟩=>[(6,vI k),(5,vI n)]) (fun ⟨k,n⟩=>[]) (fun ⟨k,n⟩=>k<=l.length/\(n<=4294967296)/\(jN l m=lB (l.drop k) m n)) (fun ⟨k,n⟩=>l.length-k) ⟨⟨0,l.length⟩,⟨by omega,by omega,O⟩,Weak.mk [] ⟨G,VLe.of_eq (congrArg vI (by simp)),G,G,T⟩ O⟩ ?_
 rintro ⟨k,n⟩ ⟨hk,hn,hp⟩
 show AWP _ _ _ _ _ ⟨[(6,vI k),(5,vI n)]++_,[]++_⟩
 refine zK<|F O<|A O<|A O<|qC O D<|yD O<|A O<|rL0 O (fun g3_4=>zN O O) O<|rL0 O (fun g3_4=>zN O O) O<|rLz [(14,_),(15,_)] O gv1 ⟨O,O,O,O,T⟩ (fun g3_4=>wY O O O) O<|yQ O (fun h=>h)<|H<|zD O (fun c1=>?_) (fun c1=>?_)
 ·try simp only [I] at c1
  obtain ⟨s,hs⟩:=qY l k (by omega)
  have hsum:=num_sum hs hp (by omega)
  have hbl:=numB_le s.Body (m-n)
  have hsn:=zHq (zZ hs)
  have hse:=zDi s
  refine zM<|zK<|zR<|zQ O<|A O<|A O<|A O<|qD O D (by omega) (wD hs)<|qO O kK<|zJ kP qA O<|A O<|A O<|zU O (yE O O O ⟨by omega,by omega⟩)<|zU O (zQp O O O)<|qI O ok46 (ih s (zZ hs) (m-n) _ (by omega) (by omega)) ⟨G,O,G,O,T⟩<|qJ O ⟨by omega,by omega⟩<|A O<|H<|zQ O<|A O<|qJ O ⟨by omega,by omega⟩<|A O<|H ?_
  refine ⟨⟨k+1,n+jN s.Body (m-n)⟩,⟨by omega,by omega,num_next hs hp (by omega)⟩,(by show l.length-(k+1)<l.length-k;omega),Weak.mk [] ⟨G,VLe.of_eq (congrArg vI (by omega)),G,G,T⟩ O⟩
 ·try simp only [I] at c1
  refine qQ<|F O<|A O<|A O<|H<|o<|X O ?_
  exact congrArg vI (by rw [←num_end hp (by omega)])
theorem zUm (s:St):∀(m:Nat) (x:Int),bC s.Body<=1073741824->m<=2147483648->x=m->Pur cfg 46 [bM s.Body,vI x] (vI (jN s.Body m)):=by
  induction s using St.ind with
  |_ s ih=>exact fun m x hl hm hx=>zJv s.Body (fun a ha m x h1 h2=>ih a ha m x (by have:=St.body_wt a;have:=yC ha;omega) h1 h2) m x hl hm hx
theorem ref30_size (l:List St) (m:Nat) (x:Int) (hl:bC l<=1073741824) (hm:m<=2147483648) (hx:x=m):Pur cfg 46 [bM l,vI x] (vI (jN l m)):=
  zJv l (fun a ha m x h1 h2=>zUm a m x (by have:=St.body_wt a;have:=yC ha;omega) h1 h2) m x hl hm hx
theorem zMo (l:List Bf) (c:C) (p:Bf->Bool) (hl:l.length<=4294967296) (hc:∀x,x∈l->FnPur cfg c [vBf x] (vB (p x))):
    Pur cfg 160 [xF l,.c c] (vI (jR p l)):=by
 refine zT Tryz.func160 O Tryz.ntmps160 Tryz.results160 O ?_
 intro z hz
 refine F O<|A O<|H<|zK<|F O<|A O<|qC O el22<|A O<|H<|zR<|zY ⟨[(8,.c _),(0,.c _),(1,.c _),(7,.c _)],[]⟩ (Weak.mk [] ⟨G,G,G,G,T⟩ O)<|qK 1 0 O O (Nat) (fun k=>[(8,vI k)]) (fun k=>[]) (fun k=>k<=l.length/\((l.take k).any p=false)) (fun k=>l.length-k) ⟨0,⟨by omega,O⟩,Weak.mk [] ⟨G,G,G,G,T⟩ O⟩ ?_
 rintro k ⟨hk,hp⟩
 refine F O<|yD O<|H<|zK<|zD O (fun c1=>?_) (fun c1=>?_)
 ·try simp only [I] at c1
  obtain ⟨x,hx⟩:=qY l k (by omega)
  refine zM<|zK<|zR<|F O<|A O<|A O<|H<|F O<|A O<|A O<|A O<|qD O el22 (by omega) (Q (by assumption))<|zP zMz qA O<|zU O (kV O O (hc _ (zZ hx)) ⟨G,O,T⟩)<|H<|zD O (fun c2=>?_) (fun c2=>?_)
  ·try simp only [I] at c2
   refine F O<|A O<|A O<|H<|o<|X O ?_
   rw [zSk hx c2 hp]
  ·try simp only [I] at c2
   refine zM<|zQ O<|qJ O ⟨by omega,by omega⟩<|A O<|H ?_
   refine ⟨k+1,⟨by omega,zTg hx hp c2⟩,(by omega),Weak.mk [] ⟨G,G,G,G,T⟩ O⟩
 ·try simp only [I] at c1
  refine qQ<|F O<|A O<|H<|o<|X O ?_
  rw [zLn (by rw [yU (by omega)] at hp;exact hp)]
theorem zIy (l:List Bf) (c:C) (p:Bf->Bool) (hl:l.length<=4294967296) (hc:∀x,x∈l->FnPur cfg c [vBf x] (vB (p x))):
    Pur cfg 125 [xF l,.c c] (vB (l.any p)):=by
 refine zT Tryz.func125 O Tryz.ntmps125 Tryz.results125 O ?_
 intro z hz
 refine F O<|A O<|H<|F O<|A O<|A O<|qI O ok160 (zMo l c p hl hc) ⟨G,O,G,O,T⟩<|zU O (wI O O O)<|A O<|H<|o<|X O ?_
 rw [zOp]
theorem checkBuffers_1 (x b:Bf):
    Pur cfg 126 [vBf x,.c (.iptr b.cells)] (vB (decide (x.Name=b.Name))):=by
 refine zT Tryz.func126 O Tryz.ntmps126 Tryz.results126 O ?_
 intro z hz
 refine F O<|zV O O (qN O O) ?_
 rintro _ _ ⟨b1,rfl,rfl⟩
 refine A O<|H<|F O<|zG O zMi<|zJ one9 (R 0 O) O<|qO O zMi<|zJ one9 qA O<|zU O (yR O O O)<|A O<|H<|o<|X O ?_
 exact O
theorem zKh (l:List Bf) (hl:l.length<=4294967296) (hd:∀b,b∈l->b.Dims.length<=17592186044416):
    Pur cfg 81 [xF l] (vI (dP [] l)):=by
 refine zT Tryz.func81 O Tryz.ntmps81 Tryz.results81 O ?_
 intro z hz
 refine F O<|A O<|H<|zK<|F O<|A O<|qC O el22<|A O<|H<|zR<|zY ⟨[(8,.c _),(0,.c _),(7,.c _)],[]⟩ (Weak.mk [] ⟨G,G,G,T⟩ O)<|qK 1 0 O O (Nat) (fun k=>[(8,vI k)]) (fun k=>[]) (fun k=>k<=l.length/\(dP [] l=dP (l.take k) (l.drop k))) (fun k=>l.length-k) ⟨0,⟨by omega,O⟩,Weak.mk [] ⟨G,G,G,T⟩ O⟩ ?_
 rintro k ⟨hk,hp⟩
 refine F O<|yD O<|H<|zK<|zD O (fun c1=>?_) (fun c1=>?_)
 ·try simp only [I] at c1
  obtain ⟨b,hb⟩:=qY l k (by omega)
  refine zM<|zK<|zR<|F O<|A O<|A O<|H<|F O<|A O<|A O<|qD O el22 (by omega) (Q (by assumption))<|zP zMz qA O<|zV O O (qE [none,none,none,none,none,none,some 1,none] O zr65 O) ?_
  rintro _ _ ⟨b1,rfl,rfl⟩
  refine Y 0 sz65 O<|yI _ (yS 0 O 4 _ PLe.ptr)<|H<|zK<|zR<|F O<|qO O zMi<|zJ one9 qA O<|qI O ok49 (zBc _) ⟨G,O,T⟩<|kQ O<|A O<|H<|zD O (fun c2=>?_) (fun c2=>?_)
  ·try simp only [I] at c2
   refine F O<|A O<|H<|o<|X O ?_
   rw [zBp hb hp (by rw [bfErr_7 c2];decide),bfErr_7 c2]
  ·try simp only [I] at c2
   refine F O<|A O<|A O<|zU O (zKs O el22 O O (by omega))<|zU O (zEe O O O O O)<|qI O ok125 (zIy (l.take k) _ (fun x=>decide (x.Name=b.Name)) (by rw [List.length_take];omega) (fun x _=>FnPur.of_pur (first:=[]) (cap:=[.iptr b.cells]) ok126 (checkBuffers_1 x b))) ⟨G,O,G,O,T⟩<|A O<|H<|zD O (fun c3=>?_) (fun c3=>?_)
   ·try simp only [I] at c3
    refine F O<|A O<|H<|o<|X O ?_
    rw [zBp hb hp (by rw [bfErr_8 c2 c3];decide),bfErr_8 c2 c3]
   ·try simp only [I] at c3
    refine F O<|qO O zKm<|zP yN qA O<|qI O ok127 (zDg b.T) ⟨G,O,T⟩<|yM O<|A O<|H<|zD O (fun c4=>?_) (fun c4=>?_)
    ·try simp only [I] at c4
     refine F O<|A O<|H<|o<|X O ?_
     rw [zBp hb hp (by rw [zTe c2 c3 (tyErr_ne c4)];decide),zTe c2 c3 (tyErr_ne c4)]
    ·try simp only [I] at c4
     refine zM<|zK<|F O<|qO O zMh<|zJ zGy qA O<|qI O ok128 (shape_Validate b.Dims (hd b (zZ hb))) ⟨G,O,T⟩<|A O<|H<|F O<|A O<|yM O<|H<|zD O (fun c5=>?_) (fun c5=>?_)
     ·try simp only [I] at c5
      refine F O<|A O<|A O<|H<|o<|X O ?_
      rw [zBp hb hp (by rw [bfErr_d c2 c3 (zLe c4) c5];exact c5),bfErr_d c2 c3 (zLe c4) c5]
     ·try simp only [I] at c5
      refine zM<|F O<|qO O zRd<|zJ one3 qA O<|yD O<|A O<|rL0 O (fun g14_3=>qL O zRd O) O<|B 41 O (fun g14_3=>zF O one3 O qA O) O<|B 42 O (fun g14_3=>yG O O O) O<|r_or O (fun h=>(lzf h))<|H<|zD O (fun c6=>?_) (fun c6=>?_)
      ·try simp only [I] at c6
       refine F O<|A O<|H<|o<|X O ?_
       rw [zBp hb hp (by rw [bfErr_u c2 c3 (zLe c4) c5 (by omega)];decide),bfErr_u c2 c3 (zLe c4) c5 (by omega)]
      ·try simp only [I] at c6
       refine zM<|zQ O<|qJ O ⟨by omega,by omega⟩<|A O<|H ?_
       refine ⟨k+1,⟨by omega,zRh hb hp (bfErr_0 c2 c3 (zLe c4) c5 (by omega))⟩,(by omega),Weak.mk [] ⟨G,G,G,T⟩ O⟩
 ·try simp only [I] at c1
  refine qQ<|F O<|A O<|H<|o<|X O ?_
  rw [zWx hp (by omega)]
theorem ref30_bufs (n:Ns) (hn:n.Ok):
    Pur cfg 111 [vNs n] (vI (dP [] n.Bufs)):=by
 refine zT Tryz.func111 O Tryz.ntmps111 Tryz.results111 O ?_
 intro z hz
 have hnb:=hn.bufs
 refine F O<|zV O O (qN O O) ?_
 rintro _ _ ⟨b1,rfl,rfl⟩
 refine A O<|H<|zK<|F O<|A O<|H<|zR<|zY ⟨[(3,.c _),(1,.c _)],[_]⟩ (Weak.mk [true] ⟨G,G,T⟩ O)<|qK 1 0 O O (Nat) (fun k=>[(3,vI k)]) (fun k=>[]) (fun k=>k<=n.Bufs.length/\(dP [] n.Bufs=dP (n.Bufs.take k) (n.Bufs.drop k))) (fun k=>n.Bufs.length-k) ⟨0,⟨by omega,O⟩,Weak.mk [true] ⟨G,G,T⟩ O⟩ ?_
 rintro k ⟨hk,hp⟩
 refine zK<|F O<|A O<|zG O zAt<|zJ zEk (R 0 O) O<|qC O el22<|yD O<|H<|zD O (fun c1=>?_) (fun c1=>?_)
 ·try simp only [I] at c1
  obtain ⟨b,hb⟩:=qY n.Bufs k (by omega)
  refine zM<|zK<|zR<|F O<|zG O zAt<|zJ zEk (R 0 O) O<|A O<|qD O el22 (by omega) (Q (by assumption))<|zP zMz qA O<|zV O O (qE [none,none,none,none,none,none,some 1,none] O zr65 O) ?_
  rintro _ _ ⟨b2,rfl,rfl⟩
  refine Y 0 sz65 O<|H<|zK<|F O<|zG O zMi<|zJ one9 (R 0 O) O<|qI O ok60 (zEq _) ⟨G,O,T⟩<|kQ O<|H<|zD O (fun c2=>?_) (fun c2=>?_)
  ·try simp only [I] at c2
   refine F O<|A O<|H<|o<|X O ?_
   rw [zBp hb hp (by rw [bfErr_7 c2];decide),bfErr_7 c2]
  ·try simp only [I] at c2
   refine zM<|zK<|F O<|A O<|H<|zR<|zY ⟨[(5,.c _),(1,.c _),(3,.c _),(4,.c _)],[_,_]⟩ (Weak.mk [true,true] ⟨G,G,G,G,T⟩ O)<|qK 1 0 O O (Nat) (fun j=>[(5,vI j)]) (fun j=>[]) (fun j=>j<=k/\dM (n.Bufs.take j) b.Name=false) (fun j=>k-j) ⟨0,⟨by omega,O⟩,Weak.mk [true,true] ⟨G,G,G,G,T⟩ O⟩ ?_
   rintro j ⟨hj,hq⟩
   refine zK<|F O<|A O<|A O<|yD O<|H<|zD O (fun c3=>?_) (fun c3=>?_)
   ·try simp only [I] at c3
    obtain ⟨y,hy⟩:=qY n.Bufs j (by omega)
    refine zM<|zK<|zR<|zK<|qZ 9 mixed (by kernel_rfl) O O<|M O O (zE O zAt O)<|M O O (zF O zEk O (R 1 O) O)<|M O O (zN O O)<|M O O (qF O el22 O O (by omega) (Q (by assumption)))<|M O O (qL O zMi O)<|M O O (zF O one9 O qA O)<|M O O (zE O zMi O)<|M O O (zF O one9 O (R 0 O) O)<|M O O (yR O O O)<|kE<|H<|zD O (fun c4=>?_) (fun c4=>?_)
    ·try simp only [I] at c4
     refine F O<|A O<|H<|o<|X O ?_
     have h8:=hasBf_lt hy (show j<k by omega) c4
     rw [zBp hb hp (by rw [bfErr_8 c2 h8];decide),bfErr_8 c2 h8]
    ·try simp only [I] at c4
     refine zM<|zQ O<|A O<|qJ O ⟨by omega,by omega⟩<|A O<|H ?_
     refine ⟨j+1,⟨by omega,zQj hy hq c4⟩,(by omega),Weak.mk [true,true] ⟨G,G,G,G,T⟩ O⟩
   ·try simp only [I] at c3
    rw [show j=k by omega] at hq
    refine qQ<|zK<|F O<|zG O zKm<|zP yN (R 0 O) O<|qI O ok148 (base_Type b.T) ⟨G,O,T⟩<|kQ O<|H<|zD O (fun c5=>?_) (fun c5=>?_)
    ·try simp only [I] at c5
     refine F O<|A O<|H<|o<|X O ?_
     rw [zBp hb hp (by rw [zTe c2 hq c5];decide),zTe c2 hq c5]
    ·try simp only [I] at c5
     refine zM<|zK<|F O<|zG O zMh<|zJ zGy (R 0 O) O<|qI O ok149 (ref11_Validate b.Dims (hn.dims b (zZ hb))) ⟨G,O,T⟩<|A O<|H<|F O<|A O<|yM O<|H<|zD O (fun c6=>?_) (fun c6=>?_)
     ·try simp only [I] at c6
      refine F O<|A O<|A O<|H<|o<|X O ?_
      rw [zBp hb hp (by rw [bfErr_d c2 hq c5 c6];exact c6),bfErr_d c2 hq c5 c6]
     ·try simp only [I] at c6
      refine zM<|F O<|zG O zRd<|zJ one3 (R 0 O) O<|yD O<|A O<|rL0 O (fun g17_3=>zE O zRd O) O<|B 51 O (fun g17_3=>zF O one3 O (R 0 O) O) O<|B 52 O (fun g17_3=>yG O O O) O<|r_or O (fun h=>(lzf h))<|H<|zD O (fun c7=>?_) (fun c7=>?_)
      ·try simp only [I] at c7
       refine F O<|A O<|H<|o<|X O ?_
       rw [zBp hb hp (by rw [bfErr_u c2 hq c5 c6 (by omega)];decide),bfErr_u c2 hq c5 c6 (by omega)]
      ·try simp only [I] at c7
       refine zM<|zQ O<|A O<|qJ O ⟨by omega,by omega⟩<|A O<|H ?_
       refine ⟨k+1,⟨by omega,zRh hb hp (bfErr_0 c2 hq c5 c6 (by omega))⟩,(by omega),Weak.mk [false,true] ⟨G,G,T⟩ O⟩
 ·try simp only [I] at c1
  refine qQ<|F O<|A O<|H<|o<|X O ?_
  rw [zWx hp (by omega)]
end Go.W
