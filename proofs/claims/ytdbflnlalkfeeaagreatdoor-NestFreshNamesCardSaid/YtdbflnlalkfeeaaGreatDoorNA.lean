/-
  Walks: what functions of the program compute. Printed by wip/gen/mk2.py.
  Conditions: none.
-/
import Derived.Test.YtdbflnlalkfeeaaGreatDoorVC
import Derived.Test.YtdbflnlalkfeeaaGreatDoorEngZ
import Derived.Test.YtdbflnlalkfeeaaGreatDoorPlain2
set_option maxRecDepth 10000
namespace Go.W
open Go Go.Eng Go.Proofs Go.L41 Go.Br
attribute [local irreducible] AWP RWP TD finQ
theorem zMm : aggT Tryz.prog 42 = some 8:= by kernel_rfl
theorem el22 : elemT Tryz.prog 22 = some (42,8,88):= by kernel_rfl
theorem el23 : elemT Tryz.prog 23 = some (54,20,256):= by kernel_rfl
theorem wU : fieldT Tryz.prog 25 0 = some (0,22):= by kernel_rfl
theorem zIi : fieldT Tryz.prog 42 0 = some (0,9):= by kernel_rfl
theorem zKl : fieldT Tryz.prog 42 1 = some (1,40):= by kernel_rfl
theorem zHa : fieldT Tryz.prog 42 2 = some (6,33):= by kernel_rfl
theorem zRb : fieldT Tryz.prog 42 3 = some (7,3):= by kernel_rfl
theorem zAn : fieldT Tryz.prog 54 7 = some (19,23):= by kernel_rfl
theorem ok62 : callOk Tryz.prog 62 = true:= by kernel_rfl
theorem ok63 : callOk Tryz.prog 63 = true:= by kernel_rfl
theorem ok68 : callOk Tryz.prog 68 = true:= by kernel_rfl
theorem ok69 : callOk Tryz.prog 69 = true:= by kernel_rfl
theorem ok78 : callOk Tryz.prog 78 = true:= by kernel_rfl
theorem ok111 : callOk Tryz.prog 111 = true:= by kernel_rfl
theorem ok112 : callOk Tryz.prog 112 = true:= by kernel_rfl
theorem ok121 : callOk Tryz.prog 121 = true:= by kernel_rfl
theorem ok122 : callOk Tryz.prog 122 = true:= by kernel_rfl
theorem ok125 : callOk Tryz.prog 125 = true:= by kernel_rfl
theorem ok158 : callOk Tryz.prog 158 = true:= by kernel_rfl
theorem zCm : oneT Tryz.prog 22 = true:= by kernel_rfl
theorem zAa : oneT Tryz.prog 23 = true:= by kernel_rfl
theorem zDp : oneT Tryz.prog 33 = true:= by kernel_rfl
theorem pl42 : placesT Tryz.prog 42 = some [(0,1),(1,5),(6,1),(7,1)]:= by kernel_rfl
theorem sz33 : (Tryz.prog.info? 33).map (·.size) = some 1:= by kernel_rfl
theorem sz42 : (Tryz.prog.info? 42).map (·.size) = some 8:= by kernel_rfl
theorem zr42 : zeroT Tryz.prog 42 = some [(Value.string (ByteArray.mk #[])),(Value.int IntKind.i64 0),(Value.int IntKind.i64 0),(Value.int IntKind.i64 0),(Value.int IntKind.i64 0),(Value.int IntKind.i64 0),(Value.slice none 0 0),(Value.int IntKind.i64 0)]:= by kernel_rfl
theorem shape_Validate (d : List Int) (hl : d.length ≤ 17592186044416) :
    Pur cfg 111 [vIs d] (vI (dimsErr d)):= by
 refine zV Tryz.func111 rfl Tryz.ntmps111 Tryz.results111 rfl ?_
 intro z hz
 refine sReg rfl<|rMv rfl<|zB<|zK<|sReg rfl<|rMv rfl<|zA rfl (zR rfl el33 rfl)<|zA rfl (yA rfl rfl rfl)<|zB<|zH rfl (fun c1 => ?_) (fun c1 => ?_)
 ·try simp only [sx] at c1
  have hlong := dims_long (d := d) (by omega)
  refine sReg rfl<|rMv rfl<|zB<|zI<|zQ rfl ?_
  rw [hlong]
 ·try simp only [sx] at c1
  refine zJ<|zK<|sReg rfl<|rMv rfl<|zA rfl (zR rfl el33 rfl)<|rMv rfl<|zB<|zS<|zY ⟨[(13,.c _),(0,.c _),(11,.c _),(12,.c _)],[]⟩ (Weak.mk [] ⟨zE,zE,zE,zE,trivial⟩ rfl)<|qI 1 0 rfl rfl (Nat) (fun k => [(13,vI k)]) (fun k => []) (fun k => k ≤ d.length ∧ ((d.take k).all posI = true)) (fun k => d.length - k) ⟨0,⟨by omega,rfl⟩,Weak.mk [] ⟨zE,zE,zE,zE,trivial⟩ rfl⟩ ?_
  rintro k ⟨hk,hp⟩
  refine sReg rfl<|zA rfl (qM rfl rfl rfl)<|zB<|zK<|zH rfl (fun c2 => ?_) (fun c2 => ?_)
  ·try simp only [sx] at c2
   obtain ⟨n,hn⟩ := qX d k (by omega)
   refine zJ<|zK<|zS<|sReg rfl<|zA rfl (zO rfl el33 rfl rfl (by omega) (getm (by assumption)))<|zA rfl (zD rfl one3 rfl qC rfl)<|rMv rfl<|zB<|sReg rfl<|rMv rfl<|zA rfl (qM rfl rfl rfl)<|zB<|zH rfl (fun c3 => ?_) (fun c3 => ?_)
   ·try simp only [sx] at c3
    have hneg := dims_neg (d := d) (by omega) hn c3
    refine sReg rfl<|rMv rfl<|zB<|zI<|zQ rfl ?_
    rw [hneg]
   ·try simp only [sx] at c3
    refine zJ<|zU rfl<|zA rfl (qB rfl rfl rfl ⟨by omega,by omega⟩)<|rMv rfl<|zB ?_
    refine ⟨k + 1,⟨by omega,zCu hn hp (by unfold posI; exact decide_eq_true (by omega))⟩,(by omega),Weak.mk [] ⟨zE,zE,zE,zE,trivial⟩ rfl⟩
  ·try simp only [sx] at c2
   have hpos : d.all posI = true:= by rw [yO (by omega)] at hp; exact hp
   refine qN<|sReg rfl<|rMv rfl<|zB<|zK<|sReg rfl<|rMv rfl<|zA rfl (zR rfl el33 rfl)<|rMv rfl<|zB<|zS<|zY ⟨[(22,.c _),(5,.c _),(20,.c _),(21,.c _)],[]⟩ (Weak.mk [] ⟨zE,zE,zE,zE,trivial⟩ rfl)<|qI 2 0 rfl rfl (Nat × Int) (fun ⟨j,s⟩ => [(22,vI j),(5,vI s)]) (fun ⟨j,s⟩ => []) (fun ⟨j,s⟩ => j ≤ d.length ∧ (1 ≤ s) ∧ (s ≤ 4096) ∧ (sizeFrom 1 d = sizeFrom s (d.drop j))) (fun ⟨j,s⟩ => d.length - j) ⟨⟨0,1⟩,⟨by omega,by omega,by omega,rfl⟩,Weak.mk [] ⟨zE,VLe.of_eq (rfl),zE,zE,trivial⟩ rfl⟩ ?_
   rintro ⟨j,s⟩ ⟨hj,hs1,hs2,hs3⟩
   show AWP _ _ _ _ _ ⟨[(22,vI j),(5,vI s)] ++ _,[] ++ _⟩
   refine sReg rfl<|zA rfl (qM rfl rfl rfl)<|zB<|zK<|zH rfl (fun c4 => ?_) (fun c4 => ?_)
   ·try simp only [sx] at c4
    obtain ⟨m,hm⟩ := qX d j (by omega)
    refine zJ<|zK<|zS<|sReg rfl<|zA rfl (zO rfl el33 rfl rfl (by omega) (getm (by assumption)))<|zA rfl (zD rfl one3 rfl qC rfl)<|rMv rfl<|zB<|zK<|sReg rfl<|rMv rfl<|rMv rfl<|zA rfl (det_quo rfl rfl rfl (by omega))<|zA rfl (yA rfl rfl rfl)<|zB<|zH rfl (fun c5 => ?_) (fun c5 => ?_)
    ·try simp only [sx] at c5
     have hov := quo_t hs1 c5
     refine sReg rfl<|rMv rfl<|zB<|zI<|zQ rfl ?_
     rw [zRk (by omega) hpos (zPi hm hs3 hov)]
    ·try simp only [sx] at c5
     have hov := quo_f hs1 (Int.not_lt.2 c5)
     have hm1 := zHn hs1 (zHm hpos hm)
     refine zJ<|zU rfl<|rMv rfl<|rMv rfl<|zA rfl (det_mul_nw rfl rfl rfl (by have := zHn hs1 (zHm hpos hm); exact ⟨by omega,by omega⟩))<|rMv rfl<|zB<|zU rfl<|zA rfl (qB rfl rfl rfl ⟨by omega,by omega⟩)<|rMv rfl<|zB ?_
     refine ⟨⟨j + 1,s * m⟩,⟨by omega,by omega,by omega,size_next hm hs3 hov⟩,(by show d.length - (j + 1) < d.length - j; omega),Weak.mk [] ⟨zE,zE,zE,zE,trivial⟩ rfl⟩
   ·try simp only [sx] at c4
    refine qN<|sReg rfl<|rMv rfl<|zB<|zI<|zQ rfl ?_
    rw [dims_ok (by omega) hpos (size_done hs3 (by omega))]
theorem ref11_Validate (d : List Int) (hl : d.length ≤ 17592186044416) :
    Pur cfg 112 [vIs d] (vI (dimsErr d)):= by
 refine zV Tryz.func112 rfl Tryz.ntmps112 Tryz.results112 rfl ?_
 intro z hz
 refine sReg rfl<|rMv rfl<|zB<|zK<|sReg rfl<|rMv rfl<|zA rfl (zR rfl el33 rfl)<|zA rfl (yA rfl rfl rfl)<|zB<|zH rfl (fun c1 => ?_) (fun c1 => ?_)
 ·try simp only [sx] at c1
  have hlong := dims_long (d := d) (by omega)
  refine sReg rfl<|rMv rfl<|zB<|zI<|zQ rfl ?_
  rw [hlong]
 ·try simp only [sx] at c1
  refine zJ<|zK<|sReg rfl<|rMv rfl<|zB<|zS<|zY ⟨[(3,.c _),(0,.c _)],[]⟩ (Weak.mk [] ⟨zE,zE,trivial⟩ rfl)<|qI 1 0 rfl rfl (Nat) (fun k => [(3,vI k)]) (fun k => []) (fun k => k ≤ d.length ∧ ((d.take k).all posI = true)) (fun k => d.length - k) ⟨0,⟨by omega,rfl⟩,Weak.mk [] ⟨zE,zE,trivial⟩ rfl⟩ ?_
  rintro k ⟨hk,hp⟩
  refine zK<|sReg rfl<|rMv rfl<|rMv rfl<|zA rfl (zR rfl el33 rfl)<|zA rfl (qM rfl rfl rfl)<|zB<|zH rfl (fun c2 => ?_) (fun c2 => ?_)
  ·try simp only [sx] at c2
   obtain ⟨n,hn⟩ := qX d k (by omega)
   refine zJ<|zK<|zS<|sReg rfl<|rMv rfl<|rMv rfl<|zA rfl (zO rfl el33 rfl rfl (by omega) (getm (by assumption)))<|zA rfl (zD rfl one3 rfl qC rfl)<|zA rfl (qM rfl rfl rfl)<|zB<|zH rfl (fun c3 => ?_) (fun c3 => ?_)
   ·try simp only [sx] at c3
    have hneg := dims_neg (d := d) (by omega) hn c3
    refine sReg rfl<|rMv rfl<|zB<|zI<|zQ rfl ?_
    rw [hneg]
   ·try simp only [sx] at c3
    refine zJ<|zU rfl<|rMv rfl<|zA rfl (qB rfl rfl rfl ⟨by omega,by omega⟩)<|rMv rfl<|zB ?_
    refine ⟨k + 1,⟨by omega,zCu hn hp (by unfold posI; exact decide_eq_true (by omega))⟩,(by omega),Weak.mk [] ⟨zE,zE,trivial⟩ rfl⟩
  ·try simp only [sx] at c2
   have hpos : d.all posI = true:= by rw [yO (by omega)] at hp; exact hp
   refine qN<|sReg rfl<|rMv rfl<|zB<|zK<|sReg rfl<|rMv rfl<|zB<|zS<|zY ⟨[(5,.c _),(4,.c _),(0,.c _)],[]⟩ (Weak.mk [] ⟨zE,zE,zE,trivial⟩ rfl)<|qI 2 0 rfl rfl (Nat × Int) (fun ⟨j,s⟩ => [(5,vI j),(4,vI s)]) (fun ⟨j,s⟩ => []) (fun ⟨j,s⟩ => j ≤ d.length ∧ (1 ≤ s) ∧ (s ≤ 4096) ∧ (sizeFrom 1 d = sizeFrom s (d.drop j))) (fun ⟨j,s⟩ => d.length - j) ⟨⟨0,1⟩,⟨by omega,by omega,by omega,rfl⟩,Weak.mk [] ⟨zE,VLe.of_eq (rfl),zE,trivial⟩ rfl⟩ ?_
   rintro ⟨j,s⟩ ⟨hj,hs1,hs2,hs3⟩
   show AWP _ _ _ _ _ ⟨[(5,vI j),(4,vI s)] ++ _,[] ++ _⟩
   refine zK<|sReg rfl<|rMv rfl<|rMv rfl<|zA rfl (zR rfl el33 rfl)<|zA rfl (qM rfl rfl rfl)<|zB<|zH rfl (fun c4 => ?_) (fun c4 => ?_)
   ·try simp only [sx] at c4
    obtain ⟨m,hm⟩ := qX d j (by omega)
    refine zJ<|zK<|zS<|zK<|sReg rfl<|rMv rfl<|rMv rfl<|zA rfl (zO rfl el33 rfl rfl (by omega) (getm (by assumption)))<|zA rfl (zD rfl one3 rfl qC rfl)<|zA rfl (yA rfl rfl rfl)<|zB<|zH rfl (fun c5 => ?_) (fun c5 => ?_)
    ·try simp only [sx] at c5
     have hov : 4096 < s * m:= by have := zHn hs1 (zHm hpos hm); omega
     refine sReg rfl<|rMv rfl<|zB<|zI<|zQ rfl ?_
     rw [zRk (by omega) hpos (zPi hm hs3 hov)]
    ·try simp only [sx] at c5
     have hm1 := zHn hs1 (zHm hpos hm)
     refine zJ<|sReg rfl<|rMv rfl<|rMv rfl<|rMv rfl<|zA rfl (zO rfl el33 rfl rfl (by omega) (getm (by assumption)))<|zA rfl (zD rfl one3 rfl qC rfl)<|zA rfl (det_mul_nw rfl rfl rfl (by have := zHn hs1 (zHm hpos hm); have hm0 := zHm hpos hm; have : s * m ≤ 4096 * 4096 := Int.mul_le_mul (by omega) (by omega) (by omega) (by omega); exact ⟨by omega,by omega⟩))<|rMv rfl<|zB<|sReg rfl<|rMv rfl<|zA rfl (yA rfl rfl rfl)<|zB<|zH rfl (fun c6 => ?_) (fun c6 => ?_)
     ·try simp only [sx] at c6
      refine sReg rfl<|rMv rfl<|zB<|zI<|zQ rfl ?_
      rw [zRk (by omega) hpos (zPi hm hs3 (by omega))]
     ·try simp only [sx] at c6
      refine zJ<|zU rfl<|rMv rfl<|zA rfl (qB rfl rfl rfl ⟨by omega,by omega⟩)<|rMv rfl<|zB ?_
      refine ⟨⟨j + 1,s * m⟩,⟨by omega,by omega,by omega,size_next hm hs3 (by omega)⟩,(by show d.length - (j + 1) < d.length - j; omega),Weak.mk [] ⟨zE,zE,zE,trivial⟩ rfl⟩
   ·try simp only [sx] at c4
    refine qN<|sReg rfl<|rMv rfl<|zB<|zI<|zQ rfl ?_
    rw [dims_ok (by omega) hpos (size_done hs3 (by omega))]
theorem zFj (l : List Int) (hl : l.length ≤ 17592186044416) :
    OwnR cfg 125 [vIs l] 3 1 (l.map fun n => [cI n]):= by
 refine zV Tryz.func125 rfl Tryz.ntmps125 Tryz.results125 rfl ?_
 intro z hz
 refine sReg rfl<|zA rfl (qY 1 rfl rfl)<|zB<|zK<|sReg rfl<|rMv rfl<|qA rfl rfl (zDo rfl el33 rfl rfl) ?_
 rintro _ _ ⟨nb1,rfl,hnil1,rfl⟩
 refine zB<|zH rfl (fun c1 => ?_) (fun c1 => ?_)
 ·try simp only [sx] at c1
  refine sReg rfl<|rMv rfl<|yK _ (kI 3 1)<|zB<|zI<|zQ rfl ?_
  exact ⟨_,rfl,by rw [hnil1 c1]⟩
 ·try simp only [sx] at c1
  refine zJ<|sReg rfl<|qA rfl rfl (zBn rfl el33 zr3 rfl rfl rfl rfl) ?_
  rintro _ _ ⟨sv3,rfl,rfl⟩
  refine rMv rfl<|qA rfl rfl (yI 0 rfl el33 rfl rfl rfl (by simp only [List.length_map,List.length_nil,Nat.zero_add]; omega) (by simp only [List.length_map,List.length_nil,Nat.zero_add]; omega)) ?_
  rintro _ _ ⟨sv4,rfl,rfl⟩
  refine rMv rfl<|zB<|zI<|zQ rfl ?_
  exact ⟨_,rfl,rfl⟩
theorem zIy (b : Bf) (hl : b.Dims.length ≤ 17592186044416) :
    Pur cfg 78 [vBf b] (vBf b):= by
 refine zV Tryz.func78 rfl Tryz.ntmps78 Tryz.results78 rfl ?_
 intro z hz
 refine sReg rfl<|qA rfl rfl (qL rfl rfl) ?_
 rintro _ _ ⟨b1,rfl,rfl⟩
 refine qA rfl rfl (qO [none,none,none,none,none,none,some 1,none] rfl zr42 rfl) ?_
 rintro _ _ ⟨b2,rfl,rfl⟩
 refine zB<|sReg rfl<|zA rfl (zC rfl zHa rfl)<|zA rfl (zD rfl zDp rfl (zF 1 rfl) rfl)<|zA rfl (zP rfl ok125 (OwnR.pur (zFj b.Dims hl)) ⟨zE,rfl,trivial⟩)<|zA rfl (zC rfl zHa rfl)<|zX rfl rfl (zT rfl sz33 rfl rfl rfl (qH 1 rfl rfl))<|zB<|sReg rfl<|zA rfl (zG rfl zMm rfl (zF 1 rfl) rfl)<|zX rfl rfl (zT rfl sz42 rfl rfl rfl (qH 0 rfl rfl))<|zB<|zI<|fin1 (qG zMm rfl (zF 0 rfl) rfl) ?_
 exact rfl
theorem wN (n : Ns) (s : ByteArray) (hn : n.Ok) :
    Pur cfg 29 [vNs n,vS s] (.tup [vBf (bufD n.Bufs s),vB (hasBf n.Bufs s)]):= by
 refine zV Tryz.func29 rfl Tryz.ntmps29 Tryz.results29 rfl ?_
 intro z hz
 have hnb := hn.bufs
 refine sReg rfl<|qA rfl rfl (qL rfl rfl) ?_
 rintro _ _ ⟨b1,rfl,rfl⟩
 refine qA rfl rfl (qO [none,none,none,none,none,none,some 1,none] rfl zr42 rfl) ?_
 rintro _ _ ⟨b2,rfl,rfl⟩
 refine rMv rfl<|zB<|zK<|sReg rfl<|zA rfl (zC rfl wU rfl)<|zA rfl (zD rfl zCm rfl (zF 1 rfl) rfl)<|zA rfl (zR rfl el22 rfl)<|rMv rfl<|zB<|zS<|zY ⟨[(10,.c _),(1,.c _),(2,.c _),(4,.c _),(9,.c _)],[_,_]⟩ (Weak.mk [true,true] ⟨zE,zE,zE,zE,zE,trivial⟩ rfl)<|qI 1 0 rfl rfl (Nat) (fun k => [(10,vI k)]) (fun k => []) (fun k => k ≤ n.Bufs.length ∧ (hasBf (n.Bufs.take k) s = false) ∧ (bufD n.Bufs s = bufD (n.Bufs.drop k) s)) (fun k => n.Bufs.length - k) ⟨0,⟨by omega,rfl,rfl⟩,Weak.mk [true,true] ⟨zE,zE,zE,zE,zE,trivial⟩ rfl⟩ ?_
 rintro k ⟨hk,hp,hq⟩
 refine sReg rfl<|zA rfl (qM rfl rfl rfl)<|zB<|zK<|zH rfl (fun c1 => ?_) (fun c1 => ?_)
 ·try simp only [sx] at c1
  obtain ⟨b,hb⟩ := qX n.Bufs k (by omega)
  refine zJ<|zK<|zS<|sReg rfl<|rMv rfl<|rMv rfl<|zB<|sReg rfl<|zA rfl (zC rfl wU rfl)<|zA rfl (zD rfl zCm rfl (zF 1 rfl) rfl)<|rMv rfl<|zA rfl (zO rfl el22 rfl rfl (by omega) (getm (by assumption)))<|zA rfl (zZ rfl zIi rfl)<|zA rfl (zD rfl one9 rfl qC rfl)<|rMv rfl<|zA rfl (yP rfl rfl rfl)<|zB<|zH rfl (fun c2 => ?_) (fun c2 => ?_)
  ·try simp only [sx] at c2
   refine sReg rfl<|zA rfl (zC rfl wU rfl)<|zA rfl (zD rfl zCm rfl (zF 1 rfl) rfl)<|rMv rfl<|zA rfl (zO rfl el22 rfl rfl (by omega) (getm (by assumption)))<|zA rfl (zG rfl zMm rfl qC rfl)<|zA rfl (zP rfl ok78 (zIy b (hn.dims b (qE hb))) ⟨zE,rfl,trivial⟩)<|zX rfl rfl (zT rfl sz42 rfl rfl rfl (qH 0 rfl rfl))<|rMv rfl<|zB<|zI<|fin2 (qG zMm rfl (zF 0 rfl) rfl) (rs_c rfl) ?_
   rw [hasBf_at hb c2,hq,bufD_at hb c2]; rfl
  ·try simp only [sx] at c2
   refine zJ<|zU rfl<|zA rfl (qB rfl rfl rfl ⟨by omega,by omega⟩)<|rMv rfl<|zB ?_
   refine ⟨k + 1,⟨by omega,zMb hb hp c2,hq.trans (bufD_next hb c2)⟩,(by omega),Weak.mk [true,true] ⟨zE,zE,zE,zE,zE,trivial⟩ rfl⟩
 ·try simp only [sx] at c1
  refine qN<|sReg rfl<|zA rfl (yW [none,none,none,none,none,none,some 1,none] rfl zr42 pl42 rfl rfl)<|zX rfl rfl (zT rfl sz42 rfl rfl rfl (qH 0 rfl rfl))<|rMv rfl<|zB<|zI<|fin2 (qG zMm rfl (zF 0 rfl) rfl) (rs_c rfl) ?_
  rw [yO (by omega)] at hp; rw [hp,bufD_no hp]; rfl
theorem zBd (n : Ns) (s : ByteArray) (hn : n.Ok) :
    Pur cfg 30 [vNs n,vS s] (.tup [vBf (bufD n.Bufs s),vB (hasBf n.Bufs s)]):= by
 refine zV Tryz.func30 rfl Tryz.ntmps30 Tryz.results30 rfl ?_
 intro z hz
 have hnb := hn.bufs
 refine sReg rfl<|qA rfl rfl (qL rfl rfl) ?_
 rintro _ _ ⟨b1,rfl,rfl⟩
 refine qA rfl rfl (qO [none,none,none,none,none,none,some 1,none] rfl zr42 rfl) ?_
 rintro _ _ ⟨b2,rfl,rfl⟩
 refine rMv rfl<|zB<|zK<|sReg rfl<|rMv rfl<|zB<|zS<|zY ⟨[(6,.c _),(1,.c _),(2,.c _),(4,.c _)],[_,_]⟩ (Weak.mk [true,true] ⟨zE,zE,zE,zE,trivial⟩ rfl)<|qI 1 0 rfl rfl (Nat) (fun k => [(6,vI k)]) (fun k => []) (fun k => k ≤ n.Bufs.length ∧ (hasBf (n.Bufs.take k) s = false) ∧ (bufD n.Bufs s = bufD (n.Bufs.drop k) s)) (fun k => n.Bufs.length - k) ⟨0,⟨by omega,rfl,rfl⟩,Weak.mk [true,true] ⟨zE,zE,zE,zE,trivial⟩ rfl⟩ ?_
 rintro k ⟨hk,hp,hq⟩
 refine zK<|sReg rfl<|rMv rfl<|zA rfl (zC rfl wU rfl)<|zA rfl (zD rfl zCm rfl (zF 1 rfl) rfl)<|zA rfl (zR rfl el22 rfl)<|zA rfl (qM rfl rfl rfl)<|zB<|zH rfl (fun c1 => ?_) (fun c1 => ?_)
 ·try simp only [sx] at c1
  obtain ⟨b,hb⟩ := qX n.Bufs k (by omega)
  refine zJ<|zK<|zS<|sReg rfl<|zA rfl (zC rfl wU rfl)<|zA rfl (zD rfl zCm rfl (zF 1 rfl) rfl)<|rMv rfl<|zA rfl (zO rfl el22 rfl rfl (by omega) (getm (by assumption)))<|zA rfl (zZ rfl zIi rfl)<|zA rfl (zD rfl one9 rfl qC rfl)<|rMv rfl<|zA rfl (yP rfl rfl rfl)<|zB<|zH rfl (fun c2 => ?_) (fun c2 => ?_)
  ·try simp only [sx] at c2
   refine sReg rfl<|zA rfl (zC rfl wU rfl)<|zA rfl (zD rfl zCm rfl (zF 1 rfl) rfl)<|rMv rfl<|zA rfl (zO rfl el22 rfl rfl (by omega) (getm (by assumption)))<|zA rfl (zG rfl zMm rfl qC rfl)<|zX rfl rfl (zT rfl sz42 rfl rfl rfl (qH 0 rfl rfl))<|rMv rfl<|zB<|zI<|fin2 (qG zMm rfl (zF 0 rfl) rfl) (rs_c rfl) ?_
   rw [hasBf_at hb c2,hq,bufD_at hb c2]; rfl
  ·try simp only [sx] at c2
   refine zJ<|zU rfl<|rMv rfl<|zA rfl (qB rfl rfl rfl ⟨by omega,by omega⟩)<|rMv rfl<|zB ?_
   refine ⟨k + 1,⟨by omega,zMb hb hp c2,hq.trans (bufD_next hb c2)⟩,(by omega),Weak.mk [true,true] ⟨zE,zE,zE,zE,trivial⟩ rfl⟩
 ·try simp only [sx] at c1
  refine qN<|sReg rfl<|zA rfl (yW [none,none,none,none,none,none,some 1,none] rfl zr42 pl42 rfl rfl)<|zX rfl rfl (zT rfl sz42 rfl rfl rfl (qH 0 rfl rfl))<|rMv rfl<|zB<|zI<|fin2 (qG zMm rfl (zF 0 rfl) rfl) (rs_c rfl) ?_
  rw [yO (by omega)] at hp; rw [hp,bufD_no hp]; rfl
theorem zOo (n : Nat) (ih : n ≠ 0 → ∀ (l : List St) (x : Int),stsWt l ≤ 1073741824 → x = ((n - 1 : Nat) : Int) → Pur cfg 68 [vSts l,vI x] (vB (withinT (n - 1) l))) (l : List St) (x : Int) (hn : n ≤ 100) (hl : stsWt l ≤ 1073741824) (hx : x = n) :
    Pur cfg 68 [vSts l,vI x] (vB (withinT n l)):= by
 refine zV Tryz.func68 rfl Tryz.ntmps68 Tryz.results68 rfl ?_
 intro z hz
 have hll := wA l
 refine sReg rfl<|rMv rfl<|zB<|zK<|sReg rfl<|rMv rfl<|zA rfl (zR rfl el23 rfl)<|rMv rfl<|zB<|zS<|zY ⟨[(8,.c _),(0,.c _),(1,.c _),(7,.c _)],[]⟩ (Weak.mk [] ⟨zE,zE,zE,zE,trivial⟩ rfl)<|qI 1 0 rfl rfl (Nat) (fun k => [(8,vI k)]) (fun k => []) (fun k => k ≤ l.length ∧ (withinG n (l.take k) = true)) (fun k => l.length - k) ⟨0,⟨by omega,by cases n <;> rfl⟩,Weak.mk [] ⟨zE,zE,zE,zE,trivial⟩ rfl⟩ ?_
 rintro k ⟨hk,hp⟩
 refine sReg rfl<|zA rfl (qM rfl rfl rfl)<|zB<|zK<|zH rfl (fun c1 => ?_) (fun c1 => ?_)
 ·try simp only [sx] at c1
  obtain ⟨s,hs⟩ := qX l k (by omega)
  refine zJ<|zK<|zS<|sReg rfl<|rMv rfl<|rMv rfl<|zB<|sReg rfl<|rMv rfl<|zA rfl (qM rfl rfl rfl)<|rMv rfl<|rLz [] rfl gv1 trivial (fun g4_2 => zN rfl rfl) rfl<|rLz [] rfl gv1 trivial (fun g4_2 => zN rfl rfl) rfl<|rLz [(14,_),(15,_)] rfl gv1 ⟨rfl,rfl,rfl,rfl,trivial⟩ (fun g4_2 => zO rfl el23 rfl rfl (by omega) (wW hs)) rfl<|rLz [(16,_)] rfl gv1 ⟨rfl,rfl,trivial⟩ (fun g4_2 => zZ rfl zAn rfl) rfl<|rLz [(17,_)] rfl gv1 ⟨rfl,rfl,trivial⟩ (fun g4_2 => zD rfl zAa rfl qC rfl) rfl<|rLz [] rfl gv1 trivial (fun g4_2 => zN rfl rfl) rfl<|rLz [(19,_)] rfl gv1 ⟨rfl,rfl,trivial⟩ (fun g4_2 => yD rfl rfl rfl ⟨by omega,by omega⟩) rfl<|rLz [(18,_),(20,_)] rfl gv1 ⟨rfl,rfl,rfl,rfl,trivial⟩ (fun g4_2 => zP rfl ok68 (ih (by simp only [Lz,cond_true,cond_false,Bool.and_eq_true,Bool.or_eq_true,Bool.not_eq_true',Bool.not_eq_false',Bool.or_eq_false_iff,Bool.and_eq_false_iff,decide_eq_true_eq,decide_eq_false_iff_not,Bool.not_eq_true,Bool.not_eq_false] at g4_2; omega) s.Body _ (by have := St.body_wt s; have := yY (qE hs); omega) (by simp only [Lz,cond_true,cond_false,Bool.and_eq_true,Bool.or_eq_true,Bool.not_eq_true',Bool.not_eq_false',Bool.or_eq_false_iff,Bool.and_eq_false_iff,decide_eq_true_eq,decide_eq_false_iff_not,Bool.not_eq_true,Bool.not_eq_false] at g4_2; omega)) ⟨zE,rfl,zE,rfl,trivial⟩) rfl<|rLz [(21,_)] rfl gv1 ⟨rfl,rfl,trivial⟩ (fun g4_2 => qT rfl rfl) rfl<|zA rfl (yB rfl rfl rfl rfl (fun h => (lzf h)))<|zB<|zH rfl (fun c2 => ?_) (fun c2 => ?_)
  ·have hno := within_no hs hx c2
   refine sReg rfl<|rMv rfl<|zB<|zI<|zQ rfl ?_
   rw [hno]
  ·have hyes := within_yes hx c2
   refine zJ<|zU rfl<|zA rfl (qB rfl rfl rfl ⟨by omega,by omega⟩)<|rMv rfl<|zB ?_
   refine ⟨k + 1,⟨by omega,withinG_next hs hp hyes.1 hyes.2⟩,(by omega),Weak.mk [] ⟨zE,zE,zE,zE,trivial⟩ rfl⟩
 ·try simp only [sx] at c1
  refine qN<|sReg rfl<|rMv rfl<|zB<|zI<|zQ rfl ?_
  rw [yO (by omega),withinG_eq] at hp; rw [hp]
theorem zQl (n : Nat) (l : List St) (x : Int) (hn : n ≤ 100) (hl : stsWt l ≤ 1073741824) (hx : x = n) : Pur cfg 68 [vSts l,vI x] (vB (withinT n l)):= by
  induction n generalizing l x with
  | zero => exact zOo 0 (fun h => absurd rfl h) l x hn hl hx
  | succ n ih => exact zOo (n + 1) (fun _ l x h1 h2 => ih l x (by omega) h1 (by omega)) l x hn hl hx
theorem depth_step (n : Nat) (ih : n ≠ 0 → ∀ (l : List St) (x : Int),stsWt l ≤ 1073741824 → x = ((n - 1 : Nat) : Int) → Pur cfg 62 [vSts l,vI x] (vI (depS (n - 1) l))) (l : List St) (x : Int) (hn : n ≤ 100) (hl : stsWt l ≤ 1073741824) (hx : x = n) :
    Pur cfg 62 [vSts l,vI x] (vI (depS n l)):= by
 refine zV Tryz.func62 rfl Tryz.ntmps62 Tryz.results62 rfl ?_
 intro z hz
 have hll := wA l
 refine sReg rfl<|rMv rfl<|zB<|sReg rfl<|rMv rfl<|zB<|zK<|sReg rfl<|rMv rfl<|zB<|zS<|zY ⟨[(5,.c _),(6,.c _),(0,.c _),(1,.c _)],[]⟩ (Weak.mk [] ⟨zE,zE,zE,zE,trivial⟩ rfl)<|qI 2 0 rfl rfl (Nat × Int) (fun ⟨k,d⟩ => [(5,vI d),(6,vI k)]) (fun ⟨k,d⟩ => []) (fun ⟨k,d⟩ => k ≤ l.length ∧ 0 ≤ d ∧ d ≤ 100 ∧ d = depS n (l.take k)) (fun ⟨k,d⟩ => l.length - k) ⟨⟨0,0⟩,⟨by omega,by omega,by omega,by cases n <;> rfl⟩,Weak.mk [] ⟨VLe.of_eq (rfl),zE,zE,zE,trivial⟩ rfl⟩ ?_
 rintro ⟨k,d⟩ ⟨hk,hd0,hd1,hd⟩
 show AWP _ _ _ _ _ ⟨[(5,vI d),(6,vI k)] ++ _,[] ++ _⟩
 refine zK<|sReg rfl<|rMv rfl<|rMv rfl<|zA rfl (zR rfl el23 rfl)<|zA rfl (qM rfl rfl rfl)<|rMv rfl<|rLz [] rfl gv1 trivial (fun g3_4 => zN rfl rfl) rfl<|rLz [(12,_)] rfl gv1 ⟨rfl,rfl,trivial⟩ (fun g3_4 => yA rfl rfl rfl) rfl<|zA rfl (qK rfl rfl rfl (fun h => h) rfl)<|zB<|zH rfl (fun c1 => ?_) (fun c1 => ?_)
 ·try simp only [sx] at c1
  obtain ⟨s,hs⟩ := qX l k (by omega)
  have hle := depS_le (n - 1) s.Body
  refine zJ<|zK<|zS<|zU rfl<|rMv rfl<|rMv rfl<|rMv rfl<|zA rfl (zO rfl el23 rfl rfl (by omega) (wW hs))<|zA rfl (zZ rfl zAn rfl)<|zA rfl (zD rfl zAa rfl qC rfl)<|rMv rfl<|zA rfl (yD rfl rfl rfl ⟨by omega,by omega⟩)<|zA rfl (zP rfl ok62 (ih (by omega) s.Body _ (by have := St.body_wt s; have := yY (qE hs); omega) (by omega)) ⟨zE,rfl,zE,rfl,trivial⟩)<|zA rfl (qB rfl rfl rfl ⟨by omega,by omega⟩)<|zA rfl (zJb rfl rfl rfl)<|rMv rfl<|zB<|zU rfl<|rMv rfl<|zA rfl (qB rfl rfl rfl ⟨by omega,by omega⟩)<|rMv rfl<|zB ?_
  refine ⟨⟨k + 1,max d (1 + depS (n - 1) s.Body)⟩,⟨by omega,by omega,by omega,by rw [depS_next hs (by omega),← hd]⟩,(by dsimp only; omega),Weak.mk [] ⟨zE,zE,zE,zE,trivial⟩ rfl⟩
 ·try simp only [sx] at c1
  refine qN<|sReg rfl<|rMv rfl<|rMv rfl<|zB<|zI<|zQ rfl ?_
  exact congrArg vI (depS_stop hx hd (by omega))
theorem ref30_depth (n : Nat) (l : List St) (x : Int) (hn : n ≤ 100) (hl : stsWt l ≤ 1073741824) (hx : x = n) : Pur cfg 62 [vSts l,vI x] (vI (depS n l)):= by
  induction n generalizing l x with
  | zero => exact depth_step 0 (fun h => absurd rfl h) l x hn hl hx
  | succ n ih => exact depth_step (n + 1) (fun _ l x h1 h2 => ih l x (by omega) h1 (by omega)) l x hn hl hx
theorem zBi (l : List St) (ih : ∀ s,s ∈ l → ∀ (m : Nat) (x : Int),m ≤ 2147483648 → x = m → Pur cfg 69 [vSts s.Body,vI x] (vI (numB s.Body m))) (m : Nat) (x : Int) (hl : stsWt l ≤ 1073741824) (hm : m ≤ 2147483648) (hx : x = m) :
    Pur cfg 69 [vSts l,vI x] (vI (numB l m)):= by
 refine zV Tryz.func69 rfl Tryz.ntmps69 Tryz.results69 rfl ?_
 intro z hz
 have hll := wA l
 have hNw := zEh l
 refine sReg rfl<|rMv rfl<|zB<|sReg rfl<|rMv rfl<|zA rfl (zR rfl el23 rfl)<|rMv rfl<|zB<|zK<|sReg rfl<|rMv rfl<|zA rfl (zR rfl el23 rfl)<|rMv rfl<|zB<|zS<|zY ⟨[(11,.c _),(5,.c _),(0,.c _),(1,.c _),(10,.c _)],[]⟩ (Weak.mk [] ⟨zE,zE,zE,zE,zE,trivial⟩ rfl)<|qI 2 0 rfl rfl (Nat × Nat) (fun ⟨k,n⟩ => [(11,vI k),(5,vI n)]) (fun ⟨k,n⟩ => []) (fun ⟨k,n⟩ => k ≤ l.length ∧ (n ≤ 4294967296) ∧ (numB l m = numL (l.drop k) m n)) (fun ⟨k,n⟩ => l.length - k) ⟨⟨0,l.length⟩,⟨by omega,by omega,rfl⟩,Weak.mk [] ⟨zE,VLe.of_eq (congrArg vI (by simp)),zE,zE,zE,trivial⟩ rfl⟩ ?_
 rintro ⟨k,n⟩ ⟨hk,hn,hp⟩
 show AWP _ _ _ _ _ ⟨[(11,vI k),(5,vI n)] ++ _,[] ++ _⟩
 refine sReg rfl<|zA rfl (qM rfl rfl rfl)<|zB<|zK<|zH rfl (fun c1 => ?_) (fun c1 => ?_)
 ·try simp only [sx] at c1
  obtain ⟨s,hs⟩ := qX l k (by omega)
  refine zJ<|zK<|zS<|sReg rfl<|rMv rfl<|rMv rfl<|zB<|zK<|sReg rfl<|rMv rfl<|rMv rfl<|zA rfl (yA rfl rfl rfl)<|zB<|zH rfl (fun c2 => ?_) (fun c2 => ?_)
  ·try simp only [sx] at c2
   refine qN<|sReg rfl<|rMv rfl<|rMv rfl<|zB<|zI<|zQ rfl ?_
   exact congrArg vI (by rw [← num_end hp (by omega)])
  ·try simp only [sx] at c2
   have hsum := num_sum hs hp (by omega)
   have hbl := numB_le s.Body (m - n)
   have hsn := zJm (qE hs)
   have hse := zIc s
   refine zJ<|zU rfl<|rMv rfl<|rMv rfl<|rMv rfl<|zA rfl (zO rfl el23 rfl rfl (by omega) (wW hs))<|zA rfl (zZ rfl zAn rfl)<|zA rfl (zD rfl zAa rfl qC rfl)<|rMv rfl<|rMv rfl<|zA rfl (yD rfl rfl rfl ⟨by omega,by omega⟩)<|zA rfl (zP rfl ok69 (ih s (qE hs) (m - n) _ (by omega) (by omega)) ⟨zE,rfl,zE,rfl,trivial⟩)<|zA rfl (qB rfl rfl rfl ⟨by omega,by omega⟩)<|rMv rfl<|zB<|zU rfl<|zA rfl (qB rfl rfl rfl ⟨by omega,by omega⟩)<|rMv rfl<|zB ?_
   refine ⟨⟨k + 1,n + numB s.Body (m - n)⟩,⟨by omega,by omega,num_next hs hp (by omega)⟩,(by show l.length - (k + 1) < l.length - k; omega),Weak.mk [] ⟨zE,VLe.of_eq (congrArg vI (by omega)),zE,zE,zE,trivial⟩ rfl⟩
 ·try simp only [sx] at c1
  refine qN<|sReg rfl<|rMv rfl<|rMv rfl<|zB<|zI<|zQ rfl ?_
  exact congrArg vI (by rw [← num_end hp (by omega)])
theorem zEu (s : St) : ∀ (m : Nat) (x : Int),stsWt s.Body ≤ 1073741824 → m ≤ 2147483648 → x = m → Pur cfg 69 [vSts s.Body,vI x] (vI (numB s.Body m)):= by
  induction s using St.ind with
  | _ s ih => exact fun m x hl hm hx => zBi s.Body (fun a ha m x h1 h2 => ih a ha m x (by have := St.body_wt a; have := yY ha; omega) h1 h2) m x hl hm hx
theorem zKc (l : List St) (m : Nat) (x : Int) (hl : stsWt l ≤ 1073741824) (hm : m ≤ 2147483648) (hx : x = m) : Pur cfg 69 [vSts l,vI x] (vI (numB l m)) :=
  zBi l (fun a ha m x h1 h2 => zEu a m x (by have := St.body_wt a; have := yY ha; omega) h1 h2) m x hl hm hx
theorem zGg (l : List St) (ih : ∀ s,s ∈ l → ∀ (m : Nat) (x : Int),m ≤ 2147483648 → x = m → Pur cfg 63 [vSts s.Body,vI x] (vI (numB s.Body m))) (m : Nat) (x : Int) (hl : stsWt l ≤ 1073741824) (hm : m ≤ 2147483648) (hx : x = m) :
    Pur cfg 63 [vSts l,vI x] (vI (numB l m)):= by
 refine zV Tryz.func63 rfl Tryz.ntmps63 Tryz.results63 rfl ?_
 intro z hz
 have hll := wA l
 have hNw := zEh l
 refine sReg rfl<|rMv rfl<|zB<|sReg rfl<|rMv rfl<|zA rfl (zR rfl el23 rfl)<|rMv rfl<|zB<|zK<|sReg rfl<|rMv rfl<|zB<|zS<|zY ⟨[(6,.c _),(5,.c _),(0,.c _),(1,.c _)],[]⟩ (Weak.mk [] ⟨zE,zE,zE,zE,trivial⟩ rfl)<|qI 2 0 rfl rfl (Nat × Nat) (fun ⟨k,n⟩ => [(6,vI k),(5,vI n)]) (fun ⟨k,n⟩ => []) (fun ⟨k,n⟩ => k ≤ l.length ∧ (n ≤ 4294967296) ∧ (numB l m = numL (l.drop k) m n)) (fun ⟨k,n⟩ => l.length - k) ⟨⟨0,l.length⟩,⟨by omega,by omega,rfl⟩,Weak.mk [] ⟨zE,VLe.of_eq (congrArg vI (by simp)),zE,zE,trivial⟩ rfl⟩ ?_
 rintro ⟨k,n⟩ ⟨hk,hn,hp⟩
 show AWP _ _ _ _ _ ⟨[(6,vI k),(5,vI n)] ++ _,[] ++ _⟩
 refine zK<|sReg rfl<|rMv rfl<|rMv rfl<|zA rfl (zR rfl el23 rfl)<|zA rfl (qM rfl rfl rfl)<|rMv rfl<|rLz [] rfl gv1 trivial (fun g3_4 => zN rfl rfl) rfl<|rLz [] rfl gv1 trivial (fun g3_4 => zN rfl rfl) rfl<|rLz [(14,_),(15,_)] rfl gv1 ⟨rfl,rfl,rfl,rfl,trivial⟩ (fun g3_4 => kY rfl rfl rfl) rfl<|zA rfl (qK rfl rfl rfl (fun h => h) rfl)<|zB<|zH rfl (fun c1 => ?_) (fun c1 => ?_)
 ·try simp only [sx] at c1
  obtain ⟨s,hs⟩ := qX l k (by omega)
  have hsum := num_sum hs hp (by omega)
  have hbl := numB_le s.Body (m - n)
  have hsn := zJm (qE hs)
  have hse := zIc s
  refine zJ<|zK<|zS<|zU rfl<|rMv rfl<|rMv rfl<|rMv rfl<|zA rfl (zO rfl el23 rfl rfl (by omega) (wW hs))<|zA rfl (zZ rfl zAn rfl)<|zA rfl (zD rfl zAa rfl qC rfl)<|rMv rfl<|rMv rfl<|zA rfl (yD rfl rfl rfl ⟨by omega,by omega⟩)<|zA rfl (zJb rfl rfl rfl)<|zA rfl (zP rfl ok63 (ih s (qE hs) (m - n) _ (by omega) (by omega)) ⟨zE,rfl,zE,rfl,trivial⟩)<|zA rfl (qB rfl rfl rfl ⟨by omega,by omega⟩)<|rMv rfl<|zB<|zU rfl<|rMv rfl<|zA rfl (qB rfl rfl rfl ⟨by omega,by omega⟩)<|rMv rfl<|zB ?_
  refine ⟨⟨k + 1,n + numB s.Body (m - n)⟩,⟨by omega,by omega,num_next hs hp (by omega)⟩,(by show l.length - (k + 1) < l.length - k; omega),Weak.mk [] ⟨zE,VLe.of_eq (congrArg vI (by omega)),zE,zE,trivial⟩ rfl⟩
 ·try simp only [sx] at c1
  refine qN<|sReg rfl<|rMv rfl<|rMv rfl<|zB<|zI<|zQ rfl ?_
  exact congrArg vI (by rw [← num_end hp (by omega)])
theorem zPo (s : St) : ∀ (m : Nat) (x : Int),stsWt s.Body ≤ 1073741824 → m ≤ 2147483648 → x = m → Pur cfg 63 [vSts s.Body,vI x] (vI (numB s.Body m)):= by
  induction s using St.ind with
  | _ s ih => exact fun m x hl hm hx => zGg s.Body (fun a ha m x h1 h2 => ih a ha m x (by have := St.body_wt a; have := yY ha; omega) h1 h2) m x hl hm hx
theorem ref30_size (l : List St) (m : Nat) (x : Int) (hl : stsWt l ≤ 1073741824) (hm : m ≤ 2147483648) (hx : x = m) : Pur cfg 63 [vSts l,vI x] (vI (numB l m)) :=
  zGg l (fun a ha m x h1 h2 => zPo a m x (by have := St.body_wt a; have := yY ha; omega) h1 h2) m x hl hm hx
theorem zIr (l : List Bf) (c : C) (p : Bf → Bool) (hl : l.length ≤ 4294967296) (hc : ∀ x,x ∈ l → FnPur cfg c [vBf x] (vB (p x))) :
    Pur cfg 158 [vBfs l,.c c] (vI (idxOf p l)):= by
 refine zV Tryz.func158 rfl Tryz.ntmps158 Tryz.results158 rfl ?_
 intro z hz
 refine sReg rfl<|rMv rfl<|zB<|zK<|sReg rfl<|rMv rfl<|zA rfl (zR rfl el22 rfl)<|rMv rfl<|zB<|zS<|zY ⟨[(8,.c _),(0,.c _),(1,.c _),(7,.c _)],[]⟩ (Weak.mk [] ⟨zE,zE,zE,zE,trivial⟩ rfl)<|qI 1 0 rfl rfl (Nat) (fun k => [(8,vI k)]) (fun k => []) (fun k => k ≤ l.length ∧ ((l.take k).any p = false)) (fun k => l.length - k) ⟨0,⟨by omega,rfl⟩,Weak.mk [] ⟨zE,zE,zE,zE,trivial⟩ rfl⟩ ?_
 rintro k ⟨hk,hp⟩
 refine sReg rfl<|zA rfl (qM rfl rfl rfl)<|zB<|zK<|zH rfl (fun c1 => ?_) (fun c1 => ?_)
 ·try simp only [sx] at c1
  obtain ⟨x,hx⟩ := qX l k (by omega)
  refine zJ<|zK<|zS<|sReg rfl<|rMv rfl<|rMv rfl<|zB<|sReg rfl<|rMv rfl<|rMv rfl<|rMv rfl<|zA rfl (zO rfl el22 rfl rfl (by omega) (getm (by assumption)))<|zA rfl (zG rfl zMm rfl qC rfl)<|zA rfl (wD rfl rfl (hc _ (qE hx)) ⟨zE,rfl,trivial⟩)<|zB<|zH rfl (fun c2 => ?_) (fun c2 => ?_)
  ·try simp only [sx] at c2
   refine sReg rfl<|rMv rfl<|rMv rfl<|zB<|zI<|zQ rfl ?_
   rw [zNu hx c2 hp]
  ·try simp only [sx] at c2
   refine zJ<|zU rfl<|zA rfl (qB rfl rfl rfl ⟨by omega,by omega⟩)<|rMv rfl<|zB ?_
   refine ⟨k + 1,⟨by omega,zOl hx hp c2⟩,(by omega),Weak.mk [] ⟨zE,zE,zE,zE,trivial⟩ rfl⟩
 ·try simp only [sx] at c1
  refine qN<|sReg rfl<|rMv rfl<|zB<|zI<|zQ rfl ?_
  rw [zHs (by rw [yO (by omega)] at hp; exact hp)]
theorem zFr (l : List Bf) (c : C) (p : Bf → Bool) (hl : l.length ≤ 4294967296) (hc : ∀ x,x ∈ l → FnPur cfg c [vBf x] (vB (p x))) :
    Pur cfg 121 [vBfs l,.c c] (vB (l.any p)):= by
 refine zV Tryz.func121 rfl Tryz.ntmps121 Tryz.results121 rfl ?_
 intro z hz
 refine sReg rfl<|rMv rfl<|zB<|sReg rfl<|rMv rfl<|rMv rfl<|zA rfl (zP rfl ok158 (zIr l c p hl hc) ⟨zE,rfl,zE,rfl,trivial⟩)<|zA rfl (kZ rfl rfl rfl)<|rMv rfl<|zB<|zI<|zQ rfl ?_
 rw [zKi]
theorem checkBuffers_1 (x b : Bf) :
    Pur cfg 122 [vBf x,.c (.iptr b.cells)] (vB (decide (x.Name = b.Name))):= by
 refine zV Tryz.func122 rfl Tryz.ntmps122 Tryz.results122 rfl ?_
 intro z hz
 refine sReg rfl<|qA rfl rfl (qL rfl rfl) ?_
 rintro _ _ ⟨b1,rfl,rfl⟩
 refine rMv rfl<|zB<|sReg rfl<|zA rfl (zC rfl zIi rfl)<|zA rfl (zD rfl one9 rfl (zF 0 rfl) rfl)<|zA rfl (zZ rfl zIi rfl)<|zA rfl (zD rfl one9 rfl qC rfl)<|zA rfl (yP rfl rfl rfl)<|rMv rfl<|zB<|zI<|zQ rfl ?_
 exact rfl
theorem zGs (l : List Bf) (hl : l.length ≤ 4294967296) (hd : ∀ b,b ∈ l → b.Dims.length ≤ 17592186044416) :
    Pur cfg 70 [vBfs l] (vI (bufsErr [] l)):= by
 refine zV Tryz.func70 rfl Tryz.ntmps70 Tryz.results70 rfl ?_
 intro z hz
 refine sReg rfl<|rMv rfl<|zB<|zK<|sReg rfl<|rMv rfl<|zA rfl (zR rfl el22 rfl)<|rMv rfl<|zB<|zS<|zY ⟨[(8,.c _),(0,.c _),(7,.c _)],[]⟩ (Weak.mk [] ⟨zE,zE,zE,trivial⟩ rfl)<|qI 1 0 rfl rfl (Nat) (fun k => [(8,vI k)]) (fun k => []) (fun k => k ≤ l.length ∧ (bufsErr [] l = bufsErr (l.take k) (l.drop k))) (fun k => l.length - k) ⟨0,⟨by omega,rfl⟩,Weak.mk [] ⟨zE,zE,zE,trivial⟩ rfl⟩ ?_
 rintro k ⟨hk,hp⟩
 refine sReg rfl<|zA rfl (qM rfl rfl rfl)<|zB<|zK<|zH rfl (fun c1 => ?_) (fun c1 => ?_)
 ·try simp only [sx] at c1
  obtain ⟨b,hb⟩ := qX l k (by omega)
  refine zJ<|zK<|zS<|sReg rfl<|rMv rfl<|rMv rfl<|zB<|sReg rfl<|rMv rfl<|rMv rfl<|zA rfl (zO rfl el22 rfl rfl (by omega) (getm (by assumption)))<|zA rfl (zG rfl zMm rfl qC rfl)<|qA rfl rfl (qO [none,none,none,none,none,none,some 1,none] rfl zr42 rfl) ?_
  rintro _ _ ⟨b1,rfl,rfl⟩
  refine zX rfl rfl (zT rfl sz42 rfl rfl rfl (qH 0 rfl rfl))<|yK _ (yQ 0 rfl 4 _ PLe.ptr)<|zB<|zK<|zS<|sReg rfl<|zA rfl (zZ rfl zIi rfl)<|zA rfl (zD rfl one9 rfl qC rfl)<|zA rfl (zP rfl ok66 (zDb _) ⟨zE,rfl,trivial⟩)<|zA rfl (qT rfl rfl)<|rMv rfl<|zB<|zH rfl (fun c2 => ?_) (fun c2 => ?_)
  ·try simp only [sx] at c2
   refine sReg rfl<|rMv rfl<|zB<|zI<|zQ rfl ?_
   rw [wR hb hp (by rw [bfErr_7 c2]; decide),bfErr_7 c2]
  ·try simp only [sx] at c2
   refine sReg rfl<|rMv rfl<|rMv rfl<|zA rfl (det_cut_take rfl el22 rfl rfl (by omega))<|zA rfl (zAj rfl rfl rfl rfl rfl)<|zA rfl (zP rfl ok121 (zFr (l.take k) _ (fun x => decide (x.Name = b.Name)) (by rw [List.length_take]; omega) (fun x _ => FnPur.of_pur (first := []) (cap := [.iptr b.cells]) ok122 (checkBuffers_1 x b))) ⟨zE,rfl,zE,rfl,trivial⟩)<|rMv rfl<|zB<|zH rfl (fun c3 => ?_) (fun c3 => ?_)
   ·try simp only [sx] at c3
    refine sReg rfl<|rMv rfl<|zB<|zI<|zQ rfl ?_
    rw [wR hb hp (by rw [bfErr_8 c2 c3]; decide),bfErr_8 c2 c3]
   ·try simp only [sx] at c3
    refine sReg rfl<|zA rfl (zZ rfl zKl rfl)<|zA rfl (zG rfl yH rfl qC rfl)<|zA rfl (zP rfl ok123 (zBh b.T) ⟨zE,rfl,trivial⟩)<|zA rfl (qR rfl rfl rfl)<|rMv rfl<|zB<|zH rfl (fun c4 => ?_) (fun c4 => ?_)
    ·try simp only [sx] at c4
     refine sReg rfl<|rMv rfl<|zB<|zI<|zQ rfl ?_
     rw [wR hb hp (by rw [zOj c2 c3 (tyErr_ne c4)]; decide),zOj c2 c3 (tyErr_ne c4)]
    ·try simp only [sx] at c4
     refine zJ<|zK<|sReg rfl<|zA rfl (zZ rfl zHa rfl)<|zA rfl (zD rfl zDp rfl qC rfl)<|zA rfl (zP rfl ok111 (shape_Validate b.Dims (hd b (qE hb))) ⟨zE,rfl,trivial⟩)<|rMv rfl<|zB<|sReg rfl<|rMv rfl<|zA rfl (qR rfl rfl rfl)<|zB<|zH rfl (fun c5 => ?_) (fun c5 => ?_)
     ·try simp only [sx] at c5
      refine sReg rfl<|rMv rfl<|rMv rfl<|zB<|zI<|zQ rfl ?_
      rw [wR hb hp (by rw [bfErr_d c2 c3 (zHj c4) c5]; exact c5),bfErr_d c2 c3 (zHj c4) c5]
     ·try simp only [sx] at c5
      refine zJ<|sReg rfl<|zA rfl (zZ rfl zRb rfl)<|zA rfl (zD rfl one3 rfl qC rfl)<|zA rfl (qM rfl rfl rfl)<|rMv rfl<|rLz [] rfl gv1 trivial (fun g14_3 => zZ rfl zRb rfl) rfl<|rLz [(41,_)] rfl gv1 ⟨rfl,rfl,trivial⟩ (fun g14_3 => zD rfl one3 rfl qC rfl) rfl<|rLz [(42,_)] rfl gv1 ⟨rfl,rfl,trivial⟩ (fun g14_3 => yA rfl rfl rfl) rfl<|zA rfl (yB rfl rfl rfl rfl (fun h => (lzf h)))<|zB<|zH rfl (fun c6 => ?_) (fun c6 => ?_)
      ·try simp only [sx] at c6
       refine sReg rfl<|rMv rfl<|zB<|zI<|zQ rfl ?_
       rw [wR hb hp (by rw [bfErr_u c2 c3 (zHj c4) c5 (by omega)]; decide),bfErr_u c2 c3 (zHj c4) c5 (by omega)]
      ·try simp only [sx] at c6
       refine zJ<|zU rfl<|zA rfl (qB rfl rfl rfl ⟨by omega,by omega⟩)<|rMv rfl<|zB ?_
       refine ⟨k + 1,⟨by omega,zNb hb hp (bfErr_0 c2 c3 (zHj c4) c5 (by omega))⟩,(by omega),Weak.mk [] ⟨zE,zE,zE,trivial⟩ rfl⟩
 ·try simp only [sx] at c1
  refine qN<|sReg rfl<|rMv rfl<|zB<|zI<|zQ rfl ?_
  rw [zRu hp (by omega)]
theorem ref30_bufs (n : Ns) (hn : n.Ok) :
    Pur cfg 64 [vNs n] (vI (bufsErr [] n.Bufs)):= by
 refine zV Tryz.func64 rfl Tryz.ntmps64 Tryz.results64 rfl ?_
 intro z hz
 have hnb := hn.bufs
 refine sReg rfl<|qA rfl rfl (qL rfl rfl) ?_
 rintro _ _ ⟨b1,rfl,rfl⟩
 refine rMv rfl<|zB<|zK<|sReg rfl<|rMv rfl<|zB<|zS<|zY ⟨[(3,.c _),(1,.c _)],[_]⟩ (Weak.mk [true] ⟨zE,zE,trivial⟩ rfl)<|qI 1 0 rfl rfl (Nat) (fun k => [(3,vI k)]) (fun k => []) (fun k => k ≤ n.Bufs.length ∧ (bufsErr [] n.Bufs = bufsErr (n.Bufs.take k) (n.Bufs.drop k))) (fun k => n.Bufs.length - k) ⟨0,⟨by omega,rfl⟩,Weak.mk [true] ⟨zE,zE,trivial⟩ rfl⟩ ?_
 rintro k ⟨hk,hp⟩
 refine zK<|sReg rfl<|rMv rfl<|zA rfl (zC rfl wU rfl)<|zA rfl (zD rfl zCm rfl (zF 0 rfl) rfl)<|zA rfl (zR rfl el22 rfl)<|zA rfl (qM rfl rfl rfl)<|zB<|zH rfl (fun c1 => ?_) (fun c1 => ?_)
 ·try simp only [sx] at c1
  obtain ⟨b,hb⟩ := qX n.Bufs k (by omega)
  refine zJ<|zK<|zS<|sReg rfl<|zA rfl (zC rfl wU rfl)<|zA rfl (zD rfl zCm rfl (zF 0 rfl) rfl)<|rMv rfl<|zA rfl (zO rfl el22 rfl rfl (by omega) (getm (by assumption)))<|zA rfl (zG rfl zMm rfl qC rfl)<|qA rfl rfl (qO [none,none,none,none,none,none,some 1,none] rfl zr42 rfl) ?_
  rintro _ _ ⟨b2,rfl,rfl⟩
  refine zX rfl rfl (zT rfl sz42 rfl rfl rfl (qH 0 rfl rfl))<|zB<|zK<|sReg rfl<|zA rfl (zC rfl zIi rfl)<|zA rfl (zD rfl one9 rfl (zF 0 rfl) rfl)<|zA rfl (zP rfl ok50 (zEa _) ⟨zE,rfl,trivial⟩)<|zA rfl (qT rfl rfl)<|zB<|zH rfl (fun c2 => ?_) (fun c2 => ?_)
  ·try simp only [sx] at c2
   refine sReg rfl<|rMv rfl<|zB<|zI<|zQ rfl ?_
   rw [wR hb hp (by rw [bfErr_7 c2]; decide),bfErr_7 c2]
  ·try simp only [sx] at c2
   refine zJ<|zK<|sReg rfl<|rMv rfl<|zB<|zS<|zY ⟨[(5,.c _),(1,.c _),(3,.c _),(4,.c _)],[_,_]⟩ (Weak.mk [true,true] ⟨zE,zE,zE,zE,trivial⟩ rfl)<|qI 1 0 rfl rfl (Nat) (fun j => [(5,vI j)]) (fun j => []) (fun j => j ≤ k ∧ hasBf (n.Bufs.take j) b.Name = false) (fun j => k - j) ⟨0,⟨by omega,rfl⟩,Weak.mk [true,true] ⟨zE,zE,zE,zE,trivial⟩ rfl⟩ ?_
   rintro j ⟨hj,hq⟩
   refine zK<|sReg rfl<|rMv rfl<|rMv rfl<|zA rfl (qM rfl rfl rfl)<|zB<|zH rfl (fun c3 => ?_) (fun c3 => ?_)
   ·try simp only [sx] at c3
    obtain ⟨y,hy⟩ := qX n.Bufs j (by omega)
    refine zJ<|zK<|zS<|zK<|yC 9 mixed (by kernel_rfl) rfl rfl<|zM rfl rfl (zC rfl wU rfl)<|zM rfl rfl (zD rfl zCm rfl (zF 1 rfl) rfl)<|zM rfl rfl (zN rfl rfl)<|zM rfl rfl (zO rfl el22 rfl rfl (by omega) (getm (by assumption)))<|zM rfl rfl (zZ rfl zIi rfl)<|zM rfl rfl (zD rfl one9 rfl qC rfl)<|zM rfl rfl (zC rfl zIi rfl)<|zM rfl rfl (zD rfl one9 rfl (zF 0 rfl) rfl)<|zM rfl rfl (yP rfl rfl rfl)<|kA<|zB<|zH rfl (fun c4 => ?_) (fun c4 => ?_)
    ·try simp only [sx] at c4
     refine sReg rfl<|rMv rfl<|zB<|zI<|zQ rfl ?_
     have h8 := hasBf_lt hy (show j < k by omega) c4
     rw [wR hb hp (by rw [bfErr_8 c2 h8]; decide),bfErr_8 c2 h8]
    ·try simp only [sx] at c4
     refine zJ<|zU rfl<|rMv rfl<|zA rfl (qB rfl rfl rfl ⟨by omega,by omega⟩)<|rMv rfl<|zB ?_
     refine ⟨j + 1,⟨by omega,zMb hy hq c4⟩,(by omega),Weak.mk [true,true] ⟨zE,zE,zE,zE,trivial⟩ rfl⟩
   ·try simp only [sx] at c3
    rw [show j = k by omega] at hq
    refine qN<|zK<|sReg rfl<|zA rfl (zC rfl zKl rfl)<|zA rfl (zG rfl yH rfl (zF 0 rfl) rfl)<|zA rfl (zP rfl ok113 (base_Type b.T) ⟨zE,rfl,trivial⟩)<|zA rfl (qT rfl rfl)<|zB<|zH rfl (fun c5 => ?_) (fun c5 => ?_)
    ·try simp only [sx] at c5
     refine sReg rfl<|rMv rfl<|zB<|zI<|zQ rfl ?_
     rw [wR hb hp (by rw [zOj c2 hq c5]; decide),zOj c2 hq c5]
    ·try simp only [sx] at c5
     refine zJ<|zK<|sReg rfl<|zA rfl (zC rfl zHa rfl)<|zA rfl (zD rfl zDp rfl (zF 0 rfl) rfl)<|zA rfl (zP rfl ok112 (ref11_Validate b.Dims (hn.dims b (qE hb))) ⟨zE,rfl,trivial⟩)<|rMv rfl<|zB<|sReg rfl<|rMv rfl<|zA rfl (qR rfl rfl rfl)<|zB<|zH rfl (fun c6 => ?_) (fun c6 => ?_)
     ·try simp only [sx] at c6
      refine sReg rfl<|rMv rfl<|rMv rfl<|zB<|zI<|zQ rfl ?_
      rw [wR hb hp (by rw [bfErr_d c2 hq c5 c6]; exact c6),bfErr_d c2 hq c5 c6]
     ·try simp only [sx] at c6
      refine zJ<|sReg rfl<|zA rfl (zC rfl zRb rfl)<|zA rfl (zD rfl one3 rfl (zF 0 rfl) rfl)<|zA rfl (qM rfl rfl rfl)<|rMv rfl<|rLz [] rfl gv1 trivial (fun g17_3 => zC rfl zRb rfl) rfl<|rLz [(51,_)] rfl gv1 ⟨rfl,rfl,trivial⟩ (fun g17_3 => zD rfl one3 rfl (zF 0 rfl) rfl) rfl<|rLz [(52,_)] rfl gv1 ⟨rfl,rfl,trivial⟩ (fun g17_3 => yA rfl rfl rfl) rfl<|zA rfl (yB rfl rfl rfl rfl (fun h => (lzf h)))<|zB<|zH rfl (fun c7 => ?_) (fun c7 => ?_)
      ·try simp only [sx] at c7
       refine sReg rfl<|rMv rfl<|zB<|zI<|zQ rfl ?_
       rw [wR hb hp (by rw [bfErr_u c2 hq c5 c6 (by omega)]; decide),bfErr_u c2 hq c5 c6 (by omega)]
      ·try simp only [sx] at c7
       refine zJ<|zU rfl<|rMv rfl<|zA rfl (qB rfl rfl rfl ⟨by omega,by omega⟩)<|rMv rfl<|zB ?_
       refine ⟨k + 1,⟨by omega,zNb hb hp (bfErr_0 c2 hq c5 c6 (by omega))⟩,(by omega),Weak.mk [false,true] ⟨zE,zE,trivial⟩ rfl⟩
 ·try simp only [sx] at c1
  refine qN<|sReg rfl<|rMv rfl<|zB<|zI<|zQ rfl ?_
  rw [zRu hp (by omega)]
end Go.W
