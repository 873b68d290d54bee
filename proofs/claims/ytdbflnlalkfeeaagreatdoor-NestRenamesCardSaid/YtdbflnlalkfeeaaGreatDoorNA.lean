/-
  Walks: what functions of the program compute. Printed by wip/gen/mk2.py.
  Conditions: none.
-/
import Derived.Test.YtdbflnlalkfeeaaGreatDoorVC
import Derived.Test.YtdbflnlalkfeeaaGreatDoorEngZ
import Derived.Test.YtdbflnlalkfeeaaGreatDoorPlain2
set_option maxRecDepth 10000
namespace Go.W
open Go Go.Eng Go.Proofs Go.L41 Go.Br
attribute [local irreducible] AWP RWP TD finQ
theorem agg42 : aggT Tryz.prog 42 = some 8:= by kernel_rfl
theorem el22 : elemT Tryz.prog 22 = some (42,8,88):= by kernel_rfl
theorem el23 : elemT Tryz.prog 23 = some (54,20,256):= by kernel_rfl
theorem zFg : fieldT Tryz.prog 25 0 = some (0,22):= by kernel_rfl
theorem fd42_0 : fieldT Tryz.prog 42 0 = some (0,9):= by kernel_rfl
theorem fd42_1 : fieldT Tryz.prog 42 1 = some (1,40):= by kernel_rfl
theorem zPu : fieldT Tryz.prog 42 2 = some (6,33):= by kernel_rfl
theorem fd42_3 : fieldT Tryz.prog 42 3 = some (7,3):= by kernel_rfl
theorem zAa : fieldT Tryz.prog 54 7 = some (19,23):= by kernel_rfl
theorem ok68 : callOk Tryz.prog 68 = true:= by kernel_rfl
theorem ok69 : callOk Tryz.prog 69 = true:= by kernel_rfl
theorem ok78 : callOk Tryz.prog 78 = true:= by kernel_rfl
theorem ok111 : callOk Tryz.prog 111 = true:= by kernel_rfl
theorem ok121 : callOk Tryz.prog 121 = true:= by kernel_rfl
theorem ok122 : callOk Tryz.prog 122 = true:= by kernel_rfl
theorem ok125 : callOk Tryz.prog 125 = true:= by kernel_rfl
theorem ok158 : callOk Tryz.prog 158 = true:= by kernel_rfl
theorem zOs : oneT Tryz.prog 22 = true:= by kernel_rfl
theorem zCh : oneT Tryz.prog 23 = true:= by kernel_rfl
theorem zIh : oneT Tryz.prog 33 = true:= by kernel_rfl
theorem pl42 : placesT Tryz.prog 42 = some [(0,1),(1,5),(6,1),(7,1)]:= by kernel_rfl
theorem sz33 : (Tryz.prog.info? 33).map (·.size) = some 1:= by kernel_rfl
theorem sz42 : (Tryz.prog.info? 42).map (·.size) = some 8:= by kernel_rfl
theorem zr42 : zeroT Tryz.prog 42 = some [(Value.string (ByteArray.mk #[])),(Value.int IntKind.i64 0),(Value.int IntKind.i64 0),(Value.int IntKind.i64 0),(Value.int IntKind.i64 0),(Value.int IntKind.i64 0),(Value.slice none 0 0),(Value.int IntKind.i64 0)]:= by kernel_rfl
theorem shape_Validate (d : List Int) (hl : d.length ≤ 17592186044416) :
    Pur cfg 111 [vIs d] (vI (dimsErr d)):= by
 refine zV Tryz.func111 rfl Tryz.ntmps111 Tryz.results111 rfl ?_
 intro z hz
 refine sReg rfl<|rMv rfl<|zB<|zJ<|sReg rfl<|rMv rfl<|zA rfl rfl (zT rfl el33 rfl)<|zA rfl rfl (yV rfl rfl rfl)<|zB<|zG rfl (fun c1 => ?_) (fun c1 => ?_)
 ·try simp only [sx] at c1
  have hlong := dims_long (d := d) (by omega)
  refine sReg rfl<|rMv rfl<|zB<|zH<|fin1 (rs_c rfl) ?_
  rw [hlong]
 ·try simp only [sx] at c1
  refine zK<|zJ<|sReg rfl<|rMv rfl<|zA rfl rfl (zT rfl el33 rfl)<|rMv rfl<|zB<|zU<|zX ⟨[(13,.c _),(0,.c _),(11,.c _),(12,.c _)],[]⟩ (Weak.mk [] ⟨VLe.of_eq rfl,VLe.of_eq rfl,VLe.of_eq rfl,VLe.of_eq rfl,trivial⟩ rfl)<|qI 1 0 rfl rfl (Nat) (fun k => [(13,vI k)]) (fun k => []) (fun k => k ≤ d.length ∧ ((d.take k).all posI = true)) (fun k => d.length - k) ⟨0,⟨by omega,rfl⟩,Weak.mk [] ⟨VLe.refl _,VLe.refl _,VLe.refl _,VLe.refl _,trivial⟩ rfl⟩ ?_
  rintro k ⟨hk,hp⟩
  refine sReg rfl<|zA rfl rfl (qL rfl rfl rfl)<|zB<|zJ<|zG rfl (fun c2 => ?_) (fun c2 => ?_)
  ·try simp only [sx] at c2
   obtain ⟨n,hn⟩ := qZ d k (by omega)
   refine zK<|zJ<|zU<|sReg rfl<|zA rfl rfl (zP rfl el33 rfl rfl (by omega) (getm (by assumption)))<|zA rfl rfl (zD rfl one3 rfl qA rfl)<|rMv rfl<|zB<|sReg rfl<|rMv rfl<|zA rfl rfl (qL rfl rfl rfl)<|zB<|zG rfl (fun c3 => ?_) (fun c3 => ?_)
   ·try simp only [sx] at c3
    have hneg := dims_neg (d := d) (by omega) hn c3
    refine sReg rfl<|rMv rfl<|zB<|zH<|fin1 (rs_c rfl) ?_
    rw [hneg]
   ·try simp only [sx] at c3
    refine zK<|zR rfl<|zA rfl rfl (qC rfl rfl rfl ⟨by omega,by omega⟩)<|rMv rfl<|zB ?_
    refine ⟨k + 1,⟨by omega,zQo hn hp (by unfold posI; exact decide_eq_true (by omega))⟩,(by omega),Weak.mk [] ⟨VLe.refl _,VLe.refl _,VLe.refl _,VLe.refl _,trivial⟩ rfl⟩
  ·try simp only [sx] at c2
   have hpos : d.all posI = true:= by rw [yN (by omega)] at hp; exact hp
   refine qO<|sReg rfl<|rMv rfl<|zB<|zJ<|sReg rfl<|rMv rfl<|zA rfl rfl (zT rfl el33 rfl)<|rMv rfl<|zB<|zU<|zX ⟨[(22,.c _),(5,.c _),(20,.c _),(21,.c _)],[]⟩ (Weak.mk [] ⟨VLe.of_eq rfl,VLe.of_eq rfl,VLe.of_eq rfl,VLe.of_eq rfl,trivial⟩ rfl)<|qI 2 0 rfl rfl (Nat × Int) (fun ⟨j,s⟩ => [(22,vI j),(5,vI s)]) (fun ⟨j,s⟩ => []) (fun ⟨j,s⟩ => j ≤ d.length ∧ (1 ≤ s) ∧ (s ≤ 4096) ∧ (sizeFrom 1 d = sizeFrom s (d.drop j))) (fun ⟨j,s⟩ => d.length - j) ⟨⟨0,1⟩,⟨by omega,by omega,by omega,rfl⟩,Weak.mk [] ⟨VLe.refl _,VLe.of_eq (rfl),VLe.refl _,VLe.refl _,trivial⟩ rfl⟩ ?_
   rintro ⟨j,s⟩ ⟨hj,hs1,hs2,hs3⟩
   show AWP _ _ _ _ _ ⟨[(22,vI j),(5,vI s)] ++ _,[] ++ _⟩
   refine sReg rfl<|zA rfl rfl (qL rfl rfl rfl)<|zB<|zJ<|zG rfl (fun c4 => ?_) (fun c4 => ?_)
   ·try simp only [sx] at c4
    obtain ⟨m,hm⟩ := qZ d j (by omega)
    refine zK<|zJ<|zU<|sReg rfl<|zA rfl rfl (zP rfl el33 rfl rfl (by omega) (getm (by assumption)))<|zA rfl rfl (zD rfl one3 rfl qA rfl)<|rMv rfl<|zB<|zJ<|sReg rfl<|rMv rfl<|rMv rfl<|zA rfl rfl (det_quo rfl rfl rfl (by omega))<|zA rfl rfl (yV rfl rfl rfl)<|zB<|zG rfl (fun c5 => ?_) (fun c5 => ?_)
    ·try simp only [sx] at c5
     have hov := quo_t hs1 c5
     refine sReg rfl<|rMv rfl<|zB<|zH<|fin1 (rs_c rfl) ?_
     rw [dims_over (by omega) hpos (size_over hm hs3 hov)]
    ·try simp only [sx] at c5
     have hov := quo_f hs1 (Int.not_lt.2 c5)
     have hm1 := mul_pos1 hs1 (posI_get hpos hm)
     refine zK<|zR rfl<|rMv rfl<|rMv rfl<|zA rfl rfl (det_mul_nw rfl rfl rfl (by have := mul_pos1 hs1 (posI_get hpos hm); exact ⟨by omega,by omega⟩))<|rMv rfl<|zB<|zR rfl<|zA rfl rfl (qC rfl rfl rfl ⟨by omega,by omega⟩)<|rMv rfl<|zB ?_
     refine ⟨⟨j + 1,s * m⟩,⟨by omega,by omega,by omega,size_next hm hs3 hov⟩,(by show d.length - (j + 1) < d.length - j; omega),Weak.mk [] ⟨VLe.refl _,VLe.refl _,VLe.refl _,VLe.refl _,trivial⟩ rfl⟩
   ·try simp only [sx] at c4
    refine qO<|sReg rfl<|rMv rfl<|zB<|zH<|fin1 (rs_c rfl) ?_
    rw [dims_ok (by omega) hpos (size_done hs3 (by omega))]
theorem zFa (l : List Int) (hl : l.length ≤ 17592186044416) :
    OwnR cfg 125 [vIs l] 3 1 (l.map fun n => [cI n]):= by
 refine zV Tryz.func125 rfl Tryz.ntmps125 Tryz.results125 rfl ?_
 intro z hz
 refine sReg rfl<|zA rfl rfl (qW 1 rfl rfl)<|zB<|zJ<|sReg rfl<|rMv rfl<|zY rfl rfl (zDp rfl el33 rfl rfl) ?_
 rintro _ _ ⟨nb1,rfl,hnil1,rfl⟩
 refine zB<|zG rfl (fun c1 => ?_) (fun c1 => ?_)
 ·try simp only [sx] at c1
  refine sReg rfl<|rMv rfl<|qY _ (yR 3 1)<|zB<|zH<|fin1 (rs_c rfl) ?_
  exact ⟨_,rfl,by rw [hnil1 c1]⟩
 ·try simp only [sx] at c1
  refine zK<|sReg rfl<|zY rfl rfl (zCm rfl el33 zr3 rfl rfl rfl rfl) ?_
  rintro _ _ ⟨sv3,rfl,rfl⟩
  refine rMv rfl<|zY rfl rfl (yB 0 rfl el33 rfl rfl rfl (by simp only [List.length_map,List.length_nil,Nat.zero_add]; omega) (by simp only [List.length_map,List.length_nil,Nat.zero_add]; omega)) ?_
  rintro _ _ ⟨sv4,rfl,rfl⟩
  refine rMv rfl<|zB<|zH<|fin1 (rs_c rfl) ?_
  exact ⟨_,rfl,rfl⟩
theorem zIl (b : Bf) (hl : b.Dims.length ≤ 17592186044416) :
    Pur cfg 78 [vBf b] (vBf b):= by
 refine zV Tryz.func78 rfl Tryz.ntmps78 Tryz.results78 rfl ?_
 intro z hz
 refine sReg rfl<|zY rfl rfl (qM rfl rfl) ?_
 rintro _ _ ⟨b1,rfl,rfl⟩
 refine zY rfl rfl (qH [none,none,none,none,none,none,some 1,none] rfl zr42 rfl) ?_
 rintro _ _ ⟨b2,rfl,rfl⟩
 refine zB<|sReg rfl<|zA rfl rfl (zC rfl zPu rfl)<|zA rfl rfl (zD rfl zIh rfl (zE 1 rfl) rfl)<|zA rfl rfl (zQ rfl ok125 (OwnR.pur (zFa b.Dims hl)) ⟨VLe.refl _,rfl,trivial⟩)<|zA rfl rfl (zC rfl zPu rfl)<|zS rfl rfl (zO rfl sz33 rfl rfl rfl (qE 1 rfl rfl))<|zB<|sReg rfl<|zA rfl rfl (zF rfl agg42 rfl (zE 1 rfl) rfl)<|zS rfl rfl (zO rfl sz42 rfl rfl rfl (qE 0 rfl rfl))<|zB<|zH<|fin1 (qF agg42 rfl (zE 0 rfl) rfl) ?_
 exact rfl
theorem wL (n : Ns) (s : ByteArray) (hn : n.Ok) :
    Pur cfg 29 [vNs n,vS s] (.tup [vBf (bufD n.Bufs s),vB (hasBf n.Bufs s)]):= by
 refine zV Tryz.func29 rfl Tryz.ntmps29 Tryz.results29 rfl ?_
 intro z hz
 have hnb := hn.bufs
 refine sReg rfl<|zY rfl rfl (qM rfl rfl) ?_
 rintro _ _ ⟨b1,rfl,rfl⟩
 refine zY rfl rfl (qH [none,none,none,none,none,none,some 1,none] rfl zr42 rfl) ?_
 rintro _ _ ⟨b2,rfl,rfl⟩
 refine rMv rfl<|zB<|zJ<|sReg rfl<|zA rfl rfl (zC rfl zFg rfl)<|zA rfl rfl (zD rfl zOs rfl (zE 1 rfl) rfl)<|zA rfl rfl (zT rfl el22 rfl)<|rMv rfl<|zB<|zU<|zX ⟨[(10,.c _),(1,.c _),(2,.c _),(4,.c _),(9,.c _)],[_,_]⟩ (Weak.mk [true,true] ⟨VLe.of_eq rfl,VLe.of_eq rfl,VLe.of_eq rfl,VLe.of_eq rfl,VLe.of_eq rfl,trivial⟩ rfl)<|qI 1 0 rfl rfl (Nat) (fun k => [(10,vI k)]) (fun k => []) (fun k => k ≤ n.Bufs.length ∧ (hasBf (n.Bufs.take k) s = false) ∧ (bufD n.Bufs s = bufD (n.Bufs.drop k) s)) (fun k => n.Bufs.length - k) ⟨0,⟨by omega,rfl,rfl⟩,Weak.mk [true,true] ⟨VLe.refl _,VLe.refl _,VLe.refl _,VLe.refl _,VLe.refl _,trivial⟩ rfl⟩ ?_
 rintro k ⟨hk,hp,hq⟩
 refine sReg rfl<|zA rfl rfl (qL rfl rfl rfl)<|zB<|zJ<|zG rfl (fun c1 => ?_) (fun c1 => ?_)
 ·try simp only [sx] at c1
  obtain ⟨b,hb⟩ := qZ n.Bufs k (by omega)
  refine zK<|zJ<|zU<|sReg rfl<|rMv rfl<|rMv rfl<|zB<|sReg rfl<|zA rfl rfl (zC rfl zFg rfl)<|zA rfl rfl (zD rfl zOs rfl (zE 1 rfl) rfl)<|rMv rfl<|zA rfl rfl (zP rfl el22 rfl rfl (by omega) (getm (by assumption)))<|zA rfl rfl (zZ rfl fd42_0 rfl)<|zA rfl rfl (zD rfl one9 rfl qA rfl)<|rMv rfl<|zA rfl rfl (yL rfl rfl rfl)<|zB<|zG rfl (fun c2 => ?_) (fun c2 => ?_)
  ·try simp only [sx] at c2
   refine sReg rfl<|zA rfl rfl (zC rfl zFg rfl)<|zA rfl rfl (zD rfl zOs rfl (zE 1 rfl) rfl)<|rMv rfl<|zA rfl rfl (zP rfl el22 rfl rfl (by omega) (getm (by assumption)))<|zA rfl rfl (zF rfl agg42 rfl qA rfl)<|zA rfl rfl (zQ rfl ok78 (zIl b (hn.dims b (qB hb))) ⟨VLe.refl _,rfl,trivial⟩)<|zS rfl rfl (zO rfl sz42 rfl rfl rfl (qE 0 rfl rfl))<|rMv rfl<|zB<|zH<|fin2 (qF agg42 rfl (zE 0 rfl) rfl) (rs_c rfl) ?_
   rw [hasBf_at hb c2,hq,bufD_at hb c2]; rfl
  ·try simp only [sx] at c2
   refine zK<|zR rfl<|zA rfl rfl (qC rfl rfl rfl ⟨by omega,by omega⟩)<|rMv rfl<|zB ?_
   refine ⟨k + 1,⟨by omega,hasBf_next hb hp c2,hq.trans (bufD_next hb c2)⟩,(by omega),Weak.mk [true,true] ⟨VLe.refl _,VLe.refl _,VLe.refl _,VLe.refl _,VLe.refl _,trivial⟩ rfl⟩
 ·try simp only [sx] at c1
  refine qO<|sReg rfl<|zA rfl rfl (yK [none,none,none,none,none,none,some 1,none] rfl zr42 pl42 rfl rfl)<|zS rfl rfl (zO rfl sz42 rfl rfl rfl (qE 0 rfl rfl))<|rMv rfl<|zB<|zH<|fin2 (qF agg42 rfl (zE 0 rfl) rfl) (rs_c rfl) ?_
  rw [yN (by omega)] at hp; rw [hp,bufD_no hp]; rfl
theorem zNn (n : Nat) (ih : n ≠ 0 → ∀ (l : List St) (x : Int),stsWt l ≤ 1073741824 → x = ((n - 1 : Nat) : Int) → Pur cfg 68 [vSts l,vI x] (vB (withinT (n - 1) l))) (l : List St) (x : Int) (hn : n ≤ 100) (hl : stsWt l ≤ 1073741824) (hx : x = n) :
    Pur cfg 68 [vSts l,vI x] (vB (withinT n l)):= by
 refine zV Tryz.func68 rfl Tryz.ntmps68 Tryz.results68 rfl ?_
 intro z hz
 have hll := wD l
 refine sReg rfl<|rMv rfl<|zB<|zJ<|sReg rfl<|rMv rfl<|zA rfl rfl (zT rfl el23 rfl)<|rMv rfl<|zB<|zU<|zX ⟨[(8,.c _),(0,.c _),(1,.c _),(7,.c _)],[]⟩ (Weak.mk [] ⟨VLe.of_eq rfl,VLe.of_eq rfl,VLe.of_eq rfl,VLe.of_eq rfl,trivial⟩ rfl)<|qI 1 0 rfl rfl (Nat) (fun k => [(8,vI k)]) (fun k => []) (fun k => k ≤ l.length ∧ (withinG n (l.take k) = true)) (fun k => l.length - k) ⟨0,⟨by omega,by cases n <;> rfl⟩,Weak.mk [] ⟨VLe.refl _,VLe.refl _,VLe.refl _,VLe.refl _,trivial⟩ rfl⟩ ?_
 rintro k ⟨hk,hp⟩
 refine sReg rfl<|zA rfl rfl (qL rfl rfl rfl)<|zB<|zJ<|zG rfl (fun c1 => ?_) (fun c1 => ?_)
 ·try simp only [sx] at c1
  obtain ⟨s,hs⟩ := qZ l k (by omega)
  refine zK<|zJ<|zU<|sReg rfl<|rMv rfl<|rMv rfl<|zB<|sReg rfl<|rMv rfl<|zA rfl rfl (qL rfl rfl rfl)<|rMv rfl<|rLz [] rfl gv1 trivial (fun g4_2 => zN rfl rfl) rfl<|rLz [] rfl gv1 trivial (fun g4_2 => zN rfl rfl) rfl<|rLz [(14,_),(15,_)] rfl gv1 ⟨rfl,rfl,rfl,rfl,trivial⟩ (fun g4_2 => zP rfl el23 rfl rfl (by omega) (zBk hs)) rfl<|rLz [(16,_)] rfl gv1 ⟨rfl,rfl,trivial⟩ (fun g4_2 => zZ rfl zAa rfl) rfl<|rLz [(17,_)] rfl gv1 ⟨rfl,rfl,trivial⟩ (fun g4_2 => zD rfl zCh rfl qA rfl) rfl<|rLz [] rfl gv1 trivial (fun g4_2 => zN rfl rfl) rfl<|rLz [(19,_)] rfl gv1 ⟨rfl,rfl,trivial⟩ (fun g4_2 => yD rfl rfl rfl ⟨by omega,by omega⟩) rfl<|rLz [(18,_),(20,_)] rfl gv1 ⟨rfl,rfl,rfl,rfl,trivial⟩ (fun g4_2 => zQ rfl ok68 (ih (by simp only [Lz,cond_true,cond_false,Bool.and_eq_true,Bool.or_eq_true,Bool.not_eq_true',Bool.not_eq_false',Bool.or_eq_false_iff,Bool.and_eq_false_iff,decide_eq_true_eq,decide_eq_false_iff_not,Bool.not_eq_true,Bool.not_eq_false] at g4_2; omega) s.Body _ (by have := St.body_wt s; have := kA (qB hs); omega) (by simp only [Lz,cond_true,cond_false,Bool.and_eq_true,Bool.or_eq_true,Bool.not_eq_true',Bool.not_eq_false',Bool.or_eq_false_iff,Bool.and_eq_false_iff,decide_eq_true_eq,decide_eq_false_iff_not,Bool.not_eq_true,Bool.not_eq_false] at g4_2; omega)) ⟨VLe.refl _,rfl,VLe.refl _,rfl,trivial⟩) rfl<|rLz [(21,_)] rfl gv1 ⟨rfl,rfl,trivial⟩ (fun g4_2 => yA rfl rfl) rfl<|zA rfl rfl (yP rfl rfl rfl rfl (fun h => (lzf h)))<|zB<|zG rfl (fun c2 => ?_) (fun c2 => ?_)
  ·have hno := within_no hs hx c2
   refine sReg rfl<|rMv rfl<|zB<|zH<|fin1 (rs_c rfl) ?_
   rw [hno]
  ·have hyes := within_yes hx c2
   refine zK<|zR rfl<|zA rfl rfl (qC rfl rfl rfl ⟨by omega,by omega⟩)<|rMv rfl<|zB ?_
   refine ⟨k + 1,⟨by omega,withinG_next hs hp hyes.1 hyes.2⟩,(by omega),Weak.mk [] ⟨VLe.refl _,VLe.refl _,VLe.refl _,VLe.refl _,trivial⟩ rfl⟩
 ·try simp only [sx] at c1
  refine qO<|sReg rfl<|rMv rfl<|zB<|zH<|fin1 (rs_c rfl) ?_
  rw [yN (by omega),withinG_eq] at hp; rw [hp]
theorem zPe (n : Nat) (l : List St) (x : Int) (hn : n ≤ 100) (hl : stsWt l ≤ 1073741824) (hx : x = n) : Pur cfg 68 [vSts l,vI x] (vB (withinT n l)):= by
  induction n generalizing l x with
  | zero => exact zNn 0 (fun h => absurd rfl h) l x hn hl hx
  | succ n ih => exact zNn (n + 1) (fun _ l x h1 h2 => ih l x (by omega) h1 (by omega)) l x hn hl hx
theorem zBj (l : List St) (ih : ∀ s,s ∈ l → ∀ (m : Nat) (x : Int),m ≤ 2147483648 → x = m → Pur cfg 69 [vSts s.Body,vI x] (vI (numB s.Body m))) (m : Nat) (x : Int) (hl : stsWt l ≤ 1073741824) (hm : m ≤ 2147483648) (hx : x = m) :
    Pur cfg 69 [vSts l,vI x] (vI (numB l m)):= by
 refine zV Tryz.func69 rfl Tryz.ntmps69 Tryz.results69 rfl ?_
 intro z hz
 have hll := wD l
 have hNw := zKu l
 refine sReg rfl<|rMv rfl<|zB<|sReg rfl<|rMv rfl<|zA rfl rfl (zT rfl el23 rfl)<|rMv rfl<|zB<|zJ<|sReg rfl<|rMv rfl<|zA rfl rfl (zT rfl el23 rfl)<|rMv rfl<|zB<|zU<|zX ⟨[(11,.c _),(5,.c _),(0,.c _),(1,.c _),(10,.c _)],[]⟩ (Weak.mk [] ⟨VLe.of_eq rfl,VLe.of_eq rfl,VLe.of_eq rfl,VLe.of_eq rfl,VLe.of_eq rfl,trivial⟩ rfl)<|qI 2 0 rfl rfl (Nat × Nat) (fun ⟨k,n⟩ => [(11,vI k),(5,vI n)]) (fun ⟨k,n⟩ => []) (fun ⟨k,n⟩ => k ≤ l.length ∧ (n ≤ 4294967296) ∧ (numB l m = numL (l.drop k) m n)) (fun ⟨k,n⟩ => l.length - k) ⟨⟨0,l.length⟩,⟨by omega,by omega,rfl⟩,Weak.mk [] ⟨VLe.refl _,VLe.of_eq (congrArg vI (by simp)),VLe.refl _,VLe.refl _,VLe.refl _,trivial⟩ rfl⟩ ?_
 rintro ⟨k,n⟩ ⟨hk,hn,hp⟩
 show AWP _ _ _ _ _ ⟨[(11,vI k),(5,vI n)] ++ _,[] ++ _⟩
 refine sReg rfl<|zA rfl rfl (qL rfl rfl rfl)<|zB<|zJ<|zG rfl (fun c1 => ?_) (fun c1 => ?_)
 ·try simp only [sx] at c1
  obtain ⟨s,hs⟩ := qZ l k (by omega)
  refine zK<|zJ<|zU<|sReg rfl<|rMv rfl<|rMv rfl<|zB<|zJ<|sReg rfl<|rMv rfl<|rMv rfl<|zA rfl rfl (yV rfl rfl rfl)<|zB<|zG rfl (fun c2 => ?_) (fun c2 => ?_)
  ·try simp only [sx] at c2
   refine qO<|sReg rfl<|rMv rfl<|rMv rfl<|zB<|zH<|fin1 (rs_c rfl) ?_
   exact congrArg vI (by rw [← num_end hp (by omega)])
  ·try simp only [sx] at c2
   have hsum := num_sum hs hp (by omega)
   have hbl := numB_le s.Body (m - n)
   have hsn := stsN_mem (qB hs)
   have hse := zJb s
   refine zK<|zR rfl<|rMv rfl<|rMv rfl<|rMv rfl<|zA rfl rfl (zP rfl el23 rfl rfl (by omega) (zBk hs))<|zA rfl rfl (zZ rfl zAa rfl)<|zA rfl rfl (zD rfl zCh rfl qA rfl)<|rMv rfl<|rMv rfl<|zA rfl rfl (yD rfl rfl rfl ⟨by omega,by omega⟩)<|zA rfl rfl (zQ rfl ok69 (ih s (qB hs) (m - n) _ (by omega) (by omega)) ⟨VLe.refl _,rfl,VLe.refl _,rfl,trivial⟩)<|zA rfl rfl (qC rfl rfl rfl ⟨by omega,by omega⟩)<|rMv rfl<|zB<|zR rfl<|zA rfl rfl (qC rfl rfl rfl ⟨by omega,by omega⟩)<|rMv rfl<|zB ?_
   refine ⟨⟨k + 1,n + numB s.Body (m - n)⟩,⟨by omega,by omega,num_next hs hp (by omega)⟩,(by show l.length - (k + 1) < l.length - k; omega),Weak.mk [] ⟨VLe.refl _,VLe.of_eq (congrArg vI (by omega)),VLe.refl _,VLe.refl _,VLe.refl _,trivial⟩ rfl⟩
 ·try simp only [sx] at c1
  refine qO<|sReg rfl<|rMv rfl<|rMv rfl<|zB<|zH<|fin1 (rs_c rfl) ?_
  exact congrArg vI (by rw [← num_end hp (by omega)])
theorem zEo (s : St) : ∀ (m : Nat) (x : Int),stsWt s.Body ≤ 1073741824 → m ≤ 2147483648 → x = m → Pur cfg 69 [vSts s.Body,vI x] (vI (numB s.Body m)):= by
  induction s using St.ind with
  | _ s ih => exact fun m x hl hm hx => zBj s.Body (fun a ha m x h1 h2 => ih a ha m x (by have := St.body_wt a; have := kA ha; omega) h1 h2) m x hl hm hx
theorem zJp (l : List St) (m : Nat) (x : Int) (hl : stsWt l ≤ 1073741824) (hm : m ≤ 2147483648) (hx : x = m) : Pur cfg 69 [vSts l,vI x] (vI (numB l m)) :=
  zBj l (fun a ha m x h1 h2 => zEo a m x (by have := St.body_wt a; have := kA ha; omega) h1 h2) m x hl hm hx
theorem zIc (l : List Bf) (c : C) (p : Bf → Bool) (hl : l.length ≤ 4294967296) (hc : ∀ x,x ∈ l → FnPur cfg c [vBf x] (vB (p x))) :
    Pur cfg 158 [vBfs l,.c c] (vI (idxOf p l)):= by
 refine zV Tryz.func158 rfl Tryz.ntmps158 Tryz.results158 rfl ?_
 intro z hz
 refine sReg rfl<|rMv rfl<|zB<|zJ<|sReg rfl<|rMv rfl<|zA rfl rfl (zT rfl el22 rfl)<|rMv rfl<|zB<|zU<|zX ⟨[(8,.c _),(0,.c _),(1,.c _),(7,.c _)],[]⟩ (Weak.mk [] ⟨VLe.of_eq rfl,VLe.of_eq rfl,VLe.of_eq rfl,VLe.of_eq rfl,trivial⟩ rfl)<|qI 1 0 rfl rfl (Nat) (fun k => [(8,vI k)]) (fun k => []) (fun k => k ≤ l.length ∧ ((l.take k).any p = false)) (fun k => l.length - k) ⟨0,⟨by omega,rfl⟩,Weak.mk [] ⟨VLe.refl _,VLe.refl _,VLe.refl _,VLe.refl _,trivial⟩ rfl⟩ ?_
 rintro k ⟨hk,hp⟩
 refine sReg rfl<|zA rfl rfl (qL rfl rfl rfl)<|zB<|zJ<|zG rfl (fun c1 => ?_) (fun c1 => ?_)
 ·try simp only [sx] at c1
  obtain ⟨x,hx⟩ := qZ l k (by omega)
  refine zK<|zJ<|zU<|sReg rfl<|rMv rfl<|rMv rfl<|zB<|sReg rfl<|rMv rfl<|rMv rfl<|rMv rfl<|zA rfl rfl (zP rfl el22 rfl rfl (by omega) (getm (by assumption)))<|zA rfl rfl (zF rfl agg42 rfl qA rfl)<|zA rfl rfl (wC rfl rfl (hc _ (qB hx)) ⟨VLe.refl _,rfl,trivial⟩)<|zB<|zG rfl (fun c2 => ?_) (fun c2 => ?_)
  ·try simp only [sx] at c2
   refine sReg rfl<|rMv rfl<|rMv rfl<|zB<|zH<|fin1 (rs_c rfl) ?_
   rw [zMy hx c2 hp]
  ·try simp only [sx] at c2
   refine zK<|zR rfl<|zA rfl rfl (qC rfl rfl rfl ⟨by omega,by omega⟩)<|rMv rfl<|zB ?_
   refine ⟨k + 1,⟨by omega,zNl hx hp c2⟩,(by omega),Weak.mk [] ⟨VLe.refl _,VLe.refl _,VLe.refl _,VLe.refl _,trivial⟩ rfl⟩
 ·try simp only [sx] at c1
  refine qO<|sReg rfl<|rMv rfl<|zB<|zH<|fin1 (rs_c rfl) ?_
  rw [zHh (by rw [yN (by omega)] at hp; exact hp)]
theorem zFj (l : List Bf) (c : C) (p : Bf → Bool) (hl : l.length ≤ 4294967296) (hc : ∀ x,x ∈ l → FnPur cfg c [vBf x] (vB (p x))) :
    Pur cfg 121 [vBfs l,.c c] (vB (l.any p)):= by
 refine zV Tryz.func121 rfl Tryz.ntmps121 Tryz.results121 rfl ?_
 intro z hz
 refine sReg rfl<|rMv rfl<|zB<|sReg rfl<|rMv rfl<|rMv rfl<|zA rfl rfl (zQ rfl ok158 (zIc l c p hl hc) ⟨VLe.refl _,rfl,VLe.refl _,rfl,trivial⟩)<|zA rfl rfl (kZ rfl rfl rfl)<|rMv rfl<|zB<|zH<|fin1 (rs_c rfl) ?_
 rw [zJu]
theorem checkBuffers_1 (x b : Bf) :
    Pur cfg 122 [vBf x,.c (.iptr b.cells)] (vB (decide (x.Name = b.Name))):= by
 refine zV Tryz.func122 rfl Tryz.ntmps122 Tryz.results122 rfl ?_
 intro z hz
 refine sReg rfl<|zY rfl rfl (qM rfl rfl) ?_
 rintro _ _ ⟨b1,rfl,rfl⟩
 refine rMv rfl<|zB<|sReg rfl<|zA rfl rfl (zC rfl fd42_0 rfl)<|zA rfl rfl (zD rfl one9 rfl (zE 0 rfl) rfl)<|zA rfl rfl (zZ rfl fd42_0 rfl)<|zA rfl rfl (zD rfl one9 rfl qA rfl)<|zA rfl rfl (yL rfl rfl rfl)<|rMv rfl<|zB<|zH<|fin1 (rs_c rfl) ?_
 exact rfl
theorem zGf (l : List Bf) (hl : l.length ≤ 4294967296) (hd : ∀ b,b ∈ l → b.Dims.length ≤ 17592186044416) :
    Pur cfg 70 [vBfs l] (vI (bufsErr [] l)):= by
 refine zV Tryz.func70 rfl Tryz.ntmps70 Tryz.results70 rfl ?_
 intro z hz
 refine sReg rfl<|rMv rfl<|zB<|zJ<|sReg rfl<|rMv rfl<|zA rfl rfl (zT rfl el22 rfl)<|rMv rfl<|zB<|zU<|zX ⟨[(8,.c _),(0,.c _),(7,.c _)],[]⟩ (Weak.mk [] ⟨VLe.of_eq rfl,VLe.of_eq rfl,VLe.of_eq rfl,trivial⟩ rfl)<|qI 1 0 rfl rfl (Nat) (fun k => [(8,vI k)]) (fun k => []) (fun k => k ≤ l.length ∧ (bufsErr [] l = bufsErr (l.take k) (l.drop k))) (fun k => l.length - k) ⟨0,⟨by omega,rfl⟩,Weak.mk [] ⟨VLe.refl _,VLe.refl _,VLe.refl _,trivial⟩ rfl⟩ ?_
 rintro k ⟨hk,hp⟩
 refine sReg rfl<|zA rfl rfl (qL rfl rfl rfl)<|zB<|zJ<|zG rfl (fun c1 => ?_) (fun c1 => ?_)
 ·try simp only [sx] at c1
  obtain ⟨b,hb⟩ := qZ l k (by omega)
  refine zK<|zJ<|zU<|sReg rfl<|rMv rfl<|rMv rfl<|zB<|sReg rfl<|rMv rfl<|rMv rfl<|zA rfl rfl (zP rfl el22 rfl rfl (by omega) (getm (by assumption)))<|zA rfl rfl (zF rfl agg42 rfl qA rfl)<|zY rfl rfl (qH [none,none,none,none,none,none,some 1,none] rfl zr42 rfl) ?_
  rintro _ _ ⟨b1,rfl,rfl⟩
  refine zS rfl rfl (zO rfl sz42 rfl rfl rfl (qE 0 rfl rfl))<|qY _ (yF 0 rfl 4 _ PLe.ptr)<|zB<|zJ<|zU<|sReg rfl<|zA rfl rfl (zZ rfl fd42_0 rfl)<|zA rfl rfl (zD rfl one9 rfl qA rfl)<|zA rfl rfl (zQ rfl ok66 (zDc _) ⟨VLe.refl _,rfl,trivial⟩)<|zA rfl rfl (yA rfl rfl)<|rMv rfl<|zB<|zG rfl (fun c2 => ?_) (fun c2 => ?_)
  ·try simp only [sx] at c2
   refine sReg rfl<|rMv rfl<|zB<|zH<|fin1 (rs_c rfl) ?_
   rw [zDy hb hp (by rw [bfErr_7 c2]; decide),bfErr_7 c2]
  ·try simp only [sx] at c2
   refine sReg rfl<|rMv rfl<|rMv rfl<|zA rfl rfl (det_cut_take rfl el22 rfl rfl (by omega))<|zA rfl rfl (zAg rfl rfl rfl rfl rfl)<|zA rfl rfl (zQ rfl ok121 (zFj (l.take k) _ (fun x => decide (x.Name = b.Name)) (by rw [List.length_take]; omega) (fun x _ => FnPur.of_pur (first := []) (cap := [.iptr b.cells]) ok122 (checkBuffers_1 x b))) ⟨VLe.refl _,rfl,VLe.refl _,rfl,trivial⟩)<|rMv rfl<|zB<|zG rfl (fun c3 => ?_) (fun c3 => ?_)
   ·try simp only [sx] at c3
    refine sReg rfl<|rMv rfl<|zB<|zH<|fin1 (rs_c rfl) ?_
    rw [zDy hb hp (by rw [bfErr_8 c2 c3]; decide),bfErr_8 c2 c3]
   ·try simp only [sx] at c3
    refine sReg rfl<|zA rfl rfl (zZ rfl fd42_1 rfl)<|zA rfl rfl (zF rfl yU rfl qA rfl)<|zA rfl rfl (zQ rfl ok123 (zBg b.T) ⟨VLe.refl _,rfl,trivial⟩)<|zA rfl rfl (qS rfl rfl rfl)<|rMv rfl<|zB<|zG rfl (fun c4 => ?_) (fun c4 => ?_)
    ·try simp only [sx] at c4
     refine sReg rfl<|rMv rfl<|zB<|zH<|fin1 (rs_c rfl) ?_
     rw [zDy hb hp (by rw [bfErr_10 c2 c3 (tyErr_ne c4)]; decide),bfErr_10 c2 c3 (tyErr_ne c4)]
    ·try simp only [sx] at c4
     refine zK<|zJ<|sReg rfl<|zA rfl rfl (zZ rfl zPu rfl)<|zA rfl rfl (zD rfl zIh rfl qA rfl)<|zA rfl rfl (zQ rfl ok111 (shape_Validate b.Dims (hd b (qB hb))) ⟨VLe.refl _,rfl,trivial⟩)<|rMv rfl<|zB<|sReg rfl<|rMv rfl<|zA rfl rfl (qS rfl rfl rfl)<|zB<|zG rfl (fun c5 => ?_) (fun c5 => ?_)
     ·try simp only [sx] at c5
      refine sReg rfl<|rMv rfl<|rMv rfl<|zB<|zH<|fin1 (rs_c rfl) ?_
      rw [zDy hb hp (by rw [bfErr_d c2 c3 (zGz c4) c5]; exact c5),bfErr_d c2 c3 (zGz c4) c5]
     ·try simp only [sx] at c5
      refine zK<|sReg rfl<|zA rfl rfl (zZ rfl fd42_3 rfl)<|zA rfl rfl (zD rfl one3 rfl qA rfl)<|zA rfl rfl (qL rfl rfl rfl)<|rMv rfl<|rLz [] rfl gv1 trivial (fun g14_3 => zZ rfl fd42_3 rfl) rfl<|rLz [(41,_)] rfl gv1 ⟨rfl,rfl,trivial⟩ (fun g14_3 => zD rfl one3 rfl qA rfl) rfl<|rLz [(42,_)] rfl gv1 ⟨rfl,rfl,trivial⟩ (fun g14_3 => yV rfl rfl rfl) rfl<|zA rfl rfl (yP rfl rfl rfl rfl (fun h => (lzf h)))<|zB<|zG rfl (fun c6 => ?_) (fun c6 => ?_)
      ·try simp only [sx] at c6
       refine sReg rfl<|rMv rfl<|zB<|zH<|fin1 (rs_c rfl) ?_
       rw [zDy hb hp (by rw [bfErr_u c2 c3 (zGz c4) c5 (by omega)]; decide),bfErr_u c2 c3 (zGz c4) c5 (by omega)]
      ·try simp only [sx] at c6
       refine zK<|zR rfl<|zA rfl rfl (qC rfl rfl rfl ⟨by omega,by omega⟩)<|rMv rfl<|zB ?_
       refine ⟨k + 1,⟨by omega,bufsErr_next hb hp (bfErr_0 c2 c3 (zGz c4) c5 (by omega))⟩,(by omega),Weak.mk [] ⟨VLe.refl _,VLe.refl _,VLe.refl _,trivial⟩ rfl⟩
 ·try simp only [sx] at c1
  refine qO<|sReg rfl<|rMv rfl<|zB<|zH<|fin1 (rs_c rfl) ?_
  rw [bufsErr_end hp (by omega)]
end Go.W
