/-
  Walks: what functions of the program compute. Printed by wip/gen/mk2.py.
  Conditions: none.
-/
import Derived.Test.YtdbflnlalkfeeaaGreatDoorNJ
set_option maxRecDepth 10000
namespace Go.W
open Go Go.Eng Go.Proofs Go.L41 Go.Br
attribute [local irreducible] AWP RWP TD finQ
theorem ok26 : callOk Tryz.prog 26 = true:= by kernel_rfl
theorem ok27 : callOk Tryz.prog 27 = true:= by kernel_rfl
theorem ok32 : callOk Tryz.prog 32 = true:= by kernel_rfl
theorem ok33 : callOk Tryz.prog 33 = true:= by kernel_rfl
theorem ok34 : callOk Tryz.prog 34 = true:= by kernel_rfl
theorem ok35 : callOk Tryz.prog 35 = true:= by kernel_rfl
theorem ok36 : callOk Tryz.prog 36 = true:= by kernel_rfl
theorem ok37 : callOk Tryz.prog 37 = true:= by kernel_rfl
theorem ok39 : callOk Tryz.prog 39 = true:= by kernel_rfl
theorem ok46 : callOk Tryz.prog 46 = true:= by kernel_rfl
theorem base_Stmts_of (a b : List St) (hE : ∀ x,x ∈ a → ∀ y,Pur cfg 37 [vSt x,vSt y] (vB (decide (x = y)))) (ha : a.length ≤ 4294967296) :
    Pur cfg 46 [vSts a,vSts b] (vB (decide (a = b))):= by
 refine zU Tryz.func46 rfl Tryz.ntmps46 Tryz.results46 rfl ?_
 intro z hz
 refine sReg rfl<|rMv rfl<|zB<|zJ<|sReg rfl<|rMv rfl<|zA rfl rfl (zP rfl el23 rfl)<|rMv rfl<|zA rfl rfl (zP rfl el23 rfl)<|zA rfl rfl (qV rfl rfl rfl)<|zB<|zG rfl (fun c1 => ?_) (fun c1 => ?_)
 ·try simp only [sx] at c1
  refine sReg rfl<|rMv rfl<|zB<|zH<|fin1 (rs_c rfl) ?_
  rw [yL (fun h => c1 (by rw [h]))]
 ·try simp only [sx] at c1
  refine zK<|zJ<|sReg rfl<|rMv rfl<|zB<|zQ<|zV ⟨[(5,.c _),(0,.c _),(1,.c _)],[]⟩ (Weak.mk [] ⟨VLe.of_eq rfl,VLe.of_eq rfl,VLe.of_eq rfl,trivial⟩ rfl)<|qE 1 0 rfl rfl (Nat) (fun k => [(5,vI k)]) (fun k => []) (fun k => k ≤ a.length ∧ (a.take k = b.take k)) (fun k => a.length - k) ⟨0,⟨by omega,rfl⟩,Weak.mk [] ⟨VLe.refl _,VLe.refl _,VLe.refl _,trivial⟩ rfl⟩ ?_
  rintro k ⟨hk,hp⟩
  refine zJ<|sReg rfl<|rMv rfl<|rMv rfl<|zA rfl rfl (zP rfl el23 rfl)<|zA rfl rfl (qJ rfl rfl rfl)<|zB<|zG rfl (fun c2 => ?_) (fun c2 => ?_)
  ·try simp only [sx] at c2
   obtain ⟨x,hx⟩ := qT a k (by omega)
   obtain ⟨y,hy⟩ := qT b k (by omega)
   refine zK<|zJ<|zQ<|zJ<|yI 10 mixed (by kernel_rfl) rfl rfl<|zM rfl rfl (zO rfl rfl)<|zM rfl rfl (zO rfl rfl)<|zM rfl rfl (zN rfl el23 rfl rfl (by omega) (kW hx))<|zM rfl rfl (zE rfl zCt rfl qB rfl)<|zM rfl rfl (zO rfl rfl)<|zM rfl rfl (zO rfl rfl)<|zM rfl rfl (zN rfl el23 rfl rfl (by omega) (kW hy))<|zM rfl rfl (zE rfl zCt rfl qB rfl)<|zM rfl rfl (zR rfl ok37 (hE x (qC hx) y) ⟨VLe.refl _,rfl,VLe.refl _,rfl,trivial⟩)<|zM rfl rfl (yB rfl rfl)<|kI<|zB<|zG rfl (fun c3 => ?_) (fun c3 => ?_)
   ·try simp only [sx] at c3
    refine sReg rfl<|rMv rfl<|zB<|zH<|fin1 (rs_c rfl) ?_
    rw [yL (zBw hx hy c3)]
   ·try simp only [sx] at c3
    refine zK<|zS rfl<|rMv rfl<|zA rfl rfl (qA rfl rfl rfl ⟨by omega,by omega⟩)<|rMv rfl<|zB ?_
    refine ⟨k + 1,⟨by omega,wO hx hy hp c3⟩,(by omega),Weak.mk [] ⟨VLe.refl _,VLe.refl _,VLe.refl _,trivial⟩ rfl⟩
  ·try simp only [sx] at c2
   refine qI<|sReg rfl<|rMv rfl<|zB<|zH<|fin1 (rs_c rfl) ?_
   rw [kY (zBc hp (by omega) (by omega))]
theorem base_Stmt_step (a : St) (ih : ∀ x,x ∈ a.Body → x.wt ≤ 4294967296 → ∀ y,Pur cfg 37 [vSt x,vSt y] (vB (decide (x = y)))) (ha : a.wt ≤ 4294967296) (b : St) :
    Pur cfg 37 [vSt a,vSt b] (vB (decide (a = b))):= by
 refine zU Tryz.func37 rfl Tryz.ntmps37 Tryz.results37 rfl ?_
 intro z hz
 have hw := St.wt_eq a
 have hbl := kN a.Body
 refine sReg rfl<|zZ rfl rfl (qL rfl rfl) ?_
 rintro _ _ ⟨b1,rfl,rfl⟩
 refine zZ rfl rfl (qL rfl rfl) ?_
 rintro _ _ ⟨b2,rfl,rfl⟩
 refine rMv rfl<|zB<|sReg rfl<|zA rfl rfl (zD rfl zAw rfl)<|zA rfl rfl (zC rfl one3 rfl (zF 1 rfl) rfl)<|zA rfl rfl (zD rfl zAw rfl)<|zA rfl rfl (zC rfl one3 rfl (zF 0 rfl) rfl)<|zA rfl rfl (qH rfl rfl rfl)<|rMv rfl<|rLz [] rfl gv1 trivial (fun g1_5 => zD rfl zAh rfl) rfl<|rLz [(11,_)] rfl gv1 ⟨rfl,rfl,trivial⟩ (fun g1_5 => zC rfl one9 rfl (zF 1 rfl) rfl) rfl<|rLz [] rfl gv1 trivial (fun g1_5 => zD rfl zAh rfl) rfl<|rLz [(13,_)] rfl gv1 ⟨rfl,rfl,trivial⟩ (fun g1_5 => zC rfl one9 rfl (zF 0 rfl) rfl) rfl<|rLz [(12,_),(14,_)] rfl gv1 ⟨rfl,rfl,rfl,rfl,trivial⟩ (fun g1_5 => yG rfl rfl rfl) rfl<|zA rfl rfl (qP rfl rfl rfl (fun h => h) rfl)<|rMv rfl<|rLz [] rfl gv1 trivial (fun g1_12 => zD rfl zOe rfl) rfl<|rLz [(18,_)] rfl gv1 ⟨rfl,rfl,trivial⟩ (fun g1_12 => zC rfl one3 rfl (zF 1 rfl) rfl) rfl<|rLz [] rfl gv1 trivial (fun g1_12 => zD rfl zOe rfl) rfl<|rLz [(20,_)] rfl gv1 ⟨rfl,rfl,trivial⟩ (fun g1_12 => zC rfl one3 rfl (zF 0 rfl) rfl) rfl<|rLz [(19,_),(21,_)] rfl gv1 ⟨rfl,rfl,rfl,rfl,trivial⟩ (fun g1_12 => qH rfl rfl rfl) rfl<|zA rfl rfl (qP rfl rfl rfl (fun h => h) rfl)<|rMv rfl<|rLz [] rfl gv1 trivial (fun g1_19 => zD rfl fd54_3 rfl) rfl<|rLz [(25,_)] rfl gv1 ⟨rfl,rfl,trivial⟩ (fun g1_19 => zC rfl one3 rfl (zF 1 rfl) rfl) rfl<|rLz [] rfl gv1 trivial (fun g1_19 => zD rfl fd54_3 rfl) rfl<|rLz [(27,_)] rfl gv1 ⟨rfl,rfl,trivial⟩ (fun g1_19 => zC rfl one3 rfl (zF 0 rfl) rfl) rfl<|rLz [(26,_),(28,_)] rfl gv1 ⟨rfl,rfl,rfl,rfl,trivial⟩ (fun g1_19 => qH rfl rfl rfl) rfl<|zA rfl rfl (qP rfl rfl rfl (fun h => h) rfl)<|rMv rfl<|rLz [] rfl gv1 trivial (fun g1_26 => zD rfl fd54_4 rfl) rfl<|rLz [(32,_)] rfl gv1 ⟨rfl,rfl,trivial⟩ (fun g1_26 => zC rfl one3 rfl (zF 1 rfl) rfl) rfl<|rLz [] rfl gv1 trivial (fun g1_26 => zD rfl fd54_4 rfl) rfl<|rLz [(34,_)] rfl gv1 ⟨rfl,rfl,trivial⟩ (fun g1_26 => zC rfl one3 rfl (zF 0 rfl) rfl) rfl<|rLz [(33,_),(35,_)] rfl gv1 ⟨rfl,rfl,rfl,rfl,trivial⟩ (fun g1_26 => qH rfl rfl rfl) rfl<|zA rfl rfl (qP rfl rfl rfl (fun h => h) rfl)<|rMv rfl<|rLz [] rfl gv1 trivial (fun g1_33 => zD rfl zBm rfl) rfl<|rLz [(39,_)] rfl gv1 ⟨rfl,rfl,trivial⟩ (fun g1_33 => zC rfl kU rfl (zF 1 rfl) rfl) rfl<|rLz [] rfl gv1 trivial (fun g1_33 => zD rfl zBm rfl) rfl<|rLz [(41,_)] rfl gv1 ⟨rfl,rfl,trivial⟩ (fun g1_33 => zC rfl kU rfl (zF 0 rfl) rfl) rfl<|rLz [(40,_),(42,_)] rfl gv1 ⟨rfl,rfl,rfl,rfl,trivial⟩ (fun g1_33 => zR rfl ok81 (zKx a.Idx b.Idx (by omega) (by omega)) ⟨VLe.refl _,rfl,VLe.refl _,rfl,trivial⟩) rfl<|zA rfl rfl (qP rfl rfl rfl (fun h => h) rfl)<|rMv rfl<|rLz [] rfl gv1 trivial (fun g1_40 => zD rfl zBa rfl) rfl<|rLz [(46,_)] rfl gv1 ⟨rfl,rfl,trivial⟩ (fun g1_40 => zE rfl yX rfl (zF 1 rfl) rfl) rfl<|rLz [] rfl gv1 trivial (fun g1_40 => zD rfl zBa rfl) rfl<|rLz [(48,_)] rfl gv1 ⟨rfl,rfl,trivial⟩ (fun g1_40 => zE rfl yX rfl (zF 0 rfl) rfl) rfl<|rLz [(47,_),(49,_)] rfl gv1 ⟨rfl,rfl,rfl,rfl,trivial⟩ (fun g1_40 => zR rfl ok82 (base_Expr a.E b.E (by omega)) ⟨VLe.refl _,rfl,VLe.refl _,rfl,trivial⟩) rfl<|zA rfl rfl (qP rfl rfl rfl (fun h => h) rfl)<|rMv rfl<|rLz [] rfl gv1 trivial (fun g1_47 => zD rfl wN rfl) rfl<|rLz [(53,_)] rfl gv1 ⟨rfl,rfl,trivial⟩ (fun g1_47 => zC rfl wL rfl (zF 1 rfl) rfl) rfl<|rLz [] rfl gv1 trivial (fun g1_47 => zD rfl wN rfl) rfl<|rLz [(55,_)] rfl gv1 ⟨rfl,rfl,trivial⟩ (fun g1_47 => zC rfl wL rfl (zF 0 rfl) rfl) rfl<|rLz [(54,_),(56,_)] rfl gv1 ⟨rfl,rfl,rfl,rfl,trivial⟩ (fun g1_47 => zR rfl ok46 (base_Stmts_of a.Body b.Body (fun x hx y => ih x hx (by have := yK hx; omega) y) (by omega)) ⟨VLe.refl _,rfl,VLe.refl _,rfl,trivial⟩) rfl<|zA rfl rfl (qP rfl rfl rfl (fun h => h) rfl)<|rMv rfl<|zB<|zH<|fin1 (rs_c rfl) ?_
 exact congrArg vB (st_eq a b)
theorem base_Stmt (a b : St) (ha : a.wt ≤ 4294967296) : Pur cfg 37 [vSt a,vSt b] (vB (decide (a = b))):= by
  induction a using St.ind generalizing b with
  | _ a ih => exact base_Stmt_step a (fun x hx h y => ih x hx y h) ha b
theorem law_NestNavigates (n : Ns) (s : ByteArray) (way : List Int) (hf : n.Fit) :
    Pur cfgI 7 [vNs n,vS s,vIs way] (vB true):= by
 refine zU Tryz.func7 rfl Tryz.ntmps7 Tryz.results7 rfl ?_
 intro z hz
 refine sReg rfl<|zZ rfl rfl (qL rfl rfl) ?_
 rintro _ _ ⟨b1,rfl,rfl⟩
 refine rMv rfl<|zB<|zJ<|sReg rfl<|zA rfl rfl (zE rfl zAd rfl (zF 0 rfl) rfl)<|zA rfl rfl (zR rfl ok20 (upI (law30_Few n 500 500 hf (by omega) rfl)) ⟨VLe.refl _,rfl,VLe.refl _,rfl,trivial⟩)<|zA rfl rfl (yB rfl rfl)<|rMv rfl<|rLz [] rfl gv1 trivial (fun g1_3 => zO rfl rfl) rfl<|rLz [(27,_)] rfl gv1 ⟨rfl,rfl,trivial⟩ (fun g1_3 => wE rfl un9 rfl) rfl<|rLz [(28,_)] rfl gv1 ⟨rfl,rfl,trivial⟩ (fun g1_3 => yW rfl rfl rfl) rfl<|zA rfl rfl (kA rfl rfl rfl rfl (fun h => (lzf h)))<|rMv rfl<|rLz [] rfl gv1 trivial (fun g1_8 => zO rfl rfl) rfl<|rLz [(32,_)] rfl gv1 ⟨rfl,rfl,trivial⟩ (fun g1_8 => zP rfl el33 rfl) rfl<|rLz [(33,_)] rfl gv1 ⟨rfl,rfl,trivial⟩ (fun g1_8 => yW rfl rfl rfl) rfl<|zA rfl rfl (kA rfl rfl rfl rfl (fun h => (lzf h)))<|zB<|zG rfl (fun c1 => ?_) (fun c1 => ?_)
 ·try simp only [sx] at c1
  refine sReg rfl<|zA rfl rfl (zR rfl ok21 law30_live trivial)<|rMv rfl<|zB<|zH<|fin1 (rs_c rfl) ?_
  rfl
 ·try simp only [sx] at c1
  obtain ⟨⟨c1,cs⟩,cw⟩ := c1
  obtain ⟨k1,k2,k3,k4⟩ := few_parts c1
  have hok := hf.ok (m := 500) (by omega) k1 k3
  have hw := zMc k3
  have hN := zBi n.Body
  have hwt := atT_wt (l := n.Body) (way := way)
  have hfl : ((findN n.Body s).getD []).length ≤ stsN n.Body:= by rw [zOd]; exact fndL_getD _ _ _
  have hll := zDd n.Body
  have hdd := hok.buf s
  have hel : (enclT n.Body way).length ≤ 60 := encl_len60 (by omega)
  refine zK<|sReg rfl<|zA rfl rfl (zE rfl zAd rfl (zF 0 rfl) rfl)<|rMv rfl<|zA rfl rfl (zR rfl ok25 (upI (zIi n s (by omega))) ⟨VLe.refl _,rfl,VLe.refl _,rfl,trivial⟩)<|zA rfl rfl (qS rfl rfl)<|zA rfl rfl (qW rfl rfl rfl)<|zA rfl rfl (qW rfl rfl rfl)<|rMv rfl<|rMv rfl<|zB<|sReg rfl<|zA rfl rfl (zE rfl zAd rfl (zF 0 rfl) rfl)<|rMv rfl<|zA rfl rfl (zR rfl ok26 (upI (ref30_Find n s (by omega))) ⟨VLe.refl _,rfl,VLe.refl _,rfl,trivial⟩)<|zA rfl rfl (qS rfl rfl)<|zA rfl rfl (qW rfl rfl rfl)<|zA rfl rfl (qW rfl rfl rfl)<|rMv rfl<|rMv rfl<|zB<|sReg rfl<|zA rfl rfl (zE rfl zAd rfl (zF 0 rfl) rfl)<|rMv rfl<|zA rfl rfl (zR rfl ok27 (upI (loopnest_At n way (by omega) (by omega))) ⟨VLe.refl _,rfl,VLe.refl _,rfl,trivial⟩)<|zA rfl rfl (qS rfl rfl)<|zA rfl rfl (yJ rfl rfl rfl)<|zA rfl rfl (qW rfl rfl rfl)<|zZ rfl rfl (qK [none,none,none,none,none,some 4,none,none,none,none,none,none,none,none,none,none,some 2,some 4,some 13,some 20] rfl zr54 rfl) ?_
  rintro _ _ ⟨b2,rfl,rfl⟩
  refine zY rfl rfl (zT rfl sz54 rfl rfl rfl (qF 0 rfl rfl))<|rMv rfl<|zB<|sReg rfl<|zA rfl rfl (zE rfl zAd rfl (zF 1 rfl) rfl)<|rMv rfl<|zA rfl rfl (zR rfl ok28 (upI (ref30_At n way (by omega))) ⟨VLe.refl _,rfl,VLe.refl _,rfl,trivial⟩)<|zA rfl rfl (qS rfl rfl)<|zA rfl rfl (yJ rfl rfl rfl)<|zA rfl rfl (qW rfl rfl rfl)<|zZ rfl rfl (qK [none,none,none,none,none,some 4,none,none,none,none,none,none,none,none,none,none,some 2,some 4,some 13,some 20] rfl zr54 rfl) ?_
  rintro _ _ ⟨b3,rfl,rfl⟩
  refine zY rfl rfl (zT rfl sz54 rfl rfl rfl (qF 0 rfl rfl))<|rMv rfl<|zB<|sReg rfl<|zA rfl rfl (zE rfl zAd rfl (zF 2 rfl) rfl)<|rMv rfl<|zA rfl rfl (zR rfl ok29 (upI (kS n s hok)) ⟨VLe.refl _,rfl,VLe.refl _,rfl,trivial⟩)<|zA rfl rfl (qS rfl rfl)<|zA rfl rfl (yJ rfl rfl rfl)<|zA rfl rfl (qW rfl rfl rfl)<|zZ rfl rfl (qK [none,none,none,none,none,none,some 1,none] rfl zr42 rfl) ?_
  rintro _ _ ⟨b4,rfl,rfl⟩
  refine zY rfl rfl (zT rfl sz42 rfl rfl rfl (qF 0 rfl rfl))<|rMv rfl<|zB<|sReg rfl<|zA rfl rfl (zE rfl zAd rfl (zF 3 rfl) rfl)<|rMv rfl<|zA rfl rfl (zR rfl ok30 (upI (ref30_Buffer n s hok)) ⟨VLe.refl _,rfl,VLe.refl _,rfl,trivial⟩)<|zA rfl rfl (qS rfl rfl)<|zA rfl rfl (yJ rfl rfl rfl)<|zA rfl rfl (qW rfl rfl rfl)<|zZ rfl rfl (qK [none,none,none,none,none,none,some 1,none] rfl zr42 rfl) ?_
  rintro _ _ ⟨b5,rfl,rfl⟩
  refine zY rfl rfl (zT rfl sz42 rfl rfl rfl (qF 0 rfl rfl))<|rMv rfl<|zB<|zJ<|yI 8 mixed (by kernel_rfl) rfl rfl<|zM rfl rfl (zE rfl zAd rfl (zF 4 rfl) rfl)<|zM rfl rfl (zO rfl rfl)<|zM rfl rfl (zR rfl ok31 (upI (zCh n way (by omega))) ⟨VLe.refl _,rfl,VLe.refl _,rfl,trivial⟩)<|zM rfl rfl (zE rfl zAd rfl (zF 4 rfl) rfl)<|zM rfl rfl (zO rfl rfl)<|zM rfl rfl (zR rfl ok32 (upI (zMz n way (by omega))) ⟨VLe.refl _,rfl,VLe.refl _,rfl,trivial⟩)<|zM rfl rfl (yQ rfl rfl)<|zM rfl rfl (yQ rfl rfl)<|kI<|zB<|zJ<|sReg rfl<|rMv rfl<|zA rfl rfl (zP rfl el67 rfl)<|rMv rfl<|zA rfl rfl (zP rfl el67 rfl)<|zA rfl rfl (qV rfl rfl rfl)<|zB<|zG rfl (fun c2 => ?_) (fun c2 => ?_)
  ·try simp only [sx] at c2
   exact absurd trivial c2
  ·try simp only [sx] at c2
   refine zK<|zJ<|sReg rfl<|rMv rfl<|zB<|zQ<|zV ⟨[(21,.c _),(1,.c _),(3,.c _),(7,.c _),(8,.c _),(9,.c _),(10,.c _),(11,.c _),(12,.c _),(13,.c _),(14,.c _),(15,.c _),(16,.c _),(17,.c _),(18,.c _),(19,.c _),(20,.c _)],[_,_,_,_,_]⟩ (Weak.mk [true,true,true,true,true] ⟨VLe.of_eq rfl,VLe.of_eq rfl,VLe.of_eq rfl,VLe.of_eq rfl,VLe.of_eq rfl,VLe.of_eq rfl,VLe.of_eq rfl,VLe.of_eq rfl,VLe.of_eq rfl,VLe.of_eq rfl,VLe.of_eq rfl,VLe.of_eq rfl,VLe.of_eq rfl,VLe.of_eq rfl,VLe.of_eq rfl,VLe.of_eq rfl,VLe.of_eq rfl,trivial⟩ rfl)<|qE 1 0 rfl rfl (Nat) (fun k => [(21,vI k)]) (fun k => []) (fun k => k ≤ (enclT n.Body way).length) (fun k => (enclT n.Body way).length - k) ⟨0,(by omega),Weak.mk [true,true,true,true,true] ⟨VLe.refl _,VLe.refl _,VLe.refl _,VLe.refl _,VLe.refl _,VLe.refl _,VLe.refl _,VLe.refl _,VLe.refl _,VLe.refl _,VLe.refl _,VLe.refl _,VLe.refl _,VLe.refl _,VLe.refl _,VLe.refl _,VLe.refl _,trivial⟩ rfl⟩ ?_
   rintro k hk
   refine zJ<|sReg rfl<|rMv rfl<|rMv rfl<|zA rfl rfl (zP rfl el67 rfl)<|zA rfl rfl (qJ rfl rfl rfl)<|zB<|zG rfl (fun c3 => ?_) (fun c3 => ?_)
   ·try simp only [sx] at c3
    obtain ⟨x,hx⟩ := qT (enclT n.Body way) k (by omega)
    refine zK<|zJ<|zQ<|zJ<|yI 9 mixed (by kernel_rfl) rfl rfl<|zM rfl rfl (zO rfl rfl)<|zM rfl rfl (zO rfl rfl)<|zM rfl rfl (zN rfl el67 rfl rfl (by omega) (bd_get hx))<|zM rfl rfl (zE rfl agg70 rfl qB rfl)<|zM rfl rfl (zO rfl rfl)<|zM rfl rfl (zO rfl rfl)<|zM rfl rfl (zN rfl el67 rfl rfl (by omega) (bd_get hx))<|zM rfl rfl (zE rfl agg70 rfl qB rfl)<|zM rfl rfl (zAy rfl fl70 rfl rfl rfl)<|kI<|zB<|zG rfl (fun c4 => ?_) (fun c4 => ?_)
    ·exact absurd c4 (by rw [show litsEq (List.take 2 [cS x.Name,cI x.Val]) (List.take 2 [cS x.Name,cI x.Val]) = true from bd_self x]; simp)
    ·refine zK<|zS rfl<|rMv rfl<|zA rfl rfl (qA rfl rfl rfl ⟨by omega,by omega⟩)<|rMv rfl<|zB ?_
     refine ⟨k + 1,(by omega),(by omega),Weak.mk [true,true,true,true,true] ⟨VLe.refl _,VLe.refl _,VLe.refl _,VLe.refl _,VLe.refl _,VLe.refl _,VLe.refl _,VLe.refl _,VLe.refl _,VLe.refl _,VLe.refl _,VLe.refl _,VLe.refl _,VLe.refl _,VLe.refl _,VLe.refl _,VLe.refl _,trivial⟩ rfl⟩
   ·try simp only [sx] at c3
    refine qI<|sReg rfl<|zA rfl rfl (zD rfl zGs rfl)<|zA rfl rfl (zC rfl one9 rfl (zF 1 rfl) rfl)<|zA rfl rfl (zD rfl zGs rfl)<|zA rfl rfl (zC rfl one9 rfl (zF 0 rfl) rfl)<|zA rfl rfl (yG rfl rfl rfl)<|rMv rfl<|rLz [] rfl gv1 trivial (fun g17_5 => zD rfl fd42_1 rfl) rfl<|rLz [(105,_)] rfl gv1 ⟨rfl,rfl,trivial⟩ (fun g17_5 => zE rfl yN rfl (zF 1 rfl) rfl) rfl<|rLz [] rfl gv1 trivial (fun g17_5 => zD rfl fd42_1 rfl) rfl<|rLz [(107,_)] rfl gv1 ⟨rfl,rfl,trivial⟩ (fun g17_5 => zE rfl yN rfl (zF 0 rfl) rfl) rfl<|rLz [(106,_),(108,_)] rfl gv1 ⟨rfl,rfl,rfl,rfl,trivial⟩ (fun g17_5 => zIq rfl fl40 rfl rfl rfl) rfl<|zA rfl rfl (qP rfl rfl rfl (fun h => h) rfl)<|rMv rfl<|rLz [] rfl gv1 trivial (fun g17_12 => zD rfl fd42_3 rfl) rfl<|rLz [(112,_)] rfl gv1 ⟨rfl,rfl,trivial⟩ (fun g17_12 => zC rfl one3 rfl (zF 1 rfl) rfl) rfl<|rLz [] rfl gv1 trivial (fun g17_12 => zD rfl fd42_3 rfl) rfl<|rLz [(114,_)] rfl gv1 ⟨rfl,rfl,trivial⟩ (fun g17_12 => zC rfl one3 rfl (zF 0 rfl) rfl) rfl<|rLz [(113,_),(115,_)] rfl gv1 ⟨rfl,rfl,rfl,rfl,trivial⟩ (fun g17_12 => qH rfl rfl rfl) rfl<|zA rfl rfl (qP rfl rfl rfl (fun h => h) rfl)<|rMv rfl<|rLz [] rfl gv1 trivial (fun g17_19 => zD rfl zGr rfl) rfl<|rLz [(119,_)] rfl gv1 ⟨rfl,rfl,trivial⟩ (fun g17_19 => zC rfl zEn rfl (zF 1 rfl) rfl) rfl<|rLz [] rfl gv1 trivial (fun g17_19 => zD rfl zGr rfl) rfl<|rLz [(121,_)] rfl gv1 ⟨rfl,rfl,trivial⟩ (fun g17_19 => zC rfl zEn rfl (zF 0 rfl) rfl) rfl<|rLz [(120,_),(122,_)] rfl gv1 ⟨rfl,rfl,rfl,rfl,trivial⟩ (fun g17_19 => zR rfl ok23 (upI (zIz (bufD n.Bufs s).Dims (bufD n.Bufs s).Dims (by omega))) ⟨VLe.refl _,rfl,VLe.refl _,rfl,trivial⟩) rfl<|zA rfl rfl (qP rfl rfl rfl (fun h => h) rfl)<|rMv rfl<|zB<|zJ<|yI 53 mixed (by kernel_rfl) rfl rfl<|zM rfl rfl (zE rfl zAd rfl (zF 4 rfl) rfl)<|zM rfl rfl (zR rfl ok24 (upI (zIh n (by omega))) ⟨VLe.refl _,rfl,trivial⟩)<|zM rfl rfl (zE rfl zAd rfl (zF 4 rfl) rfl)<|zM rfl rfl (zR rfl ok33 (upI (ref30_Size n (by omega))) ⟨VLe.refl _,rfl,trivial⟩)<|zM rfl rfl (qH rfl rfl rfl)<|zM rfl rfl (zO rfl rfl)<|qN [] rfl rfl rfl rfl gv1 trivial (fun g18_5 => zE rfl zAd rfl (zF 4 rfl) rfl) rfl<|qN [(131,_)] rfl rfl rfl rfl gv1 ⟨rfl,rfl,trivial⟩ (fun g18_5 => zR rfl ok35 (OwnR.pur (upI (loopnest_Loops n (by omega)))) ⟨VLe.refl _,rfl,trivial⟩) rfl<|qN [] rfl rfl rfl rfl gv1 trivial (fun g18_5 => zE rfl zAd rfl (zF 4 rfl) rfl) rfl<|qN [(133,_)] rfl rfl rfl rfl gv1 ⟨rfl,rfl,trivial⟩ (fun g18_5 => zR rfl ok36 (upI (ref30_Loops n (by omega))) ⟨VLe.refl _,rfl,trivial⟩) rfl<|qN [(132,_),(134,_)] rfl rfl rfl rfl gv1 ⟨rfl,rfl,rfl,rfl,trivial⟩ (fun g18_5 => zR rfl ok34 (upI (base_Strings (loopsL n.Body) (loopsL n.Body) (by omega))) ⟨VLe.refl _,rfl,VLe.refl _,rfl,trivial⟩) rfl<|zM rfl rfl (qP rfl rfl rfl (fun h => h) rfl)<|zM rfl rfl (zO rfl rfl)<|qN [] rfl rfl rfl rfl gv1 trivial (fun g18_12 => zO rfl rfl) rfl<|qN [] rfl rfl rfl rfl gv1 trivial (fun g18_12 => zO rfl rfl) rfl<|qN [(138,_),(139,_)] rfl rfl rfl rfl gv1 ⟨rfl,rfl,rfl,rfl,trivial⟩ (fun g18_12 => det_beql rfl un4 rfl rfl) rfl<|zM rfl rfl (qP rfl rfl rfl (fun h => h) rfl)<|zM rfl rfl (zO rfl rfl)<|qN [] rfl rfl rfl rfl gv1 trivial (fun g18_17 => zO rfl rfl) rfl<|qN [] rfl rfl rfl rfl gv1 trivial (fun g18_17 => zO rfl rfl) rfl<|qN [(143,_),(144,_)] rfl rfl rfl rfl gv1 ⟨rfl,rfl,rfl,rfl,trivial⟩ (fun g18_17 => zR rfl ok23 (upI (zIz ((findN n.Body s).getD []) ((findN n.Body s).getD []) (by omega))) ⟨VLe.refl _,rfl,VLe.refl _,rfl,trivial⟩) rfl<|zM rfl rfl (qP rfl rfl rfl (fun h => h) rfl)<|zM rfl rfl (zO rfl rfl)<|qN [] rfl rfl rfl rfl gv1 trivial (fun g18_22 => zO rfl rfl) rfl<|qN [] rfl rfl rfl rfl gv1 trivial (fun g18_22 => zO rfl rfl) rfl<|qN [(148,_),(149,_)] rfl rfl rfl rfl gv1 ⟨rfl,rfl,rfl,rfl,trivial⟩ (fun g18_22 => det_beql rfl un4 rfl rfl) rfl<|zM rfl rfl (qP rfl rfl rfl (fun h => h) rfl)<|zM rfl rfl (zO rfl rfl)<|qN [] rfl rfl rfl rfl gv1 trivial (fun g18_27 => zE rfl zCt rfl (zF 3 rfl) rfl) rfl ?_
    refine qN [] rfl rfl rfl rfl gv1 trivial (fun g18_27 => zE rfl zCt rfl (zF 2 rfl) rfl) rfl<|qN [(153,_),(154,_)] rfl rfl rfl rfl gv1 ⟨rfl,rfl,rfl,rfl,trivial⟩ (fun g18_27 => zR rfl ok37 (upI (base_Stmt (atT n.Body way).1 (atT n.Body way).1 (by omega))) ⟨VLe.refl _,rfl,VLe.refl _,rfl,trivial⟩) rfl<|zM rfl rfl (qP rfl rfl rfl (fun h => h) rfl)<|zM rfl rfl (zO rfl rfl)<|qN [] rfl rfl rfl rfl gv1 trivial (fun g18_32 => zO rfl rfl) rfl<|qN [] rfl rfl rfl rfl gv1 trivial (fun g18_32 => zO rfl rfl) rfl<|qN [(158,_),(159,_)] rfl rfl rfl rfl gv1 ⟨rfl,rfl,rfl,rfl,trivial⟩ (fun g18_32 => det_beql rfl un4 rfl rfl) rfl<|zM rfl rfl (qP rfl rfl rfl (fun h => h) rfl)<|zM rfl rfl (zO rfl rfl)<|qN [] rfl rfl rfl rfl gv1 trivial (fun g18_37 => zO rfl rfl) rfl<|zM rfl rfl (qP rfl rfl rfl (fun h => h) rfl)<|zM rfl rfl (zO rfl rfl)<|qN [] rfl rfl rfl rfl gv1 trivial (fun g18_40 => zE rfl zAd rfl (zF 4 rfl) rfl) rfl<|qN [] rfl rfl rfl rfl gv1 trivial (fun g18_40 => zO rfl rfl) rfl<|qN [(166,_),(167,_)] rfl rfl rfl rfl gv1 ⟨rfl,rfl,rfl,rfl,trivial⟩ (fun g18_40 => zR rfl ok38 (zCg n s (by omega) (by omega) (by omega)) ⟨VLe.refl _,rfl,VLe.refl _,rfl,trivial⟩) rfl<|qN [] rfl rfl rfl rfl gv1 trivial (fun g18_40 => zE rfl zAd rfl (zF 4 rfl) rfl) rfl<|qN [] rfl rfl rfl rfl gv1 trivial (fun g18_40 => zO rfl rfl) rfl<|qN [(169,_),(170,_)] rfl rfl rfl rfl gv1 ⟨rfl,rfl,rfl,rfl,trivial⟩ (fun g18_40 => zR rfl ok39 (upI (zMy n s hok (by omega) (by omega) (by omega))) ⟨VLe.refl _,rfl,VLe.refl _,rfl,trivial⟩) rfl<|qN [(168,_),(171,_)] rfl rfl rfl rfl gv1 ⟨rfl,rfl,rfl,rfl,trivial⟩ (fun g18_40 => yG rfl rfl rfl) rfl<|zM rfl rfl (qP rfl rfl rfl (fun h => h) rfl)<|zM rfl rfl (zO rfl rfl)<|qN [] rfl rfl rfl rfl gv1 trivial (fun g18_49 => zR rfl ok21 law30_live trivial) rfl<|zM rfl rfl (qP rfl rfl rfl (fun h => h) rfl)<|zM rfl rfl (yQ rfl rfl)<|kI<|zB<|zH<|fin1 (rs_c rfl) ?_
    exact congrArg vB (by simp; exact ty_self (bufD n.Bufs s).T)
end Go.W
