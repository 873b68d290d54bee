/-
  Walks: what functions of the program compute. Printed by wip/gen/mk2.py.
  Conditions: none.
-/
import Derived.Test.YtdbflnlalkfeeaaGreatDoorNJ
set_option maxRecDepth 10000
namespace Go.W
open Go Go.Eng Go.Proofs Go.L41 Go.Br
attribute [local irreducible] AWP RWP TD finQ
theorem ok37 : callOk Tryz.prog 37 = true:= by kernel_rfl
theorem ok46 : callOk Tryz.prog 46 = true:= by kernel_rfl
theorem ok47 : callOk Tryz.prog 47 = true:= by kernel_rfl
theorem ok95 : callOk Tryz.prog 95 = true:= by kernel_rfl
theorem ok98 : callOk Tryz.prog 98 = true:= by kernel_rfl
theorem ok100 : callOk Tryz.prog 100 = true:= by kernel_rfl
theorem zKj (a b : List St) (hE : ∀ x,x ∈ a → ∀ y,Pur cfg 37 [vSt x,vSt y] (vB (decide (x = y)))) (ha : a.length ≤ 4294967296) :
    Pur cfg 46 [vSts a,vSts b] (vB (decide (a = b))):= by
 refine zV Tryz.func46 rfl Tryz.ntmps46 Tryz.results46 rfl ?_
 intro z hz
 refine sReg rfl<|rMv rfl<|zB<|zJ<|sReg rfl<|rMv rfl<|zA rfl rfl (zT rfl el23 rfl)<|rMv rfl<|zA rfl rfl (zT rfl el23 rfl)<|zA rfl rfl (qS rfl rfl rfl)<|zB<|zG rfl (fun c1 => ?_) (fun c1 => ?_)
 ·try simp only [sx] at c1
  refine sReg rfl<|rMv rfl<|zB<|zH<|fin1 (rs_c rfl) ?_
  rw [yW (fun h => c1 (by rw [h]))]
 ·try simp only [sx] at c1
  refine zK<|zJ<|sReg rfl<|rMv rfl<|zB<|zU<|zX ⟨[(5,.c _),(0,.c _),(1,.c _)],[]⟩ (Weak.mk [] ⟨VLe.of_eq rfl,VLe.of_eq rfl,VLe.of_eq rfl,trivial⟩ rfl)<|qI 1 0 rfl rfl (Nat) (fun k => [(5,vI k)]) (fun k => []) (fun k => k ≤ a.length ∧ (a.take k = b.take k)) (fun k => a.length - k) ⟨0,⟨by omega,rfl⟩,Weak.mk [] ⟨VLe.refl _,VLe.refl _,VLe.refl _,trivial⟩ rfl⟩ ?_
  rintro k ⟨hk,hp⟩
  refine zJ<|sReg rfl<|rMv rfl<|rMv rfl<|zA rfl rfl (zT rfl el23 rfl)<|zA rfl rfl (qL rfl rfl rfl)<|zB<|zG rfl (fun c2 => ?_) (fun c2 => ?_)
  ·try simp only [sx] at c2
   obtain ⟨x,hx⟩ := qZ a k (by omega)
   obtain ⟨y,hy⟩ := qZ b k (by omega)
   refine zK<|zJ<|zU<|zJ<|yG 10 mixed (by kernel_rfl) rfl rfl<|zM rfl rfl (zN rfl rfl)<|zM rfl rfl (zN rfl rfl)<|zM rfl rfl (zP rfl el23 rfl rfl (by omega) (zBk hx))<|zM rfl rfl (zF rfl zGu rfl qA rfl)<|zM rfl rfl (zN rfl rfl)<|zM rfl rfl (zN rfl rfl)<|zM rfl rfl (zP rfl el23 rfl rfl (by omega) (zBk hy))<|zM rfl rfl (zF rfl zGu rfl qA rfl)<|zM rfl rfl (zQ rfl ok37 (hE x (qB hx) y) ⟨VLe.refl _,rfl,VLe.refl _,rfl,trivial⟩)<|zM rfl rfl (yA rfl rfl)<|kI<|zB<|zG rfl (fun c3 => ?_) (fun c3 => ?_)
   ·try simp only [sx] at c3
    refine sReg rfl<|rMv rfl<|zB<|zH<|fin1 (rs_c rfl) ?_
    rw [yW (zDq hx hy c3)]
   ·try simp only [sx] at c3
    refine zK<|zR rfl<|rMv rfl<|zA rfl rfl (qC rfl rfl rfl ⟨by omega,by omega⟩)<|rMv rfl<|zB ?_
    refine ⟨k + 1,⟨by omega,zBa hx hy hp c3⟩,(by omega),Weak.mk [] ⟨VLe.refl _,VLe.refl _,VLe.refl _,trivial⟩ rfl⟩
  ·try simp only [sx] at c2
   refine qO<|sReg rfl<|rMv rfl<|zB<|zH<|fin1 (rs_c rfl) ?_
   rw [wR (zCo hp (by omega) (by omega))]
theorem base_Stmt_step (a : St) (ih : ∀ x,x ∈ a.Body → x.wt ≤ 4294967296 → ∀ y,Pur cfg 37 [vSt x,vSt y] (vB (decide (x = y)))) (ha : a.wt ≤ 4294967296) (b : St) :
    Pur cfg 37 [vSt a,vSt b] (vB (decide (a = b))):= by
 refine zV Tryz.func37 rfl Tryz.ntmps37 Tryz.results37 rfl ?_
 intro z hz
 have hw := St.wt_eq a
 have hbl := wD a.Body
 refine sReg rfl<|zY rfl rfl (qM rfl rfl) ?_
 rintro _ _ ⟨b1,rfl,rfl⟩
 refine zY rfl rfl (qM rfl rfl) ?_
 rintro _ _ ⟨b2,rfl,rfl⟩
 refine rMv rfl<|zB<|sReg rfl<|zA rfl rfl (zC rfl zCx rfl)<|zA rfl rfl (zD rfl one3 rfl (zE 1 rfl) rfl)<|zA rfl rfl (zC rfl zCx rfl)<|zA rfl rfl (zD rfl one3 rfl (zE 0 rfl) rfl)<|zA rfl rfl (qJ rfl rfl rfl)<|rMv rfl<|rLz [] rfl gv1 trivial (fun g1_5 => zC rfl zBp rfl) rfl<|rLz [(11,_)] rfl gv1 ⟨rfl,rfl,trivial⟩ (fun g1_5 => zD rfl one9 rfl (zE 1 rfl) rfl) rfl<|rLz [] rfl gv1 trivial (fun g1_5 => zC rfl zBp rfl) rfl<|rLz [(13,_)] rfl gv1 ⟨rfl,rfl,trivial⟩ (fun g1_5 => zD rfl one9 rfl (zE 0 rfl) rfl) rfl<|rLz [(12,_),(14,_)] rfl gv1 ⟨rfl,rfl,rfl,rfl,trivial⟩ (fun g1_5 => yL rfl rfl rfl) rfl<|zA rfl rfl (qP rfl rfl rfl (fun h => h) rfl)<|rMv rfl<|rLz [] rfl gv1 trivial (fun g1_12 => zC rfl fd54_2 rfl) rfl<|rLz [(18,_)] rfl gv1 ⟨rfl,rfl,trivial⟩ (fun g1_12 => zD rfl one3 rfl (zE 1 rfl) rfl) rfl<|rLz [] rfl gv1 trivial (fun g1_12 => zC rfl fd54_2 rfl) rfl<|rLz [(20,_)] rfl gv1 ⟨rfl,rfl,trivial⟩ (fun g1_12 => zD rfl one3 rfl (zE 0 rfl) rfl) rfl<|rLz [(19,_),(21,_)] rfl gv1 ⟨rfl,rfl,rfl,rfl,trivial⟩ (fun g1_12 => qJ rfl rfl rfl) rfl<|zA rfl rfl (qP rfl rfl rfl (fun h => h) rfl)<|rMv rfl<|rLz [] rfl gv1 trivial (fun g1_19 => zC rfl fd54_3 rfl) rfl<|rLz [(25,_)] rfl gv1 ⟨rfl,rfl,trivial⟩ (fun g1_19 => zD rfl one3 rfl (zE 1 rfl) rfl) rfl<|rLz [] rfl gv1 trivial (fun g1_19 => zC rfl fd54_3 rfl) rfl<|rLz [(27,_)] rfl gv1 ⟨rfl,rfl,trivial⟩ (fun g1_19 => zD rfl one3 rfl (zE 0 rfl) rfl) rfl<|rLz [(26,_),(28,_)] rfl gv1 ⟨rfl,rfl,rfl,rfl,trivial⟩ (fun g1_19 => qJ rfl rfl rfl) rfl<|zA rfl rfl (qP rfl rfl rfl (fun h => h) rfl)<|rMv rfl<|rLz [] rfl gv1 trivial (fun g1_26 => zC rfl fd54_4 rfl) rfl<|rLz [(32,_)] rfl gv1 ⟨rfl,rfl,trivial⟩ (fun g1_26 => zD rfl one3 rfl (zE 1 rfl) rfl) rfl<|rLz [] rfl gv1 trivial (fun g1_26 => zC rfl fd54_4 rfl) rfl<|rLz [(34,_)] rfl gv1 ⟨rfl,rfl,trivial⟩ (fun g1_26 => zD rfl one3 rfl (zE 0 rfl) rfl) rfl<|rLz [(33,_),(35,_)] rfl gv1 ⟨rfl,rfl,rfl,rfl,trivial⟩ (fun g1_26 => qJ rfl rfl rfl) rfl<|zA rfl rfl (qP rfl rfl rfl (fun h => h) rfl)<|rMv rfl<|rLz [] rfl gv1 trivial (fun g1_33 => zC rfl zBe rfl) rfl<|rLz [(39,_)] rfl gv1 ⟨rfl,rfl,trivial⟩ (fun g1_33 => zD rfl wF rfl (zE 1 rfl) rfl) rfl<|rLz [] rfl gv1 trivial (fun g1_33 => zC rfl zBe rfl) rfl<|rLz [(41,_)] rfl gv1 ⟨rfl,rfl,trivial⟩ (fun g1_33 => zD rfl wF rfl (zE 0 rfl) rfl) rfl<|rLz [(40,_),(42,_)] rfl gv1 ⟨rfl,rfl,rfl,rfl,trivial⟩ (fun g1_33 => zQ rfl ok81 (zMf a.Idx b.Idx (by omega) (by omega)) ⟨VLe.refl _,rfl,VLe.refl _,rfl,trivial⟩) rfl<|zA rfl rfl (qP rfl rfl rfl (fun h => h) rfl)<|rMv rfl<|rLz [] rfl gv1 trivial (fun g1_40 => zC rfl zAh rfl) rfl<|rLz [(46,_)] rfl gv1 ⟨rfl,rfl,trivial⟩ (fun g1_40 => zF rfl yY rfl (zE 1 rfl) rfl) rfl<|rLz [] rfl gv1 trivial (fun g1_40 => zC rfl zAh rfl) rfl<|rLz [(48,_)] rfl gv1 ⟨rfl,rfl,trivial⟩ (fun g1_40 => zF rfl yY rfl (zE 0 rfl) rfl) rfl<|rLz [(47,_),(49,_)] rfl gv1 ⟨rfl,rfl,rfl,rfl,trivial⟩ (fun g1_40 => zQ rfl ok82 (base_Expr a.E b.E (by omega)) ⟨VLe.refl _,rfl,VLe.refl _,rfl,trivial⟩) rfl<|zA rfl rfl (qP rfl rfl rfl (fun h => h) rfl)<|rMv rfl<|rLz [] rfl gv1 trivial (fun g1_47 => zC rfl zAa rfl) rfl<|rLz [(53,_)] rfl gv1 ⟨rfl,rfl,trivial⟩ (fun g1_47 => zD rfl zCh rfl (zE 1 rfl) rfl) rfl<|rLz [] rfl gv1 trivial (fun g1_47 => zC rfl zAa rfl) rfl<|rLz [(55,_)] rfl gv1 ⟨rfl,rfl,trivial⟩ (fun g1_47 => zD rfl zCh rfl (zE 0 rfl) rfl) rfl<|rLz [(54,_),(56,_)] rfl gv1 ⟨rfl,rfl,rfl,rfl,trivial⟩ (fun g1_47 => zQ rfl ok46 (zKj a.Body b.Body (fun x hx y => ih x hx (by have := kA hx; omega) y) (by omega)) ⟨VLe.refl _,rfl,VLe.refl _,rfl,trivial⟩) rfl<|zA rfl rfl (qP rfl rfl rfl (fun h => h) rfl)<|rMv rfl<|zB<|zH<|fin1 (rs_c rfl) ?_
 exact congrArg vB (st_eq a b)
theorem base_Stmt (a b : St) (ha : a.wt ≤ 4294967296) : Pur cfg 37 [vSt a,vSt b] (vB (decide (a = b))):= by
  induction a using St.ind generalizing b with
  | _ a ih => exact base_Stmt_step a (fun x hx h y => ih x hx y h) ha b
theorem base_Stmts (a b : List St) (ha : stsWt a ≤ 4294967296) : Pur cfg 46 [vSts a,vSts b] (vB (decide (a = b))) :=
  zKj a b (fun x hx y => base_Stmt x y (by have := kA hx; omega)) (by have := wD a; omega)
theorem lin_SubstR (l : Lf) (s : ByteArray) (u : Lf) (hl : l.L.length ≤ 4294967296) (ht : u.L.length ≤ 4294967296) (hrl : l.rng) (hrt : u.rng) : Pur cfg 95 [vLin l,vS s,vLin u] (.tup [vLin (substR l s u).1,vI (substR l s u).2]):= by
  have h := lin_Substitute l s u hl ht hrl hrt
  rw [subst_eq hrl] at h; exact h
theorem rename_1 (f t : ByteArray) (l : Lf) (hl : l.L.length ≤ 1073741824) (hr : l.rng) :
    Pur cfg 98 [vLin l,.c (.iptr [cS f]),.c (.iptr (vrL t).cells)] (.tup [vLin (softR f t l),vI 0]):= by
 refine zV Tryz.func98 rfl Tryz.ntmps98 Tryz.results98 rfl ?_
 intro z hz
 refine sReg rfl<|zY rfl rfl (qM rfl rfl) ?_
 rintro _ _ ⟨b1,rfl,rfl⟩
 refine zY rfl rfl (qH [none,some 2] rfl zr49 rfl) ?_
 rintro _ _ ⟨b2,rfl,rfl⟩
 refine rMv rfl<|zB<|sReg rfl<|zA rfl rfl (zF rfl yI rfl (zE 1 rfl) rfl)<|zA rfl rfl (zD rfl one9 rfl qA rfl)<|zA rfl rfl (zF rfl yI rfl qA rfl)<|zA rfl rfl (zQ rfl ok95 (lin_SubstR l f (vrL t) (by omega) (by show 1 ≤ 4294967296; omega) hr (vrL_rng t)) ⟨VLe.refl _,rfl,VLe.refl _,rfl,VLe.refl _,rfl,trivial⟩)<|zA rfl rfl (qK rfl rfl)<|zA rfl rfl (yE rfl rfl rfl)<|zA rfl rfl (qN rfl rfl rfl)<|zY rfl rfl (qH [none,some 2] rfl zr49 rfl) ?_
 rintro _ _ ⟨b3,rfl,rfl⟩
 refine zS rfl rfl (zO rfl sz49 rfl rfl rfl (qE 0 rfl rfl))<|rMv rfl<|zB<|zJ<|sReg rfl<|rMv rfl<|zA rfl rfl (qS rfl rfl rfl)<|zB<|zG rfl (fun c1 => ?_) (fun c1 => ?_)
 ·try simp only [sx] at c1
  refine zR rfl<|zA rfl rfl (zF rfl yI rfl (zE 2 rfl) rfl)<|zA rfl rfl (zQ rfl ok99 (zMk l hl) ⟨VLe.refl _,rfl,trivial⟩)<|zS rfl rfl (zO rfl sz49 rfl rfl rfl (qE 0 rfl rfl))<|zB<|sReg rfl<|zA rfl rfl (zF rfl yI rfl (zE 0 rfl) rfl)<|zS rfl rfl (zO rfl sz49 rfl rfl rfl (qE 1 rfl rfl))<|rMv rfl<|zB<|zH<|fin2 (qF yI rfl (zE 1 rfl) rfl) (rs_c rfl) ?_
  rw [show softR f t l = l from if_neg c1]; rfl
 ·try simp only [sx] at c1
  refine zK<|sReg rfl<|zA rfl rfl (zF rfl yI rfl (zE 0 rfl) rfl)<|zS rfl rfl (zO rfl sz49 rfl rfl rfl (qE 1 rfl rfl))<|rMv rfl<|zB<|zH<|fin2 (qF yI rfl (zE 1 rfl) rfl) (rs_c rfl) ?_
  rw [show softR f t l = (substR l f (vrL t)).1 from if_pos c1]; rfl
theorem rename_2 (f t s : ByteArray) :
    Pur cfg 100 [vS s,.c (.iptr [cS f]),.c (.iptr [cS t])] (vS (renB f t s)):= by
 refine zV Tryz.func100 rfl Tryz.ntmps100 Tryz.results100 rfl ?_
 intro z hz
 refine sReg rfl<|rMv rfl<|zB<|zJ<|sReg rfl<|rMv rfl<|zA rfl rfl (zD rfl one9 rfl qA rfl)<|zA rfl rfl (yL rfl rfl rfl)<|zB<|zG rfl (fun c1 => ?_) (fun c1 => ?_)
 ·try simp only [sx] at c1
  refine sReg rfl<|zA rfl rfl (zD rfl one9 rfl qA rfl)<|rMv rfl<|zB<|zH<|fin1 (rs_c rfl) ?_
  rw [show renB f t s = t from if_pos c1]
 ·try simp only [sx] at c1
  refine zK<|sReg rfl<|rMv rfl<|rMv rfl<|zB<|zH<|fin1 (rs_c rfl) ?_
  rw [show renB f t s = s from if_neg c1]
theorem zPi (l : List St) (f t : ByteArray) (hl : stsWt l ≤ 1000000000) (hr : allSs Lf.rng l) :
    Pur cfg 47 [vSts l,vS f,vS t] (vSts (renT f t l)):= by
 refine zV Tryz.func47 rfl Tryz.ntmps47 Tryz.results47 rfl ?_
 intro z hz
 refine sReg rfl<|zY rfl rfl (qM rfl rfl) ?_
 rintro _ _ ⟨b1,rfl,rfl⟩
 refine qY _ (yF 0 rfl 4 _ PLe.ptr)<|zY rfl rfl (qM rfl rfl) ?_
 rintro _ _ ⟨b2,rfl,rfl⟩
 refine qY _ (yF 0 rfl 5 _ PLe.ptr)<|zA rfl rfl (qW 20 rfl rfl)<|zB<|sReg rfl<|zA rfl rfl (zD rfl one9 rfl qA rfl)<|zA rfl rfl (qU rfl zCc pl111 rfl)<|zA rfl rfl (qV rfl el47 zCc rfl rfl rfl rfl)<|zA rfl rfl (qU rfl zr49 pl49 rfl)<|zY rfl rfl (qH [none,some 2] rfl zr49 rfl) ?_
 rintro _ _ ⟨b3,rfl,rfl⟩
 refine zS rfl rfl (zO rfl sz49 rfl rfl rfl (qE 0 rfl rfl))<|qY _ (yF 0 rfl 7 _ PLe.ptr)<|zB<|sReg rfl<|rMv rfl<|zA rfl rfl (zAg rfl rfl rfl rfl rfl)<|zA rfl rfl (zAg rfl rfl rfl rfl rfl)<|zA rfl rfl (zQ rfl ok93 (zDu (fun l => (softR f t l,0)) _ (fun l => l.rng ∧ l.L.length ≤ 1073741824) (fun l hl => FnPur.of_pur (first := []) (cap := [.iptr [cS f],.iptr (vrL t).cells]) ok98 (rename_1 f t l hl.2 hl.1)) (renB f t) _ (fun s => FnPur.of_pur (first := []) (cap := [.iptr [cS f],.iptr [cS t]]) ok100 (rename_2 f t s)) l (zKn l hr (sts_short (by omega))) (by omega)) ⟨VLe.refl _,rfl,VLe.refl _,rfl,VLe.refl _,rfl,trivial⟩)<|zA rfl rfl (qK rfl rfl)<|zA rfl rfl (qN rfl rfl rfl)<|zA rfl rfl (qN rfl rfl rfl)<|rMv rfl<|rMv rfl<|zB<|sReg rfl<|rMv rfl<|rMv rfl<|zB<|zH<|fin1 (rs_c rfl) ?_
 rw [zPc]; rfl
end Go.W
