/-
  Walks: what functions of the program compute. Printed by wip/gen/mk2.py.
  Conditions: none.
-/
import Derived.Test.YtdbflnlalkfeeaaGreatDoorNJ
set_option maxRecDepth 10000
namespace Go.W
open Go Go.Eng Go.Proofs Go.L41 Go.Br
attribute [local irreducible] AWP RWP TD finQ
theorem ik3 : intT Tryz.prog 3 = some .i64:= by kernel_rfl
theorem ok35 : callOk Tryz.prog 35 = true:= by kernel_rfl
theorem ok37 : callOk Tryz.prog 37 = true:= by kernel_rfl
theorem ok46 : callOk Tryz.prog 46 = true:= by kernel_rfl
theorem ok47 : callOk Tryz.prog 47 = true:= by kernel_rfl
theorem ok95 : callOk Tryz.prog 95 = true:= by kernel_rfl
theorem ok98 : callOk Tryz.prog 98 = true:= by kernel_rfl
theorem ok100 : callOk Tryz.prog 100 = true:= by kernel_rfl
theorem zLa (a b : List St) (hE : ∀ x,x ∈ a → ∀ y,Pur cfg 37 [vSt x,vSt y] (vB (decide (x = y)))) (ha : a.length ≤ 4294967296) :
    Pur cfg 46 [vSts a,vSts b] (vB (decide (a = b))):= by
 refine zV Tryz.func46 rfl Tryz.ntmps46 Tryz.results46 rfl ?_
 intro z hz
 refine sReg rfl<|rMv rfl<|zB<|zK<|sReg rfl<|rMv rfl<|zA rfl (zR rfl el23 rfl)<|rMv rfl<|zA rfl (zR rfl el23 rfl)<|zA rfl (qR rfl rfl rfl)<|zB<|zH rfl (fun c1 => ?_) (fun c1 => ?_)
 ·try simp only [sx] at c1
  refine sReg rfl<|rMv rfl<|zB<|zI<|zQ rfl ?_
  rw [yM (fun h => c1 (by rw [h]))]
 ·try simp only [sx] at c1
  refine zJ<|zK<|sReg rfl<|rMv rfl<|zB<|zS<|zY ⟨[(5,.c _),(0,.c _),(1,.c _)],[]⟩ (Weak.mk [] ⟨zE,zE,zE,trivial⟩ rfl)<|qI 1 0 rfl rfl (Nat) (fun k => [(5,vI k)]) (fun k => []) (fun k => k ≤ a.length ∧ (a.take k = b.take k)) (fun k => a.length - k) ⟨0,⟨by omega,rfl⟩,Weak.mk [] ⟨zE,zE,zE,trivial⟩ rfl⟩ ?_
  rintro k ⟨hk,hp⟩
  refine zK<|sReg rfl<|rMv rfl<|rMv rfl<|zA rfl (zR rfl el23 rfl)<|zA rfl (qM rfl rfl rfl)<|zB<|zH rfl (fun c2 => ?_) (fun c2 => ?_)
  ·try simp only [sx] at c2
   obtain ⟨x,hx⟩ := qX a k (by omega)
   obtain ⟨y,hy⟩ := qX b k (by omega)
   refine zJ<|zK<|zS<|zK<|yC 10 mixed (by kernel_rfl) rfl rfl<|zM rfl rfl (zN rfl rfl)<|zM rfl rfl (zN rfl rfl)<|zM rfl rfl (zO rfl el23 rfl rfl (by omega) (wW hx))<|zM rfl rfl (zG rfl zJd rfl qC rfl)<|zM rfl rfl (zN rfl rfl)<|zM rfl rfl (zN rfl rfl)<|zM rfl rfl (zO rfl el23 rfl rfl (by omega) (wW hy))<|zM rfl rfl (zG rfl zJd rfl qC rfl)<|zM rfl rfl (zP rfl ok37 (hE x (qE hx) y) ⟨zE,rfl,zE,rfl,trivial⟩)<|zM rfl rfl (qT rfl rfl)<|kA<|zB<|zH rfl (fun c3 => ?_) (fun c3 => ?_)
   ·try simp only [sx] at c3
    refine sReg rfl<|rMv rfl<|zB<|zI<|zQ rfl ?_
    rw [yM (zDr hx hy c3)]
   ·try simp only [sx] at c3
    refine zJ<|zU rfl<|rMv rfl<|zA rfl (qB rfl rfl rfl ⟨by omega,by omega⟩)<|rMv rfl<|zB ?_
    refine ⟨k + 1,⟨by omega,zBc hx hy hp c3⟩,(by omega),Weak.mk [] ⟨zE,zE,zE,trivial⟩ rfl⟩
  ·try simp only [sx] at c2
   refine qN<|sReg rfl<|rMv rfl<|zB<|zI<|zQ rfl ?_
   rw [kX (zCh hp (by omega) (by omega))]
theorem base_Stmt_step (a : St) (ih : ∀ x,x ∈ a.Body → x.wt ≤ 4294967296 → ∀ y,Pur cfg 37 [vSt x,vSt y] (vB (decide (x = y)))) (ha : a.wt ≤ 4294967296) (b : St) :
    Pur cfg 37 [vSt a,vSt b] (vB (decide (a = b))):= by
 refine zV Tryz.func37 rfl Tryz.ntmps37 Tryz.results37 rfl ?_
 intro z hz
 have hw := St.wt_eq a
 have hbl := wA a.Body
 refine sReg rfl<|qA rfl rfl (qL rfl rfl) ?_
 rintro _ _ ⟨b1,rfl,rfl⟩
 refine qA rfl rfl (qL rfl rfl) ?_
 rintro _ _ ⟨b2,rfl,rfl⟩
 refine rMv rfl<|zB<|sReg rfl<|zA rfl (zC rfl zAc rfl)<|zA rfl (zD rfl one3 rfl (zF 1 rfl) rfl)<|zA rfl (zC rfl zAc rfl)<|zA rfl (zD rfl one3 rfl (zF 0 rfl) rfl)<|zA rfl (qF rfl rfl rfl)<|rMv rfl<|rLz [] rfl gv1 trivial (fun g1_5 => zC rfl wQ rfl) rfl<|rLz [(11,_)] rfl gv1 ⟨rfl,rfl,trivial⟩ (fun g1_5 => zD rfl one9 rfl (zF 1 rfl) rfl) rfl<|rLz [] rfl gv1 trivial (fun g1_5 => zC rfl wQ rfl) rfl<|rLz [(13,_)] rfl gv1 ⟨rfl,rfl,trivial⟩ (fun g1_5 => zD rfl one9 rfl (zF 0 rfl) rfl) rfl<|rLz [(12,_),(14,_)] rfl gv1 ⟨rfl,rfl,rfl,rfl,trivial⟩ (fun g1_5 => yP rfl rfl rfl) rfl<|zA rfl (qK rfl rfl rfl (fun h => h) rfl)<|rMv rfl<|rLz [] rfl gv1 trivial (fun g1_12 => zC rfl zIh rfl) rfl<|rLz [(18,_)] rfl gv1 ⟨rfl,rfl,trivial⟩ (fun g1_12 => zD rfl one3 rfl (zF 1 rfl) rfl) rfl<|rLz [] rfl gv1 trivial (fun g1_12 => zC rfl zIh rfl) rfl<|rLz [(20,_)] rfl gv1 ⟨rfl,rfl,trivial⟩ (fun g1_12 => zD rfl one3 rfl (zF 0 rfl) rfl) rfl<|rLz [(19,_),(21,_)] rfl gv1 ⟨rfl,rfl,rfl,rfl,trivial⟩ (fun g1_12 => qF rfl rfl rfl) rfl<|zA rfl (qK rfl rfl rfl (fun h => h) rfl)<|rMv rfl<|rLz [] rfl gv1 trivial (fun g1_19 => zC rfl zMx rfl) rfl<|rLz [(25,_)] rfl gv1 ⟨rfl,rfl,trivial⟩ (fun g1_19 => zD rfl one3 rfl (zF 1 rfl) rfl) rfl<|rLz [] rfl gv1 trivial (fun g1_19 => zC rfl zMx rfl) rfl<|rLz [(27,_)] rfl gv1 ⟨rfl,rfl,trivial⟩ (fun g1_19 => zD rfl one3 rfl (zF 0 rfl) rfl) rfl<|rLz [(26,_),(28,_)] rfl gv1 ⟨rfl,rfl,rfl,rfl,trivial⟩ (fun g1_19 => qF rfl rfl rfl) rfl<|zA rfl (qK rfl rfl rfl (fun h => h) rfl)<|rMv rfl<|rLz [] rfl gv1 trivial (fun g1_26 => zC rfl zMw rfl) rfl<|rLz [(32,_)] rfl gv1 ⟨rfl,rfl,trivial⟩ (fun g1_26 => zD rfl one3 rfl (zF 1 rfl) rfl) rfl<|rLz [] rfl gv1 trivial (fun g1_26 => zC rfl zMw rfl) rfl<|rLz [(34,_)] rfl gv1 ⟨rfl,rfl,trivial⟩ (fun g1_26 => zD rfl one3 rfl (zF 0 rfl) rfl) rfl<|rLz [(33,_),(35,_)] rfl gv1 ⟨rfl,rfl,rfl,rfl,trivial⟩ (fun g1_26 => qF rfl rfl rfl) rfl<|zA rfl (qK rfl rfl rfl (fun h => h) rfl)<|rMv rfl<|rLz [] rfl gv1 trivial (fun g1_33 => zC rfl zBz rfl) rfl<|rLz [(39,_)] rfl gv1 ⟨rfl,rfl,trivial⟩ (fun g1_33 => zD rfl kM rfl (zF 1 rfl) rfl) rfl<|rLz [] rfl gv1 trivial (fun g1_33 => zC rfl zBz rfl) rfl<|rLz [(41,_)] rfl gv1 ⟨rfl,rfl,trivial⟩ (fun g1_33 => zD rfl kM rfl (zF 0 rfl) rfl) rfl<|rLz [(40,_),(42,_)] rfl gv1 ⟨rfl,rfl,rfl,rfl,trivial⟩ (fun g1_33 => zP rfl ok81 (zNc a.Idx b.Idx (by omega) (by omega)) ⟨zE,rfl,zE,rfl,trivial⟩) rfl<|zA rfl (qK rfl rfl rfl (fun h => h) rfl)<|rMv rfl<|rLz [] rfl gv1 trivial (fun g1_40 => zC rfl zAv rfl) rfl<|rLz [(46,_)] rfl gv1 ⟨rfl,rfl,trivial⟩ (fun g1_40 => zG rfl yS rfl (zF 1 rfl) rfl) rfl<|rLz [] rfl gv1 trivial (fun g1_40 => zC rfl zAv rfl) rfl<|rLz [(48,_)] rfl gv1 ⟨rfl,rfl,trivial⟩ (fun g1_40 => zG rfl yS rfl (zF 0 rfl) rfl) rfl<|rLz [(47,_),(49,_)] rfl gv1 ⟨rfl,rfl,rfl,rfl,trivial⟩ (fun g1_40 => zP rfl ok82 (base_Expr a.E b.E (by omega)) ⟨zE,rfl,zE,rfl,trivial⟩) rfl<|zA rfl (qK rfl rfl rfl (fun h => h) rfl)<|rMv rfl<|rLz [] rfl gv1 trivial (fun g1_47 => zC rfl zAn rfl) rfl<|rLz [(53,_)] rfl gv1 ⟨rfl,rfl,trivial⟩ (fun g1_47 => zD rfl zAa rfl (zF 1 rfl) rfl) rfl<|rLz [] rfl gv1 trivial (fun g1_47 => zC rfl zAn rfl) rfl<|rLz [(55,_)] rfl gv1 ⟨rfl,rfl,trivial⟩ (fun g1_47 => zD rfl zAa rfl (zF 0 rfl) rfl) rfl<|rLz [(54,_),(56,_)] rfl gv1 ⟨rfl,rfl,rfl,rfl,trivial⟩ (fun g1_47 => zP rfl ok46 (zLa a.Body b.Body (fun x hx y => ih x hx (by have := yY hx; omega) y) (by omega)) ⟨zE,rfl,zE,rfl,trivial⟩) rfl<|zA rfl (qK rfl rfl rfl (fun h => h) rfl)<|rMv rfl<|zB<|zI<|zQ rfl ?_
 exact congrArg vB (st_eq a b)
theorem base_Stmt (a b : St) (ha : a.wt ≤ 4294967296) : Pur cfg 37 [vSt a,vSt b] (vB (decide (a = b))):= by
  induction a using St.ind generalizing b with
  | _ a ih => exact base_Stmt_step a (fun x hx h y => ih x hx y h) ha b
theorem base_Stmts (a b : List St) (ha : stsWt a ≤ 4294967296) : Pur cfg 46 [vSts a,vSts b] (vB (decide (a = b))) :=
  zLa a b (fun x hx y => base_Stmt x y (by have := yY hx; omega)) (by have := wA a; omega)
theorem lin_SubstR (l : Lf) (s : ByteArray) (u : Lf) (hl : l.L.length ≤ 4294967296) (ht : u.L.length ≤ 4294967296) (hrl : l.rng) (hrt : u.rng) : Pur cfg 95 [vLin l,vS s,vLin u] (.tup [vLin (substR l s u).1,vI (substR l s u).2]):= by
  have h := lin_Substitute l s u hl ht hrl hrt
  rw [subst_eq hrl] at h; exact h
theorem rename_1 (f t : ByteArray) (l : Lf) (hl : l.L.length ≤ 1073741824) (hr : l.rng) :
    Pur cfg 98 [vLin l,.c (.iptr [cS f]),.c (.iptr (vrL t).cells)] (.tup [vLin (softR f t l),vI 0]):= by
 refine zV Tryz.func98 rfl Tryz.ntmps98 Tryz.results98 rfl ?_
 intro z hz
 refine sReg rfl<|qA rfl rfl (qL rfl rfl) ?_
 rintro _ _ ⟨b1,rfl,rfl⟩
 refine qA rfl rfl (qO [none,some 2] rfl zr49 rfl) ?_
 rintro _ _ ⟨b2,rfl,rfl⟩
 refine rMv rfl<|zB<|sReg rfl<|zA rfl (zG rfl kG rfl (zF 1 rfl) rfl)<|zA rfl (zD rfl one9 rfl qC rfl)<|zA rfl (zG rfl kG rfl qC rfl)<|zA rfl (zP rfl ok95 (lin_SubstR l f (vrL t) (by omega) (by show 1 ≤ 4294967296; omega) hr (vrL_rng t)) ⟨zE,rfl,zE,rfl,zE,rfl,trivial⟩)<|zA rfl (qP rfl rfl)<|zA rfl (yF rfl rfl rfl)<|zA rfl (qU rfl rfl rfl)<|qA rfl rfl (qO [none,some 2] rfl zr49 rfl) ?_
 rintro _ _ ⟨b3,rfl,rfl⟩
 refine zX rfl rfl (zT rfl sz49 rfl rfl rfl (qH 0 rfl rfl))<|rMv rfl<|zB<|zK<|sReg rfl<|rMv rfl<|zA rfl (qR rfl rfl rfl)<|zB<|zH rfl (fun c1 => ?_) (fun c1 => ?_)
 ·try simp only [sx] at c1
  refine zU rfl<|zA rfl (zG rfl kG rfl (zF 2 rfl) rfl)<|zA rfl (zP rfl ok99 (zNf l hl) ⟨zE,rfl,trivial⟩)<|zX rfl rfl (zT rfl sz49 rfl rfl rfl (qH 0 rfl rfl))<|zB<|sReg rfl<|zA rfl (zG rfl kG rfl (zF 0 rfl) rfl)<|zX rfl rfl (zT rfl sz49 rfl rfl rfl (qH 1 rfl rfl))<|rMv rfl<|zB<|zI<|fin2 (qG kG rfl (zF 1 rfl) rfl) (rs_c rfl) ?_
  rw [show softR f t l = l from if_neg c1]; rfl
 ·try simp only [sx] at c1
  refine zJ<|sReg rfl<|zA rfl (zG rfl kG rfl (zF 0 rfl) rfl)<|zX rfl rfl (zT rfl sz49 rfl rfl rfl (qH 1 rfl rfl))<|rMv rfl<|zB<|zI<|fin2 (qG kG rfl (zF 1 rfl) rfl) (rs_c rfl) ?_
  rw [show softR f t l = (substR l f (vrL t)).1 from if_pos c1]; rfl
theorem rename_2 (f t s : ByteArray) :
    Pur cfg 100 [vS s,.c (.iptr [cS f]),.c (.iptr [cS t])] (vS (renB f t s)):= by
 refine zV Tryz.func100 rfl Tryz.ntmps100 Tryz.results100 rfl ?_
 intro z hz
 refine sReg rfl<|rMv rfl<|zB<|zK<|sReg rfl<|rMv rfl<|zA rfl (zD rfl one9 rfl qC rfl)<|zA rfl (yP rfl rfl rfl)<|zB<|zH rfl (fun c1 => ?_) (fun c1 => ?_)
 ·try simp only [sx] at c1
  refine sReg rfl<|zA rfl (zD rfl one9 rfl qC rfl)<|rMv rfl<|zB<|zI<|zQ rfl ?_
  rw [show renB f t s = t from if_pos c1]
 ·try simp only [sx] at c1
  refine zJ<|sReg rfl<|rMv rfl<|rMv rfl<|zB<|zI<|zQ rfl ?_
  rw [show renB f t s = s from if_neg c1]
theorem zGt (l : List St) (f t : ByteArray) (hl : stsWt l ≤ 1000000000) (hr : allSs Lf.rng l) :
    Pur cfg 47 [vSts l,vS f,vS t] (vSts (renT f t l)):= by
 refine zV Tryz.func47 rfl Tryz.ntmps47 Tryz.results47 rfl ?_
 intro z hz
 refine sReg rfl<|qA rfl rfl (qL rfl rfl) ?_
 rintro _ _ ⟨b1,rfl,rfl⟩
 refine yK _ (yQ 0 rfl 4 _ PLe.ptr)<|qA rfl rfl (qL rfl rfl) ?_
 rintro _ _ ⟨b2,rfl,rfl⟩
 refine yK _ (yQ 0 rfl 5 _ PLe.ptr)<|zA rfl (qY 20 rfl rfl)<|zB<|sReg rfl<|zA rfl (zD rfl one9 rfl qC rfl)<|zA rfl (qV rfl zFu pl111 rfl)<|zA rfl (qZ rfl el47 zFu rfl rfl rfl rfl)<|zA rfl (qV rfl zr49 pl49 rfl)<|qA rfl rfl (qO [none,some 2] rfl zr49 rfl) ?_
 rintro _ _ ⟨b3,rfl,rfl⟩
 refine zX rfl rfl (zT rfl sz49 rfl rfl rfl (qH 0 rfl rfl))<|yK _ (yQ 0 rfl 7 _ PLe.ptr)<|zB<|sReg rfl<|rMv rfl<|zA rfl (zAj rfl rfl rfl rfl rfl)<|zA rfl (zAj rfl rfl rfl rfl rfl)<|zA rfl (zP rfl ok93 (zLv (fun l => (softR f t l,0)) _ (fun l => l.rng ∧ l.L.length ≤ 1073741824) (fun l hl => FnPur.of_pur (first := []) (cap := [.iptr [cS f],.iptr (vrL t).cells]) ok98 (rename_1 f t l hl.2 hl.1)) (renB f t) _ (fun s => FnPur.of_pur (first := []) (cap := [.iptr [cS f],.iptr [cS t]]) ok100 (rename_2 f t s)) l (zLe l hr (sts_short (by omega))) (by omega)) ⟨zE,rfl,zE,rfl,zE,rfl,trivial⟩)<|zA rfl (qP rfl rfl)<|zA rfl (qU rfl rfl rfl)<|zA rfl (qU rfl rfl rfl)<|rMv rfl<|rMv rfl<|zB<|sReg rfl<|rMv rfl<|rMv rfl<|zB<|zI<|zQ rfl ?_
 rw [zQj]; rfl
theorem law_NestFreshNames (n : Ns) (x : Int) (hf : n.Fit) (hr : allSs Lf.rng n.Body) (h0 : 0 ≤ x) (h1 : x ≤ 255) :
    Pur cfgI 10 [vNs n,.c (.lit (.int .u8 x))] (vB true):= by
 refine zV Tryz.func10 rfl Tryz.ntmps10 Tryz.results10 rfl ?_
 intro z hz
 refine sReg rfl<|qA rfl rfl (qL rfl rfl) ?_
 rintro _ _ ⟨b1,rfl,rfl⟩
 refine rMv rfl<|zB<|zK<|sReg rfl<|zA rfl (zG rfl wM rfl (zF 0 rfl) rfl)<|zA rfl (zP rfl ok20 (upI (law30_Few n 300 300 hf (by omega) rfl)) ⟨zE,rfl,zE,rfl,trivial⟩)<|zA rfl (qT rfl rfl)<|zB<|zH rfl (fun c1 => ?_) (fun c1 => ?_)
 ·try simp only [sx] at c1
  refine sReg rfl<|zA rfl (zP rfl ok21 zHq trivial)<|rMv rfl<|zB<|zI<|zQ rfl ?_
  rfl
 ·try simp only [sx] at c1
  obtain ⟨k1,k2,k3,k4⟩ := few_parts c1
  have hok := hf.ok (m := 300) (by omega) k1 k3
  have hw := zOs k3
  have hN := zEh n.Body
  have hll := zLu n.Body
  have hul := usedT_len n
  obtain ⟨hfr1,hfr2⟩ := fresh_is (usedT n) (bs [122])
  obtain ⟨u1,u2,u3⟩ := used_no (t := freshN n (bs [122])) hfr2
  have hnm := fresh_name n (by omega)
  generalize hz9 : freshN n (bs [122]) = nw at *
  refine zJ<|zK<|sReg rfl<|zA rfl (zG rfl wM rfl (zF 0 rfl) rfl)<|zA rfl (zP rfl ok17 (upI (ref30_Validate n hok (by omega))) ⟨zE,rfl,trivial⟩)<|zA rfl (qP rfl rfl)<|zA rfl (qU rfl rfl rfl)<|zA rfl (qU rfl rfl rfl)<|rMv rfl<|rMv rfl<|zB<|sReg rfl<|rMv rfl<|zA rfl (qR rfl rfl rfl)<|zB<|zH rfl (fun c2 => ?_) (fun c2 => ?_)
  ·try simp only [sx] at c2
   refine sReg rfl<|zA rfl (zP rfl ok21 zHq trivial)<|rMv rfl<|zB<|zI<|zQ rfl ?_
   rfl
  ·try simp only [sx] at c2
   refine zJ<|sReg rfl<|zA rfl (zG rfl wM rfl (zF 0 rfl) rfl)<|zA rfl (zP rfl ok35 (OwnR.pur (upI (loopnest_Loops n (by omega)))) ⟨zE,rfl,trivial⟩)<|rMv rfl<|zB<|zK<|sReg rfl<|rMv rfl<|zA rfl (zR rfl el72 rfl)<|zA rfl (qF rfl rfl rfl)<|zB<|zH rfl (fun c3 => ?_) (fun c3 => ?_)
   ·try simp only [sx] at c3
    refine sReg rfl<|zA rfl (zP rfl ok21 zHq trivial)<|rMv rfl<|zB<|zI<|zQ rfl ?_
    rfl
   ·try simp only [sx] at c3
    have hlp : 0 < (loopsL n.Body).length:= by omega
    have hx2 := at_mod hlp h0 h1
    obtain ⟨old,hold⟩ := qX (loopsL n.Body) (at8 (loopsL n.Body).length x).toNat (by omega)
    have hom := qE hold
    have hon := loop_name c2 hom
    have hno : old ≠ nw := fun h => by rw [h] at hom; rw [zAi.2 hom] at u2; cases u2
    have hP := zLe n.Body hr u1
    have hvr := valid_ren hon hnm u3 hP u2 c2
    have hQ := chkL_lin n.Body [] [] [] 0 (zIn c2).2.2.2
    have hbk := zQx hon hnm hno n.Body hP hQ u2
    have hrw := ren_wt old nw n.Body
    have hokm : Ns.Ok ⟨n.Bufs,renT old nw n.Body⟩ := ⟨hok.bufs,hok.dims,by show stsWt (renT old nw n.Body) ≤ _; omega⟩
    have hrr := ren_rng old nw hr
    have hfl : ((findN n.Body old).getD []).length ≤ stsN n.Body:= by rw [zGy]; exact fndL_getD _ _ _
    have hf1 : findN (renT old nw n.Body) nw = findN n.Body old:= by rw [zGy,zGy]; exact fndL_to n.Body 0 u2
    have hf2 : findN (renT old nw n.Body) old = none:= by rw [zGy]; exact zQy hno n.Body 0
    have hmw : stsWt (renT old nw n.Body) ≤ 100000:= by omega
    refine zJ<|sReg rfl<|rMv rfl<|rMv rfl<|zA rfl (zAz rfl us5 ik3 rfl)<|rMv rfl<|zA rfl (zR rfl el72 rfl)<|zA rfl (det_rem rfl rfl rfl (by omega))<|zA rfl (zO rfl el72 rfl rfl (by have := at8_tmod (loopsL n.Body).length h0 h1; omega) (show (strRows (loopsL n.Body))[(Int.tmod (IntKind.i64.wrap x) (loopsL n.Body).length).toNat]? = some [cS old] by have := at8_tmod (loopsL n.Body).length h0 h1; rw [this]; exact getm hold))<|zA rfl (zD rfl one9 rfl qC rfl)<|rMv rfl<|zB<|sReg rfl<|zA rfl (zG rfl wM rfl (zF 0 rfl) rfl)<|zA rfl (zP rfl ok38 (show Pur cfgI 38 [vNs n,vS (bs [122])] (vS nw) by rw [← hz9]; exact zDa n (bs [122]) (by omega) (by omega) (by decide)) ⟨zE,rfl,zE,rfl,trivial⟩)<|rMv rfl<|zB<|zK<|sReg rfl<|rMv rfl<|rMv rfl<|zA rfl (zP rfl ok49 (upI (base_Has (loopsL n.Body) nw (by omega))) ⟨zE,rfl,zE,rfl,trivial⟩)<|rMv rfl<|rLz [] rfl gv1 trivial (fun g11_3 => zN rfl rfl) rfl<|rLz [(52,_)] rfl gv1 ⟨rfl,rfl,trivial⟩ (fun g11_3 => zP rfl ok50 (upI (zEa nw)) ⟨zE,rfl,trivial⟩) rfl<|rLz [(53,_)] rfl gv1 ⟨rfl,rfl,trivial⟩ (fun g11_3 => qT rfl rfl) rfl<|zA rfl (yB rfl rfl rfl rfl (fun h => (lzf h)))<|zB<|zH rfl (fun c4 => ?_) (fun c4 => ?_)
    ·rw [show hasB (loopsL n.Body) nw = false from u2,hnm] at c4
     exact absurd c4 (by simp)
    ·refine zJ<|zK<|yZ 9 1 [⟨0,.q []⟩,⟨1,.q [1]⟩,⟨2,.q []⟩,⟨3,.q [1]⟩,⟨4,.q []⟩,⟨5,.q []⟩,⟨6,.q []⟩,⟨7,.q []⟩,⟨8,.f 0⟩] mixed (by kernel_rfl) (by kernel_rfl) rfl rfl rfl<|zW rfl<|zW rfl<|zW rfl<|zW rfl<|zW rfl<|zW rfl<|zW rfl<|zW rfl<|zKj rfl rfl (zBw (qO [some 8,some 20] rfl zr25 rfl))<|zAl<|qD rfl (by decide) rfl rfl (zC rfl wU rfl)<|qD rfl (by decide) rfl rfl (zD rfl zCm rfl (zF 0 rfl) rfl)<|qD rfl (by decide) rfl rfl (zC rfl zCa rfl)<|qD rfl (by decide) rfl rfl (zD rfl zAa rfl (zF 0 rfl) rfl)<|qD rfl (by decide) rfl rfl (zN rfl rfl)<|qD rfl (by decide) rfl rfl (zN rfl rfl)<|qD rfl (by decide) rfl rfl (zP rfl ok47 (upI (zGt n.Body old nw (by omega) hr)) ⟨zE,rfl,zE,rfl,zE,rfl,trivial⟩)<|qD rfl (by decide) rfl rfl (qV rfl zr25 pl25 rfl)<|zJo rfl rfl ?_
     rintro _ _ ⟨b2,rfl,rfl⟩
     refine zAk rfl<|zX rfl rfl (zT rfl sz25 rfl rfl rfl (qH 0 rfl rfl))<|zB<|sReg rfl<|zA rfl (zG rfl wM rfl (zF 0 rfl) rfl)<|zA rfl (zP rfl ok22 (upI (zBo ⟨n.Bufs,renT old nw n.Body⟩ hokm)) ⟨zE,rfl,trivial⟩)<|zA rfl (qP rfl rfl)<|zA rfl (qU rfl rfl rfl)<|zA rfl (qU rfl rfl rfl)<|rMv rfl<|rMv rfl<|zB<|sReg rfl<|zA rfl (zG rfl wM rfl (zF 0 rfl) rfl)<|rMv rfl<|zA rfl (zP rfl ok25 (upI (zCc ⟨n.Bufs,renT old nw n.Body⟩ old (by show stsWt (renT old nw n.Body) ≤ _; omega))) ⟨zE,rfl,zE,rfl,trivial⟩)<|zA rfl (qP rfl rfl)<|zA rfl (qU rfl rfl rfl)<|zA rfl (qU rfl rfl rfl)<|rMv rfl<|rMv rfl<|zB<|sReg rfl<|zA rfl (zG rfl wM rfl (zF 0 rfl) rfl)<|rMv rfl<|zA rfl (zP rfl ok25 (upI (zCc ⟨n.Bufs,renT old nw n.Body⟩ nw (by show stsWt (renT old nw n.Body) ≤ _; omega))) ⟨zE,rfl,zE,rfl,trivial⟩)<|zA rfl (qP rfl rfl)<|zA rfl (qU rfl rfl rfl)<|zA rfl (qU rfl rfl rfl)<|rMv rfl<|rMv rfl<|zB<|sReg rfl<|zA rfl (zG rfl wM rfl (zF 1 rfl) rfl)<|rMv rfl<|zA rfl (zP rfl ok25 (upI (zCc n old (by omega))) ⟨zE,rfl,zE,rfl,trivial⟩)<|zA rfl (qP rfl rfl)<|zA rfl (qU rfl rfl rfl)<|zA rfl (qU rfl rfl rfl)<|rMv rfl<|rMv rfl<|zB<|sReg rfl<|zA rfl (zC rfl zCa rfl)<|zA rfl (zD rfl zAa rfl (zF 0 rfl) rfl)<|rMv rfl<|rMv rfl<|zA rfl (zP rfl ok47 (upI (zGt (renT old nw n.Body) nw old (by omega) hrr)) ⟨zE,rfl,zE,rfl,zE,rfl,trivial⟩)<|rMv rfl<|zB<|sReg rfl<|rMv rfl<|zA rfl (qF rfl rfl rfl)<|rMv rfl<|rLz [] rfl gv1 trivial (fun g19_2 => zN rfl rfl) rfl<|rLz [(95,_)] rfl gv1 ⟨rfl,rfl,trivial⟩ (fun g19_2 => zR rfl el33 rfl) rfl<|rLz [(96,_)] rfl gv1 ⟨rfl,rfl,trivial⟩ (fun g19_2 => qF rfl rfl rfl) rfl<|zA rfl (qK rfl rfl rfl (fun h => h) rfl)<|rMv rfl<|rLz [] rfl gv1 trivial (fun g19_7 => zN rfl rfl) rfl<|rLz [(100,_)] rfl gv1 ⟨rfl,rfl,trivial⟩ (fun g19_7 => qT rfl rfl) rfl ?_
     refine zA rfl (qK rfl rfl rfl (fun h => h) rfl)<|rMv rfl<|rLz [] rfl gv1 trivial (fun g19_11 => zN rfl rfl) rfl<|rLz [] rfl gv1 trivial (fun g19_11 => zN rfl rfl) rfl<|rLz [(104,_),(105,_)] rfl gv1 ⟨rfl,rfl,rfl,rfl,trivial⟩ (fun g19_11 => zP rfl ok23 (upI (zRx ((findN (renT old nw n.Body) nw).getD []) ((findN n.Body old).getD []) (by rw [hf1]; omega))) ⟨zE,rfl,zE,rfl,trivial⟩) rfl<|zA rfl (qK rfl rfl rfl (fun h => h) rfl)<|rMv rfl<|rLz [] rfl gv1 trivial (fun g19_16 => zN rfl rfl) rfl<|rLz [] rfl gv1 trivial (fun g19_16 => zC rfl zCa rfl) rfl<|rLz [(110,_)] rfl gv1 ⟨rfl,rfl,trivial⟩ (fun g19_16 => zD rfl zAa rfl (zF 1 rfl) rfl) rfl<|rLz [(109,_),(111,_)] rfl gv1 ⟨rfl,rfl,rfl,rfl,trivial⟩ (fun g19_16 => zP rfl ok46 (upI (base_Stmts (renT nw old (renT old nw n.Body)) n.Body (by rw [show renT nw old (renT old nw n.Body) = n.Body from hbk]; omega))) ⟨zE,rfl,zE,rfl,trivial⟩) rfl<|zA rfl (qK rfl rfl rfl (fun h => h) rfl)<|rMv rfl<|rLz [] rfl gv1 trivial (fun g19_22 => zP rfl ok21 zHq trivial) rfl<|zA rfl (qK rfl rfl rfl (fun h => h) rfl)<|rMv rfl<|zB<|zI<|zQ rfl ?_
     rw [hf1,hf2,show renT nw old (renT old nw n.Body) = n.Body from hbk,hvr]; exact congrArg vB (by simp)
end Go.W
