/-
  Walks: what functions of the program compute. Printed by wip/gen/mk2.py.
  Conditions: none.
-/
import Derived.Test.YtdbflnlalkfeeaaGreatDoorWD
import Derived.Test.YtdbflnlalkfeeaaGreatDoorPlain
set_option maxRecDepth 10000
namespace Go.W
open Go Go.Eng Go.Proofs Go.L41 Go.Br
attribute [local irreducible] AWP RWP TD finQ
theorem ok81 : callOk Tryz.prog 81 = true:= by kernel_rfl
theorem ok82 : callOk Tryz.prog 82 = true:= by kernel_rfl
theorem ok109 : callOk Tryz.prog 109 = true:= by kernel_rfl
theorem ok127 : callOk Tryz.prog 127 = true:= by kernel_rfl
theorem ok128 : callOk Tryz.prog 128 = true:= by kernel_rfl
theorem ok129 : callOk Tryz.prog 129 = true:= by kernel_rfl
theorem ok166 : callOk Tryz.prog 166 = true:= by kernel_rfl
theorem base_Lins (a b : List Lf) (ha : a.length ≤ 6000000000000) (hw : linsWt a ≤ 6000000000000) :
    Pur cfg 166 [vLins a,vLins b] (vB (decide (a = b))):= by
 refine zV Tryz.func166 rfl Tryz.ntmps166 Tryz.results166 rfl ?_
 intro z hz
 refine sReg rfl<|rMv rfl<|zB<|zK<|sReg rfl<|rMv rfl<|zA rfl (zR rfl wE rfl)<|rMv rfl<|zA rfl (zR rfl wE rfl)<|zA rfl (qR rfl rfl rfl)<|zB<|zH rfl (fun c1 => ?_) (fun c1 => ?_)
 ·try simp only [sx] at c1
  refine sReg rfl<|rMv rfl<|zB<|zI<|zQ rfl ?_
  rw [yM (fun h => c1 (by rw [h]))]
 ·try simp only [sx] at c1
  refine zJ<|zK<|sReg rfl<|rMv rfl<|zB<|zS<|zY ⟨[(5,.c _),(0,.c _),(1,.c _)],[]⟩ (Weak.mk [] ⟨zE,zE,zE,trivial⟩ rfl)<|qI 1 0 rfl rfl (Nat) (fun k => [(5,vI k)]) (fun k => []) (fun k => k ≤ a.length ∧ (a.take k = b.take k)) (fun k => a.length - k) ⟨0,⟨by omega,rfl⟩,Weak.mk [] ⟨zE,zE,zE,trivial⟩ rfl⟩ ?_
  rintro k ⟨hk,hp⟩
  refine zK<|sReg rfl<|rMv rfl<|rMv rfl<|zA rfl (zR rfl wE rfl)<|zA rfl (qM rfl rfl rfl)<|zB<|zH rfl (fun c2 => ?_) (fun c2 => ?_)
  ·try simp only [sx] at c2
   obtain ⟨x,hx⟩ := qX a k (by omega)
   obtain ⟨y,hy⟩ := qX b k (by omega)
   have hxw := zAh (qE hx)
   refine zJ<|zK<|zS<|zK<|yC 10 mixed (by kernel_rfl) rfl rfl<|zM rfl rfl (zN rfl rfl)<|zM rfl rfl (zN rfl rfl)<|zM rfl rfl (zO rfl wE rfl rfl (by omega) (getm (by assumption)))<|zM rfl rfl (zG rfl kG rfl qC rfl)<|zM rfl rfl (zN rfl rfl)<|zM rfl rfl (zN rfl rfl)<|zM rfl rfl (zO rfl wE rfl rfl (by omega) (getm (by assumption)))<|zM rfl rfl (zG rfl kG rfl qC rfl)<|zM rfl rfl (zP rfl ok128 (base_Lin x y (by omega)) ⟨zE,rfl,zE,rfl,trivial⟩)<|zM rfl rfl (qT rfl rfl)<|kA<|zB<|zH rfl (fun c3 => ?_) (fun c3 => ?_)
   ·try simp only [sx] at c3
    refine sReg rfl<|rMv rfl<|zB<|zI<|zQ rfl ?_
    rw [yM (zDr hx hy c3)]
   ·try simp only [sx] at c3
    refine zJ<|zU rfl<|rMv rfl<|zA rfl (qB rfl rfl rfl ⟨by omega,by omega⟩)<|rMv rfl<|zB ?_
    refine ⟨k + 1,⟨by omega,zBc hx hy hp c3⟩,(by omega),Weak.mk [] ⟨zE,zE,zE,trivial⟩ rfl⟩
  ·try simp only [sx] at c2
   refine qN<|sReg rfl<|rMv rfl<|zB<|zI<|zQ rfl ?_
   rw [kX (zCh hp (by omega) (by omega))]
theorem base_Index (a b : Ix) (ha : a.wt ≤ 6000000000000) :
    Pur cfg 127 [vIndex a,vIndex b] (vB (decide (a = b))):= by
 refine zV Tryz.func127 rfl Tryz.ntmps127 Tryz.results127 rfl ?_
 intro z hz
 have hw := ha
 unfold Ix.wt at hw
 refine sReg rfl<|qA rfl rfl (qL rfl rfl) ?_
 rintro _ _ ⟨b1,rfl,rfl⟩
 refine qA rfl rfl (qL rfl rfl) ?_
 rintro _ _ ⟨b2,rfl,rfl⟩
 refine rMv rfl<|zB<|sReg rfl<|zA rfl (zC rfl zAr rfl)<|zA rfl (zD rfl one9 rfl (zF 1 rfl) rfl)<|zA rfl (zC rfl zAr rfl)<|zA rfl (zD rfl one9 rfl (zF 0 rfl) rfl)<|zA rfl (yP rfl rfl rfl)<|rMv rfl<|rLz [] rfl gv1 trivial (fun g1_5 => zC rfl zAd rfl) rfl<|rLz [(11,_)] rfl gv1 ⟨rfl,rfl,trivial⟩ (fun g1_5 => zG rfl kG rfl (zF 1 rfl) rfl) rfl<|rLz [] rfl gv1 trivial (fun g1_5 => zC rfl zAd rfl) rfl<|rLz [(13,_)] rfl gv1 ⟨rfl,rfl,trivial⟩ (fun g1_5 => zG rfl kG rfl (zF 0 rfl) rfl) rfl<|rLz [(12,_),(14,_)] rfl gv1 ⟨rfl,rfl,rfl,rfl,trivial⟩ (fun g1_5 => zP rfl ok128 (base_Lin a.Lin b.Lin (by omega)) ⟨zE,rfl,zE,rfl,trivial⟩) rfl<|zA rfl (qK rfl rfl rfl (fun h => h) rfl)<|rMv rfl<|rLz [] rfl gv1 trivial (fun g1_12 => zC rfl kH rfl) rfl<|rLz [(18,_)] rfl gv1 ⟨rfl,rfl,trivial⟩ (fun g1_12 => zD rfl wJ rfl (zF 1 rfl) rfl) rfl<|rLz [] rfl gv1 trivial (fun g1_12 => zC rfl kH rfl) rfl<|rLz [(20,_)] rfl gv1 ⟨rfl,rfl,trivial⟩ (fun g1_12 => zD rfl wJ rfl (zF 0 rfl) rfl) rfl<|rLz [(19,_),(21,_)] rfl gv1 ⟨rfl,rfl,rfl,rfl,trivial⟩ (fun g1_12 => zP rfl ok166 (base_Lins a.At b.At (by omega) (by omega)) ⟨zE,rfl,zE,rfl,trivial⟩) rfl<|zA rfl (qK rfl rfl rfl (fun h => h) rfl)<|rMv rfl<|zB<|zI<|zQ rfl ?_
 exact congrArg vB (ix_eq a b)
theorem zNc (a b : List Ix) (ha : a.length ≤ 6000000000000) (hw : idxWt a ≤ 6000000000000) :
    Pur cfg 81 [vIndices a,vIndices b] (vB (decide (a = b))):= by
 refine zV Tryz.func81 rfl Tryz.ntmps81 Tryz.results81 rfl ?_
 intro z hz
 refine sReg rfl<|rMv rfl<|zB<|zK<|sReg rfl<|rMv rfl<|zA rfl (zR rfl el44 rfl)<|rMv rfl<|zA rfl (zR rfl el44 rfl)<|zA rfl (qR rfl rfl rfl)<|zB<|zH rfl (fun c1 => ?_) (fun c1 => ?_)
 ·try simp only [sx] at c1
  refine sReg rfl<|rMv rfl<|zB<|zI<|zQ rfl ?_
  rw [yM (fun h => c1 (by rw [h]))]
 ·try simp only [sx] at c1
  refine zJ<|zK<|sReg rfl<|rMv rfl<|zB<|zS<|zY ⟨[(5,.c _),(0,.c _),(1,.c _)],[]⟩ (Weak.mk [] ⟨zE,zE,zE,trivial⟩ rfl)<|qI 1 0 rfl rfl (Nat) (fun k => [(5,vI k)]) (fun k => []) (fun k => k ≤ a.length ∧ (a.take k = b.take k)) (fun k => a.length - k) ⟨0,⟨by omega,rfl⟩,Weak.mk [] ⟨zE,zE,zE,trivial⟩ rfl⟩ ?_
  rintro k ⟨hk,hp⟩
  refine zK<|sReg rfl<|rMv rfl<|rMv rfl<|zA rfl (zR rfl el44 rfl)<|zA rfl (qM rfl rfl rfl)<|zB<|zH rfl (fun c2 => ?_) (fun c2 => ?_)
  ·try simp only [sx] at c2
   obtain ⟨x,hx⟩ := qX a k (by omega)
   obtain ⟨y,hy⟩ := qX b k (by omega)
   have hxw := zBj (qE hx)
   refine zJ<|zK<|zS<|zK<|yC 10 mixed (by kernel_rfl) rfl rfl<|zM rfl rfl (zN rfl rfl)<|zM rfl rfl (zN rfl rfl)<|zM rfl rfl (zO rfl el44 rfl rfl (by omega) (getm (by assumption)))<|zM rfl rfl (zG rfl zCv rfl qC rfl)<|zM rfl rfl (zN rfl rfl)<|zM rfl rfl (zN rfl rfl)<|zM rfl rfl (zO rfl el44 rfl rfl (by omega) (getm (by assumption)))<|zM rfl rfl (zG rfl zCv rfl qC rfl)<|zM rfl rfl (zP rfl ok127 (base_Index x y (by omega)) ⟨zE,rfl,zE,rfl,trivial⟩)<|zM rfl rfl (qT rfl rfl)<|kA<|zB<|zH rfl (fun c3 => ?_) (fun c3 => ?_)
   ·try simp only [sx] at c3
    refine sReg rfl<|rMv rfl<|zB<|zI<|zQ rfl ?_
    rw [yM (zDr hx hy c3)]
   ·try simp only [sx] at c3
    refine zJ<|zU rfl<|rMv rfl<|zA rfl (qB rfl rfl rfl ⟨by omega,by omega⟩)<|rMv rfl<|zB ?_
    refine ⟨k + 1,⟨by omega,zBc hx hy hp c3⟩,(by omega),Weak.mk [] ⟨zE,zE,zE,trivial⟩ rfl⟩
  ·try simp only [sx] at c2
   refine qN<|sReg rfl<|rMv rfl<|zB<|zI<|zQ rfl ?_
   rw [kX (zCh hp (by omega) (by omega))]
theorem base_Exprs_of (a b : List Ex) (hE : ∀ x,x ∈ a → ∀ y,Pur cfg 82 [vE x,vE y] (vB (decide (x = y)))) (ha : a.length ≤ 6000000000000) :
    Pur cfg 129 [vEs a,vEs b] (vB (decide (a = b))):= by
 refine zV Tryz.func129 rfl Tryz.ntmps129 Tryz.results129 rfl ?_
 intro z hz
 refine sReg rfl<|rMv rfl<|zB<|zK<|sReg rfl<|rMv rfl<|zA rfl (zR rfl el50 rfl)<|rMv rfl<|zA rfl (zR rfl el50 rfl)<|zA rfl (qR rfl rfl rfl)<|zB<|zH rfl (fun c1 => ?_) (fun c1 => ?_)
 ·try simp only [sx] at c1
  refine sReg rfl<|rMv rfl<|zB<|zI<|zQ rfl ?_
  rw [yM (fun h => c1 (by rw [h]))]
 ·try simp only [sx] at c1
  refine zJ<|zK<|sReg rfl<|rMv rfl<|zB<|zS<|zY ⟨[(5,.c _),(0,.c _),(1,.c _)],[]⟩ (Weak.mk [] ⟨zE,zE,zE,trivial⟩ rfl)<|qI 1 0 rfl rfl (Nat) (fun k => [(5,vI k)]) (fun k => []) (fun k => k ≤ a.length ∧ (a.take k = b.take k)) (fun k => a.length - k) ⟨0,⟨by omega,rfl⟩,Weak.mk [] ⟨zE,zE,zE,trivial⟩ rfl⟩ ?_
  rintro k ⟨hk,hp⟩
  refine zK<|sReg rfl<|rMv rfl<|rMv rfl<|zA rfl (zR rfl el50 rfl)<|zA rfl (qM rfl rfl rfl)<|zB<|zH rfl (fun c2 => ?_) (fun c2 => ?_)
  ·try simp only [sx] at c2
   obtain ⟨x,hx⟩ := qX a k (by omega)
   obtain ⟨y,hy⟩ := qX b k (by omega)
   refine zJ<|zK<|zS<|zK<|yC 10 mixed (by kernel_rfl) rfl rfl<|zM rfl rfl (zN rfl rfl)<|zM rfl rfl (zN rfl rfl)<|zM rfl rfl (zO rfl el50 rfl rfl (by omega) (zEy (by assumption)))<|zM rfl rfl (zG rfl yS rfl qC rfl)<|zM rfl rfl (zN rfl rfl)<|zM rfl rfl (zN rfl rfl)<|zM rfl rfl (zO rfl el50 rfl rfl (by omega) (zEy (by assumption)))<|zM rfl rfl (zG rfl yS rfl qC rfl)<|zM rfl rfl (zP rfl ok82 (hE x (qE hx) y) ⟨zE,rfl,zE,rfl,trivial⟩)<|zM rfl rfl (qT rfl rfl)<|kA<|zB<|zH rfl (fun c3 => ?_) (fun c3 => ?_)
   ·try simp only [sx] at c3
    refine sReg rfl<|rMv rfl<|zB<|zI<|zQ rfl ?_
    rw [yM (zDr hx hy c3)]
   ·try simp only [sx] at c3
    refine zJ<|zU rfl<|rMv rfl<|zA rfl (qB rfl rfl rfl ⟨by omega,by omega⟩)<|rMv rfl<|zB ?_
    refine ⟨k + 1,⟨by omega,zBc hx hy hp c3⟩,(by omega),Weak.mk [] ⟨zE,zE,zE,trivial⟩ rfl⟩
  ·try simp only [sx] at c2
   refine qN<|sReg rfl<|rMv rfl<|zB<|zI<|zQ rfl ?_
   rw [kX (zCh hp (by omega) (by omega))]
theorem base_Expr_step (a : Ex) (ih : ∀ x,x ∈ a.Args → x.wt ≤ 6000000000000 → ∀ y,Pur cfg 82 [vE x,vE y] (vB (decide (x = y)))) (ha : a.wt ≤ 6000000000000) (b : Ex) :
    Pur cfg 82 [vE a,vE b] (vB (decide (a = b))):= by
 refine zV Tryz.func82 rfl Tryz.ntmps82 Tryz.results82 rfl ?_
 intro z hz
 obtain ⟨hL,hI,hA⟩ := a.parts ha
 have hw := Ex.wt_eq a
 refine sReg rfl<|qA rfl rfl (qL rfl rfl) ?_
 rintro _ _ ⟨b1,rfl,rfl⟩
 refine qA rfl rfl (qL rfl rfl) ?_
 rintro _ _ ⟨b2,rfl,rfl⟩
 refine rMv rfl<|zB<|sReg rfl<|zA rfl (zC rfl kN rfl)<|zA rfl (zD rfl one3 rfl (zF 1 rfl) rfl)<|zA rfl (zC rfl kN rfl)<|zA rfl (zD rfl one3 rfl (zF 0 rfl) rfl)<|zA rfl (qF rfl rfl rfl)<|rMv rfl<|rLz [] rfl gv1 trivial (fun g1_5 => zC rfl zCs rfl) rfl<|rLz [(11,_)] rfl gv1 ⟨rfl,rfl,trivial⟩ (fun g1_5 => zD rfl one9 rfl (zF 1 rfl) rfl) rfl<|rLz [] rfl gv1 trivial (fun g1_5 => zC rfl zCs rfl) rfl<|rLz [(13,_)] rfl gv1 ⟨rfl,rfl,trivial⟩ (fun g1_5 => zD rfl one9 rfl (zF 0 rfl) rfl) rfl<|rLz [(12,_),(14,_)] rfl gv1 ⟨rfl,rfl,rfl,rfl,trivial⟩ (fun g1_5 => yP rfl rfl rfl) rfl<|zA rfl (qK rfl rfl rfl (fun h => h) rfl)<|rMv rfl<|rLz [] rfl gv1 trivial (fun g1_12 => zC rfl zGz rfl) rfl<|rLz [(18,_)] rfl gv1 ⟨rfl,rfl,trivial⟩ (fun g1_12 => zG rfl agg46 rfl (zF 1 rfl) rfl) rfl<|rLz [] rfl gv1 trivial (fun g1_12 => zC rfl zGz rfl) rfl<|rLz [(20,_)] rfl gv1 ⟨rfl,rfl,trivial⟩ (fun g1_12 => zG rfl agg46 rfl (zF 0 rfl) rfl) rfl<|rLz [(19,_),(21,_)] rfl gv1 ⟨rfl,rfl,rfl,rfl,trivial⟩ (fun g1_12 => zOc rfl fl46 rfl rfl rfl) rfl<|zA rfl (qK rfl rfl rfl (fun h => h) rfl)<|rMv rfl<|rLz [] rfl gv1 trivial (fun g1_19 => zC rfl zCr rfl) rfl<|rLz [(25,_)] rfl gv1 ⟨rfl,rfl,trivial⟩ (fun g1_19 => zG rfl yH rfl (zF 1 rfl) rfl) rfl<|rLz [] rfl gv1 trivial (fun g1_19 => zC rfl zCr rfl) rfl<|rLz [(27,_)] rfl gv1 ⟨rfl,rfl,trivial⟩ (fun g1_19 => zG rfl yH rfl (zF 0 rfl) rfl) rfl<|rLz [(26,_),(28,_)] rfl gv1 ⟨rfl,rfl,rfl,rfl,trivial⟩ (fun g1_19 => zOc rfl fl40 rfl rfl rfl) rfl<|zA rfl (qK rfl rfl rfl (fun h => h) rfl)<|rMv rfl<|rLz [] rfl gv1 trivial (fun g1_26 => zC rfl zCq rfl) rfl<|rLz [(32,_)] rfl gv1 ⟨rfl,rfl,trivial⟩ (fun g1_26 => zG rfl kG rfl (zF 1 rfl) rfl) rfl<|rLz [] rfl gv1 trivial (fun g1_26 => zC rfl zCq rfl) rfl<|rLz [(34,_)] rfl gv1 ⟨rfl,rfl,trivial⟩ (fun g1_26 => zG rfl kG rfl (zF 0 rfl) rfl) rfl<|rLz [(33,_),(35,_)] rfl gv1 ⟨rfl,rfl,rfl,rfl,trivial⟩ (fun g1_26 => zP rfl ok128 (base_Lin a.Lin b.Lin hL) ⟨zE,rfl,zE,rfl,trivial⟩) rfl<|zA rfl (qK rfl rfl rfl (fun h => h) rfl)<|rMv rfl<|rLz [] rfl gv1 trivial (fun g1_33 => zC rfl kE rfl) rfl<|rLz [(39,_)] rfl gv1 ⟨rfl,rfl,trivial⟩ (fun g1_33 => zD rfl kM rfl (zF 1 rfl) rfl) rfl<|rLz [] rfl gv1 trivial (fun g1_33 => zC rfl kE rfl) rfl<|rLz [(41,_)] rfl gv1 ⟨rfl,rfl,trivial⟩ (fun g1_33 => zD rfl kM rfl (zF 0 rfl) rfl) rfl<|rLz [(40,_),(42,_)] rfl gv1 ⟨rfl,rfl,rfl,rfl,trivial⟩ (fun g1_33 => zP rfl ok81 (zNc a.Idx b.Idx hI (by omega)) ⟨zE,rfl,zE,rfl,trivial⟩) rfl<|zA rfl (qK rfl rfl rfl (fun h => h) rfl)<|rMv rfl<|rLz [] rfl gv1 trivial (fun g1_40 => zC rfl kW rfl) rfl<|rLz [(46,_)] rfl gv1 ⟨rfl,rfl,trivial⟩ (fun g1_40 => zD rfl zAt rfl (zF 1 rfl) rfl) rfl<|rLz [] rfl gv1 trivial (fun g1_40 => zC rfl kW rfl) rfl<|rLz [(48,_)] rfl gv1 ⟨rfl,rfl,trivial⟩ (fun g1_40 => zD rfl zAt rfl (zF 0 rfl) rfl) rfl<|rLz [(47,_),(49,_)] rfl gv1 ⟨rfl,rfl,rfl,rfl,trivial⟩ (fun g1_40 => zP rfl ok129 (base_Exprs_of a.Args b.Args (fun x hx y => ih x hx (by have := Ex.arg_wt hx; omega) y) hA) ⟨zE,rfl,zE,rfl,trivial⟩) rfl<|zA rfl (qK rfl rfl rfl (fun h => h) rfl)<|rMv rfl<|zB<|zI<|zQ rfl ?_
 exact congrArg vB (ex_eq a b)
theorem base_Expr (a b : Ex) (ha : a.wt ≤ 6000000000000) : Pur cfg 82 [vE a,vE b] (vB (decide (a = b))):= by
  induction a using Ex.ind generalizing b with
  | _ a ih => exact base_Expr_step a (fun x hx h y => ih x hx y h) ha b
theorem zRv (e : Ex) (ih : ∀ a,a ∈ e.Args → ∀ (m : Nat) (x : Int),a.fit → m ≤ 1000000 → x = m → Pur cfg 109 [vE a,vI x] (vI (weighE a m))) (m : Nat) (x : Int) (hf : e.fit) (hm : m ≤ 1000000) (hx : x = m) :
    Pur cfg 109 [vE e,vI x] (vI (weighE e m)):= by
 refine zV Tryz.func109 rfl Tryz.ntmps109 Tryz.results109 rfl ?_
 intro z hz
 obtain ⟨f1,f2,f3,f4,f5⟩ := Ex.fit_eq hf
 have hW := weighE_eq e m
 refine sReg rfl<|qA rfl rfl (qL rfl rfl) ?_
 rintro _ _ ⟨b1,rfl,rfl⟩
 refine rMv rfl<|zB<|sReg rfl<|zA rfl (zC rfl zCq rfl)<|zA rfl (zC rfl kO rfl)<|zA rfl (zD rfl wZ rfl (zF 0 rfl) rfl)<|zA rfl (zR rfl el47 rfl)<|zA rfl (qB rfl rfl rfl ⟨by omega,by omega⟩)<|zA rfl (zC rfl kE rfl)<|zA rfl (zD rfl kM rfl (zF 0 rfl) rfl)<|zA rfl (zR rfl el44 rfl)<|zA rfl (qB rfl rfl rfl ⟨by omega,by omega⟩)<|rMv rfl<|zB<|zK<|sReg rfl<|rMv rfl<|zB<|zS<|zY ⟨[(6,.c _),(5,.c _),(1,.c _),(2,.c _)],[_]⟩ (Weak.mk [true] ⟨zE,zE,zE,zE,trivial⟩ rfl)<|qI 2 0 rfl rfl (Nat × Nat) (fun ⟨k,n⟩ => [(6,vI k),(5,vI n)]) (fun ⟨k,n⟩ => []) (fun ⟨k,n⟩ => k ≤ e.Idx.length ∧ (n ≤ m + 4 * 140737488355328) ∧ (weighIdx m (1 + e.Lin.L.length + e.Idx.length) e.Idx = weighIdx m n (e.Idx.drop k))) (fun ⟨k,n⟩ => e.Idx.length - k) ⟨⟨0,1 + e.Lin.L.length + e.Idx.length⟩,⟨by omega,by omega,rfl⟩,Weak.mk [true] ⟨zE,VLe.of_eq (congrArg vI (by omega)),zE,zE,trivial⟩ rfl⟩ ?_
 rintro ⟨k,n⟩ ⟨hk,hn1,hn2⟩
 show AWP _ _ _ _ _ ⟨[(6,vI k),(5,vI n)] ++ _,[] ++ _⟩
 refine zK<|sReg rfl<|rMv rfl<|zA rfl (zC rfl kE rfl)<|zA rfl (zD rfl kM rfl (zF 0 rfl) rfl)<|zA rfl (zR rfl el44 rfl)<|zA rfl (qM rfl rfl rfl)<|rMv rfl<|rLz [] rfl gv1 trivial (fun g3_5 => zN rfl rfl) rfl<|rLz [] rfl gv1 trivial (fun g3_5 => zN rfl rfl) rfl<|rLz [(24,_),(25,_)] rfl gv1 ⟨rfl,rfl,rfl,rfl,trivial⟩ (fun g3_5 => kY rfl rfl rfl) rfl<|zA rfl (qK rfl rfl rfl (fun h => h) rfl)<|zB<|zH rfl (fun c1 => ?_) (fun c1 => ?_)
 ·try simp only [sx] at c1
  obtain ⟨y,hy⟩ := qX e.Idx k (by omega)
  obtain ⟨i1,i2,i3⟩ := f4 y (qE hy)
  refine zJ<|zK<|zS<|zK<|yC 19 mixed (by kernel_rfl) rfl rfl<|zM rfl rfl (zN rfl rfl)<|zM rfl rfl (zC rfl kE rfl)<|zM rfl rfl (zD rfl kM rfl (zF 0 rfl) rfl)<|zM rfl rfl (zN rfl rfl)<|zM rfl rfl (zO rfl el44 rfl rfl (by omega) (getm (by assumption)))<|zM rfl rfl (zZ rfl zAd rfl)<|zM rfl rfl (zZ rfl kO rfl)<|zM rfl rfl (zD rfl wZ rfl qC rfl)<|zM rfl rfl (zR rfl el47 rfl)<|zM rfl rfl (qB rfl rfl rfl ⟨by omega,by omega⟩)<|zM rfl rfl (zC rfl kE rfl)<|zM rfl rfl (zD rfl kM rfl (zF 0 rfl) rfl)<|zM rfl rfl (zN rfl rfl)<|zM rfl rfl (zO rfl el44 rfl rfl (by omega) (getm (by assumption)))<|zM rfl rfl (zZ rfl kH rfl)<|zM rfl rfl (zD rfl wJ rfl qC rfl)<|zM rfl rfl (zR rfl wE rfl)<|zM rfl rfl (qB rfl rfl rfl ⟨by omega,by omega⟩)<|zM rfl rfl (yG rfl rfl)<|kA<|zB<|sReg rfl<|rMv rfl<|zB<|zS<|zY ⟨[(7,.c _),(5,.c _),(1,.c _),(2,.c _),(6,.c _)],[_]⟩ (Weak.mk [true] ⟨zE,zE,zE,zE,zE,trivial⟩ rfl)<|qI 2 0 rfl rfl (Nat × Nat) (fun ⟨j,p⟩ => [(7,vI j),(5,vI p)]) (fun ⟨j,p⟩ => []) (fun ⟨j,p⟩ => j ≤ y.At.length ∧ (p ≤ m + 4 * 140737488355328) ∧ (weighAt m (n + y.Lin.L.length + y.At.length) y.At = weighAt m p (y.At.drop j))) (fun ⟨j,p⟩ => y.At.length - j) ⟨⟨0,n + y.Lin.L.length + y.At.length⟩,⟨by omega,by omega,rfl⟩,Weak.mk [true] ⟨zE,VLe.of_eq (congrArg vI (by omega)),zE,zE,zE,trivial⟩ rfl⟩ ?_
  rintro ⟨j,p⟩ ⟨hj,hp1,hp2⟩
  show AWP _ _ _ _ _ ⟨[(7,vI j),(5,vI p)] ++ _,[] ++ _⟩
  refine zK<|sReg rfl<|rMv rfl<|zA rfl (zC rfl kE rfl)<|zA rfl (zD rfl kM rfl (zF 0 rfl) rfl)<|rMv rfl<|zA rfl (zO rfl el44 rfl rfl (by omega) (getm (by assumption)))<|zA rfl (zZ rfl kH rfl)<|zA rfl (zD rfl wJ rfl qC rfl)<|zA rfl (zR rfl wE rfl)<|zA rfl (qM rfl rfl rfl)<|rMv rfl<|rLz [] rfl gv1 trivial (fun g7_9 => zN rfl rfl) rfl<|rLz [] rfl gv1 trivial (fun g7_9 => zN rfl rfl) rfl<|rLz [(58,_),(59,_)] rfl gv1 ⟨rfl,rfl,rfl,rfl,trivial⟩ (fun g7_9 => kY rfl rfl rfl) rfl<|zA rfl (qK rfl rfl rfl (fun h => h) rfl)<|zB<|zH rfl (fun c2 => ?_) (fun c2 => ?_)
  ·try simp only [sx] at c2
   obtain ⟨l,hl⟩ := qX y.At j (by omega)
   have hl2 := i3 l (qE hl)
   refine zJ<|zK<|zS<|zU rfl<|rMv rfl<|zA rfl (zC rfl kE rfl)<|zA rfl (zD rfl kM rfl (zF 0 rfl) rfl)<|rMv rfl<|zA rfl (zO rfl el44 rfl rfl (by omega) (getm (by assumption)))<|zA rfl (zZ rfl kH rfl)<|zA rfl (zD rfl wJ rfl qC rfl)<|rMv rfl<|zA rfl (zO rfl wE rfl rfl (by omega) (getm (by assumption)))<|zA rfl (zZ rfl kO rfl)<|zA rfl (zD rfl wZ rfl qC rfl)<|zA rfl (zR rfl el47 rfl)<|zA rfl (qB rfl rfl rfl ⟨by omega,by omega⟩)<|rMv rfl<|zB<|zU rfl<|rMv rfl<|zA rfl (qB rfl rfl rfl ⟨by omega,by omega⟩)<|rMv rfl<|zB ?_
   refine ⟨⟨j + 1,p + l.L.length⟩,⟨by omega,by omega,by rw [hp2,qS hl,weighAt,if_pos (by omega)]⟩,(by show y.At.length - (j + 1) < y.At.length - j; omega),Weak.mk [true] ⟨zE,VLe.of_eq (congrArg vI (by omega)),zE,zE,zE,trivial⟩ rfl⟩
  ·try simp only [sx] at c2
   have hN2 := weighAt_end (l := y.At) (k := j) (n := p) hx (by omega)
   refine qN<|zU rfl<|rMv rfl<|zA rfl (qB rfl rfl rfl ⟨by omega,by omega⟩)<|rMv rfl<|zB ?_
   refine ⟨⟨k + 1,p⟩,⟨by omega,hp1,by rw [hn2,qS hy,weighIdx,if_pos (by omega),hp2,← hN2]⟩,(by show e.Idx.length - (k + 1) < e.Idx.length - k; omega),Weak.mk [true] ⟨zE,zE,zE,zE,trivial⟩ rfl⟩
 ·try simp only [sx] at c1
  have hN := weighIdx_end (l := e.Idx) (k := k) (n := n) hx (by omega)
  refine qN<|zK<|sReg rfl<|rMv rfl<|zB<|zS<|zY ⟨[(8,.c _),(5,.c _),(1,.c _),(2,.c _)],[_]⟩ (Weak.mk [true] ⟨zE,zE,zE,zE,trivial⟩ rfl)<|qI 2 0 rfl rfl (Nat × Nat) (fun ⟨k,n⟩ => [(8,vI k),(5,vI n)]) (fun ⟨k,n⟩ => []) (fun ⟨k,n⟩ => k ≤ e.Args.length ∧ (n ≤ m + 4 * 140737488355328) ∧ (weighE e m = weighL (e.Args.drop k) m n)) (fun ⟨k,n⟩ => e.Args.length - k) ⟨⟨0,n⟩,⟨by omega,hn1,by rw [hW,hn2,← hN]; rfl⟩,Weak.mk [true] ⟨zE,zE,zE,zE,trivial⟩ rfl⟩ ?_
  rintro ⟨k,n⟩ ⟨hk3,hn3,hn4⟩
  show AWP _ _ _ _ _ ⟨[(8,vI k),(5,vI n)] ++ _,[] ++ _⟩
  refine zK<|sReg rfl<|rMv rfl<|zA rfl (zC rfl kW rfl)<|zA rfl (zD rfl zAt rfl (zF 0 rfl) rfl)<|zA rfl (zR rfl el50 rfl)<|zA rfl (qM rfl rfl rfl)<|rMv rfl<|rLz [] rfl gv1 trivial (fun g11_5 => zN rfl rfl) rfl<|rLz [] rfl gv1 trivial (fun g11_5 => zN rfl rfl) rfl<|rLz [(83,_),(84,_)] rfl gv1 ⟨rfl,rfl,rfl,rfl,trivial⟩ (fun g11_5 => kY rfl rfl rfl) rfl<|zA rfl (qK rfl rfl rfl (fun h => h) rfl)<|zB<|zH rfl (fun c3 => ?_) (fun c3 => ?_)
  ·try simp only [sx] at c3
   obtain ⟨a,ha⟩ := qX e.Args k (by omega)
   have hwa := zDk a (m - n) (f5 a (qE ha))
   refine zJ<|zK<|zS<|zU rfl<|rMv rfl<|zA rfl (zC rfl kW rfl)<|zA rfl (zD rfl zAt rfl (zF 0 rfl) rfl)<|rMv rfl<|zA rfl (zO rfl el50 rfl rfl (by omega) (zEy (by assumption)))<|zA rfl (zG rfl yS rfl qC rfl)<|rMv rfl<|rMv rfl<|zA rfl (yD rfl rfl rfl ⟨by omega,by omega⟩)<|zA rfl (zP rfl ok109 (ih a (qE ha) (m - n) _ (f5 a (qE ha)) (by omega) (by omega)) ⟨zE,rfl,zE,rfl,trivial⟩)<|zA rfl (qB rfl rfl rfl ⟨by omega,by omega⟩)<|rMv rfl<|zB<|zU rfl<|rMv rfl<|zA rfl (qB rfl rfl rfl ⟨by omega,by omega⟩)<|rMv rfl<|zB ?_
   refine ⟨⟨k + 1,n + weighE a (m - n)⟩,⟨by omega,by omega,by rw [hn4,qS ha,weighL,if_pos (by omega)]⟩,(by show e.Args.length - (k + 1) < e.Args.length - k; omega),Weak.mk [true] ⟨zE,VLe.of_eq (congrArg vI (by omega)),zE,zE,trivial⟩ rfl⟩
  ·try simp only [sx] at c3
   refine qN<|sReg rfl<|rMv rfl<|rMv rfl<|zB<|zI<|zQ rfl ?_
   exact congrArg vI (by rw [hn4,← weighL_end hx (by omega)])
theorem base_Weigh (e : Ex) (m : Nat) (x : Int) (hf : e.fit) (hm : m ≤ 1000000) (hx : x = m) : Pur cfg 109 [vE e,vI x] (vI (weighE e m)):= by
  induction e using Ex.ind generalizing m x with
  | _ e ih => exact zRv e (fun a ha m x h1 h2 h3 => ih a ha m x h1 h2 h3) m x hf hm hx
theorem zLj (l : List Mono) (hl : l.length ≤ 5864062014805) :
    OwnR cfg 146 [vMonos l] 111 2 (l.map Mono.cells):= by
 refine zV Tryz.func146 rfl Tryz.ntmps146 Tryz.results146 rfl ?_
 intro z hz
 refine sReg rfl<|zA rfl (qY 2 rfl rfl)<|zB<|zK<|sReg rfl<|rMv rfl<|qA rfl rfl (zDo rfl el47 rfl rfl) ?_
 rintro _ _ ⟨nb1,rfl,hnil1,rfl⟩
 refine zB<|zH rfl (fun c1 => ?_) (fun c1 => ?_)
 ·try simp only [sx] at c1
  refine sReg rfl<|rMv rfl<|yK _ (kI 111 2)<|zB<|zI<|zQ rfl ?_
  exact ⟨_,rfl,by rw [hnil1 c1]⟩
 ·try simp only [sx] at c1
  refine zJ<|sReg rfl<|qA rfl rfl (zBn rfl el47 zFu rfl rfl rfl rfl) ?_
  rintro _ _ ⟨sv3,rfl,rfl⟩
  refine rMv rfl<|qA rfl rfl (yI 0 rfl el47 rfl rfl rfl (by simp only [List.length_map,List.length_nil,Nat.zero_add]; omega) (by simp only [List.length_map,List.length_nil,Nat.zero_add]; omega)) ?_
  rintro _ _ ⟨sv4,rfl,rfl⟩
  refine rMv rfl<|zB<|zI<|zQ rfl ?_
  exact ⟨_,rfl,rfl⟩
theorem zFi (l : List Lf) (hl : l.length ≤ 4294967296) :
    OwnR cfg 134 [vLins l] 49 2 (l.map Lf.cells):= by
 refine zV Tryz.func134 rfl Tryz.ntmps134 Tryz.results134 rfl ?_
 intro z hz
 refine sReg rfl<|zA rfl (qY 2 rfl rfl)<|zB<|zK<|sReg rfl<|rMv rfl<|qA rfl rfl (zDo rfl wE rfl rfl) ?_
 rintro _ _ ⟨nb1,rfl,hnil1,rfl⟩
 refine zB<|zH rfl (fun c1 => ?_) (fun c1 => ?_)
 ·try simp only [sx] at c1
  refine sReg rfl<|rMv rfl<|yK _ (kI 49 2)<|zB<|zI<|zQ rfl ?_
  exact ⟨_,rfl,by rw [hnil1 c1]⟩
 ·try simp only [sx] at c1
  refine zJ<|sReg rfl<|qA rfl rfl (zBn rfl wE zr49 rfl rfl rfl rfl) ?_
  rintro _ _ ⟨sv3,rfl,rfl⟩
  refine rMv rfl<|qA rfl rfl (yI 0 rfl wE rfl rfl rfl (by simp only [List.length_map,List.length_nil,Nat.zero_add]; omega) (by simp only [List.length_map,List.length_nil,Nat.zero_add]; omega)) ?_
  rintro _ _ ⟨sv4,rfl,rfl⟩
  refine rMv rfl<|zB<|zI<|zQ rfl ?_
  exact ⟨_,rfl,rfl⟩
theorem zGc (l : List Ix) (hl : l.length ≤ 4294967296) :
    OwnR cfg 133 [vIndices l] 114 4 (l.map Ix.cells):= by
 refine zV Tryz.func133 rfl Tryz.ntmps133 Tryz.results133 rfl ?_
 intro z hz
 refine sReg rfl<|zA rfl (qY 4 rfl rfl)<|zB<|zK<|sReg rfl<|rMv rfl<|qA rfl rfl (zDo rfl el44 rfl rfl) ?_
 rintro _ _ ⟨nb1,rfl,hnil1,rfl⟩
 refine zB<|zH rfl (fun c1 => ?_) (fun c1 => ?_)
 ·try simp only [sx] at c1
  refine sReg rfl<|rMv rfl<|yK _ (kI 114 4)<|zB<|zI<|zQ rfl ?_
  exact ⟨_,rfl,by rw [hnil1 c1]⟩
 ·try simp only [sx] at c1
  refine zJ<|sReg rfl<|qA rfl rfl (zBn rfl el44 zJe rfl rfl rfl rfl) ?_
  rintro _ _ ⟨sv3,rfl,rfl⟩
  refine rMv rfl<|qA rfl rfl (yI 0 rfl el44 rfl rfl rfl (by simp only [List.length_map,List.length_nil,Nat.zero_add]; omega) (by simp only [List.length_map,List.length_nil,Nat.zero_add]; omega)) ?_
  rintro _ _ ⟨sv4,rfl,rfl⟩
  refine rMv rfl<|zB<|zI<|zQ rfl ?_
  exact ⟨_,rfl,rfl⟩
theorem zPh (l : List Ex) (hl : l.length ≤ 4294967296) :
    OwnR cfg 175 [vEs l] 52 13 (l.map Ex.cells):= by
 refine zV Tryz.func175 rfl Tryz.ntmps175 Tryz.results175 rfl ?_
 intro z hz
 refine sReg rfl<|zA rfl (qY 13 rfl rfl)<|zB<|zK<|sReg rfl<|rMv rfl<|qA rfl rfl (zDo rfl el50 rfl rfl) ?_
 rintro _ _ ⟨nb1,rfl,hnil1,rfl⟩
 refine zB<|zH rfl (fun c1 => ?_) (fun c1 => ?_)
 ·try simp only [sx] at c1
  refine sReg rfl<|rMv rfl<|yK _ (kI 52 13)<|zB<|zI<|zQ rfl ?_
  exact ⟨_,rfl,by rw [hnil1 c1]⟩
 ·try simp only [sx] at c1
  refine zJ<|sReg rfl<|qA rfl rfl (zBn rfl el50 zr52 rfl rfl rfl rfl) ?_
  rintro _ _ ⟨sv3,rfl,rfl⟩
  refine rMv rfl<|qA rfl rfl (yI 0 rfl el50 rfl rfl rfl (by simp only [List.length_map,List.length_nil,Nat.zero_add]; omega) (by simp only [List.length_map,List.length_nil,Nat.zero_add]; omega)) ?_
  rintro _ _ ⟨sv4,rfl,rfl⟩
  refine rMv rfl<|zB<|zI<|zQ rfl ?_
  exact ⟨_,rfl,rfl⟩
end Go.W
