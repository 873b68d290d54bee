/-
  Walks: what functions of the program compute. Printed by wip/gen/mk2.py.
  Conditions: none.
-/
import Derived.Test.YtdbflnlalkfeeaaGreatDoorWD
import Derived.Test.YtdbflnlalkfeeaaGreatDoorPlain
set_option maxRecDepth 10000
namespace Go.W
open Go Go.Eng Go.Proofs Go.L41 Go.Br
attribute [local irreducible] AWP RWP TD finQ
theorem ok81 : callOk Tryz.prog 81 = true:= by kernel_rfl
theorem ok82 : callOk Tryz.prog 82 = true:= by kernel_rfl
theorem ok109 : callOk Tryz.prog 109 = true:= by kernel_rfl
theorem ok127 : callOk Tryz.prog 127 = true:= by kernel_rfl
theorem ok128 : callOk Tryz.prog 128 = true:= by kernel_rfl
theorem ok129 : callOk Tryz.prog 129 = true:= by kernel_rfl
theorem ok166 : callOk Tryz.prog 166 = true:= by kernel_rfl
theorem base_Lins (a b : List Lf) (ha : a.length ≤ 6000000000000) (hw : linsWt a ≤ 6000000000000) :
    Pur cfg 166 [vLins a,vLins b] (vB (decide (a = b))):= by
 refine zU Tryz.func166 rfl Tryz.ntmps166 Tryz.results166 rfl ?_
 intro z hz
 refine sReg rfl<|rMv rfl<|zB<|zJ<|sReg rfl<|rMv rfl<|zA rfl rfl (zP rfl wJ rfl)<|rMv rfl<|zA rfl rfl (zP rfl wJ rfl)<|zA rfl rfl (qV rfl rfl rfl)<|zB<|zG rfl (fun c1 => ?_) (fun c1 => ?_)
 ·try simp only [sx] at c1
  refine sReg rfl<|rMv rfl<|zB<|zH<|fin1 (rs_c rfl) ?_
  rw [yL (fun h => c1 (by rw [h]))]
 ·try simp only [sx] at c1
  refine zK<|zJ<|sReg rfl<|rMv rfl<|zB<|zQ<|zV ⟨[(5,.c _),(0,.c _),(1,.c _)],[]⟩ (Weak.mk [] ⟨VLe.of_eq rfl,VLe.of_eq rfl,VLe.of_eq rfl,trivial⟩ rfl)<|qE 1 0 rfl rfl (Nat) (fun k => [(5,vI k)]) (fun k => []) (fun k => k ≤ a.length ∧ (a.take k = b.take k)) (fun k => a.length - k) ⟨0,⟨by omega,rfl⟩,Weak.mk [] ⟨VLe.refl _,VLe.refl _,VLe.refl _,trivial⟩ rfl⟩ ?_
  rintro k ⟨hk,hp⟩
  refine zJ<|sReg rfl<|rMv rfl<|rMv rfl<|zA rfl rfl (zP rfl wJ rfl)<|zA rfl rfl (qJ rfl rfl rfl)<|zB<|zG rfl (fun c2 => ?_) (fun c2 => ?_)
  ·try simp only [sx] at c2
   obtain ⟨x,hx⟩ := qT a k (by omega)
   obtain ⟨y,hy⟩ := qT b k (by omega)
   have hxw := wW (qC hx)
   refine zK<|zJ<|zQ<|zJ<|yI 10 mixed (by kernel_rfl) rfl rfl<|zM rfl rfl (zO rfl rfl)<|zM rfl rfl (zO rfl rfl)<|zM rfl rfl (zN rfl wJ rfl rfl (by omega) (getm (by assumption)))<|zM rfl rfl (zE rfl kX rfl qB rfl)<|zM rfl rfl (zO rfl rfl)<|zM rfl rfl (zO rfl rfl)<|zM rfl rfl (zN rfl wJ rfl rfl (by omega) (getm (by assumption)))<|zM rfl rfl (zE rfl kX rfl qB rfl)<|zM rfl rfl (zR rfl ok128 (base_Lin x y (by omega)) ⟨VLe.refl _,rfl,VLe.refl _,rfl,trivial⟩)<|zM rfl rfl (yB rfl rfl)<|kI<|zB<|zG rfl (fun c3 => ?_) (fun c3 => ?_)
   ·try simp only [sx] at c3
    refine sReg rfl<|rMv rfl<|zB<|zH<|fin1 (rs_c rfl) ?_
    rw [yL (zBw hx hy c3)]
   ·try simp only [sx] at c3
    refine zK<|zS rfl<|rMv rfl<|zA rfl rfl (qA rfl rfl rfl ⟨by omega,by omega⟩)<|rMv rfl<|zB ?_
    refine ⟨k + 1,⟨by omega,wO hx hy hp c3⟩,(by omega),Weak.mk [] ⟨VLe.refl _,VLe.refl _,VLe.refl _,trivial⟩ rfl⟩
  ·try simp only [sx] at c2
   refine qI<|sReg rfl<|rMv rfl<|zB<|zH<|fin1 (rs_c rfl) ?_
   rw [kY (zBc hp (by omega) (by omega))]
theorem base_Index (a b : Ix) (ha : a.wt ≤ 6000000000000) :
    Pur cfg 127 [vIndex a,vIndex b] (vB (decide (a = b))):= by
 refine zU Tryz.func127 rfl Tryz.ntmps127 Tryz.results127 rfl ?_
 intro z hz
 have hw := ha
 unfold Ix.wt at hw
 refine sReg rfl<|zZ rfl rfl (qL rfl rfl) ?_
 rintro _ _ ⟨b1,rfl,rfl⟩
 refine zZ rfl rfl (qL rfl rfl) ?_
 rintro _ _ ⟨b2,rfl,rfl⟩
 refine rMv rfl<|zB<|sReg rfl<|zA rfl rfl (zD rfl zCs rfl)<|zA rfl rfl (zC rfl one9 rfl (zF 1 rfl) rfl)<|zA rfl rfl (zD rfl zCs rfl)<|zA rfl rfl (zC rfl one9 rfl (zF 0 rfl) rfl)<|zA rfl rfl (yG rfl rfl rfl)<|rMv rfl<|rLz [] rfl gv1 trivial (fun g1_5 => zD rfl zAx rfl) rfl<|rLz [(11,_)] rfl gv1 ⟨rfl,rfl,trivial⟩ (fun g1_5 => zE rfl kX rfl (zF 1 rfl) rfl) rfl<|rLz [] rfl gv1 trivial (fun g1_5 => zD rfl zAx rfl) rfl<|rLz [(13,_)] rfl gv1 ⟨rfl,rfl,trivial⟩ (fun g1_5 => zE rfl kX rfl (zF 0 rfl) rfl) rfl<|rLz [(12,_),(14,_)] rfl gv1 ⟨rfl,rfl,rfl,rfl,trivial⟩ (fun g1_5 => zR rfl ok128 (base_Lin a.Lin b.Lin (by omega)) ⟨VLe.refl _,rfl,VLe.refl _,rfl,trivial⟩) rfl<|zA rfl rfl (qP rfl rfl rfl (fun h => h) rfl)<|rMv rfl<|rLz [] rfl gv1 trivial (fun g1_12 => zD rfl kH rfl) rfl<|rLz [(18,_)] rfl gv1 ⟨rfl,rfl,trivial⟩ (fun g1_12 => zC rfl wH rfl (zF 1 rfl) rfl) rfl<|rLz [] rfl gv1 trivial (fun g1_12 => zD rfl kH rfl) rfl<|rLz [(20,_)] rfl gv1 ⟨rfl,rfl,trivial⟩ (fun g1_12 => zC rfl wH rfl (zF 0 rfl) rfl) rfl<|rLz [(19,_),(21,_)] rfl gv1 ⟨rfl,rfl,rfl,rfl,trivial⟩ (fun g1_12 => zR rfl ok166 (base_Lins a.At b.At (by omega) (by omega)) ⟨VLe.refl _,rfl,VLe.refl _,rfl,trivial⟩) rfl<|zA rfl rfl (qP rfl rfl rfl (fun h => h) rfl)<|rMv rfl<|zB<|zH<|fin1 (rs_c rfl) ?_
 exact congrArg vB (ix_eq a b)
theorem zKx (a b : List Ix) (ha : a.length ≤ 6000000000000) (hw : idxWt a ≤ 6000000000000) :
    Pur cfg 81 [vIndices a,vIndices b] (vB (decide (a = b))):= by
 refine zU Tryz.func81 rfl Tryz.ntmps81 Tryz.results81 rfl ?_
 intro z hz
 refine sReg rfl<|rMv rfl<|zB<|zJ<|sReg rfl<|rMv rfl<|zA rfl rfl (zP rfl el44 rfl)<|rMv rfl<|zA rfl rfl (zP rfl el44 rfl)<|zA rfl rfl (qV rfl rfl rfl)<|zB<|zG rfl (fun c1 => ?_) (fun c1 => ?_)
 ·try simp only [sx] at c1
  refine sReg rfl<|rMv rfl<|zB<|zH<|fin1 (rs_c rfl) ?_
  rw [yL (fun h => c1 (by rw [h]))]
 ·try simp only [sx] at c1
  refine zK<|zJ<|sReg rfl<|rMv rfl<|zB<|zQ<|zV ⟨[(5,.c _),(0,.c _),(1,.c _)],[]⟩ (Weak.mk [] ⟨VLe.of_eq rfl,VLe.of_eq rfl,VLe.of_eq rfl,trivial⟩ rfl)<|qE 1 0 rfl rfl (Nat) (fun k => [(5,vI k)]) (fun k => []) (fun k => k ≤ a.length ∧ (a.take k = b.take k)) (fun k => a.length - k) ⟨0,⟨by omega,rfl⟩,Weak.mk [] ⟨VLe.refl _,VLe.refl _,VLe.refl _,trivial⟩ rfl⟩ ?_
  rintro k ⟨hk,hp⟩
  refine zJ<|sReg rfl<|rMv rfl<|rMv rfl<|zA rfl rfl (zP rfl el44 rfl)<|zA rfl rfl (qJ rfl rfl rfl)<|zB<|zG rfl (fun c2 => ?_) (fun c2 => ?_)
  ·try simp only [sx] at c2
   obtain ⟨x,hx⟩ := qT a k (by omega)
   obtain ⟨y,hy⟩ := qT b k (by omega)
   have hxw := zAt (qC hx)
   refine zK<|zJ<|zQ<|zJ<|yI 10 mixed (by kernel_rfl) rfl rfl<|zM rfl rfl (zO rfl rfl)<|zM rfl rfl (zO rfl rfl)<|zM rfl rfl (zN rfl el44 rfl rfl (by omega) (getm (by assumption)))<|zM rfl rfl (zE rfl zCo rfl qB rfl)<|zM rfl rfl (zO rfl rfl)<|zM rfl rfl (zO rfl rfl)<|zM rfl rfl (zN rfl el44 rfl rfl (by omega) (getm (by assumption)))<|zM rfl rfl (zE rfl zCo rfl qB rfl)<|zM rfl rfl (zR rfl ok127 (base_Index x y (by omega)) ⟨VLe.refl _,rfl,VLe.refl _,rfl,trivial⟩)<|zM rfl rfl (yB rfl rfl)<|kI<|zB<|zG rfl (fun c3 => ?_) (fun c3 => ?_)
   ·try simp only [sx] at c3
    refine sReg rfl<|rMv rfl<|zB<|zH<|fin1 (rs_c rfl) ?_
    rw [yL (zBw hx hy c3)]
   ·try simp only [sx] at c3
    refine zK<|zS rfl<|rMv rfl<|zA rfl rfl (qA rfl rfl rfl ⟨by omega,by omega⟩)<|rMv rfl<|zB ?_
    refine ⟨k + 1,⟨by omega,wO hx hy hp c3⟩,(by omega),Weak.mk [] ⟨VLe.refl _,VLe.refl _,VLe.refl _,trivial⟩ rfl⟩
  ·try simp only [sx] at c2
   refine qI<|sReg rfl<|rMv rfl<|zB<|zH<|fin1 (rs_c rfl) ?_
   rw [kY (zBc hp (by omega) (by omega))]
theorem base_Exprs_of (a b : List Ex) (hE : ∀ x,x ∈ a → ∀ y,Pur cfg 82 [vE x,vE y] (vB (decide (x = y)))) (ha : a.length ≤ 6000000000000) :
    Pur cfg 129 [vEs a,vEs b] (vB (decide (a = b))):= by
 refine zU Tryz.func129 rfl Tryz.ntmps129 Tryz.results129 rfl ?_
 intro z hz
 refine sReg rfl<|rMv rfl<|zB<|zJ<|sReg rfl<|rMv rfl<|zA rfl rfl (zP rfl el50 rfl)<|rMv rfl<|zA rfl rfl (zP rfl el50 rfl)<|zA rfl rfl (qV rfl rfl rfl)<|zB<|zG rfl (fun c1 => ?_) (fun c1 => ?_)
 ·try simp only [sx] at c1
  refine sReg rfl<|rMv rfl<|zB<|zH<|fin1 (rs_c rfl) ?_
  rw [yL (fun h => c1 (by rw [h]))]
 ·try simp only [sx] at c1
  refine zK<|zJ<|sReg rfl<|rMv rfl<|zB<|zQ<|zV ⟨[(5,.c _),(0,.c _),(1,.c _)],[]⟩ (Weak.mk [] ⟨VLe.of_eq rfl,VLe.of_eq rfl,VLe.of_eq rfl,trivial⟩ rfl)<|qE 1 0 rfl rfl (Nat) (fun k => [(5,vI k)]) (fun k => []) (fun k => k ≤ a.length ∧ (a.take k = b.take k)) (fun k => a.length - k) ⟨0,⟨by omega,rfl⟩,Weak.mk [] ⟨VLe.refl _,VLe.refl _,VLe.refl _,trivial⟩ rfl⟩ ?_
  rintro k ⟨hk,hp⟩
  refine zJ<|sReg rfl<|rMv rfl<|rMv rfl<|zA rfl rfl (zP rfl el50 rfl)<|zA rfl rfl (qJ rfl rfl rfl)<|zB<|zG rfl (fun c2 => ?_) (fun c2 => ?_)
  ·try simp only [sx] at c2
   obtain ⟨x,hx⟩ := qT a k (by omega)
   obtain ⟨y,hy⟩ := qT b k (by omega)
   refine zK<|zJ<|zQ<|zJ<|yI 10 mixed (by kernel_rfl) rfl rfl<|zM rfl rfl (zO rfl rfl)<|zM rfl rfl (zO rfl rfl)<|zM rfl rfl (zN rfl el50 rfl rfl (by omega) (zFi (by assumption)))<|zM rfl rfl (zE rfl yX rfl qB rfl)<|zM rfl rfl (zO rfl rfl)<|zM rfl rfl (zO rfl rfl)<|zM rfl rfl (zN rfl el50 rfl rfl (by omega) (zFi (by assumption)))<|zM rfl rfl (zE rfl yX rfl qB rfl)<|zM rfl rfl (zR rfl ok82 (hE x (qC hx) y) ⟨VLe.refl _,rfl,VLe.refl _,rfl,trivial⟩)<|zM rfl rfl (yB rfl rfl)<|kI<|zB<|zG rfl (fun c3 => ?_) (fun c3 => ?_)
   ·try simp only [sx] at c3
    refine sReg rfl<|rMv rfl<|zB<|zH<|fin1 (rs_c rfl) ?_
    rw [yL (zBw hx hy c3)]
   ·try simp only [sx] at c3
    refine zK<|zS rfl<|rMv rfl<|zA rfl rfl (qA rfl rfl rfl ⟨by omega,by omega⟩)<|rMv rfl<|zB ?_
    refine ⟨k + 1,⟨by omega,wO hx hy hp c3⟩,(by omega),Weak.mk [] ⟨VLe.refl _,VLe.refl _,VLe.refl _,trivial⟩ rfl⟩
  ·try simp only [sx] at c2
   refine qI<|sReg rfl<|rMv rfl<|zB<|zH<|fin1 (rs_c rfl) ?_
   rw [kY (zBc hp (by omega) (by omega))]
theorem base_Expr_step (a : Ex) (ih : ∀ x,x ∈ a.Args → x.wt ≤ 6000000000000 → ∀ y,Pur cfg 82 [vE x,vE y] (vB (decide (x = y)))) (ha : a.wt ≤ 6000000000000) (b : Ex) :
    Pur cfg 82 [vE a,vE b] (vB (decide (a = b))):= by
 refine zU Tryz.func82 rfl Tryz.ntmps82 Tryz.results82 rfl ?_
 intro z hz
 obtain ⟨hL,hI,hA⟩ := a.parts ha
 have hw := Ex.wt_eq a
 refine sReg rfl<|zZ rfl rfl (qL rfl rfl) ?_
 rintro _ _ ⟨b1,rfl,rfl⟩
 refine zZ rfl rfl (qL rfl rfl) ?_
 rintro _ _ ⟨b2,rfl,rfl⟩
 refine rMv rfl<|zB<|sReg rfl<|zA rfl rfl (zD rfl wY rfl)<|zA rfl rfl (zC rfl one3 rfl (zF 1 rfl) rfl)<|zA rfl rfl (zD rfl wY rfl)<|zA rfl rfl (zC rfl one3 rfl (zF 0 rfl) rfl)<|zA rfl rfl (qH rfl rfl rfl)<|rMv rfl<|rLz [] rfl gv1 trivial (fun g1_5 => zD rfl zGq rfl) rfl<|rLz [(11,_)] rfl gv1 ⟨rfl,rfl,trivial⟩ (fun g1_5 => zC rfl one9 rfl (zF 1 rfl) rfl) rfl<|rLz [] rfl gv1 trivial (fun g1_5 => zD rfl zGq rfl) rfl<|rLz [(13,_)] rfl gv1 ⟨rfl,rfl,trivial⟩ (fun g1_5 => zC rfl one9 rfl (zF 0 rfl) rfl) rfl<|rLz [(12,_),(14,_)] rfl gv1 ⟨rfl,rfl,rfl,rfl,trivial⟩ (fun g1_5 => yG rfl rfl rfl) rfl<|zA rfl rfl (qP rfl rfl rfl (fun h => h) rfl)<|rMv rfl<|rLz [] rfl gv1 trivial (fun g1_12 => zD rfl zIl rfl) rfl<|rLz [(18,_)] rfl gv1 ⟨rfl,rfl,trivial⟩ (fun g1_12 => zE rfl agg46 rfl (zF 1 rfl) rfl) rfl<|rLz [] rfl gv1 trivial (fun g1_12 => zD rfl zIl rfl) rfl<|rLz [(20,_)] rfl gv1 ⟨rfl,rfl,trivial⟩ (fun g1_12 => zE rfl agg46 rfl (zF 0 rfl) rfl) rfl<|rLz [(19,_),(21,_)] rfl gv1 ⟨rfl,rfl,rfl,rfl,trivial⟩ (fun g1_12 => zIq rfl fl46 rfl rfl rfl) rfl<|zA rfl rfl (qP rfl rfl rfl (fun h => h) rfl)<|rMv rfl<|rLz [] rfl gv1 trivial (fun g1_19 => zD rfl zGp rfl) rfl<|rLz [(25,_)] rfl gv1 ⟨rfl,rfl,trivial⟩ (fun g1_19 => zE rfl yN rfl (zF 1 rfl) rfl) rfl<|rLz [] rfl gv1 trivial (fun g1_19 => zD rfl zGp rfl) rfl<|rLz [(27,_)] rfl gv1 ⟨rfl,rfl,trivial⟩ (fun g1_19 => zE rfl yN rfl (zF 0 rfl) rfl) rfl<|rLz [(26,_),(28,_)] rfl gv1 ⟨rfl,rfl,rfl,rfl,trivial⟩ (fun g1_19 => zIq rfl fl40 rfl rfl rfl) rfl<|zA rfl rfl (qP rfl rfl rfl (fun h => h) rfl)<|rMv rfl<|rLz [] rfl gv1 trivial (fun g1_26 => zD rfl zEk rfl) rfl<|rLz [(32,_)] rfl gv1 ⟨rfl,rfl,trivial⟩ (fun g1_26 => zE rfl kX rfl (zF 1 rfl) rfl) rfl<|rLz [] rfl gv1 trivial (fun g1_26 => zD rfl zEk rfl) rfl<|rLz [(34,_)] rfl gv1 ⟨rfl,rfl,trivial⟩ (fun g1_26 => zE rfl kX rfl (zF 0 rfl) rfl) rfl<|rLz [(33,_),(35,_)] rfl gv1 ⟨rfl,rfl,rfl,rfl,trivial⟩ (fun g1_26 => zR rfl ok128 (base_Lin a.Lin b.Lin hL) ⟨VLe.refl _,rfl,VLe.refl _,rfl,trivial⟩) rfl<|zA rfl rfl (qP rfl rfl rfl (fun h => h) rfl)<|rMv rfl<|rLz [] rfl gv1 trivial (fun g1_33 => zD rfl kO rfl) rfl<|rLz [(39,_)] rfl gv1 ⟨rfl,rfl,trivial⟩ (fun g1_33 => zC rfl kU rfl (zF 1 rfl) rfl) rfl<|rLz [] rfl gv1 trivial (fun g1_33 => zD rfl kO rfl) rfl<|rLz [(41,_)] rfl gv1 ⟨rfl,rfl,trivial⟩ (fun g1_33 => zC rfl kU rfl (zF 0 rfl) rfl) rfl<|rLz [(40,_),(42,_)] rfl gv1 ⟨rfl,rfl,rfl,rfl,trivial⟩ (fun g1_33 => zR rfl ok81 (zKx a.Idx b.Idx hI (by omega)) ⟨VLe.refl _,rfl,VLe.refl _,rfl,trivial⟩) rfl<|zA rfl rfl (qP rfl rfl rfl (fun h => h) rfl)<|rMv rfl<|rLz [] rfl gv1 trivial (fun g1_40 => zD rfl wX rfl) rfl<|rLz [(46,_)] rfl gv1 ⟨rfl,rfl,trivial⟩ (fun g1_40 => zC rfl zCz rfl (zF 1 rfl) rfl) rfl<|rLz [] rfl gv1 trivial (fun g1_40 => zD rfl wX rfl) rfl<|rLz [(48,_)] rfl gv1 ⟨rfl,rfl,trivial⟩ (fun g1_40 => zC rfl zCz rfl (zF 0 rfl) rfl) rfl<|rLz [(47,_),(49,_)] rfl gv1 ⟨rfl,rfl,rfl,rfl,trivial⟩ (fun g1_40 => zR rfl ok129 (base_Exprs_of a.Args b.Args (fun x hx y => ih x hx (by have := Ex.arg_wt hx; omega) y) hA) ⟨VLe.refl _,rfl,VLe.refl _,rfl,trivial⟩) rfl<|zA rfl rfl (qP rfl rfl rfl (fun h => h) rfl)<|rMv rfl<|zB<|zH<|fin1 (rs_c rfl) ?_
 exact congrArg vB (ex_eq a b)
theorem base_Expr (a b : Ex) (ha : a.wt ≤ 6000000000000) : Pur cfg 82 [vE a,vE b] (vB (decide (a = b))):= by
  induction a using Ex.ind generalizing b with
  | _ a ih => exact base_Expr_step a (fun x hx h y => ih x hx y h) ha b
theorem base_Strings (a b : List ByteArray) (ha : a.length ≤ 6000000000000) :
    Pur cfg 34 [vSs a,vSs b] (vB (decide (a = b))):= by
 refine zU Tryz.func34 rfl Tryz.ntmps34 Tryz.results34 rfl ?_
 intro z hz
 refine sReg rfl<|rMv rfl<|zB<|zJ<|sReg rfl<|rMv rfl<|zA rfl rfl (zP rfl el72 rfl)<|rMv rfl<|zA rfl rfl (zP rfl el72 rfl)<|zA rfl rfl (qV rfl rfl rfl)<|zB<|zG rfl (fun c1 => ?_) (fun c1 => ?_)
 ·try simp only [sx] at c1
  refine sReg rfl<|rMv rfl<|zB<|zH<|fin1 (rs_c rfl) ?_
  rw [yL (fun h => c1 (by rw [h]))]
 ·try simp only [sx] at c1
  refine zK<|zJ<|sReg rfl<|rMv rfl<|zB<|zQ<|zV ⟨[(5,.c _),(0,.c _),(1,.c _)],[]⟩ (Weak.mk [] ⟨VLe.of_eq rfl,VLe.of_eq rfl,VLe.of_eq rfl,trivial⟩ rfl)<|qE 1 0 rfl rfl (Nat) (fun k => [(5,vI k)]) (fun k => []) (fun k => k ≤ a.length ∧ (a.take k = b.take k)) (fun k => a.length - k) ⟨0,⟨by omega,rfl⟩,Weak.mk [] ⟨VLe.refl _,VLe.refl _,VLe.refl _,trivial⟩ rfl⟩ ?_
  rintro k ⟨hk,hp⟩
  refine zJ<|sReg rfl<|rMv rfl<|rMv rfl<|zA rfl rfl (zP rfl el72 rfl)<|zA rfl rfl (qJ rfl rfl rfl)<|zB<|zG rfl (fun c2 => ?_) (fun c2 => ?_)
  ·try simp only [sx] at c2
   obtain ⟨x,hx⟩ := qT a k (by omega)
   obtain ⟨y,hy⟩ := qT b k (by omega)
   refine zK<|zJ<|zQ<|zJ<|yI 9 mixed (by kernel_rfl) rfl rfl<|zM rfl rfl (zO rfl rfl)<|zM rfl rfl (zO rfl rfl)<|zM rfl rfl (zN rfl el72 rfl rfl (by omega) (getm (by assumption)))<|zM rfl rfl (zC rfl one9 rfl qB rfl)<|zM rfl rfl (zO rfl rfl)<|zM rfl rfl (zO rfl rfl)<|zM rfl rfl (zN rfl el72 rfl rfl (by omega) (getm (by assumption)))<|zM rfl rfl (zC rfl one9 rfl qB rfl)<|zM rfl rfl (zGe rfl rfl rfl)<|kI<|zB<|zG rfl (fun c3 => ?_) (fun c3 => ?_)
   ·try simp only [sx] at c3
    refine sReg rfl<|rMv rfl<|zB<|zH<|fin1 (rs_c rfl) ?_
    rw [yL (zBw hx hy c3)]
   ·try simp only [sx] at c3
    refine zK<|zS rfl<|rMv rfl<|zA rfl rfl (qA rfl rfl rfl ⟨by omega,by omega⟩)<|rMv rfl<|zB ?_
    refine ⟨k + 1,⟨by omega,wO hx hy hp c3⟩,(by omega),Weak.mk [] ⟨VLe.refl _,VLe.refl _,VLe.refl _,trivial⟩ rfl⟩
  ·try simp only [sx] at c2
   refine qI<|sReg rfl<|rMv rfl<|zB<|zH<|fin1 (rs_c rfl) ?_
   rw [kY (zBc hp (by omega) (by omega))]
theorem zOw (e : Ex) (ih : ∀ a,a ∈ e.Args → ∀ (m : Nat) (x : Int),a.fit → m ≤ 1000000 → x = m → Pur cfg 109 [vE a,vI x] (vI (weighE a m))) (m : Nat) (x : Int) (hf : e.fit) (hm : m ≤ 1000000) (hx : x = m) :
    Pur cfg 109 [vE e,vI x] (vI (weighE e m)):= by
 refine zU Tryz.func109 rfl Tryz.ntmps109 Tryz.results109 rfl ?_
 intro z hz
 obtain ⟨f1,f2,f3,f4,f5⟩ := Ex.fit_eq hf
 have hW := weighE_eq e m
 refine sReg rfl<|zZ rfl rfl (qL rfl rfl) ?_
 rintro _ _ ⟨b1,rfl,rfl⟩
 refine rMv rfl<|zB<|sReg rfl<|zA rfl rfl (zD rfl zEk rfl)<|zA rfl rfl (zD rfl wZ rfl)<|zA rfl rfl (zC rfl zCq rfl (zF 0 rfl) rfl)<|zA rfl rfl (zP rfl el47 rfl)<|zA rfl rfl (qA rfl rfl rfl ⟨by omega,by omega⟩)<|zA rfl rfl (zD rfl kO rfl)<|zA rfl rfl (zC rfl kU rfl (zF 0 rfl) rfl)<|zA rfl rfl (zP rfl el44 rfl)<|zA rfl rfl (qA rfl rfl rfl ⟨by omega,by omega⟩)<|rMv rfl<|zB<|zJ<|sReg rfl<|rMv rfl<|zB<|zQ<|zV ⟨[(6,.c _),(5,.c _),(1,.c _),(2,.c _)],[_]⟩ (Weak.mk [true] ⟨VLe.of_eq rfl,VLe.of_eq rfl,VLe.of_eq rfl,VLe.of_eq rfl,trivial⟩ rfl)<|qE 2 0 rfl rfl (Nat × Nat) (fun ⟨k,n⟩ => [(6,vI k),(5,vI n)]) (fun ⟨k,n⟩ => []) (fun ⟨k,n⟩ => k ≤ e.Idx.length ∧ (n ≤ m + 4 * 140737488355328) ∧ (weighIdx m (1 + e.Lin.L.length + e.Idx.length) e.Idx = weighIdx m n (e.Idx.drop k))) (fun ⟨k,n⟩ => e.Idx.length - k) ⟨⟨0,1 + e.Lin.L.length + e.Idx.length⟩,⟨by omega,by omega,rfl⟩,Weak.mk [true] ⟨VLe.refl _,VLe.of_eq (congrArg vI (by omega)),VLe.refl _,VLe.refl _,trivial⟩ rfl⟩ ?_
 rintro ⟨k,n⟩ ⟨hk,hn1,hn2⟩
 show AWP _ _ _ _ _ ⟨[(6,vI k),(5,vI n)] ++ _,[] ++ _⟩
 refine zJ<|sReg rfl<|rMv rfl<|zA rfl rfl (zD rfl kO rfl)<|zA rfl rfl (zC rfl kU rfl (zF 0 rfl) rfl)<|zA rfl rfl (zP rfl el44 rfl)<|zA rfl rfl (qJ rfl rfl rfl)<|rMv rfl<|rLz [] rfl gv1 trivial (fun g3_5 => zO rfl rfl) rfl<|rLz [] rfl gv1 trivial (fun g3_5 => zO rfl rfl) rfl<|rLz [(24,_),(25,_)] rfl gv1 ⟨rfl,rfl,rfl,rfl,trivial⟩ (fun g3_5 => wM rfl rfl rfl) rfl<|zA rfl rfl (qP rfl rfl rfl (fun h => h) rfl)<|zB<|zG rfl (fun c1 => ?_) (fun c1 => ?_)
 ·try simp only [sx] at c1
  obtain ⟨y,hy⟩ := qT e.Idx k (by omega)
  obtain ⟨i1,i2,i3⟩ := f4 y (qC hy)
  refine zK<|zJ<|zQ<|zJ<|yI 19 mixed (by kernel_rfl) rfl rfl<|zM rfl rfl (zO rfl rfl)<|zM rfl rfl (zD rfl kO rfl)<|zM rfl rfl (zC rfl kU rfl (zF 0 rfl) rfl)<|zM rfl rfl (zO rfl rfl)<|zM rfl rfl (zN rfl el44 rfl rfl (by omega) (getm (by assumption)))<|zM rfl rfl (zX rfl zAx rfl)<|zM rfl rfl (zX rfl wZ rfl)<|zM rfl rfl (zC rfl zCq rfl qB rfl)<|zM rfl rfl (zP rfl el47 rfl)<|zM rfl rfl (qA rfl rfl rfl ⟨by omega,by omega⟩)<|zM rfl rfl (zD rfl kO rfl)<|zM rfl rfl (zC rfl kU rfl (zF 0 rfl) rfl)<|zM rfl rfl (zO rfl rfl)<|zM rfl rfl (zN rfl el44 rfl rfl (by omega) (getm (by assumption)))<|zM rfl rfl (zX rfl kH rfl)<|zM rfl rfl (zC rfl wH rfl qB rfl)<|zM rfl rfl (zP rfl wJ rfl)<|zM rfl rfl (qA rfl rfl rfl ⟨by omega,by omega⟩)<|zM rfl rfl (yQ rfl rfl)<|kI<|zB<|sReg rfl<|rMv rfl<|zB<|zQ<|zV ⟨[(7,.c _),(5,.c _),(1,.c _),(2,.c _),(6,.c _)],[_]⟩ (Weak.mk [true] ⟨VLe.of_eq rfl,VLe.of_eq rfl,VLe.of_eq rfl,VLe.of_eq rfl,VLe.of_eq rfl,trivial⟩ rfl)<|qE 2 0 rfl rfl (Nat × Nat) (fun ⟨j,p⟩ => [(7,vI j),(5,vI p)]) (fun ⟨j,p⟩ => []) (fun ⟨j,p⟩ => j ≤ y.At.length ∧ (p ≤ m + 4 * 140737488355328) ∧ (weighAt m (n + y.Lin.L.length + y.At.length) y.At = weighAt m p (y.At.drop j))) (fun ⟨j,p⟩ => y.At.length - j) ⟨⟨0,n + y.Lin.L.length + y.At.length⟩,⟨by omega,by omega,rfl⟩,Weak.mk [true] ⟨VLe.refl _,VLe.of_eq (congrArg vI (by omega)),VLe.refl _,VLe.refl _,VLe.refl _,trivial⟩ rfl⟩ ?_
  rintro ⟨j,p⟩ ⟨hj,hp1,hp2⟩
  show AWP _ _ _ _ _ ⟨[(7,vI j),(5,vI p)] ++ _,[] ++ _⟩
  refine zJ<|sReg rfl<|rMv rfl<|zA rfl rfl (zD rfl kO rfl)<|zA rfl rfl (zC rfl kU rfl (zF 0 rfl) rfl)<|rMv rfl<|zA rfl rfl (zN rfl el44 rfl rfl (by omega) (getm (by assumption)))<|zA rfl rfl (zX rfl kH rfl)<|zA rfl rfl (zC rfl wH rfl qB rfl)<|zA rfl rfl (zP rfl wJ rfl)<|zA rfl rfl (qJ rfl rfl rfl)<|rMv rfl<|rLz [] rfl gv1 trivial (fun g7_9 => zO rfl rfl) rfl<|rLz [] rfl gv1 trivial (fun g7_9 => zO rfl rfl) rfl<|rLz [(58,_),(59,_)] rfl gv1 ⟨rfl,rfl,rfl,rfl,trivial⟩ (fun g7_9 => wM rfl rfl rfl) rfl<|zA rfl rfl (qP rfl rfl rfl (fun h => h) rfl)<|zB<|zG rfl (fun c2 => ?_) (fun c2 => ?_)
  ·try simp only [sx] at c2
   obtain ⟨l,hl⟩ := qT y.At j (by omega)
   have hl2 := i3 l (qC hl)
   refine zK<|zJ<|zQ<|zS rfl<|rMv rfl<|zA rfl rfl (zD rfl kO rfl)<|zA rfl rfl (zC rfl kU rfl (zF 0 rfl) rfl)<|rMv rfl<|zA rfl rfl (zN rfl el44 rfl rfl (by omega) (getm (by assumption)))<|zA rfl rfl (zX rfl kH rfl)<|zA rfl rfl (zC rfl wH rfl qB rfl)<|rMv rfl<|zA rfl rfl (zN rfl wJ rfl rfl (by omega) (getm (by assumption)))<|zA rfl rfl (zX rfl wZ rfl)<|zA rfl rfl (zC rfl zCq rfl qB rfl)<|zA rfl rfl (zP rfl el47 rfl)<|zA rfl rfl (qA rfl rfl rfl ⟨by omega,by omega⟩)<|rMv rfl<|zB<|zS rfl<|rMv rfl<|zA rfl rfl (qA rfl rfl rfl ⟨by omega,by omega⟩)<|rMv rfl<|zB ?_
   refine ⟨⟨j + 1,p + l.L.length⟩,⟨by omega,by omega,by rw [hp2,qR hl,weighAt,if_pos (by omega)]⟩,(by show y.At.length - (j + 1) < y.At.length - j; omega),Weak.mk [true] ⟨VLe.refl _,VLe.of_eq (congrArg vI (by omega)),VLe.refl _,VLe.refl _,VLe.refl _,trivial⟩ rfl⟩
  ·try simp only [sx] at c2
   have hN2 := weighAt_end (l := y.At) (k := j) (n := p) hx (by omega)
   refine qI<|zS rfl<|rMv rfl<|zA rfl rfl (qA rfl rfl rfl ⟨by omega,by omega⟩)<|rMv rfl<|zB ?_
   refine ⟨⟨k + 1,p⟩,⟨by omega,hp1,by rw [hn2,qR hy,weighIdx,if_pos (by omega),hp2,← hN2]⟩,(by show e.Idx.length - (k + 1) < e.Idx.length - k; omega),Weak.mk [true] ⟨VLe.refl _,VLe.refl _,VLe.refl _,VLe.refl _,trivial⟩ rfl⟩
 ·try simp only [sx] at c1
  have hN := weighIdx_end (l := e.Idx) (k := k) (n := n) hx (by omega)
  refine qI<|zJ<|sReg rfl<|rMv rfl<|zB<|zQ<|zV ⟨[(8,.c _),(5,.c _),(1,.c _),(2,.c _)],[_]⟩ (Weak.mk [true] ⟨VLe.of_eq rfl,VLe.of_eq rfl,VLe.of_eq rfl,VLe.of_eq rfl,trivial⟩ rfl)<|qE 2 0 rfl rfl (Nat × Nat) (fun ⟨k,n⟩ => [(8,vI k),(5,vI n)]) (fun ⟨k,n⟩ => []) (fun ⟨k,n⟩ => k ≤ e.Args.length ∧ (n ≤ m + 4 * 140737488355328) ∧ (weighE e m = weighL (e.Args.drop k) m n)) (fun ⟨k,n⟩ => e.Args.length - k) ⟨⟨0,n⟩,⟨by omega,hn1,by rw [hW,hn2,← hN]; rfl⟩,Weak.mk [true] ⟨VLe.refl _,VLe.refl _,VLe.refl _,VLe.refl _,trivial⟩ rfl⟩ ?_
  rintro ⟨k,n⟩ ⟨hk3,hn3,hn4⟩
  show AWP _ _ _ _ _ ⟨[(8,vI k),(5,vI n)] ++ _,[] ++ _⟩
  refine zJ<|sReg rfl<|rMv rfl<|zA rfl rfl (zD rfl wX rfl)<|zA rfl rfl (zC rfl zCz rfl (zF 0 rfl) rfl)<|zA rfl rfl (zP rfl el50 rfl)<|zA rfl rfl (qJ rfl rfl rfl)<|rMv rfl<|rLz [] rfl gv1 trivial (fun g11_5 => zO rfl rfl) rfl<|rLz [] rfl gv1 trivial (fun g11_5 => zO rfl rfl) rfl<|rLz [(83,_),(84,_)] rfl gv1 ⟨rfl,rfl,rfl,rfl,trivial⟩ (fun g11_5 => wM rfl rfl rfl) rfl<|zA rfl rfl (qP rfl rfl rfl (fun h => h) rfl)<|zB<|zG rfl (fun c3 => ?_) (fun c3 => ?_)
  ·try simp only [sx] at c3
   obtain ⟨a,ha⟩ := qT e.Args k (by omega)
   have hwa := zCu a (m - n) (f5 a (qC ha))
   refine zK<|zJ<|zQ<|zS rfl<|rMv rfl<|zA rfl rfl (zD rfl wX rfl)<|zA rfl rfl (zC rfl zCz rfl (zF 0 rfl) rfl)<|rMv rfl<|zA rfl rfl (zN rfl el50 rfl rfl (by omega) (zFi (by assumption)))<|zA rfl rfl (zE rfl yX rfl qB rfl)<|rMv rfl<|rMv rfl<|zA rfl rfl (yA rfl rfl rfl ⟨by omega,by omega⟩)<|zA rfl rfl (zR rfl ok109 (ih a (qC ha) (m - n) _ (f5 a (qC ha)) (by omega) (by omega)) ⟨VLe.refl _,rfl,VLe.refl _,rfl,trivial⟩)<|zA rfl rfl (qA rfl rfl rfl ⟨by omega,by omega⟩)<|rMv rfl<|zB<|zS rfl<|rMv rfl<|zA rfl rfl (qA rfl rfl rfl ⟨by omega,by omega⟩)<|rMv rfl<|zB ?_
   refine ⟨⟨k + 1,n + weighE a (m - n)⟩,⟨by omega,by omega,by rw [hn4,qR ha,weighL,if_pos (by omega)]⟩,(by show e.Args.length - (k + 1) < e.Args.length - k; omega),Weak.mk [true] ⟨VLe.refl _,VLe.of_eq (congrArg vI (by omega)),VLe.refl _,VLe.refl _,trivial⟩ rfl⟩
  ·try simp only [sx] at c3
   refine qI<|sReg rfl<|rMv rfl<|rMv rfl<|zB<|zH<|fin1 (rs_c rfl) ?_
   exact congrArg vI (by rw [hn4,← weighL_end hx (by omega)])
theorem base_Weigh (e : Ex) (m : Nat) (x : Int) (hf : e.fit) (hm : m ≤ 1000000) (hx : x = m) : Pur cfg 109 [vE e,vI x] (vI (weighE e m)):= by
  induction e using Ex.ind generalizing m x with
  | _ e ih => exact zOw e (fun a ha m x h1 h2 h3 => ih a ha m x h1 h2 h3) m x hf hm hx
theorem zJk (l : List Mono) (hl : l.length ≤ 5864062014805) :
    OwnR cfg 146 [vMonos l] 111 2 (l.map Mono.cells):= by
 refine zU Tryz.func146 rfl Tryz.ntmps146 Tryz.results146 rfl ?_
 intro z hz
 refine sReg rfl<|zA rfl rfl (qO 2 rfl rfl)<|zB<|zJ<|sReg rfl<|rMv rfl<|zZ rfl rfl (zCy rfl el47 rfl rfl) ?_
 rintro _ _ ⟨nb1,rfl,hnil1,rfl⟩
 refine zB<|zG rfl (fun c1 => ?_) (fun c1 => ?_)
 ·try simp only [sx] at c1
  refine sReg rfl<|rMv rfl<|yE _ (kB 111 2)<|zB<|zH<|fin1 (rs_c rfl) ?_
  exact ⟨_,rfl,by rw [hnil1 c1]⟩
 ·try simp only [sx] at c1
  refine zK<|sReg rfl<|zZ rfl rfl (zAp rfl el47 zr111 rfl rfl rfl rfl) ?_
  rintro _ _ ⟨sv3,rfl,rfl⟩
  refine rMv rfl<|zZ rfl rfl (qU 0 rfl el47 rfl rfl rfl (by simp only [List.length_map,List.length_nil,Nat.zero_add]; omega) (by simp only [List.length_map,List.length_nil,Nat.zero_add]; omega)) ?_
  rintro _ _ ⟨sv4,rfl,rfl⟩
  refine rMv rfl<|zB<|zH<|fin1 (rs_c rfl) ?_
  exact ⟨_,rfl,rfl⟩
theorem zEd (l : List Lf) (hl : l.length ≤ 4294967296) :
    OwnR cfg 134 [vLins l] 49 2 (l.map Lf.cells):= by
 refine zU Tryz.func134 rfl Tryz.ntmps134 Tryz.results134 rfl ?_
 intro z hz
 refine sReg rfl<|zA rfl rfl (qO 2 rfl rfl)<|zB<|zJ<|sReg rfl<|rMv rfl<|zZ rfl rfl (zCy rfl wJ rfl rfl) ?_
 rintro _ _ ⟨nb1,rfl,hnil1,rfl⟩
 refine zB<|zG rfl (fun c1 => ?_) (fun c1 => ?_)
 ·try simp only [sx] at c1
  refine sReg rfl<|rMv rfl<|yE _ (kB 49 2)<|zB<|zH<|fin1 (rs_c rfl) ?_
  exact ⟨_,rfl,by rw [hnil1 c1]⟩
 ·try simp only [sx] at c1
  refine zK<|sReg rfl<|zZ rfl rfl (zAp rfl wJ zr49 rfl rfl rfl rfl) ?_
  rintro _ _ ⟨sv3,rfl,rfl⟩
  refine rMv rfl<|zZ rfl rfl (qU 0 rfl wJ rfl rfl rfl (by simp only [List.length_map,List.length_nil,Nat.zero_add]; omega) (by simp only [List.length_map,List.length_nil,Nat.zero_add]; omega)) ?_
  rintro _ _ ⟨sv4,rfl,rfl⟩
  refine rMv rfl<|zB<|zH<|fin1 (rs_c rfl) ?_
  exact ⟨_,rfl,rfl⟩
theorem zEv (l : List Ix) (hl : l.length ≤ 4294967296) :
    OwnR cfg 133 [vIndices l] 114 4 (l.map Ix.cells):= by
 refine zU Tryz.func133 rfl Tryz.ntmps133 Tryz.results133 rfl ?_
 intro z hz
 refine sReg rfl<|zA rfl rfl (qO 4 rfl rfl)<|zB<|zJ<|sReg rfl<|rMv rfl<|zZ rfl rfl (zCy rfl el44 rfl rfl) ?_
 rintro _ _ ⟨nb1,rfl,hnil1,rfl⟩
 refine zB<|zG rfl (fun c1 => ?_) (fun c1 => ?_)
 ·try simp only [sx] at c1
  refine sReg rfl<|rMv rfl<|yE _ (kB 114 4)<|zB<|zH<|fin1 (rs_c rfl) ?_
  exact ⟨_,rfl,by rw [hnil1 c1]⟩
 ·try simp only [sx] at c1
  refine zK<|sReg rfl<|zZ rfl rfl (zAp rfl el44 zJe rfl rfl rfl rfl) ?_
  rintro _ _ ⟨sv3,rfl,rfl⟩
  refine rMv rfl<|zZ rfl rfl (qU 0 rfl el44 rfl rfl rfl (by simp only [List.length_map,List.length_nil,Nat.zero_add]; omega) (by simp only [List.length_map,List.length_nil,Nat.zero_add]; omega)) ?_
  rintro _ _ ⟨sv4,rfl,rfl⟩
  refine rMv rfl<|zB<|zH<|fin1 (rs_c rfl) ?_
  exact ⟨_,rfl,rfl⟩
theorem zMq (l : List Ex) (hl : l.length ≤ 4294967296) :
    OwnR cfg 175 [vEs l] 52 13 (l.map Ex.cells):= by
 refine zU Tryz.func175 rfl Tryz.ntmps175 Tryz.results175 rfl ?_
 intro z hz
 refine sReg rfl<|zA rfl rfl (qO 13 rfl rfl)<|zB<|zJ<|sReg rfl<|rMv rfl<|zZ rfl rfl (zCy rfl el50 rfl rfl) ?_
 rintro _ _ ⟨nb1,rfl,hnil1,rfl⟩
 refine zB<|zG rfl (fun c1 => ?_) (fun c1 => ?_)
 ·try simp only [sx] at c1
  refine sReg rfl<|rMv rfl<|yE _ (kB 52 13)<|zB<|zH<|fin1 (rs_c rfl) ?_
  exact ⟨_,rfl,by rw [hnil1 c1]⟩
 ·try simp only [sx] at c1
  refine zK<|sReg rfl<|zZ rfl rfl (zAp rfl el50 zr52 rfl rfl rfl rfl) ?_
  rintro _ _ ⟨sv3,rfl,rfl⟩
  refine rMv rfl<|zZ rfl rfl (qU 0 rfl el50 rfl rfl rfl (by simp only [List.length_map,List.length_nil,Nat.zero_add]; omega) (by simp only [List.length_map,List.length_nil,Nat.zero_add]; omega)) ?_
  rintro _ _ ⟨sv4,rfl,rfl⟩
  refine rMv rfl<|zB<|zH<|fin1 (rs_c rfl) ?_
  exact ⟨_,rfl,rfl⟩
end Go.W
