/-
  Walks: what functions of the program compute. Printed by wip/gen/mk2.py.
  Conditions: none.
-/
import Derived.Test.YtdbflnlalkfeeaaGreatDoorWD
import Derived.Test.YtdbflnlalkfeeaaGreatDoorPlain
set_option maxRecDepth 10000
namespace Go.W
open Go Go.Eng Go.Proofs Go.L41 Go.Br
attribute [local irreducible] AWP RWP TD finQ
theorem ok81 : callOk Tryz.prog 81 = true:= by kernel_rfl
theorem ok82 : callOk Tryz.prog 82 = true:= by kernel_rfl
theorem ok109 : callOk Tryz.prog 109 = true:= by kernel_rfl
theorem ok127 : callOk Tryz.prog 127 = true:= by kernel_rfl
theorem ok128 : callOk Tryz.prog 128 = true:= by kernel_rfl
theorem ok129 : callOk Tryz.prog 129 = true:= by kernel_rfl
theorem ok166 : callOk Tryz.prog 166 = true:= by kernel_rfl
theorem base_Lins (a b : List Lf) (ha : a.length ≤ 6000000000000) (hw : linsWt a ≤ 6000000000000) :
    Pur cfg 166 [vLins a,vLins b] (vB (decide (a = b))):= by
 refine zV Tryz.func166 rfl Tryz.ntmps166 Tryz.results166 rfl ?_
 intro z hz
 refine sReg rfl<|rMv rfl<|zB<|zJ<|sReg rfl<|rMv rfl<|zA rfl rfl (zT rfl wK rfl)<|rMv rfl<|zA rfl rfl (zT rfl wK rfl)<|zA rfl rfl (qS rfl rfl rfl)<|zB<|zG rfl (fun c1 => ?_) (fun c1 => ?_)
 ·try simp only [sx] at c1
  refine sReg rfl<|rMv rfl<|zB<|zH<|fin1 (rs_c rfl) ?_
  rw [yW (fun h => c1 (by rw [h]))]
 ·try simp only [sx] at c1
  refine zK<|zJ<|sReg rfl<|rMv rfl<|zB<|zU<|zX ⟨[(5,.c _),(0,.c _),(1,.c _)],[]⟩ (Weak.mk [] ⟨VLe.of_eq rfl,VLe.of_eq rfl,VLe.of_eq rfl,trivial⟩ rfl)<|qI 1 0 rfl rfl (Nat) (fun k => [(5,vI k)]) (fun k => []) (fun k => k ≤ a.length ∧ (a.take k = b.take k)) (fun k => a.length - k) ⟨0,⟨by omega,rfl⟩,Weak.mk [] ⟨VLe.refl _,VLe.refl _,VLe.refl _,trivial⟩ rfl⟩ ?_
  rintro k ⟨hk,hp⟩
  refine zJ<|sReg rfl<|rMv rfl<|rMv rfl<|zA rfl rfl (zT rfl wK rfl)<|zA rfl rfl (qL rfl rfl rfl)<|zB<|zG rfl (fun c2 => ?_) (fun c2 => ?_)
  ·try simp only [sx] at c2
   obtain ⟨x,hx⟩ := qZ a k (by omega)
   obtain ⟨y,hy⟩ := qZ b k (by omega)
   have hxw := wT (qB hx)
   refine zK<|zJ<|zU<|zJ<|yG 10 mixed (by kernel_rfl) rfl rfl<|zM rfl rfl (zN rfl rfl)<|zM rfl rfl (zN rfl rfl)<|zM rfl rfl (zP rfl wK rfl rfl (by omega) (getm (by assumption)))<|zM rfl rfl (zF rfl yI rfl qA rfl)<|zM rfl rfl (zN rfl rfl)<|zM rfl rfl (zN rfl rfl)<|zM rfl rfl (zP rfl wK rfl rfl (by omega) (getm (by assumption)))<|zM rfl rfl (zF rfl yI rfl qA rfl)<|zM rfl rfl (zQ rfl ok128 (base_Lin x y (by omega)) ⟨VLe.refl _,rfl,VLe.refl _,rfl,trivial⟩)<|zM rfl rfl (yA rfl rfl)<|kI<|zB<|zG rfl (fun c3 => ?_) (fun c3 => ?_)
   ·try simp only [sx] at c3
    refine sReg rfl<|rMv rfl<|zB<|zH<|fin1 (rs_c rfl) ?_
    rw [yW (zDq hx hy c3)]
   ·try simp only [sx] at c3
    refine zK<|zR rfl<|rMv rfl<|zA rfl rfl (qC rfl rfl rfl ⟨by omega,by omega⟩)<|rMv rfl<|zB ?_
    refine ⟨k + 1,⟨by omega,zBa hx hy hp c3⟩,(by omega),Weak.mk [] ⟨VLe.refl _,VLe.refl _,VLe.refl _,trivial⟩ rfl⟩
  ·try simp only [sx] at c2
   refine qO<|sReg rfl<|rMv rfl<|zB<|zH<|fin1 (rs_c rfl) ?_
   rw [wR (zCo hp (by omega) (by omega))]
theorem base_Index (a b : Ix) (ha : a.wt ≤ 6000000000000) :
    Pur cfg 127 [vIndex a,vIndex b] (vB (decide (a = b))):= by
 refine zV Tryz.func127 rfl Tryz.ntmps127 Tryz.results127 rfl ?_
 intro z hz
 have hw := ha
 unfold Ix.wt at hw
 refine sReg rfl<|zY rfl rfl (qM rfl rfl) ?_
 rintro _ _ ⟨b1,rfl,rfl⟩
 refine zY rfl rfl (qM rfl rfl) ?_
 rintro _ _ ⟨b2,rfl,rfl⟩
 refine rMv rfl<|zB<|sReg rfl<|zA rfl rfl (zC rfl zCi rfl)<|zA rfl rfl (zD rfl one9 rfl (zE 1 rfl) rfl)<|zA rfl rfl (zC rfl zCi rfl)<|zA rfl rfl (zD rfl one9 rfl (zE 0 rfl) rfl)<|zA rfl rfl (yL rfl rfl rfl)<|rMv rfl<|rLz [] rfl gv1 trivial (fun g1_5 => zC rfl zAy rfl) rfl<|rLz [(11,_)] rfl gv1 ⟨rfl,rfl,trivial⟩ (fun g1_5 => zF rfl yI rfl (zE 1 rfl) rfl) rfl<|rLz [] rfl gv1 trivial (fun g1_5 => zC rfl zAy rfl) rfl<|rLz [(13,_)] rfl gv1 ⟨rfl,rfl,trivial⟩ (fun g1_5 => zF rfl yI rfl (zE 0 rfl) rfl) rfl<|rLz [(12,_),(14,_)] rfl gv1 ⟨rfl,rfl,rfl,rfl,trivial⟩ (fun g1_5 => zQ rfl ok128 (base_Lin a.Lin b.Lin (by omega)) ⟨VLe.refl _,rfl,VLe.refl _,rfl,trivial⟩) rfl<|zA rfl rfl (qP rfl rfl rfl (fun h => h) rfl)<|rMv rfl<|rLz [] rfl gv1 trivial (fun g1_12 => zC rfl kG rfl) rfl<|rLz [(18,_)] rfl gv1 ⟨rfl,rfl,trivial⟩ (fun g1_12 => zD rfl wI rfl (zE 1 rfl) rfl) rfl<|rLz [] rfl gv1 trivial (fun g1_12 => zC rfl kG rfl) rfl<|rLz [(20,_)] rfl gv1 ⟨rfl,rfl,trivial⟩ (fun g1_12 => zD rfl wI rfl (zE 0 rfl) rfl) rfl<|rLz [(19,_),(21,_)] rfl gv1 ⟨rfl,rfl,rfl,rfl,trivial⟩ (fun g1_12 => zQ rfl ok166 (base_Lins a.At b.At (by omega) (by omega)) ⟨VLe.refl _,rfl,VLe.refl _,rfl,trivial⟩) rfl<|zA rfl rfl (qP rfl rfl rfl (fun h => h) rfl)<|rMv rfl<|zB<|zH<|fin1 (rs_c rfl) ?_
 exact congrArg vB (ix_eq a b)
theorem zMf (a b : List Ix) (ha : a.length ≤ 6000000000000) (hw : idxWt a ≤ 6000000000000) :
    Pur cfg 81 [vIndices a,vIndices b] (vB (decide (a = b))):= by
 refine zV Tryz.func81 rfl Tryz.ntmps81 Tryz.results81 rfl ?_
 intro z hz
 refine sReg rfl<|rMv rfl<|zB<|zJ<|sReg rfl<|rMv rfl<|zA rfl rfl (zT rfl el44 rfl)<|rMv rfl<|zA rfl rfl (zT rfl el44 rfl)<|zA rfl rfl (qS rfl rfl rfl)<|zB<|zG rfl (fun c1 => ?_) (fun c1 => ?_)
 ·try simp only [sx] at c1
  refine sReg rfl<|rMv rfl<|zB<|zH<|fin1 (rs_c rfl) ?_
  rw [yW (fun h => c1 (by rw [h]))]
 ·try simp only [sx] at c1
  refine zK<|zJ<|sReg rfl<|rMv rfl<|zB<|zU<|zX ⟨[(5,.c _),(0,.c _),(1,.c _)],[]⟩ (Weak.mk [] ⟨VLe.of_eq rfl,VLe.of_eq rfl,VLe.of_eq rfl,trivial⟩ rfl)<|qI 1 0 rfl rfl (Nat) (fun k => [(5,vI k)]) (fun k => []) (fun k => k ≤ a.length ∧ (a.take k = b.take k)) (fun k => a.length - k) ⟨0,⟨by omega,rfl⟩,Weak.mk [] ⟨VLe.refl _,VLe.refl _,VLe.refl _,trivial⟩ rfl⟩ ?_
  rintro k ⟨hk,hp⟩
  refine zJ<|sReg rfl<|rMv rfl<|rMv rfl<|zA rfl rfl (zT rfl el44 rfl)<|zA rfl rfl (qL rfl rfl rfl)<|zB<|zG rfl (fun c2 => ?_) (fun c2 => ?_)
  ·try simp only [sx] at c2
   obtain ⟨x,hx⟩ := qZ a k (by omega)
   obtain ⟨y,hy⟩ := qZ b k (by omega)
   have hxw := zAn (qB hx)
   refine zK<|zJ<|zU<|zJ<|yG 10 mixed (by kernel_rfl) rfl rfl<|zM rfl rfl (zN rfl rfl)<|zM rfl rfl (zN rfl rfl)<|zM rfl rfl (zP rfl el44 rfl rfl (by omega) (getm (by assumption)))<|zM rfl rfl (zF rfl zAq rfl qA rfl)<|zM rfl rfl (zN rfl rfl)<|zM rfl rfl (zN rfl rfl)<|zM rfl rfl (zP rfl el44 rfl rfl (by omega) (getm (by assumption)))<|zM rfl rfl (zF rfl zAq rfl qA rfl)<|zM rfl rfl (zQ rfl ok127 (base_Index x y (by omega)) ⟨VLe.refl _,rfl,VLe.refl _,rfl,trivial⟩)<|zM rfl rfl (yA rfl rfl)<|kI<|zB<|zG rfl (fun c3 => ?_) (fun c3 => ?_)
   ·try simp only [sx] at c3
    refine sReg rfl<|rMv rfl<|zB<|zH<|fin1 (rs_c rfl) ?_
    rw [yW (zDq hx hy c3)]
   ·try simp only [sx] at c3
    refine zK<|zR rfl<|rMv rfl<|zA rfl rfl (qC rfl rfl rfl ⟨by omega,by omega⟩)<|rMv rfl<|zB ?_
    refine ⟨k + 1,⟨by omega,zBa hx hy hp c3⟩,(by omega),Weak.mk [] ⟨VLe.refl _,VLe.refl _,VLe.refl _,trivial⟩ rfl⟩
  ·try simp only [sx] at c2
   refine qO<|sReg rfl<|rMv rfl<|zB<|zH<|fin1 (rs_c rfl) ?_
   rw [wR (zCo hp (by omega) (by omega))]
theorem base_Exprs_of (a b : List Ex) (hE : ∀ x,x ∈ a → ∀ y,Pur cfg 82 [vE x,vE y] (vB (decide (x = y)))) (ha : a.length ≤ 6000000000000) :
    Pur cfg 129 [vEs a,vEs b] (vB (decide (a = b))):= by
 refine zV Tryz.func129 rfl Tryz.ntmps129 Tryz.results129 rfl ?_
 intro z hz
 refine sReg rfl<|rMv rfl<|zB<|zJ<|sReg rfl<|rMv rfl<|zA rfl rfl (zT rfl el50 rfl)<|rMv rfl<|zA rfl rfl (zT rfl el50 rfl)<|zA rfl rfl (qS rfl rfl rfl)<|zB<|zG rfl (fun c1 => ?_) (fun c1 => ?_)
 ·try simp only [sx] at c1
  refine sReg rfl<|rMv rfl<|zB<|zH<|fin1 (rs_c rfl) ?_
  rw [yW (fun h => c1 (by rw [h]))]
 ·try simp only [sx] at c1
  refine zK<|zJ<|sReg rfl<|rMv rfl<|zB<|zU<|zX ⟨[(5,.c _),(0,.c _),(1,.c _)],[]⟩ (Weak.mk [] ⟨VLe.of_eq rfl,VLe.of_eq rfl,VLe.of_eq rfl,trivial⟩ rfl)<|qI 1 0 rfl rfl (Nat) (fun k => [(5,vI k)]) (fun k => []) (fun k => k ≤ a.length ∧ (a.take k = b.take k)) (fun k => a.length - k) ⟨0,⟨by omega,rfl⟩,Weak.mk [] ⟨VLe.refl _,VLe.refl _,VLe.refl _,trivial⟩ rfl⟩ ?_
  rintro k ⟨hk,hp⟩
  refine zJ<|sReg rfl<|rMv rfl<|rMv rfl<|zA rfl rfl (zT rfl el50 rfl)<|zA rfl rfl (qL rfl rfl rfl)<|zB<|zG rfl (fun c2 => ?_) (fun c2 => ?_)
  ·try simp only [sx] at c2
   obtain ⟨x,hx⟩ := qZ a k (by omega)
   obtain ⟨y,hy⟩ := qZ b k (by omega)
   refine zK<|zJ<|zU<|zJ<|yG 10 mixed (by kernel_rfl) rfl rfl<|zM rfl rfl (zN rfl rfl)<|zM rfl rfl (zN rfl rfl)<|zM rfl rfl (zP rfl el50 rfl rfl (by omega) (zLm (by assumption)))<|zM rfl rfl (zF rfl yY rfl qA rfl)<|zM rfl rfl (zN rfl rfl)<|zM rfl rfl (zN rfl rfl)<|zM rfl rfl (zP rfl el50 rfl rfl (by omega) (zLm (by assumption)))<|zM rfl rfl (zF rfl yY rfl qA rfl)<|zM rfl rfl (zQ rfl ok82 (hE x (qB hx) y) ⟨VLe.refl _,rfl,VLe.refl _,rfl,trivial⟩)<|zM rfl rfl (yA rfl rfl)<|kI<|zB<|zG rfl (fun c3 => ?_) (fun c3 => ?_)
   ·try simp only [sx] at c3
    refine sReg rfl<|rMv rfl<|zB<|zH<|fin1 (rs_c rfl) ?_
    rw [yW (zDq hx hy c3)]
   ·try simp only [sx] at c3
    refine zK<|zR rfl<|rMv rfl<|zA rfl rfl (qC rfl rfl rfl ⟨by omega,by omega⟩)<|rMv rfl<|zB ?_
    refine ⟨k + 1,⟨by omega,zBa hx hy hp c3⟩,(by omega),Weak.mk [] ⟨VLe.refl _,VLe.refl _,VLe.refl _,trivial⟩ rfl⟩
  ·try simp only [sx] at c2
   refine qO<|sReg rfl<|rMv rfl<|zB<|zH<|fin1 (rs_c rfl) ?_
   rw [wR (zCo hp (by omega) (by omega))]
theorem base_Expr_step (a : Ex) (ih : ∀ x,x ∈ a.Args → x.wt ≤ 6000000000000 → ∀ y,Pur cfg 82 [vE x,vE y] (vB (decide (x = y)))) (ha : a.wt ≤ 6000000000000) (b : Ex) :
    Pur cfg 82 [vE a,vE b] (vB (decide (a = b))):= by
 refine zV Tryz.func82 rfl Tryz.ntmps82 Tryz.results82 rfl ?_
 intro z hz
 obtain ⟨hL,hI,hA⟩ := a.parts ha
 have hw := Ex.wt_eq a
 refine sReg rfl<|zY rfl rfl (qM rfl rfl) ?_
 rintro _ _ ⟨b1,rfl,rfl⟩
 refine zY rfl rfl (qM rfl rfl) ?_
 rintro _ _ ⟨b2,rfl,rfl⟩
 refine rMv rfl<|zB<|sReg rfl<|zA rfl rfl (zC rfl zAb rfl)<|zA rfl rfl (zD rfl one3 rfl (zE 1 rfl) rfl)<|zA rfl rfl (zC rfl zAb rfl)<|zA rfl rfl (zD rfl one3 rfl (zE 0 rfl) rfl)<|zA rfl rfl (qJ rfl rfl rfl)<|rMv rfl<|rLz [] rfl gv1 trivial (fun g1_5 => zC rfl zGl rfl) rfl<|rLz [(11,_)] rfl gv1 ⟨rfl,rfl,trivial⟩ (fun g1_5 => zD rfl one9 rfl (zE 1 rfl) rfl) rfl<|rLz [] rfl gv1 trivial (fun g1_5 => zC rfl zGl rfl) rfl<|rLz [(13,_)] rfl gv1 ⟨rfl,rfl,trivial⟩ (fun g1_5 => zD rfl one9 rfl (zE 0 rfl) rfl) rfl<|rLz [(12,_),(14,_)] rfl gv1 ⟨rfl,rfl,rfl,rfl,trivial⟩ (fun g1_5 => yL rfl rfl rfl) rfl<|zA rfl rfl (qP rfl rfl rfl (fun h => h) rfl)<|rMv rfl<|rLz [] rfl gv1 trivial (fun g1_12 => zC rfl zHw rfl) rfl<|rLz [(18,_)] rfl gv1 ⟨rfl,rfl,trivial⟩ (fun g1_12 => zF rfl agg46 rfl (zE 1 rfl) rfl) rfl<|rLz [] rfl gv1 trivial (fun g1_12 => zC rfl zHw rfl) rfl<|rLz [(20,_)] rfl gv1 ⟨rfl,rfl,trivial⟩ (fun g1_12 => zF rfl agg46 rfl (zE 0 rfl) rfl) rfl<|rLz [(19,_),(21,_)] rfl gv1 ⟨rfl,rfl,rfl,rfl,trivial⟩ (fun g1_12 => zNe rfl fl46 rfl rfl rfl) rfl<|zA rfl rfl (qP rfl rfl rfl (fun h => h) rfl)<|rMv rfl<|rLz [] rfl gv1 trivial (fun g1_19 => zC rfl zGk rfl) rfl<|rLz [(25,_)] rfl gv1 ⟨rfl,rfl,trivial⟩ (fun g1_19 => zF rfl yU rfl (zE 1 rfl) rfl) rfl<|rLz [] rfl gv1 trivial (fun g1_19 => zC rfl zGk rfl) rfl<|rLz [(27,_)] rfl gv1 ⟨rfl,rfl,trivial⟩ (fun g1_19 => zF rfl yU rfl (zE 0 rfl) rfl) rfl<|rLz [(26,_),(28,_)] rfl gv1 ⟨rfl,rfl,rfl,rfl,trivial⟩ (fun g1_19 => zNe rfl fl40 rfl rfl rfl) rfl<|zA rfl rfl (qP rfl rfl rfl (fun h => h) rfl)<|rMv rfl<|rLz [] rfl gv1 trivial (fun g1_26 => zC rfl zCy rfl) rfl<|rLz [(32,_)] rfl gv1 ⟨rfl,rfl,trivial⟩ (fun g1_26 => zF rfl yI rfl (zE 1 rfl) rfl) rfl<|rLz [] rfl gv1 trivial (fun g1_26 => zC rfl zCy rfl) rfl<|rLz [(34,_)] rfl gv1 ⟨rfl,rfl,trivial⟩ (fun g1_26 => zF rfl yI rfl (zE 0 rfl) rfl) rfl<|rLz [(33,_),(35,_)] rfl gv1 ⟨rfl,rfl,rfl,rfl,trivial⟩ (fun g1_26 => zQ rfl ok128 (base_Lin a.Lin b.Lin hL) ⟨VLe.refl _,rfl,VLe.refl _,rfl,trivial⟩) rfl<|zA rfl rfl (qP rfl rfl rfl (fun h => h) rfl)<|rMv rfl<|rLz [] rfl gv1 trivial (fun g1_33 => zC rfl kR rfl) rfl<|rLz [(39,_)] rfl gv1 ⟨rfl,rfl,trivial⟩ (fun g1_33 => zD rfl wF rfl (zE 1 rfl) rfl) rfl<|rLz [] rfl gv1 trivial (fun g1_33 => zC rfl kR rfl) rfl<|rLz [(41,_)] rfl gv1 ⟨rfl,rfl,trivial⟩ (fun g1_33 => zD rfl wF rfl (zE 0 rfl) rfl) rfl<|rLz [(40,_),(42,_)] rfl gv1 ⟨rfl,rfl,rfl,rfl,trivial⟩ (fun g1_33 => zQ rfl ok81 (zMf a.Idx b.Idx hI (by omega)) ⟨VLe.refl _,rfl,VLe.refl _,rfl,trivial⟩) rfl<|zA rfl rfl (qP rfl rfl rfl (fun h => h) rfl)<|rMv rfl<|rLz [] rfl gv1 trivial (fun g1_40 => zC rfl wM rfl) rfl<|rLz [(46,_)] rfl gv1 ⟨rfl,rfl,trivial⟩ (fun g1_40 => zD rfl zCu rfl (zE 1 rfl) rfl) rfl<|rLz [] rfl gv1 trivial (fun g1_40 => zC rfl wM rfl) rfl<|rLz [(48,_)] rfl gv1 ⟨rfl,rfl,trivial⟩ (fun g1_40 => zD rfl zCu rfl (zE 0 rfl) rfl) rfl<|rLz [(47,_),(49,_)] rfl gv1 ⟨rfl,rfl,rfl,rfl,trivial⟩ (fun g1_40 => zQ rfl ok129 (base_Exprs_of a.Args b.Args (fun x hx y => ih x hx (by have := Ex.arg_wt hx; omega) y) hA) ⟨VLe.refl _,rfl,VLe.refl _,rfl,trivial⟩) rfl<|zA rfl rfl (qP rfl rfl rfl (fun h => h) rfl)<|rMv rfl<|zB<|zH<|fin1 (rs_c rfl) ?_
 exact congrArg vB (ex_eq a b)
theorem base_Expr (a b : Ex) (ha : a.wt ≤ 6000000000000) : Pur cfg 82 [vE a,vE b] (vB (decide (a = b))):= by
  induction a using Ex.ind generalizing b with
  | _ a ih => exact base_Expr_step a (fun x hx h y => ih x hx y h) ha b
theorem zQk (e : Ex) (ih : ∀ a,a ∈ e.Args → ∀ (m : Nat) (x : Int),a.fit → m ≤ 1000000 → x = m → Pur cfg 109 [vE a,vI x] (vI (weighE a m))) (m : Nat) (x : Int) (hf : e.fit) (hm : m ≤ 1000000) (hx : x = m) :
    Pur cfg 109 [vE e,vI x] (vI (weighE e m)):= by
 refine zV Tryz.func109 rfl Tryz.ntmps109 Tryz.results109 rfl ?_
 intro z hz
 obtain ⟨f1,f2,f3,f4,f5⟩ := Ex.fit_eq hf
 have hW := weighE_eq e m
 refine sReg rfl<|zY rfl rfl (qM rfl rfl) ?_
 rintro _ _ ⟨b1,rfl,rfl⟩
 refine rMv rfl<|zB<|sReg rfl<|zA rfl rfl (zC rfl zCy rfl)<|zA rfl rfl (zC rfl yM rfl)<|zA rfl rfl (zD rfl kQ rfl (zE 0 rfl) rfl)<|zA rfl rfl (zT rfl el47 rfl)<|zA rfl rfl (qC rfl rfl rfl ⟨by omega,by omega⟩)<|zA rfl rfl (zC rfl kR rfl)<|zA rfl rfl (zD rfl wF rfl (zE 0 rfl) rfl)<|zA rfl rfl (zT rfl el44 rfl)<|zA rfl rfl (qC rfl rfl rfl ⟨by omega,by omega⟩)<|rMv rfl<|zB<|zJ<|sReg rfl<|rMv rfl<|zB<|zU<|zX ⟨[(6,.c _),(5,.c _),(1,.c _),(2,.c _)],[_]⟩ (Weak.mk [true] ⟨VLe.of_eq rfl,VLe.of_eq rfl,VLe.of_eq rfl,VLe.of_eq rfl,trivial⟩ rfl)<|qI 2 0 rfl rfl (Nat × Nat) (fun ⟨k,n⟩ => [(6,vI k),(5,vI n)]) (fun ⟨k,n⟩ => []) (fun ⟨k,n⟩ => k ≤ e.Idx.length ∧ (n ≤ m + 4 * 140737488355328) ∧ (weighIdx m (1 + e.Lin.L.length + e.Idx.length) e.Idx = weighIdx m n (e.Idx.drop k))) (fun ⟨k,n⟩ => e.Idx.length - k) ⟨⟨0,1 + e.Lin.L.length + e.Idx.length⟩,⟨by omega,by omega,rfl⟩,Weak.mk [true] ⟨VLe.refl _,VLe.of_eq (congrArg vI (by omega)),VLe.refl _,VLe.refl _,trivial⟩ rfl⟩ ?_
 rintro ⟨k,n⟩ ⟨hk,hn1,hn2⟩
 show AWP _ _ _ _ _ ⟨[(6,vI k),(5,vI n)] ++ _,[] ++ _⟩
 refine zJ<|sReg rfl<|rMv rfl<|zA rfl rfl (zC rfl kR rfl)<|zA rfl rfl (zD rfl wF rfl (zE 0 rfl) rfl)<|zA rfl rfl (zT rfl el44 rfl)<|zA rfl rfl (qL rfl rfl rfl)<|rMv rfl<|rLz [] rfl gv1 trivial (fun g3_5 => zN rfl rfl) rfl<|rLz [] rfl gv1 trivial (fun g3_5 => zN rfl rfl) rfl<|rLz [(24,_),(25,_)] rfl gv1 ⟨rfl,rfl,rfl,rfl,trivial⟩ (fun g3_5 => wQ rfl rfl rfl) rfl<|zA rfl rfl (qP rfl rfl rfl (fun h => h) rfl)<|zB<|zG rfl (fun c1 => ?_) (fun c1 => ?_)
 ·try simp only [sx] at c1
  obtain ⟨y,hy⟩ := qZ e.Idx k (by omega)
  obtain ⟨i1,i2,i3⟩ := f4 y (qB hy)
  refine zK<|zJ<|zU<|zJ<|yG 19 mixed (by kernel_rfl) rfl rfl<|zM rfl rfl (zN rfl rfl)<|zM rfl rfl (zC rfl kR rfl)<|zM rfl rfl (zD rfl wF rfl (zE 0 rfl) rfl)<|zM rfl rfl (zN rfl rfl)<|zM rfl rfl (zP rfl el44 rfl rfl (by omega) (getm (by assumption)))<|zM rfl rfl (zZ rfl zAy rfl)<|zM rfl rfl (zZ rfl yM rfl)<|zM rfl rfl (zD rfl kQ rfl qA rfl)<|zM rfl rfl (zT rfl el47 rfl)<|zM rfl rfl (qC rfl rfl rfl ⟨by omega,by omega⟩)<|zM rfl rfl (zC rfl kR rfl)<|zM rfl rfl (zD rfl wF rfl (zE 0 rfl) rfl)<|zM rfl rfl (zN rfl rfl)<|zM rfl rfl (zP rfl el44 rfl rfl (by omega) (getm (by assumption)))<|zM rfl rfl (zZ rfl kG rfl)<|zM rfl rfl (zD rfl wI rfl qA rfl)<|zM rfl rfl (zT rfl wK rfl)<|zM rfl rfl (qC rfl rfl rfl ⟨by omega,by omega⟩)<|zM rfl rfl (yS rfl rfl)<|kI<|zB<|sReg rfl<|rMv rfl<|zB<|zU<|zX ⟨[(7,.c _),(5,.c _),(1,.c _),(2,.c _),(6,.c _)],[_]⟩ (Weak.mk [true] ⟨VLe.of_eq rfl,VLe.of_eq rfl,VLe.of_eq rfl,VLe.of_eq rfl,VLe.of_eq rfl,trivial⟩ rfl)<|qI 2 0 rfl rfl (Nat × Nat) (fun ⟨j,p⟩ => [(7,vI j),(5,vI p)]) (fun ⟨j,p⟩ => []) (fun ⟨j,p⟩ => j ≤ y.At.length ∧ (p ≤ m + 4 * 140737488355328) ∧ (weighAt m (n + y.Lin.L.length + y.At.length) y.At = weighAt m p (y.At.drop j))) (fun ⟨j,p⟩ => y.At.length - j) ⟨⟨0,n + y.Lin.L.length + y.At.length⟩,⟨by omega,by omega,rfl⟩,Weak.mk [true] ⟨VLe.refl _,VLe.of_eq (congrArg vI (by omega)),VLe.refl _,VLe.refl _,VLe.refl _,trivial⟩ rfl⟩ ?_
  rintro ⟨j,p⟩ ⟨hj,hp1,hp2⟩
  show AWP _ _ _ _ _ ⟨[(7,vI j),(5,vI p)] ++ _,[] ++ _⟩
  refine zJ<|sReg rfl<|rMv rfl<|zA rfl rfl (zC rfl kR rfl)<|zA rfl rfl (zD rfl wF rfl (zE 0 rfl) rfl)<|rMv rfl<|zA rfl rfl (zP rfl el44 rfl rfl (by omega) (getm (by assumption)))<|zA rfl rfl (zZ rfl kG rfl)<|zA rfl rfl (zD rfl wI rfl qA rfl)<|zA rfl rfl (zT rfl wK rfl)<|zA rfl rfl (qL rfl rfl rfl)<|rMv rfl<|rLz [] rfl gv1 trivial (fun g7_9 => zN rfl rfl) rfl<|rLz [] rfl gv1 trivial (fun g7_9 => zN rfl rfl) rfl<|rLz [(58,_),(59,_)] rfl gv1 ⟨rfl,rfl,rfl,rfl,trivial⟩ (fun g7_9 => wQ rfl rfl rfl) rfl<|zA rfl rfl (qP rfl rfl rfl (fun h => h) rfl)<|zB<|zG rfl (fun c2 => ?_) (fun c2 => ?_)
  ·try simp only [sx] at c2
   obtain ⟨l,hl⟩ := qZ y.At j (by omega)
   have hl2 := i3 l (qB hl)
   refine zK<|zJ<|zU<|zR rfl<|rMv rfl<|zA rfl rfl (zC rfl kR rfl)<|zA rfl rfl (zD rfl wF rfl (zE 0 rfl) rfl)<|rMv rfl<|zA rfl rfl (zP rfl el44 rfl rfl (by omega) (getm (by assumption)))<|zA rfl rfl (zZ rfl kG rfl)<|zA rfl rfl (zD rfl wI rfl qA rfl)<|rMv rfl<|zA rfl rfl (zP rfl wK rfl rfl (by omega) (getm (by assumption)))<|zA rfl rfl (zZ rfl yM rfl)<|zA rfl rfl (zD rfl kQ rfl qA rfl)<|zA rfl rfl (zT rfl el47 rfl)<|zA rfl rfl (qC rfl rfl rfl ⟨by omega,by omega⟩)<|rMv rfl<|zB<|zR rfl<|rMv rfl<|zA rfl rfl (qC rfl rfl rfl ⟨by omega,by omega⟩)<|rMv rfl<|zB ?_
   refine ⟨⟨j + 1,p + l.L.length⟩,⟨by omega,by omega,by rw [hp2,qR hl,weighAt,if_pos (by omega)]⟩,(by show y.At.length - (j + 1) < y.At.length - j; omega),Weak.mk [true] ⟨VLe.refl _,VLe.of_eq (congrArg vI (by omega)),VLe.refl _,VLe.refl _,VLe.refl _,trivial⟩ rfl⟩
  ·try simp only [sx] at c2
   have hN2 := weighAt_end (l := y.At) (k := j) (n := p) hx (by omega)
   refine qO<|zR rfl<|rMv rfl<|zA rfl rfl (qC rfl rfl rfl ⟨by omega,by omega⟩)<|rMv rfl<|zB ?_
   refine ⟨⟨k + 1,p⟩,⟨by omega,hp1,by rw [hn2,qR hy,weighIdx,if_pos (by omega),hp2,← hN2]⟩,(by show e.Idx.length - (k + 1) < e.Idx.length - k; omega),Weak.mk [true] ⟨VLe.refl _,VLe.refl _,VLe.refl _,VLe.refl _,trivial⟩ rfl⟩
 ·try simp only [sx] at c1
  have hN := weighIdx_end (l := e.Idx) (k := k) (n := n) hx (by omega)
  refine qO<|zJ<|sReg rfl<|rMv rfl<|zB<|zU<|zX ⟨[(8,.c _),(5,.c _),(1,.c _),(2,.c _)],[_]⟩ (Weak.mk [true] ⟨VLe.of_eq rfl,VLe.of_eq rfl,VLe.of_eq rfl,VLe.of_eq rfl,trivial⟩ rfl)<|qI 2 0 rfl rfl (Nat × Nat) (fun ⟨k,n⟩ => [(8,vI k),(5,vI n)]) (fun ⟨k,n⟩ => []) (fun ⟨k,n⟩ => k ≤ e.Args.length ∧ (n ≤ m + 4 * 140737488355328) ∧ (weighE e m = weighL (e.Args.drop k) m n)) (fun ⟨k,n⟩ => e.Args.length - k) ⟨⟨0,n⟩,⟨by omega,hn1,by rw [hW,hn2,← hN]; rfl⟩,Weak.mk [true] ⟨VLe.refl _,VLe.refl _,VLe.refl _,VLe.refl _,trivial⟩ rfl⟩ ?_
  rintro ⟨k,n⟩ ⟨hk3,hn3,hn4⟩
  show AWP _ _ _ _ _ ⟨[(8,vI k),(5,vI n)] ++ _,[] ++ _⟩
  refine zJ<|sReg rfl<|rMv rfl<|zA rfl rfl (zC rfl wM rfl)<|zA rfl rfl (zD rfl zCu rfl (zE 0 rfl) rfl)<|zA rfl rfl (zT rfl el50 rfl)<|zA rfl rfl (qL rfl rfl rfl)<|rMv rfl<|rLz [] rfl gv1 trivial (fun g11_5 => zN rfl rfl) rfl<|rLz [] rfl gv1 trivial (fun g11_5 => zN rfl rfl) rfl<|rLz [(83,_),(84,_)] rfl gv1 ⟨rfl,rfl,rfl,rfl,trivial⟩ (fun g11_5 => wQ rfl rfl rfl) rfl<|zA rfl rfl (qP rfl rfl rfl (fun h => h) rfl)<|zB<|zG rfl (fun c3 => ?_) (fun c3 => ?_)
  ·try simp only [sx] at c3
   obtain ⟨a,ha⟩ := qZ e.Args k (by omega)
   have hwa := zDk a (m - n) (f5 a (qB ha))
   refine zK<|zJ<|zU<|zR rfl<|rMv rfl<|zA rfl rfl (zC rfl wM rfl)<|zA rfl rfl (zD rfl zCu rfl (zE 0 rfl) rfl)<|rMv rfl<|zA rfl rfl (zP rfl el50 rfl rfl (by omega) (zLm (by assumption)))<|zA rfl rfl (zF rfl yY rfl qA rfl)<|rMv rfl<|rMv rfl<|zA rfl rfl (yD rfl rfl rfl ⟨by omega,by omega⟩)<|zA rfl rfl (zQ rfl ok109 (ih a (qB ha) (m - n) _ (f5 a (qB ha)) (by omega) (by omega)) ⟨VLe.refl _,rfl,VLe.refl _,rfl,trivial⟩)<|zA rfl rfl (qC rfl rfl rfl ⟨by omega,by omega⟩)<|rMv rfl<|zB<|zR rfl<|rMv rfl<|zA rfl rfl (qC rfl rfl rfl ⟨by omega,by omega⟩)<|rMv rfl<|zB ?_
   refine ⟨⟨k + 1,n + weighE a (m - n)⟩,⟨by omega,by omega,by rw [hn4,qR ha,weighL,if_pos (by omega)]⟩,(by show e.Args.length - (k + 1) < e.Args.length - k; omega),Weak.mk [true] ⟨VLe.refl _,VLe.of_eq (congrArg vI (by omega)),VLe.refl _,VLe.refl _,trivial⟩ rfl⟩
  ·try simp only [sx] at c3
   refine qO<|sReg rfl<|rMv rfl<|rMv rfl<|zB<|zH<|fin1 (rs_c rfl) ?_
   exact congrArg vI (by rw [hn4,← weighL_end hx (by omega)])
theorem base_Weigh (e : Ex) (m : Nat) (x : Int) (hf : e.fit) (hm : m ≤ 1000000) (hx : x = m) : Pur cfg 109 [vE e,vI x] (vI (weighE e m)):= by
  induction e using Ex.ind generalizing m x with
  | _ e ih => exact zQk e (fun a ha m x h1 h2 h3 => ih a ha m x h1 h2 h3) m x hf hm hx
theorem zKv (l : List Mono) (hl : l.length ≤ 5864062014805) :
    OwnR cfg 146 [vMonos l] 111 2 (l.map Mono.cells):= by
 refine zV Tryz.func146 rfl Tryz.ntmps146 Tryz.results146 rfl ?_
 intro z hz
 refine sReg rfl<|zA rfl rfl (qW 2 rfl rfl)<|zB<|zJ<|sReg rfl<|rMv rfl<|zY rfl rfl (zDp rfl el47 rfl rfl) ?_
 rintro _ _ ⟨nb1,rfl,hnil1,rfl⟩
 refine zB<|zG rfl (fun c1 => ?_) (fun c1 => ?_)
 ·try simp only [sx] at c1
  refine sReg rfl<|rMv rfl<|qY _ (yR 111 2)<|zB<|zH<|fin1 (rs_c rfl) ?_
  exact ⟨_,rfl,by rw [hnil1 c1]⟩
 ·try simp only [sx] at c1
  refine zK<|sReg rfl<|zY rfl rfl (zCm rfl el47 zCc rfl rfl rfl rfl) ?_
  rintro _ _ ⟨sv3,rfl,rfl⟩
  refine rMv rfl<|zY rfl rfl (yB 0 rfl el47 rfl rfl rfl (by simp only [List.length_map,List.length_nil,Nat.zero_add]; omega) (by simp only [List.length_map,List.length_nil,Nat.zero_add]; omega)) ?_
  rintro _ _ ⟨sv4,rfl,rfl⟩
  refine rMv rfl<|zB<|zH<|fin1 (rs_c rfl) ?_
  exact ⟨_,rfl,rfl⟩
theorem zEz (l : List Lf) (hl : l.length ≤ 4294967296) :
    OwnR cfg 134 [vLins l] 49 2 (l.map Lf.cells):= by
 refine zV Tryz.func134 rfl Tryz.ntmps134 Tryz.results134 rfl ?_
 intro z hz
 refine sReg rfl<|zA rfl rfl (qW 2 rfl rfl)<|zB<|zJ<|sReg rfl<|rMv rfl<|zY rfl rfl (zDp rfl wK rfl rfl) ?_
 rintro _ _ ⟨nb1,rfl,hnil1,rfl⟩
 refine zB<|zG rfl (fun c1 => ?_) (fun c1 => ?_)
 ·try simp only [sx] at c1
  refine sReg rfl<|rMv rfl<|qY _ (yR 49 2)<|zB<|zH<|fin1 (rs_c rfl) ?_
  exact ⟨_,rfl,by rw [hnil1 c1]⟩
 ·try simp only [sx] at c1
  refine zK<|sReg rfl<|zY rfl rfl (zCm rfl wK zr49 rfl rfl rfl rfl) ?_
  rintro _ _ ⟨sv3,rfl,rfl⟩
  refine rMv rfl<|zY rfl rfl (yB 0 rfl wK rfl rfl rfl (by simp only [List.length_map,List.length_nil,Nat.zero_add]; omega) (by simp only [List.length_map,List.length_nil,Nat.zero_add]; omega)) ?_
  rintro _ _ ⟨sv4,rfl,rfl⟩
  refine rMv rfl<|zB<|zH<|fin1 (rs_c rfl) ?_
  exact ⟨_,rfl,rfl⟩
theorem zFr (l : List Ix) (hl : l.length ≤ 4294967296) :
    OwnR cfg 133 [vIndices l] 114 4 (l.map Ix.cells):= by
 refine zV Tryz.func133 rfl Tryz.ntmps133 Tryz.results133 rfl ?_
 intro z hz
 refine sReg rfl<|zA rfl rfl (qW 4 rfl rfl)<|zB<|zJ<|sReg rfl<|rMv rfl<|zY rfl rfl (zDp rfl el44 rfl rfl) ?_
 rintro _ _ ⟨nb1,rfl,hnil1,rfl⟩
 refine zB<|zG rfl (fun c1 => ?_) (fun c1 => ?_)
 ·try simp only [sx] at c1
  refine sReg rfl<|rMv rfl<|qY _ (yR 114 4)<|zB<|zH<|fin1 (rs_c rfl) ?_
  exact ⟨_,rfl,by rw [hnil1 c1]⟩
 ·try simp only [sx] at c1
  refine zK<|sReg rfl<|zY rfl rfl (zCm rfl el44 zCp rfl rfl rfl rfl) ?_
  rintro _ _ ⟨sv3,rfl,rfl⟩
  refine rMv rfl<|zY rfl rfl (yB 0 rfl el44 rfl rfl rfl (by simp only [List.length_map,List.length_nil,Nat.zero_add]; omega) (by simp only [List.length_map,List.length_nil,Nat.zero_add]; omega)) ?_
  rintro _ _ ⟨sv4,rfl,rfl⟩
  refine rMv rfl<|zB<|zH<|fin1 (rs_c rfl) ?_
  exact ⟨_,rfl,rfl⟩
theorem zOh (l : List Ex) (hl : l.length ≤ 4294967296) :
    OwnR cfg 175 [vEs l] 52 13 (l.map Ex.cells):= by
 refine zV Tryz.func175 rfl Tryz.ntmps175 Tryz.results175 rfl ?_
 intro z hz
 refine sReg rfl<|zA rfl rfl (qW 13 rfl rfl)<|zB<|zJ<|sReg rfl<|rMv rfl<|zY rfl rfl (zDp rfl el50 rfl rfl) ?_
 rintro _ _ ⟨nb1,rfl,hnil1,rfl⟩
 refine zB<|zG rfl (fun c1 => ?_) (fun c1 => ?_)
 ·try simp only [sx] at c1
  refine sReg rfl<|rMv rfl<|qY _ (yR 52 13)<|zB<|zH<|fin1 (rs_c rfl) ?_
  exact ⟨_,rfl,by rw [hnil1 c1]⟩
 ·try simp only [sx] at c1
  refine zK<|sReg rfl<|zY rfl rfl (zCm rfl el50 zr52 rfl rfl rfl rfl) ?_
  rintro _ _ ⟨sv3,rfl,rfl⟩
  refine rMv rfl<|zY rfl rfl (yB 0 rfl el50 rfl rfl rfl (by simp only [List.length_map,List.length_nil,Nat.zero_add]; omega) (by simp only [List.length_map,List.length_nil,Nat.zero_add]; omega)) ?_
  rintro _ _ ⟨sv4,rfl,rfl⟩
  refine rMv rfl<|zB<|zH<|fin1 (rs_c rfl) ?_
  exact ⟨_,rfl,rfl⟩
end Go.W
